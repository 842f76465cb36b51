import PyProof.Rows.All
import Wide.All
import OpenK.AllK
import Wide.FinOn
import HandS.ForMost
import HandS.ForExc
import HandS.ExcInit
import HandS.TryMany
import HandS.Lambda
import HandS.EndTab
import HandS.Defaults
import HandS.MakeKw
import HandS.MakeKwOnly
import HandS.OwnEq
import HandS.ClsMeth
import HandS.IsInst
import HandS.TupLe
import HandS.TupAny
import HandS.TupMul
import HandS.Strs
import HandS.Style
import HandS.Zip
import HandS.DictEq
import HandS.DictComp
import HandS.Conv
import HandS.Wide
import HandS.Words
import HandS.WordsExc
import HandS.WordsDict
import HandS.Steps
import HandS.Small
import HandS.HeadHook4
import HandS.HeadWalk
import KE.KCallOwn
import HandS.Head0
import HandS.Head1
import HandS.Head2
import HandS.HeadEnd
import KE.KStateDown
import Wide.Once
import HandS.NestedK
import KE.KExcIs
import HandS.ExcField
import HandS.ExcIs
import KE.KDictZip
import HandS.Walk
import HandS.HeadHook1
import HandS.HeadHook2
import HandS.HeadHook3
import PySem.Challenge.RW_wordkept_k42_whole_any_text_of_sorts
set_option Elab.async false
set_option linter.all false
set_option maxRecDepth 100000
set_option maxHeartbeats 4000000
namespace WK
open PySem PySem.Spec PyProof.Rows L2
/-! ### the text by places -/
def top (i : Nat) : Stmt := PySem.Challenge.pw_wordkept_k42_whole_any_text_of_sorts.main.body.getD i (.Pass ⟨0, 0, 0, 0⟩)

def tyTB (K : PySem.W.Frag) (p : Addr) : Bool := match K.lookup p with
  | some o => decide (o.cls = .type "tuple") && decide (o.dict = none)
  | none => false
theorem tyTB_ok {K : PySem.W.Frag} {p : Addr} (h : tyTB K p = true) : ∃ o, K.lookup p = some o ∧ o.cls = .type "tuple" ∧ o.dict = none := by
  unfold tyTB at h
  cases q : K.lookup p with
  | none => rw [q] at h; cases h
  | some o =>
    rw [q] at h
    obtain ⟨h1, h2⟩ := He.ba h
    exact ⟨o, rfl, of_decide_eq_true h1, of_decide_eq_true h2⟩
def oexB (K : PySem.W.Frag) (C : Addr) : Bool := match K.lookup C with
  | some ⟨t, _, .cls cd, sl⟩ => decide (t = .type "type") && (match cd.mro, sl.toList with
    | .ref c :: bm, [_, _, _, _, some (.builtin n), _] => decide (c = C) && (decide (n = "ValueError.__new__") && (!cd.hasDel && (cd.hasDict && PySem.HandSPX.refsVE bm)))
    | _, _ => false)
  | _ => false
theorem oexB_ok {K : PySem.W.Frag} {C : Addr} (h : oexB K C = true) : ∃ nm q N bs bm sn sub ab col dd k0 k1 k2 k3 k5, K.lookup C = some (excClassObj nm q C N bs bm true sn sub ab col dd k0 k1 k2 k3 k5 "ValueError.__new__") ∧ PySem.HandSPX.refsVE bm = true := by
  unfold oexB at h
  split at h
  · rename_i t dd cd sl ho
    obtain ⟨h1, h⟩ := He.ba h
    split at h
    · rename_i c bm k0 k1 k2 k3 n k5 hm hs
      obtain ⟨h2, h⟩ := He.ba h
      obtain ⟨h3, h⟩ := He.ba h
      obtain ⟨h4, h⟩ := He.ba h
      obtain ⟨h5, h6⟩ := He.ba h
      obtain ⟨nm, bs, mro, ns, qn, hd, sn, sub, ab, col, del⟩ := cd
      dsimp only at hm h4 h5
      have e1 := of_decide_eq_true h1
      have e2 := of_decide_eq_true h2
      have e3 := of_decide_eq_true h3
      subst e1 e2 e3 hm h5
      have e4 : del = false := by simpa using h4
      subst e4
      have e5 : sl = #[k0, k1, k2, k3, some (.builtin "ValueError.__new__"), k5] := by rw [← Array.toList_inj, hs]
      subst e5
      exact ⟨nm, qn, ns, bs, bm, sn, sub, ab, col, dd, k0, k1, k2, k3, k5, ho, h6⟩
    · cases h
  · cases h
def clsAtB (K : PySem.W.Frag) (c mc : Value) (x : Str) (f : Addr) : Bool := match PySem.W.findCls K c mc x with
  | some (.val (.ref a)) => decide (a = f)
  | _ => false
theorem clsAtB_ok {K : PySem.W.Frag} {c mc : Value} {x : Str} {f : Addr} (h : clsAtB K c mc x f = true) : PySem.W.findCls K c mc x = some (.val (.ref f)) := by
  unfold clsAtB at h
  split at h
  · rename_i a e
    rw [e, of_decide_eq_true h]
  · cases h
def fnl0 : List He.DefD := [⟨("is_whole", none), "is_whole", "is_whole", defArgs (top 15), defBody (top 15), defScope (top 15), [He.Dv.int 1000000], []⟩, ⟨("is_name", none), "is_name", "is_name", defArgs (top 16), defBody (top 16), defScope (top 16), [], []⟩, ⟨("number_of", none), "number_of", "number_of", defArgs (top 17), defBody (top 17), defScope (top 17), [], []⟩, ⟨("words_of", none), "words_of", "words_of", defArgs (top 18), defBody (top 18), defScope (top 18), [], []⟩, ⟨("Promise", some "__str__"), "__str__", "Promise.__str__", defArgs (inClass (top 22) 10), defBody (inClass (top 22) 10), defScope (inClass (top 22) 10), [], []⟩, ⟨("Reader", some "__init__"), "__init__", "Reader.__init__", defArgs (inClass (top 32) 0), defBody (inClass (top 32) 0), defScope (inClass (top 32) 0), [He.Dv.int 1], []⟩, ⟨("Reader", some "ahead"), "ahead", "Reader.ahead", defArgs (inClass (top 32) 1), defBody (inClass (top 32) 1), defScope (inClass (top 32) 1), [], []⟩, ⟨("Reader", some "is_over"), "is_over", "Reader.is_over", defArgs (inClass (top 32) 6), defBody (inClass (top 32) 6), defScope (inClass (top 32) 6), [], []⟩, ⟨("SortReader", some "__init__"), "__init__", "SortReader.__init__", defArgs (inClass (top 35) 0), defBody (inClass (top 35) 0), defScope (inClass (top 35) 0), [], []⟩, ⟨("SortReader", some "first_words"), "first_words", "SortReader.first_words", defArgs (inClass (top 35) 1), defBody (inClass (top 35) 1), defScope (inClass (top 35) 1), [], []⟩, ⟨("BadValue", some "__init__"), "__init__", "BadValue.__init__", defArgs (inClass (top 2) 0), defBody (inClass (top 2) 0), defScope (inClass (top 2) 0), [], []⟩, ⟨("_law_mixed", none), "_law_mixed", "_law_mixed", defArgs (top 38), defBody (top 38), defScope (top 38), [], []⟩, ⟨("_law_folded", none), "_law_folded", "_law_folded", defArgs (top 39), defBody (top 39), defScope (top 39), [], []⟩, ⟨("_law_class", none), "_law_class", "_law_class", defArgs (top 48), defBody (top 48), defScope (top 48), [], []⟩, ⟨("_law_is_name", none), "_law_is_name", "_law_is_name", defArgs (top 50), defBody (top 50), defScope (top 50), [], []⟩, ⟨("_law_text", none), "_law_text", "_law_text", defArgs (top 51), defBody (top 51), defScope (top 51), [], []⟩, ⟨("_law_number_in", none), "_law_number_in", "_law_number_in", defArgs (top 53), defBody (top 53), defScope (top 53), [], []⟩, ⟨("_law_far", none), "_law_far", "_law_far", defArgs (top 56), defBody (top 56), defScope (top 56), [], []⟩, ⟨("_law_known", none), "_law_known", "_law_known", defArgs (top 61), defBody (top 61), defScope (top 61), [], []⟩, ⟨("is_row", none), "is_row", "is_row", defArgs (top 27), defBody (top 27), defScope (top 27), [], []⟩]
def fnl1 : List He.DefD := [⟨("are_barred", none), "are_barred", "are_barred", defArgs (top 29), defBody (top 29), defScope (top 29), [], []⟩, ⟨("_law_draw", none), "_law_draw", "_law_draw", defArgs (top 40), defBody (top 40), defScope (top 40), [], []⟩, ⟨("_law_begun", none), "_law_begun", "_law_begun", defArgs (top 41), defBody (top 41), defScope (top 41), [], []⟩, ⟨("_law_told", none), "_law_told", "_law_told", defArgs (top 49), defBody (top 49), defScope (top 49), [], []⟩, ⟨("_law_sort_rows", none), "_law_sort_rows", "_law_sort_rows", defArgs (top 52), defBody (top 52), defScope (top 52), [], []⟩, ⟨("_law_promise_in", none), "_law_promise_in", "_law_promise_in", defArgs (top 54), defBody (top 54), defScope (top 54), [], []⟩, ⟨("need_promise", none), "need_promise", "need_promise", defArgs (top 23), defBody (top 23), defScope (top 23), [], []⟩, ⟨("are_parts", none), "are_parts", "are_parts", defArgs (top 28), defBody (top 28), defScope (top 28), [], []⟩, ⟨("Promise", some "__init__"), "__init__", "Promise.__init__", defArgs (inClass (top 22) 0), defBody (inClass (top 22) 0), defScope (inClass (top 22) 0), [He.Dv.non, He.Dv.non, He.Dv.non], []⟩, ⟨("_law_called", none), "_law_called", "_law_called", defArgs (top 42), defBody (top 42), defScope (top 42), [], []⟩, ⟨("_law_limit", none), "_law_limit", "_law_limit", defArgs (top 43), defBody (top 43), defScope (top 43), [], []⟩, ⟨("_law_bent_words", none), "_law_bent_words", "_law_bent_words", defArgs (top 55), defBody (top 55), defScope (top 55), [], []⟩, ⟨("_law_part_in", none), "_law_part_in", "_law_part_in", defArgs (top 58), defBody (top 58), defScope (top 58), [], []⟩, ⟨("Sort", some "__init__"), "__init__", "Sort.__init__", defArgs (inClass (top 30) 0), defBody (inClass (top 30) 0), defScope (inClass (top 30) 0), [He.Dv.non, He.Dv.non], []⟩, ⟨("_law_limits", none), "_law_limits", "_law_limits", defArgs (top 44), defBody (top 44), defScope (top 44), [], []⟩, ⟨("_law_row_in", none), "_law_row_in", "_law_row_in", defArgs (top 57), defBody (top 57), defScope (top 57), [], []⟩, ⟨("_law_bent_rows", none), "_law_bent_rows", "_law_bent_rows", defArgs (top 62), defBody (top 62), defScope (top 62), [], []⟩, ⟨("BadText", some "__init__"), "__init__", "BadText.__init__", defArgs (inClass (top 3) 0), defBody (inClass (top 3) 0), defScope (inClass (top 3) 0), [], []⟩, ⟨("_law_plain_sort", none), "_law_plain_sort", "_law_plain_sort", defArgs (top 45), defBody (top 45), defScope (top 45), [], []⟩, ⟨("_law_promise", none), "_law_promise", "_law_promise", defArgs (top 46), defBody (top 46), defScope (top 46), [], []⟩]
def fnl2 : List He.DefD := [⟨("_law_due", none), "_law_due", "_law_due", defArgs (top 59), defBody (top 59), defScope (top 59), [], []⟩, ⟨("Sort", some "rows"), "rows", "Sort.rows", defArgs (inClass (top 30) 8), defBody (inClass (top 30) 8), defScope (inClass (top 30) 8), [], []⟩, ⟨("SortReader", some "whole_sort"), "whole_sort", "SortReader.whole_sort", defArgs (inClass (top 35) 3), defBody (inClass (top 35) 3), defScope (inClass (top 35) 3), [], []⟩, ⟨("_law_sort", none), "_law_sort", "_law_sort", defArgs (top 47), defBody (top 47), defScope (top 47), [], []⟩, ⟨("Sort", some "__eq__"), "__eq__", "Sort.__eq__", defArgs (inClass (top 30) 9), defBody (inClass (top 30) 9), defScope (inClass (top 30) 9), [], []⟩, ⟨("Sort", some "__str__"), "__str__", "Sort.__str__", defArgs (inClass (top 30) 11), defBody (inClass (top 30) 11), defScope (inClass (top 30) 11), [], []⟩, ⟨("Reader", some "refuse"), "refuse", "Reader.refuse", defArgs (inClass (top 32) 2), defBody (inClass (top 32) 2), defScope (inClass (top 32) 2), [], []⟩, ⟨("Reader", some "take"), "take", "Reader.take", defArgs (inClass (top 32) 3), defBody (inClass (top 32) 3), defScope (inClass (top 32) 3), [], []⟩, ⟨("Reader", some "over"), "over", "Reader.over", defArgs (inClass (top 32) 7), defBody (inClass (top 32) 7), defScope (inClass (top 32) 7), [], []⟩, ⟨("pair_in", none), "pair_in", "pair_in", defArgs (top 34), defBody (top 34), defScope (top 34), [], []⟩, ⟨("Reader", some "take_name"), "take_name", "Reader.take_name", defArgs (inClass (top 32) 4), defBody (inClass (top 32) 4), defScope (inClass (top 32) 4), [], []⟩, ⟨("Reader", some "take_number"), "take_number", "Reader.take_number", defArgs (inClass (top 32) 5), defBody (inClass (top 32) 5), defScope (inClass (top 32) 5), [He.Dv.int 1000000], []⟩, ⟨("Reader", some "take_promise"), "take_promise", "Reader.take_promise", defArgs (inClass (top 32) 8), defBody (inClass (top 32) 8), defScope (inClass (top 32) 8), [], []⟩, ⟨("part_in", none), "part_in", "part_in", defArgs (top 33), defBody (top 33), defScope (top 33), [], []⟩, ⟨("SortReader", some "take_row"), "take_row", "SortReader.take_row", defArgs (inClass (top 35) 2), defBody (inClass (top 35) 2), defScope (inClass (top 35) 2), [], []⟩, ⟨("read_sort", none), "read_sort", "read_sort", defArgs (top 36), defBody (top 36), defScope (top 36), [], []⟩, ⟨("_law_right", none), "_law_right", "_law_right", defArgs (top 60), defBody (top 60), defScope (top 60), [], []⟩, ⟨("law", none), "law", "law", defArgs (top 63), defBody (top 63), defScope (top 63), [], []⟩]
def fnl : List He.DefD := fnl0 ++ fnl1 ++ fnl2
def fal0 : List He.Fa := [.free "len", .free "isinstance", .free "all", .free "sorted", .free "str", .free "int", .free "tuple", .free "list", .free "zip", .free "range", .free "enumerate", .free "bool", .free "ValueError", .free "KeyError", .free "LookupError", .free "OverflowError", .str "LETTERS" "abcdefghijklmnopqrstuvwxyz", .str "FIGURES" "0123456789", .int "MOST_LETTERS" 8, .int "MOST_FIGURES" 7, .int "MOST_PARTS" 12, .int "MOST_BARRED" 30, .glo "BARRED_WORDS", .glo "BOUNDS", .glo "MOST_OF", .glo "Promise", .glo "Sort", .glo "Reader", .glo "SortReader", .glo "BadValue"]
def fal1 : List He.Fa := [.glo "BadText", .glo "NoSuch", .glo "OutOfOrder", .glo "Full", .glo "is_whole", .glo "is_name", .glo "number_of", .glo "words_of", .glo "_law_mixed", .glo "_law_folded", .glo "_law_class", .glo "_law_is_name", .glo "_law_text", .glo "_law_number_in", .glo "_law_far", .glo "_law_known", .glo "is_row", .glo "are_barred", .glo "_law_draw", .glo "_law_begun", .glo "_law_told", .glo "_law_sort_rows", .glo "_law_promise_in", .glo "need_promise", .glo "are_parts", .glo "_law_called", .glo "_law_limit", .glo "_law_bent_words", .glo "_law_part_in", .glo "_law_limits"]
def fal2 : List He.Fa := [.glo "_law_row_in", .glo "_law_bent_rows", .glo "_law_plain_sort", .glo "_law_promise", .glo "_law_due", .glo "_law_sort", .glo "pair_in", .glo "part_in", .glo "read_sort", .glo "_law_right", .glo "law", .cls "Promise", .cls "Sort", .cls "Reader", .cls "SortReader", .noat "Promise" "limits", .noat "Sort" "called", .noat "Sort" "promised", .noat "Sort" "part_rows", .noat "Sort" "barred_pairs", .noat "Reader" "all_words", .noat "Reader" "on_row", .noat "Reader" "taken", .noat "SortReader" "heads", .noat "SortReader" "parts_read", .noat "SortReader" "pairs_read", .noat "BadText" "what", .noat "BadText" "row", .noat "BadText" "word", .meth "Promise" "__str__"]
def fal3 : List He.Fa := [.meth "Reader" "ahead", .meth "Reader" "is_over", .meth "SortReader" "first_words", .meth "Sort" "rows", .meth "SortReader" "whole_sort", .meth "Sort" "__eq__", .meth "Sort" "__str__", .meth "Reader" "refuse", .meth "Reader" "take", .meth "Reader" "over", .meth "Reader" "take_name", .meth "Reader" "take_number", .meth "Reader" "take_promise", .meth "SortReader" "take_row", .mkr "Promise", .mkr "Sort", .mkr "Reader", .mkr "SortReader"]
def fal : List He.Fa := fal0 ++ fal1 ++ fal2 ++ fal3
def tsl : List He.Tab := [((fun K => He.ga K "MOST_OF"), ["days", "miles", "turns"])]
def tfl : List He.Defn := [("_law_right", none)]
def exl0 (K : PySem.W.Frag) : List Bool := [He.tupB K "BOUNDS" [.str "days", .str "miles", .str "turns"], He.tupB K "BARRED_WORDS" [.str "sort", .str "part", .str "own", .str "mended", .str "barred", .str "days", .str "miles", .str "turns", .str "endless", .str "whole", .str "in"], tyTB K (He.ga K "BOUNDS"), He.valsB K (He.ga K "MOST_OF") [("days", .int 9999), ("miles", .int 1000000), ("turns", .int 1000000)], decide (PySem.W.findIn K (.ref (He.ga K "Promise")) "__class__" = some (some (.builtin "object.__class__"))), decide (PySem.W.findIn K (.ref (He.ga K "Sort")) "__class__" = some (some (.builtin "object.__class__"))), decide (PySem.W.specialIn K (.builtin "object.__class__") "__get__" = some (some (.builtin "getset_descriptor.__get__"))), decide (PySem.W.takesIn K (.builtin "object.__class__") = some true), decide (PySem.W.mroIn K (He.ga K "Promise") (.type "object") = some true), decide (PySem.W.mroIn K (He.ga K "Sort") (.type "object") = some true), decide (PySem.W.kitOne K (.ref (He.ga K "Promise")) (.ref (He.ga K "Promise")) = some true), decide (PySem.W.kitOne K (.ref (He.ga K "Sort")) (.ref (He.ga K "Sort")) = some true), decide (PySem.W.kitOne K (.type "list") (.ref (He.ga K "Sort")) = some false), decide (PySem.W.kitOne K (.type "tuple") (.ref (He.ga K "Sort")) = some false), decide (PySem.W.kitOne K (.type "int") (.type "int") = some true), decide (PySem.W.kitOne K (.type "NoneType") (.type "int") = some false), decide (PySem.W.kitOne K (.type "int") (.type "bool") = some false), decide (PySem.W.kitOne K (.type "str") (.type "str") = some true), decide (PySem.W.kitOne K (.type "NoneType") (.type "str") = some false), decide (PySem.W.kitOne K (.type "bool") (.type "str") = some false), decide (PySem.W.kitOne K (.type "int") (.type "str") = some false), decide (PySem.W.kitOne K (.type "list") (.type "str") = some false), decide (PySem.W.kitOne K (.type "tuple") (.type "str") = some false), decide (PySem.W.kitOne K (.type "dict") (.type "str") = some false), decide (PySem.W.kitOne K (.type "tuple") (.type "tuple") = some true), decide (PySem.W.kitOne K (.type "list") (.type "tuple") = some false), decide (PySem.W.kitOne K (.type "list") (.type "list") = some true), decide (PySem.W.kitOne K (.type "tuple") (.type "list") = some false), oexB K (He.ga K "BadText"), decide (PySem.W.findIn K (.ref (He.ga K "BadText")) "__setattr__" = some (some (.builtin "object.__setattr__")))]
def exl1 (K : PySem.W.Frag) : List Bool := [decide (PySem.W.subIn K (.ref (He.ga K "BadText")) (.type "BaseException") = some true), decide (PySem.W.typeIn K (.ref (He.ga K "BadText")) = some (.type "type")), PySem.W.keepIn K (.ref (He.ga K "BadText")), (PySem.W.clsIn K (He.ga K "BadText")).isSome, decide (PySem.W.findIn K (.ref (He.ga K "BadText")) "__getattribute__" = some (some (.builtin "BaseException.__getattribute__"))), decide (PySem.W.findIn K (.ref (He.ga K "BadText")) "__getattr__" = some none), PySem.W.hasDictIn K (He.ga K "BadText"), decide (PySem.W.findIn K (.ref (He.ga K "BadText")) "__class__" = some (some (.builtin "object.__class__"))), decide (PySem.W.mroIn K (He.ga K "BadText") (.type "object") = some true), decide (PySem.W.kitOne K (.ref (He.ga K "BadText")) (.ref (He.ga K "BadText")) = some true), decide (PySem.W.kitOne K (.ref (He.ga K "BadText")) (.ref (He.ga K "BadValue")) = some true), decide (PySem.W.exmAny K (.ref (He.ga K "BadText")) [(.ref (He.ga K "BadValue")), (.ref (He.ga K "NoSuch")), (.ref (He.ga K "OutOfOrder")), (.ref (He.ga K "Full"))] = some true), decide (PySem.W.specialIn K (.ref (He.ga K "BadValue")) "__getattribute__" = some (some (.builtin "type.__getattribute__"))), PySem.W.readsIn K (He.ga K "BadValue") (.type "type"), clsAtB K (.ref (He.ga K "BadValue")) (.type "type") "__init__" (He.ma K (He.ga K "BadValue") "__init__"), PySem.W.keepIn K (.ref (He.ma K (He.ga K "BadValue") "__init__")), decide (PySem.W.findIn K (.ref (He.ga K "BadText")) "__init__" = some (some (.ref (He.ma K (He.ga K "BadText") "__init__")))), decide (PySem.W.typeIn K (.ref (He.ma K (He.ga K "BadText") "__init__")) = some (.type "function"))]
def exl (K : PySem.W.Frag) : List Bool := exl0 K ++ exl1 K
def exF (K : PySem.W.Frag) : Bool := (exl K).all id
theorem exF_at {K : PySem.W.Frag} (h : exF K = true) (i : Nat) {b : Bool} (e : (exl K)[i]? = some b) : b = true := List.all_eq_true.mp h b (List.mem_of_getElem? e)
/-! ### the Hook: as the layer's, but of all that stands at the first addresses -/
def seenK (g : Addr → Option Obj) : PySem.W.Frag := He.frT g (List.range 662)
def obsC (g : Addr → Option Obj) : He.AlX := (He.obsT fal fnl tsl (seenK g), exF (seenK g) && He.tabsB g tfl (seenK g))
theorem saysC {w : World} {h : Heap} (e : obsC h.get? = He.valX fnl tsl w) : He.SaysX fal fnl tsl tfl exF w h (seenK h.get?) := by
  obtain ⟨h1, h2⟩ := He.ba (congrArg Prod.snd e)
  have key := fun p hp => He.ba (List.all_eq_true.mp h2 p hp)
  have tb : ∀ p ∈ tfl, ∃ o, h.get? (He.cT (seenK h.get?) p).2 = some o ∧ He.emptyTab o = true := fun p hp => by
    have q := (key p hp).2
    split at q
    · rename_i o eo
      exact ⟨o, eo, q⟩
    · cases q
  refine ⟨congrArg Prod.fst e, h1, fun p hp => (key p hp).1, fun p hp => ?_, fun p hp => ?_⟩
  · obtain ⟨o, a, b⟩ := tb p hp
    exact He.frT_none a b
  · obtain ⟨o, a, b⟩ := tb p hp
    rw [a, He.emptyTab_eq b]
def hkX : PySem.W.Hook where
  α := He.AlX
  obs s := obsC s.heap.get?
  val w := He.valX fnl tsl w
  says w h := ∃ K : PySem.W.Frag, K.In h ∧ He.SaysX fal fnl tsl tfl exF w h K
  of _ _ e := ⟨_, He.frT_in, saysC e⟩
  keeps _ _ _ := fun ⟨K, hK, c⟩ k => ⟨K, hK.keeps k, ⟨c.t, c.more, c.hd, c.out, fun p hp => k _ _ (c.empty p hp)⟩⟩
def obX (s : PySem.W.SharedT) : He.AlX := obsC (HandSHeadRun.getT s)
theorem obX_eq (s : PySem.W.SharedT) : obX s = hkX.obs s.abs := by
  have e : HandSHeadRun.getT s = s.abs.heap.get? := funext (HandSHeadRun.getT_eq s)
  unfold obX
  rw [e] <;> rfl
abbrev RR : PySem.W.OpenRow := PySem.W.OpenLaw.row PySem.Challenge.rw_wordkept_k42_whole_any_text_of_sorts
def loose0 : List PySem.Str := ["_wall", "__name__", "BadValue", "BadText", "NoSuch", "OutOfOrder", "Full", "LETTERS", "FIGURES", "MOST_LETTERS", "MOST_FIGURES", "LAST_DAY", "MOST_METER", "BARRED_WORDS", "is_whole", "is_name", "number_of", "words_of", "BOUNDS", "MOST_OF", "Promise", "need_promise", "MOST_PARTS", "MOST_BARRED", "is_row", "are_parts", "are_barred", "Sort", "Reader", "part_in"]
def loose1 : List PySem.Str := ["pair_in", "SortReader", "read_sort", "_law_mixed", "_law_folded", "_law_draw", "_law_begun", "_law_called", "_law_limit", "_law_limits", "_law_plain_sort", "_law_promise", "_law_sort", "_law_class", "_law_told", "_law_is_name", "_law_text", "_law_sort_rows", "_law_number_in", "_law_promise_in", "_law_bent_words", "_law_far", "_law_row_in", "_law_part_in", "_law_due", "_law_right", "_law_known", "_law_bent_rows"]
def loose : List PySem.Str := loose0 ++ loose1
end WK
set_option Elab.async false
set_option linter.all false
set_option maxRecDepth 100000
set_option maxHeartbeats 4000000
namespace WK
open PySem PySem.Spec PyProof.Rows L2
set_option maxHeartbeats 0
theorem runF (w : World) : HandSHeadRun.RunEq RR (PySem.W.view RR.prog [63]) hkX obX 4600 loose (w.withFollow "special-get-raises" false) := by
  intro os
  kernel_rfl
end WK
set_option Elab.async false
set_option linter.all false
set_option maxRecDepth 100000
set_option maxHeartbeats 4000000
namespace WK
open PySem PySem.Spec PyProof.Rows L2
set_option maxHeartbeats 0
theorem runT (w : World) : HandSHeadRun.RunEq RR (PySem.W.view RR.prog [63]) hkX obX 4600 loose (w.withFollow "special-get-raises" true) := by
  intro os
  kernel_rfl
end WK
set_option Elab.async false
set_option linter.all false
set_option maxRecDepth 100000
set_option maxHeartbeats 4000000
namespace WK
open PySem PySem.Spec PyProof.Rows L2

/-! ### a def, a method, a class as callers take them -/
/-- the module's def x keeps sp; dvs: what its defaults fill up when it is called by place -/
def DefOk (P : Program) (w : World) (K : PySem.W.Frag) (mg : Str → Option Value) (base : Heap) (k : Nat) (x : Str) (ps : List Str) (dvs : List V) (sp : Sp) : Prop :=
  ∃ f fd ds, FnOk P w K mg base (L2.CX P w) k f fd ps sp ∧ mg x = some (.ref f) ∧ PySem.W.keepIn K (.ref f) = true ∧ Binds K fd ps ds ∧ Vals dvs ds
/-- the same called with keywords ks behind n places -/
def DefKw (P : Program) (w : World) (K : PySem.W.Frag) (mg : Str → Option Value) (base : Heap) (k : Nat) (x : Str) (ps : List Str) (n : Nat) (ks : List Str) (gV : List V → List V → List V) (sp : Sp) : Prop :=
  ∃ f fd g, FnOk P w K mg base (L2.CX P w) k f fd ps sp ∧ mg x = some (.ref f) ∧ PySem.W.keepIn K (.ref f) = true ∧ KBn K fd ps n ks g gV
def MetOk (P : Program) (w : World) (K : PySem.W.Frag) (mg : Str → Option Value) (base : Heap) (k : Nat) (C : Addr) (m : Str) (ps : List Str) (dvs : List V) (sp : Sp) : Prop :=
  ∃ f fd ds, FnOk P w K mg base (L2.CX P w) k f fd ps sp ∧ Meth K C m f ∧ Binds K fd ps ds ∧ Vals dvs ds
/-- a class's making by place -/
def MakOk (P : Program) (w : World) (K : PySem.W.Frag) (mg : Str → Option Value) (base : Heap) (k : Nat) (x : Str) (C : Addr) (ps : List Str) (dvs : List V) (sp : Sp) : Prop :=
  ∃ f fd ds, FnOk P w K mg base (L2.CX P w) k f fd ps sp ∧ Mk K C f ∧ mg x = some (.ref C) ∧ Binds K fd ps ds ∧ Vals dvs ds
/-- .. with keywords -/
def MakKw (P : Program) (w : World) (K : PySem.W.Frag) (mg : Str → Option Value) (base : Heap) (k : Nat) (x : Str) (C : Addr) (ps : List Str) (n : Nat) (ks : List Str) (gV : List V → List V → List V) (sp : Sp) : Prop :=
  ∃ f fd g, FnOk P w K mg base (L2.CX P w) k f fd ps sp ∧ Mk K C f ∧ mg x = some (.ref C) ∧ KBn K fd ps (n + 1) ks g gV
section
variable {X : Cx} {k j n : Nat} {C : Addr} {ps ks : List Str} {sp : Sp} {dvs : List V} {E : XK} {x m : Str} {p pos apos : Pos} {o e : Expr} {es : List Expr} {kws : List Keyword} {ta : TE} {t tk : TA} {gV : List V → List V → List V}
theorem pe_callD (G : DefOk X.prog X.w X.K X.mg X.base k x ps dvs sp) (hr : Room j X.A) (hk : k ≤ j) (hg : Gl X x) (hx : Passes (L2.CX X.prog X.w) X E) (ha : PA X (e :: es) t) (hdb : (x == ("__debug__" : Str)) = false := by decide)
    (he : starEach (e :: es) X.env = (false, eval e X.env) :: starEach es X.env := by rfl) (hpl : (backTo pos (starEach es X.env)).any (·.1) = false := by rfl) : PE X (.Call (.Name x p) (e :: es) [] pos) (tCall sp dvs E t) := by
  obtain ⟨f, fd, ds, F, hm, kp, b, v⟩ := G
  exact pe_call F (hr.mono hk) hg hm kp b v hx ha hdb he hpl
theorem pe_callD0 (G : DefOk X.prog X.w X.K X.mg X.base k x ps dvs sp) (hr : Room j X.A) (hk : k ≤ j) (hg : Gl X x) (hx : Passes (L2.CX X.prog X.w) X E) (hdb : (x == ("__debug__" : Str)) = false := by decide) :
    PE X (.Call (.Name x p) [] [] pos) (tCall sp dvs E tNil) := by
  obtain ⟨f, fd, ds, F, hm, kp, b, v⟩ := G
  exact pe_call0 F (hr.mono hk) hg hm kp b v hx hdb
theorem pe_callK' (G : DefKw X.prog X.w X.K X.mg X.base k x ps n ks gV sp) (hr : Room j X.A) (hk : k ≤ j) (hg : Gl X x) (hx : Passes (L2.CX X.prog X.w) X E) (ha : PA X (e :: es) t) (hkw : PK X kws tk)
    (hall : (backToKw pos (keywordEach kws X.env)).all (·.1.isSome) = true := by rfl) (hks : (backToKw pos (keywordEach kws X.env)).filterMap (·.1) = ks := by rfl) (hdb : (x == ("__debug__" : Str)) = false := by decide)
    (he : starEach (e :: es) X.env = (false, eval e X.env) :: starEach es X.env := by rfl) (hpl : ((backTo pos (starEach (e :: es) X.env)).any (·.1) || (backToKw pos (keywordEach kws X.env)).any (·.1.isNone)) = false := by rfl) :
    PE X (.Call (.Name x p) (e :: es) kws pos) (tCallN n ks.length sp gV E t tk) := by
  obtain ⟨f, fd, g, F, hm, kp, b⟩ := G
  exact pe_callN F (hr.mono hk) hg hm kp b hx ha hkw hall hks hdb he hpl
theorem pe_metD {pl : Sem Bool} (he : PE X o ta) (c : Cls X.K C) (G : MetOk X.prog X.w X.K X.mg X.base k C m ps dvs sp) (hr : Room j X.A) (hk : k ≤ j) (hx : Passes (L2.CX X.prog X.w) X E) (ha : PA X (e :: es) t)
    (hst : starEach (e :: es) X.env = (false, eval e X.env) :: starEach es X.env := by rfl) (hpl : (backTo pos (starEach es X.env)).any (·.1) = false := by rfl)
    (ht : eval (.Call (.Attribute o m apos) (e :: es) [] pos) X.env = (do
      let ov ← eval o X.env
      standAt apos.atName
      let (f, first) ← holding [ov] (getMethod ov m pl)
      callWith pos f first (backTo pos (starEach (e :: es) X.env)) (backToKw pos (keywordEach [] X.env))) := by rfl) :
    PE X (.Call (.Attribute o m apos) (e :: es) [] pos) (tMeth C m sp dvs E ta t) := by
  obtain ⟨f, fd, ds, F, hm, b, v⟩ := G
  exact pe_meth he c hm F (hr.mono hk) b v hx ha hst hpl ht
theorem pe_metD0 {pl : Sem Bool} (he : PE X o ta) (c : Cls X.K C) (G : MetOk X.prog X.w X.K X.mg X.base k C m ps dvs sp) (hr : Room j X.A) (hk : k ≤ j) (hx : Passes (L2.CX X.prog X.w) X E)
    (ht : eval (.Call (.Attribute o m apos) [] [] pos) X.env = (do
      let ov ← eval o X.env
      standAt apos.atName
      let (f, first) ← holding [ov] (getMethod ov m pl)
      callWith pos f first (backTo pos (starEach [] X.env)) (backToKw pos (keywordEach [] X.env))) := by rfl) :
    PE X (.Call (.Attribute o m apos) [] [] pos) (tMeth C m sp dvs E ta tNil) := by
  obtain ⟨f, fd, ds, F, hm, b, v⟩ := G
  exact pe_meth0 he c hm F (hr.mono hk) b v hx ht
theorem pe_makD (G : MakOk X.prog X.w X.K X.mg X.base k x C ps dvs sp) (hr : Room j X.A) (hk : k + 1 ≤ j) (hg : Gl X x) (hx : Passes (L2.CX X.prog X.w) X E) (ha : PA X (e :: es) t) (hdb : (x == ("__debug__" : Str)) = false := by decide)
    (he : starEach (e :: es) X.env = (false, eval e X.env) :: starEach es X.env := by rfl) (hpl : (backTo pos (starEach es X.env)).any (·.1) = false := by rfl) : PE X (.Call (.Name x p) (e :: es) [] pos) (tMake C sp dvs E t) := by
  obtain ⟨f, fd, ds, F, M, hm, b, v⟩ := G
  exact pe_make M F (hr.mono hk) hg hm b v hx ha hdb he hpl
theorem pe_makD0 (G : MakOk X.prog X.w X.K X.mg X.base k x C ps dvs sp) (hr : Room j X.A) (hk : k + 1 ≤ j) (hg : Gl X x) (hx : Passes (L2.CX X.prog X.w) X E) (hdb : (x == ("__debug__" : Str)) = false := by decide) :
    PE X (.Call (.Name x p) [] [] pos) (tMake C sp dvs E tNil) := by
  obtain ⟨f, fd, ds, F, M, hm, b, v⟩ := G
  exact pe_make0 M F (hr.mono hk) hg hm b v hx hdb
theorem pe_makK (G : MakKw X.prog X.w X.K X.mg X.base k x C ps n ks gV sp) (hr : Room j X.A) (hk : k + 1 ≤ j) (hg : Gl X x) (hx : Passes (L2.CX X.prog X.w) X E) (ha : PA X (e :: es) t) (hkw : PK X kws tk)
    (hall : (backToKw pos (keywordEach kws X.env)).all (·.1.isSome) = true := by rfl) (hks : (backToKw pos (keywordEach kws X.env)).filterMap (·.1) = ks := by rfl) (hdb : (x == ("__debug__" : Str)) = false := by decide)
    (he : starEach (e :: es) X.env = (false, eval e X.env) :: starEach es X.env := by rfl) (hpl : ((backTo pos (starEach (e :: es) X.env)).any (·.1) || (backToKw pos (keywordEach kws X.env)).any (·.1.isNone)) = false := by rfl) :
    PE X (.Call (.Name x p) (e :: es) kws pos) (tMakeK C n ks.length sp gV E t tk) := by
  obtain ⟨f, fd, g, F, M, hm, b⟩ := G
  exact pe_makeK M F (hr.mono hk) hg hm b hx ha hkw hall hks hdb he hpl
theorem pe_makK0 (G : MakKw X.prog X.w X.K X.mg X.base k x C ps 0 ks gV sp) (hr : Room j X.A) (hk : k + 1 ≤ j) (hg : Gl X x) (hx : Passes (L2.CX X.prog X.w) X E) (hkw : PK X kws tk)
    (hall : (backToKw pos (keywordEach kws X.env)).all (·.1.isSome) = true := by rfl) (hks : (backToKw pos (keywordEach kws X.env)).filterMap (·.1) = ks := by rfl) (hdb : (x == ("__debug__" : Str)) = false := by decide)
    (hpl : ((backTo pos (starEach [] X.env)).any (·.1) || (backToKw pos (keywordEach kws X.env)).any (·.1.isNone)) = false := by rfl) :
    PE X (.Call (.Name x p) [] kws pos) (tMakeK C 0 ks.length sp gV E tNil tk) := by
  obtain ⟨f, fd, g, F, M, hm, b⟩ := G
  exact pe_makeK0 M F (hr.mono hk) hg hm b hx hkw hall hks hdb hpl
end
theorem DefOk.mono {P : Program} {w : World} {K : PySem.W.Frag} {mg : Str → Option Value} {base : Heap} {k : Nat} {x : Str} {ps : List Str} {dvs : List V} {sp sp' : Sp} (G : DefOk P w K mg base k x ps dvs sp) (h : ∀ vs H Q E, sp' vs H Q E → sp vs H Q E) : DefOk P w K mg base k x ps dvs sp' := by
  obtain ⟨f, fd, ds, F, r⟩ := G
  exact ⟨f, fd, ds, F.imp h, r⟩

/-! ### readings that stand unnamed in the layer's rules, by name -/
def qLenS : List V → Hp → VK → Prop := fun xs H Q => ∃ z, xs = [.str z] ∧ z.length ≤ sizeLine ∧ Q (.int z.length) H
def qLenL (K : PySem.W.Frag) : List V → Hp → VK → Prop := fun xs H Q => ∃ p ys, xs = [.ref p] ∧ (SqL K H p ys ∨ SqT K H p ys) ∧ Q (.int ys.length) H
def qLenD : List V → Hp → VK → Prop := fun xs H Q => ∃ d kvs, xs = [.ref d] ∧ H d = some (.dK kvs) ∧ Q (.int (kvs.length : Int)) H
def qIntB : List V → Hp → VK → Prop := fun xs H Q => ∃ k, xs = [.bl k] ∧ Q (.int (if k then 1 else 0)) H
def qIntS : List V → Hp → VK → Prop := fun xs H Q => ∃ a n, xs = [.str a] ∧ PySem.intText? a = some n ∧ a.length ≤ 640 ∧ Q (.int n) H
def qStrI : List V → Hp → VK → Prop := fun xs H Q => ∃ i : Int, xs = [.int i] ∧ i.natAbs.log2 < 1920 ∧ Q (.str (toString i)) H
def qTupOf (K : PySem.W.Frag) : List V → Hp → VK → Prop := fun xs H Q => ∃ p ys, xs = [.ref p] ∧ ((SqL K H p ys ∧ ∀ l, H l = none → Q (.ref l) (upd H l (.tup ys))) ∨ (SqT K H p ys ∧ Q (.ref p) H))
def qSplit : V → List V → Hp → VK → Prop := fun x xs H Q => ∃ a b, x = .str a ∧ xs = [.str b] ∧ (b.length == 0) = false ∧ a.length + 2 ≤ sizeLine ∧ rNewStrs (Txt.split a b) H Q
def qJoin (K : PySem.W.Frag) : V → List V → Hp → VK → Prop := fun x xs H Q => ∃ a p, ∃ ys : List Str, x = .str a ∧ xs = [.ref p] ∧ (SqL K H p (ys.map V.str) ∨ SqT K H p (ys.map V.str)) ∧ (ys.map (·.length)).sum + ys.length * a.length ≤ 16777216 ∧ Q (.str (Txt.join a ys)) H
def qAddS : R2 := fun x y H Q => ∃ i j, x = .str i ∧ y = .str j ∧ i.length + j.length ≤ sizeLine ∧ Q (.str (i ++ j)) H
def qLtS : R2 := fun x y H Q => ∃ i j, x = .str i ∧ y = .str j ∧ Q (.bl (decide (i.cps.toList < j.cps.toList))) H
def qLeS : R2 := fun x y H Q => ∃ i j, x = .str i ∧ y = .str j ∧ Q (.bl (!decide (j.cps.toList < i.cps.toList))) H
def qInC : R2 := fun x y H Q => ∃ (c : Nat) (z : Str), x = .str ⟨#[c]⟩ ∧ y = .str z ∧ Q (.bl (decide (c ∈ z.cps.toList))) H
def qNotInC : R2 := fun x y H Q => ∃ (c : Nat) (z : Str), x = .str ⟨#[c]⟩ ∧ y = .str z ∧ Q (.bl (!decide (c ∈ z.cps.toList))) H
abbrev qAdd : R2 := rI0 fun i j => .int (i + j)
abbrev qSub : R2 := rI0 fun i j => .int (i - j)
abbrev qMul : R2 := rI CMul fun i j => .int (i * j)
abbrev qMod : R2 := rI (fun _ j => 0 < j) fun i j => .int (i % j)
abbrev qDivW : R2 := rI CDivW fun i j => .int (i / j)
abbrev qPow : R2 := rI CPow fun i j => .int (i ^ j.toNat)
abbrev qLt : R2 := rI0 fun i j => .bl (decide (i < j))
abbrev qLe : R2 := rI0 fun i j => .bl (decide (i ≤ j))
abbrev qGt : R2 := rI0 fun i j => .bl (decide (j < i))
abbrev qGe : R2 := rI0 fun i j => .bl (decide (j ≤ i))
def qIsN : R2 := fun x y H Q => y = .non ∧ Q (.bl (decide (x = .non))) H
def qNotN : R2 := fun x y H Q => y = .non ∧ Q (.bl (!decide (x = .non))) H
section
variable {X : Cx}
theorem c_lenS : CallR X (.builtin "len") qLenS := call_len_str
theorem c_lenL : CallR X (.builtin "len") (qLenL X.K) := call_len_seq
theorem c_intB : CallR X (.type "int") qIntB := fun pins s σ H xs us Q I r ⟨k, e, q⟩ => call_int1 pins s σ H xs us Q I r (.inr ⟨k, e, q⟩)
theorem c_intS : CallR X (.type "int") qIntS := call_int_str
theorem c_strI : CallR X (.type "str") qStrI := call_str_int
theorem c_tupOf : CallR X (.type "tuple") (qTupOf X.K) := call_tuple_of
theorem m_split : MtR X "str.split" qSplit := mt_split
theorem m_join : MtR X "str.join" (qJoin X.K) := mt_join
theorem o_addS : OpR X (binaryOp .Add) qAddS := op_add_str
theorem io_addS : InOp X .Add qAddS := fun pins s σ H x y u v Q I rx ry h => iop_add_str pins s σ H x y u v Q I rx ry h
theorem ip_addS : PIp X .Add qAddS := fun pins s σ H x y u v Q I rx ry h => iop_add_str pins s σ H x y u v Q I rx ry h
theorem o_ltS : OpR X (compareOp .Lt) qLtS := op_lt_str
theorem o_leS : OpR X (compareOp .LtE) qLeS := op_le_str
theorem o_inC : OpR X (compareOp .In) qInC := op_in_sign
theorem o_notInC : OpR X (compareOp .NotIn) qNotInC := op_notIn_sign
theorem o_isN : OpR X (compareOp .Is) qIsN := op_isN
theorem o_notN : OpR X (compareOp .IsNot) qNotN := op_notN
end

/-! ### reading step by step -/
section
variable {σ : L2.St} {H : Hp} {Q : VK} {QT : Bool → Hp → Prop} {QA : List V → Hp → Prop} {i : Nat} {v x y : V} {ta tb tc te : TE} {t u c : TT} {r r' : R2} {D : Ends} {t1 t2 : TS} {tr : TA} {K : PySem.W.Frag}
theorem w_var (h : σ[i]? = some (some v)) (q : Q v H) : tVar i σ H Q := ⟨v, h, q⟩
theorem w_c (q : Q v H) : tC v σ H Q := q
theorem w_op (q : ta σ H fun x H1 => tb σ H1 fun y H2 => r x y H2 Q) : tOp r ta tb σ H Q := q
theorem w_un {r : V → Hp → VK → Prop} (q : ta σ H fun x H1 => r x H1 Q) : tUn r ta σ H Q := q
theorem w_test (q : te σ H fun x H' => ∃ k, x = .bl k ∧ QT k H') : tTest te σ H QT := q
theorem w_tB (q : te σ H fun x H' => ∃ k, x = .bl k ∧ QT k H') : tB te σ H QT := q
theorem w_bl {b : Bool} (q : QT b H) : ∃ k, V.bl b = .bl k ∧ QT k H := ⟨b, rfl, q⟩
theorem w_and (q : t σ H fun c H1 => if c = true then u σ H1 QT else QT false H1) : tAnd t u σ H QT := q
theorem w_or (q : t σ H fun c H1 => if c = true then QT true H1 else u σ H1 QT) : tOr t u σ H QT := q
theorem w_not (q : t σ H fun c H1 => QT (!c) H1) : tNot t σ H QT := q
theorem w_andV (q : ta σ H fun x H1 => ∃ c, x = .bl c ∧ if c = true then tb σ H1 Q else Q (.bl false) H1) : tAndV ta tb σ H Q := q
theorem w_orV (q : ta σ H fun x H1 => ∃ c, x = .bl c ∧ if c = true then Q (.bl true) H1 else tb σ H1 Q) : tOrV ta tb σ H Q := q
theorem w_notV (q : ta σ H fun x H1 => ∃ c, x = .bl c ∧ Q (.bl (!c)) H1) : tNotV ta σ H Q := q
theorem w_ebl {b : Bool} {R : Bool → Prop} (q : R b) : ∃ c, V.bl b = .bl c ∧ R c := ⟨b, rfl, q⟩
theorem w_ifE (q : t σ H fun c H1 => if c = true then ta σ H1 Q else tb σ H1 Q) : tIf t ta tb σ H Q := q
theorem w_nil (q : QA [] H) : tNil σ H QA := q
theorem w_cons (q : te σ H fun x H1 => tr σ H1 fun xs H2 => QA (x :: xs) H2) : tCons te tr σ H QA := q
theorem w_tup (q : tr σ H fun xs H1 => xs.length ≤ sizeLine ∧ ∀ p, H1 p = none → Q (.ref p) (upd H1 p (.tup xs))) : tTup tr σ H Q := q
theorem w_lst (q : tr σ H fun xs H1 => xs.length ≤ sizeLine ∧ ∀ p, H1 p = none → Q (.ref p) (upd H1 p (.lst xs))) : tLst tr σ H Q := q
theorem w_cb {r : List V → Hp → VK → Prop} (q : tr σ H fun vs H1 => r vs H1 Q) : tCB r tr σ H Q := q
theorem w_call {sp : Sp} {dvs : List V} {E : XK} (q : tr σ H fun vs H1 => sp (vs ++ dvs) H1 Q E) : tCall sp dvs E tr σ H Q := q
theorem w_chain (q : ta σ H fun x H1 => tb σ H1 fun y H2 => r x y H2 fun z H3 => ∃ k, z = .bl k ∧ (if k = true then tc σ H3 fun w' H4 => r' y w' H4 Q else Q (.bl false) H3)) : tChain r r' ta tb tc σ H Q := q
theorem w_seq (q : t1 { D with nx := t2 D } σ H) : tSeq t1 t2 D σ H := q
theorem w_asg (q : te σ H fun x H1 => D.nx (σ.set i (some x)) H1) : tAsg te (gName i) D σ H := q
theorem w_asgG {g : TG} (q : te σ H fun x H1 => g x σ H1 D.nx) : tAsg te g D σ H := q
theorem w_next (q : D.nx σ H) : tNext D σ H := q
theorem w_ret (q : te σ H D.rt) : tRet te D σ H := q
theorem w_drop (q : te σ H fun _ H1 => D.nx σ H1) : tDrop te D σ H := q
theorem w_if (q : c σ H fun b H1 => if b = true then t1 D σ H1 else t2 D σ H1) : tIfS c t1 t2 D σ H := q
theorem w_fld {f : Str} (q : ta σ H fun x H1 => ∃ a C dx fs v, x = .ref a ∧ H1 a = some (.ins C dx fs) ∧ Cls K C ∧ NoAttr K C f ∧ fs.lookup f = some v ∧ Q v H1) : tFld K ta f σ H Q := q
theorem w_I0 {g : Int → Int → V} {a b : Int} (q : Q (g a b) H) : rI0 g (.int a) (.int b) H Q := ⟨a, b, rfl, rfl, q⟩
theorem w_I {C : Int → Int → Prop} {g : Int → Int → V} {a b : Int} (h : C a b) (q : Q (g a b) H) : rI C g (.int a) (.int b) H Q := ⟨a, b, rfl, rfl, h, q⟩
theorem w_eq (h : scal x y = true) (q : Q (.bl (decide (x = y))) H) : rEq x y H Q := ⟨h, q⟩
theorem w_ne (h : scal x y = true) (q : Q (.bl (!decide (x = y))) H) : rNe x y H Q := ⟨h, q⟩
theorem w_isN (q : Q (.bl (decide (x = .non))) H) : qIsN x .non H Q := ⟨rfl, q⟩
theorem w_notN (q : Q (.bl (!decide (x = .non))) H) : qNotN x .non H Q := ⟨rfl, q⟩
theorem w_lenS {z : Str} (h : z.length ≤ sizeLine) (q : Q (.int z.length) H) : qLenS [.str z] H Q := ⟨z, rfl, h, q⟩
theorem w_lenL {p : Addr} {ys : List V} (h : SqL K H p ys) (q : Q (.int ys.length) H) : qLenL K [.ref p] H Q := ⟨p, ys, rfl, .inl h, q⟩
theorem w_lenT {p : Addr} {ys : List V} (h : SqT K H p ys) (q : Q (.int ys.length) H) : qLenL K [.ref p] H Q := ⟨p, ys, rfl, .inr h, q⟩
theorem w_ixL {p : Addr} {xs : List V} {a : Int} (h : SqL K H p xs) (ha : atI xs a = some v) (q : Q v H) : rIxL K (.ref p) (.int a) H Q := ⟨p, xs, a, v, rfl, rfl, h, ha, q⟩
theorem w_ixT {p : Addr} {xs : List V} {a : Int} (h : SqT K H p xs) (ha : atI xs a = some v) (q : Q v H) : rIxT K (.ref p) (.int a) H Q := ⟨p, xs, a, v, rfl, rfl, h, ha, q⟩
theorem w_ixS {z : Str} {a : Int} {d : Nat} (h : z.length ≤ sizeLine) (ha : atI z.cps.toList a = some d) (q : Q (.str ⟨#[d]⟩) H) : rIxS (.str z) (.int a) H Q := ⟨z, a, d, rfl, rfl, h, ha, q⟩
theorem w_inL {p : Addr} {xs : List V} {neg : Bool} (h : SqL K H p xs) (hx : flatV x = true) (hf : xs.all flatV = true) (q : Q (.bl (if neg then !inV x xs else inV x xs)) H) : rIn K neg x (.ref p) H Q := ⟨p, xs, rfl, .inl h, hx, hf, q⟩
theorem w_inT {p : Addr} {xs : List V} {neg : Bool} (h : SqT K H p xs) (hx : flatV x = true) (hf : xs.all flatV = true) (q : Q (.bl (if neg then !inV x xs else inV x xs)) H) : rIn K neg x (.ref p) H Q := ⟨p, xs, rfl, .inr h, hx, hf, q⟩
theorem w_addS {a b : Str} (h : a.length + b.length ≤ sizeLine) (q : Q (.str (a ++ b)) H) : qAddS (.str a) (.str b) H Q := ⟨a, b, rfl, rfl, h, q⟩
theorem w_ltS {a b : Str} (q : Q (.bl (decide (a.cps.toList < b.cps.toList))) H) : qLtS (.str a) (.str b) H Q := ⟨a, b, rfl, rfl, q⟩
theorem w_leS {a b : Str} (q : Q (.bl (!decide (b.cps.toList < a.cps.toList))) H) : qLeS (.str a) (.str b) H Q := ⟨a, b, rfl, rfl, q⟩
theorem w_inC {a : Nat} {b : Str} (q : Q (.bl (decide (a ∈ b.cps.toList))) H) : qInC (.str ⟨#[a]⟩) (.str b) H Q := ⟨a, b, rfl, rfl, q⟩
theorem w_notInC {a : Nat} {b : Str} (q : Q (.bl (!decide (a ∈ b.cps.toList))) H) : qNotInC (.str ⟨#[a]⟩) (.str b) H Q := ⟨a, b, rfl, rfl, q⟩
theorem w_ite {b : Bool} {A B : Prop} (h1 : b = true → A) (h0 : b = false → B) : if b = true then A else B := by
  cases b with
  | true => rw [if_pos rfl]; exact h1 rfl
  | false => rw [if_neg Bool.false_ne_true]; exact h0 rfl
theorem w_iT {A B : Prop} (h : A) : if true = true then A else B := by rw [if_pos rfl]; exact h
theorem w_iF {A B : Prop} (h : B) : if false = true then A else B := by rw [if_neg Bool.false_ne_true]; exact h
end

/-! ### heaps: what is kept but at S -/
def KB (S : List Addr) (H H' : Hp) : Prop := ∀ b o, H b = some o → b ∉ S → H' b = some o
theorem KB.refl (S : List Addr) (H : Hp) : KB S H H := fun _ _ h _ => h
theorem KB.trans {S : List Addr} {H H1 H2 : Hp} (a : KB S H H1) (b : KB S H1 H2) : KB S H H2 := fun c o h n => b c o (a c o h n) n
theorem KB.mono {S S' : List Addr} {H H' : Hp} (a : KB S H H') (h : ∀ b, b ∈ S → b ∈ S') : KB S' H H' := fun c o e n => a c o e fun m => n (h c m)
theorem KB.of {S : List Addr} {H H' : Hp} (a : KB [] H H') : KB S H H' := fun c o e _ => a c o e (by simp)
theorem KB.get {H H' : Hp} (a : KB [] H H') {b : Addr} {o : HO} (h : H b = some o) : H' b = some o := a b o h (by simp)
theorem KB.same {H H' : Hp} (a : KB [] H H') : Same H H' := fun _ _ h => a.get h
theorem KB.ofSame {S : List Addr} {H H' : Hp} (a : Same H H') : KB S H H' := fun b o h _ => a b o h
theorem KB.new {S : List Addr} {H H' : Hp} {p : Addr} {o : HO} (k : KB S H H') (hp : H' p = none) : KB S H (upd H' p o) := fun b u e n => by
  have q := k b u e n
  rw [upd_ne (ne_of_none q hp)]; exact q
theorem KB.mut {S : List Addr} {H H' : Hp} {p : Addr} {o : HO} (k : KB S H H') (hp : p ∈ S) : KB S H (upd H' p o) := fun b u e n => by
  rw [upd_ne (fun z => n (by rw [z]; exact hp))]; exact k b u e n
/-- an object that H does not know may change -/
theorem KB.mutN {S : List Addr} {H H' : Hp} {p : Addr} {o : HO} (k : KB S H H') (hp : H p = none) : KB S H (upd H' p o) := fun b u e n => by
  rw [upd_ne (ne_of_none e hp)]; exact k b u e n
theorem KB.free {S : List Addr} {H H' : Hp} (k : KB S H H') {p : Addr} (hp : H' p = none) (n : p ∉ S) : H p = none := by
  cases e : H p with
  | none => rfl
  | some o => rw [k p o e n] at hp; cases hp
/-- what S adds may be dropped where H did not know it -/
theorem KB.drop {S S' : List Addr} {H H' : Hp} (k : KB S H H') (h : ∀ b ∈ S, b ∈ S' ∨ H b = none) : KB S' H H' := fun b u e n => k b u e fun m => by
  rcases h b m with z | z
  · exact n z
  · rw [z] at e; cases e
theorem KB.seq {K : PySem.W.Frag} {H H' : Hp} {a : Addr} {xs : List V} (k : KB [] H H') (h : SqL K H a xs) : SqL K H' a xs := k.same.seq h
theorem KB.seqT {K : PySem.W.Frag} {H H' : Hp} {a : Addr} {xs : List V} (k : KB [] H H') (h : SqT K H a xs) : SqT K H' a xs := by
  rcases h with (h | ⟨o, h⟩) | h
  · exact .inl (.inl (k.get h))
  · exact .inl (.inr ⟨o, k.get h⟩)
  · exact .inr h
theorem upd_get {H : Hp} {p a : Addr} {o u : HO} (hp : H p = none) (h : H a = some u) : upd H p o a = some u := by
  rw [upd_ne (ne_of_none h hp)]; exact h
theorem upd_oth {H : Hp} {p a : Addr} {o : HO} {u : Option HO} (n : a ≠ p) (h : H a = u) : upd H p o a = u := by
  rw [upd_ne n]; exact h
theorem sz1 {n : Nat} (h : n ≤ 10000) : n ≤ sizeLine := Nat.le_trans h (by rw [sizeLine_eq]; decide)
end WK
set_option Elab.async false
set_option linter.all false
set_option maxRecDepth 100000
set_option maxHeartbeats 4000000
namespace WK
open PySem PySem.Spec PyProof.Rows L2

/-! ### constants of the module -/
section
variable {X : Cx}
theorem pe_gS {x : Str} {z : Str} {pos : Pos} (hg : Gl X x) (h : ∃ t, X.mg x = some (.str z t)) (hd : (x == ("__debug__" : Str)) = false := by decide) : PE X (.Name x pos) (tC (.str z)) := by
  obtain ⟨t, e⟩ := h
  exact pe_glob hg e ⟨t, rfl⟩ hd
theorem pe_gI {x : Str} {i : Int} {pos : Pos} (hg : Gl X x) (h : ∃ t, X.mg x = some (.int i t)) (hd : (x == ("__debug__" : Str)) = false := by decide) : PE X (.Name x pos) (tC (.int i)) := by
  obtain ⟨t, e⟩ := h
  exact pe_glob hg e ⟨t, rfl⟩ hd
end

/-! ### a dict == an empty one -/
def qEqDic : R2 := fun x y H Q => ∃ a b ks, x = .ref a ∧ y = .ref b ∧ H a = some (.dK ks) ∧ H b = some (.dK []) ∧ Q (.bl ks.isEmpty) H
theorem o_eqDic {X : Cx} (hu : X.A.units + 64 < cLine) : OpR X (compareOp .Eq) qEqDic := by
  intro pins s σ H x y v u Q I rx ry h
  obtain ⟨a, b, ks, ex, ey, ea, eb, q⟩ := h
  subst ex; subst ey
  obtain rfl : v = Value.ref a := rx
  obtain rfl : u = Value.ref b := ry
  have oa : ObjOk X.prog X.w H s.heap a (.dK ks) := I.hok a _ ea
  have ob : ObjOk X.prog X.w H s.heap b (.dK []) := I.hok b _ eb
  obtain ⟨_, ya, va, ra, da⟩ := oa
  obtain ⟨_, yb, vb, rb, db⟩ := ob
  have lb : vb.length = 0 := (Paired.length rb).symm
  have la : va.length = ks.length := (Paired.length ra).symm
  refine PySem.W.rcP_dicts (knd := mixKind X.prog X.w) (r := true) ya yb da db (Nat.lt_of_le_of_lt (Nat.le_add_right _ _) hu) (fun e => ?_) X.xe (EP X pins σ Q) (fin_bl I q ?_)
  · have ev : va = [] := List.eq_nil_of_length_eq_zero (e.trans lb)
    subst ev
    exact .nil
  · rw [la, lb]
    cases ks with
    | nil => rfl
    | cons p r => rfl

/-! ### pairs of texts: <, <= -/
def ltS (a b : Str) : Bool := decide (a.cps.toList < b.cps.toList)
def leS (a b : Str) : Bool := !decide (b.cps.toList < a.cps.toList)
def ltP (p q : Str × Str) : Bool := if p.1 = q.1 then (if p.2 = q.2 then false else ltS p.2 q.2) else ltS p.1 q.1
def leP (p q : Str × Str) : Bool := if p.1 = q.1 then (if p.2 = q.2 then true else leS p.2 q.2) else leS p.1 q.1
def qLtP (K : PySem.W.Frag) : R2 := fun x y H Q => ∃ (a b : Addr) (p q : Str × Str), x = .ref a ∧ y = .ref b ∧ SqT K H a [.str p.1, .str p.2] ∧ SqT K H b [.str q.1, .str q.2] ∧ Q (.bl (ltP p q)) H
def qLeP (K : PySem.W.Frag) : R2 := fun x y H Q => ∃ (a b : Addr) (p q : Str × Str), x = .ref a ∧ y = .ref b ∧ SqT K H a [.str p.1, .str p.2] ∧ SqT K H b [.str q.1, .str q.2] ∧ Q (.bl (leP p q)) H
theorem pair_vals {a b : Str} {us : List Value} (r : Vals [.str a, .str b] us) : ∃ t u, us = [.str a t, .str b u] := by
  obtain ⟨v, w', e, ⟨t, e1⟩, ⟨u, e2⟩⟩ := Vals.two r
  exact ⟨t, u, by rw [e, e1, e2]⟩
section
variable {A : Around} {s : Shared} {a b : Addr} {p q : Str × Str} {t1 t2 u1 u2 : Tok}
theorem pair_eq (j : Nat) (h1 : j < ([.str p.1 t1, .str p.2 t2] : List Value).toArray.size) (h2 : j < ([.str q.1 u1, .str q.2 u2] : List Value).toArray.size) :
    SeqAt.EqAt A s ([.str p.1 t1, .str p.2 t2] : List Value).toArray[j] ([.str q.1 u1, .str q.2 u2] : List Value).toArray[j] (if j = 0 then p.1 == q.1 else p.2 == q.2) := by
  match j, h1 with
  | 0, _ => exact SeqAt.EqAt.str_str _ _ _ _
  | 1, _ => exact SeqAt.EqAt.str_str _ _ _ _
  | n + 2, h => simp at h; omega
theorem pair_op (op : CmpOp) (f : Str → Str → Bool) (hf : ∀ (A : Around) (s : Shared) (x y : Str) (t u : Tok), Ob.RcOp op A s (.str x t) (.str y u) (f x y)) (j : Nat) (h1 : j < ([.str p.1 t1, .str p.2 t2] : List Value).toArray.size) (h2 : j < ([.str q.1 u1, .str q.2 u2] : List Value).toArray.size) :
    Ob.RcOp op A s ([.str p.1 t1, .str p.2 t2] : List Value).toArray[j] ([.str q.1 u1, .str q.2 u2] : List Value).toArray[j] (if j = 0 then f p.1 q.1 else f p.2 q.2) := by
  match j, h1 with
  | 0, _ => exact hf _ _ _ _ _ _
  | 1, _ => exact hf _ _ _ _ _ _
  | n + 2, h => simp at h; omega
end
theorem rc_lt_str (A : Around) (s : Shared) (x y : Str) (t u : Tok) : Ob.RcOp .Lt A s (.str x t) (.str y u) (ltS x y) := fun _ _ _ _ h => lt_str h
theorem rc_le_str (A : Around) (s : Shared) (x y : Str) (t u : Tok) : Ob.RcOp .LtE A s (.str x t) (.str y u) (leS x y) := fun _ _ _ _ h => PySem.P.le_str h
theorem lex2 (e0 e1 r0 r1 z : Bool) : Ob.lexAt (fun j => if j = 0 then e0 else e1) (fun j => if j = 0 then r0 else r1) z 0 2 = if e0 = true then (if e1 = true then z else r1) else r0 := by
  rw [Ob.lexAt_succ, Ob.lexAt_succ, Ob.lexAt_zero]
  rfl
theorem o_ltP {X : Cx} (hu : X.A.units < cLine) : OpR X (compareOp .Lt) (qLtP X.K) := by
  intro pins s σ H x y v u Q I rx ry h
  obtain ⟨a, b, p, q, ex, ey, ha, hb, h⟩ := h
  subst ex; subst ey
  obtain rfl : v = Value.ref a := rx
  obtain rfl : u = Value.ref b := ry
  obtain ⟨its, r1, p1, _⟩ := I.tuple ha
  obtain ⟨its2, r2, p2, _⟩ := I.tuple hb
  obtain ⟨t1, t2, e1⟩ := pair_vals r1
  obtain ⟨u1, u2, e2⟩ := pair_vals r2
  subst e1; subst e2
  have R := Ob.RcOp.tuples_lt (A := X.A) (s := s) p1 p2 hu pair_eq (fun j h1 h2 _ => pair_op .Lt ltS rc_lt_str j h1 h2)
  refine R X.prog X.w X.xe (EP X pins σ Q) (fin_bl I h ?_)
  show ltP p q = Ob.lexAt _ _ false 0 2
  rw [lex2]
  unfold ltP
  simp only [beq_iff_eq]
theorem o_leP {X : Cx} (hu : X.A.units < cLine) : OpR X (compareOp .LtE) (qLeP X.K) := by
  intro pins s σ H x y v u Q I rx ry h
  obtain ⟨a, b, p, q, ex, ey, ha, hb, h⟩ := h
  subst ex; subst ey
  obtain rfl : v = Value.ref a := rx
  obtain rfl : u = Value.ref b := ry
  obtain ⟨its, r1, p1, _⟩ := I.tuple ha
  obtain ⟨its2, r2, p2, _⟩ := I.tuple hb
  obtain ⟨t1, t2, e1⟩ := pair_vals r1
  obtain ⟨u1, u2, e2⟩ := pair_vals r2
  subst e1; subst e2
  have R := Ob.RcOp.tuples_le (A := X.A) (s := s) p1 p2 hu pair_eq (fun j h1 h2 _ => pair_op .LtE leS rc_le_str j h1 h2)
  refine R X.prog X.w X.xe (EP X pins σ Q) (fin_bl I h ?_)
  show leP p q = Ob.lexAt _ _ true 0 2
  rw [lex2]
  unfold leP
  simp only [beq_iff_eq]

/-! ### text * int -/
def repS (z : Str) (n : Nat) : Str := ⟨(List.replicate n z.cps).foldl (· ++ ·) #[]⟩
theorem repS_len {z : Str} (h : z.length = 1) (n : Nat) : (repS z n).length = n := by
  have h1 : z.cps.toList.length = 1 := by rw [Array.length_toList]; exact h
  obtain ⟨c, hc⟩ : ∃ c, z.cps.toList = [c] := by
    match e : z.cps.toList, h1 with
    | [c], _ => exact ⟨c, rfl⟩
  have ez : z.cps = #[c] := by apply Array.toList_inj.mp; rw [hc]
  show (((List.replicate n z.cps).foldl (· ++ ·) #[]).size) = n
  rw [ez, ← Array.length_toList, PyProof.Rows.foldl_rep]
  simp
/-- none, one, or many times -/
def qRepS : R2 := fun x y H Q => ∃ (z : Str) (n : Int), x = .str z ∧ y = .int n ∧ ((n = 0 ∧ Q (.str Str.empty) H) ∨ (n = 1 ∧ Q (.str z) H) ∨ (2 ≤ n ∧ n ≤ 10000 ∧ z.length = 1 ∧ Q (.str (repS z n.toNat)) H))
theorem o_repS {X : Cx} : OpR X (binaryOp .Mult) qRepS := by
  intro pins s σ H x y v u Q I rx ry h
  obtain ⟨z, n, ex, ey, h⟩ := h
  subst ex; subst ey
  obtain ⟨t, rfl⟩ := rx
  obtain ⟨t', rfl⟩ := ry
  rcases h with ⟨hn, q⟩ | ⟨hn, q⟩ | ⟨h2, h3, hz, q⟩
  · subst hn
    exact PySem.P.mul_str_none (by decide) (by decide) ⟨.str Str.empty, H, I.tok _, ⟨_, rfl⟩, q⟩
  · subst hn
    refine PySem.P.mul_str (by decide) (fun _ e => ?_) (fun _ e => ?_) ?_
    · simp at e
    · simp at e
    · rw [if_neg (by decide), if_pos (by simp)]
      exact ⟨.str z, H, I, ⟨t, rfl⟩, q⟩
  · have c1 : (n == 1 || z.length == 0) = false := by
      rw [hz]
      have : (n == 1) = false := beq_eq_false_iff_ne.mpr (by omega)
      rw [this]; rfl
    refine PySem.P.mul_str ?_ (fun _ _ => ?_) (fun _ _ => ?_) ?_
    · rw [decide_eq_false (by omega), decide_eq_false (by omega)]; rfl
    · rw [hz]
      have h4 : (1 : Int) ≤ (2 ^ 63 - 1) / n := by
        rw [Int.le_ediv_iff_mul_le (by omega)]; omega
      omega
    · rw [hz, Nat.one_mul]
      unfold Builtin.Str.tooLong
      rw [sizeLine_eq]
      exact decide_eq_false (by omega)
    · rw [if_neg (by omega), c1]
      refine ⟨?_, ⟨.str (repS z n.toNat), H, I.tok _, ⟨_, rfl⟩, q⟩⟩
      show (repS z n.toNat).length ≤ sizeLine
      rw [repS_len hz, sizeLine_eq]
      omega

/-! ### t.index(z) -/
def qTupIx (K : PySem.W.Frag) : V → List V → Hp → VK → Prop := fun x xs H Q => ∃ p, ∃ ys : List Str, ∃ z j, x = .ref p ∧ xs = [.str z] ∧ SqT K H p (ys.map V.str) ∧ ys[j]? = some z ∧ (∀ m, m < j → ys[m]? ≠ some z) ∧ Q (.int (j : Nat)) H
theorem m_tupix {X : Cx} : MtR X "tuple.index" (qTupIx X.K) := mt_tup_index

/-! ### a list == [], != [] -/
def qEqNil (K : PySem.W.Frag) : R2 := fun x y H Q => ∃ a b xs, x = .ref a ∧ y = .ref b ∧ SqL K H a xs ∧ SqL K H b [] ∧ Q (.bl xs.isEmpty) H
def qNeNil (K : PySem.W.Frag) : R2 := fun x y H Q => ∃ a b xs, x = .ref a ∧ y = .ref b ∧ SqL K H a xs ∧ SqL K H b [] ∧ Q (.bl (!xs.isEmpty)) H
theorem o_eqNil {X : Cx} (hu : X.A.units < cLine) : OpR X (compareOp .Eq) (qEqNil X.K) := by
  intro pins s σ H x y v u Q I rx ry h
  obtain ⟨a, b, xs, ex, ey, ha, hb, q⟩ := h
  subst ex; subst ey
  obtain rfl : v = Value.ref a := rx
  obtain rfl : u = Value.ref b := ry
  obtain ⟨its, r1, p1, _⟩ := I.list ha
  obtain ⟨its2, r2, p2, _⟩ := I.list hb
  cases r2
  cases xs with
  | nil =>
    cases r1
    exact SeqAt.RcAt.lists (e := fun _ => true) p1.isList p2.isList rfl hu (fun j h1 _ => absurd h1 (by simp)) X.prog X.w X.xe (EP X pins σ Q) (fin_bl I q rfl)
  | cons z zs =>
    cases r1 with
    | cons _ _ => exact SeqAt.RcAt.lists_lengths p1.isList p2.isList (by simp) hu X.prog X.w X.xe (EP X pins σ Q) (fin_bl I q rfl)
theorem o_neNil {X : Cx} (hu : X.A.units < cLine) : OpR X (compareOp .NotEq) (qNeNil X.K) := by
  intro pins s σ H x y v u Q I rx ry h
  obtain ⟨a, b, xs, ex, ey, ha, hb, q⟩ := h
  subst ex; subst ey
  obtain rfl : v = Value.ref a := rx
  obtain rfl : u = Value.ref b := ry
  obtain ⟨its, r1, p1, _⟩ := I.list ha
  obtain ⟨its2, r2, p2, _⟩ := I.list hb
  cases r2
  cases xs with
  | nil =>
    cases r1
    exact SeqAt.RcNeAt.lists (e := fun _ => true) p1.isList p2.isList rfl hu (fun j h1 _ => absurd h1 (by simp)) X.prog X.w X.xe (EP X pins σ Q) (fin_bl I q rfl)
  | cons z zs =>
    cases r1 with
    | cons _ _ => exact SeqAt.RcNeAt.lists_lengths p1.isList p2.isList (by simp) hu X.prog X.w X.xe (EP X pins σ Q) (fin_bl I q rfl)

/-! ### two lists of texts -/
def qEqStrs (K : PySem.W.Frag) : R2 := fun x y H Q => ∃ (a b : Addr) (xs ys : List Str), x = .ref a ∧ y = .ref b ∧ SqL K H a (xs.map V.str) ∧ SqL K H b (ys.map V.str) ∧ Q (.bl (decide (xs = ys))) H
theorem strs_at {xs : List Str} {us : List Value} (r : Vals (xs.map V.str) us) {j : Nat} (h : j < us.toArray.size) : ∃ (z : Str) (t : Tok), xs[j]? = some z ∧ us.toArray[j] = .str z t := by
  have hl : j < xs.length := by
    have := r.length
    simp at this h
    omega
  obtain ⟨u, hu, t, e⟩ := r.get (x := .str xs[j]) (by rw [List.getElem?_map, List.getElem?_eq_getElem hl]; rfl)
  refine ⟨xs[j], t, List.getElem?_eq_getElem hl, ?_⟩
  have h' : j < us.length := by simpa using h
  rw [List.getElem?_eq_getElem h'] at hu
  simp only [List.getElem_toArray]
  rw [← e]
  exact Option.some.inj hu
theorem o_eqStrs {X : Cx} (hu : X.A.units < cLine) : OpR X (compareOp .Eq) (qEqStrs X.K) := by
  intro pins s σ H x y v u Q I rx ry h
  obtain ⟨a, b, xs, ys, ex, ey, ha, hb, q⟩ := h
  subst ex; subst ey
  obtain rfl : v = Value.ref a := rx
  obtain rfl : u = Value.ref b := ry
  obtain ⟨its, r1, p1, _⟩ := I.list ha
  obtain ⟨its2, r2, p2, _⟩ := I.list hb
  have l1 : xs.length = its.length := by simpa using r1.length
  have l2 : ys.length = its2.length := by simpa using r2.length
  by_cases hl : xs.length = ys.length
  · refine SeqAt.RcAt.lists (e := fun j => xs[j]? == ys[j]?) p1.isList p2.isList (by simp; omega) hu (fun j h1 h2 => ?_) X.prog X.w X.xe (EP X pins σ Q) (fin_bl I q ?_)
    · obtain ⟨z, t, e1, f1⟩ := strs_at r1 h1
      obtain ⟨z2, t2, e2, f2⟩ := strs_at r2 h2
      rw [f1, f2, e1, e2]
      have e3 : (some z == some z2) = (z == z2) := rfl
      rw [e3]
      exact SeqAt.EqAt.str_str _ _ _ _
    · rw [List.size_toArray, ← l1]
      by_cases e : xs = ys
      · subst e
        rw [decide_eq_true rfl]
        symm
        exact List.all_eq_true.mpr fun j _ => by simp
      · rw [decide_eq_false e]
        symm
        rw [Bool.eq_false_iff]
        intro all
        apply e
        apply List.ext_getElem? 
        intro j
        by_cases hj : j < xs.length
        · have := List.all_eq_true.mp all j (List.mem_range.mpr hj)
          simpa using this
        · rw [List.getElem?_eq_none (by omega), List.getElem?_eq_none (by omega)]
  · refine SeqAt.RcAt.lists_lengths p1.isList p2.isList (by simp; omega) hu X.prog X.w X.xe (EP X pins σ Q) (fin_bl I q ?_)
    rw [decide_eq_false (fun e => hl (by rw [e]))]
end WK
set_option Elab.async false
set_option linter.all false
set_option maxRecDepth 100000
set_option maxHeartbeats 4000000
namespace WK
open PySem PySem.Spec PyProof.Rows L2

abbrev boundsL : List Str := ["days", "miles", "turns"]
abbrev barredL : List Str := ["sort", "part", "own", "mended", "barred", "days", "miles", "turns", "endless", "whole", "in"]
/-! ### what of the module's text the derivations and readings ask -/
structure Tx (w : World) (K : PySem.W.Frag) (mg : Str → Option Value) : Prop where
  n_len : mg "len" = none
  n_isinstance : mg "isinstance" = none
  n_all : mg "all" = none
  n_sorted : mg "sorted" = none
  n_str : mg "str" = none
  n_int : mg "int" = none
  n_tuple : mg "tuple" = none
  n_list : mg "list" = none
  n_zip : mg "zip" = none
  n_range : mg "range" = none
  n_enumerate : mg "enumerate" = none
  n_bool : mg "bool" = none
  n_ValueError : mg "ValueError" = none
  n_KeyError : mg "KeyError" = none
  n_LookupError : mg "LookupError" = none
  n_OverflowError : mg "OverflowError" = none
  g_LETTERS : ∃ t, mg "LETTERS" = some (.str "abcdefghijklmnopqrstuvwxyz" t)
  g_FIGURES : ∃ t, mg "FIGURES" = some (.str "0123456789" t)
  g_MOST_LETTERS : ∃ t, mg "MOST_LETTERS" = some (.int 8 t)
  g_MOST_FIGURES : ∃ t, mg "MOST_FIGURES" = some (.int 7 t)
  g_MOST_PARTS : ∃ t, mg "MOST_PARTS" = some (.int 12 t)
  g_MOST_BARRED : ∃ t, mg "MOST_BARRED" = some (.int 30 t)
  g_BARRED_WORDS : mg "BARRED_WORDS" = some (.ref (He.ga K "BARRED_WORDS"))
  g_BOUNDS : mg "BOUNDS" = some (.ref (He.ga K "BOUNDS"))
  g_MOST_OF : mg "MOST_OF" = some (.ref (He.ga K "MOST_OF"))
  g_Promise : mg "Promise" = some (.ref (He.ga K "Promise"))
  g_Sort : mg "Sort" = some (.ref (He.ga K "Sort"))
  g_Reader : mg "Reader" = some (.ref (He.ga K "Reader"))
  g_SortReader : mg "SortReader" = some (.ref (He.ga K "SortReader"))
  g_BadValue : mg "BadValue" = some (.ref (He.ga K "BadValue"))
  g_BadText : mg "BadText" = some (.ref (He.ga K "BadText"))
  g_NoSuch : mg "NoSuch" = some (.ref (He.ga K "NoSuch"))
  g_OutOfOrder : mg "OutOfOrder" = some (.ref (He.ga K "OutOfOrder"))
  g_Full : mg "Full" = some (.ref (He.ga K "Full"))
  k_BARRED : ∀ H, SqT K H (He.ga K "BARRED_WORDS") (barredL.map V.str)
  k_BOUNDS : ∀ H, SqT K H (He.ga K "BOUNDS") (boundsL.map V.str)
  t_BOUNDS : ∀ H, tyV K "tuple" (.ref (He.ga K "BOUNDS")) H
  m_days : KDct K w (He.ga K "MOST_OF") "days" (.int 9999)
  m_miles : KDct K w (He.ga K "MOST_OF") "miles" (.int 1000000)
  m_turns : KDct K w (He.ga K "MOST_OF") "turns" (.int 1000000)
  cl_Promise : Cls K (He.ga K "Promise")
  cl_Sort : Cls K (He.ga K "Sort")
  cl_Reader : Cls K (He.ga K "Reader")
  cl_SortReader : Cls K (He.ga K "SortReader")
  na_limits : NoAttr K (He.ga K "Promise") "limits"
  na_called : NoAttr K (He.ga K "Sort") "called"
  na_promised : NoAttr K (He.ga K "Sort") "promised"
  na_part_rows : NoAttr K (He.ga K "Sort") "part_rows"
  na_barred_pairs : NoAttr K (He.ga K "Sort") "barred_pairs"
  na_all_words : NoAttr K (He.ga K "Reader") "all_words"
  na_on_row : NoAttr K (He.ga K "Reader") "on_row"
  na_taken : NoAttr K (He.ga K "Reader") "taken"
  na_heads : NoAttr K (He.ga K "SortReader") "heads"
  na_parts_read : NoAttr K (He.ga K "SortReader") "parts_read"
  na_pairs_read : NoAttr K (He.ga K "SortReader") "pairs_read"
  ha_P : PySem.W.findIn K (.ref (He.ga K "Promise")) "__class__" = some (some (.builtin "object.__class__"))
  ha_S : PySem.W.findIn K (.ref (He.ga K "Sort")) "__class__" = some (some (.builtin "object.__class__"))
  hn_c : PySem.W.specialIn K (.builtin "object.__class__") "__get__" = some (some (.builtin "getset_descriptor.__get__"))
  ht_c : PySem.W.takesIn K (.builtin "object.__class__") = some true
  hm_P : PySem.W.mroIn K (He.ga K "Promise") (.type "object") = some true
  hm_S : PySem.W.mroIn K (He.ga K "Sort") (.type "object") = some true
  is_PP : PySem.W.kitOne K (.ref (He.ga K "Promise")) (.ref (He.ga K "Promise")) = some true
  is_SS : PySem.W.kitOne K (.ref (He.ga K "Sort")) (.ref (He.ga K "Sort")) = some true
  is_LS : PySem.W.kitOne K (.type "list") (.ref (He.ga K "Sort")) = some false
  is_TS : PySem.W.kitOne K (.type "tuple") (.ref (He.ga K "Sort")) = some false
  is_II : PySem.W.kitOne K (.type "int") (.type "int") = some true
  is_NI : PySem.W.kitOne K (.type "NoneType") (.type "int") = some false
  is_IB : PySem.W.kitOne K (.type "int") (.type "bool") = some false
  is_StSt : PySem.W.kitOne K (.type "str") (.type "str") = some true
  is_NSt : PySem.W.kitOne K (.type "NoneType") (.type "str") = some false
  is_BSt : PySem.W.kitOne K (.type "bool") (.type "str") = some false
  is_ISt : PySem.W.kitOne K (.type "int") (.type "str") = some false
  is_LSt : PySem.W.kitOne K (.type "list") (.type "str") = some false
  is_TSt : PySem.W.kitOne K (.type "tuple") (.type "str") = some false
  is_DSt : PySem.W.kitOne K (.type "dict") (.type "str") = some false
  is_TT : PySem.W.kitOne K (.type "tuple") (.type "tuple") = some true
  is_LT : PySem.W.kitOne K (.type "list") (.type "tuple") = some false
  is_LL : PySem.W.kitOne K (.type "list") (.type "list") = some true
  is_TL : PySem.W.kitOne K (.type "tuple") (.type "list") = some false
end WK
set_option Elab.async false
set_option linter.all false
set_option maxRecDepth 100000
set_option maxHeartbeats 4000000
namespace WK
open PySem PySem.Spec PyProof.Rows L2

/-! ### str(o), o of an own class with __str__ -/
def qStrO (C : Addr) (sp : Sp) : List V → Hp → VK → Prop := fun xs H Q => ∃ a dx fs, xs = [.ref a] ∧ H a = some (.ins C dx fs) ∧ sp [.ref a] H (fun v H' => ∃ z, v = .str z ∧ Q (.str z) H') E0
theorem c_strO {X : Cx} {C : Addr} {sp : Sp} {ps : List Str} {k j : Nat} (c : Cls X.K C) (hr : Room j X.A) (hk : k + 2 ≤ j) (G : MetOk X.prog X.w X.K X.mg X.base k C "__str__" ps [] sp) (hx : Passes (L2.CX X.prog X.w) X E0) :
    CallR X (.type "str") (qStrO C sp) := by
  intro pins s σ H xs us Q I rv h
  obtain ⟨a, dx, fs, rfl, ha, hs⟩ := h
  obtain ⟨u, rfl, ru⟩ := rv.one
  cases ru
  obtain ⟨f, fd, ds, F, hm, hb, hd⟩ := G
  cases hd
  obtain ⟨mA, J, _⟩ := ins_get I.hok ha
  obtain ⟨od, J, _⟩ := J.look
  have hr2 : Room k X.A.in1.in1 := ((hr.mono hk).in1).in1
  have e0 : Env0 X.prog X.w X.K X.mg X.base X.A.in1.in1 X.stack s H := I.env0.in1.in1
  refine PySem.W.kso_call hr2.units0 I.kIn J hm.at_ hm.fn ?_
  have hl := F.len _ _ _ _ hs
  have r2 : Vals [V.ref a] [Value.ref a] := .cons rfl .nil
  refine wpAny_call (codeAny_mono (F.run X.A.in1.in1 X.stack s H ⟨[.ref a], []⟩ [.ref a] [.ref a] _ E0 hr2 e0 (by
    have := hb s [.ref a] I.kIn (by simpa using hl)
    simpa using this) r2 hs) fun r s' hq => ?_)
  cases r with
  | error e => exact hx pins σ H s e s' I hq
  | ok fl =>
    cases fl with
    | next => exact False.elim hq
    | brk => exact False.elim hq
    | cont => exact False.elim hq
    | ret u =>
      obtain ⟨v, H', I', rv', z, ev, q⟩ := I.after hq
      subst ev
      obtain ⟨t, rfl⟩ := rv'
      exact ⟨.str z, H', I', ⟨t, rfl⟩, q⟩

/-! ### t * n, n up to ten thousand -/
def qRepT (K : PySem.W.Frag) : R2 := fun x y H Q => ∃ l k xs, x = .ref l ∧ y = .int k ∧ SqT K H l xs ∧ xs ≠ [] ∧ 2 ≤ k ∧ k ≤ 10000 ∧ xs.length ≤ 10 ∧ ∀ p, H p = none → Q (.ref p) (upd H p (.tup (List.replicate k.toNat xs).flatten))
theorem o_repT {X : Cx} : OpR X (binaryOp .Mult) (qRepT X.K) := by
  intro pins s σ H x y v u Q I rx ry h
  obtain ⟨l, k, xs, rfl, rfl, hT, hne, h1, h2, hz, q⟩ := h
  cases rx
  obtain ⟨t, rfl⟩ := ry
  obtain ⟨its, r, ⟨⟨cls, dd, data, sl⟩, ho, hc, n, hd⟩, hs⟩ := I.tuple hT
  simp only at hc hd
  subst hc hd
  have hle : its.length = xs.length := r.length.symm
  have hi : its.toArray.isEmpty = false := by
    cases its with
    | nil => exact absurd (List.eq_nil_of_length_eq_zero hle.symm) hne
    | cons a b => rfl
  have hsz0 : its.toArray.size = xs.length := by rw [List.size_toArray, hle]
  have hm : ((its.toArray.size : Nat) : Int) * k ≤ 100000 := by
    rw [hsz0]
    have a1 : ((xs.length : Nat) : Int) * k ≤ 10 * k := Int.mul_le_mul_of_nonneg_right (by omega) (by omega)
    omega
  have flen : (List.replicate k.toNat its).flatten.length ≤ sizeLine := by
    rw [PyProof.Rows.lm_len_rep_flat, hle, sizeLine_eq]
    have a1 : k.toNat * xs.length ≤ 10000 * 10 := Nat.mul_le_mul (by omega) hz
    omega
  have c0 : (decide (k < -(2 ^ 63)) || decide (k ≥ 2 ^ 63)) = false := by
    rw [decide_eq_false (by omega), decide_eq_false (by omega)] <;> rfl
  have c1 : (its.toArray.isEmpty || k == 1) = false := by
    rw [hi, Bool.false_or]
    exact beq_eq_false_iff_ne.mpr (by omega)
  have c2 : (decide (k ≤ 0) || its.toArray.isEmpty) = false := by
    rw [hi, Bool.or_false]
    exact decide_eq_false (by omega)
  have c4 : Builtin.Tuple.tupleTooMany (((its.toArray.size : Nat) : Int) * k) = false := by
    unfold Builtin.Tuple.tupleTooMany
    rw [sizeLine_eq]
    exact decide_eq_false (by omega)
  refine wpAny_binaryOp_repeat_ref (T := "tuple") (U := "int") (by decide) ⟨_, ho, rfl⟩ (fun s' => typeIs_int s' k t) noFill_tuple_mul F.fills_int_mul F.slot_int_rmul repeat_tuple F.slot_int_index.lookup
    (call_meets F.slot_int_rmul (typeIs_int s k t) F.entry_int_rmul (F.args_int_rmul_2 _ _) (int_rmul_tuple k t l its.toArray n dd sl)
      ⟨ho, rfl, ⟨_, ho, rfl⟩, call_meets F.slot_tuple_mul ⟨_, ho, rfl⟩ F.entry_tuple_mul (F.args_tuple_mul_2 _ _) (tuple_mulW l its.toArray n dd sl k t c0 c1 c2 (by omega) c4 (by rw [size_rep, List.size_toArray]; exact flen)) ⟨ho, ?_⟩⟩)
  rw [size_rep]
  refine ⟨.ref s.heap.objs.size, _, I.laid (t' := s.toks) (o := .tup (List.replicate k.toNat xs).flatten) (fun b ob q => Heap.get?_push_of_some _ q) (Nat.le_refl _) ?_, rfl, q _ (I.hok.fresh (Nat.le_refl _))⟩
  refine ⟨?_, _, r.rep k.toNat, IsTup.new _ _⟩
  rw [← (r.rep k.toNat).length] at flen
  exact flen

/-! ### C.__init__(o, ..), a plain def read off its class -/
structure CIn (K : PySem.W.Frag) (C f : Addr) (mc : Value) : Prop where
  ga : PySem.W.specialIn K (.ref C) "__getattribute__" = some (some (.builtin "type.__getattribute__"))
  rd : PySem.W.readsIn K C mc = true
  at_ : PySem.W.findCls K (.ref C) mc "__init__" = some (.val (.ref f))
  kp : PySem.W.keepIn K (.ref f) = true
def ClsInit (P : Program) (w : World) (K : PySem.W.Frag) (mg : Str → Option Value) (base : Heap) (k : Nat) (x : Str) (C : Addr) (ps : List Str) (sp : Sp) : Prop :=
  ∃ f fd mc, FnOk P w K mg base (L2.CX P w) k f fd ps sp ∧ CIn K C f mc ∧ mg x = some (.ref C) ∧ Binds K fd ps []
section
variable {X : Cx} {k j : Nat} {x : Str} {C : Addr} {ps : List Str} {sp : Sp} {E : XK} {p pos apos : Pos} {e : Expr} {es : List Expr} {t : TA}
theorem pe_clsinit {pl : Sem Bool} (G : ClsInit X.prog X.w X.K X.mg X.base k x C ps sp) (hr : Room j X.A) (hk : k ≤ j) (hg : Gl X x) (hx : Passes (L2.CX X.prog X.w) X E) (ha : PA X (e :: es) t) (hdb : (x == ("__debug__" : Str)) = false := by decide)
    (hst : starEach (e :: es) X.env = (false, eval e X.env) :: starEach es X.env := by rfl) (hpl : (backTo pos (starEach es X.env)).any (·.1) = false := by rfl)
    (ht : eval (.Call (.Attribute (.Name x p) "__init__" apos) (e :: es) [] pos) X.env = (do
      let ov ← eval (.Name x p) X.env
      standAt apos.atName
      let (f, first) ← holding [ov] (getMethod ov "__init__" pl)
      callWith pos f first (backTo pos (starEach (e :: es) X.env)) (backToKw pos (keywordEach [] X.env))) := by rfl) :
    PE X (.Call (.Attribute (.Name x p) "__init__" apos) (e :: es) [] pos) (tCall sp [] E t) := by
  refine ⟨fun pins s σ H Q I h => ?_⟩
  obtain ⟨f, fd, mc, F, c, hm, hb⟩ := G
  rw [ht]
  refine wpAny_bind (ld_glob I hg hm (wpAny_bind (wpAny_standAt (wpAny_bind (wpAny_holding (PySem.W.method_cls I.kIn c.ga (PySem.W.cls_value I.kIn c.rd c.at_ rfl ?_)))))) hdb)
  refine PySem.W.callWith_K (first := []) (h₀ := X.base) I.ok.mod.kin c.kp (thn (ha.run pos pins _ σ H _ (I.tok _) h) fun us s2 ⟨vs, H2, I2, r, q2⟩ => ⟨I2.kIn, ?_⟩) hst hpl
  exact run_fn (us := us) (vs := vs) F (hr.mono hk) hb .nil hx I2 r q2
end
end WK
set_option Elab.async false
set_option linter.all false
set_option maxRecDepth 100000
set_option maxHeartbeats 4000000
namespace WK
open PySem PySem.Spec PyProof.Rows L2

/-! ### raise C(..), C an own class with a walked __init__ -/
def ExcOk (P : Program) (w : World) (K : PySem.W.Frag) (mg : Str → Option Value) (base : Heap) (k : Nat) (x : Str) (C : Addr) (ps : List Str) (sp : Sp) : Prop :=
  ∃ f fd, FnOk P w K mg base (L2.CX P w) k f fd ps sp ∧ OexC K C ∧ PySem.W.findIn K (.ref C) "__init__" = some (some (.ref f)) ∧ PySem.W.typeIn K (.ref f) = some (.type "function") ∧ mg x = some (.ref C) ∧ Binds K fd ps []
def tRz (C : Addr) (sp : Sp) (E : XK) (ta : TA) : TS := fun _ σ H => tMkO C sp [] ta σ H fun cls d H' => E cls d H'
theorem pmk_D {X : Cx} {k j : Nat} {x : Str} {C : Addr} {ps : List Str} {sp : Sp} {p pos : Pos} {e : Expr} {es : List Expr} {ta : TA} (G : ExcOk X.prog X.w X.K X.mg X.base k x C ps sp) (hr : Room j X.A) (hk : k + 1 ≤ j) (hg : Gl X x) (ha : PA X (e :: es) ta) (hdb : (x == ("__debug__" : Str)) = false := by decide)
    (he : starEach (e :: es) X.env = (false, eval e X.env) :: starEach es X.env := by rfl) (hpl : (backTo pos (starEach es X.env)).any (·.1) = false := by rfl) : PMk X (.Call (.Name x p) (e :: es) [] pos) (tMkO C sp [] ta) := by
  obtain ⟨f, fd, F, T, iC, tI, hm, hb⟩ := G
  exact pmk_oex T iC tI F (hr.mono hk) hb .nil passL hg hm ha hdb he hpl

/-! ### a caught exception that is kept -/
def ExK (cls : Value) (d : Option Addr) (a : Addr) : HO := .ext fun h => ∃ (oe : Obj) (vs : Array Value), h.get? a = some oe ∧ Zc cls d oe ∧ oe.data = .fields vs
theorem exK_ok {P : Program} {w : World} {H : Hp} {h : Heap} {a : Addr} {cls : Value} {d : Option Addr} {oe : Obj} {vs : Array Value} (e : h.get? a = some oe) (z : Zc cls d oe) (hd : oe.data = .fields vs) : ObjOk P w H h a (ExK cls d a) :=
  ⟨⟨oe, vs, e, z, hd⟩, ⟨oe, e⟩, fun _ _ ⟨o, v, q, r⟩ k => ⟨o, v, k o q, r⟩⟩
theorem exK_at {P : Program} {w : World} {H : Hp} {h : Heap} {a : Addr} {cls : Value} {d : Option Addr} (hok : HOk P w H h) (e : H a = some (ExK cls d a)) : ∃ (oe : Obj) (vs : Array Value), h.get? a = some oe ∧ Zc cls d oe ∧ oe.data = .fields vs := by
  have x : ObjOk P w H h a (.ext fun h => ∃ (oe : Obj) (vs : Array Value), h.get? a = some oe ∧ Zc cls d oe ∧ oe.data = .fields vs) := hok a _ e
  exact x.1
section
variable {X : Cx} {pins : List (Addr × Obj)} {σ : L2.St} {H : Hp} {s : Shared}
theorem track {a : Addr} {cls : Value} {d : Option Addr} {oe : Obj} {vs : Array Value} (I : Inv X pins σ H s) (ha : s.heap.get? a = some oe) (hz : Zc cls d oe) (hd : oe.data = .fields vs) (na : H a = none) (nL : a ≠ X.env.locals) (n0 : X.s_0.heap.get? a = none)
    (nC : ∀ x c, X.env.cells.lookup x = some c → c ≠ a) (np : ∀ p ∈ X.pn ++ pins, p.1 ≠ a) : Inv X pins σ (upd H a (ExK cls d a)) s := by
  have sm : ∀ b u, H b = some u → b ≠ a := fun b u e => ne_of_none e na
  refine ⟨I.ok, I.os, I.bare, ⟨I.base.keep, I.base.slot, fun b o e n hx => ?_, I.base.there, fun b xs e => ?_, fun b o u e => ?_, fun b ps e => ?_⟩, I.loc, I.cell, ?_, fun x c e => ?_, fun p hp => ?_, fun b u e => ?_, I.len⟩
  · rw [upd_ne (fun z => by rw [z, n0] at e; cases e)]
    exact I.base.free b o e n hx
  · have q := I.base.tups b xs e
    rw [upd_ne (sm b _ q)]; exact q
  · have q := I.base.frzs b o u e
    rw [upd_ne (sm b _ q)]; exact q
  · obtain ⟨m, q⟩ := I.base.tbls b ps e
    exact ⟨m, by rw [upd_ne (sm b _ q)]; exact q⟩
  · rw [upd_ne (Ne.symm nL)]; exact I.free
  · rw [upd_ne (nC x c e)]; exact I.freeC x c e
  · obtain ⟨e, n, ne, nf, dd⟩ := I.pin p hp
    exact ⟨e, by rw [upd_ne (np p hp)]; exact n, ne, nf, dd⟩
  · by_cases hb : b = a
    · subst hb
      rw [upd_same] at e
      cases e
      exact exK_ok ha hz hd
    · rw [upd_ne hb] at e
      exact (I.hok b u e).stay (fun c v _ q => q) (fun c q => by rw [upd_ne (sm c _ q)]; exact q) fun c xs q => by rw [upd_ne (sm c _ q)]; exact q
theorem toSuite {a : Addr} (I : Inv X pins σ H s) : Inv (X.suite a (X.pn ++ pins)) [] σ H s :=
  ⟨I.ok.suite _ _, I.os, I.bare, I.base, I.loc, I.cell, I.free, I.freeC, fun p hp => I.pin p (by rw [List.append_nil] at hp; exact hp), I.hok, I.len⟩
theorem ofSuite {a : Addr} {pn' : List (Addr × Obj)} (I : Inv (X.suite a (X.pn ++ pins)) pn' σ H s) (ok : X.Ok) : Inv X pins σ H s :=
  ⟨ok, I.os, I.bare, I.base, I.loc, I.cell, I.free, I.freeC, fun p hp => I.pin p (List.mem_append_left _ hp), I.hok, I.len⟩
end
theorem flying_keeps {base h h' : Heap} {l : List Env} {e : Addr} {Z : Obj → Prop} (x : HandSPX.FlyingZ base l e Z h) (k : ∀ b o, h.get? b = some o → h'.get? b = some o) : HandSPX.FlyingZ base l e Z h' := by
  obtain ⟨f1, f2, f3, oe, vs, T, oT, ts, he, hz, hd, h1, hn, hne, hT, hdT, h3⟩ := x
  exact ⟨fun b o q => k b o (f1 b o q), f2, f3.of_keeps fun b o q _ => ⟨o, k b o q, rfl⟩, oe, vs, T, oT, ts, k _ _ he, hz, hd, h1, hn, hne, k _ _ hT, hdT, h3⟩

/-- the class of the exception is one of cs: its object stands in slot i and is known from now on -/
def wKeep (K : PySem.W.Frag) (cs : List Value) (i : Nat) (ts : TS) (D : Ends) : WX := fun cls d σ H =>
  PySem.W.exmAny K cls cs = some true ∧ ∀ a, H a = none → ts { nx := fun σ' H' => D.nx (σ'.set i none) H', rt := D.rt, bk := fun σ' H' => D.bk (σ'.set i none) H', ct := fun σ' H' => D.ct (σ'.set i none) H' } (σ.set i (some (.ref a))) (upd H a (ExK cls d a))
def tTry (K : PySem.W.Frag) (cs : List Value) (i : Nat) (tb : WX → TS) (ts : TS) : TS := fun D σ H => tb (wKeep K cs i ts D) D σ H
section
variable {X : Cx} {n x1 x2 x3 x4 : Str} {c1 c2 c3 c4 : Value} {i kk : Nat} {body suite : List Stmt} {b₀ : Stmt} {p1 p2 p3 p4 tp pos pos' : Pos} {tb : WX → TS} {ts : TS}
theorem ps_try_keep (hs : X.stack = X.env :: X.outer) (hf : X.env.frame = some X.env.locals) (hex : X.ex = []) (hN : X.N.Nodup) (hi : X.N[i]? = some n) (hln : X.env.kindOf n = some .local)
    (g1 : Gl X x1) (m1 : X.mg x1 = some c1) (g2 : Gl X x2) (m2 : X.mg x2 = some c2) (g3 : Gl X x3) (m3 : X.mg x3 = some c3) (g4 : Gl X x4) (m4 : X.mg x4 = some c4)
    (hb : ∀ (W : WX) (pn : List (Addr × Obj)) (xe : Value → Shared → Prop), Takes (X.tr pn xe) W → PassesOwn (model X.prog X.w) X.A X.env xe → PSs (X.tr pn xe) body (tb W))
    (hsu : ∀ (a : Addr) (pn : List (Addr × Obj)), PSs (X.suite a pn) (b₀ :: suite) ts)
    (d1 : (x1 == ("__debug__" : Str)) = false := by decide) (d2 : (x2 == ("__debug__" : Str)) = false := by decide) (d3 : (x3 == ("__debug__" : Str)) = false := by decide) (d4 : (x4 == ("__debug__" : Str)) = false := by decide) :
    PS X (.Try body [.ExceptHandler (some (.Tuple [.Name x1 p1, .Name x2 p2, .Name x3 p3, .Name x4 p4] kk tp)) (some n) (b₀ :: suite) pos'] [] [] pos) (tTry X.K [c1, c2, c3, c4] i tb ts) := by
  refine ⟨fun pins s σ H D I h => ?_⟩
  have ok := I.ok
  have hfr : X.A.frames = some (X.env :: X.outer) := by rw [ok.frames, hs]
  have hloc : Loc X.env.scope n := .inl hln
  refine wpAny_Try_except ?_
  refine wpAny_mono ((hb (wKeep X.K [c1, c2, c3, c4] i ts D) (X.pn ++ pins) (fun e s₁ => wpAny (model X.prog X.w) X.A (noteFrame e X.env) (fun _ s₂ => wpAny (model X.prog X.w) X.A (setFlight e none) (fun _ s₃ =>
    wpAny (model X.prog X.w) X.A (handleBy e X.env [.ExceptHandler (some (.Tuple [.Name x1 p1, .Name x2 p2, .Name x3 p3, .Name x4 p4] kk tp)) (some n) (b₀ :: suite) pos']) (SP X pins D) X.xe s₃) X.xe s₂) X.xe s₁) (fun u s' xx => ?_) PassesOwn.looking).run [] s σ H D (I.toTry _) h) (fun f s1 hsp => ?_) (fun e s1 he => he)
  · obtain ⟨a, B, sI, pins', σ', H', cls, d, rfl, J', nb, up, sky, na, os, ag, hx, hyes⟩ := xx
    have J : Inv X pins σ' H' sI := J'.ofTry ok
    have sky' : Sky B (X.env :: X.outer) a (Zc cls d) X.env.locals s'.heap := by rw [← hs]; exact sky
    show wpAny (model X.prog X.w) X.A (noteFrame (.ref a) X.env) _ _ _
    refine Sky.land Zc.steady hfr hf sky' fun h3 fl3 up3 => ?_
    have J3 : Inv X pins σ' H' { s' with heap := h3 } := J.landed nb fl3.1 (up.trans up3) os ag
    obtain ⟨oe3, vs3, he3, hz3, hd3⟩ := fl3.there
    have notFr : ∀ {h : Heap} {o : Obj} {vs : Array Value}, h.FunFrames B (X.env :: X.outer) → h.get? a = some o → o.data = .fields vs → a ∉ frs (X.env :: X.outer) := fun {h o vs} ff e dd hm => by
      obtain ⟨_, o', e', hnf⟩ := ff.mem hm
      rw [e] at e'; cases e'
      exact hnf _ dd
    have nfr := notFr fl3.2.2.1 he3 hd3
    have nL : a ≠ X.env.locals := fun z => nfr (List.mem_filterMap.mpr ⟨X.env, List.mem_cons_self, by rw [hf, z]⟩)
    have noI : sI.heap.get? a = none := by
      cases q : sI.heap.get? a with
      | none => rfl
      | some o =>
        have z := nb a o q (by rw [hs]; exact nfr)
        rw [fl3.2.1] at z; cases z
    have n0 : X.s_0.heap.get? a = none := by
      cases q : X.s_0.heap.get? a with
      | none => rfl
      | some o =>
        obtain ⟨o', z⟩ := J.base.there a o q (by rw [hex]; exact fun z => nomatch z)
        rw [noI] at z; cases z
    have nC : ∀ x c, X.env.cells.lookup x = some c → c ≠ a := fun x c e z => by
      obtain ⟨v, o, q, _⟩ := J.cell x c e
      rw [z, noI] at q; cases q
    have np : ∀ p ∈ X.pn ++ pins, p.1 ≠ a := fun p hp z => by
      have q := (J.pin p hp).1
      rw [z, noI] at q; cases q
    refine wpAny_handleBy_cons (codeAny_handlers_test ?_) (by intro q; cases q)
    have S3 : Inv (X.suite a (X.pn ++ pins)) [] σ' H' { s' with heap := h3 } := toSuite J3
    refine wpAny_Tuple ?_
    refine wpAny_items_cons (ld_glob (X := X.suite a (X.pn ++ pins)) S3 g1 m1 ?_ d1)
    refine wpAny_items_cons (ld_glob (X := X.suite a (X.pn ++ pins)) S3 g2 m2 ?_ d2)
    refine wpAny_items_cons (ld_glob (X := X.suite a (X.pn ++ pins)) S3 g3 m3 ?_ d3)
    refine wpAny_items_cons (ld_glob (X := X.suite a (X.pn ++ pins)) S3 g4 m4 ?_ d4)
    refine wpAny_items_nil ⟨by size_fits, ?_⟩
    have kp : ∀ q o, h3.get? q = some o → (h3.push { cls := .type "tuple", data := .seq [c1, c2, c3, c4].toArray }).get? q = some o := fun _ _ z => Heap.get?_push_of_some _ z
    have LT : PySem.W.Looks (model X.prog X.w) (h3.push { cls := .type "tuple", data := .seq [c1, c2, c3, c4].toArray }) (typeOf (.ref a)) cls := fun A Q E s k q => wpAny_typeOf_ref (k _ _ (kp _ _ he3)) (by rw [hz3.1]; exact q)
    have LM := PySem.W.exm_tup4 (M := model X.prog X.w) (J3.kIn.keeps kp) LT (Heap.get?_push_size h3 rfl) hx
    refine LM.here ?_
    have fl3' := flying_keeps fl3 kp
    have upP : h3.UpToSlots (h3.push { cls := .type "tuple", data := .seq [c1, c2, c3, c4].toArray }) := Heap.UpToSlots.of_keeps kp
    refine codeAny_handlers_suite_as ?_
    refine HandSPX.lands_againZ fl3' fun h4 fl4 up4 => ?_
    have J4 : Inv X pins σ' H' { s' with heap := h4 } := J.landed nb fl4.1 (((up.trans up3).trans upP).trans up4) os ag
    obtain ⟨oe4, vs4, he4, hz4, hd4⟩ := fl4.there
    have S4 : Inv (X.suite a (X.pn ++ pins)) [] σ' (upd H' a (ExK cls d a)) { s' with heap := h4 } := toSuite (track J4 he4 hz4 hd4 na nL n0 nC np)
    refine store_ok (X := X.suite a (X.pn ++ pins)) (v := .ref a) S4 hN hi hloc rfl (fun s5 S5 => ?_) (.inr hln)
    refine wpAny_mono ((hsu a (X.pn ++ pins)).run [] s5 _ _ _ S5 (hyes a na)) (fun f s6 hsp => ?_) (fun _ _ z => False.elim z)
    have end_ : ∀ {σ6 : L2.St} {H6 : Hp} {Q : Shared → Prop}, Inv (X.suite a (X.pn ++ pins)) [] σ6 H6 s6 → (∀ s7, Inv X pins (σ6.set i none) H6 s7 → Q s7) →
        wpAny (model X.prog X.w) X.A (do bindName X.env n .none; unbindBehindTheSuite X.env n pos') (fun _ s7 => Q s7) X.xe s6 := fun {σ6 H6 Q} S6 hq => gone_ok (ofSuite S6 ok) hN hi hln hq
    cases f with
    | next =>
      obtain ⟨σ6, H6, S6, q6⟩ := hsp
      exact end_ S6 fun s7 J7 => ⟨_, _, J7, q6⟩
    | brk =>
      obtain ⟨σ6, H6, S6, q6⟩ := hsp
      exact end_ S6 fun s7 J7 => ⟨_, _, J7, q6⟩
    | cont =>
      obtain ⟨σ6, H6, S6, q6⟩ := hsp
      exact end_ S6 fun s7 J7 => ⟨_, _, J7, q6⟩
    | ret u =>
      obtain ⟨v6, σ6, H6, S6, r6, q6⟩ := hsp
      exact end_ S6 fun s7 J7 => ⟨_, _, _, J7, r6, q6⟩
  · cases f with
    | next =>
      obtain ⟨σ', H', J', q⟩ := hsp
      exact wpAny_execs_nil ⟨σ', H', J'.ofTry ok, q⟩
    | brk =>
      obtain ⟨σ', H', J', q⟩ := hsp
      exact ⟨σ', H', J'.ofTry ok, q⟩
    | cont =>
      obtain ⟨σ', H', J', q⟩ := hsp
      exact ⟨σ', H', J'.ofTry ok, q⟩
    | ret u =>
      obtain ⟨v, σ', H', J', r, q⟩ := hsp
      exact ⟨v, σ', H', J'.ofTry ok, r, q⟩
end

/-! ### isinstance of it, its fields -/
structure XcC (K : PySem.W.Frag) (D : Addr) : Prop where
  cl : (PySem.W.clsIn K D).isSome = true
  ga : PySem.W.findIn K (.ref D) "__getattribute__" = some (some (.builtin "BaseException.__getattribute__"))
  gg : PySem.W.findIn K (.ref D) "__getattr__" = some none
  sb : PySem.W.subIn K (.ref D) (.type "BaseException") = some true
  hd : PySem.W.hasDictIn K D = true
  ha : PySem.W.findIn K (.ref D) "__class__" = some (some (.builtin "object.__class__"))
  hn : PySem.W.specialIn K (.builtin "object.__class__") "__get__" = some (some (.builtin "getset_descriptor.__get__"))
  ht : PySem.W.takesIn K (.builtin "object.__class__") = some true
  hm : PySem.W.mroIn K D (.type "object") = some true
def qIsx (K : PySem.W.Frag) : List V → Hp → VK → Prop := fun xs H Q => ∃ (a D dx : Addr) (fs : List (Str × V)) (c : V) (cv : Value) (b : Bool), xs = [.ref a, c] ∧ H a = some (ExK (.ref D) (some dx) a) ∧ H dx = some (.xd fs) ∧ XcC K D ∧ ClsV c cv ∧ PySem.W.kitOne K (.ref D) cv = some b ∧ Q (.bl b) H
section
variable {X : Cx}
theorem kept_at {pins : List (Addr × Obj)} {σ : L2.St} {H : Hp} {s : Shared} {a D dx : Addr} {fs : List (Str × V)} (I : Inv X pins σ H s) (ha : H a = some (ExK (.ref D) (some dx) a)) (hd : H dx = some (.xd fs)) :
    ∃ (oe od : Obj) (mA : Str → Option Value), PySem.W.InstAt s.heap a oe D (some od) ∧ (∀ n, PySem.W.lookIn n od = some (mA n)) ∧ ∀ f, RelO (fs.lookup f) (mA f) := by
  obtain ⟨oe, vs, e, hz, hv⟩ := exK_at I.hok ha
  have hx : ObjOk X.prog X.w H s.heap dx (.xd fs) := I.hok dx _ hd
  obtain ⟨mA, hns, hr⟩ := hx
  obtain ⟨od, ho, hl⟩ := lookIn_ns hns
  exact ⟨oe, od, mA, ⟨e, hz.1, by unfold PySem.W.notCls; rw [hv] <;> rfl, by rw [hz.2]; exact ho⟩, hl, hr⟩
theorem c_isx : CallR X (.builtin "isinstance") (qIsx X.K) := by
  intro pins s σ H xs us Q I r h
  obtain ⟨a, D, dx, fs, c, cv, b, rfl, ha, hd, C, k, e, q⟩ := h
  obtain ⟨u1, u2, rfl, r1, r2⟩ := vals2 r
  cases r1
  have e2 := k.eq r2
  subst e2
  obtain ⟨oe, od, mA, J, _⟩ := kept_at I ha hd
  exact PySem.W.kia_one (PySem.W.kitx_exc (od := some od) (ox := oe) C.cl C.ga C.gg C.sb C.ha C.hn C.ht C.hm) I.kIn J e (fun z => nomatch z) fun tk => ⟨.bl b, H, I.tok tk, rfl, q⟩
def tXFld (K : PySem.W.Frag) (ta : TE) (f : Str) : TE := fun σ H Q => ta σ H fun x H1 => ∃ (a D dx : Addr) (fs : List (Str × V)) (v : V), x = .ref a ∧ H1 a = some (ExK (.ref D) (some dx) a) ∧ H1 dx = some (.xd fs) ∧ XcC K D ∧ PySem.W.findIn K (.ref D) f = some none ∧ fs.lookup f = some v ∧ Q v H1
theorem pe_xfld {e : Expr} {ta : TE} {f : Str} {pos : Pos} (he : PE X e ta) (hb : attributeBase e f X.env (eval e X.env) = eval e X.env := by rfl) : PE X (.Attribute e f pos) (tXFld X.K ta f) := by
  refine ⟨fun pins s σ H Q I h => ?_⟩
  refine attr_of hb (thn (he.run pins s σ H _ I h) fun u s1 hh => ?_)
  obtain ⟨x, H1, I1, rx, a, D, dx, fs, v, ex, ha, hd, C, hno, l, q⟩ := hh
  subst ex
  obtain rfl : u = Value.ref a := rx
  obtain ⟨oe, od, mA, J, hl, hr⟩ := kept_at I1 ha hd
  obtain ⟨u, hu, ru⟩ := RelO.some_of (v := v) (o := mA f) (by rw [← l]; exact hr f)
  exact HandSPX.exc_get I1.kIn J C.ga C.gg C.sb (PySem.W.findObj_own C.hd hno rfl (by rw [hl, hu])) (handed_of ru) ⟨v, H1, I1.tok _, ru, q⟩
end
end WK
set_option Elab.async false
set_option linter.all false
set_option maxRecDepth 100000
set_option maxHeartbeats 4000000
namespace WK
open PySem PySem.Spec PyProof.Rows L2

/-! ### zip of two tuples: next while the pair given before is still there -/
section
variable {prog : Program} {w : World} {A : Around} {E : Value → Shared → Prop} {s : Shared}
theorem znext {z TI TO T p q a b : Addr} {f : Bool} {oT : Obj} {k : Nat} {xs ys : Array Value} {x y : Value} {Q : Value → Shared → Prop} (D : ZipApart z TI TO p q a b)
    (hz : IsZipHeld s.heap z TI TO T f) (hT : s.heap.get? T = some oT) (hP : IsPair s.heap TI (.ref p) (.ref q)) (g1 : s.heap.IsTupleIter p a k) (g2 : s.heap.IsTupleIter q b k) (ta : s.heap.IsTuple a xs) (tb : s.heap.IsTuple b ys) (ex : xs[k]? = some x) (ey : ys[k]? = some y)
    (hQ : ∀ h', IsZipHeld h' z TI TO T true → h'.IsTupleIter p a (k + 1) → h'.IsTupleIter q b (k + 1) → IsPair h' s.heap.objs.size x y → (∀ c o, c ≠ z → c ≠ p → c ≠ q → s.heap.get? c = some o → h'.get? c = some o) → Q (.ref s.heap.objs.size) { s with heap := h' }) :
    wpAny (model prog w) A (Builtin.«zip.__next__» ⟨[.ref z], []⟩) (fun fin s' => ∃ v, fin = .done (.ret v) ∧ Q v s') E s := by
  show wpAny (model prog w) A (field (.ref z) 2 >>= _) _ E s
  refine wpAny_bind (wpAny_field (x := .bool false) hz rfl rfl ?_)
  show wpAny (model prog w) A (field (.ref z) 3 >>= _) _ E s
  refine wpAny_bind (wpAny_field (x := .ref TI) hz rfl rfl (wpAny_bind (wpAny_seqItems hP rfl ?_)))
  show wpAny (model prog w) A (Builtin.SmallTypes.ownedTupleIsFree (.ref z) >>= _) _ E _
  refine wpAny_bind (wpAny_tupleHeld_zip hz hT fun u1 z1 b1 => ?_)
  simp only [Bool.false_eq_true, if_false]
  refine wpAny_bind ?_
  rw [← Array.forIn_toList]
  simp only [List.forIn_cons, List.forIn_nil]
  refine wpAny_bind (wpAny_bind (wpAny_holding ?_))
  show wpAny (model prog w) A (Builtin.SmallTypes.nextOf (.ref p) >>= _) _ E _
  refine wpAny_bind (RZ.nextOf_tuple_item (s := { s with heap := u1 }) (g1.extBut b1.extBut D.i1z) (ta.extBut b1.extBut D.l1z) ex fun u2 y1 b2 => wpAny_pure (wpAny_pure ?_))
  refine wpAny_bind (wpAny_bind (wpAny_holding ?_))
  show wpAny (model prog w) A (Builtin.SmallTypes.nextOf (.ref q) >>= _) _ E _
  refine wpAny_bind (RZ.nextOf_tuple_item (s := { s with heap := u2 }) ((g2.extBut b1.extBut D.i2z).extBut b2.extBut D.i12.symm) ((tb.extBut b1.extBut D.l2z).extBut b2.extBut D.l2i1) ey fun u3 y2 b3 => wpAny_pure (wpAny_pure (wpAny_pure ?_)))
  show wpAny (model prog w) A (newTuple [x, y] >>= _) _ E _
  refine wpAny_bind (wpAny_newTuple ?_)
  have sz : u3.objs.size = s.heap.objs.size := (b3.1.trans b2.1).trans b1.1
  have z3 : IsZipHeld u3 z TI TO T true := b3.extBut _ _ D.i2z.symm (b2.extBut _ _ D.i1z.symm z1)
  have kp : ∀ c o, c ≠ z → c ≠ p → c ≠ q → s.heap.get? c = some o → u3.get? c = some o := fun c o e1 e2 e3 e => b3.extBut _ _ e3 (b2.extBut _ _ e2 (b1.extBut _ _ e1 e))
  have y1' : u3.IsTupleIter p a (k + 1) := y1.extBut b3.extBut D.i12
  refine wpAny_pure ⟨_, rfl, ?_⟩
  show Q (.ref u3.objs.size) _
  have np : IsPair (u3.push { cls := .type "tuple", data := .seq #[x, y] }) u3.objs.size x y := Heap.get?_push_size _ rfl
  rw [sz] at np ⊢
  exact hQ _ (Heap.get?_push_of_some _ z3) (y1'.at fun o e => Heap.get?_push_of_some _ e) (y2.at fun o e => Heap.get?_push_of_some _ e) np fun c o e1 e2 e3 e => Heap.get?_push_of_some _ (kp c o e1 e2 e3 e)
theorem zend {z TI TO T p q a b : Addr} {f : Bool} {oT : Obj} {k : Nat} {xs ys : Array Value} {Q : Fin → Shared → Prop} (hh : A.handled = none) (D : ZipApart z TI TO p q a b)
    (hz : IsZipHeld s.heap z TI TO T f) (hT : s.heap.get? T = some oT) (hP : IsPair s.heap TI (.ref p) (.ref q)) (g1 : s.heap.IsTupleIter p a k) (ta : s.heap.IsTuple a xs) (ex : xs[k]? = none)
    (hE : ∀ h' e, (∀ c o, c ≠ z → c ≠ p → s.heap.get? c = some o → h'.get? c = some o) → (∃ o, h'.get? e = some o ∧ o.cls = .type "StopIteration") → E (.ref e) { s with heap := h' }) :
    wpAny (model prog w) A (Builtin.«zip.__next__» ⟨[.ref z], []⟩) Q E s := by
  show wpAny (model prog w) A (field (.ref z) 2 >>= _) _ E s
  refine wpAny_bind (wpAny_field (x := .bool false) hz rfl rfl ?_)
  show wpAny (model prog w) A (field (.ref z) 3 >>= _) _ E s
  refine wpAny_bind (wpAny_field (x := .ref TI) hz rfl rfl (wpAny_bind (wpAny_seqItems hP rfl ?_)))
  show wpAny (model prog w) A (Builtin.SmallTypes.ownedTupleIsFree (.ref z) >>= _) _ E _
  refine wpAny_bind (wpAny_tupleHeld_zip hz hT fun u1 z1 b1 => ?_)
  simp only [Bool.false_eq_true, if_false]
  refine wpAny_bind ?_
  rw [← Array.forIn_toList]
  simp only [List.forIn_cons, List.forIn_nil]
  refine wpAny_bind (wpAny_bind (wpAny_holding ?_))
  show wpAny (model prog w) A (Builtin.SmallTypes.nextOf (.ref p) >>= _) _ E _
  refine wpAny_bind (RZ.nextOf_tuple_end (s := { s with heap := u1 }) hh (g1.extBut b1.extBut D.i1z) (ta.extBut b1.extBut D.l1z) ex fun u2 e b2 he => hE u2 e (fun c o e1 e2 h => b2 _ _ e2 (b1.extBut _ _ e1 h)) he)
theorem zpyNext {z TI TO T p q a b : Addr} {f : Bool} {oT : Obj} {k : Nat} {xs ys : Array Value} {x y : Value} {Q : Option Value → Shared → Prop} (D : ZipApart z TI TO p q a b)
    (hz : IsZipHeld s.heap z TI TO T f) (hT : s.heap.get? T = some oT) (hP : IsPair s.heap TI (.ref p) (.ref q)) (g1 : s.heap.IsTupleIter p a k) (g2 : s.heap.IsTupleIter q b k) (ta : s.heap.IsTuple a xs) (tb : s.heap.IsTuple b ys) (ex : xs[k]? = some x) (ey : ys[k]? = some y)
    (hQ : ∀ h', IsZipHeld h' z TI TO T true → h'.IsTupleIter p a (k + 1) → h'.IsTupleIter q b (k + 1) → IsPair h' s.heap.objs.size x y → (∀ c o, c ≠ z → c ≠ p → c ≠ q → s.heap.get? c = some o → h'.get? c = some o) → Q (some (.ref s.heap.objs.size)) { s with heap := h' }) :
    wpAny (model prog w) A (pyNext (.ref z)) Q E s := by
  have ty : s.TypeIs (.ref z) "zip" := ⟨_, hz, rfl⟩
  unfold pyNext
  exact wpAny_bind (wpAny_attempt (wpAny_callSpecial?_slot (name := Str.ofString "__next__") ty F.slot_zip_next (wpAny_call_entry F.slot_zip_next ty F.entry_zip_next (znext D hz hT hP g1 g2 ta tb ex ey fun h' q1 q2 q3 q4 q5 => wpAny_pure (hQ h' q1 q2 q3 q4 q5)) (F.args_zip_next_1 _))))
theorem zpyEnd {z TI TO T p q a b : Addr} {f : Bool} {oT : Obj} {k : Nat} {xs : Array Value} {Q : Option Value → Shared → Prop} (hh : A.handled = none) (D : ZipApart z TI TO p q a b)
    (hz : IsZipHeld s.heap z TI TO T f) (hT : s.heap.get? T = some oT) (hP : IsPair s.heap TI (.ref p) (.ref q)) (g1 : s.heap.IsTupleIter p a k) (ta : s.heap.IsTuple a xs) (ex : xs[k]? = none)
    (hQ : ∀ h', (∀ c o, c ≠ z → c ≠ p → s.heap.get? c = some o → h'.get? c = some o) → Q none { s with heap := h' }) : wpAny (model prog w) A (pyNext (.ref z)) Q E s := by
  have ty : s.TypeIs (.ref z) "zip" := ⟨_, hz, rfl⟩
  unfold pyNext
  refine wpAny_bind (wpAny_attempt (wpAny_callSpecial?_slot (name := Str.ofString "__next__") ty F.slot_zip_next (wpAny_call_entry F.slot_zip_next ty F.entry_zip_next (zend (ys := #[]) hh D hz hT hP g1 ta ex fun h' e kk he => ?_) (F.args_zip_next_1 _))))
  obtain ⟨o, ho, hc⟩ := he
  exact wpAny_bind (wpAny_isInstance (T := "StopIteration") (b := true) ⟨o, ho, hc⟩ isSubtype_stop (wpAny_pure (hQ _ kk)))
end
theorem zip_nolen : typeLookup (.type "zip") "__len__" = pure none := am_miss_of_fast (by decide +kernel)
theorem zip_nohint : typeLookup (.type "zip") "__length_hint__" = pure none := am_miss_of_fast (by decide +kernel)
theorem zip_hint {M : Model} {A : Around} {E : Value → Shared → Prop} {Q : Bool → Shared → Prop} {s : Shared} {z : Addr} (hT : s.TypeIs (.ref z) "zip") (h : Q true s) : wpAny M A (Builtin.List.listLengthHint (.ref z)) Q E s := by
  unfold Builtin.List.listLengthHint
  refine wpAny_bind (wpAny_specialOf hT zip_nolen ?_)
  refine PySem.W.KFB.if_not rfl ?_
  refine PySem.W.KFB.if_not rfl ?_
  refine wpAny_bind (wpAny_specialOf hT zip_nohint ?_)
  exact wpAny_pure h

/-- the zip's own state: k pairs are given -/
structure ZSt (h : Heap) (H : Hp) (z TI TO p q a b : Addr) (k : Nat) : Prop where
  pr : IsPair h TI (.ref p) (.ref q)
  g1 : h.IsTupleIter p a k
  g2 : h.IsTupleIter q b k
  to : ∃ x y, IsPair h TO x y
  st : IsZip h z TI TO .none ∨ ∃ T f xs, IsZipHeld h z TI TO T f ∧ H T = some (.tup xs)
theorem sqT_but {K : PySem.W.Frag} {H H' : Hp} {l a : Addr} {acc xs : List V} (k : ∀ c o, H c = some o → c ≠ l → H' c = some o) (hl : H l = some (.lst acc)) (h : SqT K H a xs) : SqT K H' a xs := by
  rcases h with (h | ⟨o, h⟩) | h
  · exact .inl (.inl (k _ _ h (fun z => by rw [z, hl] at h; cases h)))
  · exact .inl (.inr ⟨o, k _ _ h (fun z => by rw [z, hl] at h; cases h)⟩)
  · exact .inr h
section
variable {X : Cx} {pins : List (Addr × Obj)} {σ : L2.St} {z TI TO p q a b l : Addr} {xs ys : List V}
/-- refs to pairs of the first items -/
def Pairs (H : Hp) (xs ys : List V) (ps : List V) : Prop := ∀ (i : Nat) (v : V), ps[i]? = some v → ∃ (T : Addr) (x y : V), v = V.ref T ∧ H T = some (.tup [x, y]) ∧ xs[i]? = some x ∧ ys[i]? = some y
theorem Pairs.mono {H H' : Hp} {ps : List V} (P : Pairs H xs ys ps) (k : ∀ T x y, H T = some (.tup [x, y]) → H' T = some (.tup [x, y])) : Pairs H' xs ys ps := fun i v e => by
  obtain ⟨T, x, y, e1, e2, e3⟩ := P i v e
  exact ⟨T, x, y, e1, k T x y e2, e3⟩
theorem zloop {H0 : Hp} {Rs : Result → Shared → Prop} (hh : X.A.handled = none) (D : ZipApart z TI TO p q a b) (hl : xs.length = ys.length) (hz : xs.length ≤ 1000) (nl : ∀ c ∈ [z, TI, TO, p, q], l ≠ c)
    (hdone : ∀ acc H s, Inv X pins σ H s → (∀ c o, H0 c = some o → c ≠ l → H c = some o) → H l = some (.lst acc) → acc.length = xs.length → Pairs H xs ys acc → Rs (.ok (.ret .none)) s) :
    ∀ (m k : Nat) (acc : List V) (H : Hp) (s : Shared), k + m = xs.length → Inv X pins σ H s → ZSt s.heap H z TI TO p q a b k → (∀ c ∈ [z, TI, TO, p, q], FpOk X pins H c) → SqT X.K H a xs → SqT X.K H b ys → (∀ c o, H0 c = some o → c ≠ l → H c = some o) → H l = some (.lst acc) → acc.length = k → Pairs H xs ys acc →
      codeAny (model X.prog X.w) X.A.in1 (.builtin "list.extend.loop" ⟨[.ref l, .ref z, .none], []⟩) Rs s := by
  intro m
  induction m with
  | zero =>
    intro k acc H s hk I S hf qa qb k0 hL hal P
    refine codeAny_builtin PySem.F.entry_extend_loop ?_
    rw [Around.under_plainId PySem.F.plain_extend_loop _]
    show wpAny _ X.A.in1.in1 (pyNext (.ref z) >>= _) _ _ s
    obtain ⟨its, rv, pa, _⟩ := I.tuple qa
    obtain ⟨its2, rv2, pb, _⟩ := I.tuple qb
    have l1 := rv.length
    have en : its.toArray[k]? = none := by simp; omega
    have fin : ∀ h', (∀ c o, c ∉ [z, TI, TO, p, q] → s.heap.get? c = some o → h'.get? c = some o) → wpAny (model X.prog X.w) X.A.in1.in1 (pure (Fin.done (.ret .none)) : Sem Fin) (fun fin s' => match fin with | .done f => Rs (.ok f) s' | .again c' => c'.quiet = true ∧ codeAny (model X.prog X.w) X.A.in1 c' Rs s') (fun e s' => Rs (.error e) s') { s with heap := h' } := fun h' kk =>
      wpAny_pure (hdone acc H _ (I.turnedL (t' := s.toks) (ch := [z, TI, TO, p, q]) kk hf) k0 hL (by omega) P)
    obtain ⟨u, v, e2⟩ := S.to
    rcases S.st with e1 | ⟨T, f, zs, e1, e2⟩
    · refine wpAny_bind (RZ.pyNext_zipT_end (A := X.A.in1.in1) hh D e1 S.pr e2 S.g1 S.g2 pa pb (.inl en) fun h' kk => ?_)
      exact fin h' fun c o n e => kk c o (fun q' => n (by simp [q'])) (fun q' => n (by simp [q'])) (fun q' => n (by simp [q'])) (fun q' => n (by simp [q'])) e
    · obtain ⟨_, _, _, oT, hT, _⟩ := (show ObjOk X.prog X.w H s.heap T (.tup zs) from I.hok T _ e2)
      refine wpAny_bind (zpyEnd (A := X.A.in1.in1) hh D e1 hT S.pr S.g1 pa en fun h' kk => ?_)
      exact fin h' fun c o n e => kk c o (fun q' => n (by simp [q'])) (fun q' => n (by simp [q'])) e
  | succ m ih =>
    intro k acc H s hk I S hf qa qb k0 hL hal P
    refine codeAny_builtin PySem.F.entry_extend_loop ?_
    rw [Around.under_plainId PySem.F.plain_extend_loop _]
    show wpAny _ X.A.in1.in1 (pyNext (.ref z) >>= _) _ _ s
    obtain ⟨its, rv, pa, _⟩ := I.tuple qa
    obtain ⟨its2, rv2, pb, _⟩ := I.tuple qb
    have hkx : xs[k]? = some xs[k] := List.getElem?_eq_getElem (by omega)
    have hky : ys[k]? = some ys[k] := List.getElem?_eq_getElem (by omega)
    obtain ⟨u, hu, ru⟩ := rv.get hkx
    obtain ⟨u2, hu2, ru2⟩ := rv2.get hky
    have fr : H s.heap.objs.size = none := I.hok.fresh (Nat.le_refl _)
    have lz : ∀ {c o}, s.heap.get? c = some o → c ≠ s.heap.objs.size := fun e => Nat.ne_of_lt (Heap.lt_size e)
    -- behind the turn
    have tail : ∀ h', IsPair h' s.heap.objs.size u u2 → ZSt h' (upd H s.heap.objs.size (.tup [xs[k], ys[k]])) z TI TO p q a b (k + 1) → (∀ c o, c ∉ [z, TI, TO, p, q] → s.heap.get? c = some o → h'.get? c = some o) → (∀ c ∈ [z, TI, TO, p, q], c ≠ s.heap.objs.size) →
        wpAny (model X.prog X.w) X.A.in1.in1 (updateSeq l (·.push (.ref s.heap.objs.size)) >>= fun _ => again (.builtin "list.extend.loop" ⟨[.ref l, .ref z, .none], []⟩)) (fun fin s' => match fin with | .done f => Rs (.ok f) s' | .again c' => c'.quiet = true ∧ codeAny (model X.prog X.w) X.A.in1 c' Rs s') (fun e s' => Rs (.error e) s') { s with heap := h' } := fun h' hT S' kk ns => by
      have new : ObjOk X.prog X.w (upd H s.heap.objs.size (.tup [xs[k], ys[k]])) h' s.heap.objs.size (.tup [xs[k], ys[k]]) := ⟨by show 2 ≤ sizeLine; decide, [u, u2], .cons ru (.cons ru2 .nil), ⟨_, hT, rfl, _, rfl⟩⟩
      have I1 : Inv X pins σ (upd H s.heap.objs.size (.tup [xs[k], ys[k]])) { s with heap := h' } := I.turnedNew (t' := s.toks) (ch := [z, TI, TO, p, q]) kk hf (Nat.le_refl _) new
      have nls : l ≠ s.heap.objs.size := ne_of_none hL fr
      have hL1 : upd H s.heap.objs.size (.tup [xs[k], ys[k]]) l = some (.lst acc) := by rw [upd_ne nls]; exact hL
      obtain ⟨z1, its3, n3, r3, l3, e3⟩ := I1.lstM hL1
      refine wpAny_bind (wpAny_updateSeq e3 rfl (wpAny_pure ⟨plainId_quiet PySem.F.plain_extend_loop _, ?_⟩) (by rw [List.size_toArray, sizeLine_eq]; omega) (by show (its3.toArray.push (.ref s.heap.objs.size)).size ≤ sizeLine + 1; rw [Array.size_push, List.size_toArray, sizeLine_eq]; omega))
      have I2 := I1.lset (f := (·.push (Value.ref s.heap.objs.size))) (its' := its3 ++ [.ref s.heap.objs.size]) (ys := acc ++ [.ref s.heap.objs.size]) (t' := s.toks) hL1 e3 (by simp) (r3.append (.cons (show RelV (.ref s.heap.objs.size) (Value.ref s.heap.objs.size) from rfl) .nil)) (by rw [List.length_append, List.length_singleton, sizeLine_eq]; omega)
      have kT : ∀ T x y, H T = some (.tup [x, y]) → upd (upd H s.heap.objs.size (.tup [xs[k], ys[k]])) l (.lst (acc ++ [.ref s.heap.objs.size])) T = some (.tup [x, y]) := fun T x y e => by
        rw [upd_ne (fun zz => by rw [zz, hL] at e; cases e), upd_ne (ne_of_none e fr)]; exact e
      have kk2 : ∀ c o, H c = some o → c ≠ l → upd (upd H s.heap.objs.size (.tup [xs[k], ys[k]])) l (.lst (acc ++ [.ref s.heap.objs.size])) c = some o := fun c o e n => by
        rw [upd_ne n, upd_ne (ne_of_none e fr)]; exact e
      refine ih (k + 1) (acc ++ [.ref s.heap.objs.size]) _ _ (by omega) I2 ?_ (fun c hc => ?_) ?_ ?_ (fun c o e n => ?_) upd_same (by rw [List.length_append, List.length_singleton]; omega) ?_
      · obtain ⟨s1, s2, s3, ⟨w3, w5, w4⟩, s4⟩ := S'
        have up : ∀ c o, c ≠ l → h'.get? c = some o → (h'.update l (Obj.mapSeq (·.push (Value.ref s.heap.objs.size)))).get? c = some o := fun c o n e => (Heap.get?_update_other _ _ (Ne.symm n)).trans e
        refine ⟨up _ _ (nl TI (by simp)).symm s1, s2.at fun o e => up _ o (nl p (by simp)).symm e, s3.at fun o e => up _ o (nl q (by simp)).symm e, ⟨w3, w5, up _ _ (nl TO (by simp)).symm w4⟩, ?_⟩
        rcases s4 with w1 | ⟨T, f, zs, w1, w2⟩
        · exact .inl (up _ _ (nl z (by simp)).symm w1)
        · refine .inr ⟨T, f, zs, up _ _ (nl z (by simp)).symm w1, ?_⟩
          rw [upd_ne (fun zz => by rw [zz, hL1] at w2; cases w2)]; exact w2
      · obtain ⟨f1, f2⟩ := hf c hc
        exact ⟨by rw [upd_ne (nl c hc).symm, upd_ne (ns c hc)]; exact f1, f2⟩
      · exact sqT_but kk2 hL qa
      · exact sqT_but kk2 hL qb
      · rw [upd_ne n, upd_ne (ne_of_none (k0 c o e n) fr)]; exact k0 c o e n
      · intro i v e
        rcases Nat.lt_trichotomy i acc.length with h1 | h1 | h1
        · rw [List.getElem?_append_left h1] at e
          obtain ⟨T, x, y, e1, e2, e3, e4⟩ := P i v e
          exact ⟨T, x, y, e1, kT T x y e2, e3, e4⟩
        · subst h1
          have e' : V.ref s.heap.objs.size = v := by simpa using e
          refine ⟨s.heap.objs.size, xs[k], ys[k], e'.symm, ?_, by rw [hal]; exact hkx, by rw [hal]; exact hky⟩
          rw [upd_ne nls.symm, upd_same]
        · rw [List.getElem?_eq_none (by rw [List.length_append, List.length_singleton]; omega)] at e
          cases e
    have zlt : z ≠ s.heap.objs.size := by
      rcases S.st with e1 | ⟨T, f, zs, e1, _⟩ <;> exact lz e1
    have plt : p ≠ s.heap.objs.size := by obtain ⟨o, e, _⟩ := S.g1; exact lz e
    have qlt : q ≠ s.heap.objs.size := by obtain ⟨o, e, _⟩ := S.g2; exact lz e
    have TIlt : TI ≠ s.heap.objs.size := lz S.pr
    obtain ⟨u0, v0, e2⟩ := S.to
    have TOlt : TO ≠ s.heap.objs.size := lz e2
    rcases S.st with e1 | ⟨T, f, zs, e1, e3⟩
    · 
      refine wpAny_bind (RZ.pyNext_zipT_item (A := X.A.in1.in1) D e1 S.pr e2 S.g1 S.g2 pa pb (x := u) (y := u2) (by simpa using hu) (by simpa using hu2) fun h' a1 a2 a3 a4 a5 _ kk => ?_)
      refine tail h' a5 ⟨kk _ _ D.TIz D.TITO D.TIi1 D.TIi2 S.pr, a3, a4, ⟨_, _, a2⟩, .inr ⟨s.heap.objs.size, false, _, a1, upd_same⟩⟩ (fun c o n e => kk c o (fun q' => n (by simp [q'])) (fun q' => n (by simp [q'])) (fun q' => n (by simp [q'])) (fun q' => n (by simp [q'])) e) fun c hc => ?_
      have e' : c = z ∨ c = TI ∨ c = TO ∨ c = p ∨ c = q := by simpa using hc
      rcases e' with rfl | rfl | rfl | rfl | rfl <;> assumption
    · obtain ⟨_, _, _, oT, hT, _⟩ := (show ObjOk X.prog X.w H s.heap T (.tup zs) from I.hok T _ e3)
      refine wpAny_bind (zpyNext (A := X.A.in1.in1) D e1 hT S.pr S.g1 S.g2 pa pb (x := u) (y := u2) (by simpa using hu) (by simpa using hu2) fun h' a1 a3 a4 a5 kk => ?_)
      refine tail h' a5 ⟨kk _ _ D.TIz D.TIi1 D.TIi2 S.pr, a3, a4, ⟨_, _, kk _ _ D.TOz D.TOi1 D.TOi2 e2⟩, .inr ⟨T, true, zs, a1, by rw [upd_ne (ne_of_none e3 fr)]; exact e3⟩⟩ (fun c o n e => kk c o (fun q' => n (by simp [q'])) (fun q' => n (by simp [q'])) (fun q' => n (by simp [q'])) e) fun c hc => ?_
      have e' : c = z ∨ c = TI ∨ c = TO ∨ c = p ∨ c = q := by simpa using hc
      rcases e' with rfl | rfl | rfl | rfl | rfl <;> assumption
/-- list(zip(a, b)) of two tuples of one length -/
def tListZip (K : PySem.W.Frag) (ta : TA) : TE := fun σ H Q => ta σ H fun vs H1 => ∃ a b xs ys, vs = [.ref a, .ref b] ∧ SqT K H1 a xs ∧ SqT K H1 b ys ∧ xs.length = ys.length ∧ xs.length ≤ 1000 ∧
  ∀ l acc H', H1 l = none → KB [] H1 H' → H' l = some (.lst acc) → acc.length = xs.length → Pairs H' xs ys acc → Q (.ref l) H'
theorem pe_listzip {e e2 : Expr} {ta : TA} {p1 p2 pos pos2 : Pos} (hg : Gl X "list") (hm : X.mg "list" = none) (hg2 : Gl X "zip") (hm2 : X.mg "zip" = none) (ha : PA X [e, e2] ta) (hhd : X.calm = true := by rfl)
    (hs : starEach [e, e2] X.env = (false, eval e X.env) :: starEach [e2] X.env := by rfl) (hpl : (backTo pos2 (starEach [e2] X.env)).any (·.1) = false := by rfl) :
    PE X (.Call (.Name "list" p1) [.Call (.Name "zip" p2) [e, e2] [] pos2] [] pos) (tListZip X.K ta) := by
  refine ⟨fun pins s σ H Q I h => ?_⟩
  refine wpAny_Call_Name_kw (ld_blt I hg hm (u := .type "list") (by decide +kernel) ?_)
  refine PyProof.Rows.callWith_type1 ?_ (by rfl) (by rfl)
  show wpAny _ _ (spliced ((false, eval (.Call (.Name "zip" p2) [e, e2] [] pos2) X.env) :: backTo pos (starEach [] X.env))) _ _ s
  refine Calls.spliced_cons ?_
  refine wpAny_Call_Name_kw (ld_blt I hg2 hm2 PyProof.Rows.boot_zip (PyProof.Rows.callWith_type1 (thn (ha.run pos2 pins s σ H _ I h) fun us s1 ⟨vs, H1, I1, r1, q1⟩ => ?_) hs hpl))
  obtain ⟨a, b, xs, ys, ex, qa, qb, hl, hz, q⟩ := q1
  subst ex
  obtain ⟨u1, u2, rfl, ra, rb⟩ := vals2 r1
  cases ra
  cases rb
  obtain ⟨its, rv, pa, _⟩ := I1.tuple qa
  obtain ⟨its2, rv2, pb, _⟩ := I1.tuple qb
  obtain ⟨o1, ho1, _⟩ := id pa
  obtain ⟨o2, ho2, _⟩ := id pb
  have hh : X.A.handled = none := I.ok.hd hhd
  refine RZ.call_zipT (show s1.heap.IsTuple a its.toArray from pa) (show s1.heap.IsTuple b its2.toArray from pb) fun h' z1 z2 z3 z4 z5 hsz hk => ?_
  refine Calls.spliced_nil ?_
  have D : ZipApart (s1.heap.objs.size + 4) (s1.heap.objs.size + 2) (s1.heap.objs.size + 3) s1.heap.objs.size (s1.heap.objs.size + 1) a b := PySem.W.ktu_apart s1.heap.objs.size a b (Heap.lt_size ho1) (Heap.lt_size ho2)
  have I2 : Inv X pins σ H1 { s1 with heap := h' } := I1.kept (t' := s1.toks) hk
  have ge : ∀ c ∈ [s1.heap.objs.size + 4, s1.heap.objs.size + 2, s1.heap.objs.size + 3, s1.heap.objs.size, s1.heap.objs.size + 1], s1.heap.objs.size ≤ c ∧ c < h'.objs.size := fun c hc => by
    simp only [List.mem_cons, List.not_mem_nil, or_false] at hc
    rcases hc with e | e | e | e | e <;> rw [e, hsz] <;> constructor <;> omega
  have fp : ∀ c ∈ [s1.heap.objs.size + 4, s1.heap.objs.size + 2, s1.heap.objs.size + 3, s1.heap.objs.size, s1.heap.objs.size + 1], FpOk X pins H1 c := fun c hc => I1.fpOk (ge c hc).1 (I1.hok.fresh (ge c hc).1)
  refine callType_codes (Q₁ := fun obj s₁ => obj = .ref h'.objs.size ∧ s₁ = { s1 with heap := h'.push { cls := .type "list", data := .seq #[] } }) PySem.F.called_list (PySem.F.typeCall_list_1 _) PySem.F.entry_list_init
    (code_list_new _ ⟨rfl, rfl⟩) fun obj s₁ h₁ => ?_
  obtain ⟨rfl, rfl⟩ := h₁
  have hS : (h'.push { cls := .type "list", data := .seq #[] }).get? h'.objs.size = some { cls := .type "list", data := .seq #[] } := Heap.get?_push_size _ rfl
  refine ⟨⟨_, hS, rfl⟩, PySem.F.args_list_init_2 _ _, ?_⟩
  have fr : H1 h'.objs.size = none := I2.hok.fresh (Nat.le_refl _)
  have J1 : Inv X pins σ (upd H1 h'.objs.size (.lst [])) { s1 with heap := h'.push { cls := .type "list", data := .seq #[] } } := I2.lnew (its := []) (t' := s1.toks) .nil (Nat.zero_le _)
  have pu : ∀ {c o}, h'.get? c = some o → (h'.push { cls := .type "list", data := .seq #[] }).get? c = some o := fun e => Heap.get?_push_of_some _ e
  have nl : ∀ c ∈ [s1.heap.objs.size + 4, s1.heap.objs.size + 2, s1.heap.objs.size + 3, s1.heap.objs.size, s1.heap.objs.size + 1], h'.objs.size ≠ c := fun c hc => Nat.ne_of_gt (ge c hc).2
  -- the walk from any heap in which the list is empty and the zip stands at its start
  have go : ∀ (g : Heap) (n : Nat), (∀ c o, c ≠ h'.objs.size → h'.get? c = some o → g.get? c = some o) → Inv X pins σ (upd H1 h'.objs.size (.lst [])) { s1 with heap := g } →
      codeAny (model X.prog X.w) X.A.in1 (.builtin "list.extend.loop" ⟨[.ref h'.objs.size, .ref (s1.heap.objs.size + 4), .none], []⟩) (wants (fun r s₂ => r = .none ∧ EP X pins σ Q (.ref h'.objs.size) s₂) X.xe) { s1 with heap := g } := fun g n kg J => by
    have kb : ∀ G : Hp, (∀ c o, upd H1 h'.objs.size (.lst []) c = some o → c ≠ h'.objs.size → G c = some o) → KB [] H1 G := fun G k0 c o e _ => by
      have ne : c ≠ h'.objs.size := ne_of_none e fr
      exact k0 c o (by rw [upd_ne ne]; exact e) ne
    refine zloop (H0 := upd H1 h'.objs.size (.lst [])) (a := a) (b := b) hh D hl hz nl (fun acc H s I' k0 hL hal P => ⟨rfl, .ref h'.objs.size, H, I', rfl, q _ acc H fr (kb H k0) hL hal P⟩) xs.length 0 [] _ _ (by omega) J ?_ (fun c hc => ?_) ?_ ?_ (fun c o e _ => e) upd_same rfl (fun i v e => by simp at e)
    · exact ⟨kg _ _ (nl _ (by simp)).symm z2, z4.at fun o e => kg _ o (nl _ (by simp)).symm e, z5.at fun o e => kg _ o (nl _ (by simp)).symm e, ⟨_, _, kg _ _ (nl _ (by simp)).symm z3⟩, .inl (kg _ _ (nl _ (by simp)).symm z1)⟩
    · obtain ⟨f1, f2⟩ := fp c hc
      exact ⟨by rw [upd_ne (nl c hc).symm]; exact f1, f2⟩
    · exact qa.ext fun c o e => by rw [upd_ne (ne_of_none e fr)]; exact e
    · exact qb.ext fun c o e => by rw [upd_ne (ne_of_none e fr)]; exact e
  show wpAny _ _ (do let old ← Builtin.List.listItems (.ref h'.objs.size); Builtin.List.listUpdate (.ref h'.objs.size) (fun _ => #[]); letGo old.toList.reverse; Builtin.List.listExtendWith (.ref h'.objs.size) (.ref (s1.heap.objs.size + 4)) .none) _ _ _
  refine wpAny_bind ?_
  unfold Builtin.List.listItems
  refine wpAny_bind (wpAny_seqItems hS rfl (wpAny_pure ?_))
  show wpAny _ _ (updateSeq h'.objs.size (fun _ => #[]) >>= fun _ => letGo (#[] : Array Value).toList.reverse >>= fun _ => Builtin.List.listExtendWith (.ref h'.objs.size) (.ref (s1.heap.objs.size + 4)) .none) _ _ _
  refine wpAny_bind (wpAny_updateSeq hS rfl ?_)
  have J2 := J1.lset (f := fun _ => #[]) (its := []) (its' := []) (ys := []) (t' := s1.toks) upd_same hS rfl .nil (Nat.zero_le _)
  rw [upd_upd] at J2
  refine wpAny_bind (wpAny_letGo ?_)
  have k2 : ∀ c o, c ≠ h'.objs.size → h'.get? c = some o → ((h'.push { cls := .type "list", data := .seq #[] }).update h'.objs.size (Obj.mapSeq (fun _ => (#[] : Array Value)))).get? c = some o := fun c o n e => (Heap.get?_update_other _ _ (Ne.symm n)).trans (pu e)
  have tz : ∀ g : Heap, (∀ c o, c ≠ h'.objs.size → h'.get? c = some o → g.get? c = some o) → ({ s1 with heap := g } : Shared).TypeIs (.ref (s1.heap.objs.size + 4)) "zip" := fun g kg => ⟨_, kg _ _ (nl _ (by simp)).symm z1, rfl⟩
  unfold Builtin.List.listExtendWith
  refine wpAny_bind (wpAny_typeOf (T := "zip") (tz _ k2) ?_)
  have n1 : Builtin.List.listSameRef (.ref h'.objs.size) (.ref (s1.heap.objs.size + 4)) = false := by simp [Builtin.List.listSameRef, nl (s1.heap.objs.size + 4) (by simp)]
  have n2 : (Value.type "zip" == Value.type "list") = false := by decide
  have n3 : (Value.type "zip" == Value.type "tuple") = false := by decide
  simp only [n1, n2, n3, Bool.or_false, Bool.false_eq_true, if_false]
  refine wpAny_bind (wpAny_pyIter_zip (k2 _ _ (nl _ (by simp)).symm z1) ?_)
  refine wpAny_bind (wpAny_holding (zip_hint (tz _ k2) ?_))
  refine wpAny_ite_split (fun _ => ?_) (fun _ => wpAny_pure ⟨plainId_quiet PySem.F.plain_extend_loop _, go _ 0 k2 J2⟩)
  refine wpAny_bind (wpAny_rule ?_)
  refine wpAny_bind ?_
  obtain ⟨y1, its1, m1, w1, w2, e3⟩ := J2.lstM upd_same
  cases w1
  show wpAny _ _ (updateSeq h'.objs.size (·.push .none) >>= fun _ => updateSeq h'.objs.size (·.pop)) _ _ _
  refine wpAny_bind (wpAny_updateSeq e3 rfl ?_)
  have J3 := J2.lset (f := (·.push Value.none)) (its' := [Value.none]) (ys := [.non]) (t' := s1.toks) upd_same e3 (by simp) (.cons rfl .nil) (by rw [List.length_singleton, sizeLine_eq]; decide)
  obtain ⟨y4, its4, m4, r4, w4, e4⟩ := J3.lstM upd_same
  obtain ⟨v4, rfl, rv4⟩ := r4.one
  refine wpAny_updateSeq e4 rfl ?_ (by show 1 ≤ sizeLine; rw [sizeLine_eq]; decide) (by show 0 ≤ sizeLine + 1; exact Nat.zero_le _)
  have J5 := J3.lset (f := (·.pop)) (its := [v4]) (its' := []) (ys := []) (t' := s1.toks) upd_same e4 (by rfl) .nil (Nat.zero_le _)
  rw [upd_upd, upd_upd] at J5
  refine wpAny_pure ⟨plainId_quiet PySem.F.plain_extend_loop _, go _ 0 (fun c o n e => ?_) J5⟩
  exact (Heap.get?_update_other _ _ (Ne.symm n)).trans ((Heap.get?_update_other _ _ (Ne.symm n)).trans (k2 c o n e))
end
end WK
set_option Elab.async false
set_option linter.all false
set_option maxRecDepth 100000
set_option maxHeartbeats 4000000
namespace WK
open PySem PySem.Spec PyProof.Rows L2

/-! is_whole -/
abbrev st_is_whole : Stmt := top 15
abbrev N_is_whole : List Str := ["thing", "least", "most"]
theorem sc_is_whole : FnScope ["thing", "least", "most"] ["thing", "least", "most"] (defScope st_is_whole) := ⟨rfl, rfl, rfl, by decide +kernel, rfl, by decide +kernel, by decide +kernel⟩
def t_is_whole (K : PySem.W.Frag) : TS :=
  (tRet (tAndV (tCB (rIsi K) (tCons (tVar 0) (tCons (tC (.ty "int")) tNil))) (tAndV (tNotV (tCB (rIsi K) (tCons (tVar 0) (tCons (tC (.ty "bool")) tNil)))) (tChain qLe qLe (tVar 1) (tVar 0) (tVar 2)))))
theorem dv_is_whole {P : Program} {w : World} {K : PySem.W.Frag} {mg : Str → Option Value} {base : Heap} {f : Addr} {cd : Value} {A : Around} {outer : List Env} {s : Shared} {H : Hp} {E : XK} (T : Tx w K mg)
    (hr : Room 0 (A.deeper (envOfC "is_whole" (defScope st_is_whole) s.heap.objs.size f cd))) :
    PSs (cxOf (L2.CX P w) P w K mg base ["thing", "least", "most"] "is_whole" (defScope st_is_whole) f cd A outer s H E).nox (defBody st_is_whole) (t_is_whole K) := by
  unfold t_is_whole
  exact (pss_one (ps_ret (pe_and (pe_callB call_isi rfl T.n_isinstance (by decide +kernel) (pa_cons (pv 0) (pa_cons (pe_bltn rfl T.n_int (by decide +kernel) rfl) pa_nil))) (pe_and (pe_not (pe_callB call_isi rfl T.n_isinstance (by decide +kernel) (pa_cons (pv 0) (pa_cons (pe_bltn rfl T.n_bool (by decide +kernel) rfl) pa_nil)))) (pe_one (pe_chain op_le op_le (pv 1) (pv 0) (pv 2)))))))

/-! is_name -/
abbrev st_is_name : Stmt := top 16
abbrev N_is_name : List Str := ["thing", "sign"]
theorem sc_is_name : FnScope ["thing", "sign"] ["thing"] (defScope st_is_name) := ⟨rfl, rfl, rfl, by decide +kernel, rfl, by decide +kernel, by decide +kernel⟩
def t_is_name (K : PySem.W.Frag) : TS :=
  (tSeq (tIfS (tOr (tNot (tB (tCB (rIsi K) (tCons (tVar 0) (tCons (tC (.ty "str")) tNil))))) (tOr (tNot (tTest (tChain qLe qLe (tC (.int 1)) (tCB qLenS (tCons (tVar 0) tNil)) (tC (.int 8))))) (tTest (tOp (rIn K false) (tVar 0) (tC (.ref (He.ga K "BARRED_WORDS"))))))) (tRet (tC (.bl false))) tNext)
    (tRet (tCB (rAll K) (tCons (tLc (iStr (tVar 0)) (gName 1) tYes (tOp qInC (tVar 1) (tC (.str "abcdefghijklmnopqrstuvwxyz"))) [1]) tNil))))
theorem dv_is_name {P : Program} {w : World} {K : PySem.W.Frag} {mg : Str → Option Value} {base : Heap} {f : Addr} {cd : Value} {A : Around} {outer : List Env} {s : Shared} {H : Hp} {E : XK} (T : Tx w K mg)
    (hr : Room 0 (A.deeper (envOfC "is_name" (defScope st_is_name) s.heap.objs.size f cd))) :
    PSs (cxOf (L2.CX P w) P w K mg base ["thing", "sign"] "is_name" (defScope st_is_name) f cd A outer s H E).nox (defBody st_is_name) (t_is_name K) := by
  unfold t_is_name
  exact (pss_cons (ps_if (PW.pt (pw_or (pt_not (pt_val (pe_callB call_isi rfl T.n_isinstance (by decide +kernel) (pa_cons (pv 0) (pa_cons (pe_bltn rfl T.n_str (by decide +kernel) rfl) pa_nil))))) (pw_or (pt_not (pt_chain op_le op_le pe_int (pe_callB c_lenS rfl T.n_len (by decide +kernel) (pa_cons (pv 0) pa_nil)) (pe_gI rfl T.g_MOST_LETTERS))) (pw_or1 (pt_cmpR op_in_seq (pv 0) (pe_glob rfl T.g_BARRED_WORDS rfl) (by rfl)))))) (pss_one (ps_ret pe_bl)) pss_nil)
    (pss_one (ps_ret (pe_callB (cr_all rfl) rfl T.n_all (by decide +kernel) (pa_cons (pe_lc (own := [("sign", 1)]) (g := (gName 1)) (tt := tYes) (by rfl) sc_is_name.nd (pi_str (pv 0)) (blkOk_by (N := ["thing", "sign"]) (sc := defScope st_is_name) (own := [("sign", 1)]) (by decide +kernel)) (fun _ _ _ _ _ => (pg_name (i := 1) sc_is_name.nd rfl (Or.inl rfl))) (fun _ _ _ _ _ => pts_nil) (fun _ _ _ _ _ => (pe_cmpR o_inC (pv 1) (pe_gS rfl T.g_LETTERS) (by rfl)))) pa_nil)))))

/-! number_of -/
abbrev st_number_of : Stmt := top 17
abbrev N_number_of : List Str := ["word", "sign"]
theorem sc_number_of : FnScope ["word", "sign"] ["word"] (defScope st_number_of) := ⟨rfl, rfl, rfl, by decide +kernel, rfl, by decide +kernel, by decide +kernel⟩
def t_number_of (K : PySem.W.Frag) : TS :=
  (tSeq (tIfS (tOr (tNot (tB (tCB (rIsi K) (tCons (tVar 0) (tCons (tC (.ty "str")) tNil))))) (tNot (tTest (tChain qLe qLe (tC (.int 1)) (tCB qLenS (tCons (tVar 0) tNil)) (tC (.int 7)))))) (tRet (tC .non)) tNext)
    (tSeq (tIfS (tOr (tNot (tB (tCB (rAll K) (tCons (tLc (iStr (tVar 0)) (gName 1) tYes (tOp qInC (tVar 1) (tC (.str "0123456789"))) [1]) tNil)))) (tAnd (tTest (tOp rEq (tOp rIxS (tVar 0) (tC (.int 0))) (tC (.str "0")))) (tTest (tOp rNe (tVar 0) (tC (.str "0")))))) (tRet (tC .non)) tNext)
    (tRet (tCB qIntS (tCons (tVar 0) tNil)))))
theorem dv_number_of {P : Program} {w : World} {K : PySem.W.Frag} {mg : Str → Option Value} {base : Heap} {f : Addr} {cd : Value} {A : Around} {outer : List Env} {s : Shared} {H : Hp} {E : XK} (T : Tx w K mg)
    (hr : Room 0 (A.deeper (envOfC "number_of" (defScope st_number_of) s.heap.objs.size f cd))) :
    PSs (cxOf (L2.CX P w) P w K mg base ["word", "sign"] "number_of" (defScope st_number_of) f cd A outer s H E).nox (defBody st_number_of) (t_number_of K) := by
  unfold t_number_of
  exact (pss_cons (ps_if (PW.pt (pw_or (pt_not (pt_val (pe_callB call_isi rfl T.n_isinstance (by decide +kernel) (pa_cons (pv 0) (pa_cons (pe_bltn rfl T.n_str (by decide +kernel) rfl) pa_nil))))) (pw_or1 (pt_not (pt_chain op_le op_le pe_int (pe_callB c_lenS rfl T.n_len (by decide +kernel) (pa_cons (pv 0) pa_nil)) (pe_gI rfl T.g_MOST_FIGURES)))))) (pss_one (ps_ret pe_non)) pss_nil)
    (pss_cons (ps_if (PW.pt (pw_or (pt_not (pt_val (pe_callB (cr_all rfl) rfl T.n_all (by decide +kernel) (pa_cons (pe_lc (own := [("sign", 1)]) (g := (gName 1)) (tt := tYes) (by rfl) sc_number_of.nd (pi_str (pv 0)) (blkOk_by (N := ["word", "sign"]) (sc := defScope st_number_of) (own := [("sign", 1)]) (by decide +kernel)) (fun _ _ _ _ _ => (pg_name (i := 1) sc_number_of.nd rfl (Or.inl rfl))) (fun _ _ _ _ _ => pts_nil) (fun _ _ _ _ _ => (pe_cmpR o_inC (pv 1) (pe_gS rfl T.g_FIGURES) (by rfl)))) pa_nil)))) (pw_or1 (PW.pt (pw_and (pt_cmpR op_eq (pe_ix ix_str (pv 0) pe_int (fun _ _ => rfl)) pe_str (nomark _)) (pw_and1 (pt_cmpR op_ne (pv 0) pe_str (nomark _)))))))) (pss_one (ps_ret pe_non)) pss_nil)
    (pss_one (ps_ret (pe_callTy c_intS rfl T.n_int (by decide +kernel) (pa_cons (pv 0) pa_nil))))))

/-! words_of -/
abbrev st_words_of : Stmt := top 18
abbrev N_words_of : List Str := ["row", "found"]
theorem sc_words_of : FnScope ["row", "found"] ["row"] (defScope st_words_of) := ⟨rfl, rfl, rfl, by decide +kernel, rfl, by decide +kernel, by decide +kernel⟩
def t_words_of (K : PySem.W.Frag) : TS :=
  (tSeq (tIfS (tNot (tB (tCB (rIsi K) (tCons (tVar 0) (tCons (tC (.ty "str")) tNil))))) (tRet (tC .non)) tNext)
    (tSeq (tAsg (tM1 qSplit (tVar 0) (tC (.str " "))) (gName 1))
    (tRet (tIf (tTest (tOp (rIn K false) (tC (.str "")) (tVar 1))) (tC .non) (tVar 1)))))
theorem dv_words_of {P : Program} {w : World} {K : PySem.W.Frag} {mg : Str → Option Value} {base : Heap} {f : Addr} {cd : Value} {A : Around} {outer : List Env} {s : Shared} {H : Hp} {E : XK} (T : Tx w K mg)
    (hr : Room 0 (A.deeper (envOfC "words_of" (defScope st_words_of) s.heap.objs.size f cd))) :
    PSs (cxOf (L2.CX P w) P w K mg base ["row", "found"] "words_of" (defScope st_words_of) f cd A outer s H E).nox (defBody st_words_of) (t_words_of K) := by
  unfold t_words_of
  exact (pss_cons (ps_if (pt_not (pt_val (pe_callB call_isi rfl T.n_isinstance (by decide +kernel) (pa_cons (pv 0) (pa_cons (pe_bltn rfl T.n_str (by decide +kernel) rfl) pa_nil))))) (pss_one (ps_ret pe_non)) pss_nil)
    (pss_cons (ps_set (i := 1) sc_words_of.nd rfl (Or.inl rfl) (pe_m1 F.slot_str_split F.type_str_split m_split (pv 0) pe_str))
    (pss_one (ps_ret (pe_ifExp (pt_cmpR op_in_seq pe_str (pv 1) (by rfl)) pe_non (pv 1))))))

/-! need_promise -/
abbrev st_need_promise : Stmt := top 23
abbrev N_need_promise : List Str := ["thing"]
theorem sc_need_promise : FnScope ["thing"] ["thing"] (defScope st_need_promise) := ⟨rfl, rfl, rfl, by decide +kernel, rfl, by decide +kernel, by decide +kernel⟩
def t_need_promise (K : PySem.W.Frag) : TS :=
  (tIfS (tNot (tB (tCB (rIsi K) (tCons (tVar 0) (tCons (tC (.ref (He.ga K "Promise"))) tNil))))) tNever tNext)
theorem dv_need_promise {P : Program} {w : World} {K : PySem.W.Frag} {mg : Str → Option Value} {base : Heap} {f : Addr} {cd : Value} {A : Around} {outer : List Env} {s : Shared} {H : Hp} {E : XK} (T : Tx w K mg)
    (hr : Room 2 (A.deeper (envOfC "need_promise" (defScope st_need_promise) s.heap.objs.size f cd))) :
    PSs (cxOf (L2.CX P w) P w K mg base ["thing"] "need_promise" (defScope st_need_promise) f cd A outer s H E).nox (defBody st_need_promise) (t_need_promise K) := by
  unfold t_need_promise
  exact (pss_one (ps_if (pt_not (pt_val (pe_callB call_isi rfl T.n_isinstance (by decide +kernel) (pa_cons (pv 0) (pa_cons (pe_glob rfl T.g_Promise rfl) pa_nil))))) (pss_one ps_never) pss_nil))

/-! is_row -/
abbrev st_is_row : Stmt := top 27
abbrev N_is_row : List Str := ["thing", "one"]
theorem sc_is_row : FnScope ["thing", "one"] ["thing"] (defScope st_is_row) := ⟨rfl, rfl, rfl, by decide +kernel, rfl, by decide +kernel, by decide +kernel⟩
def t_is_row (K : PySem.W.Frag) (p_is_name : Sp) : TS :=
  (tSeq (tIfS (tOr (tNot (tB (tCB (rIsi K) (tCons (tVar 0) (tCons (tC (.ty "tuple")) tNil))))) (tOr (tTest (tOp rNe (tCB (qLenL K) (tCons (tVar 0) tNil)) (tC (.int 3)))) (tNot (tB (tCall p_is_name [] E0 (tCons (tOp (rIxT K) (tVar 0) (tC (.int 0))) tNil)))))) (tRet (tC (.bl false))) tNext)
    (tRet (tCB (rAll K) (tCons (tLc (iTup K (tSl (rSlA K) (tVar 0) (tPart (tC (.int 1))) tNoPart)) (gName 1) tYes (tOrV (tOp qIsN (tVar 1) (tC .non)) (tCB (rIsi K) (tCons (tVar 1) (tCons (tC (.ref (He.ga K "Promise"))) tNil)))) [1]) tNil))))
theorem dv_is_row {P : Program} {w : World} {K : PySem.W.Frag} {mg : Str → Option Value} {base : Heap} {f : Addr} {cd : Value} {A : Around} {outer : List Env} {s : Shared} {H : Hp} {E : XK} {p_is_name : Sp} (T : Tx w K mg)
    (hr : Room 1 (A.deeper (envOfC "is_row" (defScope st_is_row) s.heap.objs.size f cd)))
    (G_is_name : DefOk P w K mg base 1 "is_name" ["thing"] [] p_is_name) :
    PSs (cxOf (L2.CX P w) P w K mg base ["thing", "one"] "is_row" (defScope st_is_row) f cd A outer s H E).nox (defBody st_is_row) (t_is_row K p_is_name) := by
  unfold t_is_row
  exact (pss_cons (ps_if (PW.pt (pw_or (pt_not (pt_val (pe_callB call_isi rfl T.n_isinstance (by decide +kernel) (pa_cons (pv 0) (pa_cons (pe_bltn rfl T.n_tuple (by decide +kernel) rfl) pa_nil))))) (pw_or (pt_cmpR op_ne (pe_callB c_lenL rfl T.n_len (by decide +kernel) (pa_cons (pv 0) pa_nil)) pe_int (nomark _)) (pw_or1 (pt_not (pt_val (pe_callD G_is_name hr (by decide) rfl passL (pa_cons (pe_ix ix_tup (pv 0) pe_int (fun _ _ => rfl)) pa_nil)))))))) (pss_one (ps_ret pe_bl)) pss_nil)
    (pss_one (ps_ret (pe_callB (cr_all rfl) rfl T.n_all (by decide +kernel) (pa_cons (pe_lc (own := [("one", 1)]) (g := (gName 1)) (tt := tYes) (by rfl) sc_is_row.nd (pi_tup (pe_slice sl_tupA (pv 0) (po_some pe_int) po_none)) (blkOk_by (N := ["thing", "one"]) (sc := defScope st_is_row) (own := [("one", 1)]) (by decide +kernel)) (fun _ _ _ _ _ => (pg_name (i := 1) sc_is_row.nd rfl (Or.inl rfl))) (fun _ _ _ _ _ => pts_nil) (fun _ _ _ _ _ => (pe_or (pe_cmpR o_isN (pv 1) pe_non (nomark _)) (pe_one (pe_callB call_isi rfl T.n_isinstance (by decide +kernel) (pa_cons (pv 1) (pa_cons (pe_glob rfl T.g_Promise rfl) pa_nil))))))) pa_nil)))))

/-! are_parts -/
abbrev st_are_parts : Stmt := top 28
abbrev N_are_parts : List Str := ["thing", "one", "other"]
theorem sc_are_parts : FnScope ["thing", "one", "other"] ["thing"] (defScope st_are_parts) := ⟨rfl, rfl, rfl, by decide +kernel, rfl, by decide +kernel, by decide +kernel⟩
def t_are_parts (K : PySem.W.Frag) (p_is_row : Sp) : TS :=
  (tSeq (tIfS (tOr (tNot (tB (tCB (rIsi K) (tCons (tVar 0) (tCons (tC (.ty "tuple")) tNil))))) (tOr (tTest (tOp qGt (tCB (qLenL K) (tCons (tVar 0) tNil)) (tC (.int 12)))) (tNot (tB (tCB (rAll K) (tCons (tLc (iTup K (tVar 0)) (gName 1) tYes (tCall p_is_row [] E0 (tCons (tVar 1) tNil)) [1]) tNil)))))) (tRet (tC (.bl false))) tNext)
    (tRet (tCB (rAll K) (tCons (tLc (RZ.iZipA K (tCons (tVar 0) (tCons (tSl (rSlA K) (tVar 0) (tPart (tC (.int 1))) tNoPart) tNil))) (gTup K 2 (gCons (gName 1) (gCons (gName 2) gNil))) tYes (tOp qLtS (tOp (rIxT K) (tVar 1) (tC (.int 0))) (tOp (rIxT K) (tVar 2) (tC (.int 0)))) [1, 2]) tNil))))
theorem dv_are_parts {P : Program} {w : World} {K : PySem.W.Frag} {mg : Str → Option Value} {base : Heap} {f : Addr} {cd : Value} {A : Around} {outer : List Env} {s : Shared} {H : Hp} {E : XK} {p_is_row : Sp} (T : Tx w K mg)
    (hr : Room 2 (A.deeper (envOfC "are_parts" (defScope st_are_parts) s.heap.objs.size f cd)))
    (G_is_row : DefOk P w K mg base 2 "is_row" ["thing"] [] p_is_row) :
    PSs (cxOf (L2.CX P w) P w K mg base ["thing", "one", "other"] "are_parts" (defScope st_are_parts) f cd A outer s H E).nox (defBody st_are_parts) (t_are_parts K p_is_row) := by
  unfold t_are_parts
  exact (pss_cons (ps_if (PW.pt (pw_or (pt_not (pt_val (pe_callB call_isi rfl T.n_isinstance (by decide +kernel) (pa_cons (pv 0) (pa_cons (pe_bltn rfl T.n_tuple (by decide +kernel) rfl) pa_nil))))) (pw_or (pt_cmpR op_gt (pe_callB c_lenL rfl T.n_len (by decide +kernel) (pa_cons (pv 0) pa_nil)) (pe_gI rfl T.g_MOST_PARTS) (nomark _)) (pw_or1 (pt_not (pt_val (pe_callB (cr_all rfl) rfl T.n_all (by decide +kernel) (pa_cons (pe_lc (own := [("one", 1)]) (g := (gName 1)) (tt := tYes) (by rfl) sc_are_parts.nd (pi_tup (pv 0)) (blkOk_by (N := ["thing", "one", "other"]) (sc := defScope st_are_parts) (own := [("one", 1)]) (by decide +kernel)) (fun _ _ _ _ _ => (pg_name (i := 1) sc_are_parts.nd rfl (Or.inl rfl))) (fun _ _ _ _ _ => pts_nil) (fun _ _ _ _ _ => (pe_callD G_is_row hr (by decide) rfl passL (pa_cons (pv 1) pa_nil)))) pa_nil)))))))) (pss_one (ps_ret pe_bl)) pss_nil)
    (pss_one (ps_ret (pe_callB (cr_all rfl) rfl T.n_all (by decide +kernel) (pa_cons (pe_lc (own := [("one", 1), ("other", 2)]) (g := (gTup K 2 (gCons (gName 1) (gCons (gName 2) gNil)))) (tt := tYes) (by rfl) sc_are_parts.nd (RZ.pi_zipA rfl T.n_zip (pa_cons (pv 0) (pa_cons (pe_slice sl_tupA (pv 0) (po_some pe_int) po_none) pa_nil))) (blkOk_by (N := ["thing", "one", "other"]) (sc := defScope st_are_parts) (own := [("one", 1), ("other", 2)]) (by decide +kernel)) (fun _ _ _ _ _ => (pg_tup rfl (pgs_cons (pg_name (i := 1) sc_are_parts.nd rfl (Or.inl rfl)) (pgs_cons (pg_name (i := 2) sc_are_parts.nd rfl (Or.inl rfl)) pgs_nil)))) (fun _ _ _ _ _ => pts_nil) (fun _ _ _ _ _ => (pe_cmpR o_ltS (pe_ix ix_tup (pv 1) pe_int (fun _ _ => rfl)) (pe_ix ix_tup (pv 2) pe_int (fun _ _ => rfl)) (nomark _)))) pa_nil)))))

/-! are_barred -/
abbrev st_are_barred : Stmt := top 29
abbrev N_are_barred : List Str := ["thing", "names", "pair", "one", "other"]
theorem sc_are_barred : FnScope ["thing", "names", "pair", "one", "other"] ["thing", "names"] (defScope st_are_barred) := ⟨rfl, rfl, rfl, by decide +kernel, rfl, by decide +kernel, by decide +kernel⟩
def t_are_barred (K : PySem.W.Frag) (p_is_name : Sp) : TS :=
  (tSeq (tIfS (tOr (tNot (tB (tCB (rIsi K) (tCons (tVar 0) (tCons (tC (.ty "tuple")) tNil))))) (tTest (tOp qGt (tCB (qLenL K) (tCons (tVar 0) tNil)) (tC (.int 30))))) (tRet (tC (.bl false))) tNext)
    (tSeq (tFor (iTup K (tVar 0)) (gName 2) (tIfS (tOr (tNot (tB (tCB (rIsi K) (tCons (tVar 2) (tCons (tC (.ty "tuple")) tNil))))) (tOr (tTest (tOp rNe (tCB (qLenL K) (tCons (tVar 2) tNil)) (tC (.int 2)))) (tOr (tNot (tB (tCall p_is_name [] E0 (tCons (tOp (rIxT K) (tVar 2) (tC (.int 0))) tNil)))) (tNot (tB (tCall p_is_name [] E0 (tCons (tOp (rIxT K) (tVar 2) (tC (.int 1))) tNil))))))) (tRet (tC (.bl false))) tNext))
    (tSeq (tIfS (tNot (tB (tCB (rAll K) (tCons (tLc (iTup K (tVar 0)) (gName 2) tYes (tOp (rIn K false) (tOp (rIxT K) (tVar 2) (tC (.int 1))) (tVar 1)) [2]) tNil)))) (tRet (tC (.bl false))) tNext)
    (tRet (tCB (rAll K) (tCons (tLc (RZ.iZipA K (tCons (tVar 0) (tCons (tSl (rSlA K) (tVar 0) (tPart (tC (.int 1))) tNoPart) tNil))) (gTup K 2 (gCons (gName 3) (gCons (gName 4) gNil))) tYes (tOp (qLtP K) (tVar 3) (tVar 4)) [3, 4]) tNil))))))
theorem dv_are_barred {P : Program} {w : World} {K : PySem.W.Frag} {mg : Str → Option Value} {base : Heap} {f : Addr} {cd : Value} {A : Around} {outer : List Env} {s : Shared} {H : Hp} {E : XK} {p_is_name : Sp} (T : Tx w K mg)
    (hr : Room 1 (A.deeper (envOfC "are_barred" (defScope st_are_barred) s.heap.objs.size f cd)))
    (G_is_name : DefOk P w K mg base 1 "is_name" ["thing"] [] p_is_name) :
    PSs (cxOf (L2.CX P w) P w K mg base ["thing", "names", "pair", "one", "other"] "are_barred" (defScope st_are_barred) f cd A outer s H E).nox (defBody st_are_barred) (t_are_barred K p_is_name) := by
  unfold t_are_barred
  exact (pss_cons (ps_if (PW.pt (pw_or (pt_not (pt_val (pe_callB call_isi rfl T.n_isinstance (by decide +kernel) (pa_cons (pv 0) (pa_cons (pe_bltn rfl T.n_tuple (by decide +kernel) rfl) pa_nil))))) (pw_or1 (pt_cmpR op_gt (pe_callB c_lenL rfl T.n_len (by decide +kernel) (pa_cons (pv 0) pa_nil)) (pe_gI rfl T.g_MOST_BARRED) (nomark _))))) (pss_one (ps_ret pe_bl)) pss_nil)
    (pss_cons (ps_for PassesOwn.never rfl (pi_tup (pv 0)) (pg_name (i := 2) sc_are_barred.nd rfl (Or.inl rfl)) (pss_one (ps_if (PW.pt (pw_or (pt_not (pt_val (pe_callB call_isi rfl T.n_isinstance (by decide +kernel) (pa_cons (pv 2) (pa_cons (pe_bltn rfl T.n_tuple (by decide +kernel) rfl) pa_nil))))) (pw_or (pt_cmpR op_ne (pe_callB c_lenL rfl T.n_len (by decide +kernel) (pa_cons (pv 2) pa_nil)) pe_int (nomark _)) (pw_or (pt_not (pt_val (pe_callD G_is_name hr (by decide) rfl passL (pa_cons (pe_ix ix_tup (pv 2) pe_int (fun _ _ => rfl)) pa_nil)))) (pw_or1 (pt_not (pt_val (pe_callD G_is_name hr (by decide) rfl passL (pa_cons (pe_ix ix_tup (pv 2) pe_int (fun _ _ => rfl)) pa_nil))))))))) (pss_one (ps_ret pe_bl)) pss_nil)))
    (pss_cons (ps_if (pt_not (pt_val (pe_callB (cr_all rfl) rfl T.n_all (by decide +kernel) (pa_cons (pe_lc (own := [("pair", 2)]) (g := (gName 2)) (tt := tYes) (by rfl) sc_are_barred.nd (pi_tup (pv 0)) (blkOk_by (N := ["thing", "names", "pair", "one", "other"]) (sc := defScope st_are_barred) (own := [("pair", 2)]) (by decide +kernel)) (fun _ _ _ _ _ => (pg_name (i := 2) sc_are_barred.nd rfl (Or.inl rfl))) (fun _ _ _ _ _ => pts_nil) (fun _ _ _ _ _ => (pe_cmpR op_in_seq (pe_ix ix_tup (pv 2) pe_int (fun _ _ => rfl)) (pv 1) (by rfl)))) pa_nil)))) (pss_one (ps_ret pe_bl)) pss_nil)
    (pss_one (ps_ret (pe_callB (cr_all rfl) rfl T.n_all (by decide +kernel) (pa_cons (pe_lc (own := [("one", 3), ("other", 4)]) (g := (gTup K 2 (gCons (gName 3) (gCons (gName 4) gNil)))) (tt := tYes) (by rfl) sc_are_barred.nd (RZ.pi_zipA rfl T.n_zip (pa_cons (pv 0) (pa_cons (pe_slice sl_tupA (pv 0) (po_some pe_int) po_none) pa_nil))) (blkOk_by (N := ["thing", "names", "pair", "one", "other"]) (sc := defScope st_are_barred) (own := [("one", 3), ("other", 4)]) (by decide +kernel)) (fun _ _ _ _ _ => (pg_tup rfl (pgs_cons (pg_name (i := 3) sc_are_barred.nd rfl (Or.inl rfl)) (pgs_cons (pg_name (i := 4) sc_are_barred.nd rfl (Or.inl rfl)) pgs_nil)))) (fun _ _ _ _ _ => pts_nil) (fun _ _ _ _ _ => (pe_cmpR (o_ltP hr.units0) (pv 3) (pv 4) (nomark _)))) pa_nil)))))))

/-! part_in -/
abbrev st_part_in : Stmt := top 33
abbrev N_part_in : List Str := ["reader", "parts", "part", "own", "mended"]
theorem sc_part_in : FnScope ["reader", "parts", "part", "own", "mended"] ["reader", "parts"] (defScope st_part_in) := ⟨rfl, rfl, rfl, by decide +kernel, rfl, by decide +kernel, by decide +kernel⟩
def t_part_in (K : PySem.W.Frag) (E : XK) (p_Reader_ahead : Sp) (p_Reader_take : Sp) (p_is_name : Sp) (p_Reader_take_promise : Sp) : TS :=
  (tSeq (tAsg (tMeth (He.ga K "Reader") "ahead" p_Reader_ahead [] E0 (tVar 0) tNil) (gName 2))
    (tSeq (tDrop (tMeth (He.ga K "Reader") "take" p_Reader_take [] E (tVar 0) (tCons (tAndV (tCall p_is_name [] E0 (tCons (tVar 2) tNil)) (tOrV (tOp (qEqNil K) (tVar 1) (tLst tNil)) (tOp qLtS (tOp (rIxT K) (tOp (rIxL K) (tVar 1) (tUn (rU fun i => .int (-i)) (tC (.int 1)))) (tC (.int 0))) (tVar 2)))) tNil)))
    (tSeq (tAsg (tTup (tCons (tC .non) (tCons (tC .non) tNil))) (gTup K 2 (gCons (gName 3) (gCons (gName 4) gNil))))
    (tSeq (tIfS (tTest (tOp rEq (tMeth (He.ga K "Reader") "ahead" p_Reader_ahead [] E0 (tVar 0) tNil) (tC (.str "own")))) (tSeq (tDrop (tMeth (He.ga K "Reader") "take" p_Reader_take [] E (tVar 0) (tCons (tC (.bl true)) tNil)))
    (tAsg (tMeth (He.ga K "Reader") "take_promise" p_Reader_take_promise [] E (tVar 0) tNil) (gName 3))) tNext)
    (tSeq (tIfS (tTest (tOp rEq (tMeth (He.ga K "Reader") "ahead" p_Reader_ahead [] E0 (tVar 0) tNil) (tC (.str "mended")))) (tSeq (tDrop (tMeth (He.ga K "Reader") "take" p_Reader_take [] E (tVar 0) (tCons (tC (.bl true)) tNil)))
    (tAsg (tMeth (He.ga K "Reader") "take_promise" p_Reader_take_promise [] E (tVar 0) tNil) (gName 4))) tNext)
    (tRet (tTup (tCons (tVar 2) (tCons (tVar 3) (tCons (tVar 4) tNil))))))))))
theorem dv_part_in {P : Program} {w : World} {K : PySem.W.Frag} {mg : Str → Option Value} {base : Heap} {f : Addr} {cd : Value} {A : Around} {outer : List Env} {s : Shared} {H : Hp} {E : XK} {p_Reader_ahead p_Reader_take p_is_name p_Reader_take_promise : Sp} (T : Tx w K mg)
    (hr : Room 10 (A.deeper (envOfC "part_in" (defScope st_part_in) s.heap.objs.size f cd)))
    (M_Reader_ahead : MetOk P w K mg base 1 (He.ga K "Reader") "ahead" ["self"] [] p_Reader_ahead)
    (M_Reader_take : MetOk P w K mg base 8 (He.ga K "Reader") "take" ["self", "good"] [] p_Reader_take)
    (G_is_name : DefOk P w K mg base 1 "is_name" ["thing"] [] p_is_name)
    (M_Reader_take_promise : MetOk P w K mg base 10 (He.ga K "Reader") "take_promise" ["self"] [] p_Reader_take_promise) :
    PSs (cxOf (L2.CX P w) P w K mg base ["reader", "parts", "part", "own", "mended"] "part_in" (defScope st_part_in) f cd A outer s H E) (defBody st_part_in) (t_part_in K E p_Reader_ahead p_Reader_take p_is_name p_Reader_take_promise) := by
  unfold t_part_in
  exact (pss_cons (ps_set (i := 2) sc_part_in.nd rfl (Or.inl rfl) (pe_metD0 (pv 0) T.cl_Reader M_Reader_ahead hr (by decide) passL))
    (pss_cons (ps_expr (pe_metD (pv 0) T.cl_Reader M_Reader_take hr (by decide) (passes_call (takes_of rfl rfl rfl rfl) (fun _ _ _ _ h => h)) (pa_cons (pe_and (pe_callD G_is_name hr (by decide) rfl passL (pa_cons (pv 2) pa_nil)) (pe_one (pe_or (pe_cmpR (o_eqNil hr.units0) (pv 1) (pe_lst pa_nil) (nomark _)) (pe_one (pe_cmpR o_ltS (pe_ix ix_tup (pe_ix ix_list (pv 1) (pe_un un_neg pe_int) (fun _ _ => rfl)) pe_int (fun _ _ => rfl)) (pv 2) (nomark _)))))) pa_nil)))
    (pss_cons (ps_asg (pe_tup (pa_cons pe_non (pa_cons pe_non pa_nil))) (pg_tup rfl (pgs_cons (pg_name (i := 3) sc_part_in.nd rfl (Or.inl rfl)) (pgs_cons (pg_name (i := 4) sc_part_in.nd rfl (Or.inl rfl)) pgs_nil))))
    (pss_cons (ps_if (pt_cmpR op_eq (pe_metD0 (pv 0) T.cl_Reader M_Reader_ahead hr (by decide) passL) pe_str (nomark _)) (pss_cons (ps_expr (pe_metD (pv 0) T.cl_Reader M_Reader_take hr (by decide) (passes_call (takes_of rfl rfl rfl rfl) (fun _ _ _ _ h => h)) (pa_cons pe_bl pa_nil)))
    (pss_one (ps_set (i := 3) sc_part_in.nd rfl (Or.inl rfl) (pe_metD0 (pv 0) T.cl_Reader M_Reader_take_promise hr (by decide) (passes_call (takes_of rfl rfl rfl rfl) (fun _ _ _ _ h => h)))))) pss_nil)
    (pss_cons (ps_if (pt_cmpR op_eq (pe_metD0 (pv 0) T.cl_Reader M_Reader_ahead hr (by decide) passL) pe_str (nomark _)) (pss_cons (ps_expr (pe_metD (pv 0) T.cl_Reader M_Reader_take hr (by decide) (passes_call (takes_of rfl rfl rfl rfl) (fun _ _ _ _ h => h)) (pa_cons pe_bl pa_nil)))
    (pss_one (ps_set (i := 4) sc_part_in.nd rfl (Or.inl rfl) (pe_metD0 (pv 0) T.cl_Reader M_Reader_take_promise hr (by decide) (passes_call (takes_of rfl rfl rfl rfl) (fun _ _ _ _ h => h)))))) pss_nil)
    (pss_one (ps_ret (pe_tup (pa_cons (pv 2) (pa_cons (pv 3) (pa_cons (pv 4) pa_nil)))))))))))

/-! pair_in -/
abbrev st_pair_in : Stmt := top 34
abbrev N_pair_in : List Str := ["reader", "pairs", "names", "misuse", "least"]
theorem sc_pair_in : FnScope ["reader", "pairs", "names", "misuse", "least"] ["reader", "pairs", "names"] (defScope st_pair_in) := ⟨rfl, rfl, rfl, by decide +kernel, rfl, by decide +kernel, by decide +kernel⟩
def t_pair_in (K : PySem.W.Frag) (E : XK) (p_Reader_ahead : Sp) (p_Reader_take : Sp) (p_is_name : Sp) : TS :=
  (tSeq (tAsg (tMeth (He.ga K "Reader") "ahead" p_Reader_ahead [] E0 (tVar 0) tNil) (gName 3))
    (tSeq (tDrop (tMeth (He.ga K "Reader") "take" p_Reader_take [] E (tVar 0) (tCons (tAndV (tCall p_is_name [] E0 (tCons (tVar 3) tNil)) (tOrV (tOp (qEqNil K) (tVar 1) (tLst tNil)) (tOp qLeS (tOp (rIxT K) (tOp (rIxL K) (tVar 1) (tUn (rU fun i => .int (-i)) (tC (.int 1)))) (tC (.int 0))) (tVar 3)))) tNil)))
    (tSeq (tAsg (tIf (tAnd (tTest (tOp (qNeNil K) (tVar 1) (tLst tNil))) (tTest (tOp rEq (tOp (rIxT K) (tOp (rIxL K) (tVar 1) (tUn (rU fun i => .int (-i)) (tC (.int 1)))) (tC (.int 0))) (tVar 3)))) (tOp (rIxT K) (tOp (rIxL K) (tVar 1) (tUn (rU fun i => .int (-i)) (tC (.int 1)))) (tC (.int 1))) (tC (.str ""))) (gName 4))
    (tRet (tTup (tCons (tVar 3) (tCons (tMeth (He.ga K "Reader") "take" p_Reader_take [] E (tVar 0) (tCons (tAndV (tOp (rIn K false) (tMeth (He.ga K "Reader") "ahead" p_Reader_ahead [] E0 (tVar 0) tNil) (tVar 2)) (tOp qLtS (tVar 4) (tMeth (He.ga K "Reader") "ahead" p_Reader_ahead [] E0 (tVar 0) tNil))) tNil)) tNil)))))))
theorem dv_pair_in {P : Program} {w : World} {K : PySem.W.Frag} {mg : Str → Option Value} {base : Heap} {f : Addr} {cd : Value} {A : Around} {outer : List Env} {s : Shared} {H : Hp} {E : XK} {p_Reader_ahead p_Reader_take p_is_name : Sp} (T : Tx w K mg)
    (hr : Room 8 (A.deeper (envOfC "pair_in" (defScope st_pair_in) s.heap.objs.size f cd)))
    (M_Reader_ahead : MetOk P w K mg base 1 (He.ga K "Reader") "ahead" ["self"] [] p_Reader_ahead)
    (M_Reader_take : MetOk P w K mg base 8 (He.ga K "Reader") "take" ["self", "good"] [] p_Reader_take)
    (G_is_name : DefOk P w K mg base 1 "is_name" ["thing"] [] p_is_name) :
    PSs (cxOf (L2.CX P w) P w K mg base ["reader", "pairs", "names", "misuse", "least"] "pair_in" (defScope st_pair_in) f cd A outer s H E) (defBody st_pair_in) (t_pair_in K E p_Reader_ahead p_Reader_take p_is_name) := by
  unfold t_pair_in
  exact (pss_cons (ps_set (i := 3) sc_pair_in.nd rfl (Or.inl rfl) (pe_metD0 (pv 0) T.cl_Reader M_Reader_ahead hr (by decide) passL))
    (pss_cons (ps_expr (pe_metD (pv 0) T.cl_Reader M_Reader_take hr (by decide) (passes_call (takes_of rfl rfl rfl rfl) (fun _ _ _ _ h => h)) (pa_cons (pe_and (pe_callD G_is_name hr (by decide) rfl passL (pa_cons (pv 3) pa_nil)) (pe_one (pe_or (pe_cmpR (o_eqNil hr.units0) (pv 1) (pe_lst pa_nil) (nomark _)) (pe_one (pe_cmpR o_leS (pe_ix ix_tup (pe_ix ix_list (pv 1) (pe_un un_neg pe_int) (fun _ _ => rfl)) pe_int (fun _ _ => rfl)) (pv 3) (nomark _)))))) pa_nil)))
    (pss_cons (ps_set (i := 4) sc_pair_in.nd rfl (Or.inl rfl) (pe_ifExp (PW.pt (pw_and (pt_cmpR (o_neNil hr.units0) (pv 1) (pe_lst pa_nil) (nomark _)) (pw_and1 (pt_cmpR op_eq (pe_ix ix_tup (pe_ix ix_list (pv 1) (pe_un un_neg pe_int) (fun _ _ => rfl)) pe_int (fun _ _ => rfl)) (pv 3) (nomark _))))) (pe_ix ix_tup (pe_ix ix_list (pv 1) (pe_un un_neg pe_int) (fun _ _ => rfl)) pe_int (fun _ _ => rfl)) pe_str))
    (pss_one (ps_ret (pe_tup (pa_cons (pv 3) (pa_cons (pe_metD (pv 0) T.cl_Reader M_Reader_take hr (by decide) (passes_call (takes_of rfl rfl rfl rfl) (fun _ _ _ _ h => h)) (pa_cons (pe_and (pe_cmpR op_in_seq (pe_metD0 (pv 0) T.cl_Reader M_Reader_ahead hr (by decide) passL) (pv 2) (by rfl)) (pe_one (pe_cmpR o_ltS (pv 4) (pe_metD0 (pv 0) T.cl_Reader M_Reader_ahead hr (by decide) passL) (nomark _)))) pa_nil)) pa_nil))))))))

/-! read_sort -/
abbrev st_read_sort : Stmt := top 36
abbrev N_read_sort : List Str := ["text", "rows", "place", "row", "words"]
theorem sc_read_sort : FnScope ["text", "rows", "place", "row", "words"] ["text"] (defScope st_read_sort) := ⟨rfl, rfl, rfl, by decide +kernel, rfl, by decide +kernel, by decide +kernel⟩
def t_read_sort (K : PySem.W.Frag) (E : XK) (p_BadText_init : Sp) (p_SortReader_init : Sp) (p_words_of : Sp) (p_SortReader_take_row : Sp) (p_Reader_init : Sp) (p_SortReader_whole_sort : Sp) : TS :=
  (tSeq (tIfS (tNot (tB (tCB (rIsi K) (tCons (tVar 0) (tCons (tC (.ty "str")) tNil))))) (tRz (He.ga K "BadText") p_BadText_init E (tCons (tC (.int 0)) (tCons (tC (.int 0)) tNil))) tNext)
    (tSeq (tAsg (tMake (He.ga K "SortReader") p_SortReader_init [] E0 tNil) (gName 1))
    (tSeq (tFor (iEnum K (tCons (tM1 qSplit (tVar 0) (tC (.str "\n"))) tNil)) (gTup K 2 (gCons (gName 2) (gCons (gName 3) gNil))) (tSeq (tAsg (tCall p_words_of [] E0 (tCons (tVar 3) tNil)) (gName 4))
    (tSeq (tIfS (tTest (tOp qIsN (tVar 4) (tC .non))) (tRz (He.ga K "BadText") p_BadText_init E (tCons (tOp qAdd (tVar 2) (tC (.int 1))) (tCons (tC (.int 0)) tNil))) tNext)
    (tDrop (tMeth (He.ga K "SortReader") "take_row" p_SortReader_take_row [] E (tVar 1) (tCons (tMakeK (He.ga K "Reader") 1 (["row"] : List Str).length p_Reader_init (fun vs zs => vs ++ zs) E0 (tCons (tVar 4) tNil) (tCons (tOp qAdd (tVar 2) (tC (.int 1))) tNil)) tNil))))))
    (tRet (tMeth (He.ga K "SortReader") "whole_sort" p_SortReader_whole_sort [] E0 (tVar 1) tNil)))))
theorem dv_read_sort {P : Program} {w : World} {K : PySem.W.Frag} {mg : Str → Option Value} {base : Heap} {f : Addr} {cd : Value} {A : Around} {outer : List Env} {s : Shared} {H : Hp} {E : XK} {p_BadText_init p_SortReader_init p_words_of p_SortReader_take_row p_Reader_init p_SortReader_whole_sort : Sp} (T : Tx w K mg)
    (hr : Room 12 (A.deeper (envOfC "read_sort" (defScope st_read_sort) s.heap.objs.size f cd)))
    (X_BadText : ExcOk P w K mg base 5 "BadText" (He.ga K "BadText") ["self", "row", "word"] p_BadText_init)
    (K_SortReader_init : MakOk P w K mg base 1 "SortReader" (He.ga K "SortReader") ["self"] [] p_SortReader_init)
    (G_words_of : DefOk P w K mg base 1 "words_of" ["row"] [] p_words_of)
    (M_SortReader_take_row : MetOk P w K mg base 12 (He.ga K "SortReader") "take_row" ["self", "reader"] [] p_SortReader_take_row)
    (K_Reader_init_kw : MakKw P w K mg base 1 "Reader" (He.ga K "Reader") ["self", "words", "row"] 1 ["row"] (fun vs zs => vs ++ zs) p_Reader_init)
    (M_SortReader_whole_sort : MetOk P w K mg base 6 (He.ga K "SortReader") "whole_sort" ["self"] [] p_SortReader_whole_sort) :
    PSs (cxOf (L2.CX P w) P w K mg base ["text", "rows", "place", "row", "words"] "read_sort" (defScope st_read_sort) f cd A outer s H E) (defBody st_read_sort) (t_read_sort K E p_BadText_init p_SortReader_init p_words_of p_SortReader_take_row p_Reader_init p_SortReader_whole_sort) := by
  unfold t_read_sort
  exact (pss_cons (ps_if (pt_not (pt_val (pe_callB call_isi rfl T.n_isinstance (by decide +kernel) (pa_cons (pv 0) (pa_cons (pe_bltn rfl T.n_str (by decide +kernel) rfl) pa_nil))))) (pss_one (ps_raise rfl (takes_of rfl rfl rfl rfl) (pmk_D X_BadText hr (by decide) rfl (pa_cons pe_int (pa_cons pe_int pa_nil))))) pss_nil)
    (pss_cons (ps_set (i := 1) sc_read_sort.nd rfl (Or.inl rfl) (pe_makD0 K_SortReader_init hr (by decide) rfl passL))
    (pss_cons (ps_for (passes_of rfl) rfl (pi_enum rfl T.n_enumerate (pa_cons (pe_m1 F.slot_str_split F.type_str_split m_split (pv 0) pe_str) pa_nil)) (pg_tup rfl (pgs_cons (pg_name (i := 2) sc_read_sort.nd rfl (Or.inl rfl)) (pgs_cons (pg_name (i := 3) sc_read_sort.nd rfl (Or.inl rfl)) pgs_nil))) (pss_cons (ps_set (i := 4) sc_read_sort.nd rfl (Or.inl rfl) (pe_callD G_words_of hr (by decide) rfl passL (pa_cons (pv 3) pa_nil)))
    (pss_cons (ps_if (pt_cmpR o_isN (pv 4) pe_non (nomark _)) (pss_one (ps_raise rfl (takes_of rfl rfl rfl rfl) (pmk_D X_BadText hr (by decide) rfl (pa_cons (pe_op op_add (pv 2) pe_int) (pa_cons pe_int pa_nil))))) pss_nil)
    (pss_one (ps_expr (pe_metD (pv 1) T.cl_SortReader M_SortReader_take_row hr (by decide) (passes_call (takes_of rfl rfl rfl rfl) (fun _ _ _ _ h => h)) (pa_cons (pe_makK K_Reader_init_kw hr (by decide) rfl passL (pa_cons (pv 4) pa_nil) (pk_cons (pe_op op_add (pv 2) pe_int) pk_nil)) pa_nil)))))))
    (pss_one (ps_ret (pe_metD0 (pv 1) T.cl_SortReader M_SortReader_whole_sort hr (by decide) passL))))))

/-! Promise.__init__ -/
abbrev st_Promise_init : Stmt := inClass (top 22) 0
abbrev N_Promise_init : List Str := ["self", "days", "miles", "turns", "name", "number"]
theorem sc_Promise_init : FnScope ["self", "days", "miles", "turns", "name", "number"] ["self", "days", "miles", "turns"] (defScope st_Promise_init) := ⟨rfl, rfl, rfl, by decide +kernel, rfl, by decide +kernel, by decide +kernel⟩
def t_Promise_init (w : World) (K : PySem.W.Frag) (p_is_whole : Sp) : TS :=
  (tSeq (tFor (RZ.iZipA K (tCons (tC (.ref (He.ga K "BOUNDS"))) (tCons (tTup (tCons (tVar 1) (tCons (tVar 2) (tCons (tVar 3) tNil)))) tNil))) (gTup K 2 (gCons (gName 4) (gCons (gName 5) gNil))) (tIfS (tAnd (tTest (tOp qNotN (tVar 5) (tC .non))) (tNot (tB (tCallN 2 (["most"] : List Str).length p_is_whole (fun vs zs => vs ++ zs) E0 (tCons (tVar 5) (tCons (tC (.int 0)) tNil)) (tCons (tOp (rIxD K w) (tC (.ref (He.ga K "MOST_OF"))) (tVar 4)) tNil))))) tNever tNext))
    (sFld K (tVar 0) (tTup (tCons (tVar 1) (tCons (tVar 2) (tCons (tVar 3) tNil)))) "limits"))
theorem dv_Promise_init {P : Program} {w : World} {K : PySem.W.Frag} {mg : Str → Option Value} {base : Heap} {f : Addr} {cd : Value} {A : Around} {outer : List Env} {s : Shared} {H : Hp} {E : XK} {p_is_whole : Sp} (T : Tx w K mg)
    (hr : Room 2 (A.deeper (envOfC "Promise.__init__" (defScope st_Promise_init) s.heap.objs.size f cd)))
    (G_is_whole_kw : DefKw P w K mg base 1 "is_whole" ["thing", "least", "most"] 2 ["most"] (fun vs zs => vs ++ zs) p_is_whole) :
    PSs (cxOf (L2.CX P w) P w K mg base ["self", "days", "miles", "turns", "name", "number"] "Promise.__init__" (defScope st_Promise_init) f cd A outer s H E).nox (defBody st_Promise_init) (t_Promise_init w K p_is_whole) := by
  unfold t_Promise_init
  exact (pss_cons (ps_for PassesOwn.never rfl (RZ.pi_zipA rfl T.n_zip (pa_cons (pe_glob rfl T.g_BOUNDS rfl) (pa_cons (pe_tup (pa_cons (pv 1) (pa_cons (pv 2) (pa_cons (pv 3) pa_nil)))) pa_nil))) (pg_tup rfl (pgs_cons (pg_name (i := 4) sc_Promise_init.nd rfl (Or.inl rfl)) (pgs_cons (pg_name (i := 5) sc_Promise_init.nd rfl (Or.inl rfl)) pgs_nil))) (pss_one (ps_if (PW.pt (pw_and (pt_cmpR o_notN (pv 5) pe_non (nomark _)) (pw_and1 (pt_not (pt_val (pe_callK' G_is_whole_kw hr (by decide) rfl passL (pa_cons (pv 5) (pa_cons pe_int pa_nil)) (pk_cons (pe_ix ix_kdict (pe_glob rfl T.g_MOST_OF rfl) (pv 4) (fun _ _ => rfl)) pk_nil))))))) (pss_one ps_never) pss_nil)))
    (pss_one (ps_fld (pv 0) (pe_tup (pa_cons (pv 1) (pa_cons (pv 2) (pa_cons (pv 3) pa_nil)))) rfl)))

/-! Promise.__str__ -/
abbrev st_Promise_str : Stmt := inClass (top 22) 10
abbrev N_Promise_str : List Str := ["self", "rows", "words", "name", "limit"]
theorem sc_Promise_str : FnScope ["self", "rows", "words", "name", "limit"] ["self"] (defScope st_Promise_str) := ⟨rfl, rfl, rfl, by decide +kernel, rfl, by decide +kernel, by decide +kernel⟩
def t_Promise_str (K : PySem.W.Frag) : TS :=
  (tSeq (tAsg (tListZip K (tCons (tC (.ref (He.ga K "BOUNDS"))) (tCons (tFld K (tVar 0) "limits") tNil))) (gName 1))
    (tSeq (tAsg (tLc (iList K (tVar 1)) (gTup K 2 (gCons (gName 3) (gCons (gName 4) gNil))) (tTest (tOp qNotN (tVar 4) (tC .non))) (tOp qAddS (tOp qAddS (tCB qStrI (tCons (tVar 4) tNil)) (tC (.str " "))) (tVar 3)) [3, 4]) (gName 2))
    (tRet (tM1 (qJoin K) (tC (.str " ")) (tIf (tTest (tOp (qNeNil K) (tVar 2) (tLst tNil))) (tVar 2) (tLst (tCons (tC (.str "endless")) tNil)))))))
theorem dv_Promise_str {P : Program} {w : World} {K : PySem.W.Frag} {mg : Str → Option Value} {base : Heap} {f : Addr} {cd : Value} {A : Around} {outer : List Env} {s : Shared} {H : Hp} {E : XK} (T : Tx w K mg)
    (hr : Room 0 (A.deeper (envOfC "Promise.__str__" (defScope st_Promise_str) s.heap.objs.size f cd))) :
    PSs (cxOf (L2.CX P w) P w K mg base ["self", "rows", "words", "name", "limit"] "Promise.__str__" (defScope st_Promise_str) f cd A outer s H E).nox (defBody st_Promise_str) (t_Promise_str K) := by
  unfold t_Promise_str
  exact (pss_cons (ps_set (i := 1) sc_Promise_str.nd rfl (Or.inl rfl) (pe_listzip rfl T.n_list rfl T.n_zip (pa_cons (pe_glob rfl T.g_BOUNDS rfl) (pa_cons (pe_fld (pv 0) rfl) pa_nil))))
    (pss_cons (ps_setLc (i := 2) (own := [("name", 3), ("limit", 4)]) (g := (gTup K 2 (gCons (gName 3) (gCons (gName 4) gNil)))) (tt := (tTest (tOp qNotN (tVar 4) (tC .non)))) (by rfl) sc_Promise_str.nd rfl rfl (sw_true rfl rfl rfl (by decide +kernel)) (pi_list (pv 1)) (blkOk_by (N := ["self", "rows", "words", "name", "limit"]) (sc := defScope st_Promise_str) (own := [("name", 3), ("limit", 4)]) (by decide +kernel)) (fun _ _ _ _ _ => (pg_tup rfl (pgs_cons (pg_name (i := 3) sc_Promise_str.nd rfl (Or.inl rfl)) (pgs_cons (pg_name (i := 4) sc_Promise_str.nd rfl (Or.inl rfl)) pgs_nil)))) (fun _ _ _ _ _ => (pts_one (pt_cmpR o_notN (pv 4) pe_non (nomark _)))) (fun _ _ _ _ _ => (pe_op o_addS (pe_op o_addS (pe_callTy c_strI rfl T.n_str (by decide +kernel) (pa_cons (pv 4) pa_nil)) pe_str) (pv 3))))
    (pss_one (ps_ret (pe_m1 F.slot_str_join F.type_str_join m_join pe_str (pe_ifExp (pt_cmpR (o_neNil hr.units0) (pv 2) (pe_lst pa_nil) (nomark _)) (pv 2) (pe_lst (pa_cons pe_str pa_nil))))))))

/-! Sort.__init__ -/
abbrev st_Sort_init : Stmt := inClass (top 30) 0
abbrev N_Sort_init : List Str := ["self", "name", "promise", "parts", "barred", "row"]
theorem sc_Sort_init : FnScope ["self", "name", "promise", "parts", "barred", "row"] ["self", "name", "promise", "parts", "barred"] (defScope st_Sort_init) := ⟨rfl, rfl, rfl, by decide +kernel, rfl, by decide +kernel, by decide +kernel⟩
def t_Sort_init (K : PySem.W.Frag) (p_is_name : Sp) (p_need_promise : Sp) (p_are_parts : Sp) (p_are_barred : Sp) : TS :=
  (tSeq (tIfS (tNot (tB (tCall p_is_name [] E0 (tCons (tVar 1) tNil)))) tNever tNext)
    (tSeq (tDrop (tCall p_need_promise [] E0 (tCons (tVar 2) tNil)))
    (tSeq (sFld K (tVar 0) (tVar 1) "called")
    (tSeq (sFld K (tVar 0) (tVar 2) "promised")
    (tSeq (sFld K (tVar 0) (tIf (tTest (tOp qIsN (tVar 3) (tC .non))) (tTup tNil) (tVar 3)) "part_rows")
    (tSeq (tIfS (tNot (tB (tCall p_are_parts [] E0 (tCons (tFld K (tVar 0) "part_rows") tNil)))) tNever tNext)
    (tSeq (sFld K (tVar 0) (tIf (tTest (tOp qIsN (tVar 4) (tC .non))) (tTup tNil) (tVar 4)) "barred_pairs")
    (tIfS (tNot (tB (tCall p_are_barred [] E0 (tCons (tFld K (tVar 0) "barred_pairs") (tCons (tLc (iTup K (tFld K (tVar 0) "part_rows")) (gName 5) tYes (tOp (rIxT K) (tVar 5) (tC (.int 0))) [5]) tNil))))) tNever tNext))))))))
theorem dv_Sort_init {P : Program} {w : World} {K : PySem.W.Frag} {mg : Str → Option Value} {base : Heap} {f : Addr} {cd : Value} {A : Around} {outer : List Env} {s : Shared} {H : Hp} {E : XK} {p_is_name p_need_promise p_are_parts p_are_barred : Sp} (T : Tx w K mg)
    (hr : Room 3 (A.deeper (envOfC "Sort.__init__" (defScope st_Sort_init) s.heap.objs.size f cd)))
    (G_is_name : DefOk P w K mg base 1 "is_name" ["thing"] [] p_is_name)
    (G_need_promise : DefOk P w K mg base 3 "need_promise" ["thing"] [] p_need_promise)
    (G_are_parts : DefOk P w K mg base 3 "are_parts" ["thing"] [] p_are_parts)
    (G_are_barred : DefOk P w K mg base 2 "are_barred" ["thing", "names"] [] p_are_barred) :
    PSs (cxOf (L2.CX P w) P w K mg base ["self", "name", "promise", "parts", "barred", "row"] "Sort.__init__" (defScope st_Sort_init) f cd A outer s H E).nox (defBody st_Sort_init) (t_Sort_init K p_is_name p_need_promise p_are_parts p_are_barred) := by
  unfold t_Sort_init
  exact (pss_cons (ps_if (pt_not (pt_val (pe_callD G_is_name hr (by decide) rfl passL (pa_cons (pv 1) pa_nil)))) (pss_one ps_never) pss_nil)
    (pss_cons (ps_expr (pe_callD G_need_promise hr (by decide) rfl passL (pa_cons (pv 2) pa_nil)))
    (pss_cons (ps_fld (pv 0) (pv 1) rfl)
    (pss_cons (ps_fld (pv 0) (pv 2) rfl)
    (pss_cons (ps_fld (pv 0) (pe_ifExp (pt_cmpR o_isN (pv 3) pe_non (nomark _)) (pe_tup pa_nil) (pv 3)) rfl)
    (pss_cons (ps_if (pt_not (pt_val (pe_callD G_are_parts hr (by decide) rfl passL (pa_cons (pe_fld (pv 0) rfl) pa_nil)))) (pss_one ps_never) pss_nil)
    (pss_cons (ps_fld (pv 0) (pe_ifExp (pt_cmpR o_isN (pv 4) pe_non (nomark _)) (pe_tup pa_nil) (pv 4)) rfl)
    (pss_one (ps_if (pt_not (pt_val (pe_callD G_are_barred hr (by decide) rfl passL (pa_cons (pe_fld (pv 0) rfl) (pa_cons (pe_lc (own := [("row", 5)]) (g := (gName 5)) (tt := tYes) (by rfl) sc_Sort_init.nd (pi_tup (pe_fld (pv 0) rfl)) (blkOk_by (N := ["self", "name", "promise", "parts", "barred", "row"]) (sc := defScope st_Sort_init) (own := [("row", 5)]) (by decide +kernel)) (fun _ _ _ _ _ => (pg_name (i := 5) sc_Sort_init.nd rfl (Or.inl rfl))) (fun _ _ _ _ _ => pts_nil) (fun _ _ _ _ _ => (pe_ix ix_tup (pv 5) pe_int (fun _ _ => rfl)))) pa_nil))))) (pss_one ps_never) pss_nil)))))))))

/-! Sort.rows -/
abbrev st_Sort_rows : Stmt := inClass (top 30) 8
abbrev N_Sort_rows : List Str := ["self", "found", "part", "own", "mended", "row", "misuse"]
theorem sc_Sort_rows : FnScope ["self", "found", "part", "own", "mended", "row", "misuse"] ["self"] (defScope st_Sort_rows) := ⟨rfl, rfl, rfl, by decide +kernel, rfl, by decide +kernel, by decide +kernel⟩
def t_Sort_rows (K : PySem.W.Frag) (p_Promise_str : Sp) : TS :=
  (tSeq (tAsg (tLst (tCons (tOp qAddS (tOp qAddS (tOp qAddS (tC (.str "sort ")) (tFld K (tVar 0) "called")) (tC (.str " "))) (tCB (qStrO (He.ga K "Promise") p_Promise_str) (tCons (tFld K (tVar 0) "promised") tNil))) tNil)) (gName 1))
    (tSeq (tFor (iTup K (tFld K (tVar 0) "part_rows")) (gTup K 3 (gCons (gName 2) (gCons (gName 3) (gCons (gName 4) gNil)))) (tSeq (tAsg (tOp qAddS (tC (.str "part ")) (tVar 2)) (gName 5))
    (tSeq (tIfS (tTest (tOp qNotN (tVar 3) (tC .non))) (tAug 5 (tOp qAddS (tC (.str " own ")) (tCB (qStrO (He.ga K "Promise") p_Promise_str) (tCons (tVar 3) tNil))) qAddS) tNext)
    (tSeq (tIfS (tTest (tOp qNotN (tVar 4) (tC .non))) (tAug 5 (tOp qAddS (tC (.str " mended ")) (tCB (qStrO (He.ga K "Promise") p_Promise_str) (tCons (tVar 4) tNil))) qAddS) tNext)
    (tDrop (tBM K "list" rAppend (tVar 1) (tCons (tVar 5) tNil)))))))
    (tRet (tOp rCat (tVar 1) (tLc (iTup K (tFld K (tVar 0) "barred_pairs")) (gTup K 2 (gCons (gName 6) (gCons (gName 2) gNil))) tYes (tOp qAddS (tOp qAddS (tOp qAddS (tC (.str "barred ")) (tVar 6)) (tC (.str " "))) (tVar 2)) [6, 2])))))
theorem dv_Sort_rows {P : Program} {w : World} {K : PySem.W.Frag} {mg : Str → Option Value} {base : Heap} {f : Addr} {cd : Value} {A : Around} {outer : List Env} {s : Shared} {H : Hp} {E : XK} {p_Promise_str : Sp} (T : Tx w K mg)
    (hr : Room 5 (A.deeper (envOfC "Sort.rows" (defScope st_Sort_rows) s.heap.objs.size f cd)))
    (M_Promise_str : MetOk P w K mg base 1 (He.ga K "Promise") "__str__" ["self"] [] p_Promise_str) :
    PSs (cxOf (L2.CX P w) P w K mg base ["self", "found", "part", "own", "mended", "row", "misuse"] "Sort.rows" (defScope st_Sort_rows) f cd A outer s H E).nox (defBody st_Sort_rows) (t_Sort_rows K p_Promise_str) := by
  unfold t_Sort_rows
  exact (pss_cons (ps_set (i := 1) sc_Sort_rows.nd rfl (Or.inl rfl) (pe_lst (pa_cons (pe_op o_addS (pe_op o_addS (pe_op o_addS pe_str (pe_fld (pv 0) rfl)) pe_str) (pe_callTy (c_strO T.cl_Promise hr (by decide) M_Promise_str passL) rfl T.n_str (by decide +kernel) (pa_cons (pe_fld (pv 0) rfl) pa_nil))) pa_nil)))
    (pss_cons (ps_for PassesOwn.never rfl (pi_tup (pe_fld (pv 0) rfl)) (pg_tup rfl (pgs_cons (pg_name (i := 2) sc_Sort_rows.nd rfl (Or.inl rfl)) (pgs_cons (pg_name (i := 3) sc_Sort_rows.nd rfl (Or.inl rfl)) (pgs_cons (pg_name (i := 4) sc_Sort_rows.nd rfl (Or.inl rfl)) pgs_nil)))) (pss_cons (ps_set (i := 5) sc_Sort_rows.nd rfl (Or.inl rfl) (pe_op o_addS pe_str (pv 2)))
    (pss_cons (ps_if (pt_cmpR o_notN (pv 3) pe_non (nomark _)) (pss_one (ps_aug (i := 5) sc_Sort_rows.nd rfl (Or.inl rfl) (pe_op o_addS pe_str (pe_callTy (c_strO T.cl_Promise hr (by decide) M_Promise_str passL) rfl T.n_str (by decide +kernel) (pa_cons (pv 3) pa_nil))) ip_addS)) pss_nil)
    (pss_cons (ps_if (pt_cmpR o_notN (pv 4) pe_non (nomark _)) (pss_one (ps_aug (i := 5) sc_Sort_rows.nd rfl (Or.inl rfl) (pe_op o_addS pe_str (pe_callTy (c_strO T.cl_Promise hr (by decide) M_Promise_str passL) rfl T.n_str (by decide +kernel) (pa_cons (pv 4) pa_nil))) ip_addS)) pss_nil)
    (pss_one (ps_expr (pe_bm PySem.F.plainAttrs_list PySem.F.slot_list_append PySem.F.type_list_append mt_append (pv 1) (pa_cons (pv 5) pa_nil))))))))
    (pss_one (ps_ret (pe_op op_cat (pv 1) (pe_lc (own := [("misuse", 6), ("part", 2)]) (g := (gTup K 2 (gCons (gName 6) (gCons (gName 2) gNil)))) (tt := tYes) (by rfl) sc_Sort_rows.nd (pi_tup (pe_fld (pv 0) rfl)) (blkOk_by (N := ["self", "found", "part", "own", "mended", "row", "misuse"]) (sc := defScope st_Sort_rows) (own := [("misuse", 6), ("part", 2)]) (by decide +kernel)) (fun _ _ _ _ _ => (pg_tup rfl (pgs_cons (pg_name (i := 6) sc_Sort_rows.nd rfl (Or.inl rfl)) (pgs_cons (pg_name (i := 2) sc_Sort_rows.nd rfl (Or.inl rfl)) pgs_nil)))) (fun _ _ _ _ _ => pts_nil) (fun _ _ _ _ _ => (pe_op o_addS (pe_op o_addS (pe_op o_addS pe_str (pv 6)) pe_str) (pv 2)))))))))

/-! Sort.__eq__ -/
abbrev st_Sort_eq : Stmt := inClass (top 30) 9
abbrev N_Sort_eq : List Str := ["self", "other"]
theorem sc_Sort_eq : FnScope ["self", "other"] ["self", "other"] (defScope st_Sort_eq) := ⟨rfl, rfl, rfl, by decide +kernel, rfl, by decide +kernel, by decide +kernel⟩
def t_Sort_eq (K : PySem.W.Frag) (p_Sort_rows : Sp) : TS :=
  (tRet (tAndV (tCB (rIsi K) (tCons (tVar 1) (tCons (tC (.ref (He.ga K "Sort"))) tNil))) (tOp (qEqStrs K) (tMeth (He.ga K "Sort") "rows" p_Sort_rows [] E0 (tVar 0) tNil) (tMeth (He.ga K "Sort") "rows" p_Sort_rows [] E0 (tVar 1) tNil))))
theorem dv_Sort_eq {P : Program} {w : World} {K : PySem.W.Frag} {mg : Str → Option Value} {base : Heap} {f : Addr} {cd : Value} {A : Around} {outer : List Env} {s : Shared} {H : Hp} {E : XK} {p_Sort_rows : Sp} (T : Tx w K mg)
    (hr : Room 6 (A.deeper (envOfC "Sort.__eq__" (defScope st_Sort_eq) s.heap.objs.size f cd)))
    (M_Sort_rows : MetOk P w K mg base 6 (He.ga K "Sort") "rows" ["self"] [] p_Sort_rows) :
    PSs (cxOf (L2.CX P w) P w K mg base ["self", "other"] "Sort.__eq__" (defScope st_Sort_eq) f cd A outer s H E).nox (defBody st_Sort_eq) (t_Sort_eq K p_Sort_rows) := by
  unfold t_Sort_eq
  exact (pss_one (ps_ret (pe_and (pe_callB call_isi rfl T.n_isinstance (by decide +kernel) (pa_cons (pv 1) (pa_cons (pe_glob rfl T.g_Sort rfl) pa_nil))) (pe_one (pe_cmpR (o_eqStrs hr.units0) (pe_metD0 (pv 0) T.cl_Sort M_Sort_rows hr (by decide) passL) (pe_metD0 (pv 1) T.cl_Sort M_Sort_rows hr (by decide) passL) (nomark _))))))

/-! Sort.__str__ -/
abbrev st_Sort_str : Stmt := inClass (top 30) 11
abbrev N_Sort_str : List Str := ["self"]
theorem sc_Sort_str : FnScope ["self"] ["self"] (defScope st_Sort_str) := ⟨rfl, rfl, rfl, by decide +kernel, rfl, by decide +kernel, by decide +kernel⟩
def t_Sort_str (K : PySem.W.Frag) (p_Sort_rows : Sp) : TS :=
  (tRet (tM1 (qJoin K) (tC (.str "\n")) (tMeth (He.ga K "Sort") "rows" p_Sort_rows [] E0 (tVar 0) tNil)))
theorem dv_Sort_str {P : Program} {w : World} {K : PySem.W.Frag} {mg : Str → Option Value} {base : Heap} {f : Addr} {cd : Value} {A : Around} {outer : List Env} {s : Shared} {H : Hp} {E : XK} {p_Sort_rows : Sp} (T : Tx w K mg)
    (hr : Room 6 (A.deeper (envOfC "Sort.__str__" (defScope st_Sort_str) s.heap.objs.size f cd)))
    (M_Sort_rows : MetOk P w K mg base 6 (He.ga K "Sort") "rows" ["self"] [] p_Sort_rows) :
    PSs (cxOf (L2.CX P w) P w K mg base ["self"] "Sort.__str__" (defScope st_Sort_str) f cd A outer s H E).nox (defBody st_Sort_str) (t_Sort_str K p_Sort_rows) := by
  unfold t_Sort_str
  exact (pss_one (ps_ret (pe_m1 F.slot_str_join F.type_str_join m_join pe_str (pe_metD0 (pv 0) T.cl_Sort M_Sort_rows hr (by decide) passL))))

/-! Reader.__init__ -/
abbrev st_Reader_init : Stmt := inClass (top 32) 0
abbrev N_Reader_init : List Str := ["self", "words", "row"]
theorem sc_Reader_init : FnScope ["self", "words", "row"] ["self", "words", "row"] (defScope st_Reader_init) := ⟨rfl, rfl, rfl, by decide +kernel, rfl, by decide +kernel, by decide +kernel⟩
def t_Reader_init (K : PySem.W.Frag) : TS :=
  (tSeq (sFld K (tVar 0) (tVar 1) "all_words")
    (tSeq (sFld K (tVar 0) (tVar 2) "on_row")
    (sFld K (tVar 0) (tC (.int 0)) "taken")))
theorem dv_Reader_init {P : Program} {w : World} {K : PySem.W.Frag} {mg : Str → Option Value} {base : Heap} {f : Addr} {cd : Value} {A : Around} {outer : List Env} {s : Shared} {H : Hp} {E : XK} (T : Tx w K mg)
    (hr : Room 0 (A.deeper (envOfC "Reader.__init__" (defScope st_Reader_init) s.heap.objs.size f cd))) :
    PSs (cxOf (L2.CX P w) P w K mg base ["self", "words", "row"] "Reader.__init__" (defScope st_Reader_init) f cd A outer s H E).nox (defBody st_Reader_init) (t_Reader_init K) := by
  unfold t_Reader_init
  exact (pss_cons (ps_fld (pv 0) (pv 1) rfl)
    (pss_cons (ps_fld (pv 0) (pv 2) rfl)
    (pss_one (ps_fld (pv 0) pe_int rfl))))

/-! Reader.ahead -/
abbrev st_Reader_ahead : Stmt := inClass (top 32) 1
abbrev N_Reader_ahead : List Str := ["self"]
theorem sc_Reader_ahead : FnScope ["self"] ["self"] (defScope st_Reader_ahead) := ⟨rfl, rfl, rfl, by decide +kernel, rfl, by decide +kernel, by decide +kernel⟩
def t_Reader_ahead (K : PySem.W.Frag) : TS :=
  (tRet (tIf (tTest (tOp qLt (tFld K (tVar 0) "taken") (tCB (qLenL K) (tCons (tFld K (tVar 0) "all_words") tNil)))) (tOp (rIxL K) (tFld K (tVar 0) "all_words") (tFld K (tVar 0) "taken")) (tC (.str ""))))
theorem dv_Reader_ahead {P : Program} {w : World} {K : PySem.W.Frag} {mg : Str → Option Value} {base : Heap} {f : Addr} {cd : Value} {A : Around} {outer : List Env} {s : Shared} {H : Hp} {E : XK} (T : Tx w K mg)
    (hr : Room 0 (A.deeper (envOfC "Reader.ahead" (defScope st_Reader_ahead) s.heap.objs.size f cd))) :
    PSs (cxOf (L2.CX P w) P w K mg base ["self"] "Reader.ahead" (defScope st_Reader_ahead) f cd A outer s H E).nox (defBody st_Reader_ahead) (t_Reader_ahead K) := by
  unfold t_Reader_ahead
  exact (pss_one (ps_ret (pe_ifExp (pt_cmpR op_lt (pe_fld (pv 0) rfl) (pe_callB c_lenL rfl T.n_len (by decide +kernel) (pa_cons (pe_fld (pv 0) rfl) pa_nil)) (nomark _)) (pe_ix ix_list (pe_fld (pv 0) rfl) (pe_fld (pv 0) rfl) (fun _ _ => rfl)) pe_str)))

/-! Reader.refuse -/
abbrev st_Reader_refuse : Stmt := inClass (top 32) 2
abbrev N_Reader_refuse : List Str := ["self"]
theorem sc_Reader_refuse : FnScope ["self"] ["self"] (defScope st_Reader_refuse) := ⟨rfl, rfl, rfl, by decide +kernel, rfl, by decide +kernel, by decide +kernel⟩
def t_Reader_refuse (K : PySem.W.Frag) (E : XK) (p_BadText_init : Sp) : TS :=
  (tRz (He.ga K "BadText") p_BadText_init E (tCons (tFld K (tVar 0) "on_row") (tCons (tOp qAdd (tFld K (tVar 0) "taken") (tC (.int 1))) tNil)))
theorem dv_Reader_refuse {P : Program} {w : World} {K : PySem.W.Frag} {mg : Str → Option Value} {base : Heap} {f : Addr} {cd : Value} {A : Around} {outer : List Env} {s : Shared} {H : Hp} {E : XK} {p_BadText_init : Sp} (T : Tx w K mg)
    (hr : Room 6 (A.deeper (envOfC "Reader.refuse" (defScope st_Reader_refuse) s.heap.objs.size f cd)))
    (X_BadText : ExcOk P w K mg base 5 "BadText" (He.ga K "BadText") ["self", "row", "word"] p_BadText_init) :
    PSs (cxOf (L2.CX P w) P w K mg base ["self"] "Reader.refuse" (defScope st_Reader_refuse) f cd A outer s H E) (defBody st_Reader_refuse) (t_Reader_refuse K E p_BadText_init) := by
  unfold t_Reader_refuse
  exact (pss_one (ps_raise rfl (takes_of rfl rfl rfl rfl) (pmk_D X_BadText hr (by decide) rfl (pa_cons (pe_fld (pv 0) rfl) (pa_cons (pe_op op_add (pe_fld (pv 0) rfl) pe_int) pa_nil)))))

/-! Reader.take -/
abbrev st_Reader_take : Stmt := inClass (top 32) 3
abbrev N_Reader_take : List Str := ["self", "good"]
theorem sc_Reader_take : FnScope ["self", "good"] ["self", "good"] (defScope st_Reader_take) := ⟨rfl, rfl, rfl, by decide +kernel, rfl, by decide +kernel, by decide +kernel⟩
def t_Reader_take (K : PySem.W.Frag) (E : XK) (p_Reader_refuse : Sp) : TS :=
  (tSeq (tIfS (tNot (tB (tVar 1))) (tDrop (tMeth (He.ga K "Reader") "refuse" p_Reader_refuse [] E (tVar 0) tNil)) tNext)
    (tSeq (sFldAug K (tVar 0) (tC (.int 1)) rAdd "taken")
    (tRet (tOp (rIxL K) (tFld K (tVar 0) "all_words") (tOp qSub (tFld K (tVar 0) "taken") (tC (.int 1)))))))
theorem dv_Reader_take {P : Program} {w : World} {K : PySem.W.Frag} {mg : Str → Option Value} {base : Heap} {f : Addr} {cd : Value} {A : Around} {outer : List Env} {s : Shared} {H : Hp} {E : XK} {p_Reader_refuse : Sp} (T : Tx w K mg)
    (hr : Room 7 (A.deeper (envOfC "Reader.take" (defScope st_Reader_take) s.heap.objs.size f cd)))
    (M_Reader_refuse : MetOk P w K mg base 7 (He.ga K "Reader") "refuse" ["self"] [] p_Reader_refuse) :
    PSs (cxOf (L2.CX P w) P w K mg base ["self", "good"] "Reader.take" (defScope st_Reader_take) f cd A outer s H E) (defBody st_Reader_take) (t_Reader_take K E p_Reader_refuse) := by
  unfold t_Reader_take
  exact (pss_cons (ps_if (pt_not (pt_val (pv 1))) (pss_one (ps_expr (pe_metD0 (pv 0) T.cl_Reader M_Reader_refuse hr (by decide) (passes_call (takes_of rfl rfl rfl rfl) (fun _ _ _ _ h => h))))) pss_nil)
    (pss_cons (ps_fldaug (pv 0) pe_int in_add)
    (pss_one (ps_ret (pe_ix ix_list (pe_fld (pv 0) rfl) (pe_op op_sub (pe_fld (pv 0) rfl) pe_int) (fun _ _ => rfl))))))

/-! Reader.take_name -/
abbrev st_Reader_take_name : Stmt := inClass (top 32) 4
abbrev N_Reader_take_name : List Str := ["self"]
theorem sc_Reader_take_name : FnScope ["self"] ["self"] (defScope st_Reader_take_name) := ⟨rfl, rfl, rfl, by decide +kernel, rfl, by decide +kernel, by decide +kernel⟩
def t_Reader_take_name (K : PySem.W.Frag) (E : XK) (p_Reader_take : Sp) (p_is_name : Sp) (p_Reader_ahead : Sp) : TS :=
  (tRet (tMeth (He.ga K "Reader") "take" p_Reader_take [] E (tVar 0) (tCons (tCall p_is_name [] E0 (tCons (tMeth (He.ga K "Reader") "ahead" p_Reader_ahead [] E0 (tVar 0) tNil) tNil)) tNil)))
theorem dv_Reader_take_name {P : Program} {w : World} {K : PySem.W.Frag} {mg : Str → Option Value} {base : Heap} {f : Addr} {cd : Value} {A : Around} {outer : List Env} {s : Shared} {H : Hp} {E : XK} {p_Reader_take p_is_name p_Reader_ahead : Sp} (T : Tx w K mg)
    (hr : Room 8 (A.deeper (envOfC "Reader.take_name" (defScope st_Reader_take_name) s.heap.objs.size f cd)))
    (M_Reader_take : MetOk P w K mg base 8 (He.ga K "Reader") "take" ["self", "good"] [] p_Reader_take)
    (G_is_name : DefOk P w K mg base 1 "is_name" ["thing"] [] p_is_name)
    (M_Reader_ahead : MetOk P w K mg base 1 (He.ga K "Reader") "ahead" ["self"] [] p_Reader_ahead) :
    PSs (cxOf (L2.CX P w) P w K mg base ["self"] "Reader.take_name" (defScope st_Reader_take_name) f cd A outer s H E) (defBody st_Reader_take_name) (t_Reader_take_name K E p_Reader_take p_is_name p_Reader_ahead) := by
  unfold t_Reader_take_name
  exact (pss_one (ps_ret (pe_metD (pv 0) T.cl_Reader M_Reader_take hr (by decide) (passes_call (takes_of rfl rfl rfl rfl) (fun _ _ _ _ h => h)) (pa_cons (pe_callD G_is_name hr (by decide) rfl passL (pa_cons (pe_metD0 (pv 0) T.cl_Reader M_Reader_ahead hr (by decide) passL) pa_nil)) pa_nil))))

/-! Reader.take_number -/
abbrev st_Reader_take_number : Stmt := inClass (top 32) 5
abbrev N_Reader_take_number : List Str := ["self", "most", "found"]
theorem sc_Reader_take_number : FnScope ["self", "most", "found"] ["self", "most"] (defScope st_Reader_take_number) := ⟨rfl, rfl, rfl, by decide +kernel, rfl, by decide +kernel, by decide +kernel⟩
def t_Reader_take_number (K : PySem.W.Frag) (E : XK) (p_number_of : Sp) (p_Reader_ahead : Sp) (p_Reader_take : Sp) (p_is_whole : Sp) : TS :=
  (tSeq (tAsg (tCall p_number_of [] E0 (tCons (tMeth (He.ga K "Reader") "ahead" p_Reader_ahead [] E0 (tVar 0) tNil) tNil)) (gName 2))
    (tSeq (tDrop (tMeth (He.ga K "Reader") "take" p_Reader_take [] E (tVar 0) (tCons (tAndV (tOp qNotN (tVar 2) (tC .non)) (tCallN 2 (["most"] : List Str).length p_is_whole (fun vs zs => vs ++ zs) E0 (tCons (tVar 2) (tCons (tC (.int 0)) tNil)) (tCons (tVar 1) tNil))) tNil)))
    (tRet (tVar 2))))
theorem dv_Reader_take_number {P : Program} {w : World} {K : PySem.W.Frag} {mg : Str → Option Value} {base : Heap} {f : Addr} {cd : Value} {A : Around} {outer : List Env} {s : Shared} {H : Hp} {E : XK} {p_number_of p_Reader_ahead p_Reader_take p_is_whole : Sp} (T : Tx w K mg)
    (hr : Room 8 (A.deeper (envOfC "Reader.take_number" (defScope st_Reader_take_number) s.heap.objs.size f cd)))
    (G_number_of : DefOk P w K mg base 1 "number_of" ["word"] [] p_number_of)
    (M_Reader_ahead : MetOk P w K mg base 1 (He.ga K "Reader") "ahead" ["self"] [] p_Reader_ahead)
    (M_Reader_take : MetOk P w K mg base 8 (He.ga K "Reader") "take" ["self", "good"] [] p_Reader_take)
    (G_is_whole_kw : DefKw P w K mg base 1 "is_whole" ["thing", "least", "most"] 2 ["most"] (fun vs zs => vs ++ zs) p_is_whole) :
    PSs (cxOf (L2.CX P w) P w K mg base ["self", "most", "found"] "Reader.take_number" (defScope st_Reader_take_number) f cd A outer s H E) (defBody st_Reader_take_number) (t_Reader_take_number K E p_number_of p_Reader_ahead p_Reader_take p_is_whole) := by
  unfold t_Reader_take_number
  exact (pss_cons (ps_set (i := 2) sc_Reader_take_number.nd rfl (Or.inl rfl) (pe_callD G_number_of hr (by decide) rfl passL (pa_cons (pe_metD0 (pv 0) T.cl_Reader M_Reader_ahead hr (by decide) passL) pa_nil)))
    (pss_cons (ps_expr (pe_metD (pv 0) T.cl_Reader M_Reader_take hr (by decide) (passes_call (takes_of rfl rfl rfl rfl) (fun _ _ _ _ h => h)) (pa_cons (pe_and (pe_cmpR o_notN (pv 2) pe_non (nomark _)) (pe_one (pe_callK' G_is_whole_kw hr (by decide) rfl passL (pa_cons (pv 2) (pa_cons pe_int pa_nil)) (pk_cons (pv 1) pk_nil)))) pa_nil)))
    (pss_one (ps_ret (pv 2)))))

/-! Reader.is_over -/
abbrev st_Reader_is_over : Stmt := inClass (top 32) 6
abbrev N_Reader_is_over : List Str := ["self"]
theorem sc_Reader_is_over : FnScope ["self"] ["self"] (defScope st_Reader_is_over) := ⟨rfl, rfl, rfl, by decide +kernel, rfl, by decide +kernel, by decide +kernel⟩
def t_Reader_is_over (K : PySem.W.Frag) : TS :=
  (tRet (tOp rEq (tFld K (tVar 0) "taken") (tCB (qLenL K) (tCons (tFld K (tVar 0) "all_words") tNil))))
theorem dv_Reader_is_over {P : Program} {w : World} {K : PySem.W.Frag} {mg : Str → Option Value} {base : Heap} {f : Addr} {cd : Value} {A : Around} {outer : List Env} {s : Shared} {H : Hp} {E : XK} (T : Tx w K mg)
    (hr : Room 0 (A.deeper (envOfC "Reader.is_over" (defScope st_Reader_is_over) s.heap.objs.size f cd))) :
    PSs (cxOf (L2.CX P w) P w K mg base ["self"] "Reader.is_over" (defScope st_Reader_is_over) f cd A outer s H E).nox (defBody st_Reader_is_over) (t_Reader_is_over K) := by
  unfold t_Reader_is_over
  exact (pss_one (ps_ret (pe_cmpR op_eq (pe_fld (pv 0) rfl) (pe_callB c_lenL rfl T.n_len (by decide +kernel) (pa_cons (pe_fld (pv 0) rfl) pa_nil)) (nomark _))))

/-! Reader.over -/
abbrev st_Reader_over : Stmt := inClass (top 32) 7
abbrev N_Reader_over : List Str := ["self"]
theorem sc_Reader_over : FnScope ["self"] ["self"] (defScope st_Reader_over) := ⟨rfl, rfl, rfl, by decide +kernel, rfl, by decide +kernel, by decide +kernel⟩
def t_Reader_over (K : PySem.W.Frag) (E : XK) (p_Reader_is_over : Sp) (p_Reader_refuse : Sp) : TS :=
  (tIfS (tNot (tB (tMeth (He.ga K "Reader") "is_over" p_Reader_is_over [] E0 (tVar 0) tNil))) (tDrop (tMeth (He.ga K "Reader") "refuse" p_Reader_refuse [] E (tVar 0) tNil)) tNext)
theorem dv_Reader_over {P : Program} {w : World} {K : PySem.W.Frag} {mg : Str → Option Value} {base : Heap} {f : Addr} {cd : Value} {A : Around} {outer : List Env} {s : Shared} {H : Hp} {E : XK} {p_Reader_is_over p_Reader_refuse : Sp} (T : Tx w K mg)
    (hr : Room 7 (A.deeper (envOfC "Reader.over" (defScope st_Reader_over) s.heap.objs.size f cd)))
    (M_Reader_is_over : MetOk P w K mg base 1 (He.ga K "Reader") "is_over" ["self"] [] p_Reader_is_over)
    (M_Reader_refuse : MetOk P w K mg base 7 (He.ga K "Reader") "refuse" ["self"] [] p_Reader_refuse) :
    PSs (cxOf (L2.CX P w) P w K mg base ["self"] "Reader.over" (defScope st_Reader_over) f cd A outer s H E) (defBody st_Reader_over) (t_Reader_over K E p_Reader_is_over p_Reader_refuse) := by
  unfold t_Reader_over
  exact (pss_one (ps_if (pt_not (pt_val (pe_metD0 (pv 0) T.cl_Reader M_Reader_is_over hr (by decide) passL))) (pss_one (ps_expr (pe_metD0 (pv 0) T.cl_Reader M_Reader_refuse hr (by decide) (passes_call (takes_of rfl rfl rfl rfl) (fun _ _ _ _ h => h))))) pss_nil))

/-! Reader.take_promise -/
abbrev st_Reader_take_promise : Stmt := inClass (top 32) 8
abbrev N_Reader_take_promise : List Str := ["self", "limits", "place", "number", "name", "names"]
theorem sc_Reader_take_promise : FnScope ["self", "limits", "place", "number", "name", "names"] ["self"] (defScope st_Reader_take_promise) := ⟨rfl, rfl, rfl, by decide +kernel, rfl, by decide +kernel, by decide +kernel⟩
def t_Reader_take_promise (w : World) (K : PySem.W.Frag) (E : XK) (p_Reader_ahead : Sp) (p_Reader_take : Sp) (p_Promise_init : Sp) (p_number_of : Sp) (p_Reader_take_number : Sp) : TS :=
  (tSeq (tIfS (tTest (tOp rEq (tMeth (He.ga K "Reader") "ahead" p_Reader_ahead [] E0 (tVar 0) tNil) (tC (.str "endless")))) (tSeq (tDrop (tMeth (He.ga K "Reader") "take" p_Reader_take [] E (tVar 0) (tCons (tC (.bl true)) tNil)))
    (tRet (tMake (He.ga K "Promise") p_Promise_init [.non, .non, .non] E0 tNil))) tNext)
    (tSeq (tPar 1 2 (tCons tDNewK (tCons (tC (.int 0)) tNil)))
    (tSeq (tWhile (tOr (tTest (tOp qEqDic (tVar 1) tDNewK)) (tAnd (tTest (tOp qLt (tVar 2) (tCB (qLenL K) (tCons (tC (.ref (He.ga K "BOUNDS"))) tNil)))) (tTest (tOp qNotN (tCall p_number_of [] E0 (tCons (tMeth (He.ga K "Reader") "ahead" p_Reader_ahead [] E0 (tVar 0) tNil) tNil)) (tC .non))))) (tSeq (tAsg (tMeth (He.ga K "Reader") "take_number" p_Reader_take_number [.int 1000000] E (tVar 0) tNil) (gName 3))
    (tSeq (tAsg (tLc (iTup K (tSl (rSlA K) (tC (.ref (He.ga K "BOUNDS"))) (tPart (tVar 2)) tNoPart)) (gName 4) (tTest (tOp qLe (tVar 3) (tOp (rIxD K w) (tC (.ref (He.ga K "MOST_OF"))) (tVar 4)))) (tVar 4) [4]) (gName 5))
    (tSeq (tAsg (tMeth (He.ga K "Reader") "take" p_Reader_take [] E (tVar 0) (tCons (tOp (rIn K false) (tMeth (He.ga K "Reader") "ahead" p_Reader_ahead [] E0 (tVar 0) tNil) (tVar 5)) tNil)) (gName 4))
    (tSeq (sDPut (tVar 1) (tVar 4) (tVar 3))
    (tAsg (tOp qAdd (tBM K "tuple" (qTupIx K) (tC (.ref (He.ga K "BOUNDS"))) (tCons (tVar 4) tNil)) (tC (.int 1))) (gName 2)))))))
    (tRet (tMakeK (He.ga K "Promise") 0 (["days", "miles", "turns"] : List Str).length p_Promise_init (fun vs zs => vs ++ zs) E0 tNil (tCons (tDGet1 (tVar 1) (tC (.str "days"))) (tCons (tDGet1 (tVar 1) (tC (.str "miles"))) (tCons (tDGet1 (tVar 1) (tC (.str "turns"))) tNil))))))))
theorem dv_Reader_take_promise {P : Program} {w : World} {K : PySem.W.Frag} {mg : Str → Option Value} {base : Heap} {f : Addr} {cd : Value} {A : Around} {outer : List Env} {s : Shared} {H : Hp} {E : XK} {p_Reader_ahead p_Reader_take p_Promise_init p_number_of p_Reader_take_number : Sp} (T : Tx w K mg)
    (hr : Room 9 (A.deeper (envOfC "Reader.take_promise" (defScope st_Reader_take_promise) s.heap.objs.size f cd)))
    (M_Reader_ahead : MetOk P w K mg base 1 (He.ga K "Reader") "ahead" ["self"] [] p_Reader_ahead)
    (M_Reader_take : MetOk P w K mg base 8 (He.ga K "Reader") "take" ["self", "good"] [] p_Reader_take)
    (K_Promise_init_1 : MakOk P w K mg base 3 "Promise" (He.ga K "Promise") ["self", "days", "miles", "turns"] [.non, .non, .non] p_Promise_init)
    (G_number_of : DefOk P w K mg base 1 "number_of" ["word"] [] p_number_of)
    (M_Reader_take_number_1 : MetOk P w K mg base 9 (He.ga K "Reader") "take_number" ["self", "most"] [.int 1000000] p_Reader_take_number)
    (K_Promise_init_kw : MakKw P w K mg base 3 "Promise" (He.ga K "Promise") ["self", "days", "miles", "turns"] 0 ["days", "miles", "turns"] (fun vs zs => vs ++ zs) p_Promise_init) :
    PSs (cxOf (L2.CX P w) P w K mg base ["self", "limits", "place", "number", "name", "names"] "Reader.take_promise" (defScope st_Reader_take_promise) f cd A outer s H E) (defBody st_Reader_take_promise) (t_Reader_take_promise w K E p_Reader_ahead p_Reader_take p_Promise_init p_number_of p_Reader_take_number) := by
  unfold t_Reader_take_promise
  exact (pss_cons (ps_if (pt_cmpR op_eq (pe_metD0 (pv 0) T.cl_Reader M_Reader_ahead hr (by decide) passL) pe_str (nomark _)) (pss_cons (ps_expr (pe_metD (pv 0) T.cl_Reader M_Reader_take hr (by decide) (passes_call (takes_of rfl rfl rfl rfl) (fun _ _ _ _ h => h)) (pa_cons pe_bl pa_nil)))
    (pss_one (ps_ret (pe_makD0 K_Promise_init_1 hr (by decide) rfl passL)))) pss_nil)
    (pss_cons (ps_par (i := 1) (j := 2) rfl sc_Reader_take_promise.nd rfl rfl (by decide) rfl rfl (pa_cons pe_dnewK (pa_cons pe_int pa_nil)) (by rfl))
    (pss_cons (ps_while (passes_of rfl) (PW.pt (pw_or (pt_cmpR (o_eqDic hr.units) (pv 1) pe_dnewK (nomark _)) (pw_or1 (PW.pt (pw_and (pt_cmpR op_lt (pv 2) (pe_callB c_lenL rfl T.n_len (by decide +kernel) (pa_cons (pe_glob rfl T.g_BOUNDS rfl) pa_nil)) (nomark _)) (pw_and1 (pt_cmpR o_notN (pe_callD G_number_of hr (by decide) rfl passL (pa_cons (pe_metD0 (pv 0) T.cl_Reader M_Reader_ahead hr (by decide) passL) pa_nil)) pe_non (nomark _)))))))) (pss_cons (ps_set (i := 3) sc_Reader_take_promise.nd rfl (Or.inr rfl) (pe_metD0 (pv 0) T.cl_Reader M_Reader_take_number_1 hr (by decide) (passes_call (takes_of rfl rfl rfl rfl) (fun _ _ _ _ h => h))))
    (pss_cons (ps_setLc (i := 5) (own := [("name", 4)]) (g := (gName 4)) (tt := (tTest (tOp qLe (tVar 3) (tOp (rIxD K w) (tC (.ref (He.ga K "MOST_OF"))) (tVar 4))))) (by rfl) sc_Reader_take_promise.nd rfl rfl (sw_true rfl rfl rfl (by decide +kernel)) (pi_tup (pe_slice sl_tupA (pe_glob rfl T.g_BOUNDS rfl) (po_some (pv 2)) po_none)) (blkOk_by (N := ["self", "limits", "place", "number", "name", "names"]) (sc := defScope st_Reader_take_promise) (own := [("name", 4)]) (by decide +kernel)) (fun _ _ _ _ _ => (pg_name (i := 4) sc_Reader_take_promise.nd rfl (Or.inl rfl))) (fun _ _ _ _ _ => (pts_one (pt_cmpR op_le (pv 3) (pe_ix ix_kdict (pe_glob rfl T.g_MOST_OF rfl) (pv 4) (fun _ _ => rfl)) (nomark _)))) (fun _ _ _ _ _ => (pv 4)))
    (pss_cons (ps_set (i := 4) sc_Reader_take_promise.nd rfl (Or.inl rfl) (pe_metD (pv 0) T.cl_Reader M_Reader_take hr (by decide) (passes_call (takes_of rfl rfl rfl rfl) (fun _ _ _ _ h => h)) (pa_cons (pe_cmpR op_in_seq (pe_metD0 (pv 0) T.cl_Reader M_Reader_ahead hr (by decide) passL) (pv 5) (by rfl)) pa_nil)))
    (pss_cons (ps_dput (hu_of hr) (pv 1) (pv 4) (pv 3) rfl)
    (pss_one (ps_set (i := 2) sc_Reader_take_promise.nd rfl (Or.inl rfl) (pe_op op_add (pe_bm PySem.F.plainAttrs_tuple PySem.F.slot_tuple_index PySem.F.type_tuple_index m_tupix (pe_glob rfl T.g_BOUNDS rfl) (pa_cons (pv 4) pa_nil)) pe_int))))))))
    (pss_one (ps_ret (pe_makK0 K_Promise_init_kw hr (by decide) rfl passL (pk_cons (pe_dget1 (hu_of hr) (pv 1) pe_str ⟨rfl, rfl, rfl, rfl⟩) (pk_cons (pe_dget1 (hu_of hr) (pv 1) pe_str ⟨rfl, rfl, rfl, rfl⟩) (pk_cons (pe_dget1 (hu_of hr) (pv 1) pe_str ⟨rfl, rfl, rfl, rfl⟩) pk_nil)))))))))

/-! SortReader.__init__ -/
abbrev st_SortReader_init : Stmt := inClass (top 35) 0
abbrev N_SortReader_init : List Str := ["self"]
theorem sc_SortReader_init : FnScope ["self"] ["self"] (defScope st_SortReader_init) := ⟨rfl, rfl, rfl, by decide +kernel, rfl, by decide +kernel, by decide +kernel⟩
def t_SortReader_init (K : PySem.W.Frag) : TS :=
  (tSeq (sFld K (tVar 0) (tLst tNil) "heads")
    (tSeq (sFld K (tVar 0) (tLst tNil) "parts_read")
    (sFld K (tVar 0) (tLst tNil) "pairs_read")))
theorem dv_SortReader_init {P : Program} {w : World} {K : PySem.W.Frag} {mg : Str → Option Value} {base : Heap} {f : Addr} {cd : Value} {A : Around} {outer : List Env} {s : Shared} {H : Hp} {E : XK} (T : Tx w K mg)
    (hr : Room 0 (A.deeper (envOfC "SortReader.__init__" (defScope st_SortReader_init) s.heap.objs.size f cd))) :
    PSs (cxOf (L2.CX P w) P w K mg base ["self"] "SortReader.__init__" (defScope st_SortReader_init) f cd A outer s H E).nox (defBody st_SortReader_init) (t_SortReader_init K) := by
  unfold t_SortReader_init
  exact (pss_cons (ps_fld (pv 0) (pe_lst pa_nil) rfl)
    (pss_cons (ps_fld (pv 0) (pe_lst pa_nil) rfl)
    (pss_one (ps_fld (pv 0) (pe_lst pa_nil) rfl))))

/-! SortReader.first_words -/
abbrev st_SortReader_first_words : Stmt := inClass (top 35) 1
abbrev N_SortReader_first_words : List Str := ["self", "words"]
theorem sc_SortReader_first_words : FnScope ["self", "words"] ["self"] (defScope st_SortReader_first_words) := ⟨rfl, rfl, rfl, by decide +kernel, rfl, by decide +kernel, by decide +kernel⟩
def t_SortReader_first_words (K : PySem.W.Frag) : TS :=
  (tSeq (tIfS (tTest (tOp (qEqNil K) (tFld K (tVar 0) "heads") (tLst tNil))) (tRet (tLst (tCons (tC (.str "sort")) tNil))) tNext)
    (tSeq (tAsg (tIf (tAnd (tTest (tOp (qEqNil K) (tFld K (tVar 0) "pairs_read") (tLst tNil))) (tTest (tOp qLt (tCB (qLenL K) (tCons (tFld K (tVar 0) "parts_read") tNil)) (tC (.int 12))))) (tLst (tCons (tC (.str "part")) tNil)) (tLst tNil)) (gName 1))
    (tRet (tOp rCat (tVar 1) (tIf (tTest (tOp qLt (tCB (qLenL K) (tCons (tFld K (tVar 0) "pairs_read") tNil)) (tC (.int 30)))) (tLst (tCons (tC (.str "barred")) tNil)) (tLst tNil))))))
theorem dv_SortReader_first_words {P : Program} {w : World} {K : PySem.W.Frag} {mg : Str → Option Value} {base : Heap} {f : Addr} {cd : Value} {A : Around} {outer : List Env} {s : Shared} {H : Hp} {E : XK} (T : Tx w K mg)
    (hr : Room 0 (A.deeper (envOfC "SortReader.first_words" (defScope st_SortReader_first_words) s.heap.objs.size f cd))) :
    PSs (cxOf (L2.CX P w) P w K mg base ["self", "words"] "SortReader.first_words" (defScope st_SortReader_first_words) f cd A outer s H E).nox (defBody st_SortReader_first_words) (t_SortReader_first_words K) := by
  unfold t_SortReader_first_words
  exact (pss_cons (ps_if (pt_cmpR (o_eqNil hr.units0) (pe_fld (pv 0) rfl) (pe_lst pa_nil) (nomark _)) (pss_one (ps_ret (pe_lst (pa_cons pe_str pa_nil)))) pss_nil)
    (pss_cons (ps_set (i := 1) sc_SortReader_first_words.nd rfl (Or.inl rfl) (pe_ifExp (PW.pt (pw_and (pt_cmpR (o_eqNil hr.units0) (pe_fld (pv 0) rfl) (pe_lst pa_nil) (nomark _)) (pw_and1 (pt_cmpR op_lt (pe_callB c_lenL rfl T.n_len (by decide +kernel) (pa_cons (pe_fld (pv 0) rfl) pa_nil)) (pe_gI rfl T.g_MOST_PARTS) (nomark _))))) (pe_lst (pa_cons pe_str pa_nil)) (pe_lst pa_nil)))
    (pss_one (ps_ret (pe_op op_cat (pv 1) (pe_ifExp (pt_cmpR op_lt (pe_callB c_lenL rfl T.n_len (by decide +kernel) (pa_cons (pe_fld (pv 0) rfl) pa_nil)) (pe_gI rfl T.g_MOST_BARRED) (nomark _)) (pe_lst (pa_cons pe_str pa_nil)) (pe_lst pa_nil)))))))

/-! SortReader.take_row -/
abbrev st_SortReader_take_row : Stmt := inClass (top 35) 2
abbrev N_SortReader_take_row : List Str := ["self", "reader", "word", "name", "row"]
theorem sc_SortReader_take_row : FnScope ["self", "reader", "word", "name", "row"] ["self", "reader"] (defScope st_SortReader_take_row) := ⟨rfl, rfl, rfl, by decide +kernel, rfl, by decide +kernel, by decide +kernel⟩
def t_SortReader_take_row (K : PySem.W.Frag) (E : XK) (p_Reader_take : Sp) (p_Reader_ahead : Sp) (p_SortReader_first_words : Sp) (p_Reader_take_name : Sp) (p_Reader_take_promise : Sp) (p_part_in : Sp) (p_pair_in : Sp) (p_Reader_over : Sp) : TS :=
  (tSeq (tAsg (tMeth (He.ga K "Reader") "take" p_Reader_take [] E (tVar 1) (tCons (tOp (rIn K false) (tMeth (He.ga K "Reader") "ahead" p_Reader_ahead [] E0 (tVar 1) tNil) (tMeth (He.ga K "SortReader") "first_words" p_SortReader_first_words [] E0 (tVar 0) tNil)) tNil)) (gName 2))
    (tSeq (tIfS (tTest (tOp rEq (tVar 2) (tC (.str "sort")))) (tSeq (tAsg (tMeth (He.ga K "Reader") "take_name" p_Reader_take_name [] E (tVar 1) tNil) (gName 3))
    (tDrop (tBM K "list" rAppend (tFld K (tVar 0) "heads") (tCons (tTup (tCons (tVar 3) (tCons (tMeth (He.ga K "Reader") "take_promise" p_Reader_take_promise [] E (tVar 1) tNil) tNil))) tNil)))) (tIfS (tTest (tOp rEq (tVar 2) (tC (.str "part")))) (tDrop (tBM K "list" rAppend (tFld K (tVar 0) "parts_read") (tCons (tCall p_part_in [] E (tCons (tVar 1) (tCons (tFld K (tVar 0) "parts_read") tNil))) tNil))) (tDrop (tBM K "list" rAppend (tFld K (tVar 0) "pairs_read") (tCons (tCall p_pair_in [] E (tCons (tVar 1) (tCons (tFld K (tVar 0) "pairs_read") (tCons (tLc (iList K (tFld K (tVar 0) "parts_read")) (gName 4) tYes (tOp (rIxT K) (tVar 4) (tC (.int 0))) [4]) tNil)))) tNil)))))
    (tDrop (tMeth (He.ga K "Reader") "over" p_Reader_over [] E (tVar 1) tNil))))
theorem dv_SortReader_take_row {P : Program} {w : World} {K : PySem.W.Frag} {mg : Str → Option Value} {base : Heap} {f : Addr} {cd : Value} {A : Around} {outer : List Env} {s : Shared} {H : Hp} {E : XK} {p_Reader_take p_Reader_ahead p_SortReader_first_words p_Reader_take_name p_Reader_take_promise p_part_in p_pair_in p_Reader_over : Sp} (T : Tx w K mg)
    (hr : Room 11 (A.deeper (envOfC "SortReader.take_row" (defScope st_SortReader_take_row) s.heap.objs.size f cd)))
    (M_Reader_take : MetOk P w K mg base 8 (He.ga K "Reader") "take" ["self", "good"] [] p_Reader_take)
    (M_Reader_ahead : MetOk P w K mg base 1 (He.ga K "Reader") "ahead" ["self"] [] p_Reader_ahead)
    (M_SortReader_first_words : MetOk P w K mg base 1 (He.ga K "SortReader") "first_words" ["self"] [] p_SortReader_first_words)
    (M_Reader_take_name : MetOk P w K mg base 9 (He.ga K "Reader") "take_name" ["self"] [] p_Reader_take_name)
    (M_Reader_take_promise : MetOk P w K mg base 10 (He.ga K "Reader") "take_promise" ["self"] [] p_Reader_take_promise)
    (G_part_in : DefOk P w K mg base 11 "part_in" ["reader", "parts"] [] p_part_in)
    (G_pair_in : DefOk P w K mg base 9 "pair_in" ["reader", "pairs", "names"] [] p_pair_in)
    (M_Reader_over : MetOk P w K mg base 8 (He.ga K "Reader") "over" ["self"] [] p_Reader_over) :
    PSs (cxOf (L2.CX P w) P w K mg base ["self", "reader", "word", "name", "row"] "SortReader.take_row" (defScope st_SortReader_take_row) f cd A outer s H E) (defBody st_SortReader_take_row) (t_SortReader_take_row K E p_Reader_take p_Reader_ahead p_SortReader_first_words p_Reader_take_name p_Reader_take_promise p_part_in p_pair_in p_Reader_over) := by
  unfold t_SortReader_take_row
  exact (pss_cons (ps_set (i := 2) sc_SortReader_take_row.nd rfl (Or.inl rfl) (pe_metD (pv 1) T.cl_Reader M_Reader_take hr (by decide) (passes_call (takes_of rfl rfl rfl rfl) (fun _ _ _ _ h => h)) (pa_cons (pe_cmpR op_in_seq (pe_metD0 (pv 1) T.cl_Reader M_Reader_ahead hr (by decide) passL) (pe_metD0 (pv 0) T.cl_SortReader M_SortReader_first_words hr (by decide) passL) (by rfl)) pa_nil)))
    (pss_cons (ps_if (pt_cmpR op_eq (pv 2) pe_str (nomark _)) (pss_cons (ps_set (i := 3) sc_SortReader_take_row.nd rfl (Or.inl rfl) (pe_metD0 (pv 1) T.cl_Reader M_Reader_take_name hr (by decide) (passes_call (takes_of rfl rfl rfl rfl) (fun _ _ _ _ h => h))))
    (pss_one (ps_expr (pe_bm PySem.F.plainAttrs_list PySem.F.slot_list_append PySem.F.type_list_append mt_append (pe_fld (pv 0) rfl) (pa_cons (pe_tup (pa_cons (pv 3) (pa_cons (pe_metD0 (pv 1) T.cl_Reader M_Reader_take_promise hr (by decide) (passes_call (takes_of rfl rfl rfl rfl) (fun _ _ _ _ h => h))) pa_nil))) pa_nil))))) (pss_one (ps_if (pt_cmpR op_eq (pv 2) pe_str (nomark _)) (pss_one (ps_expr (pe_bm PySem.F.plainAttrs_list PySem.F.slot_list_append PySem.F.type_list_append mt_append (pe_fld (pv 0) rfl) (pa_cons (pe_callD G_part_in hr (by decide) rfl (passes_call (takes_of rfl rfl rfl rfl) (fun _ _ _ _ h => h)) (pa_cons (pv 1) (pa_cons (pe_fld (pv 0) rfl) pa_nil))) pa_nil)))) (pss_one (ps_expr (pe_bm PySem.F.plainAttrs_list PySem.F.slot_list_append PySem.F.type_list_append mt_append (pe_fld (pv 0) rfl) (pa_cons (pe_callD G_pair_in hr (by decide) rfl (passes_call (takes_of rfl rfl rfl rfl) (fun _ _ _ _ h => h)) (pa_cons (pv 1) (pa_cons (pe_fld (pv 0) rfl) (pa_cons (pe_lc (own := [("row", 4)]) (g := (gName 4)) (tt := tYes) (by rfl) sc_SortReader_take_row.nd (pi_list (pe_fld (pv 0) rfl)) (blkOk_by (N := ["self", "reader", "word", "name", "row"]) (sc := defScope st_SortReader_take_row) (own := [("row", 4)]) (by decide +kernel)) (fun _ _ _ _ _ => (pg_name (i := 4) sc_SortReader_take_row.nd rfl (Or.inl rfl))) (fun _ _ _ _ _ => pts_nil) (fun _ _ _ _ _ => (pe_ix ix_tup (pv 4) pe_int (fun _ _ => rfl)))) pa_nil)))) pa_nil)))))))
    (pss_one (ps_expr (pe_metD0 (pv 1) T.cl_Reader M_Reader_over hr (by decide) (passes_call (takes_of rfl rfl rfl rfl) (fun _ _ _ _ h => h)))))))

/-! SortReader.whole_sort -/
abbrev st_SortReader_whole_sort : Stmt := inClass (top 35) 3
abbrev N_SortReader_whole_sort : List Str := ["self", "name", "promise"]
theorem sc_SortReader_whole_sort : FnScope ["self", "name", "promise"] ["self"] (defScope st_SortReader_whole_sort) := ⟨rfl, rfl, rfl, by decide +kernel, rfl, by decide +kernel, by decide +kernel⟩
def t_SortReader_whole_sort (K : PySem.W.Frag) (p_Sort_init : Sp) : TS :=
  (tSeq (tAsg (tOp (rIxL K) (tFld K (tVar 0) "heads") (tC (.int 0))) (gTup K 2 (gCons (gName 1) (gCons (gName 2) gNil))))
    (tRet (tMakeK (He.ga K "Sort") 2 (["parts", "barred"] : List Str).length p_Sort_init (fun vs zs => vs ++ zs) E0 (tCons (tVar 1) (tCons (tVar 2) tNil)) (tCons (tCB (qTupOf K) (tCons (tFld K (tVar 0) "parts_read") tNil)) (tCons (tCB (qTupOf K) (tCons (tFld K (tVar 0) "pairs_read") tNil)) tNil)))))
theorem dv_SortReader_whole_sort {P : Program} {w : World} {K : PySem.W.Frag} {mg : Str → Option Value} {base : Heap} {f : Addr} {cd : Value} {A : Around} {outer : List Env} {s : Shared} {H : Hp} {E : XK} {p_Sort_init : Sp} (T : Tx w K mg)
    (hr : Room 5 (A.deeper (envOfC "SortReader.whole_sort" (defScope st_SortReader_whole_sort) s.heap.objs.size f cd)))
    (K_Sort_init_kw : MakKw P w K mg base 4 "Sort" (He.ga K "Sort") ["self", "name", "promise", "parts", "barred"] 2 ["parts", "barred"] (fun vs zs => vs ++ zs) p_Sort_init) :
    PSs (cxOf (L2.CX P w) P w K mg base ["self", "name", "promise"] "SortReader.whole_sort" (defScope st_SortReader_whole_sort) f cd A outer s H E).nox (defBody st_SortReader_whole_sort) (t_SortReader_whole_sort K p_Sort_init) := by
  unfold t_SortReader_whole_sort
  exact (pss_cons (ps_asg (pe_ix ix_list (pe_fld (pv 0) rfl) pe_int (fun _ _ => rfl)) (pg_tup rfl (pgs_cons (pg_name (i := 1) sc_SortReader_whole_sort.nd rfl (Or.inl rfl)) (pgs_cons (pg_name (i := 2) sc_SortReader_whole_sort.nd rfl (Or.inl rfl)) pgs_nil))))
    (pss_one (ps_ret (pe_makK K_Sort_init_kw hr (by decide) rfl passL (pa_cons (pv 1) (pa_cons (pv 2) pa_nil)) (pk_cons (pe_callTy c_tupOf rfl T.n_tuple (by decide +kernel) (pa_cons (pe_fld (pv 0) rfl) pa_nil)) (pk_cons (pe_callTy c_tupOf rfl T.n_tuple (by decide +kernel) (pa_cons (pe_fld (pv 0) rfl) pa_nil)) pk_nil))))))

/-! BadValue.__init__ -/
abbrev st_BadValue_init : Stmt := inClass (top 2) 0
abbrev N_BadValue_init : List Str := ["self", "what"]
theorem sc_BadValue_init : FnScope ["self", "what"] ["self", "what"] (defScope st_BadValue_init) := ⟨rfl, rfl, rfl, by decide +kernel, rfl, by decide +kernel, by decide +kernel⟩
def t_BadValue_init (K : PySem.W.Frag) : TS :=
  (tOst K "what" (tVar 0) (tVar 1))
theorem dv_BadValue_init {P : Program} {w : World} {K : PySem.W.Frag} {mg : Str → Option Value} {base : Heap} {f : Addr} {cd : Value} {A : Around} {outer : List Env} {s : Shared} {H : Hp} {E : XK} (T : Tx w K mg)
    (hr : Room 0 (A.deeper (envOfC "BadValue.__init__" (defScope st_BadValue_init) s.heap.objs.size f cd))) :
    PSs (cxOf (L2.CX P w) P w K mg base ["self", "what"] "BadValue.__init__" (defScope st_BadValue_init) f cd A outer s H E).nox (defBody st_BadValue_init) (t_BadValue_init K) := by
  unfold t_BadValue_init
  exact (pss_one (ps_ost (pv 0) (pv 1)))

/-! BadText.__init__ -/
abbrev st_BadText_init : Stmt := inClass (top 3) 0
abbrev N_BadText_init : List Str := ["self", "row", "word"]
theorem sc_BadText_init : FnScope ["self", "row", "word"] ["self", "row", "word"] (defScope st_BadText_init) := ⟨rfl, rfl, rfl, by decide +kernel, rfl, by decide +kernel, by decide +kernel⟩
def t_BadText_init (K : PySem.W.Frag) (p_BadValue_init : Sp) : TS :=
  (tSeq (tDrop (tCall p_BadValue_init [] E0 (tCons (tVar 0) (tCons (tC (.str "text")) tNil))))
    (tSeq (tOst K "row" (tVar 0) (tVar 1))
    (tOst K "word" (tVar 0) (tVar 2))))
theorem dv_BadText_init {P : Program} {w : World} {K : PySem.W.Frag} {mg : Str → Option Value} {base : Heap} {f : Addr} {cd : Value} {A : Around} {outer : List Env} {s : Shared} {H : Hp} {E : XK} {p_BadValue_init : Sp} (T : Tx w K mg)
    (hr : Room 4 (A.deeper (envOfC "BadText.__init__" (defScope st_BadText_init) s.heap.objs.size f cd)))
    (G_BadValue_init : ClsInit P w K mg base 1 "BadValue" (He.ga K "BadValue") ["self", "what"] p_BadValue_init) :
    PSs (cxOf (L2.CX P w) P w K mg base ["self", "row", "word"] "BadText.__init__" (defScope st_BadText_init) f cd A outer s H E).nox (defBody st_BadText_init) (t_BadText_init K p_BadValue_init) := by
  unfold t_BadText_init
  exact (pss_cons (ps_expr (pe_clsinit G_BadValue_init hr (by decide) rfl passL (pa_cons (pv 0) (pa_cons pe_str pa_nil))))
    (pss_cons (ps_ost (pv 0) (pv 1))
    (pss_one (ps_ost (pv 0) (pv 2)))))

/-! _law_mixed -/
abbrev st_l_mixed : Stmt := top 38
abbrev N_l_mixed : List Str := ["_law_cell", "_law_k", "_law_number"]
theorem sc_l_mixed : FnScope ["_law_cell", "_law_k", "_law_number"] ["_law_cell", "_law_k"] (defScope st_l_mixed) := ⟨rfl, rfl, rfl, by decide +kernel, rfl, by decide +kernel, by decide +kernel⟩
def t_l_mixed (K : PySem.W.Frag) : TS :=
  (tSeq (tAsg (tOp qAdd (tOp qAdd (tOp qMod (tOp qMul (tOp qMul (tVar 0) (tOp qAdd (tC (.int 1)) (tOp qMul (tC (.int 2)) (tVar 1)))) (tC (.int 48271))) (tC (.int 2147483647))) (tOp qMul (tOp qMul (tC (.int 7919)) (tVar 1)) (tVar 1))) (tOp qMul (tC (.int 104729)) (tVar 1))) (gName 2))
    (tRet (tOp qDivW (tOp qMod (tOp qMul (tVar 2) (tC (.int 69621))) (tC (.int 2147483629))) (tC (.int 7)))))
theorem dv_l_mixed {P : Program} {w : World} {K : PySem.W.Frag} {mg : Str → Option Value} {base : Heap} {f : Addr} {cd : Value} {A : Around} {outer : List Env} {s : Shared} {H : Hp} {E : XK} (T : Tx w K mg)
    (hr : Room 0 (A.deeper (envOfC "_law_mixed" (defScope st_l_mixed) s.heap.objs.size f cd))) :
    PSs (cxOf (L2.CX P w) P w K mg base ["_law_cell", "_law_k", "_law_number"] "_law_mixed" (defScope st_l_mixed) f cd A outer s H E).nox (defBody st_l_mixed) (t_l_mixed K) := by
  unfold t_l_mixed
  exact (pss_cons (ps_set (i := 2) sc_l_mixed.nd rfl (Or.inl rfl) (pe_op op_add (pe_op op_add (pe_op op_mod (pe_op op_mul (pe_op op_mul (pv 0) (pe_op op_add pe_int (pe_op op_mul pe_int (pv 1)))) pe_int) pe_int) (pe_op op_mul (pe_op op_mul pe_int (pv 1)) (pv 1))) (pe_op op_mul pe_int (pv 1))))
    (pss_one (ps_ret (pe_op op_fdivW (pe_op op_mod (pe_op op_mul (pv 2) pe_int) pe_int) pe_int))))

/-! _law_folded -/
abbrev st_l_folded : Stmt := top 39
abbrev N_l_folded : List Str := ["_law_script", "_law_k", "_law_found", "_law_cell"]
theorem sc_l_folded : FnScope ["_law_script", "_law_k", "_law_found", "_law_cell"] ["_law_script"] (defScope st_l_folded) := ⟨rfl, rfl, rfl, by decide +kernel, rfl, by decide +kernel, by decide +kernel⟩
def t_l_folded (K : PySem.W.Frag) : TS :=
  (tSeq (tAsg (tLc (iRng1 (tCons (tC (.int 64)) tNil)) (gName 1) tYes (tOp qAdd (tC (.int 17)) (tVar 1)) [1]) (gName 2))
    (tSeq (tFor (iEnum K (tCons (tVar 0) tNil)) (gTup K 2 (gCons (gName 1) (gCons (gName 3) gNil))) (tAsg (tOp qMod (tOp qAdd (tOp qMul (tOp (rIxL K) (tVar 2) (tOp qMod (tVar 1) (tC (.int 64)))) (tC (.int 48271))) (tVar 3)) (tC (.int 2147483647))) (gSub (tVar 2) (tOp qMod (tVar 1) (tC (.int 64))) rSetL)))
    (tSeq (tFor (iRng2 (tCons (tC (.int 1)) (tCons (tC (.int 64)) tNil))) (gName 1) (tAsg (tOp qMod (tOp qAdd (tOp (rIxL K) (tVar 2) (tVar 1)) (tOp qMul (tOp (rIxL K) (tVar 2) (tOp qSub (tVar 1) (tC (.int 1)))) (tC (.int 16807)))) (tC (.int 2147483647))) (gSub (tVar 2) (tVar 1) rSetL)))
    (tRet (tVar 2)))))
theorem dv_l_folded {P : Program} {w : World} {K : PySem.W.Frag} {mg : Str → Option Value} {base : Heap} {f : Addr} {cd : Value} {A : Around} {outer : List Env} {s : Shared} {H : Hp} {E : XK} (T : Tx w K mg)
    (hr : Room 0 (A.deeper (envOfC "_law_folded" (defScope st_l_folded) s.heap.objs.size f cd))) :
    PSs (cxOf (L2.CX P w) P w K mg base ["_law_script", "_law_k", "_law_found", "_law_cell"] "_law_folded" (defScope st_l_folded) f cd A outer s H E).nox (defBody st_l_folded) (t_l_folded K) := by
  unfold t_l_folded
  exact (pss_cons (ps_setLc (i := 2) (own := [("_law_k", 1)]) (g := (gName 1)) (tt := tYes) (by rfl) sc_l_folded.nd rfl rfl (sw_true rfl rfl rfl (by decide +kernel)) (pi_range1 rfl T.n_range (pa_cons pe_int pa_nil)) (blkOk_by (N := ["_law_script", "_law_k", "_law_found", "_law_cell"]) (sc := defScope st_l_folded) (own := [("_law_k", 1)]) (by decide +kernel)) (fun _ _ _ _ _ => (pg_name (i := 1) sc_l_folded.nd rfl (Or.inl rfl))) (fun _ _ _ _ _ => pts_nil) (fun _ _ _ _ _ => (pe_op op_add pe_int (pv 1))))
    (pss_cons (ps_for PassesOwn.never rfl (pi_enum rfl T.n_enumerate (pa_cons (pv 0) pa_nil)) (pg_tup rfl (pgs_cons (pg_name (i := 1) sc_l_folded.nd rfl (Or.inl rfl)) (pgs_cons (pg_name (i := 3) sc_l_folded.nd rfl (Or.inl rfl)) pgs_nil))) (pss_one (ps_asg (pe_op op_mod (pe_op op_add (pe_op op_mul (pe_ix ix_list (pv 2) (pe_op op_mod (pv 1) pe_int) (fun _ _ => rfl)) pe_int) (pv 3)) pe_int) (pg_sub (pv 2) (pe_op op_mod (pv 1) pe_int) set_list))))
    (pss_cons (ps_for PassesOwn.never rfl (pi_range2 rfl T.n_range (pa_cons pe_int (pa_cons pe_int pa_nil))) (pg_name (i := 1) sc_l_folded.nd rfl (Or.inl rfl)) (pss_one (ps_asg (pe_op op_mod (pe_op op_add (pe_ix ix_list (pv 2) (pv 1) (fun _ _ => rfl)) (pe_op op_mul (pe_ix ix_list (pv 2) (pe_op op_sub (pv 1) pe_int) (fun _ _ => rfl)) pe_int)) pe_int) (pg_sub (pv 2) (pv 1) set_list))))
    (pss_one (ps_ret (pv 2))))))

/-! _law_draw -/
abbrev st_l_draw : Stmt := top 40
abbrev N_l_draw : List Str := ["_law_m", "_law_many", "_law_k", "_law_at", "_law_cell"]
theorem sc_l_draw : FnScope ["_law_m", "_law_many", "_law_k", "_law_at", "_law_cell"] ["_law_m", "_law_many"] (defScope st_l_draw) := ⟨rfl, rfl, rfl, by decide +kernel, rfl, by decide +kernel, by decide +kernel⟩
def t_l_draw (K : PySem.W.Frag) (p_l_mixed : Sp) : TS :=
  (tSeq (tAsg (tDGet (tVar 0) (tC (.str "at"))) (gName 2))
    (tSeq (sDPut (tVar 0) (tC (.str "at")) (tOp qAdd (tVar 2) (tC (.int 1))))
    (tSeq (tIfS (tTest (tOp (qNeNil K) (tDGet (tVar 0) (tC (.str "left"))) (tLst tNil))) (tSeq (tAsg (tOp qMod (tVar 2) (tCB (qLenL K) (tCons (tDGet (tVar 0) (tC (.str "left"))) tNil))) (gName 3))
    (tSeq (tAsg (tOp (rIxL K) (tDGet (tVar 0) (tC (.str "left"))) (tVar 3)) (gName 4))
    (tIfS (tTest (tOp qGt (tVar 4) (tC (.int 0)))) (tSeq (tAsg (tOp qDivW (tVar 4) (tVar 1)) (gSub (tDGet (tVar 0) (tC (.str "left"))) (tVar 3) rSetL))
    (tRet (tOp qMod (tVar 4) (tVar 1)))) tNext))) tNext)
    (tRet (tOp qMod (tCall p_l_mixed [] E0 (tCons (tCall p_l_mixed [] E0 (tCons (tOp qAdd (tOp (rIxL K) (tDGet (tVar 0) (tC (.str "cells"))) (tOp qMod (tVar 2) (tC (.int 64)))) (tOp qMul (tC (.int 31)) (tOp qDivW (tVar 2) (tC (.int 64))))) (tCons (tVar 2) tNil))) (tCons (tOp qAdd (tVar 2) (tC (.int 7))) tNil))) (tVar 1))))))
theorem dv_l_draw {P : Program} {w : World} {K : PySem.W.Frag} {mg : Str → Option Value} {base : Heap} {f : Addr} {cd : Value} {A : Around} {outer : List Env} {s : Shared} {H : Hp} {E : XK} {p_l_mixed : Sp} (T : Tx w K mg)
    (hr : Room 1 (A.deeper (envOfC "_law_draw" (defScope st_l_draw) s.heap.objs.size f cd)))
    (G_l_mixed : DefOk P w K mg base 1 "_law_mixed" ["_law_cell", "_law_k"] [] p_l_mixed) :
    PSs (cxOf (L2.CX P w) P w K mg base ["_law_m", "_law_many", "_law_k", "_law_at", "_law_cell"] "_law_draw" (defScope st_l_draw) f cd A outer s H E).nox (defBody st_l_draw) (t_l_draw K p_l_mixed) := by
  unfold t_l_draw
  exact (pss_cons (ps_set (i := 2) sc_l_draw.nd rfl (Or.inl rfl) (pe_dget (hu_of hr) (pv 0) pe_str (fun _ _ => rfl)))
    (pss_cons (ps_dput (hu_of hr) (pv 0) pe_str (pe_op op_add (pv 2) pe_int) rfl)
    (pss_cons (ps_if (pt_cmpR (o_neNil hr.units0) (pe_dget (hu_of hr) (pv 0) pe_str (fun _ _ => rfl)) (pe_lst pa_nil) (nomark _)) (pss_cons (ps_set (i := 3) sc_l_draw.nd rfl (Or.inl rfl) (pe_op op_mod (pv 2) (pe_callB c_lenL rfl T.n_len (by decide +kernel) (pa_cons (pe_dget (hu_of hr) (pv 0) pe_str (fun _ _ => rfl)) pa_nil))))
    (pss_cons (ps_set (i := 4) sc_l_draw.nd rfl (Or.inl rfl) (pe_ix ix_list (pe_dget (hu_of hr) (pv 0) pe_str (fun _ _ => rfl)) (pv 3) (fun _ _ => rfl)))
    (pss_one (ps_if (pt_cmpR op_gt (pv 4) pe_int (nomark _)) (pss_cons (ps_asg (pe_op op_fdivW (pv 4) (pv 1)) (pg_sub (pe_dget (hu_of hr) (pv 0) pe_str (fun _ _ => rfl)) (pv 3) set_list))
    (pss_one (ps_ret (pe_op op_mod (pv 4) (pv 1))))) pss_nil)))) pss_nil)
    (pss_one (ps_ret (pe_op op_mod (pe_callD G_l_mixed hr (by decide) rfl passL (pa_cons (pe_callD G_l_mixed hr (by decide) rfl passL (pa_cons (pe_op op_add (pe_ix ix_list (pe_dget (hu_of hr) (pv 0) pe_str (fun _ _ => rfl)) (pe_op op_mod (pv 2) pe_int) (fun _ _ => rfl)) (pe_op op_mul pe_int (pe_op op_fdivW (pv 2) pe_int))) (pa_cons (pv 2) pa_nil))) (pa_cons (pe_op op_add (pv 2) pe_int) pa_nil))) (pv 1)))))))

/-! _law_begun -/
abbrev st_l_begun : Stmt := top 41
abbrev N_l_begun : List Str := ["_law_script", "_law_m", "_law_cell"]
theorem sc_l_begun : FnScope ["_law_script", "_law_m", "_law_cell"] ["_law_script"] (defScope st_l_begun) := ⟨rfl, rfl, rfl, by decide +kernel, rfl, by decide +kernel, by decide +kernel⟩
def t_l_begun (K : PySem.W.Frag) (p_l_folded : Sp) : TS :=
  (tSeq (tAsg (tDisp (((tC (.str "cells")), (tCall p_l_folded [] E0 (tCons (tVar 0) tNil))) :: (((tC (.str "left")), (tLst tNil)) :: (((tC (.str "at")), (tC (.int 0))) :: [])))) (gName 1))
    (tSeq (sDPut (tVar 1) (tC (.str "left")) (tLc (iList K (tVar 0)) (gName 2) tYes (tIf (tTest (tOp qGe (tVar 2) (tOp qPow (tC (.int 10)) (tC (.int 18))))) (tVar 2) (tC (.int 0))) [2]))
    (tRet (tVar 1))))
theorem dv_l_begun {P : Program} {w : World} {K : PySem.W.Frag} {mg : Str → Option Value} {base : Heap} {f : Addr} {cd : Value} {A : Around} {outer : List Env} {s : Shared} {H : Hp} {E : XK} {p_l_folded : Sp} (T : Tx w K mg)
    (hr : Room 1 (A.deeper (envOfC "_law_begun" (defScope st_l_begun) s.heap.objs.size f cd)))
    (G_l_folded : DefOk P w K mg base 1 "_law_folded" ["_law_script"] [] p_l_folded) :
    PSs (cxOf (L2.CX P w) P w K mg base ["_law_script", "_law_m", "_law_cell"] "_law_begun" (defScope st_l_begun) f cd A outer s H E).nox (defBody st_l_begun) (t_l_begun K p_l_folded) := by
  unfold t_l_begun
  exact (pss_cons (ps_set (i := 1) sc_l_begun.nd rfl (Or.inl rfl) (pe_disp (pps_cons pe_str (pe_callD G_l_folded hr (by decide) rfl passL (pa_cons (pv 0) pa_nil)) (pps_cons pe_str (pe_lst pa_nil) (pps_cons pe_str pe_int pps_nil))) (by rfl) (by rfl) (fun z => by cases z) (by decide)))
    (pss_cons (ps_dput (hu_of hr) (pv 1) pe_str (pe_lc (own := [("_law_cell", 2)]) (g := (gName 2)) (tt := tYes) (by rfl) sc_l_begun.nd (pi_list (pv 0)) (blkOk_by (N := ["_law_script", "_law_m", "_law_cell"]) (sc := defScope st_l_begun) (own := [("_law_cell", 2)]) (by decide +kernel)) (fun _ _ _ _ _ => (pg_name (i := 2) sc_l_begun.nd rfl (Or.inl rfl))) (fun _ _ _ _ _ => pts_nil) (fun _ _ _ _ _ => (pe_ifExp (pt_cmpR op_ge (pv 2) (pe_op op_pow pe_int pe_int) (nomark _)) (pv 2) pe_int))) rfl)
    (pss_one (ps_ret (pv 1)))))

/-! _law_called -/
abbrev st_l_called : Stmt := top 42
abbrev N_l_called : List Str := ["_law_m", "_law_many", "_law_letters", "_law_found", "_law_shift", "_law_stride", "_law_k", "_law_said", "_law_j"]
theorem sc_l_called : FnScope ["_law_m", "_law_many", "_law_letters", "_law_found", "_law_shift", "_law_stride", "_law_k", "_law_said", "_law_j"] ["_law_m", "_law_many"] (defScope st_l_called) := ⟨rfl, rfl, rfl, by decide +kernel, rfl, by decide +kernel, by decide +kernel⟩
def t_l_called (K : PySem.W.Frag) (p_l_draw : Sp) : TS :=
  (tSeq (tPar 2 3 (tCons (tC (.str "abcdefghijklmnopqrstuvwxyz")) (tCons (tLst tNil) tNil)))
    (tSeq (tAsg (tCall p_l_draw [] E0 (tCons (tVar 0) (tCons (tC (.int 26)) tNil))) (gName 4))
    (tSeq (tAsg (tOp (rIxL K) (tLst (tCons (tC (.int 1)) (tCons (tC (.int 3)) (tCons (tC (.int 5)) (tCons (tC (.int 7)) (tCons (tC (.int 9)) (tCons (tC (.int 11)) (tCons (tC (.int 15)) (tCons (tC (.int 17)) (tCons (tC (.int 19)) (tCons (tC (.int 21)) (tCons (tC (.int 23)) (tCons (tC (.int 25)) tNil))))))))))))) (tCall p_l_draw [] E0 (tCons (tVar 0) (tCons (tC (.int 12)) tNil)))) (gName 5))
    (tSeq (tFor (iRng1 (tCons (tVar 1) tNil)) (gName 6) (tSeq (tAsg (tOp rIxS (tVar 2) (tOp qMod (tOp qAdd (tVar 4) (tOp qMul (tVar 5) (tVar 6))) (tC (.int 26)))) (gName 7))
    (tSeq (tAsg (tOp qAddS (tVar 7) (tOp rIxS (tVar 2) (tOp qMod (tOp qAdd (tVar 4) (tOp qDivW (tVar 6) (tC (.int 26)))) (tC (.int 26))))) (gName 7))
    (tSeq (tFor (iRng1 (tCons (tOp qAdd (tOp (rIxL K) (tLst (tCons (tC (.int 0)) (tCons (tC (.int 0)) (tCons (tC (.int 1)) (tCons (tCall p_l_draw [] E0 (tCons (tVar 0) (tCons (tC (.int 6)) tNil))) tNil))))) (tCall p_l_draw [] E0 (tCons (tVar 0) (tCons (tC (.int 4)) tNil)))) (tCB qIntB (tCons (tOp rEq (tVar 7) (tC (.str "in"))) tNil))) tNil)) (gName 8) (tAsg (tOp qAddS (tVar 7) (tOp rIxS (tC (.str "aeiou")) (tCall p_l_draw [] E0 (tCons (tVar 0) (tCons (tC (.int 5)) tNil))))) (gName 7)))
    (tSeq (tIfS (tAnd (tTest (tOp rEq (tOp qMod (tVar 6) (tC (.int 2))) (tC (.int 1)))) (tTest (tOp rEq (tCall p_l_draw [] E0 (tCons (tVar 0) (tCons (tC (.int 5)) tNil))) (tC (.int 0))))) (tAsg (tOp qAddS (tSl rSlS (tOp (rIxL K) (tVar 3) (tUn (rU fun i => .int (-i)) (tC (.int 1)))) tNoPart (tPart (tC (.int 7)))) (tC (.str "y"))) (gName 7)) tNext)
    (tDrop (tBM K "list" rAppend (tVar 3) (tCons (tVar 7) tNil))))))))
    (tRet (tVar 3))))))
theorem dv_l_called {P : Program} {w : World} {K : PySem.W.Frag} {mg : Str → Option Value} {base : Heap} {f : Addr} {cd : Value} {A : Around} {outer : List Env} {s : Shared} {H : Hp} {E : XK} {p_l_draw : Sp} (T : Tx w K mg)
    (hr : Room 2 (A.deeper (envOfC "_law_called" (defScope st_l_called) s.heap.objs.size f cd)))
    (G_l_draw : DefOk P w K mg base 2 "_law_draw" ["_law_m", "_law_many"] [] p_l_draw) :
    PSs (cxOf (L2.CX P w) P w K mg base ["_law_m", "_law_many", "_law_letters", "_law_found", "_law_shift", "_law_stride", "_law_k", "_law_said", "_law_j"] "_law_called" (defScope st_l_called) f cd A outer s H E).nox (defBody st_l_called) (t_l_called K p_l_draw) := by
  unfold t_l_called
  exact (pss_cons (ps_par (i := 2) (j := 3) rfl sc_l_called.nd rfl rfl (by decide) rfl rfl (pa_cons pe_str (pa_cons (pe_lst pa_nil) pa_nil)) (by rfl))
    (pss_cons (ps_set (i := 4) sc_l_called.nd rfl (Or.inl rfl) (pe_callD G_l_draw hr (by decide) rfl passL (pa_cons (pv 0) (pa_cons pe_int pa_nil))))
    (pss_cons (ps_set (i := 5) sc_l_called.nd rfl (Or.inl rfl) (pe_ix ix_list (pe_lst (pa_cons pe_int (pa_cons pe_int (pa_cons pe_int (pa_cons pe_int (pa_cons pe_int (pa_cons pe_int (pa_cons pe_int (pa_cons pe_int (pa_cons pe_int (pa_cons pe_int (pa_cons pe_int (pa_cons pe_int pa_nil))))))))))))) (pe_callD G_l_draw hr (by decide) rfl passL (pa_cons (pv 0) (pa_cons pe_int pa_nil))) (fun _ _ => rfl)))
    (pss_cons (ps_for PassesOwn.never rfl (pi_range1 rfl T.n_range (pa_cons (pv 1) pa_nil)) (pg_name (i := 6) sc_l_called.nd rfl (Or.inl rfl)) (pss_cons (ps_set (i := 7) sc_l_called.nd rfl (Or.inl rfl) (pe_ix ix_str (pv 2) (pe_op op_mod (pe_op op_add (pv 4) (pe_op op_mul (pv 5) (pv 6))) pe_int) (fun _ _ => rfl)))
    (pss_cons (ps_set (i := 7) sc_l_called.nd rfl (Or.inl rfl) (pe_op o_addS (pv 7) (pe_ix ix_str (pv 2) (pe_op op_mod (pe_op op_add (pv 4) (pe_op op_fdivW (pv 6) pe_int)) pe_int) (fun _ _ => rfl))))
    (pss_cons (ps_for PassesOwn.never rfl (pi_range1 rfl T.n_range (pa_cons (pe_op op_add (pe_ix ix_list (pe_lst (pa_cons pe_int (pa_cons pe_int (pa_cons pe_int (pa_cons (pe_callD G_l_draw hr (by decide) rfl passL (pa_cons (pv 0) (pa_cons pe_int pa_nil))) pa_nil))))) (pe_callD G_l_draw hr (by decide) rfl passL (pa_cons (pv 0) (pa_cons pe_int pa_nil))) (fun _ _ => rfl)) (pe_callTy c_intB rfl T.n_int (by decide +kernel) (pa_cons (pe_cmpR op_eq (pv 7) pe_str (nomark _)) pa_nil))) pa_nil)) (pg_name (i := 8) sc_l_called.nd rfl (Or.inl rfl)) (pss_one (ps_set (i := 7) sc_l_called.nd rfl (Or.inl rfl) (pe_op o_addS (pv 7) (pe_ix ix_str pe_str (pe_callD G_l_draw hr (by decide) rfl passL (pa_cons (pv 0) (pa_cons pe_int pa_nil))) (fun _ _ => rfl))))))
    (pss_cons (ps_if (PW.pt (pw_and (pt_cmpR op_eq (pe_op op_mod (pv 6) pe_int) pe_int (nomark _)) (pw_and1 (pt_cmpR op_eq (pe_callD G_l_draw hr (by decide) rfl passL (pa_cons (pv 0) (pa_cons pe_int pa_nil))) pe_int (nomark _))))) (pss_one (ps_set (i := 7) sc_l_called.nd rfl (Or.inl rfl) (pe_op o_addS (pe_slice sl_str (pe_ix ix_list (pv 3) (pe_un un_neg pe_int) (fun _ _ => rfl)) po_none (po_some pe_int)) pe_str))) pss_nil)
    (pss_one (ps_expr (pe_bm PySem.F.plainAttrs_list PySem.F.slot_list_append PySem.F.type_list_append mt_append (pv 3) (pa_cons (pv 7) pa_nil)))))))))
    (pss_one (ps_ret (pv 3)))))))

/-! _law_limit -/
abbrev st_l_limit : Stmt := top 43
abbrev N_l_limit : List Str := ["_law_m", "_law_top"]
theorem sc_l_limit : FnScope ["_law_m", "_law_top"] ["_law_m", "_law_top"] (defScope st_l_limit) := ⟨rfl, rfl, rfl, by decide +kernel, rfl, by decide +kernel, by decide +kernel⟩
def t_l_limit (K : PySem.W.Frag) (p_l_draw : Sp) : TS :=
  (tRet (tOp (rIxL K) (tLst (tCons (tC .non) (tCons (tC .non) (tCons (tCall p_l_draw [] E0 (tCons (tVar 0) (tCons (tC (.int 6)) tNil))) (tCons (tCall p_l_draw [] E0 (tCons (tVar 0) (tCons (tC (.int 60)) tNil))) (tCons (tCall p_l_draw [] E0 (tCons (tVar 0) (tCons (tC (.int 2000)) tNil))) (tCons (tOp qSub (tVar 1) (tCall p_l_draw [] E0 (tCons (tVar 0) (tCons (tC (.int 2)) tNil)))) tNil))))))) (tCall p_l_draw [] E0 (tCons (tVar 0) (tCons (tC (.int 6)) tNil)))))
theorem dv_l_limit {P : Program} {w : World} {K : PySem.W.Frag} {mg : Str → Option Value} {base : Heap} {f : Addr} {cd : Value} {A : Around} {outer : List Env} {s : Shared} {H : Hp} {E : XK} {p_l_draw : Sp} (T : Tx w K mg)
    (hr : Room 2 (A.deeper (envOfC "_law_limit" (defScope st_l_limit) s.heap.objs.size f cd)))
    (G_l_draw : DefOk P w K mg base 2 "_law_draw" ["_law_m", "_law_many"] [] p_l_draw) :
    PSs (cxOf (L2.CX P w) P w K mg base ["_law_m", "_law_top"] "_law_limit" (defScope st_l_limit) f cd A outer s H E).nox (defBody st_l_limit) (t_l_limit K p_l_draw) := by
  unfold t_l_limit
  exact (pss_one (ps_ret (pe_ix ix_list (pe_lst (pa_cons pe_non (pa_cons pe_non (pa_cons (pe_callD G_l_draw hr (by decide) rfl passL (pa_cons (pv 0) (pa_cons pe_int pa_nil))) (pa_cons (pe_callD G_l_draw hr (by decide) rfl passL (pa_cons (pv 0) (pa_cons pe_int pa_nil))) (pa_cons (pe_callD G_l_draw hr (by decide) rfl passL (pa_cons (pv 0) (pa_cons pe_int pa_nil))) (pa_cons (pe_op op_sub (pv 1) (pe_callD G_l_draw hr (by decide) rfl passL (pa_cons (pv 0) (pa_cons pe_int pa_nil)))) pa_nil))))))) (pe_callD G_l_draw hr (by decide) rfl passL (pa_cons (pv 0) (pa_cons pe_int pa_nil))) (fun _ _ => rfl))))

/-! _law_limits -/
abbrev st_l_limits : Stmt := top 44
abbrev N_l_limits : List Str := ["_law_m"]
theorem sc_l_limits : FnScope ["_law_m"] ["_law_m"] (defScope st_l_limits) := ⟨rfl, rfl, rfl, by decide +kernel, rfl, by decide +kernel, by decide +kernel⟩
def t_l_limits (K : PySem.W.Frag) (p_l_limit : Sp) : TS :=
  (tRet (tTup (tCons (tCall p_l_limit [] E0 (tCons (tVar 0) (tCons (tC (.int 9999)) tNil))) (tCons (tCall p_l_limit [] E0 (tCons (tVar 0) (tCons (tOp qPow (tC (.int 10)) (tC (.int 6))) tNil))) (tCons (tCall p_l_limit [] E0 (tCons (tVar 0) (tCons (tOp qPow (tC (.int 10)) (tC (.int 6))) tNil))) tNil)))))
theorem dv_l_limits {P : Program} {w : World} {K : PySem.W.Frag} {mg : Str → Option Value} {base : Heap} {f : Addr} {cd : Value} {A : Around} {outer : List Env} {s : Shared} {H : Hp} {E : XK} {p_l_limit : Sp} (T : Tx w K mg)
    (hr : Room 3 (A.deeper (envOfC "_law_limits" (defScope st_l_limits) s.heap.objs.size f cd)))
    (G_l_limit : DefOk P w K mg base 3 "_law_limit" ["_law_m", "_law_top"] [] p_l_limit) :
    PSs (cxOf (L2.CX P w) P w K mg base ["_law_m"] "_law_limits" (defScope st_l_limits) f cd A outer s H E).nox (defBody st_l_limits) (t_l_limits K p_l_limit) := by
  unfold t_l_limits
  exact (pss_one (ps_ret (pe_tup (pa_cons (pe_callD G_l_limit hr (by decide) rfl passL (pa_cons (pv 0) (pa_cons pe_int pa_nil))) (pa_cons (pe_callD G_l_limit hr (by decide) rfl passL (pa_cons (pv 0) (pa_cons (pe_op op_pow pe_int pe_int) pa_nil))) (pa_cons (pe_callD G_l_limit hr (by decide) rfl passL (pa_cons (pv 0) (pa_cons (pe_op op_pow pe_int pe_int) pa_nil))) pa_nil))))))

/-! _law_plain_sort -/
abbrev st_l_plain_sort : Stmt := top 45
abbrev N_l_plain_sort : List Str := ["_law_m", "_law_w", "_law_rows", "_law_pairs", "_law_one", "_law_first", "_law_bad", "_law_row"]
theorem sc_l_plain_sort : FnScope ["_law_m", "_law_w", "_law_rows", "_law_pairs", "_law_one", "_law_first", "_law_bad", "_law_row"] ["_law_m", "_law_w"] (defScope st_l_plain_sort) := ⟨rfl, rfl, rfl, by decide +kernel, rfl, by decide +kernel, by decide +kernel⟩
def t_l_plain_sort (K : PySem.W.Frag) (p_l_draw : Sp) (p_l_limits : Sp) : TS :=
  (tSeq (tPar 2 3 (tCons (tLst tNil) (tCons (tLst tNil) tNil)))
    (tSeq (tFor (iList K (tCB (rSortedS K) (tCons (tSl (rSlL K) (tVar 1) (tPart (tC (.int 1))) (tPart (tOp qAdd (tC (.int 1)) (tCall p_l_draw [] E0 (tCons (tVar 0) (tCons (tOp (rIxL K) (tLst (tCons (tC (.int 4)) (tCons (tC (.int 13)) tNil))) (tCall p_l_draw [] E0 (tCons (tVar 0) (tCons (tC (.int 2)) tNil)))) tNil)))))) tNil))) (gName 4) (tSeq (tAsg (tOp (rIxL K) (tLst (tCons (tC .non) (tCons (tCall p_l_limits [] E0 (tCons (tVar 0) tNil)) tNil))) (tCall p_l_draw [] E0 (tCons (tVar 0) (tCons (tC (.int 2)) tNil)))) (gName 5))
    (tDrop (tBM K "list" rAppend (tVar 2) (tCons (tTup (tCons (tVar 4) (tCons (tVar 5) (tCons (tOp (rIxL K) (tLst (tCons (tC .non) (tCons (tCall p_l_limits [] E0 (tCons (tVar 0) tNil)) tNil))) (tCall p_l_draw [] E0 (tCons (tVar 0) (tCons (tC (.int 2)) tNil)))) tNil)))) tNil)))))
    (tSeq (tFor (iList K (tCB (rSortedS K) (tCons (tSl (rSlL K) (tVar 1) (tPart (tC (.int 13))) (tPart (tC (.int 16)))) tNil))) (gName 6) (tAsg (tOp rCat (tVar 3) (tLc (iList K (tSl (rSlL K) (tVar 2) tNoPart (tPart (tC (.int 8))))) (gName 7) (tTest (tOp rEq (tCall p_l_draw [] E0 (tCons (tVar 0) (tCons (tC (.int 3)) tNil))) (tC (.int 0)))) (tTup (tCons (tVar 6) (tCons (tOp (rIxT K) (tVar 7) (tC (.int 0))) tNil))) [7])) (gName 3)))
    (tRet (tTup (tCons (tOp (rIxL K) (tVar 1) (tC (.int 0))) (tCons (tCall p_l_limits [] E0 (tCons (tVar 0) tNil)) (tCons (tCB (qTupOf K) (tCons (tVar 2) tNil)) (tCons (tCB (qTupOf K) (tCons (tVar 3) tNil)) tNil)))))))))
theorem dv_l_plain_sort {P : Program} {w : World} {K : PySem.W.Frag} {mg : Str → Option Value} {base : Heap} {f : Addr} {cd : Value} {A : Around} {outer : List Env} {s : Shared} {H : Hp} {E : XK} {p_l_draw p_l_limits : Sp} (T : Tx w K mg)
    (hr : Room 4 (A.deeper (envOfC "_law_plain_sort" (defScope st_l_plain_sort) s.heap.objs.size f cd)))
    (G_l_draw : DefOk P w K mg base 2 "_law_draw" ["_law_m", "_law_many"] [] p_l_draw)
    (G_l_limits : DefOk P w K mg base 4 "_law_limits" ["_law_m"] [] p_l_limits) :
    PSs (cxOf (L2.CX P w) P w K mg base ["_law_m", "_law_w", "_law_rows", "_law_pairs", "_law_one", "_law_first", "_law_bad", "_law_row"] "_law_plain_sort" (defScope st_l_plain_sort) f cd A outer s H E).nox (defBody st_l_plain_sort) (t_l_plain_sort K p_l_draw p_l_limits) := by
  unfold t_l_plain_sort
  exact (pss_cons (ps_par (i := 2) (j := 3) rfl sc_l_plain_sort.nd rfl rfl (by decide) rfl rfl (pa_cons (pe_lst pa_nil) (pa_cons (pe_lst pa_nil) pa_nil)) (by rfl))
    (pss_cons (ps_for PassesOwn.never rfl (pi_list (pe_callB cr_sortedS rfl T.n_sorted (by decide +kernel) (pa_cons (pe_slice sl_list (pv 1) (po_some pe_int) (po_some (pe_op op_add pe_int (pe_callD G_l_draw hr (by decide) rfl passL (pa_cons (pv 0) (pa_cons (pe_ix ix_list (pe_lst (pa_cons pe_int (pa_cons pe_int pa_nil))) (pe_callD G_l_draw hr (by decide) rfl passL (pa_cons (pv 0) (pa_cons pe_int pa_nil))) (fun _ _ => rfl)) pa_nil)))))) pa_nil))) (pg_name (i := 4) sc_l_plain_sort.nd rfl (Or.inl rfl)) (pss_cons (ps_set (i := 5) sc_l_plain_sort.nd rfl (Or.inl rfl) (pe_ix ix_list (pe_lst (pa_cons pe_non (pa_cons (pe_callD G_l_limits hr (by decide) rfl passL (pa_cons (pv 0) pa_nil)) pa_nil))) (pe_callD G_l_draw hr (by decide) rfl passL (pa_cons (pv 0) (pa_cons pe_int pa_nil))) (fun _ _ => rfl)))
    (pss_one (ps_expr (pe_bm PySem.F.plainAttrs_list PySem.F.slot_list_append PySem.F.type_list_append mt_append (pv 2) (pa_cons (pe_tup (pa_cons (pv 4) (pa_cons (pv 5) (pa_cons (pe_ix ix_list (pe_lst (pa_cons pe_non (pa_cons (pe_callD G_l_limits hr (by decide) rfl passL (pa_cons (pv 0) pa_nil)) pa_nil))) (pe_callD G_l_draw hr (by decide) rfl passL (pa_cons (pv 0) (pa_cons pe_int pa_nil))) (fun _ _ => rfl)) pa_nil)))) pa_nil))))))
    (pss_cons (ps_for PassesOwn.never rfl (pi_list (pe_callB cr_sortedS rfl T.n_sorted (by decide +kernel) (pa_cons (pe_slice sl_list (pv 1) (po_some pe_int) (po_some pe_int)) pa_nil))) (pg_name (i := 6) sc_l_plain_sort.nd rfl (Or.inr rfl)) (pss_one (ps_set (i := 3) sc_l_plain_sort.nd rfl (Or.inl rfl) (pe_op op_cat (pv 3) (pe_lc (own := [("_law_row", 7)]) (g := (gName 7)) (tt := (tTest (tOp rEq (tCall p_l_draw [] E0 (tCons (tVar 0) (tCons (tC (.int 3)) tNil))) (tC (.int 0))))) (by rfl) sc_l_plain_sort.nd (pi_list (pe_slice sl_list (pv 2) po_none (po_some pe_int))) (blkOk_by (N := ["_law_m", "_law_w", "_law_rows", "_law_pairs", "_law_one", "_law_first", "_law_bad", "_law_row"]) (sc := defScope st_l_plain_sort) (own := [("_law_row", 7)]) (by decide +kernel)) (fun _ _ _ _ _ => (pg_name (i := 7) sc_l_plain_sort.nd rfl (Or.inl rfl))) (fun _ _ _ _ _ => (pts_one (pt_cmpR op_eq (pe_callD G_l_draw hr (by decide) rfl passL (pa_cons (pv 0) (pa_cons pe_int pa_nil))) pe_int (nomark _)))) (fun _ _ _ _ _ => (pe_tup (pa_cons (pv 6) (pa_cons (pe_ix ix_tup (pv 7) pe_int (fun _ _ => rfl)) pa_nil)))))))))
    (pss_one (ps_ret (pe_tup (pa_cons (pe_ix ix_list (pv 1) pe_int (fun _ _ => rfl)) (pa_cons (pe_callD G_l_limits hr (by decide) rfl passL (pa_cons (pv 0) pa_nil)) (pa_cons (pe_callTy c_tupOf rfl T.n_tuple (by decide +kernel) (pa_cons (pv 2) pa_nil)) (pa_cons (pe_callTy c_tupOf rfl T.n_tuple (by decide +kernel) (pa_cons (pv 3) pa_nil)) pa_nil))))))))))

/-! _law_promise -/
abbrev st_l_promise : Stmt := top 46
abbrev N_l_promise : List Str := ["_law_three"]
theorem sc_l_promise : FnScope ["_law_three"] ["_law_three"] (defScope st_l_promise) := ⟨rfl, rfl, rfl, by decide +kernel, rfl, by decide +kernel, by decide +kernel⟩
def t_l_promise (K : PySem.W.Frag) (p_Promise_init : Sp) : TS :=
  (tSeq (tIfS (tTest (tOp qIsN (tVar 0) (tC .non))) (tRet (tC .non)) tNext)
    (tRet (tMakeK (He.ga K "Promise") 0 (["days", "miles", "turns"] : List Str).length p_Promise_init (fun vs zs => vs ++ zs) E0 tNil (tCons (tOp (rIxT K) (tVar 0) (tC (.int 0))) (tCons (tOp (rIxT K) (tVar 0) (tC (.int 1))) (tCons (tOp (rIxT K) (tVar 0) (tC (.int 2))) tNil))))))
theorem dv_l_promise {P : Program} {w : World} {K : PySem.W.Frag} {mg : Str → Option Value} {base : Heap} {f : Addr} {cd : Value} {A : Around} {outer : List Env} {s : Shared} {H : Hp} {E : XK} {p_Promise_init : Sp} (T : Tx w K mg)
    (hr : Room 4 (A.deeper (envOfC "_law_promise" (defScope st_l_promise) s.heap.objs.size f cd)))
    (K_Promise_init_kw : MakKw P w K mg base 3 "Promise" (He.ga K "Promise") ["self", "days", "miles", "turns"] 0 ["days", "miles", "turns"] (fun vs zs => vs ++ zs) p_Promise_init) :
    PSs (cxOf (L2.CX P w) P w K mg base ["_law_three"] "_law_promise" (defScope st_l_promise) f cd A outer s H E).nox (defBody st_l_promise) (t_l_promise K p_Promise_init) := by
  unfold t_l_promise
  exact (pss_cons (ps_if (pt_cmpR o_isN (pv 0) pe_non (nomark _)) (pss_one (ps_ret pe_non)) pss_nil)
    (pss_one (ps_ret (pe_makK0 K_Promise_init_kw hr (by decide) rfl passL (pk_cons (pe_ix ix_tup (pv 0) pe_int (fun _ _ => rfl)) (pk_cons (pe_ix ix_tup (pv 0) pe_int (fun _ _ => rfl)) (pk_cons (pe_ix ix_tup (pv 0) pe_int (fun _ _ => rfl)) pk_nil)))))))

/-! _law_sort -/
abbrev st_l_sort : Stmt := top 47
abbrev N_l_sort : List Str := ["_law_plain", "_law_rows", "_law_one", "_law_first", "_law_last"]
theorem sc_l_sort : FnScope ["_law_plain", "_law_rows", "_law_one", "_law_first", "_law_last"] ["_law_plain"] (defScope st_l_sort) := ⟨rfl, rfl, rfl, by decide +kernel, rfl, by decide +kernel, by decide +kernel⟩
def t_l_sort (K : PySem.W.Frag) (p_l_promise : Sp) (p_Sort_init : Sp) : TS :=
  (tSeq (tAsg (tLc (iTup K (tOp (rIxT K) (tVar 0) (tC (.int 2)))) (gTup K 3 (gCons (gName 2) (gCons (gName 3) (gCons (gName 4) gNil)))) tYes (tTup (tCons (tVar 2) (tCons (tCall p_l_promise [] E0 (tCons (tVar 3) tNil)) (tCons (tCall p_l_promise [] E0 (tCons (tVar 4) tNil)) tNil)))) [2, 3, 4]) (gName 1))
    (tRet (tMakeK (He.ga K "Sort") 2 (["parts", "barred"] : List Str).length p_Sort_init (fun vs zs => vs ++ zs) E0 (tCons (tOp (rIxT K) (tVar 0) (tC (.int 0))) (tCons (tCall p_l_promise [] E0 (tCons (tOp (rIxT K) (tVar 0) (tC (.int 1))) tNil)) tNil)) (tCons (tCB (qTupOf K) (tCons (tVar 1) tNil)) (tCons (tOp (rIxT K) (tVar 0) (tC (.int 3))) tNil)))))
theorem dv_l_sort {P : Program} {w : World} {K : PySem.W.Frag} {mg : Str → Option Value} {base : Heap} {f : Addr} {cd : Value} {A : Around} {outer : List Env} {s : Shared} {H : Hp} {E : XK} {p_l_promise p_Sort_init : Sp} (T : Tx w K mg)
    (hr : Room 5 (A.deeper (envOfC "_law_sort" (defScope st_l_sort) s.heap.objs.size f cd)))
    (G_l_promise : DefOk P w K mg base 5 "_law_promise" ["_law_three"] [] p_l_promise)
    (K_Sort_init_kw : MakKw P w K mg base 4 "Sort" (He.ga K "Sort") ["self", "name", "promise", "parts", "barred"] 2 ["parts", "barred"] (fun vs zs => vs ++ zs) p_Sort_init) :
    PSs (cxOf (L2.CX P w) P w K mg base ["_law_plain", "_law_rows", "_law_one", "_law_first", "_law_last"] "_law_sort" (defScope st_l_sort) f cd A outer s H E).nox (defBody st_l_sort) (t_l_sort K p_l_promise p_Sort_init) := by
  unfold t_l_sort
  exact (pss_cons (ps_setLc (i := 1) (own := [("_law_one", 2), ("_law_first", 3), ("_law_last", 4)]) (g := (gTup K 3 (gCons (gName 2) (gCons (gName 3) (gCons (gName 4) gNil))))) (tt := tYes) (by rfl) sc_l_sort.nd rfl rfl (sw_true rfl rfl rfl (by decide +kernel)) (pi_tup (pe_ix ix_tup (pv 0) pe_int (fun _ _ => rfl))) (blkOk_by (N := ["_law_plain", "_law_rows", "_law_one", "_law_first", "_law_last"]) (sc := defScope st_l_sort) (own := [("_law_one", 2), ("_law_first", 3), ("_law_last", 4)]) (by decide +kernel)) (fun _ _ _ _ _ => (pg_tup rfl (pgs_cons (pg_name (i := 2) sc_l_sort.nd rfl (Or.inl rfl)) (pgs_cons (pg_name (i := 3) sc_l_sort.nd rfl (Or.inl rfl)) (pgs_cons (pg_name (i := 4) sc_l_sort.nd rfl (Or.inl rfl)) pgs_nil))))) (fun _ _ _ _ _ => pts_nil) (fun _ _ _ _ _ => (pe_tup (pa_cons (pv 2) (pa_cons (pe_callD G_l_promise hr (by decide) rfl passL (pa_cons (pv 3) pa_nil)) (pa_cons (pe_callD G_l_promise hr (by decide) rfl passL (pa_cons (pv 4) pa_nil)) pa_nil))))))
    (pss_one (ps_ret (pe_makK K_Sort_init_kw hr (by decide) rfl passL (pa_cons (pe_ix ix_tup (pv 0) pe_int (fun _ _ => rfl)) (pa_cons (pe_callD G_l_promise hr (by decide) rfl passL (pa_cons (pe_ix ix_tup (pv 0) pe_int (fun _ _ => rfl)) pa_nil)) pa_nil)) (pk_cons (pe_callTy c_tupOf rfl T.n_tuple (by decide +kernel) (pa_cons (pv 1) pa_nil)) (pk_cons (pe_ix ix_tup (pv 0) pe_int (fun _ _ => rfl)) pk_nil))))))

/-! _law_class -/
abbrev st_l_class : Stmt := top 48
abbrev N_l_class : List Str := ["_law_error"]
theorem sc_l_class : FnScope ["_law_error"] ["_law_error"] (defScope st_l_class) := ⟨rfl, rfl, rfl, by decide +kernel, rfl, by decide +kernel, by decide +kernel⟩
def t_l_class (K : PySem.W.Frag) : TS :=
  (tSeq (tIfS (tB (tCB (qIsx K) (tCons (tVar 0) (tCons (tC (.ref (He.ga K "BadText"))) tNil)))) (tRet (tIf (tAnd (tB (tCB (qIsx K) (tCons (tVar 0) (tCons (tC (.ref (He.ga K "BadValue"))) tNil)))) (tTest (tOp rEq (tXFld K (tVar 0) "what") (tC (.str "text"))))) (tTup (tCons (tC (.str "text")) (tCons (tXFld K (tVar 0) "row") (tCons (tXFld K (tVar 0) "word") tNil)))) (tTup (tCons (tC (.str "else")) tNil)))) tNext)
    (tSeq (tIfS (tB (tCB (qIsx K) (tCons (tVar 0) (tCons (tC (.ref (He.ga K "BadValue"))) tNil)))) (tRet (tIf (tB (tCB (qIsx K) (tCons (tVar 0) (tCons (tC (.ty "ValueError")) tNil)))) (tTup (tCons (tC (.str "value")) (tCons (tXFld K (tVar 0) "what") tNil))) (tTup (tCons (tC (.str "else")) tNil)))) tNext)
    (tSeq (tIfS (tB (tCB (qIsx K) (tCons (tVar 0) (tCons (tC (.ref (He.ga K "NoSuch"))) tNil)))) (tRet (tIf (tB (tCB (qIsx K) (tCons (tVar 0) (tCons (tC (.ty "KeyError")) tNil)))) (tTup (tCons (tC (.str "no")) (tCons (tXFld K (tVar 0) "what") (tCons (tXFld K (tVar 0) "name") tNil)))) (tTup (tCons (tC (.str "else")) tNil)))) tNext)
    (tSeq (tIfS (tB (tCB (qIsx K) (tCons (tVar 0) (tCons (tC (.ref (He.ga K "OutOfOrder"))) tNil)))) (tRet (tIf (tB (tCB (qIsx K) (tCons (tVar 0) (tCons (tC (.ty "LookupError")) tNil)))) (tTup (tCons (tC (.str "order")) (tCons (tXFld K (tVar 0) "day") tNil))) (tTup (tCons (tC (.str "else")) tNil)))) tNext)
    (tRet (tIf (tB (tCB (qIsx K) (tCons (tVar 0) (tCons (tC (.ty "OverflowError")) tNil)))) (tTup (tCons (tC (.str "full")) (tCons (tXFld K (tVar 0) "most") tNil))) (tTup (tCons (tC (.str "else")) tNil))))))))
theorem dv_l_class {P : Program} {w : World} {K : PySem.W.Frag} {mg : Str → Option Value} {base : Heap} {f : Addr} {cd : Value} {A : Around} {outer : List Env} {s : Shared} {H : Hp} {E : XK} (T : Tx w K mg)
    (hr : Room 0 (A.deeper (envOfC "_law_class" (defScope st_l_class) s.heap.objs.size f cd))) :
    PSs (cxOf (L2.CX P w) P w K mg base ["_law_error"] "_law_class" (defScope st_l_class) f cd A outer s H E).nox (defBody st_l_class) (t_l_class K) := by
  unfold t_l_class
  exact (pss_cons (ps_if (pt_val (pe_callB c_isx rfl T.n_isinstance (by decide +kernel) (pa_cons (pv 0) (pa_cons (pe_glob rfl T.g_BadText rfl) pa_nil)))) (pss_one (ps_ret (pe_ifExp (PW.pt (pw_and (pt_val (pe_callB c_isx rfl T.n_isinstance (by decide +kernel) (pa_cons (pv 0) (pa_cons (pe_glob rfl T.g_BadValue rfl) pa_nil)))) (pw_and1 (pt_cmpR op_eq (pe_xfld (pv 0)) pe_str (nomark _))))) (pe_tup (pa_cons pe_str (pa_cons (pe_xfld (pv 0)) (pa_cons (pe_xfld (pv 0)) pa_nil)))) (pe_tup (pa_cons pe_str pa_nil))))) pss_nil)
    (pss_cons (ps_if (pt_val (pe_callB c_isx rfl T.n_isinstance (by decide +kernel) (pa_cons (pv 0) (pa_cons (pe_glob rfl T.g_BadValue rfl) pa_nil)))) (pss_one (ps_ret (pe_ifExp (pt_val (pe_callB c_isx rfl T.n_isinstance (by decide +kernel) (pa_cons (pv 0) (pa_cons (pe_bltn rfl T.n_ValueError (by decide +kernel) rfl) pa_nil)))) (pe_tup (pa_cons pe_str (pa_cons (pe_xfld (pv 0)) pa_nil))) (pe_tup (pa_cons pe_str pa_nil))))) pss_nil)
    (pss_cons (ps_if (pt_val (pe_callB c_isx rfl T.n_isinstance (by decide +kernel) (pa_cons (pv 0) (pa_cons (pe_glob rfl T.g_NoSuch rfl) pa_nil)))) (pss_one (ps_ret (pe_ifExp (pt_val (pe_callB c_isx rfl T.n_isinstance (by decide +kernel) (pa_cons (pv 0) (pa_cons (pe_bltn rfl T.n_KeyError (by decide +kernel) rfl) pa_nil)))) (pe_tup (pa_cons pe_str (pa_cons (pe_xfld (pv 0)) (pa_cons (pe_xfld (pv 0)) pa_nil)))) (pe_tup (pa_cons pe_str pa_nil))))) pss_nil)
    (pss_cons (ps_if (pt_val (pe_callB c_isx rfl T.n_isinstance (by decide +kernel) (pa_cons (pv 0) (pa_cons (pe_glob rfl T.g_OutOfOrder rfl) pa_nil)))) (pss_one (ps_ret (pe_ifExp (pt_val (pe_callB c_isx rfl T.n_isinstance (by decide +kernel) (pa_cons (pv 0) (pa_cons (pe_bltn rfl T.n_LookupError (by decide +kernel) rfl) pa_nil)))) (pe_tup (pa_cons pe_str (pa_cons (pe_xfld (pv 0)) pa_nil))) (pe_tup (pa_cons pe_str pa_nil))))) pss_nil)
    (pss_one (ps_ret (pe_ifExp (pt_val (pe_callB c_isx rfl T.n_isinstance (by decide +kernel) (pa_cons (pv 0) (pa_cons (pe_bltn rfl T.n_OverflowError (by decide +kernel) rfl) pa_nil)))) (pe_tup (pa_cons pe_str (pa_cons (pe_xfld (pv 0)) pa_nil))) (pe_tup (pa_cons pe_str pa_nil)))))))))

/-! _law_is_name -/
abbrev st_l_is_name : Stmt := top 50
abbrev N_l_is_name : List Str := ["_law_one", "_law_small", "_law_bars", "_law_sign"]
theorem sc_l_is_name : FnScope ["_law_one", "_law_small", "_law_bars", "_law_sign"] ["_law_one"] (defScope st_l_is_name) := ⟨rfl, rfl, rfl, by decide +kernel, rfl, by decide +kernel, by decide +kernel⟩
def t_l_is_name (K : PySem.W.Frag) : TS :=
  (tSeq (tAsg (tC (.str "abcdefghijklmnopqrstuvwxyz")) (gName 1))
    (tSeq (tAsg (tLst (tCons (tC (.str "sort")) (tCons (tC (.str "part")) (tCons (tC (.str "own")) (tCons (tC (.str "mended")) (tCons (tC (.str "barred")) (tCons (tC (.str "days")) (tCons (tC (.str "miles")) (tCons (tC (.str "turns")) (tCons (tC (.str "endless")) (tCons (tC (.str "whole")) (tCons (tC (.str "in")) tNil)))))))))))) (gName 2))
    (tSeq (tIfS (tOr (tNot (tB (tCB (rIsi K) (tCons (tVar 0) (tCons (tC (.ty "str")) tNil))))) (tOr (tNot (tTest (tChain qLe qLe (tC (.int 1)) (tCB qLenS (tCons (tVar 0) tNil)) (tC (.int 8))))) (tTest (tOp (rIn K false) (tVar 0) (tVar 2))))) (tRet (tC (.bl false))) tNext)
    (tRet (tOp (qEqNil K) (tLc (iStr (tVar 0)) (gName 3) (tTest (tOp qNotInC (tVar 3) (tVar 1))) (tVar 3) [3]) (tLst tNil))))))
theorem dv_l_is_name {P : Program} {w : World} {K : PySem.W.Frag} {mg : Str → Option Value} {base : Heap} {f : Addr} {cd : Value} {A : Around} {outer : List Env} {s : Shared} {H : Hp} {E : XK} (T : Tx w K mg)
    (hr : Room 0 (A.deeper (envOfC "_law_is_name" (defScope st_l_is_name) s.heap.objs.size f cd))) :
    PSs (cxOf (L2.CX P w) P w K mg base ["_law_one", "_law_small", "_law_bars", "_law_sign"] "_law_is_name" (defScope st_l_is_name) f cd A outer s H E).nox (defBody st_l_is_name) (t_l_is_name K) := by
  unfold t_l_is_name
  exact (pss_cons (ps_set (i := 1) sc_l_is_name.nd rfl (Or.inr rfl) pe_str)
    (pss_cons (ps_set (i := 2) sc_l_is_name.nd rfl (Or.inl rfl) (pe_lst (pa_cons pe_str (pa_cons pe_str (pa_cons pe_str (pa_cons pe_str (pa_cons pe_str (pa_cons pe_str (pa_cons pe_str (pa_cons pe_str (pa_cons pe_str (pa_cons pe_str (pa_cons pe_str pa_nil)))))))))))))
    (pss_cons (ps_if (PW.pt (pw_or (pt_not (pt_val (pe_callB call_isi rfl T.n_isinstance (by decide +kernel) (pa_cons (pv 0) (pa_cons (pe_bltn rfl T.n_str (by decide +kernel) rfl) pa_nil))))) (pw_or (pt_not (pt_chain op_le op_le pe_int (pe_callB c_lenS rfl T.n_len (by decide +kernel) (pa_cons (pv 0) pa_nil)) pe_int)) (pw_or1 (pt_cmpR op_in_seq (pv 0) (pv 2) (by rfl)))))) (pss_one (ps_ret pe_bl)) pss_nil)
    (pss_one (ps_ret (pe_cmpR (o_eqNil hr.units0) (pe_lc (own := [("_law_sign", 3)]) (g := (gName 3)) (tt := (tTest (tOp qNotInC (tVar 3) (tVar 1)))) (by rfl) sc_l_is_name.nd (pi_str (pv 0)) (blkOk_by (N := ["_law_one", "_law_small", "_law_bars", "_law_sign"]) (sc := defScope st_l_is_name) (own := [("_law_sign", 3)]) (by decide +kernel)) (fun _ _ _ _ _ => (pg_name (i := 3) sc_l_is_name.nd rfl (Or.inl rfl))) (fun _ _ _ _ _ => (pts_one (pt_cmpR o_notInC (pv 3) (pv 1) (by rfl)))) (fun _ _ _ _ _ => (pv 3))) (pe_lst pa_nil) (nomark _)))))))

/-! _law_text -/
abbrev st_l_text : Stmt := top 51
abbrev N_l_text : List Str := ["_law_three", "_law_words", "_law_found", "_law_k"]
theorem sc_l_text : FnScope ["_law_three", "_law_words", "_law_found", "_law_k"] ["_law_three"] (defScope st_l_text) := ⟨rfl, rfl, rfl, by decide +kernel, rfl, by decide +kernel, by decide +kernel⟩
def t_l_text (K : PySem.W.Frag) : TS :=
  (tSeq (tPar 1 2 (tCons (tLst (tCons (tC (.str "days")) (tCons (tC (.str "miles")) (tCons (tC (.str "turns")) tNil)))) (tCons (tC (.str "")) tNil)))
    (tSeq (tFor (iRng1 (tCons (tC (.int 3)) tNil)) (gName 3) (tIfS (tTest (tOp qNotN (tOp (rIxT K) (tVar 0) (tVar 3)) (tC .non))) (tAsg (tOp qAddS (tOp qAddS (tOp qAddS (tOp qAddS (tVar 2) (tOp qRepS (tC (.str " ")) (tCB qIntB (tCons (tOp rNe (tVar 2) (tC (.str ""))) tNil)))) (tCB qStrI (tCons (tOp (rIxT K) (tVar 0) (tVar 3)) tNil))) (tC (.str " "))) (tOp (rIxL K) (tVar 1) (tVar 3))) (gName 2)) tNext))
    (tRet (tIf (tTest (tOp rNe (tVar 2) (tC (.str "")))) (tVar 2) (tC (.str "endless"))))))
theorem dv_l_text {P : Program} {w : World} {K : PySem.W.Frag} {mg : Str → Option Value} {base : Heap} {f : Addr} {cd : Value} {A : Around} {outer : List Env} {s : Shared} {H : Hp} {E : XK} (T : Tx w K mg)
    (hr : Room 0 (A.deeper (envOfC "_law_text" (defScope st_l_text) s.heap.objs.size f cd))) :
    PSs (cxOf (L2.CX P w) P w K mg base ["_law_three", "_law_words", "_law_found", "_law_k"] "_law_text" (defScope st_l_text) f cd A outer s H E).nox (defBody st_l_text) (t_l_text K) := by
  unfold t_l_text
  exact (pss_cons (ps_par (i := 1) (j := 2) rfl sc_l_text.nd rfl rfl (by decide) rfl rfl (pa_cons (pe_lst (pa_cons pe_str (pa_cons pe_str (pa_cons pe_str pa_nil)))) (pa_cons pe_str pa_nil)) (by rfl))
    (pss_cons (ps_for PassesOwn.never rfl (pi_range1 rfl T.n_range (pa_cons pe_int pa_nil)) (pg_name (i := 3) sc_l_text.nd rfl (Or.inl rfl)) (pss_one (ps_if (pt_cmpR o_notN (pe_ix ix_tup (pv 0) (pv 3) (fun _ _ => rfl)) pe_non (nomark _)) (pss_one (ps_set (i := 2) sc_l_text.nd rfl (Or.inl rfl) (pe_op o_addS (pe_op o_addS (pe_op o_addS (pe_op o_addS (pv 2) (pe_op o_repS pe_str (pe_callTy c_intB rfl T.n_int (by decide +kernel) (pa_cons (pe_cmpR op_ne (pv 2) pe_str (nomark _)) pa_nil)))) (pe_callTy c_strI rfl T.n_str (by decide +kernel) (pa_cons (pe_ix ix_tup (pv 0) (pv 3) (fun _ _ => rfl)) pa_nil))) pe_str) (pe_ix ix_list (pv 1) (pv 3) (fun _ _ => rfl))))) pss_nil)))
    (pss_one (ps_ret (pe_ifExp (pt_cmpR op_ne (pv 2) pe_str (nomark _)) (pv 2) pe_str)))))

/-! _law_sort_rows -/
abbrev st_l_sort_rows : Stmt := top 52
abbrev N_l_sort_rows : List Str := ["_law_plain", "_law_found", "_law_one", "_law_first", "_law_last", "_law_row", "_law_bad"]
theorem sc_l_sort_rows : FnScope ["_law_plain", "_law_found", "_law_one", "_law_first", "_law_last", "_law_row", "_law_bad"] ["_law_plain"] (defScope st_l_sort_rows) := ⟨rfl, rfl, rfl, by decide +kernel, rfl, by decide +kernel, by decide +kernel⟩
def t_l_sort_rows (K : PySem.W.Frag) (p_l_text : Sp) : TS :=
  (tSeq (tAsg (tLst (tCons (tOp qAddS (tOp qAddS (tOp qAddS (tC (.str "sort ")) (tOp (rIxT K) (tVar 0) (tC (.int 0)))) (tC (.str " "))) (tCall p_l_text [] E0 (tCons (tOp (rIxT K) (tVar 0) (tC (.int 1))) tNil))) tNil)) (gName 1))
    (tSeq (tFor (iTup K (tOp (rIxT K) (tVar 0) (tC (.int 2)))) (gTup K 3 (gCons (gName 2) (gCons (gName 3) (gCons (gName 4) gNil)))) (tSeq (tAsg (tOp qAddS (tC (.str "part ")) (tVar 2)) (gName 5))
    (tSeq (tIfS (tTest (tOp qNotN (tVar 3) (tC .non))) (tAsg (tOp qAddS (tOp qAddS (tVar 5) (tC (.str " own "))) (tCall p_l_text [] E0 (tCons (tVar 3) tNil))) (gName 5)) tNext)
    (tSeq (tIfS (tTest (tOp qNotN (tVar 4) (tC .non))) (tAsg (tOp qAddS (tOp qAddS (tVar 5) (tC (.str " mended "))) (tCall p_l_text [] E0 (tCons (tVar 4) tNil))) (gName 5)) tNext)
    (tDrop (tBM K "list" rAppend (tVar 1) (tCons (tVar 5) tNil)))))))
    (tRet (tOp rCat (tVar 1) (tLc (iTup K (tOp (rIxT K) (tVar 0) (tC (.int 3)))) (gTup K 2 (gCons (gName 6) (gCons (gName 2) gNil))) tYes (tOp qAddS (tOp qAddS (tOp qAddS (tC (.str "barred ")) (tVar 6)) (tC (.str " "))) (tVar 2)) [6, 2])))))
theorem dv_l_sort_rows {P : Program} {w : World} {K : PySem.W.Frag} {mg : Str → Option Value} {base : Heap} {f : Addr} {cd : Value} {A : Around} {outer : List Env} {s : Shared} {H : Hp} {E : XK} {p_l_text : Sp} (T : Tx w K mg)
    (hr : Room 1 (A.deeper (envOfC "_law_sort_rows" (defScope st_l_sort_rows) s.heap.objs.size f cd)))
    (G_l_text : DefOk P w K mg base 1 "_law_text" ["_law_three"] [] p_l_text) :
    PSs (cxOf (L2.CX P w) P w K mg base ["_law_plain", "_law_found", "_law_one", "_law_first", "_law_last", "_law_row", "_law_bad"] "_law_sort_rows" (defScope st_l_sort_rows) f cd A outer s H E).nox (defBody st_l_sort_rows) (t_l_sort_rows K p_l_text) := by
  unfold t_l_sort_rows
  exact (pss_cons (ps_set (i := 1) sc_l_sort_rows.nd rfl (Or.inl rfl) (pe_lst (pa_cons (pe_op o_addS (pe_op o_addS (pe_op o_addS pe_str (pe_ix ix_tup (pv 0) pe_int (fun _ _ => rfl))) pe_str) (pe_callD G_l_text hr (by decide) rfl passL (pa_cons (pe_ix ix_tup (pv 0) pe_int (fun _ _ => rfl)) pa_nil))) pa_nil)))
    (pss_cons (ps_for PassesOwn.never rfl (pi_tup (pe_ix ix_tup (pv 0) pe_int (fun _ _ => rfl))) (pg_tup rfl (pgs_cons (pg_name (i := 2) sc_l_sort_rows.nd rfl (Or.inl rfl)) (pgs_cons (pg_name (i := 3) sc_l_sort_rows.nd rfl (Or.inl rfl)) (pgs_cons (pg_name (i := 4) sc_l_sort_rows.nd rfl (Or.inl rfl)) pgs_nil)))) (pss_cons (ps_set (i := 5) sc_l_sort_rows.nd rfl (Or.inl rfl) (pe_op o_addS pe_str (pv 2)))
    (pss_cons (ps_if (pt_cmpR o_notN (pv 3) pe_non (nomark _)) (pss_one (ps_set (i := 5) sc_l_sort_rows.nd rfl (Or.inl rfl) (pe_op o_addS (pe_op o_addS (pv 5) pe_str) (pe_callD G_l_text hr (by decide) rfl passL (pa_cons (pv 3) pa_nil))))) pss_nil)
    (pss_cons (ps_if (pt_cmpR o_notN (pv 4) pe_non (nomark _)) (pss_one (ps_set (i := 5) sc_l_sort_rows.nd rfl (Or.inl rfl) (pe_op o_addS (pe_op o_addS (pv 5) pe_str) (pe_callD G_l_text hr (by decide) rfl passL (pa_cons (pv 4) pa_nil))))) pss_nil)
    (pss_one (ps_expr (pe_bm PySem.F.plainAttrs_list PySem.F.slot_list_append PySem.F.type_list_append mt_append (pv 1) (pa_cons (pv 5) pa_nil))))))))
    (pss_one (ps_ret (pe_op op_cat (pv 1) (pe_lc (own := [("_law_bad", 6), ("_law_one", 2)]) (g := (gTup K 2 (gCons (gName 6) (gCons (gName 2) gNil)))) (tt := tYes) (by rfl) sc_l_sort_rows.nd (pi_tup (pe_ix ix_tup (pv 0) pe_int (fun _ _ => rfl))) (blkOk_by (N := ["_law_plain", "_law_found", "_law_one", "_law_first", "_law_last", "_law_row", "_law_bad"]) (sc := defScope st_l_sort_rows) (own := [("_law_bad", 6), ("_law_one", 2)]) (by decide +kernel)) (fun _ _ _ _ _ => (pg_tup rfl (pgs_cons (pg_name (i := 6) sc_l_sort_rows.nd rfl (Or.inl rfl)) (pgs_cons (pg_name (i := 2) sc_l_sort_rows.nd rfl (Or.inl rfl)) pgs_nil)))) (fun _ _ _ _ _ => pts_nil) (fun _ _ _ _ _ => (pe_op o_addS (pe_op o_addS (pe_op o_addS pe_str (pv 6)) pe_str) (pv 2)))))))))

/-! _law_number_in -/
abbrev st_l_number_in : Stmt := top 53
abbrev N_l_number_in : List Str := ["_law_words", "_law_at", "_law_high", "_law_word", "_law_sign"]
theorem sc_l_number_in : FnScope ["_law_words", "_law_at", "_law_high", "_law_word", "_law_sign"] ["_law_words", "_law_at", "_law_high"] (defScope st_l_number_in) := ⟨rfl, rfl, rfl, by decide +kernel, rfl, by decide +kernel, by decide +kernel⟩
def t_l_number_in (K : PySem.W.Frag) : TS :=
  (tSeq (tAsg (tIf (tTest (tOp qLt (tVar 1) (tCB (qLenL K) (tCons (tVar 0) tNil)))) (tOp (rIxL K) (tVar 0) (tVar 1)) (tC (.str ""))) (gName 3))
    (tSeq (tIfS (tOr (tNot (tTest (tChain qLe qLe (tC (.int 1)) (tCB qLenS (tCons (tVar 3) tNil)) (tC (.int 7))))) (tTest (tOp (qNeNil K) (tLc (iStr (tVar 3)) (gName 4) (tTest (tOp qNotInC (tVar 4) (tC (.str "0123456789")))) (tVar 4) [4]) (tLst tNil)))) (tRet (tC .non)) tNext)
    (tRet (tIf (tAnd (tOr (tTest (tOp rNe (tOp rIxS (tVar 3) (tC (.int 0))) (tC (.str "0")))) (tTest (tOp rEq (tVar 3) (tC (.str "0"))))) (tTest (tOp qLe (tCB qIntS (tCons (tVar 3) tNil)) (tVar 2)))) (tCB qIntS (tCons (tVar 3) tNil)) (tC .non)))))
theorem dv_l_number_in {P : Program} {w : World} {K : PySem.W.Frag} {mg : Str → Option Value} {base : Heap} {f : Addr} {cd : Value} {A : Around} {outer : List Env} {s : Shared} {H : Hp} {E : XK} (T : Tx w K mg)
    (hr : Room 0 (A.deeper (envOfC "_law_number_in" (defScope st_l_number_in) s.heap.objs.size f cd))) :
    PSs (cxOf (L2.CX P w) P w K mg base ["_law_words", "_law_at", "_law_high", "_law_word", "_law_sign"] "_law_number_in" (defScope st_l_number_in) f cd A outer s H E).nox (defBody st_l_number_in) (t_l_number_in K) := by
  unfold t_l_number_in
  exact (pss_cons (ps_set (i := 3) sc_l_number_in.nd rfl (Or.inl rfl) (pe_ifExp (pt_cmpR op_lt (pv 1) (pe_callB c_lenL rfl T.n_len (by decide +kernel) (pa_cons (pv 0) pa_nil)) (nomark _)) (pe_ix ix_list (pv 0) (pv 1) (fun _ _ => rfl)) pe_str))
    (pss_cons (ps_if (PW.pt (pw_or (pt_not (pt_chain op_le op_le pe_int (pe_callB c_lenS rfl T.n_len (by decide +kernel) (pa_cons (pv 3) pa_nil)) pe_int)) (pw_or1 (pt_cmpR (o_neNil hr.units0) (pe_lc (own := [("_law_sign", 4)]) (g := (gName 4)) (tt := (tTest (tOp qNotInC (tVar 4) (tC (.str "0123456789"))))) (by rfl) sc_l_number_in.nd (pi_str (pv 3)) (blkOk_by (N := ["_law_words", "_law_at", "_law_high", "_law_word", "_law_sign"]) (sc := defScope st_l_number_in) (own := [("_law_sign", 4)]) (by decide +kernel)) (fun _ _ _ _ _ => (pg_name (i := 4) sc_l_number_in.nd rfl (Or.inl rfl))) (fun _ _ _ _ _ => (pts_one (pt_cmpR o_notInC (pv 4) pe_str (by rfl)))) (fun _ _ _ _ _ => (pv 4))) (pe_lst pa_nil) (nomark _))))) (pss_one (ps_ret pe_non)) pss_nil)
    (pss_one (ps_ret (pe_ifExp (PW.pt (pw_and (PW.pt (pw_or (pt_cmpR op_ne (pe_ix ix_str (pv 3) pe_int (fun _ _ => rfl)) pe_str (nomark _)) (pw_or1 (pt_cmpR op_eq (pv 3) pe_str (nomark _))))) (pw_and1 (pt_cmpR op_le (pe_callTy c_intS rfl T.n_int (by decide +kernel) (pa_cons (pv 3) pa_nil)) (pv 2) (nomark _))))) (pe_callTy c_intS rfl T.n_int (by decide +kernel) (pa_cons (pv 3) pa_nil)) pe_non)))))

/-! _law_promise_in -/
abbrev st_l_promise_in : Stmt := top 54
abbrev N_l_promise_in : List Str := ["_law_words", "_law_at", "_law_found", "_law_least", "_law_number", "_law_word", "_law_may"]
theorem sc_l_promise_in : FnScope ["_law_words", "_law_at", "_law_found", "_law_least", "_law_number", "_law_word", "_law_may"] ["_law_words", "_law_at"] (defScope st_l_promise_in) := ⟨rfl, rfl, rfl, by decide +kernel, rfl, by decide +kernel, by decide +kernel⟩
def t_l_promise_in (K : PySem.W.Frag) (p_l_number_in : Sp) : TS :=
  (tSeq (tIfS (tTest (tOp (qEqStrs K) (tSl (rSlL K) (tVar 0) (tPart (tVar 1)) (tPart (tOp qAdd (tVar 1) (tC (.int 1))))) (tLst (tCons (tC (.str "endless")) tNil)))) (tRet (tTup (tCons (tTup (tCons (tC .non) (tCons (tC .non) (tCons (tC .non) tNil)))) (tCons (tOp qAdd (tVar 1) (tC (.int 1))) tNil)))) tNext)
    (tSeq (tPar 2 3 (tCons (tLst (tCons (tC .non) (tCons (tC .non) (tCons (tC .non) tNil)))) (tCons (tC (.int 0)) tNil)))
    (tSeq (tWhile (tOr (tTest (tOp rEq (tVar 3) (tC (.int 0)))) (tAnd (tTest (tOp qLt (tVar 3) (tC (.int 3)))) (tTest (tOp qNotN (tCall p_l_number_in [] E0 (tCons (tVar 0) (tCons (tVar 1) (tCons (tOp qPow (tC (.int 10)) (tC (.int 7))) tNil)))) (tC .non))))) (tSeq (tAsg (tCall p_l_number_in [] E0 (tCons (tVar 0) (tCons (tVar 1) (tCons (tOp qPow (tC (.int 10)) (tC (.int 6))) tNil)))) (gName 4))
    (tSeq (tIfS (tTest (tOp qIsN (tVar 4) (tC .non))) (tRet (tTup (tCons (tC .non) (tCons (tVar 1) tNil)))) tNext)
    (tSeq (tAsg (tIf (tTest (tOp qLt (tOp qAdd (tVar 1) (tC (.int 1))) (tCB (qLenL K) (tCons (tVar 0) tNil)))) (tOp (rIxL K) (tVar 0) (tOp qAdd (tVar 1) (tC (.int 1)))) (tC (.str ""))) (gName 5))
    (tSeq (tAsg (tSl (rSlL K) (tLst (tCons (tC (.str "days")) (tCons (tC (.str "miles")) (tCons (tC (.str "turns")) tNil)))) (tPart (tOp qAdd (tVar 3) (tCB qIntB (tCons (tAndV (tOp rEq (tVar 3) (tC (.int 0))) (tOp qGt (tVar 4) (tC (.int 9999)))) tNil)))) tNoPart) (gName 6))
    (tSeq (tIfS (tTest (tOp (rIn K true) (tVar 5) (tVar 6))) (tRet (tTup (tCons (tC .non) (tCons (tOp qAdd (tVar 1) (tC (.int 1))) tNil)))) tNext)
    (tSeq (tAsg (tOp qAdd (tBM K "list" (rIndex K) (tLst (tCons (tC (.str "days")) (tCons (tC (.str "miles")) (tCons (tC (.str "turns")) tNil)))) (tCons (tVar 5) tNil)) (tC (.int 1))) (gName 3))
    (tSeq (tAsg (tVar 4) (gSub (tVar 2) (tOp qSub (tVar 3) (tC (.int 1))) rSetL))
    (tAsg (tOp qAdd (tVar 1) (tC (.int 2))) (gName 1))))))))))
    (tRet (tTup (tCons (tCB (qTupOf K) (tCons (tVar 2) tNil)) (tCons (tVar 1) tNil)))))))
theorem dv_l_promise_in {P : Program} {w : World} {K : PySem.W.Frag} {mg : Str → Option Value} {base : Heap} {f : Addr} {cd : Value} {A : Around} {outer : List Env} {s : Shared} {H : Hp} {E : XK} {p_l_number_in : Sp} (T : Tx w K mg)
    (hr : Room 1 (A.deeper (envOfC "_law_promise_in" (defScope st_l_promise_in) s.heap.objs.size f cd)))
    (G_l_number_in : DefOk P w K mg base 1 "_law_number_in" ["_law_words", "_law_at", "_law_high"] [] p_l_number_in) :
    PSs (cxOf (L2.CX P w) P w K mg base ["_law_words", "_law_at", "_law_found", "_law_least", "_law_number", "_law_word", "_law_may"] "_law_promise_in" (defScope st_l_promise_in) f cd A outer s H E).nox (defBody st_l_promise_in) (t_l_promise_in K p_l_number_in) := by
  unfold t_l_promise_in
  exact (pss_cons (ps_if (pt_cmpR (o_eqStrs hr.units0) (pe_slice sl_list (pv 0) (po_some (pv 1)) (po_some (pe_op op_add (pv 1) pe_int))) (pe_lst (pa_cons pe_str pa_nil)) (nomark _)) (pss_one (ps_ret (pe_tup (pa_cons (pe_tup (pa_cons pe_non (pa_cons pe_non (pa_cons pe_non pa_nil)))) (pa_cons (pe_op op_add (pv 1) pe_int) pa_nil))))) pss_nil)
    (pss_cons (ps_par (i := 2) (j := 3) rfl sc_l_promise_in.nd rfl rfl (by decide) rfl rfl (pa_cons (pe_lst (pa_cons pe_non (pa_cons pe_non (pa_cons pe_non pa_nil)))) (pa_cons pe_int pa_nil)) (by rfl))
    (pss_cons (ps_while PassesOwn.never (PW.pt (pw_or (pt_cmpR op_eq (pv 3) pe_int (nomark _)) (pw_or1 (PW.pt (pw_and (pt_cmpR op_lt (pv 3) pe_int (nomark _)) (pw_and1 (pt_cmpR o_notN (pe_callD G_l_number_in hr (by decide) rfl passL (pa_cons (pv 0) (pa_cons (pv 1) (pa_cons (pe_op op_pow pe_int pe_int) pa_nil)))) pe_non (nomark _)))))))) (pss_cons (ps_set (i := 4) sc_l_promise_in.nd rfl (Or.inl rfl) (pe_callD G_l_number_in hr (by decide) rfl passL (pa_cons (pv 0) (pa_cons (pv 1) (pa_cons (pe_op op_pow pe_int pe_int) pa_nil)))))
    (pss_cons (ps_if (pt_cmpR o_isN (pv 4) pe_non (nomark _)) (pss_one (ps_ret (pe_tup (pa_cons pe_non (pa_cons (pv 1) pa_nil))))) pss_nil)
    (pss_cons (ps_set (i := 5) sc_l_promise_in.nd rfl (Or.inl rfl) (pe_ifExp (pt_cmpR op_lt (pe_op op_add (pv 1) pe_int) (pe_callB c_lenL rfl T.n_len (by decide +kernel) (pa_cons (pv 0) pa_nil)) (nomark _)) (pe_ix ix_list (pv 0) (pe_op op_add (pv 1) pe_int) (fun _ _ => rfl)) pe_str))
    (pss_cons (ps_set (i := 6) sc_l_promise_in.nd rfl (Or.inl rfl) (pe_slice sl_list (pe_lst (pa_cons pe_str (pa_cons pe_str (pa_cons pe_str pa_nil)))) (po_some (pe_op op_add (pv 3) (pe_callTy c_intB rfl T.n_int (by decide +kernel) (pa_cons (pe_and (pe_cmpR op_eq (pv 3) pe_int (nomark _)) (pe_one (pe_cmpR op_gt (pv 4) pe_int (nomark _)))) pa_nil)))) po_none))
    (pss_cons (ps_if (pt_cmpR op_notIn_seq (pv 5) (pv 6) (by rfl)) (pss_one (ps_ret (pe_tup (pa_cons pe_non (pa_cons (pe_op op_add (pv 1) pe_int) pa_nil))))) pss_nil)
    (pss_cons (ps_set (i := 3) sc_l_promise_in.nd rfl (Or.inl rfl) (pe_op op_add (pe_bm PySem.F.plainAttrs_list PySem.F.slot_list_index PySem.F.type_list_index mt_index (pe_lst (pa_cons pe_str (pa_cons pe_str (pa_cons pe_str pa_nil)))) (pa_cons (pv 5) pa_nil)) pe_int))
    (pss_cons (ps_asg (pv 4) (pg_sub (pv 2) (pe_op op_sub (pv 3) pe_int) set_list))
    (pss_one (ps_set (i := 1) sc_l_promise_in.nd rfl (Or.inl rfl) (pe_op op_add (pv 1) pe_int)))))))))))
    (pss_one (ps_ret (pe_tup (pa_cons (pe_callTy c_tupOf rfl T.n_tuple (by decide +kernel) (pa_cons (pv 2) pa_nil)) (pa_cons (pv 1) pa_nil))))))))

/-! _law_bent_words -/
abbrev st_l_bent_words : Stmt := top 55
abbrev N_l_bent_words : List Str := ["_law_m", "_law_words", "_law_some", "_law_at", "_law_other", "_law_way"]
theorem sc_l_bent_words : FnScope ["_law_m", "_law_words", "_law_some", "_law_at", "_law_other", "_law_way"] ["_law_m", "_law_words", "_law_some"] (defScope st_l_bent_words) := ⟨rfl, rfl, rfl, by decide +kernel, rfl, by decide +kernel, by decide +kernel⟩
def t_l_bent_words (K : PySem.W.Frag) (p_l_draw : Sp) : TS :=
  (tSeq (tPar3 3 4 5 (tCons (tCall p_l_draw [] E0 (tCons (tVar 0) (tCons (tCB (qLenL K) (tCons (tVar 1) tNil)) tNil))) (tCons (tCall p_l_draw [] E0 (tCons (tVar 0) (tCons (tCB (qLenL K) (tCons (tVar 1) tNil)) tNil))) (tCons (tCall p_l_draw [] E0 (tCons (tVar 0) (tCons (tC (.int 6)) tNil))) tNil))))
    (tSeq (tIfS (tTest (tOp rEq (tVar 5) (tC (.int 0)))) (tRet (tIf (tTest (tOp qGt (tCB (qLenL K) (tCons (tVar 1) tNil)) (tC (.int 1)))) (tOp rCat (tSl (rSlL K) (tVar 1) tNoPart (tPart (tVar 3))) (tSl (rSlL K) (tVar 1) (tPart (tOp qAdd (tVar 3) (tC (.int 1)))) tNoPart)) (tLst (tCons (tC (.str "end")) tNil)))) tNext)
    (tSeq (tIfS (tTest (tOp rEq (tVar 5) (tC (.int 1)))) (tRet (tOp rCat (tOp rCat (tSl (rSlL K) (tVar 1) tNoPart (tPart (tVar 3))) (tLst (tCons (tOp (rIxL K) (tVar 1) (tVar 4)) tNil))) (tSl (rSlL K) (tVar 1) (tPart (tVar 3)) tNoPart))) tNext)
    (tSeq (tIfS (tTest (tOp rEq (tVar 5) (tC (.int 2)))) (tRet (tOp rCat (tOp rCat (tSl (rSlL K) (tVar 1) tNoPart (tPart (tVar 3))) (tRevL K (tSl (rSlL K) (tVar 1) (tPart (tVar 3)) (tPart (tOp qAdd (tVar 3) (tC (.int 2))))))) (tSl (rSlL K) (tVar 1) (tPart (tOp qAdd (tVar 3) (tC (.int 2)))) tNoPart))) tNext)
    (tRet (tOp rCat (tOp rCat (tSl (rSlL K) (tVar 1) tNoPart (tPart (tVar 3))) (tLst (tCons (tOp (rIxL K) (tVar 2) (tCall p_l_draw [] E0 (tCons (tVar 0) (tCons (tCB (qLenL K) (tCons (tVar 2) tNil)) tNil)))) tNil))) (tSl (rSlL K) (tVar 1) (tPart (tOp qAdd (tVar 3) (tCB qIntB (tCons (tOp qLt (tVar 5) (tC (.int 5))) tNil)))) tNoPart)))))))
theorem dv_l_bent_words {P : Program} {w : World} {K : PySem.W.Frag} {mg : Str → Option Value} {base : Heap} {f : Addr} {cd : Value} {A : Around} {outer : List Env} {s : Shared} {H : Hp} {E : XK} {p_l_draw : Sp} (T : Tx w K mg)
    (hr : Room 2 (A.deeper (envOfC "_law_bent_words" (defScope st_l_bent_words) s.heap.objs.size f cd)))
    (G_l_draw : DefOk P w K mg base 2 "_law_draw" ["_law_m", "_law_many"] [] p_l_draw) :
    PSs (cxOf (L2.CX P w) P w K mg base ["_law_m", "_law_words", "_law_some", "_law_at", "_law_other", "_law_way"] "_law_bent_words" (defScope st_l_bent_words) f cd A outer s H E).nox (defBody st_l_bent_words) (t_l_bent_words K p_l_draw) := by
  unfold t_l_bent_words
  exact (pss_cons (ps_par3 (i := 3) (j := 4) (l := 5) rfl sc_l_bent_words.nd rfl rfl rfl (by decide) (by decide) (by decide) rfl rfl rfl (pa_cons (pe_callD G_l_draw hr (by decide) rfl passL (pa_cons (pv 0) (pa_cons (pe_callB c_lenL rfl T.n_len (by decide +kernel) (pa_cons (pv 1) pa_nil)) pa_nil))) (pa_cons (pe_callD G_l_draw hr (by decide) rfl passL (pa_cons (pv 0) (pa_cons (pe_callB c_lenL rfl T.n_len (by decide +kernel) (pa_cons (pv 1) pa_nil)) pa_nil))) (pa_cons (pe_callD G_l_draw hr (by decide) rfl passL (pa_cons (pv 0) (pa_cons pe_int pa_nil))) pa_nil))) (by rfl))
    (pss_cons (ps_if (pt_cmpR op_eq (pv 5) pe_int (nomark _)) (pss_one (ps_ret (pe_ifExp (pt_cmpR op_gt (pe_callB c_lenL rfl T.n_len (by decide +kernel) (pa_cons (pv 1) pa_nil)) pe_int (nomark _)) (pe_op op_cat (pe_slice sl_list (pv 1) po_none (po_some (pv 3))) (pe_slice sl_list (pv 1) (po_some (pe_op op_add (pv 3) pe_int)) po_none)) (pe_lst (pa_cons pe_str pa_nil))))) pss_nil)
    (pss_cons (ps_if (pt_cmpR op_eq (pv 5) pe_int (nomark _)) (pss_one (ps_ret (pe_op op_cat (pe_op op_cat (pe_slice sl_list (pv 1) po_none (po_some (pv 3))) (pe_lst (pa_cons (pe_ix ix_list (pv 1) (pv 4) (fun _ _ => rfl)) pa_nil))) (pe_slice sl_list (pv 1) (po_some (pv 3)) po_none)))) pss_nil)
    (pss_cons (ps_if (pt_cmpR op_eq (pv 5) pe_int (nomark _)) (pss_one (ps_ret (pe_op op_cat (pe_op op_cat (pe_slice sl_list (pv 1) po_none (po_some (pv 3))) (pe_revL (pe_slice sl_list (pv 1) (po_some (pv 3)) (po_some (pe_op op_add (pv 3) pe_int))))) (pe_slice sl_list (pv 1) (po_some (pe_op op_add (pv 3) pe_int)) po_none)))) pss_nil)
    (pss_one (ps_ret (pe_op op_cat (pe_op op_cat (pe_slice sl_list (pv 1) po_none (po_some (pv 3))) (pe_lst (pa_cons (pe_ix ix_list (pv 2) (pe_callD G_l_draw hr (by decide) rfl passL (pa_cons (pv 0) (pa_cons (pe_callB c_lenL rfl T.n_len (by decide +kernel) (pa_cons (pv 2) pa_nil)) pa_nil))) (fun _ _ => rfl)) pa_nil))) (pe_slice sl_list (pv 1) (po_some (pe_op op_add (pv 3) (pe_callTy c_intB rfl T.n_int (by decide +kernel) (pa_cons (pe_cmpR op_lt (pv 5) pe_int (nomark _)) pa_nil)))) po_none))))))))

/-! _law_far -/
abbrev st_l_far : Stmt := top 56
abbrev N_l_far : List Str := ["_law_deep", "_law_twice", "_law_turn"]
theorem sc_l_far : FnScope ["_law_deep", "_law_twice", "_law_turn"] [] (defScope st_l_far) := ⟨rfl, rfl, rfl, by decide +kernel, rfl, by decide +kernel, by decide +kernel⟩
def t_l_far (K : PySem.W.Frag) : TS :=
  (tSeq (tAsg (tTup (tCons (tC (.int 1)) (tCons (tTup (tCons (tC (.int 1)) (tCons (tC (.int 1)) tNil))) tNil))) (gTup K 2 (gCons (gName 0) (gCons (gName 1) gNil))))
    (tSeq (tFor (iRng1 (tCons (tC (.int 3000)) tNil)) (gName 2) (tAsg (tTup (tCons (tVar 0) tNil)) (gName 0)))
    (tSeq (tFor (iRng1 (tCons (tC (.int 60)) tNil)) (gName 2) (tAsg (tTup (tCons (tVar 1) (tCons (tVar 1) tNil))) (gName 1)))
    (tRet (tLst (tCons (tVar 0) (tCons (tVar 1) (tCons (tOp (qRepT K) (tTup (tCons (tC (.int 1)) tNil)) (tC (.int 5000))) (tCons (tOp qRepS (tC (.str "a")) (tC (.int 5000))) (tCons (tLst (tCons (tC (.str "a")) tNil)) (tCons tDNewK (tCons (tC .non) (tCons (tC (.bl true)) (tCons (tC (.int 5)) (tCons (tOp qPow (tC (.int 10)) (tC (.int 30))) tNil)))))))))))))))
theorem dv_l_far {P : Program} {w : World} {K : PySem.W.Frag} {mg : Str → Option Value} {base : Heap} {f : Addr} {cd : Value} {A : Around} {outer : List Env} {s : Shared} {H : Hp} {E : XK} (T : Tx w K mg)
    (hr : Room 0 (A.deeper (envOfC "_law_far" (defScope st_l_far) s.heap.objs.size f cd))) :
    PSs (cxOf (L2.CX P w) P w K mg base ["_law_deep", "_law_twice", "_law_turn"] "_law_far" (defScope st_l_far) f cd A outer s H E).nox (defBody st_l_far) (t_l_far K) := by
  unfold t_l_far
  exact (pss_cons (ps_asg (pe_tup (pa_cons pe_int (pa_cons (pe_tup (pa_cons pe_int (pa_cons pe_int pa_nil))) pa_nil))) (pg_tup rfl (pgs_cons (pg_name (i := 0) sc_l_far.nd rfl (Or.inl rfl)) (pgs_cons (pg_name (i := 1) sc_l_far.nd rfl (Or.inl rfl)) pgs_nil))))
    (pss_cons (ps_for PassesOwn.never rfl (pi_range1 rfl T.n_range (pa_cons pe_int pa_nil)) (pg_name (i := 2) sc_l_far.nd rfl (Or.inl rfl)) (pss_one (ps_set (i := 0) sc_l_far.nd rfl (Or.inl rfl) (pe_tup (pa_cons (pv 0) pa_nil)))))
    (pss_cons (ps_for PassesOwn.never rfl (pi_range1 rfl T.n_range (pa_cons pe_int pa_nil)) (pg_name (i := 2) sc_l_far.nd rfl (Or.inl rfl)) (pss_one (ps_set (i := 1) sc_l_far.nd rfl (Or.inl rfl) (pe_tup (pa_cons (pv 1) (pa_cons (pv 1) pa_nil))))))
    (pss_one (ps_ret (pe_lst (pa_cons (pv 0) (pa_cons (pv 1) (pa_cons (pe_op o_repT (pe_tup (pa_cons pe_int pa_nil)) pe_int) (pa_cons (pe_op o_repS pe_str pe_int) (pa_cons (pe_lst (pa_cons pe_str pa_nil)) (pa_cons pe_dnewK (pa_cons pe_non (pa_cons pe_bl (pa_cons pe_int (pa_cons (pe_op op_pow pe_int pe_int) pa_nil))))))))))))))))

/-! _law_row_in -/
abbrev st_l_row_in : Stmt := top 57
abbrev N_l_row_in : List Str := ["_law_found", "_law_words", "_law_name", "_law_three", "_law_at", "_law_ahead", "_law_other", "_law_row"]
theorem sc_l_row_in : FnScope ["_law_found", "_law_words", "_law_name", "_law_three", "_law_at", "_law_ahead", "_law_other", "_law_row"] ["_law_found", "_law_words"] (defScope st_l_row_in) := ⟨rfl, rfl, rfl, by decide +kernel, rfl, by decide +kernel, by decide +kernel⟩
def t_l_row_in (K : PySem.W.Frag) (p_l_is_name : Sp) (p_l_promise_in : Sp) (p_l_part_in : Sp) : TS :=
  (tSeq (tAsg (tIf (tTest (tOp qGt (tCB (qLenL K) (tCons (tVar 1) tNil)) (tC (.int 1)))) (tOp (rIxL K) (tVar 1) (tC (.int 1))) (tC (.str ""))) (gName 2))
    (tSeq (tIfS (tTest (tOp qIsN (tDGet (tVar 0) (tC (.str "head"))) (tC .non))) (tSeq (tIfS (tOr (tTest (tOp rNe (tOp (rIxL K) (tVar 1) (tC (.int 0))) (tC (.str "sort")))) (tNot (tB (tCall p_l_is_name [] E0 (tCons (tVar 2) tNil))))) (tRet (tIf (tTest (tOp rNe (tOp (rIxL K) (tVar 1) (tC (.int 0))) (tC (.str "sort")))) (tC (.int 0)) (tC (.int 1)))) tNext)
    (tSeq (tAsg (tCall p_l_promise_in [] E0 (tCons (tVar 1) (tCons (tC (.int 2)) tNil))) (gTup K 2 (gCons (gName 3) (gCons (gName 4) gNil))))
    (tSeq (sDPut (tVar 0) (tC (.str "head")) (tTup (tCons (tVar 2) (tCons (tVar 3) tNil))))
    (tRet (tIf (tOr (tTest (tOp qIsN (tVar 3) (tC .non))) (tTest (tOp qLt (tVar 4) (tCB (qLenL K) (tCons (tVar 1) tNil))))) (tVar 4) (tC .non)))))) tNext)
    (tSeq (tIfS (tAnd (tTest (tOp rEq (tOp (rIxL K) (tVar 1) (tC (.int 0))) (tC (.str "part")))) (tAnd (tTest (tOp (qEqNil K) (tDGet (tVar 0) (tC (.str "pairs"))) (tLst tNil))) (tTest (tOp qLt (tCB (qLenL K) (tCons (tDGet (tVar 0) (tC (.str "rows"))) tNil)) (tC (.int 12)))))) (tSeq (tIfS (tOr (tNot (tB (tCall p_l_is_name [] E0 (tCons (tVar 2) tNil)))) (tAnd (tTest (tOp (qNeNil K) (tDGet (tVar 0) (tC (.str "rows"))) (tLst tNil))) (tNot (tTest (tOp qLtS (tOp (rIxT K) (tOp (rIxL K) (tDGet (tVar 0) (tC (.str "rows"))) (tUn (rU fun i => .int (-i)) (tC (.int 1)))) (tC (.int 0))) (tVar 2)))))) (tRet (tC (.int 1))) tNext)
    (tRet (tCall p_l_part_in [] E0 (tCons (tVar 0) (tCons (tVar 1) (tCons (tVar 2) tNil)))))) tNext)
    (tSeq (tIfS (tOr (tTest (tOp rNe (tOp (rIxL K) (tVar 1) (tC (.int 0))) (tC (.str "barred")))) (tTest (tOp rEq (tCB (qLenL K) (tCons (tDGet (tVar 0) (tC (.str "pairs"))) tNil)) (tC (.int 30))))) (tRet (tC (.int 0))) tNext)
    (tSeq (tAsg (tIf (tTest (tOp (qNeNil K) (tDGet (tVar 0) (tC (.str "pairs"))) (tLst tNil))) (tOp (rIxL K) (tDGet (tVar 0) (tC (.str "pairs"))) (tUn (rU fun i => .int (-i)) (tC (.int 1)))) (tTup (tCons (tC (.str "")) (tCons (tC (.str "")) tNil)))) (gName 5))
    (tSeq (tAsg (tIf (tTest (tOp qGt (tCB (qLenL K) (tCons (tVar 1) tNil)) (tC (.int 2)))) (tOp (rIxL K) (tVar 1) (tC (.int 2))) (tC (.str ""))) (gName 6))
    (tSeq (tIfS (tOr (tNot (tB (tCall p_l_is_name [] E0 (tCons (tVar 2) tNil)))) (tTest (tOp qLtS (tVar 2) (tOp (rIxT K) (tVar 5) (tC (.int 0)))))) (tRet (tC (.int 1))) tNext)
    (tSeq (tIfS (tOr (tTest (tOp (rIn K true) (tVar 6) (tLc (iList K (tDGet (tVar 0) (tC (.str "rows")))) (gName 7) tYes (tOp (rIxT K) (tVar 7) (tC (.int 0))) [7]))) (tTest (tOp (qLeP K) (tTup (tCons (tVar 2) (tCons (tVar 6) tNil))) (tVar 5)))) (tRet (tC (.int 2))) tNext)
    (tSeq (tDrop (tBM K "list" rAppend (tDGet (tVar 0) (tC (.str "pairs"))) (tCons (tTup (tCons (tVar 2) (tCons (tVar 6) tNil))) tNil)))
    (tRet (tIf (tTest (tOp rEq (tCB (qLenL K) (tCons (tVar 1) tNil)) (tC (.int 3)))) (tC .non) (tC (.int 3)))))))))))))
theorem dv_l_row_in {P : Program} {w : World} {K : PySem.W.Frag} {mg : Str → Option Value} {base : Heap} {f : Addr} {cd : Value} {A : Around} {outer : List Env} {s : Shared} {H : Hp} {E : XK} {p_l_is_name p_l_promise_in p_l_part_in : Sp} (T : Tx w K mg)
    (hr : Room 3 (A.deeper (envOfC "_law_row_in" (defScope st_l_row_in) s.heap.objs.size f cd)))
    (G_l_is_name : DefOk P w K mg base 1 "_law_is_name" ["_law_one"] [] p_l_is_name)
    (G_l_promise_in : DefOk P w K mg base 2 "_law_promise_in" ["_law_words", "_law_at"] [] p_l_promise_in)
    (G_l_part_in : DefOk P w K mg base 3 "_law_part_in" ["_law_found", "_law_words", "_law_name"] [] p_l_part_in) :
    PSs (cxOf (L2.CX P w) P w K mg base ["_law_found", "_law_words", "_law_name", "_law_three", "_law_at", "_law_ahead", "_law_other", "_law_row"] "_law_row_in" (defScope st_l_row_in) f cd A outer s H E).nox (defBody st_l_row_in) (t_l_row_in K p_l_is_name p_l_promise_in p_l_part_in) := by
  unfold t_l_row_in
  exact (pss_cons (ps_set (i := 2) sc_l_row_in.nd rfl (Or.inl rfl) (pe_ifExp (pt_cmpR op_gt (pe_callB c_lenL rfl T.n_len (by decide +kernel) (pa_cons (pv 1) pa_nil)) pe_int (nomark _)) (pe_ix ix_list (pv 1) pe_int (fun _ _ => rfl)) pe_str))
    (pss_cons (ps_if (pt_cmpR o_isN (pe_dget (hu_of hr) (pv 0) pe_str (fun _ _ => rfl)) pe_non (nomark _)) (pss_cons (ps_if (PW.pt (pw_or (pt_cmpR op_ne (pe_ix ix_list (pv 1) pe_int (fun _ _ => rfl)) pe_str (nomark _)) (pw_or1 (pt_not (pt_val (pe_callD G_l_is_name hr (by decide) rfl passL (pa_cons (pv 2) pa_nil))))))) (pss_one (ps_ret (pe_ifExp (pt_cmpR op_ne (pe_ix ix_list (pv 1) pe_int (fun _ _ => rfl)) pe_str (nomark _)) pe_int pe_int))) pss_nil)
    (pss_cons (ps_asg (pe_callD G_l_promise_in hr (by decide) rfl passL (pa_cons (pv 1) (pa_cons pe_int pa_nil))) (pg_tup rfl (pgs_cons (pg_name (i := 3) sc_l_row_in.nd rfl (Or.inl rfl)) (pgs_cons (pg_name (i := 4) sc_l_row_in.nd rfl (Or.inl rfl)) pgs_nil))))
    (pss_cons (ps_dput (hu_of hr) (pv 0) pe_str (pe_tup (pa_cons (pv 2) (pa_cons (pv 3) pa_nil))) rfl)
    (pss_one (ps_ret (pe_ifExp (PW.pt (pw_or (pt_cmpR o_isN (pv 3) pe_non (nomark _)) (pw_or1 (pt_cmpR op_lt (pv 4) (pe_callB c_lenL rfl T.n_len (by decide +kernel) (pa_cons (pv 1) pa_nil)) (nomark _))))) (pv 4) pe_non)))))) pss_nil)
    (pss_cons (ps_if (PW.pt (pw_and (pt_cmpR op_eq (pe_ix ix_list (pv 1) pe_int (fun _ _ => rfl)) pe_str (nomark _)) (pw_and (pt_cmpR (o_eqNil hr.units0) (pe_dget (hu_of hr) (pv 0) pe_str (fun _ _ => rfl)) (pe_lst pa_nil) (nomark _)) (pw_and1 (pt_cmpR op_lt (pe_callB c_lenL rfl T.n_len (by decide +kernel) (pa_cons (pe_dget (hu_of hr) (pv 0) pe_str (fun _ _ => rfl)) pa_nil)) pe_int (nomark _)))))) (pss_cons (ps_if (PW.pt (pw_or (pt_not (pt_val (pe_callD G_l_is_name hr (by decide) rfl passL (pa_cons (pv 2) pa_nil)))) (pw_or1 (PW.pt (pw_and (pt_cmpR (o_neNil hr.units0) (pe_dget (hu_of hr) (pv 0) pe_str (fun _ _ => rfl)) (pe_lst pa_nil) (nomark _)) (pw_and1 (pt_not (pt_cmpR o_ltS (pe_ix ix_tup (pe_ix ix_list (pe_dget (hu_of hr) (pv 0) pe_str (fun _ _ => rfl)) (pe_un un_neg pe_int) (fun _ _ => rfl)) pe_int (fun _ _ => rfl)) (pv 2) (nomark _))))))))) (pss_one (ps_ret pe_int)) pss_nil)
    (pss_one (ps_ret (pe_callD G_l_part_in hr (by decide) rfl passL (pa_cons (pv 0) (pa_cons (pv 1) (pa_cons (pv 2) pa_nil))))))) pss_nil)
    (pss_cons (ps_if (PW.pt (pw_or (pt_cmpR op_ne (pe_ix ix_list (pv 1) pe_int (fun _ _ => rfl)) pe_str (nomark _)) (pw_or1 (pt_cmpR op_eq (pe_callB c_lenL rfl T.n_len (by decide +kernel) (pa_cons (pe_dget (hu_of hr) (pv 0) pe_str (fun _ _ => rfl)) pa_nil)) pe_int (nomark _))))) (pss_one (ps_ret pe_int)) pss_nil)
    (pss_cons (ps_set (i := 5) sc_l_row_in.nd rfl (Or.inl rfl) (pe_ifExp (pt_cmpR (o_neNil hr.units0) (pe_dget (hu_of hr) (pv 0) pe_str (fun _ _ => rfl)) (pe_lst pa_nil) (nomark _)) (pe_ix ix_list (pe_dget (hu_of hr) (pv 0) pe_str (fun _ _ => rfl)) (pe_un un_neg pe_int) (fun _ _ => rfl)) (pe_tup (pa_cons pe_str (pa_cons pe_str pa_nil)))))
    (pss_cons (ps_set (i := 6) sc_l_row_in.nd rfl (Or.inl rfl) (pe_ifExp (pt_cmpR op_gt (pe_callB c_lenL rfl T.n_len (by decide +kernel) (pa_cons (pv 1) pa_nil)) pe_int (nomark _)) (pe_ix ix_list (pv 1) pe_int (fun _ _ => rfl)) pe_str))
    (pss_cons (ps_if (PW.pt (pw_or (pt_not (pt_val (pe_callD G_l_is_name hr (by decide) rfl passL (pa_cons (pv 2) pa_nil)))) (pw_or1 (pt_cmpR o_ltS (pv 2) (pe_ix ix_tup (pv 5) pe_int (fun _ _ => rfl)) (nomark _))))) (pss_one (ps_ret pe_int)) pss_nil)
    (pss_cons (ps_if (PW.pt (pw_or (pt_cmpR op_notIn_seq (pv 6) (pe_lc (own := [("_law_row", 7)]) (g := (gName 7)) (tt := tYes) (by rfl) sc_l_row_in.nd (pi_list (pe_dget (hu_of hr) (pv 0) pe_str (fun _ _ => rfl))) (blkOk_by (N := ["_law_found", "_law_words", "_law_name", "_law_three", "_law_at", "_law_ahead", "_law_other", "_law_row"]) (sc := defScope st_l_row_in) (own := [("_law_row", 7)]) (by decide +kernel)) (fun _ _ _ _ _ => (pg_name (i := 7) sc_l_row_in.nd rfl (Or.inl rfl))) (fun _ _ _ _ _ => pts_nil) (fun _ _ _ _ _ => (pe_ix ix_tup (pv 7) pe_int (fun _ _ => rfl)))) (by rfl)) (pw_or1 (pt_cmpR (o_leP hr.units0) (pe_tup (pa_cons (pv 2) (pa_cons (pv 6) pa_nil))) (pv 5) (nomark _))))) (pss_one (ps_ret pe_int)) pss_nil)
    (pss_cons (ps_expr (pe_bm PySem.F.plainAttrs_list PySem.F.slot_list_append PySem.F.type_list_append mt_append (pe_dget (hu_of hr) (pv 0) pe_str (fun _ _ => rfl)) (pa_cons (pe_tup (pa_cons (pv 2) (pa_cons (pv 6) pa_nil))) pa_nil)))
    (pss_one (ps_ret (pe_ifExp (pt_cmpR op_eq (pe_callB c_lenL rfl T.n_len (by decide +kernel) (pa_cons (pv 1) pa_nil)) pe_int (nomark _)) pe_non pe_int))))))))))))

/-! _law_part_in -/
abbrev st_l_part_in : Stmt := top 58
abbrev N_l_part_in : List Str := ["_law_found", "_law_words", "_law_name", "_law_two", "_law_at", "_law_k"]
theorem sc_l_part_in : FnScope ["_law_found", "_law_words", "_law_name", "_law_two", "_law_at", "_law_k"] ["_law_found", "_law_words", "_law_name"] (defScope st_l_part_in) := ⟨rfl, rfl, rfl, by decide +kernel, rfl, by decide +kernel, by decide +kernel⟩
def t_l_part_in (K : PySem.W.Frag) (p_l_promise_in : Sp) : TS :=
  (tSeq (tPar 3 4 (tCons (tLst (tCons (tC .non) (tCons (tC .non) tNil))) (tCons (tC (.int 2)) tNil)))
    (tSeq (tFor (iRng1 (tCons (tC (.int 2)) tNil)) (gName 5) (tIfS (tTest (tOp (qEqStrs K) (tSl (rSlL K) (tVar 1) (tPart (tVar 4)) (tPart (tOp qAdd (tVar 4) (tC (.int 1))))) (tLst (tCons (tOp (rIxL K) (tLst (tCons (tC (.str "own")) (tCons (tC (.str "mended")) tNil))) (tVar 5)) tNil)))) (tSeq (tAsg (tCall p_l_promise_in [] E0 (tCons (tVar 1) (tCons (tOp qAdd (tVar 4) (tC (.int 1))) tNil))) (gTup K 2 (gCons (gSub (tVar 3) (tVar 5) rSetL) (gCons (gName 4) gNil))))
    (tIfS (tTest (tOp qIsN (tOp (rIxL K) (tVar 3) (tVar 5)) (tC .non))) (tRet (tVar 4)) tNext)) tNext))
    (tSeq (tDrop (tBM K "list" rAppend (tDGet (tVar 0) (tC (.str "rows"))) (tCons (tTup (tCons (tVar 2) (tCons (tOp (rIxL K) (tVar 3) (tC (.int 0))) (tCons (tOp (rIxL K) (tVar 3) (tC (.int 1))) tNil)))) tNil)))
    (tRet (tIf (tTest (tOp rEq (tVar 4) (tCB (qLenL K) (tCons (tVar 1) tNil)))) (tC .non) (tVar 4))))))
theorem dv_l_part_in {P : Program} {w : World} {K : PySem.W.Frag} {mg : Str → Option Value} {base : Heap} {f : Addr} {cd : Value} {A : Around} {outer : List Env} {s : Shared} {H : Hp} {E : XK} {p_l_promise_in : Sp} (T : Tx w K mg)
    (hr : Room 2 (A.deeper (envOfC "_law_part_in" (defScope st_l_part_in) s.heap.objs.size f cd)))
    (G_l_promise_in : DefOk P w K mg base 2 "_law_promise_in" ["_law_words", "_law_at"] [] p_l_promise_in) :
    PSs (cxOf (L2.CX P w) P w K mg base ["_law_found", "_law_words", "_law_name", "_law_two", "_law_at", "_law_k"] "_law_part_in" (defScope st_l_part_in) f cd A outer s H E).nox (defBody st_l_part_in) (t_l_part_in K p_l_promise_in) := by
  unfold t_l_part_in
  exact (pss_cons (ps_par (i := 3) (j := 4) rfl sc_l_part_in.nd rfl rfl (by decide) rfl rfl (pa_cons (pe_lst (pa_cons pe_non (pa_cons pe_non pa_nil))) (pa_cons pe_int pa_nil)) (by rfl))
    (pss_cons (ps_for PassesOwn.never rfl (pi_range1 rfl T.n_range (pa_cons pe_int pa_nil)) (pg_name (i := 5) sc_l_part_in.nd rfl (Or.inl rfl)) (pss_one (ps_if (pt_cmpR (o_eqStrs hr.units0) (pe_slice sl_list (pv 1) (po_some (pv 4)) (po_some (pe_op op_add (pv 4) pe_int))) (pe_lst (pa_cons (pe_ix ix_list (pe_lst (pa_cons pe_str (pa_cons pe_str pa_nil))) (pv 5) (fun _ _ => rfl)) pa_nil)) (nomark _)) (pss_cons (ps_asg (pe_callD G_l_promise_in hr (by decide) rfl passL (pa_cons (pv 1) (pa_cons (pe_op op_add (pv 4) pe_int) pa_nil))) (pg_tup rfl (pgs_cons (pg_sub (pv 3) (pv 5) set_list) (pgs_cons (pg_name (i := 4) sc_l_part_in.nd rfl (Or.inl rfl)) pgs_nil))))
    (pss_one (ps_if (pt_cmpR o_isN (pe_ix ix_list (pv 3) (pv 5) (fun _ _ => rfl)) pe_non (nomark _)) (pss_one (ps_ret (pv 4))) pss_nil))) pss_nil)))
    (pss_cons (ps_expr (pe_bm PySem.F.plainAttrs_list PySem.F.slot_list_append PySem.F.type_list_append mt_append (pe_dget (hu_of hr) (pv 0) pe_str (fun _ _ => rfl)) (pa_cons (pe_tup (pa_cons (pv 2) (pa_cons (pe_ix ix_list (pv 3) pe_int (fun _ _ => rfl)) (pa_cons (pe_ix ix_list (pv 3) pe_int (fun _ _ => rfl)) pa_nil)))) pa_nil)))
    (pss_one (ps_ret (pe_ifExp (pt_cmpR op_eq (pv 4) (pe_callB c_lenL rfl T.n_len (by decide +kernel) (pa_cons (pv 1) pa_nil)) (nomark _)) pe_non (pv 4)))))))

/-! _law_due -/
abbrev st_l_due : Stmt := top 59
abbrev N_l_due : List Str := ["_law_text_here", "_law_found", "_law_number", "_law_row", "_law_words", "_law_place"]
theorem sc_l_due : FnScope ["_law_text_here", "_law_found", "_law_number", "_law_row", "_law_words", "_law_place"] ["_law_text_here"] (defScope st_l_due) := ⟨rfl, rfl, rfl, by decide +kernel, rfl, by decide +kernel, by decide +kernel⟩
def t_l_due (K : PySem.W.Frag) (p_l_row_in : Sp) : TS :=
  (tSeq (tIfS (tNot (tB (tCB (rIsi K) (tCons (tVar 0) (tCons (tC (.ty "str")) tNil))))) (tRet (tTup (tCons (tC (.str "text")) (tCons (tC (.int 0)) (tCons (tC (.int 0)) tNil))))) tNext)
    (tSeq (tAsg (tDisp (((tC (.str "head")), (tC .non)) :: (((tC (.str "rows")), (tLst tNil)) :: (((tC (.str "pairs")), (tLst tNil)) :: [])))) (gName 1))
    (tSeq (tFor (iEnum K (tCons (tM1 qSplit (tVar 0) (tC (.str "\n"))) tNil)) (gTup K 2 (gCons (gName 2) (gCons (gName 3) gNil))) (tSeq (tAsg (tM1 qSplit (tVar 3) (tC (.str " "))) (gName 4))
    (tSeq (tIfS (tTest (tOp (rIn K false) (tC (.str "")) (tVar 4))) (tRet (tTup (tCons (tC (.str "text")) (tCons (tOp qAdd (tVar 2) (tC (.int 1))) (tCons (tC (.int 0)) tNil))))) tNext)
    (tSeq (tAsg (tCall p_l_row_in [] E0 (tCons (tVar 1) (tCons (tVar 4) tNil))) (gName 5))
    (tIfS (tTest (tOp qNotN (tVar 5) (tC .non))) (tRet (tTup (tCons (tC (.str "text")) (tCons (tOp qAdd (tVar 2) (tC (.int 1))) (tCons (tOp qAdd (tVar 5) (tC (.int 1))) tNil))))) tNext)))))
    (tRet (tLst (tCons (tOp (rCatA K) (tDGet (tVar 1) (tC (.str "head"))) (tTup (tCons (tCB (qTupOf K) (tCons (tDGet (tVar 1) (tC (.str "rows"))) tNil)) (tCons (tCB (qTupOf K) (tCons (tDGet (tVar 1) (tC (.str "pairs"))) tNil)) tNil)))) tNil))))))
theorem dv_l_due {P : Program} {w : World} {K : PySem.W.Frag} {mg : Str → Option Value} {base : Heap} {f : Addr} {cd : Value} {A : Around} {outer : List Env} {s : Shared} {H : Hp} {E : XK} {p_l_row_in : Sp} (T : Tx w K mg)
    (hr : Room 4 (A.deeper (envOfC "_law_due" (defScope st_l_due) s.heap.objs.size f cd)))
    (G_l_row_in : DefOk P w K mg base 4 "_law_row_in" ["_law_found", "_law_words"] [] p_l_row_in) :
    PSs (cxOf (L2.CX P w) P w K mg base ["_law_text_here", "_law_found", "_law_number", "_law_row", "_law_words", "_law_place"] "_law_due" (defScope st_l_due) f cd A outer s H E).nox (defBody st_l_due) (t_l_due K p_l_row_in) := by
  unfold t_l_due
  exact (pss_cons (ps_if (pt_not (pt_val (pe_callB call_isi rfl T.n_isinstance (by decide +kernel) (pa_cons (pv 0) (pa_cons (pe_bltn rfl T.n_str (by decide +kernel) rfl) pa_nil))))) (pss_one (ps_ret (pe_tup (pa_cons pe_str (pa_cons pe_int (pa_cons pe_int pa_nil)))))) pss_nil)
    (pss_cons (ps_set (i := 1) sc_l_due.nd rfl (Or.inl rfl) (pe_disp (pps_cons pe_str pe_non (pps_cons pe_str (pe_lst pa_nil) (pps_cons pe_str (pe_lst pa_nil) pps_nil))) (by rfl) (by rfl) (fun z => by cases z) (by decide)))
    (pss_cons (ps_for PassesOwn.never rfl (pi_enum rfl T.n_enumerate (pa_cons (pe_m1 F.slot_str_split F.type_str_split m_split (pv 0) pe_str) pa_nil)) (pg_tup rfl (pgs_cons (pg_name (i := 2) sc_l_due.nd rfl (Or.inl rfl)) (pgs_cons (pg_name (i := 3) sc_l_due.nd rfl (Or.inl rfl)) pgs_nil))) (pss_cons (ps_set (i := 4) sc_l_due.nd rfl (Or.inl rfl) (pe_m1 F.slot_str_split F.type_str_split m_split (pv 3) pe_str))
    (pss_cons (ps_if (pt_cmpR op_in_seq pe_str (pv 4) (by rfl)) (pss_one (ps_ret (pe_tup (pa_cons pe_str (pa_cons (pe_op op_add (pv 2) pe_int) (pa_cons pe_int pa_nil)))))) pss_nil)
    (pss_cons (ps_set (i := 5) sc_l_due.nd rfl (Or.inl rfl) (pe_callD G_l_row_in hr (by decide) rfl passL (pa_cons (pv 1) (pa_cons (pv 4) pa_nil))))
    (pss_one (ps_if (pt_cmpR o_notN (pv 5) pe_non (nomark _)) (pss_one (ps_ret (pe_tup (pa_cons pe_str (pa_cons (pe_op op_add (pv 2) pe_int) (pa_cons (pe_op op_add (pv 5) pe_int) pa_nil)))))) pss_nil))))))
    (pss_one (ps_ret (pe_lst (pa_cons (pe_op op_catA (pe_dget (hu_of hr) (pv 1) pe_str (fun _ _ => rfl)) (pe_tup (pa_cons (pe_callTy c_tupOf rfl T.n_tuple (by decide +kernel) (pa_cons (pe_dget (hu_of hr) (pv 1) pe_str (fun _ _ => rfl)) pa_nil)) (pa_cons (pe_callTy c_tupOf rfl T.n_tuple (by decide +kernel) (pa_cons (pe_dget (hu_of hr) (pv 1) pe_str (fun _ _ => rfl)) pa_nil)) pa_nil)))) pa_nil)))))))

/-! _law_known -/
abbrev st_l_known : Stmt := top 61
abbrev N_l_known : List Str := ["_law_head", "_law_one", "_law_some", "_law_many", "_law_rows", "_law_k"]
theorem sc_l_known : FnScope ["_law_head", "_law_one", "_law_some", "_law_many", "_law_rows", "_law_k"] [] (defScope st_l_known) := ⟨rfl, rfl, rfl, by decide +kernel, rfl, by decide +kernel, by decide +kernel⟩
def t_l_known (K : PySem.W.Frag) : TS :=
  (tSeq (tAsg (tTup (tCons (tC (.str "sort a endless")) (tCons (tC (.str "sort a endless\npart b")) tNil))) (gTup K 2 (gCons (gName 0) (gCons (gName 1) gNil))))
    (tSeq (tAsg (tLst (tCons (tC .non) (tCons (tC (.int 5)) (tCons (tC (.bl true)) (tCons (tLst (tCons (tVar 0) tNil)) (tCons (tC (.str "")) (tCons (tC (.str " ")) (tCons (tC (.str "\n")) (tCons (tVar 0) (tCons (tOp qAddS (tVar 0) (tC (.str "\n"))) (tCons (tC (.str "sort")) (tCons (tC (.str "sort a")) (tCons (tC (.str "sort sort endless")) tNil))))))))))))) (gName 2))
    (tSeq (tAsg (tOp rCat (tVar 2) (tLst (tCons (tC (.str "part b")) (tCons (tOp qAddS (tVar 0) (tC (.str " 5"))) tNil)))) (gName 2))
    (tSeq (tAsg (tOp rCat (tVar 2) (tLst (tCons (tVar 1) (tCons (tOp qAddS (tVar 1) (tC (.str " own"))) (tCons (tOp qAddS (tVar 1) (tC (.str " own 5"))) (tCons (tOp qAddS (tVar 1) (tC (.str " own 5 days"))) (tCons (tOp qAddS (tVar 1) (tC (.str " mended endless"))) tNil))))))) (gName 2))
    (tSeq (tDrop (tBM K "list" rAppend (tVar 2) (tCons (tOp qAddS (tVar 1) (tC (.str " mended 5 days own 5 days"))) tNil)))
    (tSeq (tAsg (tOp rCat (tVar 2) (tLst (tCons (tOp qAddS (tVar 1) (tC (.str " own 5 days mended"))) (tCons (tOp qAddS (tVar 1) (tC (.str " own 5 days mended 5 days 6"))) tNil)))) (gName 2))
    (tSeq (tAsg (tOp rCat (tVar 2) (tLst (tCons (tOp qAddS (tVar 1) (tC (.str " own endless mended 0 turns"))) (tCons (tOp qAddS (tVar 1) (tC (.str "\npart b"))) tNil)))) (gName 2))
    (tSeq (tAsg (tOp rCat (tVar 2) (tLst (tCons (tOp qAddS (tVar 1) (tC (.str "\npart a"))) (tCons (tOp qAddS (tVar 1) (tC (.str "\npart c"))) (tCons (tOp qAddS (tVar 1) (tC (.str "\nbarred x b"))) (tCons (tOp qAddS (tVar 1) (tC (.str "\nbarred x c"))) tNil)))))) (gName 2))
    (tSeq (tDrop (tBM K "list" rAppend (tVar 2) (tCons (tOp qAddS (tVar 1) (tC (.str "\nbarred x b\npart c"))) tNil)))
    (tSeq (tAsg (tOp rCat (tVar 2) (tLst (tCons (tOp qAddS (tVar 1) (tC (.str "\nbarred x b\nbarred x b"))) (tCons (tOp qAddS (tVar 1) (tC (.str "\nbarred y b\nbarred x b"))) (tCons (tOp qAddS (tVar 1) (tC (.str "\nbarred x"))) tNil))))) (gName 2))
    (tSeq (tAsg (tOp rCat (tVar 2) (tLst (tCons (tOp qAddS (tVar 1) (tC (.str "\nbarred"))) (tCons (tOp qAddS (tVar 0) (tC (.str "\nsort b endless"))) tNil)))) (gName 2))
    (tSeq (tAsg (tOp rCat (tVar 2) (tLst (tCons (tOp qAddS (tVar 1) (tC (.str "\npart c\nbarred x b\nbarred x c"))) (tCons (tOp qAddS (tVar 1) (tC (.str "\npart c\nbarred x c\nbarred x b"))) tNil)))) (gName 2))
    (tSeq (tAsg (tOp rCat (tVar 2) (tLst (tCons (tOp qAddS (tVar 1) (tC (.str "\nbarred x b 5"))) (tCons (tOp qAddS (tVar 1) (tC (.str " own own 5 days"))) tNil)))) (gName 2))
    (tSeq (tFor (iTup K (tTup (tCons (tC (.int 11)) (tCons (tC (.int 12)) (tCons (tC (.int 13)) tNil))))) (gName 3) (tDrop (tBM K "list" rAppend (tVar 2) (tCons (tOp qAddS (tVar 0) (tM1 (qJoin K) (tC (.str "")) (tLc (iRng1 (tCons (tVar 3) tNil)) (gName 5) tYes (tOp qAddS (tC (.str "\npart p")) (tOp rIxS (tC (.str "abcdefghijklm")) (tVar 5))) [5]))) tNil))))
    (tSeq (tFor (iTup K (tTup (tCons (tC (.int 29)) (tCons (tC (.int 30)) (tCons (tC (.int 31)) tNil))))) (gName 3) (tSeq (tAsg (tLc (iRng1 (tCons (tVar 3) tNil)) (gName 5) tYes (tOp qAddS (tOp qAddS (tOp qAddS (tC (.str "\nbarred ")) (tOp rIxS (tC (.str "abc")) (tOp qDivW (tVar 5) (tC (.int 12))))) (tC (.str "x p"))) (tOp rIxS (tC (.str "abcdefghijkl")) (tOp qMod (tVar 5) (tC (.int 12))))) [5]) (gName 4))
    (tDrop (tBM K "list" rAppend (tVar 2) (tCons (tOp qAddS (tOp qAddS (tVar 0) (tM1 (qJoin K) (tC (.str "")) (tLc (iRng1 (tCons (tC (.int 12)) tNil)) (gName 5) tYes (tOp qAddS (tC (.str "\npart p")) (tOp rIxS (tC (.str "abcdefghijkl")) (tVar 5))) [5]))) (tM1 (qJoin K) (tC (.str "")) (tVar 4))) tNil)))))
    (tRet (tVar 2)))))))))))))))))
theorem dv_l_known {P : Program} {w : World} {K : PySem.W.Frag} {mg : Str → Option Value} {base : Heap} {f : Addr} {cd : Value} {A : Around} {outer : List Env} {s : Shared} {H : Hp} {E : XK} (T : Tx w K mg)
    (hr : Room 0 (A.deeper (envOfC "_law_known" (defScope st_l_known) s.heap.objs.size f cd))) :
    PSs (cxOf (L2.CX P w) P w K mg base ["_law_head", "_law_one", "_law_some", "_law_many", "_law_rows", "_law_k"] "_law_known" (defScope st_l_known) f cd A outer s H E).nox (defBody st_l_known) (t_l_known K) := by
  unfold t_l_known
  exact (pss_cons (ps_asg (pe_tup (pa_cons pe_str (pa_cons pe_str pa_nil))) (pg_tup rfl (pgs_cons (pg_name (i := 0) sc_l_known.nd rfl (Or.inl rfl)) (pgs_cons (pg_name (i := 1) sc_l_known.nd rfl (Or.inl rfl)) pgs_nil))))
    (pss_cons (ps_set (i := 2) sc_l_known.nd rfl (Or.inl rfl) (pe_lst (pa_cons pe_non (pa_cons pe_int (pa_cons pe_bl (pa_cons (pe_lst (pa_cons (pv 0) pa_nil)) (pa_cons pe_str (pa_cons pe_str (pa_cons pe_str (pa_cons (pv 0) (pa_cons (pe_op o_addS (pv 0) pe_str) (pa_cons pe_str (pa_cons pe_str (pa_cons pe_str pa_nil))))))))))))))
    (pss_cons (ps_set (i := 2) sc_l_known.nd rfl (Or.inl rfl) (pe_op op_cat (pv 2) (pe_lst (pa_cons pe_str (pa_cons (pe_op o_addS (pv 0) pe_str) pa_nil)))))
    (pss_cons (ps_set (i := 2) sc_l_known.nd rfl (Or.inl rfl) (pe_op op_cat (pv 2) (pe_lst (pa_cons (pv 1) (pa_cons (pe_op o_addS (pv 1) pe_str) (pa_cons (pe_op o_addS (pv 1) pe_str) (pa_cons (pe_op o_addS (pv 1) pe_str) (pa_cons (pe_op o_addS (pv 1) pe_str) pa_nil))))))))
    (pss_cons (ps_expr (pe_bm PySem.F.plainAttrs_list PySem.F.slot_list_append PySem.F.type_list_append mt_append (pv 2) (pa_cons (pe_op o_addS (pv 1) pe_str) pa_nil)))
    (pss_cons (ps_set (i := 2) sc_l_known.nd rfl (Or.inl rfl) (pe_op op_cat (pv 2) (pe_lst (pa_cons (pe_op o_addS (pv 1) pe_str) (pa_cons (pe_op o_addS (pv 1) pe_str) pa_nil)))))
    (pss_cons (ps_set (i := 2) sc_l_known.nd rfl (Or.inl rfl) (pe_op op_cat (pv 2) (pe_lst (pa_cons (pe_op o_addS (pv 1) pe_str) (pa_cons (pe_op o_addS (pv 1) pe_str) pa_nil)))))
    (pss_cons (ps_set (i := 2) sc_l_known.nd rfl (Or.inl rfl) (pe_op op_cat (pv 2) (pe_lst (pa_cons (pe_op o_addS (pv 1) pe_str) (pa_cons (pe_op o_addS (pv 1) pe_str) (pa_cons (pe_op o_addS (pv 1) pe_str) (pa_cons (pe_op o_addS (pv 1) pe_str) pa_nil)))))))
    (pss_cons (ps_expr (pe_bm PySem.F.plainAttrs_list PySem.F.slot_list_append PySem.F.type_list_append mt_append (pv 2) (pa_cons (pe_op o_addS (pv 1) pe_str) pa_nil)))
    (pss_cons (ps_set (i := 2) sc_l_known.nd rfl (Or.inl rfl) (pe_op op_cat (pv 2) (pe_lst (pa_cons (pe_op o_addS (pv 1) pe_str) (pa_cons (pe_op o_addS (pv 1) pe_str) (pa_cons (pe_op o_addS (pv 1) pe_str) pa_nil))))))
    (pss_cons (ps_set (i := 2) sc_l_known.nd rfl (Or.inl rfl) (pe_op op_cat (pv 2) (pe_lst (pa_cons (pe_op o_addS (pv 1) pe_str) (pa_cons (pe_op o_addS (pv 0) pe_str) pa_nil)))))
    (pss_cons (ps_set (i := 2) sc_l_known.nd rfl (Or.inl rfl) (pe_op op_cat (pv 2) (pe_lst (pa_cons (pe_op o_addS (pv 1) pe_str) (pa_cons (pe_op o_addS (pv 1) pe_str) pa_nil)))))
    (pss_cons (ps_set (i := 2) sc_l_known.nd rfl (Or.inl rfl) (pe_op op_cat (pv 2) (pe_lst (pa_cons (pe_op o_addS (pv 1) pe_str) (pa_cons (pe_op o_addS (pv 1) pe_str) pa_nil)))))
    (pss_cons (ps_for PassesOwn.never rfl (pi_tup (pe_tup (pa_cons pe_int (pa_cons pe_int (pa_cons pe_int pa_nil))))) (pg_name (i := 3) sc_l_known.nd rfl (Or.inl rfl)) (pss_one (ps_expr (pe_bm PySem.F.plainAttrs_list PySem.F.slot_list_append PySem.F.type_list_append mt_append (pv 2) (pa_cons (pe_op o_addS (pv 0) (pe_m1 F.slot_str_join F.type_str_join m_join pe_str (pe_lc (own := [("_law_k", 5)]) (g := (gName 5)) (tt := tYes) (by rfl) sc_l_known.nd (pi_range1 rfl T.n_range (pa_cons (pv 3) pa_nil)) (blkOk_by (N := ["_law_head", "_law_one", "_law_some", "_law_many", "_law_rows", "_law_k"]) (sc := defScope st_l_known) (own := [("_law_k", 5)]) (by decide +kernel)) (fun _ _ _ _ _ => (pg_name (i := 5) sc_l_known.nd rfl (Or.inl rfl))) (fun _ _ _ _ _ => pts_nil) (fun _ _ _ _ _ => (pe_op o_addS pe_str (pe_ix ix_str pe_str (pv 5) (fun _ _ => rfl))))))) pa_nil)))))
    (pss_cons (ps_for PassesOwn.never rfl (pi_tup (pe_tup (pa_cons pe_int (pa_cons pe_int (pa_cons pe_int pa_nil))))) (pg_name (i := 3) sc_l_known.nd rfl (Or.inl rfl)) (pss_cons (ps_setLc (i := 4) (own := [("_law_k", 5)]) (g := (gName 5)) (tt := tYes) (by rfl) sc_l_known.nd rfl rfl (sw_true rfl rfl rfl (by decide +kernel)) (pi_range1 rfl T.n_range (pa_cons (pv 3) pa_nil)) (blkOk_by (N := ["_law_head", "_law_one", "_law_some", "_law_many", "_law_rows", "_law_k"]) (sc := defScope st_l_known) (own := [("_law_k", 5)]) (by decide +kernel)) (fun _ _ _ _ _ => (pg_name (i := 5) sc_l_known.nd rfl (Or.inl rfl))) (fun _ _ _ _ _ => pts_nil) (fun _ _ _ _ _ => (pe_op o_addS (pe_op o_addS (pe_op o_addS pe_str (pe_ix ix_str pe_str (pe_op op_fdivW (pv 5) pe_int) (fun _ _ => rfl))) pe_str) (pe_ix ix_str pe_str (pe_op op_mod (pv 5) pe_int) (fun _ _ => rfl)))))
    (pss_one (ps_expr (pe_bm PySem.F.plainAttrs_list PySem.F.slot_list_append PySem.F.type_list_append mt_append (pv 2) (pa_cons (pe_op o_addS (pe_op o_addS (pv 0) (pe_m1 F.slot_str_join F.type_str_join m_join pe_str (pe_lc (own := [("_law_k", 5)]) (g := (gName 5)) (tt := tYes) (by rfl) sc_l_known.nd (pi_range1 rfl T.n_range (pa_cons pe_int pa_nil)) (blkOk_by (N := ["_law_head", "_law_one", "_law_some", "_law_many", "_law_rows", "_law_k"]) (sc := defScope st_l_known) (own := [("_law_k", 5)]) (by decide +kernel)) (fun _ _ _ _ _ => (pg_name (i := 5) sc_l_known.nd rfl (Or.inl rfl))) (fun _ _ _ _ _ => pts_nil) (fun _ _ _ _ _ => (pe_op o_addS pe_str (pe_ix ix_str pe_str (pv 5) (fun _ _ => rfl))))))) (pe_m1 F.slot_str_join F.type_str_join m_join pe_str (pv 4))) pa_nil))))))
    (pss_one (ps_ret (pv 2))))))))))))))))))

/-! _law_bent_rows -/
abbrev st_l_bent_rows : Stmt := top 62
abbrev N_l_bent_rows : List Str := ["_law_m", "_law_rows", "_law_some", "_law_way", "_law_at", "_law_other", "_law_new", "_law_row"]
theorem sc_l_bent_rows : FnScope ["_law_m", "_law_rows", "_law_some", "_law_way", "_law_at", "_law_other", "_law_new", "_law_row"] ["_law_m", "_law_rows"] (defScope st_l_bent_rows) := ⟨rfl, rfl, rfl, by decide +kernel, rfl, by decide +kernel, by decide +kernel⟩
def t_l_bent_rows (K : PySem.W.Frag) (p_l_draw : Sp) (p_l_bent_words : Sp) : TS :=
  (tSeq (tAsg (tLst (tCons (tC (.str "sort")) (tCons (tC (.str "part")) (tCons (tC (.str "own")) (tCons (tC (.str "mended")) (tCons (tC (.str "barred")) (tCons (tC (.str "endless")) (tCons (tC (.str "days")) (tCons (tC (.str "miles")) (tCons (tC (.str "0")) (tCons (tC (.str "9999")) (tCons (tC (.str "10000")) (tCons (tC (.str "5")) tNil))))))))))))) (gName 2))
    (tSeq (tAsg (tOp rCat (tVar 2) (tLst (tCons (tC (.str "qqq")) (tCons (tC (.str "A")) (tCons (tC (.str "7")) tNil))))) (gName 2))
    (tSeq (tAsg (tOp rCat (tVar 2) (tSl (rSlL K) (tLc (iList K (tVar 1)) (gName 7) (tTest (tOp qGt (tCB (qLenL K) (tCons (tM1 qSplit (tVar 7) (tC (.str " "))) tNil)) (tC (.int 1)))) (tOp (rIxL K) (tM1 qSplit (tVar 7) (tC (.str " "))) (tC (.int 1))) [7]) tNoPart (tPart (tC (.int 6))))) (gName 2))
    (tSeq (tPar3 3 4 5 (tCons (tCall p_l_draw [] E0 (tCons (tVar 0) (tCons (tC (.int 8)) tNil))) (tCons (tCall p_l_draw [] E0 (tCons (tVar 0) (tCons (tCB (qLenL K) (tCons (tVar 1) tNil)) tNil))) (tCons (tCall p_l_draw [] E0 (tCons (tVar 0) (tCons (tCB (qLenL K) (tCons (tVar 1) tNil)) tNil))) tNil))))
    (tSeq (tIfS (tTest (tOp rEq (tVar 3) (tC (.int 0)))) (tRet (tIf (tTest (tOp qGt (tCB (qLenL K) (tCons (tVar 1) tNil)) (tC (.int 1)))) (tOp rCat (tSl (rSlL K) (tVar 1) tNoPart (tPart (tVar 4))) (tSl (rSlL K) (tVar 1) (tPart (tOp qAdd (tVar 4) (tC (.int 1)))) tNoPart)) (tLst (tCons (tC (.str "sort a")) tNil)))) tNext)
    (tSeq (tIfS (tTest (tOp rEq (tVar 3) (tC (.int 1)))) (tRet (tOp rCat (tOp rCat (tSl (rSlL K) (tVar 1) tNoPart (tPart (tVar 4))) (tLst (tCons (tOp (rIxL K) (tVar 1) (tVar 5)) tNil))) (tSl (rSlL K) (tVar 1) (tPart (tVar 4)) tNoPart))) tNext)
    (tSeq (tIfS (tTest (tOp rEq (tVar 3) (tC (.int 2)))) (tRet (tOp rCat (tOp rCat (tSl (rSlL K) (tVar 1) tNoPart (tPart (tVar 4))) (tRevL K (tSl (rSlL K) (tVar 1) (tPart (tVar 4)) (tPart (tOp qAdd (tVar 4) (tC (.int 2))))))) (tSl (rSlL K) (tVar 1) (tPart (tOp qAdd (tVar 4) (tC (.int 2)))) tNoPart))) tNext)
    (tSeq (tIfS (tTest (tOp rEq (tVar 3) (tC (.int 3)))) (tSeq (tAsg (tLst (tCons (tC (.str "part qqq")) (tCons (tC (.str "part zzz own endless")) (tCons (tC (.str "barred qqq qqq")) (tCons (tC (.str "sort b endless")) tNil))))) (gName 6))
    (tRet (tOp rCat (tOp rCat (tSl (rSlL K) (tVar 1) tNoPart (tPart (tVar 4))) (tLst (tCons (tOp (rIxL K) (tVar 6) (tCall p_l_draw [] E0 (tCons (tVar 0) (tCons (tC (.int 4)) tNil)))) tNil))) (tSl (rSlL K) (tVar 1) (tPart (tVar 4)) tNoPart)))) tNext)
    (tRet (tOp rCat (tOp rCat (tSl (rSlL K) (tVar 1) tNoPart (tPart (tVar 4))) (tLst (tCons (tM1 (qJoin K) (tC (.str " ")) (tCall p_l_bent_words [] E0 (tCons (tVar 0) (tCons (tM1 qSplit (tOp (rIxL K) (tVar 1) (tVar 4)) (tC (.str " "))) (tCons (tVar 2) tNil))))) tNil))) (tSl (rSlL K) (tVar 1) (tPart (tOp qAdd (tVar 4) (tC (.int 1)))) tNoPart)))))))))))
theorem dv_l_bent_rows {P : Program} {w : World} {K : PySem.W.Frag} {mg : Str → Option Value} {base : Heap} {f : Addr} {cd : Value} {A : Around} {outer : List Env} {s : Shared} {H : Hp} {E : XK} {p_l_draw p_l_bent_words : Sp} (T : Tx w K mg)
    (hr : Room 3 (A.deeper (envOfC "_law_bent_rows" (defScope st_l_bent_rows) s.heap.objs.size f cd)))
    (G_l_draw : DefOk P w K mg base 2 "_law_draw" ["_law_m", "_law_many"] [] p_l_draw)
    (G_l_bent_words : DefOk P w K mg base 3 "_law_bent_words" ["_law_m", "_law_words", "_law_some"] [] p_l_bent_words) :
    PSs (cxOf (L2.CX P w) P w K mg base ["_law_m", "_law_rows", "_law_some", "_law_way", "_law_at", "_law_other", "_law_new", "_law_row"] "_law_bent_rows" (defScope st_l_bent_rows) f cd A outer s H E).nox (defBody st_l_bent_rows) (t_l_bent_rows K p_l_draw p_l_bent_words) := by
  unfold t_l_bent_rows
  exact (pss_cons (ps_set (i := 2) sc_l_bent_rows.nd rfl (Or.inl rfl) (pe_lst (pa_cons pe_str (pa_cons pe_str (pa_cons pe_str (pa_cons pe_str (pa_cons pe_str (pa_cons pe_str (pa_cons pe_str (pa_cons pe_str (pa_cons pe_str (pa_cons pe_str (pa_cons pe_str (pa_cons pe_str pa_nil))))))))))))))
    (pss_cons (ps_set (i := 2) sc_l_bent_rows.nd rfl (Or.inl rfl) (pe_op op_cat (pv 2) (pe_lst (pa_cons pe_str (pa_cons pe_str (pa_cons pe_str pa_nil))))))
    (pss_cons (ps_set (i := 2) sc_l_bent_rows.nd rfl (Or.inl rfl) (pe_op op_cat (pv 2) (pe_slice sl_list (pe_lc (own := [("_law_row", 7)]) (g := (gName 7)) (tt := (tTest (tOp qGt (tCB (qLenL K) (tCons (tM1 qSplit (tVar 7) (tC (.str " "))) tNil)) (tC (.int 1))))) (by rfl) sc_l_bent_rows.nd (pi_list (pv 1)) (blkOk_by (N := ["_law_m", "_law_rows", "_law_some", "_law_way", "_law_at", "_law_other", "_law_new", "_law_row"]) (sc := defScope st_l_bent_rows) (own := [("_law_row", 7)]) (by decide +kernel)) (fun _ _ _ _ _ => (pg_name (i := 7) sc_l_bent_rows.nd rfl (Or.inl rfl))) (fun _ _ _ _ _ => (pts_one (pt_cmpR op_gt (pe_callB c_lenL rfl T.n_len (by decide +kernel) (pa_cons (pe_m1 F.slot_str_split F.type_str_split m_split (pv 7) pe_str) pa_nil)) pe_int (nomark _)))) (fun _ _ _ _ _ => (pe_ix ix_list (pe_m1 F.slot_str_split F.type_str_split m_split (pv 7) pe_str) pe_int (fun _ _ => rfl)))) po_none (po_some pe_int))))
    (pss_cons (ps_par3 (i := 3) (j := 4) (l := 5) rfl sc_l_bent_rows.nd rfl rfl rfl (by decide) (by decide) (by decide) rfl rfl rfl (pa_cons (pe_callD G_l_draw hr (by decide) rfl passL (pa_cons (pv 0) (pa_cons pe_int pa_nil))) (pa_cons (pe_callD G_l_draw hr (by decide) rfl passL (pa_cons (pv 0) (pa_cons (pe_callB c_lenL rfl T.n_len (by decide +kernel) (pa_cons (pv 1) pa_nil)) pa_nil))) (pa_cons (pe_callD G_l_draw hr (by decide) rfl passL (pa_cons (pv 0) (pa_cons (pe_callB c_lenL rfl T.n_len (by decide +kernel) (pa_cons (pv 1) pa_nil)) pa_nil))) pa_nil))) (by rfl))
    (pss_cons (ps_if (pt_cmpR op_eq (pv 3) pe_int (nomark _)) (pss_one (ps_ret (pe_ifExp (pt_cmpR op_gt (pe_callB c_lenL rfl T.n_len (by decide +kernel) (pa_cons (pv 1) pa_nil)) pe_int (nomark _)) (pe_op op_cat (pe_slice sl_list (pv 1) po_none (po_some (pv 4))) (pe_slice sl_list (pv 1) (po_some (pe_op op_add (pv 4) pe_int)) po_none)) (pe_lst (pa_cons pe_str pa_nil))))) pss_nil)
    (pss_cons (ps_if (pt_cmpR op_eq (pv 3) pe_int (nomark _)) (pss_one (ps_ret (pe_op op_cat (pe_op op_cat (pe_slice sl_list (pv 1) po_none (po_some (pv 4))) (pe_lst (pa_cons (pe_ix ix_list (pv 1) (pv 5) (fun _ _ => rfl)) pa_nil))) (pe_slice sl_list (pv 1) (po_some (pv 4)) po_none)))) pss_nil)
    (pss_cons (ps_if (pt_cmpR op_eq (pv 3) pe_int (nomark _)) (pss_one (ps_ret (pe_op op_cat (pe_op op_cat (pe_slice sl_list (pv 1) po_none (po_some (pv 4))) (pe_revL (pe_slice sl_list (pv 1) (po_some (pv 4)) (po_some (pe_op op_add (pv 4) pe_int))))) (pe_slice sl_list (pv 1) (po_some (pe_op op_add (pv 4) pe_int)) po_none)))) pss_nil)
    (pss_cons (ps_if (pt_cmpR op_eq (pv 3) pe_int (nomark _)) (pss_cons (ps_set (i := 6) sc_l_bent_rows.nd rfl (Or.inl rfl) (pe_lst (pa_cons pe_str (pa_cons pe_str (pa_cons pe_str (pa_cons pe_str pa_nil))))))
    (pss_one (ps_ret (pe_op op_cat (pe_op op_cat (pe_slice sl_list (pv 1) po_none (po_some (pv 4))) (pe_lst (pa_cons (pe_ix ix_list (pv 6) (pe_callD G_l_draw hr (by decide) rfl passL (pa_cons (pv 0) (pa_cons pe_int pa_nil))) (fun _ _ => rfl)) pa_nil))) (pe_slice sl_list (pv 1) (po_some (pv 4)) po_none))))) pss_nil)
    (pss_one (ps_ret (pe_op op_cat (pe_op op_cat (pe_slice sl_list (pv 1) po_none (po_some (pv 4))) (pe_lst (pa_cons (pe_m1 F.slot_str_join F.type_str_join m_join pe_str (pe_callD G_l_bent_words hr (by decide) rfl passL (pa_cons (pv 0) (pa_cons (pe_m1 F.slot_str_split F.type_str_split m_split (pe_ix ix_list (pv 1) (pv 4) (fun _ _ => rfl)) pe_str) (pa_cons (pv 2) pa_nil))))) pa_nil))) (pe_slice sl_list (pv 1) (po_some (pe_op op_add (pv 4) pe_int)) po_none))))))))))))

/-! law -/
abbrev st_law : Stmt := top 63
abbrev N_law : List Str := ["_law_script", "_law_m", "_law_turn", "_law_rows", "_law_time", "_law_text_here"]
theorem sc_law : FnScope ["_law_script", "_law_m", "_law_turn", "_law_rows", "_law_time", "_law_text_here"] ["_law_script"] (defScope st_law) := ⟨rfl, rfl, rfl, by decide +kernel, rfl, by decide +kernel, by decide +kernel⟩
def t_law (K : PySem.W.Frag) (p_l_begun : Sp) (p_l_known : Sp) (p_l_far : Sp) (p_l_right : Sp) (p_l_sort_rows : Sp) (p_l_plain_sort : Sp) (p_l_called : Sp) (p_l_draw : Sp) (p_l_bent_rows : Sp) : TS :=
  (tSeq (tAsg (tCall p_l_begun [] E0 (tCons (tVar 0) tNil)) (gName 1))
    (tSeq (tIfS (tNot (tB (tCB (rAll K) (tCons (tLc (iList K (tOp rCat (tCall p_l_known [] E0 tNil) (tCall p_l_far [] E0 tNil))) (gName 5) tYes (tCall p_l_right [] E0 (tCons (tVar 5) tNil)) [5]) tNil)))) (tRet (tC (.bl false))) tNext)
    (tSeq (tFor (iRng1 (tCons (tC (.int 10)) tNil)) (gName 2) (tSeq (tAsg (tCall p_l_sort_rows [] E0 (tCons (tCall p_l_plain_sort [] E0 (tCons (tVar 1) (tCons (tCall p_l_called [] E0 (tCons (tVar 1) (tCons (tC (.int 19)) tNil))) tNil))) tNil)) (gName 3))
    (tFor (iRng1 (tCons (tC (.int 5)) tNil)) (gName 4) (tSeq (tIfS (tNot (tB (tCall p_l_right [] E0 (tCons (tOp qAddS (tM1 (qJoin K) (tC (.str "\n")) (tVar 3)) (tOp (rIxL K) (tLst (tCons (tC (.str "")) (tCons (tC (.str "")) (tCons (tC (.str "")) (tCons (tC (.str " ")) (tCons (tC (.str "\n")) (tCons (tC (.str " own")) tNil))))))) (tCall p_l_draw [] E0 (tCons (tVar 1) (tCons (tC (.int 6)) tNil))))) tNil)))) (tRet (tC (.bl false))) tNext)
    (tAsg (tCall p_l_bent_rows [] E0 (tCons (tVar 1) (tCons (tVar 3) tNil))) (gName 3))))))
    (tRet (tC (.bl true))))))
theorem dv_law {P : Program} {w : World} {K : PySem.W.Frag} {mg : Str → Option Value} {base : Heap} {f : Addr} {cd : Value} {A : Around} {outer : List Env} {s : Shared} {H : Hp} {E : XK} {p_l_begun p_l_known p_l_far p_l_right p_l_sort_rows p_l_plain_sort p_l_called p_l_draw p_l_bent_rows : Sp} (T : Tx w K mg)
    (hr : Room 18 (A.deeper (envOfC "law" (defScope st_law) s.heap.objs.size f cd)))
    (G_l_begun : DefOk P w K mg base 2 "_law_begun" ["_law_script"] [] p_l_begun)
    (G_l_known : DefOk P w K mg base 1 "_law_known" [] [] p_l_known)
    (G_l_far : DefOk P w K mg base 1 "_law_far" [] [] p_l_far)
    (G_l_right : DefOk P w K mg base 18 "_law_right" ["_law_text_here"] [] p_l_right)
    (G_l_sort_rows : DefOk P w K mg base 2 "_law_sort_rows" ["_law_plain"] [] p_l_sort_rows)
    (G_l_plain_sort : DefOk P w K mg base 5 "_law_plain_sort" ["_law_m", "_law_w"] [] p_l_plain_sort)
    (G_l_called : DefOk P w K mg base 3 "_law_called" ["_law_m", "_law_many"] [] p_l_called)
    (G_l_draw : DefOk P w K mg base 2 "_law_draw" ["_law_m", "_law_many"] [] p_l_draw)
    (G_l_bent_rows : DefOk P w K mg base 4 "_law_bent_rows" ["_law_m", "_law_rows"] [] p_l_bent_rows) :
    PSs (cxOf (L2.CX P w) P w K mg base ["_law_script", "_law_m", "_law_turn", "_law_rows", "_law_time", "_law_text_here"] "law" (defScope st_law) f cd A outer s H E).nox (defBody st_law) (t_law K p_l_begun p_l_known p_l_far p_l_right p_l_sort_rows p_l_plain_sort p_l_called p_l_draw p_l_bent_rows) := by
  unfold t_law
  exact (pss_cons (ps_set (i := 1) sc_law.nd rfl (Or.inl rfl) (pe_callD G_l_begun hr (by decide) rfl passL (pa_cons (pv 0) pa_nil)))
    (pss_cons (ps_if (pt_not (pt_val (pe_callB (cr_all rfl) rfl T.n_all (by decide +kernel) (pa_cons (pe_lc (own := [("_law_text_here", 5)]) (g := (gName 5)) (tt := tYes) (by rfl) sc_law.nd (pi_list (pe_op op_cat (pe_callD0 G_l_known hr (by decide) rfl passL) (pe_callD0 G_l_far hr (by decide) rfl passL))) (blkOk_by (N := ["_law_script", "_law_m", "_law_turn", "_law_rows", "_law_time", "_law_text_here"]) (sc := defScope st_law) (own := [("_law_text_here", 5)]) (by decide +kernel)) (fun _ _ _ _ _ => (pg_name (i := 5) sc_law.nd rfl (Or.inl rfl))) (fun _ _ _ _ _ => pts_nil) (fun _ _ _ _ _ => (pe_callD G_l_right hr (by decide) rfl passL (pa_cons (pv 5) pa_nil)))) pa_nil)))) (pss_one (ps_ret pe_bl)) pss_nil)
    (pss_cons (ps_for PassesOwn.never rfl (pi_range1 rfl T.n_range (pa_cons pe_int pa_nil)) (pg_name (i := 2) sc_law.nd rfl (Or.inl rfl)) (pss_cons (ps_set (i := 3) sc_law.nd rfl (Or.inl rfl) (pe_callD G_l_sort_rows hr (by decide) rfl passL (pa_cons (pe_callD G_l_plain_sort hr (by decide) rfl passL (pa_cons (pv 1) (pa_cons (pe_callD G_l_called hr (by decide) rfl passL (pa_cons (pv 1) (pa_cons pe_int pa_nil))) pa_nil))) pa_nil)))
    (pss_one (ps_for PassesOwn.never rfl (pi_range1 rfl T.n_range (pa_cons pe_int pa_nil)) (pg_name (i := 4) sc_law.nd rfl (Or.inl rfl)) (pss_cons (ps_if (pt_not (pt_val (pe_callD G_l_right hr (by decide) rfl passL (pa_cons (pe_op o_addS (pe_m1 F.slot_str_join F.type_str_join m_join pe_str (pv 3)) (pe_ix ix_list (pe_lst (pa_cons pe_str (pa_cons pe_str (pa_cons pe_str (pa_cons pe_str (pa_cons pe_str (pa_cons pe_str pa_nil))))))) (pe_callD G_l_draw hr (by decide) rfl passL (pa_cons (pv 1) (pa_cons pe_int pa_nil))) (fun _ _ => rfl))) pa_nil)))) (pss_one (ps_ret pe_bl)) pss_nil)
    (pss_one (ps_set (i := 3) sc_law.nd rfl (Or.inl rfl) (pe_callD G_l_bent_rows hr (by decide) rfl passL (pa_cons (pv 1) (pa_cons (pv 3) pa_nil))))))))))
    (pss_one (ps_ret pe_bl)))))

end WK
set_option Elab.async false
set_option linter.all false
set_option maxRecDepth 100000
set_option maxHeartbeats 4000000
namespace WK
open PySem PySem.Spec PyProof.Rows L2

/-! ### what is never written again -/
def imO : HO → Bool
  | .tup _ => true
  | .frz _ _ => true
  | .ins _ _ fs => (fs.lookup ("limits" : Str)).isSome || (fs.lookup ("called" : Str)).isSome
  | _ => false
def Im (H H' : Hp) : Prop := ∀ b o, H b = some o → imO o = true → H' b = some o
theorem Im.refl (H : Hp) : Im H H := fun _ _ h _ => h
theorem Im.trans {H H1 H2 : Hp} (a : Im H H1) (b : Im H1 H2) : Im H H2 := fun c o h n => b c o (a c o h n) n
theorem KB.im {S : List Addr} {H H' : Hp} (k : KB S H H') (h : ∀ b ∈ S, ∀ o, H b = some o → imO o = false) : Im H H' := fun b o e n => k b o e fun m => by
  rw [h b m o e] at n; cases n
theorem KB.im0 {H H' : Hp} (k : KB [] H H') : Im H H' := fun b o e _ => k.get e
theorem Im.tup {H H' : Hp} {a : Addr} {xs : List V} (k : Im H H') (h : H a = some (.tup xs)) : H' a = some (.tup xs) := k _ _ h rfl
theorem Im.seqT {K : PySem.W.Frag} {H H' : Hp} {a : Addr} {xs : List V} (k : Im H H') (h : SqT K H a xs) : SqT K H' a xs := by
  rcases h with (h | ⟨o, h⟩) | h
  · exact .inl (.inl (k _ _ h rfl))
  · exact .inl (.inr ⟨o, k _ _ h rfl⟩)
  · exact .inr h
theorem Im.lst {H : Hp} {p : Addr} {o : HO} (h : ∀ u, H p = some u → imO u = false) : Im H (upd H p o) := fun b u e n => by
  rw [upd_ne (fun z => by rw [z] at e; rw [h u e] at n; cases n)]; exact e
theorem Im.new {H : Hp} {p : Addr} {o : HO} (h : H p = none) : Im H (upd H p o) := fun b u e _ => by
  rw [upd_ne (ne_of_none e h)]; exact e

/-! ### a comprehension -/
/-- what a comprehension over J asks, entered at H -/
def LcOk (J : It) (g : TG) (tt : TT) (te : TE) (vs : List Nat) (σ : L2.St) (H : Hp) (Q : VK) : Prop :=
  ∀ D, H D = none → ∃ W : Nat → Nat → Hp → Prop, (∃ m, W 0 m (upd H D (.lst []))) ∧ ∀ i m H, W i m H →
    (J.stop i H ∧ Q (.ref D) H) ∨ (J.go i H ∧ ∃ Nx : Hp → Prop, (∀ H', Nx H' → ∃ m', m' < m ∧ W (i + 1) m' H') ∧ ∀ x H', J.yld i H x H' → g x (wipe σ vs) H' fun σ2 H2 => wipe σ2 vs = wipe σ vs ∧ tt σ2 H2 fun b H3 =>
      if b = true then te σ2 H3 fun y H4 => ∃ acc, H4 D = some (.lst acc) ∧ acc.length < sizeLine ∧ Nx (upd H4 D (.lst (acc ++ [y]))) else Nx H3)
theorem w_lc {wi : TI} {g : TG} {tt : TT} {te : TE} {vs : List Nat} {σ : L2.St} {H : Hp} {Q : VK} (q : wi σ H fun J H1 => LcOk J g tt te vs σ H1 Q) : tLc wi g tt te vs σ H Q := q
theorem lcG {J : It} {n : Nat} {G : Hp → Prop} {Y : Nat → Hp → V → Hp → Prop} (w : Walk J n G Y) {g : TG} {tt : TT} {te : TE} {vs : List Nat} {σ : L2.St} {H : Hp} {Q : VK} (S : List Addr) (A : Nat → List V → Hp → Prop) (hS : ∀ b ∈ S, H b ≠ none) (hG : ∀ H2, KB S H H2 → G H2) (h0 : ∀ H', Im H H' → A 0 [] H')
    (mono : ∀ i acc H1 H2, Im H1 H2 → A i acc H1 → A i acc H2) (hn : n ≤ 16000000)
    (step : ∀ i x H2 H3 acc D (K1 : VK) (K0 : Hp → Prop), i < n → KB S H H2 → H2 D = some (.lst acc) → H D = none → A i acc H2 → Y i H2 x H3 → (∀ y H6, KB S H2 H6 → A (i + 1) (acc ++ [y]) H6 → K1 y H6) → (∀ H5, KB S H2 H5 → A (i + 1) acc H5 → K0 H5) →
      g x (wipe σ vs) H3 fun σ2 H4 => wipe σ2 vs = wipe σ vs ∧ tt σ2 H4 fun b H5 => if b = true then te σ2 H5 K1 else K0 H5)
    (fin : ∀ D acc H', H D = none → KB S H H' → H' D = some (.lst acc) → acc.length ≤ n → A n acc H' → Q (.ref D) H') :
    LcOk J g tt te vs σ H Q := by
  intro D hD
  have nS : D ∉ S := fun m => hS D m hD
  have hz : n < sizeLine := Nat.lt_of_le_of_lt hn (by rw [sizeLine_eq]; decide)
  refine lc_it w (fun i H2 => KB S H H2 ∧ ∃ acc, H2 D = some (.lst acc) ∧ acc.length ≤ i ∧ A i acc H2) ⟨KB.new (KB.refl S H) hD, [], upd_same, Nat.le_refl _, h0 _ (Im.new hD)⟩ (fun i H2 _ p => hG H2 p.1) (fun i x H2 H3 hi p y => ?_) (fun H2 p => ?_)
  · obtain ⟨k, acc, e, hl, a⟩ := p
    refine step i x H2 H3 acc D _ _ hi k e hD a y (fun v H6 k6 a6 => ?_) (fun H5 k5 a5 => ?_)
    · have e6 : H6 D = some (.lst acc) := k6 D _ e nS
      refine ⟨acc, e6, by omega, (k.trans k6).mutN hD, acc ++ [v], upd_same, by rw [List.length_append, List.length_singleton]; omega, mono _ _ _ _ (Im.lst fun u q => ?_) a6⟩
      rw [e6] at q; cases q; rfl
    · exact ⟨k.trans k5, acc, k5 D _ e nS, by omega, a5⟩
  · obtain ⟨k, acc, e, hl, a⟩ := p
    exact fin D acc H2 hD k e hl a
end WK
set_option Elab.async false
set_option linter.all false
set_option maxRecDepth 100000
set_option maxHeartbeats 4000000
namespace WK
open PySem PySem.Spec PyProof.Rows L2

/-! ### the plain law: what a text of a sort reads as -/
abbrev Pm := Option Int × Option Int × Option Int
abbrev OPm := Option Pm
abbrev Row := Str × OPm × OPm
abbrev Pair := Str × Str
abbrev noPm : Pm := (none, none, none)
def lettersS : Str := "abcdefghijklmnopqrstuvwxyz"
def figuresS : Str := "0123456789"
def isName (z : Str) : Bool := (decide (1 ≤ (z.length : Int)) && decide ((z.length : Int) ≤ 8)) && (!inV (.str z) (barredL.map V.str) && z.cps.toList.all fun c => decide (c ∈ lettersS.cps.toList))
def isNum (z : Str) : Bool := (decide (1 ≤ (z.length : Int)) && decide ((z.length : Int) ≤ 7)) && ((z.cps.toList.all fun c => decide (c ∈ figuresS.cps.toList)) && (!(z.cps.toList[0]? == some 48) || decide (z = "0")))
def numOf (z : Str) : Option Int := if isNum z = true then some ((NumText.digitsVal z.cps.toList : Nat) : Int) else none
def wAt (ws : List Str) (k : Nat) : Str := ws.getD k ""
def slotOf (place : Nat) (n : Int) (w : Str) : Option Nat :=
  if place = 0 ∧ n ≤ 9999 ∧ w = "days" then some 0 else if place ≤ 1 ∧ w = "miles" then some 1 else if place ≤ 2 ∧ w = "turns" then some 2 else none
def setPm (L : Pm) (j : Nat) (n : Int) : Pm := if j = 0 then (some n, L.2.1, L.2.2) else if j = 1 then (L.1, some n, L.2.2) else (L.1, L.2.1, some n)
def promL : Nat → Nat → Pm → List Str → Nat → Except Nat (Pm × Nat)
  | 0, _, L, _, k => .ok (L, k)
  | f + 1, place, L, ws, k =>
    if place ≠ 0 ∧ (3 ≤ place ∨ numOf (wAt ws k) = none) then .ok (L, k)
    else match numOf (wAt ws k) with
      | none => .error k
      | some n => if n ≤ 1000000 then (match slotOf place n (wAt ws (k + 1)) with
          | none => .error (k + 1)
          | some j => promL f (j + 1) (setPm L j n) ws (k + 2)) else .error k
def prom (ws : List Str) (k : Nat) : Except Nat (Pm × Nat) := if wAt ws k = "endless" then .ok (noPm, k + 1) else promL 4 0 noPm ws k
def optProm (key : Str) (ws : List Str) (k : Nat) : Except Nat (OPm × Nat) :=
  if wAt ws k = key then (match prom ws (k + 1) with | .error e => .error e | .ok r => .ok (some r.1, r.2)) else .ok (none, k)
structure Acc where
  head : Option (Str × Pm)
  rows : List Row
  pairs : List Pair
def afterRow (rows : List Row) (z : Str) : Bool := match rows.getLast? with | none => true | some r => ltS r.1 z
def lastPair (ps : List Pair) : Pair := ps.getLast?.getD ("", "")
def names (rows : List Row) : List Str := rows.map (·.1)
def partIn (rows : List Row) (ws : List Str) : Except Nat (Row × Nat) :=
  if (isName (wAt ws 1) && afterRow rows (wAt ws 1)) = false then .error 1
  else match optProm "own" ws 2 with
    | .error e => .error e
    | .ok r => match optProm "mended" ws r.2 with
      | .error e => .error e
      | .ok q => .ok ((wAt ws 1, r.1, q.1), q.2)
def pairIn (rows : List Row) (ps : List Pair) (ws : List Str) : Except Nat Pair :=
  if (isName (wAt ws 1) && !ltS (wAt ws 1) (lastPair ps).1) = false then .error 1
  else if ((names rows).contains (wAt ws 2) && !leP (wAt ws 1, wAt ws 2) (lastPair ps)) = false then .error 2
  else .ok (wAt ws 1, wAt ws 2)
def rowIn (S : Acc) (ws : List Str) : Except Nat Acc :=
  match S.head with
  | none =>
    if wAt ws 0 ≠ "sort" then .error 0
    else if isName (wAt ws 1) = false then .error 1
    else match prom ws 2 with
      | .error e => .error e
      | .ok r => if r.2 = ws.length then .ok { S with head := some (wAt ws 1, r.1) } else .error r.2
  | some _ =>
    if wAt ws 0 = "part" ∧ S.pairs = [] ∧ S.rows.length < 12 then
      match partIn S.rows ws with
      | .error e => .error e
      | .ok r => if r.2 = ws.length then .ok { S with rows := S.rows ++ [r.1] } else .error r.2
    else if wAt ws 0 ≠ "barred" ∨ ¬ S.pairs.length < 30 then .error 0
    else match pairIn S.rows S.pairs ws with
      | .error e => .error e
      | .ok p => if ws.length = 3 then .ok { S with pairs := S.pairs ++ [p] } else .error 3
def readRows : List Str → Nat → Acc → Except (Nat × Nat) Acc
  | [], _, S => .ok S
  | r :: rest, i, S => if (Txt.split r " ").contains "" = true then .error (i + 1, 0) else match rowIn S (Txt.split r " ") with
    | .error k => .error (i + 1, k + 1)
    | .ok S' => readRows rest (i + 1) S'
def textIn (t : Str) : Except (Nat × Nat) Acc := readRows (Txt.split t "\n") 0 ⟨none, [], []⟩

/-! ### .. and how it is told -/
def numS (n : Int) : Str := Str.ofString (toString n)
def pmParts (p : Pm) : List Str := (match p.1 with | none => [] | some n => [numS n ++ " " ++ "days"]) ++ ((match p.2.1 with | none => [] | some n => [numS n ++ " " ++ "miles"]) ++ (match p.2.2 with | none => [] | some n => [numS n ++ " " ++ "turns"]))
def pmText (p : Pm) : Str := Txt.join " " (if pmParts p = [] then ["endless"] else pmParts p)
def oText (key : Str) : OPm → Str
  | none => ""
  | some p => key ++ pmText p
def rowText (r : Row) : Str := ("part " ++ r.1) ++ oText " own " r.2.1 ++ oText " mended " r.2.2
def pairText (p : Pair) : Str := (("barred " : Str) ++ p.1 ++ " ") ++ p.2
def sortRows (h : Str × Pm) (rows : List Row) (ps : List Pair) : List Str := [(("sort " : Str) ++ h.1 ++ " ") ++ pmText h.2] ++ rows.map rowText ++ ps.map pairText

/-! ### what every state on the way keeps -/
def consec {α : Type} (f : α → α → Bool) : List α → Bool
  | [] => true
  | [_] => true
  | a :: b :: r => f a b && consec f (b :: r)
/-- each bound lies in its limits -/
def okPm (p : Pm) : Prop := (∀ n, p.1 = some n → 0 ≤ n ∧ n ≤ 9999) ∧ (∀ n, p.2.1 = some n → 0 ≤ n ∧ n ≤ 1000000) ∧ (∀ n, p.2.2 = some n → 0 ≤ n ∧ n ≤ 1000000)
def okO (o : OPm) : Prop := ∀ p, o = some p → okPm p
structure Good (S : Acc) : Prop where
  hd : ∀ h, S.head = some h → isName h.1 = true ∧ okPm h.2
  rn : ∀ r ∈ S.rows, isName r.1 = true ∧ okO r.2.1 ∧ okO r.2.2
  rl : S.rows.length ≤ 12
  ro : consec (fun a b : Row => ltS a.1 b.1) S.rows = true
  pn : ∀ p ∈ S.pairs, isName p.1 = true ∧ (names S.rows).contains p.2 = true
  pl : S.pairs.length ≤ 30
  po : consec ltP S.pairs = true
theorem consec_snoc {α : Type} {f : α → α → Bool} : ∀ {l : List α} {x : α}, consec f l = true → (∀ y, l.getLast? = some y → f y x = true) → consec f (l ++ [x]) = true
  | [], _, _, _ => rfl
  | [a], x, _, h => by
    have := h a rfl
    simp [consec, this]
  | a :: b :: r, x, h, hx => by
    have h1 : f a b = true ∧ consec f (b :: r) = true := by simpa [consec] using h
    have h2 := consec_snoc (l := b :: r) (x := x) h1.2 (fun y e => hx y (by simpa [List.getLast?_cons_cons] using e))
    show (f a b && consec f ((b :: r) ++ [x])) = true
    rw [h1.1, h2]; rfl
end WK
set_option Elab.async false
set_option linter.all false
set_option maxRecDepth 100000
set_option maxHeartbeats 4000000
namespace WK
open PySem PySem.Spec PyProof.Rows L2

/-! ### texts, words -/
theorem app_as (a b c : Str) : a ++ b ++ c = a ++ (b ++ c) := TL.ext_tl (by simp [TL.tl_append])
theorem sep1 : TL.tl (" " : Str) = [32] := by decide
theorem sepN : TL.tl ("\n" : Str) = [10] := by decide
theorem k256_1 : (" " : Str).cps.all (· < 256) = true := by decide +kernel
theorem k256_N : ("\n" : Str).cps.all (· < 256) = true := by decide +kernel
theorem tl_jn (y : Str) (ps : List Str) : TL.tl (Txt.join y ps) = TL.joinL (TL.tl y) (ps.map TL.tl) := by rw [TL.join_eq, TL.tl_join]
theorem joinL_cons {S a : List Nat} {r : List (List Nat)} (h : r ≠ []) : TL.joinL S (a :: r) = a ++ S ++ TL.joinL S r := by
  cases r with
  | nil => exact absurd rfl h
  | cons b t => simp [TL.joinL]
theorem spl_ne {S : List Nat} : ∀ (l : List Nat) (k : Nat) (acc : List Nat), TL.spl S k acc l ≠ [] := by
  intro l
  induction l with
  | nil => intro k acc; rw [TL.spl_nil]; simp
  | cons c r ih =>
    intro k acc
    rw [TL.spl_pass]
    cases k with
    | zero =>
      cases h : TL.pre S (c :: r) with
      | true => rw [List.drop_zero, TL.spl_hit h]; simp
      | false => rw [List.drop_zero, TL.spl_miss h]; exact ih _ _
    | succ k => rw [List.drop_succ_cons, ← TL.spl_pass]; exact ih _ _
theorem joinL_spl {s : Nat} : ∀ (l acc : List Nat), TL.joinL [s] (TL.spl [s] 0 acc l) = acc ++ l := by
  intro l
  induction l with
  | nil => intro acc; rw [TL.spl_nil]; simp [TL.joinL]
  | cons c r ih =>
    intro acc
    cases h : TL.pre [s] (c :: r) with
    | true =>
      have e : c = s := by
        have : ((c :: r).take 1 == [s]) = true := h
        simpa using this
      rw [TL.spl_hit h, joinL_cons (spl_ne _ _ _)]
      show acc ++ [s] ++ TL.joinL [s] (TL.spl [s] 0 [] r) = _
      rw [ih, e]; simp
    | false => rw [TL.spl_miss h, ih]; simp
theorem join_split {y : Str} {s : Nat} (ey : TL.tl y = [s]) (hk : y.cps.all (· < 256) = true) (x : Str) : Txt.join y (Txt.split x y) = x := by
  apply TL.ext_tl
  rw [tl_jn, TL.split_spl x y (by rw [ey]; simp) (TL.kind_ok hk), ey, joinL_spl, List.nil_append]
theorem split_ne (x y : Str) (hy : TL.tl y ≠ []) (hk : y.cps.all (· < 256) = true) : Txt.split x y ≠ [] := fun e => by
  have h := TL.split_spl x y hy (TL.kind_ok hk)
  rw [e] at h
  exact spl_ne _ _ _ h.symm
theorem jn_one (y a : Str) : Txt.join y [a] = a := TL.ext_tl (by rw [tl_jn]; simp [TL.joinL])
theorem jn_cons (y a : Str) {r : List Str} (h : r ≠ []) : Txt.join y (a :: r) = a ++ y ++ Txt.join y r := TL.ext_tl (by
  rw [tl_jn, List.map_cons, joinL_cons (by simpa using h), TL.tl_append, TL.tl_append, tl_jn])
theorem jn_app (y : Str) : ∀ {a b : List Str}, a ≠ [] → b ≠ [] → Txt.join y (a ++ b) = Txt.join y a ++ y ++ Txt.join y b
  | [], _, h, _ => absurd rfl h
  | [x], b, _, hb => by rw [List.singleton_append, jn_cons y x hb, jn_one]
  | x :: z :: r, b, _, hb => by
    rw [List.cons_append, jn_cons y x (by simp), jn_app y (a := z :: r) (by simp) hb, jn_cons y x (by simp)]
    simp only [app_as]

/-! ### numbers -/
theorem numL_back : ∀ (l : List Nat), NumText.AllDigits l → l ≠ [] → (l[0]? ≠ some 48 ∨ l = [48]) → TL.numL (NumText.digitsVal l) = l := by
  intro l
  induction hn : l.length using Nat.strongRecOn generalizing l with
  | _ n ih =>
    intro hd hne hz
    rcases List.eq_nil_or_concat l with e | ⟨m, d, e⟩
    · exact absurd e hne
    · have e : l = m ++ [d] := by simpa using e
      subst e
      have hd' : ∀ c ∈ m ++ [d], 48 ≤ c ∧ c ≤ 57 := fun c hc => by
        have := hd c hc
        simpa using this
      have dd := hd' d (by simp)
      have val : NumText.digitsVal (m ++ [d]) = NumText.digitsVal m * 10 + (d - 48) := by
        unfold NumText.digitsVal
        rw [List.foldl_append]; rfl
      by_cases hm : m = []
      · subst hm
        have v0 : NumText.digitsVal ([] ++ [d]) = d - 48 := by rw [val]; show 0 * 10 + (d - 48) = _; omega
        rw [v0, TL.numL_lt (by omega)]
        simp; omega
      · have lm : m[0]? ≠ some 48 := by
          rcases hz with h | h
          · cases m with
            | nil => exact absurd rfl hm
            | cons a r => simpa using h
          · have := congrArg List.length h
            simp at this
            exact absurd this hm
        have im := ih m.length (by rw [← hn]; simp) m rfl (fun c hc => hd c (by simp [hc])) hm (.inl lm)
        have pos : 1 ≤ NumText.digitsVal m := by
          rcases Nat.eq_zero_or_pos (NumText.digitsVal m) with z | z
          · rw [z] at im
            have : TL.numL 0 = [48] := by rw [TL.numL_lt (by omega)]
            rw [this] at im
            rw [← im] at lm
            simp at lm
          · exact z
        rw [val, TL.numL_step (by omega)]
        have q1 : (NumText.digitsVal m * 10 + (d - 48)) / 10 = NumText.digitsVal m := by omega
        have q2 : (NumText.digitsVal m * 10 + (d - 48)) % 10 = d - 48 := by omega
        rw [q1, q2, im]
        simp; omega
theorem fig_digit {c : Nat} (h : c ∈ figuresS.cps.toList) : 48 ≤ c ∧ c ≤ 57 := by
  have e : figuresS.cps.toList = [48, 49, 50, 51, 52, 53, 54, 55, 56, 57] := by decide
  rw [e] at h
  simp at h
  omega
theorem isNum_digits {z : Str} (h : isNum z = true) : NumText.AllDigits z.cps.toList ∧ z.cps.toList ≠ [] ∧ z.length ≤ 7 ∧ (z.cps.toList[0]? ≠ some 48 ∨ z.cps.toList = [48]) := by
  unfold isNum at h
  simp only [Bool.and_eq_true, decide_eq_true_eq, List.all_eq_true, Bool.or_eq_true, Bool.not_eq_true', beq_eq_false_iff_ne] at h
  obtain ⟨⟨h1, h2⟩, h3, h4⟩ := h
  refine ⟨fun c hc => ?_, fun e => ?_, by omega, ?_⟩
  · have := fig_digit (h3 c hc)
    first | exact this | simpa using this
  · have : z.length = 0 := by rw [TL.len_tl]; show z.cps.toList.length = 0; rw [e]; rfl
    omega
  · rcases h4 with h | h
    · exact .inl h
    · right; rw [h]; decide
theorem num_text {z : Str} (h : isNum z = true) : intText? z = some ((NumText.digitsVal z.cps.toList : Nat) : Int) := by
  obtain ⟨h1, h2, h3, _⟩ := isNum_digits h
  exact intText_digits h1 h2 (by omega)
theorem num_back {z : Str} {n : Int} (h : numOf z = some n) : numS n = z := by
  unfold numOf at h
  by_cases hz : isNum z = true
  · rw [if_pos hz] at h
    cases h
    obtain ⟨h1, h2, _, h4⟩ := isNum_digits hz
    apply TL.ext_tl
    show TL.tl (Str.ofString (toString _)) = _
    rw [TL.tl_num, numL_back _ h1 h2 h4]
  · rw [if_neg hz] at h; cases h
theorem numOf_nonneg {z : Str} {n : Int} (h : numOf z = some n) : 0 ≤ n := by
  unfold numOf at h
  split at h
  · cases h; omega
  · cases h
theorem numOf_nil : numOf "" = none := by
  unfold numOf
  rw [if_neg]
  decide

/-! ### a promise told -/
def tok1 (u : Str) : Option Int → List Str
  | none => []
  | some n => [numS n, u]
def pmTok (p : Pm) : List Str := tok1 "days" p.1 ++ (tok1 "miles" p.2.1 ++ tok1 "turns" p.2.2)
def pmWords (p : Pm) : List Str := if p = noPm then ["endless"] else pmTok p
theorem pmWords_ne (p : Pm) : pmWords p ≠ [] := by
  unfold pmWords
  split
  · simp
  · rename_i h
    obtain ⟨a, b, c⟩ := p
    cases a <;> cases b <;> cases c <;> simp_all [pmTok, tok1]
theorem pm_told (p : Pm) : Txt.join " " (pmWords p) = pmText p := by
  obtain ⟨a, b, c⟩ := p
  cases a <;> cases b <;> cases c <;> simp [pmWords, pmText, pmTok, tok1, pmParts, jn_cons, jn_one, app_as]
/-- slots from place on are open -/
def openFrom (place : Nat) (L : Pm) : Prop := (place ≤ 0 → L.1 = none) ∧ (place ≤ 1 → L.2.1 = none) ∧ (place ≤ 2 → L.2.2 = none)
theorem slotOf_spec {place : Nat} {n : Int} {w : Str} {j : Nat} (h : slotOf place n w = some j) : place ≤ j ∧ j < 3 ∧ boundsL[j]? = some w ∧ (j = 0 → n ≤ 9999) := by
  unfold slotOf at h
  split at h
  · rename_i q
    cases h
    exact ⟨by omega, by omega, by rw [q.2.2]; rfl, fun _ => q.2.1⟩
  · split at h
    · rename_i q
      cases h
      exact ⟨by omega, by omega, by rw [q.2]; rfl, by omega⟩
    · split at h
      · rename_i q
        cases h
        exact ⟨by omega, by omega, by rw [q.2]; rfl, by omega⟩
      · cases h
theorem set_tok {place j : Nat} {L : Pm} {n : Int} {w : Str} (o : openFrom place L) (h1 : place ≤ j) (h2 : j < 3) (h3 : boundsL[j]? = some w) : pmTok (setPm L j n) = pmTok L ++ [numS n, w] ∧ openFrom (j + 1) (setPm L j n) := by
  obtain ⟨a, b, c⟩ := L
  obtain ⟨o1, o2, o3⟩ := o
  match j, h2 with
  | 0, _ =>
    simp at h3; subst h3
    have ea := o1 (by omega); have eb := o2 (by omega); have ec := o3 (by omega)
    simp only at ea eb ec
    subst ea eb ec
    exact ⟨rfl, by simp [openFrom, setPm]⟩
  | 1, _ =>
    simp at h3; subst h3
    have eb := o2 (by omega); have ec := o3 (by omega)
    simp only at eb ec
    subst eb ec
    exact ⟨by simp [pmTok, setPm, tok1], by simp [openFrom, setPm]⟩
  | 2, _ =>
    simp at h3; subst h3
    have ec := o3 (by omega)
    simp only at ec
    subst ec
    exact ⟨by simp [pmTok, setPm, tok1], by simp [openFrom, setPm]⟩
theorem wAt_lt {ws : List Str} {k : Nat} (h : wAt ws k ≠ "") : k < ws.length := by
  rcases Nat.lt_or_ge k ws.length with q | q
  · exact q
  · exact absurd (by unfold wAt; rw [List.getD_eq_getElem?_getD, List.getElem?_eq_none q]; rfl) h
theorem drop_at {ws : List Str} {k : Nat} (h : k < ws.length) : ws.drop k = wAt ws k :: ws.drop (k + 1) := by
  rw [List.drop_eq_getElem_cons h]
  unfold wAt
  rw [List.getD_eq_getElem?_getD, List.getElem?_eq_getElem h]; rfl
theorem num_lt {ws : List Str} {k : Nat} {n : Int} (h : numOf (wAt ws k) = some n) : k < ws.length := wAt_lt fun e => by rw [e, numOf_nil] at h; cases h
theorem unit_ne {j : Nat} {w : Str} (h : boundsL[j]? = some w) : w ≠ "" := by
  match j with
  | 0 => simp at h; subst h; decide
  | 1 => simp at h; subst h; decide
  | 2 => simp at h; subst h; decide
  | n + 3 => simp at h
theorem okPm_set {L : Pm} {j : Nat} {n : Int} (h : okPm L) (h0 : 0 ≤ n) (h1 : n ≤ 1000000) (h2 : j = 0 → n ≤ 9999) : okPm (setPm L j n) := by
  obtain ⟨a, b, c⟩ := h
  unfold setPm
  split
  · rename_i e
    exact ⟨fun m q => by cases q; exact ⟨h0, h2 e⟩, b, c⟩
  · split
    · exact ⟨a, fun m q => by cases q; exact ⟨h0, h1⟩, c⟩
    · exact ⟨a, b, fun m q => by cases q; exact ⟨h0, h1⟩⟩
theorem promL_tells : ∀ (f place : Nat) (L : Pm) (ws : List Str) (k : Nat) (L' : Pm) (k' : Nat), promL f place L ws k = .ok (L', k') → openFrom place L → okPm L → k ≤ ws.length →
    okPm L' ∧ k ≤ k' ∧ k' ≤ ws.length ∧ ∃ X, pmTok L' = pmTok L ++ X ∧ ws.drop k = X ++ ws.drop k' ∧ (place = 0 → 0 < f → X ≠ []) := by
  intro f
  induction f with
  | zero =>
    intro place L ws k L' k' h o ok hk
    cases h
    exact ⟨ok, Nat.le_refl _, hk, [], by simp, by simp, fun _ h => absurd h (by omega)⟩
  | succ f ih =>
    intro place L ws k L' k' h o ok hk
    unfold promL at h
    split at h
    · rename_i q
      cases h
      exact ⟨ok, Nat.le_refl _, hk, [], by simp, by simp, fun h _ => absurd h q.1⟩
    · cases hn : numOf (wAt ws k) with
      | none => rw [hn] at h; cases h
      | some n =>
        rw [hn] at h
        dsimp only at h
        split at h
        · rename_i hle
          cases hs : slotOf place n (wAt ws (k + 1)) with
          | none => rw [hs] at h; cases h
          | some j =>
            rw [hs] at h
            dsimp only at h
            obtain ⟨s1, s2, s3, s4⟩ := slotOf_spec hs
            have hk0 := num_lt hn
            have hk1 : k + 1 < ws.length := wAt_lt (unit_ne s3)
            obtain ⟨t1, t2⟩ := set_tok (n := n) o s1 s2 s3
            obtain ⟨r1, r2, r3, X, r4, r5, r6⟩ := ih (j + 1) _ ws (k + 2) L' k' h t2 (okPm_set ok (numOf_nonneg hn) hle s4) (by omega)
            refine ⟨r1, by omega, r3, [numS n, wAt ws (k + 1)] ++ X, by rw [r4, t1, List.append_assoc], ?_, fun _ _ => by simp⟩
            rw [drop_at hk0, drop_at hk1, r5, num_back hn]; simp
        · cases h
theorem prom_tells {ws : List Str} {k : Nat} {p : Pm} {k' : Nat} (h : prom ws k = .ok (p, k')) (hk : k ≤ ws.length) : okPm p ∧ k ≤ k' ∧ k' ≤ ws.length ∧ ws.drop k = pmWords p ++ ws.drop k' := by
  unfold prom at h
  split at h
  · rename_i e
    cases h
    have hl : k < ws.length := wAt_lt (by rw [e]; decide)
    refine ⟨by simp [okPm], by omega, by omega, ?_⟩
    rw [drop_at hl, e]; rfl
  · obtain ⟨r1, r2, r3, X, r4, r5, r6⟩ := promL_tells 4 0 noPm ws k p k' h (by simp [openFrom]) (by simp [okPm]) hk
    have e : pmTok p = X := by rw [r4]; rfl
    refine ⟨r1, r2, r3, ?_⟩
    unfold pmWords
    rw [if_neg, e, r5]
    intro q
    rw [q] at e
    exact r6 rfl (by omega) (by rw [← e]; rfl)
def oTok (key : Str) : OPm → List Str
  | none => []
  | some p => key :: pmWords p
theorem optProm_tells {key : Str} {ws : List Str} {k : Nat} {o : OPm} {k' : Nat} (hkey : key ≠ "") (h : optProm key ws k = .ok (o, k')) (hk : k ≤ ws.length) :
    okO o ∧ k ≤ k' ∧ k' ≤ ws.length ∧ ws.drop k = oTok key o ++ ws.drop k' := by
  unfold optProm at h
  split at h
  · rename_i e
    have hl : k < ws.length := wAt_lt (by rw [e]; exact hkey)
    cases hp : prom ws (k + 1) with
    | error e => rw [hp] at h; cases h
    | ok r =>
      obtain ⟨p, k2⟩ := r
      rw [hp] at h
      cases h
      obtain ⟨r1, r2, r3, r4⟩ := prom_tells hp (by omega)
      refine ⟨fun q e => by cases e; exact r1, by omega, r3, ?_⟩
      rw [drop_at hl, e, r4]; rfl
  · cases h
    exact ⟨fun _ e => (nomatch e), Nat.le_refl _, hk, rfl⟩

/-! ### rows told -/
def told (S : Acc) : List Str := match S.head with
  | none => []
  | some h => sortRows h S.rows S.pairs
def Shape (S : Acc) : Prop := S.head = none → S.rows = [] ∧ S.pairs = []
theorem two_words {ws : List Str} (h : wAt ws 1 ≠ "") : ws = wAt ws 0 :: wAt ws 1 :: ws.drop 2 := by
  have h1 := wAt_lt h
  conv => lhs; rw [← List.drop_zero (l := ws), drop_at (k := 0) (by omega), drop_at h1]
theorem name_ne {z : Str} (h : isName z = true) : z ≠ "" := fun e => by
  rw [e] at h
  revert h
  decide
theorem tl_e : TL.tl ("" : Str) = [] := by decide
theorem app_nil (a : Str) : a ++ "" = a := TL.ext_tl (by rw [TL.tl_append, tl_e, List.append_nil])
theorem lit_part : ("part " : Str) = "part" ++ " " := by decide
theorem lit_own : (" own " : Str) = " " ++ ("own" ++ " ") := by decide
theorem lit_mended : (" mended " : Str) = " " ++ ("mended" ++ " ") := by decide
theorem lit_sort : ("sort " : Str) = "sort" ++ " " := by decide
theorem lit_barred : ("barred " : Str) = "barred" ++ " " := by decide
theorem row_join (n : Str) (o m : OPm) : Txt.join " " ("part" :: n :: (oTok "own" o ++ oTok "mended" m)) = rowText (n, o, m) := by
  unfold rowText
  rw [lit_part, lit_own, lit_mended]
  cases o with
  | none =>
    cases m with
    | none =>
      show Txt.join " " ["part", n] = ("part" ++ " ") ++ n ++ "" ++ ""
      rw [jn_cons _ _ (by simp), jn_one, app_nil, app_nil]
    | some p =>
      show Txt.join " " ("part" :: n :: "mended" :: pmWords p) = ("part" ++ " ") ++ n ++ "" ++ (" " ++ ("mended" ++ " ") ++ pmText p)
      rw [jn_cons _ _ (by simp), jn_cons _ _ (by simp), jn_cons _ _ (pmWords_ne p), pm_told, app_nil]
      simp only [app_as]
  | some q =>
    cases m with
    | none =>
      show Txt.join " " ("part" :: n :: (("own" : Str) :: pmWords q ++ [])) = ("part" ++ " ") ++ n ++ (" " ++ ("own" ++ " ") ++ pmText q) ++ ""
      rw [List.append_nil, jn_cons _ _ (by simp), jn_cons _ _ (by simp), jn_cons _ _ (pmWords_ne q), pm_told, app_nil]
      simp only [app_as]
    | some p =>
      show Txt.join " " ("part" :: n :: (("own" : Str) :: (pmWords q ++ (("mended" : Str) :: pmWords p)))) = ("part" ++ " ") ++ n ++ (" " ++ ("own" ++ " ") ++ pmText q) ++ (" " ++ ("mended" ++ " ") ++ pmText p)
      rw [jn_cons _ _ (by simp), jn_cons _ _ (by simp), jn_cons _ _ (by simp), jn_app _ (pmWords_ne q) (by simp), jn_cons _ _ (pmWords_ne p), pm_told, pm_told]
      simp only [app_as]
theorem head_join (n : Str) (p : Pm) : Txt.join " " ("sort" :: n :: pmWords p) = (("sort " : Str) ++ n ++ " ") ++ pmText p := by
  rw [lit_sort, jn_cons _ _ (by simp), jn_cons _ _ (pmWords_ne p), pm_told]
  simp only [app_as]
theorem pair_join (a b : Str) : Txt.join " " ["barred", a, b] = pairText (a, b) := by
  show _ = (("barred " : Str) ++ a ++ " ") ++ b
  rw [lit_barred, jn_cons _ _ (by simp), jn_cons _ _ (by simp), jn_one]
  simp only [app_as]
theorem part_tells {rows : List Row} {ws : List Str} {r : Row} {k : Nat} (h : partIn rows ws = .ok (r, k)) : isName r.1 = true ∧ afterRow rows r.1 = true ∧ okO r.2.1 ∧ okO r.2.2 ∧ k ≤ ws.length ∧ 2 ≤ k ∧
    (wAt ws 0 = "part" → k = ws.length → Txt.join " " ws = rowText r) := by
  unfold partIn at h
  split at h
  · cases h
  · rename_i hc
    have hc : isName (wAt ws 1) = true ∧ afterRow rows (wAt ws 1) = true := by simpa using hc
    have hn := name_ne hc.1
    have hl := wAt_lt hn
    cases h1 : optProm "own" ws 2 with
    | error e => rw [h1] at h; cases h
    | ok r1 =>
      obtain ⟨o, k1⟩ := r1
      rw [h1] at h
      dsimp only at h
      cases h2 : optProm "mended" ws k1 with
      | error e => rw [h2] at h; cases h
      | ok r2 =>
        obtain ⟨m, k2⟩ := r2
        rw [h2] at h
        cases h
        obtain ⟨a1, a2, a3, a4⟩ := optProm_tells (by decide) h1 (by omega)
        obtain ⟨b1, b2, b3, b4⟩ := optProm_tells (by decide) h2 a3
        refine ⟨hc.1, hc.2, a1, b1, b3, by omega, fun e0 ek => ?_⟩
        dsimp only at ek
        have e2 : ws.drop k2 = [] := by rw [ek]; simp
        rw [e2, List.append_nil] at b4
        rw [b4] at a4
        have ew := two_words hn
        rw [e0, a4] at ew
        exact (congrArg (Txt.join " ") ew).trans (row_join _ _ _)

theorem contains_mem {z : Str} {l : List Str} (h : l.contains z = true) : z ∈ l := by simpa using h
theorem last_snoc {α : Type} {l : List α} {x : α} : (l ++ [x]).getLast? = some x := by simp
/-- one row more -/
theorem row_good {S S' : Acc} {ws : List Str} (h : rowIn S ws = .ok S') (G : Good S) (sh : Shape S) : Good S' ∧ Shape S' ∧ (S'.head ≠ none) ∧ told S' = told S ++ [Txt.join " " ws] := by
  unfold rowIn at h
  cases hh : S.head with
  | none =>
    rw [hh] at h
    dsimp only at h
    obtain ⟨e1, e2⟩ := sh hh
    split at h
    · cases h
    · rename_i h0
      have h0 : wAt ws 0 = "sort" := by simpa using h0
      split at h
      · cases h
      · rename_i h1
        have h1 : isName (wAt ws 1) = true := by simpa using h1
        have hl := wAt_lt (name_ne h1)
        cases hp : prom ws 2 with
        | error e => rw [hp] at h; cases h
        | ok r =>
          obtain ⟨p, k⟩ := r
          rw [hp] at h
          dsimp only at h
          split at h
          · rename_i ek
            cases h
            obtain ⟨a1, a2, a3, a4⟩ := prom_tells hp (by omega)
            refine ⟨⟨fun x e => ?_, G.rn, G.rl, G.ro, G.pn, G.pl, G.po⟩, fun z => (nomatch z), by simp, ?_⟩
            · cases e; exact ⟨h1, a1⟩
            · have e3 : ws.drop k = [] := by rw [ek]; simp
              rw [e3, List.append_nil] at a4
              have ew := two_words (name_ne h1)
              rw [h0, a4] at ew
              have ej := (congrArg (Txt.join " ") ew).trans (head_join _ _)
              rw [ej]
              unfold told
              rw [hh]
              simp [sortRows, e1, e2]
          · cases h
  | some hd =>
    rw [hh] at h
    dsimp only at h
    split at h
    · rename_i hc
      obtain ⟨c1, c2, c3⟩ := hc
      cases hp : partIn S.rows ws with
      | error e => rw [hp] at h; cases h
      | ok r =>
        obtain ⟨r, k⟩ := r
        rw [hp] at h
        dsimp only at h
        split at h
        · rename_i ek
          cases h
          obtain ⟨a1, a2, a3, a4, a5, a6, a7⟩ := part_tells hp
          refine ⟨⟨fun x e => G.hd x (hh.trans e), fun q hq => ?_, by simp; omega, consec_snoc G.ro fun y e => ?_, fun p hp => ?_, G.pl, G.po⟩, fun z => by simp [hh] at z, by simp [hh], ?_⟩
          · rcases List.mem_append.mp hq with m | m
            · exact G.rn q m
            · simp at m; subst m; exact ⟨a1, a3, a4⟩
          · unfold afterRow at a2
            rw [e] at a2
            exact a2
          · rw [c2] at hp; simp at hp
          · rw [a7 c1 ek]
            unfold told
            simp [hh, sortRows, c2]
        · cases h
    · split at h
      · cases h
      · rename_i hb
        have hb : wAt ws 0 = "barred" ∧ S.pairs.length < 30 := by simpa using hb
        cases hp : pairIn S.rows S.pairs ws with
        | error e => rw [hp] at h; cases h
        | ok p =>
          rw [hp] at h
          dsimp only at h
          split at h
          · rename_i ek
            cases h
            unfold pairIn at hp
            split at hp
            · cases hp
            · rename_i q1
              have q1 : isName (wAt ws 1) = true ∧ ltS (wAt ws 1) (lastPair S.pairs).1 = false := by simpa using q1
              split at hp
              · cases hp
              · rename_i q2
                have q2 : (names S.rows).contains (wAt ws 2) = true ∧ leP (wAt ws 1, wAt ws 2) (lastPair S.pairs) = false := by simpa only [Bool.not_eq_false, Bool.and_eq_true, Bool.not_eq_true'] using q2
                cases hp
                refine ⟨⟨fun x e => G.hd x (hh.trans e), G.rn, G.rl, G.ro, fun p hp => ?_, by simp; omega, consec_snoc G.po fun y e => ?_⟩, fun z => by simp [hh] at z, by simp [hh], ?_⟩
                · rcases List.mem_append.mp hp with m | m
                  · exact G.pn p m
                  · simp at m; subst m; exact ⟨q1.1, q2.1⟩
                · have el : lastPair S.pairs = y := by unfold lastPair; rw [e]; rfl
                  rw [el] at q2
                  have z := q2.2
                  unfold leP at z
                  unfold ltP
                  dsimp only at z ⊢
                  by_cases x1 : wAt ws 1 = y.1
                  · rw [if_pos x1] at z
                    rw [if_pos x1.symm]
                    by_cases x2 : wAt ws 2 = y.2
                    · rw [if_pos x2] at z; cases z
                    · rw [if_neg x2] at z
                      rw [if_neg (Ne.symm x2)]
                      unfold leS at z
                      unfold ltS
                      simpa using z
                  · rw [if_neg x1] at z
                    rw [if_neg (Ne.symm x1)]
                    unfold leS at z
                    unfold ltS
                    simpa using z
                · have h1 : 1 < ws.length := by omega
                  have ew : ws = [("barred" : Str), wAt ws 1, wAt ws 2] := by
                    have e2 := two_words (name_ne q1.1)
                    have e3 : ws.drop 2 = wAt ws 2 :: ws.drop 3 := drop_at (by omega)
                    have e4 : ws.drop 3 = [] := by rw [← ek]; simp
                    rw [e3, e4, hb.1] at e2
                    exact e2
                  rw [(congrArg (Txt.join " ") ew).trans (pair_join _ _)]
                  unfold told
                  simp [hh, sortRows]
          · cases h
theorem rows_good : ∀ (l : List Str) (i : Nat) (S S' : Acc), readRows l i S = .ok S' → Good S → Shape S → Good S' ∧ Shape S' ∧ (l ≠ [] → S'.head ≠ none) ∧ (S.head ≠ none → S'.head ≠ none) ∧ told S' = told S ++ l := by
  intro l
  induction l with
  | nil =>
    intro i S S' h G sh
    cases h
    exact ⟨G, sh, fun h => absurd rfl h, fun h => h, by simp⟩
  | cons r l ih =>
    intro i S S' h G sh
    unfold readRows at h
    split at h
    · cases h
    · cases hr : rowIn S (Txt.split r " ") with
      | error e => rw [hr] at h; cases h
      | ok S1 =>
        rw [hr] at h
        dsimp only at h
        obtain ⟨g1, s1, n1, t1⟩ := row_good hr G sh
        obtain ⟨g2, s2, n2, n3, t2⟩ := ih (i + 1) S1 S' h g1 s1
        refine ⟨g2, s2, fun _ => n3 n1, fun _ => n3 n1, ?_⟩
        rw [t2, t1, join_split sep1 k256_1]
        simp
theorem good0 : Good ⟨none, [], []⟩ := ⟨fun _ e => (nomatch e), fun _ h => absurd h (by simp), by simp, rfl, fun _ h => absurd h (by simp), by simp, rfl⟩
/-- what a text reads as tells the text -/
theorem text_told {t : Str} {S : Acc} (h : textIn t = .ok S) : Good S ∧ ∃ hd, S.head = some hd ∧ Txt.join "\n" (sortRows hd S.rows S.pairs) = t := by
  unfold textIn at h
  have hne : Txt.split t "\n" ≠ [] := split_ne t "\n" (by rw [sepN]; simp) k256_N
  obtain ⟨g, sh, n1, _, e⟩ := rows_good _ _ _ _ h good0 (fun _ => ⟨rfl, rfl⟩)
  refine ⟨g, ?_⟩
  cases hh : S.head with
  | none => exact absurd hh (n1 hne)
  | some hd =>
    refine ⟨hd, rfl, ?_⟩
    have e1 : sortRows hd S.rows S.pairs = Txt.split t "\n" := by
      have : told S = sortRows hd S.rows S.pairs := by unfold told; rw [hh]
      rw [← this, e]; rfl
    rw [e1, join_split sepN k256_N]
end WK
set_option Elab.async false
set_option linter.all false
set_option maxRecDepth 100000
set_option maxHeartbeats 4000000
namespace WK
open PySem PySem.Spec PyProof.Rows L2

/-! ### further steps -/
section
variable {σ : L2.St} {H : Hp} {Q : VK} {QT : Bool → Hp → Prop} {i : Nat} {v x y : V} {ta tb tc te : TE} {D : Ends} {t1 t2 : TS} {tr : TA} {K : PySem.W.Frag} {w : World} {mg : Str → Option Value} {A B : Prop}
theorem w_isi {t u : Value} {c : V} {b : Bool} (ty : TyX K H x t) (k : ClsV c u) (e : PySem.W.kitOne K t u = some b) (q : Q (.bl b) H) : rIsi K [x, c] H Q := ⟨x, c, t, u, b, rfl, k, ty, e, q⟩
theorem w_nT (h : B) : if (!true) = true then A else B := by rw [if_neg (by decide)]; exact h
theorem w_nF (h : A) : if (!false) = true then A else B := by rw [if_pos (by decide)]; exact h
theorem w_all {a : Addr} {bs : List Bool} (h : H a = some (.lst (bs.map V.bl))) (q : Q (.bl (bs.all id)) H) : rAll K [.ref a] H Q := ⟨a, bs, rfl, .inl (.inl h), q⟩
theorem w_m1 {r : V → List V → Hp → VK → Prop} (q : ta σ H fun x H1 => (∃ a, x = .str a) ∧ te σ H1 fun y H2 => r x [y] H2 Q) : tM1 r ta te σ H Q := q
theorem w_m1s {a : Str} {P : Prop} (q : P) : (∃ b, V.str a = .str b) ∧ P := ⟨⟨a, rfl⟩, q⟩
theorem w_split {a b : Str} (h1 : (b.length == 0) = false) (h2 : a.length + 2 ≤ sizeLine) (q : ∀ p, H p = none → Q (.ref p) (upd H p (.lst ((Txt.split a b).map V.str)))) : qSplit (.str a) [.str b] H Q := ⟨a, b, rfl, rfl, h1, h2, q⟩
theorem w_intS {a : Str} {n : Int} (h : intText? a = some n) (hl : a.length ≤ 640) (q : Q (.int n) H) : qIntS [.str a] H Q := ⟨a, n, rfl, h, hl, q⟩
theorem w_drp (q : te σ H fun _ H1 => D.nx σ H1) : tDrop te D σ H := q
theorem w_methV {C : Addr} {m : Str} {sp : Sp} {dvs : List V} {E : XK} {a dx : Addr} {fs : List (Str × V)} (h : σ[i]? = some (some (.ref a))) (ha : H a = some (.ins C dx fs)) (l : fs.lookup m = none) (q : tr σ H fun vs H2 => sp (.ref a :: (vs ++ dvs)) H2 Q E) : tMeth C m sp dvs E (tVar i) tr σ H Q := ⟨_, h, a, dx, fs, rfl, ha, l, q⟩
theorem w_fldV {f : Str} {a C dx : Addr} {fs : List (Str × V)} (h : σ[i]? = some (some (.ref a))) (ha : H a = some (.ins C dx fs)) (c : Cls K C) (n : NoAttr K C f) (l : fs.lookup f = some v) (q : Q v H) : tFld K (tVar i) f σ H Q := ⟨_, h, a, C, dx, fs, v, rfl, ha, c, n, l, q⟩
theorem w_sfld {f : Str} (q : te σ H fun y H1 => ta σ H1 fun x H2 => ∃ a C dx fs, x = .ref a ∧ H2 a = some (.ins C dx fs) ∧ Cls K C ∧ NoAttr K C f ∧ fs.length < 1000 ∧ D.nx σ (upd H2 a (.ins C dx (putF f y fs)))) : sFld K ta te f D σ H := q
theorem w_put {f : Str} {a C dx : Addr} {fs : List (Str × V)} {R : Hp → Prop} (ha : H a = some (.ins C dx fs)) (c : Cls K C) (n : NoAttr K C f) (l : fs.length < 1000) (q : R (upd H a (.ins C dx (putF f y fs)))) :
    ∃ a' C' dx' fs', V.ref a = .ref a' ∧ H a' = some (.ins C' dx' fs') ∧ Cls K C' ∧ NoAttr K C' f ∧ fs'.length < 1000 ∧ R (upd H a' (.ins C' dx' (putF f y fs'))) := ⟨a, C, dx, fs, rfl, ha, c, n, l, q⟩
theorem w_yes (q : QT true H) : tYes σ H QT := q
theorem w_iStr {R : It → Hp → Prop} (q : te σ H fun v H1 => ∃ x, v = .str x ∧ R (Its x) H1) : iStr te σ H R := q
end
/-- steps that need no fact -/
local macro_rules | `(tactic| walk_at "w") => `(tactic| repeat (first
  | with_reducible refine w_seq ?_ | with_reducible refine w_asg ?_ | with_reducible refine w_ret ?_ | with_reducible refine w_drp ?_ | with_reducible refine w_next ?_ | with_reducible refine w_if ?_
  | ((with_reducible refine' w_var ?_ ?_); rotate_left; rfl) | with_reducible refine w_c ?_ | with_reducible refine w_op ?_ | with_reducible refine w_un ?_ | with_reducible refine w_test ?_ | with_reducible refine w_tB ?_ | with_reducible refine w_bl ?_
  | with_reducible refine w_and ?_ | with_reducible refine w_or ?_ | with_reducible refine w_not ?_ | with_reducible refine w_andV ?_ | with_reducible refine w_orV ?_ | with_reducible refine w_notV ?_ | with_reducible refine w_ebl ?_
  | with_reducible refine w_ifE ?_ | with_reducible refine w_nil ?_ | with_reducible refine w_cons ?_ | with_reducible refine w_cb ?_ | with_reducible refine w_call ?_ | with_reducible refine w_chain ?_ | with_reducible refine w_I0 ?_
  | with_reducible refine w_isN ?_ | with_reducible refine w_notN ?_ | with_reducible refine w_ltS ?_ | with_reducible refine w_leS ?_ | with_reducible refine w_m1 ?_ | with_reducible refine w_m1s ?_
  | with_reducible refine w_iT ?_ | with_reducible refine w_iF ?_ | with_reducible refine w_nT ?_ | with_reducible refine w_nF ?_ | with_reducible refine w_yes ?_ | with_reducible refine w_sfld ?_ | with_reducible refine w_lc ?_ | with_reducible refine w_iStr ?_))

section
variable {K : PySem.W.Frag} {w : World} {mg : Str → Option Value} {vs : List V} {H : Hp} {Q : VK} {E : XK}
/-- all signs of a text asked -/
theorem lc_signs {σ : L2.St} {j : Nat} {L z : Str} (hw : ∀ v, wipe ((wipe σ [j]).set j (some v)) [j] = wipe σ [j]) (hj : ∀ v : V, ((wipe σ [j]).set j (some v))[j]? = some (some v)) (hz : z.length ≤ 16000000)
    (q : ∀ D H', H D = none → KB [] H H' → H' D = some (.lst ((z.cps.toList.map fun c => decide (c ∈ L.cps.toList)).map V.bl)) → Q (.ref D) H') :
    LcOk (Its z) (gName j) tYes (tOp qInC (tVar j) (tC (.str L))) [j] σ H Q := by
  refine lcG walk_str [] (fun i acc _ => acc = ((z.cps.toList.take i).map fun c => decide (c ∈ L.cps.toList)).map V.bl) (fun b hb => absurd hb (by simp)) (fun _ _ => trivial) (fun _ _ => rfl) (fun _ _ _ _ _ a => a) hz (fun i x H2 H3 acc D K1 K0 hi k e hD a y f1 f0 => ?_) (fun D acc H' hD k e hl a => ?_)
  · obtain ⟨rfl, c, hc, rfl⟩ := y
    refine ⟨hw _, ?_⟩
    refine w_yes (w_iT ?_)
    refine w_op (w_var (hj _) (w_c (w_inC (f1 _ _ (KB.refl _ _) ?_))))
    have hc' : z.cps.toList[i]? = some c := by rw [Array.getElem?_toList]; exact hc
    rw [a, List.take_succ, hc']
    simp
  · refine q D H' hD k ?_
    rw [e, a, List.take_of_length_le (by rw [Array.length_toList]; exact Nat.le_refl _)]
/-! ### is_whole -/
def sp_is_whole : Sp := fun vs H Q _ => ∃ a b c : Int, vs = [.int a, .int b, .int c] ∧ Q (.bl (decide (b ≤ a) && decide (a ≤ c))) H
theorem rd_is_whole (T : Tx w K mg) (h : sp_is_whole vs H Q E) : t_is_whole K { nx := fun _ H' => Q .non H', rt := Q } (start N_is_whole vs) H := by
  obtain ⟨a, b, c, rfl, q⟩ := h
  unfold t_is_whole
  walk_at "w"
  refine w_isi (.base (.int _)) (.ty _) T.is_II ?_
  walk_at "w"
  refine w_isi (.base (.int _)) (.ty _) T.is_IB ?_
  walk_at "w"
  refine w_ite (fun h1 => ?_) (fun h1 => ?_)
  · walk_at "w"
    simpa [h1] using q
  · show Q _ _
    simpa [h1] using q
/-! ### is_name -/
def sp_is_name : Sp := fun vs H Q _ => ∃ z : Str, vs = [.str z] ∧ z.length ≤ 16000000 ∧ ∀ H', KB [] H H' → Q (.bl (isName z)) H'
theorem szl {n : Nat} (h : n ≤ 16000000) : n ≤ sizeLine := Nat.le_trans h (by rw [sizeLine_eq]; decide)
theorem rd_is_name (T : Tx w K mg) (h : sp_is_name vs H Q E) : t_is_name K { nx := fun _ H' => Q .non H', rt := Q } (start N_is_name vs) H := by
  obtain ⟨z, rfl, hz, q⟩ := h
  unfold t_is_name
  walk_at "w"
  refine w_isi (.base (.str _)) (.ty _) T.is_StSt ?_
  walk_at "w"
  refine w_lenS (szl hz) ?_
  walk_at "w"
  have q0 := q H (KB.refl _ _)
  refine w_ite (fun h1 => ?_) (fun h1 => ?_)
  · walk_at "w"
    refine w_ite (fun h2 => ?_) (fun h2 => ?_)
    · walk_at "w"
      simp only [Bool.not_eq_true'] at h2
      have e : isName z = false := by unfold isName; rw [h1, h2]; rfl
      rw [e] at q0; exact q0
    · simp only [Bool.not_eq_false'] at h2
      walk_at "w"
      refine w_inT (T.k_BARRED H) rfl rfl ?_
      walk_at "w"
      refine w_ite (fun h3 => ?_) (fun h3 => ?_)
      · rw [if_neg Bool.false_ne_true] at h3
        walk_at "w"
        have e : isName z = false := by unfold isName; rw [h1, h2, h3]; rfl
        rw [e] at q0; exact q0
      · rw [if_neg Bool.false_ne_true] at h3
        walk_at "w"
        refine ⟨z, rfl, lc_signs (L := "abcdefghijklmnopqrstuvwxyz") (fun _ => rfl) (fun _ => rfl) hz fun D H' hD k e => ?_⟩
        walk_at "w"
        refine w_all e ?_
        have q1 := q H' k
        have el : ((z.cps.toList.map fun c => decide (c ∈ ("abcdefghijklmnopqrstuvwxyz" : Str).cps.toList)).all id) = isName z := by
          unfold isName
          rw [h1, h2, h3, List.all_map]
          rfl
        rw [el]
        exact q1
  · walk_at "w"
    have e : isName z = false := by unfold isName; rw [h1]; rfl
    rw [e] at q0; exact q0
end
end WK
set_option Elab.async false
set_option linter.all false
set_option maxRecDepth 100000
set_option maxHeartbeats 4000000
namespace WK
open PySem PySem.Spec PyProof.Rows L2
/-- steps that need no fact -/
local macro_rules | `(tactic| walk_at "w") => `(tactic| repeat (first
  | with_reducible refine w_seq ?_ | with_reducible refine w_asg ?_ | with_reducible refine w_ret ?_ | with_reducible refine w_drp ?_ | with_reducible refine w_next ?_ | with_reducible refine w_if ?_
  | ((with_reducible refine' w_var ?_ ?_); rotate_left; rfl) | with_reducible refine w_c ?_ | with_reducible refine w_op ?_ | with_reducible refine w_un ?_ | with_reducible refine w_test ?_ | with_reducible refine w_tB ?_ | with_reducible refine w_bl ?_
  | with_reducible refine w_and ?_ | with_reducible refine w_or ?_ | with_reducible refine w_not ?_ | with_reducible refine w_andV ?_ | with_reducible refine w_orV ?_ | with_reducible refine w_notV ?_ | with_reducible refine w_ebl ?_
  | with_reducible refine w_ifE ?_ | with_reducible refine w_nil ?_ | with_reducible refine w_cons ?_ | with_reducible refine w_cb ?_ | with_reducible refine w_call ?_ | with_reducible refine w_chain ?_ | with_reducible refine w_I0 ?_
  | with_reducible refine w_isN ?_ | with_reducible refine w_notN ?_ | with_reducible refine w_ltS ?_ | with_reducible refine w_leS ?_ | with_reducible refine w_m1 ?_ | with_reducible refine w_m1s ?_
  | with_reducible refine w_iT ?_ | with_reducible refine w_iF ?_ | with_reducible refine w_nT ?_ | with_reducible refine w_nF ?_ | with_reducible refine w_yes ?_ | with_reducible refine w_sfld ?_ | with_reducible refine w_lc ?_ | with_reducible refine w_iStr ?_))

/-! ### little facts -/
theorem inV_str (x : Str) (ys : List Str) : inV (.str x) (ys.map V.str) = ys.contains x := by
  unfold inV
  rw [List.any_map]
  induction ys with
  | nil => rfl
  | cons y r ih =>
    rw [List.any_cons, List.contains_cons, ih]
    show ((y == x) || _) = ((x == y) || _)
    rw [Bool.beq_comm]
theorem flat_strs (ys : List Str) : (ys.map V.str).all flatV = true := by
  rw [List.all_map]
  exact List.all_eq_true.mpr fun _ _ => rfl
theorem atI_nat {α : Type} {xs : List α} {k : Nat} {v : α} (h : xs[k]? = some v) : atI xs (k : Int) = some v := by
  have hl : k < xs.length := by
    rcases Nat.lt_or_ge k xs.length with q | q
    · exact q
    · rw [List.getElem?_eq_none q] at h; cases h
  unfold atI ixN
  rw [if_pos (by omega), if_pos (by omega)]
  exact h
theorem atI_last {α : Type} {xs : List α} {v : α} (h : xs.getLast? = some v) : atI xs (-1) = some v := by
  have hl : 0 < xs.length := by
    cases xs with
    | nil => cases h
    | cons a r => simp
  unfold atI ixN
  rw [if_neg (by omega), if_pos (by omega)]
  show xs[(-1 + (xs.length : Int)).toNat]? = some v
  rw [show (-1 + (xs.length : Int)).toNat = xs.length - 1 by omega, ← List.getLast?_eq_getElem?]
  exact h
theorem szb {n : Nat} (h : n ≤ 16777216) : n ≤ sizeLine := Nat.le_trans h (by rw [sizeLine_eq]; decide)
def oV : Option Int → V
  | none => .non
  | some n => .int n
theorem str1 {d : Nat} : decide (V.str ⟨#[d]⟩ = V.str "0") = decide (d = 48) := by
  have e0 : ("0" : Str) = ⟨#[48]⟩ := by decide
  rw [e0]
  by_cases h : d = 48
  · subst h; rw [decide_eq_true rfl, decide_eq_true rfl]
  · rw [decide_eq_false h, decide_eq_false]
    intro e
    injection e with e
    injection e with e
    have := congrArg Array.toList e
    simp at this
    exact h this
theorem dec_str {a b : Str} : decide (V.str a = V.str b) = decide (a = b) := by
  by_cases h : a = b
  · subst h; rw [decide_eq_true rfl, decide_eq_true rfl]
  · rw [decide_eq_false h, decide_eq_false (fun e => h (by injection e))]

section
variable {K : PySem.W.Frag} {w : World} {mg : Str → Option Value} {vs : List V} {H : Hp} {Q : VK} {E : XK}
/-! ### number_of -/
def sp_number_of : Sp := fun vs H Q _ => ∃ z : Str, vs = [.str z] ∧ z.length ≤ 16000000 ∧ ∀ H', KB [] H H' → Q (oV (numOf z)) H'
theorem rd_number_of (T : Tx w K mg) (h : sp_number_of vs H Q E) : t_number_of K { nx := fun _ H' => Q .non H', rt := Q } (start N_number_of vs) H := by
  obtain ⟨z, rfl, hz, q⟩ := h
  have no : ∀ H', KB [] H H' → isNum z = false → Q .non H' := fun H' k e => by
    have := q H' k
    unfold numOf at this
    rw [e, if_neg Bool.false_ne_true] at this
    exact this
  unfold t_number_of
  walk_at "w"
  refine w_isi (.base (.str _)) (.ty _) T.is_StSt ?_
  walk_at "w"
  refine w_lenS (szl hz) ?_
  walk_at "w"
  refine w_ite (fun h1 => ?_) (fun h1 => ?_)
  · walk_at "w"
    refine w_ite (fun h2 => ?_) (fun h2 => ?_)
    · simp only [Bool.not_eq_true'] at h2
      walk_at "w"
      exact no _ (KB.refl _ _) (by unfold isNum; rw [h1, h2]; rfl)
    · simp only [Bool.not_eq_false'] at h2
      walk_at "w"
      refine ⟨z, rfl, lc_signs (L := "0123456789") (fun _ => rfl) (fun _ => rfl) hz fun D H' hD k e => ?_⟩
      walk_at "w"
      refine w_all e ?_
      walk_at "w"
      have el : ((z.cps.toList.map fun c => decide (c ∈ ("0123456789" : Str).cps.toList)).all id) = (z.cps.toList.all fun c => decide (c ∈ figuresS.cps.toList)) := by
        rw [List.all_map]; rfl
      rw [el]
      refine w_ite (fun h3 => ?_) (fun h3 => ?_)
      · simp only [Bool.not_eq_true'] at h3
        walk_at "w"
        exact no _ k (by unfold isNum; rw [h1, h2, h3]; rfl)
      · simp only [Bool.not_eq_false'] at h3
        walk_at "w"
        have l1 : 1 ≤ z.length := by have := of_decide_eq_true h1; omega
        obtain ⟨d, hd⟩ : ∃ d, z.cps.toList[0]? = some d := by
          have : 0 < z.cps.toList.length := by rw [Array.length_toList]; exact l1
          exact ⟨_, List.getElem?_eq_getElem this⟩
        refine w_ixS (szl hz) (atI_nat hd) ?_
        walk_at "w"
        refine w_eq rfl ?_
        walk_at "w"
        rw [str1]
        refine w_ite (fun h4 => ?_) (fun h4 => ?_)
        · have h4 := of_decide_eq_true h4
          walk_at "w"
          refine w_ne rfl ?_
          walk_at "w"
          rw [dec_str]
          refine w_ite (fun h5 => ?_) (fun h5 => ?_)
          · simp only [Bool.not_eq_true'] at h5
            walk_at "w"
            refine no _ k ?_
            unfold isNum
            rw [h1, h2, h3, hd, h4, h5]; rfl
          · simp only [Bool.not_eq_false'] at h5
            walk_at "w"
            have hn : isNum z = true := by unfold isNum; rw [h1, h2, h3, hd, h4, h5]; rfl
            have := q H' k
            unfold numOf at this
            rw [if_pos hn] at this
            refine w_intS (num_text hn) ?_ this
            have := of_decide_eq_true h2
            omega
        · have h4 := of_decide_eq_false h4
          walk_at "w"
          have hn : isNum z = true := by
            unfold isNum
            rw [h1, h2, h3, hd]
            have : (some d == some 48) = false := beq_eq_false_iff_ne.mpr (fun e => h4 (by injection e))
            rw [this]; rfl
          have := q H' k
          unfold numOf at this
          rw [if_pos hn] at this
          refine w_intS (num_text hn) ?_ this
          have := of_decide_eq_true h2
          omega
  · walk_at "w"
    exact no _ (KB.refl _ _) (by unfold isNum; rw [h1]; rfl)
/-! ### words_of -/
def sp_words_of : Sp := fun vs H Q _ => ∃ z : Str, vs = [.str z] ∧ z.length ≤ 16000000 ∧ (((Txt.split z " ").contains "" = true → ∀ H', KB [] H H' → Q .non H') ∧
  ((Txt.split z " ").contains "" = false → ∀ p H', H p = none → KB [] H H' → H' p = some (.lst ((Txt.split z " ").map V.str)) → Q (.ref p) H'))
theorem rd_words_of (T : Tx w K mg) (h : sp_words_of vs H Q E) : t_words_of K { nx := fun _ H' => Q .non H', rt := Q } (start N_words_of vs) H := by
  obtain ⟨z, rfl, hz, q1, q2⟩ := h
  unfold t_words_of
  walk_at "w"
  refine w_isi (.base (.str _)) (.ty _) T.is_StSt ?_
  walk_at "w"
  refine w_split (by decide) (by rw [sizeLine_eq]; omega) fun p hp => ?_
  walk_at "w"
  refine w_inL (.of upd_same) rfl (flat_strs _) ?_
  walk_at "w"
  rw [if_neg Bool.false_ne_true, inV_str]
  refine w_ite (fun h1 => ?_) (fun h1 => ?_)
  · walk_at "w"
    exact q1 h1 _ (KB.new (KB.refl _ _) hp)
  · walk_at "w"
    exact q2 h1 _ _ hp (KB.new (KB.refl _ _) hp) upd_same
end
end WK
set_option Elab.async false
set_option linter.all false
set_option maxRecDepth 100000
set_option maxHeartbeats 4000000
namespace WK
open PySem PySem.Spec PyProof.Rows L2
/-! ### loops, targets -/
def ForOk (J : It) (g : TG) (tb : TS) (D : Ends) (σ : L2.St) (H : Hp) : Prop :=
  ∃ W : Nat → Nat → L2.St → Hp → Prop, (∃ m, W 0 m σ H) ∧ ∀ i m σ H, W i m σ H →
    (J.stop i H ∧ D.nx σ H) ∨ (J.go i H ∧ ∃ N : L2.St → Hp → Prop, (∀ σ' H', N σ' H' → ∃ m', m' < m ∧ W (i + 1) m' σ' H') ∧ ∀ x H', J.yld i H x H' → g x σ H' fun σ2 H2 => tb { D with nx := N, ct := N, bk := D.nx } σ2 H2)
theorem w_for {wi : TI} {g : TG} {tb : TS} {D : Ends} {σ : L2.St} {H : Hp} (q : wi σ H fun J H1 => ForOk J g tb D σ H1) : tFor wi g tb D σ H := q
theorem forG {J : It} {n : Nat} {G : Hp → Prop} {Y : Nat → Hp → V → Hp → Prop} (w : Walk J n G Y) {g : TG} {tb : TS} {D : Ends} {σ : L2.St} {H : Hp} (Pv : Nat → L2.St → Hp → Prop) (h0 : Pv 0 σ H) (hG : ∀ i σ H, i ≤ n → Pv i σ H → G H)
    (hs : ∀ i x σ H H', i < n → Pv i σ H → Y i H x H' → g x σ H' fun σ2 H2 => tb { D with nx := Pv (i + 1), ct := Pv (i + 1), bk := D.nx } σ2 H2) (hd : ∀ σ H, Pv n σ H → D.nx σ H) : ForOk J g tb D σ H := for_it w Pv h0 hG hs hd
theorem walk_zipT {K : PySem.W.Frag} {a b : Addr} {xs ys : List V} {n : Nat} (hn : n = min xs.length ys.length) : Walk (RZ.ItzT K a b) n (fun H => SqT K H a xs ∧ SqT K H b ys) (YPair (fun i => xs[i]?) (fun i => ys[i]?)) := by
  subst hn
  refine ⟨fun i _ hi q => ?_, fun _ q => ⟨xs, ys, q.1, q.2, by omega⟩, fun i H v H' _ q y => ?_⟩
  · have h1 : i < xs.length := by omega
    have h2 : i < ys.length := by omega
    exact ⟨xs, ys, xs[i], ys[i], q.1, q.2, List.getElem?_eq_getElem h1, List.getElem?_eq_getElem h2⟩
  · obtain ⟨T, x, z, h1, h2, h3, h4, h5⟩ := y
    exact ⟨T, x, z, h1, h2, h3, h4 xs q.1, h5 ys q.2⟩
section
variable {σ : L2.St} {H : Hp} {K : PySem.W.Frag} {i j k : Nat} {x y z : V} {T : Addr} {R : L2.St → Hp → Prop} {Q : VK} {QA : List V → Hp → Prop}
theorem w_gTup2 (h : SqT K H T [x, y]) (q : R ((σ.set i (some x)).set j (some y)) H) : gTup K 2 (gCons (gName i) (gCons (gName j) gNil)) (.ref T) σ H R := ⟨T, _, rfl, h, rfl, x, _, rfl, y, _, rfl, rfl, q⟩
theorem w_gTup3 (h : SqT K H T [x, y, z]) (q : R (((σ.set i (some x)).set j (some y)).set k (some z)) H) : gTup K 3 (gCons (gName i) (gCons (gName j) (gCons (gName k) gNil))) (.ref T) σ H R := ⟨T, _, rfl, h, rfl, x, _, rfl, y, _, rfl, z, _, rfl, rfl, q⟩
theorem w_gN (q : R (σ.set i (some x)) H) : gName i x σ H R := q
theorem w_iTup {te : TE} {R : It → Hp → Prop} (q : te σ H fun x H1 => ∃ a, x = .ref a ∧ (∃ xs, SqT K H1 a xs) ∧ R (Itt K a) H1) : iTup K te σ H R := q
theorem w_iList {te : TE} {R : It → Hp → Prop} (q : te σ H fun x H1 => ∃ a, x = .ref a ∧ (∃ xs, SqL K H1 a xs) ∧ R (Itl K a) H1) : iList K te σ H R := q
theorem w_itI {a : Addr} {xs : List V} {R : Addr → Prop} (h : SqT K H a xs) (q : R a) : ∃ b, V.ref a = .ref b ∧ (∃ xs, SqT K H b xs) ∧ R b := ⟨a, rfl, ⟨xs, h⟩, q⟩
theorem w_itL {a : Addr} {xs : List V} {R : Addr → Prop} (h : SqL K H a xs) (q : R a) : ∃ b, V.ref a = .ref b ∧ (∃ xs, SqL K H b xs) ∧ R b := ⟨a, rfl, ⟨xs, h⟩, q⟩
theorem w_tup1 {tr : TA} (q : tr σ H fun xs H1 => xs.length ≤ sizeLine ∧ ∀ p, H1 p = none → Q (.ref p) (upd H1 p (.tup xs))) : tTup tr σ H Q := q
theorem w_tupE {xs : List V} {R : Addr → Hp → Prop} (h : xs.length ≤ 1000) (q : ∀ p, H p = none → R p (upd H p (.tup xs))) : xs.length ≤ sizeLine ∧ ∀ p, H p = none → R p (upd H p (.tup xs)) := ⟨szb (by omega), q⟩
theorem w_lstE {xs : List V} {R : Addr → Hp → Prop} (h : xs.length ≤ 1000) (q : ∀ p, H p = none → R p (upd H p (.lst xs))) : xs.length ≤ sizeLine ∧ ∀ p, H p = none → R p (upd H p (.lst xs)) := ⟨szb (by omega), q⟩
theorem w_callN {n m : Nat} {sp : Sp} {gV : List V → List V → List V} {E : XK} {t tk : TA} (q : t σ H fun vs H1 => tk σ H1 fun zs H2 => vs.length = n ∧ zs.length = m ∧ sp (gV vs zs) H2 Q E) : tCallN n m sp gV E t tk σ H Q := q
theorem w_iZip {ta : TA} {R : It → Hp → Prop} (q : ta σ H fun vs H1 => ∃ a b xs ys, vs = [.ref a, .ref b] ∧ ((SqL K H1 a xs ∧ SqL K H1 b ys ∧ R (Itz K a b) H1) ∨ (SqT K H1 a xs ∧ SqT K H1 b ys ∧ R (RZ.ItzT K a b) H1))) : RZ.iZipA K ta σ H R := q
theorem w_zipT {a b : Addr} {xs ys : List V} {R : It → Hp → Prop} (ha : SqT K H a xs) (hb : SqT K H b ys) (q : R (RZ.ItzT K a b) H) :
    ∃ a' b' xs ys, [V.ref a, V.ref b] = [.ref a', .ref b'] ∧ ((SqL K H a' xs ∧ SqL K H b' ys ∧ R (Itz K a' b') H) ∨ (SqT K H a' xs ∧ SqT K H b' ys ∧ R (RZ.ItzT K a' b') H)) := ⟨a, b, xs, ys, rfl, .inr ⟨ha, hb, q⟩⟩
theorem w_kd {w : World} {p : Addr} {a : Str} {v : V} (h : KDct K w p a v) (q : Q v H) : rIxD K w (.ref p) (.str a) H Q := ⟨p, a, v, rfl, rfl, h, q⟩
theorem w_sl {r : V → Option Int → Option Int → Hp → VK → Prop} {te : TE} {tl th : TO} (q : te σ H fun x H1 => tl σ H1 fun l H2 => th σ H2 fun u H3 => r x l u H3 Q) : tSl r te tl th σ H Q := q
theorem w_part {te : TE} {QO : Option Int → Hp → Prop} (q : te σ H fun x H1 => ∃ i, x = .int i ∧ QO (some i) H1) : tPart te σ H QO := q
theorem w_noPart {QO : Option Int → Hp → Prop} (q : QO none H) : tNoPart σ H QO := q
theorem w_eInt {n : Int} {R : Int → Prop} (q : R n) : ∃ i, V.int n = .int i ∧ R i := ⟨n, rfl, q⟩
end
/-- steps that need no fact -/
local macro_rules | `(tactic| walk_at "w") => `(tactic| repeat (first
  | with_reducible refine w_seq ?_ | with_reducible refine w_asg ?_ | with_reducible refine w_ret ?_ | with_reducible refine w_drp ?_ | with_reducible refine w_next ?_ | with_reducible refine w_if ?_
  | ((with_reducible refine' w_var ?_ ?_); rotate_left; rfl) | with_reducible refine w_c ?_ | with_reducible refine w_op ?_ | with_reducible refine w_un ?_ | with_reducible refine w_test ?_ | with_reducible refine w_tB ?_ | with_reducible refine w_bl ?_
  | with_reducible refine w_and ?_ | with_reducible refine w_or ?_ | with_reducible refine w_not ?_ | with_reducible refine w_andV ?_ | with_reducible refine w_orV ?_ | with_reducible refine w_notV ?_ | with_reducible refine w_ebl ?_
  | with_reducible refine w_ifE ?_ | with_reducible refine w_nil ?_ | with_reducible refine w_cons ?_ | with_reducible refine w_cb ?_ | with_reducible refine w_call ?_ | with_reducible refine w_chain ?_ | with_reducible refine w_I0 ?_
  | with_reducible refine w_isN ?_ | with_reducible refine w_notN ?_ | with_reducible refine w_ltS ?_ | with_reducible refine w_leS ?_ | with_reducible refine w_m1 ?_ | with_reducible refine w_m1s ?_
  | with_reducible refine w_iT ?_ | with_reducible refine w_iF ?_ | with_reducible refine w_nT ?_ | with_reducible refine w_nF ?_ | with_reducible refine w_yes ?_ | with_reducible refine w_sfld ?_ | with_reducible refine w_lc ?_ | with_reducible refine w_for ?_ | with_reducible refine w_iStr ?_ | with_reducible refine w_iTup ?_ | with_reducible refine w_iList ?_ | with_reducible refine w_tup1 ?_ | with_reducible refine w_callN ?_ | with_reducible refine w_iZip ?_ | with_reducible refine w_sl ?_ | with_reducible refine w_part ?_ | with_reducible refine w_noPart ?_ | with_reducible refine w_eInt ?_ | with_reducible refine w_gN ?_))

/-! ### the program's objects -/
abbrev adP (K : PySem.W.Frag) : Addr := He.ga K "Promise"
def pmV (p : Pm) : List V := [oV p.1, oV p.2.1, oV p.2.2]
def PmO (K : PySem.W.Frag) (H : Hp) (a : Addr) (p : Pm) : Prop := ∃ dx t, H a = some (.ins (He.ga K "Promise") dx [("limits", .ref t)]) ∧ H t = some (.tup (pmV p))
def OPO (K : PySem.W.Frag) (H : Hp) (v : V) : OPm → Prop
  | none => v = .non
  | some p => ∃ a, v = .ref a ∧ PmO K H a p
def RowO (K : PySem.W.Frag) (H : Hp) (v : V) (r : Row) : Prop := ∃ t v1 v2, v = .ref t ∧ H t = some (.tup [.str r.1, v1, v2]) ∧ OPO K H v1 r.2.1 ∧ OPO K H v2 r.2.2
def PairO (H : Hp) (v : V) (p : Pair) : Prop := ∃ t, v = .ref t ∧ H t = some (.tup [.str p.1, .str p.2])
theorem PmO.im {K : PySem.W.Frag} {H H' : Hp} {a : Addr} {p : Pm} (h : PmO K H a p) (k : Im H H') : PmO K H' a p := by
  obtain ⟨dx, t, h1, h2⟩ := h
  exact ⟨dx, t, k _ _ h1 rfl, k _ _ h2 rfl⟩
theorem OPO.im {K : PySem.W.Frag} {H H' : Hp} {v : V} {o : OPm} (h : OPO K H v o) (k : Im H H') : OPO K H' v o := by
  cases o with
  | none => exact h
  | some p => obtain ⟨a, e, h⟩ := h; exact ⟨a, e, h.im k⟩
theorem RowO.im {K : PySem.W.Frag} {H H' : Hp} {v : V} {r : Row} (h : RowO K H v r) (k : Im H H') : RowO K H' v r := by
  obtain ⟨t, v1, v2, e, h1, h2, h3⟩ := h
  exact ⟨t, v1, v2, e, k _ _ h1 rfl, h2.im k, h3.im k⟩
theorem PairO.im {H H' : Hp} {v : V} {p : Pair} (h : PairO H v p) (k : Im H H') : PairO H' v p := by
  obtain ⟨t, e, h1⟩ := h
  exact ⟨t, e, k _ _ h1 rfl⟩
theorem pget {α β : Type} {F : α → β → Prop} : ∀ {xs : List α} {ys : List β} {i : Nat} {x : α}, Paired F xs ys → xs[i]? = some x → ∃ y, ys[i]? = some y ∧ F x y
  | _, _, 0, _, .cons h _, e => by cases e; exact ⟨_, rfl, h⟩
  | _, _, i + 1, _, .cons _ t, e => pget (i := i) t e
theorem pgetR {α β : Type} {F : α → β → Prop} : ∀ {xs : List α} {ys : List β} {i : Nat} {y : β}, Paired F xs ys → ys[i]? = some y → ∃ x, xs[i]? = some x ∧ F x y
  | _, _, 0, _, .cons h _, e => by cases e; exact ⟨_, rfl, h⟩
  | _, _, i + 1, _, .cons _ t, e => pgetR (i := i) t e
theorem rep_succ {α : Type} (i : Nat) (x : α) : List.replicate i x ++ [x] = List.replicate (i + 1) x := by
  rw [List.replicate_succ']
theorem all_rep (n : Nat) : ((List.replicate n true).all id) = true := by simp

section
variable {K : PySem.W.Frag} {w : World} {mg : Str → Option Value} {vs : List V} {H : Hp} {Q : VK} {E : XK}
theorem pm_ty (T : Tx w K mg) {a dx : Addr} {fs : List (Str × V)} (h : H a = some (.ins (He.ga K "Promise") dx fs)) : TyX K H (.ref a) (.ref (He.ga K "Promise")) := .base (.ins h T.cl_Promise T.ha_P T.hn_c T.ht_c T.hm_P)
theorem st_ty (T : Tx w K mg) {a dx : Addr} {fs : List (Str × V)} (h : H a = some (.ins (He.ga K "Sort") dx fs)) : TyX K H (.ref a) (.ref (He.ga K "Sort")) := .base (.ins h T.cl_Sort T.ha_S T.hn_c T.ht_c T.hm_S)
/-! ### Promise.__init__ -/
def sp_Promise_init (K : PySem.W.Frag) : Sp := fun vs H Q _ => ∃ (a dx : Addr) (p : Pm), vs = [.ref a, oV p.1, oV p.2.1, oV p.2.2] ∧ okPm p ∧ H a = some (.ins (He.ga K "Promise") dx []) ∧
  ∀ t H', KB [a] H H' → H' a = some (.ins (He.ga K "Promise") dx [("limits", .ref t)]) → H' t = some (.tup (pmV p)) → Q .non H'
theorem rd_Promise_init (T : Tx w K mg) (h : sp_Promise_init K vs H Q E) : t_Promise_init w K sp_is_whole { nx := fun _ H' => Q .non H', rt := Q } (start N_Promise_init vs) H := by
  obtain ⟨a, dx, p, rfl, ok, ha, q⟩ := h
  unfold t_Promise_init
  walk_at "w"
  refine ⟨szb (by show 3 ≤ 16777216; decide), fun tp htp => ?_⟩
  walk_at "w"
  refine ⟨_, _, boundsL.map V.str, pmV p, rfl, .inr ⟨T.k_BOUNDS _, .of upd_same, ?_⟩⟩
  refine forG (walk_zipT (n := 3) rfl) (fun i σ2 H2 => KB [] H H2 ∧ SqT K H2 tp (pmV p) ∧ ∃ u v, σ2 = [some (.ref a), some (oV p.1), some (oV p.2.1), some (oV p.2.2), u, v]) ⟨KB.new (KB.refl _ _) htp, .of upd_same, _, _, rfl⟩ (fun i σ2 H2 hi P => ⟨T.k_BOUNDS _, P.2.1⟩) (fun i x σ2 H2 H3 hi P y => ?_) (fun σ2 H2 P => ?_)
  · obtain ⟨k, hq, u, v, rfl⟩ := P
    obtain ⟨t, x1, x2, rfl, ht, rfl, e1, e2⟩ := y
    refine w_gTup2 (.of upd_same) ?_
    have kn : KB [] H (upd H2 t (.tup [x1, x2])) := KB.new k ht
    have fin : ∀ u v, (∃ u' v', ([some (.ref a), some (oV p.1), some (oV p.2.1), some (oV p.2.2), u, v] : L2.St) = [some (.ref a), some (oV p.1), some (oV p.2.1), some (oV p.2.2), u', v']) := fun u v => ⟨u, v, rfl⟩
    have go : ∀ (nm : Str) (n : Int) (m : Int), x1 = .str nm → KDct K w (He.ga K "MOST_OF") nm (.int m) → x2 = .int n → 0 ≤ n → n ≤ m → (tIfS (tAnd (tTest (tOp qNotN (tVar 5) (tC .non))) (tNot (tB (tCallN 2 (["most"] : List Str).length sp_is_whole (fun vs zs => vs ++ zs) E0 (tCons (tVar 5) (tCons (tC (.int 0)) tNil)) (tCons (tOp (rIxD K w) (tC (.ref (He.ga K "MOST_OF"))) (tVar 4)) tNil))))) tNever tNext)
        { nx := fun σ2 H2 => KB [] H H2 ∧ SqT K H2 tp (pmV p) ∧ ∃ u v, σ2 = [some (.ref a), some (oV p.1), some (oV p.2.1), some (oV p.2.2), u, v], rt := Q, ct := fun σ2 H2 => KB [] H H2 ∧ SqT K H2 tp (pmV p) ∧ ∃ u v, σ2 = [some (.ref a), some (oV p.1), some (oV p.2.1), some (oV p.2.2), u, v], bk := fun σ H' => sFld K (tVar 0) (tTup (tCons (tVar 1) (tCons (tVar 2) (tCons (tVar 3) tNil)))) "limits" { nx := fun _ H' => Q .non H', rt := Q } σ H' }
        [some (.ref a), some (oV p.1), some (oV p.2.1), some (oV p.2.2), some x1, some x2] (upd H2 t (.tup [x1, x2])) := by
      intro nm n m e1 kd e2 h0 h1
      subst e1 e2
      walk_at "w"
      refine w_ite (fun hb => ?_) (fun hb => ?_)
      · walk_at "w"
        refine w_kd kd ?_
        walk_at "w"
        refine ⟨rfl, rfl, n, 0, m, rfl, ?_⟩
        walk_at "w"
        rw [decide_eq_true h0, decide_eq_true h1]
        refine w_iF ?_
        exact ⟨kn, (Im.new ht).seqT hq, _, _, rfl⟩
      · walk_at "w"
        exact ⟨kn, (Im.new ht).seqT hq, _, _, rfl⟩
    have non : ∀ (nm : Str), x1 = .str nm → x2 = .non → (tIfS (tAnd (tTest (tOp qNotN (tVar 5) (tC .non))) (tNot (tB (tCallN 2 (["most"] : List Str).length sp_is_whole (fun vs zs => vs ++ zs) E0 (tCons (tVar 5) (tCons (tC (.int 0)) tNil)) (tCons (tOp (rIxD K w) (tC (.ref (He.ga K "MOST_OF"))) (tVar 4)) tNil))))) tNever tNext)
        { nx := fun σ2 H2 => KB [] H H2 ∧ SqT K H2 tp (pmV p) ∧ ∃ u v, σ2 = [some (.ref a), some (oV p.1), some (oV p.2.1), some (oV p.2.2), u, v], rt := Q, ct := fun σ2 H2 => KB [] H H2 ∧ SqT K H2 tp (pmV p) ∧ ∃ u v, σ2 = [some (.ref a), some (oV p.1), some (oV p.2.1), some (oV p.2.2), u, v], bk := fun σ H' => sFld K (tVar 0) (tTup (tCons (tVar 1) (tCons (tVar 2) (tCons (tVar 3) tNil)))) "limits" { nx := fun _ H' => Q .non H', rt := Q } σ H' }
        [some (.ref a), some (oV p.1), some (oV p.2.1), some (oV p.2.2), some x1, some x2] (upd H2 t (.tup [x1, x2])) := by
      intro nm e1 e2
      subst e1 e2
      walk_at "w"
      rw [decide_eq_true rfl]
      refine w_nT ?_
      walk_at "w"
      exact ⟨kn, (Im.new ht).seqT hq, _, _, rfl⟩
    have all : ∀ (nm : Str) (o : Option Int) (m : Int), x1 = .str nm → x2 = oV o → KDct K w (He.ga K "MOST_OF") nm (.int m) → (∀ n, o = some n → 0 ≤ n ∧ n ≤ m) → _ := fun nm o m e1 e2 kd b => by
      cases o with
      | none => exact non nm e1 e2
      | some n => exact go nm n m e1 kd e2 (b n rfl).1 (b n rfl).2
    match i, hi with
    | 0, _ => exact all "days" p.1 9999 (by simpa using e1.symm) (by simpa [pmV] using e2.symm) T.m_days ok.1
    | 1, _ => exact all "miles" p.2.1 1000000 (by simpa using e1.symm) (by simpa [pmV] using e2.symm) T.m_miles ok.2.1
    | 2, _ => exact all "turns" p.2.2 1000000 (by simpa using e1.symm) (by simpa [pmV] using e2.symm) T.m_turns ok.2.2
  · obtain ⟨k, hq, u, v, rfl⟩ := P
    walk_at "w"
    refine ⟨szb (by show 3 ≤ 16777216; decide), fun t ht => ?_⟩
    walk_at "w"
    have na : a ≠ t := ne_of_none (k.get ha) ht
    refine ⟨a, _, dx, _, rfl, by rw [upd_ne na]; exact k.get ha, T.cl_Promise, T.na_limits, by show 0 < 1000; decide, ?_⟩
    refine q t _ ?_ upd_same ?_
    · exact ((KB.new k ht).of.mut (by simp))
    · rw [upd_ne (Ne.symm na), upd_same]; rfl
/-! ### need_promise -/
def sp_need_promise (K : PySem.W.Frag) : Sp := fun vs H Q _ => ∃ (a : Addr) (p : Pm), vs = [.ref a] ∧ PmO K H a p ∧ Q .non H
theorem rd_need_promise (T : Tx w K mg) (h : sp_need_promise K vs H Q E) : t_need_promise K { nx := fun _ H' => Q .non H', rt := Q } (start N_need_promise vs) H := by
  obtain ⟨a, p, rfl, ⟨dx, t, h1, h2⟩, q⟩ := h
  unfold t_need_promise
  walk_at "w"
  refine w_isi (pm_ty T h1) (.own _) T.is_PP ?_
  walk_at "w"
  exact q
end
end WK
set_option Elab.async false
set_option linter.all false
set_option maxRecDepth 100000
set_option maxHeartbeats 4000000
namespace WK
open PySem PySem.Spec PyProof.Rows L2
/-- a comprehension each of whose items is True -/
theorem lc_true {J : It} {n : Nat} {G : Hp → Prop} {Y : Nat → Hp → V → Hp → Prop} (w : Walk J n G Y) {g : TG} {te : TE} {vs : List Nat} {σ : L2.St} {H : Hp} {Q : VK} (hn : n ≤ 16000000) (hG : ∀ H2, KB [] H H2 → G H2)
    (step : ∀ i x H2 H3 (K1 : VK), i < n → KB [] H H2 → Y i H2 x H3 → (∀ H6, KB [] H2 H6 → K1 (.bl true) H6) → g x (wipe σ vs) H3 fun σ2 H4 => wipe σ2 vs = wipe σ vs ∧ te σ2 H4 K1)
    (fin : ∀ D H', KB [] H H' → H' D = some (.lst ((List.replicate n true).map V.bl)) → Q (.ref D) H') : LcOk J g tYes te vs σ H Q := by
  refine lcG w [] (fun i acc _ => acc = (List.replicate i true).map V.bl) (fun b hb => absurd hb (by simp)) hG (fun _ _ => rfl) (fun _ _ _ _ _ a => a) hn (fun i x H2 H3 acc D K1 K0 hi k e hD a y f1 f0 => ?_) (fun D acc H' hD k e hl a => ?_)
  · exact step i x H2 H3 K1 hi k y (fun H6 k6 => f1 _ _ k6 (by rw [a, ← rep_succ]; simp))
  · exact fin D H' k (by rw [e, a])
/-- steps that need no fact -/
local macro_rules | `(tactic| walk_at "w") => `(tactic| repeat (first
  | with_reducible refine w_seq ?_ | with_reducible refine w_asg ?_ | with_reducible refine w_ret ?_ | with_reducible refine w_drp ?_ | with_reducible refine w_next ?_ | with_reducible refine w_if ?_
  | ((with_reducible refine' w_var ?_ ?_); rotate_left; rfl) | with_reducible refine w_c ?_ | with_reducible refine w_op ?_ | with_reducible refine w_un ?_ | with_reducible refine w_test ?_ | with_reducible refine w_tB ?_ | with_reducible refine w_bl ?_
  | with_reducible refine w_and ?_ | with_reducible refine w_or ?_ | with_reducible refine w_not ?_ | with_reducible refine w_andV ?_ | with_reducible refine w_orV ?_ | with_reducible refine w_notV ?_ | with_reducible refine w_ebl ?_
  | with_reducible refine w_ifE ?_ | with_reducible refine w_nil ?_ | with_reducible refine w_cons ?_ | with_reducible refine w_cb ?_ | with_reducible refine w_call ?_ | with_reducible refine w_chain ?_ | with_reducible refine w_I0 ?_
  | with_reducible refine w_isN ?_ | with_reducible refine w_notN ?_ | with_reducible refine w_ltS ?_ | with_reducible refine w_leS ?_ | with_reducible refine w_m1 ?_ | with_reducible refine w_m1s ?_
  | with_reducible refine w_iT ?_ | with_reducible refine w_iF ?_ | with_reducible refine w_nT ?_ | with_reducible refine w_nF ?_ | with_reducible refine w_yes ?_ | with_reducible refine w_sfld ?_ | with_reducible refine w_lc ?_ | with_reducible refine w_for ?_ | with_reducible refine w_iStr ?_ | with_reducible refine w_iTup ?_ | with_reducible refine w_iList ?_ | with_reducible refine w_tup1 ?_ | with_reducible refine w_callN ?_ | with_reducible refine w_iZip ?_ | with_reducible refine w_sl ?_ | with_reducible refine w_part ?_ | with_reducible refine w_noPart ?_ | with_reducible refine w_eInt ?_ | with_reducible refine w_gN ?_))

section
variable {K : PySem.W.Frag} {w : World} {mg : Str → Option Value} {vs : List V} {H : Hp} {Q : VK} {E : XK}
theorem name_len {z : Str} (h : isName z = true) : z.length ≤ 8 := by
  unfold isName at h
  simp only [Bool.and_eq_true, decide_eq_true_eq] at h
  omega
/-- thing[1:] of a tuple, met by zip(thing, thing[1:]) -/
theorem slice1 {xs : List V} (h : xs.length ≤ 1000) : (HT.sIx xs.length 0 (some 1) = 0 ∧ HT.sIx xs.length xs.length none = xs.length → xs = []) ∧ cutV xs (some 1) none = xs.drop 1 := by
  have e1 : HT.sIx xs.length 0 (some 1) = min 1 xs.length := HT.sIx_nat _ _ 1
  have e2 : HT.sIx xs.length xs.length none = xs.length := rfl
  refine ⟨fun ⟨a, _⟩ => ?_, ?_⟩
  · rw [e1] at a
    exact List.eq_nil_of_length_eq_zero (by omega)
  · unfold cutV
    rw [e1, e2]
    cases xs with
    | nil => rfl
    | cons x r =>
      have : min 1 (x :: r).length = 1 := by simp
      rw [this]
      exact List.take_of_length_le (by simp)
/-! ### is_row -/
def sp_is_row (K : PySem.W.Frag) : Sp := fun vs H Q _ => ∃ (v : V) (r : Row), vs = [v] ∧ RowO K H v r ∧ isName r.1 = true ∧ ∀ H', KB [] H H' → Q (.bl true) H'
theorem rd_is_row (T : Tx w K mg) (h : sp_is_row K vs H Q E) : t_is_row K sp_is_name { nx := fun _ H' => Q .non H', rt := Q } (start N_is_row vs) H := by
  obtain ⟨v, r, rfl, ⟨t, v1, v2, rfl, h1, h2, h3⟩, hn, q⟩ := h
  unfold t_is_row
  walk_at "w"
  refine w_isi (.base (.tup h1)) (.ty _) T.is_TT ?_
  walk_at "w"
  refine w_lenT (.of h1) ?_
  walk_at "w"
  refine w_ne rfl ?_
  walk_at "w"
  show if (!decide (V.int 3 = V.int 3)) = true then _ else _
  rw [decide_eq_true rfl]
  refine w_nT ?_
  walk_at "w"
  refine w_ixT (.of h1) (atI_nat (k := 0) rfl) ?_
  walk_at "w"
  have l8 := name_len hn
  refine ⟨r.1, rfl, by omega, fun H1 k1 => ?_⟩
  walk_at "w"
  rw [hn]
  walk_at "w"
  refine ⟨t, _, rfl, .of (k1.get h1), fun hw => absurd ((slice1 (xs := [.str r.1, v1, v2]) (by show 3 ≤ 1000; decide)).1 hw) (by simp), fun _ p hp => ?_⟩
  refine ⟨p, rfl, ⟨_, .of upd_same⟩, ?_⟩
  have kp : KB [] H (upd H1 p (.tup (cutV [.str r.1, v1, v2] (some 1) none))) := k1.new hp
  refine lc_true (walk_tup (xs := [v1, v2])) (by show 2 ≤ _; decide) (fun H2 k => .of (k.get upd_same)) (fun i x H2 H3 K1 hi k y f => ?_) (fun D H' k e => ?_)
  · obtain ⟨rfl, ex⟩ := y
    refine ⟨rfl, ?_⟩
    have op : ∃ o : OPm, OPO K H3 x o := by
      have im := (kp.trans k).im0
      match i, hi with
      | 0, _ => cases ex; exact ⟨_, h2.im im⟩
      | 1, _ => cases ex; exact ⟨_, h3.im im⟩
    obtain ⟨o, ho⟩ := op
    refine w_orV (w_op (w_var rfl (w_c (w_isN (w_ebl ?_)))))
    cases o with
    | none =>
      rw [show x = .non from ho, decide_eq_true rfl]
      exact w_iT (f _ (KB.refl _ _))
    | some p =>
      obtain ⟨a, rfl, dx, t', ha, _⟩ := ho
      rw [decide_eq_false (by simp)]
      refine w_iF ?_
      refine w_cb (w_cons (w_var rfl (w_cons (w_c (w_nil ?_)))))
      exact w_isi (pm_ty T ha) (.own _) T.is_PP (f _ (KB.refl _ _))
  · walk_at "w"
    refine w_all e ?_
    rw [all_rep]
    exact q H' (kp.trans k)
/-! ### are_parts -/
theorem consec_get {α : Type} {f : α → α → Bool} : ∀ {l : List α} {i : Nat} {x y : α}, consec f l = true → l[i]? = some x → l[i + 1]? = some y → f x y = true
  | a :: b :: r, 0, _, _, h, e1, e2 => by
    cases e1; cases e2
    have : f a b = true ∧ consec f (b :: r) = true := by simpa [consec] using h
    exact this.1
  | a :: b :: r, i + 1, _, _, h, e1, e2 => by
    have : f a b = true ∧ consec f (b :: r) = true := by simpa [consec] using h
    exact consec_get (l := b :: r) (i := i) this.2 e1 e2
  | [a], 0, _, _, _, _, e2 => by simp at e2
  | [a], i + 1, _, _, _, e1, _ => by simp at e1
  | [], _, _, _, _, e1, _ => by simp at e1
def sp_are_parts (K : PySem.W.Frag) : Sp := fun vs H Q _ => ∃ (a : Addr) (xs : List V) (rows : List Row), vs = [.ref a] ∧ H a = some (.tup xs) ∧ Paired (RowO K H) xs rows ∧ (∀ r ∈ rows, isName r.1 = true) ∧ rows.length ≤ 12 ∧ consec (fun a b : Row => ltS a.1 b.1) rows = true ∧ ∀ H', KB [] H H' → Q (.bl true) H'
theorem rd_are_parts (T : Tx w K mg) (h : sp_are_parts K vs H Q E) : t_are_parts K (sp_is_row K) { nx := fun _ H' => Q .non H', rt := Q } (start N_are_parts vs) H := by
  obtain ⟨a, xs, rows, rfl, ha, hp, hn, hl, hc, q⟩ := h
  have xl : xs.length ≤ 12 := by rw [hp.length]; exact hl
  unfold t_are_parts
  walk_at "w"
  refine w_isi (.base (.tup ha)) (.ty _) T.is_TT ?_
  walk_at "w"
  refine w_lenT (.of ha) ?_
  walk_at "w"
  rw [decide_eq_false (by omega)]
  walk_at "w"
  refine ⟨a, rfl, ⟨_, .of ha⟩, ?_⟩
  refine lc_true (walk_tup (xs := xs)) (by omega) (fun H2 k => .of (k.get ha)) (fun i x H2 H3 K1 hi k y f => ?_) (fun D H1 k1 e => ?_)
  · obtain ⟨rfl, ex⟩ := y
    refine ⟨rfl, ?_⟩
    obtain ⟨r, er, ro⟩ := pget hp ex
    refine w_call (w_cons (w_var rfl (w_nil ?_)))
    exact ⟨x, r, rfl, ro.im k.im0, hn r (List.mem_of_getElem? er), fun H6 k6 => f H6 k6⟩
  · walk_at "w"
    refine w_all e ?_
    walk_at "w"
    rw [all_rep]
    walk_at "w"
    have fin : ∀ (b : Addr) (H2 : Hp), KB [] H H2 → SqT K H2 b (xs.drop 1) → ∃ a' b' xs' ys', [V.ref a, V.ref b] = [.ref a', .ref b'] ∧ ((SqL K H2 a' xs' ∧ SqL K H2 b' ys' ∧ LcOk (Itz K a' b') (gTup K 2 (gCons (gName 1) (gCons (gName 2) gNil))) tYes (tOp qLtS (tOp (rIxT K) (tVar 1) (tC (.int 0))) (tOp (rIxT K) (tVar 2) (tC (.int 0)))) [1, 2] (start N_are_parts [.ref a]) H2
        fun x H3 => tNil (start N_are_parts [.ref a]) H3 fun ys H4 => rAll K (x :: ys) H4 Q) ∨ (SqT K H2 a' xs' ∧ SqT K H2 b' ys' ∧ LcOk (RZ.ItzT K a' b') (gTup K 2 (gCons (gName 1) (gCons (gName 2) gNil))) tYes (tOp qLtS (tOp (rIxT K) (tVar 1) (tC (.int 0))) (tOp (rIxT K) (tVar 2) (tC (.int 0)))) [1, 2] (start N_are_parts [.ref a]) H2
        fun x H3 => tNil (start N_are_parts [.ref a]) H3 fun ys H4 => rAll K (x :: ys) H4 Q)) := fun b H2 k2 hb => by
      have im2 := k2.im0
      refine ⟨a, b, xs, xs.drop 1, rfl, .inr ⟨.of (k2.get ha), hb, ?_⟩⟩
      refine lc_true (walk_zipT (n := xs.length - 1) (xs := xs) (ys := xs.drop 1) (by rw [List.length_drop]; omega)) (by omega) (fun H3 k => ⟨.of (k.get (k2.get ha)), k.seqT hb⟩) (fun i x H3 H4 K1 hi k y f => ?_) (fun D H' k e => ?_)
      · obtain ⟨t, x1, x2, rfl, ht, rfl, e1, e2⟩ := y
        refine w_gTup2 (.of upd_same) ⟨rfl, ?_⟩
        obtain ⟨r1, er1, t1, u1, u2, rfl, ht1, _⟩ := pget hp e1
        have e2 : (xs.drop 1)[i]? = some x2 := e2
        have e2' : xs[i + 1]? = some x2 := by rw [← e2, List.getElem?_drop, Nat.add_comm]
        obtain ⟨r2, er2, t2, w1, w2, rfl, ht2, _⟩ := pget hp e2'
        have im : Im H (upd H3 t (.tup [.ref t1, .ref t2])) := ((k2.trans k).new ht).im0
        refine w_op (w_op (w_var rfl (w_c (w_ixT (.of (im.tup ht1)) (atI_nat (k := 0) rfl) ?_))))
        refine w_op (w_var rfl (w_c (w_ixT (.of (im.tup ht2)) (atI_nat (k := 0) rfl) ?_)))
        refine w_ltS ?_
        rw [show decide (r1.1.cps.toList < r2.1.cps.toList) = true from consec_get hc er1 er2]
        exact f _ (KB.new (KB.refl _ _) ht)
      · walk_at "w"
        refine w_all e ?_
        rw [all_rep]
        exact q H' (k2.trans k)
    obtain ⟨s1, s2⟩ := slice1 (xs := xs) (by omega)
    refine ⟨a, xs, rfl, .of (k1.get ha), fun hw => ?_, fun _ p hp => ?_⟩
    · walk_at "w"
      have e0 := s1 hw
      refine fin a H1 k1 ?_
      rw [e0] at ha ⊢
      exact .of (k1.get ha)
    · walk_at "w"
      refine fin p _ (k1.new hp) ?_
      rw [s2]
      exact .of upd_same
end
end WK
set_option Elab.async false
set_option linter.all false
set_option maxRecDepth 100000
set_option maxHeartbeats 4000000
namespace WK
open PySem PySem.Spec PyProof.Rows L2
/-- a comprehension whose items are told -/
theorem lc_map {J : It} {n : Nat} {G : Hp → Prop} {Y : Nat → Hp → V → Hp → Prop} (w : Walk J n G Y) (zs : List V) (hz : zs.length = n) {g : TG} {te : TE} {vs : List Nat} {σ : L2.St} {H : Hp} {Q : VK} (hn : n ≤ 16000000) (hG : ∀ H2, KB [] H H2 → G H2)
    (step : ∀ i x z H2 H3 (K1 : VK), zs[i]? = some z → i < n → KB [] H H2 → Y i H2 x H3 → (∀ H6, KB [] H2 H6 → K1 z H6) → g x (wipe σ vs) H3 fun σ2 H4 => wipe σ2 vs = wipe σ vs ∧ te σ2 H4 K1)
    (fin : ∀ D H', H D = none → KB [] H H' → H' D = some (.lst zs) → Q (.ref D) H') : LcOk J g tYes te vs σ H Q := by
  refine lcG w [] (fun i acc _ => acc = zs.take i) (fun b hb => absurd hb (by simp)) hG (fun _ _ => by simp) (fun _ _ _ _ _ a => a) hn (fun i x H2 H3 acc D K1 K0 hi k e hD a y f1 f0 => ?_) (fun D acc H' hD k e hl a => ?_)
  · have hi' : i < zs.length := by omega
    exact step i x zs[i] H2 H3 K1 (List.getElem?_eq_getElem hi') hi k y (fun H6 k6 => f1 _ _ k6 (by rw [a, List.take_succ, List.getElem?_eq_getElem hi']; rfl))
  · exact fin D H' hD k (by rw [e, a, List.take_of_length_le (by omega)])
def SortO (K : PySem.W.Frag) (H : Hp) (a : Addr) (hd : Str × Pm) (rows : List Row) (pairs : List Pair) : Prop := ∃ (dx pa rt pt : Addr) (xs ys : List V),
  H a = some (.ins (He.ga K "Sort") dx [("called", .str hd.1), ("promised", .ref pa), ("part_rows", .ref rt), ("barred_pairs", .ref pt)]) ∧ PmO K H pa hd.2 ∧ H rt = some (.tup xs) ∧ Paired (RowO K H) xs rows ∧ H pt = some (.tup ys) ∧ Paired (PairO H) ys pairs
theorem SortO.im {K : PySem.W.Frag} {H H' : Hp} {a : Addr} {hd : Str × Pm} {rows : List Row} {pairs : List Pair} (h : SortO K H a hd rows pairs) (k : Im H H') : SortO K H' a hd rows pairs := by
  obtain ⟨dx, pa, rt, pt, xs, ys, h1, h2, h3, h4, h5, h6⟩ := h
  exact ⟨dx, pa, rt, pt, xs, ys, k _ _ h1 (by rfl), h2.im k, k _ _ h3 rfl, Paired.mono (fun _ _ z => z.im k) h4, k _ _ h5 rfl, Paired.mono (fun _ _ z => z.im k) h6⟩
/-- what a whole sort keeps -/
structure GoodS (hd : Str × Pm) (rows : List Row) (pairs : List Pair) : Prop where
  hn : isName hd.1 = true
  hp : okPm hd.2
  rn : ∀ r ∈ rows, isName r.1 = true ∧ okO r.2.1 ∧ okO r.2.2
  rl : rows.length ≤ 12
  ro : consec (fun a b : Row => ltS a.1 b.1) rows = true
  pn : ∀ p ∈ pairs, isName p.1 = true ∧ (names rows).contains p.2 = true
  pl : pairs.length ≤ 30
  po : consec ltP pairs = true
theorem names_name {rows : List Row} {z : Str} (h : ∀ r ∈ rows, isName r.1 = true ∧ okO r.2.1 ∧ okO r.2.2) (m : (names rows).contains z = true) : isName z = true := by
  have m := contains_mem m
  obtain ⟨r, hr, rfl⟩ := List.mem_map.mp m
  exact (h r hr).1
/-- steps that need no fact -/
local macro_rules | `(tactic| walk_at "w") => `(tactic| repeat (first
  | with_reducible refine w_seq ?_ | with_reducible refine w_asg ?_ | with_reducible refine w_ret ?_ | with_reducible refine w_drp ?_ | with_reducible refine w_next ?_ | with_reducible refine w_if ?_
  | ((with_reducible refine' w_var ?_ ?_); rotate_left; rfl) | with_reducible refine w_c ?_ | with_reducible refine w_op ?_ | with_reducible refine w_un ?_ | with_reducible refine w_test ?_ | with_reducible refine w_tB ?_ | with_reducible refine w_bl ?_
  | with_reducible refine w_and ?_ | with_reducible refine w_or ?_ | with_reducible refine w_not ?_ | with_reducible refine w_andV ?_ | with_reducible refine w_orV ?_ | with_reducible refine w_notV ?_ | with_reducible refine w_ebl ?_
  | with_reducible refine w_ifE ?_ | with_reducible refine w_nil ?_ | with_reducible refine w_cons ?_ | with_reducible refine w_cb ?_ | with_reducible refine w_call ?_ | with_reducible refine w_chain ?_ | with_reducible refine w_I0 ?_
  | with_reducible refine w_isN ?_ | with_reducible refine w_notN ?_ | with_reducible refine w_ltS ?_ | with_reducible refine w_leS ?_ | with_reducible refine w_m1 ?_ | with_reducible refine w_m1s ?_
  | with_reducible refine w_iT ?_ | with_reducible refine w_iF ?_ | with_reducible refine w_nT ?_ | with_reducible refine w_nF ?_ | with_reducible refine w_yes ?_ | with_reducible refine w_sfld ?_ | with_reducible refine w_lc ?_ | with_reducible refine w_for ?_ | with_reducible refine w_iStr ?_ | with_reducible refine w_iTup ?_ | with_reducible refine w_iList ?_ | with_reducible refine w_tup1 ?_ | with_reducible refine w_callN ?_ | with_reducible refine w_iZip ?_ | with_reducible refine w_sl ?_ | with_reducible refine w_part ?_ | with_reducible refine w_noPart ?_ | with_reducible refine w_eInt ?_ | with_reducible refine w_gN ?_))

section
variable {K : PySem.W.Frag} {w : World} {mg : Str → Option Value} {vs : List V} {H : Hp} {Q : VK} {E : XK}
/-! ### are_barred -/
def sp_are_barred : Sp := fun vs H Q _ => ∃ (a b : Addr) (xs : List V) (pairs : List Pair) (nms : List Str), vs = [.ref a, .ref b] ∧ H a = some (.tup xs) ∧ Paired (PairO H) xs pairs ∧ H b = some (.lst (nms.map V.str)) ∧
  (∀ p ∈ pairs, isName p.1 = true ∧ isName p.2 = true ∧ nms.contains p.2 = true) ∧ pairs.length ≤ 30 ∧ consec ltP pairs = true ∧ ∀ H', KB [] H H' → Q (.bl true) H'
theorem rd_are_barred (T : Tx w K mg) (h : sp_are_barred vs H Q E) : t_are_barred K sp_is_name { nx := fun _ H' => Q .non H', rt := Q } (start N_are_barred vs) H := by
  obtain ⟨a, b, xs, pairs, nms, rfl, ha, hp, hb, hn, hl, hc, q⟩ := h
  have xl : xs.length ≤ 30 := by rw [hp.length]; exact hl
  unfold t_are_barred
  walk_at "w"
  refine w_isi (.base (.tup ha)) (.ty _) T.is_TT ?_
  walk_at "w"
  refine w_lenT (.of ha) ?_
  walk_at "w"
  rw [decide_eq_false (by omega)]
  walk_at "w"
  refine ⟨a, rfl, ⟨_, .of ha⟩, ?_⟩
  refine forG (walk_tup (xs := xs)) (fun i σ2 H2 => KB [] H H2 ∧ ∃ u, σ2 = [some (.ref a), some (.ref b), u, none, none]) ⟨KB.refl _ _, _, rfl⟩ (fun i σ2 H2 hi P => .of (P.1.get ha)) (fun i x σ2 H2 H3 hi P y => ?_) (fun σ2 H2 P => ?_)
  · obtain ⟨k, u, rfl⟩ := P
    obtain ⟨rfl, ex⟩ := y
    obtain ⟨p, ep, t, rfl, ht⟩ := pget hp ex
    obtain ⟨n1, n2, n3⟩ := hn p (List.mem_of_getElem? ep)
    have ht3 := k.get ht
    have l1 := name_len n1
    have l2 := name_len n2
    walk_at "w"
    refine w_isi (.base (.tup ht3)) (.ty _) T.is_TT ?_
    walk_at "w"
    refine w_lenT (.of ht3) ?_
    walk_at "w"
    refine w_ne rfl ?_
    walk_at "w"
    show if (!decide (V.int 2 = V.int 2)) = true then _ else _
    rw [decide_eq_true rfl]
    walk_at "w"
    refine w_ixT (.of ht3) (atI_nat (k := 0) rfl) ?_
    walk_at "w"
    refine ⟨p.1, rfl, by omega, fun H4 k4 => ?_⟩
    walk_at "w"
    rw [n1]
    walk_at "w"
    refine w_ixT (.of (k4.get ht3)) (atI_nat (k := 1) rfl) ?_
    walk_at "w"
    refine ⟨p.2, rfl, by omega, fun H5 k5 => ?_⟩
    walk_at "w"
    rw [n2]
    walk_at "w"
    exact ⟨(k.trans k4).trans k5, _, rfl⟩
  · obtain ⟨k, u, rfl⟩ := P
    walk_at "w"
    refine ⟨a, rfl, ⟨_, .of (k.get ha)⟩, ?_⟩
    refine lc_true (walk_tup (xs := xs)) (by omega) (fun H3 k3 => .of ((k.trans k3).get ha)) (fun i x H3 H4 K1 hi k3 y f => ?_) (fun D H3 k3 e => ?_)
    · obtain ⟨rfl, ex⟩ := y
      refine ⟨rfl, ?_⟩
      obtain ⟨p, ep, t, rfl, ht⟩ := pget hp ex
      obtain ⟨n1, n2, n3⟩ := hn p (List.mem_of_getElem? ep)
      refine w_op (w_op (w_var rfl (w_c (w_ixT (.of ((k.trans k3).get ht)) (atI_nat (k := 1) rfl) ?_))))
      refine w_var rfl (w_inL (.of ((k.trans k3).get hb)) rfl (flat_strs _) ?_)
      rw [if_neg Bool.false_ne_true, inV_str, n3]
      exact f _ (KB.refl _ _)
    · walk_at "w"
      refine w_all e ?_
      walk_at "w"
      rw [all_rep]
      walk_at "w"
      have k03 := k.trans k3
      have fin : ∀ (c : Addr) (H4 : Hp), KB [] H H4 → SqT K H4 c (xs.drop 1) → ∃ a' b' xs' ys', [V.ref a, V.ref c] = [.ref a', .ref b'] ∧ ((SqL K H4 a' xs' ∧ SqL K H4 b' ys' ∧ LcOk (Itz K a' b') (gTup K 2 (gCons (gName 3) (gCons (gName 4) gNil))) tYes (tOp (qLtP K) (tVar 3) (tVar 4)) [3, 4] [some (.ref a), some (.ref b), u, none, none] H4
          fun x H3 => tNil [some (.ref a), some (.ref b), u, none, none] H3 fun ys H4 => rAll K (x :: ys) H4 Q) ∨ (SqT K H4 a' xs' ∧ SqT K H4 b' ys' ∧ LcOk (RZ.ItzT K a' b') (gTup K 2 (gCons (gName 3) (gCons (gName 4) gNil))) tYes (tOp (qLtP K) (tVar 3) (tVar 4)) [3, 4] [some (.ref a), some (.ref b), u, none, none] H4
          fun x H3 => tNil [some (.ref a), some (.ref b), u, none, none] H3 fun ys H4 => rAll K (x :: ys) H4 Q)) := fun c H4 k4 hcc => by
        refine ⟨a, c, xs, xs.drop 1, rfl, .inr ⟨.of (k4.get ha), hcc, ?_⟩⟩
        refine lc_true (walk_zipT (n := xs.length - 1) (xs := xs) (ys := xs.drop 1) (by rw [List.length_drop]; omega)) (by omega) (fun H3 k => ⟨.of (k.get (k4.get ha)), k.seqT hcc⟩) (fun i x H3 H5 K1 hi k5 y f => ?_) (fun D H' k e => ?_)
        · obtain ⟨t, x1, x2, rfl, ht, rfl, e1, e2⟩ := y
          refine w_gTup2 (.of upd_same) ⟨rfl, ?_⟩
          obtain ⟨r1, er1, t1, rfl, ht1⟩ := pget hp e1
          have e2 : (xs.drop 1)[i]? = some x2 := e2
          have e2' : xs[i + 1]? = some x2 := by rw [← e2, List.getElem?_drop, Nat.add_comm]
          obtain ⟨r2, er2, t2, rfl, ht2⟩ := pget hp e2'
          have im : Im H (upd H3 t (.tup [.ref t1, .ref t2])) := ((k4.trans k5).new ht).im0
          refine w_op (w_var rfl (w_var rfl ⟨t1, t2, r1, r2, rfl, rfl, .of (im.tup ht1), .of (im.tup ht2), ?_⟩))
          rw [consec_get hc er1 er2]
          exact f _ (KB.new (KB.refl _ _) ht)
        · walk_at "w"
          refine w_all e ?_
          rw [all_rep]
          exact q H' (k4.trans k)
      obtain ⟨s1, s2⟩ := slice1 (xs := xs) (by omega)
      refine ⟨a, xs, rfl, .of (k03.get ha), fun hw => ?_, fun _ p hp => ?_⟩
      · walk_at "w"
        have e0 := s1 hw
        refine fin a H3 k03 ?_
        rw [e0] at ha ⊢
        exact .of (k03.get ha)
      · walk_at "w"
        refine fin p _ (k03.new hp) ?_
        rw [s2]
        exact .of upd_same
/-! ### Sort.__init__ -/
/-- [row[0] for row in rows] -/
theorem lc_names {J : It} {G : Hp → Prop} {xs : List V} (wk : Walk J xs.length G (YAt xs)) {rows : List Row} {j : Nat} {σ : L2.St} {H0 H : Hp} {Q : VK} (hp : Paired (RowO K H0) xs rows) (im : Im H0 H) (hl : rows.length ≤ 1000) (hG : ∀ H2, KB [] H H2 → G H2)
    (hw : ∀ v : V, wipe ((wipe σ [j]).set j (some v)) [j] = wipe σ [j]) (hj : ∀ v : V, ((wipe σ [j]).set j (some v))[j]? = some (some v)) (q : ∀ D H', H D = none → KB [] H H' → H' D = some (.lst ((names rows).map V.str)) → Q (.ref D) H') :
    LcOk J (gName j) tYes (tOp (rIxT K) (tVar j) (tC (.int 0))) [j] σ H Q := by
  refine lc_map wk ((names rows).map V.str) (by unfold names; simp; exact hp.length.symm) (by rw [hp.length]; omega) hG (fun i x z H2 H3 K1 ez hi k y f => ?_) q
  obtain ⟨rfl, ex⟩ := y
  refine ⟨hw _, ?_⟩
  obtain ⟨r, er, t, v1, v2, rfl, ht, _⟩ := pget hp ex
  have e : V.str r.1 = z := by
    unfold names at ez
    rw [List.getElem?_map, List.getElem?_map, er] at ez
    exact Option.some.inj ez
  refine w_op (w_var (hj _) (w_c (w_ixT (.of ((im.trans k.im0).tup ht)) (atI_nat (k := 0) rfl) ?_)))
  rw [e]
  exact f _ (KB.refl _ _)
abbrev sortF (nm : Str) (pa rt pt : Addr) : List (Str × V) := [("called", .str nm), ("promised", .ref pa), ("part_rows", .ref rt), ("barred_pairs", .ref pt)]
def sp_Sort_init (K : PySem.W.Frag) : Sp := fun vs H Q _ => ∃ (a dx pa rt pt : Addr) (hd : Str × Pm) (xs ys : List V) (rows : List Row) (pairs : List Pair), vs = [.ref a, .str hd.1, .ref pa, .ref rt, .ref pt] ∧ GoodS hd rows pairs ∧ H a = some (.ins (He.ga K "Sort") dx []) ∧
  PmO K H pa hd.2 ∧ H rt = some (.tup xs) ∧ Paired (RowO K H) xs rows ∧ H pt = some (.tup ys) ∧ Paired (PairO H) ys pairs ∧
  ∀ H', KB [a] H H' → H' a = some (.ins (He.ga K "Sort") dx (sortF hd.1 pa rt pt)) → Q .non H'
theorem rd_Sort_init (T : Tx w K mg) (h : sp_Sort_init K vs H Q E) : t_Sort_init K sp_is_name (sp_need_promise K) (sp_are_parts K) sp_are_barred { nx := fun _ H' => Q .non H', rt := Q } (start N_Sort_init vs) H := by
  obtain ⟨a, dx, pa, rt, pt, hd, xs, ys, rows, pairs, rfl, G, ha, hpm, hrt, hxs, hpt, hys, q⟩ := h
  have na : ∀ o, H a = some o → imO o = false := fun o e => by rw [ha] at e; cases e; rfl
  have imK : ∀ {H'}, KB [a] H H' → Im H H' := fun k => k.im (fun b hb o e => by simp at hb; subst hb; exact na o e)
  have l1 := name_len G.hn
  unfold t_Sort_init
  walk_at "w"
  refine ⟨hd.1, rfl, by omega, fun H1 k1 => ?_⟩
  walk_at "w"
  rw [G.hn]
  walk_at "w"
  refine ⟨pa, hd.2, rfl, hpm.im k1.im0, ?_⟩
  walk_at "w"
  have k1' : KB [a] H H1 := k1.of
  refine ⟨a, _, dx, _, rfl, k1.get ha, T.cl_Sort, T.na_called, by show 0 < 1000; decide, ?_⟩
  walk_at "w"
  refine ⟨a, _, dx, _, rfl, upd_same, T.cl_Sort, T.na_promised, by show 1 < 1000; decide, ?_⟩
  walk_at "w"
  rw [decide_eq_false (by simp)]
  walk_at "w"
  refine ⟨a, _, dx, _, rfl, upd_same, T.cl_Sort, T.na_part_rows, by show 2 < 1000; decide, ?_⟩
  rw [upd_upd, upd_upd]
  walk_at "w"
  refine w_fldV rfl upd_same T.cl_Sort T.na_part_rows rfl ?_
  walk_at "w"
  have k2 : KB [a] H (upd H1 a (.ins (He.ga K "Sort") dx (putF "part_rows" (.ref rt) (putF "promised" (.ref pa) (putF "called" (.str hd.1) []))))) := k1'.mut (by simp)
  refine ⟨rt, xs, rows, rfl, (imK k2).tup hrt, Paired.mono (fun _ _ z => z.im (imK k2)) hxs, fun r hr => (G.rn r hr).1, G.rl, G.ro, fun H3 k3 => ?_⟩
  walk_at "w"
  rw [decide_eq_false (by simp)]
  walk_at "w"
  refine ⟨a, _, dx, _, rfl, k3.get upd_same, T.cl_Sort, T.na_barred_pairs, by show 3 < 1000; decide, ?_⟩
  walk_at "w"
  refine w_fldV rfl upd_same T.cl_Sort T.na_barred_pairs rfl ?_
  walk_at "w"
  refine w_fldV rfl upd_same T.cl_Sort T.na_part_rows rfl ?_
  have k4 : KB [a] H (upd H3 a (.ins (He.ga K "Sort") dx (sortF hd.1 pa rt pt))) := (k2.trans k3.of).mut (by simp)
  have im4 := imK k4
  refine ⟨rt, rfl, ⟨_, .of (im4.tup hrt)⟩, ?_⟩
  refine lc_names (walk_tup (xs := xs)) hxs im4 (by have := G.rl; omega) (fun H2 k => .of (k.get (im4.tup hrt))) (fun _ => rfl) (fun _ => rfl) fun D H5 hD k5 e5 => ?_
  walk_at "w"
  refine ⟨pt, D, ys, pairs, names rows, rfl, k5.get (im4.tup hpt), Paired.mono (fun _ _ z => z.im (im4.trans k5.im0)) hys, e5, fun p hp => ⟨(G.pn p hp).1, names_name G.rn (G.pn p hp).2, (G.pn p hp).2⟩, G.pl, G.po, fun H6 k6 => ?_⟩
  walk_at "w"
  have k56 := k5.trans k6
  exact q H6 (k4.trans k56.of) (k56.get upd_same)
end
end WK
set_option Elab.async false
set_option linter.all false
set_option maxRecDepth 100000
set_option maxHeartbeats 4000000
namespace WK
open PySem PySem.Spec PyProof.Rows L2
section
variable {σ : L2.St} {H : Hp} {Q : VK} {i : Nat} {x : V} {te : TE} {ti : TIp} {D : Ends}
theorem w_aug (h : σ[i]? = some (some x)) (q : te σ H fun y H1 => ti x y H1 fun z H2 => D.nx (σ.set i (some z)) H2) : tAug i te ti D σ H := ⟨x, h, q⟩
theorem w_bm {K : PySem.W.Frag} {T : String} {r : V → List V → Hp → VK → Prop} {to : TE} {t : TA} (q : to σ H fun x H1 => tyV K T x H1 ∧ t σ H1 fun xs H2 => r x xs H2 Q) : tBM K T r to t σ H Q := q
theorem w_lst1 {tr : TA} (q : tr σ H fun xs H1 => xs.length ≤ sizeLine ∧ ∀ p, H1 p = none → Q (.ref p) (upd H1 p (.lst xs))) : tLst tr σ H Q := q
theorem w_addS' {a b : Str} (q : a.length + b.length ≤ 16777216 ∧ Q (.str (a ++ b)) H) : qAddS (.str a) (.str b) H Q := ⟨a, b, rfl, rfl, by rw [sizeLine_eq]; exact q.1, q.2⟩
end
theorem app_len (a b : Str) : (a ++ b).length = a.length + b.length := by
  rw [TL.len_tl, TL.len_tl, TL.len_tl, TL.tl_append, List.length_append]
theorem numS_len {n : Int} (h0 : 0 ≤ n) (h1 : n ≤ 1000000) : (numS n).length ≤ 7 := by
  obtain ⟨k, rfl⟩ := Int.eq_ofNat_of_zero_le h0
  rw [TL.len_tl]
  unfold numS
  rw [show TL.tl (Str.ofString (toString ((k : Nat) : Int))) = TL.numL k from TL.tl_num k]
  exact TL.numL_len (by decide) (by omega)
theorem log_small {n : Int} (h0 : 0 ≤ n) (h1 : n ≤ 1000000) : n.natAbs.log2 < 1920 := by
  have h : n.natAbs < 2 ^ 20 := by omega
  by_cases hz : n.natAbs = 0
  · rw [hz]; decide
  · have := (Nat.log2_lt hz).mpr h
    omega
theorem jn_len (y : Str) : ∀ l : List Str, (Txt.join y l).length ≤ (l.map (·.length)).sum + l.length * y.length
  | [] => by rw [TL.len_tl, tl_jn]; simp [TL.joinL]
  | [a] => by rw [jn_one]; simp
  | a :: b :: r => by
    rw [jn_cons y a (by simp), app_len, app_len]
    have := jn_len y (b :: r)
    simp only [List.map_cons, List.sum_cons, List.length_cons] at this ⊢
    rw [Nat.add_mul, Nat.one_mul]
    rw [Nat.add_mul, Nat.one_mul] at this
    rw [Nat.add_mul, Nat.one_mul]
    omega
def plO (p : Pm) : List (Option Str) := [p.1.map fun n => numS n ++ " " ++ "days", p.2.1.map fun n => numS n ++ " " ++ "miles", p.2.2.map fun n => numS n ++ " " ++ "turns"]
theorem plO_parts (p : Pm) : (plO p).filterMap id = pmParts p := by
  obtain ⟨a, b, c⟩ := p
  cases a <;> cases b <;> cases c <;> rfl
theorem plO_len {p : Pm} (h : okPm p) : ∀ z ∈ pmParts p, z.length ≤ 13 := by
  obtain ⟨a, b, c⟩ := p
  obtain ⟨h1, h2, h3⟩ := h
  have key : ∀ (n : Int) (u : Str), 0 ≤ n → n ≤ 1000000 → u.length ≤ 5 → (numS n ++ " " ++ u).length ≤ 13 := fun n u a b c => by
    rw [app_len, app_len]
    have := numS_len a b
    have e : (" " : Str).length = 1 := by decide
    omega
  intro z hz
  rw [← plO_parts] at hz
  obtain ⟨o, ho, e⟩ := List.mem_filterMap.mp hz
  simp only [id] at e
  subst e
  simp only [plO, List.mem_cons, List.not_mem_nil, or_false] at ho
  rcases ho with e | e | e
  · obtain ⟨n, hn, e⟩ := Option.map_eq_some_iff.mp e.symm
    subst e
    exact key n _ (h1 n hn).1 (by have := (h1 n hn).2; omega) (by decide)
  · obtain ⟨n, hn, e⟩ := Option.map_eq_some_iff.mp e.symm
    subst e
    exact key n _ (h2 n hn).1 (h2 n hn).2 (by decide)
  · obtain ⟨n, hn, e⟩ := Option.map_eq_some_iff.mp e.symm
    subst e
    exact key n _ (h3 n hn).1 (h3 n hn).2 (by decide)
theorem pmParts_le (p : Pm) : (pmParts p).length ≤ 3 := by
  rw [← plO_parts]
  exact List.length_filterMap_le id (plO p)
theorem sum_le {l : List Str} {b : Nat} (h : ∀ z ∈ l, z.length ≤ b) : (l.map (·.length)).sum ≤ l.length * b := by
  induction l with
  | nil => simp
  | cons a r ih =>
    have h1 := h a (by simp)
    have h2 := ih fun z hz => h z (by simp [hz])
    simp only [List.map_cons, List.sum_cons, List.length_cons]
    rw [Nat.add_mul, Nat.one_mul]
    omega
theorem pmText_len {p : Pm} (h : okPm p) : (pmText p).length ≤ 50 := by
  unfold pmText
  have hl : (" " : Str).length = 1 := by decide
  split
  · have : (Txt.join " " ["endless"]).length = 7 := by rw [jn_one]; decide
    omega
  · have h1 := jn_len " " (pmParts p)
    have h2 := sum_le (plO_len h)
    have h3 := pmParts_le p
    rw [hl, Nat.mul_one] at h1
    have h4 : (pmParts p).length * 13 ≤ 3 * 13 := Nat.mul_le_mul_right _ h3
    omega
/-- steps that need no fact -/
local macro_rules | `(tactic| walk_at "w") => `(tactic| repeat (first
  | with_reducible refine w_seq ?_ | with_reducible refine w_asg ?_ | with_reducible refine w_ret ?_ | with_reducible refine w_drp ?_ | with_reducible refine w_next ?_ | with_reducible refine w_if ?_
  | ((with_reducible refine' w_var ?_ ?_); rotate_left; rfl) | with_reducible refine w_c ?_ | with_reducible refine w_op ?_ | with_reducible refine w_un ?_ | with_reducible refine w_test ?_ | with_reducible refine w_tB ?_ | with_reducible refine w_bl ?_
  | with_reducible refine w_and ?_ | with_reducible refine w_or ?_ | with_reducible refine w_not ?_ | with_reducible refine w_andV ?_ | with_reducible refine w_orV ?_ | with_reducible refine w_notV ?_ | with_reducible refine w_ebl ?_
  | with_reducible refine w_ifE ?_ | with_reducible refine w_nil ?_ | with_reducible refine w_cons ?_ | with_reducible refine w_cb ?_ | with_reducible refine w_call ?_ | with_reducible refine w_chain ?_ | with_reducible refine w_I0 ?_
  | with_reducible refine w_isN ?_ | with_reducible refine w_notN ?_ | with_reducible refine w_ltS ?_ | with_reducible refine w_leS ?_ | with_reducible refine w_m1 ?_ | with_reducible refine w_m1s ?_
  | with_reducible refine w_iT ?_ | with_reducible refine w_iF ?_ | with_reducible refine w_nT ?_ | with_reducible refine w_nF ?_ | with_reducible refine w_yes ?_ | with_reducible refine w_sfld ?_ | with_reducible refine w_lc ?_ | with_reducible refine w_for ?_ | with_reducible refine w_iStr ?_ | with_reducible refine w_iTup ?_ | with_reducible refine w_iList ?_ | with_reducible refine w_tup1 ?_ | with_reducible refine w_callN ?_ | with_reducible refine w_iZip ?_ | with_reducible refine w_sl ?_ | with_reducible refine w_part ?_ | with_reducible refine w_noPart ?_ | with_reducible refine w_eInt ?_ | with_reducible refine w_gN ?_))

section
variable {K : PySem.W.Frag} {w : World} {mg : Str → Option Value} {vs : List V} {H : Hp} {Q : VK} {E : XK}
theorem take_filter {α : Type} {l : List (Option α)} {i : Nat} {o : Option α} (h : l[i]? = some o) : (l.take (i + 1)).filterMap id = (l.take i).filterMap id ++ o.toList := by
  rw [List.take_succ, h, List.filterMap_append]
  cases o <;> rfl
/-! ### Promise.__str__ -/
def sp_Promise_str (K : PySem.W.Frag) : Sp := fun vs H Q _ => ∃ (a : Addr) (p : Pm), vs = [.ref a] ∧ okPm p ∧ PmO K H a p ∧ ∀ H', KB [] H H' → Q (.str (pmText p)) H'
theorem rd_Promise_str (T : Tx w K mg) (h : sp_Promise_str K vs H Q E) : t_Promise_str K { nx := fun _ H' => Q .non H', rt := Q } (start N_Promise_str vs) H := by
  obtain ⟨a, p, rfl, ok, ⟨dx, t, ha, ht⟩, q⟩ := h
  unfold t_Promise_str
  walk_at "w"
  show tCons _ _ _ _ _
  walk_at "w"
  refine w_fldV rfl ha T.cl_Promise T.na_limits rfl ?_
  walk_at "w"
  refine ⟨_, _, boundsL.map V.str, pmV p, rfl, T.k_BOUNDS _, .of ht, rfl, by show 3 ≤ 1000; decide, fun l acc H1 hl k1 e1 len P => ?_⟩
  walk_at "w"
  have len : acc.length = 3 := len
  refine ⟨l, rfl, ⟨_, .of e1⟩, ?_⟩
  refine lcG (walk_list (xs := acc)) [] (fun i acc' _ => acc' = (((plO p).take i).filterMap id).map V.str) (fun b hb => absurd hb (by simp)) (fun H2 k => .of (k.get e1)) (fun _ _ => rfl) (fun _ _ _ _ _ a => a) (by omega) (fun i x H2 H3 acc' D K1 K0 hi k e hD a' y f1 f0 => ?_) (fun D acc' H2 hD k e hlen a' => ?_)
  · obtain ⟨rfl, ex⟩ := y
    obtain ⟨tp, x1, x2, rfl, htp, ex1, ex2⟩ := P i x ex
    refine w_gTup2 (.of (k.get htp)) ⟨rfl, ?_⟩
    refine w_test (w_op (w_var rfl (w_c (w_notN ⟨_, rfl, ?_⟩))))
    have go : ∀ (nm : Str) (o : Option Int), x1 = .str nm → x2 = oV o → nm.length ≤ 5 → (plO p)[i]? = some (o.map fun n => numS n ++ " " ++ nm) → (∀ n, o = some n → 0 ≤ n ∧ n ≤ 1000000) →
        if (!decide (x2 = .non)) = true then (tOp qAddS (tOp qAddS (tCB qStrI (tCons (tVar 4) tNil)) (tC (.str " "))) (tVar 3)) (((wipe ((start N_Promise_str [.ref a]).set 1 (some (.ref l))) [3, 4]).set 3 (some x1)).set 4 (some x2)) H3 K1 else K0 H3 := by
      intro nm o e1 e2 hnm ep hb
      subst e1 e2
      cases o with
      | none =>
        show if (!decide (V.non = .non)) = true then _ else _
        rw [decide_eq_true rfl]
        refine w_nT (f0 _ (KB.refl _ _) ?_)
        rw [a', take_filter ep]; simp
      | some n =>
        show if (!decide (V.int n = .non)) = true then _ else _
        rw [decide_eq_false (by simp)]
        refine w_nF ?_
        obtain ⟨h0, h1⟩ := hb n rfl
        have hl7 := numS_len h0 h1
        refine w_op (w_op (w_cb (w_cons (w_var rfl (w_nil ?_)))))
        refine ⟨n, rfl, log_small h0 h1, ?_⟩
        have e1 : (" " : Str).length = 1 := by decide
        refine w_c (w_addS' ⟨by show (numS n).length + _ ≤ _; omega, ?_⟩)
        refine w_var rfl (w_addS' ⟨by show (numS n ++ " ").length + _ ≤ _; rw [app_len]; omega, ?_⟩)
        refine f1 _ _ (KB.refl _ _) ?_
        rw [a', take_filter ep]
        simp; rfl
    have hi : i < 3 := by omega
    match i, hi with
    | 0, _ => exact go "days" p.1 (by simpa using ex1.symm) (by simpa [pmV] using ex2.symm) (by decide) rfl (fun n e => by have := ok.1 n e; omega)
    | 1, _ => exact go "miles" p.2.1 (by simpa using ex1.symm) (by simpa [pmV] using ex2.symm) (by decide) rfl ok.2.1
    | 2, _ => exact go "turns" p.2.2 (by simpa using ex1.symm) (by simpa [pmV] using ex2.symm) (by decide) rfl ok.2.2
  · have ea : acc' = (pmParts p).map V.str := by
      rw [a', List.take_of_length_le (by rw [len]; exact Nat.le_refl 3), plO_parts]
    subst ea
    walk_at "w"
    refine w_lst1 ?_
    walk_at "w"
    refine ⟨szb (by show 0 ≤ _; omega), fun b hb => ?_⟩
    refine ⟨D, b, (pmParts p).map V.str, rfl, rfl, .of ((KB.new (KB.refl [] H2) hb).get e), .of upd_same, ?_⟩
    walk_at "w"
    have k3 : KB [] H (upd H2 b (.lst [])) := (k1.trans k).new hb
    have h1l : (" " : Str).length = 1 := by decide
    refine w_ite (fun hne => ?_) (fun hne => ?_)
    · walk_at "w"
      refine ⟨" ", D, pmParts p, rfl, rfl, .inl (.of ((KB.new (KB.refl [] H2) hb).get e)), ?_, ?_⟩
      · have h2 := sum_le (plO_len ok)
        have h3 := pmParts_le p
        have h4 : (pmParts p).length * 13 ≤ 3 * 13 := Nat.mul_le_mul_right _ h3
        rw [h1l]; omega
      · have := q _ k3
        unfold pmText at this
        rw [if_neg (by intro e; rw [e] at hne; simp at hne)] at this
        exact this
    · refine w_lst1 ?_
      walk_at "w"
      refine ⟨szb (by show 1 ≤ _; omega), fun c hc => ?_⟩
      refine ⟨" ", c, ["endless"], rfl, rfl, .inl (.of upd_same), ?_, ?_⟩
      · show 7 + 0 + 1 * (" " : Str).length ≤ _
        rw [h1l]; omega
      · have := q (upd (upd H2 b (.lst [])) c (.lst [.str "endless"])) (k3.new hc)
        unfold pmText at this
        rw [if_pos (by
          cases e : pmParts p with
          | nil => rfl
          | cons a r => rw [e] at hne; simp at hne)] at this
        exact this
end
end WK
set_option Elab.async false
set_option linter.all false
set_option maxRecDepth 100000
set_option maxHeartbeats 4000000
namespace WK
open PySem PySem.Spec PyProof.Rows L2
theorem oText_len {key : Str} {o : OPm} (h : okO o) (hk : key.length ≤ 10) : (oText key o).length ≤ 60 := by
  cases o with
  | none => show (("" : Str).length ≤ 60); decide
  | some p =>
    show (key ++ pmText p).length ≤ 60
    rw [app_len]
    have := pmText_len (h p rfl)
    omega
/-- steps that need no fact -/
local macro_rules | `(tactic| walk_at "w") => `(tactic| repeat (first
  | with_reducible refine w_seq ?_ | with_reducible refine w_asg ?_ | with_reducible refine w_ret ?_ | with_reducible refine w_drp ?_ | with_reducible refine w_next ?_ | with_reducible refine w_if ?_
  | ((with_reducible refine' w_var ?_ ?_); rotate_left; rfl) | with_reducible refine w_c ?_ | with_reducible refine w_op ?_ | with_reducible refine w_un ?_ | with_reducible refine w_test ?_ | with_reducible refine w_tB ?_ | with_reducible refine w_bl ?_
  | with_reducible refine w_and ?_ | with_reducible refine w_or ?_ | with_reducible refine w_not ?_ | with_reducible refine w_andV ?_ | with_reducible refine w_orV ?_ | with_reducible refine w_notV ?_ | with_reducible refine w_ebl ?_
  | with_reducible refine w_ifE ?_ | with_reducible refine w_nil ?_ | with_reducible refine w_cons ?_ | with_reducible refine w_cb ?_ | with_reducible refine w_call ?_ | with_reducible refine w_chain ?_ | with_reducible refine w_I0 ?_
  | with_reducible refine w_isN ?_ | with_reducible refine w_notN ?_ | with_reducible refine w_ltS ?_ | with_reducible refine w_leS ?_ | with_reducible refine w_m1 ?_ | with_reducible refine w_m1s ?_
  | with_reducible refine w_iT ?_ | with_reducible refine w_iF ?_ | with_reducible refine w_nT ?_ | with_reducible refine w_nF ?_ | with_reducible refine w_yes ?_ | with_reducible refine w_sfld ?_ | with_reducible refine w_lc ?_ | with_reducible refine w_for ?_ | with_reducible refine w_iStr ?_ | with_reducible refine w_iTup ?_ | with_reducible refine w_iList ?_ | with_reducible refine w_tup1 ?_ | with_reducible refine w_callN ?_ | with_reducible refine w_iZip ?_ | with_reducible refine w_sl ?_ | with_reducible refine w_part ?_ | with_reducible refine w_noPart ?_ | with_reducible refine w_eInt ?_ | with_reducible refine w_gN ?_ | with_reducible refine w_bm ?_ | with_reducible refine w_lst1 ?_ | ((with_reducible refine' w_aug ?_ ?_); rotate_left; rfl)))

section
variable {K : PySem.W.Frag} {w : World} {mg : Str → Option Value} {vs : List V} {H : Hp} {Q : VK} {E : XK}
/-! ### Sort.rows -/
/-- row += key + str(v), unless v is None -/
theorem w_opt (T : Tx w K mg) {σ : L2.St} {D : Ends} {j : Nat} {key row : Str} {v : V} {o : OPm} (h5 : σ[5]? = some (some (.str row))) (hj : σ[j]? = some (some v)) (hs : σ.set 5 (some (.str row)) = σ) (ho : OPO K H v o) (ok : okO o) (hk : key.length ≤ 10) (hr : row.length ≤ 1000)
    (q : ∀ H', KB [] H H' → D.nx (σ.set 5 (some (.str (row ++ oText key o)))) H') :
    tIfS (tTest (tOp qNotN (tVar j) (tC .non))) (tAug 5 (tOp qAddS (tC (.str key)) (tCB (qStrO (He.ga K "Promise") (sp_Promise_str K)) (tCons (tVar j) tNil))) qAddS) tNext D σ H := by
  refine w_if (w_test (w_op (w_var hj (w_c (w_notN ⟨_, rfl, ?_⟩)))))
  cases o with
  | none =>
    rw [show v = .non from ho, decide_eq_true rfl]
    refine w_nT (w_next ?_)
    have := q H (KB.refl _ _)
    rw [show oText key none = "" from rfl, app_nil, hs] at this
    exact this
  | some p =>
    obtain ⟨a, rfl, hp⟩ := ho
    rw [decide_eq_false (by simp)]
    refine w_nF (w_aug h5 (w_op (w_c (w_cb (w_cons (w_var hj (w_nil ?_)))))))
    obtain ⟨dx, t, h1, h2⟩ := id hp
    refine ⟨a, dx, _, rfl, h1, a, p, rfl, ok p rfl, hp, fun H' k => ⟨_, rfl, ?_⟩⟩
    have hl := pmText_len (ok p rfl)
    refine w_addS' ⟨by omega, w_addS' ⟨by rw [app_len]; omega, ?_⟩⟩
    exact q H' k
def sp_Sort_rows (K : PySem.W.Frag) : Sp := fun vs H Q _ => ∃ (a : Addr) (hd : Str × Pm) (rows : List Row) (pairs : List Pair), vs = [.ref a] ∧ GoodS hd rows pairs ∧ SortO K H a hd rows pairs ∧
  ∀ l H', KB [] H H' → H' l = some (.lst ((sortRows hd rows pairs).map V.str)) → Q (.ref l) H'
theorem rd_Sort_rows (T : Tx w K mg) (h : sp_Sort_rows K vs H Q E) : t_Sort_rows K (sp_Promise_str K) { nx := fun _ H' => Q .non H', rt := Q } (start N_Sort_rows vs) H := by
  obtain ⟨a, hd, rows, pairs, rfl, G, ⟨dx, pa, rt, pt, xs, ys, ha, hpm, hrt, hxs, hpt, hys⟩, q⟩ := h
  have l1 := name_len G.hn
  have ls : ("sort " : Str).length = 5 := by decide
  have lb : (" " : Str).length = 1 := by decide
  have lpt := pmText_len G.hp
  obtain ⟨dxp, tp, hpa, htp⟩ := id hpm
  unfold t_Sort_rows
  walk_at "w"
  refine w_fldV rfl ha T.cl_Sort T.na_called rfl ?_
  refine w_addS' ⟨by omega, ?_⟩
  walk_at "w"
  refine w_addS' ⟨by rw [app_len]; omega, ?_⟩
  walk_at "w"
  refine w_fldV rfl ha T.cl_Sort T.na_promised rfl ?_
  walk_at "w"
  refine ⟨pa, dxp, _, rfl, hpa, pa, hd.2, rfl, G.hp, hpm, fun H1 k1 => ⟨_, rfl, ?_⟩⟩
  refine w_addS' ⟨by rw [app_len, app_len]; omega, ?_⟩
  walk_at "w"
  refine ⟨szb (by show 1 ≤ _; omega), fun l hl => ?_⟩
  walk_at "w"
  have k1l := k1.new (o := .lst [.str ((("sort " : Str) ++ hd.1 ++ " ") ++ pmText hd.2)]) hl
  have nl : H l = none := k1.free hl (by simp)
  refine w_fldV rfl (k1l.get ha) T.cl_Sort T.na_part_rows rfl ?_
  refine ⟨rt, rfl, ⟨_, .of (k1l.get hrt)⟩, ?_⟩
  have xl : xs.length = rows.length := hxs.length
  refine forG (walk_tup (xs := xs)) (fun i σ2 H2 => KB [] H H2 ∧ H2 l = some (.lst (((((("sort " : Str) ++ hd.1 ++ " ") ++ pmText hd.2) :: (rows.take i).map rowText)).map V.str)) ∧ ∃ u1 u2 u3 u4, σ2 = [some (.ref a), some (.ref l), u1, u2, u3, u4, none]) ⟨k1l, upd_same, none, none, none, none, rfl⟩ (fun i σ2 H2 hi P => .of (P.1.get hrt)) (fun i x σ2 H2 H3 hi P y => ?_) (fun σ2 H2 P => ?_)
  · obtain ⟨k, hll, u1, u2, u3, u4, rfl⟩ := P
    obtain ⟨rfl, ex⟩ := y
    obtain ⟨r, er, t, v1, v2, rfl, ht, hv1, hv2⟩ := pget hxs ex
    obtain ⟨n1, n2, n3⟩ := G.rn r (List.mem_of_getElem? er)
    have ln := name_len n1
    have lp : ("part " : Str).length = 5 := by decide
    refine w_gTup3 (.of (k.get ht)) ?_
    walk_at "w"
    refine w_addS' ⟨by omega, ?_⟩
    refine w_seq ?_
    have lo : (" own " : Str).length = 5 := by decide
    have lm : (" mended " : Str).length = 8 := by decide
    refine w_opt T (v := v1) (row := "part " ++ r.1) rfl rfl rfl (hv1.im k.im0) n2 (by omega) (by rw [app_len]; omega) fun H4 k4 => ?_
    refine w_seq ?_
    have l2 := oText_len (key := " own ") n2 (by omega)
    refine w_opt T (v := v2) (row := ("part " ++ r.1) ++ oText " own " r.2.1) rfl rfl rfl (hv2.im (k.trans k4).im0) n3 (by omega) (by rw [app_len, app_len]; omega) fun H5 k5 => ?_
    walk_at "w"
    have k45 := k4.trans k5
    have e5 := k45.get hll
    refine ⟨.inl ⟨rfl, _, .of e5⟩, ?_⟩
    walk_at "w"
    have ril : rows.length ≤ 12 := G.rl
    refine ⟨l, _, _, rfl, rfl, e5, ?_, ?_⟩
    · rw [sizeLine_eq]
      have : (rows.take i).length ≤ 12 := by rw [List.length_take]; omega
      simp
      omega
    · walk_at "w"
      refine ⟨(k.trans k45).mutN nl, ?_, _, _, _, _, rfl⟩
      rw [upd_same, List.take_succ, er]
      simp [rowText]
  · obtain ⟨k, hll, u1, u2, u3, u4, rfl⟩ := P
    rw [List.take_of_length_le (by omega)] at hll
    walk_at "w"
    refine w_fldV rfl (k.get ha) T.cl_Sort T.na_barred_pairs rfl ?_
    refine ⟨pt, rfl, ⟨_, .of (k.get hpt)⟩, ?_⟩
    have yl : ys.length = pairs.length := hys.length
    have pl := G.pl
    refine lc_map (walk_tup (xs := ys)) ((pairs.map pairText).map V.str) (by simp; omega) (by omega) (fun H3 k3 => .of ((k.trans k3).get hpt)) (fun i x z H3 H4 K1 ez hi k3 y f => ?_) (fun D H3 hD k3 e => ?_)
    · obtain ⟨rfl, ex⟩ := y
      obtain ⟨p, ep, t, rfl, ht⟩ := pget hys ex
      obtain ⟨n1, n2⟩ := G.pn p (List.mem_of_getElem? ep)
      have m1 := name_len n1
      have m2 := name_len (names_name G.rn n2)
      have lba : ("barred " : Str).length = 7 := by decide
      refine w_gTup2 (.of ((k.trans k3).get ht)) ⟨rfl, ?_⟩
      have ez : V.str (pairText p) = z := by
        rw [List.getElem?_map, List.getElem?_map, ep] at ez
        exact Option.some.inj ez
      refine w_op (w_op (w_op (w_c (w_var rfl (w_addS' ⟨by omega, ?_⟩)))))
      refine w_c (w_addS' ⟨by rw [app_len]; omega, ?_⟩)
      refine w_var rfl (w_addS' ⟨by rw [app_len, app_len]; omega, ?_⟩)
      rw [show V.str ("barred " ++ p.1 ++ " " ++ p.2) = z from ez]
      exact f _ (KB.refl _ _)
    · refine ⟨l, D, _, _, rfl, rfl, k3.get hll, e, ?_, fun g hg => ?_⟩
      · rw [sizeLine_eq]
        have := G.rl
        simp
        omega
      · refine q g _ ((k.trans k3).new hg) ?_
        rw [upd_same]
        simp [sortRows]
/-! ### Sort.__eq__, Sort.__str__ -/
def SameS (K : PySem.W.Frag) : Addr → Addr → Hp → Prop := fun a b H => ∃ (hd : Str × Pm) (rows : List Row) (pairs : List Pair), GoodS hd rows pairs ∧ SortO K H a hd rows pairs ∧ SortO K H b hd rows pairs
theorem rd_Sort_eq (T : Tx w K mg) (h : spEq (SameS K) vs H Q E) : t_Sort_eq K (sp_Sort_rows K) { nx := fun _ H' => Q .non H', rt := Q } (start N_Sort_eq vs) H := by
  obtain ⟨a, b, rfl, ⟨hd, rows, pairs, G, hA, hB⟩, q⟩ := h
  obtain ⟨dx, _, _, _, _, _, ha, _⟩ := id hA
  obtain ⟨dx2, _, _, _, _, _, hb, _⟩ := id hB
  unfold t_Sort_eq
  walk_at "w"
  refine w_isi (st_ty T hb) (.own _) T.is_SS ?_
  walk_at "w"
  refine w_methV rfl ha rfl ?_
  walk_at "w"
  refine ⟨a, hd, rows, pairs, rfl, G, hA, fun l H1 k1 e1 => ?_⟩
  refine w_methV rfl (k1.get hb) rfl ?_
  walk_at "w"
  refine ⟨b, hd, rows, pairs, rfl, G, hB.im k1.im0, fun l2 H2 k2 e2 => ?_⟩
  refine ⟨l, l2, _, _, rfl, rfl, .of (k2.get e1), .of e2, ?_⟩
  rw [decide_eq_true rfl]
  exact q H2 fun c o e => (k1.trans k2).get e
theorem rowText_len {r : Row} (h1 : isName r.1 = true) (h2 : okO r.2.1) (h3 : okO r.2.2) : (rowText r).length ≤ 200 := by
  unfold rowText
  rw [app_len, app_len, app_len]
  have lo : (" own " : Str).length = 5 := by decide
  have lm : (" mended " : Str).length = 8 := by decide
  have lp : ("part " : Str).length = 5 := by decide
  have a := oText_len (key := " own ") h2 (by omega)
  have b := oText_len (key := " mended ") h3 (by omega)
  have c := name_len h1
  omega
theorem sortRows_len {hd : Str × Pm} {rows : List Row} {pairs : List Pair} (G : GoodS hd rows pairs) : ((sortRows hd rows pairs).map (·.length)).sum ≤ 43 * 200 ∧ (sortRows hd rows pairs).length ≤ 43 := by
  have hl : (sortRows hd rows pairs).length ≤ 43 := by
    unfold sortRows
    have := G.rl
    have := G.pl
    simp
    omega
  refine ⟨?_, hl⟩
  have h2 := sum_le (l := sortRows hd rows pairs) (b := 200) (fun z hz => by
    unfold sortRows at hz
    rcases List.mem_append.mp hz with m | m
    · rcases List.mem_append.mp m with m | m
      · simp at m
        subst m
        rw [app_len, app_len, app_len]
        have ls : ("sort " : Str).length = 5 := by decide
        have lb : (" " : Str).length = 1 := by decide
        have := pmText_len G.hp
        have := name_len G.hn
        omega
      · obtain ⟨r, hr, rfl⟩ := List.mem_map.mp m
        obtain ⟨n1, n2, n3⟩ := G.rn r hr
        exact rowText_len n1 n2 n3
    · obtain ⟨p, hp, rfl⟩ := List.mem_map.mp m
      obtain ⟨n1, n2⟩ := G.pn p hp
      have m1 := name_len n1
      have m2 := name_len (names_name G.rn n2)
      have lba : ("barred " : Str).length = 7 := by decide
      have lb : (" " : Str).length = 1 := by decide
      show ((("barred " : Str) ++ p.1 ++ " ") ++ p.2).length ≤ 200
      rw [app_len, app_len, app_len]
      omega)
  have : (sortRows hd rows pairs).length * 200 ≤ 43 * 200 := Nat.mul_le_mul_right _ hl
  omega
def sp_Sort_str (K : PySem.W.Frag) : Sp := fun vs H Q _ => ∃ (a : Addr) (hd : Str × Pm) (rows : List Row) (pairs : List Pair), vs = [.ref a] ∧ GoodS hd rows pairs ∧ SortO K H a hd rows pairs ∧
  ∀ H', KB [] H H' → Q (.str (Txt.join "\n" (sortRows hd rows pairs))) H'
theorem rd_Sort_str (T : Tx w K mg) (h : sp_Sort_str K vs H Q E) : t_Sort_str K (sp_Sort_rows K) { nx := fun _ H' => Q .non H', rt := Q } (start N_Sort_str vs) H := by
  obtain ⟨a, hd, rows, pairs, rfl, G, hA, q⟩ := h
  obtain ⟨dx, _, _, _, _, _, ha, _⟩ := id hA
  unfold t_Sort_str
  walk_at "w"
  refine w_methV rfl ha rfl ?_
  walk_at "w"
  refine ⟨a, hd, rows, pairs, rfl, G, hA, fun l H1 k1 e1 => ?_⟩
  obtain ⟨s1, s2⟩ := sortRows_len G
  have ln : ("\n" : Str).length = 1 := by decide
  exact ⟨"\n", l, _, rfl, rfl, .inl (.of e1), by rw [ln]; omega, q H1 k1⟩
end
end WK
set_option Elab.async false
set_option linter.all false
set_option maxRecDepth 100000
set_option maxHeartbeats 4000000
namespace WK
open PySem PySem.Spec PyProof.Rows L2
/-! ### the error told -/
def errF (row word : Int) : List (Str × V) := [("word", .int word), ("row", .int row), ("what", .str "text")]
def RdErr (K : PySem.W.Frag) (E : XK) (H : Hp) (S : List Addr) (row word : Int) : Prop := ∀ d H', KB S H H' → H' d = some (.xd (errF row word)) → E (.ref (He.ga K "BadText")) (some d) H'
theorem RdErr.at {K : PySem.W.Frag} {E : XK} {H H1 : Hp} {S S' : List Addr} {row word : Int} (h : RdErr K E H S row word) (k : KB S H H1) (hs : ∀ b ∈ S', b ∈ S ∨ H b = none) : RdErr K E H1 S' row word := fun d H' k' e => h d H' (fun b o hb n => k' b o (k b o hb n) fun m => by
  rcases hs b m with z | z
  · exact n z
  · rw [z] at hb; cases hb) e
structure TxE (K : PySem.W.Frag) : Prop where
  oex : OexC K (He.ga K "BadText")
  na_what : PySem.W.findIn K (.ref (He.ga K "BadText")) "what" = some none
  na_row : PySem.W.findIn K (.ref (He.ga K "BadText")) "row" = some none
  na_word : PySem.W.findIn K (.ref (He.ga K "BadText")) "word" = some none
  xc : XcC K (He.ga K "BadText")
  is_BT : PySem.W.kitOne K (.ref (He.ga K "BadText")) (.ref (He.ga K "BadText")) = some true
  is_BV : PySem.W.kitOne K (.ref (He.ga K "BadText")) (.ref (He.ga K "BadValue")) = some true
  exm : PySem.W.exmAny K (.ref (He.ga K "BadText")) [.ref (He.ga K "BadValue"), .ref (He.ga K "NoSuch"), .ref (He.ga K "OutOfOrder"), .ref (He.ga K "Full")] = some true
/-! ### the reader -/
abbrev rdF (wl : Addr) (row k : Int) : List (Str × V) := [("all_words", .ref wl), ("on_row", .int row), ("taken", .int k)]
structure RdO (K : PySem.W.Frag) (H : Hp) (p dx wl : Addr) (ws : List Str) (row : Int) (k : Nat) : Prop where
  o : H p = some (.ins (He.ga K "Reader") dx (rdF wl row k))
  w : H wl = some (.lst (ws.map V.str))
  z : ws.length ≤ 16000000
theorem RdO.kb {K : PySem.W.Frag} {H H' : Hp} {p dx wl : Addr} {ws : List Str} {row : Int} {k : Nat} (h : RdO K H p dx wl ws row k) (kk : KB [] H H') : RdO K H' p dx wl ws row k := ⟨kk.get h.o, kk.get h.w, h.z⟩
theorem RdO.ne {K : PySem.W.Frag} {H : Hp} {p dx wl : Addr} {ws : List Str} {row : Int} {k : Nat} (h : RdO K H p dx wl ws row k) : wl ≠ p := fun e => by
  have a := h.o
  rw [← e, h.w] at a
  cases a
theorem at_get {ws : List Str} {k : Nat} (h : k < ws.length) : (ws.map V.str)[k]? = some (.str (wAt ws k)) := by
  rw [List.getElem?_map, List.getElem?_eq_getElem h]
  unfold wAt
  rw [List.getD_eq_getElem?_getD, List.getElem?_eq_getElem h]; rfl
theorem at_none {ws : List Str} {k : Nat} (h : ws.length ≤ k) : wAt ws k = "" := by
  unfold wAt
  rw [List.getD_eq_getElem?_getD, List.getElem?_eq_none h]; rfl
theorem w_ost {K : PySem.W.Frag} {σ : L2.St} {H : Hp} {D : Ends} {f : Str} {to te : TE} (q : te σ H fun y H1 => to σ H1 fun x H2 => ∃ a C : Addr, x = .ref a ∧ OexC K C ∧ PySem.W.findIn K (.ref C) f = some none ∧
  ((H2 a = some (exo a C none) ∧ ∀ dx, H2 dx = none → dx ≠ a → D.nx σ (upd (upd H2 dx (exd dx [(f, y)])) a (exo a C (some dx)))) ∨
    ∃ (dx : Addr) (fs : List (Str × V)), H2 a = some (exo a C (some dx)) ∧ H2 dx = some (exd dx fs) ∧ fs.length ≤ 900 ∧ D.nx σ (upd H2 dx (exd dx ((f, y) :: fs))))) : tOst K f to te D σ H := q
theorem w_rz {σ : L2.St} {H : Hp} {D : Ends} {C : Addr} {sp : Sp} {E : XK} {ta : TA} (q : ta σ H fun vs H1 => vs.length ≤ 1000 ∧ ∀ a, H1 a = none → sp (.ref a :: (vs ++ [])) (upd H1 a (exo a C none))
  (fun v H2 => v = .non ∧ ∃ (d : Addr) (fs : List (Str × V)), H2 a = some (exo a C (some d)) ∧ H2 d = some (exd d fs) ∧ H1 d = none ∧ E (.ref C) (some d) (upd (del H2 a) d (.xd fs))) (fun _ _ _ => False)) : tRz C sp E ta D σ H := q
/-- steps that need no fact -/
local macro_rules | `(tactic| walk_at "w") => `(tactic| repeat (first
  | with_reducible refine w_seq ?_ | with_reducible refine w_asg ?_ | with_reducible refine w_ret ?_ | with_reducible refine w_drp ?_ | with_reducible refine w_next ?_ | with_reducible refine w_if ?_
  | ((with_reducible refine' w_var ?_ ?_); rotate_left; rfl) | with_reducible refine w_c ?_ | with_reducible refine w_op ?_ | with_reducible refine w_un ?_ | with_reducible refine w_test ?_ | with_reducible refine w_tB ?_ | with_reducible refine w_bl ?_
  | with_reducible refine w_and ?_ | with_reducible refine w_or ?_ | with_reducible refine w_not ?_ | with_reducible refine w_andV ?_ | with_reducible refine w_orV ?_ | with_reducible refine w_notV ?_ | with_reducible refine w_ebl ?_
  | with_reducible refine w_ifE ?_ | with_reducible refine w_nil ?_ | with_reducible refine w_cons ?_ | with_reducible refine w_cb ?_ | with_reducible refine w_call ?_ | with_reducible refine w_chain ?_ | with_reducible refine w_I0 ?_
  | with_reducible refine w_isN ?_ | with_reducible refine w_notN ?_ | with_reducible refine w_ltS ?_ | with_reducible refine w_leS ?_ | with_reducible refine w_m1 ?_ | with_reducible refine w_m1s ?_
  | with_reducible refine w_iT ?_ | with_reducible refine w_iF ?_ | with_reducible refine w_nT ?_ | with_reducible refine w_nF ?_ | with_reducible refine w_yes ?_ | with_reducible refine w_sfld ?_ | with_reducible refine w_lc ?_ | with_reducible refine w_for ?_ | with_reducible refine w_iStr ?_ | with_reducible refine w_iTup ?_ | with_reducible refine w_iList ?_ | with_reducible refine w_tup1 ?_ | with_reducible refine w_callN ?_ | with_reducible refine w_iZip ?_ | with_reducible refine w_sl ?_ | with_reducible refine w_part ?_ | with_reducible refine w_noPart ?_ | with_reducible refine w_eInt ?_ | with_reducible refine w_gN ?_ | with_reducible refine w_bm ?_ | with_reducible refine w_lst1 ?_ | ((with_reducible refine' w_aug ?_ ?_); rotate_left; rfl) | with_reducible refine w_ost ?_ | with_reducible refine w_rz ?_))

section
variable {K : PySem.W.Frag} {w : World} {mg : Str → Option Value} {vs : List V} {H : Hp} {Q : VK} {E : XK}
/-! ### BadValue.__init__, BadText.__init__ -/
def sp_BadValue_init (K : PySem.W.Frag) : Sp := fun vs H Q _ => ∃ (e C : Addr) (z : Str), vs = [.ref e, .str z] ∧ OexC K C ∧ PySem.W.findIn K (.ref C) "what" = some none ∧ H e = some (exo e C none) ∧
  ∀ dx, H dx = none → dx ≠ e → Q .non (upd (upd H dx (exd dx [("what", .str z)])) e (exo e C (some dx)))
theorem rd_BadValue_init (h : sp_BadValue_init K vs H Q E) : t_BadValue_init K { nx := fun _ H' => Q .non H', rt := Q } (start N_BadValue_init vs) H := by
  obtain ⟨e, C, z, rfl, T, na, he, q⟩ := h
  unfold t_BadValue_init
  walk_at "w"
  exact ⟨e, C, rfl, T, na, .inl ⟨he, q⟩⟩
def sp_BadText_init (K : PySem.W.Frag) : Sp := fun vs H Q _ => ∃ (e : Addr) (row word : Int), vs = [.ref e, .int row, .int word] ∧ H e = some (exo e (He.ga K "BadText") none) ∧
  ∀ dx H', H dx = none → dx ≠ e → (∀ b, b ≠ dx → b ≠ e → H' b = H b) → H' e = some (exo e (He.ga K "BadText") (some dx)) → H' dx = some (exd dx (errF row word)) → Q .non H'
theorem rd_BadText_init (X : TxE K) (h : sp_BadText_init K vs H Q E) : t_BadText_init K (sp_BadValue_init K) { nx := fun _ H' => Q .non H', rt := Q } (start N_BadText_init vs) H := by
  obtain ⟨e, row, word, rfl, he, q⟩ := h
  unfold t_BadText_init
  walk_at "w"
  refine ⟨e, _, "text", rfl, X.oex, X.na_what, he, fun dx hd ne => ?_⟩
  have e1 : ∀ (H1 : Hp) (o : HO), upd (upd H dx o) e (exo e (He.ga K "BadText") (some dx)) dx = some o := fun _ o => by rw [upd_ne ne, upd_same]
  walk_at "w"
  refine ⟨e, _, rfl, X.oex, X.na_row, .inr ⟨dx, _, upd_same, e1 H _, (by show 1 ≤ 900; decide), ?_⟩⟩
  walk_at "w"
  refine ⟨e, _, rfl, X.oex, X.na_word, .inr ⟨dx, _, by rw [upd_ne (Ne.symm ne), upd_same], upd_same, (by show 2 ≤ 900; decide), ?_⟩⟩
  refine q dx _ hd ne (fun b n1 n2 => ?_) ?_ upd_same
  · rw [upd_ne n1, upd_ne n1, upd_ne n2, upd_ne n1]
  · rw [upd_ne (Ne.symm ne), upd_ne (Ne.symm ne), upd_same]
theorem rz_ok {H1 : Hp} {r k : Int} (q : RdErr K E H1 [] r k) : [V.int r, V.int k].length ≤ 1000 ∧ ∀ a, H1 a = none → sp_BadText_init K (.ref a :: ([V.int r, V.int k] ++ [])) (upd H1 a (exo a (He.ga K "BadText") none))
    (fun v H2 => v = .non ∧ ∃ (d : Addr) (fs : List (Str × V)), H2 a = some (exo a (He.ga K "BadText") (some d)) ∧ H2 d = some (exd d fs) ∧ H1 d = none ∧ E (.ref (He.ga K "BadText")) (some d) (upd (del H2 a) d (.xd fs))) fun _ _ _ => False := by
  refine ⟨(by show 2 ≤ 1000; decide), fun a ha => ⟨a, r, k, rfl, upd_same, fun dx H' hd ne hk he hx => ⟨rfl, dx, _, he, hx, ?_, q dx _ (fun b o hb _ => ?_) upd_same⟩⟩⟩
  · rw [upd_ne ne] at hd; exact hd
  · rw [upd_ne ne] at hd
    have n1 : b ≠ dx := ne_of_none hb hd
    have n2 : b ≠ a := ne_of_none hb ha
    rw [upd_ne n1, del_ne n2, hk b n1 n2, upd_ne n2]
    exact hb
/-! ### Reader -/
def sp_Reader_init (K : PySem.W.Frag) : Sp := fun vs H Q _ => ∃ (p dx wl : Addr) (row : Int), vs = [.ref p, .ref wl, .int row] ∧ H p = some (.ins (He.ga K "Reader") dx []) ∧ Q .non (upd H p (.ins (He.ga K "Reader") dx (rdF wl row 0)))
theorem rd_Reader_init (T : Tx w K mg) (h : sp_Reader_init K vs H Q E) : t_Reader_init K { nx := fun _ H' => Q .non H', rt := Q } (start N_Reader_init vs) H := by
  obtain ⟨p, dx, wl, row, rfl, hp, q⟩ := h
  unfold t_Reader_init
  walk_at "w"
  refine ⟨p, _, dx, _, rfl, hp, T.cl_Reader, T.na_all_words, by show 0 < 1000; decide, ?_⟩
  walk_at "w"
  refine ⟨p, _, dx, _, rfl, upd_same, T.cl_Reader, T.na_on_row, by show 1 < 1000; decide, ?_⟩
  walk_at "w"
  refine ⟨p, _, dx, _, rfl, upd_same, T.cl_Reader, T.na_taken, by show 2 < 1000; decide, ?_⟩
  rw [upd_upd, upd_upd]
  exact q
def sp_Reader_ahead (K : PySem.W.Frag) : Sp := fun vs H Q _ => ∃ (p dx wl : Addr) (ws : List Str) (row : Int) (k : Nat), vs = [.ref p] ∧ RdO K H p dx wl ws row k ∧ Q (.str (wAt ws k)) H
theorem rd_Reader_ahead (T : Tx w K mg) (h : sp_Reader_ahead K vs H Q E) : t_Reader_ahead K { nx := fun _ H' => Q .non H', rt := Q } (start N_Reader_ahead vs) H := by
  obtain ⟨p, dx, wl, ws, row, k, rfl, R, q⟩ := h
  unfold t_Reader_ahead
  walk_at "w"
  refine w_fldV rfl R.o T.cl_Reader T.na_taken rfl ?_
  walk_at "w"
  refine w_fldV rfl R.o T.cl_Reader T.na_all_words rfl ?_
  walk_at "w"
  refine w_lenL (.of R.w) ?_
  walk_at "w"
  refine w_ite (fun hb => ?_) (fun hb => ?_)
  · walk_at "w"
    refine w_fldV rfl R.o T.cl_Reader T.na_all_words rfl ?_
    refine w_fldV rfl R.o T.cl_Reader T.na_taken rfl ?_
    have hk : k < ws.length := by have := of_decide_eq_true hb; simp at this; omega
    exact w_ixL (.of R.w) (atI_nat (at_get hk)) q
  · walk_at "w"
    have hk : ws.length ≤ k := by have := of_decide_eq_false hb; simp at this; omega
    rw [at_none hk] at q
    exact q
def sp_Reader_refuse (K : PySem.W.Frag) : Sp := fun vs H Q E => ∃ (p dx wl : Addr) (ws : List Str) (row : Int) (k : Nat), vs = [.ref p] ∧ RdO K H p dx wl ws row k ∧ RdErr K E H [] row (k + 1)
theorem rd_Reader_refuse (T : Tx w K mg) (h : sp_Reader_refuse K vs H Q E) : t_Reader_refuse K E (sp_BadText_init K) { nx := fun _ H' => Q .non H', rt := Q } (start N_Reader_refuse vs) H := by
  obtain ⟨p, dx, wl, ws, row, k, rfl, R, q⟩ := h
  unfold t_Reader_refuse
  walk_at "w"
  refine w_fldV rfl R.o T.cl_Reader T.na_on_row rfl ?_
  walk_at "w"
  refine w_fldV rfl R.o T.cl_Reader T.na_taken rfl ?_
  walk_at "w"
  exact rz_ok q
def sp_Reader_take (K : PySem.W.Frag) : Sp := fun vs H Q E => ∃ (p dx wl : Addr) (ws : List Str) (row : Int) (k : Nat) (good : Bool), vs = [.ref p, .bl good] ∧ RdO K H p dx wl ws row k ∧ (good = false → RdErr K E H [] row (k + 1)) ∧
  (good = true → k < ws.length ∧ ∀ H', KB [p] H H' → RdO K H' p dx wl ws row (k + 1) → Q (.str (wAt ws k)) H')
theorem rd_Reader_take (T : Tx w K mg) (h : sp_Reader_take K vs H Q E) : t_Reader_take K E (sp_Reader_refuse K) { nx := fun _ H' => Q .non H', rt := Q } (start N_Reader_take vs) H := by
  obtain ⟨p, dx, wl, ws, row, k, good, rfl, R, q0, q1⟩ := h
  unfold t_Reader_take
  walk_at "w"
  cases good with
  | false =>
    walk_at "w"
    refine w_methV rfl R.o rfl ?_
    walk_at "w"
    exact ⟨p, dx, wl, ws, row, k, rfl, R, q0 rfl⟩
  | true =>
    walk_at "w"
    obtain ⟨hk, q⟩ := q1 rfl
    refine ⟨.ref p, rfl, p, _, dx, _, .int k, rfl, R.o, T.cl_Reader, T.na_taken, rfl, ?_⟩
    walk_at "w"
    refine ⟨k, 1, rfl, rfl, dx, _, R.o, by show 3 < 1000; decide, ?_⟩
    have R' : RdO K (upd H p (.ins (He.ga K "Reader") dx (rdF wl row ((k + 1 : Nat) : Int)))) p dx wl ws row (k + 1) := ⟨upd_same, by rw [upd_ne R.ne]; exact R.w, R.z⟩
    have e : upd H p (.ins (He.ga K "Reader") dx (putF "taken" (.int (k + 1)) (rdF wl row k))) = upd H p (.ins (He.ga K "Reader") dx (rdF wl row ((k + 1 : Nat) : Int))) := rfl
    rw [e]
    walk_at "w"
    refine w_fldV rfl R'.o T.cl_Reader T.na_all_words rfl ?_
    walk_at "w"
    refine w_fldV rfl R'.o T.cl_Reader T.na_taken rfl ?_
    walk_at "w"
    have hi : ((k + 1 : Nat) : Int) - 1 = (k : Int) := by omega
    rw [hi]
    exact w_ixL (.of R'.w) (atI_nat (at_get hk)) (q _ (KB.mut (KB.refl _ _) (by simp)) R')
def sp_Reader_take_name (K : PySem.W.Frag) : Sp := fun vs H Q E => ∃ (p dx wl : Addr) (ws : List Str) (row : Int) (k : Nat), vs = [.ref p] ∧ RdO K H p dx wl ws row k ∧ (∀ z ∈ ws, z.length ≤ 16000000) ∧ (isName (wAt ws k) = false → RdErr K E H [] row (k + 1)) ∧
  (isName (wAt ws k) = true → ∀ H', KB [p] H H' → RdO K H' p dx wl ws row (k + 1) → Q (.str (wAt ws k)) H')
theorem at_len {ws : List Str} {b : Nat} (h : ∀ z ∈ ws, z.length ≤ b) (k : Nat) : (wAt ws k).length ≤ b := by
  rcases Nat.lt_or_ge k ws.length with q | q
  · have := at_get q
    rw [List.getElem?_map] at this
    obtain ⟨z, hz, e⟩ := Option.map_eq_some_iff.mp this
    injection e with e
    rw [← e]
    exact h z (List.mem_of_getElem? hz)
  · rw [at_none q]
    exact Nat.zero_le _
theorem rd_Reader_take_name (T : Tx w K mg) (h : sp_Reader_take_name K vs H Q E) : t_Reader_take_name K E (sp_Reader_take K) sp_is_name (sp_Reader_ahead K) { nx := fun _ H' => Q .non H', rt := Q } (start N_Reader_take_name vs) H := by
  obtain ⟨p, dx, wl, ws, row, k, rfl, R, hz, q0, q1⟩ := h
  unfold t_Reader_take_name
  walk_at "w"
  refine w_methV rfl R.o rfl ?_
  walk_at "w"
  refine w_methV rfl R.o rfl ?_
  walk_at "w"
  refine ⟨p, dx, wl, ws, row, k, rfl, R, ?_⟩
  walk_at "w"
  refine ⟨wAt ws k, rfl, at_len hz k, fun H1 k1 => ?_⟩
  refine ⟨p, dx, wl, ws, row, k, _, rfl, R.kb k1, fun e => (q0 e).at k1 (by simp), fun e => ⟨wAt_lt (name_ne e), fun H' k' R' => q1 e H' (k1.of.trans k') R'⟩⟩
def sp_Reader_take_number (K : PySem.W.Frag) : Sp := fun vs H Q E => ∃ (p dx wl : Addr) (ws : List Str) (row : Int) (k : Nat), vs = [.ref p, .int 1000000] ∧ RdO K H p dx wl ws row k ∧ (∀ z ∈ ws, z.length ≤ 16000000) ∧
  (numOf (wAt ws k) = none → RdErr K E H [] row (k + 1)) ∧ (∀ n, numOf (wAt ws k) = some n → ¬ n ≤ 1000000 → RdErr K E H [] row (k + 1)) ∧
  (∀ n, numOf (wAt ws k) = some n → n ≤ 1000000 → ∀ H', KB [p] H H' → RdO K H' p dx wl ws row (k + 1) → Q (.int n) H')
theorem rd_Reader_take_number (T : Tx w K mg) (h : sp_Reader_take_number K vs H Q E) : t_Reader_take_number K E sp_number_of (sp_Reader_ahead K) (sp_Reader_take K) sp_is_whole { nx := fun _ H' => Q .non H', rt := Q } (start N_Reader_take_number vs) H := by
  obtain ⟨p, dx, wl, ws, row, k, rfl, R, hz, q0, q1, q2⟩ := h
  unfold t_Reader_take_number
  walk_at "w"
  refine w_methV rfl R.o rfl ?_
  walk_at "w"
  refine ⟨p, dx, wl, ws, row, k, rfl, R, ?_⟩
  walk_at "w"
  refine ⟨wAt ws k, rfl, at_len hz k, fun H1 k1 => ?_⟩
  walk_at "w"
  refine w_methV rfl (k1.get R.o) rfl ?_
  walk_at "w"
  cases hn : numOf (wAt ws k) with
  | none =>
    show if (!decide (V.non = V.non)) = true then _ else _
    rw [decide_eq_true rfl]
    refine w_nT ?_
    walk_at "w"
    exact ⟨p, dx, wl, ws, row, k, _, rfl, R.kb k1, fun _ => (q0 hn).at k1 (by simp), fun e => nomatch e⟩
  | some n =>
    show if (!decide (V.int n = V.non)) = true then _ else _
    rw [decide_eq_false (by simp)]
    refine w_nF ?_
    walk_at "w"
    refine ⟨rfl, rfl, n, 0, 1000000, rfl, ?_⟩
    rw [decide_eq_true (numOf_nonneg hn)]
    by_cases hle : n ≤ 1000000
    · rw [decide_eq_true hle]
      walk_at "w"
      refine ⟨p, dx, wl, ws, row, k, _, rfl, R.kb k1, fun e => (nomatch e), fun _ => ⟨num_lt hn, fun H' k' R' => ?_⟩⟩
      walk_at "w"
      exact q2 n hn hle H' (k1.of.trans k') R'
    · rw [decide_eq_false hle]
      walk_at "w"
      exact ⟨p, dx, wl, ws, row, k, _, rfl, R.kb k1, fun _ => (q1 n hn hle).at k1 (by simp), fun e => nomatch e⟩
def sp_Reader_is_over (K : PySem.W.Frag) : Sp := fun vs H Q _ => ∃ (p dx wl : Addr) (ws : List Str) (row : Int) (k : Nat), vs = [.ref p] ∧ RdO K H p dx wl ws row k ∧ Q (.bl (decide (k = ws.length))) H
theorem rd_Reader_is_over (T : Tx w K mg) (h : sp_Reader_is_over K vs H Q E) : t_Reader_is_over K { nx := fun _ H' => Q .non H', rt := Q } (start N_Reader_is_over vs) H := by
  obtain ⟨p, dx, wl, ws, row, k, rfl, R, q⟩ := h
  unfold t_Reader_is_over
  walk_at "w"
  refine w_fldV rfl R.o T.cl_Reader T.na_taken rfl ?_
  walk_at "w"
  refine w_fldV rfl R.o T.cl_Reader T.na_all_words rfl ?_
  walk_at "w"
  refine w_lenL (.of R.w) ?_
  refine w_eq rfl ?_
  have e : decide (V.int (k : Int) = V.int ((ws.map V.str).length : Int)) = decide (k = ws.length) := by
    rw [List.length_map]
    by_cases h : k = ws.length
    · rw [h, decide_eq_true rfl, decide_eq_true rfl]
    · rw [decide_eq_false h, decide_eq_false]
      intro e
      injection e with e
      omega
  rw [e]
  exact q
def sp_Reader_over (K : PySem.W.Frag) : Sp := fun vs H Q E => ∃ (p dx wl : Addr) (ws : List Str) (row : Int) (k : Nat), vs = [.ref p] ∧ RdO K H p dx wl ws row k ∧ (k ≠ ws.length → RdErr K E H [] row (k + 1)) ∧ (k = ws.length → Q .non H)
theorem rd_Reader_over (T : Tx w K mg) (h : sp_Reader_over K vs H Q E) : t_Reader_over K E (sp_Reader_is_over K) (sp_Reader_refuse K) { nx := fun _ H' => Q .non H', rt := Q } (start N_Reader_over vs) H := by
  obtain ⟨p, dx, wl, ws, row, k, rfl, R, q0, q1⟩ := h
  unfold t_Reader_over
  walk_at "w"
  refine w_methV rfl R.o rfl ?_
  walk_at "w"
  refine ⟨p, dx, wl, ws, row, k, rfl, R, ?_⟩
  walk_at "w"
  by_cases hk : k = ws.length
  · rw [decide_eq_true hk]
    walk_at "w"
    exact q1 hk
  · rw [decide_eq_false hk]
    walk_at "w"
    refine w_methV rfl R.o rfl ?_
    walk_at "w"
    exact ⟨p, dx, wl, ws, row, k, rfl, R, q0 hk⟩
end
end WK
set_option Elab.async false
set_option linter.all false
set_option maxRecDepth 100000
set_option maxHeartbeats 4000000
namespace WK
open PySem PySem.Spec PyProof.Rows L2
theorem mk_kb {H H' : Hp} {x dx : Addr} {o : HO} (hx : H x = none) (hd : H dx = none) (k : KB [x] (upd (upd H dx (.own x)) x o) H') : KB [] H H' := by
  have k1 : KB [x] H (upd (upd H dx (.own x)) x o) := ((KB.refl _ _).new hd).mutN hx
  exact (k1.trans k).drop fun b hb => by simp at hb; subst hb; exact .inr hx
/-! ### bounds and their names -/
def mostOf (z : Str) : Int := if z = "days" then 9999 else 1000000
def namesF (place : Nat) (n : Int) : List Str := (boundsL.drop place).filter fun z => decide (n ≤ mostOf z)
theorem slot_some {place : Nat} {n : Int} {w : Str} (hp : place ≤ 2) (hn : n ≤ 1000000) : (namesF place n).contains w = (slotOf place n w).isSome := by
  have md : mostOf "days" = 9999 := by decide
  have mm : mostOf "miles" = 1000000 := by decide
  have mt : mostOf "turns" = 1000000 := by decide
  have d1 : ("days" : Str) ≠ "miles" := by decide
  have d2 : ("days" : Str) ≠ "turns" := by decide
  have d3 : ("miles" : Str) ≠ "turns" := by decide
  have step : ∀ (a : Str) (l : List Str), (a :: l).contains w = (decide (w = a) || l.contains w) := fun a l => by
    rw [List.contains_cons]
    by_cases h : w = a
    · subst h; simp
    · have : (w == a) = false := beq_eq_false_iff_ne.mpr h
      rw [this, decide_eq_false h]
  match place, hp with
  | 0, _ =>
    have e : namesF 0 n = (if n ≤ 9999 then [("days" : Str)] else []) ++ [("miles" : Str), "turns"] := by
      unfold namesF
      show List.filter _ (["days", "miles", "turns"] : List Str) = _
      simp only [List.filter_cons, md, mm, mt, decide_eq_true hn, if_true, List.filter_nil]
      by_cases h : n ≤ 9999 <;> simp [h]
    rw [e]
    unfold slotOf
    by_cases h : n ≤ 9999
    · simp only [h, if_true, List.singleton_append, step]
      by_cases h1 : w = "days"
      · simp [h1]
      · by_cases h2 : w = "miles"
        · simp [h2, Ne.symm d1]
        · by_cases h3 : w = "turns"
          · simp [h3, Ne.symm d2, Ne.symm d3]
          · simp [h1, h2, h3]
    · simp only [h, if_false, List.nil_append, step]
      by_cases h2 : w = "miles"
      · simp [h2, Ne.symm d1]
      · by_cases h3 : w = "turns"
        · simp [h3, Ne.symm d2, Ne.symm d3]
        · simp [h2, h3]
  | 1, _ =>
    have e : namesF 1 n = (["miles", "turns"] : List Str) := by
      unfold namesF
      show List.filter _ (["miles", "turns"] : List Str) = _
      simp only [List.filter_cons, mm, mt, decide_eq_true hn, if_true, List.filter_nil]
    rw [e]
    unfold slotOf
    simp only [step]
    by_cases h2 : w = "miles"
    · simp [h2]
    · by_cases h3 : w = "turns"
      · simp [h3, Ne.symm d3]
      · simp [h2, h3]
  | 2, _ =>
    have e : namesF 2 n = (["turns"] : List Str) := by
      unfold namesF
      show List.filter _ (["turns"] : List Str) = _
      simp only [List.filter_cons, mt, decide_eq_true hn, if_true, List.filter_nil]
    rw [e]
    unfold slotOf
    simp only [step]
    by_cases h3 : w = "turns"
    · simp [h3]
    · simp [h3]
/-- the dict of what was read -/
structure DicL (kvs : List (Key × V)) (L : Pm) (place : Nat) : Prop where
  d : valV kvs (.inr "days") = L.1.map V.int
  m : valV kvs (.inr "miles") = L.2.1.map V.int
  t : valV kvs (.inr "turns") = L.2.2.map V.int
  e : kvs.isEmpty = decide (place = 0)
  l : kvs.length ≤ place
theorem DicL.put {kvs : List (Key × V)} {L : Pm} {place j : Nat} {n : Int} {w : Str} (h : DicL kvs L place) (h1 : place ≤ j) (h2 : j < 3) (h3 : boundsL[j]? = some w) : DicL (putK kvs (.inr w) (.int n)) (setPm L j n) (j + 1) := by
  obtain ⟨d, m, t, e, l⟩ := h
  have d1 : ("days" : Str) ≠ "miles" := by decide
  have d2 : ("days" : Str) ≠ "turns" := by decide
  have d3 : ("miles" : Str) ≠ "turns" := by decide
  have ne : ∀ (k : Key) (v : V), (putK kvs k v).isEmpty = false := fun k v => by
    cases hp : putK kvs k v with
    | nil =>
      have := valV_put kvs k k v
      rw [hp, if_pos rfl] at this
      cases this
    | cons _ _ => rfl
  have inj : ∀ a b : Str, ((Sum.inr a : Key) = Sum.inr b) = (a = b) := fun a b => by simp
  match j, h2 with
  | 0, _ =>
    simp at h3; subst h3
    refine ⟨?_, ?_, ?_, by rw [ne, decide_eq_false (by omega)], by have := length_putK kvs (.inr "days") (.int n); omega⟩
    · rw [valV_put, if_pos rfl]; rfl
    · rw [valV_put, if_neg (by rw [inj]; exact Ne.symm d1), m]; rfl
    · rw [valV_put, if_neg (by rw [inj]; exact Ne.symm d2), t]; rfl
  | 1, _ =>
    simp at h3; subst h3
    refine ⟨?_, ?_, ?_, by rw [ne, decide_eq_false (by omega)], by have := length_putK kvs (.inr "miles") (.int n); omega⟩
    · rw [valV_put, if_neg (by rw [inj]; exact d1), d]; rfl
    · rw [valV_put, if_pos rfl]; rfl
    · rw [valV_put, if_neg (by rw [inj]; exact Ne.symm d3), t]; rfl
  | 2, _ =>
    simp at h3; subst h3
    refine ⟨?_, ?_, ?_, by rw [ne, decide_eq_false (by omega)], by have := length_putK kvs (.inr "turns") (.int n); omega⟩
    · rw [valV_put, if_neg (by rw [inj]; exact d2), d]; rfl
    · rw [valV_put, if_neg (by rw [inj]; exact d3), m]; rfl
    · rw [valV_put, if_pos rfl]; rfl
theorem bounds_first {j : Nat} {w : Str} (h : boundsL[j]? = some w) : ∀ m, m < j → boundsL[m]? ≠ some w := by
  intro m hm e
  match j, h with
  | 0, _ => omega
  | 1, h =>
    have : m = 0 := by omega
    subst this
    simp at h e
    rw [← h] at e
    revert e; decide
  | 2, h =>
    simp at h
    match m, hm with
    | 0, _ => simp at e; rw [← h] at e; revert e; decide
    | 1, _ => simp at e; rw [← h] at e; revert e; decide
  | j + 3, h => simp at h
abbrev tpRet (K : PySem.W.Frag) : TS := tRet (tMakeK (He.ga K "Promise") 0 (["days", "miles", "turns"] : List Str).length (sp_Promise_init K) (fun vs zs => vs ++ zs) E0 tNil (tCons (tDGet1 (tVar 1) (tC (.str "days"))) (tCons (tDGet1 (tVar 1) (tC (.str "miles"))) (tCons (tDGet1 (tVar 1) (tC (.str "turns"))) tNil))))
abbrev tpTail (K : PySem.W.Frag) (E : XK) : TS := tSeq (tAsg (tMeth (He.ga K "Reader") "take" (sp_Reader_take K) [] E (tVar 0) (tCons (tOp (rIn K false) (tMeth (He.ga K "Reader") "ahead" (sp_Reader_ahead K) [] E0 (tVar 0) tNil) (tVar 5)) tNil)) (gName 4)) (tSeq (sDPut (tVar 1) (tVar 4) (tVar 3)) (tAsg (tOp qAdd (tBM K "tuple" (qTupIx K) (tC (.ref (He.ga K "BOUNDS"))) (tCons (tVar 4) tNil)) (tC (.int 1))) (gName 2)))
abbrev tpMay (w : World) (K : PySem.W.Frag) : TT := tTest (tOp qLe (tVar 3) (tOp (rIxD K w) (tC (.ref (He.ga K "MOST_OF"))) (tVar 4)))
abbrev tpBody (w : World) (K : PySem.W.Frag) (E : XK) : TS := tSeq (tAsg (tMeth (He.ga K "Reader") "take_number" (sp_Reader_take_number K) [.int 1000000] E (tVar 0) tNil) (gName 3)) (tSeq (tAsg (tLc (iTup K (tSl (rSlA K) (tC (.ref (He.ga K "BOUNDS"))) (tPart (tVar 2)) tNoPart)) (gName 4) (tpMay w K) (tVar 4) [4]) (gName 5)) (tpTail K E))
/-- where the loop stands -/
def TpI (K : PySem.W.Frag) (H : Hp) (p dx wl d : Addr) (ws : List Str) (row : Int) (R : Except Nat (Pm × Nat)) (m : Nat) (σ2 : L2.St) (H2 : Hp) : Prop := ∃ (place : Nat) (L : Pm) (k2 : Nat) (kvs : List (Key × V)) (u3 u4 u5 : Option V), 4 ≤ place + m ∧ place ≤ 3 ∧
  σ2 = [some (.ref p), some (.ref d), some (.int place), u3, u4, u5] ∧ KB [p] H H2 ∧ H2 d = some (.dK kvs) ∧ DicL kvs L place ∧ RdO K H2 p dx wl ws row k2 ∧ okPm L ∧ promL m place L ws k2 = R
abbrev tpD (K : PySem.W.Frag) (Q : VK) (N : L2.St → Hp → Prop) : Ends := { nx := N, rt := Q, ct := N, bk := tpRet K { nx := fun _ H' => Q .non H', rt := Q } }
theorem w_makeK {σ : L2.St} {H : Hp} {Q : VK} {C : Addr} {n m : Nat} {sp : Sp} {gV : List V → List V → List V} {E : XK} {t tk : TA} (q : t σ H fun vs H1 => tk σ H1 fun zs H2 => vs.length = n ∧ zs.length = m ∧ ∀ x dx, H2 x = none → H2 dx = none → dx ≠ x →
  sp (gV (.ref x :: vs) zs) (upd (upd H2 dx (.own x)) x (.ins C dx [])) (fun v H3 => v = .non ∧ Q (.ref x) H3) E) : tMakeK C n m sp gV E t tk σ H Q := q
theorem w_dput {σ : L2.St} {H : Hp} {D : Ends} {td ty tv : TE} (q : tv σ H fun v H1 => td σ H1 fun x H2 => ty σ H2 fun y H3 => ∃ a H4, x = .ref a ∧ DPut H3 a y v H4 ∧ D.nx σ H4) : sDPut td ty tv D σ H := q
/-- steps that need no fact -/
local macro_rules | `(tactic| walk_at "w") => `(tactic| repeat (first
  | with_reducible refine w_seq ?_ | with_reducible refine w_asg ?_ | with_reducible refine w_ret ?_ | with_reducible refine w_drp ?_ | with_reducible refine w_next ?_ | with_reducible refine w_if ?_
  | ((with_reducible refine' w_var ?_ ?_); rotate_left; rfl) | with_reducible refine w_c ?_ | with_reducible refine w_op ?_ | with_reducible refine w_un ?_ | with_reducible refine w_test ?_ | with_reducible refine w_tB ?_ | with_reducible refine w_bl ?_
  | with_reducible refine w_and ?_ | with_reducible refine w_or ?_ | with_reducible refine w_not ?_ | with_reducible refine w_andV ?_ | with_reducible refine w_orV ?_ | with_reducible refine w_notV ?_ | with_reducible refine w_ebl ?_
  | with_reducible refine w_ifE ?_ | with_reducible refine w_nil ?_ | with_reducible refine w_cons ?_ | with_reducible refine w_cb ?_ | with_reducible refine w_call ?_ | with_reducible refine w_chain ?_ | with_reducible refine w_I0 ?_
  | with_reducible refine w_isN ?_ | with_reducible refine w_notN ?_ | with_reducible refine w_ltS ?_ | with_reducible refine w_leS ?_ | with_reducible refine w_m1 ?_ | with_reducible refine w_m1s ?_
  | with_reducible refine w_iT ?_ | with_reducible refine w_iF ?_ | with_reducible refine w_nT ?_ | with_reducible refine w_nF ?_ | with_reducible refine w_yes ?_ | with_reducible refine w_sfld ?_ | with_reducible refine w_lc ?_ | with_reducible refine w_for ?_ | with_reducible refine w_iStr ?_ | with_reducible refine w_iTup ?_ | with_reducible refine w_iList ?_ | with_reducible refine w_tup1 ?_ | with_reducible refine w_callN ?_ | with_reducible refine w_iZip ?_ | with_reducible refine w_sl ?_ | with_reducible refine w_part ?_ | with_reducible refine w_noPart ?_ | with_reducible refine w_eInt ?_ | with_reducible refine w_gN ?_ | with_reducible refine w_bm ?_ | with_reducible refine w_lst1 ?_ | ((with_reducible refine' w_aug ?_ ?_); rotate_left; rfl) | with_reducible refine w_ost ?_ | with_reducible refine w_rz ?_))

section
variable {K : PySem.W.Frag} {w : World} {mg : Str → Option Value} {vs : List V} {H : Hp} {Q : VK} {E : XK}
theorem getD_oV (o : Option Int) : (o.map V.int).getD .non = oV o := by cases o <;> rfl
/-! ### Reader.take_promise -/
theorem most_dict (T : Tx w K mg) {z : Str} (h : z ∈ boundsL) : KDct K w (He.ga K "MOST_OF") z (.int (mostOf z)) := by
  simp only [List.mem_cons, List.not_mem_nil, or_false] at h
  have md : mostOf "days" = 9999 := by decide
  have mm : mostOf "miles" = 1000000 := by decide
  have mt : mostOf "turns" = 1000000 := by decide
  rcases h with rfl | rfl | rfl
  · rw [md]; exact T.m_days
  · rw [mm]; exact T.m_miles
  · rw [mt]; exact T.m_turns
theorem cut_bounds {place : Nat} (hp : place ≤ 2) : cutV (boundsL.map V.str) (some (place : Int)) none = (boundsL.drop place).map V.str := by
  match place, hp with
  | 0, _ => rfl
  | 1, _ => rfl
  | 2, _ => rfl
/-- [name for name in t if number <= MOST_OF[name]] -/
theorem lc_may (T : Tx w K mg) {place : Nat} {n : Int} {p : Addr} {σ : L2.St} {H : Hp} {Q : VK} (ht : SqT K H p ((boundsL.drop place).map V.str)) (h3 : ∀ v : V, ((wipe σ [4]).set 4 (some v))[3]? = some (some (.int n))) (h4 : ∀ v : V, ((wipe σ [4]).set 4 (some v))[4]? = some (some v)) (hw : ∀ v : V, wipe ((wipe σ [4]).set 4 (some v)) [4] = wipe σ [4])
    (q : ∀ D H', H D = none → KB [] H H' → H' D = some (.lst ((namesF place n).map V.str)) → Q (.ref D) H') :
    LcOk (Itt K p) (gName 4) (tTest (tOp qLe (tVar 3) (tOp (rIxD K w) (tC (.ref (He.ga K "MOST_OF"))) (tVar 4)))) (tVar 4) [4] σ H Q := by
  have hl : ((boundsL.drop place).map V.str).length ≤ 3 := by rw [List.length_map, List.length_drop]; show 3 - place ≤ 3; omega
  refine lcG (walk_tup (xs := (boundsL.drop place).map V.str)) [] (fun i acc _ => acc = (((boundsL.drop place).take i).filter fun z => decide (n ≤ mostOf z)).map V.str) (fun b hb => absurd hb (by simp)) (fun H2 k => k.seqT ht) (fun _ _ => rfl) (fun _ _ _ _ _ a => a) (by omega) (fun i x H2 H3 acc D K1 K0 hi k e hD a y f1 f0 => ?_) (fun D acc H' hD k e hlen a => ?_)
  · obtain ⟨rfl, ex⟩ := y
    rw [List.getElem?_map] at ex
    obtain ⟨z, hz, rfl⟩ := Option.map_eq_some_iff.mp ex
    have hm : z ∈ boundsL := List.mem_of_mem_drop (List.mem_of_getElem? hz)
    refine ⟨hw _, ?_⟩
    refine w_test (w_op (w_var (h3 _) (w_op (w_c (w_var (h4 _) (w_kd (most_dict T hm) (w_I0 ⟨_, rfl, ?_⟩)))))))
    have es : ((boundsL.drop place).take (i + 1)) = (boundsL.drop place).take i ++ [z] := by rw [List.take_succ, hz]; rfl
    by_cases hle : n ≤ mostOf z
    · rw [decide_eq_true hle]
      refine w_iT (w_var (h4 _) (f1 _ _ (KB.refl _ _) ?_))
      rw [a, es, List.filter_append]
      simp [hle]
    · rw [decide_eq_false hle]
      refine w_iF (f0 _ (KB.refl _ _) ?_)
      rw [a, es, List.filter_append]
      simp [hle]
  · refine q D H' hD k ?_
    rw [e, a, List.take_of_length_le (by rw [List.length_map]; exact Nat.le_refl _)]
    rfl
def sp_Reader_take_promise (K : PySem.W.Frag) : Sp := fun vs H Q E => ∃ (p dx wl : Addr) (ws : List Str) (row : Int) (k : Nat), vs = [.ref p] ∧ RdO K H p dx wl ws row k ∧ (∀ z ∈ ws, z.length ≤ 16000000) ∧
  (∀ e, prom ws k = .error e → RdErr K E H [p] row (e + 1)) ∧ (∀ pm k', prom ws k = .ok (pm, k') → ∀ a H', KB [p] H H' → RdO K H' p dx wl ws row k' → PmO K H' a pm → Q (.ref a) H')
theorem rd_Reader_take_promise (T : Tx w K mg) (h : sp_Reader_take_promise K vs H Q E) : t_Reader_take_promise w K E (sp_Reader_ahead K) (sp_Reader_take K) (sp_Promise_init K) sp_number_of (sp_Reader_take_number K) { nx := fun _ H' => Q .non H', rt := Q } (start N_Reader_take_promise vs) H := by
  obtain ⟨p, dx, wl, ws, row, k, rfl, R, hz, q0, q1⟩ := h
  unfold t_Reader_take_promise
  walk_at "w"
  refine w_methV rfl R.o rfl ?_
  walk_at "w"
  refine ⟨p, dx, wl, ws, row, k, rfl, R, ?_⟩
  walk_at "w"
  refine w_eq rfl ?_
  walk_at "w"
  rw [dec_str]
  by_cases hend : wAt ws k = "endless"
  · rw [decide_eq_true hend]
    have hp : prom ws k = .ok (noPm, k + 1) := by unfold prom; rw [if_pos hend]
    have hk : k < ws.length := wAt_lt (by rw [hend]; decide)
    walk_at "w"
    refine w_methV rfl R.o rfl ?_
    walk_at "w"
    refine ⟨p, dx, wl, ws, row, k, true, rfl, R, fun e => (nomatch e), fun _ => ⟨hk, fun H1 k1 R1 => ?_⟩⟩
    walk_at "w"
    intro x d hx hd hn
    refine ⟨x, d, noPm, rfl, by simp [okPm], upd_same, fun t H2 k2 e1 e2 => ⟨rfl, ?_⟩⟩
    have kk := mk_kb hx hd k2
    exact q1 _ _ hp x H2 (k1.trans kk.of) (R1.kb kk) ⟨d, t, e1, e2⟩
  · rw [decide_eq_false hend]
    have hp : prom ws k = promL 4 0 noPm ws k := by unfold prom; rw [if_neg hend]
    obtain ⟨RR, hRR⟩ : ∃ RR, promL 4 0 noPm ws k = RR := ⟨_, rfl⟩
    rw [hRR] at hp
    walk_at "w"
    intro d hd
    walk_at "w"
    refine ⟨_, _, rfl, ?_⟩
    walk_at "w"
    refine ⟨TpI K H p dx wl d ws row RR, ⟨4, 0, noPm, k, [], none, none, none, by omega, by omega, rfl, (KB.new (KB.refl [] H) hd).of, upd_same, ⟨rfl, rfl, rfl, rfl, Nat.le_refl _⟩, R.kb (KB.new (KB.refl [] H) hd), by simp [okPm], hRR⟩, ?_⟩
    rintro m σ2 H2 ⟨place, L, k2, kvs, u3, u4, u5, hm, hp3, rfl, kH, hdk, D, R2, ok, hpr⟩
    obtain ⟨f, rfl⟩ : ∃ f, m = f + 1 := ⟨m - 1, by omega⟩
    have exit : ∀ H3, KB [] H2 H3 → place ≠ 0 → (3 ≤ place ∨ numOf (wAt ws k2) = none) → tpRet K { nx := fun _ H' => Q .non H', rt := Q } [some (.ref p), some (.ref d), some (.int place), u3, u4, u5] H3 := fun H3 k3 n0 hx => by
      have hres : prom ws k = .ok (L, k2) := by
        rw [hp, ← hpr]
        unfold promL
        rw [if_pos ⟨n0, hx⟩]
      have e3 := k3.get hdk
      have gt : ∀ (z : Str) (o : Option Int), valV kvs (.inr z) = o.map V.int → ∀ QA : V → Hp → Prop, QA (oV o) H3 → tDGet1 (tVar 1) (tC (.str z)) [some (.ref p), some (.ref d), some (.int place), u3, u4, u5] H3 QA := fun z o hv QA qa =>
        w_var (v := .ref d) rfl ⟨d, rfl, .inl ⟨kvs, .inl e3⟩, w_c ⟨_, .inl ⟨kvs, .inr z, .inl e3, rfl, rfl⟩, by rw [hv, getD_oV]; exact qa⟩⟩
      refine w_ret (w_makeK (w_nil ?_))
      refine w_cons (gt _ _ D.d _ ?_)
      refine w_cons (gt _ _ D.m _ ?_)
      refine w_cons (gt _ _ D.t _ ?_)
      refine w_nil ⟨rfl, rfl, fun x dd hx hdd hn => ?_⟩
      refine ⟨x, dd, L, rfl, ok, upd_same, fun t H4 k4 e1 e2 => ⟨rfl, ?_⟩⟩
      have kk := mk_kb hx hdd k4
      have k34 := k3.trans kk
      exact q1 _ _ hres x H4 (kH.trans k34.of) (R2.kb k34) ⟨dd, t, e1, e2⟩
    have body : ∀ H3, KB [] H2 H3 → ¬ (place ≠ 0 ∧ (3 ≤ place ∨ numOf (wAt ws k2) = none)) → ∃ N : L2.St → Hp → Prop, (∀ σ' H', N σ' H' → ∃ m', m' < f + 1 ∧ TpI K H p dx wl d ws row RR m' σ' H') ∧
        tpBody w K E (tpD K Q N) [some (.ref p), some (.ref d), some (.int place), u3, u4, u5] H3 := fun H3 k3 hcond => by
      have R3 := R2.kb k3
      have hpr' := hpr
      unfold promL at hpr'
      rw [if_neg hcond] at hpr'
      have hpl : place ≤ 2 := by
        rcases Nat.lt_or_ge place 3 with h | h
        · omega
        · exact absurd ⟨by omega, .inl h⟩ hcond
      refine ⟨TpI K H p dx wl d ws row RR f, fun σ' H' N => ⟨f, by omega, N⟩, ?_⟩
      have kH3 : KB [p] H H3 := kH.trans k3.of
      walk_at "w"
      refine w_methV rfl R3.o rfl ?_
      walk_at "w"
      refine ⟨p, dx, wl, ws, row, k2, rfl, R3, hz, fun e => ?_, fun n e hn => ?_, fun n e hn H4 k4 R4 => ?_⟩
      · rw [e] at hpr'
        exact (q0 k2 (by rw [hp, ← hpr'])).at kH3 (by simp)
      · rw [e] at hpr'
        dsimp only at hpr'
        rw [if_neg hn] at hpr'
        exact (q0 k2 (by rw [hp, ← hpr'])).at kH3 (by simp)
      · rw [e] at hpr'
        dsimp only at hpr'
        rw [if_pos hn] at hpr'
        have kH4 : KB [p] H H4 := kH3.trans k4
        have nd : d ≠ p := fun z => by have := R2.o; rw [← z, hdk] at this; cases this
        have hd4 : H4 d = some (.dK kvs) := k4 _ _ (k3.get hdk) (by simp [nd])
        have tail : ∀ (tp : Addr) (H5 : Hp), KB [] H4 H5 → SqT K H5 tp ((boundsL.drop place).map V.str) → LcOk (Itt K tp) (gName 4) (tpMay w K) (tVar 4) [4] [some (.ref p), some (.ref d), some (.int place), some (.int n), u4, u5] H5 fun x H1 =>
            tpTail K E (tpD K Q (TpI K H p dx wl d ws row RR f)) [some (.ref p), some (.ref d), some (.int place), some (.int n), u4, some x] H1 := fun tp H5 k5 htp => by
          refine lc_may T htp (fun _ => rfl) (fun _ => rfl) (fun _ => rfl) fun D5 H6 hD5 k6 e6 => ?_
          have k46 := k5.trans k6
          have R6 := R4.kb k46
          walk_at "w"
          refine w_methV rfl R6.o rfl ?_
          walk_at "w"
          refine w_methV rfl R6.o rfl ?_
          walk_at "w"
          refine ⟨p, dx, wl, ws, row, k2 + 1, rfl, R6, ?_⟩
          walk_at "w"
          refine w_inL (.of e6) rfl (flat_strs _) ?_
          rw [if_neg Bool.false_ne_true, inV_str, slot_some hpl hn]
          walk_at "w"
          refine ⟨p, dx, wl, ws, row, k2 + 1, _, rfl, R6, fun hb => ?_, fun hb => ?_⟩
          · have hs : slotOf place n (wAt ws (k2 + 1)) = none := by simpa using hb
            rw [hs] at hpr'
            exact (q0 (k2 + 1) (by rw [hp, ← hpr'])).at (kH4.trans k46.of) (by simp)
          · obtain ⟨j, hs⟩ := Option.isSome_iff_exists.mp hb
            rw [hs] at hpr'
            dsimp only at hpr'
            obtain ⟨s1, s2, s3, s4⟩ := slotOf_spec hs
            refine ⟨wAt_lt (unit_ne s3), fun H7 k7 R7 => ?_⟩
            have hd7 : H7 d = some (.dK kvs) := k7 _ _ (k46.get hd4) (by simp [nd])
            walk_at "w"
            refine w_dput ?_
            walk_at "w"
            refine ⟨d, _, rfl, .inl ⟨kvs, .inr (wAt ws (k2 + 1)), hd7, rfl, by have := D.l; rw [sizeLine_eq]; omega, rfl⟩, ?_⟩
            walk_at "w"
            refine ⟨T.t_BOUNDS _, ?_⟩
            walk_at "w"
            refine ⟨_, boundsL, wAt ws (k2 + 1), j, rfl, rfl, T.k_BOUNDS _, s3, bounds_first s3, ?_⟩
            walk_at "w"
            have hd0 : H d = none := hd
            refine ⟨j + 1, setPm L j n, k2 + 2, _, _, _, _, by omega, by omega, rfl, ((kH4.trans k46.of).trans k7).mutN hd0, upd_same, D.put s1 s2 s3, ⟨?_, ?_, R7.z⟩, okPm_set ok (numOf_nonneg e) hn s4, hpr'⟩
            · rw [upd_ne (Ne.symm nd)]; exact R7.o
            · rw [upd_ne (fun z => by have := R7.w; rw [z, hd7] at this; cases this)]; exact R7.w
        walk_at "w"
        refine ⟨_, _, rfl, T.k_BOUNDS _, fun hw => ?_, fun _ tp htp => ?_⟩
        · have h0 : place = 0 := by
            match place, hpl with
            | 0, _ => rfl
            | 1, _ => exact absurd hw.1 (by decide)
            | 2, _ => exact absurd hw.1 (by decide)
          refine ⟨_, rfl, ⟨_, T.k_BOUNDS _⟩, ?_⟩
          refine tail _ H4 (KB.refl _ _) ?_
          rw [h0]
          exact T.k_BOUNDS _
        · refine ⟨tp, rfl, ⟨_, .of upd_same⟩, ?_⟩
          refine tail tp _ (KB.new (KB.refl _ _) htp) ?_
          rw [cut_bounds hpl]
          exact .of upd_same
    walk_at "w"
    intro b hb
    have kb := KB.new (KB.refl [] H2) hb (o := .dK [])
    refine ⟨d, b, kvs, rfl, rfl, kb.get hdk, upd_same, ?_⟩
    walk_at "w"
    rw [D.e]
    by_cases h0 : place = 0
    · rw [decide_eq_true h0]
      refine w_iT (w_iT ?_)
      exact body _ kb (fun h => h.1 h0)
    · rw [decide_eq_false h0]
      walk_at "w"
      refine w_lenT (T.k_BOUNDS _) ?_
      walk_at "w"
      have e3 : ((boundsL.map V.str).length : Int) = 3 := rfl
      rw [e3]
      by_cases h3 : place < 3
      · rw [decide_eq_true (by omega)]
        walk_at "w"
        refine w_methV rfl (kb.get R2.o) rfl ?_
        walk_at "w"
        refine ⟨p, dx, wl, ws, row, k2, rfl, R2.kb kb, ?_⟩
        walk_at "w"
        refine ⟨wAt ws k2, rfl, at_len hz k2, fun H3 k3 => ?_⟩
        walk_at "w"
        cases hn : numOf (wAt ws k2) with
        | none =>
          show if (!decide (V.non = V.non)) = true then _ else _
          rw [decide_eq_true rfl]
          refine w_nT ?_
          exact exit H3 (kb.trans k3) h0 (.inr hn)
        | some n =>
          show if (!decide (V.int n = V.non)) = true then _ else _
          rw [decide_eq_false (by simp)]
          refine w_nF ?_
          exact body H3 (kb.trans k3) (fun h => by
            rcases h.2 with z | z
            · omega
            · rw [hn] at z; cases z)
      · rw [decide_eq_false (by omega)]
        refine w_iF (w_iF ?_)
        exact exit _ kb h0 (.inl (by omega))
end
end WK
set_option Elab.async false
set_option linter.all false
set_option maxRecDepth 100000
set_option maxHeartbeats 4000000
namespace WK
open PySem PySem.Spec PyProof.Rows L2
theorem last_get {α β : Type} {F : α → β → Prop} {xs : List α} {ys : List β} (h : Paired F xs ys) {y : β} (e : ys.getLast? = some y) : ∃ x, xs.getLast? = some x ∧ F x y := by
  rw [List.getLast?_eq_getElem?] at e
  obtain ⟨x, hx, f⟩ := pgetR h e
  refine ⟨x, ?_, f⟩
  rw [List.getLast?_eq_getElem?, h.length]
  exact hx
theorem empty_iff {α β : Type} {F : α → β → Prop} {xs : List α} {ys : List β} (h : Paired F xs ys) : xs.isEmpty = ys.isEmpty := by
  cases h <;> rfl
theorem last_some {α : Type} {l : List α} (h : l.isEmpty = false) : ∃ x, l.getLast? = some x := by
  cases l with
  | nil => cases h
  | cons a r => exact ⟨_, List.getLast?_eq_some_getLast (by simp)⟩
theorem w_uI {σ : L2.St} {H : Hp} {Q : VK} {i : Int} (q : Q (.int (-i)) H) : (rU fun i => V.int (-i)) (.int i) H Q := ⟨i, rfl, q⟩
/-- steps that need no fact -/
local macro_rules | `(tactic| walk_at "w") => `(tactic| repeat (first
  | with_reducible refine w_seq ?_ | with_reducible refine w_asg ?_ | with_reducible refine w_ret ?_ | with_reducible refine w_drp ?_ | with_reducible refine w_next ?_ | with_reducible refine w_if ?_
  | ((with_reducible refine' w_var ?_ ?_); rotate_left; rfl) | with_reducible refine w_c ?_ | with_reducible refine w_op ?_ | with_reducible refine w_un ?_ | with_reducible refine w_test ?_ | with_reducible refine w_tB ?_ | with_reducible refine w_bl ?_
  | with_reducible refine w_and ?_ | with_reducible refine w_or ?_ | with_reducible refine w_not ?_ | with_reducible refine w_andV ?_ | with_reducible refine w_orV ?_ | with_reducible refine w_notV ?_ | with_reducible refine w_ebl ?_
  | with_reducible refine w_ifE ?_ | with_reducible refine w_nil ?_ | with_reducible refine w_cons ?_ | with_reducible refine w_cb ?_ | with_reducible refine w_call ?_ | with_reducible refine w_chain ?_ | with_reducible refine w_I0 ?_
  | with_reducible refine w_isN ?_ | with_reducible refine w_notN ?_ | with_reducible refine w_ltS ?_ | with_reducible refine w_leS ?_ | with_reducible refine w_m1 ?_ | with_reducible refine w_m1s ?_
  | with_reducible refine w_iT ?_ | with_reducible refine w_iF ?_ | with_reducible refine w_nT ?_ | with_reducible refine w_nF ?_ | with_reducible refine w_yes ?_ | with_reducible refine w_sfld ?_ | with_reducible refine w_lc ?_ | with_reducible refine w_for ?_ | with_reducible refine w_iStr ?_ | with_reducible refine w_iTup ?_ | with_reducible refine w_iList ?_ | with_reducible refine w_tup1 ?_ | with_reducible refine w_callN ?_ | with_reducible refine w_iZip ?_ | with_reducible refine w_sl ?_ | with_reducible refine w_part ?_ | with_reducible refine w_noPart ?_ | with_reducible refine w_eInt ?_ | with_reducible refine w_gN ?_ | with_reducible refine w_bm ?_ | with_reducible refine w_lst1 ?_ | ((with_reducible refine' w_aug ?_ ?_); rotate_left; rfl) | with_reducible refine w_ost ?_ | with_reducible refine w_rz ?_))

section
variable {K : PySem.W.Frag} {w : World} {mg : Str → Option Value} {vs : List V} {H : Hp} {Q : VK} {E : XK}
/-! ### part_in -/
def sp_part_in (K : PySem.W.Frag) : Sp := fun vs H Q E => ∃ (p dx wl l : Addr) (ws : List Str) (row : Int) (xs : List V) (rows : List Row), vs = [.ref p, .ref l] ∧ RdO K H p dx wl ws row 1 ∧ (∀ z ∈ ws, z.length ≤ 16000000) ∧ H l = some (.lst xs) ∧ Paired (RowO K H) xs rows ∧
  (∀ e, partIn rows ws = .error e → RdErr K E H [p] row (e + 1)) ∧ (∀ r k', partIn rows ws = .ok (r, k') → ∀ v H', KB [p] H H' → RdO K H' p dx wl ws row k' → RowO K H' v r → Q v H')
/-- if reader.ahead() == key: reader.take(True); slot = reader.take_promise() -/
theorem w_optP (T : Tx w K mg) {σ : L2.St} {D : Ends} {j k : Nat} {key : Str} {p dx wl : Addr} {ws : List Str} {row : Int} (h0 : σ[0]? = some (some (.ref p))) (hs : σ.set j (some .non) = σ) (hkey : key ≠ "") (R : RdO K H p dx wl ws row k) (hz : ∀ z ∈ ws, z.length ≤ 16000000)
    (q0 : ∀ e, optProm key ws k = .error e → RdErr K E H [p] row (e + 1)) (q1 : ∀ o k', optProm key ws k = .ok (o, k') → ∀ v H', KB [p] H H' → RdO K H' p dx wl ws row k' → OPO K H' v o → D.nx (σ.set j (some v)) H') :
    tIfS (tTest (tOp rEq (tMeth (He.ga K "Reader") "ahead" (sp_Reader_ahead K) [] E0 (tVar 0) tNil) (tC (.str key)))) (tSeq (tDrop (tMeth (He.ga K "Reader") "take" (sp_Reader_take K) [] E (tVar 0) (tCons (tC (.bl true)) tNil)))
      (tAsg (tMeth (He.ga K "Reader") "take_promise" (sp_Reader_take_promise K) [] E (tVar 0) tNil) (gName j))) tNext D σ H := by
  refine w_if (w_test (w_op (w_methV h0 R.o rfl (w_nil ⟨p, dx, wl, ws, row, k, rfl, R, w_c (w_eq rfl ⟨_, rfl, ?_⟩)⟩))))
  rw [dec_str]
  by_cases he : wAt ws k = key
  · rw [decide_eq_true he]
    have hk : k < ws.length := wAt_lt (by rw [he]; exact hkey)
    refine w_iT (w_seq (w_drp (w_methV h0 R.o rfl (w_cons (w_c (w_nil ⟨p, dx, wl, ws, row, k, true, rfl, R, fun e => (nomatch e), fun _ => ⟨hk, fun H1 k1 R1 => ?_⟩⟩))))))
    refine w_asg (w_methV h0 R1.o rfl (w_nil ⟨p, dx, wl, ws, row, k + 1, rfl, R1, hz, fun e he' => ?_, fun pm k' hp a H' k2 R2 hpm => ?_⟩))
    · exact (q0 e (by unfold optProm; rw [if_pos he, he'])).at k1 (by simp)
    · exact q1 (some pm) k' (by unfold optProm; rw [if_pos he, hp]) (.ref a) H' (k1.trans k2) R2 ⟨a, rfl, hpm⟩
  · rw [decide_eq_false he]
    refine w_iF (w_next ?_)
    have := q1 none k (by unfold optProm; rw [if_neg he]) .non H (KB.refl _ _) R rfl
    rw [hs] at this
    exact this
theorem rd_part_in (T : Tx w K mg) (h : sp_part_in K vs H Q E) : t_part_in K E (sp_Reader_ahead K) (sp_Reader_take K) sp_is_name (sp_Reader_take_promise K) { nx := fun _ H' => Q .non H', rt := Q } (start N_part_in vs) H := by
  obtain ⟨p, dx, wl, l, ws, row, xs, rows, rfl, R, hz, hl, hx, q0, q1⟩ := h
  have nl : l ≠ p := fun z => by have := R.o; rw [← z, hl] at this; cases this
  unfold t_part_in
  walk_at "w"
  refine w_methV rfl R.o rfl ?_
  walk_at "w"
  refine ⟨p, dx, wl, ws, row, 1, rfl, R, ?_⟩
  walk_at "w"
  refine w_methV rfl R.o rfl ?_
  walk_at "w"
  refine ⟨wAt ws 1, rfl, at_len hz 1, fun H1 k1 => ?_⟩
  walk_at "w"
  have R1 := R.kb k1
  -- behind the take
  have fin : ∀ (good : Bool) (H2 : Hp), KB [] H H2 → good = (isName (wAt ws 1) && afterRow rows (wAt ws 1)) → sp_Reader_take K [.ref p, .bl good] H2 (fun _ H3 => (tSeq (tAsg (tTup (tCons (tC .non) (tCons (tC .non) tNil))) (gTup K 2 (gCons (gName 3) (gCons (gName 4) gNil))))
      (tSeq (tIfS (tTest (tOp rEq (tMeth (He.ga K "Reader") "ahead" (sp_Reader_ahead K) [] E0 (tVar 0) tNil) (tC (.str "own")))) (tSeq (tDrop (tMeth (He.ga K "Reader") "take" (sp_Reader_take K) [] E (tVar 0) (tCons (tC (.bl true)) tNil))) (tAsg (tMeth (He.ga K "Reader") "take_promise" (sp_Reader_take_promise K) [] E (tVar 0) tNil) (gName 3))) tNext)
      (tSeq (tIfS (tTest (tOp rEq (tMeth (He.ga K "Reader") "ahead" (sp_Reader_ahead K) [] E0 (tVar 0) tNil) (tC (.str "mended")))) (tSeq (tDrop (tMeth (He.ga K "Reader") "take" (sp_Reader_take K) [] E (tVar 0) (tCons (tC (.bl true)) tNil))) (tAsg (tMeth (He.ga K "Reader") "take_promise" (sp_Reader_take_promise K) [] E (tVar 0) tNil) (gName 4))) tNext)
      (tRet (tTup (tCons (tVar 2) (tCons (tVar 3) (tCons (tVar 4) tNil)))))))) { nx := fun _ H' => Q .non H', rt := Q } [some (.ref p), some (.ref l), some (.str (wAt ws 1)), none, none] H3) E := by
    intro good H2 k2 hg
    have R2 := R.kb k2
    refine ⟨p, dx, wl, ws, row, 1, good, rfl, R2, fun e => ?_, fun e => ?_⟩
    · refine (q0 1 ?_).at k2.of (by simp)
      unfold partIn
      rw [if_pos (by rw [← hg]; exact e)]
    · have hg' := hg.symm.trans e
      have hn : isName (wAt ws 1) = true := (Bool.and_eq_true_iff.mp hg').1
      refine ⟨wAt_lt (name_ne hn), fun H3 k3 R3 => ?_⟩
      have k13 : KB [p] H H3 := k2.of.trans k3
      walk_at "w"
      refine ⟨szb (by show 2 ≤ _; omega), fun t ht => ?_⟩
      refine w_gTup2 (.of upd_same) ?_
      have kt := KB.new (KB.refl [] H3) ht (o := .tup [.non, .non])
      have R4 := R3.kb kt
      have k14 : KB [p] H (upd H3 t (.tup [.non, .non])) := k13.trans kt.of
      refine w_seq ?_
      refine w_optP T (k := 2) rfl rfl (by decide) R4 hz (fun er he => ?_) (fun o k' ho v H5 k5 R5 hv => ?_)
      · refine (q0 er ?_).at k14 (by simp)
        unfold partIn
        rw [if_neg (by rw [hg']; simp), he]
      · refine w_seq ?_
        refine w_optP T (k := k') rfl rfl (by decide) R5 hz (fun er he => ?_) (fun o2 k2' ho2 v2 H6 k6 R6 hv2 => ?_)
        · refine (q0 er ?_).at (k14.trans k5) (by simp)
          unfold partIn
          rw [if_neg (by rw [hg']; simp), ho]
          dsimp only
          rw [he]
        · have hr : partIn rows ws = .ok ((wAt ws 1, o, o2), k2') := by
            unfold partIn
            rw [if_neg (by rw [hg']; simp), ho]
            dsimp only
            rw [ho2]
          walk_at "w"
          refine ⟨szb (by show 3 ≤ _; omega), fun r hr' => ?_⟩
          have kr := KB.new (KB.refl [] H6) hr' (o := .tup [.str (wAt ws 1), v, v2])
          have im6 : Im H5 H6 := k6.im fun b hb o e => by simp at hb; subst hb; rw [R5.o] at e; cases e; rfl
          exact q1 _ _ hr (.ref r) _ ((k14.trans (k5.trans k6)).trans kr.of) (R6.kb kr) ⟨r, v, v2, rfl, upd_same, (hv.im im6).im kr.im0, hv2.im kr.im0⟩
  cases hn : isName (wAt ws 1) with
  | false =>
    refine w_iF ?_
    exact fin false H1 k1 (by rw [hn]; rfl)
  | true =>
    refine w_iT ?_
    walk_at "w"
    refine ⟨szb (by show 0 ≤ _; omega), fun b hb => ?_⟩
    have k2 := k1.new hb (o := .lst [])
    refine ⟨l, b, xs, rfl, rfl, .of (k2.get hl), .of upd_same, ?_⟩
    rw [empty_iff hx]
    walk_at "w"
    cases he : rows.isEmpty with
    | true =>
      refine w_iT ?_
      refine fin true _ k2 ?_
      rw [hn]
      have : rows = [] := by simpa using he
      rw [this]; rfl
    | false =>
      refine w_iF ?_
      obtain ⟨r, hr⟩ := last_some he
      obtain ⟨x, hx', t, v1, v2, rfl, ht, _⟩ := last_get hx hr
      walk_at "w"
      refine w_uI (σ := []) ?_
      refine w_ixL (.of (k2.get hl)) (atI_last hx') ?_
      walk_at "w"
      refine w_ixT (.of (k2.get ht)) (atI_nat (k := 0) rfl) ?_
      walk_at "w"
      refine fin _ _ k2 ?_
      rw [hn]
      unfold afterRow
      rw [hr]
      rfl
/-! ### pair_in -/
def sp_pair_in (K : PySem.W.Frag) : Sp := fun vs H Q E => ∃ (p dx wl l nl : Addr) (ws : List Str) (row : Int) (xs : List V) (pairs : List Pair) (rows : List Row), vs = [.ref p, .ref l, .ref nl] ∧ RdO K H p dx wl ws row 1 ∧ (∀ z ∈ ws, z.length ≤ 16000000) ∧ H l = some (.lst xs) ∧ Paired (PairO H) xs pairs ∧
  H nl = some (.lst ((names rows).map V.str)) ∧ (∀ r ∈ rows, isName r.1 = true) ∧ (∀ e, pairIn rows pairs ws = .error e → RdErr K E H [p] row (e + 1)) ∧ (∀ r, pairIn rows pairs ws = .ok r → ∀ v H', KB [p] H H' → RdO K H' p dx wl ws row 3 → PairO H' v r → Q v H')
theorem lt_empty {z : Str} (h : z ≠ "") : ltS "" z = true := by
  unfold ltS
  have e : ("" : Str).cps.toList = [] := by decide
  rw [e]
  cases hz : z.cps.toList with
  | nil =>
    exfalso
    apply h
    apply TL.ext_tl
    show z.cps.toList = _
    rw [hz, tl_e]
  | cons a r => exact decide_eq_true (by simp)
theorem nlt_empty (z : Str) : ltS z "" = false := by
  unfold ltS
  have e : ("" : Str).cps.toList = [] := by decide
  rw [e]
  exact decide_eq_false (by simp)
/-- how the program asks what the second word must be above -/
theorem pair_least {pairs : List Pair} {a b : Str} (hb : b ≠ "") (ha : isName a = true) (h : ltS a (lastPair pairs).1 = false) :
    (!leP (a, b) (lastPair pairs)) = ltS (if pairs.isEmpty = false ∧ (lastPair pairs).1 = a then (lastPair pairs).2 else "") b := by
  unfold leP
  dsimp only
  cases hp : pairs.isEmpty with
  | true =>
    have : pairs = [] := by simpa using hp
    subst this
    have el : lastPair [] = (("" : Str), ("" : Str)) := rfl
    rw [el, if_neg (show ¬ a = "" from fun z => name_ne ha z)]
    show (!leS a "") = ltS (if true = false ∧ ("" : Str) = a then "" else "") b
    rw [if_neg (show ¬ (true = false ∧ ("" : Str) = a) from fun z => nomatch z.1), lt_empty hb]
    unfold leS
    have := lt_empty (name_ne ha)
    unfold ltS at this
    rw [this]; rfl
  | false =>
    by_cases e : a = (lastPair pairs).1
    · rw [if_pos e, if_pos (show false = false ∧ (lastPair pairs).1 = a from ⟨rfl, e.symm⟩)]
      by_cases e2 : b = (lastPair pairs).2
      · rw [if_pos e2, ← e2]
        unfold ltS
        exact (decide_eq_false (List.lt_irrefl _)).symm
      · rw [if_neg e2]
        unfold leS ltS
        simp
    · rw [if_neg e, if_neg (show ¬ (false = false ∧ (lastPair pairs).1 = a) from fun z => e z.2.symm), lt_empty hb]
      unfold leS
      unfold ltS at h
      have hn : ¬ a.cps.toList < (lastPair pairs).1.cps.toList := of_decide_eq_false h
      have : (lastPair pairs).1.cps.toList < a.cps.toList := by
        rcases List.le_iff_lt_or_eq.mp (List.not_lt.mp hn) with z | z
        · exact z
        · exact absurd (TL.ext_tl z.symm) e
      rw [decide_eq_true this]; rfl
theorem rd_pair_in (T : Tx w K mg) (h : sp_pair_in K vs H Q E) : t_pair_in K E (sp_Reader_ahead K) (sp_Reader_take K) sp_is_name { nx := fun _ H' => Q .non H', rt := Q } (start N_pair_in vs) H := by
  obtain ⟨p, dx, wl, l, nl, ws, row, xs, pairs, rows, rfl, R, hz, hl, hx, hnl, hrn, q0, q1⟩ := h
  have npl : l ≠ p := fun z => by have := R.o; rw [← z, hl] at this; cases this
  have npn : nl ≠ p := fun z => by have := R.o; rw [← z, hnl] at this; cases this
  unfold t_pair_in
  walk_at "w"
  refine w_methV rfl R.o rfl ?_
  walk_at "w"
  refine ⟨p, dx, wl, ws, row, 1, rfl, R, ?_⟩
  walk_at "w"
  refine w_methV rfl R.o rfl ?_
  walk_at "w"
  refine ⟨wAt ws 1, rfl, at_len hz 1, fun H1 k1 => ?_⟩
  walk_at "w"
  have fin : ∀ (good : Bool) (H2 : Hp), KB [] H H2 → good = (isName (wAt ws 1) && !ltS (wAt ws 1) (lastPair pairs).1) → sp_Reader_take K [.ref p, .bl good] H2 (fun _ H3 => (tSeq (tAsg (tIf (tAnd (tTest (tOp (qNeNil K) (tVar 1) (tLst tNil))) (tTest (tOp rEq (tOp (rIxT K) (tOp (rIxL K) (tVar 1) (tUn (rU fun i => .int (-i)) (tC (.int 1)))) (tC (.int 0))) (tVar 3)))) (tOp (rIxT K) (tOp (rIxL K) (tVar 1) (tUn (rU fun i => .int (-i)) (tC (.int 1)))) (tC (.int 1))) (tC (.str ""))) (gName 4))
      (tRet (tTup (tCons (tVar 3) (tCons (tMeth (He.ga K "Reader") "take" (sp_Reader_take K) [] E (tVar 0) (tCons (tAndV (tOp (rIn K false) (tMeth (He.ga K "Reader") "ahead" (sp_Reader_ahead K) [] E0 (tVar 0) tNil) (tVar 2)) (tOp qLtS (tVar 4) (tMeth (He.ga K "Reader") "ahead" (sp_Reader_ahead K) [] E0 (tVar 0) tNil))) tNil)) tNil))))) { nx := fun _ H' => Q .non H', rt := Q } [some (.ref p), some (.ref l), some (.ref nl), some (.str (wAt ws 1)), none] H3) E := by
    intro good H2 k2 hg
    have R2 := R.kb k2
    refine ⟨p, dx, wl, ws, row, 1, good, rfl, R2, fun e => ?_, fun e => ?_⟩
    · refine (q0 1 ?_).at k2.of (by simp)
      unfold pairIn
      rw [if_pos (by rw [← hg]; exact e)]
    · have hg' := hg.symm.trans e
      obtain ⟨hn, hlt⟩ := Bool.and_eq_true_iff.mp hg'
      have hlt : ltS (wAt ws 1) (lastPair pairs).1 = false := by simpa using hlt
      refine ⟨wAt_lt (name_ne hn), fun H3 k3 R3 => ?_⟩
      have k13 : KB [p] H H3 := k2.of.trans k3
      have hl3 : H3 l = some (.lst xs) := k3 _ _ (k2.get hl) (by simp [npl])
      have hn3 : H3 nl = some (.lst ((names rows).map V.str)) := k3 _ _ (k2.get hnl) (by simp [npn])
      have im3 : Im H H3 := k13.im fun b hb o e => by simp at hb; subst hb; rw [R.o] at e; cases e; rfl
      -- the last take
      have take2 : ∀ (H4 : Hp), KB [] H3 H4 → (tRet (tTup (tCons (tVar 3) (tCons (tMeth (He.ga K "Reader") "take" (sp_Reader_take K) [] E (tVar 0) (tCons (tAndV (tOp (rIn K false) (tMeth (He.ga K "Reader") "ahead" (sp_Reader_ahead K) [] E0 (tVar 0) tNil) (tVar 2)) (tOp qLtS (tVar 4) (tMeth (He.ga K "Reader") "ahead" (sp_Reader_ahead K) [] E0 (tVar 0) tNil))) tNil)) tNil)))) { nx := fun _ H' => Q .non H', rt := Q }
          [some (.ref p), some (.ref l), some (.ref nl), some (.str (wAt ws 1)), some (.str (if pairs.isEmpty = false ∧ (lastPair pairs).1 = wAt ws 1 then (lastPair pairs).2 else ""))] H4 := by
        intro H4 k4
        have R4 := R3.kb k4
        have k14 : KB [p] H H4 := k13.trans k4.of
        walk_at "w"
        refine w_methV rfl R4.o rfl ?_
        walk_at "w"
        refine w_methV rfl R4.o rfl ?_
        walk_at "w"
        refine ⟨p, dx, wl, ws, row, 2, rfl, R4, ?_⟩
        walk_at "w"
        refine w_inL (.of (k4.get hn3)) rfl (flat_strs _) ?_
        rw [if_neg Bool.false_ne_true, inV_str]
        walk_at "w"
        have last : ∀ good2 : Bool, good2 = ((names rows).contains (wAt ws 2) && !leP (wAt ws 1, wAt ws 2) (lastPair pairs)) → sp_Reader_take K [.ref p, .bl good2] H4 (fun x H5 => [V.str (wAt ws 1), x].length ≤ sizeLine ∧ ∀ q, H5 q = none → Q (.ref q) (upd H5 q (.tup [V.str (wAt ws 1), x]))) E := by
          intro good2 hg2
          refine ⟨p, dx, wl, ws, row, 2, good2, rfl, R4, fun e2 => ?_, fun e2 => ?_⟩
          · refine (q0 2 ?_).at k14 (by simp)
            unfold pairIn
            rw [if_neg (by rw [hg']; simp), if_pos (by rw [← hg2]; exact e2)]
          · have hg2' := hg2.symm.trans e2
            obtain ⟨c1, c2⟩ := Bool.and_eq_true_iff.mp hg2'
            obtain ⟨r, hr, er⟩ := List.mem_map.mp (contains_mem c1)
            have n2 : wAt ws 2 ≠ "" := by rw [← er]; exact name_ne (hrn r hr)
            refine ⟨wAt_lt n2, fun H5 k5 R5 => ⟨szb (by show 2 ≤ _; omega), fun q hq => ?_⟩⟩
            have kq := KB.new (KB.refl [] H5) hq (o := .tup [.str (wAt ws 1), .str (wAt ws 2)])
            refine q1 (wAt ws 1, wAt ws 2) ?_ (.ref q) _ ((k14.trans k5).trans kq.of) (R5.kb kq) ⟨q, rfl, upd_same⟩
            unfold pairIn
            rw [if_neg (by rw [hg']; simp), if_neg (by rw [hg2']; simp)]
        cases hc : (names rows).contains (wAt ws 2) with
        | false =>
          refine w_iF ?_
          exact last false (by rw [hc]; rfl)
        | true =>
          refine w_iT ?_
          walk_at "w"
          refine w_methV rfl R4.o rfl ?_
          walk_at "w"
          refine ⟨p, dx, wl, ws, row, 2, rfl, R4, ?_⟩
          walk_at "w"
          obtain ⟨r, hr, er⟩ := List.mem_map.mp (contains_mem hc)
          have n2 : wAt ws 2 ≠ "" := by rw [← er]; exact name_ne (hrn r hr)
          refine last _ ?_
          rw [hc, Bool.true_and, pair_least n2 hn hlt]
          rfl
      walk_at "w"
      refine ⟨szb (by show 0 ≤ _; omega), fun b hb => ?_⟩
      have kb := KB.new (KB.refl [] H3) hb (o := .lst [])
      refine ⟨l, b, xs, rfl, rfl, .of (kb.get hl3), .of upd_same, ?_⟩
      rw [empty_iff hx]
      walk_at "w"
      cases he : pairs.isEmpty with
      | true =>
        refine w_nT (w_iF (w_c ?_))
        have := take2 _ kb
        rw [he] at this
        rw [if_neg (fun z => nomatch z.1)] at this
        exact this
      | false =>
        refine w_nF ?_
        obtain ⟨r, hr⟩ := last_some he
        obtain ⟨x, hx', t, rfl, ht⟩ := last_get hx hr
        have el : lastPair pairs = r := by unfold lastPair; rw [hr]; rfl
        walk_at "w"
        refine w_uI (σ := []) ?_
        refine w_ixL (.of (kb.get hl3)) (atI_last hx') ?_
        walk_at "w"
        refine w_ixT (.of (kb.get (im3.tup ht))) (atI_nat (k := 0) rfl) ?_
        walk_at "w"
        refine w_eq rfl ?_
        walk_at "w"
        rw [dec_str]
        by_cases e1 : r.1 = wAt ws 1
        · rw [decide_eq_true e1]
          walk_at "w"
          refine w_uI (σ := []) ?_
          refine w_ixL (.of (kb.get hl3)) (atI_last hx') ?_
          walk_at "w"
          refine w_ixT (.of (kb.get (im3.tup ht))) (atI_nat (k := 1) rfl) ?_
          have := take2 _ kb
          rw [he, el, if_pos ⟨rfl, e1⟩] at this
          exact this
        · rw [decide_eq_false e1]
          refine w_iF (w_c ?_)
          have := take2 _ kb
          rw [he, el, if_neg (fun z => e1 z.2)] at this
          exact this
  cases hn : isName (wAt ws 1) with
  | false =>
    refine w_iF ?_
    exact fin false H1 k1 (by rw [hn]; rfl)
  | true =>
    refine w_iT ?_
    walk_at "w"
    refine ⟨szb (by show 0 ≤ _; omega), fun b hb => ?_⟩
    have k2 := k1.new hb (o := .lst [])
    refine ⟨l, b, xs, rfl, rfl, .of (k2.get hl), .of upd_same, ?_⟩
    rw [empty_iff hx]
    walk_at "w"
    cases he : pairs.isEmpty with
    | true =>
      refine w_iT ?_
      refine fin true _ k2 ?_
      rw [hn]
      have : pairs = [] := by simpa using he
      rw [this]
      show true = (true && !ltS (wAt ws 1) "")
      rw [nlt_empty]; rfl
    | false =>
      refine w_iF ?_
      obtain ⟨r, hr⟩ := last_some he
      obtain ⟨x, hx', t, rfl, ht⟩ := last_get hx hr
      have el : lastPair pairs = r := by unfold lastPair; rw [hr]; rfl
      walk_at "w"
      refine w_uI (σ := []) ?_
      refine w_ixL (.of (k2.get hl)) (atI_last hx') ?_
      walk_at "w"
      refine w_ixT (.of (k2.get ht)) (atI_nat (k := 0) rfl) ?_
      walk_at "w"
      refine fin _ _ k2 ?_
      rw [hn, el]
      rfl
end
end WK
set_option Elab.async false
set_option linter.all false
set_option maxRecDepth 100000
set_option maxHeartbeats 4000000
namespace WK
open PySem PySem.Spec PyProof.Rows L2
/-! ### the rows' reader -/
abbrev srF (hl pl ql : Addr) : List (Str × V) := [("heads", .ref hl), ("parts_read", .ref pl), ("pairs_read", .ref ql)]
def HeadO (K : PySem.W.Frag) (H : Hp) (hv : List V) : Option (Str × Pm) → Prop
  | none => hv = []
  | some hd => ∃ t pa, hv = [.ref t] ∧ H t = some (.tup [.str hd.1, .ref pa]) ∧ PmO K H pa hd.2
theorem HeadO.im {K : PySem.W.Frag} {H H' : Hp} {hv : List V} {o : Option (Str × Pm)} (h : HeadO K H hv o) (k : Im H H') : HeadO K H' hv o := by
  cases o with
  | none => exact h
  | some hd => obtain ⟨t, pa, e, h1, h2⟩ := h; exact ⟨t, pa, e, k _ _ h1 rfl, h2.im k⟩
structure SrO (K : PySem.W.Frag) (H : Hp) (s dx hl pl ql : Addr) (S : Acc) : Prop where
  o : H s = some (.ins (He.ga K "SortReader") dx (srF hl pl ql))
  h : ∃ hv, H hl = some (.lst hv) ∧ HeadO K H hv S.head
  r : ∃ xs, H pl = some (.lst xs) ∧ Paired (RowO K H) xs S.rows
  p : ∃ ys, H ql = some (.lst ys) ∧ Paired (PairO H) ys S.pairs
  n1 : hl ≠ pl
  n2 : hl ≠ ql
  n3 : pl ≠ ql
theorem SrO.kb {K : PySem.W.Frag} {H H' : Hp} {s dx hl pl ql : Addr} {S : Acc} {L : List Addr} (h : SrO K H s dx hl pl ql S) (k : KB L H H') (im : Im H H') (n : s ∉ L ∧ hl ∉ L ∧ pl ∉ L ∧ ql ∉ L) : SrO K H' s dx hl pl ql S := by
  obtain ⟨o, ⟨hv, h1, h2⟩, ⟨xs, r1, r2⟩, ⟨ys, p1, p2⟩, n1, n2, n3⟩ := h
  exact ⟨k _ _ o n.1, ⟨hv, k _ _ h1 n.2.1, h2.im im⟩, ⟨xs, k _ _ r1 n.2.2.1, Paired.mono (fun _ _ z => z.im im) r2⟩, ⟨ys, k _ _ p1 n.2.2.2, Paired.mono (fun _ _ z => z.im im) p2⟩, n1, n2, n3⟩
theorem SrO.kb0 {K : PySem.W.Frag} {H H' : Hp} {s dx hl pl ql : Addr} {S : Acc} (h : SrO K H s dx hl pl ql S) (k : KB [] H H') : SrO K H' s dx hl pl ql S := h.kb k k.im0 (by simp)
theorem RdO.imO {K : PySem.W.Frag} {H H' : Hp} {p dx wl : Addr} {ws : List Str} {row : Int} {k : Nat} (R : RdO K H p dx wl ws row k) (kk : KB [p] H H') : Im H H' := kk.im fun b hb o e => by simp at hb; subst hb; rw [R.o] at e; cases e; rfl
theorem SrO.kbR {K : PySem.W.Frag} {H H' : Hp} {s dx hl pl ql p rdx wl : Addr} {S : Acc} {ws : List Str} {row : Int} {k : Nat} (h : SrO K H s dx hl pl ql S) (R : RdO K H p rdx wl ws row k) (kk : KB [p] H H') : SrO K H' s dx hl pl ql S := by
  refine h.kb kk (R.imO kk) ⟨?_, ?_, ?_, ?_⟩
  · intro m
    simp only [List.mem_singleton] at m
    subst m
    have e := h.o.symm.trans R.o
    injection e with e
    injection e with _ _ e
    injection e with e _
    injection e with e _
    exact absurd e (by decide)
  · intro m
    simp only [List.mem_singleton] at m
    subst m
    obtain ⟨hv, e, _⟩ := h.h
    have e := e.symm.trans R.o
    cases e
  · intro m
    simp only [List.mem_singleton] at m
    subst m
    obtain ⟨hv, e, _⟩ := h.r
    have e := e.symm.trans R.o
    cases e
  · intro m
    simp only [List.mem_singleton] at m
    subst m
    obtain ⟨hv, e, _⟩ := h.p
    have e := e.symm.trans R.o
    cases e
def fwS (S : Acc) : List Str := if S.head.isNone = true then [("sort" : Str)] else (if (S.pairs.isEmpty && decide (S.rows.length < 12)) = true then [("part" : Str)] else []) ++ (if S.pairs.length < 30 then [("barred" : Str)] else [])
theorem w_appL {σ : L2.St} {H : Hp} {Q : VK} {l : Addr} {xs : List V} {y : V} (h : H l = some (.lst xs)) (hz : xs.length ≤ 1000000) (q : Q .non (upd H l (.lst (xs ++ [y])))) : rAppend (.ref l) [y] H Q := ⟨l, xs, y, rfl, rfl, h, Nat.lt_of_le_of_lt hz (by rw [sizeLine_eq]; decide), q⟩
theorem paired_snoc {α β : Type} {F : α → β → Prop} {xs : List α} {ys : List β} {a : α} {b : β} (h : Paired F xs ys) (f : F a b) : Paired F (xs ++ [a]) (ys ++ [b]) := Paired.snoc h f
/-- steps that need no fact -/
local macro_rules | `(tactic| walk_at "w") => `(tactic| repeat (first
  | with_reducible refine w_seq ?_ | with_reducible refine w_asg ?_ | with_reducible refine w_ret ?_ | with_reducible refine w_drp ?_ | with_reducible refine w_next ?_ | with_reducible refine w_if ?_
  | ((with_reducible refine' w_var ?_ ?_); rotate_left; rfl) | with_reducible refine w_c ?_ | with_reducible refine w_op ?_ | with_reducible refine w_un ?_ | with_reducible refine w_test ?_ | with_reducible refine w_tB ?_ | with_reducible refine w_bl ?_
  | with_reducible refine w_and ?_ | with_reducible refine w_or ?_ | with_reducible refine w_not ?_ | with_reducible refine w_andV ?_ | with_reducible refine w_orV ?_ | with_reducible refine w_notV ?_ | with_reducible refine w_ebl ?_
  | with_reducible refine w_ifE ?_ | with_reducible refine w_nil ?_ | with_reducible refine w_cons ?_ | with_reducible refine w_cb ?_ | with_reducible refine w_call ?_ | with_reducible refine w_chain ?_ | with_reducible refine w_I0 ?_
  | with_reducible refine w_isN ?_ | with_reducible refine w_notN ?_ | with_reducible refine w_ltS ?_ | with_reducible refine w_leS ?_ | with_reducible refine w_m1 ?_ | with_reducible refine w_m1s ?_
  | with_reducible refine w_iT ?_ | with_reducible refine w_iF ?_ | with_reducible refine w_nT ?_ | with_reducible refine w_nF ?_ | with_reducible refine w_yes ?_ | with_reducible refine w_sfld ?_ | with_reducible refine w_lc ?_ | with_reducible refine w_for ?_ | with_reducible refine w_iStr ?_ | with_reducible refine w_iTup ?_ | with_reducible refine w_iList ?_ | with_reducible refine w_tup1 ?_ | with_reducible refine w_callN ?_ | with_reducible refine w_iZip ?_ | with_reducible refine w_sl ?_ | with_reducible refine w_part ?_ | with_reducible refine w_noPart ?_ | with_reducible refine w_eInt ?_ | with_reducible refine w_gN ?_ | with_reducible refine w_bm ?_ | with_reducible refine w_lst1 ?_ | ((with_reducible refine' w_aug ?_ ?_); rotate_left; rfl) | with_reducible refine w_ost ?_ | with_reducible refine w_rz ?_))

section
variable {K : PySem.W.Frag} {w : World} {mg : Str → Option Value} {vs : List V} {H : Hp} {Q : VK} {E : XK}
def sp_SortReader_init (K : PySem.W.Frag) : Sp := fun vs H Q _ => ∃ (s dx : Addr), vs = [.ref s] ∧ H s = some (.ins (He.ga K "SortReader") dx []) ∧ ∀ hl pl ql H', KB [s] H H' → H hl = none → H pl = none → H ql = none → SrO K H' s dx hl pl ql ⟨none, [], []⟩ → Q .non H'
theorem rd_SortReader_init (T : Tx w K mg) (h : sp_SortReader_init K vs H Q E) : t_SortReader_init K { nx := fun _ H' => Q .non H', rt := Q } (start N_SortReader_init vs) H := by
  obtain ⟨s, dx, rfl, hs, q⟩ := h
  unfold t_SortReader_init
  walk_at "w"
  refine ⟨szb (by show 0 ≤ _; omega), fun hl e1 => ?_⟩
  walk_at "w"
  have ns1 : s ≠ hl := ne_of_none hs e1
  refine ⟨s, _, dx, _, rfl, by rw [upd_ne ns1]; exact hs, T.cl_SortReader, T.na_heads, by show 0 < 1000; decide, ?_⟩
  walk_at "w"
  refine ⟨szb (by show 0 ≤ _; omega), fun pl e2 => ?_⟩
  walk_at "w"
  have ns2 : s ≠ pl := fun z => by rw [← z, upd_same] at e2; cases e2
  have n12 : hl ≠ pl := fun z => by rw [← z, upd_ne (Ne.symm ns1), upd_same] at e2; cases e2
  have e2' : H pl = none := by rw [upd_ne (Ne.symm ns2), upd_ne (Ne.symm n12)] at e2; exact e2
  refine ⟨s, _, dx, _, rfl, by rw [upd_ne ns2, upd_same], T.cl_SortReader, T.na_parts_read, by show 1 < 1000; decide, ?_⟩
  walk_at "w"
  refine ⟨szb (by show 0 ≤ _; omega), fun ql e3 => ?_⟩
  walk_at "w"
  have ns3 : s ≠ ql := fun z => by rw [← z, upd_same] at e3; cases e3
  have n23 : pl ≠ ql := fun z => by rw [← z, upd_ne (Ne.symm ns2), upd_same] at e3; cases e3
  have n13 : hl ≠ ql := fun z => by rw [← z, upd_ne (Ne.symm ns1), upd_ne n12, upd_ne (Ne.symm ns1), upd_same] at e3; cases e3
  have e3' : H ql = none := by rw [upd_ne (Ne.symm ns3), upd_ne (Ne.symm n23), upd_ne (Ne.symm ns3), upd_ne (Ne.symm n13)] at e3; exact e3
  refine ⟨s, _, dx, _, rfl, by rw [upd_ne ns3, upd_same], T.cl_SortReader, T.na_pairs_read, by show 2 < 1000; decide, ?_⟩
  have ms : s ∈ [s] := by simp
  refine q hl pl ql _ ((((((KB.refl _ _).new e1).mut ms).mutN e2').mut ms).mutN e3' |>.mut ms) e1 e2' e3' ⟨upd_same, ⟨[], ?_, rfl⟩, ⟨[], ?_, .nil⟩, ⟨[], ?_, .nil⟩, n12, n13, n23⟩
  · rw [upd_ne (Ne.symm ns1), upd_ne n13, upd_ne (Ne.symm ns1), upd_ne n12, upd_ne (Ne.symm ns1), upd_same]
  · rw [upd_ne (Ne.symm ns2), upd_ne n23, upd_ne (Ne.symm ns2), upd_same]
  · rw [upd_ne (Ne.symm ns3), upd_same]
def sp_first_words (K : PySem.W.Frag) : Sp := fun vs H Q _ => ∃ (s dx hl pl ql : Addr) (S : Acc), vs = [.ref s] ∧ SrO K H s dx hl pl ql S ∧ ∀ l H', KB [] H H' → H' l = some (.lst ((fwS S).map V.str)) → Q (.ref l) H'
theorem rd_first_words (T : Tx w K mg) (h : sp_first_words K vs H Q E) : t_SortReader_first_words K { nx := fun _ H' => Q .non H', rt := Q } (start N_SortReader_first_words vs) H := by
  obtain ⟨s, dx, hl, pl, ql, S, rfl, R, q⟩ := h
  obtain ⟨hv, h1, h2⟩ := R.h
  obtain ⟨xs, r1, r2⟩ := R.r
  obtain ⟨ys, p1, p2⟩ := R.p
  unfold t_SortReader_first_words
  walk_at "w"
  refine w_fldV rfl R.o T.cl_SortReader T.na_heads rfl ?_
  walk_at "w"
  refine ⟨szb (by show 0 ≤ _; omega), fun b hb => ?_⟩
  have k1 := KB.new (KB.refl [] H) hb (o := .lst [])
  refine ⟨hl, b, hv, rfl, rfl, .of (k1.get h1), .of upd_same, ?_⟩
  walk_at "w"
  cases hS : S.head with
  | none =>
    rw [hS] at h2
    rw [show hv = [] from h2]
    refine w_iT ?_
    walk_at "w"
    refine ⟨szb (by show 1 ≤ _; omega), fun l hl' => ?_⟩
    refine q l _ (k1.new hl') ?_
    rw [upd_same]
    unfold fwS
    rw [hS]; rfl
  | some hd =>
    rw [hS] at h2
    obtain ⟨t, pa, rfl, _⟩ := h2
    refine w_iF ?_
    walk_at "w"
    refine w_fldV rfl (k1.get R.o) T.cl_SortReader T.na_pairs_read rfl ?_
    walk_at "w"
    refine ⟨szb (by show 0 ≤ _; omega), fun b2 hb2 => ?_⟩
    have k2 := k1.new hb2 (o := .lst [])
    refine ⟨ql, b2, ys, rfl, rfl, .of (k2.get p1), .of upd_same, ?_⟩
    rw [empty_iff p2]
    walk_at "w"
    have part2 : ∀ (A : List Str) (la : Addr) (H3 : Hp), KB [] H H3 → H3 la = some (.lst (A.map V.str)) → A.length ≤ 1 → fwS S = A ++ (if S.pairs.length < 30 then [("barred" : Str)] else []) →
        (tRet (tOp rCat (tVar 1) (tIf (tTest (tOp qLt (tCB (qLenL K) (tCons (tFld K (tVar 0) "pairs_read") tNil)) (tC (.int 30)))) (tLst (tCons (tC (.str "barred")) tNil)) (tLst tNil)))) { nx := fun _ H' => Q .non H', rt := Q } [some (.ref s), some (.ref la)] H3 := by
      intro A la H3 k3 ea hA hf
      walk_at "w"
      refine w_fldV rfl (k3.get R.o) T.cl_SortReader T.na_pairs_read rfl ?_
      walk_at "w"
      refine w_lenL (.of (k3.get p1)) ?_
      walk_at "w"
      have yl : ys.length = S.pairs.length := p2.length
      by_cases h30 : S.pairs.length < 30
      · rw [decide_eq_true (by omega)]
        walk_at "w"
        refine ⟨szb (by show 1 ≤ _; omega), fun c hc => ?_⟩
        have k4 := k3.new hc (o := .lst [.str "barred"])
        refine ⟨la, c, _, _, rfl, rfl, (KB.new (KB.refl [] H3) hc).get ea, upd_same, szb (by simp; omega), fun g hg => q g _ (k4.new hg) ?_⟩
        rw [upd_same, hf, if_pos h30]
        simp
      · rw [decide_eq_false (by omega)]
        walk_at "w"
        refine ⟨szb (by show 0 ≤ _; omega), fun c hc => ?_⟩
        have k4 := k3.new hc (o := .lst [])
        refine ⟨la, c, _, _, rfl, rfl, (KB.new (KB.refl [] H3) hc).get ea, upd_same, szb (by simp; omega), fun g hg => q g _ (k4.new hg) ?_⟩
        rw [upd_same, hf, if_neg h30]
        simp
    cases hp : S.pairs.isEmpty with
    | true =>
      refine w_iT ?_
      walk_at "w"
      refine w_fldV rfl (k2.get R.o) T.cl_SortReader T.na_parts_read rfl ?_
      walk_at "w"
      refine w_lenL (.of (k2.get r1)) ?_
      walk_at "w"
      have xl : xs.length = S.rows.length := r2.length
      by_cases h12 : S.rows.length < 12
      · rw [decide_eq_true (by omega)]
        refine w_iT ?_
        walk_at "w"
        refine ⟨szb (by show 1 ≤ _; omega), fun la hla => ?_⟩
        refine part2 ["part"] la _ (k2.new hla) upd_same (by decide) ?_
        unfold fwS
        rw [hS, hp, decide_eq_true h12]; rfl
      · rw [decide_eq_false (by omega)]
        refine w_iF ?_
        walk_at "w"
        refine ⟨szb (by show 0 ≤ _; omega), fun la hla => ?_⟩
        refine part2 [] la _ (k2.new hla) upd_same (by decide) ?_
        unfold fwS
        rw [hS, hp, decide_eq_false h12]; rfl
    | false =>
      refine w_iF (w_iF ?_)
      walk_at "w"
      refine ⟨szb (by show 0 ≤ _; omega), fun la hla => ?_⟩
      refine part2 [] la _ (k2.new hla) upd_same (by decide) ?_
      unfold fwS
      rw [hS, hp]; rfl
/-! ### take_row -/
def sp_take_row (K : PySem.W.Frag) : Sp := fun vs H Q E => ∃ (s dx hl pl ql p rdx wl : Addr) (ws : List Str) (row : Int) (S : Acc), vs = [.ref s, .ref p] ∧ RdO K H p rdx wl ws row 0 ∧ (∀ z ∈ ws, z.length ≤ 16000000) ∧ SrO K H s dx hl pl ql S ∧ Good S ∧ wl ≠ hl ∧ wl ≠ pl ∧ wl ≠ ql ∧
  (∀ e, rowIn S ws = .error e → RdErr K E H [p, hl, pl, ql] row (e + 1)) ∧ (∀ S', rowIn S ws = .ok S' → ∀ H', KB [p, hl, pl, ql] H H' → SrO K H' s dx hl pl ql S' → Q .non H')
theorem fw_some {S : Acc} {hd : Str × Pm} {z : Str} (h : S.head = some hd) : (fwS S).contains z = (decide (z = "part" ∧ S.pairs = [] ∧ S.rows.length < 12) || decide (z = "barred" ∧ S.pairs.length < 30)) := by
  unfold fwS
  rw [h]
  show ((if (S.pairs.isEmpty && decide (S.rows.length < 12)) = true then [("part" : Str)] else []) ++ (if S.pairs.length < 30 then [("barred" : Str)] else [])).contains z = _
  have d : ("part" : Str) ≠ "barred" := by decide
  have pe : S.pairs.isEmpty = true ↔ S.pairs = [] := by simp
  by_cases h1 : S.pairs = []
  · by_cases h2 : S.rows.length < 12
    · have h3 : S.pairs.length < 30 := by rw [h1]; simp
      rw [if_pos (by rw [pe.mpr h1, decide_eq_true h2]; rfl), if_pos h3]
      by_cases e1 : z = "part"
      · simp [e1, h1, h2]
      · by_cases e2 : z = "barred"
        · simp [e2, h1, Ne.symm d]
        · simp [e1, e2]
    · have h3 : S.pairs.length < 30 := by rw [h1]; simp
      rw [if_neg (by rw [decide_eq_false h2, Bool.and_false]; simp), if_pos h3]
      by_cases e2 : z = "barred"
      · simp [e2, h3]
      · simp [e2, h2]
  · have : S.pairs.isEmpty = false := by cases h4 : S.pairs.isEmpty <;> simp_all
    rw [if_neg (by rw [this]; simp)]
    by_cases h3 : S.pairs.length < 30
    · rw [if_pos h3]
      by_cases e2 : z = "barred"
      · simp [e2, h3]
      · simp [e2, h1]
    · rw [if_neg h3]
      simp [h1, h3]
theorem rd_take_row (T : Tx w K mg) (h : sp_take_row K vs H Q E) : t_SortReader_take_row K E (sp_Reader_take K) (sp_Reader_ahead K) (sp_first_words K) (sp_Reader_take_name K) (sp_Reader_take_promise K) (sp_part_in K) (sp_pair_in K) (sp_Reader_over K) { nx := fun _ H' => Q .non H', rt := Q } (start N_SortReader_take_row vs) H := by
  obtain ⟨s, dx, hl, pl, ql, p, rdx, wl, ws, row, S, rfl, R, hz, O, G, w1, w2, w3, q0, q1⟩ := h
  have rl := G.rl
  have pl30 := G.pl
  unfold t_SortReader_take_row
  walk_at "w"
  refine w_methV rfl R.o rfl ?_
  walk_at "w"
  refine w_methV rfl R.o rfl ?_
  walk_at "w"
  refine ⟨p, rdx, wl, ws, row, 0, rfl, R, ?_⟩
  refine w_methV rfl O.o rfl ?_
  walk_at "w"
  refine ⟨s, dx, hl, pl, ql, S, rfl, O, fun fl H1 k1 e1 => ?_⟩
  refine w_inL (.of e1) rfl (flat_strs _) ?_
  rw [if_neg Bool.false_ne_true, inV_str]
  walk_at "w"
  have R1 := R.kb k1
  have O1 := O.kb0 k1
  have sub : ∀ b ∈ [p], b ∈ [p, hl, pl, ql] ∨ H b = none := fun b hb => by simp at hb; subst hb; simp
  -- behind everything: over
  have over : ∀ (H2 : Hp) (k : Nat) (S' : Acc), KB [p, hl, pl, ql] H H2 → RdO K H2 p rdx wl ws row k → SrO K H2 s dx hl pl ql S' → (k ≠ ws.length → rowIn S ws = .error k) → (k = ws.length → rowIn S ws = .ok S') → ∀ (σ2 : L2.St), σ2[1]? = some (some (.ref p)) →
      tDrop (tMeth (He.ga K "Reader") "over" (sp_Reader_over K) [] E (tVar 1) tNil) { nx := fun _ H' => Q .non H', rt := Q } σ2 H2 := by
    intro H2 k S' k2 R2 O2 he hk σ2 h1
    refine w_drp (w_methV h1 R2.o rfl (w_nil ?_))
    refine ⟨p, rdx, wl, ws, row, k, rfl, R2, fun ne => (q0 k (he ne)).at k2 (by simp), fun e => q1 S' (hk e) H2 k2 O2⟩
  cases hS : S.head with
  | none =>
    have hc : (fwS S).contains (wAt ws 0) = decide (wAt ws 0 = "sort") := by
      unfold fwS
      rw [hS]
      show ([("sort" : Str)]).contains (wAt ws 0) = _
      by_cases e : wAt ws 0 = "sort"
      · simp [e]
      · simp [e]
    rw [hc]
    refine ⟨p, rdx, wl, ws, row, 0, _, rfl, R1, fun e => ?_, fun e => ?_⟩
    · have e := of_decide_eq_false e
      refine (q0 0 ?_).at k1.of (by simp)
      unfold rowIn
      rw [hS]
      exact if_pos e
    · have e := of_decide_eq_true e
      have e0 := e
      refine ⟨wAt_lt (by rw [e]; decide), fun H2 k2 R2 => ?_⟩
      have O2 := O1.kbR R1 k2
      have k02 : KB [p, hl, pl, ql] H H2 := k1.of.trans (k2.mono (by simp))
      walk_at "w"
      refine w_eq rfl ?_
      walk_at "w"
      rw [dec_str, decide_eq_true e]
      refine w_iT ?_
      walk_at "w"
      refine w_methV rfl R2.o rfl ?_
      walk_at "w"
      refine ⟨p, rdx, wl, ws, row, 1, rfl, R2, hz, fun hn => ?_, fun hn H3 k3 R3 => ?_⟩
      · refine (q0 1 ?_).at k02 (by simp)
        unfold rowIn
        rw [hS]
        dsimp only
        rw [if_neg (by simpa using e), if_pos hn]
      · have O3 := O2.kbR R2 k3
        have k03 : KB [p, hl, pl, ql] H H3 := k02.trans (k3.mono (by simp))
        have hrowE : ∀ e, prom ws 2 = .error e → rowIn S ws = .error e := fun e he => by
          unfold rowIn
          rw [hS]
          dsimp only
          rw [if_neg (by simpa using e0), if_neg (by rw [hn]; simp), he]
        have hrowO : ∀ r, prom ws 2 = .ok r → rowIn S ws = if r.2 = ws.length then .ok { S with head := some (wAt ws 1, r.1) } else .error r.2 := fun r he => by
          unfold rowIn
          rw [hS]
          dsimp only
          rw [if_neg (by simpa using e0), if_neg (by rw [hn]; simp), he]
        walk_at "w"
        refine w_fldV rfl O3.o T.cl_SortReader T.na_heads rfl ?_
        obtain ⟨hv, h1, h2⟩ := O3.h
        rw [hS] at h2
        rw [show hv = [] from h2] at h1
        refine ⟨.inl ⟨rfl, _, .of h1⟩, ?_⟩
        walk_at "w"
        refine w_methV rfl R3.o rfl ?_
        walk_at "w"
        refine ⟨p, rdx, wl, ws, row, 2, rfl, R3, hz, fun e he => ?_, fun pm k' hp a H4 k4 R4 hpm => ?_⟩
        · exact (q0 e (hrowE e he)).at k03 sub
        · have O4 := O3.kbR R3 k4
          have k04 : KB [p, hl, pl, ql] H H4 := k03.trans (k4.mono (by simp))
          refine ⟨szb (by show 2 ≤ _; omega), fun t ht => ?_⟩
          walk_at "w"
          have kt := KB.new (KB.refl [] H4) ht (o := .tup [.str (wAt ws 1), .ref a])
          have O5 := O4.kb0 kt
          obtain ⟨hv5, h5, h6⟩ := O4.h
          rw [hS] at h6
          rw [show hv5 = [] from h6] at h5
          refine w_appL (σ := []) (kt.get h5) (by simp) ?_
          walk_at "w"
          have imA : Im (upd H4 t (.tup [.str (wAt ws 1), .ref a])) (upd (upd H4 t (.tup [.str (wAt ws 1), .ref a])) hl (.lst ([] ++ [.ref t]))) := Im.lst fun u e => by rw [kt.get h5] at e; cases e; rfl
          obtain ⟨o5, _, ⟨xs, r1, r2⟩, ⟨ys, p1, p2⟩, n1, n2, n3⟩ := O5
          have nsl : s ≠ hl := fun z => by rw [z, kt.get h5] at o5; cases o5
          have npl : p ≠ hl := fun z => by have := R4.o; rw [z, h5] at this; cases this
          refine over _ k' { S with head := some (wAt ws 1, pm) } ((k04.trans kt.of).mut (by simp)) ⟨by rw [upd_ne npl]; exact kt.get R4.o, by rw [upd_ne w1]; exact kt.get R4.w, R4.z⟩
            ⟨by rw [upd_ne nsl]; exact o5, ⟨_, upd_same, t, a, rfl, imA.tup upd_same, (hpm.im kt.im0).im imA⟩, ⟨xs, by rw [upd_ne (Ne.symm n1)]; exact r1, Paired.mono (fun _ _ z => z.im imA) r2⟩, ⟨ys, by rw [upd_ne (Ne.symm n2)]; exact p1, Paired.mono (fun _ _ z => z.im imA) p2⟩, n1, n2, n3⟩
            (fun ne => (hrowO _ hp).trans (if_neg ne)) (fun e => (hrowO _ hp).trans (if_pos e)) _ rfl
  | some hd =>
    rw [fw_some hS]
    have d1 : ("part" : Str) ≠ "sort" := by decide
    have d2 : ("barred" : Str) ≠ "sort" := by decide
    have d3 : ("barred" : Str) ≠ "part" := by decide
    by_cases hpart : wAt ws 0 = "part" ∧ S.pairs = [] ∧ S.rows.length < 12
    · rw [decide_eq_true hpart, Bool.true_or]
      refine ⟨p, rdx, wl, ws, row, 0, true, rfl, R1, fun e => (nomatch e), fun _ => ⟨wAt_lt (by rw [hpart.1]; decide), fun H2 k2 R2 => ?_⟩⟩
      have O2 := O1.kbR R1 k2
      have k02 : KB [p, hl, pl, ql] H H2 := k1.of.trans (k2.mono (by simp))
      have hrowE : ∀ e, partIn S.rows ws = .error e → rowIn S ws = .error e := fun e he => by
        unfold rowIn
        rw [hS]
        dsimp only
        rw [if_pos hpart, he]
      have hrowO : ∀ r, partIn S.rows ws = .ok r → rowIn S ws = if r.2 = ws.length then .ok { S with rows := S.rows ++ [r.1] } else .error r.2 := fun r he => by
        unfold rowIn
        rw [hS]
        dsimp only
        rw [if_pos hpart, he]
      walk_at "w"
      refine w_eq rfl ?_
      walk_at "w"
      rw [dec_str, decide_eq_false (by rw [hpart.1]; exact d1)]
      refine w_iF ?_
      walk_at "w"
      refine w_eq rfl ?_
      walk_at "w"
      rw [dec_str, decide_eq_true hpart.1]
      refine w_iT ?_
      walk_at "w"
      refine w_fldV rfl O2.o T.cl_SortReader T.na_parts_read rfl ?_
      obtain ⟨xs, r1, r2⟩ := O2.r
      refine ⟨.inl ⟨rfl, _, .of r1⟩, ?_⟩
      walk_at "w"
      refine w_fldV rfl O2.o T.cl_SortReader T.na_parts_read rfl ?_
      walk_at "w"
      refine ⟨p, rdx, wl, pl, ws, row, xs, S.rows, rfl, R2, hz, r1, r2, fun e he => ?_, fun r k' hr v H3 k3 R3 hv => ?_⟩
      · exact (q0 e (hrowE e he)).at k02 sub
      · have O3 := O2.kbR R2 k3
        have k03 : KB [p, hl, pl, ql] H H3 := k02.trans (k3.mono (by simp))
        obtain ⟨o3, ⟨hv3, h3, h4⟩, ⟨xs3, r3, r4⟩, ⟨ys, p1, p2⟩, n1, n2, n3⟩ := O3
        have xl : xs3.length = S.rows.length := r4.length
        refine w_nil ?_
        refine w_appL (σ := []) r3 (by omega) ?_
        walk_at "w"
        have imA : Im H3 (upd H3 pl (.lst (xs3 ++ [v]))) := Im.lst fun u e => by rw [r3] at e; cases e; rfl
        have nsl : s ≠ pl := fun z => by rw [z, r3] at o3; cases o3
        have npl : p ≠ pl := fun z => by have := R3.o; rw [z, r3] at this; cases this
        refine over _ k' { S with rows := S.rows ++ [r] } (k03.mut (by simp)) ⟨by rw [upd_ne npl]; exact R3.o, by rw [upd_ne w2]; exact R3.w, R3.z⟩
          ⟨by rw [upd_ne nsl]; exact o3, ⟨hv3, by rw [upd_ne n1]; exact h3, h4.im imA⟩, ⟨_, upd_same, paired_snoc (Paired.mono (fun _ _ z => z.im imA) r4) (hv.im imA)⟩, ⟨ys, by rw [upd_ne (Ne.symm n3)]; exact p1, Paired.mono (fun _ _ z => z.im imA) p2⟩, n1, n2, n3⟩
          (fun ne => (hrowO _ hr).trans (if_neg ne)) (fun e => (hrowO _ hr).trans (if_pos e)) _ rfl
    · rw [decide_eq_false hpart, Bool.false_or]
      by_cases hbar : wAt ws 0 = "barred" ∧ S.pairs.length < 30
      · rw [decide_eq_true hbar]
        refine ⟨p, rdx, wl, ws, row, 0, true, rfl, R1, fun e => (nomatch e), fun _ => ⟨wAt_lt (by rw [hbar.1]; decide), fun H2 k2 R2 => ?_⟩⟩
        have O2 := O1.kbR R1 k2
        have k02 : KB [p, hl, pl, ql] H H2 := k1.of.trans (k2.mono (by simp))
        have nb : ¬ (wAt ws 0 ≠ "barred" ∨ ¬ S.pairs.length < 30) := by rintro (z | z); exact z hbar.1; exact z hbar.2
        have hrowE : ∀ e, pairIn S.rows S.pairs ws = .error e → rowIn S ws = .error e := fun e he => by
          unfold rowIn
          rw [hS]
          dsimp only
          rw [if_neg hpart, if_neg nb, he]
        have hrowO : ∀ r, pairIn S.rows S.pairs ws = .ok r → rowIn S ws = if ws.length = 3 then .ok { S with pairs := S.pairs ++ [r] } else .error 3 := fun r he => by
          unfold rowIn
          rw [hS]
          dsimp only
          rw [if_neg hpart, if_neg nb, he]
        walk_at "w"
        refine w_eq rfl ?_
        walk_at "w"
        rw [dec_str, decide_eq_false (by rw [hbar.1]; exact d2)]
        refine w_iF ?_
        walk_at "w"
        refine w_eq rfl ?_
        walk_at "w"
        rw [dec_str, decide_eq_false (by rw [hbar.1]; exact d3)]
        refine w_iF ?_
        walk_at "w"
        refine w_fldV rfl O2.o T.cl_SortReader T.na_pairs_read rfl ?_
        obtain ⟨ys, p1, p2⟩ := O2.p
        obtain ⟨xs, r1, r2⟩ := O2.r
        refine ⟨.inl ⟨rfl, _, .of p1⟩, ?_⟩
        walk_at "w"
        refine w_fldV rfl O2.o T.cl_SortReader T.na_pairs_read rfl ?_
        walk_at "w"
        refine w_fldV rfl O2.o T.cl_SortReader T.na_parts_read rfl ?_
        refine ⟨pl, rfl, ⟨_, .of r1⟩, ?_⟩
        refine lc_names (walk_list (xs := xs)) r2 (Im.refl _) (by omega) (fun H3 k => .of (k.get r1)) (fun _ => rfl) (fun _ => rfl) fun nl H3 hnl k3 e3 => ?_
        walk_at "w"
        have R3 := R2.kb k3
        have O3 := O2.kb0 k3
        have k03 : KB [p, hl, pl, ql] H H3 := k02.trans k3.of
        obtain ⟨ys3, p3, p4⟩ := O3.p
        have ey : ys3 = ys := by
          have := p3.symm.trans (k3.get p1)
          injection this with this
          injection this
        subst ey
        refine ⟨p, rdx, wl, ql, nl, ws, row, ys3, S.pairs, S.rows, rfl, R3, hz, p3, p4, e3, fun r hr => (G.rn r hr).1, fun e he => ?_, fun r hr v H4 k4 R4 hv => ?_⟩
        · exact (q0 e (hrowE e he)).at k03 sub
        · have O4 := O3.kbR R3 k4
          have k04 : KB [p, hl, pl, ql] H H4 := k03.trans (k4.mono (by simp))
          obtain ⟨o4, ⟨hv4, h4, h5⟩, ⟨xs4, r4, r5⟩, ⟨ys4, p5, p6⟩, n1, n2, n3⟩ := O4
          have yl : ys4.length = S.pairs.length := p6.length
          refine w_nil ?_
          refine w_appL (σ := []) p5 (by omega) ?_
          walk_at "w"
          have imA : Im H4 (upd H4 ql (.lst (ys4 ++ [v]))) := Im.lst fun u e => by rw [p5] at e; cases e; rfl
          have nsl : s ≠ ql := fun z => by rw [z, p5] at o4; cases o4
          have npl : p ≠ ql := fun z => by have := R4.o; rw [z, p5] at this; cases this
          refine over _ 3 { S with pairs := S.pairs ++ [r] } (k04.mut (by simp)) ⟨by rw [upd_ne npl]; exact R4.o, by rw [upd_ne w3]; exact R4.w, R4.z⟩
            ⟨by rw [upd_ne nsl]; exact o4, ⟨hv4, by rw [upd_ne n2]; exact h4, h5.im imA⟩, ⟨xs4, by rw [upd_ne n3]; exact r4, Paired.mono (fun _ _ z => z.im imA) r5⟩, ⟨_, upd_same, paired_snoc (Paired.mono (fun _ _ z => z.im imA) p6) (hv.im imA)⟩, n1, n2, n3⟩
            (fun ne => (hrowO _ hr).trans (if_neg (Ne.symm ne))) (fun e => (hrowO _ hr).trans (if_pos e.symm)) _ rfl
      · rw [decide_eq_false hbar]
        refine ⟨p, rdx, wl, ws, row, 0, false, rfl, R1, fun _ => ?_, fun e => nomatch e⟩
        refine (q0 0 ?_).at k1.of (by simp)
        unfold rowIn
        rw [hS]
        dsimp only
        rw [if_neg hpart]
        refine if_pos ?_
        by_cases e : wAt ws 0 = "barred"
        · exact .inr fun z => hbar ⟨e, z⟩
        · exact .inl e
end
end WK
set_option Elab.async false
set_option linter.all false
set_option maxRecDepth 100000
set_option maxHeartbeats 4000000
namespace WK
open PySem PySem.Spec PyProof.Rows L2
theorem w_make {σ : L2.St} {H : Hp} {Q : VK} {C : Addr} {sp : Sp} {dvs : List V} {E : XK} {t : TA} (q : t σ H fun vs H1 => ∀ x dx, H1 x = none → H1 dx = none → dx ≠ x → sp (.ref x :: (vs ++ dvs)) (upd (upd H1 dx (.own x)) x (.ins C dx [])) (fun v H2 => v = .non ∧ Q (.ref x) H2) E) : tMake C sp dvs E t σ H Q := q
theorem w_iEnum {K : PySem.W.Frag} {σ : L2.St} {H : Hp} {ta : TA} {R : It → Hp → Prop} (q : ta σ H fun vs H1 => ∃ a xs, vs = [.ref a] ∧ SqL K H1 a xs ∧ R (Ite K a) H1) : iEnum K ta σ H R := q
/-- steps that need no fact -/
local macro_rules | `(tactic| walk_at "w") => `(tactic| repeat (first
  | with_reducible refine w_seq ?_ | with_reducible refine w_asg ?_ | with_reducible refine w_ret ?_ | with_reducible refine w_drp ?_ | with_reducible refine w_next ?_ | with_reducible refine w_if ?_
  | ((with_reducible refine' w_var ?_ ?_); rotate_left; rfl) | with_reducible refine w_c ?_ | with_reducible refine w_op ?_ | with_reducible refine w_un ?_ | with_reducible refine w_test ?_ | with_reducible refine w_tB ?_ | with_reducible refine w_bl ?_
  | with_reducible refine w_and ?_ | with_reducible refine w_or ?_ | with_reducible refine w_not ?_ | with_reducible refine w_andV ?_ | with_reducible refine w_orV ?_ | with_reducible refine w_notV ?_ | with_reducible refine w_ebl ?_
  | with_reducible refine w_ifE ?_ | with_reducible refine w_nil ?_ | with_reducible refine w_cons ?_ | with_reducible refine w_cb ?_ | with_reducible refine w_call ?_ | with_reducible refine w_chain ?_ | with_reducible refine w_I0 ?_
  | with_reducible refine w_isN ?_ | with_reducible refine w_notN ?_ | with_reducible refine w_ltS ?_ | with_reducible refine w_leS ?_ | with_reducible refine w_m1 ?_ | with_reducible refine w_m1s ?_
  | with_reducible refine w_iT ?_ | with_reducible refine w_iF ?_ | with_reducible refine w_nT ?_ | with_reducible refine w_nF ?_ | with_reducible refine w_yes ?_ | with_reducible refine w_sfld ?_ | with_reducible refine w_lc ?_ | with_reducible refine w_for ?_ | with_reducible refine w_iStr ?_ | with_reducible refine w_iTup ?_ | with_reducible refine w_iList ?_ | with_reducible refine w_tup1 ?_ | with_reducible refine w_callN ?_ | with_reducible refine w_iZip ?_ | with_reducible refine w_sl ?_ | with_reducible refine w_part ?_ | with_reducible refine w_noPart ?_ | with_reducible refine w_eInt ?_ | with_reducible refine w_gN ?_ | with_reducible refine w_bm ?_ | with_reducible refine w_lst1 ?_ | ((with_reducible refine' w_aug ?_ ?_); rotate_left; rfl) | with_reducible refine w_ost ?_ | with_reducible refine w_rz ?_))

section
variable {K : PySem.W.Frag} {w : World} {mg : Str → Option Value} {vs : List V} {H : Hp} {Q : VK} {E : XK}
theorem good_s {S : Acc} {hd : Str × Pm} (G : Good S) (h : S.head = some hd) : GoodS hd S.rows S.pairs := ⟨(G.hd hd h).1, (G.hd hd h).2, G.rn, G.rl, G.ro, G.pn, G.pl, G.po⟩
/-! ### whole_sort -/
def sp_whole_sort (K : PySem.W.Frag) : Sp := fun vs H Q _ => ∃ (s dx hl pl ql : Addr) (S : Acc) (hd : Str × Pm), vs = [.ref s] ∧ SrO K H s dx hl pl ql S ∧ Good S ∧ S.head = some hd ∧ ∀ a H', KB [] H H' → SortO K H' a hd S.rows S.pairs → Q (.ref a) H'
theorem rd_whole_sort (T : Tx w K mg) (h : sp_whole_sort K vs H Q E) : t_SortReader_whole_sort K (sp_Sort_init K) { nx := fun _ H' => Q .non H', rt := Q } (start N_SortReader_whole_sort vs) H := by
  obtain ⟨s, dx, hl, pl, ql, S, hd, rfl, O, G, hh, q⟩ := h
  obtain ⟨o, ⟨hv, h1, h2⟩, ⟨xs, r1, r2⟩, ⟨ys, p1, p2⟩, n1, n2, n3⟩ := O
  rw [hh] at h2
  obtain ⟨t, pa, rfl, ht, hpm⟩ := h2
  unfold t_SortReader_whole_sort
  walk_at "w"
  refine w_asgG ?_
  walk_at "w"
  refine w_fldV rfl o T.cl_SortReader T.na_heads rfl ?_
  walk_at "w"
  refine w_ixL (.of h1) (atI_nat (k := 0) rfl) ?_
  refine w_gTup2 (.of ht) ?_
  walk_at "w"
  refine w_makeK ?_
  walk_at "w"
  refine w_fldV rfl o T.cl_SortReader T.na_parts_read rfl ?_
  walk_at "w"
  refine ⟨pl, xs, rfl, .inl ⟨.of r1, fun rt hrt => ?_⟩⟩
  walk_at "w"
  have k1 := KB.new (KB.refl [] H) hrt (o := .tup xs)
  refine w_fldV rfl (k1.get o) T.cl_SortReader T.na_pairs_read rfl ?_
  walk_at "w"
  refine ⟨ql, ys, rfl, .inl ⟨.of (k1.get p1), fun pt hpt => ?_⟩⟩
  walk_at "w"
  have k2 := k1.new hpt (o := .tup ys)
  refine ⟨rfl, rfl, fun a d ha hd' hn => ?_⟩
  have km : KB [] H (upd (upd (upd (upd H rt (.tup xs)) pt (.tup ys)) d (.own a)) a (.ins (He.ga K "Sort") d [])) := (k2.new hd').new (by rw [upd_ne (Ne.symm hn)]; exact ha)
  have im := km.im0
  have krt : upd (upd H rt (.tup xs)) pt (.tup ys) rt = some (.tup xs) := upd_get hpt upd_same
  have kk : KB [] (upd (upd H rt (.tup xs)) pt (.tup ys)) (upd (upd (upd (upd H rt (.tup xs)) pt (.tup ys)) d (.own a)) a (.ins (He.ga K "Sort") d [])) := (KB.new (KB.refl [] _) hd').new (by rw [upd_ne (Ne.symm hn)]; exact ha)
  refine ⟨a, d, pa, rt, pt, hd, xs, ys, S.rows, S.pairs, rfl, good_s G hh, upd_same, hpm.im im, kk.get krt, Paired.mono (fun _ _ z => z.im im) r2, kk.get upd_same, Paired.mono (fun _ _ z => z.im im) p2, fun H' k' e' => ⟨rfl, ?_⟩⟩
  have kf := mk_kb ha hd' k'
  have kf0 : KB [] H H' := k2.trans kf
  have imf := kf0.im0
  exact q a H' kf0 ⟨d, pa, rt, pt, xs, ys, e', hpm.im imf, kf.get krt, Paired.mono (fun _ _ z => z.im imf) r2, kf.get upd_same, Paired.mono (fun _ _ z => z.im imf) p2⟩
/-! ### read_sort -/
def sp_read_sort (K : PySem.W.Frag) : Sp := fun vs H Q E => ∃ v : V, vs = [v] ∧
  ((∃ z : Str, v = .str z ∧ z.length ≤ 8000000 ∧ (∀ r k, textIn z = .error (r, k) → RdErr K E H [] r k) ∧ (∀ S, textIn z = .ok S → ∀ hd, S.head = some hd → ∀ a H', KB [] H H' → SortO K H' a hd S.rows S.pairs → Q (.ref a) H')) ∨
    ∃ t, TyX K H v t ∧ PySem.W.kitOne K t (.type "str") = some false ∧ RdErr K E H [] 0 0)
theorem spl_len {S : List Nat} : ∀ (l : List Nat) (k : Nat) (acc : List Nat), ∀ z ∈ TL.spl S k acc l, z.length ≤ acc.length + l.length := by
  intro l
  induction l with
  | nil => intro k acc z hz; rw [TL.spl_nil] at hz; simp at hz; subst hz; simp
  | cons c r ih =>
    intro k acc z hz
    cases k with
    | zero =>
      cases h : TL.pre S (c :: r) with
      | true =>
        rw [TL.spl_hit h] at hz
        rcases List.mem_cons.mp hz with e | m
        · subst e; simp
        · have := ih _ _ z m; simp at this ⊢; omega
      | false =>
        rw [TL.spl_miss h] at hz
        have := ih _ _ z hz
        simp at this ⊢; omega
    | succ k =>
      rw [TL.spl_pass, List.drop_succ_cons, ← TL.spl_pass] at hz
      have := ih _ _ z hz
      simp at this ⊢; omega
theorem spl_count {S : List Nat} : ∀ (l : List Nat) (k : Nat) (acc : List Nat), (TL.spl S k acc l).length ≤ l.length + 1 := by
  intro l
  induction l with
  | nil => intro k acc; rw [TL.spl_nil]; simp
  | cons c r ih =>
    intro k acc
    cases k with
    | zero =>
      cases h : TL.pre S (c :: r) with
      | true =>
        rw [TL.spl_hit h]
        have := ih (S.length - 1) []
        simp at this ⊢; omega
      | false =>
        rw [TL.spl_miss h]
        have := ih 0 (acc ++ [c])
        simp at this ⊢; omega
    | succ k =>
      rw [TL.spl_pass, List.drop_succ_cons, ← TL.spl_pass]
      have := ih k acc
      simp at this ⊢; omega
theorem split_len {x y : Str} (hy : TL.tl y ≠ []) (hk : y.cps.all (· < 256) = true) : (∀ z ∈ Txt.split x y, z.length ≤ x.length) ∧ (Txt.split x y).length ≤ x.length + 1 := by
  have h := TL.split_spl x y hy (TL.kind_ok hk)
  refine ⟨fun z hz => ?_, ?_⟩
  · have m : TL.tl z ∈ TL.spl (TL.tl y) 0 [] (TL.tl x) := by rw [← h]; exact List.mem_map.mpr ⟨z, hz, rfl⟩
    have := spl_len _ _ _ _ m
    rw [TL.len_tl, TL.len_tl]
    simpa using this
  · have := spl_count (S := TL.tl y) (TL.tl x) 0 []
    rw [← h, List.length_map] at this
    rw [TL.len_tl x]
    exact this
theorem rd_read_sort (T : Tx w K mg) (h : sp_read_sort K vs H Q E) : t_read_sort K E (sp_BadText_init K) (sp_SortReader_init K) sp_words_of (sp_take_row K) (sp_Reader_init K) (sp_whole_sort K) { nx := fun _ H' => Q .non H', rt := Q } (start N_read_sort vs) H := by
  obtain ⟨v, rfl, h⟩ := h
  unfold t_read_sort
  walk_at "w"
  rcases h with ⟨z, rfl, hz, q0, q1⟩ | ⟨t, ty, ek, q0⟩
  · refine w_isi (.base (.str _)) (.ty _) T.is_StSt ?_
    walk_at "w"
    refine w_make ?_
    walk_at "w"
    intro s d hs hd hn
    refine ⟨s, d, rfl, upd_same, fun hl pl ql H1 k1 e1 e2 e3 O => ⟨rfl, ?_⟩⟩
    have kk := mk_kb hs hd k1
    walk_at "w"
    obtain ⟨sl1, sl2⟩ := split_len (x := z) (y := "\n") (by rw [sepN]; simp) k256_N
    refine w_iEnum ?_
    walk_at "w"
    refine w_split (by decide) (szb (by omega)) fun rl hrl => ?_
    walk_at "w"
    refine ⟨rl, _, rfl, .of upd_same, ?_⟩
    have k2 := kk.new hrl (o := .lst ((Txt.split z "\n").map V.str))
    have O2 := O.kb0 (KB.new (KB.refl [] H1) hrl (o := .lst ((Txt.split z "\n").map V.str)))
    -- the three lists are new
    have fr : ∀ {b}, upd (upd H d (.own s)) s (.ins (He.ga K "SortReader") d []) b = none → H b = none := fun {b} e => by
      cases q : H b with
      | none => rfl
      | some o =>
        rw [upd_ne (ne_of_none q hs), upd_ne (ne_of_none q hd), q] at e
        cases e
    have f1 := fr e1
    have f2 := fr e2
    have f3 := fr e3
    refine forG (walk_enum (xs := (Txt.split z "\n").map V.str)) (fun i σ2 H2 => ∃ (S : Acc) (u2 u3 u4 : Option V), σ2 = [some (.str z), some (.ref s), u2, u3, u4] ∧ KB [] H H2 ∧ H2 rl = some (.lst ((Txt.split z "\n").map V.str)) ∧ SrO K H2 s d hl pl ql S ∧ Good S ∧ Shape S ∧ rl ≠ hl ∧ rl ≠ pl ∧ rl ≠ ql ∧ readRows ((Txt.split z "\n").drop i) i S = textIn z ∧ (0 < i → S.head ≠ none))
      ⟨⟨none, [], []⟩, none, none, none, rfl, k2, upd_same, O2, good0, fun _ => ⟨rfl, rfl⟩, ?_, ?_, ?_, rfl, fun h => absurd h (by omega)⟩ (fun i σ2 H2 hi P => ?_) (fun i x σ2 H2 H3 hi P y => ?_) (fun σ2 H2 P => ?_)
    · intro e; obtain ⟨hv, h1, _⟩ := O.h; rw [e, h1] at hrl; cases hrl
    · intro e; obtain ⟨hv, h1, _⟩ := O.r; rw [e, h1] at hrl; cases hrl
    · intro e; obtain ⟨hv, h1, _⟩ := O.p; rw [e, h1] at hrl; cases hrl
    · obtain ⟨S, u2, u3, u4, rfl, k, hq, _⟩ := P; exact .of hq
    · obtain ⟨S, u2, u3, u4, rfl, k, hq, OS, G, Sh, n1, n2, n3, hres, hhd⟩ := P
      obtain ⟨t, x1, x2, rfl, ht, rfl, e1, e2⟩ := y
      have e1 : some (V.int (i : Nat)) = some x1 := e1
      have e2 : ((Txt.split z "\n").map V.str)[i]? = some x2 := e2
      rw [List.getElem?_map] at e2
      obtain ⟨r, hr, rfl⟩ := Option.map_eq_some_iff.mp e2
      cases e1
      have hi' : i < (Txt.split z "\n").length := by simpa using hi
      have er : (Txt.split z "\n")[i] = r := by rw [List.getElem?_eq_getElem hi'] at hr; exact Option.some.inj hr
      have rlen : r.length ≤ z.length := sl1 r (List.mem_of_getElem? hr)
      obtain ⟨M1, M2⟩ := split_len (x := r) (y := " ") (by rw [sep1]; simp) k256_1
      have hres' := hres
      rw [List.drop_eq_getElem_cons hi', er] at hres'
      unfold readRows at hres'
      refine w_gTup2 (.of upd_same) ?_
      have kt := KB.new (KB.refl [] H2) ht (o := .tup [.int (i : Nat), .str r])
      walk_at "w"
      refine ⟨r, rfl, by omega, fun hc H3 k3 => ?_, fun hc p H3 hp k3 e3 => ?_⟩
      · walk_at "w"
        rw [decide_eq_true rfl]
        walk_at "w"
        rw [if_pos hc] at hres'
        refine rz_ok ?_
        have := (q0 _ _ hres'.symm).at (k.trans (kt.trans k3)) (S' := []) (by simp)
        have ec : (((i + 1 : Nat) : Nat) : Int) = (i : Int) + 1 := by omega
        rw [ec] at this
        exact this
      · walk_at "w"
        rw [decide_eq_false (by simp)]
        rw [if_neg (by rw [hc]; simp)] at hres'
        walk_at "w"
        have k03 := k.trans (kt.trans k3)
        have O3 := OS.kb0 (kt.trans k3)
        refine w_methV rfl O3.o rfl ?_
        walk_at "w"
        refine w_makeK ?_
        walk_at "w"
        refine ⟨rfl, rfl, fun rd rdx hrd hrdx hne => ?_⟩
        refine ⟨rd, rdx, p, (i : Int) + 1, rfl, upd_same, rfl, ?_⟩
        rw [upd_upd]
        have km : KB [] H3 (upd (upd H3 rdx (.own rd)) rd (.ins (He.ga K "Reader") rdx (rdF p ((i : Int) + 1) 0))) := (KB.new (KB.refl [] _) hrdx).new (by rw [upd_ne (Ne.symm hne)]; exact hrd)
        have O4 := O3.kb0 km
        have k04 := k03.trans km
        have pk : KB [] (upd H2 t (.tup [.int (i : Nat), .str r])) H3 := k3
        have npx : ∀ (b : Addr) (xs : List V), upd H2 t (.tup [.int (i : Nat), .str r]) b = some (.lst xs) → p ≠ b := fun b xs e z => by rw [z, e] at hp; cases hp
        obtain ⟨hv, a1, _⟩ := (OS.kb0 kt).h
        obtain ⟨xs, a2, _⟩ := (OS.kb0 kt).r
        obtain ⟨ys, a3, _⟩ := (OS.kb0 kt).p
        walk_at "w"
        refine ⟨s, d, hl, pl, ql, rd, rdx, p, Txt.split r " ", (i : Int) + 1, S, rfl, ⟨upd_same, km.get e3, by omega⟩, fun z' hz' => by have := M1 z' hz'; omega, O4, G, npx _ _ a1, npx _ _ a2, npx _ _ a3, fun e he => ?_, fun S' hS' H5 k5 O5 => ?_⟩
        · rw [he] at hres'
          have := (q0 _ _ hres'.symm).at k04 (S' := [rd, hl, pl, ql]) (fun b hb => by
            simp only [List.mem_cons, List.not_mem_nil, or_false] at hb
            have nrd : H rd = none := k03.free hrd (by simp)
            rcases hb with rfl | rfl | rfl | rfl <;> exact .inr (by assumption))
          have ec : (((i + 1 : Nat) : Nat) : Int) = (i : Int) + 1 := by omega
          have ec2 : ((e + 1 : Nat) : Int) = (e : Int) + 1 := by omega
          rw [ec, ec2] at this
          exact this
        · walk_at "w"
          rw [hS'] at hres'
          dsimp only at hres'
          obtain ⟨G', Sh', hne', _⟩ := row_good hS' G Sh
          have nrd : H rd = none := k03.free hrd (by simp)
          have k05 : KB [] H H5 := ((k04.of (S := [rd, hl, pl, ql])).trans k5).drop fun b hb => by
            simp only [List.mem_cons, List.not_mem_nil, or_false] at hb
            rcases hb with rfl | rfl | rfl | rfl <;> exact .inr (by assumption)
          have hq3 : H3 rl = some (.lst ((Txt.split z "\n").map V.str)) := (kt.trans k3).get hq
          have nrl : rl ≠ rd := fun e => by rw [← e, hq3] at hrd; cases hrd
          exact ⟨S', _, _, _, rfl, k05, k5 _ _ (km.get hq3) (by simp [nrl, n1, n2, n3]), O5, G', Sh', n1, n2, n3, hres', fun _ => hne'⟩
    · obtain ⟨S, u2, u3, u4, rfl, k, hq, OS, G, Sh, n1, n2, n3, hres, hhd⟩ := P
      rw [List.length_map] at hres hhd
      rw [List.drop_of_length_le (Nat.le_refl _)] at hres
      have hpos : 0 < (Txt.split z "\n").length := List.length_pos_iff.mpr (split_ne z "\n" (by rw [sepN]; simp) k256_N)
      have hS : textIn z = .ok S := hres.symm
      obtain ⟨hd', hh⟩ := Option.ne_none_iff_exists'.mp (hhd hpos)
      walk_at "w"
      refine w_methV rfl OS.o rfl ?_
      walk_at "w"
      exact ⟨s, d, hl, pl, ql, S, hd', rfl, OS, G, hh, fun a H' k' hso => q1 S hS hd' hh a H' (k.trans k') hso⟩
  · refine w_isi ty (.ty _) ek ?_
    walk_at "w"
    exact rz_ok q0
end
end WK
set_option Elab.async false
set_option linter.all false
set_option maxRecDepth 100000
set_option maxHeartbeats 4000000
namespace WK
open PySem PySem.Spec PyProof.Rows L2
/-! ### the law's plain data -/
def OThO (H : Hp) (v : V) : OPm → Prop
  | none => v = .non
  | some p => ∃ t, v = .ref t ∧ H t = some (.tup (pmV p))
def PRowO (H : Hp) (v : V) (r : Row) : Prop := ∃ t v1 v2, v = .ref t ∧ H t = some (.tup [.str r.1, v1, v2]) ∧ OThO H v1 r.2.1 ∧ OThO H v2 r.2.2
def PlainO (H : Hp) (v : V) (hd : Str × Pm) (rows : List Row) (pairs : List Pair) : Prop := ∃ (t tp rt pt : Addr) (xs ys : List V), v = .ref t ∧ H t = some (.tup [.str hd.1, .ref tp, .ref rt, .ref pt]) ∧ H tp = some (.tup (pmV hd.2)) ∧
  H rt = some (.tup xs) ∧ Paired (PRowO H) xs rows ∧ H pt = some (.tup ys) ∧ Paired (PairO H) ys pairs
theorem OThO.im {H H' : Hp} {v : V} {o : OPm} (h : OThO H v o) (k : Im H H') : OThO H' v o := by
  cases o with
  | none => exact h
  | some p => obtain ⟨t, e, h⟩ := h; exact ⟨t, e, k _ _ h rfl⟩
theorem PRowO.im {H H' : Hp} {v : V} {r : Row} (h : PRowO H v r) (k : Im H H') : PRowO H' v r := by
  obtain ⟨t, v1, v2, e, h1, h2, h3⟩ := h
  exact ⟨t, v1, v2, e, k _ _ h1 rfl, h2.im k, h3.im k⟩
theorem PlainO.im {H H' : Hp} {v : V} {hd : Str × Pm} {rows : List Row} {pairs : List Pair} (h : PlainO H v hd rows pairs) (k : Im H H') : PlainO H' v hd rows pairs := by
  obtain ⟨t, tp, rt, pt, xs, ys, e, h1, h2, h3, h4, h5, h6⟩ := h
  exact ⟨t, tp, rt, pt, xs, ys, e, k _ _ h1 rfl, k _ _ h2 rfl, k _ _ h3 rfl, Paired.mono (fun _ _ z => z.im k) h4, k _ _ h5 rfl, Paired.mono (fun _ _ z => z.im k) h6⟩
theorem w_xfld {K : PySem.W.Frag} {σ : L2.St} {H : Hp} {Q : VK} {i : Nat} {a D dx : Addr} {fs : List (Str × V)} {v : V} {f : Str} (h : σ[i]? = some (some (.ref a))) (ha : H a = some (ExK (.ref D) (some dx) a)) (hd : H dx = some (.xd fs)) (C : XcC K D) (na : PySem.W.findIn K (.ref D) f = some none) (l : fs.lookup f = some v) (q : Q v H) :
    tXFld K (tVar i) f σ H Q := ⟨_, h, a, D, dx, fs, v, rfl, ha, hd, C, na, l, q⟩
/-- the signs that are not in L -/
theorem lc_not {σ : L2.St} {j : Nat} {L z : Str} {H : Hp} {Q : VK} {tL : TE} (hw : ∀ v : V, wipe ((wipe σ [j]).set j (some v)) [j] = wipe σ [j]) (hj : ∀ v : V, ((wipe σ [j]).set j (some v))[j]? = some (some v)) (hL : ∀ (v : V) (H' : Hp) (QA : VK), QA (.str L) H' → tL ((wipe σ [j]).set j (some v)) H' QA) (hz : z.length ≤ 16000000)
    (q : ∀ D H' ys, H D = none → KB [] H H' → H' D = some (.lst ys) → ys.isEmpty = (z.cps.toList.all fun c => decide (c ∈ L.cps.toList)) → Q (.ref D) H') :
    LcOk (Its z) (gName j) (tTest (tOp qNotInC (tVar j) tL)) (tVar j) [j] σ H Q := by
  refine lcG walk_str [] (fun i acc _ => acc = ((z.cps.toList.take i).filter fun c => !decide (c ∈ L.cps.toList)).map fun c => V.str ⟨#[c]⟩) (fun b hb => absurd hb (by simp)) (fun _ _ => trivial) (fun _ _ => rfl) (fun _ _ _ _ _ a => a) hz (fun i x H2 H3 acc D K1 K0 hi k e hD a y f1 f0 => ?_) (fun D acc H' hD k e hl a => ?_)
  · obtain ⟨rfl, c, hc, rfl⟩ := y
    refine ⟨hw _, ?_⟩
    refine w_test (w_op (w_var (hj _) (hL _ _ _ (w_notInC ⟨_, rfl, ?_⟩))))
    have hc' : z.cps.toList[i]? = some c := by rw [Array.getElem?_toList]; exact hc
    have es : z.cps.toList.take (i + 1) = z.cps.toList.take i ++ [c] := by rw [List.take_succ, hc']; rfl
    by_cases hm : c ∈ L.cps.toList
    · rw [decide_eq_true hm]
      refine w_nT (f0 _ (KB.refl _ _) ?_)
      rw [a, es, List.filter_append]
      simp only [List.filter_cons, decide_eq_true hm, List.filter_nil]
      simp
    · rw [decide_eq_false hm]
      refine w_nF (w_var (hj _) (f1 _ _ (KB.refl _ _) ?_))
      rw [a, es, List.filter_append]
      simp only [List.filter_cons, decide_eq_false hm, List.filter_nil]
      simp
  · refine q D H' acc hD k e ?_
    rw [a, List.take_of_length_le (by rw [Array.length_toList]; exact Nat.le_refl _)]
    rw [Bool.eq_iff_iff]
    simp only [List.isEmpty_iff, List.map_eq_nil_iff, List.filter_eq_nil_iff, Bool.not_eq_true', decide_eq_false_iff_not, List.all_eq_true, decide_eq_true_eq, Decidable.not_not]
def numIn (ws : List Str) (k : Nat) (hi : Int) : Option Int := match numOf (wAt ws k) with
  | none => none
  | some n => if n ≤ hi then some n else none
/-- steps that need no fact -/
local macro_rules | `(tactic| walk_at "w") => `(tactic| repeat (first
  | with_reducible refine w_seq ?_ | with_reducible refine w_asg ?_ | with_reducible refine w_ret ?_ | with_reducible refine w_drp ?_ | with_reducible refine w_next ?_ | with_reducible refine w_if ?_
  | ((with_reducible refine' w_var ?_ ?_); rotate_left; rfl) | with_reducible refine w_c ?_ | with_reducible refine w_op ?_ | with_reducible refine w_un ?_ | with_reducible refine w_test ?_ | with_reducible refine w_tB ?_ | with_reducible refine w_bl ?_
  | with_reducible refine w_and ?_ | with_reducible refine w_or ?_ | with_reducible refine w_not ?_ | with_reducible refine w_andV ?_ | with_reducible refine w_orV ?_ | with_reducible refine w_notV ?_ | with_reducible refine w_ebl ?_
  | with_reducible refine w_ifE ?_ | with_reducible refine w_nil ?_ | with_reducible refine w_cons ?_ | with_reducible refine w_cb ?_ | with_reducible refine w_call ?_ | with_reducible refine w_chain ?_ | with_reducible refine w_I0 ?_
  | with_reducible refine w_isN ?_ | with_reducible refine w_notN ?_ | with_reducible refine w_ltS ?_ | with_reducible refine w_leS ?_ | with_reducible refine w_m1 ?_ | with_reducible refine w_m1s ?_
  | with_reducible refine w_iT ?_ | with_reducible refine w_iF ?_ | with_reducible refine w_nT ?_ | with_reducible refine w_nF ?_ | with_reducible refine w_yes ?_ | with_reducible refine w_sfld ?_ | with_reducible refine w_lc ?_ | with_reducible refine w_for ?_ | with_reducible refine w_iStr ?_ | with_reducible refine w_iTup ?_ | with_reducible refine w_iList ?_ | with_reducible refine w_tup1 ?_ | with_reducible refine w_callN ?_ | with_reducible refine w_iZip ?_ | with_reducible refine w_sl ?_ | with_reducible refine w_part ?_ | with_reducible refine w_noPart ?_ | with_reducible refine w_eInt ?_ | with_reducible refine w_gN ?_ | with_reducible refine w_bm ?_ | with_reducible refine w_lst1 ?_ | ((with_reducible refine' w_aug ?_ ?_); rotate_left; rfl) | with_reducible refine w_ost ?_ | with_reducible refine w_rz ?_))

section
variable {K : PySem.W.Frag} {w : World} {mg : Str → Option Value} {vs : List V} {H : Hp} {Q : VK} {E : XK}
/-! ### _law_promise, _law_sort -/
def sp_l_promise (K : PySem.W.Frag) : Sp := fun vs H Q _ => ∃ (v : V) (o : OPm), vs = [v] ∧ OThO H v o ∧ okO o ∧ ∀ v' H', KB [] H H' → OPO K H' v' o → Q v' H'
theorem rd_l_promise (T : Tx w K mg) (h : sp_l_promise K vs H Q E) : t_l_promise K (sp_Promise_init K) { nx := fun _ H' => Q .non H', rt := Q } (start N_l_promise vs) H := by
  obtain ⟨v, o, rfl, ho, ok, q⟩ := h
  unfold t_l_promise
  walk_at "w"
  cases o with
  | none =>
    rw [show v = .non from ho, decide_eq_true rfl]
    walk_at "w"
    exact q .non H (KB.refl _ _) rfl
  | some p =>
    obtain ⟨t, rfl, ht⟩ := ho
    rw [decide_eq_false (by simp)]
    walk_at "w"
    refine w_makeK ?_
    walk_at "w"
    refine w_ixT (.of ht) (atI_nat (k := 0) rfl) ?_
    walk_at "w"
    refine w_ixT (.of ht) (atI_nat (k := 1) rfl) ?_
    walk_at "w"
    refine w_ixT (.of ht) (atI_nat (k := 2) rfl) ?_
    walk_at "w"
    refine ⟨rfl, rfl, fun x d hx hd hn => ?_⟩
    refine ⟨x, d, p, rfl, ok p rfl, upd_same, fun t' H' k' e1 e2 => ⟨rfl, ?_⟩⟩
    exact q (.ref x) H' (mk_kb hx hd k') ⟨x, rfl, d, t', e1, e2⟩
def sp_l_sort (K : PySem.W.Frag) : Sp := fun vs H Q _ => ∃ (v : V) (hd : Str × Pm) (rows : List Row) (pairs : List Pair), vs = [v] ∧ PlainO H v hd rows pairs ∧ GoodS hd rows pairs ∧ ∀ a H', KB [] H H' → SortO K H' a hd rows pairs → Q (.ref a) H'
theorem rd_l_sort (T : Tx w K mg) (h : sp_l_sort K vs H Q E) : t_l_sort K (sp_l_promise K) (sp_Sort_init K) { nx := fun _ H' => Q .non H', rt := Q } (start N_l_sort vs) H := by
  obtain ⟨v, hd, rows, pairs, rfl, ⟨t, tp, rt, pt, xs, ys, rfl, ht, htp, hrt, hxs, hpt, hys⟩, G, q⟩ := h
  have xl : xs.length = rows.length := hxs.length
  have rl := G.rl
  unfold t_l_sort
  walk_at "w"
  refine w_ixT (.of ht) (atI_nat (k := 2) rfl) ?_
  refine ⟨rt, rfl, ⟨_, .of hrt⟩, ?_⟩
  refine lcG (walk_tup (xs := xs)) [] (fun i acc H' => Paired (RowO K H') acc (rows.take i)) (fun b hb => absurd hb (by simp)) (fun H2 k => .of (k.get hrt)) (fun _ _ => .nil) (fun i acc H1 H2 im a => Paired.mono (fun _ _ z => z.im im) a) (by omega) (fun i x H2 H3 acc D K1 K0 hi k e hD a y f1 f0 => ?_) (fun D acc H1 hD k1 e1 hl a => ?_)
  · obtain ⟨rfl, ex⟩ := y
    obtain ⟨r, er, u, v1, v2, rfl, hu, hv1, hv2⟩ := pget hxs ex
    obtain ⟨n1, n2, n3⟩ := G.rn r (List.mem_of_getElem? er)
    refine w_gTup3 (.of (k.get hu)) ⟨rfl, w_yes (w_iT ?_)⟩
    refine w_tup1 (w_cons (w_var rfl ?_))
    refine w_cons (w_call (w_cons (w_var rfl (w_nil ⟨v1, _, rfl, hv1.im k.im0, n2, fun u1 H4 k4 o1 => ?_⟩))))
    refine w_cons (w_call (w_cons (w_var rfl (w_nil ⟨v2, _, rfl, hv2.im (k.trans k4).im0, n3, fun u2 H5 k5 o2 => ?_⟩))))
    refine w_nil ⟨szb (by show 3 ≤ _; omega), fun c hc => ?_⟩
    have kc := KB.new (KB.refl [] H5) hc (o := .tup [.str r.1, u1, u2])
    have kall : KB [] H3 (upd H5 c (.tup [.str r.1, u1, u2])) := (k4.trans k5).trans kc
    refine f1 _ _ kall ?_
    rw [List.take_succ, er]
    exact paired_snoc (Paired.mono (fun _ _ z => z.im kall.im0) a) ⟨c, u1, u2, rfl, upd_same, o1.im (k5.trans kc).im0, o2.im kc.im0⟩
  · have a : Paired (RowO K H1) acc rows := by rw [List.take_of_length_le (by omega)] at a; exact a
    walk_at "w"
    refine w_makeK ?_
    walk_at "w"
    refine w_ixT (.of (k1.get ht)) (atI_nat (k := 0) rfl) ?_
    walk_at "w"
    refine w_ixT (.of (k1.get ht)) (atI_nat (k := 1) rfl) ?_
    walk_at "w"
    refine ⟨.ref tp, some hd.2, rfl, ⟨tp, rfl, k1.get htp⟩, fun p e => by cases e; exact G.hp, fun pv H2 k2 op => ?_⟩
    obtain ⟨pa, rfl, hpm⟩ := op
    walk_at "w"
    refine ⟨D, acc, rfl, .inl ⟨.of (k2.get e1), fun rt2 hrt2 => ?_⟩⟩
    walk_at "w"
    have k3 := (k1.trans k2).new hrt2 (o := .tup acc)
    refine w_ixT (.of (k3.get ht)) (atI_nat (k := 3) rfl) ?_
    walk_at "w"
    have kr := KB.new (KB.refl [] H2) hrt2 (o := .tup acc)
    refine ⟨rfl, rfl, fun x d hx hd' hn => ?_⟩
    have kk : KB [] (upd H2 rt2 (.tup acc)) (upd (upd (upd H2 rt2 (.tup acc)) d (.own x)) x (.ins (He.ga K "Sort") d [])) := (KB.new (KB.refl [] _) hd').new (by rw [upd_ne (Ne.symm hn)]; exact hx)
    have im2 := (kr.trans kk).im0
    have imA := (k2.trans (kr.trans kk)).im0
    have km := (k3.trans kk).im0
    refine ⟨x, d, pa, rt2, pt, hd, acc, ys, rows, pairs, rfl, G, upd_same, hpm.im im2, kk.get upd_same, Paired.mono (fun _ _ z => z.im imA) a, km.tup hpt, Paired.mono (fun _ _ z => z.im km) hys, fun H' k' e' => ⟨rfl, ?_⟩⟩
    have kf := mk_kb hx hd' k'
    have kf0 := k3.trans kf
    exact q x H' kf0 ⟨d, pa, rt2, pt, acc, ys, e', hpm.im (kr.trans kf).im0, kf.get upd_same, Paired.mono (fun _ _ z => z.im (k2.trans (kr.trans kf)).im0) a, kf0.im0.tup hpt, Paired.mono (fun _ _ z => z.im kf0.im0) hys⟩
/-! ### _law_class -/
def sp_l_class (K : PySem.W.Frag) : Sp := fun vs H Q _ => ∃ (e d : Addr) (row word : Int), vs = [.ref e] ∧ H e = some (ExK (.ref (He.ga K "BadText")) (some d) e) ∧ H d = some (.xd (errF row word)) ∧ ∀ t H', KB [] H H' → H' t = some (.tup [.str "text", .int row, .int word]) → Q (.ref t) H'
theorem rd_l_class (X : TxE K) (h : sp_l_class K vs H Q E) : t_l_class K { nx := fun _ H' => Q .non H', rt := Q } (start N_l_class vs) H := by
  obtain ⟨e, d, row, word, rfl, he, hd, q⟩ := h
  unfold t_l_class
  walk_at "w"
  refine ⟨e, _, d, _, _, _, true, rfl, he, hd, X.xc, .own _, X.is_BT, ?_⟩
  walk_at "w"
  refine ⟨e, _, d, _, _, _, true, rfl, he, hd, X.xc, .own _, X.is_BV, ?_⟩
  walk_at "w"
  refine w_xfld rfl he hd X.xc X.na_what rfl ?_
  walk_at "w"
  refine w_eq rfl ?_
  walk_at "w"
  rw [decide_eq_true rfl]
  walk_at "w"
  refine w_xfld rfl he hd X.xc X.na_row rfl ?_
  walk_at "w"
  refine w_xfld rfl he hd X.xc X.na_word rfl ?_
  walk_at "w"
  exact ⟨szb (by show 3 ≤ _; omega), fun t ht => q t _ (KB.new (KB.refl _ _) ht) upd_same⟩
/-! ### _law_is_name, _law_number_in -/
theorem rd_l_is_name (T : Tx w K mg) (h : sp_is_name vs H Q E) : t_l_is_name K { nx := fun _ H' => Q .non H', rt := Q } (start N_l_is_name vs) H := by
  obtain ⟨z, rfl, hz, q⟩ := h
  unfold t_l_is_name
  walk_at "w"
  refine ⟨szb (by show 11 ≤ _; omega), fun b hb => ?_⟩
  walk_at "w"
  have kb := KB.new (KB.refl [] H) hb (o := .lst (barredL.map V.str))
  refine w_isi (.base (.str _)) (.ty _) T.is_StSt ?_
  walk_at "w"
  refine w_lenS (szl hz) ?_
  walk_at "w"
  have q0 := q _ kb
  refine w_ite (fun h1 => ?_) (fun h1 => ?_)
  · walk_at "w"
    refine w_ite (fun h2 => ?_) (fun h2 => ?_)
    · walk_at "w"
      simp only [Bool.not_eq_true'] at h2
      have e : isName z = false := by unfold isName; rw [h1, h2]; rfl
      rw [e] at q0; exact q0
    · simp only [Bool.not_eq_false'] at h2
      walk_at "w"
      refine w_inL (.of upd_same) rfl rfl ?_
      walk_at "w"
      refine w_ite (fun h3 => ?_) (fun h3 => ?_)
      · rw [if_neg Bool.false_ne_true] at h3
        have h3 : inV (.str z) (barredL.map V.str) = true := h3
        walk_at "w"
        have e : isName z = false := by unfold isName; rw [h1, h2, h3]; rfl
        rw [e] at q0; exact q0
      · rw [if_neg Bool.false_ne_true] at h3
        have h3 : inV (.str z) (barredL.map V.str) = false := h3
        walk_at "w"
        refine ⟨z, rfl, ?_⟩
        refine lc_not (L := "abcdefghijklmnopqrstuvwxyz") (fun _ => rfl) (fun _ => rfl) (fun _ _ _ qa => w_var rfl qa) hz fun D H' ys hD k e hy => ?_
        walk_at "w"
        refine ⟨szb (by show 0 ≤ _; omega), fun c hc => ?_⟩
        have kc := KB.new (KB.refl [] H') hc (o := .lst [])
        refine ⟨D, c, ys, rfl, rfl, .of (kc.get e), .of upd_same, ?_⟩
        have q1 := q _ ((kb.trans k).trans kc)
        have el : ys.isEmpty = isName z := by
          rw [hy]
          unfold isName
          rw [h1, h2, h3]
          rfl
        rw [el]
        exact q1
  · walk_at "w"
    have e : isName z = false := by unfold isName; rw [h1]; rfl
    rw [e] at q0; exact q0
def sp_l_number_in : Sp := fun vs H Q _ => ∃ (l : Addr) (ws : List Str) (k : Nat) (hi : Int), vs = [.ref l, .int k, .int hi] ∧ H l = some (.lst (ws.map V.str)) ∧ (∀ z ∈ ws, z.length ≤ 16000000) ∧ ∀ H', KB [] H H' → Q (oV (numIn ws k hi)) H'
/-- ws[k] if k < len(ws) else '' -/
theorem w_wAt {σ : L2.St} {H : Hp} {Q : VK} {ti : TE} {l : Addr} {ws : List Str} {k : Nat} {i : Nat} (hl : σ[i]? = some (some (.ref l))) (hti : ∀ QA : VK, QA (.int (k : Nat)) H → ti σ H QA) (hw : H l = some (.lst (ws.map V.str))) (q : Q (.str (wAt ws k)) H) :
    tIf (tTest (tOp qLt ti (tCB (qLenL K) (tCons (tVar i) tNil)))) (tOp (rIxL K) (tVar i) ti) (tC (.str "")) σ H Q := by
  refine w_ifE (w_test (w_op (hti _ (w_cb (w_cons (w_var hl (w_nil (w_lenL (.of hw) (w_I0 ⟨_, rfl, ?_⟩)))))))))
  rw [List.length_map]
  by_cases h : k < ws.length
  · rw [decide_eq_true (by omega)]
    exact w_iT (w_op (w_var hl (hti _ (w_ixL (.of hw) (atI_nat (at_get h)) q))))
  · rw [decide_eq_false (by omega)]
    refine w_iF (w_c ?_)
    rw [at_none (by omega)] at q
    exact q
theorem rd_l_number_in (T : Tx w K mg) (h : sp_l_number_in vs H Q E) : t_l_number_in K { nx := fun _ H' => Q .non H', rt := Q } (start N_l_number_in vs) H := by
  obtain ⟨l, ws, k, hi, rfl, hw, hz, q⟩ := h
  unfold t_l_number_in
  refine w_seq (w_asg (w_wAt (l := l) (ws := ws) (k := k) rfl (fun QA qa => w_var rfl qa) hw ?_))
  have hz := at_len hz k
  unfold numIn at q
  revert q hz
  generalize wAt ws k = z
  intro q hz
  have no : ∀ H', KB [] H H' → isNum z = false → Q .non H' := fun H' k e => by
    have := q H' k
    unfold numOf at this
    rw [e, if_neg Bool.false_ne_true] at this
    exact this
  walk_at "w"
  refine w_lenS (szl hz) ?_
  walk_at "w"
  refine w_ite (fun h1 => ?_) (fun h1 => ?_)
  · walk_at "w"
    refine w_ite (fun h2 => ?_) (fun h2 => ?_)
    · simp only [Bool.not_eq_true'] at h2
      walk_at "w"
      exact no _ (KB.refl _ _) (by unfold isNum; rw [h1, h2]; rfl)
    · simp only [Bool.not_eq_false'] at h2
      walk_at "w"
      refine ⟨z, rfl, ?_⟩
      refine lc_not (L := "0123456789") (fun _ => rfl) (fun _ => rfl) (fun _ _ _ qa => w_c qa) hz fun D H1 ys hD k1 e1 hy => ?_
      walk_at "w"
      refine ⟨szb (by show 0 ≤ _; omega), fun c hc => ?_⟩
      have kc := KB.new (KB.refl [] H1) hc (o := .lst [])
      refine ⟨D, c, ys, rfl, rfl, .of (kc.get e1), .of upd_same, ?_⟩
      have hy : ys.isEmpty = (z.cps.toList.all fun c => decide (c ∈ figuresS.cps.toList)) := hy
      rw [hy]
      have kk := k1.trans kc
      walk_at "w"
      refine w_ite (fun h3 => ?_) (fun h3 => ?_)
      · simp only [Bool.not_eq_true'] at h3
        walk_at "w"
        exact no _ kk (by unfold isNum; rw [h1, h2, h3]; rfl)
      · simp only [Bool.not_eq_false'] at h3
        walk_at "w"
        have l1 : 1 ≤ z.length := by have := of_decide_eq_true h1; omega
        have l7 : z.length ≤ 640 := by have := of_decide_eq_true h2; omega
        obtain ⟨d, hd⟩ : ∃ d, z.cps.toList[0]? = some d := by
          have : 0 < z.cps.toList.length := by rw [Array.length_toList]; exact l1
          exact ⟨_, List.getElem?_eq_getElem this⟩
        refine w_ixS (szl hz) (atI_nat hd) ?_
        walk_at "w"
        refine w_ne rfl ?_
        walk_at "w"
        rw [str1]
        have yes : isNum z = true → (tIf (tTest (tOp qLe (tCB qIntS (tCons (tVar 3) tNil)) (tVar 2))) (tCB qIntS (tCons (tVar 3) tNil)) (tC .non)) [some (.ref l), some (.int k), some (.int hi), some (.str z), none] (upd H1 c (.lst [])) Q := fun hn => by
          have := q _ kk
          unfold numOf at this
          rw [if_pos hn] at this
          refine w_ifE (w_test (w_op (w_cb (w_cons (w_var rfl (w_nil (w_intS (num_text hn) l7 (w_var rfl (w_I0 ⟨_, rfl, ?_⟩)))))))))
          dsimp only at this
          by_cases hle : ((NumText.digitsVal z.cps.toList : Nat) : Int) ≤ hi
          · rw [decide_eq_true hle]
            rw [if_pos hle] at this
            exact w_iT (w_cb (w_cons (w_var rfl (w_nil (w_intS (num_text hn) l7 this)))))
          · rw [decide_eq_false hle]
            rw [if_neg hle] at this
            exact w_iF (w_c this)
        by_cases h4 : d = 48
        · rw [decide_eq_true h4]
          refine w_nT ?_
          walk_at "w"
          refine w_eq rfl ?_
          walk_at "w"
          rw [dec_str]
          by_cases h5 : z = "0"
          · rw [decide_eq_true h5]
            refine w_iT ?_
            have hn : isNum z = true := by unfold isNum; rw [h1, h2, h3, hd, decide_eq_true h5]; simp
            have := yes hn
            unfold tIf at this
            exact this
          · rw [decide_eq_false h5]
            refine w_iF ?_
            walk_at "w"
            exact no _ kk (by unfold isNum; rw [h1, h2, h3, hd, h4, decide_eq_false h5]; rfl)
        · rw [decide_eq_false h4]
          refine w_nF ?_
          have hn : isNum z = true := by
            unfold isNum
            rw [h1, h2, h3, hd]
            have : (some d == some 48) = false := beq_eq_false_iff_ne.mpr (fun e => h4 (by injection e))
            rw [this]; rfl
          have := yes hn
          unfold tIf at this
          exact w_iT this
  · walk_at "w"
    exact no _ (KB.refl _ _) (by unfold isNum; rw [h1]; rfl)
end
end WK
set_option Elab.async false
set_option linter.all false
set_option maxRecDepth 100000
set_option maxHeartbeats 4000000
namespace WK
open PySem PySem.Spec PyProof.Rows L2
theorem cut1 (ws : List Str) (k : Nat) : cutV (ws.map V.str) (some (k : Int)) (some ((k : Int) + 1)) = ((ws.drop k).take 1).map V.str := by
  have e1 : ∀ d, HT.sIx (ws.map V.str).length d (some (k : Int)) = min k (ws.map V.str).length := fun d => HT.sIx_nat _ _ k
  have e2 : ∀ d, HT.sIx (ws.map V.str).length d (some ((k : Int) + 1)) = min (k + 1) (ws.map V.str).length := fun d => by
    have := HT.sIx_nat (ws.map V.str).length d (k + 1)
    rw [← this]; rfl
  unfold cutV
  rw [e1, e2, List.length_map]
  by_cases h : k < ws.length
  · have a : min k ws.length = k := by omega
    have b : min (k + 1) ws.length - k = 1 := by omega
    rw [a, b, ← List.map_drop, ← List.map_take]
  · have a : min k ws.length = ws.length := by omega
    have b : min (k + 1) ws.length - ws.length = 0 := by omega
    rw [a, b, List.drop_of_length_le (l := ws) (by omega)]
    simp
theorem take1_eq {ws : List Str} {k : Nat} {z : Str} (hz : z ≠ "") : decide ((ws.drop k).take 1 = [z]) = decide (wAt ws k = z) := by
  by_cases h : k < ws.length
  · rw [drop_at h, List.take_succ_cons, List.take_zero]
    by_cases e : wAt ws k = z
    · rw [e, decide_eq_true rfl, decide_eq_true rfl]
    · rw [decide_eq_false e, decide_eq_false (fun q => e (by injection q))]
  · rw [List.drop_of_length_le (by omega), at_none (by omega), decide_eq_false (by simp), decide_eq_false (Ne.symm hz)]
theorem digits_lt : ∀ (n : Nat) (l : List Nat), l.length = n → NumText.AllDigits l → NumText.digitsVal l < 10 ^ l.length := by
  intro n
  induction n with
  | zero =>
    intro l hl _
    have : l = [] := List.eq_nil_of_length_eq_zero hl
    subst this; decide
  | succ n ih =>
    intro l hl h
    rcases List.eq_nil_or_concat l with e | ⟨m, d, e⟩
    · subst e; cases hl
    · have e : l = m ++ [d] := by simpa using e
      subst e
      have hd := h d (by simp)
      have ih := ih m (by simpa using hl) (fun c hc => h c (by simp [hc]))
      have val : NumText.digitsVal (m ++ [d]) = NumText.digitsVal m * 10 + (d - 48) := by
        unfold NumText.digitsVal
        rw [List.foldl_append]; rfl
      rw [val, List.length_append, List.length_singleton, Nat.pow_succ]
      omega
theorem numOf_lt {z : Str} {n : Int} (h : numOf z = some n) : n < 10000000 := by
  unfold numOf at h
  by_cases hn : isNum z = true
  · rw [if_pos hn] at h
    cases h
    obtain ⟨h1, _, h3, _⟩ := isNum_digits hn
    have := digits_lt _ _ rfl h1
    have hl : z.cps.toList.length ≤ 7 := by rw [Array.length_toList]; exact h3
    have h2 : 10 ^ z.cps.toList.length ≤ 10 ^ 7 := Nat.pow_le_pow_right (by decide) hl
    have h4 : (10 : Nat) ^ 7 = 10000000 := by decide
    omega
  · rw [if_neg hn] at h; cases h
theorem numIn7 (ws : List Str) (k : Nat) : numIn ws k 10000000 = numOf (wAt ws k) := by
  unfold numIn
  cases h : numOf (wAt ws k) with
  | none => rfl
  | some n =>
    have := numOf_lt h
    dsimp only
    rw [if_pos (by omega)]
theorem may_names {place : Nat} {n : Int} (hp : place ≤ 2) (hn : n ≤ 1000000) : boundsL.drop (place + if place = 0 ∧ 9999 < n then 1 else 0) = namesF place n := by
  have md : mostOf "days" = 9999 := by decide
  have mm : mostOf "miles" = 1000000 := by decide
  have mt : mostOf "turns" = 1000000 := by decide
  match place, hp with
  | 0, _ =>
    unfold namesF
    show _ = List.filter _ (["days", "miles", "turns"] : List Str)
    simp only [List.filter_cons, md, mm, mt, decide_eq_true hn, if_true, List.filter_nil]
    by_cases h : n ≤ 9999
    · rw [if_neg (by rintro ⟨_, z⟩; omega), decide_eq_true h]; rfl
    · rw [if_pos (by constructor <;> first | trivial | omega), decide_eq_false h]; rfl
  | 1, _ =>
    unfold namesF
    show _ = List.filter _ (["miles", "turns"] : List Str)
    simp only [List.filter_cons, mm, mt, decide_eq_true hn, if_true, List.filter_nil]
    rfl
  | 2, _ =>
    unfold namesF
    show _ = List.filter _ (["turns"] : List Str)
    simp only [List.filter_cons, mt, decide_eq_true hn, if_true, List.filter_nil]
    rfl
theorem set_pmV {L : Pm} {j : Nat} {n : Int} (h : j < 3) : (pmV L).set j (.int n) = pmV (setPm L j n) := by
  match j, h with
  | 0, _ => rfl
  | 1, _ => rfl
  | 2, _ => rfl
theorem cutD {xs : List V} {k : Nat} (h : k ≤ xs.length) : cutV xs (some (k : Int)) none = xs.drop k := by
  have e1 : HT.sIx xs.length 0 (some (k : Int)) = min k xs.length := HT.sIx_nat _ _ k
  have e2 : HT.sIx xs.length xs.length none = xs.length := rfl
  unfold cutV
  rw [e1, e2, Nat.min_eq_left h]
  exact List.take_of_length_le (by rw [List.length_drop]; exact Nat.le_refl _)
theorem w_slL {K : PySem.W.Frag} {H : Hp} {Q : VK} {a : Addr} {xs : List V} {lo hi : Option Int} (h : SqL K H a xs) (q : ∀ p, H p = none → Q (.ref p) (upd H p (.lst (cutV xs lo hi)))) : rSlL K (.ref a) lo hi H Q := ⟨a, xs, rfl, h, q⟩
theorem w_tupL {K : PySem.W.Frag} {H : Hp} {Q : VK} {a : Addr} {xs : List V} (h : SqL K H a xs) (q : ∀ l, H l = none → Q (.ref l) (upd H l (.tup xs))) : qTupOf K [.ref a] H Q := ⟨a, xs, rfl, .inl ⟨h, q⟩⟩
theorem w_gSub {to ti : TE} {t : TSet} {v : V} {σ : L2.St} {H : Hp} {R : L2.St → Hp → Prop} (q : to σ H fun o H1 => ti σ H1 fun i H2 => t o i v H2 fun H3 => R σ H3) : gSub to ti t v σ H R := q
theorem w_setL {l : Addr} {xs : List V} {k : Int} {j : Nat} {v : V} {H : Hp} {R : Hp → Prop} (h : H l = some (.lst xs)) (hj : ixN xs.length k = some j) (q : R (upd H l (.lst (xs.set j v)))) : rSetL (.ref l) (.int k) v H R := ⟨l, xs, k, j, rfl, rfl, h, hj, q⟩
theorem ixN_nat {n k : Nat} (h : k < n) : ixN n (k : Int) = some k := by
  unfold ixN
  rw [if_pos (by omega), if_pos (by omega)]
  rfl
theorem w_intB {b : Bool} {H : Hp} {Q : VK} (q : Q (.int (if b then 1 else 0)) H) : qIntB [.bl b] H Q := ⟨b, rfl, q⟩
/-- where the law's own loop stands -/
def LpI (H : Hp) (l fl : Addr) (ws : List Str) (R : Except Nat (Pm × Nat)) (m : Nat) (σ2 : L2.St) (H2 : Hp) : Prop := ∃ (place : Nat) (L : Pm) (k2 : Nat) (u4 u5 u6 : Option V), 4 ≤ place + m ∧ place ≤ 3 ∧
  σ2 = [some (.ref l), some (.int k2), some (.ref fl), some (.int place), u4, u5, u6] ∧ KB [] H H2 ∧ H2 fl = some (.lst (pmV L)) ∧ promL m place L ws k2 = R
def sp_l_promise_in : Sp := fun vs H Q _ => ∃ (l : Addr) (ws : List Str) (k : Nat), vs = [.ref l, .int k] ∧ H l = some (.lst (ws.map V.str)) ∧ (∀ z ∈ ws, z.length ≤ 16000000) ∧
  (∀ e, prom ws k = .error e → ∀ t H', KB [] H H' → H' t = some (.tup [.non, .int e]) → Q (.ref t) H') ∧
  (∀ pm k', prom ws k = .ok (pm, k') → ∀ t tp H', KB [] H H' → H' t = some (.tup [.ref tp, .int k']) → H' tp = some (.tup (pmV pm)) → Q (.ref t) H')
abbrev lpRet (K : PySem.W.Frag) : TS := tRet (tTup (tCons (tCB (qTupOf K) (tCons (tVar 2) tNil)) (tCons (tVar 1) tNil)))
abbrev lpBody (K : PySem.W.Frag) : TS := (tSeq (tAsg (tCall sp_l_number_in [] E0 (tCons (tVar 0) (tCons (tVar 1) (tCons (tOp qPow (tC (.int 10)) (tC (.int 6))) tNil)))) (gName 4))
    (tSeq (tIfS (tTest (tOp qIsN (tVar 4) (tC .non))) (tRet (tTup (tCons (tC .non) (tCons (tVar 1) tNil)))) tNext)
    (tSeq (tAsg (tIf (tTest (tOp qLt (tOp qAdd (tVar 1) (tC (.int 1))) (tCB (qLenL K) (tCons (tVar 0) tNil)))) (tOp (rIxL K) (tVar 0) (tOp qAdd (tVar 1) (tC (.int 1)))) (tC (.str ""))) (gName 5))
    (tSeq (tAsg (tSl (rSlL K) (tLst (tCons (tC (.str "days")) (tCons (tC (.str "miles")) (tCons (tC (.str "turns")) tNil)))) (tPart (tOp qAdd (tVar 3) (tCB qIntB (tCons (tAndV (tOp rEq (tVar 3) (tC (.int 0))) (tOp qGt (tVar 4) (tC (.int 9999)))) tNil)))) tNoPart) (gName 6))
    (tSeq (tIfS (tTest (tOp (rIn K true) (tVar 5) (tVar 6))) (tRet (tTup (tCons (tC .non) (tCons (tOp qAdd (tVar 1) (tC (.int 1))) tNil)))) tNext)
    (tSeq (tAsg (tOp qAdd (tBM K "list" (rIndex K) (tLst (tCons (tC (.str "days")) (tCons (tC (.str "miles")) (tCons (tC (.str "turns")) tNil)))) (tCons (tVar 5) tNil)) (tC (.int 1))) (gName 3))
    (tSeq (tAsg (tVar 4) (gSub (tVar 2) (tOp qSub (tVar 3) (tC (.int 1))) rSetL))
    (tAsg (tOp qAdd (tVar 1) (tC (.int 2))) (gName 1)))))))))
abbrev lpD (K : PySem.W.Frag) (Q : VK) (N : L2.St → Hp → Prop) : Ends := { nx := N, rt := Q, ct := N, bk := lpRet K { nx := fun _ H' => Q .non H', rt := Q } }
theorem cpow6 : CPow 10 6 := ⟨by decide, by decide, by decide⟩
theorem cpow7 : CPow 10 7 := ⟨by decide, by decide, by decide⟩
theorem dec_nat0 (n : Nat) : decide (V.int (n : Int) = V.int 0) = decide (n = 0) := by
  by_cases h : n = 0
  · rw [decide_eq_true h]
    exact decide_eq_true (by rw [h]; rfl)
  · rw [decide_eq_false h, decide_eq_false (fun e => h (by injection e with e; omega))]
/-- steps that need no fact -/
local macro_rules | `(tactic| walk_at "w") => `(tactic| repeat (first
  | with_reducible refine w_seq ?_ | with_reducible refine w_asg ?_ | with_reducible refine w_ret ?_ | with_reducible refine w_drp ?_ | with_reducible refine w_next ?_ | with_reducible refine w_if ?_
  | ((with_reducible refine' w_var ?_ ?_); rotate_left; rfl) | with_reducible refine w_c ?_ | with_reducible refine w_op ?_ | with_reducible refine w_un ?_ | with_reducible refine w_test ?_ | with_reducible refine w_tB ?_ | with_reducible refine w_bl ?_
  | with_reducible refine w_and ?_ | with_reducible refine w_or ?_ | with_reducible refine w_not ?_ | with_reducible refine w_andV ?_ | with_reducible refine w_orV ?_ | with_reducible refine w_notV ?_ | with_reducible refine w_ebl ?_
  | with_reducible refine w_ifE ?_ | with_reducible refine w_nil ?_ | with_reducible refine w_cons ?_ | with_reducible refine w_cb ?_ | with_reducible refine w_call ?_ | with_reducible refine w_chain ?_ | with_reducible refine w_I0 ?_
  | with_reducible refine w_isN ?_ | with_reducible refine w_notN ?_ | with_reducible refine w_ltS ?_ | with_reducible refine w_leS ?_ | with_reducible refine w_m1 ?_ | with_reducible refine w_m1s ?_
  | with_reducible refine w_iT ?_ | with_reducible refine w_iF ?_ | with_reducible refine w_nT ?_ | with_reducible refine w_nF ?_ | with_reducible refine w_yes ?_ | with_reducible refine w_sfld ?_ | with_reducible refine w_lc ?_ | with_reducible refine w_for ?_ | with_reducible refine w_iStr ?_ | with_reducible refine w_iTup ?_ | with_reducible refine w_iList ?_ | with_reducible refine w_tup1 ?_ | with_reducible refine w_callN ?_ | with_reducible refine w_iZip ?_ | with_reducible refine w_sl ?_ | with_reducible refine w_part ?_ | with_reducible refine w_noPart ?_ | with_reducible refine w_eInt ?_ | with_reducible refine w_gN ?_ | with_reducible refine w_bm ?_ | with_reducible refine w_lst1 ?_ | ((with_reducible refine' w_aug ?_ ?_); rotate_left; rfl) | with_reducible refine w_ost ?_ | with_reducible refine w_rz ?_ | with_reducible refine w_gSub ?_ | with_reducible refine w_intB ?_))

section
variable {K : PySem.W.Frag} {w : World} {mg : Str → Option Value} {vs : List V} {H : Hp} {Q : VK} {E : XK}
theorem rd_l_promise_in (h : sp_l_promise_in vs H Q E) : t_l_promise_in K sp_l_number_in { nx := fun _ H' => Q .non H', rt := Q } (start N_l_promise_in vs) H := by
  obtain ⟨l, ws, k, rfl, hw, hz, q0, q1⟩ := h
  unfold t_l_promise_in
  walk_at "w"
  refine w_slL (.of hw) fun p hp => ?_
  walk_at "w"
  refine ⟨szb (by show 1 ≤ _; omega), fun b hb => ?_⟩
  have k1 := KB.new (KB.refl [] H) hp (o := .lst (cutV (ws.map V.str) (some (k : Int)) (some ((k : Int) + 1))))
  have k2 := k1.new hb (o := .lst [.str "endless"])
  have e1 : upd (upd H p (.lst (cutV (ws.map V.str) (some (k : Int)) (some ((k : Int) + 1))))) b (.lst [.str "endless"]) p = some (.lst (((ws.drop k).take 1).map V.str)) := by
    rw [← cut1]
    exact upd_get hb upd_same
  refine ⟨p, b, (ws.drop k).take 1, ["endless"], rfl, rfl, .of e1, .of upd_same, ?_⟩
  rw [take1_eq (by decide)]
  walk_at "w"
  by_cases hend : wAt ws k = "endless"
  · rw [decide_eq_true hend]
    have hpm : prom ws k = .ok (noPm, k + 1) := by unfold prom; rw [if_pos hend]
    walk_at "w"
    refine ⟨szb (by show 3 ≤ _; omega), fun tp htp => ?_⟩
    walk_at "w"
    refine ⟨szb (by show 2 ≤ _; omega), fun t ht => ?_⟩
    have k3 := (k2.new htp (o := .tup [.non, .non, .non])).new ht (o := .tup [.ref tp, .int ((k : Int) + 1)])
    exact q1 _ _ hpm t tp _ k3 upd_same (upd_get ht upd_same)
  · rw [decide_eq_false hend]
    have hpm : prom ws k = promL 4 0 noPm ws k := by unfold prom; rw [if_neg hend]
    obtain ⟨RR, hRR⟩ : ∃ RR, promL 4 0 noPm ws k = RR := ⟨_, rfl⟩
    rw [hRR] at hpm
    walk_at "w"
    refine ⟨szb (by show 3 ≤ _; omega), fun fl hfl => ?_⟩
    walk_at "w"
    refine ⟨_, _, rfl, ?_⟩
    walk_at "w"
    have k3 := k2.new hfl (o := .lst (pmV noPm))
    have hfl0 : H fl = none := k2.free hfl (by simp)
    refine ⟨LpI H l fl ws RR, ⟨4, 0, noPm, k, none, none, none, by omega, by omega, rfl, k3, upd_same, hRR⟩, ?_⟩
    rintro m σ2 H2 ⟨place, L, k2, u4, u5, u6, hm, hp3, rfl, kH, hf, hpr⟩
    obtain ⟨f, rfl⟩ : ∃ f, m = f + 1 := ⟨m - 1, by omega⟩
    have hw2 := kH.get hw
    have exit : ∀ H3, KB [] H2 H3 → place ≠ 0 → (3 ≤ place ∨ numOf (wAt ws k2) = none) → lpRet K { nx := fun _ H' => Q .non H', rt := Q } [some (.ref l), some (.int k2), some (.ref fl), some (.int place), u4, u5, u6] H3 := fun H3 k3 n0 hx => by
      have hres : prom ws k = .ok (L, k2) := by
        rw [hpm, ← hpr]
        unfold promL
        rw [if_pos ⟨n0, hx⟩]
      walk_at "w"
      refine w_tupL (.of (k3.get hf)) fun tp htp => ?_
      walk_at "w"
      refine ⟨szb (by show 2 ≤ _; omega), fun t ht => ?_⟩
      have k4 := ((kH.trans k3).new htp (o := .tup (pmV L))).new ht (o := .tup [.ref tp, .int (k2 : Nat)])
      exact q1 _ _ hres t tp _ k4 upd_same (upd_get ht upd_same)
    have body : ∀ H3, KB [] H2 H3 → ¬ (place ≠ 0 ∧ (3 ≤ place ∨ numOf (wAt ws k2) = none)) → ∃ N : L2.St → Hp → Prop, (∀ σ' H', N σ' H' → ∃ m', m' < f + 1 ∧ LpI H l fl ws RR m' σ' H') ∧
        lpBody K (lpD K Q N) [some (.ref l), some (.int k2), some (.ref fl), some (.int place), u4, u5, u6] H3 := fun H3 k3 hcond => by
      have hpr' := hpr
      unfold promL at hpr'
      rw [if_neg hcond] at hpr'
      have hpl : place ≤ 2 := by
        rcases Nat.lt_or_ge place 3 with h | h
        · omega
        · exact absurd ⟨by omega, .inl h⟩ hcond
      refine ⟨LpI H l fl ws RR f, fun σ' H' N => ⟨f, by omega, N⟩, ?_⟩
      have kH3 : KB [] H H3 := kH.trans k3
      walk_at "w"
      refine w_I cpow6 ?_
      walk_at "w"
      refine ⟨l, ws, k2, 1000000, rfl, kH3.get hw, hz, fun H4 k4 => ?_⟩
      have kH4 := kH3.trans k4
      walk_at "w"
      have bad : (numIn ws k2 1000000 = none) → RR = .error k2 := fun h => by
        unfold numIn at h
        rw [← hpr']
        cases hn : numOf (wAt ws k2) with
        | none => rfl
        | some n =>
          rw [hn] at h
          dsimp only at h ⊢
          by_cases hle : n ≤ 1000000
          · rw [if_pos hle] at h; cases h
          · rw [if_neg hle]
      cases hn : numIn ws k2 1000000 with
      | none =>
        rw [show oV none = .non from rfl, decide_eq_true rfl]
        refine w_iT ?_
        walk_at "w"
        refine ⟨szb (by show 2 ≤ _; omega), fun t ht => ?_⟩
        exact q0 k2 (hpm.trans (bad hn)) t _ (kH4.new ht) upd_same
      | some n =>
        have hn2 : numOf (wAt ws k2) = some n ∧ n ≤ 1000000 := by
          unfold numIn at hn
          cases h : numOf (wAt ws k2) with
          | none => rw [h] at hn; cases hn
          | some n' =>
            rw [h] at hn
            dsimp only at hn
            by_cases hle : n' ≤ 1000000
            · rw [if_pos hle] at hn; cases hn; exact ⟨rfl, hle⟩
            · rw [if_neg hle] at hn; cases hn
        rw [hn2.1] at hpr'
        dsimp only at hpr'
        rw [if_pos hn2.2] at hpr'
        rw [show oV (some n) = .int n from rfl, decide_eq_false (by simp)]
        refine w_iF (w_next (w_seq (w_asg (w_wAt (l := l) (ws := ws) (k := k2 + 1) rfl (fun QA qa => w_op (w_var rfl (w_c (w_I0 qa)))) (kH4.get hw) ?_))))
        walk_at "w"
        refine ⟨szb (by show 3 ≤ _; omega), fun ml hml => ?_⟩
        walk_at "w"
        refine w_eq rfl ?_
        have kml := kH4.new hml (o := .lst (boundsL.map V.str))
        rw [dec_nat0]
        have tail : ∀ c : Int, c = (if place = 0 ∧ 9999 < n then 1 else 0) → (rSlL K (.ref ml) (some ((place : Int) + c)) none (upd H4 ml (.lst (boundsL.map V.str))) fun x H1 => (tSeq (tIfS (tTest (tOp (rIn K true) (tVar 5) (tVar 6))) (tRet (tTup (tCons (tC .non) (tCons (tOp qAdd (tVar 1) (tC (.int 1))) tNil)))) tNext)
            (tSeq (tAsg (tOp qAdd (tBM K "list" (rIndex K) (tLst (tCons (tC (.str "days")) (tCons (tC (.str "miles")) (tCons (tC (.str "turns")) tNil)))) (tCons (tVar 5) tNil)) (tC (.int 1))) (gName 3))
            (tSeq (tAsg (tVar 4) (gSub (tVar 2) (tOp qSub (tVar 3) (tC (.int 1))) rSetL))
            (tAsg (tOp qAdd (tVar 1) (tC (.int 2))) (gName 1))))) (lpD K Q (LpI H l fl ws RR f)) [some (.ref l), some (.int k2), some (.ref fl), some (.int place), some (.int n), some (.str (wAt ws (k2 + 1))), some x] H1) := fun c hc => by
          refine w_slL (.of upd_same) fun sp hsp => ?_
          have ec : cutV (boundsL.map V.str) (some ((place : Int) + c)) none = (namesF place n).map V.str := by
            have e0 : (place : Int) + c = ((place + if place = 0 ∧ 9999 < n then 1 else 0 : Nat) : Int) := by
              rw [hc]
              by_cases h : place = 0 ∧ 9999 < n
              · rw [if_pos h, if_pos h]; omega
              · rw [if_neg h, if_neg h]; omega
            rw [e0, cutD (by show _ ≤ 3; split <;> omega), ← List.map_drop, may_names hpl hn2.2]
          rw [ec]
          have k5 := kml.new hsp (o := .lst ((namesF place n).map V.str))
          walk_at "w"
          refine w_inL (.of upd_same) rfl (flat_strs _) ?_
          rw [if_pos rfl, inV_str, slot_some hpl hn2.2]
          walk_at "w"
          cases hs : slotOf place n (wAt ws (k2 + 1)) with
          | none =>
            rw [hs] at hpr'
            refine w_nF ?_
            walk_at "w"
            refine ⟨szb (by show 2 ≤ _; omega), fun t ht => ?_⟩
            refine q0 (k2 + 1) (hpm.trans hpr'.symm) t _ (k5.new ht) ?_
            rw [upd_same]; rfl
          | some j =>
            rw [hs] at hpr'
            dsimp only at hpr'
            obtain ⟨s1, s2, s3, s4⟩ := slotOf_spec hs
            refine w_nT ?_
            walk_at "w"
            refine ⟨szb (by show 3 ≤ _; omega), fun il hil => ?_⟩
            have k6 := k5.new hil (o := .lst (boundsL.map V.str))
            refine ⟨.inl ⟨rfl, _, .of upd_same⟩, ?_⟩
            walk_at "w"
            refine ⟨il, boundsL.map V.str, .str (wAt ws (k2 + 1)), j, .str (wAt ws (k2 + 1)), rfl, rfl, .of upd_same, rfl, flat_strs _, by rw [List.getElem?_map, s3]; rfl, by simp [eqV], fun m z' hm e => ?_, ?_⟩
            · rw [List.getElem?_map] at e
              obtain ⟨y, hy, rfl⟩ := Option.map_eq_some_iff.mp e
              have := bounds_first s3 m hm
              rw [hy] at this
              show (y == wAt ws (k2 + 1)) = false
              exact beq_eq_false_iff_ne.mpr fun e => this (by rw [e])
            · walk_at "w"
              refine w_asgG ?_
              walk_at "w"
              have ej : (j : Int) + 1 - 1 = (j : Int) := by omega
              rw [ej]
              have hf6 := (kml.new hsp (o := .lst ((namesF place n).map V.str))) |> fun _ => k6
              have hfl6 : upd (upd (upd H4 ml (.lst (boundsL.map V.str))) sp (.lst ((namesF place n).map V.str))) il (.lst (boundsL.map V.str)) fl = some (.lst (pmV L)) := upd_get hil (upd_get hsp (upd_get hml (k4.get (k3.get hf))))
              refine w_setL hfl6 (ixN_nat (by show j < 3; exact s2)) ?_
              rw [set_pmV s2]
              walk_at "w"
              refine ⟨j + 1, setPm L j n, k2 + 2, _, _, _, by omega, by omega, rfl, k6.mutN hfl0, upd_same, hpr'⟩
        by_cases h0 : place = 0
        · rw [decide_eq_true h0]
          refine ⟨_, rfl, w_iT ?_⟩
          walk_at "w"
          refine tail _ ?_
          by_cases h9 : 9999 < n
          · rw [decide_eq_true h9, if_pos (show place = 0 ∧ 9999 < n from ⟨h0, h9⟩)]; rfl
          · rw [decide_eq_false h9, if_neg (show ¬ (place = 0 ∧ 9999 < n) from fun z => h9 z.2)]; rfl
        · rw [decide_eq_false h0]
          refine ⟨_, rfl, w_iF ?_⟩
          walk_at "w"
          refine tail _ ?_
          rw [if_neg (show ¬ (place = 0 ∧ 9999 < n) from fun z => h0 z.1)]; rfl
    walk_at "w"
    refine w_eq rfl ?_
    walk_at "w"
    rw [dec_nat0]
    by_cases h0 : place = 0
    · rw [decide_eq_true h0]
      refine w_iT (w_iT ?_)
      exact body _ (KB.refl _ _) (fun h => h.1 h0)
    · rw [decide_eq_false h0]
      walk_at "w"
      by_cases h3 : place < 3
      · rw [decide_eq_true (by omega)]
        walk_at "w"
        refine w_I cpow7 ?_
        walk_at "w"
        refine ⟨l, ws, k2, 10000000, rfl, hw2, hz, fun H3 k3 => ?_⟩
        walk_at "w"
        rw [numIn7]
        cases hn : numOf (wAt ws k2) with
        | none =>
          rw [show oV none = .non from rfl, decide_eq_true rfl]
          refine w_nT ?_
          exact exit H3 k3 h0 (.inr hn)
        | some n =>
          rw [show oV (some n) = .int n from rfl, decide_eq_false (by simp)]
          refine w_nF ?_
          exact body H3 k3 (fun h => by
            rcases h.2 with z | z
            · omega
            · rw [hn] at z; cases z)
      · rw [decide_eq_false (by omega)]
        refine w_iF (w_iF ?_)
        exact exit _ (KB.refl _ _) h0 (.inl (by omega))
end
end WK
set_option Elab.async false
set_option linter.all false
set_option maxRecDepth 100000
set_option maxHeartbeats 4000000
namespace WK
open PySem PySem.Spec PyProof.Rows L2
/-! ### the law's state -/
def HeadL (H : Hp) (hv : V) : Option (Str × Pm) → Prop
  | none => hv = .non
  | some hd => ∃ t tp, hv = .ref t ∧ H t = some (.tup [.str hd.1, .ref tp]) ∧ H tp = some (.tup (pmV hd.2))
theorem HeadL.im {H H' : Hp} {hv : V} {o : Option (Str × Pm)} (h : HeadL H hv o) (k : Im H H') : HeadL H' hv o := by
  cases o with
  | none => exact h
  | some hd => obtain ⟨t, tp, e, h1, h2⟩ := h; exact ⟨t, tp, e, k _ _ h1 rfl, k _ _ h2 rfl⟩
abbrev lfK (hv : V) (rl pl : Addr) : List (Key × V) := [(.inr "head", hv), (.inr "rows", .ref rl), (.inr "pairs", .ref pl)]
structure LfO (H : Hp) (f rl pl : Addr) (hv : V) (S : Acc) : Prop where
  o : H f = some (.dK (lfK hv rl pl))
  h : HeadL H hv S.head
  r : ∃ xs, H rl = some (.lst xs) ∧ Paired (PRowO H) xs S.rows
  p : ∃ ys, H pl = some (.lst ys) ∧ Paired (PairO H) ys S.pairs
  n : rl ≠ pl
theorem LfO.kb {H H' : Hp} {f rl pl : Addr} {hv : V} {S : Acc} {L : List Addr} (h : LfO H f rl pl hv S) (k : KB L H H') (im : Im H H') (n : f ∉ L ∧ rl ∉ L ∧ pl ∉ L) : LfO H' f rl pl hv S := by
  obtain ⟨o, hh, ⟨xs, r1, r2⟩, ⟨ys, p1, p2⟩, n1⟩ := h
  exact ⟨k _ _ o n.1, hh.im im, ⟨xs, k _ _ r1 n.2.1, Paired.mono (fun _ _ z => z.im im) r2⟩, ⟨ys, k _ _ p1 n.2.2, Paired.mono (fun _ _ z => z.im im) p2⟩, n1⟩
theorem LfO.kb0 {H H' : Hp} {f rl pl : Addr} {hv : V} {S : Acc} (h : LfO H f rl pl hv S) (k : KB [] H H') : LfO H' f rl pl hv S := h.kb k k.im0 (by simp)
theorem LfO.nf {H : Hp} {f rl pl : Addr} {hv : V} {S : Acc} (h : LfO H f rl pl hv S) : f ≠ rl ∧ f ≠ pl := by
  obtain ⟨xs, r1, _⟩ := h.r
  obtain ⟨ys, p1, _⟩ := h.p
  constructor
  · intro e; rw [← e, h.o] at r1; cases r1
  · intro e; rw [← e, h.o] at p1; cases p1
theorem w_dget {td ty : TE} {σ : L2.St} {H : Hp} {Q : VK} (q : td σ H fun x H1 => ty σ H1 fun y H2 => ∃ a v, x = .ref a ∧ DGet H2 a y (some v) ∧ Q v H2) : tDGet td ty σ H Q := q
theorem lf_head {hv : V} {rl pl : Addr} : valV (lfK hv rl pl) (.inr "head") = some hv := by
  rw [valV_pos rfl]
theorem lf_rows {hv : V} {rl pl : Addr} : valV (lfK hv rl pl) (.inr "rows") = some (.ref rl) := by
  rw [valV_neg (by simp; decide), valV_pos rfl]
theorem lf_pairs {hv : V} {rl pl : Addr} : valV (lfK hv rl pl) (.inr "pairs") = some (.ref pl) := by
  rw [valV_neg (by simp; decide), valV_neg (by simp; decide), valV_pos rfl]
section
variable {σ : L2.St} {H : Hp} {Q : VK} {i : Nat} {f rl pl : Addr} {hv : V} {S : Acc}
theorem w_gHead (h : σ[i]? = some (some (.ref f))) (L : H f = some (.dK (lfK hv rl pl))) (q : Q hv H) : tDGet (tVar i) (tC (.str "head")) σ H Q := w_dget (w_var h (w_c ⟨f, hv, rfl, .inl ⟨_, .inr "head", .inl L, rfl, lf_head.symm⟩, q⟩))
theorem w_gRows (h : σ[i]? = some (some (.ref f))) (L : H f = some (.dK (lfK hv rl pl))) (q : Q (.ref rl) H) : tDGet (tVar i) (tC (.str "rows")) σ H Q := w_dget (w_var h (w_c ⟨f, _, rfl, .inl ⟨_, .inr "rows", .inl L, rfl, lf_rows.symm⟩, q⟩))
theorem w_gPairs (h : σ[i]? = some (some (.ref f))) (L : H f = some (.dK (lfK hv rl pl))) (q : Q (.ref pl) H) : tDGet (tVar i) (tC (.str "pairs")) σ H Q := w_dget (w_var h (w_c ⟨f, _, rfl, .inl ⟨_, .inr "pairs", .inl L, rfl, lf_pairs.symm⟩, q⟩))
end
abbrev lpOpt (K : PySem.W.Frag) : TS := tIfS (tTest (tOp (qEqStrs K) (tSl (rSlL K) (tVar 1) (tPart (tVar 4)) (tPart (tOp qAdd (tVar 4) (tC (.int 1))))) (tLst (tCons (tOp (rIxL K) (tLst (tCons (tC (.str "own")) (tCons (tC (.str "mended")) tNil))) (tVar 5)) tNil)))) (tSeq (tAsg (tCall sp_l_promise_in [] E0 (tCons (tVar 1) (tCons (tOp qAdd (tVar 4) (tC (.int 1))) tNil))) (gTup K 2 (gCons (gSub (tVar 3) (tVar 5) rSetL) (gCons (gName 4) gNil))))
    (tIfS (tTest (tOp qIsN (tOp (rIxL K) (tVar 3) (tVar 5)) (tC .non))) (tRet (tVar 4)) tNext)) tNext
def sp_l_part_in : Sp := fun vs H Q _ => ∃ (f wl rl pl : Addr) (hv : V) (ws : List Str) (S : Acc), vs = [.ref f, .ref wl, .str (wAt ws 1)] ∧ LfO H f rl pl hv S ∧ H wl = some (.lst (ws.map V.str)) ∧ (∀ z ∈ ws, z.length ≤ 16000000) ∧ ws.length ≤ 16000000 ∧ S.rows.length ≤ 12 ∧ wl ≠ rl ∧
  isName (wAt ws 1) = true ∧ afterRow S.rows (wAt ws 1) = true ∧ (∀ e, partIn S.rows ws = .error e → ∀ H', KB [f, rl, pl] H H' → Q (.int e) H') ∧ (∀ r k, partIn S.rows ws = .ok (r, k) → k ≠ ws.length → ∀ H', KB [f, rl, pl] H H' → Q (.int k) H') ∧
  (∀ r k, partIn S.rows ws = .ok (r, k) → k = ws.length → ∀ H', KB [f, rl, pl] H H' → LfO H' f rl pl hv { S with rows := S.rows ++ [r] } → Q .non H')
theorem w_rng1 {ta : TA} {σ : L2.St} {H : Hp} {R : It → Hp → Prop} (q : ta σ H fun vs H1 => ∃ j : Int, vs = [.int j] ∧ -(2 ^ 62) ≤ j ∧ j < 2 ^ 62 ∧ R (Itr 0 j.toNat) H1) : iRng1 ta σ H R := q
theorem w_rng2 {ta : TA} {σ : L2.St} {H : Hp} {R : It → Hp → Prop} (q : ta σ H fun vs H1 => ∃ i j : Int, vs = [.int i, .int j] ∧ (-(2 ^ 62) ≤ i ∧ i < 2 ^ 62 ∧ -(2 ^ 62) ≤ j ∧ j < 2 ^ 62) ∧ R (Itr i (j - i).toNat) H1) : iRng2 ta σ H R := q
/-- steps that need no fact -/
local macro_rules | `(tactic| walk_at "w") => `(tactic| repeat (first
  | with_reducible refine w_seq ?_ | with_reducible refine w_asg ?_ | with_reducible refine w_ret ?_ | with_reducible refine w_drp ?_ | with_reducible refine w_next ?_ | with_reducible refine w_if ?_
  | ((with_reducible refine' w_var ?_ ?_); rotate_left; rfl) | with_reducible refine w_c ?_ | with_reducible refine w_op ?_ | with_reducible refine w_un ?_ | with_reducible refine w_test ?_ | with_reducible refine w_tB ?_ | with_reducible refine w_bl ?_
  | with_reducible refine w_and ?_ | with_reducible refine w_or ?_ | with_reducible refine w_not ?_ | with_reducible refine w_andV ?_ | with_reducible refine w_orV ?_ | with_reducible refine w_notV ?_ | with_reducible refine w_ebl ?_
  | with_reducible refine w_ifE ?_ | with_reducible refine w_nil ?_ | with_reducible refine w_cons ?_ | with_reducible refine w_cb ?_ | with_reducible refine w_call ?_ | with_reducible refine w_chain ?_ | with_reducible refine w_I0 ?_
  | with_reducible refine w_isN ?_ | with_reducible refine w_notN ?_ | with_reducible refine w_ltS ?_ | with_reducible refine w_leS ?_ | with_reducible refine w_m1 ?_ | with_reducible refine w_m1s ?_
  | with_reducible refine w_iT ?_ | with_reducible refine w_iF ?_ | with_reducible refine w_nT ?_ | with_reducible refine w_nF ?_ | with_reducible refine w_yes ?_ | with_reducible refine w_sfld ?_ | with_reducible refine w_lc ?_ | with_reducible refine w_for ?_ | with_reducible refine w_iStr ?_ | with_reducible refine w_iTup ?_ | with_reducible refine w_iList ?_ | with_reducible refine w_tup1 ?_ | with_reducible refine w_callN ?_ | with_reducible refine w_iZip ?_ | with_reducible refine w_sl ?_ | with_reducible refine w_part ?_ | with_reducible refine w_noPart ?_ | with_reducible refine w_eInt ?_ | with_reducible refine w_gN ?_ | with_reducible refine w_bm ?_ | with_reducible refine w_lst1 ?_ | ((with_reducible refine' w_aug ?_ ?_); rotate_left; rfl) | with_reducible refine w_ost ?_ | with_reducible refine w_rz ?_ | with_reducible refine w_gSub ?_ | with_reducible refine w_intB ?_))

section
variable {K : PySem.W.Frag} {w : World} {mg : Str → Option Value} {vs : List V} {H : Hp} {Q : VK} {E : XK}
theorem lp_opt {D : Ends} {f wl tl : Addr} {nm key : Str} {ws : List Str} {at' i : Nat} {v1 v2 : V} (hi : i < 2) (hkey : ([("own" : Str), "mended"])[i]? = some key) (hw : H wl = some (.lst (ws.map V.str))) (hz : ∀ z ∈ ws, z.length ≤ 16000000) (ht : H tl = some (.lst [v1, v2])) (hn : [v1, v2][i]? = some .non)
    (q0 : ∀ e, optProm key ws at' = .error e → ∀ H', KB [tl] H H' → D.rt (.int e) H') (q1 : ∀ o k', optProm key ws at' = .ok (o, k') → ∀ v H', KB [tl] H H' → OThO H' v o → H' tl = some (.lst ([v1, v2].set i v)) → D.nx [some (.ref f), some (.ref wl), some (.str nm), some (.ref tl), some (.int k'), some (.int i)] H') :
    lpOpt K D [some (.ref f), some (.ref wl), some (.str nm), some (.ref tl), some (.int at'), some (.int i)] H := by
  have hk : key ≠ "" := by
    match i, hi with
    | 0, _ => simp at hkey; subst hkey; decide
    | 1, _ => simp at hkey; subst hkey; decide
  walk_at "w"
  refine w_slL (.of hw) fun p hp => ?_
  walk_at "w"
  refine ⟨szb (by show 2 ≤ _; omega), fun kl hkl => ?_⟩
  refine w_var rfl ?_
  refine w_ixL (.of upd_same) (atI_nat (k := i) (v := .str key) ?_) ?_
  · match i, hi with
    | 0, _ => simp at hkey; subst hkey; rfl
    | 1, _ => simp at hkey; subst hkey; rfl
  walk_at "w"
  refine ⟨szb (by show 1 ≤ _; omega), fun b hb => ?_⟩
  have k1 := KB.new (KB.refl [] H) hp (o := .lst (cutV (ws.map V.str) (some (at' : Int)) (some ((at' : Int) + 1))))
  have k2 := k1.new hkl (o := .lst [.str "own", .str "mended"])
  have k3 := k2.new hb (o := .lst [.str key])
  have e1 : upd (upd (upd H p (.lst (cutV (ws.map V.str) (some (at' : Int)) (some ((at' : Int) + 1))))) kl (.lst [.str "own", .str "mended"])) b (.lst [.str key]) p = some (.lst (((ws.drop at').take 1).map V.str)) := by
    rw [← cut1]
    exact upd_get hb (upd_get hkl upd_same)
  refine ⟨p, b, (ws.drop at').take 1, [key], rfl, rfl, .of e1, .of upd_same, ?_⟩
  rw [take1_eq hk]
  walk_at "w"
  by_cases he : wAt ws at' = key
  · rw [decide_eq_true he]
    refine w_iT ?_
    refine w_seq (w_asgG ?_)
    walk_at "w"
    have ea : (at' : Int) + 1 = ((at' + 1 : Nat) : Int) := by omega
    refine ⟨wl, ws, at' + 1, by rw [← ea]; rfl, k3.get hw, hz, fun e hp' t H4 k4 e4 => ?_, fun pm k' hp' t tp H4 k4 e4 e5 => ?_⟩
    · have k04 := k3.trans k4
      refine ⟨t, _, rfl, .of e4, rfl, .non, _, rfl, ?_⟩
      walk_at "w"
      refine w_setL (k04.get ht) (ixN_nat (by show i < 2; exact hi)) ?_
      refine ⟨_, _, rfl, ?_⟩
      walk_at "w"
      refine ⟨rfl, ?_⟩
      walk_at "w"
      refine w_ixL (.of upd_same) (atI_nat (k := i) (v := .non) ?_) ?_
      · match i, hi with
        | 0, _ => rfl
        | 1, _ => rfl
      walk_at "w"
      rw [decide_eq_true rfl]
      refine w_iT ?_
      walk_at "w"
      exact q0 e (by unfold optProm; rw [if_pos he, hp']) _ (k04.of.mut (by simp))
    · have k04 := k3.trans k4
      refine ⟨t, _, rfl, .of e4, rfl, .ref tp, _, rfl, ?_⟩
      walk_at "w"
      refine w_setL (k04.get ht) (ixN_nat (by show i < 2; exact hi)) ?_
      refine ⟨_, _, rfl, ?_⟩
      walk_at "w"
      refine ⟨rfl, ?_⟩
      walk_at "w"
      refine w_ixL (.of upd_same) (atI_nat (k := i) (v := .ref tp) ?_) ?_
      · match i, hi with
        | 0, _ => rfl
        | 1, _ => rfl
      walk_at "w"
      rw [decide_eq_false (by simp)]
      refine w_iF ?_
      walk_at "w"
      have nt : tp ≠ tl := fun z => by rw [z, k04.get ht] at e5; cases e5
      exact q1 (some pm) k' (by unfold optProm; rw [if_pos he, hp']) (.ref tp) _ (k04.of.mut (by simp)) ⟨tp, rfl, by rw [upd_ne nt]; exact e5⟩ upd_same
  · rw [decide_eq_false he]
    refine w_iF ?_
    walk_at "w"
    have hs : [v1, v2].set i .non = [v1, v2] := by
      match i, hi with
      | 0, _ => simp at hn; subst hn; rfl
      | 1, _ => simp at hn; subst hn; rfl
    refine q1 none at' (by unfold optProm; rw [if_neg he]) .non _ k3.of rfl ?_
    rw [hs]
    exact k3.get ht
theorem rd_l_part_in (h : sp_l_part_in vs H Q E) : t_l_part_in K sp_l_promise_in { nx := fun _ H' => Q .non H', rt := Q } (start N_l_part_in vs) H := by
  obtain ⟨f, wl, rl, pl, hv, ws, S, rfl, L, hw, hz, hzl, hrl, nwr, hn, ha, q0, q1, q2⟩ := h
  have hpart : ∀ x, (match optProm "own" ws 2 with | .error e => .error e | .ok r => match optProm "mended" ws r.2 with | .error e => .error e | .ok q => .ok ((wAt ws 1, r.1, q.1), q.2)) = x → partIn S.rows ws = x := fun x e => by
    unfold partIn
    rw [if_neg (by rw [hn, ha]; simp)]
    exact e
  unfold t_l_part_in
  walk_at "w"
  refine ⟨szb (by show 2 ≤ _; omega), fun tl htl => ?_⟩
  walk_at "w"
  refine ⟨_, _, rfl, ?_⟩
  walk_at "w"
  refine w_rng1 ?_
  walk_at "w"
  refine ⟨2, rfl, by decide, by decide, ?_⟩
  have k0 := KB.new (KB.refl [] H) htl (o := .lst [.non, .non])
  refine forG (walk_range (n := 2)) (fun i σ2 H2 => KB [] H H2 ∧ ∃ (at' : Nat) (v1 v2 : V) (u5 : Option V), σ2 = [some (.ref f), some (.ref wl), some (.str (wAt ws 1)), some (.ref tl), some (.int at'), u5] ∧ H2 tl = some (.lst [v1, v2]) ∧ (i = 0 → at' = 2 ∧ v1 = .non ∧ v2 = .non) ∧
      (i = 1 → ∃ o, optProm "own" ws 2 = .ok (o, at') ∧ OThO H2 v1 o ∧ v2 = .non) ∧ (i = 2 → ∃ o k1 o2, optProm "own" ws 2 = .ok (o, k1) ∧ optProm "mended" ws k1 = .ok (o2, at') ∧ OThO H2 v1 o ∧ OThO H2 v2 o2))
    ⟨k0, 2, .non, .non, none, rfl, upd_same, fun _ => ⟨rfl, rfl, rfl⟩, fun h => absurd h (by decide), fun h => absurd h (by decide)⟩ (fun _ _ _ _ _ => trivial) (fun i x σ2 H2 H3 hi P y => ?_) (fun σ2 H2 P => ?_)
  · obtain ⟨k, at', v1, v2, u5, rfl, htl2, c0, c1, c2⟩ := P
    obtain ⟨rfl, rfl⟩ := y
    have k' : ∀ {H4}, KB [tl] H3 H4 → KB [] H H4 := fun kk => ((k.of (S := [tl])).trans kk).drop fun b hb => by simp at hb; subst hb; exact .inr htl
    have im' : ∀ {H4}, KB [tl] H3 H4 → Im H3 H4 := fun kk => kk.im fun b hb o e => by simp at hb; subst hb; rw [htl2] at e; cases e; rfl
    have kL : ∀ {H4}, KB [tl] H3 H4 → KB [f, rl, pl] H H4 := fun kk => (k' kk).of
    dsimp only
    rw [Int.zero_add]
    refine w_gN ?_
    match i, hi with
    | 0, _ =>
      obtain ⟨rfl, rfl, rfl⟩ := c0 rfl
      refine lp_opt (i := 0) (key := "own") (by decide) rfl (k.get hw) hz htl2 rfl (fun e he H4 k4 => ?_) (fun o k2 ho v H4 k4 hv e4 => ?_)
      · exact q0 e (hpart _ (by rw [he])) H4 (kL k4)
      · exact ⟨k' k4, k2, v, .non, _, rfl, e4, fun h => absurd h (by decide), fun _ => ⟨o, ho, hv, rfl⟩, fun h => absurd h (by decide)⟩
    | 1, _ =>
      obtain ⟨o1, ho1, hv1, rfl⟩ := c1 rfl
      refine lp_opt (i := 1) (key := "mended") (by decide) rfl (k.get hw) hz htl2 rfl (fun e he H4 k4 => ?_) (fun o k2 ho v H4 k4 hv e4 => ?_)
      · refine q0 e (hpart _ ?_) H4 (kL k4)
        rw [ho1]; dsimp only; rw [he]
      · exact ⟨k' k4, k2, v1, v, _, rfl, e4, fun h => absurd h (by decide), fun h => absurd h (by decide), fun _ => ⟨o1, at', o, ho1, ho, hv1.im (im' k4), hv⟩⟩
  · obtain ⟨k, at', v1, v2, u5, rfl, htl2, c0, c1, c2⟩ := P
    obtain ⟨o, k1, o2, h1, h2, hv1, hv2⟩ := c2 rfl
    have L2 := L.kb0 k
    have hr : partIn S.rows ws = .ok ((wAt ws 1, o, o2), at') := hpart _ (by rw [h1]; dsimp only; rw [h2])
    obtain ⟨o', hh, ⟨xs, r1, r2⟩, ⟨ys, p1, p2⟩, n⟩ := L2
    walk_at "w"
    refine w_gRows rfl o' ?_
    refine ⟨.inl ⟨rfl, _, .of r1⟩, ?_⟩
    walk_at "w"
    refine w_ixL (.of htl2) (atI_nat (k := 0) rfl) ?_
    walk_at "w"
    refine w_ixL (.of htl2) (atI_nat (k := 1) rfl) ?_
    walk_at "w"
    refine ⟨szb (by show 3 ≤ _; omega), fun c hc => ?_⟩
    walk_at "w"
    have kc := KB.new (KB.refl [] H2) hc (o := .tup [.str (wAt ws 1), v1, v2])
    have xl : xs.length = S.rows.length := r2.length
    refine w_appL (σ := []) (kc.get r1) (by omega) ?_
    walk_at "w"
    have kf : KB [f, rl, pl] H (upd (upd H2 c (.tup [.str (wAt ws 1), v1, v2])) rl (.lst (xs ++ [.ref c]))) := ((k.trans kc).of).mut (by simp)
    have imf : Im (upd H2 c (.tup [.str (wAt ws 1), v1, v2])) (upd (upd H2 c (.tup [.str (wAt ws 1), v1, v2])) rl (.lst (xs ++ [.ref c]))) := Im.lst fun u e => by rw [kc.get r1] at e; cases e; rfl
    have im2 := kc.im0.trans imf
    refine w_lenL (.of (by rw [upd_ne nwr]; exact kc.get (k.get hw))) ?_
    walk_at "w"
    refine w_eq rfl ?_
    walk_at "w"
    have de : decide (V.int (at' : Int) = V.int ((ws.map V.str).length : Int)) = decide (at' = ws.length) := by
      rw [List.length_map]
      by_cases h : at' = ws.length
      · rw [h, decide_eq_true rfl, decide_eq_true rfl]
      · rw [decide_eq_false h, decide_eq_false (fun e => h (by injection e with e; omega))]
    rw [de]
    by_cases hl : at' = ws.length
    · rw [decide_eq_true hl]
      refine w_iT ?_
      walk_at "w"
      have nf := L.nf
      refine q2 _ _ hr hl _ kf ⟨by rw [upd_ne nf.1]; exact kc.get o', (hh.im kc.im0).im imf, ⟨_, upd_same, paired_snoc (Paired.mono (fun _ _ z => z.im im2) r2) ⟨c, v1, v2, rfl, imf.tup upd_same, hv1.im im2, hv2.im im2⟩⟩, ⟨ys, by rw [upd_ne (Ne.symm n)]; exact kc.get p1, Paired.mono (fun _ _ z => z.im im2) p2⟩, n⟩
    · rw [decide_eq_false hl]
      refine w_iF ?_
      walk_at "w"
      exact q1 _ _ hr hl _ kf
end
end WK
set_option Elab.async false
set_option linter.all false
set_option maxRecDepth 100000
set_option maxHeartbeats 4000000
namespace WK
open PySem PySem.Spec PyProof.Rows L2
theorem dec_len (ws : List Str) (n : Nat) : decide (V.int ((ws.map V.str).length : Int) = V.int (n : Int)) = decide (ws.length = n) := by
  rw [List.length_map]
  by_cases h : ws.length = n
  · rw [h, decide_eq_true rfl, decide_eq_true rfl]
  · rw [decide_eq_false h, decide_eq_false (fun e => h (by injection e with e; omega))]
theorem put_head {hv x : V} {rl pl : Addr} : putK (lfK hv rl pl) (.inr "head") x = lfK x rl pl := by
  unfold putK
  rw [if_pos (by simp)]
  have d1 : ¬ ((Sum.inr ("rows" : Str) : Key) = Sum.inr ("head" : Str)) := by simp; decide
  have d2 : ¬ ((Sum.inr ("pairs" : Str) : Key) = Sum.inr ("head" : Str)) := by simp; decide
  have e1 : (if ((Sum.inr ("head" : Str) : Key)) = Sum.inr ("head" : Str) then ((Sum.inr ("head" : Str) : Key), x) else (Sum.inr ("head" : Str), hv)) = (Sum.inr ("head" : Str), x) := if_pos rfl
  have e2 : (if ((Sum.inr ("rows" : Str) : Key)) = Sum.inr ("head" : Str) then ((Sum.inr ("rows" : Str) : Key), x) else (Sum.inr ("rows" : Str), V.ref rl)) = (Sum.inr ("rows" : Str), V.ref rl) := if_neg d1
  have e3 : (if ((Sum.inr ("pairs" : Str) : Key)) = Sum.inr ("head" : Str) then ((Sum.inr ("pairs" : Str) : Key), x) else (Sum.inr ("pairs" : Str), V.ref pl)) = (Sum.inr ("pairs" : Str), V.ref pl) := if_neg d2
  show [_, _, _] = [_, _, _]
  exact congr (congrArg List.cons e1) (congr (congrArg List.cons e2) (congr (congrArg List.cons e3) rfl))
theorem leP_same {a b : Str} {p : Pair} : leP (a, b) p = leP (a, b) (p.1, p.2) := rfl
theorem prom_le {ws : List Str} {k : Nat} {p : Pm} {k' : Nat} (h : prom ws k = .ok (p, k')) (hk : k ≤ ws.length) : k' ≤ ws.length := (prom_tells h hk).2.2.1
def sp_l_row_in : Sp := fun vs H Q _ => ∃ (f wl rl pl : Addr) (hv : V) (ws : List Str) (S : Acc), vs = [.ref f, .ref wl] ∧ LfO H f rl pl hv S ∧ H wl = some (.lst (ws.map V.str)) ∧ (∀ z ∈ ws, z.length ≤ 16000000) ∧ ws.length ≤ 16000000 ∧ 0 < ws.length ∧ wl ≠ rl ∧ wl ≠ pl ∧ Good S ∧
  (∀ e, rowIn S ws = .error e → ∀ H', KB [f, rl, pl] H H' → Q (.int e) H') ∧ (∀ S', rowIn S ws = .ok S' → ∀ hv' H', KB [f, rl, pl] H H' → LfO H' f rl pl hv' S' → Q .non H')
/-- steps that need no fact -/
local macro_rules | `(tactic| walk_at "w") => `(tactic| repeat (first
  | with_reducible refine w_seq ?_ | with_reducible refine w_asg ?_ | with_reducible refine w_ret ?_ | with_reducible refine w_drp ?_ | with_reducible refine w_next ?_ | with_reducible refine w_if ?_
  | ((with_reducible refine' w_var ?_ ?_); rotate_left; rfl) | with_reducible refine w_c ?_ | with_reducible refine w_op ?_ | with_reducible refine w_un ?_ | with_reducible refine w_test ?_ | with_reducible refine w_tB ?_ | with_reducible refine w_bl ?_
  | with_reducible refine w_and ?_ | with_reducible refine w_or ?_ | with_reducible refine w_not ?_ | with_reducible refine w_andV ?_ | with_reducible refine w_orV ?_ | with_reducible refine w_notV ?_ | with_reducible refine w_ebl ?_
  | with_reducible refine w_ifE ?_ | with_reducible refine w_nil ?_ | with_reducible refine w_cons ?_ | with_reducible refine w_cb ?_ | with_reducible refine w_call ?_ | with_reducible refine w_chain ?_ | with_reducible refine w_I0 ?_
  | with_reducible refine w_isN ?_ | with_reducible refine w_notN ?_ | with_reducible refine w_ltS ?_ | with_reducible refine w_leS ?_ | with_reducible refine w_m1 ?_ | with_reducible refine w_m1s ?_
  | with_reducible refine w_iT ?_ | with_reducible refine w_iF ?_ | with_reducible refine w_nT ?_ | with_reducible refine w_nF ?_ | with_reducible refine w_yes ?_ | with_reducible refine w_sfld ?_ | with_reducible refine w_lc ?_ | with_reducible refine w_for ?_ | with_reducible refine w_iStr ?_ | with_reducible refine w_iTup ?_ | with_reducible refine w_iList ?_ | with_reducible refine w_tup1 ?_ | with_reducible refine w_callN ?_ | with_reducible refine w_iZip ?_ | with_reducible refine w_sl ?_ | with_reducible refine w_part ?_ | with_reducible refine w_noPart ?_ | with_reducible refine w_eInt ?_ | with_reducible refine w_gN ?_ | with_reducible refine w_bm ?_ | with_reducible refine w_lst1 ?_ | ((with_reducible refine' w_aug ?_ ?_); rotate_left; rfl) | with_reducible refine w_ost ?_ | with_reducible refine w_rz ?_ | with_reducible refine w_gSub ?_ | with_reducible refine w_intB ?_))

section
variable {K : PySem.W.Frag} {w : World} {mg : Str → Option Value} {vs : List V} {H : Hp} {Q : VK} {E : XK}
/-- ws[k] if len(ws) > k else '' -/
theorem w_wAtG {σ : L2.St} {H : Hp} {Q : VK} {l : Addr} {ws : List Str} {k : Nat} {i : Nat} (hl : σ[i]? = some (some (.ref l))) (hw : H l = some (.lst (ws.map V.str))) (q : Q (.str (wAt ws k)) H) :
    tIf (tTest (tOp qGt (tCB (qLenL K) (tCons (tVar i) tNil)) (tC (.int (k : Nat))))) (tOp (rIxL K) (tVar i) (tC (.int (k : Nat)))) (tC (.str "")) σ H Q := by
  refine w_ifE (w_test (w_op (w_cb (w_cons (w_var hl (w_nil (w_lenL (.of hw) (w_c (w_I0 ⟨_, rfl, ?_⟩)))))))))
  rw [List.length_map]
  by_cases h : k < ws.length
  · rw [decide_eq_true (by omega)]
    exact w_iT (w_op (w_var hl (w_c (w_ixL (.of hw) (atI_nat (at_get h)) q))))
  · rw [decide_eq_false (by omega)]
    refine w_iF (w_c ?_)
    rw [at_none (by omega)] at q
    exact q
theorem rd_l_row_in (h : sp_l_row_in vs H Q E) : t_l_row_in K sp_is_name sp_l_promise_in sp_l_part_in { nx := fun _ H' => Q .non H', rt := Q } (start N_l_row_in vs) H := by
  obtain ⟨f, wl, rl, pl, hv, ws, S, rfl, L, hw, hz, hzl, h0, nwr, nwp, G, q0, q1⟩ := h
  have rle := G.rl
  have ple := G.pl
  have w0 := at_get h0
  unfold t_l_row_in
  refine w_seq (w_asg (w_wAtG (l := wl) (ws := ws) (k := 1) rfl hw ?_))
  walk_at "w"
  refine w_gHead rfl L.o ?_
  walk_at "w"
  cases hS : S.head with
  | none =>
    have Lh := L.h
    rw [hS] at Lh
    rw [show hv = .non from Lh, decide_eq_true rfl]
    refine w_iT ?_
    walk_at "w"
    refine w_ixL (.of hw) (atI_nat w0) ?_
    walk_at "w"
    refine w_ne rfl ?_
    walk_at "w"
    rw [dec_str]
    by_cases hs : wAt ws 0 = "sort"
    · rw [decide_eq_true hs]
      refine w_nT ?_
      walk_at "w"
      refine ⟨wAt ws 1, rfl, at_len hz 1, fun H1 k1 => ?_⟩
      walk_at "w"
      cases hn : isName (wAt ws 1) with
      | false =>
        walk_at "w"
        refine w_ixL (.of (k1.get hw)) (atI_nat w0) ?_
        walk_at "w"
        refine w_ne rfl ?_
        walk_at "w"
        rw [dec_str, decide_eq_true hs]
        refine w_nT ?_
        walk_at "w"
        refine q0 1 ?_ H1 k1.of
        unfold rowIn
        rw [hS]
        dsimp only
        rw [if_neg (by simpa using hs), if_pos hn]
      | true =>
        have hrowE : ∀ e, prom ws 2 = .error e → rowIn S ws = .error e := fun e he => by
          unfold rowIn
          rw [hS]
          dsimp only
          rw [if_neg (by simpa using hs), if_neg (by rw [hn]; simp), he]
        have hrowO : ∀ r, prom ws 2 = .ok r → rowIn S ws = if r.2 = ws.length then .ok { S with head := some (wAt ws 1, r.1) } else .error r.2 := fun r he => by
          unfold rowIn
          rw [hS]
          dsimp only
          rw [if_neg (by simpa using hs), if_neg (by rw [hn]; simp), he]
        have h2le : 2 ≤ ws.length := by have := wAt_lt (name_ne hn); omega
        walk_at "w"
        refine w_asgG ?_
        walk_at "w"
        refine ⟨wl, ws, 2, rfl, k1.get hw, hz, fun e he t H2 k2 e2 => ?_, fun pm k' hp t tp H2 k2 e2 e3 => ?_⟩
        · have k02 := k1.trans k2
          refine w_gTup2 (.of e2) ?_
          walk_at "w"
          refine w_dput ?_
          walk_at "w"
          refine ⟨szb (by show 2 ≤ _; omega), fun c hc => ?_⟩
          walk_at "w"
          have kc := KB.new (KB.refl [] H2) hc (o := .tup [.str (wAt ws 1), .non])
          refine ⟨f, _, rfl, .inl ⟨_, .inr "head", kc.get (k02.get L.o), rfl, by show 3 < _; rw [sizeLine_eq]; decide, rfl⟩, ?_⟩
          walk_at "w"
          rw [decide_eq_true rfl]
          walk_at "w"
          exact q0 e (hrowE e he) _ ((k02.trans kc).of.mut (by simp))
        · have k02 := k1.trans k2
          have hk' := prom_le hp h2le
          refine w_gTup2 (.of e2) ?_
          walk_at "w"
          refine w_dput ?_
          walk_at "w"
          refine ⟨szb (by show 2 ≤ _; omega), fun c hc => ?_⟩
          walk_at "w"
          have kc := KB.new (KB.refl [] H2) hc (o := .tup [.str (wAt ws 1), .ref tp])
          refine ⟨f, _, rfl, .inl ⟨_, .inr "head", kc.get (k02.get L.o), rfl, by show 3 < _; rw [sizeLine_eq]; decide, rfl⟩, ?_⟩
          rw [put_head]
          walk_at "w"
          rw [decide_eq_false (by simp)]
          walk_at "w"
          have nwf : wl ≠ f := fun z => by have := L.o; rw [← z, hw] at this; cases this
          have kf : KB [f, rl, pl] H (upd (upd H2 c (.tup [.str (wAt ws 1), .ref tp])) f (.dK (lfK (.ref c) rl pl))) := ((k02.trans kc).of).mut (by simp)
          refine w_lenL (.of (by rw [upd_ne nwf]; exact kc.get (k02.get hw))) ?_
          walk_at "w"
          rw [List.length_map]
          have L2 := L.kb0 (k02.trans kc)
          obtain ⟨o', hh, ⟨xs, r1, r2⟩, ⟨ys, p1, p2⟩, n⟩ := L2
          have imf : Im (upd H2 c (.tup [.str (wAt ws 1), .ref tp])) (upd (upd H2 c (.tup [.str (wAt ws 1), .ref tp])) f (.dK (lfK (.ref c) rl pl))) := Im.lst fun u e => by rw [o'] at e; cases e; rfl
          by_cases hk : k' = ws.length
          · rw [decide_eq_false (by omega)]
            walk_at "w"
            have nf := L.nf
            refine q1 { S with head := some (wAt ws 1, pm) } ((hrowO _ hp).trans (if_pos hk)) (.ref c) _ kf ⟨upd_same, ⟨c, tp, rfl, imf.tup upd_same, imf.tup (kc.get e3)⟩, ⟨xs, by rw [upd_ne (Ne.symm nf.1)]; exact r1, Paired.mono (fun _ _ z => z.im imf) r2⟩, ⟨ys, by rw [upd_ne (Ne.symm nf.2)]; exact p1, Paired.mono (fun _ _ z => z.im imf) p2⟩, n⟩
          · rw [decide_eq_true (by omega)]
            walk_at "w"
            exact q0 k' ((hrowO _ hp).trans (if_neg hk)) _ kf
    · rw [decide_eq_false hs]
      refine w_nF ?_
      walk_at "w"
      refine w_ixL (.of hw) (atI_nat w0) ?_
      walk_at "w"
      refine w_ne rfl ?_
      walk_at "w"
      rw [dec_str, decide_eq_false hs]
      refine w_nF ?_
      walk_at "w"
      refine q0 0 ?_ H (KB.refl _ _)
      unfold rowIn
      rw [hS]
      exact if_pos hs
  | some hd =>
    have Lh := L.h
    rw [hS] at Lh
    obtain ⟨th, tph, rfl, hth, htph⟩ := Lh
    rw [decide_eq_false (by simp)]
    refine w_iF ?_
    walk_at "w"
    refine w_ixL (.of hw) (atI_nat w0) ?_
    walk_at "w"
    refine w_eq rfl ?_
    walk_at "w"
    rw [dec_str]
    obtain ⟨xs, r1, r2⟩ := L.r
    obtain ⟨ys, p1, p2⟩ := L.p
    have xl : xs.length = S.rows.length := r2.length
    have yl : ys.length = S.pairs.length := p2.length
    -- the barred part of it
    have bar : ∀ H1, KB [] H H1 → ¬ (wAt ws 0 = "part" ∧ S.pairs = [] ∧ S.rows.length < 12) → (tSeq (tIfS (tOr (tTest (tOp rNe (tOp (rIxL K) (tVar 1) (tC (.int 0))) (tC (.str "barred")))) (tTest (tOp rEq (tCB (qLenL K) (tCons (tDGet (tVar 0) (tC (.str "pairs"))) tNil)) (tC (.int 30))))) (tRet (tC (.int 0))) tNext)
    (tSeq (tAsg (tIf (tTest (tOp (qNeNil K) (tDGet (tVar 0) (tC (.str "pairs"))) (tLst tNil))) (tOp (rIxL K) (tDGet (tVar 0) (tC (.str "pairs"))) (tUn (rU fun i => .int (-i)) (tC (.int 1)))) (tTup (tCons (tC (.str "")) (tCons (tC (.str "")) tNil)))) (gName 5))
    (tSeq (tAsg (tIf (tTest (tOp qGt (tCB (qLenL K) (tCons (tVar 1) tNil)) (tC (.int 2)))) (tOp (rIxL K) (tVar 1) (tC (.int 2))) (tC (.str ""))) (gName 6))
    (tSeq (tIfS (tOr (tNot (tB (tCall sp_is_name [] E0 (tCons (tVar 2) tNil)))) (tTest (tOp qLtS (tVar 2) (tOp (rIxT K) (tVar 5) (tC (.int 0)))))) (tRet (tC (.int 1))) tNext)
    (tSeq (tIfS (tOr (tTest (tOp (rIn K true) (tVar 6) (tLc (iList K (tDGet (tVar 0) (tC (.str "rows")))) (gName 7) tYes (tOp (rIxT K) (tVar 7) (tC (.int 0))) [7]))) (tTest (tOp (qLeP K) (tTup (tCons (tVar 2) (tCons (tVar 6) tNil))) (tVar 5)))) (tRet (tC (.int 2))) tNext)
    (tSeq (tDrop (tBM K "list" rAppend (tDGet (tVar 0) (tC (.str "pairs"))) (tCons (tTup (tCons (tVar 2) (tCons (tVar 6) tNil))) tNil)))
    (tRet (tIf (tTest (tOp rEq (tCB (qLenL K) (tCons (tVar 1) tNil)) (tC (.int 3)))) (tC .non) (tC (.int 3)))))))))) { nx := fun _ H' => Q .non H', rt := Q } [some (.ref f), some (.ref wl), some (.str (wAt ws 1)), none, none, none, none, none] H1 := by
      intro H1 k1 hpart
      have L1 := L.kb0 k1
      walk_at "w"
      refine w_ixL (.of (k1.get hw)) (atI_nat w0) ?_
      walk_at "w"
      refine w_ne rfl ?_
      walk_at "w"
      rw [dec_str]
      have bad0 : (wAt ws 0 ≠ "barred" ∨ ¬ S.pairs.length < 30) → rowIn S ws = .error 0 := fun hb => by
        unfold rowIn
        rw [hS]
        dsimp only
        rw [if_neg hpart, if_pos hb]
      by_cases hb : wAt ws 0 = "barred"
      · rw [decide_eq_true hb]
        refine w_nT ?_
        walk_at "w"
        refine w_gPairs rfl L1.o ?_
        walk_at "w"
        refine w_lenL (.of (k1.get p1)) ?_
        walk_at "w"
        refine w_eq rfl ?_
        walk_at "w"
        have d30 : decide (V.int (ys.length : Int) = V.int 30) = decide (ys.length = 30) := by
          by_cases h : ys.length = 30
          · rw [decide_eq_true h]; exact decide_eq_true (by rw [h]; rfl)
          · rw [decide_eq_false h, decide_eq_false (fun e => h (by injection e with e; omega))]
        rw [d30]
        by_cases h30 : ys.length = 30
        · rw [decide_eq_true h30]
          refine w_iT ?_
          walk_at "w"
          exact q0 0 (bad0 (.inr (by omega))) H1 k1.of
        · rw [decide_eq_false h30]
          refine w_iF (w_next ?_)
          have nb : ¬ (wAt ws 0 ≠ "barred" ∨ ¬ S.pairs.length < 30) := by
            rintro (z | z)
            · exact z hb
            · omega
          have hrow : ∀ x, pairIn S.rows S.pairs ws = x → rowIn S ws = (match x with | .error e => .error e | .ok p => if ws.length = 3 then .ok { S with pairs := S.pairs ++ [p] } else .error 3) := fun x hx => by
            unfold rowIn
            rw [hS]
            dsimp only
            rw [if_neg hpart, if_neg nb, hx]
            all_goals (cases x <;> rfl)
          -- behind _law_ahead
          have rest : ∀ (H2 : Hp) (ah : Addr), KB [] H H2 → H2 ah = some (.tup [.str (lastPair S.pairs).1, .str (lastPair S.pairs).2]) → (tSeq (tAsg (tIf (tTest (tOp qGt (tCB (qLenL K) (tCons (tVar 1) tNil)) (tC (.int 2)))) (tOp (rIxL K) (tVar 1) (tC (.int 2))) (tC (.str ""))) (gName 6))
            (tSeq (tIfS (tOr (tNot (tB (tCall sp_is_name [] E0 (tCons (tVar 2) tNil)))) (tTest (tOp qLtS (tVar 2) (tOp (rIxT K) (tVar 5) (tC (.int 0)))))) (tRet (tC (.int 1))) tNext)
            (tSeq (tIfS (tOr (tTest (tOp (rIn K true) (tVar 6) (tLc (iList K (tDGet (tVar 0) (tC (.str "rows")))) (gName 7) tYes (tOp (rIxT K) (tVar 7) (tC (.int 0))) [7]))) (tTest (tOp (qLeP K) (tTup (tCons (tVar 2) (tCons (tVar 6) tNil))) (tVar 5)))) (tRet (tC (.int 2))) tNext)
            (tSeq (tDrop (tBM K "list" rAppend (tDGet (tVar 0) (tC (.str "pairs"))) (tCons (tTup (tCons (tVar 2) (tCons (tVar 6) tNil))) tNil)))
            (tRet (tIf (tTest (tOp rEq (tCB (qLenL K) (tCons (tVar 1) tNil)) (tC (.int 3)))) (tC .non) (tC (.int 3)))))))) { nx := fun _ H' => Q .non H', rt := Q } [some (.ref f), some (.ref wl), some (.str (wAt ws 1)), none, none, some (.ref ah), none, none] H2 := by
            intro H2 ah k2 eah
            have L2 := L.kb0 k2
            refine w_seq (w_asg (w_wAtG (l := wl) (ws := ws) (k := 2) rfl (k2.get hw) ?_))
            walk_at "w"
            refine ⟨wAt ws 1, rfl, at_len hz 1, fun H3 k3 => ?_⟩
            have k03 := k2.trans k3
            walk_at "w"
            have bad1 : (isName (wAt ws 1) && !ltS (wAt ws 1) (lastPair S.pairs).1) = false → rowIn S ws = .error 1 := fun h => by
              rw [hrow (.error 1) (by unfold pairIn; rw [if_pos h])]
            cases hn : isName (wAt ws 1) with
            | false =>
              walk_at "w"
              exact q0 1 (bad1 (by rw [hn]; rfl)) H3 k03.of
            | true =>
              walk_at "w"
              refine w_ixT (.of (k3.get eah)) (atI_nat (k := 0) rfl) ?_
              walk_at "w"
              cases hlt : ltS (wAt ws 1) (lastPair S.pairs).1 with
              | true =>
                rw [show decide ((wAt ws 1).cps.toList < (lastPair S.pairs).1.cps.toList) = true from hlt]
                walk_at "w"
                exact q0 1 (bad1 (by rw [hn, hlt]; rfl)) H3 k03.of
              | false =>
                rw [show decide ((wAt ws 1).cps.toList < (lastPair S.pairs).1.cps.toList) = false from hlt]
                walk_at "w"
                have L3 := L.kb0 k03
                refine w_gRows rfl L3.o ?_
                refine ⟨rl, rfl, ⟨_, .of (k03.get r1)⟩, ?_⟩
                refine lc_map (walk_list (xs := xs)) ((names S.rows).map V.str) (by unfold names; simp; omega) (by omega) (fun H4 k => .of ((k03.trans k).get r1)) (fun i x z H4 H5 K1 ez hi k y f' => ?_) (fun D H4 hD k4 e4 => ?_)
                · obtain ⟨rfl, ex⟩ := y
                  refine ⟨rfl, ?_⟩
                  obtain ⟨r, er, t, v1, v2, rfl, ht, _⟩ := pget r2 ex
                  have e : V.str r.1 = z := by
                    unfold names at ez
                    rw [List.getElem?_map, List.getElem?_map, er] at ez
                    exact Option.some.inj ez
                  refine w_op (w_var rfl (w_c (w_ixT (.of ((k03.trans k).get ht)) (atI_nat (k := 0) rfl) ?_)))
                  rw [e]
                  exact f' _ (KB.refl _ _)
                · have k04 := k03.trans k4
                  refine w_inL (.of e4) rfl (flat_strs _) ?_
                  rw [if_pos rfl, inV_str]
                  walk_at "w"
                  have good1 : ¬ (isName (wAt ws 1) && !ltS (wAt ws 1) (lastPair S.pairs).1) = false := by rw [hn, hlt]; simp
                  have bad2 : ((names S.rows).contains (wAt ws 2) && !leP (wAt ws 1, wAt ws 2) (lastPair S.pairs)) = false → rowIn S ws = .error 2 := fun h => by
                    rw [hrow (.error 2) (by unfold pairIn; rw [if_neg good1, if_pos h])]
                  cases hc : (names S.rows).contains (wAt ws 2) with
                  | false =>
                    walk_at "w"
                    exact q0 2 (bad2 (by rw [hc]; rfl)) H4 k04.of
                  | true =>
                    walk_at "w"
                    refine ⟨szb (by show 2 ≤ _; omega), fun c hcc => ?_⟩
                    have kc := KB.new (KB.refl [] H4) hcc (o := .tup [.str (wAt ws 1), .str (wAt ws 2)])
                    walk_at "w"
                    refine ⟨c, ah, (wAt ws 1, wAt ws 2), lastPair S.pairs, rfl, rfl, .of upd_same, .of (kc.get (k4.get (k3.get eah))), ?_⟩
                    walk_at "w"
                    cases hle : leP (wAt ws 1, wAt ws 2) (lastPair S.pairs) with
                    | true =>
                      walk_at "w"
                      exact q0 2 (bad2 (by rw [hc, hle]; rfl)) _ (k04.trans kc).of
                    | false =>
                      walk_at "w"
                      have hr : pairIn S.rows S.pairs ws = .ok (wAt ws 1, wAt ws 2) := by
                        unfold pairIn
                        rw [if_neg good1, if_neg (by rw [hc, hle]; simp)]
                      have L5 := L.kb0 (k04.trans kc)
                      obtain ⟨o5, h5, ⟨xs5, r5, r6⟩, ⟨ys5, p5, p6⟩, n5⟩ := L5
                      have y5 : ys5.length = S.pairs.length := p6.length
                      refine w_gPairs rfl o5 ?_
                      refine ⟨.inl ⟨rfl, _, .of p5⟩, ?_⟩
                      walk_at "w"
                      refine ⟨szb (by show 2 ≤ _; omega), fun g hg => ?_⟩
                      walk_at "w"
                      have kg := KB.new (KB.refl [] (upd H4 c (.tup [.str (wAt ws 1), .str (wAt ws 2)]))) hg (o := .tup [.str (wAt ws 1), .str (wAt ws 2)])
                      refine w_appL (σ := []) (kg.get p5) (by omega) ?_
                      walk_at "w"
                      have imA := Im.lst (H := upd (upd H4 c (.tup [.str (wAt ws 1), .str (wAt ws 2)])) g (.tup [.str (wAt ws 1), .str (wAt ws 2)])) (p := pl) (o := .lst (ys5 ++ [.ref g])) fun u e => by rw [kg.get p5] at e; cases e; rfl
                      have im2 := kg.im0.trans imA
                      have kf : KB [f, rl, pl] H (upd (upd (upd H4 c (.tup [.str (wAt ws 1), .str (wAt ws 2)])) g (.tup [.str (wAt ws 1), .str (wAt ws 2)])) pl (.lst (ys5 ++ [.ref g]))) := (((k04.trans kc).trans kg).of).mut (by simp)
                      refine w_lenL (.of (by rw [upd_ne nwp]; exact kg.get (kc.get (k04.get hw)))) ?_
                      walk_at "w"
                      refine w_eq rfl ?_
                      walk_at "w"
                      rw [show decide (V.int ((ws.map V.str).length : Int) = V.int 3) = decide (ws.length = 3) from dec_len ws 3]
                      have nf := L.nf
                      by_cases h3 : ws.length = 3
                      · rw [decide_eq_true h3]
                        walk_at "w"
                        refine q1 { S with pairs := S.pairs ++ [(wAt ws 1, wAt ws 2)] } ((hrow _ hr).trans (if_pos h3)) (.ref th) _ kf ⟨by rw [upd_ne nf.2]; exact kg.get o5, h5.im im2, ⟨xs5, by rw [upd_ne n5]; exact kg.get r5, Paired.mono (fun _ _ z => z.im im2) r6⟩, ⟨_, upd_same, paired_snoc (Paired.mono (fun _ _ z => z.im im2) p6) ⟨g, rfl, imA.tup upd_same⟩⟩, n5⟩
                      · rw [decide_eq_false h3]
                        walk_at "w"
                        exact q0 3 ((hrow _ hr).trans (if_neg h3)) _ kf
          walk_at "w"
          refine w_gPairs rfl L1.o ?_
          walk_at "w"
          refine ⟨szb (by show 0 ≤ _; omega), fun b hb' => ?_⟩
          have kb := KB.new (KB.refl [] H1) hb' (o := .lst [])
          refine ⟨pl, b, ys, rfl, rfl, .of (kb.get (k1.get p1)), .of upd_same, ?_⟩
          rw [empty_iff p2]
          walk_at "w"
          cases he : S.pairs.isEmpty with
          | true =>
            refine w_nT ?_
            refine w_tup1 (w_cons (w_c (w_cons (w_c (w_nil ⟨szb (by show 2 ≤ _; omega), fun t ht => ?_⟩)))))
            have : S.pairs = [] := by simpa using he
            refine rest _ t ((k1.trans kb).new ht) ?_
            rw [upd_same, this]; rfl
          | false =>
            refine w_nF ?_
            obtain ⟨r, hr⟩ := last_some he
            obtain ⟨x, hx', t, rfl, ht⟩ := last_get p2 hr
            have el : lastPair S.pairs = r := by unfold lastPair; rw [hr]; rfl
            refine w_op (w_gPairs rfl (L.kb0 (k1.trans kb)).o (w_un (w_c (w_uI (σ := []) (w_ixL (.of (kb.get (k1.get p1))) (atI_last hx') ?_)))))
            refine rest _ t (k1.trans kb) ?_
            rw [el]
            exact (k1.trans kb).get ht
      · rw [decide_eq_false hb]
        refine w_nF ?_
        walk_at "w"
        exact q0 0 (bad0 (.inl hb)) H1 k1.of
    by_cases hp0 : wAt ws 0 = "part"
    · rw [decide_eq_true hp0]
      refine w_iT ?_
      walk_at "w"
      refine w_gPairs rfl L.o ?_
      walk_at "w"
      refine ⟨szb (by show 0 ≤ _; omega), fun b hb => ?_⟩
      have kb := KB.new (KB.refl [] H) hb (o := .lst [])
      refine ⟨pl, b, ys, rfl, rfl, .of (kb.get p1), .of upd_same, ?_⟩
      rw [empty_iff p2]
      walk_at "w"
      cases he : S.pairs.isEmpty with
      | false =>
        refine w_iF (w_iF (w_next ?_))
        exact bar _ kb (fun z => by rw [z.2.1] at he; cases he)
      | true =>
        have he' : S.pairs = [] := by simpa using he
        refine w_iT ?_
        walk_at "w"
        refine w_gRows rfl (kb.get L.o) ?_
        walk_at "w"
        refine w_lenL (.of (kb.get r1)) ?_
        walk_at "w"
        by_cases h12 : S.rows.length < 12
        · rw [decide_eq_true (by omega)]
          have hpart : wAt ws 0 = "part" ∧ S.pairs = [] ∧ S.rows.length < 12 := ⟨hp0, he', h12⟩
          refine w_iT ?_
          walk_at "w"
          refine ⟨wAt ws 1, rfl, at_len hz 1, fun H1 k1 => ?_⟩
          have k01 := kb.trans k1
          have L1 := L.kb0 k01
          have hrow : ∀ x, partIn S.rows ws = x → rowIn S ws = (match x with | .error e => .error e | .ok r => if r.2 = ws.length then .ok { S with rows := S.rows ++ [r.1] } else .error r.2) := fun x hx => by
            unfold rowIn
            rw [hS]
            dsimp only
            rw [if_pos hpart, hx]
            all_goals (cases x <;> rfl)
          have bad1 : (isName (wAt ws 1) && afterRow S.rows (wAt ws 1)) = false → rowIn S ws = .error 1 := fun h => by
            rw [hrow (.error 1) (by unfold partIn; rw [if_pos h])]
          walk_at "w"
          -- the call
          have callp : ∀ H2, KB [] H H2 → isName (wAt ws 1) = true → afterRow S.rows (wAt ws 1) = true → (tRet (tCall sp_l_part_in [] E0 (tCons (tVar 0) (tCons (tVar 1) (tCons (tVar 2) tNil))))) { nx := fun _ H' => Q .non H', rt := Q } [some (.ref f), some (.ref wl), some (.str (wAt ws 1)), none, none, none, none, none] H2 := by
            intro H2 k2 hn ha
            walk_at "w"
            refine ⟨f, wl, rl, pl, _, ws, S, rfl, L.kb0 k2, k2.get hw, hz, hzl, rle, nwr, hn, ha, fun e he H' k' => ?_, fun r k hr hk H' k' => ?_, fun r k hr hk H' k' L' => ?_⟩
            · exact q0 e (hrow _ he) H' (k2.of.trans k')
            · exact q0 k ((hrow _ hr).trans (if_neg hk)) H' (k2.of.trans k')
            · exact q1 _ ((hrow _ hr).trans (if_pos hk)) _ H' (k2.of.trans k') L'
          cases hn : isName (wAt ws 1) with
          | false =>
            walk_at "w"
            exact q0 1 (bad1 (by rw [hn]; rfl)) H1 k01.of
          | true =>
            walk_at "w"
            refine w_gRows rfl L1.o ?_
            walk_at "w"
            refine ⟨szb (by show 0 ≤ _; omega), fun b2 hb2 => ?_⟩
            have kb2 := KB.new (KB.refl [] H1) hb2 (o := .lst [])
            refine ⟨rl, b2, xs, rfl, rfl, .of (kb2.get (k01.get r1)), .of upd_same, ?_⟩
            rw [empty_iff r2]
            walk_at "w"
            cases hre : S.rows.isEmpty with
            | true =>
              refine w_nT (w_iF (w_next ?_))
              have : S.rows = [] := by simpa using hre
              exact callp _ (k01.trans kb2) hn (by rw [this]; rfl)
            | false =>
              refine w_nF ?_
              obtain ⟨r, hr⟩ := last_some hre
              obtain ⟨x, hx', t, v1, v2, rfl, ht, _⟩ := last_get r2 hr
              walk_at "w"
              refine w_gRows rfl (kb2.get L1.o) ?_
              walk_at "w"
              refine w_uI (σ := []) ?_
              refine w_ixL (.of (kb2.get (k01.get r1))) (atI_last hx') ?_
              walk_at "w"
              refine w_ixT (.of (kb2.get (k01.get ht))) (atI_nat (k := 0) rfl) ?_
              walk_at "w"
              have ea : afterRow S.rows (wAt ws 1) = decide (r.1.cps.toList < (wAt ws 1).cps.toList) := by unfold afterRow; rw [hr]; rfl
              cases ha : afterRow S.rows (wAt ws 1) with
              | true =>
                rw [← ea, ha]
                refine w_nT (w_next ?_)
                exact callp _ (k01.trans kb2) hn ha
              | false =>
                rw [← ea, ha]
                refine w_nF ?_
                walk_at "w"
                exact q0 1 (bad1 (by rw [hn, ha]; rfl)) _ (k01.trans kb2).of
        · rw [decide_eq_false (by omega)]
          refine w_iF (w_next ?_)
          exact bar _ kb (fun z => h12 z.2.2)
    · rw [decide_eq_false hp0]
      refine w_iF (w_iF (w_next ?_))
      exact bar H (KB.refl _ _) (fun z => hp0 z.1)
end
end WK
set_option Elab.async false
set_option linter.all false
set_option maxRecDepth 100000
set_option maxHeartbeats 4000000
namespace WK
open PySem PySem.Spec PyProof.Rows L2
theorem w_disp {trs : List (TE × TE)} {σ : L2.St} {H : Hp} {Q : VK} (q : ∀ p, H p = none → tPairs trs σ (upd H p (.dK [])) fun ps H2 => H2 p = some (.dK []) ∧ ∃ kvs : List (Key × V), ps = kvs.map (fun kv => (kV kv.1, kv.2)) ∧ kvs.length ≤ 15 ∧ Q (.ref p) (upd H2 p (.dK (mergeK [] kvs)))) : tDisp trs σ H Q := q
theorem w_pnil {σ : L2.St} {H : Hp} {Q : List (V × V) → Hp → Prop} (q : Q [] H) : tPairs [] σ H Q := q
theorem w_pcons {tk tv : TE} {r : List (TE × TE)} {σ : L2.St} {H : Hp} {Q : List (V × V) → Hp → Prop} (q : tk σ H fun x H1 => tv σ H1 fun y H2 => tPairs r σ H2 fun ps H3 => Q ((x, y) :: ps) H3) : tPairs ((tk, tv) :: r) σ H Q := q
theorem merge_lf (rl pl : Addr) : mergeK [] (lfK .non rl pl) = lfK .non rl pl := by
  have a : ∀ (kvs : List (Key × V)) (k : Key) (v : V), valV kvs k = none → putK kvs k v = kvs ++ [(k, v)] := fun kvs k v h => putK_new v h
  have d1 : ¬ ((Sum.inr ("head" : Str) : Key) = Sum.inr ("rows" : Str)) := by simp; decide
  have d2 : ¬ ((Sum.inr ("head" : Str) : Key) = Sum.inr ("pairs" : Str)) := by simp; decide
  have d3 : ¬ ((Sum.inr ("rows" : Str) : Key) = Sum.inr ("pairs" : Str)) := by simp; decide
  have s1 : putK ([] : List (Key × V)) (Sum.inr ("head" : Str)) V.non = [(Sum.inr ("head" : Str), V.non)] := a [] _ _ rfl
  have s2 : putK ([(Sum.inr ("head" : Str), V.non)] : List (Key × V)) (Sum.inr ("rows" : Str)) (V.ref rl) = [(Sum.inr ("head" : Str), V.non), (Sum.inr ("rows" : Str), V.ref rl)] := a _ _ _ (by rw [valV_neg d1]; rfl)
  have s3 : putK ([(Sum.inr ("head" : Str), V.non), (Sum.inr ("rows" : Str), V.ref rl)] : List (Key × V)) (Sum.inr ("pairs" : Str)) (V.ref pl) = lfK .non rl pl := a _ _ _ (by rw [valV_neg d2, valV_neg d3]; rfl)
  show putK (putK (putK ([] : List (Key × V)) (Sum.inr ("head" : Str)) V.non) (Sum.inr ("rows" : Str)) (V.ref rl)) (Sum.inr ("pairs" : Str)) (V.ref pl) = _
  rw [s1, s2, s3]
def sp_l_due (K : PySem.W.Frag) : Sp := fun vs H Q _ => ∃ v : V, vs = [v] ∧
  ((∃ z : Str, v = .str z ∧ z.length ≤ 8000000 ∧ (∀ r k, textIn z = .error (r, k) → ∀ t H', KB [] H H' → H' t = some (.tup [.str "text", .int r, .int k]) → Q (.ref t) H') ∧
      (∀ S, textIn z = .ok S → ∀ hd, S.head = some hd → ∀ l pv H', KB [] H H' → H' l = some (.lst [pv]) → PlainO H' pv hd S.rows S.pairs → Q (.ref l) H')) ∨
    ∃ t, TyX K H v t ∧ PySem.W.kitOne K t (.type "str") = some false ∧ ∀ t' H', KB [] H H' → H' t' = some (.tup [.str "text", .int 0, .int 0]) → Q (.ref t') H')
/-- steps that need no fact -/
local macro_rules | `(tactic| walk_at "w") => `(tactic| repeat (first
  | with_reducible refine w_seq ?_ | with_reducible refine w_asg ?_ | with_reducible refine w_ret ?_ | with_reducible refine w_drp ?_ | with_reducible refine w_next ?_ | with_reducible refine w_if ?_
  | ((with_reducible refine' w_var ?_ ?_); rotate_left; rfl) | with_reducible refine w_c ?_ | with_reducible refine w_op ?_ | with_reducible refine w_un ?_ | with_reducible refine w_test ?_ | with_reducible refine w_tB ?_ | with_reducible refine w_bl ?_
  | with_reducible refine w_and ?_ | with_reducible refine w_or ?_ | with_reducible refine w_not ?_ | with_reducible refine w_andV ?_ | with_reducible refine w_orV ?_ | with_reducible refine w_notV ?_ | with_reducible refine w_ebl ?_
  | with_reducible refine w_ifE ?_ | with_reducible refine w_nil ?_ | with_reducible refine w_cons ?_ | with_reducible refine w_cb ?_ | with_reducible refine w_call ?_ | with_reducible refine w_chain ?_ | with_reducible refine w_I0 ?_
  | with_reducible refine w_isN ?_ | with_reducible refine w_notN ?_ | with_reducible refine w_ltS ?_ | with_reducible refine w_leS ?_ | with_reducible refine w_m1 ?_ | with_reducible refine w_m1s ?_
  | with_reducible refine w_iT ?_ | with_reducible refine w_iF ?_ | with_reducible refine w_nT ?_ | with_reducible refine w_nF ?_ | with_reducible refine w_yes ?_ | with_reducible refine w_sfld ?_ | with_reducible refine w_lc ?_ | with_reducible refine w_for ?_ | with_reducible refine w_iStr ?_ | with_reducible refine w_iTup ?_ | with_reducible refine w_iList ?_ | with_reducible refine w_tup1 ?_ | with_reducible refine w_callN ?_ | with_reducible refine w_iZip ?_ | with_reducible refine w_sl ?_ | with_reducible refine w_part ?_ | with_reducible refine w_noPart ?_ | with_reducible refine w_eInt ?_ | with_reducible refine w_gN ?_ | with_reducible refine w_bm ?_ | with_reducible refine w_lst1 ?_ | ((with_reducible refine' w_aug ?_ ?_); rotate_left; rfl) | with_reducible refine w_ost ?_ | with_reducible refine w_rz ?_ | with_reducible refine w_gSub ?_ | with_reducible refine w_intB ?_))

section
variable {K : PySem.W.Frag} {w : World} {mg : Str → Option Value} {vs : List V} {H : Hp} {Q : VK} {E : XK}
theorem rd_l_due (T : Tx w K mg) (h : sp_l_due K vs H Q E) : t_l_due K sp_l_row_in { nx := fun _ H' => Q .non H', rt := Q } (start N_l_due vs) H := by
  obtain ⟨v, rfl, h⟩ := h
  unfold t_l_due
  walk_at "w"
  rcases h with ⟨z, rfl, hz, q0, q1⟩ | ⟨t, ty, ek, q0⟩
  · refine w_isi (.base (.str _)) (.ty _) T.is_StSt ?_
    walk_at "w"
    refine w_disp fun f hf => ?_
    refine w_pcons (w_c (w_c (w_pcons (w_c ?_))))
    refine w_lst1 (w_nil ⟨szb (by show 0 ≤ _; omega), fun rl hrl => ?_⟩)
    refine w_pcons (w_c (w_lst1 (w_nil ⟨szb (by show 0 ≤ _; omega), fun pl hpl => ?_⟩)))
    have n1 : f ≠ rl := fun e => by rw [← e, upd_same] at hrl; cases hrl
    have n2 : f ≠ pl := fun e => by rw [← e, upd_ne n1, upd_same] at hpl; cases hpl
    have n3 : rl ≠ pl := fun e => by rw [← e, upd_same] at hpl; cases hpl
    refine w_pnil ⟨by rw [upd_ne n2, upd_ne n1, upd_same], lfK .non rl pl, rfl, by show 3 ≤ 15; decide, ?_⟩
    rw [merge_lf]
    have hr0 : H rl = none := by rw [upd_ne (Ne.symm n1)] at hrl; exact hrl
    have hp0 : H pl = none := by rw [upd_ne (Ne.symm n3), upd_ne (Ne.symm n2)] at hpl; exact hpl
    have k0 : KB [] H (upd (upd (upd (upd H f (.dK [])) rl (.lst [])) pl (.lst [])) f (.dK (lfK .non rl pl))) := ((((KB.refl [] H).new hf).mutN hr0).mutN hp0).mutN hf
    have L0 : LfO (upd (upd (upd (upd H f (.dK [])) rl (.lst [])) pl (.lst [])) f (.dK (lfK .non rl pl))) f rl pl .non ⟨none, [], []⟩ :=
      ⟨upd_same, rfl, ⟨[], by rw [upd_ne (Ne.symm n1), upd_ne n3, upd_same], .nil⟩, ⟨[], by rw [upd_ne (Ne.symm n2), upd_same], .nil⟩, n3⟩
    walk_at "w"
    obtain ⟨sl1, sl2⟩ := split_len (x := z) (y := "\n") (by rw [sepN]; simp) k256_N
    refine w_iEnum ?_
    walk_at "w"
    refine w_split (by decide) (szb (by omega)) fun xl hxl => ?_
    walk_at "w"
    refine ⟨xl, _, rfl, .of upd_same, ?_⟩
    have kx := KB.new (KB.refl [] _) hxl (o := .lst ((Txt.split z "\n").map V.str))
    have nx1 : xl ≠ f := fun e => by have := L0.o; rw [e] at hxl; rw [hxl] at this; cases this
    have nx2 : xl ≠ rl := fun e => by obtain ⟨_, this, _⟩ := L0.r; rw [e] at hxl; rw [hxl] at this; cases this
    have nx3 : xl ≠ pl := fun e => by obtain ⟨_, this, _⟩ := L0.p; rw [e] at hxl; rw [hxl] at this; cases this
    refine forG (walk_enum (xs := (Txt.split z "\n").map V.str)) (fun i σ2 H2 => ∃ (S : Acc) (hv : V) (u2 u3 u4 u5 : Option V), σ2 = [some (.str z), some (.ref f), u2, u3, u4, u5] ∧ KB [] H H2 ∧ H2 xl = some (.lst ((Txt.split z "\n").map V.str)) ∧ LfO H2 f rl pl hv S ∧ Good S ∧ Shape S ∧ readRows ((Txt.split z "\n").drop i) i S = textIn z ∧ (0 < i → S.head ≠ none))
      ⟨⟨none, [], []⟩, .non, none, none, none, none, rfl, k0.trans kx, upd_same, L0.kb0 kx, good0, fun _ => ⟨rfl, rfl⟩, rfl, fun h => absurd h (by omega)⟩ (fun i σ2 H2 hi P => ?_) (fun i x σ2 H2 H3 hi P y => ?_) (fun σ2 H2 P => ?_)
    · obtain ⟨S, hv, u2, u3, u4, u5, rfl, k, hq, _⟩ := P; exact .of hq
    · obtain ⟨S, hv, u2, u3, u4, u5, rfl, k, hq, L, G, Sh, hres, hhd⟩ := P
      obtain ⟨t, x1, x2, rfl, ht, rfl, e1, e2⟩ := y
      have e1 : some (V.int (i : Nat)) = some x1 := e1
      have e2 : ((Txt.split z "\n").map V.str)[i]? = some x2 := e2
      rw [List.getElem?_map] at e2
      obtain ⟨r, hr, rfl⟩ := Option.map_eq_some_iff.mp e2
      cases e1
      have hi' : i < (Txt.split z "\n").length := by simpa using hi
      have er : (Txt.split z "\n")[i] = r := by rw [List.getElem?_eq_getElem hi'] at hr; exact Option.some.inj hr
      have rlen : r.length ≤ z.length := sl1 r (List.mem_of_getElem? hr)
      obtain ⟨M1, M2⟩ := split_len (x := r) (y := " ") (by rw [sep1]; simp) k256_1
      have hres' := hres
      rw [List.drop_eq_getElem_cons hi', er] at hres'
      unfold readRows at hres'
      refine w_gTup2 (.of upd_same) ?_
      have kt := KB.new (KB.refl [] H2) ht (o := .tup [.int (i : Nat), .str r])
      walk_at "w"
      refine w_split (by decide) (szb (by omega)) fun wl hwl => ?_
      walk_at "w"
      refine w_inL (.of upd_same) rfl (flat_strs _) ?_
      rw [if_neg Bool.false_ne_true, inV_str]
      have kw := KB.new (KB.refl [] (upd H2 t (.tup [.int (i : Nat), .str r]))) hwl (o := .lst ((Txt.split r " ").map V.str))
      have k03 := (k.trans kt).trans kw
      have ec : (((i + 1 : Nat) : Nat) : Int) = (i : Int) + 1 := by omega
      walk_at "w"
      cases hc : (Txt.split r " ").contains "" with
      | true =>
        rw [if_pos hc] at hres'
        walk_at "w"
        refine ⟨szb (by show 3 ≤ _; omega), fun g hg => ?_⟩
        refine q0 _ _ hres'.symm g _ (k03.new hg) ?_
        rw [upd_same, ec]; rfl
      | false =>
        rw [if_neg (by rw [hc]; simp)] at hres'
        walk_at "w"
        have L3 := L.kb0 (kt.trans kw)
        obtain ⟨xs, a1, _⟩ := (L.kb0 kt).r
        obtain ⟨ys, a2, _⟩ := (L.kb0 kt).p
        have nw1 : wl ≠ rl := fun e => by rw [e, a1] at hwl; cases hwl
        have nw2 : wl ≠ pl := fun e => by rw [e, a2] at hwl; cases hwl
        have lne : 0 < (Txt.split r " ").length := List.length_pos_iff.mpr (split_ne r " " (by rw [sep1]; simp) k256_1)
        refine ⟨f, wl, rl, pl, hv, Txt.split r " ", S, rfl, L3, upd_same, fun z' hz' => by have := M1 z' hz'; omega, by omega, lne, nw1, nw2, G, fun e he H5 k5 => ?_, fun S' hS' hv' H5 k5 L5 => ?_⟩
        · rw [he] at hres'
          walk_at "w"
          rw [decide_eq_false (by simp)]
          walk_at "w"
          refine ⟨szb (by show 3 ≤ _; omega), fun g hg => ?_⟩
          have k05 : KB [] H H5 := ((k03.of (S := [f, rl, pl])).trans k5).drop fun b hb => by
            simp only [List.mem_cons, List.not_mem_nil, or_false] at hb
            rcases hb with rfl | rfl | rfl <;> exact .inr (by assumption)
          refine q0 _ _ hres'.symm g _ (k05.new hg) ?_
          have ec2 : ((e + 1 : Nat) : Int) = (e : Int) + 1 := by omega
          rw [upd_same, ec, ec2]
        · rw [hS'] at hres'
          dsimp only at hres'
          obtain ⟨G', Sh', hne', _⟩ := row_good hS' G Sh
          walk_at "w"
          rw [decide_eq_true rfl]
          walk_at "w"
          have k05 : KB [] H H5 := ((k03.of (S := [f, rl, pl])).trans k5).drop fun b hb => by
            simp only [List.mem_cons, List.not_mem_nil, or_false] at hb
            rcases hb with rfl | rfl | rfl <;> exact .inr (by assumption)
          exact ⟨S', hv', _, _, _, _, rfl, k05, k5 _ _ ((kt.trans kw).get hq) (by simp [nx1, nx2, nx3]), L5, G', Sh', hres', fun _ => hne'⟩
    · obtain ⟨S, hv, u2, u3, u4, u5, rfl, k, hq, L, G, Sh, hres, hhd⟩ := P
      rw [List.length_map] at hres hhd
      rw [List.drop_of_length_le (Nat.le_refl _)] at hres
      have hpos : 0 < (Txt.split z "\n").length := List.length_pos_iff.mpr (split_ne z "\n" (by rw [sepN]; simp) k256_N)
      have hS : textIn z = .ok S := hres.symm
      obtain ⟨hd, hh⟩ := Option.ne_none_iff_exists'.mp (hhd hpos)
      obtain ⟨o, lh, ⟨xs, r1, r2⟩, ⟨ys, p1, p2⟩, n⟩ := L
      rw [hh] at lh
      obtain ⟨th, tp, rfl, hth, htp⟩ := lh
      walk_at "w"
      refine w_gHead rfl o ?_
      walk_at "w"
      refine w_gRows rfl o ?_
      walk_at "w"
      refine w_tupL (.of r1) fun rt hrt => ?_
      walk_at "w"
      have kA := KB.new (KB.refl [] H2) hrt (o := .tup xs)
      refine w_gPairs rfl (kA.get o) ?_
      walk_at "w"
      refine w_tupL (.of (kA.get p1)) fun pt hpt => ?_
      walk_at "w"
      have kB := kA.new hpt (o := .tup ys)
      refine ⟨szb (by show 2 ≤ _; omega), fun g hg => ?_⟩
      have kC := kB.new hg (o := .tup [.ref rt, .ref pt])
      refine ⟨th, g, _, _, rfl, rfl, .of (kC.get hth), .of upd_same, szb (by show 4 ≤ _; omega), (fun e => absurd e (by simp)), (fun _ e => absurd e (by simp)), fun _ _ u hu => ?_⟩
      walk_at "w"
      refine ⟨szb (by show 1 ≤ _; omega), fun l hl => ?_⟩
      have kD := kC.new hu (o := .tup ([.str hd.1, .ref tp] ++ [.ref rt, .ref pt]))
      have kE := kD.new hl (o := .lst [.ref u])
      have imE := kE.im0
      refine q1 S hS hd hh l (.ref u) _ (k.trans kE) upd_same ⟨u, tp, rt, pt, xs, ys, rfl, upd_get hl upd_same, imE.tup htp, upd_get hl (upd_get hu (upd_get hg (upd_get hpt upd_same))), Paired.mono (fun _ _ z => z.im imE) r2, upd_get hl (upd_get hu (upd_get hg upd_same)), Paired.mono (fun _ _ z => z.im imE) p2⟩
  · refine w_isi ty (.ty _) ek ?_
    walk_at "w"
    exact ⟨szb (by show 3 ≤ _; omega), fun g hg => q0 g _ (KB.new (KB.refl _ _) hg) upd_same⟩
end
end WK
set_option Elab.async false
set_option linter.all false
set_option maxRecDepth 100000
set_option maxHeartbeats 4000000
namespace WK
open PySem PySem.Spec PyProof.Rows L2
/-- steps that need no fact -/
local macro_rules | `(tactic| walk_at "w") => `(tactic| repeat (first
  | with_reducible refine w_seq ?_ | with_reducible refine w_asg ?_ | with_reducible refine w_ret ?_ | with_reducible refine w_drp ?_ | with_reducible refine w_next ?_ | with_reducible refine w_if ?_
  | ((with_reducible refine' w_var ?_ ?_); rotate_left; rfl) | with_reducible refine w_c ?_ | with_reducible refine w_op ?_ | with_reducible refine w_un ?_ | with_reducible refine w_test ?_ | with_reducible refine w_tB ?_ | with_reducible refine w_bl ?_
  | with_reducible refine w_and ?_ | with_reducible refine w_or ?_ | with_reducible refine w_not ?_ | with_reducible refine w_andV ?_ | with_reducible refine w_orV ?_ | with_reducible refine w_notV ?_ | with_reducible refine w_ebl ?_
  | with_reducible refine w_ifE ?_ | with_reducible refine w_nil ?_ | with_reducible refine w_cons ?_ | with_reducible refine w_cb ?_ | with_reducible refine w_call ?_ | with_reducible refine w_chain ?_ | with_reducible refine w_I0 ?_
  | with_reducible refine w_isN ?_ | with_reducible refine w_notN ?_ | with_reducible refine w_ltS ?_ | with_reducible refine w_leS ?_ | with_reducible refine w_m1 ?_ | with_reducible refine w_m1s ?_
  | with_reducible refine w_iT ?_ | with_reducible refine w_iF ?_ | with_reducible refine w_nT ?_ | with_reducible refine w_nF ?_ | with_reducible refine w_yes ?_ | with_reducible refine w_sfld ?_ | with_reducible refine w_lc ?_ | with_reducible refine w_for ?_ | with_reducible refine w_iStr ?_ | with_reducible refine w_iTup ?_ | with_reducible refine w_iList ?_ | with_reducible refine w_tup1 ?_ | with_reducible refine w_callN ?_ | with_reducible refine w_iZip ?_ | with_reducible refine w_sl ?_ | with_reducible refine w_part ?_ | with_reducible refine w_noPart ?_ | with_reducible refine w_eInt ?_ | with_reducible refine w_gN ?_ | with_reducible refine w_bm ?_ | with_reducible refine w_lst1 ?_ | ((with_reducible refine' w_aug ?_ ?_); rotate_left; rfl) | with_reducible refine w_ost ?_ | with_reducible refine w_rz ?_ | with_reducible refine w_gSub ?_ | with_reducible refine w_intB ?_))

/-! ### told: a lambda without parameters, called inside try -/
abbrev st_l_told : Stmt := top 49
abbrev N_l_told : List Str := ["_law_deed", "_law_error", "_law_found", "e"]
theorem sc_l_told : FnScope ["_law_deed", "_law_error", "_law_found", "e"] ["_law_deed"] (defScope st_l_told) := ⟨rfl, rfl, rfl, by decide +kernel, rfl, by decide +kernel, by decide +kernel⟩
abbrev CSs (K : PySem.W.Frag) : List Value := [.ref (He.ga K "BadValue"), .ref (He.ga K "NoSuch"), .ref (He.ga K "OutOfOrder"), .ref (He.ga K "Full")]
/-- what becomes of an exception -/
def EchT (K : PySem.W.Frag) (Q : VK) : XK := fun cls d H' => PySem.W.exmAny K cls (CSs K) = some true ∧ ∀ a, H' a = none → sp_l_class K [.ref a] (upd H' a (ExK cls d a)) Q C8.E0
def TTk (K : PySem.W.Frag) : (XK → Hp → VK → Prop) → Hp → VK → Prop := fun tl H Q => ∀ l0, H l0 = none → tl (EchT K Q) (upd H l0 (.lst [])) (fun v H2 => ∀ l, H2 l = none → Q (.ref l) (upd H2 l (.lst [v])))
theorem Takes.len {X : Cx} {W : WX} (t : Takes X W) : Takes X (fun c d σ H => σ.length = X.N.length → W c d σ H) := fun u s' ⟨a, B, sI, pins, σ, H, cls, d, e, I, nb, up, sky, na, os, ag, h⟩ => t u s' ⟨a, B, sI, pins, σ, H, cls, d, e, I, nb, up, sky, na, os, ag, h I.len⟩
theorem told_gives {X : Cx} {kk : Nat} {g : Addr} {cdg : Value} {q : Str} (T : Tx X.w X.K X.mg) (hr : Room (kk + 1) X.A) (hkk : 1 ≤ kk) (G : DefOk X.prog X.w X.K X.mg X.base 1 "_law_class" ["_law_error"] [] (sp_l_class X.K)) :
    LamX.GivesTo X N_l_told "_law_told" (defScope st_l_told) g cdg (defBody st_l_told) "_law_deed" q (TTk X.K) := by
  intro f c' s H Q tl act hc h
  refine ⟨_, pss_cons (ps_set (i := 1) sc_l_told.nd rfl (Or.inl rfl) pe_non) (pss_cons (ps_set (i := 2) sc_l_told.nd rfl (Or.inl rfl) (pe_lst pa_nil))
    (pss_cons (ps_try_keep (X := (cxOf C8.CX0 X.prog X.w X.K X.mg X.base N_l_told "_law_told" (defScope st_l_told) g cdg X.A X.stack s H C8.E0).nox) (i := 3)
        (tb := fun W D σ H => ∃ Ech : XK, (∀ cls d σ' H', Ech cls d H' → σ'.length = 4 → W cls d σ' H') ∧ σ[0]? = some (some (.ref f)) ∧ H c' = some (LamX.CodeO c' q) ∧ tl Ech H (fun v H2 => 1 ≤ sizeLine ∧ ∀ l, H2 l = none → D.nx (σ.set 2 (some (.ref l))) (upd H2 l (.lst [v]))))
        rfl rfl rfl sc_l_told.nd rfl rfl rfl T.g_BadValue rfl T.g_NoSuch rfl T.g_OutOfOrder rfl T.g_Full (fun W pn xe tk _ => ?_) (fun a pn => pss_one (ps_set (i := 1) sc_l_told.nd rfl (Or.inl rfl) (pv 3))))
      (pss_one (ps_ret (pe_ifExp (pt_cmpR o_isN (pv 1) pe_non (nomark _)) (pv 2) (pe_callD G (hr.deeper _) hkk rfl passL (pa_cons (pv 1) pa_nil))))))), ?_⟩
  · refine ⟨fun pins s' σ H' D I h' => ?_⟩
    obtain ⟨Ech, hW, h1, h2, h3⟩ := h'
    exact (pss_one (ps_set (i := 2) sc_l_told.nd rfl (Or.inl rfl) (pe_lst (pa_cons (act _ pn xe Ech _ _ (Takes.len tk) (fun cls d σ' H' e => hW cls d σ' H' e)) pa_nil)))).run pins s' σ H' D I ⟨h1, h2, h3⟩
  · refine ⟨szb (by show 0 ≤ _; omega), fun l0 hl0 => ?_⟩
    refine ⟨EchT X.K Q, fun cls d σ' H' e hlen => ?_, rfl, ?_, ?_⟩
    · obtain ⟨e1, e2⟩ := e
      refine ⟨e1, fun a ha => ?_⟩
      obtain ⟨x0, x1, x2, x3, rfl⟩ : ∃ x0 x1 x2 x3, σ' = [x0, x1, x2, x3] := by
        match σ', hlen with
        | [x0, x1, x2, x3], _ => exact ⟨x0, x1, x2, x3, rfl⟩
      walk_at "w"
      rw [decide_eq_false (by simp), if_neg Bool.false_ne_true]
      exact ⟨_, rfl, e2 a ha⟩
    · rw [upd_ne (ne_of_none hc hl0)]; exact hc
    · have h4 := h l0 hl0
      refine Eq.mp (congrArg (tl _ _) ?_) h4
      funext v H2
      refine propext ⟨fun z => ⟨szb (by omega), fun l hl => ?_⟩, fun z l hl => ?_⟩
      · walk_at "w"
        rw [decide_eq_true rfl, if_pos rfl]
        exact ⟨_, rfl, z l hl⟩
      · obtain ⟨v1, e1, z⟩ := z.2 l hl
        cases e1
        obtain ⟨_, k, ek, z⟩ := z
        have ek : V.bl (decide (V.non = V.non)) = V.bl k := ek
        rw [decide_eq_true rfl] at ek
        cases ek
        have z : tVar 2 [some (V.ref f), some V.non, some (V.ref l), none] (upd H2 l (.lst [v])) Q := z
        obtain ⟨v2, e2, z⟩ := z
        cases e2
        exact z

end WK
set_option Elab.async false
set_option linter.all false
set_option maxRecDepth 100000
set_option maxHeartbeats 4000000
namespace WK
open PySem PySem.Spec PyProof.Rows L2
/-- steps that need no fact -/
local macro_rules | `(tactic| walk_at "w") => `(tactic| repeat (first
  | with_reducible refine w_seq ?_ | with_reducible refine w_asg ?_ | with_reducible refine w_ret ?_ | with_reducible refine w_drp ?_ | with_reducible refine w_next ?_ | with_reducible refine w_if ?_
  | ((with_reducible refine' w_var ?_ ?_); rotate_left; rfl) | with_reducible refine w_c ?_ | with_reducible refine w_op ?_ | with_reducible refine w_un ?_ | with_reducible refine w_test ?_ | with_reducible refine w_tB ?_ | with_reducible refine w_bl ?_
  | with_reducible refine w_and ?_ | with_reducible refine w_or ?_ | with_reducible refine w_not ?_ | with_reducible refine w_andV ?_ | with_reducible refine w_orV ?_ | with_reducible refine w_notV ?_ | with_reducible refine w_ebl ?_
  | with_reducible refine w_ifE ?_ | with_reducible refine w_nil ?_ | with_reducible refine w_cons ?_ | with_reducible refine w_cb ?_ | with_reducible refine w_call ?_ | with_reducible refine w_chain ?_ | with_reducible refine w_I0 ?_
  | with_reducible refine w_isN ?_ | with_reducible refine w_notN ?_ | with_reducible refine w_ltS ?_ | with_reducible refine w_leS ?_ | with_reducible refine w_m1 ?_ | with_reducible refine w_m1s ?_
  | with_reducible refine w_iT ?_ | with_reducible refine w_iF ?_ | with_reducible refine w_nT ?_ | with_reducible refine w_nF ?_ | with_reducible refine w_yes ?_ | with_reducible refine w_sfld ?_ | with_reducible refine w_lc ?_ | with_reducible refine w_for ?_ | with_reducible refine w_iStr ?_ | with_reducible refine w_iTup ?_ | with_reducible refine w_iList ?_ | with_reducible refine w_tup1 ?_ | with_reducible refine w_callN ?_ | with_reducible refine w_iZip ?_ | with_reducible refine w_sl ?_ | with_reducible refine w_part ?_ | with_reducible refine w_noPart ?_ | with_reducible refine w_eInt ?_ | with_reducible refine w_gN ?_ | with_reducible refine w_bm ?_ | with_reducible refine w_lst1 ?_ | ((with_reducible refine' w_aug ?_ ?_); rotate_left; rfl) | with_reducible refine w_ost ?_ | with_reducible refine w_rz ?_ | with_reducible refine w_gSub ?_ | with_reducible refine w_intB ?_))

/-! ### right -/
abbrev st_l_right : Stmt := top 60
abbrev N_l_right : List Str := ["_law_text_here", "_law_found", "_law_due_here"]
theorem sc_l_right : FnScope ["_law_text_here", "_law_found", "_law_due_here"] ["_law_text_here"] (defScope st_l_right) := ⟨rfl, rfl, rfl, by decide +kernel, rfl, by decide +kernel, by decide +kernel⟩
def lamQ : Str := (envOfC "_law_right" (defScope st_l_right) 0 0 Value.none).qual ++ "<lambda>"
def ToldOk (K : PySem.W.Frag) (mg : Str → Option Value) : Prop := ∃ (g : Addr) (oc : Value) (od : Option Addr) (dV kV doc pm : Value) (an : Option Addr) (cdv ct : Value) (osl : Array (Option Value)),
  mg "_law_told" = some (.ref g) ∧ PySem.W.keepIn K (.ref g) = true ∧ K.lookup g = some ⟨oc, od, .func (PySem.W.fnOf "_law_told" "_law_told" (defArgs st_l_told) (defBody st_l_told) (defScope st_l_told) dV kV doc pm an cdv ct), osl⟩ ∧
  PySem.W.codeIn K cdv "_law_told" = true ∧ L2.Binds K (PySem.W.fnOf "_law_told" "_law_told" (defArgs st_l_told) (defBody st_l_told) (defScope st_l_told) dV kV doc pm an cdv ct) ["_law_deed"] []
def EqOk (P : Program) (w : World) (K : PySem.W.Frag) (mg : Str → Option Value) (base : Heap) (k : Nat) (C : Addr) (ps : List Str) (R : Addr → Addr → Hp → Prop) : Prop :=
  ∃ f fd, FnOk P w K mg base (L2.CX P w) k f fd ps (spEq R) ∧ PySem.W.findIn K (.ref C) "__eq__" = some (some (.ref f)) ∧ PySem.W.isFn K (.ref f) = true ∧ Binds K fd ps []
def t_l_right (K : PySem.W.Frag) (tabs : List (Addr × Str)) : TS :=
  tSeq (tPar 1 2 (tCons (LamX.tLam tabs (TTk K) (fun E => tCall (sp_read_sort K) [] E (tCons (tVar 0) tNil))) (tCons (tCall (sp_l_due K) [] E0 (tCons (tVar 0) tNil)) tNil)))
  (tSeq (tIfS (tB (tCB (rIsi K) (tCons (tVar 2) (tCons (tC (.ty "tuple")) tNil)))) (tRet (tOp (rEqD K) (tVar 1) (tVar 2))) tNext)
  (tSeq (tIfS (tOr (tNot (tB (tCB (rIsi K) (tCons (tVar 1) (tCons (tC (.ty "list")) tNil))))) (tNot (tB (tCB (rIsi K) (tCons (tOp (rIxL K) (tVar 1) (tC (.int 0))) (tCons (tC (.ref (He.ga K "Sort"))) tNil)))))) (tRet (tC (.bl false))) tNext)
  (tRet (tAndV (tOp (rEqG (DIns (He.ga K "Sort") (SameS K))) (tOp (rIxL K) (tVar 1) (tC (.int 0))) (tCall (sp_l_sort K) [] E0 (tCons (tOp (rIxL K) (tVar 2) (tC (.int 0))) tNil)))
    (tOp rEq (tCB (qStrO (He.ga K "Sort") (sp_Sort_str K)) (tCons (tOp (rIxL K) (tVar 1) (tC (.int 0))) tNil)) (tVar 0))))))
theorem dv_l_right {P : Program} {w : World} {K : PySem.W.Frag} {mg : Str → Option Value} {base : Heap} {f : Addr} {cd : Value} {A : Around} {outer : List Env} {s : Shared} {H : Hp} {E : XK} {c Pt : Addr} (T : Tx w K mg)
    (hr : Room 17 (A.deeper (envOfC "_law_right" (defScope st_l_right) s.heap.objs.size f cd))) (hcd : cd = .ref c) (TB : LamX.TabB base mg c Pt)
    (G_told : ToldOk K mg) (G_class : DefOk P w K mg base 1 "_law_class" ["_law_error"] [] (sp_l_class K)) (G_read : DefOk P w K mg base 13 "read_sort" ["text"] [] (sp_read_sort K))
    (G_due : DefOk P w K mg base 5 "_law_due" ["_law_text_here"] [] (sp_l_due K)) (G_sort : DefOk P w K mg base 6 "_law_sort" ["_law_plain"] [] (sp_l_sort K))
    (G_eq : EqOk P w K mg base 7 (He.ga K "Sort") ["self", "other"] (SameS K)) (M_str : MetOk P w K mg base 7 (He.ga K "Sort") "__str__" ["self"] [] (sp_Sort_str K)) :
    PSs (cxOf (L2.CX P w) P w K mg base ["_law_text_here", "_law_found", "_law_due_here"] "_law_right" (defScope st_l_right) f cd A outer s H E).nox (defBody st_l_right) (t_l_right K [(Pt, lamQ)]) := by
  obtain ⟨g, oc, od, dV, kV, doc, pm, an, cdv, ct, osl, gm, gk, glk, gcd, gb⟩ := G_told
  obtain ⟨fe, fed, FE, eq1, eq2, eq3⟩ := G_eq
  unfold t_l_right
  exact (pss_cons (ps_par (i := 1) (j := 2) rfl sc_l_right.nd rfl rfl (by decide) rfl rfl
      (pa_cons (LamX.pe_lamcall (k := 14) rfl gm gk glk gcd gb sc_l_told rfl (Or.inl rfl)
          (told_gives T (hr.mono (by decide)) (by decide : 1 ≤ 14) G_class) TB hcd (by exact List.mem_singleton.mpr rfl) (fun p hp _ => by rw [List.mem_singleton.mp hp]; rfl) (hr.mono (by decide)) (LamX.lamS_by (by show LamX.lamSB (defScope st_l_right) _ = true; decide +kernel)) rfl (fun _ _ _ _ _ => rfl)
          (fun A outer s H E f c' hr2 => pe_callD G_read hr2 (by decide) rfl (passes_call (takes_of rfl rfl rfl rfl) (fun _ _ _ _ h => h)) (pa_cons (pv 0) pa_nil)))
        (pa_cons (pe_callD G_due hr (by decide) rfl passL (pa_cons (pv 0) pa_nil)) pa_nil)) (by rfl))
    (pss_cons (ps_if (pt_val (pe_callB call_isi rfl T.n_isinstance (by decide +kernel) (pa_cons (pv 2) (pa_cons (pe_bltn rfl T.n_tuple (by decide +kernel) rfl) pa_nil)))) (pss_one (ps_ret (pe_cmpR (op_eqD hr.units) (pv 1) (pv 2) (nomark _)))) pss_nil)
    (pss_cons (ps_if (PW.pt (pw_or (pt_not (pt_val (pe_callB call_isi rfl T.n_isinstance (by decide +kernel) (pa_cons (pv 1) (pa_cons (pe_bltn rfl T.n_list (by decide +kernel) rfl) pa_nil)))))
        (pw_or1 (pt_not (pt_val (pe_callB call_isi rfl T.n_isinstance (by decide +kernel) (pa_cons (pe_ix ix_list (pv 1) pe_int (fun _ _ => rfl)) (pa_cons (pe_glob rfl T.g_Sort rfl) pa_nil)))))))) (pss_one (ps_ret pe_bl)) pss_nil)
    (pss_one (ps_ret (pe_and (pe_cmpR (op_eqG (rcG_ins FE eq1 eq2 eq3 passL) (hr.mono (by decide))) (pe_ix ix_list (pv 1) pe_int (fun _ _ => rfl)) (pe_callD G_sort hr (by decide) rfl passL (pa_cons (pe_ix ix_list (pv 2) pe_int (fun _ _ => rfl)) pa_nil)) (nomark _))
      (pe_one (pe_cmpR op_eq (pe_callTy (c_strO T.cl_Sort hr (by decide) M_str passL) rfl T.n_str (by decide +kernel) (pa_cons (pe_ix ix_list (pv 1) pe_int (fun _ _ => rfl)) pa_nil)) (pv 0) (nomark _)))))))))
end WK
set_option Elab.async false
set_option linter.all false
set_option maxRecDepth 100000
set_option maxHeartbeats 4000000
namespace WK
open PySem PySem.Spec PyProof.Rows L2
/-- steps that need no fact -/
local macro_rules | `(tactic| walk_at "w") => `(tactic| repeat (first
  | with_reducible refine w_seq ?_ | with_reducible refine w_asg ?_ | with_reducible refine w_ret ?_ | with_reducible refine w_drp ?_ | with_reducible refine w_next ?_ | with_reducible refine w_if ?_
  | ((with_reducible refine' w_var ?_ ?_); rotate_left; rfl) | with_reducible refine w_c ?_ | with_reducible refine w_op ?_ | with_reducible refine w_un ?_ | with_reducible refine w_test ?_ | with_reducible refine w_tB ?_ | with_reducible refine w_bl ?_
  | with_reducible refine w_and ?_ | with_reducible refine w_or ?_ | with_reducible refine w_not ?_ | with_reducible refine w_andV ?_ | with_reducible refine w_orV ?_ | with_reducible refine w_notV ?_ | with_reducible refine w_ebl ?_
  | with_reducible refine w_ifE ?_ | with_reducible refine w_nil ?_ | with_reducible refine w_cons ?_ | with_reducible refine w_cb ?_ | with_reducible refine w_call ?_ | with_reducible refine w_chain ?_ | with_reducible refine w_I0 ?_
  | with_reducible refine w_isN ?_ | with_reducible refine w_notN ?_ | with_reducible refine w_ltS ?_ | with_reducible refine w_leS ?_ | with_reducible refine w_m1 ?_ | with_reducible refine w_m1s ?_
  | with_reducible refine w_iT ?_ | with_reducible refine w_iF ?_ | with_reducible refine w_nT ?_ | with_reducible refine w_nF ?_ | with_reducible refine w_yes ?_ | with_reducible refine w_sfld ?_ | with_reducible refine w_lc ?_ | with_reducible refine w_for ?_ | with_reducible refine w_iStr ?_ | with_reducible refine w_iTup ?_ | with_reducible refine w_iList ?_ | with_reducible refine w_tup1 ?_ | with_reducible refine w_callN ?_ | with_reducible refine w_iZip ?_ | with_reducible refine w_sl ?_ | with_reducible refine w_part ?_ | with_reducible refine w_noPart ?_ | with_reducible refine w_eInt ?_ | with_reducible refine w_gN ?_ | with_reducible refine w_bm ?_ | with_reducible refine w_lst1 ?_ | ((with_reducible refine' w_aug ?_ ?_); rotate_left; rfl) | with_reducible refine w_ost ?_ | with_reducible refine w_rz ?_ | with_reducible refine w_gSub ?_ | with_reducible refine w_intB ?_))

section
variable {K : PySem.W.Frag} {w : World} {mg : Str → Option Value} {vs : List V} {H : Hp} {Q : VK} {E : XK}
def AnyT (K : PySem.W.Frag) (H : Hp) (v : V) : Prop := (∃ z : Str, v = .str z ∧ z.length ≤ 8000000) ∨ ∃ t, (∀ H', LamX.ExtN H H' → TyX K H' v t) ∧ PySem.W.kitOne K t (.type "str") = some false
def sp_l_right (K : PySem.W.Frag) (Pt : Addr) : Sp := fun vs H Q _ => ∃ v, vs = [v] ∧ AnyT K H v ∧ LamX.Tabs [(Pt, lamQ)] H ∧ ∀ H', LamX.ExtN H H' → LamX.Tabs [(Pt, lamQ)] H' → Q (.bl true) H'
theorem KB.extN {H H' : Hp} (k : KB [] H H') : LamX.ExtN H H' := fun b o h _ => k b o h (by simp)
theorem KB.tabs {H H' : Hp} {l : List (Addr × Str)} (k : KB [] H H') (t : LamX.Tabs l H) : LamX.Tabs l H' := t.ext fun b o h => k b o h (by simp)
theorem rd_l_right (T : Tx w K mg) (X : TxE K) {Pt : Addr} (h : sp_l_right K Pt vs H Q E) : t_l_right K [(Pt, lamQ)] { nx := fun _ H' => Q .non H', rt := Q } (start N_l_right vs) H := by
  obtain ⟨v, rfl, hv, hT, q⟩ := h
  unfold t_l_right
  walk_at "w"
  refine ⟨hT, fun H1 e1 T1 l0 hl0 => ⟨v, rfl, v, rfl, ?_⟩⟩
  have kl : KB [] H1 (upd H1 l0 (.lst [])) := (KB.refl [] H1).new hl0
  -- both told: a tuple
  have told2 : ∀ (r k : Int) (t t2 : Addr) (H2 : Hp), KB [] H1 H2 → H2 t = some (.tup [.str "text", .int r, .int k]) → H2 t2 = some (.tup [.str "text", .int r, .int k]) →
      tSeq (tIfS (tB (tCB (rIsi K) (tCons (tVar 2) (tCons (tC (.ty "tuple")) tNil)))) (tRet (tOp (rEqD K) (tVar 1) (tVar 2))) tNext)
        (tSeq (tIfS (tOr (tNot (tB (tCB (rIsi K) (tCons (tVar 1) (tCons (tC (.ty "list")) tNil))))) (tNot (tB (tCB (rIsi K) (tCons (tOp (rIxL K) (tVar 1) (tC (.int 0))) (tCons (tC (.ref (He.ga K "Sort"))) tNil)))))) (tRet (tC (.bl false))) tNext)
        (tRet (tAndV (tOp (rEqG (DIns (He.ga K "Sort") (SameS K))) (tOp (rIxL K) (tVar 1) (tC (.int 0))) (tCall (sp_l_sort K) [] E0 (tCons (tOp (rIxL K) (tVar 2) (tC (.int 0))) tNil)))
          (tOp rEq (tCB (qStrO (He.ga K "Sort") (sp_Sort_str K)) (tCons (tOp (rIxL K) (tVar 1) (tC (.int 0))) tNil)) (tVar 0)))))
        { nx := fun _ H' => Q .non H', rt := Q } [some v, some (.ref t), some (.ref t2)] H2 := by
    intro r k t t2 H2 k2 a1 a2
    walk_at "w"
    refine w_isi (.base (.tup a2)) (.ty _) T.is_TT ?_
    walk_at "w"
    have D : ∀ t : Addr, H2 t = some (.tup [.str "text", .int r, .int k]) → Dp K H2 (.ref t) (.tuple [.str "text", .int r, .int k]) := fun t a => .tup (.of a) (.cons (.str _) (.cons (.int _) (.cons (.int _) .nil)))
    have sh : SeqAt.shaped (.tuple [.str "text", .int r, .int k]) = true := by
      have h1 : PyData.canLay0 (.tuple [.str "text", .int r, .int k]) = true := by simp [PyData.canLay0, PyData.canLayAll0]; decide +kernel
      have h2 : PyData.depth (.tuple [.str "text", .int r, .int k]) ≤ 64 := by simp [PyData.depth, PyData.depthAll]
      unfold SeqAt.shaped
      rw [h1, decide_eq_true h2]; rfl
    refine ⟨_, _, D t a1, D t2 a2, sh, sh, ?_⟩
    rw [SeqAt.eqv_refl _ (SeqAt.canLay_of_shaped sh)]
    exact q _ (e1.trans k2.extN) (k2.tabs T1)
  rcases hv with ⟨z, rfl, hz⟩ | ⟨t, ty, ek⟩
  · cases hz' : textIn z with
    | error rk =>
      obtain ⟨r, k⟩ := rk
      refine .inl ⟨z, rfl, hz, fun r' k' e d H2 k2 hd => ⟨X.exm, fun a ha => ⟨a, d, r', k', rfl, upd_same, upd_get ha hd, fun t H3 k3 ht => ⟨_, rfl, _, rfl, .inl ⟨z, rfl, hz, fun r2 k2' e2 t2 H4 k4 ht2 => ⟨_, _, rfl, ?_⟩, fun S e2 => ?_⟩⟩⟩⟩, fun S e => ?_⟩
      · rw [hz'] at e e2; cases e; cases e2
        exact told2 _ _ _ _ _ (((kl.trans k2).new ha).trans (k3.trans k4)) (k4.get ht) ht2
      · rw [hz'] at e2; cases e2
      · rw [hz'] at e; cases e
    | ok S =>
      obtain ⟨G, hd, hh, hj⟩ := text_told hz'
      have GS := good_s G hh
      refine .inl ⟨z, rfl, hz, fun r' k' e => ?_, fun S1 e1' hd1 hh1 a H2 k2 hA l hl => ⟨_, rfl, _, rfl, .inl ⟨z, rfl, hz, fun r2 k2' e2 => ?_, fun S2 e2 hd2 hh2 l2 pv H3 k3 hl2 hP => ⟨_, _, rfl, ?_⟩⟩⟩⟩
      · rw [hz'] at e; cases e
      · rw [hz'] at e2; cases e2
      rw [hz'] at e1' e2
      cases e1'; cases e2
      rw [hh] at hh1 hh2
      cases hh1; cases hh2
      have ka : KB [] H1 H3 := ((kl.trans k2).new hl).trans k3
      have l1 : H3 l = some (.lst [.ref a]) := k3.get upd_same
      have A3 : SortO K H3 a hd S.rows S.pairs := (hA.im (KB.new (KB.refl [] H2) hl).im0).im k3.im0
      obtain ⟨dx, _, _, _, _, _, ha3, _⟩ := id A3
      walk_at "w"
      refine w_isi (.base (.lst hl2)) (.ty _) T.is_LT ?_
      walk_at "w"
      refine w_isi (.base (.lst l1)) (.ty _) T.is_LL ?_
      walk_at "w"
      refine w_ixL (.of l1) (atI_nat (k := 0) rfl) ?_
      walk_at "w"
      refine w_isi (st_ty T ha3) (.own _) T.is_SS ?_
      walk_at "w"
      refine w_ixL (.of l1) (atI_nat (k := 0) rfl) ?_
      walk_at "w"
      refine w_ixL (.of hl2) (atI_nat (k := 0) rfl) ?_
      walk_at "w"
      refine ⟨pv, hd, S.rows, S.pairs, rfl, hP, GS, fun b H4 k4 hB => ?_⟩
      obtain ⟨dy, _, _, _, _, _, hb4, _⟩ := id hB
      refine ⟨⟨a, b, dx, dy, _, _, rfl, rfl, k4.get ha3, hb4, hd, S.rows, S.pairs, GS, A3.im k4.im0, hB⟩, fun H5 k5 => ?_⟩
      have k5 : KB [] H4 H5 := fun b o h _ => k5 b o h
      walk_at "w"
      refine w_ixL (.of (k5.get (k4.get l1))) (atI_nat (k := 0) rfl) ?_
      walk_at "w"
      refine ⟨a, dx, _, rfl, k5.get (k4.get ha3), a, hd, S.rows, S.pairs, rfl, GS, (A3.im k4.im0).im k5.im0, fun H6 k6 => ⟨_, rfl, ?_⟩⟩
      walk_at "w"
      rw [hj]
      have kf : KB [] H1 H6 := ka.trans (k4.trans (k5.trans k6))
      refine ⟨rfl, ?_⟩
      rw [decide_eq_true rfl]
      exact q _ (e1.trans kf.extN) (kf.tabs T1)
  · refine .inr ⟨t, ty _ (e1.trans kl.extN), ek, fun d H2 k2 hd => ⟨X.exm, fun a ha => ⟨a, d, 0, 0, rfl, upd_same, upd_get ha hd, fun t' H3 k3 ht => ⟨_, rfl, _, rfl, .inr ⟨t, ty _ (e1.trans (((kl.trans k2).new ha).trans k3).extN), ek, fun t2 H4 k4 ht2 => ⟨_, _, rfl, ?_⟩⟩⟩⟩⟩⟩
    exact told2 _ _ _ _ _ (((kl.trans k2).new ha).trans (k3.trans k4)) (k4.get ht) ht2
end
end WK
set_option Elab.async false
set_option linter.all false
set_option maxRecDepth 100000
set_option maxHeartbeats 4000000
namespace WK
open PySem PySem.Spec PyProof.Rows L2
/-- steps that need no fact -/
local macro_rules | `(tactic| walk_at "w") => `(tactic| repeat (first
  | with_reducible refine w_seq ?_ | with_reducible refine w_asg ?_ | with_reducible refine w_ret ?_ | with_reducible refine w_drp ?_ | with_reducible refine w_next ?_ | with_reducible refine w_if ?_
  | ((with_reducible refine' w_var ?_ ?_); rotate_left; rfl) | with_reducible refine w_c ?_ | with_reducible refine w_op ?_ | with_reducible refine w_un ?_ | with_reducible refine w_test ?_ | with_reducible refine w_tB ?_ | with_reducible refine w_bl ?_
  | with_reducible refine w_and ?_ | with_reducible refine w_or ?_ | with_reducible refine w_not ?_ | with_reducible refine w_andV ?_ | with_reducible refine w_orV ?_ | with_reducible refine w_notV ?_ | with_reducible refine w_ebl ?_
  | with_reducible refine w_ifE ?_ | with_reducible refine w_nil ?_ | with_reducible refine w_cons ?_ | with_reducible refine w_cb ?_ | with_reducible refine w_call ?_ | with_reducible refine w_chain ?_ | with_reducible refine w_I0 ?_
  | with_reducible refine w_isN ?_ | with_reducible refine w_notN ?_ | with_reducible refine w_ltS ?_ | with_reducible refine w_leS ?_ | with_reducible refine w_m1 ?_ | with_reducible refine w_m1s ?_
  | with_reducible refine w_iT ?_ | with_reducible refine w_iF ?_ | with_reducible refine w_nT ?_ | with_reducible refine w_nF ?_ | with_reducible refine w_yes ?_ | with_reducible refine w_sfld ?_ | with_reducible refine w_lc ?_ | with_reducible refine w_for ?_ | with_reducible refine w_iStr ?_ | with_reducible refine w_iTup ?_ | with_reducible refine w_iList ?_ | with_reducible refine w_tup1 ?_ | with_reducible refine w_callN ?_ | with_reducible refine w_iZip ?_ | with_reducible refine w_sl ?_ | with_reducible refine w_part ?_ | with_reducible refine w_noPart ?_ | with_reducible refine w_eInt ?_ | with_reducible refine w_gN ?_ | with_reducible refine w_bm ?_ | with_reducible refine w_lst1 ?_ | ((with_reducible refine' w_aug ?_ ?_); rotate_left; rfl) | with_reducible refine w_ost ?_ | with_reducible refine w_rz ?_ | with_reducible refine w_gSub ?_ | with_reducible refine w_intB ?_))

/-! ### the drawing -/
theorem log_ok {m : Int} (h0 : 0 < m) (h : m ≤ 1099511627776) : m.natAbs.log2 < 9000 := by
  have h1 : m.natAbs < 2 ^ 41 := by
    have : (2 : Nat) ^ 41 = 2199023255552 := by decide
    omega
  have h2 := (Nat.log2_lt (by omega)).mpr h1
  omega
section
variable {K : PySem.W.Frag} {σ : L2.St} {H : Hp} {Q : VK}
theorem w_mulR {i j : Int} (h : -(2 ^ 64) < j ∧ j < 2 ^ 64) (q : Q (.int (i * j)) H) : qMul (.int i) (.int j) H Q := ⟨i, j, rfl, rfl, .inr h, q⟩
theorem w_mulL {i j : Int} (h : -(2 ^ 64) < i ∧ i < 2 ^ 64) (q : Q (.int (i * j)) H) : qMul (.int i) (.int j) H Q := ⟨i, j, rfl, rfl, .inl h, q⟩
theorem w_mod {i j : Int} (h : 0 < j) (q : Q (.int (i % j)) H) : qMod (.int i) (.int j) H Q := ⟨i, j, rfl, rfl, h, q⟩
theorem w_div {i j : Int} (h0 : 0 < j) (h : j ≤ 1099511627776) (q : Q (.int (i / j)) H) : qDivW (.int i) (.int j) H Q := ⟨i, j, rfl, rfl, ⟨h0, log_ok h0 h⟩, q⟩
end
abbrev lmK (cl ll : Addr) (n : Int) : List (Key × V) := [(.inr "cells", .ref cl), (.inr "left", .ref ll), (.inr "at", .int n)]
structure LmO (H : Hp) (p cl ll : Addr) (n : Nat) : Prop where
  o : H p = some (.dK (lmK cl ll n))
  c : ∃ cs : List Int, H cl = some (.lst (cs.map V.int)) ∧ cs.length = 64
  l : ∃ ls : List Int, H ll = some (.lst (ls.map V.int)) ∧ ls.length ≤ 16000000
  ne : cl ≠ ll
theorem lm_cells {cl ll : Addr} {n : Int} : valV (lmK cl ll n) (.inr "cells") = some (.ref cl) := by rw [valV_pos rfl]
theorem lm_left {cl ll : Addr} {n : Int} : valV (lmK cl ll n) (.inr "left") = some (.ref ll) := by rw [valV_neg (by simp; decide), valV_pos rfl]
theorem lm_at {cl ll : Addr} {n : Int} : valV (lmK cl ll n) (.inr "at") = some (.int n) := by rw [valV_neg (by simp; decide), valV_neg (by simp; decide), valV_pos rfl]
theorem put_at {cl ll : Addr} {n m : Int} : putK (lmK cl ll n) (.inr "at") (.int m) = lmK cl ll m := by
  unfold putK
  rw [if_pos (by simp)]
  have d1 : ¬ ((Sum.inr ("cells" : Str) : Key) = Sum.inr ("at" : Str)) := by simp; decide
  have d2 : ¬ ((Sum.inr ("left" : Str) : Key) = Sum.inr ("at" : Str)) := by simp; decide
  simp only [List.map_cons, List.map_nil, if_neg d1, if_neg d2, if_pos]
section
variable {σ : L2.St} {H : Hp} {Q : VK} {i : Nat} {p cl ll : Addr} {n : Int}
theorem w_gCells (h : σ[i]? = some (some (.ref p))) (L : H p = some (.dK (lmK cl ll n))) (q : Q (.ref cl) H) : tDGet (tVar i) (tC (.str "cells")) σ H Q := w_dget (w_var h (w_c ⟨p, _, rfl, .inl ⟨_, .inr "cells", .inl L, rfl, lm_cells.symm⟩, q⟩))
theorem w_gLeft (h : σ[i]? = some (some (.ref p))) (L : H p = some (.dK (lmK cl ll n))) (q : Q (.ref ll) H) : tDGet (tVar i) (tC (.str "left")) σ H Q := w_dget (w_var h (w_c ⟨p, _, rfl, .inl ⟨_, .inr "left", .inl L, rfl, lm_left.symm⟩, q⟩))
theorem w_gAt (h : σ[i]? = some (some (.ref p))) (L : H p = some (.dK (lmK cl ll n))) (q : Q (.int n) H) : tDGet (tVar i) (tC (.str "at")) σ H Q := w_dget (w_var h (w_c ⟨p, _, rfl, .inl ⟨_, .inr "at", .inl L, rfl, lm_at.symm⟩, q⟩))
end
theorem LmO.fresh {H : Hp} {p cl ll a : Addr} {n : Nat} (L : LmO H p cl ll n) (h : H a = none) : a ∉ [p, ll] := fun m => by
  obtain ⟨ls, e, _⟩ := L.l
  simp only [List.mem_cons, List.not_mem_nil, or_false] at m
  rcases m with rfl | rfl
  · rw [L.o] at h; cases h
  · rw [e] at h; cases h
theorem LmO.kb {H H' : Hp} {p cl ll : Addr} {n : Nat} (L : LmO H p cl ll n) (k : KB [] H H') : LmO H' p cl ll n := by
  obtain ⟨cs, c1, c2⟩ := L.c
  obtain ⟨ls, l1, l2⟩ := L.l
  exact ⟨k.get L.o, ⟨cs, k.get c1, c2⟩, ⟨ls, k.get l1, l2⟩, L.ne⟩
theorem LmO.extN {H H' : Hp} {p cl ll : Addr} {n : Nat} (L : LmO H p cl ll n) (k : LamX.ExtN H H') : LmO H' p cl ll n := by
  obtain ⟨cs, c1, c2⟩ := L.c
  obtain ⟨ls, l1, l2⟩ := L.l
  exact ⟨k _ _ L.o (fun ps z => by cases z), ⟨cs, k _ _ c1 (fun ps z => by cases z), c2⟩, ⟨ls, k _ _ l1 (fun ps z => by cases z), l2⟩, L.ne⟩
section
variable {K : PySem.W.Frag} {w : World} {mg : Str → Option Value} {vs : List V} {H : Hp} {Q : VK} {E : XK}
def sp_l_mixed : Sp := fun vs H Q _ => ∃ c k : Int, vs = [.int c, .int k] ∧ 0 ≤ k ∧ k ≤ 2199023255552 ∧ ∀ r, Q (.int r) H
theorem rd_l_mixed (h : sp_l_mixed vs H Q E) : t_l_mixed K { nx := fun _ H' => Q .non H', rt := Q } (start N_l_mixed vs) H := by
  obtain ⟨c, k, rfl, h0, h1, q⟩ := h
  unfold t_l_mixed
  walk_at "w"
  refine w_mulL (by omega) ?_
  walk_at "w"
  refine w_mulR (by omega) ?_
  walk_at "w"
  refine w_mulR (by omega) ?_
  walk_at "w"
  refine w_mod (by omega) ?_
  walk_at "w"
  refine w_mulL (by omega) ?_
  walk_at "w"
  refine w_mulR (by omega) ?_
  walk_at "w"
  refine w_mulL (by omega) ?_
  walk_at "w"
  refine w_mulR (by omega) ?_
  walk_at "w"
  refine w_mod (by omega) ?_
  walk_at "w"
  exact w_div (by omega) (by omega) (q _)
def sp_l_draw : Sp := fun vs H Q _ => ∃ (p cl ll : Addr) (n : Nat) (m : Int), vs = [.ref p, .int m] ∧ LmO H p cl ll n ∧ n ≤ 1099511627776 ∧ 1 ≤ m ∧ m ≤ 1099511627776 ∧ ∀ d H', 0 ≤ d → d < m → KB [p, ll] H H' → LmO H' p cl ll (n + 1) → Q (.int d) H'
theorem rd_l_draw (h : sp_l_draw vs H Q E) : t_l_draw K sp_l_mixed { nx := fun _ H' => Q .non H', rt := Q } (start N_l_draw vs) H := by
  obtain ⟨p, cl, ll, n, m, rfl, L, hn, h1, h2, q⟩ := h
  have ne1 : p ≠ cl := fun e => by obtain ⟨cs, c1, _⟩ := L.c; rw [← e, L.o] at c1; cases c1
  have ne2 : p ≠ ll := fun e => by obtain ⟨cs, c1, _⟩ := L.l; rw [← e, L.o] at c1; cases c1
  obtain ⟨cs, c1, c2⟩ := L.c
  obtain ⟨ls, l1, l2⟩ := L.l
  unfold t_l_draw
  walk_at "w"
  refine w_gAt rfl L.o ?_
  walk_at "w"
  refine w_dput ?_
  walk_at "w"
  refine ⟨p, _, rfl, .inl ⟨_, .inr "at", L.o, rfl, by show 3 < _; rw [sizeLine_eq]; decide, rfl⟩, ?_⟩
  rw [put_at]
  have en : ((n : Int) + 1) = ((n + 1 : Nat) : Int) := by omega
  rw [en]
  have k1 : KB [p, ll] H (upd H p (.dK (lmK cl ll ((n + 1 : Nat) : Int)))) := (KB.refl _ _).mut (by simp)
  have L1 : LmO (upd H p (.dK (lmK cl ll ((n + 1 : Nat) : Int)))) p cl ll (n + 1) := ⟨upd_same, ⟨cs, by rw [upd_ne (Ne.symm ne1)]; exact c1, c2⟩, ⟨ls, by rw [upd_ne (Ne.symm ne2)]; exact l1, l2⟩, L.ne⟩
  obtain ⟨cs, c1, c2⟩ := L1.c
  obtain ⟨ls, l1, l2⟩ := L1.l
  have tail : ∀ (H1 : Hp) (x3 x4 : Option V), KB [p, ll] H H1 → LmO H1 p cl ll (n + 1) → (tRet (tOp qMod (tCall sp_l_mixed [] E0 (tCons (tCall sp_l_mixed [] E0 (tCons (tOp qAdd (tOp (rIxL K) (tDGet (tVar 0) (tC (.str "cells"))) (tOp qMod (tVar 2) (tC (.int 64)))) (tOp qMul (tC (.int 31)) (tOp qDivW (tVar 2) (tC (.int 64))))) (tCons (tVar 2) tNil))) (tCons (tOp qAdd (tVar 2) (tC (.int 7))) tNil))) (tVar 1)))
      { nx := fun _ H' => Q .non H', rt := Q } [some (.ref p), some (.int m), some (.int (n : Int)), x3, x4] H1 := by
    intro H1 x3 x4 k L1
    obtain ⟨cs, c1, c2⟩ := L1.c
    walk_at "w"
    refine w_gCells rfl L1.o ?_
    walk_at "w"
    refine w_mod (by omega) ?_
    have hm : (n : Int) % 64 = ((n % 64 : Nat) : Int) := by omega
    rw [hm]
    obtain ⟨c, hc⟩ : ∃ c, cs[n % 64]? = some c := ⟨_, List.getElem?_eq_getElem (by rw [c2]; omega)⟩
    refine w_ixL (.of c1) (atI_nat (v := .int c) (by rw [List.getElem?_map, hc]; rfl)) ?_
    walk_at "w"
    refine w_div (by omega) (by omega) ?_
    refine w_mulL (by omega) ?_
    walk_at "w"
    refine ⟨_, _, rfl, by omega, by omega, fun r => ?_⟩
    walk_at "w"
    refine ⟨_, _, rfl, by omega, by omega, fun r2 => ?_⟩
    walk_at "w"
    exact w_mod (by omega) (q _ _ (Int.emod_nonneg _ (by omega)) (Int.emod_lt_of_pos _ (by omega)) k L1)
  walk_at "w"
  refine w_gLeft rfl upd_same ?_
  walk_at "w"
  refine ⟨szb (by show 0 ≤ _; omega), fun e he => ?_⟩
  have ke : KB [] (upd H p (.dK (lmK cl ll ((n + 1 : Nat) : Int)))) _ := (KB.refl [] _).new he (o := .lst [])
  refine ⟨ll, e, _, rfl, rfl, .of (ke.get l1), .of upd_same, ?_⟩
  walk_at "w"
  have kE : KB [p, ll] H _ := k1.trans ke.of
  have LE := L1.kb ke
  by_cases hne : ls = []
  · subst hne
    walk_at "w"
    exact tail _ none none kE LE
  · have hpos : 0 < ls.length := List.length_pos_iff.mpr hne
    rw [show (!(ls.map V.int).isEmpty) = true by cases ls with | nil => exact absurd rfl hne | cons a r => rfl]
    walk_at "w"
    refine w_gLeft rfl LE.o ?_
    walk_at "w"
    refine w_lenL (.of (ke.get l1)) ?_
    rw [List.length_map]
    refine w_mod (by omega) ?_
    walk_at "w"
    have hm : (n : Int) % (ls.length : Int) = ((n % ls.length : Nat) : Int) := by omega
    rw [hm]
    have hlt : n % ls.length < ls.length := Nat.mod_lt _ hpos
    refine w_gLeft rfl LE.o ?_
    walk_at "w"
    refine w_ixL (.of (ke.get l1)) (atI_nat (v := .int ls[n % ls.length]) (by rw [List.getElem?_map, List.getElem?_eq_getElem hlt]; rfl)) ?_
    walk_at "w"
    cases hd : decide (ls[n % ls.length] > 0) with
    | false =>
      walk_at "w"
      exact tail _ _ _ kE LE
    | true =>
      walk_at "w"
      refine w_asgG ?_
      walk_at "w"
      refine w_div (by omega) (by omega) ?_
      walk_at "w"
      refine w_gLeft rfl LE.o ?_
      walk_at "w"
      refine w_setL (j := n % ls.length) (ke.get l1) ?_ ?_
      · unfold ixN
        rw [if_pos (by omega), if_pos (by rw [List.length_map]; omega)]
        rfl
      walk_at "w"
      refine w_mod (by omega) (q _ _ (Int.emod_nonneg _ (by omega)) (Int.emod_lt_of_pos _ (by omega)) (kE.mut (by simp)) ?_)
      have nl : ll ≠ p := Ne.symm ne2
      obtain ⟨cs, c1, c2⟩ := LE.c
      exact ⟨by rw [upd_ne (Ne.symm nl)]; exact LE.o, ⟨cs, by rw [upd_ne LE.ne]; exact c1, c2⟩, ⟨ls.set (n % ls.length) (ls[n % ls.length] / m), by rw [upd_same, List.map_set], by rw [List.length_set]; exact l2⟩, LE.ne⟩
end
end WK
set_option Elab.async false
set_option linter.all false
set_option maxRecDepth 100000
set_option maxHeartbeats 4000000
namespace WK
open PySem PySem.Spec PyProof.Rows L2
/-- steps that need no fact -/
local macro_rules | `(tactic| walk_at "w") => `(tactic| repeat (first
  | with_reducible refine w_seq ?_ | with_reducible refine w_asg ?_ | with_reducible refine w_ret ?_ | with_reducible refine w_drp ?_ | with_reducible refine w_next ?_ | with_reducible refine w_if ?_
  | ((with_reducible refine' w_var ?_ ?_); rotate_left; rfl) | with_reducible refine w_c ?_ | with_reducible refine w_op ?_ | with_reducible refine w_un ?_ | with_reducible refine w_test ?_ | with_reducible refine w_tB ?_ | with_reducible refine w_bl ?_
  | with_reducible refine w_and ?_ | with_reducible refine w_or ?_ | with_reducible refine w_not ?_ | with_reducible refine w_andV ?_ | with_reducible refine w_orV ?_ | with_reducible refine w_notV ?_ | with_reducible refine w_ebl ?_
  | with_reducible refine w_ifE ?_ | with_reducible refine w_nil ?_ | with_reducible refine w_cons ?_ | with_reducible refine w_cb ?_ | with_reducible refine w_call ?_ | with_reducible refine w_chain ?_ | with_reducible refine w_I0 ?_
  | with_reducible refine w_isN ?_ | with_reducible refine w_notN ?_ | with_reducible refine w_ltS ?_ | with_reducible refine w_leS ?_ | with_reducible refine w_m1 ?_ | with_reducible refine w_m1s ?_
  | with_reducible refine w_iT ?_ | with_reducible refine w_iF ?_ | with_reducible refine w_nT ?_ | with_reducible refine w_nF ?_ | with_reducible refine w_yes ?_ | with_reducible refine w_sfld ?_ | with_reducible refine w_lc ?_ | with_reducible refine w_for ?_ | with_reducible refine w_iStr ?_ | with_reducible refine w_iTup ?_ | with_reducible refine w_iList ?_ | with_reducible refine w_tup1 ?_ | with_reducible refine w_callN ?_ | with_reducible refine w_iZip ?_ | with_reducible refine w_sl ?_ | with_reducible refine w_part ?_ | with_reducible refine w_noPart ?_ | with_reducible refine w_eInt ?_ | with_reducible refine w_gN ?_ | with_reducible refine w_bm ?_ | with_reducible refine w_lst1 ?_ | ((with_reducible refine' w_aug ?_ ?_); rotate_left; rfl) | with_reducible refine w_ost ?_ | with_reducible refine w_rz ?_ | with_reducible refine w_gSub ?_ | with_reducible refine w_intB ?_))

section
variable {K : PySem.W.Frag} {w : World} {mg : Str → Option Value} {vs : List V} {H : Hp} {Q : VK} {E : XK}
def sp_l_folded (K : PySem.W.Frag) : Sp := fun vs H Q _ => ∃ (a : Addr) (ns : List Int), vs = [.ref a] ∧ SqL K H a (ns.map V.int) ∧ ∀ l H' (cs : List Int), H l = none → KB [] H H' → H' l = some (.lst (cs.map V.int)) → cs.length = 64 → Q (.ref l) H'
theorem int_at {cs : List Int} {k : Nat} (h : k < cs.length) : (cs.map V.int)[k]? = some (.int cs[k]) := by
  rw [List.getElem?_map, List.getElem?_eq_getElem h]; rfl
theorem rd_l_folded (h : sp_l_folded K vs H Q E) : t_l_folded K { nx := fun _ H' => Q .non H', rt := Q } (start N_l_folded vs) H := by
  obtain ⟨a, ns, rfl, hs, q⟩ := h
  unfold t_l_folded
  walk_at "w"
  refine w_rng1 ?_
  walk_at "w"
  refine ⟨64, rfl, by omega, by omega, ?_⟩
  refine lc_map (walk_range (lo := 0) (n := 64)) ((List.range 64).map fun i => V.int (17 + (i : Nat))) (by simp) (by omega) (fun _ _ => trivial) (fun i x z H2 H3 K1 ez hi k y f => ?_) (fun l H1 hl k1 e1 => ?_)
  · obtain ⟨rfl, rfl⟩ := y
    refine ⟨rfl, ?_⟩
    walk_at "w"
    have : z = V.int (17 + (i : Nat)) := by
      rw [List.getElem?_map, List.getElem?_range hi] at ez
      exact (Option.some.inj ez).symm
    subst this
    have e2 : ((0 : Int) + (i : Nat)) = (i : Nat) := by omega
    rw [e2]
    exact f _ (KB.refl _ _)
  walk_at "w"
  refine w_iEnum ?_
  walk_at "w"
  refine ⟨a, _, rfl, k1.seq hs, ?_⟩
  refine forG (walk_enum (xs := ns.map V.int)) (fun i σ2 H2 => ∃ (u1 u3 : Option V) (cs : List Int), σ2 = [some (.ref a), u1, some (.ref l), u3] ∧ KB [] H H2 ∧ H2 l = some (.lst (cs.map V.int)) ∧ cs.length = 64)
    ⟨none, none, (List.range 64).map fun i => (17 + (i : Nat) : Int), rfl, k1, by rw [e1, List.map_map]; rfl, by simp⟩ (fun i σ2 H2 hi P => ?_) (fun i x σ2 H2 H3 hi P y => ?_) (fun σ2 H2 P => ?_)
  · obtain ⟨u1, u3, cs, rfl, k, hq, _⟩ := P; exact k.seq hs
  · obtain ⟨u1, u3, cs, rfl, k, hq, hc⟩ := P
    obtain ⟨t, x1, x2, rfl, ht, rfl, e1, e2⟩ := y
    have e1 : some (V.int (i : Nat)) = some x1 := e1
    have e2 : (ns.map V.int)[i]? = some x2 := e2
    rw [List.getElem?_map] at e2
    obtain ⟨c, hr, rfl⟩ := Option.map_eq_some_iff.mp e2
    cases e1
    refine w_gTup2 (.of upd_same) ?_
    have kt := KB.new (KB.refl [] H2) ht (o := .tup [.int (i : Nat), .int c])
    have hl2 := kt.get hq
    have hm : (i : Int) % 64 = ((i % 64 : Nat) : Int) := by omega
    refine w_asgG ?_
    walk_at "w"
    refine w_mod (by omega) ?_
    rw [hm]
    refine w_ixL (.of hl2) (atI_nat (int_at (cs := cs) (by omega))) ?_
    walk_at "w"
    refine w_mulR (by omega) ?_
    walk_at "w"
    refine w_mod (by omega) ?_
    walk_at "w"
    refine w_mod (by omega) ?_
    rw [hm]
    refine w_setL hl2 (ixN_nat (by rw [List.length_map]; omega)) ?_
    rw [← List.map_set]
    exact ⟨_, _, _, rfl, (k.trans kt).mutN hl, upd_same, by rw [List.length_set]; exact hc⟩
  · obtain ⟨u1, u3, cs, rfl, k, hq, hc⟩ := P
    walk_at "w"
    refine w_rng2 ?_
    walk_at "w"
    refine ⟨1, 64, rfl, by omega, ?_⟩
    refine forG (walk_range (lo := 1) (n := 63)) (fun i σ2 H2 => ∃ (u1 u3 : Option V) (cs : List Int), σ2 = [some (.ref a), u1, some (.ref l), u3] ∧ KB [] H H2 ∧ H2 l = some (.lst (cs.map V.int)) ∧ cs.length = 64)
      ⟨_, _, cs, rfl, k, hq, hc⟩ (fun _ _ _ _ _ => trivial) (fun i x σ2 H2 H3 hi P y => ?_) (fun σ2 H2 P => ?_)
    · obtain ⟨u1, u3, cs, rfl, k, hq, hc⟩ := P
      obtain ⟨rfl, rfl⟩ := y
      have e1 : ((1 : Int) + (i : Nat)) = ((i + 1 : Nat) : Int) := by omega
      have e2 : ((i + 1 : Nat) : Int) - 1 = (i : Nat) := by omega
      dsimp only
      rw [e1]
      walk_at "w"
      refine w_asgG ?_
      walk_at "w"
      refine w_ixL (.of hq) (atI_nat (int_at (cs := cs) (by omega))) ?_
      walk_at "w"
      rw [e2]
      refine w_ixL (.of hq) (atI_nat (int_at (cs := cs) (by omega))) ?_
      walk_at "w"
      refine w_mulR (by omega) ?_
      walk_at "w"
      refine w_mod (by omega) ?_
      walk_at "w"
      refine w_setL hq (ixN_nat (by rw [List.length_map]; omega)) ?_
      rw [← List.map_set]
      exact ⟨_, _, _, rfl, k.mutN hl, upd_same, by rw [List.length_set]; exact hc⟩
    · obtain ⟨u1, u3, cs, rfl, k, hq, hc⟩ := P
      walk_at "w"
      exact q l _ cs hl k hq hc
/-- the law's machine, begun -/
def sp_l_begun (K : PySem.W.Frag) : Sp := fun vs H Q _ => ∃ (a : Addr) (ns : List Int), vs = [.ref a] ∧ SqL K H a (ns.map V.int) ∧ ns.length ≤ 16000000 ∧ ∀ p cl ll H', KB [] H H' → LmO H' p cl ll 0 → Q (.ref p) H'
theorem merge_lm (cl ll : Addr) (n : Int) : mergeK [] (lmK cl ll n) = lmK cl ll n := by
  have a : ∀ (kvs : List (Key × V)) (k : Key) (v : V), valV kvs k = none → putK kvs k v = kvs ++ [(k, v)] := fun kvs k v h => putK_new v h
  have d1 : ¬ ((Sum.inr ("cells" : Str) : Key) = Sum.inr ("left" : Str)) := by simp; decide
  have d2 : ¬ ((Sum.inr ("cells" : Str) : Key) = Sum.inr ("at" : Str)) := by simp; decide
  have d3 : ¬ ((Sum.inr ("left" : Str) : Key) = Sum.inr ("at" : Str)) := by simp; decide
  have s1 : putK ([] : List (Key × V)) (Sum.inr ("cells" : Str)) (V.ref cl) = [(Sum.inr ("cells" : Str), V.ref cl)] := a [] _ _ rfl
  have s2 : putK ([(Sum.inr ("cells" : Str), V.ref cl)] : List (Key × V)) (Sum.inr ("left" : Str)) (V.ref ll) = [(Sum.inr ("cells" : Str), V.ref cl), (Sum.inr ("left" : Str), V.ref ll)] := a _ _ _ (by rw [valV_neg d1]; rfl)
  have s3 : putK ([(Sum.inr ("cells" : Str), V.ref cl), (Sum.inr ("left" : Str), V.ref ll)] : List (Key × V)) (Sum.inr ("at" : Str)) (V.int n) = lmK cl ll n := a _ _ _ (by rw [valV_neg d2, valV_neg d3]; rfl)
  show putK (putK (putK ([] : List (Key × V)) (Sum.inr ("cells" : Str)) (V.ref cl)) (Sum.inr ("left" : Str)) (V.ref ll)) (Sum.inr ("at" : Str)) (V.int n) = _
  rw [s1, s2, s3]
theorem put_left {cl ll l2 : Addr} {n : Int} : putK (lmK cl ll n) (.inr "left") (.ref l2) = lmK cl l2 n := by
  unfold putK
  rw [if_pos (by simp)]
  have d1 : ¬ ((Sum.inr ("cells" : Str) : Key) = Sum.inr ("left" : Str)) := by simp; decide
  have d2 : ¬ ((Sum.inr ("at" : Str) : Key) = Sum.inr ("left" : Str)) := by simp; decide
  simp only [List.map_cons, List.map_nil, if_neg d1, if_neg d2, if_pos]
theorem rd_l_begun (h : sp_l_begun K vs H Q E) : t_l_begun K (sp_l_folded K) { nx := fun _ H' => Q .non H', rt := Q } (start N_l_begun vs) H := by
  obtain ⟨a, ns, rfl, hs, hn, q⟩ := h
  unfold t_l_begun
  walk_at "w"
  refine w_disp fun f hf => ?_
  have kf := KB.new (KB.refl [] H) hf (o := .dK [])
  refine w_pcons (w_c ?_)
  walk_at "w"
  refine ⟨a, ns, rfl, kf.seq hs, fun cl H1 cs hcl k1 hc hcs => ?_⟩
  refine w_pcons (w_c (w_lst1 (w_nil ⟨szb (by show 0 ≤ _; omega), fun ll hll => ?_⟩)))
  refine w_pcons (w_c (w_c ?_))
  have k2 := k1.new hll (o := .lst [])
  refine w_pnil ⟨k2.get upd_same, lmK cl ll 0, rfl, by show 3 ≤ 15; decide, ?_⟩
  rw [merge_lm]
  have nl : ll ≠ f := fun e => by
    have z := k1.get (upd_same (H := H) (a := f) (o := .dK []))
    rw [← e, hll] at z; cases z
  have nc : cl ≠ f := fun e => by rw [e, upd_same] at hcl; cases hcl
  have ncl : cl ≠ ll := fun e => by rw [e, hll] at hc; cases hc
  walk_at "w"
  have kM : KB [] H (upd (upd H1 ll (.lst [])) f (.dK (lmK cl ll 0))) := ((kf.trans k2).drop (fun b hb => absurd hb (by simp))).mutN hf
  refine w_dput ?_
  walk_at "w"
  refine w_itL (kM.seq hs) ?_
  refine lc_map walk_list (ns.map fun c => V.int (if c ≥ 1000000000000000000 then c else 0)) (by simp) (by rw [List.length_map]; exact hn) (fun H2 k => k.seq (kM.seq hs)) (fun i x z H2 H3 K1 ez hi k y fn => ?_) (fun l2 H2 hl2 k3 e3 => ?_)
  · obtain ⟨rfl, ex⟩ := y
    rw [List.getElem?_map] at ez ex
    obtain ⟨c, hc1, rfl⟩ := Option.map_eq_some_iff.mp ex
    rw [hc1] at ez
    cases ez
    refine ⟨rfl, ?_⟩
    walk_at "w"
    refine w_I ⟨by omega, by omega, by decide⟩ ?_
    walk_at "w"
    have e18 : ((10 : Int) ^ (18 : Int).toNat) = 1000000000000000000 := by decide
    rw [e18]
    by_cases hc18 : c ≥ 1000000000000000000
    · rw [decide_eq_true hc18]
      dsimp only at fn; rw [if_pos hc18] at fn
      walk_at "w"
      exact fn _ (KB.refl _ _)
    · rw [decide_eq_false hc18]
      dsimp only at fn; rw [if_neg hc18] at fn
      walk_at "w"
      exact fn _ (KB.refl _ _)
  · walk_at "w"
    have hM : H2 f = some (.dK (lmK cl ll 0)) := k3.get upd_same
    refine ⟨f, _, rfl, .inl ⟨_, .inr "left", hM, rfl, by show 3 < _; rw [sizeLine_eq]; decide, rfl⟩, ?_⟩
    rw [put_left]
    walk_at "w"
    have hcl2 : H2 cl = some (.lst (cs.map V.int)) := k3.get (by rw [upd_ne nc, upd_ne ncl]; exact hc)
    have n2 : l2 ≠ f := fun e => by rw [e, upd_same] at hl2; cases hl2
    have n3 : cl ≠ l2 := fun e => by rw [← e, upd_ne nc, upd_ne ncl, hc] at hl2; cases hl2
    refine q f cl l2 _ ((kM.trans k3).mutN hf) ⟨upd_same, ⟨cs, by rw [upd_ne nc]; exact hcl2, hcs⟩, ⟨ns.map fun c => (if c ≥ 1000000000000000000 then c else 0), ?_, by rw [List.length_map]; exact hn⟩, n3⟩
    rw [upd_ne n2, e3, List.map_map]; rfl
end
end WK
set_option Elab.async false
set_option linter.all false
set_option maxRecDepth 100000
set_option maxHeartbeats 4000000
namespace WK
open PySem PySem.Spec PyProof.Rows L2
/-- steps that need no fact -/
local macro_rules | `(tactic| walk_at "w") => `(tactic| repeat (first
  | with_reducible refine w_seq ?_ | with_reducible refine w_asg ?_ | with_reducible refine w_ret ?_ | with_reducible refine w_drp ?_ | with_reducible refine w_next ?_ | with_reducible refine w_if ?_
  | ((with_reducible refine' w_var ?_ ?_); rotate_left; rfl) | with_reducible refine w_c ?_ | with_reducible refine w_op ?_ | with_reducible refine w_un ?_ | with_reducible refine w_test ?_ | with_reducible refine w_tB ?_ | with_reducible refine w_bl ?_
  | with_reducible refine w_and ?_ | with_reducible refine w_or ?_ | with_reducible refine w_not ?_ | with_reducible refine w_andV ?_ | with_reducible refine w_orV ?_ | with_reducible refine w_notV ?_ | with_reducible refine w_ebl ?_
  | with_reducible refine w_ifE ?_ | with_reducible refine w_nil ?_ | with_reducible refine w_cons ?_ | with_reducible refine w_cb ?_ | with_reducible refine w_call ?_ | with_reducible refine w_chain ?_ | with_reducible refine w_I0 ?_
  | with_reducible refine w_isN ?_ | with_reducible refine w_notN ?_ | with_reducible refine w_ltS ?_ | with_reducible refine w_leS ?_ | with_reducible refine w_m1 ?_ | with_reducible refine w_m1s ?_
  | with_reducible refine w_iT ?_ | with_reducible refine w_iF ?_ | with_reducible refine w_nT ?_ | with_reducible refine w_nF ?_ | with_reducible refine w_yes ?_ | with_reducible refine w_sfld ?_ | with_reducible refine w_lc ?_ | with_reducible refine w_for ?_ | with_reducible refine w_iStr ?_ | with_reducible refine w_iTup ?_ | with_reducible refine w_iList ?_ | with_reducible refine w_tup1 ?_ | with_reducible refine w_callN ?_ | with_reducible refine w_iZip ?_ | with_reducible refine w_sl ?_ | with_reducible refine w_part ?_ | with_reducible refine w_noPart ?_ | with_reducible refine w_eInt ?_ | with_reducible refine w_gN ?_ | with_reducible refine w_bm ?_ | with_reducible refine w_lst1 ?_ | ((with_reducible refine' w_aug ?_ ?_); rotate_left; rfl) | with_reducible refine w_ost ?_ | with_reducible refine w_rz ?_ | with_reducible refine w_gSub ?_ | with_reducible refine w_intB ?_))

theorem cut7 (z : Str) : (cutS z none (some 7)).length ≤ 7 := by
  have h : (cutS z none (some 7)).length = (cutS z none (some 7)).cps.size := rfl
  rw [h]
  unfold cutS
  have e : HT.sIx z.length z.length (some 7) ≤ 7 := by
    have := HT.sIx_nat z.length z.length 7
    have e2 : HT.sIx z.length z.length (some 7) = min 7 z.length := this
    omega
  simp only [List.size_toArray, List.length_take]
  omega
section
variable {K : PySem.W.Frag} {w : World} {mg : Str → Option Value} {vs : List V} {H : Hp} {Q : VK} {E : XK}
theorem w_ixSm {z : Str} {a : Int} (h0 : 0 ≤ a) (h1 : a < (z.length : Nat)) (hz : z.length ≤ 1000) (q : ∀ s : Str, s.length = 1 → Q (.str s) H) : rIxS (.str z) (.int a) H Q := by
  obtain ⟨k, rfl⟩ := Int.eq_ofNat_of_zero_le h0
  have hk : k < z.cps.toList.length := by
    have : z.length = z.cps.toList.length := by rw [Array.length_toList]; rfl
    omega
  exact w_ixS (szb (by omega)) (atI_nat (List.getElem?_eq_getElem hk)) (q _ rfl)
theorem w_ixInt {l : Addr} {cs : List Int} {d : Int} (h : H l = some (.lst (cs.map V.int))) (h0 : 0 ≤ d) (h1 : d < (cs.length : Nat)) (q : ∀ c, c ∈ cs → Q (.int c) H) : rIxL K (.ref l) (.int d) H Q := by
  obtain ⟨k, rfl⟩ := Int.eq_ofNat_of_zero_le h0
  have hk : k < cs.length := by omega
  exact w_ixL (.of h) (atI_nat (int_at hk)) (q _ (List.getElem_mem hk))
theorem w_ixAny {l : Addr} {xs : List V} {d : Int} (h : H l = some (.lst xs)) (h0 : 0 ≤ d) (h1 : d < (xs.length : Nat)) (q : ∀ v, v ∈ xs → Q v H) : rIxL K (.ref l) (.int d) H Q := by
  obtain ⟨k, rfl⟩ := Int.eq_ofNat_of_zero_le h0
  have hk : k < xs.length := by omega
  exact w_ixL (.of h) (atI_nat (List.getElem?_eq_getElem hk)) (q _ (List.getElem_mem hk))
theorem w_drawn {p cl ll : Addr} {n : Nat} {m : Int} (L : LmO H p cl ll n) (hn : n ≤ 1099511627776) (h1 : 1 ≤ m) (h2 : m ≤ 1099511627776) (q : ∀ d H', 0 ≤ d → d < m → KB [p, ll] H H' → LmO H' p cl ll (n + 1) → Q (.int d) H') : sp_l_draw ([.ref p, .int m] ++ []) H Q E :=
  ⟨p, cl, ll, n, m, rfl, L, hn, h1, h2, q⟩
def sp_l_called : Sp := fun vs H Q _ => ∃ (p cl ll : Addr) (n : Nat), vs = [.ref p, .int 19] ∧ LmO H p cl ll n ∧ n ≤ 1000000000 ∧
  ∀ l H' (ws : List Str) n', H l = none → KB [p, ll] H H' → LmO H' p cl ll n' → n' ≤ n + 300 → H' l = some (.lst (ws.map V.str)) → ws.length = 19 → (∀ z ∈ ws, z.length ≤ 8) → Q (.ref l) H'
theorem LmO.upd {H : Hp} {p cl ll l : Addr} {o : HO} {n : Nat} (L : LmO H p cl ll n) (h1 : l ≠ p) (h2 : l ≠ ll) (h3 : l ≠ cl) : LmO (upd H l o) p cl ll n := by
  obtain ⟨cs, c1, c2⟩ := L.c
  obtain ⟨ls, l1, l2⟩ := L.l
  exact ⟨by rw [upd_ne (Ne.symm h1)]; exact L.o, ⟨cs, by rw [upd_ne (Ne.symm h3)]; exact c1, c2⟩, ⟨ls, by rw [upd_ne (Ne.symm h2)]; exact l1, l2⟩, L.ne⟩
theorem LmO.new {H : Hp} {p cl ll l : Addr} {o : HO} {n : Nat} (L : LmO H p cl ll n) (h : H l = none) : LmO (L2.upd H l o) p cl ll n := L.kb ((KB.refl [] H).new h)
theorem LmO.off {H : Hp} {p cl ll l : Addr} {n : Nat} (L : LmO H p cl ll n) (h : H l = none) : l ≠ p ∧ l ≠ ll ∧ l ≠ cl := by
  obtain ⟨cs, c1, _⟩ := L.c
  obtain ⟨ls, l1, _⟩ := L.l
  refine ⟨fun e => ?_, fun e => ?_, fun e => ?_⟩
  · rw [e, L.o] at h; cases h
  · rw [e, l1] at h; cases h
  · rw [e, c1] at h; cases h
theorem rd_l_called (h : sp_l_called vs H Q E) : t_l_called K sp_l_draw { nx := fun _ H' => Q .non H', rt := Q } (start N_l_called vs) H := by
  obtain ⟨p, cl, ll, n, rfl, L, hn, q⟩ := h
  unfold t_l_called
  walk_at "w"
  refine ⟨szb (by show 0 ≤ _; omega), fun l hl => ?_⟩
  have L0 := L.new (o := .lst []) hl
  have off := L.off hl
  have nS : l ∉ [p, ll] := L.fresh hl
  have k0 : KB [p, ll] H (upd H l (.lst [])) := (KB.refl _ H).new hl
  walk_at "w"
  refine ⟨_, _, rfl, ?_⟩
  walk_at "w"
  refine w_drawn L0 (by omega) (by omega) (by omega) fun shift H1 s0 s1 k1 L1 => ?_
  walk_at "w"
  refine ⟨szb (by show 12 ≤ _; omega), fun e he => ?_⟩
  have ke := (KB.refl [p, ll] H1).new he (o := .lst [.int 1, .int 3, .int 5, .int 7, .int 9, .int 11, .int 15, .int 17, .int 19, .int 21, .int 23, .int 25])
  have Le := L1.new (o := .lst [.int 1, .int 3, .int 5, .int 7, .int 9, .int 11, .int 15, .int 17, .int 19, .int 21, .int 23, .int 25]) he
  walk_at "w"
  refine w_drawn Le (by omega) (by omega) (by omega) fun d2 H2 d0 d1 k2 L2' => ?_
  refine w_ixInt (cs := [1, 3, 5, 7, 9, 11, 15, 17, 19, 21, 23, 25]) (k2 e _ upd_same (L1.fresh he)) d0 (by show d2 < (12 : Int); omega) fun stride hst => ?_
  have st0 : 0 ≤ stride := by
    simp only [List.mem_cons, List.not_mem_nil, or_false] at hst
    omega
  walk_at "w"
  refine w_rng1 ?_
  walk_at "w"
  refine ⟨19, rfl, by omega, by omega, ?_⟩
  have kk : KB [p, ll] H H2 := ((k0.trans k1).trans ke).trans k2
  have hlE : H2 l = some (.lst []) := by
    have a1 : H1 l = some (.lst []) := k1 l _ upd_same nS
    exact k2 l _ (ke l _ a1 nS) nS
  refine forG (walk_range (lo := 0) (n := 19)) (fun i σ2 H2 => ∃ (u6 u7 u8 : Option V) (ws : List Str) (n' : Nat), σ2 = [some (.ref p), some (.int 19), some (.str "abcdefghijklmnopqrstuvwxyz"), some (.ref l), some (.int shift), some (.int stride), u6, u7, u8] ∧ KB [p, ll] H H2 ∧ LmO H2 p cl ll n' ∧ n' ≤ n + 2 + 10 * i ∧
      H2 l = some (.lst (ws.map V.str)) ∧ ws.length = i ∧ ∀ z ∈ ws, z.length ≤ 8)
    ⟨none, none, none, [], n + 1 + 1, rfl, kk, L2', by omega, hlE, rfl, by simp⟩ (fun _ _ _ _ _ => trivial) (fun i x σ2 H3 H4 hi P y => ?_) (fun σ2 H3 P => ?_)
  · obtain ⟨u6, u7, u8, ws, n', rfl, k, L, hn', hw, hwl, hz⟩ := P
    obtain ⟨rfl, rfl⟩ := y
    have ei : ((0 : Int) + (i : Nat)) = (i : Nat) := by omega
    dsimp only
    rw [ei]
    walk_at "w"
    refine w_mulR (by omega) ?_
    walk_at "w"
    refine w_mod (by omega) ?_
    refine w_ixSm (Int.emod_nonneg _ (by omega)) (by show _ < (26 : Int); exact Int.emod_lt_of_pos _ (by omega)) (by decide) fun z1 hz1 => ?_
    walk_at "w"
    refine w_div (by omega) (by omega) ?_
    walk_at "w"
    refine w_mod (by omega) ?_
    refine w_ixSm (Int.emod_nonneg _ (by omega)) (by show _ < (26 : Int); exact Int.emod_lt_of_pos _ (by omega)) (by decide) fun z2 hz2 => ?_
    refine w_addS' ⟨by omega, ?_⟩
    have h12 : (z1 ++ z2).length = 2 := by rw [app_len]; omega
    walk_at "w"
    refine w_rng1 ?_
    walk_at "w"
    refine w_drawn L (by omega) (by omega) (by omega) fun d6 H5 d0 d1 k5 L5 => ?_
    walk_at "w"
    refine ⟨szb (by show 4 ≤ _; omega), fun e2 he2 => ?_⟩
    have L6 := L5.new (o := .lst [.int 0, .int 0, .int 1, .int d6]) he2
    walk_at "w"
    refine w_drawn L6 (by omega) (by omega) (by omega) fun d4 H6 d40 d41 k6 L6 => ?_
    refine w_ixInt (cs := [0, 0, 1, d6]) (k6 e2 _ upd_same (L5.fresh he2)) d40 (by show d4 < (4 : Int); omega) fun c hc => ?_
    have hc0 : 0 ≤ c ∧ c ≤ 5 := by
      simp only [List.mem_cons, List.not_mem_nil, or_false] at hc
      omega
    have k46 : KB [p, ll] H4 H6 := (k5.new he2).trans k6
    walk_at "w"
    refine ⟨rfl, ?_⟩
    walk_at "w"
    have hb : ∃ b : Int, (if decide (V.str (z1 ++ z2) = V.str "in") then (1 : Int) else 0) = b ∧ 0 ≤ b ∧ b ≤ 1 := by
      cases decide (V.str (z1 ++ z2) = V.str "in")
      · exact ⟨0, rfl, by omega⟩
      · exact ⟨1, rfl, by omega⟩
    obtain ⟨b, eb, hb0, hb1⟩ := hb
    rw [eb]
    refine ⟨c + b, rfl, by omega, by omega, ?_⟩
    have hl6 : H6 l = some (.lst (ws.map V.str)) := k46 l _ hw nS
    refine forG (walk_range (lo := 0) (n := (c + b).toNat)) (fun j σ2 H2 => ∃ (u8 : Option V) (z : Str) (n2 : Nat), σ2 = [some (.ref p), some (.int 19), some (.str "abcdefghijklmnopqrstuvwxyz"), some (.ref l), some (.int shift), some (.int stride), some (.int i), some (.str z), u8] ∧ KB [p, ll] H4 H2 ∧ LmO H2 p cl ll n2 ∧ n2 ≤ n' + 2 + j ∧ z.length = 2 + j)
      ⟨_, z1 ++ z2, _, rfl, k46, L6, by omega, by omega⟩ (fun _ _ _ _ _ => trivial) (fun j x σ2 H7 H8 hj P y => ?_) (fun σ2 H7 P => ?_)
    · obtain ⟨u8, z, n2, rfl, k7, L7, hn2, hzl⟩ := P
      obtain ⟨rfl, rfl⟩ := y
      walk_at "w"
      refine w_drawn L7 (by omega) (by omega) (by omega) fun d5 H9 d50 d51 k9 L9 => ?_
      refine w_ixSm d50 (by show _ < (5 : Int); omega) (by decide) fun z3 hz3 => ?_
      refine w_addS' ⟨by omega, ?_⟩
      exact ⟨_, _, _, rfl, k7.trans k9, L9, by omega, by rw [app_len]; omega⟩
    · obtain ⟨u8, z, n2, rfl, k7, L7, hn2, hzl⟩ := P
      have hl7 : H7 l = some (.lst (ws.map V.str)) := k7 l _ hw nS
      walk_at "w"
      refine w_mod (by omega) ?_
      walk_at "w"
      refine ⟨rfl, ?_⟩
      walk_at "w"
      -- the end of the row, whatever it says
      have done : ∀ (nx : L2.St → Hp → Prop) (z : Str) (u : Option V) (H8 : Hp) (n3 : Nat), z.length ≤ 8 → KB [p, ll] H7 H8 → LmO H8 p cl ll n3 → n3 ≤ n' + 10 →
          (∀ (u6 u7 u8 : Option V) (ws : List Str) (n' : Nat) (H2 : Hp), KB [p, ll] H H2 → LmO H2 p cl ll n' → n' ≤ n + 2 + 10 * (i + 1) → H2 l = some (.lst (ws.map V.str)) → ws.length = i + 1 → (∀ z ∈ ws, z.length ≤ 8) →
            nx [some (.ref p), some (.int 19), some (.str "abcdefghijklmnopqrstuvwxyz"), some (.ref l), some (.int shift), some (.int stride), u6, u7, u8] H2) →
          tyV K "list" (V.ref l) H8 ∧ tCons (tVar 7) tNil [some (.ref p), some (.int 19), some (.str "abcdefghijklmnopqrstuvwxyz"), some (.ref l), some (.int shift), some (.int stride), some (.int i), some (.str z), u] H8 fun xs H2 => rAppend (V.ref l) xs H2 fun _ H1 => nx [some (.ref p), some (.int 19), some (.str "abcdefghijklmnopqrstuvwxyz"), some (.ref l), some (.int shift), some (.int stride), some (.int i), some (.str z), u] H1 := by
        intro nx z u H8 n3 hz8 k8 L8 hn3 hD
        have hl8 : H8 l = some (.lst (ws.map V.str)) := k8 l _ hl7 nS
        refine ⟨.inl ⟨rfl, _, .of hl8⟩, ?_⟩
        walk_at "w"
        refine w_appL (σ := []) hl8 (by rw [List.length_map]; omega) ?_
        refine hD _ _ _ (ws ++ [z]) n3 _ (((k.trans k7).trans k8).mutN hl) (L8.upd off.1 off.2.1 off.2.2) (by omega) ?_ (by rw [List.length_append, hwl]; rfl) fun z' hz' => ?_
        · rw [upd_same, List.map_append]; rfl
        · rcases List.mem_append.mp hz' with h | h
          · exact hz _ h
          · rw [List.mem_singleton.mp h]; exact hz8
      have fin : ∀ (u6 u7 u8 : Option V) (ws : List Str) (n' : Nat) (H2 : Hp), KB [p, ll] H H2 → LmO H2 p cl ll n' → n' ≤ n + 2 + 10 * (i + 1) → H2 l = some (.lst (ws.map V.str)) → ws.length = i + 1 → (∀ z ∈ ws, z.length ≤ 8) →
          ∃ (v6 v7 v8 : Option V) (ws : List Str) (n' : Nat), [some (V.ref p), some (.int 19), some (.str "abcdefghijklmnopqrstuvwxyz"), some (.ref l), some (.int shift), some (.int stride), u6, u7, u8] = [some (V.ref p), some (.int 19), some (.str "abcdefghijklmnopqrstuvwxyz"), some (.ref l), some (.int shift), some (.int stride), v6, v7, v8] ∧ KB [p, ll] H H2 ∧ LmO H2 p cl ll n' ∧ n' ≤ n + 2 + 10 * (i + 1) ∧ H2 l = some (.lst (ws.map V.str)) ∧ ws.length = i + 1 ∧ ∀ z ∈ ws, z.length ≤ 8 :=
        fun u6 u7 u8 ws n' H2 a b c d e f => ⟨u6, u7, u8, ws, n', rfl, a, b, c, d, e, f⟩
      cases hk : decide (V.int ((i : Int) % 2) = V.int 1) with
      | false =>
        walk_at "w"
        refine done _ z _ _ n2 (by omega) (KB.refl _ _) L7 (by omega) ?_
        exact fin
      | true =>
        walk_at "w"
        refine w_drawn L7 (by omega) (by omega) (by omega) fun d5 H9 d50 d51 k9 L9 => ?_
        walk_at "w"
        refine ⟨rfl, ?_⟩
        walk_at "w"
        cases hd : decide (V.int d5 = V.int 0) with
        | false =>
          walk_at "w"
          refine done _ z _ _ _ (by omega) k9 L9 (by omega) ?_
          exact fin
        | true =>
          have hodd : (i : Int) % 2 = 1 := by
            have := of_decide_eq_true hk
            exact V.int.inj this
          have hl9 : H9 l = some (.lst (ws.map V.str)) := k9 l _ hl7 nS
          have hne : ws ≠ [] := fun e => by subst e; simp at hwl; omega
          obtain ⟨last, hlast⟩ : ∃ x, ws.getLast? = some x := ⟨_, List.getLast?_eq_some_getLast hne⟩
          walk_at "w"
          refine w_uI (σ := []) ?_
          refine w_ixL (.of hl9) (atI_last (v := .str last) (by rw [List.getLast?_map, hlast]; rfl)) ?_
          have hlm := hz last (List.mem_of_getLast? hlast)
          walk_at "w"
          refine ⟨last, rfl, szb (by omega), ?_⟩
          have h7 := cut7 last
          walk_at "w"
          have h71 : ("y" : Str).length = 1 := by decide
          refine w_addS' (a := cutS last none (some 7)) (b := "y") ⟨by rw [h71]; omega, ?_⟩
          walk_at "w"
          refine done _ (cutS last none (some 7) ++ "y") _ _ _ (by rw [app_len, h71]; omega) k9 L9 (by omega) ?_
          exact fin
  · obtain ⟨u6, u7, u8, ws, n', rfl, k, L, hn', hw, hwl, hz⟩ := P
    walk_at "w"
    exact q l _ ws n' hl k L (by omega) hw hwl hz
end
end WK
set_option Elab.async false
set_option linter.all false
set_option maxRecDepth 100000
set_option maxHeartbeats 4000000
namespace WK
open PySem PySem.Spec PyProof.Rows L2
/-- steps that need no fact -/
local macro_rules | `(tactic| walk_at "w") => `(tactic| repeat (first
  | with_reducible refine w_seq ?_ | with_reducible refine w_asg ?_ | with_reducible refine w_ret ?_ | with_reducible refine w_drp ?_ | with_reducible refine w_next ?_ | with_reducible refine w_if ?_
  | ((with_reducible refine' w_var ?_ ?_); rotate_left; rfl) | with_reducible refine w_c ?_ | with_reducible refine w_op ?_ | with_reducible refine w_un ?_ | with_reducible refine w_test ?_ | with_reducible refine w_tB ?_ | with_reducible refine w_bl ?_
  | with_reducible refine w_and ?_ | with_reducible refine w_or ?_ | with_reducible refine w_not ?_ | with_reducible refine w_andV ?_ | with_reducible refine w_orV ?_ | with_reducible refine w_notV ?_ | with_reducible refine w_ebl ?_
  | with_reducible refine w_ifE ?_ | with_reducible refine w_nil ?_ | with_reducible refine w_cons ?_ | with_reducible refine w_cb ?_ | with_reducible refine w_call ?_ | with_reducible refine w_chain ?_ | with_reducible refine w_I0 ?_
  | with_reducible refine w_isN ?_ | with_reducible refine w_notN ?_ | with_reducible refine w_ltS ?_ | with_reducible refine w_leS ?_ | with_reducible refine w_m1 ?_ | with_reducible refine w_m1s ?_
  | with_reducible refine w_iT ?_ | with_reducible refine w_iF ?_ | with_reducible refine w_nT ?_ | with_reducible refine w_nF ?_ | with_reducible refine w_yes ?_ | with_reducible refine w_sfld ?_ | with_reducible refine w_lc ?_ | with_reducible refine w_for ?_ | with_reducible refine w_iStr ?_ | with_reducible refine w_iTup ?_ | with_reducible refine w_iList ?_ | with_reducible refine w_tup1 ?_ | with_reducible refine w_callN ?_ | with_reducible refine w_iZip ?_ | with_reducible refine w_sl ?_ | with_reducible refine w_part ?_ | with_reducible refine w_noPart ?_ | with_reducible refine w_eInt ?_ | with_reducible refine w_gN ?_ | with_reducible refine w_bm ?_ | with_reducible refine w_lst1 ?_ | ((with_reducible refine' w_aug ?_ ?_); rotate_left; rfl) | with_reducible refine w_ost ?_ | with_reducible refine w_rz ?_ | with_reducible refine w_gSub ?_ | with_reducible refine w_intB ?_))

theorem lcR {J : It} {n : Nat} {G : Hp → Prop} {Y : Nat → Hp → V → Hp → Prop} (w : Walk J n G Y) {g : TG} {tt : TT} {te : TE} {vs : List Nat} {σ : L2.St} {H : Hp} {Q : VK} (R : Hp → Hp → Prop) (rf : R H H) (tr : ∀ {a b c}, R a b → R b c → R a c)
    (muD : ∀ D H' xs, H D = none → R H H' → (H' D = none ∨ ∃ ys, H' D = some (.lst ys)) → R H (upd H' D (.lst xs))) (keep : ∀ D H1 H2 xs, H D = none → R H1 H2 → H1 D = some (.lst xs) → H2 D = some (.lst xs)) (A : Nat → List V → Hp → Prop) (hG : ∀ H2, R H H2 → G H2)
    (h0 : ∀ D, H D = none → A 0 [] (upd H D (.lst []))) (mono : ∀ i acc H1 D xs ys, H D = none → H1 D = some (.lst xs) → A i acc H1 → A i acc (upd H1 D (.lst ys))) (hn : n ≤ 16000000)
    (step : ∀ i x H2 H3 acc D (K1 : VK) (K0 : Hp → Prop), i < n → R H H2 → H2 D = some (.lst acc) → H D = none → A i acc H2 → Y i H2 x H3 → (∀ y H6, R H2 H6 → A (i + 1) (acc ++ [y]) H6 → K1 y H6) → (∀ H5, R H2 H5 → A (i + 1) acc H5 → K0 H5) →
      g x (wipe σ vs) H3 fun σ2 H4 => wipe σ2 vs = wipe σ vs ∧ tt σ2 H4 fun b H5 => if b = true then te σ2 H5 K1 else K0 H5)
    (fin : ∀ D acc H', H D = none → R H H' → H' D = some (.lst acc) → acc.length ≤ n → A n acc H' → Q (.ref D) H') :
    LcOk J g tt te vs σ H Q := by
  intro D hD
  have hz : n < sizeLine := Nat.lt_of_le_of_lt hn (by rw [sizeLine_eq]; decide)
  refine lc_it w (fun i H2 => R H H2 ∧ ∃ acc, H2 D = some (.lst acc) ∧ acc.length ≤ i ∧ A i acc H2) ⟨muD D H _ hD rf (.inl hD), [], upd_same, Nat.le_refl _, h0 D hD⟩ (fun i H2 _ p => hG H2 p.1) (fun i x H2 H3 hi p y => ?_) (fun H2 p => ?_)
  · obtain ⟨k, acc, e, hl, a⟩ := p
    refine step i x H2 H3 acc D _ _ hi k e hD a y (fun v H6 k6 a6 => ?_) (fun H5 k5 a5 => ?_)
    · have e6 : H6 D = some (.lst acc) := keep D _ _ _ hD k6 e
      exact ⟨acc, e6, by omega, muD D H6 _ hD (tr k k6) (.inr ⟨_, e6⟩), acc ++ [v], upd_same, by rw [List.length_append, List.length_singleton]; omega, mono _ _ _ _ _ _ hD e6 a6⟩
    · exact ⟨tr k k5, acc, keep D _ _ _ hD k5 e, by omega, a5⟩
  · obtain ⟨k, acc, e, hl, a⟩ := p
    exact fin D acc H2 hD k e hl a
theorem LmO.im {H H' : Hp} {p cl ll : Addr} {n : Nat} (L : LmO H p cl ll n) (k : KB [p, ll] H H') : Im H H' := k.im fun b hb o e => by
  obtain ⟨ls, l1, _⟩ := L.l
  simp only [List.mem_cons, List.not_mem_nil, or_false] at hb
  rcases hb with rfl | rfl
  · rw [L.o] at e; cases e; rfl
  · rw [l1] at e; cases e; rfl
def LimV (v : V) : Prop := v = .non ∨ ∃ x : Int, v = .int x ∧ 0 ≤ x ∧ x ≤ 1000000
def ThrV (H : Hp) (v : V) : Prop := v = .non ∨ ∃ t a b c, v = .ref t ∧ H t = some (.tup [a, b, c]) ∧ LimV a ∧ LimV b ∧ LimV c
theorem ThrV.im {H H' : Hp} {v : V} (h : ThrV H v) (k : Im H H') : ThrV H' v := by
  rcases h with h | ⟨t, a, b, c, e, h, r⟩
  · exact .inl h
  · exact .inr ⟨t, a, b, c, e, k.tup h, r⟩
def PRw (H : Hp) (x : V) : Prop := ∃ (t : Addr) (z : Str) (v1 v2 : V), x = .ref t ∧ H t = some (.tup [.str z, v1, v2]) ∧ z.length ≤ 8 ∧ ThrV H v1 ∧ ThrV H v2
theorem PRw.im {H H' : Hp} {x : V} (h : PRw H x) (k : Im H H') : PRw H' x := by
  obtain ⟨t, z, v1, v2, e, h, l, a, b⟩ := h
  exact ⟨t, z, v1, v2, e, k.tup h, l, a.im k, b.im k⟩
def PPr (H : Hp) (x : V) : Prop := ∃ (t : Addr) (z1 z2 : Str), x = .ref t ∧ H t = some (.tup [.str z1, .str z2]) ∧ z1.length ≤ 8 ∧ z2.length ≤ 8
theorem PPr.im {H H' : Hp} {x : V} (h : PPr H x) (k : Im H H') : PPr H' x := by
  obtain ⟨t, z1, z2, e, h, l⟩ := h
  exact ⟨t, z1, z2, e, k.tup h, l⟩
section
variable {K : PySem.W.Frag} {w : World} {mg : Str → Option Value} {vs : List V} {H : Hp} {Q : VK} {E : XK}
def sp_l_limit : Sp := fun vs H Q _ => ∃ (p cl ll : Addr) (n : Nat) (m : Int), vs = [.ref p, .int m] ∧ LmO H p cl ll n ∧ n ≤ 1000000000 ∧ 2 ≤ m ∧ m ≤ 1000000 ∧ ∀ v H' n', LimV v → KB [p, ll] H H' → LmO H' p cl ll n' → n' ≤ n + 5 → Q v H'
theorem rd_l_limit (h : sp_l_limit vs H Q E) : t_l_limit K sp_l_draw { nx := fun _ H' => Q .non H', rt := Q } (start N_l_limit vs) H := by
  obtain ⟨p, cl, ll, n, m, rfl, L, hn, h1, h2, q⟩ := h
  unfold t_l_limit
  walk_at "w"
  refine w_drawn L (by omega) (by omega) (by omega) fun a H1 a0 a1 k1 L1 => ?_
  walk_at "w"
  refine w_drawn L1 (by omega) (by omega) (by omega) fun b H2 b0 b1 k2 L2 => ?_
  walk_at "w"
  refine w_drawn L2 (by omega) (by omega) (by omega) fun c H3 c0 c1 k3 L3 => ?_
  walk_at "w"
  refine w_drawn L3 (by omega) (by omega) (by omega) fun d H4 d0 d1 k4 L4 => ?_
  walk_at "w"
  refine ⟨szb (by show 6 ≤ _; omega), fun e he => ?_⟩
  have L5 := L4.new (o := .lst [.non, .non, .int a, .int b, .int c, .int (m - d)]) he
  walk_at "w"
  refine w_drawn L5 (by omega) (by omega) (by omega) fun f H5 f0 f1 k5 L6 => ?_
  refine w_ixAny (k5 e _ upd_same (L4.fresh he)) f0 (by show f < (6 : Int); omega) fun v hv => ?_
  refine q v _ _ ?_ ((((k1.trans k2).trans k3).trans k4 |>.new he).trans k5) L6 (by omega)
  simp only [List.mem_cons, List.not_mem_nil, or_false] at hv
  rcases hv with rfl | rfl | rfl | rfl | rfl | rfl
  · exact .inl rfl
  · exact .inl rfl
  · exact .inr ⟨_, rfl, by omega, by omega⟩
  · exact .inr ⟨_, rfl, by omega, by omega⟩
  · exact .inr ⟨_, rfl, by omega, by omega⟩
  · exact .inr ⟨_, rfl, by omega, by omega⟩
def sp_l_limits : Sp := fun vs H Q _ => ∃ (p cl ll : Addr) (n : Nat), vs = [.ref p] ∧ LmO H p cl ll n ∧ n ≤ 1000000000 - 10 ∧ ∀ t a b c H' n', H' t = some (.tup [a, b, c]) → LimV a → LimV b → LimV c → KB [p, ll] H H' → LmO H' p cl ll n' → n' ≤ n + 15 → Q (.ref t) H'
theorem rd_l_limits (h : sp_l_limits vs H Q E) : t_l_limits K sp_l_limit { nx := fun _ H' => Q .non H', rt := Q } (start N_l_limits vs) H := by
  obtain ⟨p, cl, ll, n, rfl, L, hn, q⟩ := h
  unfold t_l_limits
  have e6 : ((10 : Int) ^ (6 : Int).toNat) = 1000000 := by decide
  walk_at "w"
  refine ⟨p, cl, ll, n, _, rfl, L, by omega, by omega, by omega, fun a H1 n1 la k1 L1 h1 => ?_⟩
  walk_at "w"
  refine w_I ⟨by omega, by omega, by decide⟩ ?_
  rw [e6]
  walk_at "w"
  refine ⟨p, cl, ll, n1, _, rfl, L1, by omega, by omega, by omega, fun b H2 n2 lb k2 L2 h2 => ?_⟩
  walk_at "w"
  refine w_I ⟨by omega, by omega, by decide⟩ ?_
  rw [e6]
  walk_at "w"
  refine ⟨p, cl, ll, n2, _, rfl, L2, by omega, by omega, by omega, fun c H3 n3 lc k3 L3 h3 => ?_⟩
  walk_at "w"
  refine ⟨szb (by show 3 ≤ _; omega), fun t ht => ?_⟩
  exact q t a b c _ n3 upd_same la lb lc (((k1.trans k2).trans k3).new ht) (L3.new ht) (by omega)
end
end WK
set_option Elab.async false
set_option linter.all false
set_option maxRecDepth 100000
set_option maxHeartbeats 4000000
namespace WK
open PySem PySem.Spec PyProof.Rows L2
/-- steps that need no fact -/
local macro_rules | `(tactic| walk_at "w") => `(tactic| repeat (first
  | with_reducible refine w_seq ?_ | with_reducible refine w_asg ?_ | with_reducible refine w_ret ?_ | with_reducible refine w_drp ?_ | with_reducible refine w_next ?_ | with_reducible refine w_if ?_
  | ((with_reducible refine' w_var ?_ ?_); rotate_left; rfl) | with_reducible refine w_c ?_ | with_reducible refine w_op ?_ | with_reducible refine w_un ?_ | with_reducible refine w_test ?_ | with_reducible refine w_tB ?_ | with_reducible refine w_bl ?_
  | with_reducible refine w_and ?_ | with_reducible refine w_or ?_ | with_reducible refine w_not ?_ | with_reducible refine w_andV ?_ | with_reducible refine w_orV ?_ | with_reducible refine w_notV ?_ | with_reducible refine w_ebl ?_
  | with_reducible refine w_ifE ?_ | with_reducible refine w_nil ?_ | with_reducible refine w_cons ?_ | with_reducible refine w_cb ?_ | with_reducible refine w_call ?_ | with_reducible refine w_chain ?_ | with_reducible refine w_I0 ?_
  | with_reducible refine w_isN ?_ | with_reducible refine w_notN ?_ | with_reducible refine w_ltS ?_ | with_reducible refine w_leS ?_ | with_reducible refine w_m1 ?_ | with_reducible refine w_m1s ?_
  | with_reducible refine w_iT ?_ | with_reducible refine w_iF ?_ | with_reducible refine w_nT ?_ | with_reducible refine w_nF ?_ | with_reducible refine w_yes ?_ | with_reducible refine w_sfld ?_ | with_reducible refine w_lc ?_ | with_reducible refine w_for ?_ | with_reducible refine w_iStr ?_ | with_reducible refine w_iTup ?_ | with_reducible refine w_iList ?_ | with_reducible refine w_tup1 ?_ | with_reducible refine w_callN ?_ | with_reducible refine w_iZip ?_ | with_reducible refine w_sl ?_ | with_reducible refine w_part ?_ | with_reducible refine w_noPart ?_ | with_reducible refine w_eInt ?_ | with_reducible refine w_gN ?_ | with_reducible refine w_bm ?_ | with_reducible refine w_lst1 ?_ | ((with_reducible refine' w_aug ?_ ?_); rotate_left; rfl) | with_reducible refine w_ost ?_ | with_reducible refine w_rz ?_ | with_reducible refine w_gSub ?_ | with_reducible refine w_intB ?_))

theorem szb' {n : Nat} (h : n ≤ 16000000) : n ≤ sizeLine := by rw [sizeLine_eq]; omega
theorem cut_strs (ws : List Str) (lo hi : Option Int) : ∃ zs : List Str, cutV (ws.map V.str) lo hi = zs.map V.str ∧ zs.length ≤ ws.length ∧ ∀ z ∈ zs, z ∈ ws := by
  refine ⟨(ws.drop (HT.sIx (ws.map V.str).length 0 lo)).take (HT.sIx (ws.map V.str).length (ws.map V.str).length hi - HT.sIx (ws.map V.str).length 0 lo), ?_, ?_, fun z hz => List.mem_of_mem_drop (List.mem_of_mem_take hz)⟩
  · unfold cutV
    rw [List.map_take, List.map_drop]
  · rw [List.length_take, List.length_drop]; omega
theorem cut_mem {xs : List V} {lo hi : Option Int} {v : V} (h : v ∈ cutV xs lo hi) : v ∈ xs := List.mem_of_mem_drop (List.mem_of_mem_take h)
def PlainD (H : Hp) (v : V) : Prop := ∃ (t pt rt qt : Addr) (z0 : Str) (a b c : V) (xs ys : List V), v = .ref t ∧ H t = some (.tup [.str z0, .ref pt, .ref rt, .ref qt]) ∧ z0.length ≤ 8 ∧ H pt = some (.tup [a, b, c]) ∧ LimV a ∧ LimV b ∧ LimV c ∧
  H rt = some (.tup xs) ∧ xs.length ≤ 20 ∧ (∀ x ∈ xs, PRw H x) ∧ H qt = some (.tup ys) ∧ ys.length ≤ 500 ∧ ∀ y ∈ ys, PPr H y
section
variable {K : PySem.W.Frag} {w : World} {mg : Str → Option Value} {vs : List V} {H : Hp} {Q : VK} {E : XK}
theorem ty_list {l : Addr} {xs : List V} (h : H l = some (.lst xs)) : tyV K "list" (.ref l) H := .inl ⟨rfl, _, .of h⟩
theorem w_limits {p cl ll : Addr} {n : Nat} (L : LmO H p cl ll n) (hn : n ≤ 1000000000 - 10) (q : ∀ t a b c H' n', H' t = some (.tup [a, b, c]) → LimV a → LimV b → LimV c → KB [p, ll] H H' → LmO H' p cl ll n' → n' ≤ n + 15 → Q (.ref t) H') : sp_l_limits ([.ref p] ++ []) H Q E :=
  ⟨p, cl, ll, n, rfl, L, hn, q⟩
theorem w_sortS {a : Addr} {zs : List Str} (h : SqL K H a (zs.map V.str)) (h2 : zs.length < 64) (q : ∀ (ys : List Str) (p : Addr), ys.Perm zs → H p = none → Q (.ref p) (upd H p (.lst (ys.map V.str)))) : rSortedS K [.ref a] H Q := ⟨a, zs, rfl, h, h2, fun ys p hp _ hn => q ys p hp hn⟩
theorem w_catL {a b : Addr} {xs ys : List V} (ha : H a = some (.lst xs)) (hb : H b = some (.lst ys)) (hz : xs.length + ys.length ≤ 16000000) (q : ∀ p, H p = none → Q (.ref p) (upd H p (.lst (xs ++ ys)))) : rCat (.ref a) (.ref b) H Q := ⟨a, b, xs, ys, rfl, rfl, ha, hb, szb' hz, q⟩
def sp_l_plain_sort : Sp := fun vs H Q _ => ∃ (p cl ll wl : Addr) (n : Nat) (ws : List Str), vs = [.ref p, .ref wl] ∧ LmO H p cl ll n ∧ n ≤ 900000000 ∧ H wl = some (.lst (ws.map V.str)) ∧ ws.length = 19 ∧ (∀ z ∈ ws, z.length ≤ 8) ∧ wl ∉ [p, ll] ∧
  ∀ v H' n', KB [p, ll] H H' → LmO H' p cl ll n' → n' ≤ n + 2000 → PlainD H' v → Q v H'
/-- [None, limits(m)][draw(m, 2)] -/
theorem w_opt3 {p cl ll : Addr} {n i : Nat} {σ : L2.St} (h : σ[i]? = some (some (.ref p))) (L : LmO H p cl ll n) (hn : n ≤ 950000000) (q : ∀ v H' n', ThrV H' v → KB [p, ll] H H' → LmO H' p cl ll n' → n' ≤ n + 16 → Q v H') :
    tOp (rIxL K) (tLst (tCons (tC .non) (tCons (tCall sp_l_limits [] E0 (tCons (tVar i) tNil)) tNil))) (tCall sp_l_draw [] E0 (tCons (tVar i) (tCons (tC (.int 2)) tNil))) σ H Q := by
  walk_at "w"
  refine w_var h ?_
  walk_at "w"
  refine w_limits L (by omega) fun t a b c H1 n1 ht la lb lc k1 L1 h1 => ?_
  walk_at "w"
  refine ⟨szb (by show 2 ≤ _; omega), fun e he => ?_⟩
  walk_at "w"
  refine w_var h ?_
  walk_at "w"
  refine w_drawn (L1.new he) (by omega) (by omega) (by omega) fun d H2 d0 d1 k2 L2 => ?_
  have im2 := (L1.new (o := .lst [.non, .ref t]) he).im k2
  refine w_ixAny (k2 e _ upd_same (L1.fresh he)) d0 (by show d < (2 : Int); omega) fun v hv => ?_
  refine q v _ _ ?_ ((k1.new he).trans k2) L2 (by omega)
  simp only [List.mem_cons, List.not_mem_nil, or_false] at hv
  rcases hv with rfl | rfl
  · exact .inl rfl
  · exact .inr ⟨t, a, b, c, rfl, im2.tup ((Im.new he).tup ht), la, lb, lc⟩
theorem rd_l_plain_sort (h : sp_l_plain_sort vs H Q E) : t_l_plain_sort K sp_l_draw sp_l_limits { nx := fun _ H' => Q .non H', rt := Q } (start N_l_plain_sort vs) H := by
  obtain ⟨p, cl, ll, wl, n, ws, rfl, L, hn, hw, hwl, hz, nS, q⟩ := h
  unfold t_l_plain_sort
  walk_at "w"
  refine ⟨szb (by show 0 ≤ _; omega), fun rl hrl => ?_⟩
  walk_at "w"
  refine ⟨szb (by show 0 ≤ _; omega), fun pl hpl => ?_⟩
  walk_at "w"
  refine ⟨_, _, rfl, ?_⟩
  have kA := ((KB.refl [p, ll] H).new hrl (o := .lst [])).new hpl (o := .lst [])
  have LA := (L.new hrl (o := .lst [])).new hpl (o := .lst [])
  have n1 : rl ≠ pl := fun e => by rw [← e, upd_same] at hpl; cases hpl
  have hpl0 : H pl = none := by rw [upd_ne (Ne.symm n1)] at hpl; exact hpl
  walk_at "w"
  refine ⟨szb (by show 2 ≤ _; omega), fun e he => ?_⟩
  have LB := LA.new (o := .lst [.int 4, .int 13]) he
  have kB := kA.new (o := .lst [.int 4, .int 13]) he
  walk_at "w"
  refine w_drawn LB (by omega) (by omega) (by omega) fun d H1 d0 d1 k1 L1 => ?_
  refine w_ixInt (cs := [4, 13]) (k1 e _ upd_same (LA.fresh he)) d0 (by show d < (2 : Int); omega) fun c hc => ?_
  have hc1 : 1 ≤ c ∧ c ≤ 13 := by
    simp only [List.mem_cons, List.not_mem_nil, or_false] at hc
    omega
  walk_at "w"
  refine w_drawn L1 (by omega) (by omega) (by omega) fun d2 H2 d20 d21 k2 L2 => ?_
  walk_at "w"
  have kC : KB [p, ll] H H2 := (kB.trans k1).trans k2
  refine w_slL (.of (kC wl _ hw nS)) fun cu hcu => ?_
  obtain ⟨zs, ez, zl, zm⟩ := cut_strs ws (some 1) (some (1 + d2))
  rw [ez]
  walk_at "w"
  refine w_sortS (.of upd_same) (by omega) fun ys sl hperm hsl => ?_
  have yl := hperm.length_eq
  have ym : ∀ z ∈ ys, z.length ≤ 8 := fun z h => hz z (zm z (hperm.mem_iff.mp h))
  refine w_itL (.of upd_same) ?_
  have LC := (L2.new (o := .lst (zs.map V.str)) hcu).new (o := .lst (ys.map V.str)) hsl
  have kD := (kC.new (o := .lst (zs.map V.str)) hcu).new (o := .lst (ys.map V.str)) hsl
  have rl2 : H2 rl = some (.lst []) := k2 rl _ (k1 rl _ (((KB.refl [] _).new he).get (((KB.refl [] _).new hpl).get upd_same)) (L.fresh hrl)) (L.fresh hrl)
  have pl2 : H2 pl = some (.lst []) := k2 pl _ (k1 pl _ (((KB.refl [] _).new he).get upd_same) (L.fresh hpl0)) (L.fresh hpl0)
  have kk2 : KB [] H2 _ := ((KB.refl [] H2).new (o := .lst (zs.map V.str)) hcu).new (o := .lst (ys.map V.str)) hsl
  have sl0 : H2 sl = none := by
    by_cases e : sl = cu
    · subst e; rw [upd_same] at hsl; cases hsl
    · rw [upd_ne e] at hsl; exact hsl
  have slr : sl ≠ rl := fun e => by rw [e, rl2] at sl0; cases sl0
  have slS : sl ∉ [p, ll, rl] := fun m => by
    rcases List.mem_cons.mp m with e | m
    · exact L2.fresh sl0 (by simp [e])
    · rcases List.mem_cons.mp m with e | m
      · exact L2.fresh sl0 (by simp [e])
      · exact slr (List.mem_singleton.mp m)
  have plS : pl ∉ [p, ll, rl] := fun m => by
    rcases List.mem_cons.mp m with e | m
    · exact L.fresh hpl0 (by simp [e])
    · rcases List.mem_cons.mp m with e | m
      · exact L.fresh hpl0 (by simp [e])
      · exact n1 (List.mem_singleton.mp m).symm
  have rS : rl ∉ [p, ll] := L.fresh hrl
  have up3 : ∀ {H1 H2 : Hp}, KB [p, ll] H1 H2 → KB [p, ll, rl] H1 H2 := fun k => k.mono fun b hb => by
    rcases List.mem_cons.mp hb with e | m
    · simp [e]
    · rw [List.mem_singleton.mp m]; simp
  refine forG (walk_list (xs := ys.map V.str)) (fun i σ2 H3 => ∃ (u4 u5 u6 u7 : Option V) (n' : Nat) (xs : List V), σ2 = [some (.ref p), some (.ref wl), some (.ref rl), some (.ref pl), u4, u5, u6, u7] ∧ KB [p, ll, rl] _ H3 ∧ KB [p, ll] H H3 ∧ LmO H3 p cl ll n' ∧ n' ≤ n + 2 + 40 * i ∧ H3 rl = some (.lst xs) ∧ xs.length = i ∧ ∀ x ∈ xs, PRw H3 x)
    ⟨none, none, none, none, _, [], rfl, KB.refl _ _, kD, LC, by omega, kk2.get rl2, rfl, by simp⟩ (fun i σ2 H3 hi P => ?_) (fun i x σ2 H3 H4 hi P y => ?_) (fun σ2 H3 P => ?_)
  · obtain ⟨u4, u5, u6, u7, n', xs, rfl, k, _⟩ := P
    exact .of (k sl _ upd_same slS)
  · obtain ⟨u4, u5, u6, u7, n', xs, rfl, k, kH, L3, hn', hr, hxl, hx⟩ := P
    obtain ⟨rfl, ex⟩ := y
    rw [List.length_map] at hi
    rw [List.getElem?_map] at ex
    obtain ⟨z, hz1, rfl⟩ := Option.map_eq_some_iff.mp ex
    have hz8 := ym z (List.mem_of_getElem? hz1)
    refine w_gN (w_seq (w_asg (w_opt3 rfl L3 (by omega) fun v1 H5 n5 hv1 k5 L5 h5 => ?_)))
    have hr5 : H5 rl = some (.lst xs) := k5 rl _ hr rS
    refine w_drp (w_bm (w_var rfl ⟨ty_list hr5, ?_⟩))
    refine w_cons (w_tup1 (w_cons (w_var rfl (w_cons (w_var rfl (w_cons (w_opt3 rfl L5 (by omega) fun v2 H6 n6 hv2 k6 L6 h6 => ?_)))))))
    walk_at "w"
    refine ⟨szb (by show 3 ≤ _; omega), fun t ht => ?_⟩
    walk_at "w"
    have hr6 : H6 rl = some (.lst xs) := k6 rl _ hr5 rS
    have im5 := L3.im k5
    have im6 := L5.im k6
    have imt : Im H6 (upd H6 t (.tup [.str z, v1, v2])) := Im.new ht
    have hr7 : upd H6 t (.tup [.str z, v1, v2]) rl = some (.lst xs) := by rw [upd_ne (fun e => by rw [← e, hr6] at ht; cases ht)]; exact hr6
    refine w_appL (σ := []) hr7 (by omega) ?_
    have iml : Im (upd H6 t (.tup [.str z, v1, v2])) (upd (upd H6 t (.tup [.str z, v1, v2])) rl (.lst (xs ++ [.ref t]))) := Im.lst fun u e => by rw [hr7] at e; cases e; rfl
    have imA := (im6.trans imt).trans iml
    have off := L.off hrl
    refine ⟨_, _, _, _, n6, xs ++ [.ref t], rfl, ((k.trans (up3 k5)).trans (up3 k6)).new ht |>.mut (by simp), (((kH.trans k5).trans k6).new ht).mutN hrl, (L6.new ht).upd off.1 off.2.1 off.2.2, by omega, upd_same, by rw [List.length_append, hxl]; rfl, fun x hx' => ?_⟩
    rcases List.mem_append.mp hx' with h | h
    · exact (hx x h).im (im5.trans imA)
    · rw [List.mem_singleton.mp h]
      exact ⟨t, z, v1, v2, rfl, iml.tup upd_same, hz8, hv1.im imA, hv2.im (imt.trans iml)⟩
  · obtain ⟨u4, u5, u6, u7, n', xs, rfl, k, kH, L3, hn', hr, hxl, hx⟩ := P
    rw [List.length_map] at hn' hxl
    have hp3 : H3 pl = some (.lst []) := k pl _ (kk2.get pl2) plS
    walk_at "w"
    refine w_slL (.of (kH wl _ hw nS)) fun cu2 hcu2 => ?_
    obtain ⟨zs2, ez2, zl2, zm2⟩ := cut_strs ws (some 13) (some 16)
    rw [ez2]
    walk_at "w"
    refine w_sortS (.of upd_same) (by omega) fun ys2 sl2 hperm2 hsl2 => ?_
    have yl2 := hperm2.length_eq
    have ym2 : ∀ z ∈ ys2, z.length ≤ 8 := fun z h => hz z (zm2 z (hperm2.mem_iff.mp h))
    refine w_itL (.of upd_same) ?_
    have kE : KB [] H3 _ := ((KB.refl [] H3).new (o := .lst (zs2.map V.str)) hcu2).new (o := .lst (ys2.map V.str)) hsl2
    have sl20 : H3 sl2 = none := by
      by_cases e : sl2 = cu2
      · subst e; rw [upd_same] at hsl2; cases hsl2
      · rw [upd_ne e] at hsl2; exact hsl2
    have sl2S : sl2 ∉ [p, ll] := L3.fresh sl20
    refine forG (walk_list (xs := ys2.map V.str)) (fun i σ2 H4 => ∃ (u4 u5 u6 u7 : Option V) (n2 : Nat) (pl2 : Addr) (qs : List V), σ2 = [some (.ref p), some (.ref wl), some (.ref rl), some (.ref pl2), u4, u5, u6, u7] ∧ KB [p, ll] _ H4 ∧ LmO H4 p cl ll n2 ∧ n2 ≤ n' + 20 * i ∧ H4 pl2 = some (.lst qs) ∧ qs.length ≤ 20 * i ∧ pl2 ∉ [p, ll] ∧ ∀ x ∈ qs, PPr H4 x)
      ⟨_, _, _, _, n', pl, [], rfl, KB.refl _ _, L3.kb kE, by omega, kE.get hp3, by simp, L.fresh hpl0, by simp⟩ (fun i σ2 H4 hi P => ?_) (fun i x σ2 H4 H5 hi P y => ?_) (fun σ2 H4 P => ?_)
    · obtain ⟨_, _, _, _, _, _, _, _, k, _⟩ := P
      exact .of (k sl2 _ upd_same sl2S)
    · obtain ⟨u4, u5, u6, u7, n2, pl2, qs, rfl, k4, L4, hn2, hp4, hql, hpS, hq⟩ := P
      obtain ⟨rfl, ex⟩ := y
      rw [List.length_map] at hi
      rw [List.getElem?_map] at ex
      obtain ⟨z, hz1, rfl⟩ := Option.map_eq_some_iff.mp ex
      have hz8 := ym2 z (List.mem_of_getElem? hz1)
      have kH4 : KB [p, ll] H3 H5 := kE.of.trans k4
      have hr5 : H5 rl = some (.lst xs) := kH4 rl _ hr rS
      have hx5 : ∀ x ∈ xs, PRw H5 x := fun x h => (hx x h).im (L3.im kH4)
      walk_at "w"
      refine w_slL (.of hr5) fun cu3 hcu3 => ?_
      refine w_itL (.of upd_same) ?_
      have kc := (KB.refl [p, ll] H5).new hcu3 (o := .lst (cutV xs none (some 8)))
      have Lc := L4.new hcu3 (o := .lst (cutV xs none (some 8)))
      have cS : cu3 ∉ [p, ll] := L4.fresh hcu3
      have cl3 : (cutV xs none (some 8)).length ≤ 20 := by have := cutV_length xs none (some 8); omega
      refine lcR walk_list (KB [p, ll]) (KB.refl _ _) (fun a b => a.trans b) (fun D H' xs hD k _ => k.mutN hD) (fun D H1 H2 xs hD k e => k D _ e (Lc.fresh hD)) (fun i acc H' => (∀ y ∈ acc, PPr H' y) ∧ ∃ n3, LmO H' p cl ll n3 ∧ n3 ≤ n2 + i) (fun H2 k => .of (k cu3 _ upd_same cS)) (fun D hD => ⟨by simp, n2, Lc.new hD, by omega⟩)
        (fun i acc H1 D xs ys hD e a => ?_) (by omega) (fun j x H6 H7 acc D K1 K0 hj k6 eD hD a y f1 f0 => ?_) (fun D acc H6 hD k6 eD hal a => ?_)
      · obtain ⟨a1, n3, a2, a3⟩ := a
        have off := Lc.off hD
        exact ⟨fun y hy => (a1 y hy).im (Im.lst fun u q => by rw [e] at q; cases q; rfl), n3, a2.upd off.1 off.2.1 off.2.2, a3⟩
      · obtain ⟨rfl, ex⟩ := y
        obtain ⟨a1, n3, a2, a3⟩ := a
        obtain ⟨t, z2, v1, v2, rfl, ht, hz2, _⟩ := (hx5 x (cut_mem (List.mem_of_getElem? ex))).im ((L4.im kc).trans (Lc.im k6))
        refine ⟨rfl, ?_⟩
        walk_at "w"
        refine w_drawn a2 (by omega) (by omega) (by omega) fun d H8 d0 d1 k8 L8 => ?_
        walk_at "w"
        refine ⟨rfl, ?_⟩
        walk_at "w"
        have im8 := a2.im k8
        have a1' : ∀ y ∈ acc, PPr H8 y := fun y hy => (a1 y hy).im im8
        cases decide (V.int d = V.int 0) with
        | false => exact f0 H8 k8 ⟨a1', _, L8, by omega⟩
        | true =>
          walk_at "w"
          refine w_ixT (.of (im8.tup ht)) (atI_nat (k := 0) rfl) ?_
          walk_at "w"
          refine ⟨szb (by show 2 ≤ _; omega), fun u hu => ?_⟩
          refine f1 _ _ (k8.new hu) ⟨fun y hy => ?_, _, L8.new hu, by omega⟩
          rcases List.mem_append.mp hy with h | h
          · exact (a1' y h).im (Im.new hu)
          · rw [List.mem_singleton.mp h]
            exact ⟨u, z, z2, rfl, upd_same, hz8, hz2⟩
      · obtain ⟨a1, n3, a2, a3⟩ := a
        have kf : KB [p, ll] H5 H6 := kc.trans k6
        walk_at "w"
        refine w_catL (kf pl2 _ hp4 hpS) eD (by omega) fun np hnp => ?_
        have im5 := L4.im kf
        exact ⟨_, _, _, _, n3, np, qs ++ acc, rfl, (k4.trans kf).new hnp, a2.new hnp, by omega, upd_same, by rw [List.length_append]; omega, a2.fresh hnp, fun x hx' => by
          rcases List.mem_append.mp hx' with h | h
          · exact (hq x h).im (im5.trans (Im.new hnp))
          · exact (a1 x h).im (Im.new hnp)⟩
    · obtain ⟨u4, u5, u6, u7, n2, pl2, qs, rfl, k4, L4, hn2, hp4, hql, hpS, hq⟩ := P
      rw [List.length_map] at hn2 hql
      have kH4 : KB [p, ll] H H4 := (kH.trans kE.of).trans k4
      have kr4 : KB [p, ll] H3 H4 := kE.of.trans k4
      walk_at "w"
      obtain ⟨z0, hz0⟩ : ∃ z0, ws[0]? = some z0 := ⟨_, List.getElem?_eq_getElem (by omega)⟩
      refine w_ixL (.of (kH4 wl _ hw nS)) (atI_nat (k := 0) (v := .str z0) (by rw [List.getElem?_map, hz0]; rfl)) ?_
      walk_at "w"
      refine w_limits L4 (by omega) fun pt a b c H5 n5 ht la lb lc k5 L5 h5 => ?_
      have k35 := kr4.trans k5
      have hr5 : H5 rl = some (.lst xs) := k35 rl _ hr rS
      have hp5 : H5 pl2 = some (.lst qs) := k5 pl2 _ hp4 hpS
      walk_at "w"
      refine w_tupL (.of hr5) fun rt hrt => ?_
      have kr := (KB.refl [] H5).new hrt (o := .tup xs)
      walk_at "w"
      refine w_tupL (.of (kr.get hp5)) fun qt hqt => ?_
      have kq := kr.new hqt (o := .tup qs)
      walk_at "w"
      refine ⟨szb (by show 4 ≤ _; omega), fun t htt => ?_⟩
      have kt := kq.new htt (o := .tup [.str z0, .ref pt, .ref rt, .ref qt])
      refine q _ _ n5 ((kH4.trans k5).trans kt.of) (L5.kb kt) (by omega) ⟨t, pt, rt, qt, _, a, b, c, xs, qs, rfl, upd_same, hz _ (List.mem_of_getElem? hz0), kt.get ht, la, lb, lc, upd_get htt (upd_get hqt upd_same), by omega, fun x h => ((hx x h).im (L3.im k35)).im kt.im0, upd_get htt upd_same, by omega, fun y h => ((hq y h).im (L4.im k5)).im kt.im0⟩
end
end WK
set_option Elab.async false
set_option linter.all false
set_option maxRecDepth 100000
set_option maxHeartbeats 4000000
namespace WK
open PySem PySem.Spec PyProof.Rows L2
/-- steps that need no fact -/
local macro_rules | `(tactic| walk_at "w") => `(tactic| repeat (first
  | with_reducible refine w_seq ?_ | with_reducible refine w_asg ?_ | with_reducible refine w_ret ?_ | with_reducible refine w_drp ?_ | with_reducible refine w_next ?_ | with_reducible refine w_if ?_
  | ((with_reducible refine' w_var ?_ ?_); rotate_left; rfl) | with_reducible refine w_c ?_ | with_reducible refine w_op ?_ | with_reducible refine w_un ?_ | with_reducible refine w_test ?_ | with_reducible refine w_tB ?_ | with_reducible refine w_bl ?_
  | with_reducible refine w_and ?_ | with_reducible refine w_or ?_ | with_reducible refine w_not ?_ | with_reducible refine w_andV ?_ | with_reducible refine w_orV ?_ | with_reducible refine w_notV ?_ | with_reducible refine w_ebl ?_
  | with_reducible refine w_ifE ?_ | with_reducible refine w_nil ?_ | with_reducible refine w_cons ?_ | with_reducible refine w_cb ?_ | with_reducible refine w_call ?_ | with_reducible refine w_chain ?_ | with_reducible refine w_I0 ?_
  | with_reducible refine w_isN ?_ | with_reducible refine w_notN ?_ | with_reducible refine w_ltS ?_ | with_reducible refine w_leS ?_ | with_reducible refine w_m1 ?_ | with_reducible refine w_m1s ?_
  | with_reducible refine w_iT ?_ | with_reducible refine w_iF ?_ | with_reducible refine w_nT ?_ | with_reducible refine w_nF ?_ | with_reducible refine w_yes ?_ | with_reducible refine w_sfld ?_ | with_reducible refine w_lc ?_ | with_reducible refine w_for ?_ | with_reducible refine w_iStr ?_ | with_reducible refine w_iTup ?_ | with_reducible refine w_iList ?_ | with_reducible refine w_tup1 ?_ | with_reducible refine w_callN ?_ | with_reducible refine w_iZip ?_ | with_reducible refine w_sl ?_ | with_reducible refine w_part ?_ | with_reducible refine w_noPart ?_ | with_reducible refine w_eInt ?_ | with_reducible refine w_gN ?_ | with_reducible refine w_bm ?_ | with_reducible refine w_lst1 ?_ | ((with_reducible refine' w_aug ?_ ?_); rotate_left; rfl) | with_reducible refine w_ost ?_ | with_reducible refine w_rz ?_ | with_reducible refine w_gSub ?_ | with_reducible refine w_intB ?_))

section
variable {K : PySem.W.Frag} {w : World} {mg : Str → Option Value} {vs : List V} {H : Hp} {Q : VK} {E : XK}
def sp_l_text : Sp := fun vs H Q _ => ∃ (t : Addr) (a b c : V), vs = [.ref t] ∧ H t = some (.tup [a, b, c]) ∧ LimV a ∧ LimV b ∧ LimV c ∧ ∀ z H', KB [] H H' → z.length ≤ 50 → Q (.str z) H'
theorem w_strI {x : Int} (h0 : 0 ≤ x) (h1 : x ≤ 1000000) (q : Q (.str (numS x)) H) : qStrI [.int x] H Q := ⟨x, rfl, by
  have h : x.natAbs < 2 ^ 20 := by
    have : (2 : Nat) ^ 20 = 1048576 := by decide
    omega
  by_cases e : x.natAbs = 0
  · rw [e]; decide
  · have := (Nat.log2_lt e).mpr h
    omega, q⟩
theorem w_repB {z : Str} {b : Bool} (q : ∀ s : Str, s.length ≤ z.length → Q (.str s) H) : qRepS (.str z) (.int (if b then 1 else 0)) H Q := by
  cases b with
  | false => exact ⟨z, 0, rfl, rfl, .inl ⟨rfl, q _ (Nat.zero_le _)⟩⟩
  | true => exact ⟨z, 1, rfl, rfl, .inr (.inl ⟨rfl, q _ (Nat.le_refl _)⟩)⟩
theorem rd_l_text (h : sp_l_text vs H Q E) : t_l_text K { nx := fun _ H' => Q .non H', rt := Q } (start N_l_text vs) H := by
  obtain ⟨t, a, b, c, rfl, ht, la, lb, lc, q⟩ := h
  unfold t_l_text
  walk_at "w"
  refine ⟨szb (by show 3 ≤ _; omega), fun wl hwl => ?_⟩
  have k0 := (KB.refl [] H).new hwl (o := .lst [.str "days", .str "miles", .str "turns"])
  walk_at "w"
  refine ⟨_, _, rfl, ?_⟩
  walk_at "w"
  refine w_rng1 ?_
  walk_at "w"
  refine ⟨3, rfl, by omega, by omega, ?_⟩
  refine forG (walk_range (lo := 0) (n := 3)) (fun i σ2 H2 => ∃ (u3 : Option V) (z : Str), σ2 = [some (.ref t), some (.ref wl), some (.str z), u3] ∧ KB [] H H2 ∧ H2 wl = some (.lst [.str "days", .str "miles", .str "turns"]) ∧ z.length ≤ 14 * i)
    ⟨none, "", rfl, k0, upd_same, by decide⟩ (fun _ _ _ _ _ => trivial) (fun i x σ2 H3 H4 hi P y => ?_) (fun σ2 H3 P => ?_)
  · obtain ⟨u3, z, rfl, k, hw, hz⟩ := P
    obtain ⟨rfl, rfl⟩ := y
    have ei : ((0 : Int) + (i : Nat)) = (i : Nat) := by omega
    dsimp only
    rw [ei]
    have h4 : H4 t = some (.tup [a, b, c]) := k.get ht
    obtain ⟨v, hv, hl⟩ : ∃ v, [a, b, c][i]? = some v ∧ LimV v := by
      match i, hi with
      | 0, _ => exact ⟨a, rfl, la⟩
      | 1, _ => exact ⟨b, rfl, lb⟩
      | 2, _ => exact ⟨c, rfl, lc⟩
    obtain ⟨u, hu, ul⟩ : ∃ u : Str, ([.str "days", .str "miles", .str "turns"] : List V)[i]? = some (.str u) ∧ u.length ≤ 5 := by
      match i, hi with
      | 0, _ => exact ⟨"days", rfl, by decide⟩
      | 1, _ => exact ⟨"miles", rfl, by decide⟩
      | 2, _ => exact ⟨"turns", rfl, by decide⟩
    walk_at "w"
    refine w_ixT (.of h4) (atI_nat hv) ?_
    walk_at "w"
    rcases hl with rfl | ⟨x, rfl, x0, x1⟩
    · rw [decide_eq_true rfl]
      walk_at "w"
      exact ⟨_, z, rfl, k, hw, by omega⟩
    · rw [decide_eq_false (by simp)]
      walk_at "w"
      refine ⟨rfl, ?_⟩
      walk_at "w"
      refine w_repB fun s1 hs1 => ?_
      have l1 : (" " : Str).length = 1 := by decide
      refine w_addS' ⟨by omega, ?_⟩
      walk_at "w"
      refine w_ixT (.of h4) (atI_nat hv) ?_
      walk_at "w"
      refine w_strI x0 x1 ?_
      have hn := numS_len x0 x1
      refine w_addS' ⟨by rw [app_len]; omega, ?_⟩
      walk_at "w"
      refine w_addS' ⟨by rw [app_len, app_len]; omega, ?_⟩
      walk_at "w"
      refine w_ixL (.of hw) (atI_nat hu) ?_
      refine w_addS' ⟨by rw [app_len, app_len, app_len]; omega, ?_⟩
      exact ⟨_, _, rfl, k, hw, by rw [app_len, app_len, app_len, app_len]; omega⟩
  · obtain ⟨u3, z, rfl, k, hw, hz⟩ := P
    walk_at "w"
    refine ⟨rfl, ?_⟩
    walk_at "w"
    cases (!decide (V.str z = V.str "")) with
    | true =>
      walk_at "w"
      exact q z _ k (by omega)
    | false =>
      walk_at "w"
      exact q _ _ k (by decide)
theorem w_optT {j : Nat} {key row : Str} {v : V} {σ : L2.St} {D : Ends} (h5 : σ[5]? = some (some (.str row))) (hj : σ[j]? = some (some v)) (hs : σ.set 5 (some (.str row)) = σ) (ht : ThrV H v) (hk : key.length ≤ 10) (hr : row.length ≤ 1000)
    (q : ∀ row' H', KB [] H H' → row'.length ≤ row.length + key.length + 50 → D.nx (σ.set 5 (some (.str row'))) H') :
    (tIfS (tTest (tOp qNotN (tVar j) (tC .non))) (tAsg (tOp qAddS (tOp qAddS (tVar 5) (tC (.str key))) (tCall sp_l_text [] E0 (tCons (tVar j) tNil))) (gName 5)) tNext) D σ H := by
  refine w_if (w_test (w_op (w_var hj (w_c (w_notN ?_)))))
  rcases ht with rfl | ⟨t, a, b, c, rfl, h, la, lb, lc⟩
  · rw [decide_eq_true rfl]
    walk_at "w"
    have := q row H (KB.refl _ _) (by omega)
    rw [hs] at this
    exact this
  · rw [decide_eq_false (by simp)]
    walk_at "w"
    refine w_var h5 ?_
    walk_at "w"
    refine w_addS' ⟨by omega, ?_⟩
    walk_at "w"
    refine w_var hj ?_
    walk_at "w"
    refine ⟨t, a, b, c, rfl, h, la, lb, lc, fun z H1 k1 hz => ?_⟩
    refine w_addS' ⟨by rw [app_len]; omega, ?_⟩
    exact q _ _ k1 (by rw [app_len, app_len]; omega)
def RowsB (zs : List Str) (N M : Nat) : Prop := 0 < zs.length ∧ zs.length ≤ N ∧ ∀ z ∈ zs, z.length ≤ M
def sp_l_sort_rows : Sp := fun vs H Q _ => ∃ v, vs = [v] ∧ PlainD H v ∧ ∀ l zs H', H l = none → KB [] H H' → H' l = some (.lst (zs.map V.str)) → RowsB zs 600 150 → Q (.ref l) H'
theorem rd_l_sort_rows (h : sp_l_sort_rows vs H Q E) : t_l_sort_rows K sp_l_text { nx := fun _ H' => Q .non H', rt := Q } (start N_l_sort_rows vs) H := by
  obtain ⟨v, rfl, ⟨t, pt, rt, qt, z0, a, b, c, xs, ys, rfl, ht, hz0, hp, la, lb, lc, hr, hxl, hx, hq, hyl, hy⟩, q⟩ := h
  unfold t_l_sort_rows
  walk_at "w"
  refine w_ixT (.of ht) (atI_nat (k := 0) rfl) ?_
  have e5 : ("sort " : Str).length = 5 := by decide
  have e1 : (" " : Str).length = 1 := by decide
  refine w_addS' ⟨by omega, ?_⟩
  walk_at "w"
  refine w_addS' ⟨by rw [app_len]; omega, ?_⟩
  walk_at "w"
  refine w_ixT (.of ht) (atI_nat (k := 1) rfl) ?_
  walk_at "w"
  refine ⟨pt, a, b, c, rfl, hp, la, lb, lc, fun z1 H1 k1 hz1 => ?_⟩
  refine w_addS' ⟨by rw [app_len, app_len]; omega, ?_⟩
  walk_at "w"
  refine ⟨szb (by show 1 ≤ _; omega), fun l hl => ?_⟩
  have kl := k1.new hl (o := .lst [.str ("sort " ++ z0 ++ " " ++ z1)])
  have hl0 : H l = none := k1.free hl (by simp)
  walk_at "w"
  refine w_ixT (.of (kl.get ht)) (atI_nat (k := 2) rfl) ?_
  refine w_itI (.of (kl.get hr)) ?_
  refine forG (walk_tup (xs := xs)) (fun i σ2 H2 => ∃ (u2 u3 u4 u5 u6 : Option V) (zs : List Str), σ2 = [some (.ref t), some (.ref l), u2, u3, u4, u5, u6] ∧ KB [] H H2 ∧ H2 l = some (.lst (zs.map V.str)) ∧ zs.length = i + 1 ∧ ∀ z ∈ zs, z.length ≤ 150)
    ⟨none, none, none, none, none, ["sort " ++ z0 ++ " " ++ z1], rfl, kl, upd_same, rfl, fun z hz => by rw [List.mem_singleton.mp hz, app_len, app_len, app_len]; omega⟩ (fun i σ2 H3 hi P => ?_) (fun i x σ2 H3 H4 hi P y => ?_) (fun σ2 H3 P => ?_)
  · obtain ⟨_, _, _, _, _, _, rfl, k, _⟩ := P; exact .of (k.get hr)
  · obtain ⟨u2, u3, u4, u5, u6, zs, rfl, k, hz, hzl, hzb⟩ := P
    obtain ⟨rfl, ex⟩ := y
    obtain ⟨u, z, v1, v2, rfl, hu, hz8, t1, t2⟩ := (hx x (List.mem_of_getElem? ex)).im k.im0
    refine w_gTup3 (.of hu) ?_
    have p5 : ("part " : Str).length = 5 := by decide
    have p6 : (" own " : Str).length = 5 := by decide
    have p7 : (" mended " : Str).length = 8 := by decide
    walk_at "w"
    refine w_addS' ⟨by omega, ?_⟩
    have lr : ("part " ++ z).length = 5 + z.length := by rw [app_len, p5]
    refine w_seq (w_optT (row := "part " ++ z) (key := " own ") rfl rfl rfl t1 (by omega) (by omega) fun r1 H5 k5 hr1 => ?_)
    refine w_seq (w_optT (row := r1) (key := " mended ") rfl rfl rfl (t2.im k5.im0) (by omega) (by omega) fun r2 H6 k6 hr2 => ?_)
    have hz6 := (k5.trans k6).get hz
    refine w_drp (w_bm (w_var rfl ⟨ty_list hz6, ?_⟩))
    walk_at "w"
    refine w_appL (σ := []) hz6 (by rw [List.length_map]; omega) ?_
    refine ⟨_, _, _, _, _, zs ++ [r2], rfl, ((k.trans k5).trans k6).mutN hl0, by rw [upd_same, List.map_append]; rfl, by rw [List.length_append, hzl]; rfl, fun z' hz' => ?_⟩
    rcases List.mem_append.mp hz' with h | h
    · exact hzb _ h
    · rw [List.mem_singleton.mp h]; omega
  · obtain ⟨u2, u3, u4, u5, u6, zs, rfl, k, hz, hzl, hzb⟩ := P
    walk_at "w"
    refine w_ixT (.of (k.get ht)) (atI_nat (k := 3) rfl) ?_
    refine w_itI (.of (k.get hq)) ?_
    refine lcR walk_tup (KB []) (KB.refl _ _) (fun a b => a.trans b) (fun D H' xs hD k _ => k.mutN hD) (fun D H1 H2 xs hD k e => k.get e) (fun i acc H' => ∃ bs : List Str, acc = bs.map V.str ∧ ∀ b ∈ bs, b.length ≤ 150) (fun H2 k2 => .of (k2.get (k.get hq))) (fun D hD => ⟨[], rfl, by simp⟩)
      (fun i acc H1 D xs ys hD e a => a) (by omega) (fun j x H6 H7 acc D K1 K0 hj k6 eD hD a y f1 f0 => ?_) (fun D acc H6 hD k6 eD hal a => ?_)
    · obtain ⟨rfl, ex⟩ := y
      obtain ⟨bs, rfl, hb⟩ := a
      obtain ⟨u, z1, z2, rfl, hu, h1, h2⟩ := (hy x (List.mem_of_getElem? ex)).im (k.trans k6).im0
      refine w_gTup2 (.of hu) ?_
      refine ⟨rfl, ?_⟩
      have e7 : ("barred " : Str).length = 7 := by decide
      walk_at "w"
      refine w_addS' ⟨by omega, ?_⟩
      walk_at "w"
      refine w_addS' ⟨by rw [app_len]; omega, ?_⟩
      walk_at "w"
      refine w_addS' ⟨by rw [app_len, app_len]; omega, ?_⟩
      refine f1 _ _ (KB.refl _ _) ⟨bs ++ [_], by rw [List.map_append]; rfl, fun b hb' => ?_⟩
      rcases List.mem_append.mp hb' with h | h
      · exact hb _ h
      · rw [List.mem_singleton.mp h, app_len, app_len, app_len]; omega
    · obtain ⟨bs, rfl, hb⟩ := a
      walk_at "w"
      rw [List.length_map] at hal
      refine w_catL (k6.get hz) eD (by rw [List.length_map, List.length_map]; omega) fun np hnp => ?_
      have kk := (k.trans k6).new hnp (o := .lst (zs.map V.str ++ bs.map V.str))
      refine q np (zs ++ bs) _ ((k.trans k6).free hnp (by simp)) kk (by rw [upd_same, List.map_append]) ⟨by rw [List.length_append]; omega, by rw [List.length_append]; omega, fun z hz' => ?_⟩
      rcases List.mem_append.mp hz' with h | h
      · exact hzb _ h
      · exact hb _ h
end
end WK
set_option Elab.async false
set_option linter.all false
set_option maxRecDepth 100000
set_option maxHeartbeats 4000000
namespace WK
open PySem PySem.Spec PyProof.Rows L2
/-- steps that need no fact -/
local macro_rules | `(tactic| walk_at "w") => `(tactic| repeat (first
  | with_reducible refine w_seq ?_ | with_reducible refine w_asg ?_ | with_reducible refine w_ret ?_ | with_reducible refine w_drp ?_ | with_reducible refine w_next ?_ | with_reducible refine w_if ?_
  | ((with_reducible refine' w_var ?_ ?_); rotate_left; rfl) | with_reducible refine w_c ?_ | with_reducible refine w_op ?_ | with_reducible refine w_un ?_ | with_reducible refine w_test ?_ | with_reducible refine w_tB ?_ | with_reducible refine w_bl ?_
  | with_reducible refine w_and ?_ | with_reducible refine w_or ?_ | with_reducible refine w_not ?_ | with_reducible refine w_andV ?_ | with_reducible refine w_orV ?_ | with_reducible refine w_notV ?_ | with_reducible refine w_ebl ?_
  | with_reducible refine w_ifE ?_ | with_reducible refine w_nil ?_ | with_reducible refine w_cons ?_ | with_reducible refine w_cb ?_ | with_reducible refine w_call ?_ | with_reducible refine w_chain ?_ | with_reducible refine w_I0 ?_
  | with_reducible refine w_isN ?_ | with_reducible refine w_notN ?_ | with_reducible refine w_ltS ?_ | with_reducible refine w_leS ?_ | with_reducible refine w_m1 ?_ | with_reducible refine w_m1s ?_
  | with_reducible refine w_iT ?_ | with_reducible refine w_iF ?_ | with_reducible refine w_nT ?_ | with_reducible refine w_nF ?_ | with_reducible refine w_yes ?_ | with_reducible refine w_sfld ?_ | with_reducible refine w_lc ?_ | with_reducible refine w_for ?_ | with_reducible refine w_iStr ?_ | with_reducible refine w_iTup ?_ | with_reducible refine w_iList ?_ | with_reducible refine w_tup1 ?_ | with_reducible refine w_callN ?_ | with_reducible refine w_iZip ?_ | with_reducible refine w_sl ?_ | with_reducible refine w_part ?_ | with_reducible refine w_noPart ?_ | with_reducible refine w_eInt ?_ | with_reducible refine w_gN ?_ | with_reducible refine w_bm ?_ | with_reducible refine w_lst1 ?_ | ((with_reducible refine' w_aug ?_ ?_); rotate_left; rfl) | with_reducible refine w_ost ?_ | with_reducible refine w_rz ?_ | with_reducible refine w_gSub ?_ | with_reducible refine w_intB ?_))

/-! ### bent -/
def tot (zs : List Str) : Nat := (zs.map (·.length)).sum + zs.length
theorem tot_app (a b : List Str) : tot (a ++ b) = tot a + tot b := by unfold tot; rw [List.map_append, List.sum_append, List.length_append]; omega
theorem tot_cons (a : Str) (b : List Str) : tot (a :: b) = a.length + 1 + tot b := by unfold tot; rw [List.map_cons, List.sum_cons, List.length_cons]; omega
theorem tot_nil : tot [] = 0 := rfl
theorem tot_rev (a : List Str) : tot a.reverse = tot a := by
  induction a with
  | nil => rfl
  | cons x r ih => rw [List.reverse_cons, tot_app, ih, tot_cons, tot_cons, tot_nil]; omega
theorem tot_split (ws : List Str) (k : Nat) : tot (ws.take k) + tot (ws.drop k) = tot ws := by rw [← tot_app, List.take_append_drop]
theorem tot_drop (ws : List Str) (k : Nat) : tot (ws.drop k) ≤ tot ws := by have := tot_split ws k; omega
theorem join_tot {y : Str} (hy : y.length = 1) : ∀ {zs : List Str}, zs ≠ [] → (Txt.join y zs).length + 1 = tot zs
  | [], h => absurd rfl h
  | [a], _ => by rw [jn_one, tot_cons, tot_nil]
  | a :: b :: r, _ => by
    rw [jn_cons _ _ (by simp), app_len, app_len, tot_cons, hy]
    have := join_tot hy (zs := b :: r) (by simp)
    omega
theorem sum_le_tot (zs : List Str) : (zs.map (·.length)).sum + zs.length * 1 ≤ tot zs := by unfold tot; omega
structure Bent (ws : List Str) (x : Str) (zs : List Str) : Prop where
  p : 0 < zs.length
  n : zs.length ≤ ws.length + 1
  m : ∀ z ∈ zs, z ∈ ws ∨ z = x
  t : tot zs ≤ tot ws + x.length + 1
theorem bent0 {ws : List Str} {k : Nat} (x : Str) (h : 1 < ws.length) (hk : k < ws.length) : Bent ws x (ws.take k ++ ws.drop (k + 1)) := by
  refine ⟨by rw [List.length_append, List.length_take, List.length_drop]; omega, by rw [List.length_append, List.length_take, List.length_drop]; omega, fun z hz => ?_, ?_⟩
  · rcases List.mem_append.mp hz with h | h
    · exact .inl (List.mem_of_mem_take h)
    · exact .inl (List.mem_of_mem_drop h)
  · have h1 := tot_split ws k
    have h2 := tot_drop (ws.drop k) 1
    rw [List.drop_drop] at h2
    rw [tot_app]; omega
theorem bentE {ws : List Str} {x : Str} : Bent ws x [x] := ⟨by simp, by simp, fun z hz => .inr (List.mem_singleton.mp hz), by rw [tot_cons, tot_nil]; omega⟩
theorem bent1 {ws : List Str} {k j : Nat} (x : Str) (h : k ≤ j) : Bent ws x (ws.take k ++ [x] ++ ws.drop j) := by
  refine ⟨by rw [List.length_append, List.length_append]; simp; omega, by rw [List.length_append, List.length_append, List.length_take, List.length_drop]; simp; omega, fun z hz => ?_, ?_⟩
  · rcases List.mem_append.mp hz with h | h
    · rcases List.mem_append.mp h with h | h
      · exact .inl (List.mem_of_mem_take h)
      · exact .inr (List.mem_singleton.mp h)
    · exact .inl (List.mem_of_mem_drop h)
  · have h1 := tot_split ws k
    have h2 := tot_drop (ws.drop k) (j - k)
    rw [List.drop_drop, show k + (j - k) = j by omega] at h2
    rw [tot_app, tot_app, tot_cons, tot_nil]; omega
theorem bent2 {ws : List Str} {k : Nat} (x : Str) (h : 0 < ws.length) : Bent ws x (ws.take k ++ ((ws.drop k).take 2).reverse ++ ws.drop (k + 2)) := by
  have e : ((ws.drop k).take 2 ++ ws.drop (k + 2)) = ws.drop k := by rw [← List.drop_drop, List.take_append_drop]
  have el : ((ws.drop k).take 2).length + (ws.drop (k + 2)).length = (ws.drop k).length := by rw [← List.length_append, e]
  have et : tot ((ws.drop k).take 2) + tot (ws.drop (k + 2)) = tot (ws.drop k) := by rw [← tot_app, e]
  have hl : (ws.take k ++ ((ws.drop k).take 2).reverse ++ ws.drop (k + 2)).length = ws.length := by
    rw [List.length_append, List.length_append, List.length_reverse]
    have : (ws.take k).length + (ws.drop k).length = ws.length := by rw [← List.length_append, List.take_append_drop]
    omega
  refine ⟨by omega, by omega, fun z hz => ?_, ?_⟩
  · rcases List.mem_append.mp hz with h | h
    · rcases List.mem_append.mp h with h | h
      · exact .inl (List.mem_of_mem_take h)
      · exact .inl (List.mem_of_mem_drop (List.mem_of_mem_take (List.mem_reverse.mp h)))
    · exact .inl (List.mem_of_mem_drop h)
  · have h1 := tot_split ws k
    rw [tot_app, tot_app, tot_rev]; omega
theorem cut_take (ws : List Str) (k : Nat) : cutV (ws.map V.str) none (some (k : Int)) = (ws.take k).map V.str := by
  unfold cutV
  rw [HT.sIx_nat, HT.sIx_none, List.drop_zero, Nat.sub_zero, List.map_take]
  by_cases h : k ≤ (ws.map V.str).length
  · rw [Nat.min_eq_left h]
  · rw [Nat.min_eq_right (by omega), List.take_of_length_le (Nat.le_refl _), List.take_of_length_le (by omega)]
theorem cut_drop (ws : List Str) (k : Nat) : cutV (ws.map V.str) (some (k : Int)) none = (ws.drop k).map V.str := by
  unfold cutV
  rw [HT.sIx_nat, HT.sIx_none, List.map_drop]
  by_cases h : k ≤ (ws.map V.str).length
  · rw [Nat.min_eq_left h, List.take_of_length_le (by rw [List.length_drop]; omega)]
  · rw [Nat.min_eq_right (by omega), List.drop_of_length_le (Nat.le_refl _), List.drop_of_length_le (by omega)]
    simp
theorem cut_mid (ws : List Str) (k : Nat) : cutV (ws.map V.str) (some (k : Int)) (some ((k : Int) + 2)) = ((ws.drop k).take 2).map V.str := by
  have e2 : HT.sIx (ws.map V.str).length (ws.map V.str).length (some ((k : Int) + 2)) = min (k + 2) (ws.map V.str).length := by
    have := HT.sIx_nat (ws.map V.str).length (ws.map V.str).length (k + 2)
    rw [← this]; rfl
  unfold cutV
  rw [HT.sIx_nat, e2, List.map_take, List.map_drop]
  by_cases h : k ≤ (ws.map V.str).length
  · rw [Nat.min_eq_left h]
    by_cases h2 : k + 2 ≤ (ws.map V.str).length
    · rw [Nat.min_eq_left h2]
      congr 1
      omega
    · rw [Nat.min_eq_right (by omega), List.take_of_length_le (by rw [List.length_drop]; omega), List.take_of_length_le (by rw [List.length_drop]; omega)]
  · rw [Nat.min_eq_right (by omega : (ws.map V.str).length ≤ k), Nat.min_eq_right (by omega : (ws.map V.str).length ≤ k + 2), List.drop_of_length_le (Nat.le_refl _), List.drop_of_length_le (by omega)]
    simp
section
variable {K : PySem.W.Frag} {w : World} {mg : Str → Option Value} {vs : List V} {σ : L2.St} {H : Hp} {Q : VK} {E : XK} {i a o k ok : Nat} {wl : Addr} {ws : List Str}
theorem w_bent0 {c : Str} (hi : σ[i]? = some (some (.ref wl))) (ha : σ[a]? = some (some (.int (k : Nat)))) (hw : H wl = some (.lst (ws.map V.str))) (hk : k < ws.length) (hz : ws.length ≤ 1000000) (q : ∀ x l zs H', x = c → Bent ws x zs → KB [] H H' → H' l = some (.lst (zs.map V.str)) → H l = none → Q (.ref l) H') :
    tIf (tTest (tOp qGt (tCB (qLenL K) (tCons (tVar i) tNil)) (tC (.int 1)))) (tOp rCat (tSl (rSlL K) (tVar i) tNoPart (tPart (tVar a))) (tSl (rSlL K) (tVar i) (tPart (tOp qAdd (tVar a) (tC (.int 1)))) tNoPart)) (tLst (tCons (tC (.str c)) tNil)) σ H Q := by
  walk_at "w"
  refine w_var hi ?_
  walk_at "w"
  refine w_lenL (.of hw) ?_
  rw [List.length_map]
  walk_at "w"
  by_cases h : ((ws.length : Nat) : Int) > 1
  · rw [decide_eq_true h]
    walk_at "w"
    refine w_var hi ?_
    walk_at "w"
    refine w_var ha ?_
    walk_at "w"
    refine w_slL (.of hw) fun c1 hc1 => ?_
    rw [cut_take]
    have k1 := (KB.refl [] H).new hc1 (o := .lst ((ws.take k).map V.str))
    walk_at "w"
    refine w_var hi ?_
    walk_at "w"
    refine w_var ha ?_
    walk_at "w"
    refine w_slL (.of (k1.get hw)) fun c2 hc2 => ?_
    rw [show ((k : Int) + 1) = ((k + 1 : Nat) : Int) by omega, cut_drop]
    have k2 := k1.new hc2 (o := .lst ((ws.drop (k + 1)).map V.str))
    refine w_catL (upd_get hc2 upd_same) upd_same (by rw [List.length_map, List.length_map, List.length_take, List.length_drop]; omega) fun np hnp => ?_
    rw [← List.map_append]
    exact q c np _ _ rfl (bent0 c (by omega) hk) (k2.new hnp) upd_same (k2.free hnp (by simp))
  · rw [decide_eq_false h]
    walk_at "w"
    refine ⟨szb (by show 1 ≤ _; omega), fun l hl => ?_⟩
    exact q c l [c] _ rfl bentE ((KB.refl [] H).new hl) upd_same hl
/-- words[:at] + [one] + words[at2:] -/
theorem w_cat3 {c1 x : Addr} {tt : TE} {j : Nat} {z : Str} (h1 : H c1 = some (.lst ((ws.take k).map V.str))) (hx : H x = some (.lst [.str z])) (hw : H wl = some (.lst (ws.map V.str))) (hz : ws.length ≤ 1000000) (hkj : k ≤ j) (hi : σ[i]? = some (some (.ref wl)))
    (ht : ∀ (H1 : Hp) (QO : Option Int → Hp → Prop), KB [] H H1 → QO (some (j : Nat)) H1 → tPart tt σ H1 QO) (q : ∀ l zs H', Bent ws z zs → KB [] H H' → H' l = some (.lst (zs.map V.str)) → H l = none → Q (.ref l) H') :
    rCat (.ref c1) (.ref x) H fun y H1 => tSl (rSlL K) (tVar i) (tPart tt) tNoPart σ H1 fun u H2 => rCat y u H2 Q := by
  refine w_catL h1 hx (by rw [List.length_map, List.length_take]; simp; omega) fun c2 hc2 => ?_
  have k2 := (KB.refl [] H).new hc2 (o := .lst ((ws.take k).map V.str ++ [.str z]))
  refine w_sl (w_var hi (ht _ _ k2 (w_noPart (w_slL (.of (k2.get hw)) fun c3 hc3 => ?_))))
  rw [cut_drop]
  have k3 := k2.new hc3 (o := .lst ((ws.drop j).map V.str))
  refine w_catL (upd_get hc3 upd_same) upd_same (by rw [List.length_append, List.length_map, List.length_map, List.length_take, List.length_drop]; simp; omega) fun np hnp => ?_
  have e : (ws.take k).map V.str ++ [V.str z] ++ (ws.drop j).map V.str = (ws.take k ++ [z] ++ ws.drop j).map V.str := by rw [List.map_append, List.map_append]; rfl
  rw [e]
  exact q np _ _ (bent1 z hkj) (k3.new hnp) upd_same (k3.free hnp (by simp))
theorem w_bent1 (hi : σ[i]? = some (some (.ref wl))) (ha : σ[a]? = some (some (.int (k : Nat)))) (ho : σ[o]? = some (some (.int (ok : Nat)))) (hw : H wl = some (.lst (ws.map V.str))) (hok : ok < ws.length) (hz : ws.length ≤ 1000000) (q : ∀ x l zs H', x ∈ ws → Bent ws x zs → KB [] H H' → H' l = some (.lst (zs.map V.str)) → H l = none → Q (.ref l) H') :
    tOp rCat (tOp rCat (tSl (rSlL K) (tVar i) tNoPart (tPart (tVar a))) (tLst (tCons (tOp (rIxL K) (tVar i) (tVar o)) tNil))) (tSl (rSlL K) (tVar i) (tPart (tVar a)) tNoPart) σ H Q := by
  walk_at "w"
  refine w_var hi ?_
  walk_at "w"
  refine w_var ha ?_
  walk_at "w"
  refine w_slL (.of hw) fun c1 hc1 => ?_
  rw [cut_take]
  have k1 := (KB.refl [] H).new hc1 (o := .lst ((ws.take k).map V.str))
  walk_at "w"
  refine w_var hi ?_
  walk_at "w"
  refine w_var ho ?_
  refine w_ixL (.of (k1.get hw)) (atI_nat (v := .str ws[ok]) (by rw [List.getElem?_map, List.getElem?_eq_getElem hok]; rfl)) ?_
  walk_at "w"
  refine ⟨szb (by show 1 ≤ _; omega), fun x hx => ?_⟩
  have k2 := k1.new hx (o := .lst [.str ws[ok]])
  refine w_cat3 (upd_get hx upd_same) upd_same (k2.get hw) hz (Nat.le_refl _) hi (fun H1 QO _ qo => w_part (w_var ha (w_eInt qo))) fun l zs H' hb k3 hl hn => ?_
  exact q _ l zs H' (List.getElem_mem hok) hb (k2.trans k3) hl (k2.free hn (by simp))
theorem w_revL {te : TE} (q : te σ H fun x H1 => ∃ a xs, x = .ref a ∧ SqL K H1 a xs ∧ ∀ p, H1 p = none → Q (.ref p) (upd H1 p (.lst xs.reverse))) : tRevL K te σ H Q := q
theorem w_bent2 (x : Str) (hi : σ[i]? = some (some (.ref wl))) (ha : σ[a]? = some (some (.int (k : Nat)))) (hw : H wl = some (.lst (ws.map V.str))) (hp : 0 < ws.length) (hz : ws.length ≤ 1000000) (q : ∀ l zs H', Bent ws x zs → KB [] H H' → H' l = some (.lst (zs.map V.str)) → H l = none → Q (.ref l) H') :
    tOp rCat (tOp rCat (tSl (rSlL K) (tVar i) tNoPart (tPart (tVar a))) (tRevL K (tSl (rSlL K) (tVar i) (tPart (tVar a)) (tPart (tOp qAdd (tVar a) (tC (.int 2))))))) (tSl (rSlL K) (tVar i) (tPart (tOp qAdd (tVar a) (tC (.int 2)))) tNoPart) σ H Q := by
  walk_at "w"
  refine w_var hi ?_
  walk_at "w"
  refine w_var ha ?_
  walk_at "w"
  refine w_slL (.of hw) fun c1 hc1 => ?_
  rw [cut_take]
  have k1 := (KB.refl [] H).new hc1 (o := .lst ((ws.take k).map V.str))
  refine w_revL ?_
  walk_at "w"
  refine w_var hi ?_
  walk_at "w"
  refine w_var ha ?_
  walk_at "w"
  refine w_var ha ?_
  walk_at "w"
  refine w_slL (.of (k1.get hw)) fun c2 hc2 => ?_
  rw [cut_mid]
  have k2 := k1.new hc2 (o := .lst (((ws.drop k).take 2).map V.str))
  refine ⟨c2, _, rfl, .of upd_same, fun c3 hc3 => ?_⟩
  have k3 := k2.new hc3 (o := .lst (((ws.drop k).take 2).map V.str).reverse)
  refine w_catL (upd_get hc3 (upd_get hc2 upd_same)) upd_same (by rw [List.length_reverse, List.length_map, List.length_map, List.length_take, List.length_take]; omega) fun c4 hc4 => ?_
  have k4 := k3.new hc4 (o := .lst ((ws.take k).map V.str ++ (((ws.drop k).take 2).map V.str).reverse))
  walk_at "w"
  refine w_var hi ?_
  walk_at "w"
  refine w_var ha ?_
  walk_at "w"
  refine w_slL (.of (k4.get hw)) fun c5 hc5 => ?_
  rw [show ((k : Int) + 2) = ((k + 2 : Nat) : Int) by omega, cut_drop]
  have k5 := k4.new hc5 (o := .lst ((ws.drop (k + 2)).map V.str))
  refine w_catL (upd_get hc5 upd_same) upd_same (by rw [List.length_append, List.length_reverse, List.length_map, List.length_map, List.length_map, List.length_take, List.length_take, List.length_drop, List.length_drop]; omega) fun np hnp => ?_
  have e : (ws.take k).map V.str ++ (((ws.drop k).take 2).map V.str).reverse ++ (ws.drop (k + 2)).map V.str = (ws.take k ++ ((ws.drop k).take 2).reverse ++ ws.drop (k + 2)).map V.str := by rw [List.map_append, List.map_append, List.map_reverse]
  rw [e]
  exact q np _ _ (bent2 x hp) (k5.new hnp) upd_same (k5.free hnp (by simp))
end
end WK
set_option Elab.async false
set_option linter.all false
set_option maxRecDepth 100000
set_option maxHeartbeats 4000000
namespace WK
open PySem PySem.Spec PyProof.Rows L2
/-- steps that need no fact -/
local macro_rules | `(tactic| walk_at "w") => `(tactic| repeat (first
  | with_reducible refine w_seq ?_ | with_reducible refine w_asg ?_ | with_reducible refine w_ret ?_ | with_reducible refine w_drp ?_ | with_reducible refine w_next ?_ | with_reducible refine w_if ?_
  | ((with_reducible refine' w_var ?_ ?_); rotate_left; rfl) | with_reducible refine w_c ?_ | with_reducible refine w_op ?_ | with_reducible refine w_un ?_ | with_reducible refine w_test ?_ | with_reducible refine w_tB ?_ | with_reducible refine w_bl ?_
  | with_reducible refine w_and ?_ | with_reducible refine w_or ?_ | with_reducible refine w_not ?_ | with_reducible refine w_andV ?_ | with_reducible refine w_orV ?_ | with_reducible refine w_notV ?_ | with_reducible refine w_ebl ?_
  | with_reducible refine w_ifE ?_ | with_reducible refine w_nil ?_ | with_reducible refine w_cons ?_ | with_reducible refine w_cb ?_ | with_reducible refine w_call ?_ | with_reducible refine w_chain ?_ | with_reducible refine w_I0 ?_
  | with_reducible refine w_isN ?_ | with_reducible refine w_notN ?_ | with_reducible refine w_ltS ?_ | with_reducible refine w_leS ?_ | with_reducible refine w_m1 ?_ | with_reducible refine w_m1s ?_
  | with_reducible refine w_iT ?_ | with_reducible refine w_iF ?_ | with_reducible refine w_nT ?_ | with_reducible refine w_nF ?_ | with_reducible refine w_yes ?_ | with_reducible refine w_sfld ?_ | with_reducible refine w_lc ?_ | with_reducible refine w_for ?_ | with_reducible refine w_iStr ?_ | with_reducible refine w_iTup ?_ | with_reducible refine w_iList ?_ | with_reducible refine w_tup1 ?_ | with_reducible refine w_callN ?_ | with_reducible refine w_iZip ?_ | with_reducible refine w_sl ?_ | with_reducible refine w_part ?_ | with_reducible refine w_noPart ?_ | with_reducible refine w_eInt ?_ | with_reducible refine w_gN ?_ | with_reducible refine w_bm ?_ | with_reducible refine w_lst1 ?_ | ((with_reducible refine' w_aug ?_ ?_); rotate_left; rfl) | with_reducible refine w_ost ?_ | with_reducible refine w_rz ?_ | with_reducible refine w_gSub ?_ | with_reducible refine w_intB ?_))

section
variable {K : PySem.W.Frag} {w : World} {mg : Str → Option Value} {vs : List V} {H : Hp} {Q : VK} {E : XK}
theorem w_par3 {i j l : Nat} {ta : TA} {D : Ends} {σ : L2.St} (q : ta σ H fun vs H1 => ∃ a b c, vs = [a, b, c] ∧ D.nx (((σ.set i (some a)).set j (some b)).set l (some c)) H1) : tPar3 i j l ta D σ H := q
theorem nat_of {d : Int} {n : Nat} (h0 : 0 ≤ d) (h1 : d < (n : Nat)) : ∃ k : Nat, d = (k : Nat) ∧ k < n := by
  obtain ⟨k, rfl⟩ := Int.eq_ofNat_of_zero_le h0
  exact ⟨k, rfl, by omega⟩
def sp_l_bent_words : Sp := fun vs H Q _ => ∃ (p cl ll wl sl : Addr) (n : Nat) (ws ss : List Str), vs = [.ref p, .ref wl, .ref sl] ∧ LmO H p cl ll n ∧ n ≤ 1000000000 ∧ H wl = some (.lst (ws.map V.str)) ∧ H sl = some (.lst (ss.map V.str)) ∧ wl ∉ [p, ll] ∧ sl ∉ [p, ll] ∧
  0 < ws.length ∧ ws.length ≤ 1000000 ∧ 0 < ss.length ∧ ss.length ≤ 1000000 ∧ ∀ x l zs H' n', (x ∈ ws ∨ x ∈ ss ∨ x = "end") → Bent ws x zs → KB [p, ll] H H' → LmO H' p cl ll n' → n' ≤ n + 4 → H' l = some (.lst (zs.map V.str)) → Q (.ref l) H'
theorem rd_l_bent_words (h : sp_l_bent_words vs H Q E) : t_l_bent_words K sp_l_draw { nx := fun _ H' => Q .non H', rt := Q } (start N_l_bent_words vs) H := by
  obtain ⟨p, cl, ll, wl, sl, n, ws, ss, rfl, L, hn, hw, hs, wS, sS, w0, w1, s0, s1, q⟩ := h
  unfold t_l_bent_words
  refine w_seq (w_par3 ?_)
  walk_at "w"
  refine w_lenL (.of hw) ?_
  rw [List.length_map]
  walk_at "w"
  refine w_drawn L (by omega) (by omega) (by omega) fun a H1 a0 a1 k1 L1 => ?_
  obtain ⟨a, rfl, ha⟩ := nat_of a0 a1
  have hw1 := k1 wl _ hw wS
  walk_at "w"
  refine w_lenL (.of hw1) ?_
  rw [List.length_map]
  walk_at "w"
  refine w_drawn L1 (by omega) (by omega) (by omega) fun o H2 o0 o1 k2 L2 => ?_
  obtain ⟨o, rfl, ho⟩ := nat_of o0 o1
  walk_at "w"
  refine w_drawn L2 (by omega) (by omega) (by omega) fun v H3 v0 v1 k3 L3 => ?_
  have k03 : KB [p, ll] H H3 := (k1.trans k2).trans k3
  have hw3 := k03 wl _ hw wS
  have hs3 := k03 sl _ hs sS
  walk_at "w"
  refine ⟨_, _, _, rfl, ?_⟩
  walk_at "w"
  refine ⟨rfl, ?_⟩
  walk_at "w"
  cases hd : decide (V.int v = V.int 0) with
  | true =>
    rw [if_pos rfl]
    refine w_ret (w_bent0 (c := "end") rfl rfl hw3 ha w1 fun x l zs H4 hx hb k4 hl _ => ?_)
    exact q x l zs H4 _ (.inr (.inr hx)) hb (k03.trans k4.of) (L3.kb k4) (by omega) hl
  | false =>
    walk_at "w"
    refine ⟨rfl, ?_⟩
    walk_at "w"
    cases hd1 : decide (V.int v = V.int 1) with
    | true =>
      rw [if_pos rfl]
      refine w_ret (w_bent1 rfl rfl rfl hw3 ho w1 fun x l zs H4 hx hb k4 hl _ => ?_)
      exact q x l zs H4 _ (.inl hx) hb (k03.trans k4.of) (L3.kb k4) (by omega) hl
    | false =>
      walk_at "w"
      refine ⟨rfl, ?_⟩
      walk_at "w"
      cases hd2 : decide (V.int v = V.int 2) with
      | true =>
        rw [if_pos rfl]
        refine w_ret (w_bent2 "end" rfl rfl hw3 w0 w1 fun l zs H4 hb k4 hl _ => ?_)
        exact q _ l zs H4 _ (.inr (.inr rfl)) hb (k03.trans k4.of) (L3.kb k4) (by omega) hl
      | false =>
        walk_at "w"
        refine w_slL (.of hw3) fun c1 hc1 => ?_
        rw [cut_take]
        have kc := (KB.refl [] H3).new hc1 (o := .lst ((ws.take a).map V.str))
        walk_at "w"
        refine w_lenL (.of (kc.get hs3)) ?_
        rw [List.length_map]
        walk_at "w"
        refine w_drawn (L3.kb kc) (by omega) (by omega) (by omega) fun d H4 d0 d1 k4 L4 => ?_
        obtain ⟨d, rfl, hd⟩ := nat_of d0 d1
        have cS : c1 ∉ [p, ll] := L3.fresh hc1
        have hs4 := k4 sl _ (kc.get hs3) sS
        have hw4 := k4 wl _ (kc.get hw3) wS
        have hc4 := k4 c1 _ upd_same cS
        refine w_ixL (.of hs4) (atI_nat (v := .str ss[d]) (by rw [List.getElem?_map, List.getElem?_eq_getElem hd]; rfl)) ?_
        walk_at "w"
        refine ⟨szb (by show 1 ≤ _; omega), fun x hx => ?_⟩
        have kx := (KB.refl [] H4).new hx (o := .lst [.str ss[d]])
        have fin : ∀ (j : Nat), a ≤ j → ∀ l zs H', Bent ws ss[d] zs → KB [] (upd H4 x (.lst [.str ss[d]])) H' → H' l = some (.lst (zs.map V.str)) → Q (.ref l) H' := fun j hj l zs H' hb k5 hl =>
          q _ l zs H' _ (.inr (.inl (List.getElem_mem hd))) hb (((k03.trans kc.of).trans k4).trans (kx.trans k5).of) (L4.kb (kx.trans k5)) (by omega) hl
        by_cases h5 : v < 5
        · refine w_cat3 (j := a + 1) (upd_get hx hc4) upd_same (kx.get hw4) w1 (by omega) rfl (fun H1 QO _ qo => ?_) fun l zs H' hb k5 hl _ => fin (a + 1) (by omega) l zs H' hb k5 hl
          walk_at "w"
          rw [decide_eq_true h5]
          exact qo
        · refine w_cat3 (j := a) (upd_get hx hc4) upd_same (kx.get hw4) w1 (by omega) rfl (fun H1 QO _ qo => ?_) fun l zs H' hb k5 hl _ => fin a (by omega) l zs H' hb k5 hl
          walk_at "w"
          rw [decide_eq_false h5]
          rw [show ((a : Int) + if false = true then 1 else 0) = (a : Int) by simp]
          exact qo
def sp_l_bent_rows : Sp := fun vs H Q _ => ∃ (p cl ll rl : Addr) (n N M : Nat) (rs : List Str), vs = [.ref p, .ref rl] ∧ LmO H p cl ll n ∧ n ≤ 900000000 ∧ H rl = some (.lst (rs.map V.str)) ∧ rl ∉ [p, ll] ∧ RowsB rs N M ∧ N ≤ 100000 ∧ 30 ≤ M ∧ M ≤ 100000 ∧
  ∀ l zs H' n', RowsB zs (N + 1) (2 * M + 30) → KB [p, ll] H H' → LmO H' p cl ll n' → n' ≤ n + 20 → H' l = some (.lst (zs.map V.str)) → l ∉ [p, ll] → Q (.ref l) H'
theorem Bent.rows {rs zs : List Str} {x : Str} {N M M' : Nat} (b : Bent rs x zs) (h : RowsB rs N M) (hx : x.length ≤ M') (hm : M ≤ M') : RowsB zs (N + 1) M' := by
  refine ⟨b.p, by have := b.n; have := h.2.1; omega, fun z hz => ?_⟩
  rcases b.m z hz with m | e
  · have := h.2.2 z m; omega
  · rw [e]; exact hx
end
end WK
set_option Elab.async false
set_option linter.all false
set_option maxRecDepth 100000
set_option maxHeartbeats 4000000
namespace WK
open PySem PySem.Spec PyProof.Rows L2
/-- steps that need no fact -/
local macro_rules | `(tactic| walk_at "w") => `(tactic| repeat (first
  | with_reducible refine w_seq ?_ | with_reducible refine w_asg ?_ | with_reducible refine w_ret ?_ | with_reducible refine w_drp ?_ | with_reducible refine w_next ?_ | with_reducible refine w_if ?_
  | ((with_reducible refine' w_var ?_ ?_); rotate_left; rfl) | with_reducible refine w_c ?_ | with_reducible refine w_op ?_ | with_reducible refine w_un ?_ | with_reducible refine w_test ?_ | with_reducible refine w_tB ?_ | with_reducible refine w_bl ?_
  | with_reducible refine w_and ?_ | with_reducible refine w_or ?_ | with_reducible refine w_not ?_ | with_reducible refine w_andV ?_ | with_reducible refine w_orV ?_ | with_reducible refine w_notV ?_ | with_reducible refine w_ebl ?_
  | with_reducible refine w_ifE ?_ | with_reducible refine w_nil ?_ | with_reducible refine w_cons ?_ | with_reducible refine w_cb ?_ | with_reducible refine w_call ?_ | with_reducible refine w_chain ?_ | with_reducible refine w_I0 ?_
  | with_reducible refine w_isN ?_ | with_reducible refine w_notN ?_ | with_reducible refine w_ltS ?_ | with_reducible refine w_leS ?_ | with_reducible refine w_m1 ?_ | with_reducible refine w_m1s ?_
  | with_reducible refine w_iT ?_ | with_reducible refine w_iF ?_ | with_reducible refine w_nT ?_ | with_reducible refine w_nF ?_ | with_reducible refine w_yes ?_ | with_reducible refine w_sfld ?_ | with_reducible refine w_lc ?_ | with_reducible refine w_for ?_ | with_reducible refine w_iStr ?_ | with_reducible refine w_iTup ?_ | with_reducible refine w_iList ?_ | with_reducible refine w_tup1 ?_ | with_reducible refine w_callN ?_ | with_reducible refine w_iZip ?_ | with_reducible refine w_sl ?_ | with_reducible refine w_part ?_ | with_reducible refine w_noPart ?_ | with_reducible refine w_eInt ?_ | with_reducible refine w_gN ?_ | with_reducible refine w_bm ?_ | with_reducible refine w_lst1 ?_ | ((with_reducible refine' w_aug ?_ ?_); rotate_left; rfl) | with_reducible refine w_ost ?_ | with_reducible refine w_rz ?_ | with_reducible refine w_gSub ?_ | with_reducible refine w_intB ?_))

section
variable {K : PySem.W.Frag} {w : World} {mg : Str → Option Value} {vs : List V} {H : Hp} {Q : VK} {E : XK}
theorem w_joinL {a : Str} {l : Addr} {ys : List Str} (h : H l = some (.lst (ys.map V.str))) (hz : (ys.map (·.length)).sum + ys.length * a.length ≤ 16777216) (q : Q (.str (Txt.join a ys)) H) : qJoin K (.str a) [.ref l] H Q := ⟨a, l, ys, rfl, rfl, .inl (.of h), hz, q⟩
theorem rd_l_bent_rows (h : sp_l_bent_rows vs H Q E) : t_l_bent_rows K sp_l_draw sp_l_bent_words { nx := fun _ H' => Q .non H', rt := Q } (start N_l_bent_rows vs) H := by
  obtain ⟨p, cl, ll, rl, n, N, M, rs, rfl, L, hn, hr, rS, RB, hN, hM0, hM, q⟩ := h
  obtain ⟨b0, b1, b2⟩ := id RB
  unfold t_l_bent_rows
  refine w_seq (w_asg ?_)
  walk_at "w"
  refine ⟨szb (by show 12 ≤ _; omega), fun s1 hs1 => ?_⟩
  have k1 := (KB.refl [] H).new hs1 (o := .lst ((["sort", "part", "own", "mended", "barred", "endless", "days", "miles", "0", "9999", "10000", "5"] : List Str).map V.str))
  walk_at "w"
  refine ⟨szb (by show 3 ≤ _; omega), fun s2 hs2 => ?_⟩
  have k2 := k1.new hs2 (o := .lst ((["qqq", "A", "7"] : List Str).map V.str))
  refine w_catL (upd_get hs2 upd_same) upd_same (by show 12 + 3 ≤ _; omega) fun s3 hs3 => ?_
  have k3 := k2.new hs3 (o := .lst ((["sort", "part", "own", "mended", "barred", "endless", "days", "miles", "0", "9999", "10000", "5", "qqq", "A", "7"] : List Str).map V.str))
  walk_at "w"
  refine w_itL (.of (k3.get hr)) ?_
  have rlen : ∀ r, r ∈ rs → r.length ≤ M := b2
  refine lcR walk_list (KB []) (KB.refl _ _) (fun a b => a.trans b) (fun D H' xs hD k _ => k.mutN hD) (fun D H1 H2 xs hD k e => k.get e) (fun i acc H' => ∃ bs : List Str, acc = bs.map V.str ∧ ∀ b ∈ bs, b.length ≤ M) (fun H2 k => .of (k.get (k3.get hr))) (fun D hD => ⟨[], rfl, by simp⟩)
    (fun i acc H1 D xs ys hD e a => a) (by rw [List.length_map]; omega) (fun j x H6 H7 acc D K1 K0 hj k6 eD hD a y f1 f0 => ?_) (fun D acc H6 hD k6 eD hal a => ?_)
  · obtain ⟨rfl, ex⟩ := y
    obtain ⟨bs, rfl, hb⟩ := a
    rw [List.getElem?_map] at ex
    obtain ⟨r, hr1, rfl⟩ := Option.map_eq_some_iff.mp ex
    have hrM := rlen r (List.mem_of_getElem? hr1)
    obtain ⟨M1, M2⟩ := split_len (x := r) (y := " ") (by rw [sep1]; simp) k256_1
    refine ⟨rfl, ?_⟩
    walk_at "w"
    refine w_split (by decide) (szb' (by omega)) fun u hu => ?_
    walk_at "w"
    refine w_lenL (.of upd_same) ?_
    rw [List.length_map]
    walk_at "w"
    have ku := (KB.refl [] H7).new hu (o := .lst ((Txt.split r " ").map V.str))
    by_cases hc : (((Txt.split r " ").length : Nat) : Int) > 1
    · rw [decide_eq_true hc]
      walk_at "w"
      refine w_split (by decide) (szb' (by omega)) fun u2 hu2 => ?_
      walk_at "w"
      obtain ⟨z, hz⟩ : ∃ z, (Txt.split r " ")[1]? = some z := ⟨_, List.getElem?_eq_getElem (by omega)⟩
      refine w_ixL (.of upd_same) (atI_nat (k := 1) (v := .str z) (by rw [List.getElem?_map, hz]; rfl)) ?_
      refine f1 _ _ (ku.new hu2) ⟨bs ++ [z], by rw [List.map_append]; rfl, fun b hb' => ?_⟩
      rcases List.mem_append.mp hb' with h | h
      · exact hb _ h
      · rw [List.mem_singleton.mp h]; exact Nat.le_trans (M1 z (List.mem_of_getElem? hz)) hrM
    · rw [decide_eq_false hc]
      exact f0 _ ku ⟨bs, rfl, hb⟩
  · obtain ⟨bs, rfl, hb⟩ := a
    rw [List.length_map, List.length_map] at hal
    walk_at "w"
    refine w_slL (.of eD) fun c6 hc6 => ?_
    rw [show (some (6 : Int)) = some ((6 : Nat) : Int) from rfl, cut_take]
    have k7 := (k3.trans k6).new hc6 (o := .lst ((bs.take 6).map V.str))
    refine w_catL (xs := (["sort", "part", "own", "mended", "barred", "endless", "days", "miles", "0", "9999", "10000", "5", "qqq", "A", "7"] : List Str).map V.str) (ys := (bs.take 6).map V.str) (upd_get hc6 (k6.get upd_same)) upd_same (by rw [List.length_map, List.length_map, List.length_take]; show 15 + _ ≤ _; omega) fun sl hsl => ?_
    rw [← List.map_append]
    obtain ⟨ss, ess⟩ : ∃ ss, ss = (["sort", "part", "own", "mended", "barred", "endless", "days", "miles", "0", "9999", "10000", "5", "qqq", "A", "7"] : List Str) ++ bs.take 6 := ⟨_, rfl⟩
    have s0 : 0 < ss.length := by rw [ess, List.length_append]; show 0 < 15 + _; omega
    have s15 : ss.length ≤ 1000000 := by rw [ess, List.length_append, List.length_take]; show 15 + _ ≤ _; omega
    have sM : ∀ z ∈ ss, z.length ≤ M := fun z hz => by
      rw [ess] at hz
      rcases List.mem_append.mp hz with h | h
      · have : z.length ≤ 7 := by
          simp only [List.mem_cons, List.not_mem_nil, or_false] at h
          rcases h with rfl | rfl | rfl | rfl | rfl | rfl | rfl | rfl | rfl | rfl | rfl | rfl | rfl | rfl | rfl <;> decide
        omega
      · exact hb z (List.mem_of_mem_take h)
    rw [← ess]
    have k8 := k7.new hsl (o := .lst (ss.map V.str))
    have L8 := L.kb k8
    have sS : sl ∉ [p, ll] := (L.kb k7).fresh hsl
    walk_at "w"
    refine w_par3 ?_
    walk_at "w"
    refine w_drawn L8 (by omega) (by omega) (by omega) fun v H9 v0 v1 k9 L9 => ?_
    have hr9 := k9 rl _ (k8.get hr) rS
    walk_at "w"
    refine w_lenL (.of hr9) ?_
    rw [List.length_map]
    walk_at "w"
    refine w_drawn L9 (by omega) (by omega) (by omega) fun a H10 a0 a1 k10 L10 => ?_
    obtain ⟨a, rfl, ha⟩ := nat_of a0 a1
    have hr10 := k10 rl _ hr9 rS
    walk_at "w"
    refine w_lenL (.of hr10) ?_
    rw [List.length_map]
    walk_at "w"
    refine w_drawn L10 (by omega) (by omega) (by omega) fun o H3 o0 o1 k11 L3 => ?_
    obtain ⟨o, rfl, ho⟩ := nat_of o0 o1
    have hr3 := k11 rl _ hr10 rS
    have k03 : KB [p, ll] H H3 := ((k8.of.trans k9).trans k10).trans k11
    have hs3 : H3 sl = some (.lst (ss.map V.str)) := ((k9.trans k10).trans k11) sl _ upd_same sS
    have hw1 : rs.length ≤ 1000000 := by omega
    have eM : ("end" : Str).length ≤ M := by show 3 ≤ M; omega
    walk_at "w"
    refine ⟨_, _, _, rfl, ?_⟩
    walk_at "w"
    refine ⟨rfl, ?_⟩
    walk_at "w"
    cases hd : decide (V.int v = V.int 0) with
    | true =>
      rw [if_pos rfl]
      refine w_ret (w_bent0 (c := "sort a") rfl rfl hr3 ha hw1 fun x l zs H4 hx hb' k4 hl hln => ?_)
      exact q l zs H4 _ (hb'.rows RB (M' := 2 * M + 30) (by rw [hx]; show 6 ≤ _; omega) (by omega)) (k03.trans k4.of) (L3.kb k4) (by omega) hl (L3.fresh hln)
    | false =>
      walk_at "w"
      refine ⟨rfl, ?_⟩
      walk_at "w"
      cases hd1 : decide (V.int v = V.int 1) with
      | true =>
        rw [if_pos rfl]
        refine w_ret (w_bent1 rfl rfl rfl hr3 ho hw1 fun x l zs H4 hx hb' k4 hl hln => ?_)
        exact q l zs H4 _ (hb'.rows RB (M' := 2 * M + 30) (by have := b2 x hx; omega) (by omega)) (k03.trans k4.of) (L3.kb k4) (by omega) hl (L3.fresh hln)
      | false =>
        walk_at "w"
        refine ⟨rfl, ?_⟩
        walk_at "w"
        cases hd2 : decide (V.int v = V.int 2) with
        | true =>
          rw [if_pos rfl]
          refine w_ret (w_bent2 "" rfl rfl hr3 b0 hw1 fun l zs H4 hb' k4 hl hln => ?_)
          exact q l zs H4 _ (hb'.rows RB (M' := 2 * M + 30) (by show 0 ≤ _; omega) (by omega)) (k03.trans k4.of) (L3.kb k4) (by omega) hl (L3.fresh hln)
        | false =>
          walk_at "w"
          refine ⟨rfl, ?_⟩
          walk_at "w"
          cases hd3 : decide (V.int v = V.int 3) with
          | true =>
            walk_at "w"
            refine ⟨szb (by show 4 ≤ _; omega), fun nl hnl => ?_⟩
            have kn := (KB.refl [] H3).new hnl (o := .lst ((["part qqq", "part zzz own endless", "barred qqq qqq", "sort b endless"] : List Str).map V.str))
            walk_at "w"
            refine w_slL (.of (kn.get hr3)) fun c1 hc1 => ?_
            rw [cut_take]
            have kc := kn.new hc1 (o := .lst ((rs.take a).map V.str))
            have nS : nl ∉ [p, ll] := L3.fresh hnl
            have cS : c1 ∉ [p, ll] := (L3.kb kn).fresh hc1
            walk_at "w"
            refine w_drawn (L3.kb kc) (by omega) (by omega) (by omega) fun d H4 d0 d1 k4 L4 => ?_
            have hn4 := k4 nl _ (upd_get hc1 upd_same) nS
            obtain ⟨d, rfl, hd⟩ := nat_of (n := 4) d0 (by omega)
            obtain ⟨z, hz, hzl⟩ : ∃ z : Str, (["part qqq", "part zzz own endless", "barred qqq qqq", "sort b endless"] : List Str)[d]? = some z ∧ z.length ≤ 20 := by
              match d, hd with
              | 0, _ => exact ⟨_, rfl, by decide⟩
              | 1, _ => exact ⟨_, rfl, by decide⟩
              | 2, _ => exact ⟨_, rfl, by decide⟩
              | 3, _ => exact ⟨_, rfl, by decide⟩
            refine w_ixL (.of hn4) (atI_nat (v := .str z) ((List.getElem?_map (f := V.str) (l := (["part qqq", "part zzz own endless", "barred qqq qqq", "sort b endless"] : List Str)) (i := d)).trans (by rw [hz]; rfl))) ?_
            walk_at "w"
            refine ⟨szb (by show 1 ≤ _; omega), fun x hx => ?_⟩
            have kx := (KB.refl [] H4).new hx (o := .lst [.str z])
            refine w_cat3 (j := a) (upd_get hx (k4 c1 _ upd_same cS)) upd_same (kx.get (k4 rl _ (kc.get hr3) rS)) hw1 (by omega) rfl (fun H1 QO _ qo => w_part (w_var rfl (w_eInt qo))) fun l zs H' hb' k5 hl hln => ?_
            exact q l zs H' _ (hb'.rows RB (M' := 2 * M + 30) (by omega) (by omega)) (((k03.trans kc.of).trans k4).trans (kx.trans k5).of) (L4.kb (kx.trans k5)) (by omega) hl ((L4.kb kx).fresh hln)
          | false =>
            walk_at "w"
            refine w_slL (.of hr3) fun c1 hc1 => ?_
            rw [cut_take]
            have kc := (KB.refl [] H3).new hc1 (o := .lst ((rs.take a).map V.str))
            have cS : c1 ∉ [p, ll] := L3.fresh hc1
            obtain ⟨r, hra⟩ : ∃ r, rs[a]? = some r := ⟨_, List.getElem?_eq_getElem ha⟩
            have hrM := b2 r (List.mem_of_getElem? hra)
            obtain ⟨M1, M2⟩ := split_len (x := r) (y := " ") (by rw [sep1]; simp) k256_1
            have wne := split_ne r " " (by rw [sep1]; simp) k256_1
            have wlen : 0 < (Txt.split r " ").length := List.length_pos_iff.mpr wne
            walk_at "w"
            refine w_ixL (.of (kc.get hr3)) (atI_nat (v := .str r) (by rw [List.getElem?_map, hra]; rfl)) ?_
            walk_at "w"
            refine w_split (by decide) (szb' (by omega)) fun wl hwl => ?_
            have kw := kc.new hwl (o := .lst ((Txt.split r " ").map V.str))
            walk_at "w"
            refine ⟨p, cl, ll, wl, sl, _, Txt.split r " ", ss, rfl, L3.kb kw, by omega, upd_same, kw.get hs3, (L3.kb kc).fresh hwl, sS, wlen, by omega, s0, s15, fun x l zs H4 n4 hx hb' k4 L4 h4 hl => ?_⟩
            have zne : zs ≠ [] := List.length_pos_iff.mp hb'.p
            have e1 : (" " : Str).length = 1 := by decide
            have t1 := join_tot e1 zne
            have t2 := join_tot e1 wne
            rw [join_split sep1 k256_1] at t2
            have t3 := hb'.t
            have hxM : x.length ≤ M := by
              rcases hx with h | h | h
              · exact Nat.le_trans (M1 x h) hrM
              · exact sM x h
              · rw [h]; exact eM
            refine w_joinL hl (by have := sum_le_tot zs; rw [e1]; omega) ?_
            walk_at "w"
            refine ⟨szb (by show 1 ≤ _; omega), fun y hy => ?_⟩
            have ky := (KB.refl [] H4).new hy (o := .lst [.str (Txt.join " " zs)])
            refine w_cat3 (j := a + 1) (upd_get hy (k4 c1 _ (upd_get hwl upd_same) cS)) upd_same (ky.get (k4 rl _ (kw.get hr3) rS)) hw1 (by omega) rfl (fun H1 QO _ qo => w_part (w_op (w_var rfl (w_c (w_I0 (w_eInt (by exact qo))))))) fun l zs' H' hb2 k5 hl2 hln => ?_
            exact q l zs' H' _ (hb2.rows RB (M' := 2 * M + 30) (by omega) (by omega)) (((k03.trans kw.of).trans k4).trans (ky.trans k5).of) (L4.kb (ky.trans k5)) (by omega) hl2 ((L4.kb ky).fresh hln)
end
end WK
set_option Elab.async false
set_option linter.all false
set_option maxRecDepth 100000
set_option maxHeartbeats 4000000
namespace WK
open PySem PySem.Spec PyProof.Rows L2
/-- steps that need no fact -/
local macro_rules | `(tactic| walk_at "w") => `(tactic| repeat (first
  | with_reducible refine w_seq ?_ | with_reducible refine w_asg ?_ | with_reducible refine w_ret ?_ | with_reducible refine w_drp ?_ | with_reducible refine w_next ?_ | with_reducible refine w_if ?_
  | ((with_reducible refine' w_var ?_ ?_); rotate_left; rfl) | with_reducible refine w_c ?_ | with_reducible refine w_op ?_ | with_reducible refine w_un ?_ | with_reducible refine w_test ?_ | with_reducible refine w_tB ?_ | with_reducible refine w_bl ?_
  | with_reducible refine w_and ?_ | with_reducible refine w_or ?_ | with_reducible refine w_not ?_ | with_reducible refine w_andV ?_ | with_reducible refine w_orV ?_ | with_reducible refine w_notV ?_ | with_reducible refine w_ebl ?_
  | with_reducible refine w_ifE ?_ | with_reducible refine w_nil ?_ | with_reducible refine w_cons ?_ | with_reducible refine w_cb ?_ | with_reducible refine w_call ?_ | with_reducible refine w_chain ?_ | with_reducible refine w_I0 ?_
  | with_reducible refine w_isN ?_ | with_reducible refine w_notN ?_ | with_reducible refine w_ltS ?_ | with_reducible refine w_leS ?_ | with_reducible refine w_m1 ?_ | with_reducible refine w_m1s ?_
  | with_reducible refine w_iT ?_ | with_reducible refine w_iF ?_ | with_reducible refine w_nT ?_ | with_reducible refine w_nF ?_ | with_reducible refine w_yes ?_ | with_reducible refine w_sfld ?_ | with_reducible refine w_lc ?_ | with_reducible refine w_for ?_ | with_reducible refine w_iStr ?_ | with_reducible refine w_iTup ?_ | with_reducible refine w_iList ?_ | with_reducible refine w_tup1 ?_ | with_reducible refine w_callN ?_ | with_reducible refine w_iZip ?_ | with_reducible refine w_sl ?_ | with_reducible refine w_part ?_ | with_reducible refine w_noPart ?_ | with_reducible refine w_eInt ?_ | with_reducible refine w_gN ?_ | with_reducible refine w_bm ?_ | with_reducible refine w_lst1 ?_ | ((with_reducible refine' w_aug ?_ ?_); rotate_left; rfl) | with_reducible refine w_ost ?_ | with_reducible refine w_rz ?_ | with_reducible refine w_gSub ?_ | with_reducible refine w_intB ?_))

section
variable {K : PySem.W.Frag} {w : World} {mg : Str → Option Value} {vs : List V} {H : Hp} {Q : VK} {E : XK}
theorem AnyT.extN {H H' : Hp} {v : V} (h : AnyT K H v) (e : LamX.ExtN H H') : AnyT K H' v := by
  rcases h with h | ⟨t, ty, k⟩
  · exact .inl h
  · exact .inr ⟨t, fun H2 e2 => ty H2 (e.trans e2), k⟩
theorem anyStr {z : Str} (h : z.length ≤ 8000000) : AnyT K H (.str z) := .inl ⟨z, rfl, h⟩
theorem anyTup (T : Tx w K mg) {a : Addr} {xs : List V} (h : H a = some (.tup xs)) : AnyT K H (.ref a) := .inr ⟨.type "tuple", fun H' e => .base (.tup (e _ _ h (fun ps z => by cases z))), T.is_TSt⟩
theorem anyLst (T : Tx w K mg) {a : Addr} {xs : List V} (h : H a = some (.lst xs)) : AnyT K H (.ref a) := .inr ⟨.type "list", fun H' e => .base (.lst (e _ _ h (fun ps z => by cases z))), T.is_LSt⟩
theorem anyDic (T : Tx w K mg) {a : Addr} {xs : List (Key × V)} (h : H a = some (.dK xs)) : AnyT K H (.ref a) := .inr ⟨.type "dict", fun H' e => .base (.dK (e _ _ h (fun ps z => by cases z))), T.is_DSt⟩
theorem anyNon (T : Tx w K mg) : AnyT K H .non := .inr ⟨_, fun _ _ => .base .non, T.is_NSt⟩
theorem anyInt (T : Tx w K mg) {i : Int} : AnyT K H (.int i) := .inr ⟨_, fun _ _ => .base (.int i), T.is_ISt⟩
theorem anyBl (T : Tx w K mg) {b : Bool} : AnyT K H (.bl b) := .inr ⟨_, fun _ _ => .base (.bl b), T.is_BSt⟩
def sp_l_far (K : PySem.W.Frag) : Sp := fun vs H Q _ => vs = [] ∧ ∀ l xs H', H l = none → KB [] H H' → H' l = some (.lst xs) → xs.length ≤ 1000 → (∀ x ∈ xs, AnyT K H' x) → Q (.ref l) H'
theorem rd_l_far (T : Tx w K mg) (h : sp_l_far K vs H Q E) : t_l_far K { nx := fun _ H' => Q .non H', rt := Q } (start N_l_far vs) H := by
  obtain ⟨rfl, q⟩ := h
  unfold t_l_far
  refine w_seq (w_asgG ?_)
  walk_at "w"
  refine ⟨szb (by show 2 ≤ _; omega), fun t1 ht1 => ?_⟩
  walk_at "w"
  refine ⟨szb (by show 2 ≤ _; omega), fun t2 ht2 => ?_⟩
  have k1 := ((KB.refl [] H).new ht1 (o := .tup [.int 1, .int 1])).new ht2 (o := .tup [.int 1, .ref t1])
  refine w_gTup2 (.of upd_same) ?_
  walk_at "w"
  refine w_rng1 ?_
  walk_at "w"
  refine ⟨3000, rfl, by omega, by omega, ?_⟩
  refine forG (walk_range (lo := 0) (n := 3000)) (fun i σ2 H2 => ∃ (v0 v1 : V) (u2 : Option V), σ2 = [some v0, some v1, u2] ∧ KB [] H H2 ∧ AnyT K H2 v0 ∧ AnyT K H2 v1)
    ⟨.int 1, .ref t1, none, rfl, k1, anyInt T, anyTup T (upd_get ht2 upd_same)⟩ (fun _ _ _ _ _ => trivial) (fun i x σ2 H3 H4 hi P y => ?_) (fun σ2 H3 P => ?_)
  · obtain ⟨v0, v1, u2, rfl, k, a0, a1⟩ := P
    obtain ⟨rfl, rfl⟩ := y
    walk_at "w"
    refine ⟨szb (by show 1 ≤ _; omega), fun u hu => ?_⟩
    have ku := (KB.refl [] H4).new hu (o := .tup [v0])
    exact ⟨_, _, _, rfl, k.trans ku, anyTup T upd_same, a1.extN ku.extN⟩
  · obtain ⟨v0, v1, u2, rfl, k, a0, a1⟩ := P
    walk_at "w"
    refine w_rng1 ?_
    walk_at "w"
    refine ⟨60, rfl, by omega, by omega, ?_⟩
    refine forG (walk_range (lo := 0) (n := 60)) (fun i σ2 H2 => ∃ (v0 v1 : V) (u2 : Option V), σ2 = [some v0, some v1, u2] ∧ KB [] H H2 ∧ AnyT K H2 v0 ∧ AnyT K H2 v1)
      ⟨v0, v1, _, rfl, k, a0, a1⟩ (fun _ _ _ _ _ => trivial) (fun i x σ2 H3 H4 hi P y => ?_) (fun σ2 H3 P => ?_)
    · obtain ⟨v0, v1, u2, rfl, k, a0, a1⟩ := P
      obtain ⟨rfl, rfl⟩ := y
      walk_at "w"
      refine ⟨szb (by show 2 ≤ _; omega), fun u hu => ?_⟩
      have ku := (KB.refl [] H4).new hu (o := .tup [v1, v1])
      exact ⟨_, _, _, rfl, k.trans ku, a0.extN ku.extN, anyTup T upd_same⟩
    · obtain ⟨v0, v1, u2, rfl, k, a0, a1⟩ := P
      walk_at "w"
      refine ⟨szb (by show 1 ≤ _; omega), fun o1 ho1 => ?_⟩
      walk_at "w"
      refine ⟨o1, 5000, _, rfl, rfl, .of upd_same, by simp, by omega, by omega, by show 1 ≤ 10; omega, fun o2 ho2 => ?_⟩
      walk_at "w"
      refine ⟨"a", 5000, rfl, rfl, .inr (.inr ⟨by omega, by omega, by decide, ?_⟩)⟩
      have rl : (repS "a" (5000 : Int).toNat).length = 5000 := repS_len (by decide) _
      walk_at "w"
      refine ⟨szb (by show 1 ≤ _; omega), fun o3 ho3 => ?_⟩
      walk_at "w"
      intro o4 ho4
      walk_at "w"
      refine w_I ⟨by omega, by omega, by decide⟩ ?_
      walk_at "w"
      refine ⟨szb (by show 10 ≤ _; omega), fun l hl => ?_⟩
      have q1 := (KB.refl [] H3).new ho1 (o := .tup [.int 1])
      have q2 := q1.new ho2 (o := .tup (List.replicate (5000 : Int).toNat [V.int 1]).flatten)
      have q3 := q2.new ho3 (o := .lst [.str "a"])
      have q4 := q3.new ho4 (o := .dK [])
      refine q l _ _ ((k.trans q4).free hl (by simp)) ((k.trans q4).new hl) upd_same (by show 10 ≤ 1000; omega) fun x hx => ?_
      have q5 := q4.new hl (o := .lst [v0, v1, .ref o2, .str (repS "a" (5000 : Int).toNat), .ref o3, .ref o4, .non, .bl true, .int 5, .int (10 ^ (30 : Int).toNat)])
      simp only [List.mem_cons, List.not_mem_nil, or_false] at hx
      rcases hx with rfl | rfl | rfl | rfl | rfl | rfl | rfl | rfl | rfl | rfl
      · exact a0.extN q5.extN
      · exact a1.extN q5.extN
      · exact anyTup T (upd_get hl (upd_get ho4 (upd_get ho3 upd_same)))
      · exact anyStr (by rw [rl]; omega)
      · exact anyLst T (upd_get hl (upd_get ho4 upd_same))
      · exact anyDic T (upd_get hl upd_same)
      · exact anyNon T
      · exact anyBl T
      · exact anyInt T
      · exact anyInt T
end
end WK
set_option Elab.async false
set_option linter.all false
set_option maxRecDepth 100000
set_option maxHeartbeats 4000000
namespace WK
open PySem PySem.Spec PyProof.Rows L2
/-- steps that need no fact -/
local macro_rules | `(tactic| walk_at "w") => `(tactic| repeat (first
  | with_reducible refine w_seq ?_ | with_reducible refine w_asg ?_ | with_reducible refine w_ret ?_ | with_reducible refine w_drp ?_ | with_reducible refine w_next ?_ | with_reducible refine w_if ?_
  | ((with_reducible refine' w_var ?_ ?_); rotate_left; rfl) | with_reducible refine w_c ?_ | with_reducible refine w_op ?_ | with_reducible refine w_un ?_ | with_reducible refine w_test ?_ | with_reducible refine w_tB ?_ | with_reducible refine w_bl ?_
  | with_reducible refine w_and ?_ | with_reducible refine w_or ?_ | with_reducible refine w_not ?_ | with_reducible refine w_andV ?_ | with_reducible refine w_orV ?_ | with_reducible refine w_notV ?_ | with_reducible refine w_ebl ?_
  | with_reducible refine w_ifE ?_ | with_reducible refine w_nil ?_ | with_reducible refine w_cons ?_ | with_reducible refine w_cb ?_ | with_reducible refine w_call ?_ | with_reducible refine w_chain ?_ | with_reducible refine w_I0 ?_
  | with_reducible refine w_isN ?_ | with_reducible refine w_notN ?_ | with_reducible refine w_ltS ?_ | with_reducible refine w_leS ?_ | with_reducible refine w_m1 ?_ | with_reducible refine w_m1s ?_
  | with_reducible refine w_iT ?_ | with_reducible refine w_iF ?_ | with_reducible refine w_nT ?_ | with_reducible refine w_nF ?_ | with_reducible refine w_yes ?_ | with_reducible refine w_sfld ?_ | with_reducible refine w_lc ?_ | with_reducible refine w_for ?_ | with_reducible refine w_iStr ?_ | with_reducible refine w_iTup ?_ | with_reducible refine w_iList ?_ | with_reducible refine w_tup1 ?_ | with_reducible refine w_callN ?_ | with_reducible refine w_iZip ?_ | with_reducible refine w_sl ?_ | with_reducible refine w_part ?_ | with_reducible refine w_noPart ?_ | with_reducible refine w_eInt ?_ | with_reducible refine w_gN ?_ | with_reducible refine w_bm ?_ | with_reducible refine w_lst1 ?_ | ((with_reducible refine' w_aug ?_ ?_); rotate_left; rfl) | with_reducible refine w_ost ?_ | with_reducible refine w_rz ?_ | with_reducible refine w_gSub ?_ | with_reducible refine w_intB ?_))

theorem join_sum (y : Str) : ∀ (zs : List Str), (Txt.join y zs).length ≤ (zs.map (·.length)).sum + zs.length * y.length
  | [] => by
    have : (Txt.join y []).length = 0 := by rw [TL.len_tl, tl_jn]; rfl
    omega
  | [a] => by rw [jn_one, List.map_cons, List.sum_cons]; simp
  | a :: b :: r => by
    rw [jn_cons _ _ (by simp), app_len, app_len, List.map_cons, List.sum_cons, List.length_cons, Nat.add_mul]
    have := join_sum y (b :: r)
    omega
def okT : V → Bool
  | .str z => decide (z.length ≤ 1000)
  | _ => false
theorem okS {c : Str} (hc : c.length ≤ 100) : okT (.str c) = true := decide_eq_true (by omega)
theorem okA {a c : Str} (ha : a.length ≤ 100) (hc : c.length ≤ 100) : okT (.str (a ++ c)) = true := decide_eq_true (by rw [app_len]; omega)
theorem okN : ∀ y ∈ ([] : List V), okT y = true := fun y h => absurd h (by simp)
theorem okC {x : V} {ys : List V} (h : okT x = true) (hs : ∀ y ∈ ys, okT y = true) : ∀ y ∈ x :: ys, okT y = true := fun y m => by
  rcases List.mem_cons.mp m with e | m
  · rw [e]; exact h
  · exact hs y m
/-- what stands in the list of written texts: texts, numbers, and the one list at h -/
def ElT (h : Addr) (x : V) : Prop := (∃ z : Str, x = .str z ∧ z.length ≤ 8000000) ∨ x = .non ∨ (∃ i, x = .int i) ∨ (∃ b, x = .bl b) ∨ x = .ref h
theorem elT_of {h : Addr} {x : V} (e : okT x = true) : ElT h x := by
  cases x with
  | str z => exact .inl ⟨z, rfl, by have : z.length ≤ 1000 := of_decide_eq_true e; omega⟩
  | _ => cases e
structure KnO (H0 H : Hp) (h l : Addr) (m : Nat) : Prop where
  k : KB [] H0 H
  l0 : H0 l = none
  hh : ∃ xs, H h = some (.lst xs)
  ne : h ≠ l
  h0 : H0 h = none
  ex : ∃ xs, H l = some (.lst xs) ∧ xs.length ≤ m ∧ ∀ x ∈ xs, ElT h x
theorem KnO.kb {H0 H H' : Hp} {h l : Addr} {m : Nat} (K : KnO H0 H h l m) (k : KB [] H H') : KnO H0 H' h l m := by
  obtain ⟨xs, e, r⟩ := K.ex
  obtain ⟨ys, f⟩ := K.hh
  exact ⟨K.k.trans k, K.l0, ⟨ys, k.get f⟩, K.ne, K.h0, xs, k.get e, r⟩
section
variable {K : PySem.W.Frag} {w : World} {mg : Str → Option Value} {vs : List V} {σ : L2.St} {D : Ends} {H0 H : Hp} {Q : VK} {E : XK} {h l : Addr} {m : Nat}
theorem w_knCat {ta : TA} (h2 : σ[2]? = some (some (.ref l))) (kn : KnO H0 H h l m) (hm : m ≤ 1000) (ys : List V) (hy : ys.length ≤ 20) (hok : ∀ y ∈ ys, okT y = true) (hta : ∀ (QA : List V → Hp → Prop), QA ys H → ta σ H QA)
    (q : ∀ l' H', KnO H0 H' h l' (m + ys.length) → D.nx (σ.set 2 (some (.ref l'))) H') : tAsg (tOp rCat (tVar 2) (tLst ta)) (gName 2) D σ H := by
  obtain ⟨xs, e, hl, hx⟩ := kn.ex
  obtain ⟨zs, f⟩ := kn.hh
  refine w_asg (w_op (w_var h2 (w_lst1 (hta _ ⟨szb (by omega), fun c hc => ?_⟩))))
  have k1 := (KB.refl [] H).new hc (o := .lst ys)
  refine w_catL (k1.get e) upd_same (by omega) fun np hnp => ?_
  have k2 := k1.new hnp (o := .lst (xs ++ ys))
  have hne : h ≠ np := fun z => by rw [← z, k1.get f] at hnp; cases hnp
  refine q np _ ⟨kn.k.trans k2, (kn.k.trans k1).free hnp (by simp), ⟨zs, k2.get f⟩, hne, kn.h0, xs ++ ys, upd_same, by rw [List.length_append]; omega, fun x hx' => ?_⟩
  rcases List.mem_append.mp hx' with a | a
  · exact hx x a
  · exact elT_of (hok x a)
theorem w_knApp {te : TE} (h2 : σ[2]? = some (some (.ref l))) (kn : KnO H0 H h l m) (hm : m ≤ 1000) (hte : ∀ (QA : VK), (∀ z H', KB [] H H' → z.length ≤ 1000000 → QA (.str z) H') → te σ H QA)
    (q : ∀ H', KB [l] H H' → KnO H0 H' h l (m + 1) → D.nx σ H') : tDrop (tBM K "list" rAppend (tVar 2) (tCons te tNil)) D σ H := by
  obtain ⟨xs, e, hl, hx⟩ := kn.ex
  obtain ⟨zs, f⟩ := kn.hh
  refine w_drp (w_bm (w_var h2 ⟨ty_list e, ?_⟩))
  refine w_cons (hte _ fun z H' k hz => w_nil ?_)
  refine w_appL (σ := []) (k.get e) (by omega) ?_
  refine q _ (k.of.mut (by simp)) ⟨(kn.k.trans k).mutN kn.l0, kn.l0, ⟨zs, by rw [upd_ne kn.ne]; exact k.get f⟩, kn.ne, kn.h0, xs ++ [.str z], upd_same, by rw [List.length_append, List.length_singleton]; omega, fun x hx' => ?_⟩
  rcases List.mem_append.mp hx' with a | a
  · exact hx x a
  · rw [List.mem_singleton.mp a]; exact .inl ⟨z, rfl, by omega⟩
def sp_l_known (K : PySem.W.Frag) : Sp := fun vs H Q _ => vs = [] ∧ ∀ l xs H', H l = none → KB [] H H' → H' l = some (.lst xs) → xs.length ≤ 1000 → (∀ x ∈ xs, AnyT K H' x) → Q (.ref l) H'
/-- a text and a written one behind it -/
theorem w_add2 {i : Nat} {a c : Str} (hi : σ[i]? = some (some (.str a))) (hz : a.length + c.length ≤ 16777216) (q : Q (.str (a ++ c)) H) : tOp qAddS (tVar i) (tC (.str c)) σ H Q := w_op (w_var hi (w_c (w_addS' ⟨hz, q⟩)))
/-- [te for k in range(n)], each a text of at most 30 signs -/
theorem w_lcT {te tn : TE} {n : Nat} (hn : n ≤ 31) (htn : ∀ QA : VK, QA (.int (n : Nat)) H → tn σ H QA) (hw : ∀ v : V, wipe ((wipe σ [5]).set 5 (some v)) [5] = wipe σ [5])
    (hte : ∀ (k : Nat) (H1 : Hp) (QA : VK), k < n → (∀ z : Str, z.length ≤ 30 → QA (.str z) H1) → te ((wipe σ [5]).set 5 (some (.int (k : Nat)))) H1 QA)
    (q : ∀ c (bs : List Str) H', KB [] H H' → H' c = some (.lst (bs.map V.str)) → bs.length ≤ 31 → (∀ b ∈ bs, b.length ≤ 30) → Q (.ref c) H') : tLc (iRng1 (tCons tn tNil)) (gName 5) tYes te [5] σ H Q := by
  refine w_lc (w_rng1 (w_cons (htn _ (w_nil ⟨n, rfl, by omega, by omega, ?_⟩))))
  rw [Int.toNat_natCast]
  refine lcR (walk_range (lo := 0) (n := n)) (KB []) (KB.refl _ _) (fun a b => a.trans b) (fun D H' xs hD k _ => k.mutN hD) (fun D H1 H2 xs hD k e => k.get e) (fun i acc H' => ∃ bs : List Str, acc = bs.map V.str ∧ ∀ b ∈ bs, b.length ≤ 30) (fun _ _ => trivial) (fun D hD => ⟨[], rfl, by simp⟩)
    (fun i acc H1 D xs ys hD e a => a) (by omega) (fun j x H6 H7 acc D K1 K0 hj k6 eD hD a y f1 f0 => ?_) (fun D acc H6 hD k6 eD hal a => ?_)
  · obtain ⟨rfl, rfl⟩ := y
    obtain ⟨bs, rfl, hb⟩ := a
    have ei : ((0 : Int) + (j : Nat)) = (j : Nat) := by omega
    dsimp only
    rw [ei]
    refine w_gN ⟨hw _, w_yes (w_iT (hte j _ _ hj fun z hz => f1 _ _ (KB.refl _ _) ⟨bs ++ [z], by rw [List.map_append]; rfl, fun b hb' => ?_⟩))⟩
    rcases List.mem_append.mp hb' with h | h
    · exact hb _ h
    · rw [List.mem_singleton.mp h]; exact hz
  · obtain ⟨bs, rfl, hb⟩ := a
    rw [List.length_map] at hal
    exact q D bs H6 k6 eD (by omega) hb
theorem w_joinT {l : Addr} {ys : List Str} (h : H l = some (.lst (ys.map V.str))) (hl : ys.length ≤ 31) (hb : ∀ b ∈ ys, b.length ≤ 30) (q : ∀ z : Str, z.length ≤ 1000 → Q (.str z) H) : qJoin K (.str "") [.ref l] H Q := by
  have h1 := sum_le hb
  have h2 := join_sum "" ys
  have h0 : ("" : Str).length = 0 := by decide
  rw [h0] at h2
  refine w_joinL h (by rw [h0]; omega) (q _ (by omega))
theorem rd_l_known (T : Tx w K mg) (hh : sp_l_known K vs H Q E) : t_l_known K { nx := fun _ H' => Q .non H', rt := Q } (start N_l_known vs) H := by
  obtain ⟨rfl, q⟩ := hh
  unfold t_l_known
  obtain ⟨a, ea, la⟩ : ∃ a : Str, a = "sort a endless" ∧ a.length ≤ 100 := ⟨_, rfl, by decide⟩
  obtain ⟨b, eb, lb⟩ : ∃ b : Str, b = "sort a endless\npart b" ∧ b.length ≤ 100 := ⟨_, rfl, by decide⟩
  rw [← ea, ← eb]
  refine w_seq (w_asgG ?_)
  walk_at "w"
  refine ⟨szb (by show 2 ≤ _; omega), fun t1 ht1 => ?_⟩
  have k1 := (KB.refl [] H).new ht1 (o := .tup [.str a, .str b])
  refine w_gTup2 (.of upd_same) ?_
  walk_at "w"
  refine ⟨szb (by show 1 ≤ _; omega), fun h hh => ?_⟩
  have k2 := k1.new hh (o := .lst [.str a])
  have hh0 : H h = none := k1.free hh (by simp)
  walk_at "w"
  refine w_addS' ⟨Nat.le_trans (Nat.add_le_add la (show _ ≤ 100 by decide)) (by decide), ?_⟩
  walk_at "w"
  refine ⟨szb (by show 12 ≤ _; omega), fun l hl => ?_⟩
  obtain ⟨H1, e1⟩ : ∃ H1, H1 = upd (upd (upd H t1 (.tup [.str a, .str b])) h (.lst [.str a])) l (.lst [.non, .int 5, .bl true, .ref h, .str "", .str " ", .str "\n", .str a, .str (a ++ "\n"), .str "sort", .str "sort a", .str "sort sort endless"]) := ⟨_, rfl⟩
  have kn : KnO H H1 h l 12 := by
    rw [e1]
    refine ⟨k2.new hl, k2.free hl (by simp), ⟨_, upd_get hl upd_same⟩, (fun e => by rw [← e, upd_same] at hl; cases hl), hh0, _, upd_same, by show 12 ≤ 12; omega, fun x hx => ?_⟩
    rcases List.mem_cons.mp hx with rfl | hx
    · exact .inr (.inl rfl)
    rcases List.mem_cons.mp hx with rfl | hx
    · exact .inr (.inr (.inl ⟨_, rfl⟩))
    rcases List.mem_cons.mp hx with rfl | hx
    · exact .inr (.inr (.inr (.inl ⟨_, rfl⟩)))
    rcases List.mem_cons.mp hx with rfl | hx
    · exact .inr (.inr (.inr (.inr rfl)))
    exact elT_of (okC (okS (by decide)) (okC (okS (by decide)) (okC (okS (by decide)) (okC (okS la) (okC (okA la (by decide)) (okC (okS (by decide)) (okC (okS (by decide)) (okC (okS (by decide)) okN))))))) x hx)
  rw [← e1]
  with_reducible refine w_seq ?_
  with_reducible refine w_knCat (m := 12) ?_ kn (Nat.le_of_ble_eq_true rfl) [.str "part b", .str (a ++ " 5")] (Nat.le_of_ble_eq_true rfl) (okC (okS (by decide)) (okC (okA la (by decide)) okN)) (fun QA q => ?_) fun l1 H11 kn => ?_
  · rfl
  · walk_at "w"
    refine w_addS' ⟨Nat.le_trans (Nat.add_le_add la (show _ ≤ 100 by decide)) (by decide), ?_⟩
    walk_at "w"
    exact q
  replace kn : KnO H H11 h l1 14 := kn
  with_reducible refine w_seq ?_
  with_reducible refine w_knCat (m := 14) ?_ kn (Nat.le_of_ble_eq_true rfl) [.str b, .str (b ++ " own"), .str (b ++ " own 5"), .str (b ++ " own 5 days"), .str (b ++ " mended endless")] (Nat.le_of_ble_eq_true rfl) (okC (okS lb) (okC (okA lb (by decide)) (okC (okA lb (by decide)) (okC (okA lb (by decide)) (okC (okA lb (by decide)) okN))))) (fun QA q => ?_) fun l2 H12 kn => ?_
  · rfl
  · walk_at "w"
    refine w_addS' ⟨Nat.le_trans (Nat.add_le_add lb (show _ ≤ 100 by decide)) (by decide), ?_⟩
    walk_at "w"
    refine w_addS' ⟨Nat.le_trans (Nat.add_le_add lb (show _ ≤ 100 by decide)) (by decide), ?_⟩
    walk_at "w"
    refine w_addS' ⟨Nat.le_trans (Nat.add_le_add lb (show _ ≤ 100 by decide)) (by decide), ?_⟩
    walk_at "w"
    refine w_addS' ⟨Nat.le_trans (Nat.add_le_add lb (show _ ≤ 100 by decide)) (by decide), ?_⟩
    walk_at "w"
    exact q
  replace kn : KnO H H12 h l2 19 := kn
  with_reducible refine w_seq ?_
  with_reducible refine w_knApp (m := 19) ?_ kn (Nat.le_of_ble_eq_true rfl) (fun QA q => ?_) fun H13 _ kn => ?_
  · rfl
  · exact w_add2 rfl (Nat.le_trans (Nat.add_le_add lb (show _ ≤ 100 by decide)) (by decide)) (q _ _ (KB.refl _ _) (by rw [app_len]; exact Nat.le_trans (Nat.add_le_add lb (show _ ≤ 100 by decide)) (by decide)))
  replace kn : KnO H H13 h l2 20 := kn
  with_reducible refine w_seq ?_
  with_reducible refine w_knCat (m := 20) ?_ kn (Nat.le_of_ble_eq_true rfl) [.str (b ++ " own 5 days mended"), .str (b ++ " own 5 days mended 5 days 6")] (Nat.le_of_ble_eq_true rfl) (okC (okA lb (by decide)) (okC (okA lb (by decide)) okN)) (fun QA q => ?_) fun l4 H14 kn => ?_
  · rfl
  · walk_at "w"
    refine w_addS' ⟨Nat.le_trans (Nat.add_le_add lb (show _ ≤ 100 by decide)) (by decide), ?_⟩
    walk_at "w"
    refine w_addS' ⟨Nat.le_trans (Nat.add_le_add lb (show _ ≤ 100 by decide)) (by decide), ?_⟩
    walk_at "w"
    exact q
  replace kn : KnO H H14 h l4 22 := kn
  with_reducible refine w_seq ?_
  with_reducible refine w_knCat (m := 22) ?_ kn (Nat.le_of_ble_eq_true rfl) [.str (b ++ " own endless mended 0 turns"), .str (b ++ "\npart b")] (Nat.le_of_ble_eq_true rfl) (okC (okA lb (by decide)) (okC (okA lb (by decide)) okN)) (fun QA q => ?_) fun l5 H15 kn => ?_
  · rfl
  · walk_at "w"
    refine w_addS' ⟨Nat.le_trans (Nat.add_le_add lb (show _ ≤ 100 by decide)) (by decide), ?_⟩
    walk_at "w"
    refine w_addS' ⟨Nat.le_trans (Nat.add_le_add lb (show _ ≤ 100 by decide)) (by decide), ?_⟩
    walk_at "w"
    exact q
  replace kn : KnO H H15 h l5 24 := kn
  with_reducible refine w_seq ?_
  with_reducible refine w_knCat (m := 24) ?_ kn (Nat.le_of_ble_eq_true rfl) [.str (b ++ "\npart a"), .str (b ++ "\npart c"), .str (b ++ "\nbarred x b"), .str (b ++ "\nbarred x c")] (Nat.le_of_ble_eq_true rfl) (okC (okA lb (by decide)) (okC (okA lb (by decide)) (okC (okA lb (by decide)) (okC (okA lb (by decide)) okN)))) (fun QA q => ?_) fun l6 H16 kn => ?_
  · rfl
  · walk_at "w"
    refine w_addS' ⟨Nat.le_trans (Nat.add_le_add lb (show _ ≤ 100 by decide)) (by decide), ?_⟩
    walk_at "w"
    refine w_addS' ⟨Nat.le_trans (Nat.add_le_add lb (show _ ≤ 100 by decide)) (by decide), ?_⟩
    walk_at "w"
    refine w_addS' ⟨Nat.le_trans (Nat.add_le_add lb (show _ ≤ 100 by decide)) (by decide), ?_⟩
    walk_at "w"
    refine w_addS' ⟨Nat.le_trans (Nat.add_le_add lb (show _ ≤ 100 by decide)) (by decide), ?_⟩
    walk_at "w"
    exact q
  replace kn : KnO H H16 h l6 28 := kn
  with_reducible refine w_seq ?_
  with_reducible refine w_knApp (m := 28) ?_ kn (Nat.le_of_ble_eq_true rfl) (fun QA q => ?_) fun H17 _ kn => ?_
  · rfl
  · exact w_add2 rfl (Nat.le_trans (Nat.add_le_add lb (show _ ≤ 100 by decide)) (by decide)) (q _ _ (KB.refl _ _) (by rw [app_len]; exact Nat.le_trans (Nat.add_le_add lb (show _ ≤ 100 by decide)) (by decide)))
  replace kn : KnO H H17 h l6 29 := kn
  with_reducible refine w_seq ?_
  with_reducible refine w_knCat (m := 29) ?_ kn (Nat.le_of_ble_eq_true rfl) [.str (b ++ "\nbarred x b\nbarred x b"), .str (b ++ "\nbarred y b\nbarred x b"), .str (b ++ "\nbarred x")] (Nat.le_of_ble_eq_true rfl) (okC (okA lb (by decide)) (okC (okA lb (by decide)) (okC (okA lb (by decide)) okN))) (fun QA q => ?_) fun l8 H18 kn => ?_
  · rfl
  · walk_at "w"
    refine w_addS' ⟨Nat.le_trans (Nat.add_le_add lb (show _ ≤ 100 by decide)) (by decide), ?_⟩
    walk_at "w"
    refine w_addS' ⟨Nat.le_trans (Nat.add_le_add lb (show _ ≤ 100 by decide)) (by decide), ?_⟩
    walk_at "w"
    refine w_addS' ⟨Nat.le_trans (Nat.add_le_add lb (show _ ≤ 100 by decide)) (by decide), ?_⟩
    walk_at "w"
    exact q
  replace kn : KnO H H18 h l8 32 := kn
  with_reducible refine w_seq ?_
  with_reducible refine w_knCat (m := 32) ?_ kn (Nat.le_of_ble_eq_true rfl) [.str (b ++ "\nbarred"), .str (a ++ "\nsort b endless")] (Nat.le_of_ble_eq_true rfl) (okC (okA lb (by decide)) (okC (okA la (by decide)) okN)) (fun QA q => ?_) fun l9 H19 kn => ?_
  · rfl
  · walk_at "w"
    refine w_addS' ⟨Nat.le_trans (Nat.add_le_add lb (show _ ≤ 100 by decide)) (by decide), ?_⟩
    walk_at "w"
    refine w_addS' ⟨Nat.le_trans (Nat.add_le_add la (show _ ≤ 100 by decide)) (by decide), ?_⟩
    walk_at "w"
    exact q
  replace kn : KnO H H19 h l9 34 := kn
  with_reducible refine w_seq ?_
  with_reducible refine w_knCat (m := 34) ?_ kn (Nat.le_of_ble_eq_true rfl) [.str (b ++ "\npart c\nbarred x b\nbarred x c"), .str (b ++ "\npart c\nbarred x c\nbarred x b")] (Nat.le_of_ble_eq_true rfl) (okC (okA lb (by decide)) (okC (okA lb (by decide)) okN)) (fun QA q => ?_) fun l10 H20 kn => ?_
  · rfl
  · walk_at "w"
    refine w_addS' ⟨Nat.le_trans (Nat.add_le_add lb (show _ ≤ 100 by decide)) (by decide), ?_⟩
    walk_at "w"
    refine w_addS' ⟨Nat.le_trans (Nat.add_le_add lb (show _ ≤ 100 by decide)) (by decide), ?_⟩
    walk_at "w"
    exact q
  replace kn : KnO H H20 h l10 36 := kn
  with_reducible refine w_seq ?_
  with_reducible refine w_knCat (m := 36) ?_ kn (Nat.le_of_ble_eq_true rfl) [.str (b ++ "\nbarred x b 5"), .str (b ++ " own own 5 days")] (Nat.le_of_ble_eq_true rfl) (okC (okA lb (by decide)) (okC (okA lb (by decide)) okN)) (fun QA q => ?_) fun l11 H21 kn => ?_
  · rfl
  · walk_at "w"
    refine w_addS' ⟨Nat.le_trans (Nat.add_le_add lb (show _ ≤ 100 by decide)) (by decide), ?_⟩
    walk_at "w"
    refine w_addS' ⟨Nat.le_trans (Nat.add_le_add lb (show _ ≤ 100 by decide)) (by decide), ?_⟩
    walk_at "w"
    exact q
  replace kn : KnO H H21 h l11 38 := kn
  with_reducible refine w_seq ?_
  with_reducible refine w_for ?_
  with_reducible refine w_iTup ?_
  walk_at "w"
  refine ⟨szb (by show 3 ≤ _; omega), fun t2 ht2 => ?_⟩
  refine w_itI (.of upd_same) ?_
  have kt := (KB.refl [] H21).new ht2 (o := .tup [.int 11, .int 12, .int 13])
  have nt : t2 ∉ [l11] := fun m => by
    obtain ⟨xs, e, _⟩ := kn.ex
    rw [List.mem_singleton.mp m, e] at ht2; cases ht2
  refine forG (walk_tup (xs := [.int 11, .int 12, .int 13])) (fun i σ2 H2 => ∃ (u3 u4 u5 : Option V), σ2 = [some (.str a), some (.str b), some (.ref l11), u3, u4, u5] ∧ KB [l11] (upd H21 t2 (.tup [.int 11, .int 12, .int 13])) H2 ∧ KnO H H2 h l11 (38 + i))
    ⟨_, _, _, rfl, KB.refl _ _, kn.kb kt⟩ (fun i σ2 H3 hi P => ?_) (fun i x σ2 H3 H4 hi P y => ?_) (fun σ2 H3 P => ?_)
  · obtain ⟨u3, u4, u5, rfl, k, kn3⟩ := P
    exact .of (k t2 _ upd_same nt)
  · obtain ⟨u3, u4, u5, rfl, k, kn3⟩ := P
    obtain ⟨rfl, ex⟩ := y
    have hi : i < 3 := hi
    have ex' : x = .int ((11 + i : Nat) : Int) := by
      match i, hi, ex with
      | 0, _, ex => exact (Option.some.inj ex).symm
      | 1, _, ex => exact (Option.some.inj ex).symm
      | 2, _, ex => exact (Option.some.inj ex).symm
    subst ex'
    refine w_gN ?_
    with_reducible refine w_knApp (m := 38 + i) ?_ kn3 (by omega) (fun QA q => ?_) fun H5 k5 kn5 => ?_
    · rfl
    · have lp : ("\npart p" : Str).length = 7 := by decide
      refine w_op (w_var rfl (w_m1 (w_c ⟨⟨_, rfl⟩, ?_⟩)))
      refine w_lcT (n := 11 + i) (by omega) (fun QA qa => w_var rfl qa) (fun _ => rfl) (fun k H1 QA hk qa => ?_) fun c bs H' k' e hl hb => ?_
      · refine w_op (w_c (w_op (w_c (w_var rfl ?_))))
        refine w_ixSm (by omega) (by show _ < (13 : Int); omega) (by decide) fun s hs => ?_
        exact w_addS' ⟨by omega, qa _ (by rw [app_len]; omega)⟩
      · exact w_joinT e hl hb fun z hz => w_addS' ⟨by omega, q _ _ k' (by rw [app_len]; omega)⟩
    · exact ⟨_, _, _, rfl, k.trans k5, kn5⟩
  · obtain ⟨u3, u4, u5, rfl, k, kn3⟩ := P
    have kn3 : KnO H H3 h l11 41 := kn3
    with_reducible refine w_seq ?_
    with_reducible refine w_for ?_
    with_reducible refine w_iTup ?_
    walk_at "w"
    refine ⟨szb (by show 3 ≤ _; omega), fun t3 ht3 => ?_⟩
    refine w_itI (.of upd_same) ?_
    have kt3 := (KB.refl [] H3).new ht3 (o := .tup [.int 29, .int 30, .int 31])
    have nt3 : t3 ∉ [l11] := fun m => by
      obtain ⟨xs, e, _⟩ := kn3.ex
      rw [List.mem_singleton.mp m, e] at ht3; cases ht3
    refine forG (walk_tup (xs := [.int 29, .int 30, .int 31])) (fun i σ2 H2 => ∃ (u3 u4 u5 : Option V), σ2 = [some (.str a), some (.str b), some (.ref l11), u3, u4, u5] ∧ KB [l11] (upd H3 t3 (.tup [.int 29, .int 30, .int 31])) H2 ∧ KnO H H2 h l11 (41 + i))
      ⟨_, _, _, rfl, KB.refl _ _, kn3.kb kt3⟩ (fun i σ2 H3 hi P => ?_) (fun i x σ2 H3 H4 hi P y => ?_) (fun σ2 H4 P => ?_)
    · obtain ⟨u3, u4, u5, rfl, k, kn3⟩ := P
      exact .of (k t3 _ upd_same nt3)
    · obtain ⟨u3, u4, u5, rfl, k, kn3⟩ := P
      obtain ⟨rfl, ex⟩ := y
      have hi : i < 3 := hi
      have ex' : x = .int ((29 + i : Nat) : Int) := by
        match i, hi, ex with
        | 0, _, ex => exact (Option.some.inj ex).symm
        | 1, _, ex => exact (Option.some.inj ex).symm
        | 2, _, ex => exact (Option.some.inj ex).symm
      subst ex'
      have lp : ("\npart p" : Str).length = 7 := by decide
      have lb8 : ("\nbarred " : Str).length = 8 := by decide
      have lx : ("x p" : Str).length = 3 := by decide
      refine w_gN (w_seq (w_asg ?_))
      refine w_lcT (n := 29 + i) (by omega) (fun QA qa => w_var rfl qa) (fun _ => rfl) (fun k H1 QA hk qa => ?_) fun c bs H5 k5 e hl hb => ?_
      · refine w_op (w_op (w_op (w_c (w_op (w_c (w_op (w_var rfl (w_c ?_))))))))
        refine w_div (by omega) (by omega) ?_
        refine w_ixSm (by omega) (by show _ < (3 : Int); omega) (by decide) fun s1 hs1 => ?_
        refine w_addS' ⟨by omega, w_c (w_addS' ⟨by rw [app_len]; omega, ?_⟩)⟩
        refine w_op (w_c (w_op (w_var rfl (w_c ?_))))
        refine w_mod (by omega) ?_
        refine w_ixSm (by omega) (by show _ < (12 : Int); omega) (by decide) fun s2 hs2 => ?_
        exact w_addS' ⟨by rw [app_len, app_len]; omega, qa _ (by rw [app_len, app_len, app_len]; omega)⟩
      · with_reducible refine w_knApp (m := 41 + i) ?_ (kn3.kb k5) (by omega) (fun QA q => ?_) fun H6 k6 kn6 => ?_
        · rfl
        · refine w_op (w_op (w_var rfl (w_m1 (w_c ⟨⟨_, rfl⟩, ?_⟩))))
          refine w_lcT (n := 12) (by omega) (fun QA qa => w_c qa) (fun _ => rfl) (fun k H1 QA hk qa => ?_) fun c2 bs2 H' k' e2 hl2 hb2 => ?_
          · refine w_op (w_c (w_op (w_c (w_var rfl ?_))))
            refine w_ixSm (by omega) (by show _ < (12 : Int); omega) (by decide) fun s hs => ?_
            exact w_addS' ⟨by omega, qa _ (by rw [app_len]; omega)⟩
          · refine w_joinT e2 hl2 hb2 fun z hz => w_addS' ⟨by omega, w_m1 (w_c ⟨⟨_, rfl⟩, w_var rfl ?_⟩)⟩
            exact w_joinT (k'.get e) hl hb fun z2 hz2 => w_addS' ⟨by rw [app_len]; omega, q _ _ k' (by rw [app_len, app_len]; omega)⟩
        · exact ⟨_, _, _, rfl, (k.trans k5.of).trans k6, kn6⟩
    · obtain ⟨u3, u4, u5, rfl, k, kn4⟩ := P
      obtain ⟨xs, e, hl, hx⟩ := kn4.ex
      obtain ⟨zs, hz⟩ := kn4.hh
      refine w_ret (w_var rfl (q l11 xs H4 kn4.l0 kn4.k e (Nat.le_trans hl (by show 41 + 3 ≤ 1000; omega)) fun x hx' => ?_))
      rcases hx x hx' with ⟨z, rfl, hz⟩ | rfl | ⟨i, rfl⟩ | ⟨b, rfl⟩ | rfl
      · exact anyStr hz
      · exact anyNon T
      · exact anyInt T
      · exact anyBl T
      · exact anyLst T hz
end
end WK
set_option Elab.async false
set_option linter.all false
set_option maxRecDepth 100000
set_option maxHeartbeats 4000000
namespace WK
open PySem PySem.Spec PyProof.Rows L2
/-- steps that need no fact -/
local macro_rules | `(tactic| walk_at "w") => `(tactic| repeat (first
  | with_reducible refine w_seq ?_ | with_reducible refine w_asg ?_ | with_reducible refine w_ret ?_ | with_reducible refine w_drp ?_ | with_reducible refine w_next ?_ | with_reducible refine w_if ?_
  | ((with_reducible refine' w_var ?_ ?_); rotate_left; rfl) | with_reducible refine w_c ?_ | with_reducible refine w_op ?_ | with_reducible refine w_un ?_ | with_reducible refine w_test ?_ | with_reducible refine w_tB ?_ | with_reducible refine w_bl ?_
  | with_reducible refine w_and ?_ | with_reducible refine w_or ?_ | with_reducible refine w_not ?_ | with_reducible refine w_andV ?_ | with_reducible refine w_orV ?_ | with_reducible refine w_notV ?_ | with_reducible refine w_ebl ?_
  | with_reducible refine w_ifE ?_ | with_reducible refine w_nil ?_ | with_reducible refine w_cons ?_ | with_reducible refine w_cb ?_ | with_reducible refine w_call ?_ | with_reducible refine w_chain ?_ | with_reducible refine w_I0 ?_
  | with_reducible refine w_isN ?_ | with_reducible refine w_notN ?_ | with_reducible refine w_ltS ?_ | with_reducible refine w_leS ?_ | with_reducible refine w_m1 ?_ | with_reducible refine w_m1s ?_
  | with_reducible refine w_iT ?_ | with_reducible refine w_iF ?_ | with_reducible refine w_nT ?_ | with_reducible refine w_nF ?_ | with_reducible refine w_yes ?_ | with_reducible refine w_sfld ?_ | with_reducible refine w_lc ?_ | with_reducible refine w_for ?_ | with_reducible refine w_iStr ?_ | with_reducible refine w_iTup ?_ | with_reducible refine w_iList ?_ | with_reducible refine w_tup1 ?_ | with_reducible refine w_callN ?_ | with_reducible refine w_iZip ?_ | with_reducible refine w_sl ?_ | with_reducible refine w_part ?_ | with_reducible refine w_noPart ?_ | with_reducible refine w_eInt ?_ | with_reducible refine w_gN ?_ | with_reducible refine w_bm ?_ | with_reducible refine w_lst1 ?_ | ((with_reducible refine' w_aug ?_ ?_); rotate_left; rfl) | with_reducible refine w_ost ?_ | with_reducible refine w_rz ?_ | with_reducible refine w_gSub ?_ | with_reducible refine w_intB ?_))

theorem LmO.tabs {H H' : Hp} {p cl ll : Addr} {n : Nat} {l : List (Addr × Str)} (L : LmO H p cl ll n) (k : KB [p, ll] H H') (t : LamX.Tabs l H) : LamX.Tabs l H' := by
  obtain ⟨ls, l1, _⟩ := L.l
  have off : ∀ b o, H b = some o → (∀ kvs, o ≠ .dK kvs) → (∀ xs, o ≠ .lst xs) → H' b = some o := fun b o e h1 h2 => k b o e fun m => by
    simp only [List.mem_cons, List.not_mem_nil, or_false] at m
    rcases m with rfl | rfl
    · rw [L.o] at e; exact h1 _ (Option.some.inj e).symm
    · rw [l1] at e; exact h2 _ (Option.some.inj e).symm
  intro q hq
  obtain ⟨ps, h1, h2, h3⟩ := t q hq
  refine ⟨ps, off _ _ h1 (fun _ z => by cases z) (fun _ z => by cases z), h2, fun pos cv hc => ?_⟩
  obtain ⟨c, e1, e2⟩ := h3 pos cv hc
  exact ⟨c, e1, off _ _ e2 (fun _ z => by unfold LamX.CodeO at z; cases z) (fun _ z => by unfold LamX.CodeO at z; cases z)⟩
theorem tabs_upd {H' : Hp} {D : Addr} {xs : List V} {l : List (Addr × Str)} (t : LamX.Tabs l H') (h : H' D = none ∨ ∃ ys, H' D = some (.lst ys)) : LamX.Tabs l (upd H' D (.lst xs)) := by
  have off : ∀ b o, H' b = some o → (∀ xs, o ≠ .lst xs) → upd H' D (.lst xs) b = some o := fun b o e h2 => by
    rw [upd_ne (fun z => ?_)]; exact e
    rw [z] at e
    rcases h with h | ⟨ys, h⟩
    · rw [h] at e; cases e
    · rw [h] at e; exact h2 _ (Option.some.inj e).symm
  intro q hq
  obtain ⟨ps, h1, h2, h3⟩ := t q hq
  refine ⟨ps, off _ _ h1 (fun _ z => by cases z), h2, fun pos cv hc => ?_⟩
  obtain ⟨c, e1, e2⟩ := h3 pos cv hc
  exact ⟨c, e1, off _ _ e2 (fun _ z => by unfold LamX.CodeO at z; cases z)⟩
theorem extN_upd {H H' : Hp} {D : Addr} {o : HO} (e : LamX.ExtN H H') (h : H D = none) : LamX.ExtN H (upd H' D o) := fun b u hb n => by
  rw [upd_ne (fun z => by rw [z, h] at hb; cases hb)]; exact e b u hb n
theorem tot_le {M : Nat} {zs : List Str} (h : ∀ z ∈ zs, z.length ≤ M) : tot zs ≤ zs.length * M + zs.length := by
  unfold tot
  have := sum_le h
  omega
section
variable {K : PySem.W.Frag} {w : World} {mg : Str → Option Value} {vs : List V} {H : Hp} {Q : VK} {E : XK}
def sp_law (K : PySem.W.Frag) (Pt : Addr) : Sp := fun vs H Q _ => ∃ (a : Addr) (ns : List Int), vs = [.ref a] ∧ SqL K H a (ns.map V.int) ∧ ns.length ≤ 63 ∧ H Pt = some (.tbl #[]) ∧ ∀ H', Q (.bl true) H'
theorem rd_law {Pt : Addr} (h : sp_law K Pt vs H Q E) : t_law K (sp_l_begun K) (sp_l_known K) (sp_l_far K) (sp_l_right K Pt) sp_l_sort_rows sp_l_plain_sort sp_l_called sp_l_draw sp_l_bent_rows { nx := fun _ H' => Q .non H', rt := Q } (start N_law vs) H := by
  obtain ⟨a, ns, rfl, hs, hn, ht, q⟩ := h
  have T0 : LamX.Tabs [(Pt, lamQ)] H := fun p hp => by rw [List.mem_singleton.mp hp]; exact LamX.TabS.nil ht
  unfold t_law
  walk_at "w"
  refine ⟨a, ns, rfl, hs, by omega, fun p cl ll H1 k1 L1 => ?_⟩
  have T1 := k1.tabs T0
  walk_at "w"
  refine ⟨rfl, fun l1 xs H2 hl1 k2 e1 n1 a1 => ?_⟩
  walk_at "w"
  refine ⟨rfl, fun l2 ys H3 hl2 k3 e2 n2 a2 => ?_⟩
  refine w_catL (k3.get e1) e2 (by omega) fun l3 hl3 => ?_
  have k4 := k3.new hl3 (o := .lst (xs ++ ys))
  have T4 := (k2.trans k4).tabs T1
  have L4 := L1.kb (k2.trans k4)
  have any4 : ∀ x ∈ xs ++ ys, AnyT K (upd H3 l3 (.lst (xs ++ ys))) x := fun x hx => by
    rcases List.mem_append.mp hx with m | m
    · exact (a1 x m).extN k4.extN
    · exact (a2 x m).extN ((KB.refl [] H3).new hl3).extN
  refine w_itL (.of upd_same) ?_
  refine lcR walk_list (fun a b => LamX.ExtN a b ∧ (LamX.Tabs [(Pt, lamQ)] a → LamX.Tabs [(Pt, lamQ)] b)) ⟨LamX.ExtN.refl _, id⟩ (fun a b => ⟨a.1.trans b.1, b.2 ∘ a.2⟩) (fun D H' xs hD k h => ⟨extN_upd k.1 hD, fun t => tabs_upd (k.2 t) h⟩) (fun D H1 H2 xs hD k e => k.1 _ _ e (fun ps z => by cases z))
    (fun i acc _ => acc = (List.replicate i true).map V.bl) (fun H2 k => .of (k.1 _ _ upd_same (fun ps z => by cases z))) (fun _ _ => rfl) (fun _ _ _ _ _ _ _ _ a => a) (by rw [List.length_append]; omega) (fun j x H6 H7 acc D K1 K0 hj k6 eD hD a y f1 f0 => ?_) (fun D acc H6 hD k6 eD hal a => ?_)
  · obtain ⟨rfl, ex⟩ := y
    refine ⟨rfl, ?_⟩
    walk_at "w"
    refine ⟨x, rfl, (any4 x (List.mem_of_getElem? ex)).extN k6.1, k6.2 T4, fun H' e t => f1 _ _ ⟨e, fun _ => t⟩ ?_⟩
    rw [a, ← rep_succ]; simp
  · walk_at "w"
    refine w_all (by rw [eD, a]) ?_
    rw [show (List.replicate (xs ++ ys).length true).all id = true by simp]
    walk_at "w"
    refine w_rng1 ?_
    walk_at "w"
    refine ⟨10, rfl, by omega, by omega, ?_⟩
    refine forG (walk_range (lo := 0) (n := 10)) (fun i σ2 H2 => ∃ (v0 : V) (u2 u3 u4 u5 : Option V) (n : Nat), σ2 = [some v0, some (.ref p), u2, u3, u4, u5] ∧ LmO H2 p cl ll n ∧ n ≤ 5000 * i ∧ LamX.Tabs [(Pt, lamQ)] H2)
      ⟨_, none, none, none, none, 0, rfl, L4.extN k6.1, by omega, k6.2 T4⟩ (fun _ _ _ _ _ => trivial) (fun i x σ2 H7 H8 hi P y => ?_) (fun σ2 H7 P => ?_)
    · obtain ⟨v0, u2, u3, u4, u5, n, rfl, L, hn, TT⟩ := P
      obtain ⟨rfl, rfl⟩ := y
      walk_at "w"
      refine ⟨p, cl, ll, n, rfl, L, by omega, fun wl H9 ws n9 hwl k9 L9 h9 ew wl19 w8 => ?_⟩
      walk_at "w"
      refine ⟨p, cl, ll, wl, n9, ws, rfl, L9, by omega, ew, wl19, w8, L.fresh hwl, fun v H10 n10 k10 L10 h10 hP => ?_⟩
      walk_at "w"
      refine ⟨v, rfl, hP, fun rl zs H11 hrl k11 er RB => ?_⟩
      have T11 := k11.tabs (L9.tabs k10 (L.tabs k9 TT))
      walk_at "w"
      refine w_rng1 ?_
      walk_at "w"
      refine ⟨5, rfl, by omega, by omega, ?_⟩
      refine forG (walk_range (lo := 0) (n := 5)) (fun j σ2 H2 => ∃ (v0 : V) (u2 u4 u5 : Option V) (rl : Addr) (zs : List Str) (n' : Nat), σ2 = [some v0, some (.ref p), u2, some (.ref rl), u4, u5] ∧ LmO H2 p cl ll n' ∧ n' ≤ n + 2500 + 30 * j ∧ LamX.Tabs [(Pt, lamQ)] H2 ∧ H2 rl = some (.lst (zs.map V.str)) ∧ rl ∉ [p, ll] ∧ RowsB zs (600 + j) (180 * 2 ^ j - 30))
        ⟨_, _, _, _, rl, zs, n10, rfl, L10.kb k11, by omega, T11, er, L10.fresh hrl, RB⟩ (fun _ _ _ _ _ => trivial) (fun j x σ2 H12 H13 hj P y => ?_) (fun σ2 H12 P => ?_)
      · obtain ⟨v0, u2, u4, u5, rl, zs, n', rfl, L, hn', TT, er, rS, RB⟩ := P
        obtain ⟨rfl, rfl⟩ := y
        have p2 : 1 ≤ 2 ^ j ∧ 2 ^ j ≤ 16 := by
          match j, hj with
          | 0, _ => decide
          | 1, _ => decide
          | 2, _ => decide
          | 3, _ => decide
          | 4, _ => decide
        have e1 : ("\n" : Str).length = 1 := by decide
        have tl := tot_le RB.2.2
        have rle := RB.2.1
        have big : zs.length * (180 * 2 ^ j - 30) ≤ 605 * 2850 := Nat.mul_le_mul (by omega) (by omega)
        have jt := join_tot e1 (List.length_pos_iff.mp RB.1)
        walk_at "w"
        refine w_joinL er (by have := sum_le_tot zs; rw [e1]; omega) ?_
        walk_at "w"
        refine ⟨szb (by show 6 ≤ _; omega), fun c hc => ?_⟩
        walk_at "w"
        have Lc := L.new hc (o := .lst [.str "", .str "", .str "", .str " ", .str "\n", .str " own"])
        refine w_drawn Lc (by omega) (by omega) (by omega) fun d H14 d0 d1 k14 L14 => ?_
        have T14 := Lc.tabs k14 (((KB.refl [] H13).new hc).tabs TT)
        refine w_ixAny (k14 c _ upd_same (L.fresh hc)) d0 (by show d < (6 : Int); omega) fun v hv => ?_
        have hv' : ∃ z : Str, v = .str z ∧ z.length ≤ 4 := by
          simp only [List.mem_cons, List.not_mem_nil, or_false] at hv
          rcases hv with rfl | rfl | rfl | rfl | rfl | rfl <;> exact ⟨_, rfl, by decide⟩
        obtain ⟨z, rfl, hz⟩ := hv'
        refine w_addS' ⟨by omega, ?_⟩
        walk_at "w"
        have er14 : H14 rl = some (.lst (zs.map V.str)) := k14 rl _ (((KB.refl [] H13).new hc).get er) rS
        refine ⟨_, rfl, anyStr (by rw [app_len]; omega), T14, fun H15 e15 T15 => ?_⟩
        walk_at "w"
        have er15 := e15 _ _ er14 (fun ps z => by cases z)
        refine ⟨p, cl, ll, rl, n' + 1, 600 + j, 180 * 2 ^ j - 30, zs, rfl, L14.extN e15, by omega, er15, rS, RB, by omega, by omega, by omega, fun l zs' H16 n16 RB' k16 L16 h16 el lS => ?_⟩
        refine ⟨_, _, _, _, l, zs', n16, rfl, L16, by omega, (L14.extN e15).tabs k16 T15, el, lS, ?_⟩
        have ep : 2 * (180 * 2 ^ j - 30) + 30 = 180 * 2 ^ (j + 1) - 30 := by rw [Nat.pow_succ]; omega
        rw [ep] at RB'
        exact RB'
      · obtain ⟨v0, u2, u4, u5, rl, zs, n', rfl, L, hn', TT, er, rS, RB⟩ := P
        exact ⟨_, _, _, _, _, n', rfl, L, by omega, TT⟩
    · obtain ⟨v0, u2, u3, u4, u5, n, rfl, L, hn, TT⟩ := P
      walk_at "w"
      exact q _
end
end WK
set_option Elab.async false
set_option linter.all false
set_option maxRecDepth 100000
set_option maxHeartbeats 4000000
namespace WK
open PySem PySem.Spec PyProof.Rows L2
/-- the table of the code object of _law_right -/
def lamT (K : PySem.W.Frag) : Addr := (He.cT K ("_law_right", none)).2
/-- what the head tells -/
structure Hd (w : World) (K : PySem.W.Frag) (mg : Str → Option Value) : Prop where
  T : Tx w K mg
  X : TxE K
  f_is_whole : ∃ fd, FunD K "is_whole" "is_whole" (defArgs (top 15)) (defBody (top 15)) (defScope (top 15)) [.int 1000000] [] (He.fAd K ("is_whole", none)) fd
  g_is_whole : mg "is_whole" = some (.ref (He.ga K "is_whole"))
  f_is_name : ∃ fd, FunD K "is_name" "is_name" (defArgs (top 16)) (defBody (top 16)) (defScope (top 16)) [] [] (He.fAd K ("is_name", none)) fd
  g_is_name : mg "is_name" = some (.ref (He.ga K "is_name"))
  f_number_of : ∃ fd, FunD K "number_of" "number_of" (defArgs (top 17)) (defBody (top 17)) (defScope (top 17)) [] [] (He.fAd K ("number_of", none)) fd
  g_number_of : mg "number_of" = some (.ref (He.ga K "number_of"))
  f_words_of : ∃ fd, FunD K "words_of" "words_of" (defArgs (top 18)) (defBody (top 18)) (defScope (top 18)) [] [] (He.fAd K ("words_of", none)) fd
  g_words_of : mg "words_of" = some (.ref (He.ga K "words_of"))
  f_Promise_str : ∃ fd, FunD K "__str__" "Promise.__str__" (defArgs (inClass (top 22) 10)) (defBody (inClass (top 22) 10)) (defScope (inClass (top 22) 10)) [] [] (He.fAd K ("Promise", some "__str__")) fd
  m_Promise_str : Meth K (He.ga K "Promise") "__str__" (He.ma K (He.ga K "Promise") "__str__")
  f_Reader_init : ∃ fd, FunD K "__init__" "Reader.__init__" (defArgs (inClass (top 32) 0)) (defBody (inClass (top 32) 0)) (defScope (inClass (top 32) 0)) [.int 1] [] (He.fAd K ("Reader", some "__init__")) fd
  f_Reader_ahead : ∃ fd, FunD K "ahead" "Reader.ahead" (defArgs (inClass (top 32) 1)) (defBody (inClass (top 32) 1)) (defScope (inClass (top 32) 1)) [] [] (He.fAd K ("Reader", some "ahead")) fd
  m_Reader_ahead : Meth K (He.ga K "Reader") "ahead" (He.ma K (He.ga K "Reader") "ahead")
  f_Reader_is_over : ∃ fd, FunD K "is_over" "Reader.is_over" (defArgs (inClass (top 32) 6)) (defBody (inClass (top 32) 6)) (defScope (inClass (top 32) 6)) [] [] (He.fAd K ("Reader", some "is_over")) fd
  m_Reader_is_over : Meth K (He.ga K "Reader") "is_over" (He.ma K (He.ga K "Reader") "is_over")
  f_SortReader_init : ∃ fd, FunD K "__init__" "SortReader.__init__" (defArgs (inClass (top 35) 0)) (defBody (inClass (top 35) 0)) (defScope (inClass (top 35) 0)) [] [] (He.fAd K ("SortReader", some "__init__")) fd
  f_SortReader_first_words : ∃ fd, FunD K "first_words" "SortReader.first_words" (defArgs (inClass (top 35) 1)) (defBody (inClass (top 35) 1)) (defScope (inClass (top 35) 1)) [] [] (He.fAd K ("SortReader", some "first_words")) fd
  m_SortReader_first_words : Meth K (He.ga K "SortReader") "first_words" (He.ma K (He.ga K "SortReader") "first_words")
  f_BadValue_init : ∃ fd, FunD K "__init__" "BadValue.__init__" (defArgs (inClass (top 2) 0)) (defBody (inClass (top 2) 0)) (defScope (inClass (top 2) 0)) [] [] (He.fAd K ("BadValue", some "__init__")) fd
  f_l_mixed : ∃ fd, FunD K "_law_mixed" "_law_mixed" (defArgs (top 38)) (defBody (top 38)) (defScope (top 38)) [] [] (He.fAd K ("_law_mixed", none)) fd
  g_l_mixed : mg "_law_mixed" = some (.ref (He.ga K "_law_mixed"))
  f_l_folded : ∃ fd, FunD K "_law_folded" "_law_folded" (defArgs (top 39)) (defBody (top 39)) (defScope (top 39)) [] [] (He.fAd K ("_law_folded", none)) fd
  g_l_folded : mg "_law_folded" = some (.ref (He.ga K "_law_folded"))
  f_l_class : ∃ fd, FunD K "_law_class" "_law_class" (defArgs (top 48)) (defBody (top 48)) (defScope (top 48)) [] [] (He.fAd K ("_law_class", none)) fd
  g_l_class : mg "_law_class" = some (.ref (He.ga K "_law_class"))
  f_l_is_name : ∃ fd, FunD K "_law_is_name" "_law_is_name" (defArgs (top 50)) (defBody (top 50)) (defScope (top 50)) [] [] (He.fAd K ("_law_is_name", none)) fd
  g_l_is_name : mg "_law_is_name" = some (.ref (He.ga K "_law_is_name"))
  f_l_text : ∃ fd, FunD K "_law_text" "_law_text" (defArgs (top 51)) (defBody (top 51)) (defScope (top 51)) [] [] (He.fAd K ("_law_text", none)) fd
  g_l_text : mg "_law_text" = some (.ref (He.ga K "_law_text"))
  f_l_number_in : ∃ fd, FunD K "_law_number_in" "_law_number_in" (defArgs (top 53)) (defBody (top 53)) (defScope (top 53)) [] [] (He.fAd K ("_law_number_in", none)) fd
  g_l_number_in : mg "_law_number_in" = some (.ref (He.ga K "_law_number_in"))
  f_l_far : ∃ fd, FunD K "_law_far" "_law_far" (defArgs (top 56)) (defBody (top 56)) (defScope (top 56)) [] [] (He.fAd K ("_law_far", none)) fd
  g_l_far : mg "_law_far" = some (.ref (He.ga K "_law_far"))
  f_l_known : ∃ fd, FunD K "_law_known" "_law_known" (defArgs (top 61)) (defBody (top 61)) (defScope (top 61)) [] [] (He.fAd K ("_law_known", none)) fd
  g_l_known : mg "_law_known" = some (.ref (He.ga K "_law_known"))
  f_is_row : ∃ fd, FunD K "is_row" "is_row" (defArgs (top 27)) (defBody (top 27)) (defScope (top 27)) [] [] (He.fAd K ("is_row", none)) fd
  g_is_row : mg "is_row" = some (.ref (He.ga K "is_row"))
  f_are_barred : ∃ fd, FunD K "are_barred" "are_barred" (defArgs (top 29)) (defBody (top 29)) (defScope (top 29)) [] [] (He.fAd K ("are_barred", none)) fd
  g_are_barred : mg "are_barred" = some (.ref (He.ga K "are_barred"))
  f_l_draw : ∃ fd, FunD K "_law_draw" "_law_draw" (defArgs (top 40)) (defBody (top 40)) (defScope (top 40)) [] [] (He.fAd K ("_law_draw", none)) fd
  g_l_draw : mg "_law_draw" = some (.ref (He.ga K "_law_draw"))
  f_l_begun : ∃ fd, FunD K "_law_begun" "_law_begun" (defArgs (top 41)) (defBody (top 41)) (defScope (top 41)) [] [] (He.fAd K ("_law_begun", none)) fd
  g_l_begun : mg "_law_begun" = some (.ref (He.ga K "_law_begun"))
  f_l_told : ∃ fd, FunD K "_law_told" "_law_told" (defArgs (top 49)) (defBody (top 49)) (defScope (top 49)) [] [] (He.fAd K ("_law_told", none)) fd
  g_l_told : mg "_law_told" = some (.ref (He.ga K "_law_told"))
  f_l_sort_rows : ∃ fd, FunD K "_law_sort_rows" "_law_sort_rows" (defArgs (top 52)) (defBody (top 52)) (defScope (top 52)) [] [] (He.fAd K ("_law_sort_rows", none)) fd
  g_l_sort_rows : mg "_law_sort_rows" = some (.ref (He.ga K "_law_sort_rows"))
  f_l_promise_in : ∃ fd, FunD K "_law_promise_in" "_law_promise_in" (defArgs (top 54)) (defBody (top 54)) (defScope (top 54)) [] [] (He.fAd K ("_law_promise_in", none)) fd
  g_l_promise_in : mg "_law_promise_in" = some (.ref (He.ga K "_law_promise_in"))
  f_need_promise : ∃ fd, FunD K "need_promise" "need_promise" (defArgs (top 23)) (defBody (top 23)) (defScope (top 23)) [] [] (He.fAd K ("need_promise", none)) fd
  g_need_promise : mg "need_promise" = some (.ref (He.ga K "need_promise"))
  f_are_parts : ∃ fd, FunD K "are_parts" "are_parts" (defArgs (top 28)) (defBody (top 28)) (defScope (top 28)) [] [] (He.fAd K ("are_parts", none)) fd
  g_are_parts : mg "are_parts" = some (.ref (He.ga K "are_parts"))
  f_Promise_init : ∃ fd, FunD K "__init__" "Promise.__init__" (defArgs (inClass (top 22) 0)) (defBody (inClass (top 22) 0)) (defScope (inClass (top 22) 0)) [.non, .non, .non] [] (He.fAd K ("Promise", some "__init__")) fd
  f_l_called : ∃ fd, FunD K "_law_called" "_law_called" (defArgs (top 42)) (defBody (top 42)) (defScope (top 42)) [] [] (He.fAd K ("_law_called", none)) fd
  g_l_called : mg "_law_called" = some (.ref (He.ga K "_law_called"))
  f_l_limit : ∃ fd, FunD K "_law_limit" "_law_limit" (defArgs (top 43)) (defBody (top 43)) (defScope (top 43)) [] [] (He.fAd K ("_law_limit", none)) fd
  g_l_limit : mg "_law_limit" = some (.ref (He.ga K "_law_limit"))
  f_l_bent_words : ∃ fd, FunD K "_law_bent_words" "_law_bent_words" (defArgs (top 55)) (defBody (top 55)) (defScope (top 55)) [] [] (He.fAd K ("_law_bent_words", none)) fd
  g_l_bent_words : mg "_law_bent_words" = some (.ref (He.ga K "_law_bent_words"))
  f_l_part_in : ∃ fd, FunD K "_law_part_in" "_law_part_in" (defArgs (top 58)) (defBody (top 58)) (defScope (top 58)) [] [] (He.fAd K ("_law_part_in", none)) fd
  g_l_part_in : mg "_law_part_in" = some (.ref (He.ga K "_law_part_in"))
  f_Sort_init : ∃ fd, FunD K "__init__" "Sort.__init__" (defArgs (inClass (top 30) 0)) (defBody (inClass (top 30) 0)) (defScope (inClass (top 30) 0)) [.non, .non] [] (He.fAd K ("Sort", some "__init__")) fd
  f_l_limits : ∃ fd, FunD K "_law_limits" "_law_limits" (defArgs (top 44)) (defBody (top 44)) (defScope (top 44)) [] [] (He.fAd K ("_law_limits", none)) fd
  g_l_limits : mg "_law_limits" = some (.ref (He.ga K "_law_limits"))
  f_l_row_in : ∃ fd, FunD K "_law_row_in" "_law_row_in" (defArgs (top 57)) (defBody (top 57)) (defScope (top 57)) [] [] (He.fAd K ("_law_row_in", none)) fd
  g_l_row_in : mg "_law_row_in" = some (.ref (He.ga K "_law_row_in"))
  f_l_bent_rows : ∃ fd, FunD K "_law_bent_rows" "_law_bent_rows" (defArgs (top 62)) (defBody (top 62)) (defScope (top 62)) [] [] (He.fAd K ("_law_bent_rows", none)) fd
  g_l_bent_rows : mg "_law_bent_rows" = some (.ref (He.ga K "_law_bent_rows"))
  f_BadText_init : ∃ fd, FunD K "__init__" "BadText.__init__" (defArgs (inClass (top 3) 0)) (defBody (inClass (top 3) 0)) (defScope (inClass (top 3) 0)) [] [] (He.fAd K ("BadText", some "__init__")) fd
  f_l_plain_sort : ∃ fd, FunD K "_law_plain_sort" "_law_plain_sort" (defArgs (top 45)) (defBody (top 45)) (defScope (top 45)) [] [] (He.fAd K ("_law_plain_sort", none)) fd
  g_l_plain_sort : mg "_law_plain_sort" = some (.ref (He.ga K "_law_plain_sort"))
  f_l_promise : ∃ fd, FunD K "_law_promise" "_law_promise" (defArgs (top 46)) (defBody (top 46)) (defScope (top 46)) [] [] (He.fAd K ("_law_promise", none)) fd
  g_l_promise : mg "_law_promise" = some (.ref (He.ga K "_law_promise"))
  f_l_due : ∃ fd, FunD K "_law_due" "_law_due" (defArgs (top 59)) (defBody (top 59)) (defScope (top 59)) [] [] (He.fAd K ("_law_due", none)) fd
  g_l_due : mg "_law_due" = some (.ref (He.ga K "_law_due"))
  f_Sort_rows : ∃ fd, FunD K "rows" "Sort.rows" (defArgs (inClass (top 30) 8)) (defBody (inClass (top 30) 8)) (defScope (inClass (top 30) 8)) [] [] (He.fAd K ("Sort", some "rows")) fd
  m_Sort_rows : Meth K (He.ga K "Sort") "rows" (He.ma K (He.ga K "Sort") "rows")
  f_SortReader_whole_sort : ∃ fd, FunD K "whole_sort" "SortReader.whole_sort" (defArgs (inClass (top 35) 3)) (defBody (inClass (top 35) 3)) (defScope (inClass (top 35) 3)) [] [] (He.fAd K ("SortReader", some "whole_sort")) fd
  m_SortReader_whole_sort : Meth K (He.ga K "SortReader") "whole_sort" (He.ma K (He.ga K "SortReader") "whole_sort")
  f_l_sort : ∃ fd, FunD K "_law_sort" "_law_sort" (defArgs (top 47)) (defBody (top 47)) (defScope (top 47)) [] [] (He.fAd K ("_law_sort", none)) fd
  g_l_sort : mg "_law_sort" = some (.ref (He.ga K "_law_sort"))
  f_Sort_eq : ∃ fd, FunD K "__eq__" "Sort.__eq__" (defArgs (inClass (top 30) 9)) (defBody (inClass (top 30) 9)) (defScope (inClass (top 30) 9)) [] [] (He.fAd K ("Sort", some "__eq__")) fd
  m_Sort_eq : Meth K (He.ga K "Sort") "__eq__" (He.ma K (He.ga K "Sort") "__eq__")
  f_Sort_str : ∃ fd, FunD K "__str__" "Sort.__str__" (defArgs (inClass (top 30) 11)) (defBody (inClass (top 30) 11)) (defScope (inClass (top 30) 11)) [] [] (He.fAd K ("Sort", some "__str__")) fd
  m_Sort_str : Meth K (He.ga K "Sort") "__str__" (He.ma K (He.ga K "Sort") "__str__")
  f_Reader_refuse : ∃ fd, FunD K "refuse" "Reader.refuse" (defArgs (inClass (top 32) 2)) (defBody (inClass (top 32) 2)) (defScope (inClass (top 32) 2)) [] [] (He.fAd K ("Reader", some "refuse")) fd
  m_Reader_refuse : Meth K (He.ga K "Reader") "refuse" (He.ma K (He.ga K "Reader") "refuse")
  f_Reader_take : ∃ fd, FunD K "take" "Reader.take" (defArgs (inClass (top 32) 3)) (defBody (inClass (top 32) 3)) (defScope (inClass (top 32) 3)) [] [] (He.fAd K ("Reader", some "take")) fd
  m_Reader_take : Meth K (He.ga K "Reader") "take" (He.ma K (He.ga K "Reader") "take")
  f_Reader_over : ∃ fd, FunD K "over" "Reader.over" (defArgs (inClass (top 32) 7)) (defBody (inClass (top 32) 7)) (defScope (inClass (top 32) 7)) [] [] (He.fAd K ("Reader", some "over")) fd
  m_Reader_over : Meth K (He.ga K "Reader") "over" (He.ma K (He.ga K "Reader") "over")
  f_pair_in : ∃ fd, FunD K "pair_in" "pair_in" (defArgs (top 34)) (defBody (top 34)) (defScope (top 34)) [] [] (He.fAd K ("pair_in", none)) fd
  g_pair_in : mg "pair_in" = some (.ref (He.ga K "pair_in"))
  f_Reader_take_name : ∃ fd, FunD K "take_name" "Reader.take_name" (defArgs (inClass (top 32) 4)) (defBody (inClass (top 32) 4)) (defScope (inClass (top 32) 4)) [] [] (He.fAd K ("Reader", some "take_name")) fd
  m_Reader_take_name : Meth K (He.ga K "Reader") "take_name" (He.ma K (He.ga K "Reader") "take_name")
  f_Reader_take_number : ∃ fd, FunD K "take_number" "Reader.take_number" (defArgs (inClass (top 32) 5)) (defBody (inClass (top 32) 5)) (defScope (inClass (top 32) 5)) [.int 1000000] [] (He.fAd K ("Reader", some "take_number")) fd
  m_Reader_take_number : Meth K (He.ga K "Reader") "take_number" (He.ma K (He.ga K "Reader") "take_number")
  f_Reader_take_promise : ∃ fd, FunD K "take_promise" "Reader.take_promise" (defArgs (inClass (top 32) 8)) (defBody (inClass (top 32) 8)) (defScope (inClass (top 32) 8)) [] [] (He.fAd K ("Reader", some "take_promise")) fd
  m_Reader_take_promise : Meth K (He.ga K "Reader") "take_promise" (He.ma K (He.ga K "Reader") "take_promise")
  f_part_in : ∃ fd, FunD K "part_in" "part_in" (defArgs (top 33)) (defBody (top 33)) (defScope (top 33)) [] [] (He.fAd K ("part_in", none)) fd
  g_part_in : mg "part_in" = some (.ref (He.ga K "part_in"))
  f_SortReader_take_row : ∃ fd, FunD K "take_row" "SortReader.take_row" (defArgs (inClass (top 35) 2)) (defBody (inClass (top 35) 2)) (defScope (inClass (top 35) 2)) [] [] (He.fAd K ("SortReader", some "take_row")) fd
  m_SortReader_take_row : Meth K (He.ga K "SortReader") "take_row" (He.ma K (He.ga K "SortReader") "take_row")
  f_read_sort : ∃ fd, FunD K "read_sort" "read_sort" (defArgs (top 36)) (defBody (top 36)) (defScope (top 36)) [] [] (He.fAd K ("read_sort", none)) fd
  g_read_sort : mg "read_sort" = some (.ref (He.ga K "read_sort"))
  f_l_right : ∃ fd, FunD K "_law_right" "_law_right" (defArgs (top 60)) (defBody (top 60)) (defScope (top 60)) [] [] (He.fAd K ("_law_right", none)) fd
  g_l_right : mg "_law_right" = some (.ref (He.ga K "_law_right"))
  f_law : ∃ fd, FunD K "law" "law" (defArgs (top 63)) (defBody (top 63)) (defScope (top 63)) [] [] (He.fAd K ("law", none)) fd
  g_law : mg "law" = some (.ref (He.ga K "law"))
  k_Promise : Mk K (He.ga K "Promise") (He.ma K (He.ga K "Promise") "__init__")
  k_Sort : Mk K (He.ga K "Sort") (He.ma K (He.ga K "Sort") "__init__")
  k_Reader : Mk K (He.ga K "Reader") (He.ma K (He.ga K "Reader") "__init__")
  k_SortReader : Mk K (He.ga K "SortReader") (He.ma K (He.ga K "SortReader") "__init__")
  c_BV : ∃ mc, CIn K (He.ga K "BadValue") (He.ma K (He.ga K "BadValue") "__init__") mc
  b_BT : PySem.W.findIn K (.ref (He.ga K "BadText")) "__init__" = some (some (.ref (He.ma K (He.ga K "BadText") "__init__")))
  y_BT : PySem.W.typeIn K (.ref (He.ma K (He.ga K "BadText") "__init__")) = some (.type "function")
theorem vals_app : ∀ {a b : List V} {c d : List Value}, Vals a c → Vals b d → Vals (a ++ b) (c ++ d)
  | _, _, _, _, .nil, h => h
  | _, _, _, _, .cons r h, h2 => .cons r (vals_app h h2)
section
variable {P : Program} {w : World} {K : PySem.W.Frag} {mg : Str → Option Value} {base : Heap}
theorem fo_is_whole (h : Hd w K mg) {fd : FuncData} (F : FunD K "is_whole" "is_whole" (defArgs (top 15)) (defBody (top 15)) (defScope (top 15)) [.int 1000000] [] (He.fAd K ("is_whole", none)) fd) : FnOk P w K mg base (L2.CX P w) 1 (He.fAd K ("is_whole", none)) fd ["thing", "least", "most"] sp_is_whole :=
  F.ok (k := 0) sc_is_whole (by intro vs H Q E e; first | (obtain ⟨rfl, _⟩ := e; rfl) | (obtain ⟨_, rfl, _⟩ := e; rfl) | (obtain ⟨_, _, rfl, _⟩ := e; rfl) | (obtain ⟨_, _, _, rfl, _⟩ := e; rfl) | (obtain ⟨_, _, _, _, rfl, _⟩ := e; rfl) | (obtain ⟨_, _, _, _, _, rfl, _⟩ := e; rfl) | (obtain ⟨_, _, _, _, _, _, rfl, _⟩ := e; rfl) | (obtain ⟨_, _, _, _, _, _, _, rfl, _⟩ := e; rfl) | (obtain ⟨_, _, _, _, _, _, _, _, rfl, _⟩ := e; rfl) | (obtain ⟨_, _, _, _, _, _, _, _, _, rfl, _⟩ := e; rfl) | (obtain ⟨_, _, _, _, _, _, _, _, _, _, rfl, _⟩ := e; rfl) | (obtain ⟨_, _, _, _, _, _, _, _, _, _, _, rfl, _⟩ := e; rfl) | (obtain ⟨_, _, _, _, _, _, _, _, _, _, _, _, rfl, _⟩ := e; rfl)) fun cdv A outer s H vs Q E hr e => ⟨_, (dv_is_whole h.T hr ).nox, by first | exact rd_is_whole h.T e | exact rd_is_whole e | exact rd_is_whole h.X e⟩
theorem bG_is_whole_kw (h : Hd w K mg) : DefKw P w K mg base 1 "is_whole" ["thing", "least", "most"] 2 ["most"] (fun vs zs => vs ++ zs) sp_is_whole := by
  obtain ⟨fd, F⟩ := h.f_is_whole
  obtain ⟨its, kb⟩ := F.kbindsD (ps := ["thing", "least", "most"]) 2 ["most"] (fun us its ws => us ++ ws) (by simp) (fun r1 _ r3 => vals_app r1 r3) (fun T kV doc pm an cdv ct us its ws l1 l2 l3 => by match us, l1, its, l2, ws, l3 with | [a, b], _, [c], _, [z0], _ => exact ⟨_, rfl, rfl⟩)
  exact ⟨_, fd, _, fo_is_whole h F, h.g_is_whole, F.kp, kb⟩
theorem fo_is_name (h : Hd w K mg) {fd : FuncData} (F : FunD K "is_name" "is_name" (defArgs (top 16)) (defBody (top 16)) (defScope (top 16)) [] [] (He.fAd K ("is_name", none)) fd) : FnOk P w K mg base (L2.CX P w) 1 (He.fAd K ("is_name", none)) fd ["thing"] sp_is_name :=
  F.ok (k := 0) sc_is_name (by intro vs H Q E e; first | (obtain ⟨rfl, _⟩ := e; rfl) | (obtain ⟨_, rfl, _⟩ := e; rfl) | (obtain ⟨_, _, rfl, _⟩ := e; rfl) | (obtain ⟨_, _, _, rfl, _⟩ := e; rfl) | (obtain ⟨_, _, _, _, rfl, _⟩ := e; rfl) | (obtain ⟨_, _, _, _, _, rfl, _⟩ := e; rfl) | (obtain ⟨_, _, _, _, _, _, rfl, _⟩ := e; rfl) | (obtain ⟨_, _, _, _, _, _, _, rfl, _⟩ := e; rfl) | (obtain ⟨_, _, _, _, _, _, _, _, rfl, _⟩ := e; rfl) | (obtain ⟨_, _, _, _, _, _, _, _, _, rfl, _⟩ := e; rfl) | (obtain ⟨_, _, _, _, _, _, _, _, _, _, rfl, _⟩ := e; rfl) | (obtain ⟨_, _, _, _, _, _, _, _, _, _, _, rfl, _⟩ := e; rfl) | (obtain ⟨_, _, _, _, _, _, _, _, _, _, _, _, rfl, _⟩ := e; rfl)) fun cdv A outer s H vs Q E hr e => ⟨_, (dv_is_name h.T hr ).nox, by first | exact rd_is_name h.T e | exact rd_is_name e | exact rd_is_name h.X e⟩
theorem bG_is_name (h : Hd w K mg) : DefOk P w K mg base 1 "is_name" ["thing"] [] sp_is_name := by
  obtain ⟨fd, F⟩ := h.f_is_name
  exact ⟨_, fd, [], fo_is_name h F, h.g_is_name, F.kp, F.bindsN (fun kV doc pm an cdv ct us hl => by match us, hl with | [a], _ => rfl), .nil⟩
theorem fo_number_of (h : Hd w K mg) {fd : FuncData} (F : FunD K "number_of" "number_of" (defArgs (top 17)) (defBody (top 17)) (defScope (top 17)) [] [] (He.fAd K ("number_of", none)) fd) : FnOk P w K mg base (L2.CX P w) 1 (He.fAd K ("number_of", none)) fd ["word"] sp_number_of :=
  F.ok (k := 0) sc_number_of (by intro vs H Q E e; first | (obtain ⟨rfl, _⟩ := e; rfl) | (obtain ⟨_, rfl, _⟩ := e; rfl) | (obtain ⟨_, _, rfl, _⟩ := e; rfl) | (obtain ⟨_, _, _, rfl, _⟩ := e; rfl) | (obtain ⟨_, _, _, _, rfl, _⟩ := e; rfl) | (obtain ⟨_, _, _, _, _, rfl, _⟩ := e; rfl) | (obtain ⟨_, _, _, _, _, _, rfl, _⟩ := e; rfl) | (obtain ⟨_, _, _, _, _, _, _, rfl, _⟩ := e; rfl) | (obtain ⟨_, _, _, _, _, _, _, _, rfl, _⟩ := e; rfl) | (obtain ⟨_, _, _, _, _, _, _, _, _, rfl, _⟩ := e; rfl) | (obtain ⟨_, _, _, _, _, _, _, _, _, _, rfl, _⟩ := e; rfl) | (obtain ⟨_, _, _, _, _, _, _, _, _, _, _, rfl, _⟩ := e; rfl) | (obtain ⟨_, _, _, _, _, _, _, _, _, _, _, _, rfl, _⟩ := e; rfl)) fun cdv A outer s H vs Q E hr e => ⟨_, (dv_number_of h.T hr ).nox, by first | exact rd_number_of h.T e | exact rd_number_of e | exact rd_number_of h.X e⟩
theorem bG_number_of (h : Hd w K mg) : DefOk P w K mg base 1 "number_of" ["word"] [] sp_number_of := by
  obtain ⟨fd, F⟩ := h.f_number_of
  exact ⟨_, fd, [], fo_number_of h F, h.g_number_of, F.kp, F.bindsN (fun kV doc pm an cdv ct us hl => by match us, hl with | [a], _ => rfl), .nil⟩
theorem fo_words_of (h : Hd w K mg) {fd : FuncData} (F : FunD K "words_of" "words_of" (defArgs (top 18)) (defBody (top 18)) (defScope (top 18)) [] [] (He.fAd K ("words_of", none)) fd) : FnOk P w K mg base (L2.CX P w) 1 (He.fAd K ("words_of", none)) fd ["row"] sp_words_of :=
  F.ok (k := 0) sc_words_of (by intro vs H Q E e; first | (obtain ⟨rfl, _⟩ := e; rfl) | (obtain ⟨_, rfl, _⟩ := e; rfl) | (obtain ⟨_, _, rfl, _⟩ := e; rfl) | (obtain ⟨_, _, _, rfl, _⟩ := e; rfl) | (obtain ⟨_, _, _, _, rfl, _⟩ := e; rfl) | (obtain ⟨_, _, _, _, _, rfl, _⟩ := e; rfl) | (obtain ⟨_, _, _, _, _, _, rfl, _⟩ := e; rfl) | (obtain ⟨_, _, _, _, _, _, _, rfl, _⟩ := e; rfl) | (obtain ⟨_, _, _, _, _, _, _, _, rfl, _⟩ := e; rfl) | (obtain ⟨_, _, _, _, _, _, _, _, _, rfl, _⟩ := e; rfl) | (obtain ⟨_, _, _, _, _, _, _, _, _, _, rfl, _⟩ := e; rfl) | (obtain ⟨_, _, _, _, _, _, _, _, _, _, _, rfl, _⟩ := e; rfl) | (obtain ⟨_, _, _, _, _, _, _, _, _, _, _, _, rfl, _⟩ := e; rfl)) fun cdv A outer s H vs Q E hr e => ⟨_, (dv_words_of h.T hr ).nox, by first | exact rd_words_of h.T e | exact rd_words_of e | exact rd_words_of h.X e⟩
theorem bG_words_of (h : Hd w K mg) : DefOk P w K mg base 1 "words_of" ["row"] [] sp_words_of := by
  obtain ⟨fd, F⟩ := h.f_words_of
  exact ⟨_, fd, [], fo_words_of h F, h.g_words_of, F.kp, F.bindsN (fun kV doc pm an cdv ct us hl => by match us, hl with | [a], _ => rfl), .nil⟩
theorem fo_Promise_str (h : Hd w K mg) {fd : FuncData} (F : FunD K "__str__" "Promise.__str__" (defArgs (inClass (top 22) 10)) (defBody (inClass (top 22) 10)) (defScope (inClass (top 22) 10)) [] [] (He.fAd K ("Promise", some "__str__")) fd) : FnOk P w K mg base (L2.CX P w) 1 (He.fAd K ("Promise", some "__str__")) fd ["self"] (sp_Promise_str K) :=
  F.ok (k := 0) sc_Promise_str (by intro vs H Q E e; first | (obtain ⟨rfl, _⟩ := e; rfl) | (obtain ⟨_, rfl, _⟩ := e; rfl) | (obtain ⟨_, _, rfl, _⟩ := e; rfl) | (obtain ⟨_, _, _, rfl, _⟩ := e; rfl) | (obtain ⟨_, _, _, _, rfl, _⟩ := e; rfl) | (obtain ⟨_, _, _, _, _, rfl, _⟩ := e; rfl) | (obtain ⟨_, _, _, _, _, _, rfl, _⟩ := e; rfl) | (obtain ⟨_, _, _, _, _, _, _, rfl, _⟩ := e; rfl) | (obtain ⟨_, _, _, _, _, _, _, _, rfl, _⟩ := e; rfl) | (obtain ⟨_, _, _, _, _, _, _, _, _, rfl, _⟩ := e; rfl) | (obtain ⟨_, _, _, _, _, _, _, _, _, _, rfl, _⟩ := e; rfl) | (obtain ⟨_, _, _, _, _, _, _, _, _, _, _, rfl, _⟩ := e; rfl) | (obtain ⟨_, _, _, _, _, _, _, _, _, _, _, _, rfl, _⟩ := e; rfl)) fun cdv A outer s H vs Q E hr e => ⟨_, (dv_Promise_str h.T hr ).nox, by first | exact rd_Promise_str h.T e | exact rd_Promise_str e | exact rd_Promise_str h.X e⟩
theorem bM_Promise_str (h : Hd w K mg) : MetOk P w K mg base 1 (He.ga K "Promise") "__str__" ["self"] [] (sp_Promise_str K) := by
  obtain ⟨fd, F⟩ := h.f_Promise_str
  exact ⟨_, fd, [], fo_Promise_str h F, h.m_Promise_str, F.bindsN (fun kV doc pm an cdv ct us hl => by match us, hl with | [a], _ => rfl), .nil⟩
theorem fo_Reader_init (h : Hd w K mg) {fd : FuncData} (F : FunD K "__init__" "Reader.__init__" (defArgs (inClass (top 32) 0)) (defBody (inClass (top 32) 0)) (defScope (inClass (top 32) 0)) [.int 1] [] (He.fAd K ("Reader", some "__init__")) fd) : FnOk P w K mg base (L2.CX P w) 1 (He.fAd K ("Reader", some "__init__")) fd ["self", "words", "row"] (sp_Reader_init K) :=
  F.ok (k := 0) sc_Reader_init (by intro vs H Q E e; first | (obtain ⟨rfl, _⟩ := e; rfl) | (obtain ⟨_, rfl, _⟩ := e; rfl) | (obtain ⟨_, _, rfl, _⟩ := e; rfl) | (obtain ⟨_, _, _, rfl, _⟩ := e; rfl) | (obtain ⟨_, _, _, _, rfl, _⟩ := e; rfl) | (obtain ⟨_, _, _, _, _, rfl, _⟩ := e; rfl) | (obtain ⟨_, _, _, _, _, _, rfl, _⟩ := e; rfl) | (obtain ⟨_, _, _, _, _, _, _, rfl, _⟩ := e; rfl) | (obtain ⟨_, _, _, _, _, _, _, _, rfl, _⟩ := e; rfl) | (obtain ⟨_, _, _, _, _, _, _, _, _, rfl, _⟩ := e; rfl) | (obtain ⟨_, _, _, _, _, _, _, _, _, _, rfl, _⟩ := e; rfl) | (obtain ⟨_, _, _, _, _, _, _, _, _, _, _, rfl, _⟩ := e; rfl) | (obtain ⟨_, _, _, _, _, _, _, _, _, _, _, _, rfl, _⟩ := e; rfl)) fun cdv A outer s H vs Q E hr e => ⟨_, (dv_Reader_init h.T hr ).nox, by first | exact rd_Reader_init h.T e | exact rd_Reader_init e | exact rd_Reader_init h.X e⟩
theorem bK_Reader_init_kw (h : Hd w K mg) : MakKw P w K mg base 1 "Reader" (He.ga K "Reader") ["self", "words", "row"] 1 ["row"] (fun vs zs => vs ++ zs) (sp_Reader_init K) := by
  obtain ⟨fd, F⟩ := h.f_Reader_init
  obtain ⟨its, kb⟩ := F.kbindsD (ps := ["self", "words", "row"]) 2 ["row"] (fun us its ws => us ++ ws) (by simp) (fun r1 _ r3 => vals_app r1 r3) (fun T kV doc pm an cdv ct us its ws l1 l2 l3 => by match us, l1, its, l2, ws, l3 with | [a, b], _, [c], _, [z0], _ => exact ⟨_, rfl, rfl⟩)
  exact ⟨_, fd, _, fo_Reader_init h F, h.k_Reader, h.T.g_Reader, kb⟩
theorem fo_Reader_ahead (h : Hd w K mg) {fd : FuncData} (F : FunD K "ahead" "Reader.ahead" (defArgs (inClass (top 32) 1)) (defBody (inClass (top 32) 1)) (defScope (inClass (top 32) 1)) [] [] (He.fAd K ("Reader", some "ahead")) fd) : FnOk P w K mg base (L2.CX P w) 1 (He.fAd K ("Reader", some "ahead")) fd ["self"] (sp_Reader_ahead K) :=
  F.ok (k := 0) sc_Reader_ahead (by intro vs H Q E e; first | (obtain ⟨rfl, _⟩ := e; rfl) | (obtain ⟨_, rfl, _⟩ := e; rfl) | (obtain ⟨_, _, rfl, _⟩ := e; rfl) | (obtain ⟨_, _, _, rfl, _⟩ := e; rfl) | (obtain ⟨_, _, _, _, rfl, _⟩ := e; rfl) | (obtain ⟨_, _, _, _, _, rfl, _⟩ := e; rfl) | (obtain ⟨_, _, _, _, _, _, rfl, _⟩ := e; rfl) | (obtain ⟨_, _, _, _, _, _, _, rfl, _⟩ := e; rfl) | (obtain ⟨_, _, _, _, _, _, _, _, rfl, _⟩ := e; rfl) | (obtain ⟨_, _, _, _, _, _, _, _, _, rfl, _⟩ := e; rfl) | (obtain ⟨_, _, _, _, _, _, _, _, _, _, rfl, _⟩ := e; rfl) | (obtain ⟨_, _, _, _, _, _, _, _, _, _, _, rfl, _⟩ := e; rfl) | (obtain ⟨_, _, _, _, _, _, _, _, _, _, _, _, rfl, _⟩ := e; rfl)) fun cdv A outer s H vs Q E hr e => ⟨_, (dv_Reader_ahead h.T hr ).nox, by first | exact rd_Reader_ahead h.T e | exact rd_Reader_ahead e | exact rd_Reader_ahead h.X e⟩
theorem bM_Reader_ahead (h : Hd w K mg) : MetOk P w K mg base 1 (He.ga K "Reader") "ahead" ["self"] [] (sp_Reader_ahead K) := by
  obtain ⟨fd, F⟩ := h.f_Reader_ahead
  exact ⟨_, fd, [], fo_Reader_ahead h F, h.m_Reader_ahead, F.bindsN (fun kV doc pm an cdv ct us hl => by match us, hl with | [a], _ => rfl), .nil⟩
theorem fo_Reader_is_over (h : Hd w K mg) {fd : FuncData} (F : FunD K "is_over" "Reader.is_over" (defArgs (inClass (top 32) 6)) (defBody (inClass (top 32) 6)) (defScope (inClass (top 32) 6)) [] [] (He.fAd K ("Reader", some "is_over")) fd) : FnOk P w K mg base (L2.CX P w) 1 (He.fAd K ("Reader", some "is_over")) fd ["self"] (sp_Reader_is_over K) :=
  F.ok (k := 0) sc_Reader_is_over (by intro vs H Q E e; first | (obtain ⟨rfl, _⟩ := e; rfl) | (obtain ⟨_, rfl, _⟩ := e; rfl) | (obtain ⟨_, _, rfl, _⟩ := e; rfl) | (obtain ⟨_, _, _, rfl, _⟩ := e; rfl) | (obtain ⟨_, _, _, _, rfl, _⟩ := e; rfl) | (obtain ⟨_, _, _, _, _, rfl, _⟩ := e; rfl) | (obtain ⟨_, _, _, _, _, _, rfl, _⟩ := e; rfl) | (obtain ⟨_, _, _, _, _, _, _, rfl, _⟩ := e; rfl) | (obtain ⟨_, _, _, _, _, _, _, _, rfl, _⟩ := e; rfl) | (obtain ⟨_, _, _, _, _, _, _, _, _, rfl, _⟩ := e; rfl) | (obtain ⟨_, _, _, _, _, _, _, _, _, _, rfl, _⟩ := e; rfl) | (obtain ⟨_, _, _, _, _, _, _, _, _, _, _, rfl, _⟩ := e; rfl) | (obtain ⟨_, _, _, _, _, _, _, _, _, _, _, _, rfl, _⟩ := e; rfl)) fun cdv A outer s H vs Q E hr e => ⟨_, (dv_Reader_is_over h.T hr ).nox, by first | exact rd_Reader_is_over h.T e | exact rd_Reader_is_over e | exact rd_Reader_is_over h.X e⟩
theorem bM_Reader_is_over (h : Hd w K mg) : MetOk P w K mg base 1 (He.ga K "Reader") "is_over" ["self"] [] (sp_Reader_is_over K) := by
  obtain ⟨fd, F⟩ := h.f_Reader_is_over
  exact ⟨_, fd, [], fo_Reader_is_over h F, h.m_Reader_is_over, F.bindsN (fun kV doc pm an cdv ct us hl => by match us, hl with | [a], _ => rfl), .nil⟩
theorem fo_SortReader_init (h : Hd w K mg) {fd : FuncData} (F : FunD K "__init__" "SortReader.__init__" (defArgs (inClass (top 35) 0)) (defBody (inClass (top 35) 0)) (defScope (inClass (top 35) 0)) [] [] (He.fAd K ("SortReader", some "__init__")) fd) : FnOk P w K mg base (L2.CX P w) 1 (He.fAd K ("SortReader", some "__init__")) fd ["self"] (sp_SortReader_init K) :=
  F.ok (k := 0) sc_SortReader_init (by intro vs H Q E e; first | (obtain ⟨rfl, _⟩ := e; rfl) | (obtain ⟨_, rfl, _⟩ := e; rfl) | (obtain ⟨_, _, rfl, _⟩ := e; rfl) | (obtain ⟨_, _, _, rfl, _⟩ := e; rfl) | (obtain ⟨_, _, _, _, rfl, _⟩ := e; rfl) | (obtain ⟨_, _, _, _, _, rfl, _⟩ := e; rfl) | (obtain ⟨_, _, _, _, _, _, rfl, _⟩ := e; rfl) | (obtain ⟨_, _, _, _, _, _, _, rfl, _⟩ := e; rfl) | (obtain ⟨_, _, _, _, _, _, _, _, rfl, _⟩ := e; rfl) | (obtain ⟨_, _, _, _, _, _, _, _, _, rfl, _⟩ := e; rfl) | (obtain ⟨_, _, _, _, _, _, _, _, _, _, rfl, _⟩ := e; rfl) | (obtain ⟨_, _, _, _, _, _, _, _, _, _, _, rfl, _⟩ := e; rfl) | (obtain ⟨_, _, _, _, _, _, _, _, _, _, _, _, rfl, _⟩ := e; rfl)) fun cdv A outer s H vs Q E hr e => ⟨_, (dv_SortReader_init h.T hr ).nox, by first | exact rd_SortReader_init h.T e | exact rd_SortReader_init e | exact rd_SortReader_init h.X e⟩
theorem bK_SortReader_init (h : Hd w K mg) : MakOk P w K mg base 1 "SortReader" (He.ga K "SortReader") ["self"] [] (sp_SortReader_init K) := by
  obtain ⟨fd, F⟩ := h.f_SortReader_init
  exact ⟨_, fd, [], fo_SortReader_init h F, h.k_SortReader, h.T.g_SortReader, F.bindsN (fun kV doc pm an cdv ct us hl => by match us, hl with | [a], _ => rfl), .nil⟩
theorem fo_SortReader_first_words (h : Hd w K mg) {fd : FuncData} (F : FunD K "first_words" "SortReader.first_words" (defArgs (inClass (top 35) 1)) (defBody (inClass (top 35) 1)) (defScope (inClass (top 35) 1)) [] [] (He.fAd K ("SortReader", some "first_words")) fd) : FnOk P w K mg base (L2.CX P w) 1 (He.fAd K ("SortReader", some "first_words")) fd ["self"] (sp_first_words K) :=
  F.ok (k := 0) sc_SortReader_first_words (by intro vs H Q E e; first | (obtain ⟨rfl, _⟩ := e; rfl) | (obtain ⟨_, rfl, _⟩ := e; rfl) | (obtain ⟨_, _, rfl, _⟩ := e; rfl) | (obtain ⟨_, _, _, rfl, _⟩ := e; rfl) | (obtain ⟨_, _, _, _, rfl, _⟩ := e; rfl) | (obtain ⟨_, _, _, _, _, rfl, _⟩ := e; rfl) | (obtain ⟨_, _, _, _, _, _, rfl, _⟩ := e; rfl) | (obtain ⟨_, _, _, _, _, _, _, rfl, _⟩ := e; rfl) | (obtain ⟨_, _, _, _, _, _, _, _, rfl, _⟩ := e; rfl) | (obtain ⟨_, _, _, _, _, _, _, _, _, rfl, _⟩ := e; rfl) | (obtain ⟨_, _, _, _, _, _, _, _, _, _, rfl, _⟩ := e; rfl) | (obtain ⟨_, _, _, _, _, _, _, _, _, _, _, rfl, _⟩ := e; rfl) | (obtain ⟨_, _, _, _, _, _, _, _, _, _, _, _, rfl, _⟩ := e; rfl)) fun cdv A outer s H vs Q E hr e => ⟨_, (dv_SortReader_first_words h.T hr ).nox, by first | exact rd_first_words h.T e | exact rd_first_words e | exact rd_first_words h.X e⟩
theorem bM_SortReader_first_words (h : Hd w K mg) : MetOk P w K mg base 1 (He.ga K "SortReader") "first_words" ["self"] [] (sp_first_words K) := by
  obtain ⟨fd, F⟩ := h.f_SortReader_first_words
  exact ⟨_, fd, [], fo_SortReader_first_words h F, h.m_SortReader_first_words, F.bindsN (fun kV doc pm an cdv ct us hl => by match us, hl with | [a], _ => rfl), .nil⟩
theorem fo_BadValue_init (h : Hd w K mg) {fd : FuncData} (F : FunD K "__init__" "BadValue.__init__" (defArgs (inClass (top 2) 0)) (defBody (inClass (top 2) 0)) (defScope (inClass (top 2) 0)) [] [] (He.fAd K ("BadValue", some "__init__")) fd) : FnOk P w K mg base (L2.CX P w) 1 (He.fAd K ("BadValue", some "__init__")) fd ["self", "what"] (sp_BadValue_init K) :=
  F.ok (k := 0) sc_BadValue_init (by intro vs H Q E e; first | (obtain ⟨rfl, _⟩ := e; rfl) | (obtain ⟨_, rfl, _⟩ := e; rfl) | (obtain ⟨_, _, rfl, _⟩ := e; rfl) | (obtain ⟨_, _, _, rfl, _⟩ := e; rfl) | (obtain ⟨_, _, _, _, rfl, _⟩ := e; rfl) | (obtain ⟨_, _, _, _, _, rfl, _⟩ := e; rfl) | (obtain ⟨_, _, _, _, _, _, rfl, _⟩ := e; rfl) | (obtain ⟨_, _, _, _, _, _, _, rfl, _⟩ := e; rfl) | (obtain ⟨_, _, _, _, _, _, _, _, rfl, _⟩ := e; rfl) | (obtain ⟨_, _, _, _, _, _, _, _, _, rfl, _⟩ := e; rfl) | (obtain ⟨_, _, _, _, _, _, _, _, _, _, rfl, _⟩ := e; rfl) | (obtain ⟨_, _, _, _, _, _, _, _, _, _, _, rfl, _⟩ := e; rfl) | (obtain ⟨_, _, _, _, _, _, _, _, _, _, _, _, rfl, _⟩ := e; rfl)) fun cdv A outer s H vs Q E hr e => ⟨_, (dv_BadValue_init h.T hr ).nox, by first | exact rd_BadValue_init h.T e | exact rd_BadValue_init e | exact rd_BadValue_init h.X e⟩
theorem bG_BadValue_init (h : Hd w K mg) : ClsInit P w K mg base 1 "BadValue" (He.ga K "BadValue") ["self", "what"] (sp_BadValue_init K) := by
  obtain ⟨fd, F⟩ := h.f_BadValue_init
  obtain ⟨mc, c⟩ := h.c_BV
  exact ⟨_, fd, mc, fo_BadValue_init h F, c, h.T.g_BadValue, F.bindsN (fun kV doc pm an cdv ct us hl => by match us, hl with | [a, b], _ => rfl)⟩
theorem fo_l_mixed (h : Hd w K mg) {fd : FuncData} (F : FunD K "_law_mixed" "_law_mixed" (defArgs (top 38)) (defBody (top 38)) (defScope (top 38)) [] [] (He.fAd K ("_law_mixed", none)) fd) : FnOk P w K mg base (L2.CX P w) 1 (He.fAd K ("_law_mixed", none)) fd ["_law_cell", "_law_k"] sp_l_mixed :=
  F.ok (k := 0) sc_l_mixed (by intro vs H Q E e; first | (obtain ⟨rfl, _⟩ := e; rfl) | (obtain ⟨_, rfl, _⟩ := e; rfl) | (obtain ⟨_, _, rfl, _⟩ := e; rfl) | (obtain ⟨_, _, _, rfl, _⟩ := e; rfl) | (obtain ⟨_, _, _, _, rfl, _⟩ := e; rfl) | (obtain ⟨_, _, _, _, _, rfl, _⟩ := e; rfl) | (obtain ⟨_, _, _, _, _, _, rfl, _⟩ := e; rfl) | (obtain ⟨_, _, _, _, _, _, _, rfl, _⟩ := e; rfl) | (obtain ⟨_, _, _, _, _, _, _, _, rfl, _⟩ := e; rfl) | (obtain ⟨_, _, _, _, _, _, _, _, _, rfl, _⟩ := e; rfl) | (obtain ⟨_, _, _, _, _, _, _, _, _, _, rfl, _⟩ := e; rfl) | (obtain ⟨_, _, _, _, _, _, _, _, _, _, _, rfl, _⟩ := e; rfl) | (obtain ⟨_, _, _, _, _, _, _, _, _, _, _, _, rfl, _⟩ := e; rfl)) fun cdv A outer s H vs Q E hr e => ⟨_, (dv_l_mixed h.T hr ).nox, by first | exact rd_l_mixed h.T e | exact rd_l_mixed e | exact rd_l_mixed h.X e⟩
theorem bG_l_mixed (h : Hd w K mg) : DefOk P w K mg base 1 "_law_mixed" ["_law_cell", "_law_k"] [] sp_l_mixed := by
  obtain ⟨fd, F⟩ := h.f_l_mixed
  exact ⟨_, fd, [], fo_l_mixed h F, h.g_l_mixed, F.kp, F.bindsN (fun kV doc pm an cdv ct us hl => by match us, hl with | [a, b], _ => rfl), .nil⟩
theorem fo_l_folded (h : Hd w K mg) {fd : FuncData} (F : FunD K "_law_folded" "_law_folded" (defArgs (top 39)) (defBody (top 39)) (defScope (top 39)) [] [] (He.fAd K ("_law_folded", none)) fd) : FnOk P w K mg base (L2.CX P w) 1 (He.fAd K ("_law_folded", none)) fd ["_law_script"] (sp_l_folded K) :=
  F.ok (k := 0) sc_l_folded (by intro vs H Q E e; first | (obtain ⟨rfl, _⟩ := e; rfl) | (obtain ⟨_, rfl, _⟩ := e; rfl) | (obtain ⟨_, _, rfl, _⟩ := e; rfl) | (obtain ⟨_, _, _, rfl, _⟩ := e; rfl) | (obtain ⟨_, _, _, _, rfl, _⟩ := e; rfl) | (obtain ⟨_, _, _, _, _, rfl, _⟩ := e; rfl) | (obtain ⟨_, _, _, _, _, _, rfl, _⟩ := e; rfl) | (obtain ⟨_, _, _, _, _, _, _, rfl, _⟩ := e; rfl) | (obtain ⟨_, _, _, _, _, _, _, _, rfl, _⟩ := e; rfl) | (obtain ⟨_, _, _, _, _, _, _, _, _, rfl, _⟩ := e; rfl) | (obtain ⟨_, _, _, _, _, _, _, _, _, _, rfl, _⟩ := e; rfl) | (obtain ⟨_, _, _, _, _, _, _, _, _, _, _, rfl, _⟩ := e; rfl) | (obtain ⟨_, _, _, _, _, _, _, _, _, _, _, _, rfl, _⟩ := e; rfl)) fun cdv A outer s H vs Q E hr e => ⟨_, (dv_l_folded h.T hr ).nox, by first | exact rd_l_folded h.T e | exact rd_l_folded e | exact rd_l_folded h.X e⟩
theorem bG_l_folded (h : Hd w K mg) : DefOk P w K mg base 1 "_law_folded" ["_law_script"] [] (sp_l_folded K) := by
  obtain ⟨fd, F⟩ := h.f_l_folded
  exact ⟨_, fd, [], fo_l_folded h F, h.g_l_folded, F.kp, F.bindsN (fun kV doc pm an cdv ct us hl => by match us, hl with | [a], _ => rfl), .nil⟩
theorem fo_l_class (h : Hd w K mg) {fd : FuncData} (F : FunD K "_law_class" "_law_class" (defArgs (top 48)) (defBody (top 48)) (defScope (top 48)) [] [] (He.fAd K ("_law_class", none)) fd) : FnOk P w K mg base (L2.CX P w) 1 (He.fAd K ("_law_class", none)) fd ["_law_error"] (sp_l_class K) :=
  F.ok (k := 0) sc_l_class (by intro vs H Q E e; first | (obtain ⟨rfl, _⟩ := e; rfl) | (obtain ⟨_, rfl, _⟩ := e; rfl) | (obtain ⟨_, _, rfl, _⟩ := e; rfl) | (obtain ⟨_, _, _, rfl, _⟩ := e; rfl) | (obtain ⟨_, _, _, _, rfl, _⟩ := e; rfl) | (obtain ⟨_, _, _, _, _, rfl, _⟩ := e; rfl) | (obtain ⟨_, _, _, _, _, _, rfl, _⟩ := e; rfl) | (obtain ⟨_, _, _, _, _, _, _, rfl, _⟩ := e; rfl) | (obtain ⟨_, _, _, _, _, _, _, _, rfl, _⟩ := e; rfl) | (obtain ⟨_, _, _, _, _, _, _, _, _, rfl, _⟩ := e; rfl) | (obtain ⟨_, _, _, _, _, _, _, _, _, _, rfl, _⟩ := e; rfl) | (obtain ⟨_, _, _, _, _, _, _, _, _, _, _, rfl, _⟩ := e; rfl) | (obtain ⟨_, _, _, _, _, _, _, _, _, _, _, _, rfl, _⟩ := e; rfl)) fun cdv A outer s H vs Q E hr e => ⟨_, (dv_l_class h.T hr ).nox, by first | exact rd_l_class h.T e | exact rd_l_class e | exact rd_l_class h.X e⟩
theorem bG_l_class (h : Hd w K mg) : DefOk P w K mg base 1 "_law_class" ["_law_error"] [] (sp_l_class K) := by
  obtain ⟨fd, F⟩ := h.f_l_class
  exact ⟨_, fd, [], fo_l_class h F, h.g_l_class, F.kp, F.bindsN (fun kV doc pm an cdv ct us hl => by match us, hl with | [a], _ => rfl), .nil⟩
theorem fo_l_is_name (h : Hd w K mg) {fd : FuncData} (F : FunD K "_law_is_name" "_law_is_name" (defArgs (top 50)) (defBody (top 50)) (defScope (top 50)) [] [] (He.fAd K ("_law_is_name", none)) fd) : FnOk P w K mg base (L2.CX P w) 1 (He.fAd K ("_law_is_name", none)) fd ["_law_one"] sp_is_name :=
  F.ok (k := 0) sc_l_is_name (by intro vs H Q E e; first | (obtain ⟨rfl, _⟩ := e; rfl) | (obtain ⟨_, rfl, _⟩ := e; rfl) | (obtain ⟨_, _, rfl, _⟩ := e; rfl) | (obtain ⟨_, _, _, rfl, _⟩ := e; rfl) | (obtain ⟨_, _, _, _, rfl, _⟩ := e; rfl) | (obtain ⟨_, _, _, _, _, rfl, _⟩ := e; rfl) | (obtain ⟨_, _, _, _, _, _, rfl, _⟩ := e; rfl) | (obtain ⟨_, _, _, _, _, _, _, rfl, _⟩ := e; rfl) | (obtain ⟨_, _, _, _, _, _, _, _, rfl, _⟩ := e; rfl) | (obtain ⟨_, _, _, _, _, _, _, _, _, rfl, _⟩ := e; rfl) | (obtain ⟨_, _, _, _, _, _, _, _, _, _, rfl, _⟩ := e; rfl) | (obtain ⟨_, _, _, _, _, _, _, _, _, _, _, rfl, _⟩ := e; rfl) | (obtain ⟨_, _, _, _, _, _, _, _, _, _, _, _, rfl, _⟩ := e; rfl)) fun cdv A outer s H vs Q E hr e => ⟨_, (dv_l_is_name h.T hr ).nox, by first | exact rd_l_is_name h.T e | exact rd_l_is_name e | exact rd_l_is_name h.X e⟩
theorem bG_l_is_name (h : Hd w K mg) : DefOk P w K mg base 1 "_law_is_name" ["_law_one"] [] sp_is_name := by
  obtain ⟨fd, F⟩ := h.f_l_is_name
  exact ⟨_, fd, [], fo_l_is_name h F, h.g_l_is_name, F.kp, F.bindsN (fun kV doc pm an cdv ct us hl => by match us, hl with | [a], _ => rfl), .nil⟩
theorem fo_l_text (h : Hd w K mg) {fd : FuncData} (F : FunD K "_law_text" "_law_text" (defArgs (top 51)) (defBody (top 51)) (defScope (top 51)) [] [] (He.fAd K ("_law_text", none)) fd) : FnOk P w K mg base (L2.CX P w) 1 (He.fAd K ("_law_text", none)) fd ["_law_three"] sp_l_text :=
  F.ok (k := 0) sc_l_text (by intro vs H Q E e; first | (obtain ⟨rfl, _⟩ := e; rfl) | (obtain ⟨_, rfl, _⟩ := e; rfl) | (obtain ⟨_, _, rfl, _⟩ := e; rfl) | (obtain ⟨_, _, _, rfl, _⟩ := e; rfl) | (obtain ⟨_, _, _, _, rfl, _⟩ := e; rfl) | (obtain ⟨_, _, _, _, _, rfl, _⟩ := e; rfl) | (obtain ⟨_, _, _, _, _, _, rfl, _⟩ := e; rfl) | (obtain ⟨_, _, _, _, _, _, _, rfl, _⟩ := e; rfl) | (obtain ⟨_, _, _, _, _, _, _, _, rfl, _⟩ := e; rfl) | (obtain ⟨_, _, _, _, _, _, _, _, _, rfl, _⟩ := e; rfl) | (obtain ⟨_, _, _, _, _, _, _, _, _, _, rfl, _⟩ := e; rfl) | (obtain ⟨_, _, _, _, _, _, _, _, _, _, _, rfl, _⟩ := e; rfl) | (obtain ⟨_, _, _, _, _, _, _, _, _, _, _, _, rfl, _⟩ := e; rfl)) fun cdv A outer s H vs Q E hr e => ⟨_, (dv_l_text h.T hr ).nox, by first | exact rd_l_text h.T e | exact rd_l_text e | exact rd_l_text h.X e⟩
theorem bG_l_text (h : Hd w K mg) : DefOk P w K mg base 1 "_law_text" ["_law_three"] [] sp_l_text := by
  obtain ⟨fd, F⟩ := h.f_l_text
  exact ⟨_, fd, [], fo_l_text h F, h.g_l_text, F.kp, F.bindsN (fun kV doc pm an cdv ct us hl => by match us, hl with | [a], _ => rfl), .nil⟩
theorem fo_l_number_in (h : Hd w K mg) {fd : FuncData} (F : FunD K "_law_number_in" "_law_number_in" (defArgs (top 53)) (defBody (top 53)) (defScope (top 53)) [] [] (He.fAd K ("_law_number_in", none)) fd) : FnOk P w K mg base (L2.CX P w) 1 (He.fAd K ("_law_number_in", none)) fd ["_law_words", "_law_at", "_law_high"] sp_l_number_in :=
  F.ok (k := 0) sc_l_number_in (by intro vs H Q E e; first | (obtain ⟨rfl, _⟩ := e; rfl) | (obtain ⟨_, rfl, _⟩ := e; rfl) | (obtain ⟨_, _, rfl, _⟩ := e; rfl) | (obtain ⟨_, _, _, rfl, _⟩ := e; rfl) | (obtain ⟨_, _, _, _, rfl, _⟩ := e; rfl) | (obtain ⟨_, _, _, _, _, rfl, _⟩ := e; rfl) | (obtain ⟨_, _, _, _, _, _, rfl, _⟩ := e; rfl) | (obtain ⟨_, _, _, _, _, _, _, rfl, _⟩ := e; rfl) | (obtain ⟨_, _, _, _, _, _, _, _, rfl, _⟩ := e; rfl) | (obtain ⟨_, _, _, _, _, _, _, _, _, rfl, _⟩ := e; rfl) | (obtain ⟨_, _, _, _, _, _, _, _, _, _, rfl, _⟩ := e; rfl) | (obtain ⟨_, _, _, _, _, _, _, _, _, _, _, rfl, _⟩ := e; rfl) | (obtain ⟨_, _, _, _, _, _, _, _, _, _, _, _, rfl, _⟩ := e; rfl)) fun cdv A outer s H vs Q E hr e => ⟨_, (dv_l_number_in h.T hr ).nox, by first | exact rd_l_number_in h.T e | exact rd_l_number_in e | exact rd_l_number_in h.X e⟩
theorem bG_l_number_in (h : Hd w K mg) : DefOk P w K mg base 1 "_law_number_in" ["_law_words", "_law_at", "_law_high"] [] sp_l_number_in := by
  obtain ⟨fd, F⟩ := h.f_l_number_in
  exact ⟨_, fd, [], fo_l_number_in h F, h.g_l_number_in, F.kp, F.bindsN (fun kV doc pm an cdv ct us hl => by match us, hl with | [a, b, c], _ => rfl), .nil⟩
theorem fo_l_far (h : Hd w K mg) {fd : FuncData} (F : FunD K "_law_far" "_law_far" (defArgs (top 56)) (defBody (top 56)) (defScope (top 56)) [] [] (He.fAd K ("_law_far", none)) fd) : FnOk P w K mg base (L2.CX P w) 1 (He.fAd K ("_law_far", none)) fd [] (sp_l_far K) :=
  F.ok (k := 0) sc_l_far (by intro vs H Q E e; first | (obtain ⟨rfl, _⟩ := e; rfl) | (obtain ⟨_, rfl, _⟩ := e; rfl) | (obtain ⟨_, _, rfl, _⟩ := e; rfl) | (obtain ⟨_, _, _, rfl, _⟩ := e; rfl) | (obtain ⟨_, _, _, _, rfl, _⟩ := e; rfl) | (obtain ⟨_, _, _, _, _, rfl, _⟩ := e; rfl) | (obtain ⟨_, _, _, _, _, _, rfl, _⟩ := e; rfl) | (obtain ⟨_, _, _, _, _, _, _, rfl, _⟩ := e; rfl) | (obtain ⟨_, _, _, _, _, _, _, _, rfl, _⟩ := e; rfl) | (obtain ⟨_, _, _, _, _, _, _, _, _, rfl, _⟩ := e; rfl) | (obtain ⟨_, _, _, _, _, _, _, _, _, _, rfl, _⟩ := e; rfl) | (obtain ⟨_, _, _, _, _, _, _, _, _, _, _, rfl, _⟩ := e; rfl) | (obtain ⟨_, _, _, _, _, _, _, _, _, _, _, _, rfl, _⟩ := e; rfl)) fun cdv A outer s H vs Q E hr e => ⟨_, (dv_l_far h.T hr ).nox, by first | exact rd_l_far h.T e | exact rd_l_far e | exact rd_l_far h.X e⟩
theorem bG_l_far (h : Hd w K mg) : DefOk P w K mg base 1 "_law_far" [] [] (sp_l_far K) := by
  obtain ⟨fd, F⟩ := h.f_l_far
  exact ⟨_, fd, [], fo_l_far h F, h.g_l_far, F.kp, F.bindsN (fun kV doc pm an cdv ct us hl => by match us, hl with | [], _ => rfl), .nil⟩
theorem fo_l_known (h : Hd w K mg) {fd : FuncData} (F : FunD K "_law_known" "_law_known" (defArgs (top 61)) (defBody (top 61)) (defScope (top 61)) [] [] (He.fAd K ("_law_known", none)) fd) : FnOk P w K mg base (L2.CX P w) 1 (He.fAd K ("_law_known", none)) fd [] (sp_l_known K) :=
  F.ok (k := 0) sc_l_known (by intro vs H Q E e; first | (obtain ⟨rfl, _⟩ := e; rfl) | (obtain ⟨_, rfl, _⟩ := e; rfl) | (obtain ⟨_, _, rfl, _⟩ := e; rfl) | (obtain ⟨_, _, _, rfl, _⟩ := e; rfl) | (obtain ⟨_, _, _, _, rfl, _⟩ := e; rfl) | (obtain ⟨_, _, _, _, _, rfl, _⟩ := e; rfl) | (obtain ⟨_, _, _, _, _, _, rfl, _⟩ := e; rfl) | (obtain ⟨_, _, _, _, _, _, _, rfl, _⟩ := e; rfl) | (obtain ⟨_, _, _, _, _, _, _, _, rfl, _⟩ := e; rfl) | (obtain ⟨_, _, _, _, _, _, _, _, _, rfl, _⟩ := e; rfl) | (obtain ⟨_, _, _, _, _, _, _, _, _, _, rfl, _⟩ := e; rfl) | (obtain ⟨_, _, _, _, _, _, _, _, _, _, _, rfl, _⟩ := e; rfl) | (obtain ⟨_, _, _, _, _, _, _, _, _, _, _, _, rfl, _⟩ := e; rfl)) fun cdv A outer s H vs Q E hr e => ⟨_, (dv_l_known h.T hr ).nox, by first | exact rd_l_known h.T e | exact rd_l_known e | exact rd_l_known h.X e⟩
theorem bG_l_known (h : Hd w K mg) : DefOk P w K mg base 1 "_law_known" [] [] (sp_l_known K) := by
  obtain ⟨fd, F⟩ := h.f_l_known
  exact ⟨_, fd, [], fo_l_known h F, h.g_l_known, F.kp, F.bindsN (fun kV doc pm an cdv ct us hl => by match us, hl with | [], _ => rfl), .nil⟩
theorem fo_is_row (h : Hd w K mg) {fd : FuncData} (F : FunD K "is_row" "is_row" (defArgs (top 27)) (defBody (top 27)) (defScope (top 27)) [] [] (He.fAd K ("is_row", none)) fd) : FnOk P w K mg base (L2.CX P w) 2 (He.fAd K ("is_row", none)) fd ["thing"] (sp_is_row K) :=
  F.ok (k := 1) sc_is_row (by intro vs H Q E e; first | (obtain ⟨rfl, _⟩ := e; rfl) | (obtain ⟨_, rfl, _⟩ := e; rfl) | (obtain ⟨_, _, rfl, _⟩ := e; rfl) | (obtain ⟨_, _, _, rfl, _⟩ := e; rfl) | (obtain ⟨_, _, _, _, rfl, _⟩ := e; rfl) | (obtain ⟨_, _, _, _, _, rfl, _⟩ := e; rfl) | (obtain ⟨_, _, _, _, _, _, rfl, _⟩ := e; rfl) | (obtain ⟨_, _, _, _, _, _, _, rfl, _⟩ := e; rfl) | (obtain ⟨_, _, _, _, _, _, _, _, rfl, _⟩ := e; rfl) | (obtain ⟨_, _, _, _, _, _, _, _, _, rfl, _⟩ := e; rfl) | (obtain ⟨_, _, _, _, _, _, _, _, _, _, rfl, _⟩ := e; rfl) | (obtain ⟨_, _, _, _, _, _, _, _, _, _, _, rfl, _⟩ := e; rfl) | (obtain ⟨_, _, _, _, _, _, _, _, _, _, _, _, rfl, _⟩ := e; rfl)) fun cdv A outer s H vs Q E hr e => ⟨_, (dv_is_row h.T hr (G_is_name := bG_is_name h)).nox, by first | exact rd_is_row h.T e | exact rd_is_row e | exact rd_is_row h.X e⟩
theorem bG_is_row (h : Hd w K mg) : DefOk P w K mg base 2 "is_row" ["thing"] [] (sp_is_row K) := by
  obtain ⟨fd, F⟩ := h.f_is_row
  exact ⟨_, fd, [], fo_is_row h F, h.g_is_row, F.kp, F.bindsN (fun kV doc pm an cdv ct us hl => by match us, hl with | [a], _ => rfl), .nil⟩
theorem fo_are_barred (h : Hd w K mg) {fd : FuncData} (F : FunD K "are_barred" "are_barred" (defArgs (top 29)) (defBody (top 29)) (defScope (top 29)) [] [] (He.fAd K ("are_barred", none)) fd) : FnOk P w K mg base (L2.CX P w) 2 (He.fAd K ("are_barred", none)) fd ["thing", "names"] sp_are_barred :=
  F.ok (k := 1) sc_are_barred (by intro vs H Q E e; first | (obtain ⟨rfl, _⟩ := e; rfl) | (obtain ⟨_, rfl, _⟩ := e; rfl) | (obtain ⟨_, _, rfl, _⟩ := e; rfl) | (obtain ⟨_, _, _, rfl, _⟩ := e; rfl) | (obtain ⟨_, _, _, _, rfl, _⟩ := e; rfl) | (obtain ⟨_, _, _, _, _, rfl, _⟩ := e; rfl) | (obtain ⟨_, _, _, _, _, _, rfl, _⟩ := e; rfl) | (obtain ⟨_, _, _, _, _, _, _, rfl, _⟩ := e; rfl) | (obtain ⟨_, _, _, _, _, _, _, _, rfl, _⟩ := e; rfl) | (obtain ⟨_, _, _, _, _, _, _, _, _, rfl, _⟩ := e; rfl) | (obtain ⟨_, _, _, _, _, _, _, _, _, _, rfl, _⟩ := e; rfl) | (obtain ⟨_, _, _, _, _, _, _, _, _, _, _, rfl, _⟩ := e; rfl) | (obtain ⟨_, _, _, _, _, _, _, _, _, _, _, _, rfl, _⟩ := e; rfl)) fun cdv A outer s H vs Q E hr e => ⟨_, (dv_are_barred h.T hr (G_is_name := bG_is_name h)).nox, by first | exact rd_are_barred h.T e | exact rd_are_barred e | exact rd_are_barred h.X e⟩
theorem bG_are_barred (h : Hd w K mg) : DefOk P w K mg base 2 "are_barred" ["thing", "names"] [] sp_are_barred := by
  obtain ⟨fd, F⟩ := h.f_are_barred
  exact ⟨_, fd, [], fo_are_barred h F, h.g_are_barred, F.kp, F.bindsN (fun kV doc pm an cdv ct us hl => by match us, hl with | [a, b], _ => rfl), .nil⟩
theorem fo_l_draw (h : Hd w K mg) {fd : FuncData} (F : FunD K "_law_draw" "_law_draw" (defArgs (top 40)) (defBody (top 40)) (defScope (top 40)) [] [] (He.fAd K ("_law_draw", none)) fd) : FnOk P w K mg base (L2.CX P w) 2 (He.fAd K ("_law_draw", none)) fd ["_law_m", "_law_many"] sp_l_draw :=
  F.ok (k := 1) sc_l_draw (by intro vs H Q E e; first | (obtain ⟨rfl, _⟩ := e; rfl) | (obtain ⟨_, rfl, _⟩ := e; rfl) | (obtain ⟨_, _, rfl, _⟩ := e; rfl) | (obtain ⟨_, _, _, rfl, _⟩ := e; rfl) | (obtain ⟨_, _, _, _, rfl, _⟩ := e; rfl) | (obtain ⟨_, _, _, _, _, rfl, _⟩ := e; rfl) | (obtain ⟨_, _, _, _, _, _, rfl, _⟩ := e; rfl) | (obtain ⟨_, _, _, _, _, _, _, rfl, _⟩ := e; rfl) | (obtain ⟨_, _, _, _, _, _, _, _, rfl, _⟩ := e; rfl) | (obtain ⟨_, _, _, _, _, _, _, _, _, rfl, _⟩ := e; rfl) | (obtain ⟨_, _, _, _, _, _, _, _, _, _, rfl, _⟩ := e; rfl) | (obtain ⟨_, _, _, _, _, _, _, _, _, _, _, rfl, _⟩ := e; rfl) | (obtain ⟨_, _, _, _, _, _, _, _, _, _, _, _, rfl, _⟩ := e; rfl)) fun cdv A outer s H vs Q E hr e => ⟨_, (dv_l_draw h.T hr (G_l_mixed := bG_l_mixed h)).nox, by first | exact rd_l_draw h.T e | exact rd_l_draw e | exact rd_l_draw h.X e⟩
theorem bG_l_draw (h : Hd w K mg) : DefOk P w K mg base 2 "_law_draw" ["_law_m", "_law_many"] [] sp_l_draw := by
  obtain ⟨fd, F⟩ := h.f_l_draw
  exact ⟨_, fd, [], fo_l_draw h F, h.g_l_draw, F.kp, F.bindsN (fun kV doc pm an cdv ct us hl => by match us, hl with | [a, b], _ => rfl), .nil⟩
theorem fo_l_begun (h : Hd w K mg) {fd : FuncData} (F : FunD K "_law_begun" "_law_begun" (defArgs (top 41)) (defBody (top 41)) (defScope (top 41)) [] [] (He.fAd K ("_law_begun", none)) fd) : FnOk P w K mg base (L2.CX P w) 2 (He.fAd K ("_law_begun", none)) fd ["_law_script"] (sp_l_begun K) :=
  F.ok (k := 1) sc_l_begun (by intro vs H Q E e; first | (obtain ⟨rfl, _⟩ := e; rfl) | (obtain ⟨_, rfl, _⟩ := e; rfl) | (obtain ⟨_, _, rfl, _⟩ := e; rfl) | (obtain ⟨_, _, _, rfl, _⟩ := e; rfl) | (obtain ⟨_, _, _, _, rfl, _⟩ := e; rfl) | (obtain ⟨_, _, _, _, _, rfl, _⟩ := e; rfl) | (obtain ⟨_, _, _, _, _, _, rfl, _⟩ := e; rfl) | (obtain ⟨_, _, _, _, _, _, _, rfl, _⟩ := e; rfl) | (obtain ⟨_, _, _, _, _, _, _, _, rfl, _⟩ := e; rfl) | (obtain ⟨_, _, _, _, _, _, _, _, _, rfl, _⟩ := e; rfl) | (obtain ⟨_, _, _, _, _, _, _, _, _, _, rfl, _⟩ := e; rfl) | (obtain ⟨_, _, _, _, _, _, _, _, _, _, _, rfl, _⟩ := e; rfl) | (obtain ⟨_, _, _, _, _, _, _, _, _, _, _, _, rfl, _⟩ := e; rfl)) fun cdv A outer s H vs Q E hr e => ⟨_, (dv_l_begun h.T hr (G_l_folded := bG_l_folded h)).nox, by first | exact rd_l_begun h.T e | exact rd_l_begun e | exact rd_l_begun h.X e⟩
theorem bG_l_begun (h : Hd w K mg) : DefOk P w K mg base 2 "_law_begun" ["_law_script"] [] (sp_l_begun K) := by
  obtain ⟨fd, F⟩ := h.f_l_begun
  exact ⟨_, fd, [], fo_l_begun h F, h.g_l_begun, F.kp, F.bindsN (fun kV doc pm an cdv ct us hl => by match us, hl with | [a], _ => rfl), .nil⟩
theorem fo_l_sort_rows (h : Hd w K mg) {fd : FuncData} (F : FunD K "_law_sort_rows" "_law_sort_rows" (defArgs (top 52)) (defBody (top 52)) (defScope (top 52)) [] [] (He.fAd K ("_law_sort_rows", none)) fd) : FnOk P w K mg base (L2.CX P w) 2 (He.fAd K ("_law_sort_rows", none)) fd ["_law_plain"] sp_l_sort_rows :=
  F.ok (k := 1) sc_l_sort_rows (by intro vs H Q E e; first | (obtain ⟨rfl, _⟩ := e; rfl) | (obtain ⟨_, rfl, _⟩ := e; rfl) | (obtain ⟨_, _, rfl, _⟩ := e; rfl) | (obtain ⟨_, _, _, rfl, _⟩ := e; rfl) | (obtain ⟨_, _, _, _, rfl, _⟩ := e; rfl) | (obtain ⟨_, _, _, _, _, rfl, _⟩ := e; rfl) | (obtain ⟨_, _, _, _, _, _, rfl, _⟩ := e; rfl) | (obtain ⟨_, _, _, _, _, _, _, rfl, _⟩ := e; rfl) | (obtain ⟨_, _, _, _, _, _, _, _, rfl, _⟩ := e; rfl) | (obtain ⟨_, _, _, _, _, _, _, _, _, rfl, _⟩ := e; rfl) | (obtain ⟨_, _, _, _, _, _, _, _, _, _, rfl, _⟩ := e; rfl) | (obtain ⟨_, _, _, _, _, _, _, _, _, _, _, rfl, _⟩ := e; rfl) | (obtain ⟨_, _, _, _, _, _, _, _, _, _, _, _, rfl, _⟩ := e; rfl)) fun cdv A outer s H vs Q E hr e => ⟨_, (dv_l_sort_rows h.T hr (G_l_text := bG_l_text h)).nox, by first | exact rd_l_sort_rows h.T e | exact rd_l_sort_rows e | exact rd_l_sort_rows h.X e⟩
theorem bG_l_sort_rows (h : Hd w K mg) : DefOk P w K mg base 2 "_law_sort_rows" ["_law_plain"] [] sp_l_sort_rows := by
  obtain ⟨fd, F⟩ := h.f_l_sort_rows
  exact ⟨_, fd, [], fo_l_sort_rows h F, h.g_l_sort_rows, F.kp, F.bindsN (fun kV doc pm an cdv ct us hl => by match us, hl with | [a], _ => rfl), .nil⟩
theorem fo_l_promise_in (h : Hd w K mg) {fd : FuncData} (F : FunD K "_law_promise_in" "_law_promise_in" (defArgs (top 54)) (defBody (top 54)) (defScope (top 54)) [] [] (He.fAd K ("_law_promise_in", none)) fd) : FnOk P w K mg base (L2.CX P w) 2 (He.fAd K ("_law_promise_in", none)) fd ["_law_words", "_law_at"] sp_l_promise_in :=
  F.ok (k := 1) sc_l_promise_in (by intro vs H Q E e; first | (obtain ⟨rfl, _⟩ := e; rfl) | (obtain ⟨_, rfl, _⟩ := e; rfl) | (obtain ⟨_, _, rfl, _⟩ := e; rfl) | (obtain ⟨_, _, _, rfl, _⟩ := e; rfl) | (obtain ⟨_, _, _, _, rfl, _⟩ := e; rfl) | (obtain ⟨_, _, _, _, _, rfl, _⟩ := e; rfl) | (obtain ⟨_, _, _, _, _, _, rfl, _⟩ := e; rfl) | (obtain ⟨_, _, _, _, _, _, _, rfl, _⟩ := e; rfl) | (obtain ⟨_, _, _, _, _, _, _, _, rfl, _⟩ := e; rfl) | (obtain ⟨_, _, _, _, _, _, _, _, _, rfl, _⟩ := e; rfl) | (obtain ⟨_, _, _, _, _, _, _, _, _, _, rfl, _⟩ := e; rfl) | (obtain ⟨_, _, _, _, _, _, _, _, _, _, _, rfl, _⟩ := e; rfl) | (obtain ⟨_, _, _, _, _, _, _, _, _, _, _, _, rfl, _⟩ := e; rfl)) fun cdv A outer s H vs Q E hr e => ⟨_, (dv_l_promise_in h.T hr (G_l_number_in := bG_l_number_in h)).nox, by first | exact rd_l_promise_in h.T e | exact rd_l_promise_in e | exact rd_l_promise_in h.X e⟩
theorem bG_l_promise_in (h : Hd w K mg) : DefOk P w K mg base 2 "_law_promise_in" ["_law_words", "_law_at"] [] sp_l_promise_in := by
  obtain ⟨fd, F⟩ := h.f_l_promise_in
  exact ⟨_, fd, [], fo_l_promise_in h F, h.g_l_promise_in, F.kp, F.bindsN (fun kV doc pm an cdv ct us hl => by match us, hl with | [a, b], _ => rfl), .nil⟩
theorem fo_need_promise (h : Hd w K mg) {fd : FuncData} (F : FunD K "need_promise" "need_promise" (defArgs (top 23)) (defBody (top 23)) (defScope (top 23)) [] [] (He.fAd K ("need_promise", none)) fd) : FnOk P w K mg base (L2.CX P w) 3 (He.fAd K ("need_promise", none)) fd ["thing"] (sp_need_promise K) :=
  F.ok (k := 2) sc_need_promise (by intro vs H Q E e; first | (obtain ⟨rfl, _⟩ := e; rfl) | (obtain ⟨_, rfl, _⟩ := e; rfl) | (obtain ⟨_, _, rfl, _⟩ := e; rfl) | (obtain ⟨_, _, _, rfl, _⟩ := e; rfl) | (obtain ⟨_, _, _, _, rfl, _⟩ := e; rfl) | (obtain ⟨_, _, _, _, _, rfl, _⟩ := e; rfl) | (obtain ⟨_, _, _, _, _, _, rfl, _⟩ := e; rfl) | (obtain ⟨_, _, _, _, _, _, _, rfl, _⟩ := e; rfl) | (obtain ⟨_, _, _, _, _, _, _, _, rfl, _⟩ := e; rfl) | (obtain ⟨_, _, _, _, _, _, _, _, _, rfl, _⟩ := e; rfl) | (obtain ⟨_, _, _, _, _, _, _, _, _, _, rfl, _⟩ := e; rfl) | (obtain ⟨_, _, _, _, _, _, _, _, _, _, _, rfl, _⟩ := e; rfl) | (obtain ⟨_, _, _, _, _, _, _, _, _, _, _, _, rfl, _⟩ := e; rfl)) fun cdv A outer s H vs Q E hr e => ⟨_, (dv_need_promise h.T hr ).nox, by first | exact rd_need_promise h.T e | exact rd_need_promise e | exact rd_need_promise h.X e⟩
theorem bG_need_promise (h : Hd w K mg) : DefOk P w K mg base 3 "need_promise" ["thing"] [] (sp_need_promise K) := by
  obtain ⟨fd, F⟩ := h.f_need_promise
  exact ⟨_, fd, [], fo_need_promise h F, h.g_need_promise, F.kp, F.bindsN (fun kV doc pm an cdv ct us hl => by match us, hl with | [a], _ => rfl), .nil⟩
theorem fo_are_parts (h : Hd w K mg) {fd : FuncData} (F : FunD K "are_parts" "are_parts" (defArgs (top 28)) (defBody (top 28)) (defScope (top 28)) [] [] (He.fAd K ("are_parts", none)) fd) : FnOk P w K mg base (L2.CX P w) 3 (He.fAd K ("are_parts", none)) fd ["thing"] (sp_are_parts K) :=
  F.ok (k := 2) sc_are_parts (by intro vs H Q E e; first | (obtain ⟨rfl, _⟩ := e; rfl) | (obtain ⟨_, rfl, _⟩ := e; rfl) | (obtain ⟨_, _, rfl, _⟩ := e; rfl) | (obtain ⟨_, _, _, rfl, _⟩ := e; rfl) | (obtain ⟨_, _, _, _, rfl, _⟩ := e; rfl) | (obtain ⟨_, _, _, _, _, rfl, _⟩ := e; rfl) | (obtain ⟨_, _, _, _, _, _, rfl, _⟩ := e; rfl) | (obtain ⟨_, _, _, _, _, _, _, rfl, _⟩ := e; rfl) | (obtain ⟨_, _, _, _, _, _, _, _, rfl, _⟩ := e; rfl) | (obtain ⟨_, _, _, _, _, _, _, _, _, rfl, _⟩ := e; rfl) | (obtain ⟨_, _, _, _, _, _, _, _, _, _, rfl, _⟩ := e; rfl) | (obtain ⟨_, _, _, _, _, _, _, _, _, _, _, rfl, _⟩ := e; rfl) | (obtain ⟨_, _, _, _, _, _, _, _, _, _, _, _, rfl, _⟩ := e; rfl)) fun cdv A outer s H vs Q E hr e => ⟨_, (dv_are_parts h.T hr (G_is_row := bG_is_row h)).nox, by first | exact rd_are_parts h.T e | exact rd_are_parts e | exact rd_are_parts h.X e⟩
theorem bG_are_parts (h : Hd w K mg) : DefOk P w K mg base 3 "are_parts" ["thing"] [] (sp_are_parts K) := by
  obtain ⟨fd, F⟩ := h.f_are_parts
  exact ⟨_, fd, [], fo_are_parts h F, h.g_are_parts, F.kp, F.bindsN (fun kV doc pm an cdv ct us hl => by match us, hl with | [a], _ => rfl), .nil⟩
theorem fo_Promise_init (h : Hd w K mg) {fd : FuncData} (F : FunD K "__init__" "Promise.__init__" (defArgs (inClass (top 22) 0)) (defBody (inClass (top 22) 0)) (defScope (inClass (top 22) 0)) [.non, .non, .non] [] (He.fAd K ("Promise", some "__init__")) fd) : FnOk P w K mg base (L2.CX P w) 3 (He.fAd K ("Promise", some "__init__")) fd ["self", "days", "miles", "turns"] (sp_Promise_init K) :=
  F.ok (k := 2) sc_Promise_init (by intro vs H Q E e; first | (obtain ⟨rfl, _⟩ := e; rfl) | (obtain ⟨_, rfl, _⟩ := e; rfl) | (obtain ⟨_, _, rfl, _⟩ := e; rfl) | (obtain ⟨_, _, _, rfl, _⟩ := e; rfl) | (obtain ⟨_, _, _, _, rfl, _⟩ := e; rfl) | (obtain ⟨_, _, _, _, _, rfl, _⟩ := e; rfl) | (obtain ⟨_, _, _, _, _, _, rfl, _⟩ := e; rfl) | (obtain ⟨_, _, _, _, _, _, _, rfl, _⟩ := e; rfl) | (obtain ⟨_, _, _, _, _, _, _, _, rfl, _⟩ := e; rfl) | (obtain ⟨_, _, _, _, _, _, _, _, _, rfl, _⟩ := e; rfl) | (obtain ⟨_, _, _, _, _, _, _, _, _, _, rfl, _⟩ := e; rfl) | (obtain ⟨_, _, _, _, _, _, _, _, _, _, _, rfl, _⟩ := e; rfl) | (obtain ⟨_, _, _, _, _, _, _, _, _, _, _, _, rfl, _⟩ := e; rfl)) fun cdv A outer s H vs Q E hr e => ⟨_, (dv_Promise_init h.T hr (G_is_whole_kw := bG_is_whole_kw h)).nox, by first | exact rd_Promise_init h.T e | exact rd_Promise_init e | exact rd_Promise_init h.X e⟩
theorem bK_Promise_init_kw (h : Hd w K mg) : MakKw P w K mg base 3 "Promise" (He.ga K "Promise") ["self", "days", "miles", "turns"] 0 ["days", "miles", "turns"] (fun vs zs => vs ++ zs) (sp_Promise_init K) := by
  obtain ⟨fd, F⟩ := h.f_Promise_init
  obtain ⟨its, kb⟩ := F.kbindsD (ps := ["self", "days", "miles", "turns"]) 1 ["days", "miles", "turns"] (fun us its ws => us ++ ws) (by simp) (fun r1 _ r3 => vals_app r1 r3) (fun T kV doc pm an cdv ct us its ws l1 l2 l3 => by match us, l1, its, l2, ws, l3 with | [a], _, [b, c, d], _, [z0, z1, z2], _ => exact ⟨_, rfl, rfl⟩)
  exact ⟨_, fd, _, fo_Promise_init h F, h.k_Promise, h.T.g_Promise, kb⟩
theorem bK_Promise_init_1 (h : Hd w K mg) : MakOk P w K mg base 3 "Promise" (He.ga K "Promise") ["self", "days", "miles", "turns"] [.non, .non, .non] (sp_Promise_init K) := by
  obtain ⟨fd, F⟩ := h.f_Promise_init
  obtain ⟨ds, vd, kb⟩ := F.binds1 (ps := ["self", "days", "miles", "turns"]) 1 0 (by simp) (by rfl) (fun T kV doc pm an cdv ct us its l1 l2 => by match us, l1, its, l2 with | [a], _, [z0, z1, z2], _ => exact ⟨_, rfl, rfl⟩)
  exact ⟨_, fd, ds, fo_Promise_init h F, h.k_Promise, h.T.g_Promise, kb, vd⟩
theorem fo_l_called (h : Hd w K mg) {fd : FuncData} (F : FunD K "_law_called" "_law_called" (defArgs (top 42)) (defBody (top 42)) (defScope (top 42)) [] [] (He.fAd K ("_law_called", none)) fd) : FnOk P w K mg base (L2.CX P w) 3 (He.fAd K ("_law_called", none)) fd ["_law_m", "_law_many"] sp_l_called :=
  F.ok (k := 2) sc_l_called (by intro vs H Q E e; first | (obtain ⟨rfl, _⟩ := e; rfl) | (obtain ⟨_, rfl, _⟩ := e; rfl) | (obtain ⟨_, _, rfl, _⟩ := e; rfl) | (obtain ⟨_, _, _, rfl, _⟩ := e; rfl) | (obtain ⟨_, _, _, _, rfl, _⟩ := e; rfl) | (obtain ⟨_, _, _, _, _, rfl, _⟩ := e; rfl) | (obtain ⟨_, _, _, _, _, _, rfl, _⟩ := e; rfl) | (obtain ⟨_, _, _, _, _, _, _, rfl, _⟩ := e; rfl) | (obtain ⟨_, _, _, _, _, _, _, _, rfl, _⟩ := e; rfl) | (obtain ⟨_, _, _, _, _, _, _, _, _, rfl, _⟩ := e; rfl) | (obtain ⟨_, _, _, _, _, _, _, _, _, _, rfl, _⟩ := e; rfl) | (obtain ⟨_, _, _, _, _, _, _, _, _, _, _, rfl, _⟩ := e; rfl) | (obtain ⟨_, _, _, _, _, _, _, _, _, _, _, _, rfl, _⟩ := e; rfl)) fun cdv A outer s H vs Q E hr e => ⟨_, (dv_l_called h.T hr (G_l_draw := bG_l_draw h)).nox, by first | exact rd_l_called h.T e | exact rd_l_called e | exact rd_l_called h.X e⟩
theorem bG_l_called (h : Hd w K mg) : DefOk P w K mg base 3 "_law_called" ["_law_m", "_law_many"] [] sp_l_called := by
  obtain ⟨fd, F⟩ := h.f_l_called
  exact ⟨_, fd, [], fo_l_called h F, h.g_l_called, F.kp, F.bindsN (fun kV doc pm an cdv ct us hl => by match us, hl with | [a, b], _ => rfl), .nil⟩
theorem fo_l_limit (h : Hd w K mg) {fd : FuncData} (F : FunD K "_law_limit" "_law_limit" (defArgs (top 43)) (defBody (top 43)) (defScope (top 43)) [] [] (He.fAd K ("_law_limit", none)) fd) : FnOk P w K mg base (L2.CX P w) 3 (He.fAd K ("_law_limit", none)) fd ["_law_m", "_law_top"] sp_l_limit :=
  F.ok (k := 2) sc_l_limit (by intro vs H Q E e; first | (obtain ⟨rfl, _⟩ := e; rfl) | (obtain ⟨_, rfl, _⟩ := e; rfl) | (obtain ⟨_, _, rfl, _⟩ := e; rfl) | (obtain ⟨_, _, _, rfl, _⟩ := e; rfl) | (obtain ⟨_, _, _, _, rfl, _⟩ := e; rfl) | (obtain ⟨_, _, _, _, _, rfl, _⟩ := e; rfl) | (obtain ⟨_, _, _, _, _, _, rfl, _⟩ := e; rfl) | (obtain ⟨_, _, _, _, _, _, _, rfl, _⟩ := e; rfl) | (obtain ⟨_, _, _, _, _, _, _, _, rfl, _⟩ := e; rfl) | (obtain ⟨_, _, _, _, _, _, _, _, _, rfl, _⟩ := e; rfl) | (obtain ⟨_, _, _, _, _, _, _, _, _, _, rfl, _⟩ := e; rfl) | (obtain ⟨_, _, _, _, _, _, _, _, _, _, _, rfl, _⟩ := e; rfl) | (obtain ⟨_, _, _, _, _, _, _, _, _, _, _, _, rfl, _⟩ := e; rfl)) fun cdv A outer s H vs Q E hr e => ⟨_, (dv_l_limit h.T hr (G_l_draw := bG_l_draw h)).nox, by first | exact rd_l_limit h.T e | exact rd_l_limit e | exact rd_l_limit h.X e⟩
theorem bG_l_limit (h : Hd w K mg) : DefOk P w K mg base 3 "_law_limit" ["_law_m", "_law_top"] [] sp_l_limit := by
  obtain ⟨fd, F⟩ := h.f_l_limit
  exact ⟨_, fd, [], fo_l_limit h F, h.g_l_limit, F.kp, F.bindsN (fun kV doc pm an cdv ct us hl => by match us, hl with | [a, b], _ => rfl), .nil⟩
theorem fo_l_bent_words (h : Hd w K mg) {fd : FuncData} (F : FunD K "_law_bent_words" "_law_bent_words" (defArgs (top 55)) (defBody (top 55)) (defScope (top 55)) [] [] (He.fAd K ("_law_bent_words", none)) fd) : FnOk P w K mg base (L2.CX P w) 3 (He.fAd K ("_law_bent_words", none)) fd ["_law_m", "_law_words", "_law_some"] sp_l_bent_words :=
  F.ok (k := 2) sc_l_bent_words (by intro vs H Q E e; first | (obtain ⟨rfl, _⟩ := e; rfl) | (obtain ⟨_, rfl, _⟩ := e; rfl) | (obtain ⟨_, _, rfl, _⟩ := e; rfl) | (obtain ⟨_, _, _, rfl, _⟩ := e; rfl) | (obtain ⟨_, _, _, _, rfl, _⟩ := e; rfl) | (obtain ⟨_, _, _, _, _, rfl, _⟩ := e; rfl) | (obtain ⟨_, _, _, _, _, _, rfl, _⟩ := e; rfl) | (obtain ⟨_, _, _, _, _, _, _, rfl, _⟩ := e; rfl) | (obtain ⟨_, _, _, _, _, _, _, _, rfl, _⟩ := e; rfl) | (obtain ⟨_, _, _, _, _, _, _, _, _, rfl, _⟩ := e; rfl) | (obtain ⟨_, _, _, _, _, _, _, _, _, _, rfl, _⟩ := e; rfl) | (obtain ⟨_, _, _, _, _, _, _, _, _, _, _, rfl, _⟩ := e; rfl) | (obtain ⟨_, _, _, _, _, _, _, _, _, _, _, _, rfl, _⟩ := e; rfl)) fun cdv A outer s H vs Q E hr e => ⟨_, (dv_l_bent_words h.T hr (G_l_draw := bG_l_draw h)).nox, by first | exact rd_l_bent_words h.T e | exact rd_l_bent_words e | exact rd_l_bent_words h.X e⟩
theorem bG_l_bent_words (h : Hd w K mg) : DefOk P w K mg base 3 "_law_bent_words" ["_law_m", "_law_words", "_law_some"] [] sp_l_bent_words := by
  obtain ⟨fd, F⟩ := h.f_l_bent_words
  exact ⟨_, fd, [], fo_l_bent_words h F, h.g_l_bent_words, F.kp, F.bindsN (fun kV doc pm an cdv ct us hl => by match us, hl with | [a, b, c], _ => rfl), .nil⟩
theorem fo_l_part_in (h : Hd w K mg) {fd : FuncData} (F : FunD K "_law_part_in" "_law_part_in" (defArgs (top 58)) (defBody (top 58)) (defScope (top 58)) [] [] (He.fAd K ("_law_part_in", none)) fd) : FnOk P w K mg base (L2.CX P w) 3 (He.fAd K ("_law_part_in", none)) fd ["_law_found", "_law_words", "_law_name"] sp_l_part_in :=
  F.ok (k := 2) sc_l_part_in (by intro vs H Q E e; first | (obtain ⟨rfl, _⟩ := e; rfl) | (obtain ⟨_, rfl, _⟩ := e; rfl) | (obtain ⟨_, _, rfl, _⟩ := e; rfl) | (obtain ⟨_, _, _, rfl, _⟩ := e; rfl) | (obtain ⟨_, _, _, _, rfl, _⟩ := e; rfl) | (obtain ⟨_, _, _, _, _, rfl, _⟩ := e; rfl) | (obtain ⟨_, _, _, _, _, _, rfl, _⟩ := e; rfl) | (obtain ⟨_, _, _, _, _, _, _, rfl, _⟩ := e; rfl) | (obtain ⟨_, _, _, _, _, _, _, _, rfl, _⟩ := e; rfl) | (obtain ⟨_, _, _, _, _, _, _, _, _, rfl, _⟩ := e; rfl) | (obtain ⟨_, _, _, _, _, _, _, _, _, _, rfl, _⟩ := e; rfl) | (obtain ⟨_, _, _, _, _, _, _, _, _, _, _, rfl, _⟩ := e; rfl) | (obtain ⟨_, _, _, _, _, _, _, _, _, _, _, _, rfl, _⟩ := e; rfl)) fun cdv A outer s H vs Q E hr e => ⟨_, (dv_l_part_in h.T hr (G_l_promise_in := bG_l_promise_in h)).nox, by first | exact rd_l_part_in h.T e | exact rd_l_part_in e | exact rd_l_part_in h.X e⟩
theorem bG_l_part_in (h : Hd w K mg) : DefOk P w K mg base 3 "_law_part_in" ["_law_found", "_law_words", "_law_name"] [] sp_l_part_in := by
  obtain ⟨fd, F⟩ := h.f_l_part_in
  exact ⟨_, fd, [], fo_l_part_in h F, h.g_l_part_in, F.kp, F.bindsN (fun kV doc pm an cdv ct us hl => by match us, hl with | [a, b, c], _ => rfl), .nil⟩
theorem fo_Sort_init (h : Hd w K mg) {fd : FuncData} (F : FunD K "__init__" "Sort.__init__" (defArgs (inClass (top 30) 0)) (defBody (inClass (top 30) 0)) (defScope (inClass (top 30) 0)) [.non, .non] [] (He.fAd K ("Sort", some "__init__")) fd) : FnOk P w K mg base (L2.CX P w) 4 (He.fAd K ("Sort", some "__init__")) fd ["self", "name", "promise", "parts", "barred"] (sp_Sort_init K) :=
  F.ok (k := 3) sc_Sort_init (by intro vs H Q E e; first | (obtain ⟨rfl, _⟩ := e; rfl) | (obtain ⟨_, rfl, _⟩ := e; rfl) | (obtain ⟨_, _, rfl, _⟩ := e; rfl) | (obtain ⟨_, _, _, rfl, _⟩ := e; rfl) | (obtain ⟨_, _, _, _, rfl, _⟩ := e; rfl) | (obtain ⟨_, _, _, _, _, rfl, _⟩ := e; rfl) | (obtain ⟨_, _, _, _, _, _, rfl, _⟩ := e; rfl) | (obtain ⟨_, _, _, _, _, _, _, rfl, _⟩ := e; rfl) | (obtain ⟨_, _, _, _, _, _, _, _, rfl, _⟩ := e; rfl) | (obtain ⟨_, _, _, _, _, _, _, _, _, rfl, _⟩ := e; rfl) | (obtain ⟨_, _, _, _, _, _, _, _, _, _, rfl, _⟩ := e; rfl) | (obtain ⟨_, _, _, _, _, _, _, _, _, _, _, rfl, _⟩ := e; rfl) | (obtain ⟨_, _, _, _, _, _, _, _, _, _, _, _, rfl, _⟩ := e; rfl)) fun cdv A outer s H vs Q E hr e => ⟨_, (dv_Sort_init h.T hr (G_is_name := bG_is_name h) (G_need_promise := bG_need_promise h) (G_are_parts := bG_are_parts h) (G_are_barred := bG_are_barred h)).nox, by first | exact rd_Sort_init h.T e | exact rd_Sort_init e | exact rd_Sort_init h.X e⟩
theorem bK_Sort_init_kw (h : Hd w K mg) : MakKw P w K mg base 4 "Sort" (He.ga K "Sort") ["self", "name", "promise", "parts", "barred"] 2 ["parts", "barred"] (fun vs zs => vs ++ zs) (sp_Sort_init K) := by
  obtain ⟨fd, F⟩ := h.f_Sort_init
  obtain ⟨its, kb⟩ := F.kbindsD (ps := ["self", "name", "promise", "parts", "barred"]) 3 ["parts", "barred"] (fun us its ws => us ++ ws) (by simp) (fun r1 _ r3 => vals_app r1 r3) (fun T kV doc pm an cdv ct us its ws l1 l2 l3 => by match us, l1, its, l2, ws, l3 with | [a, b, c], _, [d, e], _, [z0, z1], _ => exact ⟨_, rfl, rfl⟩)
  exact ⟨_, fd, _, fo_Sort_init h F, h.k_Sort, h.T.g_Sort, kb⟩
theorem fo_l_limits (h : Hd w K mg) {fd : FuncData} (F : FunD K "_law_limits" "_law_limits" (defArgs (top 44)) (defBody (top 44)) (defScope (top 44)) [] [] (He.fAd K ("_law_limits", none)) fd) : FnOk P w K mg base (L2.CX P w) 4 (He.fAd K ("_law_limits", none)) fd ["_law_m"] sp_l_limits :=
  F.ok (k := 3) sc_l_limits (by intro vs H Q E e; first | (obtain ⟨rfl, _⟩ := e; rfl) | (obtain ⟨_, rfl, _⟩ := e; rfl) | (obtain ⟨_, _, rfl, _⟩ := e; rfl) | (obtain ⟨_, _, _, rfl, _⟩ := e; rfl) | (obtain ⟨_, _, _, _, rfl, _⟩ := e; rfl) | (obtain ⟨_, _, _, _, _, rfl, _⟩ := e; rfl) | (obtain ⟨_, _, _, _, _, _, rfl, _⟩ := e; rfl) | (obtain ⟨_, _, _, _, _, _, _, rfl, _⟩ := e; rfl) | (obtain ⟨_, _, _, _, _, _, _, _, rfl, _⟩ := e; rfl) | (obtain ⟨_, _, _, _, _, _, _, _, _, rfl, _⟩ := e; rfl) | (obtain ⟨_, _, _, _, _, _, _, _, _, _, rfl, _⟩ := e; rfl) | (obtain ⟨_, _, _, _, _, _, _, _, _, _, _, rfl, _⟩ := e; rfl) | (obtain ⟨_, _, _, _, _, _, _, _, _, _, _, _, rfl, _⟩ := e; rfl)) fun cdv A outer s H vs Q E hr e => ⟨_, (dv_l_limits h.T hr (G_l_limit := bG_l_limit h)).nox, by first | exact rd_l_limits h.T e | exact rd_l_limits e | exact rd_l_limits h.X e⟩
theorem bG_l_limits (h : Hd w K mg) : DefOk P w K mg base 4 "_law_limits" ["_law_m"] [] sp_l_limits := by
  obtain ⟨fd, F⟩ := h.f_l_limits
  exact ⟨_, fd, [], fo_l_limits h F, h.g_l_limits, F.kp, F.bindsN (fun kV doc pm an cdv ct us hl => by match us, hl with | [a], _ => rfl), .nil⟩
theorem fo_l_row_in (h : Hd w K mg) {fd : FuncData} (F : FunD K "_law_row_in" "_law_row_in" (defArgs (top 57)) (defBody (top 57)) (defScope (top 57)) [] [] (He.fAd K ("_law_row_in", none)) fd) : FnOk P w K mg base (L2.CX P w) 4 (He.fAd K ("_law_row_in", none)) fd ["_law_found", "_law_words"] sp_l_row_in :=
  F.ok (k := 3) sc_l_row_in (by intro vs H Q E e; first | (obtain ⟨rfl, _⟩ := e; rfl) | (obtain ⟨_, rfl, _⟩ := e; rfl) | (obtain ⟨_, _, rfl, _⟩ := e; rfl) | (obtain ⟨_, _, _, rfl, _⟩ := e; rfl) | (obtain ⟨_, _, _, _, rfl, _⟩ := e; rfl) | (obtain ⟨_, _, _, _, _, rfl, _⟩ := e; rfl) | (obtain ⟨_, _, _, _, _, _, rfl, _⟩ := e; rfl) | (obtain ⟨_, _, _, _, _, _, _, rfl, _⟩ := e; rfl) | (obtain ⟨_, _, _, _, _, _, _, _, rfl, _⟩ := e; rfl) | (obtain ⟨_, _, _, _, _, _, _, _, _, rfl, _⟩ := e; rfl) | (obtain ⟨_, _, _, _, _, _, _, _, _, _, rfl, _⟩ := e; rfl) | (obtain ⟨_, _, _, _, _, _, _, _, _, _, _, rfl, _⟩ := e; rfl) | (obtain ⟨_, _, _, _, _, _, _, _, _, _, _, _, rfl, _⟩ := e; rfl)) fun cdv A outer s H vs Q E hr e => ⟨_, (dv_l_row_in h.T hr (G_l_is_name := bG_l_is_name h) (G_l_promise_in := bG_l_promise_in h) (G_l_part_in := bG_l_part_in h)).nox, by first | exact rd_l_row_in h.T e | exact rd_l_row_in e | exact rd_l_row_in h.X e⟩
theorem bG_l_row_in (h : Hd w K mg) : DefOk P w K mg base 4 "_law_row_in" ["_law_found", "_law_words"] [] sp_l_row_in := by
  obtain ⟨fd, F⟩ := h.f_l_row_in
  exact ⟨_, fd, [], fo_l_row_in h F, h.g_l_row_in, F.kp, F.bindsN (fun kV doc pm an cdv ct us hl => by match us, hl with | [a, b], _ => rfl), .nil⟩
theorem fo_l_bent_rows (h : Hd w K mg) {fd : FuncData} (F : FunD K "_law_bent_rows" "_law_bent_rows" (defArgs (top 62)) (defBody (top 62)) (defScope (top 62)) [] [] (He.fAd K ("_law_bent_rows", none)) fd) : FnOk P w K mg base (L2.CX P w) 4 (He.fAd K ("_law_bent_rows", none)) fd ["_law_m", "_law_rows"] sp_l_bent_rows :=
  F.ok (k := 3) sc_l_bent_rows (by intro vs H Q E e; first | (obtain ⟨rfl, _⟩ := e; rfl) | (obtain ⟨_, rfl, _⟩ := e; rfl) | (obtain ⟨_, _, rfl, _⟩ := e; rfl) | (obtain ⟨_, _, _, rfl, _⟩ := e; rfl) | (obtain ⟨_, _, _, _, rfl, _⟩ := e; rfl) | (obtain ⟨_, _, _, _, _, rfl, _⟩ := e; rfl) | (obtain ⟨_, _, _, _, _, _, rfl, _⟩ := e; rfl) | (obtain ⟨_, _, _, _, _, _, _, rfl, _⟩ := e; rfl) | (obtain ⟨_, _, _, _, _, _, _, _, rfl, _⟩ := e; rfl) | (obtain ⟨_, _, _, _, _, _, _, _, _, rfl, _⟩ := e; rfl) | (obtain ⟨_, _, _, _, _, _, _, _, _, _, rfl, _⟩ := e; rfl) | (obtain ⟨_, _, _, _, _, _, _, _, _, _, _, rfl, _⟩ := e; rfl) | (obtain ⟨_, _, _, _, _, _, _, _, _, _, _, _, rfl, _⟩ := e; rfl)) fun cdv A outer s H vs Q E hr e => ⟨_, (dv_l_bent_rows h.T hr (G_l_draw := bG_l_draw h) (G_l_bent_words := bG_l_bent_words h)).nox, by first | exact rd_l_bent_rows h.T e | exact rd_l_bent_rows e | exact rd_l_bent_rows h.X e⟩
theorem bG_l_bent_rows (h : Hd w K mg) : DefOk P w K mg base 4 "_law_bent_rows" ["_law_m", "_law_rows"] [] sp_l_bent_rows := by
  obtain ⟨fd, F⟩ := h.f_l_bent_rows
  exact ⟨_, fd, [], fo_l_bent_rows h F, h.g_l_bent_rows, F.kp, F.bindsN (fun kV doc pm an cdv ct us hl => by match us, hl with | [a, b], _ => rfl), .nil⟩
theorem fo_BadText_init (h : Hd w K mg) {fd : FuncData} (F : FunD K "__init__" "BadText.__init__" (defArgs (inClass (top 3) 0)) (defBody (inClass (top 3) 0)) (defScope (inClass (top 3) 0)) [] [] (He.fAd K ("BadText", some "__init__")) fd) : FnOk P w K mg base (L2.CX P w) 5 (He.fAd K ("BadText", some "__init__")) fd ["self", "row", "word"] (sp_BadText_init K) :=
  F.ok (k := 4) sc_BadText_init (by intro vs H Q E e; first | (obtain ⟨rfl, _⟩ := e; rfl) | (obtain ⟨_, rfl, _⟩ := e; rfl) | (obtain ⟨_, _, rfl, _⟩ := e; rfl) | (obtain ⟨_, _, _, rfl, _⟩ := e; rfl) | (obtain ⟨_, _, _, _, rfl, _⟩ := e; rfl) | (obtain ⟨_, _, _, _, _, rfl, _⟩ := e; rfl) | (obtain ⟨_, _, _, _, _, _, rfl, _⟩ := e; rfl) | (obtain ⟨_, _, _, _, _, _, _, rfl, _⟩ := e; rfl) | (obtain ⟨_, _, _, _, _, _, _, _, rfl, _⟩ := e; rfl) | (obtain ⟨_, _, _, _, _, _, _, _, _, rfl, _⟩ := e; rfl) | (obtain ⟨_, _, _, _, _, _, _, _, _, _, rfl, _⟩ := e; rfl) | (obtain ⟨_, _, _, _, _, _, _, _, _, _, _, rfl, _⟩ := e; rfl) | (obtain ⟨_, _, _, _, _, _, _, _, _, _, _, _, rfl, _⟩ := e; rfl)) fun cdv A outer s H vs Q E hr e => ⟨_, (dv_BadText_init h.T hr (G_BadValue_init := bG_BadValue_init h)).nox, by first | exact rd_BadText_init h.T e | exact rd_BadText_init e | exact rd_BadText_init h.X e⟩
theorem bX_BadText (h : Hd w K mg) : ExcOk P w K mg base 5 "BadText" (He.ga K "BadText") ["self", "row", "word"] (sp_BadText_init K) := by
  obtain ⟨fd, F⟩ := h.f_BadText_init
  exact ⟨_, fd, fo_BadText_init h F, h.X.oex, h.b_BT, h.y_BT, h.T.g_BadText, F.bindsN (fun kV doc pm an cdv ct us hl => by match us, hl with | [a, b, c], _ => rfl)⟩
theorem fo_l_plain_sort (h : Hd w K mg) {fd : FuncData} (F : FunD K "_law_plain_sort" "_law_plain_sort" (defArgs (top 45)) (defBody (top 45)) (defScope (top 45)) [] [] (He.fAd K ("_law_plain_sort", none)) fd) : FnOk P w K mg base (L2.CX P w) 5 (He.fAd K ("_law_plain_sort", none)) fd ["_law_m", "_law_w"] sp_l_plain_sort :=
  F.ok (k := 4) sc_l_plain_sort (by intro vs H Q E e; first | (obtain ⟨rfl, _⟩ := e; rfl) | (obtain ⟨_, rfl, _⟩ := e; rfl) | (obtain ⟨_, _, rfl, _⟩ := e; rfl) | (obtain ⟨_, _, _, rfl, _⟩ := e; rfl) | (obtain ⟨_, _, _, _, rfl, _⟩ := e; rfl) | (obtain ⟨_, _, _, _, _, rfl, _⟩ := e; rfl) | (obtain ⟨_, _, _, _, _, _, rfl, _⟩ := e; rfl) | (obtain ⟨_, _, _, _, _, _, _, rfl, _⟩ := e; rfl) | (obtain ⟨_, _, _, _, _, _, _, _, rfl, _⟩ := e; rfl) | (obtain ⟨_, _, _, _, _, _, _, _, _, rfl, _⟩ := e; rfl) | (obtain ⟨_, _, _, _, _, _, _, _, _, _, rfl, _⟩ := e; rfl) | (obtain ⟨_, _, _, _, _, _, _, _, _, _, _, rfl, _⟩ := e; rfl) | (obtain ⟨_, _, _, _, _, _, _, _, _, _, _, _, rfl, _⟩ := e; rfl)) fun cdv A outer s H vs Q E hr e => ⟨_, (dv_l_plain_sort h.T hr (G_l_draw := bG_l_draw h) (G_l_limits := bG_l_limits h)).nox, by first | exact rd_l_plain_sort h.T e | exact rd_l_plain_sort e | exact rd_l_plain_sort h.X e⟩
theorem bG_l_plain_sort (h : Hd w K mg) : DefOk P w K mg base 5 "_law_plain_sort" ["_law_m", "_law_w"] [] sp_l_plain_sort := by
  obtain ⟨fd, F⟩ := h.f_l_plain_sort
  exact ⟨_, fd, [], fo_l_plain_sort h F, h.g_l_plain_sort, F.kp, F.bindsN (fun kV doc pm an cdv ct us hl => by match us, hl with | [a, b], _ => rfl), .nil⟩
theorem fo_l_promise (h : Hd w K mg) {fd : FuncData} (F : FunD K "_law_promise" "_law_promise" (defArgs (top 46)) (defBody (top 46)) (defScope (top 46)) [] [] (He.fAd K ("_law_promise", none)) fd) : FnOk P w K mg base (L2.CX P w) 5 (He.fAd K ("_law_promise", none)) fd ["_law_three"] (sp_l_promise K) :=
  F.ok (k := 4) sc_l_promise (by intro vs H Q E e; first | (obtain ⟨rfl, _⟩ := e; rfl) | (obtain ⟨_, rfl, _⟩ := e; rfl) | (obtain ⟨_, _, rfl, _⟩ := e; rfl) | (obtain ⟨_, _, _, rfl, _⟩ := e; rfl) | (obtain ⟨_, _, _, _, rfl, _⟩ := e; rfl) | (obtain ⟨_, _, _, _, _, rfl, _⟩ := e; rfl) | (obtain ⟨_, _, _, _, _, _, rfl, _⟩ := e; rfl) | (obtain ⟨_, _, _, _, _, _, _, rfl, _⟩ := e; rfl) | (obtain ⟨_, _, _, _, _, _, _, _, rfl, _⟩ := e; rfl) | (obtain ⟨_, _, _, _, _, _, _, _, _, rfl, _⟩ := e; rfl) | (obtain ⟨_, _, _, _, _, _, _, _, _, _, rfl, _⟩ := e; rfl) | (obtain ⟨_, _, _, _, _, _, _, _, _, _, _, rfl, _⟩ := e; rfl) | (obtain ⟨_, _, _, _, _, _, _, _, _, _, _, _, rfl, _⟩ := e; rfl)) fun cdv A outer s H vs Q E hr e => ⟨_, (dv_l_promise h.T hr (K_Promise_init_kw := bK_Promise_init_kw h)).nox, by first | exact rd_l_promise h.T e | exact rd_l_promise e | exact rd_l_promise h.X e⟩
theorem bG_l_promise (h : Hd w K mg) : DefOk P w K mg base 5 "_law_promise" ["_law_three"] [] (sp_l_promise K) := by
  obtain ⟨fd, F⟩ := h.f_l_promise
  exact ⟨_, fd, [], fo_l_promise h F, h.g_l_promise, F.kp, F.bindsN (fun kV doc pm an cdv ct us hl => by match us, hl with | [a], _ => rfl), .nil⟩
theorem fo_l_due (h : Hd w K mg) {fd : FuncData} (F : FunD K "_law_due" "_law_due" (defArgs (top 59)) (defBody (top 59)) (defScope (top 59)) [] [] (He.fAd K ("_law_due", none)) fd) : FnOk P w K mg base (L2.CX P w) 5 (He.fAd K ("_law_due", none)) fd ["_law_text_here"] (sp_l_due K) :=
  F.ok (k := 4) sc_l_due (by intro vs H Q E e; first | (obtain ⟨rfl, _⟩ := e; rfl) | (obtain ⟨_, rfl, _⟩ := e; rfl) | (obtain ⟨_, _, rfl, _⟩ := e; rfl) | (obtain ⟨_, _, _, rfl, _⟩ := e; rfl) | (obtain ⟨_, _, _, _, rfl, _⟩ := e; rfl) | (obtain ⟨_, _, _, _, _, rfl, _⟩ := e; rfl) | (obtain ⟨_, _, _, _, _, _, rfl, _⟩ := e; rfl) | (obtain ⟨_, _, _, _, _, _, _, rfl, _⟩ := e; rfl) | (obtain ⟨_, _, _, _, _, _, _, _, rfl, _⟩ := e; rfl) | (obtain ⟨_, _, _, _, _, _, _, _, _, rfl, _⟩ := e; rfl) | (obtain ⟨_, _, _, _, _, _, _, _, _, _, rfl, _⟩ := e; rfl) | (obtain ⟨_, _, _, _, _, _, _, _, _, _, _, rfl, _⟩ := e; rfl) | (obtain ⟨_, _, _, _, _, _, _, _, _, _, _, _, rfl, _⟩ := e; rfl)) fun cdv A outer s H vs Q E hr e => ⟨_, (dv_l_due h.T hr (G_l_row_in := bG_l_row_in h)).nox, by first | exact rd_l_due h.T e | exact rd_l_due e | exact rd_l_due h.X e⟩
theorem bG_l_due (h : Hd w K mg) : DefOk P w K mg base 5 "_law_due" ["_law_text_here"] [] (sp_l_due K) := by
  obtain ⟨fd, F⟩ := h.f_l_due
  exact ⟨_, fd, [], fo_l_due h F, h.g_l_due, F.kp, F.bindsN (fun kV doc pm an cdv ct us hl => by match us, hl with | [a], _ => rfl), .nil⟩
theorem fo_Sort_rows (h : Hd w K mg) {fd : FuncData} (F : FunD K "rows" "Sort.rows" (defArgs (inClass (top 30) 8)) (defBody (inClass (top 30) 8)) (defScope (inClass (top 30) 8)) [] [] (He.fAd K ("Sort", some "rows")) fd) : FnOk P w K mg base (L2.CX P w) 6 (He.fAd K ("Sort", some "rows")) fd ["self"] (sp_Sort_rows K) :=
  F.ok (k := 5) sc_Sort_rows (by intro vs H Q E e; first | (obtain ⟨rfl, _⟩ := e; rfl) | (obtain ⟨_, rfl, _⟩ := e; rfl) | (obtain ⟨_, _, rfl, _⟩ := e; rfl) | (obtain ⟨_, _, _, rfl, _⟩ := e; rfl) | (obtain ⟨_, _, _, _, rfl, _⟩ := e; rfl) | (obtain ⟨_, _, _, _, _, rfl, _⟩ := e; rfl) | (obtain ⟨_, _, _, _, _, _, rfl, _⟩ := e; rfl) | (obtain ⟨_, _, _, _, _, _, _, rfl, _⟩ := e; rfl) | (obtain ⟨_, _, _, _, _, _, _, _, rfl, _⟩ := e; rfl) | (obtain ⟨_, _, _, _, _, _, _, _, _, rfl, _⟩ := e; rfl) | (obtain ⟨_, _, _, _, _, _, _, _, _, _, rfl, _⟩ := e; rfl) | (obtain ⟨_, _, _, _, _, _, _, _, _, _, _, rfl, _⟩ := e; rfl) | (obtain ⟨_, _, _, _, _, _, _, _, _, _, _, _, rfl, _⟩ := e; rfl)) fun cdv A outer s H vs Q E hr e => ⟨_, (dv_Sort_rows h.T hr (M_Promise_str := bM_Promise_str h)).nox, by first | exact rd_Sort_rows h.T e | exact rd_Sort_rows e | exact rd_Sort_rows h.X e⟩
theorem bM_Sort_rows (h : Hd w K mg) : MetOk P w K mg base 6 (He.ga K "Sort") "rows" ["self"] [] (sp_Sort_rows K) := by
  obtain ⟨fd, F⟩ := h.f_Sort_rows
  exact ⟨_, fd, [], fo_Sort_rows h F, h.m_Sort_rows, F.bindsN (fun kV doc pm an cdv ct us hl => by match us, hl with | [a], _ => rfl), .nil⟩
theorem fo_SortReader_whole_sort (h : Hd w K mg) {fd : FuncData} (F : FunD K "whole_sort" "SortReader.whole_sort" (defArgs (inClass (top 35) 3)) (defBody (inClass (top 35) 3)) (defScope (inClass (top 35) 3)) [] [] (He.fAd K ("SortReader", some "whole_sort")) fd) : FnOk P w K mg base (L2.CX P w) 6 (He.fAd K ("SortReader", some "whole_sort")) fd ["self"] (sp_whole_sort K) :=
  F.ok (k := 5) sc_SortReader_whole_sort (by intro vs H Q E e; first | (obtain ⟨rfl, _⟩ := e; rfl) | (obtain ⟨_, rfl, _⟩ := e; rfl) | (obtain ⟨_, _, rfl, _⟩ := e; rfl) | (obtain ⟨_, _, _, rfl, _⟩ := e; rfl) | (obtain ⟨_, _, _, _, rfl, _⟩ := e; rfl) | (obtain ⟨_, _, _, _, _, rfl, _⟩ := e; rfl) | (obtain ⟨_, _, _, _, _, _, rfl, _⟩ := e; rfl) | (obtain ⟨_, _, _, _, _, _, _, rfl, _⟩ := e; rfl) | (obtain ⟨_, _, _, _, _, _, _, _, rfl, _⟩ := e; rfl) | (obtain ⟨_, _, _, _, _, _, _, _, _, rfl, _⟩ := e; rfl) | (obtain ⟨_, _, _, _, _, _, _, _, _, _, rfl, _⟩ := e; rfl) | (obtain ⟨_, _, _, _, _, _, _, _, _, _, _, rfl, _⟩ := e; rfl) | (obtain ⟨_, _, _, _, _, _, _, _, _, _, _, _, rfl, _⟩ := e; rfl)) fun cdv A outer s H vs Q E hr e => ⟨_, (dv_SortReader_whole_sort h.T hr (K_Sort_init_kw := bK_Sort_init_kw h)).nox, by first | exact rd_whole_sort h.T e | exact rd_whole_sort e | exact rd_whole_sort h.X e⟩
theorem bM_SortReader_whole_sort (h : Hd w K mg) : MetOk P w K mg base 6 (He.ga K "SortReader") "whole_sort" ["self"] [] (sp_whole_sort K) := by
  obtain ⟨fd, F⟩ := h.f_SortReader_whole_sort
  exact ⟨_, fd, [], fo_SortReader_whole_sort h F, h.m_SortReader_whole_sort, F.bindsN (fun kV doc pm an cdv ct us hl => by match us, hl with | [a], _ => rfl), .nil⟩
theorem fo_l_sort (h : Hd w K mg) {fd : FuncData} (F : FunD K "_law_sort" "_law_sort" (defArgs (top 47)) (defBody (top 47)) (defScope (top 47)) [] [] (He.fAd K ("_law_sort", none)) fd) : FnOk P w K mg base (L2.CX P w) 6 (He.fAd K ("_law_sort", none)) fd ["_law_plain"] (sp_l_sort K) :=
  F.ok (k := 5) sc_l_sort (by intro vs H Q E e; first | (obtain ⟨rfl, _⟩ := e; rfl) | (obtain ⟨_, rfl, _⟩ := e; rfl) | (obtain ⟨_, _, rfl, _⟩ := e; rfl) | (obtain ⟨_, _, _, rfl, _⟩ := e; rfl) | (obtain ⟨_, _, _, _, rfl, _⟩ := e; rfl) | (obtain ⟨_, _, _, _, _, rfl, _⟩ := e; rfl) | (obtain ⟨_, _, _, _, _, _, rfl, _⟩ := e; rfl) | (obtain ⟨_, _, _, _, _, _, _, rfl, _⟩ := e; rfl) | (obtain ⟨_, _, _, _, _, _, _, _, rfl, _⟩ := e; rfl) | (obtain ⟨_, _, _, _, _, _, _, _, _, rfl, _⟩ := e; rfl) | (obtain ⟨_, _, _, _, _, _, _, _, _, _, rfl, _⟩ := e; rfl) | (obtain ⟨_, _, _, _, _, _, _, _, _, _, _, rfl, _⟩ := e; rfl) | (obtain ⟨_, _, _, _, _, _, _, _, _, _, _, _, rfl, _⟩ := e; rfl)) fun cdv A outer s H vs Q E hr e => ⟨_, (dv_l_sort h.T hr (G_l_promise := bG_l_promise h) (K_Sort_init_kw := bK_Sort_init_kw h)).nox, by first | exact rd_l_sort h.T e | exact rd_l_sort e | exact rd_l_sort h.X e⟩
theorem bG_l_sort (h : Hd w K mg) : DefOk P w K mg base 6 "_law_sort" ["_law_plain"] [] (sp_l_sort K) := by
  obtain ⟨fd, F⟩ := h.f_l_sort
  exact ⟨_, fd, [], fo_l_sort h F, h.g_l_sort, F.kp, F.bindsN (fun kV doc pm an cdv ct us hl => by match us, hl with | [a], _ => rfl), .nil⟩
theorem fo_Sort_eq (h : Hd w K mg) {fd : FuncData} (F : FunD K "__eq__" "Sort.__eq__" (defArgs (inClass (top 30) 9)) (defBody (inClass (top 30) 9)) (defScope (inClass (top 30) 9)) [] [] (He.fAd K ("Sort", some "__eq__")) fd) : FnOk P w K mg base (L2.CX P w) 7 (He.fAd K ("Sort", some "__eq__")) fd ["self", "other"] (spEq (SameS K)) :=
  F.ok (k := 6) sc_Sort_eq (by intro vs H Q E e; first | (obtain ⟨rfl, _⟩ := e; rfl) | (obtain ⟨_, rfl, _⟩ := e; rfl) | (obtain ⟨_, _, rfl, _⟩ := e; rfl) | (obtain ⟨_, _, _, rfl, _⟩ := e; rfl) | (obtain ⟨_, _, _, _, rfl, _⟩ := e; rfl) | (obtain ⟨_, _, _, _, _, rfl, _⟩ := e; rfl) | (obtain ⟨_, _, _, _, _, _, rfl, _⟩ := e; rfl) | (obtain ⟨_, _, _, _, _, _, _, rfl, _⟩ := e; rfl) | (obtain ⟨_, _, _, _, _, _, _, _, rfl, _⟩ := e; rfl) | (obtain ⟨_, _, _, _, _, _, _, _, _, rfl, _⟩ := e; rfl) | (obtain ⟨_, _, _, _, _, _, _, _, _, _, rfl, _⟩ := e; rfl) | (obtain ⟨_, _, _, _, _, _, _, _, _, _, _, rfl, _⟩ := e; rfl) | (obtain ⟨_, _, _, _, _, _, _, _, _, _, _, _, rfl, _⟩ := e; rfl)) fun cdv A outer s H vs Q E hr e => ⟨_, (dv_Sort_eq h.T hr (M_Sort_rows := bM_Sort_rows h)).nox, by first | exact rd_Sort_eq h.T e | exact rd_Sort_eq e | exact rd_Sort_eq h.X e⟩
theorem fo_Sort_str (h : Hd w K mg) {fd : FuncData} (F : FunD K "__str__" "Sort.__str__" (defArgs (inClass (top 30) 11)) (defBody (inClass (top 30) 11)) (defScope (inClass (top 30) 11)) [] [] (He.fAd K ("Sort", some "__str__")) fd) : FnOk P w K mg base (L2.CX P w) 7 (He.fAd K ("Sort", some "__str__")) fd ["self"] (sp_Sort_str K) :=
  F.ok (k := 6) sc_Sort_str (by intro vs H Q E e; first | (obtain ⟨rfl, _⟩ := e; rfl) | (obtain ⟨_, rfl, _⟩ := e; rfl) | (obtain ⟨_, _, rfl, _⟩ := e; rfl) | (obtain ⟨_, _, _, rfl, _⟩ := e; rfl) | (obtain ⟨_, _, _, _, rfl, _⟩ := e; rfl) | (obtain ⟨_, _, _, _, _, rfl, _⟩ := e; rfl) | (obtain ⟨_, _, _, _, _, _, rfl, _⟩ := e; rfl) | (obtain ⟨_, _, _, _, _, _, _, rfl, _⟩ := e; rfl) | (obtain ⟨_, _, _, _, _, _, _, _, rfl, _⟩ := e; rfl) | (obtain ⟨_, _, _, _, _, _, _, _, _, rfl, _⟩ := e; rfl) | (obtain ⟨_, _, _, _, _, _, _, _, _, _, rfl, _⟩ := e; rfl) | (obtain ⟨_, _, _, _, _, _, _, _, _, _, _, rfl, _⟩ := e; rfl) | (obtain ⟨_, _, _, _, _, _, _, _, _, _, _, _, rfl, _⟩ := e; rfl)) fun cdv A outer s H vs Q E hr e => ⟨_, (dv_Sort_str h.T hr (M_Sort_rows := bM_Sort_rows h)).nox, by first | exact rd_Sort_str h.T e | exact rd_Sort_str e | exact rd_Sort_str h.X e⟩
theorem bM_Sort_str (h : Hd w K mg) : MetOk P w K mg base 7 (He.ga K "Sort") "__str__" ["self"] [] (sp_Sort_str K) := by
  obtain ⟨fd, F⟩ := h.f_Sort_str
  exact ⟨_, fd, [], fo_Sort_str h F, h.m_Sort_str, F.bindsN (fun kV doc pm an cdv ct us hl => by match us, hl with | [a], _ => rfl), .nil⟩
theorem fo_Reader_refuse (h : Hd w K mg) {fd : FuncData} (F : FunD K "refuse" "Reader.refuse" (defArgs (inClass (top 32) 2)) (defBody (inClass (top 32) 2)) (defScope (inClass (top 32) 2)) [] [] (He.fAd K ("Reader", some "refuse")) fd) : FnOk P w K mg base (L2.CX P w) 7 (He.fAd K ("Reader", some "refuse")) fd ["self"] (sp_Reader_refuse K) :=
  F.ok (k := 6) sc_Reader_refuse (by intro vs H Q E e; first | (obtain ⟨rfl, _⟩ := e; rfl) | (obtain ⟨_, rfl, _⟩ := e; rfl) | (obtain ⟨_, _, rfl, _⟩ := e; rfl) | (obtain ⟨_, _, _, rfl, _⟩ := e; rfl) | (obtain ⟨_, _, _, _, rfl, _⟩ := e; rfl) | (obtain ⟨_, _, _, _, _, rfl, _⟩ := e; rfl) | (obtain ⟨_, _, _, _, _, _, rfl, _⟩ := e; rfl) | (obtain ⟨_, _, _, _, _, _, _, rfl, _⟩ := e; rfl) | (obtain ⟨_, _, _, _, _, _, _, _, rfl, _⟩ := e; rfl) | (obtain ⟨_, _, _, _, _, _, _, _, _, rfl, _⟩ := e; rfl) | (obtain ⟨_, _, _, _, _, _, _, _, _, _, rfl, _⟩ := e; rfl) | (obtain ⟨_, _, _, _, _, _, _, _, _, _, _, rfl, _⟩ := e; rfl) | (obtain ⟨_, _, _, _, _, _, _, _, _, _, _, _, rfl, _⟩ := e; rfl)) fun cdv A outer s H vs Q E hr e => ⟨_, (dv_Reader_refuse h.T hr (X_BadText := bX_BadText h)), by first | exact rd_Reader_refuse h.T e | exact rd_Reader_refuse e | exact rd_Reader_refuse h.X e⟩
theorem bM_Reader_refuse (h : Hd w K mg) : MetOk P w K mg base 7 (He.ga K "Reader") "refuse" ["self"] [] (sp_Reader_refuse K) := by
  obtain ⟨fd, F⟩ := h.f_Reader_refuse
  exact ⟨_, fd, [], fo_Reader_refuse h F, h.m_Reader_refuse, F.bindsN (fun kV doc pm an cdv ct us hl => by match us, hl with | [a], _ => rfl), .nil⟩
theorem fo_Reader_take (h : Hd w K mg) {fd : FuncData} (F : FunD K "take" "Reader.take" (defArgs (inClass (top 32) 3)) (defBody (inClass (top 32) 3)) (defScope (inClass (top 32) 3)) [] [] (He.fAd K ("Reader", some "take")) fd) : FnOk P w K mg base (L2.CX P w) 8 (He.fAd K ("Reader", some "take")) fd ["self", "good"] (sp_Reader_take K) :=
  F.ok (k := 7) sc_Reader_take (by intro vs H Q E e; first | (obtain ⟨rfl, _⟩ := e; rfl) | (obtain ⟨_, rfl, _⟩ := e; rfl) | (obtain ⟨_, _, rfl, _⟩ := e; rfl) | (obtain ⟨_, _, _, rfl, _⟩ := e; rfl) | (obtain ⟨_, _, _, _, rfl, _⟩ := e; rfl) | (obtain ⟨_, _, _, _, _, rfl, _⟩ := e; rfl) | (obtain ⟨_, _, _, _, _, _, rfl, _⟩ := e; rfl) | (obtain ⟨_, _, _, _, _, _, _, rfl, _⟩ := e; rfl) | (obtain ⟨_, _, _, _, _, _, _, _, rfl, _⟩ := e; rfl) | (obtain ⟨_, _, _, _, _, _, _, _, _, rfl, _⟩ := e; rfl) | (obtain ⟨_, _, _, _, _, _, _, _, _, _, rfl, _⟩ := e; rfl) | (obtain ⟨_, _, _, _, _, _, _, _, _, _, _, rfl, _⟩ := e; rfl) | (obtain ⟨_, _, _, _, _, _, _, _, _, _, _, _, rfl, _⟩ := e; rfl)) fun cdv A outer s H vs Q E hr e => ⟨_, (dv_Reader_take h.T hr (M_Reader_refuse := bM_Reader_refuse h)), by first | exact rd_Reader_take h.T e | exact rd_Reader_take e | exact rd_Reader_take h.X e⟩
theorem bM_Reader_take (h : Hd w K mg) : MetOk P w K mg base 8 (He.ga K "Reader") "take" ["self", "good"] [] (sp_Reader_take K) := by
  obtain ⟨fd, F⟩ := h.f_Reader_take
  exact ⟨_, fd, [], fo_Reader_take h F, h.m_Reader_take, F.bindsN (fun kV doc pm an cdv ct us hl => by match us, hl with | [a, b], _ => rfl), .nil⟩
theorem fo_Reader_over (h : Hd w K mg) {fd : FuncData} (F : FunD K "over" "Reader.over" (defArgs (inClass (top 32) 7)) (defBody (inClass (top 32) 7)) (defScope (inClass (top 32) 7)) [] [] (He.fAd K ("Reader", some "over")) fd) : FnOk P w K mg base (L2.CX P w) 8 (He.fAd K ("Reader", some "over")) fd ["self"] (sp_Reader_over K) :=
  F.ok (k := 7) sc_Reader_over (by intro vs H Q E e; first | (obtain ⟨rfl, _⟩ := e; rfl) | (obtain ⟨_, rfl, _⟩ := e; rfl) | (obtain ⟨_, _, rfl, _⟩ := e; rfl) | (obtain ⟨_, _, _, rfl, _⟩ := e; rfl) | (obtain ⟨_, _, _, _, rfl, _⟩ := e; rfl) | (obtain ⟨_, _, _, _, _, rfl, _⟩ := e; rfl) | (obtain ⟨_, _, _, _, _, _, rfl, _⟩ := e; rfl) | (obtain ⟨_, _, _, _, _, _, _, rfl, _⟩ := e; rfl) | (obtain ⟨_, _, _, _, _, _, _, _, rfl, _⟩ := e; rfl) | (obtain ⟨_, _, _, _, _, _, _, _, _, rfl, _⟩ := e; rfl) | (obtain ⟨_, _, _, _, _, _, _, _, _, _, rfl, _⟩ := e; rfl) | (obtain ⟨_, _, _, _, _, _, _, _, _, _, _, rfl, _⟩ := e; rfl) | (obtain ⟨_, _, _, _, _, _, _, _, _, _, _, _, rfl, _⟩ := e; rfl)) fun cdv A outer s H vs Q E hr e => ⟨_, (dv_Reader_over h.T hr (M_Reader_is_over := bM_Reader_is_over h) (M_Reader_refuse := bM_Reader_refuse h)), by first | exact rd_Reader_over h.T e | exact rd_Reader_over e | exact rd_Reader_over h.X e⟩
theorem bM_Reader_over (h : Hd w K mg) : MetOk P w K mg base 8 (He.ga K "Reader") "over" ["self"] [] (sp_Reader_over K) := by
  obtain ⟨fd, F⟩ := h.f_Reader_over
  exact ⟨_, fd, [], fo_Reader_over h F, h.m_Reader_over, F.bindsN (fun kV doc pm an cdv ct us hl => by match us, hl with | [a], _ => rfl), .nil⟩
theorem fo_pair_in (h : Hd w K mg) {fd : FuncData} (F : FunD K "pair_in" "pair_in" (defArgs (top 34)) (defBody (top 34)) (defScope (top 34)) [] [] (He.fAd K ("pair_in", none)) fd) : FnOk P w K mg base (L2.CX P w) 9 (He.fAd K ("pair_in", none)) fd ["reader", "pairs", "names"] (sp_pair_in K) :=
  F.ok (k := 8) sc_pair_in (by intro vs H Q E e; first | (obtain ⟨rfl, _⟩ := e; rfl) | (obtain ⟨_, rfl, _⟩ := e; rfl) | (obtain ⟨_, _, rfl, _⟩ := e; rfl) | (obtain ⟨_, _, _, rfl, _⟩ := e; rfl) | (obtain ⟨_, _, _, _, rfl, _⟩ := e; rfl) | (obtain ⟨_, _, _, _, _, rfl, _⟩ := e; rfl) | (obtain ⟨_, _, _, _, _, _, rfl, _⟩ := e; rfl) | (obtain ⟨_, _, _, _, _, _, _, rfl, _⟩ := e; rfl) | (obtain ⟨_, _, _, _, _, _, _, _, rfl, _⟩ := e; rfl) | (obtain ⟨_, _, _, _, _, _, _, _, _, rfl, _⟩ := e; rfl) | (obtain ⟨_, _, _, _, _, _, _, _, _, _, rfl, _⟩ := e; rfl) | (obtain ⟨_, _, _, _, _, _, _, _, _, _, _, rfl, _⟩ := e; rfl) | (obtain ⟨_, _, _, _, _, _, _, _, _, _, _, _, rfl, _⟩ := e; rfl)) fun cdv A outer s H vs Q E hr e => ⟨_, (dv_pair_in h.T hr (M_Reader_ahead := bM_Reader_ahead h) (M_Reader_take := bM_Reader_take h) (G_is_name := bG_is_name h)), by first | exact rd_pair_in h.T e | exact rd_pair_in e | exact rd_pair_in h.X e⟩
theorem bG_pair_in (h : Hd w K mg) : DefOk P w K mg base 9 "pair_in" ["reader", "pairs", "names"] [] (sp_pair_in K) := by
  obtain ⟨fd, F⟩ := h.f_pair_in
  exact ⟨_, fd, [], fo_pair_in h F, h.g_pair_in, F.kp, F.bindsN (fun kV doc pm an cdv ct us hl => by match us, hl with | [a, b, c], _ => rfl), .nil⟩
theorem fo_Reader_take_name (h : Hd w K mg) {fd : FuncData} (F : FunD K "take_name" "Reader.take_name" (defArgs (inClass (top 32) 4)) (defBody (inClass (top 32) 4)) (defScope (inClass (top 32) 4)) [] [] (He.fAd K ("Reader", some "take_name")) fd) : FnOk P w K mg base (L2.CX P w) 9 (He.fAd K ("Reader", some "take_name")) fd ["self"] (sp_Reader_take_name K) :=
  F.ok (k := 8) sc_Reader_take_name (by intro vs H Q E e; first | (obtain ⟨rfl, _⟩ := e; rfl) | (obtain ⟨_, rfl, _⟩ := e; rfl) | (obtain ⟨_, _, rfl, _⟩ := e; rfl) | (obtain ⟨_, _, _, rfl, _⟩ := e; rfl) | (obtain ⟨_, _, _, _, rfl, _⟩ := e; rfl) | (obtain ⟨_, _, _, _, _, rfl, _⟩ := e; rfl) | (obtain ⟨_, _, _, _, _, _, rfl, _⟩ := e; rfl) | (obtain ⟨_, _, _, _, _, _, _, rfl, _⟩ := e; rfl) | (obtain ⟨_, _, _, _, _, _, _, _, rfl, _⟩ := e; rfl) | (obtain ⟨_, _, _, _, _, _, _, _, _, rfl, _⟩ := e; rfl) | (obtain ⟨_, _, _, _, _, _, _, _, _, _, rfl, _⟩ := e; rfl) | (obtain ⟨_, _, _, _, _, _, _, _, _, _, _, rfl, _⟩ := e; rfl) | (obtain ⟨_, _, _, _, _, _, _, _, _, _, _, _, rfl, _⟩ := e; rfl)) fun cdv A outer s H vs Q E hr e => ⟨_, (dv_Reader_take_name h.T hr (M_Reader_take := bM_Reader_take h) (G_is_name := bG_is_name h) (M_Reader_ahead := bM_Reader_ahead h)), by first | exact rd_Reader_take_name h.T e | exact rd_Reader_take_name e | exact rd_Reader_take_name h.X e⟩
theorem bM_Reader_take_name (h : Hd w K mg) : MetOk P w K mg base 9 (He.ga K "Reader") "take_name" ["self"] [] (sp_Reader_take_name K) := by
  obtain ⟨fd, F⟩ := h.f_Reader_take_name
  exact ⟨_, fd, [], fo_Reader_take_name h F, h.m_Reader_take_name, F.bindsN (fun kV doc pm an cdv ct us hl => by match us, hl with | [a], _ => rfl), .nil⟩
theorem fo_Reader_take_number (h : Hd w K mg) {fd : FuncData} (F : FunD K "take_number" "Reader.take_number" (defArgs (inClass (top 32) 5)) (defBody (inClass (top 32) 5)) (defScope (inClass (top 32) 5)) [.int 1000000] [] (He.fAd K ("Reader", some "take_number")) fd) : FnOk P w K mg base (L2.CX P w) 9 (He.fAd K ("Reader", some "take_number")) fd ["self", "most"] (sp_Reader_take_number K) :=
  F.ok (k := 8) sc_Reader_take_number (by intro vs H Q E e; first | (obtain ⟨rfl, _⟩ := e; rfl) | (obtain ⟨_, rfl, _⟩ := e; rfl) | (obtain ⟨_, _, rfl, _⟩ := e; rfl) | (obtain ⟨_, _, _, rfl, _⟩ := e; rfl) | (obtain ⟨_, _, _, _, rfl, _⟩ := e; rfl) | (obtain ⟨_, _, _, _, _, rfl, _⟩ := e; rfl) | (obtain ⟨_, _, _, _, _, _, rfl, _⟩ := e; rfl) | (obtain ⟨_, _, _, _, _, _, _, rfl, _⟩ := e; rfl) | (obtain ⟨_, _, _, _, _, _, _, _, rfl, _⟩ := e; rfl) | (obtain ⟨_, _, _, _, _, _, _, _, _, rfl, _⟩ := e; rfl) | (obtain ⟨_, _, _, _, _, _, _, _, _, _, rfl, _⟩ := e; rfl) | (obtain ⟨_, _, _, _, _, _, _, _, _, _, _, rfl, _⟩ := e; rfl) | (obtain ⟨_, _, _, _, _, _, _, _, _, _, _, _, rfl, _⟩ := e; rfl)) fun cdv A outer s H vs Q E hr e => ⟨_, (dv_Reader_take_number h.T hr (G_number_of := bG_number_of h) (M_Reader_ahead := bM_Reader_ahead h) (M_Reader_take := bM_Reader_take h) (G_is_whole_kw := bG_is_whole_kw h)), by first | exact rd_Reader_take_number h.T e | exact rd_Reader_take_number e | exact rd_Reader_take_number h.X e⟩
theorem bM_Reader_take_number_1 (h : Hd w K mg) : MetOk P w K mg base 9 (He.ga K "Reader") "take_number" ["self", "most"] [.int 1000000] (sp_Reader_take_number K) := by
  obtain ⟨fd, F⟩ := h.f_Reader_take_number
  obtain ⟨ds, vd, kb⟩ := F.binds1 (ps := ["self", "most"]) 1 0 (by simp) (by rfl) (fun T kV doc pm an cdv ct us its l1 l2 => by match us, l1, its, l2 with | [a], _, [z0], _ => exact ⟨_, rfl, rfl⟩)
  exact ⟨_, fd, ds, fo_Reader_take_number h F, h.m_Reader_take_number, kb, vd⟩
theorem fo_Reader_take_promise (h : Hd w K mg) {fd : FuncData} (F : FunD K "take_promise" "Reader.take_promise" (defArgs (inClass (top 32) 8)) (defBody (inClass (top 32) 8)) (defScope (inClass (top 32) 8)) [] [] (He.fAd K ("Reader", some "take_promise")) fd) : FnOk P w K mg base (L2.CX P w) 10 (He.fAd K ("Reader", some "take_promise")) fd ["self"] (sp_Reader_take_promise K) :=
  F.ok (k := 9) sc_Reader_take_promise (by intro vs H Q E e; first | (obtain ⟨rfl, _⟩ := e; rfl) | (obtain ⟨_, rfl, _⟩ := e; rfl) | (obtain ⟨_, _, rfl, _⟩ := e; rfl) | (obtain ⟨_, _, _, rfl, _⟩ := e; rfl) | (obtain ⟨_, _, _, _, rfl, _⟩ := e; rfl) | (obtain ⟨_, _, _, _, _, rfl, _⟩ := e; rfl) | (obtain ⟨_, _, _, _, _, _, rfl, _⟩ := e; rfl) | (obtain ⟨_, _, _, _, _, _, _, rfl, _⟩ := e; rfl) | (obtain ⟨_, _, _, _, _, _, _, _, rfl, _⟩ := e; rfl) | (obtain ⟨_, _, _, _, _, _, _, _, _, rfl, _⟩ := e; rfl) | (obtain ⟨_, _, _, _, _, _, _, _, _, _, rfl, _⟩ := e; rfl) | (obtain ⟨_, _, _, _, _, _, _, _, _, _, _, rfl, _⟩ := e; rfl) | (obtain ⟨_, _, _, _, _, _, _, _, _, _, _, _, rfl, _⟩ := e; rfl)) fun cdv A outer s H vs Q E hr e => ⟨_, (dv_Reader_take_promise h.T hr (M_Reader_ahead := bM_Reader_ahead h) (M_Reader_take := bM_Reader_take h) (K_Promise_init_1 := bK_Promise_init_1 h) (G_number_of := bG_number_of h) (M_Reader_take_number_1 := bM_Reader_take_number_1 h) (K_Promise_init_kw := bK_Promise_init_kw h)), by first | exact rd_Reader_take_promise h.T e | exact rd_Reader_take_promise e | exact rd_Reader_take_promise h.X e⟩
theorem bM_Reader_take_promise (h : Hd w K mg) : MetOk P w K mg base 10 (He.ga K "Reader") "take_promise" ["self"] [] (sp_Reader_take_promise K) := by
  obtain ⟨fd, F⟩ := h.f_Reader_take_promise
  exact ⟨_, fd, [], fo_Reader_take_promise h F, h.m_Reader_take_promise, F.bindsN (fun kV doc pm an cdv ct us hl => by match us, hl with | [a], _ => rfl), .nil⟩
theorem fo_part_in (h : Hd w K mg) {fd : FuncData} (F : FunD K "part_in" "part_in" (defArgs (top 33)) (defBody (top 33)) (defScope (top 33)) [] [] (He.fAd K ("part_in", none)) fd) : FnOk P w K mg base (L2.CX P w) 11 (He.fAd K ("part_in", none)) fd ["reader", "parts"] (sp_part_in K) :=
  F.ok (k := 10) sc_part_in (by intro vs H Q E e; first | (obtain ⟨rfl, _⟩ := e; rfl) | (obtain ⟨_, rfl, _⟩ := e; rfl) | (obtain ⟨_, _, rfl, _⟩ := e; rfl) | (obtain ⟨_, _, _, rfl, _⟩ := e; rfl) | (obtain ⟨_, _, _, _, rfl, _⟩ := e; rfl) | (obtain ⟨_, _, _, _, _, rfl, _⟩ := e; rfl) | (obtain ⟨_, _, _, _, _, _, rfl, _⟩ := e; rfl) | (obtain ⟨_, _, _, _, _, _, _, rfl, _⟩ := e; rfl) | (obtain ⟨_, _, _, _, _, _, _, _, rfl, _⟩ := e; rfl) | (obtain ⟨_, _, _, _, _, _, _, _, _, rfl, _⟩ := e; rfl) | (obtain ⟨_, _, _, _, _, _, _, _, _, _, rfl, _⟩ := e; rfl) | (obtain ⟨_, _, _, _, _, _, _, _, _, _, _, rfl, _⟩ := e; rfl) | (obtain ⟨_, _, _, _, _, _, _, _, _, _, _, _, rfl, _⟩ := e; rfl)) fun cdv A outer s H vs Q E hr e => ⟨_, (dv_part_in h.T hr (M_Reader_ahead := bM_Reader_ahead h) (M_Reader_take := bM_Reader_take h) (G_is_name := bG_is_name h) (M_Reader_take_promise := bM_Reader_take_promise h)), by first | exact rd_part_in h.T e | exact rd_part_in e | exact rd_part_in h.X e⟩
theorem bG_part_in (h : Hd w K mg) : DefOk P w K mg base 11 "part_in" ["reader", "parts"] [] (sp_part_in K) := by
  obtain ⟨fd, F⟩ := h.f_part_in
  exact ⟨_, fd, [], fo_part_in h F, h.g_part_in, F.kp, F.bindsN (fun kV doc pm an cdv ct us hl => by match us, hl with | [a, b], _ => rfl), .nil⟩
theorem fo_SortReader_take_row (h : Hd w K mg) {fd : FuncData} (F : FunD K "take_row" "SortReader.take_row" (defArgs (inClass (top 35) 2)) (defBody (inClass (top 35) 2)) (defScope (inClass (top 35) 2)) [] [] (He.fAd K ("SortReader", some "take_row")) fd) : FnOk P w K mg base (L2.CX P w) 12 (He.fAd K ("SortReader", some "take_row")) fd ["self", "reader"] (sp_take_row K) :=
  F.ok (k := 11) sc_SortReader_take_row (by intro vs H Q E e; first | (obtain ⟨rfl, _⟩ := e; rfl) | (obtain ⟨_, rfl, _⟩ := e; rfl) | (obtain ⟨_, _, rfl, _⟩ := e; rfl) | (obtain ⟨_, _, _, rfl, _⟩ := e; rfl) | (obtain ⟨_, _, _, _, rfl, _⟩ := e; rfl) | (obtain ⟨_, _, _, _, _, rfl, _⟩ := e; rfl) | (obtain ⟨_, _, _, _, _, _, rfl, _⟩ := e; rfl) | (obtain ⟨_, _, _, _, _, _, _, rfl, _⟩ := e; rfl) | (obtain ⟨_, _, _, _, _, _, _, _, rfl, _⟩ := e; rfl) | (obtain ⟨_, _, _, _, _, _, _, _, _, rfl, _⟩ := e; rfl) | (obtain ⟨_, _, _, _, _, _, _, _, _, _, rfl, _⟩ := e; rfl) | (obtain ⟨_, _, _, _, _, _, _, _, _, _, _, rfl, _⟩ := e; rfl) | (obtain ⟨_, _, _, _, _, _, _, _, _, _, _, _, rfl, _⟩ := e; rfl)) fun cdv A outer s H vs Q E hr e => ⟨_, (dv_SortReader_take_row h.T hr (M_Reader_take := bM_Reader_take h) (M_Reader_ahead := bM_Reader_ahead h) (M_SortReader_first_words := bM_SortReader_first_words h) (M_Reader_take_name := bM_Reader_take_name h) (M_Reader_take_promise := bM_Reader_take_promise h) (G_part_in := bG_part_in h) (G_pair_in := bG_pair_in h) (M_Reader_over := bM_Reader_over h)), by first | exact rd_take_row h.T e | exact rd_take_row e | exact rd_take_row h.X e⟩
theorem bM_SortReader_take_row (h : Hd w K mg) : MetOk P w K mg base 12 (He.ga K "SortReader") "take_row" ["self", "reader"] [] (sp_take_row K) := by
  obtain ⟨fd, F⟩ := h.f_SortReader_take_row
  exact ⟨_, fd, [], fo_SortReader_take_row h F, h.m_SortReader_take_row, F.bindsN (fun kV doc pm an cdv ct us hl => by match us, hl with | [a, b], _ => rfl), .nil⟩
theorem fo_read_sort (h : Hd w K mg) {fd : FuncData} (F : FunD K "read_sort" "read_sort" (defArgs (top 36)) (defBody (top 36)) (defScope (top 36)) [] [] (He.fAd K ("read_sort", none)) fd) : FnOk P w K mg base (L2.CX P w) 13 (He.fAd K ("read_sort", none)) fd ["text"] (sp_read_sort K) :=
  F.ok (k := 12) sc_read_sort (by intro vs H Q E e; first | (obtain ⟨rfl, _⟩ := e; rfl) | (obtain ⟨_, rfl, _⟩ := e; rfl) | (obtain ⟨_, _, rfl, _⟩ := e; rfl) | (obtain ⟨_, _, _, rfl, _⟩ := e; rfl) | (obtain ⟨_, _, _, _, rfl, _⟩ := e; rfl) | (obtain ⟨_, _, _, _, _, rfl, _⟩ := e; rfl) | (obtain ⟨_, _, _, _, _, _, rfl, _⟩ := e; rfl) | (obtain ⟨_, _, _, _, _, _, _, rfl, _⟩ := e; rfl) | (obtain ⟨_, _, _, _, _, _, _, _, rfl, _⟩ := e; rfl) | (obtain ⟨_, _, _, _, _, _, _, _, _, rfl, _⟩ := e; rfl) | (obtain ⟨_, _, _, _, _, _, _, _, _, _, rfl, _⟩ := e; rfl) | (obtain ⟨_, _, _, _, _, _, _, _, _, _, _, rfl, _⟩ := e; rfl) | (obtain ⟨_, _, _, _, _, _, _, _, _, _, _, _, rfl, _⟩ := e; rfl)) fun cdv A outer s H vs Q E hr e => ⟨_, (dv_read_sort h.T hr (X_BadText := bX_BadText h) (K_SortReader_init := bK_SortReader_init h) (G_words_of := bG_words_of h) (M_SortReader_take_row := bM_SortReader_take_row h) (K_Reader_init_kw := bK_Reader_init_kw h) (M_SortReader_whole_sort := bM_SortReader_whole_sort h)), by first | exact rd_read_sort h.T e | exact rd_read_sort e | exact rd_read_sort h.X e⟩
theorem bG_read_sort (h : Hd w K mg) : DefOk P w K mg base 13 "read_sort" ["text"] [] (sp_read_sort K) := by
  obtain ⟨fd, F⟩ := h.f_read_sort
  exact ⟨_, fd, [], fo_read_sort h F, h.g_read_sort, F.kp, F.bindsN (fun kV doc pm an cdv ct us hl => by match us, hl with | [a], _ => rfl), .nil⟩
theorem bToldOk (h : Hd w K mg) : ToldOk K mg := by
  obtain ⟨fd, F⟩ := h.f_l_told
  have kp := F.kp
  have B := F.bindsN (ps := ["_law_deed"]) (fun kV doc pm an cdv ct us hl => by match us, hl with | [a], _ => rfl)
  obtain ⟨oc, od, dV, kV, doc, pm, an, cdv, ct, osl, rfl, lk, hcd, _, _⟩ := F.ex
  exact ⟨_, oc, od, dV, kV, doc, pm, an, cdv, ct, osl, h.g_l_told, kp, lk, hcd, B⟩
theorem bEqOk (h : Hd w K mg) : EqOk P w K mg base 7 (He.ga K "Sort") ["self", "other"] (SameS K) := by
  obtain ⟨fd, F⟩ := h.f_Sort_eq
  exact ⟨_, fd, fo_Sort_eq h F, h.m_Sort_eq.at_, h.m_Sort_eq.fn, F.bindsN (fun kV doc pm an cdv ct us hl => by match us, hl with | [a, b], _ => rfl)⟩
theorem fo_l_right (h : Hd w K mg) (TB : LamX.TabB base mg (He.cT K ("_law_right", none)).1 (He.cT K ("_law_right", none)).2) {fd : FuncData} (F : FunD K "_law_right" "_law_right" (defArgs (top 60)) (defBody (top 60)) (defScope (top 60)) [] [] (He.fAd K ("_law_right", none)) fd) : FnOk P w K mg base (L2.CX P w) 18 (He.fAd K ("_law_right", none)) fd ["_law_text_here"] (sp_l_right K (lamT K)) := by
  obtain ⟨oc, od, dV, kV, doc, pm, an, cdv, ct, osl, rfl, lk, hcd, _, _⟩ := F.ex
  obtain ⟨c, rfl⟩ := He.codeIn_ref hcd
  have ec : (He.cT K ("_law_right", none)).1 = c := He.codeOf_eq (p := ("_law_right", none)) lk rfl
  rw [ec] at TB
  exact fn_of lk hcd sc_l_right (by intro vs H Q E e; first | (obtain ⟨rfl, _⟩ := e; rfl) | (obtain ⟨_, rfl, _⟩ := e; rfl) | (obtain ⟨_, _, rfl, _⟩ := e; rfl) | (obtain ⟨_, _, _, rfl, _⟩ := e; rfl) | (obtain ⟨_, _, _, _, rfl, _⟩ := e; rfl) | (obtain ⟨_, _, _, _, _, rfl, _⟩ := e; rfl) | (obtain ⟨_, _, _, _, _, _, rfl, _⟩ := e; rfl) | (obtain ⟨_, _, _, _, _, _, _, rfl, _⟩ := e; rfl) | (obtain ⟨_, _, _, _, _, _, _, _, rfl, _⟩ := e; rfl) | (obtain ⟨_, _, _, _, _, _, _, _, _, rfl, _⟩ := e; rfl) | (obtain ⟨_, _, _, _, _, _, _, _, _, _, rfl, _⟩ := e; rfl) | (obtain ⟨_, _, _, _, _, _, _, _, _, _, _, rfl, _⟩ := e; rfl) | (obtain ⟨_, _, _, _, _, _, _, _, _, _, _, _, rfl, _⟩ := e; rfl)) fun A outer s H vs Q E hr e => ⟨_, (dv_l_right h.T hr rfl TB (bToldOk h) (bG_l_class h) (bG_read_sort h) (bG_l_due h) (bG_l_sort h) (bEqOk h) (bM_Sort_str h)).nox, rd_l_right h.T h.X e⟩
theorem bG_l_right (h : Hd w K mg) (TB : LamX.TabB base mg (He.cT K ("_law_right", none)).1 (He.cT K ("_law_right", none)).2) : DefOk P w K mg base 18 "_law_right" ["_law_text_here"] [] (sp_l_right K (lamT K)) := by
  obtain ⟨fd, F⟩ := h.f_l_right
  exact ⟨_, fd, [], fo_l_right h TB F, h.g_l_right, F.kp, F.bindsN (fun kV doc pm an cdv ct us hl => by match us, hl with | [a], _ => rfl), .nil⟩
theorem fo_law (h : Hd w K mg) (TB : LamX.TabB base mg (He.cT K ("_law_right", none)).1 (He.cT K ("_law_right", none)).2) {fd : FuncData} (F : FunD K "law" "law" (defArgs (top 63)) (defBody (top 63)) (defScope (top 63)) [] [] (He.fAd K ("law", none)) fd) : FnOk P w K mg base (L2.CX P w) 19 (He.fAd K ("law", none)) fd ["_law_script"] (sp_law K (lamT K)) :=
  F.ok (k := 18) sc_law (by intro vs H Q E e; first | (obtain ⟨rfl, _⟩ := e; rfl) | (obtain ⟨_, rfl, _⟩ := e; rfl) | (obtain ⟨_, _, rfl, _⟩ := e; rfl) | (obtain ⟨_, _, _, rfl, _⟩ := e; rfl) | (obtain ⟨_, _, _, _, rfl, _⟩ := e; rfl) | (obtain ⟨_, _, _, _, _, rfl, _⟩ := e; rfl) | (obtain ⟨_, _, _, _, _, _, rfl, _⟩ := e; rfl) | (obtain ⟨_, _, _, _, _, _, _, rfl, _⟩ := e; rfl) | (obtain ⟨_, _, _, _, _, _, _, _, rfl, _⟩ := e; rfl) | (obtain ⟨_, _, _, _, _, _, _, _, _, rfl, _⟩ := e; rfl) | (obtain ⟨_, _, _, _, _, _, _, _, _, _, rfl, _⟩ := e; rfl) | (obtain ⟨_, _, _, _, _, _, _, _, _, _, _, rfl, _⟩ := e; rfl) | (obtain ⟨_, _, _, _, _, _, _, _, _, _, _, _, rfl, _⟩ := e; rfl)) fun cdv A outer s H vs Q E hr e => ⟨_, (dv_law h.T hr (G_l_begun := bG_l_begun h) (G_l_known := bG_l_known h) (G_l_far := bG_l_far h) (G_l_right := bG_l_right h TB) (G_l_sort_rows := bG_l_sort_rows h) (G_l_plain_sort := bG_l_plain_sort h) (G_l_called := bG_l_called h) (G_l_draw := bG_l_draw h) (G_l_bent_rows := bG_l_bent_rows h)).nox, by first | exact rd_law h.T e | exact rd_law e | exact rd_law h.X e⟩
end
end WK
set_option Elab.async false
set_option linter.all false
set_option maxRecDepth 100000
set_option maxHeartbeats 4000000
namespace WK
open PySem PySem.Spec PyProof.Rows L2
section
variable {w : World} {K : PySem.W.Frag} {mg : Str → Option Value}
theorem tx_of {h : Heap} (X : K.In h) (G : h.Ns mainGlobals mg) (c : He.SaysX fal fnl tsl tfl exF w h K) : Tx w K mg := by
  have kd : ∀ (x : Str) (v : He.Dv), (x, v) ∈ [(("days" : Str), He.Dv.int 9999), ("miles", .int 1000000), ("turns", .int 1000000)] → KDct K w (He.ga K "MOST_OF") x (v.v K) := fun x v hx => by
    obtain ⟨es, n, hl, hk, _⟩ := c.t.tab 0 (t := ((fun K => He.ga K "MOST_OF"), ["days", "miles", "turns"])) rfl
    obtain ⟨u, hu, ru⟩ := He.valsB_ok (exF_at c.more 3 rfl) hx
    exact ⟨es, n, u, hl, hk, hu, ru⟩
  exact {
    n_len := He.free_ok X G (c.t.d.fact 0 rfl)
    n_isinstance := He.free_ok X G (c.t.d.fact 1 rfl)
    n_all := He.free_ok X G (c.t.d.fact 2 rfl)
    n_sorted := He.free_ok X G (c.t.d.fact 3 rfl)
    n_str := He.free_ok X G (c.t.d.fact 4 rfl)
    n_int := He.free_ok X G (c.t.d.fact 5 rfl)
    n_tuple := He.free_ok X G (c.t.d.fact 6 rfl)
    n_list := He.free_ok X G (c.t.d.fact 7 rfl)
    n_zip := He.free_ok X G (c.t.d.fact 8 rfl)
    n_range := He.free_ok X G (c.t.d.fact 9 rfl)
    n_enumerate := He.free_ok X G (c.t.d.fact 10 rfl)
    n_bool := He.free_ok X G (c.t.d.fact 11 rfl)
    n_ValueError := He.free_ok X G (c.t.d.fact 12 rfl)
    n_KeyError := He.free_ok X G (c.t.d.fact 13 rfl)
    n_LookupError := He.free_ok X G (c.t.d.fact 14 rfl)
    n_OverflowError := He.free_ok X G (c.t.d.fact 15 rfl)
    g_LETTERS := He.str_ok X G (c.t.d.fact 16 rfl)
    g_FIGURES := He.str_ok X G (c.t.d.fact 17 rfl)
    g_MOST_LETTERS := He.int_ok X G (c.t.d.fact 18 rfl)
    g_MOST_FIGURES := He.int_ok X G (c.t.d.fact 19 rfl)
    g_MOST_PARTS := He.int_ok X G (c.t.d.fact 20 rfl)
    g_MOST_BARRED := He.int_ok X G (c.t.d.fact 21 rfl)
    g_BARRED_WORDS := He.glo_ok X G (c.t.d.fact 22 rfl)
    g_BOUNDS := He.glo_ok X G (c.t.d.fact 23 rfl)
    g_MOST_OF := He.glo_ok X G (c.t.d.fact 24 rfl)
    g_Promise := He.glo_ok X G (c.t.d.fact 25 rfl)
    g_Sort := He.glo_ok X G (c.t.d.fact 26 rfl)
    g_Reader := He.glo_ok X G (c.t.d.fact 27 rfl)
    g_SortReader := He.glo_ok X G (c.t.d.fact 28 rfl)
    g_BadValue := He.glo_ok X G (c.t.d.fact 29 rfl)
    g_BadText := He.glo_ok X G (c.t.d.fact 30 rfl)
    g_NoSuch := He.glo_ok X G (c.t.d.fact 31 rfl)
    g_OutOfOrder := He.glo_ok X G (c.t.d.fact 32 rfl)
    g_Full := He.glo_ok X G (c.t.d.fact 33 rfl)
    k_BARRED := fun H => He.tupB_ok (exF_at c.more 1 rfl) H
    k_BOUNDS := fun H => He.tupB_ok (exF_at c.more 0 rfl) H
    t_BOUNDS := fun H => .inr (.inl ⟨rfl, tyTB_ok (exF_at c.more 2 rfl)⟩)
    m_days := kd "days" (.int 9999) (by simp)
    m_miles := kd "miles" (.int 1000000) (by simp)
    m_turns := kd "turns" (.int 1000000) (by simp)
    cl_Promise := He.cls_ok (c.t.d.fact 71 rfl)
    cl_Sort := He.cls_ok (c.t.d.fact 72 rfl)
    cl_Reader := He.cls_ok (c.t.d.fact 73 rfl)
    cl_SortReader := He.cls_ok (c.t.d.fact 74 rfl)
    na_limits := He.noat_ok (c.t.d.fact 75 rfl)
    na_called := He.noat_ok (c.t.d.fact 76 rfl)
    na_promised := He.noat_ok (c.t.d.fact 77 rfl)
    na_part_rows := He.noat_ok (c.t.d.fact 78 rfl)
    na_barred_pairs := He.noat_ok (c.t.d.fact 79 rfl)
    na_all_words := He.noat_ok (c.t.d.fact 80 rfl)
    na_on_row := He.noat_ok (c.t.d.fact 81 rfl)
    na_taken := He.noat_ok (c.t.d.fact 82 rfl)
    na_heads := He.noat_ok (c.t.d.fact 83 rfl)
    na_parts_read := He.noat_ok (c.t.d.fact 84 rfl)
    na_pairs_read := He.noat_ok (c.t.d.fact 85 rfl)
    ha_P := of_decide_eq_true (exF_at c.more 4 rfl)
    ha_S := of_decide_eq_true (exF_at c.more 5 rfl)
    hn_c := of_decide_eq_true (exF_at c.more 6 rfl)
    ht_c := of_decide_eq_true (exF_at c.more 7 rfl)
    hm_P := of_decide_eq_true (exF_at c.more 8 rfl)
    hm_S := of_decide_eq_true (exF_at c.more 9 rfl)
    is_PP := of_decide_eq_true (exF_at c.more 10 rfl)
    is_SS := of_decide_eq_true (exF_at c.more 11 rfl)
    is_LS := of_decide_eq_true (exF_at c.more 12 rfl)
    is_TS := of_decide_eq_true (exF_at c.more 13 rfl)
    is_II := of_decide_eq_true (exF_at c.more 14 rfl)
    is_NI := of_decide_eq_true (exF_at c.more 15 rfl)
    is_IB := of_decide_eq_true (exF_at c.more 16 rfl)
    is_StSt := of_decide_eq_true (exF_at c.more 17 rfl)
    is_NSt := of_decide_eq_true (exF_at c.more 18 rfl)
    is_BSt := of_decide_eq_true (exF_at c.more 19 rfl)
    is_ISt := of_decide_eq_true (exF_at c.more 20 rfl)
    is_LSt := of_decide_eq_true (exF_at c.more 21 rfl)
    is_TSt := of_decide_eq_true (exF_at c.more 22 rfl)
    is_DSt := of_decide_eq_true (exF_at c.more 23 rfl)
    is_TT := of_decide_eq_true (exF_at c.more 24 rfl)
    is_LT := of_decide_eq_true (exF_at c.more 25 rfl)
    is_LL := of_decide_eq_true (exF_at c.more 26 rfl)
    is_TL := of_decide_eq_true (exF_at c.more 27 rfl)
  }
theorem txe_of {h : Heap} (c : He.SaysX fal fnl tsl tfl exF w h K) : TxE K where
  oex := ⟨oexB_ok (exF_at c.more 28 rfl), of_decide_eq_true (exF_at c.more 29 rfl), of_decide_eq_true (exF_at c.more 30 rfl), of_decide_eq_true (exF_at c.more 31 rfl), exF_at c.more 32 rfl⟩
  na_what := He.noat_ok (c.t.d.fact 86 rfl)
  na_row := He.noat_ok (c.t.d.fact 87 rfl)
  na_word := He.noat_ok (c.t.d.fact 88 rfl)
  xc := ⟨exF_at c.more 33 rfl, of_decide_eq_true (exF_at c.more 34 rfl), of_decide_eq_true (exF_at c.more 35 rfl), of_decide_eq_true (exF_at c.more 30 rfl), exF_at c.more 36 rfl, of_decide_eq_true (exF_at c.more 37 rfl), of_decide_eq_true (exF_at c.more 6 rfl), of_decide_eq_true (exF_at c.more 7 rfl), of_decide_eq_true (exF_at c.more 38 rfl)⟩
  is_BT := of_decide_eq_true (exF_at c.more 39 rfl)
  is_BV := of_decide_eq_true (exF_at c.more 40 rfl)
  exm := of_decide_eq_true (exF_at c.more 41 rfl)
theorem hd_of {h : Heap} (X : K.In h) (G : h.Ns mainGlobals mg) (c : He.SaysX fal fnl tsl tfl exF w h K) : Hd w K mg where
  T := tx_of X G c
  X := txe_of c
  f_is_whole := c.t.d.def_ 0 (d := ⟨("is_whole", none), "is_whole", "is_whole", defArgs (top 15), defBody (top 15), defScope (top 15), [He.Dv.int 1000000], []⟩) rfl
  g_is_whole := He.glo_ok X G (c.t.d.fact 34 rfl)
  f_is_name := c.t.d.def_ 1 (d := ⟨("is_name", none), "is_name", "is_name", defArgs (top 16), defBody (top 16), defScope (top 16), [], []⟩) rfl
  g_is_name := He.glo_ok X G (c.t.d.fact 35 rfl)
  f_number_of := c.t.d.def_ 2 (d := ⟨("number_of", none), "number_of", "number_of", defArgs (top 17), defBody (top 17), defScope (top 17), [], []⟩) rfl
  g_number_of := He.glo_ok X G (c.t.d.fact 36 rfl)
  f_words_of := c.t.d.def_ 3 (d := ⟨("words_of", none), "words_of", "words_of", defArgs (top 18), defBody (top 18), defScope (top 18), [], []⟩) rfl
  g_words_of := He.glo_ok X G (c.t.d.fact 37 rfl)
  f_Promise_str := c.t.d.def_ 4 (d := ⟨("Promise", some "__str__"), "__str__", "Promise.__str__", defArgs (inClass (top 22) 10), defBody (inClass (top 22) 10), defScope (inClass (top 22) 10), [], []⟩) rfl
  m_Promise_str := He.meth_ok (c.t.d.fact 89 rfl)
  f_Reader_init := c.t.d.def_ 5 (d := ⟨("Reader", some "__init__"), "__init__", "Reader.__init__", defArgs (inClass (top 32) 0), defBody (inClass (top 32) 0), defScope (inClass (top 32) 0), [He.Dv.int 1], []⟩) rfl
  f_Reader_ahead := c.t.d.def_ 6 (d := ⟨("Reader", some "ahead"), "ahead", "Reader.ahead", defArgs (inClass (top 32) 1), defBody (inClass (top 32) 1), defScope (inClass (top 32) 1), [], []⟩) rfl
  m_Reader_ahead := He.meth_ok (c.t.d.fact 90 rfl)
  f_Reader_is_over := c.t.d.def_ 7 (d := ⟨("Reader", some "is_over"), "is_over", "Reader.is_over", defArgs (inClass (top 32) 6), defBody (inClass (top 32) 6), defScope (inClass (top 32) 6), [], []⟩) rfl
  m_Reader_is_over := He.meth_ok (c.t.d.fact 91 rfl)
  f_SortReader_init := c.t.d.def_ 8 (d := ⟨("SortReader", some "__init__"), "__init__", "SortReader.__init__", defArgs (inClass (top 35) 0), defBody (inClass (top 35) 0), defScope (inClass (top 35) 0), [], []⟩) rfl
  f_SortReader_first_words := c.t.d.def_ 9 (d := ⟨("SortReader", some "first_words"), "first_words", "SortReader.first_words", defArgs (inClass (top 35) 1), defBody (inClass (top 35) 1), defScope (inClass (top 35) 1), [], []⟩) rfl
  m_SortReader_first_words := He.meth_ok (c.t.d.fact 92 rfl)
  f_BadValue_init := c.t.d.def_ 10 (d := ⟨("BadValue", some "__init__"), "__init__", "BadValue.__init__", defArgs (inClass (top 2) 0), defBody (inClass (top 2) 0), defScope (inClass (top 2) 0), [], []⟩) rfl
  f_l_mixed := c.t.d.def_ 11 (d := ⟨("_law_mixed", none), "_law_mixed", "_law_mixed", defArgs (top 38), defBody (top 38), defScope (top 38), [], []⟩) rfl
  g_l_mixed := He.glo_ok X G (c.t.d.fact 38 rfl)
  f_l_folded := c.t.d.def_ 12 (d := ⟨("_law_folded", none), "_law_folded", "_law_folded", defArgs (top 39), defBody (top 39), defScope (top 39), [], []⟩) rfl
  g_l_folded := He.glo_ok X G (c.t.d.fact 39 rfl)
  f_l_class := c.t.d.def_ 13 (d := ⟨("_law_class", none), "_law_class", "_law_class", defArgs (top 48), defBody (top 48), defScope (top 48), [], []⟩) rfl
  g_l_class := He.glo_ok X G (c.t.d.fact 40 rfl)
  f_l_is_name := c.t.d.def_ 14 (d := ⟨("_law_is_name", none), "_law_is_name", "_law_is_name", defArgs (top 50), defBody (top 50), defScope (top 50), [], []⟩) rfl
  g_l_is_name := He.glo_ok X G (c.t.d.fact 41 rfl)
  f_l_text := c.t.d.def_ 15 (d := ⟨("_law_text", none), "_law_text", "_law_text", defArgs (top 51), defBody (top 51), defScope (top 51), [], []⟩) rfl
  g_l_text := He.glo_ok X G (c.t.d.fact 42 rfl)
  f_l_number_in := c.t.d.def_ 16 (d := ⟨("_law_number_in", none), "_law_number_in", "_law_number_in", defArgs (top 53), defBody (top 53), defScope (top 53), [], []⟩) rfl
  g_l_number_in := He.glo_ok X G (c.t.d.fact 43 rfl)
  f_l_far := c.t.d.def_ 17 (d := ⟨("_law_far", none), "_law_far", "_law_far", defArgs (top 56), defBody (top 56), defScope (top 56), [], []⟩) rfl
  g_l_far := He.glo_ok X G (c.t.d.fact 44 rfl)
  f_l_known := c.t.d.def_ 18 (d := ⟨("_law_known", none), "_law_known", "_law_known", defArgs (top 61), defBody (top 61), defScope (top 61), [], []⟩) rfl
  g_l_known := He.glo_ok X G (c.t.d.fact 45 rfl)
  f_is_row := c.t.d.def_ 19 (d := ⟨("is_row", none), "is_row", "is_row", defArgs (top 27), defBody (top 27), defScope (top 27), [], []⟩) rfl
  g_is_row := He.glo_ok X G (c.t.d.fact 46 rfl)
  f_are_barred := c.t.d.def_ 20 (d := ⟨("are_barred", none), "are_barred", "are_barred", defArgs (top 29), defBody (top 29), defScope (top 29), [], []⟩) rfl
  g_are_barred := He.glo_ok X G (c.t.d.fact 47 rfl)
  f_l_draw := c.t.d.def_ 21 (d := ⟨("_law_draw", none), "_law_draw", "_law_draw", defArgs (top 40), defBody (top 40), defScope (top 40), [], []⟩) rfl
  g_l_draw := He.glo_ok X G (c.t.d.fact 48 rfl)
  f_l_begun := c.t.d.def_ 22 (d := ⟨("_law_begun", none), "_law_begun", "_law_begun", defArgs (top 41), defBody (top 41), defScope (top 41), [], []⟩) rfl
  g_l_begun := He.glo_ok X G (c.t.d.fact 49 rfl)
  f_l_told := c.t.d.def_ 23 (d := ⟨("_law_told", none), "_law_told", "_law_told", defArgs (top 49), defBody (top 49), defScope (top 49), [], []⟩) rfl
  g_l_told := He.glo_ok X G (c.t.d.fact 50 rfl)
  f_l_sort_rows := c.t.d.def_ 24 (d := ⟨("_law_sort_rows", none), "_law_sort_rows", "_law_sort_rows", defArgs (top 52), defBody (top 52), defScope (top 52), [], []⟩) rfl
  g_l_sort_rows := He.glo_ok X G (c.t.d.fact 51 rfl)
  f_l_promise_in := c.t.d.def_ 25 (d := ⟨("_law_promise_in", none), "_law_promise_in", "_law_promise_in", defArgs (top 54), defBody (top 54), defScope (top 54), [], []⟩) rfl
  g_l_promise_in := He.glo_ok X G (c.t.d.fact 52 rfl)
  f_need_promise := c.t.d.def_ 26 (d := ⟨("need_promise", none), "need_promise", "need_promise", defArgs (top 23), defBody (top 23), defScope (top 23), [], []⟩) rfl
  g_need_promise := He.glo_ok X G (c.t.d.fact 53 rfl)
  f_are_parts := c.t.d.def_ 27 (d := ⟨("are_parts", none), "are_parts", "are_parts", defArgs (top 28), defBody (top 28), defScope (top 28), [], []⟩) rfl
  g_are_parts := He.glo_ok X G (c.t.d.fact 54 rfl)
  f_Promise_init := c.t.d.def_ 28 (d := ⟨("Promise", some "__init__"), "__init__", "Promise.__init__", defArgs (inClass (top 22) 0), defBody (inClass (top 22) 0), defScope (inClass (top 22) 0), [He.Dv.non, He.Dv.non, He.Dv.non], []⟩) rfl
  f_l_called := c.t.d.def_ 29 (d := ⟨("_law_called", none), "_law_called", "_law_called", defArgs (top 42), defBody (top 42), defScope (top 42), [], []⟩) rfl
  g_l_called := He.glo_ok X G (c.t.d.fact 55 rfl)
  f_l_limit := c.t.d.def_ 30 (d := ⟨("_law_limit", none), "_law_limit", "_law_limit", defArgs (top 43), defBody (top 43), defScope (top 43), [], []⟩) rfl
  g_l_limit := He.glo_ok X G (c.t.d.fact 56 rfl)
  f_l_bent_words := c.t.d.def_ 31 (d := ⟨("_law_bent_words", none), "_law_bent_words", "_law_bent_words", defArgs (top 55), defBody (top 55), defScope (top 55), [], []⟩) rfl
  g_l_bent_words := He.glo_ok X G (c.t.d.fact 57 rfl)
  f_l_part_in := c.t.d.def_ 32 (d := ⟨("_law_part_in", none), "_law_part_in", "_law_part_in", defArgs (top 58), defBody (top 58), defScope (top 58), [], []⟩) rfl
  g_l_part_in := He.glo_ok X G (c.t.d.fact 58 rfl)
  f_Sort_init := c.t.d.def_ 33 (d := ⟨("Sort", some "__init__"), "__init__", "Sort.__init__", defArgs (inClass (top 30) 0), defBody (inClass (top 30) 0), defScope (inClass (top 30) 0), [He.Dv.non, He.Dv.non], []⟩) rfl
  f_l_limits := c.t.d.def_ 34 (d := ⟨("_law_limits", none), "_law_limits", "_law_limits", defArgs (top 44), defBody (top 44), defScope (top 44), [], []⟩) rfl
  g_l_limits := He.glo_ok X G (c.t.d.fact 59 rfl)
  f_l_row_in := c.t.d.def_ 35 (d := ⟨("_law_row_in", none), "_law_row_in", "_law_row_in", defArgs (top 57), defBody (top 57), defScope (top 57), [], []⟩) rfl
  g_l_row_in := He.glo_ok X G (c.t.d.fact 60 rfl)
  f_l_bent_rows := c.t.d.def_ 36 (d := ⟨("_law_bent_rows", none), "_law_bent_rows", "_law_bent_rows", defArgs (top 62), defBody (top 62), defScope (top 62), [], []⟩) rfl
  g_l_bent_rows := He.glo_ok X G (c.t.d.fact 61 rfl)
  f_BadText_init := c.t.d.def_ 37 (d := ⟨("BadText", some "__init__"), "__init__", "BadText.__init__", defArgs (inClass (top 3) 0), defBody (inClass (top 3) 0), defScope (inClass (top 3) 0), [], []⟩) rfl
  f_l_plain_sort := c.t.d.def_ 38 (d := ⟨("_law_plain_sort", none), "_law_plain_sort", "_law_plain_sort", defArgs (top 45), defBody (top 45), defScope (top 45), [], []⟩) rfl
  g_l_plain_sort := He.glo_ok X G (c.t.d.fact 62 rfl)
  f_l_promise := c.t.d.def_ 39 (d := ⟨("_law_promise", none), "_law_promise", "_law_promise", defArgs (top 46), defBody (top 46), defScope (top 46), [], []⟩) rfl
  g_l_promise := He.glo_ok X G (c.t.d.fact 63 rfl)
  f_l_due := c.t.d.def_ 40 (d := ⟨("_law_due", none), "_law_due", "_law_due", defArgs (top 59), defBody (top 59), defScope (top 59), [], []⟩) rfl
  g_l_due := He.glo_ok X G (c.t.d.fact 64 rfl)
  f_Sort_rows := c.t.d.def_ 41 (d := ⟨("Sort", some "rows"), "rows", "Sort.rows", defArgs (inClass (top 30) 8), defBody (inClass (top 30) 8), defScope (inClass (top 30) 8), [], []⟩) rfl
  m_Sort_rows := He.meth_ok (c.t.d.fact 93 rfl)
  f_SortReader_whole_sort := c.t.d.def_ 42 (d := ⟨("SortReader", some "whole_sort"), "whole_sort", "SortReader.whole_sort", defArgs (inClass (top 35) 3), defBody (inClass (top 35) 3), defScope (inClass (top 35) 3), [], []⟩) rfl
  m_SortReader_whole_sort := He.meth_ok (c.t.d.fact 94 rfl)
  f_l_sort := c.t.d.def_ 43 (d := ⟨("_law_sort", none), "_law_sort", "_law_sort", defArgs (top 47), defBody (top 47), defScope (top 47), [], []⟩) rfl
  g_l_sort := He.glo_ok X G (c.t.d.fact 65 rfl)
  f_Sort_eq := c.t.d.def_ 44 (d := ⟨("Sort", some "__eq__"), "__eq__", "Sort.__eq__", defArgs (inClass (top 30) 9), defBody (inClass (top 30) 9), defScope (inClass (top 30) 9), [], []⟩) rfl
  m_Sort_eq := He.meth_ok (c.t.d.fact 95 rfl)
  f_Sort_str := c.t.d.def_ 45 (d := ⟨("Sort", some "__str__"), "__str__", "Sort.__str__", defArgs (inClass (top 30) 11), defBody (inClass (top 30) 11), defScope (inClass (top 30) 11), [], []⟩) rfl
  m_Sort_str := He.meth_ok (c.t.d.fact 96 rfl)
  f_Reader_refuse := c.t.d.def_ 46 (d := ⟨("Reader", some "refuse"), "refuse", "Reader.refuse", defArgs (inClass (top 32) 2), defBody (inClass (top 32) 2), defScope (inClass (top 32) 2), [], []⟩) rfl
  m_Reader_refuse := He.meth_ok (c.t.d.fact 97 rfl)
  f_Reader_take := c.t.d.def_ 47 (d := ⟨("Reader", some "take"), "take", "Reader.take", defArgs (inClass (top 32) 3), defBody (inClass (top 32) 3), defScope (inClass (top 32) 3), [], []⟩) rfl
  m_Reader_take := He.meth_ok (c.t.d.fact 98 rfl)
  f_Reader_over := c.t.d.def_ 48 (d := ⟨("Reader", some "over"), "over", "Reader.over", defArgs (inClass (top 32) 7), defBody (inClass (top 32) 7), defScope (inClass (top 32) 7), [], []⟩) rfl
  m_Reader_over := He.meth_ok (c.t.d.fact 99 rfl)
  f_pair_in := c.t.d.def_ 49 (d := ⟨("pair_in", none), "pair_in", "pair_in", defArgs (top 34), defBody (top 34), defScope (top 34), [], []⟩) rfl
  g_pair_in := He.glo_ok X G (c.t.d.fact 66 rfl)
  f_Reader_take_name := c.t.d.def_ 50 (d := ⟨("Reader", some "take_name"), "take_name", "Reader.take_name", defArgs (inClass (top 32) 4), defBody (inClass (top 32) 4), defScope (inClass (top 32) 4), [], []⟩) rfl
  m_Reader_take_name := He.meth_ok (c.t.d.fact 100 rfl)
  f_Reader_take_number := c.t.d.def_ 51 (d := ⟨("Reader", some "take_number"), "take_number", "Reader.take_number", defArgs (inClass (top 32) 5), defBody (inClass (top 32) 5), defScope (inClass (top 32) 5), [He.Dv.int 1000000], []⟩) rfl
  m_Reader_take_number := He.meth_ok (c.t.d.fact 101 rfl)
  f_Reader_take_promise := c.t.d.def_ 52 (d := ⟨("Reader", some "take_promise"), "take_promise", "Reader.take_promise", defArgs (inClass (top 32) 8), defBody (inClass (top 32) 8), defScope (inClass (top 32) 8), [], []⟩) rfl
  m_Reader_take_promise := He.meth_ok (c.t.d.fact 102 rfl)
  f_part_in := c.t.d.def_ 53 (d := ⟨("part_in", none), "part_in", "part_in", defArgs (top 33), defBody (top 33), defScope (top 33), [], []⟩) rfl
  g_part_in := He.glo_ok X G (c.t.d.fact 67 rfl)
  f_SortReader_take_row := c.t.d.def_ 54 (d := ⟨("SortReader", some "take_row"), "take_row", "SortReader.take_row", defArgs (inClass (top 35) 2), defBody (inClass (top 35) 2), defScope (inClass (top 35) 2), [], []⟩) rfl
  m_SortReader_take_row := He.meth_ok (c.t.d.fact 103 rfl)
  f_read_sort := c.t.d.def_ 55 (d := ⟨("read_sort", none), "read_sort", "read_sort", defArgs (top 36), defBody (top 36), defScope (top 36), [], []⟩) rfl
  g_read_sort := He.glo_ok X G (c.t.d.fact 68 rfl)
  f_l_right := c.t.d.def_ 56 (d := ⟨("_law_right", none), "_law_right", "_law_right", defArgs (top 60), defBody (top 60), defScope (top 60), [], []⟩) rfl
  g_l_right := He.glo_ok X G (c.t.d.fact 69 rfl)
  f_law := c.t.d.def_ 57 (d := ⟨("law", none), "law", "law", defArgs (top 63), defBody (top 63), defScope (top 63), [], []⟩) rfl
  g_law := He.glo_ok X G (c.t.d.fact 70 rfl)
  k_Promise := He.mkr_ok (c.t.d.fact 104 rfl)
  k_Sort := He.mkr_ok (c.t.d.fact 105 rfl)
  k_Reader := He.mkr_ok (c.t.d.fact 106 rfl)
  k_SortReader := He.mkr_ok (c.t.d.fact 107 rfl)
  c_BV := ⟨_, ⟨of_decide_eq_true (exF_at c.more 42 rfl), exF_at c.more 43 rfl, clsAtB_ok (exF_at c.more 44 rfl), exF_at c.more 45 rfl⟩⟩
  b_BT := of_decide_eq_true (exF_at c.more 46 rfl)
  y_BT := of_decide_eq_true (exF_at c.more 47 rfl)
end
end WK
set_option Elab.async false
set_option linter.all false
set_option maxRecDepth 100000
set_option maxHeartbeats 0
namespace WK
open PySem PySem.Spec PyProof.Rows L2
theorem runAll (w : World) : HandSHeadRun.RunEq RR (PySem.W.view RR.prog [63]) hkX obX 4600 loose w :=
  PySem.W.byRow2 "special-get-raises" (P := fun w => HandSHeadRun.RunEq RR (PySem.W.view RR.prog [63]) hkX obX 4600 loose w) runF runT w
theorem lawAt {w : World} {h : Heap} {mg : Str → Option Value} {fa : Addr} (Y : hkX.says w h) (G : h.Ns mainGlobals mg) (hmg : mg ("law" : Str) = some (.ref fa)) :
    ∃ K : PySem.W.Frag, K.In h ∧ LamX.LawAtS PySem.Challenge.rw_wordkept_k42_whole_any_text_of_sorts w K (L2.CX (PySem.Challenge.rw_wordkept_k42_whole_any_text_of_sorts).prog w) 19 63 "_law_script" mg fa h := by
  obtain ⟨K, X, c⟩ := Y
  have hd := hd_of X G c
  obtain ⟨fd, F⟩ := hd.f_law
  have e := hmg.symm.trans hd.g_law
  cases e
  have b := FunD.bindsA (ps := ["_law_script"]) F fun _ _ _ _ _ _ us hl => match us, hl with | [_], _ => rfl
  have hq : (("_law_right", none) : He.Defn) ∈ tfl := List.mem_singleton.mpr rfl
  have one : ∀ {P : Addr × Addr → Prop}, P (He.cT K ("_law_right", none)) → ∀ p ∈ [He.cT K ("_law_right", none)], P p := fun q p hp => by
    rw [List.mem_singleton.mp hp]
    exact q
  refine ⟨K, X, fd, [He.cT K ("_law_right", none)], sp_law K (lamT K), one (c.empty _ hq), one (c.out _ hq), one (PySem.W.codeHd_of_K X (c.hd _ hq)), fun s u => b s [u] rfl, fun H a ns hl _ hT hS => ⟨a, ns, rfl, hS, hl, hT _ (List.mem_singleton.mpr rfl), fun _ => rfl⟩, fun base hB hG TB => ?_⟩
  exact fo_law hd (TB _ (List.mem_singleton.mpr rfl)) F
end WK
open PySem PySem.W PySem.Calls PyProof.Rows
theorem PySem.Challenge.cw_wordkept_k42_whole_any_text_of_sorts_holds : PySem.Challenge.rw_wordkept_k42_whole_any_text_of_sorts.Holds := by
  w_on; o_law
  refine HandSHeadRun.head_any (r := WK.RR) (q := PySem.W.view WK.RR.prog [63]) (H := WK.hkX) (ob := WK.obX) (M := 4600) (loose := WK.loose) (d := HandSHeadRun.topDef WK.RR.prog 63) (kwd := []) WK.obX_eq
    (by kernel_rfl) (fun s => by kernel_rfl) WK.runAll (by kernel_rfl) (by kernel_rfl) (by kernel_rfl) (by rfl) (by first | assumption | decide +kernel) (by decide +kernel) ⟨rfl, rfl, rfl, rfl, rfl, by decide +kernel⟩ ?hw ?hc
  case hw => w_witness2
  case hc =>
    refine LamX.walk_ofTsE (l := PySem.Challenge.rw_wordkept_k42_whole_any_text_of_sorts) (n := 63) (k := 19) (x := "_law_script") (CX := fun w => L2.CX (PySem.Challenge.rw_wordkept_k42_whole_any_text_of_sorts).prog w) rfl (by decide) (by kernel_rfl) ⟨rfl, by decide, by decide⟩ (fun w mg fa h Y G hmg => ?_) (fun _ _ _ _ _ z => ?_)
    · have e : (HandSHeadRun.topDef WK.RR.prog 63).name = ("law" : PySem.Str) := by kernel_rfl
      rw [e] at hmg
      exact WK.lawAt Y G hmg
    · obtain ⟨_, _, _, _, _, _, _, _, _, _, _, _, z⟩ := z
      exact z
