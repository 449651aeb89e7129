import PyProof.Rows.All
import Wide.All
import OpenK.AllK
import Wide.FinOn
import KE.KStateDown
import HandS.Base
import HandS.Call
import HandS.Ends
import HandS.More
import HandS.Words
import HandS.WordsExc
import HandS.Defaults
import HandS.Head0
import HandS.Head1
import HandS.Head2
import HandS.Head3
import HandS.HeadEnd
import HandS.HeadHook1
import HandS.HeadHook2
import PySem.Challenge.RW_countsforall_k75_whole_plain_values
import HandS.ForMost
import HandS.Exc
import HandS.ExcOwn
import HandS.ExcInit
import HandS.CallSlots
import HandS.Conv
import HandS.IsInst
import HandS.Gcd
import HandS.Wide
import HandS.Style
import HandS.TupAny
import HandS.Codes
import HandS.Lambda
import HandS.EndTab
import HandS.Keys
import HandS.Flow
import HandS.RaiseMore
import HandS.HotCalls
import HandS.ExcField
import HandS.ExcIs
import PyProof.Rows.Digits
import PyProof.ReprRoads
import HandS.Deep
import HandS.CallRecv
import HandS.Dict
import HandS.Iter
import KE.GoesMore
import PyProof.EnumMake
import PyProof.EnumFor
import KE.KIntText
import KE.KTryMore
import PyProof.Rows.StrOr
import HandS.HeadHook4
import HandS.EndBits
set_option Elab.async false
set_option linter.all false
set_option maxRecDepth 100000
set_option maxHeartbeats 0
namespace Hd
open PySem PySem.Spec PyProof.Rows L2
def top (i : Nat) : Stmt := PySem.Challenge.pw_countsforall_k75_whole_plain_values.main.body.getD i (.Pass ⟨0, 0, 0, 0⟩)
def fn : List He.DefD := [
  ⟨("_wall", none), "_wall", "_wall", defArgs (top 1), defBody (top 1), defScope (top 1), [], []⟩,
  ⟨("BadNumber", some "__init__"), "__init__", "BadNumber.__init__", defArgs (inClass (top 4) 0), defBody (inClass (top 4) 0), defScope (inClass (top 4) 0), [], []⟩,
  ⟨("BadRow", some "__init__"), "__init__", "BadRow.__init__", defArgs (inClass (top 5) 0), defBody (inClass (top 5) 0), defScope (inClass (top 5) 0), [], []⟩,
  ⟨("BadTable", some "__init__"), "__init__", "BadTable.__init__", defArgs (inClass (top 6) 0), defBody (inClass (top 6) 0), defScope (inClass (top 6) 0), [], []⟩,
  ⟨("BadSystem", some "__init__"), "__init__", "BadSystem.__init__", defArgs (inClass (top 7) 0), defBody (inClass (top 7) 0), defScope (inClass (top 7) 0), [], []⟩,
  ⟨("BadBook", some "__init__"), "__init__", "BadBook.__init__", defArgs (inClass (top 8) 0), defBody (inClass (top 8) 0), defScope (inClass (top 8) 0), [], []⟩,
  ⟨("BadName", some "__init__"), "__init__", "BadName.__init__", defArgs (inClass (top 9) 0), defBody (inClass (top 9) 0), defScope (inClass (top 9) 0), [], []⟩,
  ⟨("BadText", some "__init__"), "__init__", "BadText.__init__", defArgs (inClass (top 10) 0), defBody (inClass (top 10) 0), defScope (inClass (top 10) 0), [], []⟩,
  ⟨("NoPlace", some "__init__"), "__init__", "NoPlace.__init__", defArgs (inClass (top 11) 0), defBody (inClass (top 11) 0), defScope (inClass (top 11) 0), [], []⟩,
  ⟨("NoName", some "__init__"), "__init__", "NoName.__init__", defArgs (inClass (top 12) 0), defBody (inClass (top 12) 0), defScope (inClass (top 12) 0), [], []⟩,
  ⟨("TakenName", some "__init__"), "__init__", "TakenName.__init__", defArgs (inClass (top 13) 0), defBody (inClass (top 13) 0), defScope (inClass (top 13) 0), [], []⟩,
  ⟨("Unlike", some "__init__"), "__init__", "Unlike.__init__", defArgs (inClass (top 14) 0), defBody (inClass (top 14) 0), defScope (inClass (top 14) 0), [], []⟩,
  ⟨("NotThere", some "__init__"), "__init__", "NotThere.__init__", defArgs (inClass (top 15) 0), defBody (inClass (top 15) 0), defScope (inClass (top 15) 0), [], []⟩,
  ⟨("TooMany", some "__init__"), "__init__", "TooMany.__init__", defArgs (inClass (top 16) 0), defBody (inClass (top 16) 0), defScope (inClass (top 16) 0), [], []⟩,
  ⟨("NotKept", some "__init__"), "__init__", "NotKept.__init__", defArgs (inClass (top 17) 0), defBody (inClass (top 17) 0), defScope (inClass (top 17) 0), [], []⟩,
  ⟨("is_integer", none), "is_integer", "is_integer", defArgs (top 21), defBody (top 21), defScope (top 21), [], []⟩,
  ⟨("is_ratio", none), "is_ratio", "is_ratio", defArgs (top 22), defBody (top 22), defScope (top 22), [], []⟩,
  ⟨("pair", none), "pair", "pair", defArgs (top 23), defBody (top 23), defScope (top 23), [], []⟩,
  ⟨("opposite", none), "opposite", "opposite", defArgs (top 24), defBody (top 24), defScope (top 24), [], []⟩,
  ⟨("sign_of", none), "sign_of", "sign_of", defArgs (top 25), defBody (top 25), defScope (top 25), [], []⟩,
  ⟨("as_tuples", none), "as_tuples", "as_tuples", defArgs (top 27), defBody (top 27), defScope (top 27), [], []⟩,
  ⟨("run_of", none), "run_of", "run_of", defArgs (top 31), defBody (top 31), defScope (top 31), [], []⟩,
  ⟨("end_of_token", none), "end_of_token", "end_of_token", defArgs (top 32), defBody (top 32), defScope (top 32), [], []⟩,
  ⟨("tokens_of", none), "tokens_of", "tokens_of", defArgs (top 33), defBody (top 33), defScope (top 33), [], []⟩,
  ⟨("need_string", none), "need_string", "need_string", defArgs (top 34), defBody (top 34), defScope (top 34), [], []⟩,
  ⟨("is_numeral", none), "is_numeral", "is_numeral", defArgs (top 35), defBody (top 35), defScope (top 35), [], []⟩,
  ⟨("Reader", some "__init__"), "__init__", "Reader.__init__", defArgs (inClass (top 36) 0), defBody (inClass (top 36) 0), defScope (inClass (top 36) 0), [], []⟩,
  ⟨("Reader", some "wrong"), "wrong", "Reader.wrong", defArgs (inClass (top 36) 1), defBody (inClass (top 36) 1), defScope (inClass (top 36) 1), [], []⟩,
  ⟨("Reader", some "peek"), "peek", "Reader.peek", defArgs (inClass (top 36) 2), defBody (inClass (top 36) 2), defScope (inClass (top 36) 2), [], []⟩,
  ⟨("Reader", some "next_is"), "next_is", "Reader.next_is", defArgs (inClass (top 36) 3), defBody (inClass (top 36) 3), defScope (inClass (top 36) 3), [], []⟩,
  ⟨("Reader", some "need"), "need", "Reader.need", defArgs (inClass (top 36) 4), defBody (inClass (top 36) 4), defScope (inClass (top 36) 4), [], []⟩,
  ⟨("Reader", some "numeral"), "numeral", "Reader.numeral", defArgs (inClass (top 36) 5), defBody (inClass (top 36) 5), defScope (inClass (top 36) 5), [], []⟩,
  ⟨("Reader", some "ratio"), "ratio", "Reader.ratio", defArgs (inClass (top 36) 6), defBody (inClass (top 36) 6), defScope (inClass (top 36) 6), [], []⟩,
  ⟨("Reader", some "end"), "end", "Reader.end", defArgs (inClass (top 36) 7), defBody (inClass (top 36) 7), defScope (inClass (top 36) 7), [], []⟩,
  ⟨("Reader", some "letters"), "letters", "Reader.letters", defArgs (inClass (top 36) 8), defBody (inClass (top 36) 8), defScope (inClass (top 36) 8), [], []⟩,
  ⟨("Reader", some "term"), "term", "Reader.term", defArgs (inClass (top 36) 9), defBody (inClass (top 36) 9), defScope (inClass (top 36) 9), [], []⟩,
  ⟨("Reader", some "whole_sum"), "whole_sum", "Reader.whole_sum", defArgs (inClass (top 36) 10), defBody (inClass (top 36) 10), defScope (inClass (top 36) 10), [], []⟩,
  ⟨("Reader", some "relation"), "relation", "Reader.relation", defArgs (inClass (top 36) 11), defBody (inClass (top 36) 11), defScope (inClass (top 36) 11), [], []⟩,
  ⟨("ratio_text", none), "ratio_text", "ratio_text", defArgs (top 37), defBody (top 37), defScope (top 37), [], []⟩,
  ⟨("Mark", some "__init__"), "__init__", "Mark.__init__", defArgs (inClass (top 41) 0), defBody (inClass (top 41) 0), defScope (inClass (top 41) 0), [], []⟩,
  ⟨("is_small", none), "is_small", "is_small", defArgs (top 42), defBody (top 42), defScope (top 42), [], []⟩,
  ⟨("is_plain", none), "is_plain", "is_plain", defArgs (top 43), defBody (top 43), defScope (top 43), [], []⟩,
  ⟨("text_of_value", none), "text_of_value", "text_of_value", defArgs (top 44), defBody (top 44), defScope (top 44), [], []⟩,
  ⟨("value_text", none), "value_text", "value_text", defArgs (top 45), defBody (top 45), defScope (top 45), [], []⟩,
  ⟨("value_in", none), "value_in", "value_in", defArgs (top 46), defBody (top 46), defScope (top 46), [], []⟩,
  ⟨("value_of_text", none), "value_of_text", "value_of_text", defArgs (top 47), defBody (top 47), defScope (top 47), [], []⟩,
  ⟨("_law_pen", none), "_law_pen", "_law_pen", defArgs (top 49), defBody (top 49), defScope (top 49), [], []⟩,
  ⟨("_law_draw", none), "_law_draw", "_law_draw", defArgs (top 50), defBody (top 50), defScope (top 50), [], []⟩,
  ⟨("_law_pick", none), "_law_pick", "_law_pick", defArgs (top 51), defBody (top 51), defScope (top 51), [], []⟩,
  ⟨("_law_is", none), "_law_is", "_law_is", defArgs (top 52), defBody (top 52), defScope (top 52), [], []⟩,
  ⟨("_law_divisor", none), "_law_divisor", "_law_divisor", defArgs (top 53), defBody (top 53), defScope (top 53), [], []⟩,
  ⟨("_law_low", none), "_law_low", "_law_low", defArgs (top 54), defBody (top 54), defScope (top 54), [], []⟩,
  ⟨("_law_pair", none), "_law_pair", "_law_pair", defArgs (top 55), defBody (top 55), defScope (top 55), [], []⟩,
  ⟨("_law_times", none), "_law_times", "_law_times", defArgs (top 56), defBody (top 56), defScope (top 56), [], []⟩,
  ⟨("_law_sign", none), "_law_sign", "_law_sign", defArgs (top 57), defBody (top 57), defScope (top 57), [], []⟩,
  ⟨("_law_is_ratio", none), "_law_is_ratio", "_law_is_ratio", defArgs (top 58), defBody (top 58), defScope (top 58), [], []⟩,
  ⟨("_law_is_whole", none), "_law_is_whole", "_law_is_whole", defArgs (top 59), defBody (top 59), defScope (top 59), [], []⟩,
  ⟨("_law_number", none), "_law_number", "_law_number", defArgs (top 60), defBody (top 60), defScope (top 60), [], []⟩,
  ⟨("_law_wide", none), "_law_wide", "_law_wide", defArgs (top 61), defBody (top 61), defScope (top 61), [], []⟩,
  ⟨("_law_tupled", none), "_law_tupled", "_law_tupled", defArgs (top 62), defBody (top 62), defScope (top 62), [], []⟩,
  ⟨("_law_fault", none), "_law_fault", "_law_fault", defArgs (top 63), defBody (top 63), defScope (top 63), [], []⟩,
  ⟨("_law_kinds", none), "_law_kinds", "_law_kinds", defArgs (top 64), defBody (top 64), defScope (top 64), [], []⟩,
  ⟨("_law_more_kinds", none), "_law_more_kinds", "_law_more_kinds", defArgs (top 65), defBody (top 65), defScope (top 65), [], []⟩,
  ⟨("_law_drawn_value", none), "_law_drawn_value", "_law_drawn_value", defArgs (top 66), defBody (top 66), defScope (top 66), [], []⟩,
  ⟨("_law_tokens_of", none), "_law_tokens_of", "_law_tokens_of", defArgs (top 67), defBody (top 67), defScope (top 67), [], []⟩,
  ⟨("_law_value_words", none), "_law_value_words", "_law_value_words", defArgs (top 68), defBody (top 68), defScope (top 68), [], []⟩,
  ⟨("_law_is_figures", none), "_law_is_figures", "_law_is_figures", defArgs (top 69), defBody (top 69), defScope (top 69), [], []⟩,
  ⟨("_law_read", none), "_law_read", "_law_read", defArgs (top 70), defBody (top 70), defScope (top 70), [], []⟩,
  ⟨("_law_right", none), "_law_right", "_law_right", defArgs (top 71), defBody (top 71), defScope (top 71), [], []⟩,
  ⟨("_law_read_fault", none), "_law_read_fault", "_law_read_fault", defArgs (top 72), defBody (top 72), defScope (top 72), [], []⟩,
  ⟨("_law_deep_right", none), "_law_deep_right", "_law_deep_right", defArgs (top 73), defBody (top 73), defScope (top 73), [], []⟩,
  ⟨("law", none), "law", "law", defArgs (top 74), defBody (top 74), defScope (top 74), [], []⟩]
def fa : List He.Fa := [.glo "_wall", .glo "is_integer", .glo "is_ratio", .glo "pair", .glo "opposite", .glo "sign_of", .glo "as_tuples", .glo "run_of", .glo "end_of_token", .glo "tokens_of", .glo "need_string", .glo "is_numeral", .glo "ratio_text", .glo "is_small", .glo "is_plain", .glo "text_of_value", .glo "value_text", .glo "value_in", .glo "value_of_text", .glo "_law_pen", .glo "_law_draw", .glo "_law_pick", .glo "_law_is", .glo "_law_divisor", .glo "_law_low", .glo "_law_pair", .glo "_law_times", .glo "_law_sign", .glo "_law_is_ratio", .glo "_law_is_whole", .glo "_law_number", .glo "_law_wide", .glo "_law_tupled", .glo "_law_fault", .glo "_law_kinds", .glo "_law_more_kinds", .glo "_law_drawn_value", .glo "_law_tokens_of", .glo "_law_value_words", .glo "_law_is_figures", .glo "_law_read", .glo "_law_right", .glo "_law_read_fault", .glo "_law_deep_right", .glo "law", .glo "CountsError", .glo "BadNumber", .glo "BadRow", .glo "BadTable", .glo "BadSystem", .glo "BadBook", .glo "BadName", .glo "BadText", .glo "NoPlace", .glo "NoName", .glo "TakenName", .glo "Unlike", .glo "NotThere", .glo "TooMany", .glo "NotKept", .glo "NothingToUndo", .glo "NothingToRedo", .glo "Reader", .glo "Mark", .free "len", .free "isinstance", .free "int", .free "abs", .free "tuple", .free "list", .free "range", .free "repr", .free "str", .free "enumerate", .free "all"]
def nm0 : List PySem.Str := ["_wall", "CountsError", "BadNumber", "BadRow", "BadTable", "BadSystem", "BadBook", "BadName", "BadText", "NoPlace", "NoName", "TakenName", "Unlike", "NotThere", "TooMany", "NotKept", "NothingToUndo", "NothingToRedo", "is_integer", "is_ratio", "pair", "opposite", "sign_of", "as_tuples", "FIGURES", "INNER", "run_of", "end_of_token", "tokens_of", "need_string"]
def nm1 : List PySem.Str := ["is_numeral", "Reader", "ratio_text", "MOST_PLAIN", "MOST_NESTED", "Mark", "is_small", "is_plain", "text_of_value", "value_text", "value_in", "value_of_text", "_law_pen", "_law_draw", "_law_pick", "_law_is", "_law_divisor", "_law_low", "_law_pair", "_law_times", "_law_sign", "_law_is_ratio", "_law_is_whole", "_law_number", "_law_wide", "_law_tupled", "_law_fault", "_law_kinds", "_law_more_kinds", "_law_drawn_value"]
def nm2 : List PySem.Str := ["_law_tokens_of", "_law_value_words", "_law_is_figures", "_law_read", "_law_right", "_law_read_fault", "_law_deep_right"]
abbrev names : List PySem.Str := nm0 ++ nm1 ++ nm2
abbrev R : PySem.W.OpenRow := PySem.W.OpenLaw.row PySem.Challenge.rw_countsforall_k75_whole_plain_values
def refs1 (o : Obj) : List Addr := match o.data with
  | .dict es _ => es.toList.flatMap fun e => He.refV e.val
  | .func fd => He.refV fd.code ++ He.refV fd.defaults
  | .cls cd => [cd.ns]
  | _ => []
def step1 (g : Addr → Option Obj) (as : List Addr) : List Addr := as.flatMap fun a => match g a with
  | some o => refs1 o
  | none => []
def asF (g : Addr → Option Obj) : List Addr :=
  let l1 := step1 g [mainGlobals]
  let l2 := step1 g l1
  let l3 := step1 g l2
  mainGlobals :: (l1 ++ (l2 ++ (l3 ++ step1 g l3)))
end Hd
set_option Elab.async false
set_option linter.all false
set_option maxRecDepth 100000
set_option maxHeartbeats 0
namespace L3
open PySem
def mkS (l : List Nat) : Str := ⟨l.toArray⟩
end L3
namespace W75
open PySem PySem.Spec PyProof.Rows L2 LamX L3 Hd
abbrev INNERs : List Nat := ("abcdefghijklmnopqrstuvwxyz0123456789_" : Str).cps.toList
abbrev FIGs : List Nat := ("0123456789" : Str).cps.toList
def exL (cl : Nat → Addr) : List Addr := (List.range 16).map cl
def xfL : List Str := ["number", "row", "what", "name", "line", "word", "index", "paper", "many", "limit", "promise", "witness"]
def xN : List Str := ["BadNumber", "BadRow", "BadTable", "BadSystem", "BadBook", "BadName", "BadText", "NoPlace", "NoName", "TakenName", "Unlike", "NotThere", "TooMany", "NotKept", "NothingToUndo", "NothingToRedo"]
def clK (K : PySem.W.Frag) (i : Nat) : Addr := He.ga K (xN.getD i "")
def ExcP (K : PySem.W.Frag) (C : Addr) : Prop := xfB K C = true ∧ PySem.W.findIn K (.ref C) "__class__" = some (some (.builtin "object.__class__")) ∧ PySem.W.specialIn K (.builtin "object.__class__") "__get__" = some (some (.builtin "getset_descriptor.__get__")) ∧
  PySem.W.takesIn K (.builtin "object.__class__") = some true ∧ PySem.W.mroIn K C (.type "object") = some true ∧ PySem.W.kitOne K (.ref C) (.type "ValueError") = some true ∧ PySem.W.exmOne K (.ref C) (.ref (He.ga K "CountsError")) = some true
instance (K : PySem.W.Frag) (C : Addr) : Decidable (ExcP K C) := by unfold ExcP; infer_instance
def ExN (K : PySem.W.Frag) : Prop := ∀ C ∈ exL (clK K), ∀ n ∈ xfL, PySem.W.findIn K (.ref C) n = some none
instance (K : PySem.W.Frag) : Decidable (ExN K) := by unfold ExN; infer_instance
def ExT (K : PySem.W.Frag) : Prop := ∀ C ∈ exL (clK K), ∀ C' ∈ exL (clK K), PySem.W.kitOne K (.ref C) (.ref C') = some (decide (C = C'))
instance (K : PySem.W.Frag) : Decidable (ExT K) := by unfold ExT; infer_instance
def ExI (K : PySem.W.Frag) : Prop := ∀ i ∈ List.range 16, ∀ j ∈ List.range 16, clK K i = clK K j → i = j
instance (K : PySem.W.Frag) : Decidable (ExI K) := by unfold ExI; infer_instance
def IsP (K : PySem.W.Frag) (C : Addr) : Prop := (PySem.W.findIn K (.ref C) "__class__" = some (some (.builtin "object.__class__")) ∧ PySem.W.specialIn K (.builtin "object.__class__") "__get__" = some (some (.builtin "getset_descriptor.__get__")) ∧
  PySem.W.takesIn K (.builtin "object.__class__") = some true ∧ PySem.W.mroIn K C (.type "object") = some true) ∧ (∀ k ∈ ["NoneType", "bool", "int", "str", "list", "tuple", "dict"], PySem.W.kitOne K (.type k) (.ref C) = some false) ∧
  (∀ n ∈ ["bool", "int", "str", "list", "tuple", "dict"], PySem.W.kitOne K (.ref C) (.type n) = some false) ∧ PySem.W.kitOne K (.ref C) (.ref C) = some true
instance (K : PySem.W.Frag) (C : Addr) : Decidable (IsP K C) := by unfold IsP; infer_instance
def oexB (K : PySem.W.Frag) (C : Addr) : Bool := (match K.lookup C with
  | some ⟨.type t, _, .cls cd, sl⟩ => (match cd.mro, sl.toList with
    | .ref C' :: bm, [_, _, _, _, some (.builtin n), _] => decide (t = "type") && (decide (C' = C) && (decide (n = "ValueError.__new__") && (!cd.hasDel && (cd.hasDict && PySem.HandSPX.refsVE bm))))
    | _, _ => false)
  | _ => false) && decide (PySem.W.findIn K (.ref C) "__setattr__" = some (some (.builtin "object.__setattr__")) ∧ PySem.W.subIn K (.ref C) (.type "BaseException") = some true ∧ PySem.W.typeIn K (.ref C) = some (.type "type") ∧ PySem.W.keepIn K (.ref C) = true)
def IniP (K : PySem.W.Frag) (x f1 f2 : Str) : Prop := oexB K (He.ga K x) = true ∧ PySem.W.findIn K (.ref (He.ga K x)) "__init__" = some (some (.ref (He.ma K (He.ga K x) "__init__"))) ∧ PySem.W.typeIn K (.ref (He.ma K (He.ga K x) "__init__")) = some (.type "function") ∧
  PySem.W.findIn K (.ref (He.ga K x)) f1 = some none ∧ PySem.W.findIn K (.ref (He.ga K x)) f2 = some none
instance (K : PySem.W.Frag) (x f1 f2 : Str) : Decidable (IniP K x f1 f2) := by unfold IniP; infer_instance
def DigP (K : PySem.W.Frag) : Prop := PySem.W.nsOkIn K cStatics = true ∧ PySem.W.nsIn K cStatics "sys.int_max_str_digits" = some none
instance (K : PySem.W.Frag) : Decidable (DigP K) := by unfold DigP; infer_instance
/-! ### the head's Hook -/
def isL : Obj → Bool
  | ⟨.type t, _, _, _⟩ => decide (t = "list")
  | _ => false
def frL (g : Addr → Option Obj) (as : List Addr) : PySem.W.Frag := (He.frT g as).filter fun q => !isL q.2
theorem look_mem {a : Addr} {o : Obj} {q : Addr × Obj → Bool} {l : List (Addr × Obj)} (h : (l.filter q).lookup a = some o) : (a, o) ∈ l ∧ q (a, o) = true := List.mem_filter.mp (He.lookup_mem h)
theorem frL_mem {g : Addr → Option Obj} {as : List Addr} {a : Addr} {o : Obj} (h : (frL g as).lookup a = some o) : g a = some o ∧ He.emptyTab o = false ∧ isL o = false := by
  obtain ⟨h1, h2⟩ := look_mem h
  obtain ⟨h3, h4⟩ := List.mem_filter.mp h1
  exact ⟨He.frG_mem h3, by simpa using h4, by simpa using h2⟩
theorem frL_in {as : List Addr} {h : Heap} : (frL h.get? as).In h := fun _ _ e => (frL_mem e).1
def asK (g : Addr → Option Obj) : List Addr := cStatics :: asF g
def faK : List He.Fa := fa ++ [.free "ValueError", .free "bool", .str "FIGURES" (mkS FIGs), .str "INNER" (mkS INNERs), .int "MOST_PLAIN" 4000, .int "MOST_NESTED" 16, .cls "Reader", .noat "Reader" "tokens", .noat "Reader" "line", .noat "Reader" "most", .noat "Reader" "at",
  .mkr "Reader", .meth "Reader" "wrong", .meth "Reader" "peek", .meth "Reader" "next_is", .meth "Reader" "need", .meth "Reader" "numeral", .meth "Reader" "ratio", .meth "Reader" "end", .cls "Mark", .noat "Mark" "text", .mkr "Mark"]
def tfK : List He.Defn := [("law", none), ("_law_right", none), ("_law_deep_right", none), ("_law_read_fault", none)]
def exK (g : Addr → Option Obj) (K : PySem.W.Frag) : List Bool := [decide (∀ C ∈ exL (clK K), ExcP K C), decide (ExN K), decide (ExT K), decide (ExI K), decide (IsP K (He.ga K "Mark")), decide (IniP K "BadText" "line" "word"), decide (IniP K "BadRow" "what" "row"),
  decide (DigP K), He.eqO (PySem.W.nsIn K mainGlobals "gcd") (some (some (.builtin "math.gcd"))), He.tabsB g tfK K, decide (∀ p ∈ tfK, ∀ q ∈ tfK, (He.cT K p).2 = (He.cT K q).2 → p = q)]
abbrev AlK : Type := He.AlD × List Bool
def obsK (g : Addr → Option Obj) : AlK := (He.obsD faK fn (frL g (asK g)), exK g (frL g (asK g)))
structure SaysK (h : Heap) (K : PySem.W.Frag) : Prop where
  d : He.SaysD faK fn K
  ex : ∀ C ∈ exL (clK K), ExcP K C
  exN : ExN K
  exT : ExT K
  exI : ExI K
  is : IsP K (He.ga K "Mark")
  i1 : IniP K "BadText" "line" "word"
  i2 : IniP K "BadRow" "what" "row"
  dig : DigP K
  gcd : PySem.W.nsIn K mainGlobals "gcd" = some (some (.builtin "math.gcd"))
  hd : ∀ p ∈ tfK, PySem.W.codeHdIn K (He.cT K p).1 (He.cT K p).2 = true
  empty : ∀ p ∈ tfK, h.get? (He.cT K p).2 = some { cls := .none, data := .fields #[] }
  out : ∀ p ∈ tfK, K.lookup (He.cT K p).2 = none
  dist : ∀ p ∈ tfK, ∀ q ∈ tfK, (He.cT K p).2 = (He.cT K q).2 → p = q
  noL : ∀ a o, K.lookup a = some o → isL o = false
theorem saysK_of {h : Heap} (e : obsK h.get? = (He.valD fn, List.replicate 11 true)) : SaysK h (frL h.get? (asK h.get?)) := by
  have e1 : He.obsD faK fn (frL h.get? (asK h.get?)) = He.valD fn := congrArg (fun z : AlK => z.1) e
  have e2 : exK h.get? (frL h.get? (asK h.get?)) = [true, true, true, true, true, true, true, true, true, true, true] := congrArg (fun z : AlK => z.2) e
  unfold exK at e2
  simp only [List.cons.injEq, decide_eq_true_eq, and_true] at e2
  obtain ⟨a1, a2, a3, a4, a5, a6, a7, a8, a9, a10, a11⟩ := e2
  have key : ∀ p ∈ tfK, PySem.W.codeHdIn (frL h.get? (asK h.get?)) (He.cT (frL h.get? (asK h.get?)) p).1 (He.cT (frL h.get? (asK h.get?)) p).2 = true ∧ ∃ o, h.get? (He.cT (frL h.get? (asK h.get?)) p).2 = some o ∧ He.emptyTab o = true := fun p hp => by
    obtain ⟨h3, h4⟩ := He.ba (List.all_eq_true.mp a10 p hp)
    refine ⟨h3, ?_⟩
    cases q : h.get? (He.cT (frL h.get? (asK h.get?)) p).2 with
    | none => rw [q] at h4; cases h4
    | some o => rw [q] at h4; exact ⟨o, rfl, h4⟩
  refine ⟨e1, a1, a2, a3, a4, a5, a6, a7, a8, He.eqO_ok a9, fun p hp => (key p hp).1, fun p hp => ?_, fun p hp => ?_, a11, fun a o q => (frL_mem q).2.2⟩
  · obtain ⟨_, o, q, z⟩ := key p hp
    rw [q, He.emptyTab_eq z]
  · obtain ⟨_, o, q, z⟩ := key p hp
    cases e3 : (frL h.get? (asK h.get?)).lookup (He.cT (frL h.get? (asK h.get?)) p).2 with
    | none => rfl
    | some u =>
      obtain ⟨q1, q2, _⟩ := frL_mem e3
      rw [q] at q1
      cases q1
      rw [z] at q2
      cases q2
def hkK : PySem.W.Hook where
  α := AlK
  obs := fun s => obsK s.heap.get?
  val := fun _ => (He.valD fn, List.replicate 11 true)
  says := fun _ h => ∃ K : PySem.W.Frag, K.In h ∧ SaysK h K
  of := fun _ _ e => ⟨_, frL_in, saysK_of e⟩
  keeps := fun _ _ _ ⟨K, hK, c⟩ k => ⟨K, PySem.W.Frag.In.keeps hK k, ⟨c.d, c.ex, c.exN, c.exT, c.exI, c.is, c.i1, c.i2, c.dig, c.gcd, c.hd, fun p hp => k _ _ (c.empty p hp), c.out, c.dist, c.noL⟩⟩
def obK (s : PySem.W.SharedT) : AlK := obsK (HandSHeadRun.getT s)
theorem obK_eq (s : PySem.W.SharedT) : obK s = hkK.obs s.abs := by
  have e : HandSHeadRun.getT s = s.abs.heap.get? := funext (HandSHeadRun.getT_eq s)
  unfold obK
  rw [e] <;> rfl
theorem run (w : World) : HandSHeadRun.RunEqI R (PySem.W.view R.prog [0, 74]) hkK obK 20000 names w := by
  unfold HandSHeadRun.RunEqI
  kernel_rfl
end W75
set_option Elab.async false
set_option linter.all false
set_option maxRecDepth 100000
set_option maxHeartbeats 1000000
/-! L3: tuples, lists that nobody changes, and immutable objects as values, over the hand layer. -/
namespace L3
open PySem PySem.Spec PyProof.Rows L2 LamX
/-- a value: data (tuples, lists that nobody changes any more), or an object that may change (obj) -/
inductive D where
  | non | bl (b : Bool) | int (i : Int) | str (x : Str) | ty (n : String) | obj (a : Addr)
  | tup (l : List D) | lst (l : List D) | dct (ks : List Key) (vs : List D) | ins (C : Addr) (fs : List Str) (vs : List D)
/-- an object that may change -/
inductive GO where
  | lst (l : List D)
  | scr (l : List D)
  | dct (kvs : List (Key × D))
  | ins (C : Addr) (fs : List (Str × D))
  | xd (fs : List (Str × D))
abbrev Gp := Addr → Option GO
def updG (G : Gp) (a : Addr) (o : GO) : Gp := fun b => if b = a then some o else G b
theorem updG_same {G : Gp} {a : Addr} {o : GO} : updG G a o a = some o := by unfold updG; rw [if_pos rfl]
theorem updG_ne {G : Gp} {a b : Addr} {o : GO} (h : b ≠ a) : updG G a o b = G b := by unfold updG; rw [if_neg h]
theorem updG_updG {G : Gp} {a : Addr} {o u : GO} : updG (updG G a o) a u = updG G a u := by
  funext b; unfold updG; split <;> rfl
def delG (G : Gp) (a : Addr) : Gp := fun b => if b = a then none else G b
theorem delG_same {G : Gp} {a : Addr} : delG G a a = none := by unfold delG; rw [if_pos rfl]
theorem delG_ne {G : Gp} {a b : Addr} (h : b ≠ a) : delG G a b = G b := by unfold delG; rw [if_neg h]
theorem delG_updG {G : Gp} {a : Addr} {o : GO} (h : G a = none) : delG (updG G a o) a = G := by
  funext b
  by_cases e : b = a
  · subst e; rw [delG_same, h]
  · rw [delG_ne e, updG_ne e]
/-- what stays through the whole law -/
structure Wd where
  K : PySem.W.Frag
  T : List (Addr × Str)
def TupAt (K : PySem.W.Frag) (H : Hp) (G : Gp) (a : Addr) (xs : List V) : Prop :=
  (G a = none ∧ H a = some (.tup xs)) ∨
    ∃ (o : Obj) (its : Array Value) (n : Nat), K.lookup a = some o ∧ o.cls = .type "tuple" ∧ o.data = .seq its n ∧ its.size ≤ sizeLine ∧ Vals xs its.toList
theorem TupAt.sq {K : PySem.W.Frag} {H : Hp} {G : Gp} {a : Addr} {xs : List V} (h : TupAt K H G a xs) : SqT K H a xs := by
  rcases h with h | h
  · exact .inl (.inl h.2)
  · exact .inr h
mutual
inductive Rep (K : PySem.W.Frag) (H : Hp) (G : Gp) : V → D → Prop
  | non : Rep K H G .non .non
  | bl (b : Bool) : Rep K H G (.bl b) (.bl b)
  | int (i : Int) : Rep K H G (.int i) (.int i)
  | str (x : Str) : Rep K H G (.str x) (.str x)
  | ty (n : String) : Rep K H G (.ty n) (.ty n)
  | obj (a : Addr) : Rep K H G (.ref a) (.obj a)
  | tup {a : Addr} {xs : List V} {l : List D} : TupAt K H G a xs → Reps K H G xs l → Rep K H G (.ref a) (.tup l)
  | lst {a : Addr} {xs : List V} {l : List D} : G a = none → H a = some (.lst xs) → Reps K H G xs l → Rep K H G (.ref a) (.lst l)
  | dct {a : Addr} {ks : List Key} {xs : List V} {l : List D} : G a = none → H a = some (.dK (ks.zip xs)) → ks.length = xs.length → Reps K H G xs l → Rep K H G (.ref a) (.dct ks l)
  | ins {a C dx : Addr} {fs : List Str} {xs : List V} {l : List D} : G a = none → H a = some (.ins C dx (fs.zip xs)) → fs.length = xs.length → Reps K H G xs l → Rep K H G (.ref a) (.ins C fs l)
inductive Reps (K : PySem.W.Frag) (H : Hp) (G : Gp) : List V → List D → Prop
  | nil : Reps K H G [] []
  | cons {v : V} {vs : List V} {d : D} {ds : List D} : Rep K H G v d → Reps K H G vs ds → Reps K H G (v :: vs) (d :: ds)
end
section
variable {K : PySem.W.Frag} {H H' : Hp} {G G' : Gp}
mutual
theorem Rep.mono (hn : ∀ a o, H a = some o → G a = none → (∀ ps, o ≠ .tbl ps) → (∀ fs, o ≠ .xd fs) → H' a = some o ∧ G' a = none) : ∀ {v : V} {d : D}, Rep K H G v d → Rep K H' G' v d
  | _, _, .non => .non
  | _, _, .bl b => .bl b
  | _, _, .int i => .int i
  | _, _, .str x => .str x
  | _, _, .ty n => .ty n
  | _, _, .obj a => .obj a
  | _, _, .tup h r => .tup (by
      rcases h with ⟨h1, h2⟩ | h
      · have := hn _ _ h2 h1 (fun ps z => by cases z) (fun fs z => by cases z)
        exact .inl ⟨this.2, this.1⟩
      · exact .inr h) (Reps.mono hn r)
  | _, _, .lst h1 h2 r => .lst (hn _ _ h2 h1 (fun ps z => by cases z) (fun fs z => by cases z)).2 (hn _ _ h2 h1 (fun ps z => by cases z) (fun fs z => by cases z)).1 (Reps.mono hn r)
  | _, _, .dct h1 h2 h3 r => .dct (hn _ _ h2 h1 (fun ps z => by cases z) (fun fs z => by cases z)).2 (hn _ _ h2 h1 (fun ps z => by cases z) (fun fs z => by cases z)).1 h3 (Reps.mono hn r)
  | _, _, .ins h1 h2 h3 r => .ins (hn _ _ h2 h1 (fun ps z => by cases z) (fun fs z => by cases z)).2 (hn _ _ h2 h1 (fun ps z => by cases z) (fun fs z => by cases z)).1 h3 (Reps.mono hn r)
theorem Reps.mono (hn : ∀ a o, H a = some o → G a = none → (∀ ps, o ≠ .tbl ps) → (∀ fs, o ≠ .xd fs) → H' a = some o ∧ G' a = none) : ∀ {vs : List V} {ds : List D}, Reps K H G vs ds → Reps K H' G' vs ds
  | _, _, .nil => .nil
  | _, _, .cons r rs => .cons (Rep.mono hn r) (Reps.mono hn rs)
end
theorem Reps.length : ∀ {vs : List V} {ds : List D}, Reps K H G vs ds → vs.length = ds.length
  | _, _, .nil => rfl
  | _, _, .cons _ rs => by simp [Reps.length rs]
theorem Reps.get : ∀ {vs : List V} {ds : List D} {i : Nat} {d : D}, Reps K H G vs ds → ds[i]? = some d → ∃ v, vs[i]? = some v ∧ Rep K H G v d
  | _, _, _, _, .nil, e => by simp at e
  | _, _, 0, _, .cons r _, e => by simp at e; subst e; exact ⟨_, rfl, r⟩
  | _, _, i + 1, d, .cons _ t, e => by
    obtain ⟨u, h1, h2⟩ := Reps.get (i := i) (d := d) t (by simpa using e)
    exact ⟨u, by simpa using h1, h2⟩
theorem Reps.getV : ∀ {vs : List V} {ds : List D} {i : Nat} {v : V}, Reps K H G vs ds → vs[i]? = some v → ∃ d, ds[i]? = some d ∧ Rep K H G v d
  | _, _, _, _, .nil, e => by simp at e
  | _, _, 0, _, .cons r _, e => by simp at e; subst e; exact ⟨_, rfl, r⟩
  | _, _, i + 1, v, .cons _ t, e => by
    obtain ⟨u, h1, h2⟩ := Reps.getV (i := i) (v := v) t (by simpa using e)
    exact ⟨u, by simpa using h1, h2⟩
theorem Reps.append : ∀ {vs us : List V} {ds es : List D}, Reps K H G vs ds → Reps K H G us es → Reps K H G (vs ++ us) (ds ++ es)
  | _, _, _, _, .nil, s => s
  | _, _, _, _, .cons r t, s => .cons r (Reps.append t s)
theorem Reps.take : ∀ {vs : List V} {ds : List D} (n : Nat), Reps K H G vs ds → Reps K H G (vs.take n) (ds.take n)
  | _, _, 0, _ => .nil
  | _, _, _ + 1, .nil => .nil
  | _, _, n + 1, .cons r t => .cons r (Reps.take n t)
theorem Reps.drop : ∀ {vs : List V} {ds : List D} (n : Nat), Reps K H G vs ds → Reps K H G (vs.drop n) (ds.drop n)
  | _, _, 0, r => r
  | _, _, _ + 1, .nil => .nil
  | _, _, n + 1, .cons _ t => Reps.drop n t
theorem Reps.set {v : V} {d : D} (r : Rep K H G v d) : ∀ {vs : List V} {ds : List D} (i : Nat), Reps K H G vs ds → Reps K H G (vs.set i v) (ds.set i d)
  | _, _, _, .nil => .nil
  | _, _, 0, .cons _ t => .cons r t
  | _, _, i + 1, .cons q t => .cons q (Reps.set r i t)
theorem Reps.eraseIdx : ∀ {vs : List V} {ds : List D} (i : Nat), Reps K H G vs ds → Reps K H G (vs.eraseIdx i) (ds.eraseIdx i)
  | _, _, _, .nil => .nil
  | _, _, 0, .cons _ t => t
  | _, _, i + 1, .cons q t => .cons q (Reps.eraseIdx i t)
theorem Reps.dropLast {vs : List V} {ds : List D} (r : Reps K H G vs ds) : Reps K H G vs.dropLast ds.dropLast := by
  rw [List.dropLast_eq_take, List.dropLast_eq_take, r.length]
  exact r.take _
theorem Reps.reverse : ∀ {vs : List V} {ds : List D}, Reps K H G vs ds → Reps K H G vs.reverse ds.reverse
  | _, _, .nil => .nil
  | _, _, .cons r t => by
    rw [List.reverse_cons, List.reverse_cons]
    exact (Reps.reverse t).append (.cons r .nil)
theorem Reps.nil_iff {vs : List V} {ds : List D} (r : Reps K H G vs ds) : vs = [] ↔ ds = [] := by
  cases r <;> simp
/-- flat values -/
theorem Reps.ints : ∀ {ns : List Int} {vs : List V}, Reps K H G vs (ns.map D.int) → vs = ns.map V.int
  | [], _, .nil => rfl
  | _ :: _, _, .cons r t => by
    cases r
    rw [Reps.ints t]
    rfl
theorem Reps.strs : ∀ {ns : List Str} {vs : List V}, Reps K H G vs (ns.map D.str) → vs = ns.map V.str
  | [], _, .nil => rfl
  | _ :: _, _, .cons r t => by
    cases r
    rw [Reps.strs t]
    rfl
theorem Reps.bls : ∀ {ns : List Bool} {vs : List V}, Reps K H G vs (ns.map D.bl) → vs = ns.map V.bl
  | [], _, .nil => rfl
  | _ :: _, _, .cons r t => by
    cases r
    rw [Reps.bls t]
    rfl
theorem Reps.ofInts (ns : List Int) : Reps K H G (ns.map V.int) (ns.map D.int) := by
  induction ns with
  | nil => exact .nil
  | cons n r ih => exact .cons (.int n) ih
theorem Reps.ofStrs (ns : List Str) : Reps K H G (ns.map V.str) (ns.map D.str) := by
  induction ns with
  | nil => exact .nil
  | cons n r ih => exact .cons (.str n) ih
end
/-- fields, entries: the same names in the same order -/
def FReps {κ : Type} (K : PySem.W.Frag) (H : Hp) (G : Gp) (gs : List (κ × V)) (fs : List (κ × D)) : Prop := gs.map (·.1) = fs.map (·.1) ∧ Reps K H G (gs.map (·.2)) (fs.map (·.2))
def ORep (K : PySem.W.Frag) (H : Hp) (G : Gp) (a : Addr) : GO → Prop
  | .lst l => ∃ xs, H a = some (.lst xs) ∧ Reps K H G xs l
  | .scr l => ∃ xs, (∃ o, H a = some (.frz o (.lst xs))) ∧ Reps K H G xs l
  | .dct kvs => ∃ kws, H a = some (.dK kws) ∧ FReps K H G kws kvs
  | .ins C fs => ∃ dx gs, H a = some (.ins C dx gs) ∧ FReps K H G gs fs
  | .xd fs => ∃ gs, H a = some (.xd gs) ∧ FReps K H G gs fs
def GRel (w : Wd) (H : Hp) (G : Gp) : Prop := Tabs w.T H ∧ ∀ a o, G a = some o → ORep w.K H G a o
/-- from a state to a later one -/
structure Step (w : Wd) (H : Hp) (G : Gp) (H' : Hp) (G' : Gp) : Prop where
  keep : ∀ a o, H a = some o → G a = none → (∀ ps, o ≠ .tbl ps) → (∀ fs, o ≠ .xd fs) → H' a = some o
  grow : ∀ a, H' a = none → H a = none ∨ ∃ ps, H a = some (.tbl ps)
  tbl : ∀ a ps, H' a = some (.tbl ps) → H a = none ∨ ∃ ps, H a = some (.tbl ps)
  xdb : ∀ a fs, H' a = some (.xd fs) → G a ≠ none ∨ H a = none ∨ (∃ ps, H a = some (.tbl ps)) ∨ ∃ fs, H a = some (.xd fs)
  new : ∀ a, G' a ≠ none → G a ≠ none ∨ H a = none ∨ (∃ ps, H a = some (.tbl ps)) ∨ ∃ fs, H a = some (.xd fs)
  rel : GRel w H' G'
section
variable {w : Wd} {H H1 H2 H' : Hp} {G G1 G2 G' : Gp}
theorem Step.refl (r : GRel w H G) : Step w H G H G := ⟨fun _ _ h _ _ _ => h, fun _ h => .inl h, fun _ ps h => .inr ⟨ps, h⟩, fun _ fs h => .inr (.inr (.inr ⟨fs, h⟩)), fun _ h => .inl h, r⟩
theorem Step.both (s : Step w H G H' G') : ∀ a o, H a = some o → G a = none → (∀ ps, o ≠ .tbl ps) → (∀ fs, o ≠ .xd fs) → H' a = some o ∧ G' a = none := fun a o h n t t2 =>
  ⟨s.keep a o h n t t2, by
    cases e : G' a with
    | none => rfl
    | some u =>
      rcases s.new a (by rw [e]; intro z; cases z) with z | z | ⟨ps, z⟩ | ⟨fs, z⟩
      · exact absurd n z
      · rw [h] at z; cases z
      · rw [h] at z; cases z; exact absurd rfl (t ps)
      · rw [h] at z; cases z; exact absurd rfl (t2 fs)⟩
theorem Step.trans (a : Step w H G H1 G1) (b : Step w H1 G1 H2 G2) : Step w H G H2 G2 where
  keep := fun c o h n t t2 => by
    obtain ⟨h1, n1⟩ := a.both c o h n t t2
    exact b.keep c o h1 n1 t t2
  grow := fun c h => by
    rcases b.grow c h with z | ⟨ps, z⟩
    · exact a.grow c z
    · exact a.tbl c ps z
  tbl := fun c ps h => by
    rcases b.tbl c ps h with z | ⟨ps, z⟩
    · exact a.grow c z
    · exact a.tbl c ps z
  xdb := fun c fs h => by
    rcases b.xdb c fs h with z | z | ⟨ps, z⟩ | ⟨fs, z⟩
    · exact a.new c z
    · exact .inr ((a.grow c z).imp id .inl)
    · exact .inr ((a.tbl c ps z).imp id .inl)
    · exact a.xdb c fs z
  new := fun c h => by
    rcases b.new c h with z | z | ⟨ps, z⟩ | ⟨fs, z⟩
    · exact a.new c z
    · exact .inr ((a.grow c z).imp id .inl)
    · exact .inr ((a.tbl c ps z).imp id .inl)
    · exact a.xdb c fs z
  rel := b.rel
theorem Rep.step {v : V} {d : D} (r : Rep w.K H G v d) (s : Step w H G H' G') : Rep w.K H' G' v d := Rep.mono s.both r
theorem Reps.step {v : List V} {d : List D} (r : Reps w.K H G v d) (s : Step w H G H' G') : Reps w.K H' G' v d := Reps.mono s.both r
theorem FReps.step {κ : Type} {gs : List (κ × V)} {fs : List (κ × D)} (r : FReps w.K H G gs fs) (s : Step w H G H' G') : FReps w.K H' G' gs fs := ⟨r.1, r.2.step s⟩
theorem FReps.mono {κ : Type} {K : PySem.W.Frag} {gs : List (κ × V)} {fs : List (κ × D)} (r : FReps K H G gs fs) (s : ∀ a o, H a = some o → G a = none → (∀ ps, o ≠ .tbl ps) → (∀ fs, o ≠ .xd fs) → H' a = some o ∧ G' a = none) : FReps K H' G' gs fs := ⟨r.1, r.2.mono s⟩
theorem ORep.mono {K : PySem.W.Frag} {a : Addr} {o : GO} (r : ORep K H G a o) (e : H' a = H a) (s : ∀ a o, H a = some o → G a = none → (∀ ps, o ≠ .tbl ps) → (∀ fs, o ≠ .xd fs) → H' a = some o ∧ G' a = none) : ORep K H' G' a o := by
  cases o with
  | lst l => obtain ⟨xs, h, q⟩ := r; exact ⟨xs, e.trans h, q.mono s⟩
  | scr l => obtain ⟨xs, ⟨o, h⟩, q⟩ := r; exact ⟨xs, ⟨o, e.trans h⟩, q.mono s⟩
  | dct kvs => obtain ⟨kws, h, q⟩ := r; exact ⟨kws, e.trans h, q.mono s⟩
  | ins C fs => obtain ⟨dx, gs, h, q⟩ := r; exact ⟨dx, gs, e.trans h, q.mono s⟩
  | xd fs => obtain ⟨gs, h, q⟩ := r; exact ⟨gs, e.trans h, q.mono s⟩
theorem ORep.there {K : PySem.W.Frag} {a : Addr} {o : GO} (r : ORep K H G a o) : H a ≠ none := by
  cases o with
  | lst l => obtain ⟨xs, h, q⟩ := r; rw [h]; intro z; cases z
  | scr l => obtain ⟨xs, ⟨o, h⟩, q⟩ := r; rw [h]; intro z; cases z
  | dct kvs => obtain ⟨kws, h, q⟩ := r; rw [h]; intro z; cases z
  | ins C fs => obtain ⟨dx, gs, h, q⟩ := r; rw [h]; intro z; cases z
  | xd fs => obtain ⟨gs, h, q⟩ := r; rw [h]; intro z; cases z
theorem ORep.notbl {K : PySem.W.Frag} {a : Addr} {o : GO} (r : ORep K H G a o) (ps : Array Value) : H a ≠ some (.tbl ps) := by
  cases o with
  | lst l => obtain ⟨xs, h, q⟩ := r; rw [h]; intro z; cases z
  | scr l => obtain ⟨xs, ⟨o, h⟩, q⟩ := r; rw [h]; intro z; cases z
  | dct kvs => obtain ⟨kws, h, q⟩ := r; rw [h]; intro z; cases z
  | ins C fs => obtain ⟨dx, gs, h, q⟩ := r; rw [h]; intro z; cases z
  | xd fs => obtain ⟨gs, h, q⟩ := r; rw [h]; intro z; cases z
theorem GRel.free (r : GRel w H G) {a : Addr} (h : H a = none) : G a = none := by
  cases e : G a with
  | none => rfl
  | some o => exact absurd h (r.2 a o e).there
/-- code objects and tables stay where something else is written -/
theorem tabs_upd {T : List (Addr × Str)} {a : Addr} {o : HO} (t : Tabs T H) (h1 : ∀ ps, H a ≠ some (.tbl ps)) (h2 : ∀ c q, H c = some (CodeO c q) → c ≠ a) : Tabs T (upd H a o) := by
  intro p hp
  obtain ⟨ps, e, ok, f⟩ := t p hp
  refine ⟨ps, ?_, ok, fun pos cv hc => ?_⟩
  · rw [upd_ne (fun z => h1 ps (by rw [← z]; exact e))]
    exact e
  · obtain ⟨c, rfl, q⟩ := f pos cv hc
    exact ⟨c, rfl, by rw [upd_ne (h2 c _ q)]; exact q⟩
theorem codeO_not {c : Addr} {q : Str} {o : GO} {K : PySem.W.Frag} {a : Addr} (r : ORep K H G a o) (h : H c = some (CodeO c q)) : c ≠ a := by
  rintro rfl
  cases o with
  | lst l => obtain ⟨xs, h', q⟩ := r; rw [h] at h'; cases h'
  | scr l => obtain ⟨xs, ⟨o, h'⟩, q⟩ := r; rw [h] at h'; cases h'
  | dct kvs => obtain ⟨kws, h', q⟩ := r; rw [h] at h'; cases h'
  | ins C fs => obtain ⟨dx, gs, h', q⟩ := r; rw [h] at h'; cases h'
  | xd fs => obtain ⟨gs, h', q⟩ := r; rw [h] at h'; cases h'
/-- a new object that is data from now on -/
theorem Step.fresh {p : Addr} {o : HO} (r : GRel w H G) (hp : H p = none) : Step w H G (upd H p o) G := by
  have keep : ∀ a u, H a = some u → G a = none → (∀ ps, u ≠ .tbl ps) → (∀ fs, u ≠ .xd fs) → upd H p o a = some u ∧ G a = none := fun a u h n _ _ => ⟨by rw [upd_ne (ne_of_none h hp)]; exact h, n⟩
  refine ⟨fun a u h n t t2 => (keep a u h n t t2).1, fun a h => .inl ?_, fun a ps h => ?_, fun a fs h => ?_, fun a h => .inl h, ⟨tabs_upd r.1 (fun ps z => by rw [hp] at z; cases z) (fun c q e z => by rw [z, hp] at e; cases e), fun a u e => ?_⟩⟩
  · by_cases z : a = p
    · rw [z]; exact hp
    · rwa [upd_ne z] at h
  · by_cases z : a = p
    · rw [z]; exact .inl hp
    · rw [upd_ne z] at h; exact .inr ⟨ps, h⟩
  · by_cases z : a = p
    · rw [z]; exact .inr (.inl hp)
    · rw [upd_ne z] at h; exact .inr (.inr (.inr ⟨fs, h⟩))
  · have q := r.2 a u e
    have ne : a ≠ p := fun z => q.there (by rw [z]; exact hp)
    exact q.mono (upd_ne ne) keep
/-- a new object that is tracked -/
theorem Step.freshG {p : Addr} {o : HO} {u : GO} (r : GRel w H G) (hp : H p = none) (ok : ∀ (H' : Hp) (G' : Gp), H' p = some o → (∀ a u, H a = some u → G a = none → (∀ ps, u ≠ .tbl ps) → (∀ fs, u ≠ .xd fs) → H' a = some u ∧ G' a = none) → ORep w.K H' G' p u) : Step w H G (upd H p o) (updG G p u) := by
  have keep : ∀ a u', H a = some u' → G a = none → (∀ ps, u' ≠ .tbl ps) → (∀ fs, u' ≠ .xd fs) → upd H p o a = some u' ∧ updG G p u a = none := fun a u' h n _ _ => by
    have ne := ne_of_none h hp
    exact ⟨by rw [upd_ne ne]; exact h, by rw [updG_ne ne]; exact n⟩
  refine ⟨fun a u h n t t2 => (keep a u h n t t2).1, fun a h => .inl ?_, fun a ps h => ?_, fun a fs h => ?_, fun a h => ?_, ⟨tabs_upd r.1 (fun ps z => by rw [hp] at z; cases z) (fun c q e z => by rw [z, hp] at e; cases e), fun a v e => ?_⟩⟩
  · by_cases z : a = p
    · rw [z]; exact hp
    · rwa [upd_ne z] at h
  · by_cases z : a = p
    · rw [z]; exact .inl hp
    · rw [upd_ne z] at h; exact .inr ⟨ps, h⟩
  · by_cases z : a = p
    · rw [z]; exact .inr (.inl hp)
    · rw [upd_ne z] at h; exact .inr (.inr (.inr ⟨fs, h⟩))
  · by_cases z : a = p
    · rw [z]; exact .inr (.inl hp)
    · rw [updG_ne z] at h; exact .inl h
  · by_cases z : a = p
    · subst z
      rw [updG_same] at e
      cases e
      exact ok _ _ upd_same keep
    · rw [updG_ne z] at e
      exact (r.2 a v e).mono (upd_ne z) keep
/-- a tracked object is written -/
theorem Step.write {a : Addr} {o : HO} {u u0 : GO} (r : GRel w H G) (h0 : G a = some u0) (ok : ∀ (H' : Hp) (G' : Gp), H' a = some o → (∀ a u, H a = some u → G a = none → (∀ ps, u ≠ .tbl ps) → (∀ fs, u ≠ .xd fs) → H' a = some u ∧ G' a = none) → ORep w.K H' G' a u) : Step w H G (upd H a o) (updG G a u) := by
  have q0 := r.2 a u0 h0
  have keep : ∀ b u', H b = some u' → G b = none → (∀ ps, u' ≠ .tbl ps) → (∀ fs, u' ≠ .xd fs) → upd H a o b = some u' ∧ updG G a u b = none := fun b u' h n _ _ => by
    have ne : b ≠ a := fun z => by rw [z, h0] at n; cases n
    exact ⟨by rw [upd_ne ne]; exact h, by rw [updG_ne ne]; exact n⟩
  refine ⟨fun b u h n t t2 => (keep b u h n t t2).1, fun b h => .inl ?_, fun b ps h => ?_, fun b fs h => ?_, fun b h => ?_, ⟨tabs_upd r.1 q0.notbl (fun c q e => codeO_not q0 e), fun b v e => ?_⟩⟩
  · by_cases z : b = a
    · rw [z, upd_same] at h; cases h
    · rwa [upd_ne z] at h
  · by_cases z : b = a
    · subst z
      exact absurd h ((ok _ _ upd_same keep).notbl ps)
    · rw [upd_ne z] at h; exact .inr ⟨ps, h⟩
  · by_cases z : b = a
    · rw [z, h0]; exact .inl (fun z => by cases z)
    · rw [upd_ne z] at h; exact .inr (.inr (.inr ⟨fs, h⟩))
  · by_cases z : b = a
    · rw [z, h0]; exact .inl (fun z => by cases z)
    · rw [updG_ne z] at h; exact .inl h
  · by_cases z : b = a
    · subst z
      rw [updG_same] at e
      cases e
      exact ok _ _ upd_same keep
    · rw [updG_ne z] at e
      exact (r.2 b v e).mono (upd_ne z) keep
/-- a tracked object is data from now on -/
theorem Step.freeze {a : Addr} (r : GRel w H G) : Step w H G H (delG G a) := by
  have keep : ∀ b u', H b = some u' → G b = none → (∀ ps, u' ≠ .tbl ps) → (∀ fs, u' ≠ .xd fs) → H b = some u' ∧ delG G a b = none := fun b u' h n _ _ => by
    refine ⟨h, ?_⟩
    unfold delG
    split
    · rfl
    · exact n
  refine ⟨fun b u h n t t2 => h, fun b h => .inl h, fun b ps h => .inr ⟨ps, h⟩, fun b fs h => .inr (.inr (.inr ⟨fs, h⟩)), fun b h => ?_, ⟨r.1, fun b v e => ?_⟩⟩
  · by_cases z : b = a
    · rw [z, delG_same] at h; exact absurd rfl h
    · rw [delG_ne z] at h; exact .inl h
  · by_cases z : b = a
    · rw [z, delG_same] at e; cases e
    · rw [delG_ne z] at e
      exact (r.2 b v e).mono rfl keep
end
section
variable {w : Wd} {H : Hp} {G : Gp}
/-- an exception's dict is tracked from now on -/
theorem Step.track {d : Addr} {gs : List (Str × V)} {fs : List (Str × D)} (r : GRel w H G) (hd : H d = some (.xd gs)) (q : FReps w.K H G gs fs) : Step w H G H (updG G d (.xd fs)) := by
  have keep : ∀ b u', H b = some u' → G b = none → (∀ ps, u' ≠ .tbl ps) → (∀ fs, u' ≠ .xd fs) → H b = some u' ∧ updG G d (.xd fs) b = none := fun b u' h n _ t2 => by
    have ne : b ≠ d := fun z => by rw [z, hd] at h; cases h; exact t2 _ rfl
    exact ⟨h, by rw [updG_ne ne]; exact n⟩
  refine ⟨fun b u h n t t2 => h, fun b h => .inl h, fun b ps h => .inr ⟨ps, h⟩, fun b fs h => .inr (.inr (.inr ⟨fs, h⟩)), fun b h => ?_, ⟨r.1, fun b v e => ?_⟩⟩
  · by_cases z : b = d
    · rw [z]; exact .inr (.inr (.inr ⟨gs, hd⟩))
    · rw [updG_ne z] at h; exact .inl h
  · by_cases z : b = d
    · subst z
      rw [updG_same] at e
      cases e
      exact ⟨gs, hd, q.mono keep⟩
    · rw [updG_ne z] at e
      exact (r.2 b v e).mono rfl keep
end
/-! ### states, wishes -/
abbrev S3 := List (Option D)
abbrev K3 := D → Gp → Prop
/-- an exception: its class, its fields -/
abbrev X3 := Addr → List (Str × D) → Gp → Prop
abbrev TE3 := S3 → Gp → K3 → X3 → Prop
abbrev TT3 := S3 → Gp → (Bool → Gp → Prop) → X3 → Prop
abbrev TA3 := S3 → Gp → (List D → Gp → Prop) → X3 → Prop
def RelS (w : Wd) (H : Hp) (G : Gp) (σ : L2.St) (τ : S3) : Prop := σ.length = τ.length ∧ ∀ (i : Nat) (d : D), τ[i]? = some (some d) → ∃ v, σ[i]? = some (some v) ∧ Rep w.K H G v d
theorem RelS.step {w : Wd} {H H' : Hp} {G G' : Gp} {σ : L2.St} {τ : S3} (r : RelS w H G σ τ) (s : Step w H G H' G') : RelS w H' G' σ τ := ⟨r.1, fun i d h => by
  obtain ⟨v, e, q⟩ := r.2 i d h
  exact ⟨v, e, q.step s⟩⟩
theorem RelS.set {w : Wd} {H : Hp} {G : Gp} {σ : L2.St} {τ : S3} {v : V} {d : D} (r : RelS w H G σ τ) (q : Rep w.K H G v d) (i : Nat) : RelS w H G (σ.set i (some v)) (τ.set i (some d)) := by
  refine ⟨by simp [r.1], fun j e h => ?_⟩
  by_cases hj : i = j
  · subst hj
    rw [List.getElem?_set] at h ⊢
    simp only [if_true] at h ⊢
    split at h
    · rename_i hl
      rw [if_pos (by rw [r.1]; exact hl)]
      cases h
      exact ⟨v, rfl, q⟩
    · cases h
  · rw [List.getElem?_set_ne hj] at h ⊢
    exact r.2 j e h
def XRep (w : Wd) (H : Hp) (G : Gp) (cls : Value) (od : Option Addr) (C : Addr) (fs : List (Str × D)) : Prop :=
  cls = .ref C ∧ ((od = none ∧ fs = []) ∨ ∃ d gs, od = some d ∧ G d = none ∧ H d = some (.xd gs) ∧ FReps w.K H G gs fs)
/-- what is wanted of a value, told below -/
def EK (w : Wd) (H : Hp) (G : Gp) (Q3 : K3) (Q : VK) : Prop := ∀ v H' d G', Step w H G H' G' → Rep w.K H' G' v d → Q3 d G' → Q v H'
def TK (w : Wd) (H : Hp) (G : Gp) (Q3 : Bool → Gp → Prop) (Q : Bool → Hp → Prop) : Prop := ∀ b H' G', Step w H G H' G' → Q3 b G' → Q b H'
def AK (w : Wd) (H : Hp) (G : Gp) (Q3 : List D → Gp → Prop) (Q : List V → Hp → Prop) : Prop := ∀ vs H' ds G', Step w H G H' G' → Reps w.K H' G' vs ds → Q3 ds G' → Q vs H'
def XKR (w : Wd) (H : Hp) (G : Gp) (E3 : X3) (E : XK) : Prop := ∀ cls od H' C fs G', Step w H G H' G' → XRep w H' G' cls od C fs → E3 C fs G' → E cls od H'
section
variable {w : Wd} {H H' : Hp} {G G' : Gp}
theorem EK.step {Q3 : K3} {Q : VK} (k : EK w H G Q3 Q) (s : Step w H G H' G') : EK w H' G' Q3 Q := fun v H2 d G2 t r q => k v H2 d G2 (s.trans t) r q
theorem TK.step {Q3 : Bool → Gp → Prop} {Q : Bool → Hp → Prop} (k : TK w H G Q3 Q) (s : Step w H G H' G') : TK w H' G' Q3 Q := fun v H2 G2 t q => k v H2 G2 (s.trans t) q
theorem AK.step {Q3 : List D → Gp → Prop} {Q : List V → Hp → Prop} (k : AK w H G Q3 Q) (s : Step w H G H' G') : AK w H' G' Q3 Q := fun v H2 d G2 t r q => k v H2 d G2 (s.trans t) r q
theorem XKR.step {E3 : X3} {E : XK} (k : XKR w H G E3 E) (s : Step w H G H' G') : XKR w H' G' E3 E := fun c o H2 C fs G2 t r q => k c o H2 C fs G2 (s.trans t) r q
end
def liftE (w : Wd) (E : L2.St → XK) (t : TE3) : TE := fun σ H Q => ∃ τ G Q3 E3, RelS w H G σ τ ∧ GRel w H G ∧ t τ G Q3 E3 ∧ EK w H G Q3 Q ∧ XKR w H G E3 (E σ)
def liftT (w : Wd) (E : L2.St → XK) (t : TT3) : TT := fun σ H Q => ∃ τ G Q3 E3, RelS w H G σ τ ∧ GRel w H G ∧ t τ G Q3 E3 ∧ TK w H G Q3 Q ∧ XKR w H G E3 (E σ)
def liftA (w : Wd) (E : L2.St → XK) (t : TA3) : TA := fun σ H Q => ∃ τ G Q3 E3, RelS w H G σ τ ∧ GRel w H G ∧ t τ G Q3 E3 ∧ AK w H G Q3 Q ∧ XKR w H G E3 (E σ)
/-- weakening -/
theorem PE.imp {X : Cx} {e : Expr} {t t' : TE} (h : PE X e t) (i : ∀ σ H Q, t' σ H Q → t σ H Q) : PE X e t' := ⟨fun pins s σ H Q I q => h.run pins s σ H Q I (i σ H Q q)⟩
theorem PT.imp {X : Cx} {e : Expr} {t t' : TT} (h : PT X e t) (i : ∀ σ H Q, t' σ H Q → t σ H Q) : PT X e t' := ⟨fun pins s σ H Q I q => h.run pins s σ H Q I (i σ H Q q)⟩
theorem PW.imp {X : Cx} {e : Expr} {t t' : TT} (h : PW X e t) (i : ∀ σ H Q, t' σ H Q → t σ H Q) : PW X e t' := ⟨fun wh pins s σ H Q I q => h.run wh pins s σ H Q I (i σ H Q q)⟩
theorem PA.imp {X : Cx} {e : List Expr} {t t' : TA} (h : PA X e t) (i : ∀ σ H Q, t' σ H Q → t σ H Q) : PA X e t' := ⟨fun pos pins s σ H Q I q => h.run pos pins s σ H Q I (i σ H Q q)⟩
theorem PS.imp {X : Cx} {e : Stmt} {t t' : TS} (h : PS X e t) (i : ∀ D σ H, t' D σ H → t D σ H) : PS X e t' := ⟨fun pins s σ H D I q => h.run pins s σ H D I (i D σ H q)⟩
theorem PSs.imp {X : Cx} {e : List Stmt} {t t' : TS} (h : PSs X e t) (i : ∀ D σ H, t' D σ H → t D σ H) : PSs X e t' := ⟨fun pins s σ H D I q => h.run pins s σ H D I (i D σ H q)⟩
end L3
set_option Elab.async false
set_option linter.all false
set_option maxRecDepth 100000
set_option maxHeartbeats 1000000
namespace L3
open PySem PySem.Spec PyProof.Rows L2 LamX
/-! ### values: lists, conversion -/
/-- the items of a list: one that nobody changes, or a tracked one -/
def asL (G : Gp) : D → Option (List D)
  | .lst l => some l
  | .obj a => match G a with
    | some (.lst l) => some l
    | _ => none
  | _ => none
/-- a new list: tracked (m), or one that nobody changes -/
def mkL (m : Bool) (l : List D) (G : Gp) (Q : K3) : Prop := if m = true then ∀ p, G p = none → Q (.obj p) (updG G p (.lst l)) else Q (.lst l) G
section
variable {w : Wd} {H : Hp} {G : Gp}
theorem asL_at {v : V} {d : D} {l : List D} (g : GRel w H G) (q : Rep w.K H G v d) (h : asL G d = some l) : ∃ a xs, v = .ref a ∧ H a = some (.lst xs) ∧ Reps w.K H G xs l := by
  unfold asL at h
  split at h
  · cases h
    cases q with
    | lst h1 h2 r => exact ⟨_, _, rfl, h2, r⟩
  · rename_i a
    cases q
    split at h
    · rename_i e
      cases h
      obtain ⟨xs, h2, r⟩ := g.2 a _ e
      exact ⟨_, _, rfl, h2, r⟩
    · cases h
  · cases h
theorem Reps.fresh {xs : List V} {l : List D} {p : Addr} {o : HO} (g : GRel w H G) (hp : H p = none) (r : Reps w.K H G xs l) : Reps w.K (upd H p o) G xs l := r.step (Step.fresh g hp)
theorem mkL_done {m : Bool} {l : List D} {xs : List V} {p : Addr} {Q3 : K3} {Q : VK} (g : GRel w H G) (hp : H p = none) (r : Reps w.K H G xs l) (h : mkL m l G Q3) (k : EK w H G Q3 Q) : Q (.ref p) (upd H p (.lst xs)) := by
  unfold mkL at h
  split at h
  · exact k _ _ _ _ (Step.freshG (u := .lst l) g hp fun H' G' e mo => ⟨xs, e, r.mono mo⟩) (.obj p) (h p (g.free hp))
  · exact k _ _ _ _ (Step.fresh g hp) (.lst (g.free hp) upd_same (r.fresh g hp)) h
theorem tup_done {l : List D} {xs : List V} {p : Addr} {Q3 : K3} {Q : VK} (g : GRel w H G) (hp : H p = none) (r : Reps w.K H G xs l) (h : Q3 (.tup l) G) (k : EK w H G Q3 Q) : Q (.ref p) (upd H p (.tup xs)) :=
  k _ _ _ _ (Step.fresh g hp) (.tup (.inl ⟨g.free hp, upd_same⟩) (r.fresh g hp)) h
theorem now {v : V} {d : D} {Q3 : K3} {Q : VK} (g : GRel w H G) (r : Rep w.K H G v d) (h : Q3 d G) (k : EK w H G Q3 Q) : Q v H := k _ _ _ _ (Step.refl g) r h
end
/-! ### binary operations -/
abbrev R3 := D → D → Gp → K3 → Prop
def lift2 (w : Wd) (r3 : R3) : R2 := fun x y H Q => ∃ dx dy G Q3, Rep w.K H G x dx ∧ Rep w.K H G y dy ∧ GRel w H G ∧ r3 dx dy G Q3 ∧ EK w H G Q3 Q
def addD (m : Bool) : R3 := fun x y G Q => match x, y with
  | .int i, .int j => Q (.int (i + j)) G
  | .str a, .str b => a.length + b.length ≤ sizeLine ∧ Q (.str (a ++ b)) G
  | .tup a, .tup b => a.length + b.length ≤ sizeLine ∧ Q (.tup (a ++ b)) G
  | x, y => match asL G x, asL G y with
    | some a, some b => a.length + b.length ≤ sizeLine ∧ mkL m (a ++ b) G Q
    | _, _ => False
def subD : R3 := fun x y G Q => match x, y with
  | .int i, .int j => Q (.int (i - j)) G
  | _, _ => False
def MulOk (i j : Int) : Prop := CMul i j ∨ CMulW i j
def mulD (m : Bool) : R3 := fun x y G Q => match x, y with
  | .int i, .int j => MulOk i j ∧ Q (.int (i * j)) G
  | .str a, .int k => a.length = 1 ∧ 2 ≤ k ∧ k ≤ 10000 ∧ Q (.str ⟨(List.replicate k.toNat (a.cps.getD 0 0)).toArray⟩) G
  | .tup _, .int _ => False
  | x, .int k => match asL G x with
    | some l => -(2 ^ 63) ≤ k ∧ k < 2 ^ 63 ∧ l.length * k.toNat ≤ sizeLine ∧ mkL m (List.replicate k.toNat l).flatten G Q
    | _ => False
  | _, _ => False
def DivOk (_ j : Int) : Prop := (j ≠ 0 ∧ j.natAbs < 1073741824) ∨ (0 < j ∧ j.natAbs.log2 < 9000)
def fdivD : R3 := fun x y G Q => match x, y with
  | .int i, .int j => DivOk i j ∧ Q (.int (i.fdiv j)) G
  | _, _ => False
def modD : R3 := fun x y G Q => match x, y with
  | .int i, .int j => j ≠ 0 ∧ Q (.int (i.fmod j)) G
  | _, _ => False
def PowOk (i j : Int) : Prop := 2 ≤ i ∧ 1 ≤ j ∧ Builtin.Int.intTooBig (((Builtin.Int.intBits i : Nat) : Int) * j) = false
def powD : R3 := fun x y G Q => match x, y with
  | .int i, .int j => PowOk i j ∧ Q (.int (i ^ j.toNat)) G
  | _, _ => False
section
variable {X : Cx} {T : List (Addr × Str)}
theorem o_add (m : Bool) : OpR X (binaryOp .Add) (lift2 ⟨X.K, T⟩ (addD m)) := by
  intro pins s σ H x y v u Q I rx ry h
  obtain ⟨dx, dy, G, Q3, qx, qy, g, r, k⟩ := h
  unfold addD at r
  split at r
  · cases qx; cases qy
    exact op_add pins s σ H _ _ v u Q I rx ry ⟨_, _, rfl, rfl, now g (.int _) r k⟩
  · cases qx; cases qy
    exact op_add_str pins s σ H _ _ v u Q I rx ry ⟨_, _, rfl, rfl, r.1, now g (.str _) r.2 k⟩
  · cases qx with
    | tup hx rx' => cases qy with
      | tup hy ry' =>
        refine op_catA pins s σ H _ _ v u Q I rx ry ⟨_, _, _, _, rfl, rfl, hx.sq, hy.sq, ?_, fun e => ?_, fun _ e => ?_, fun _ _ p hp => ?_⟩
        · rw [rx'.length, ry'.length]; exact r.1
        · have e' := rx'.nil_iff.mp e
          subst e'
          exact now g (.tup hy ry') (by simpa using r.2) k
        · have e' := ry'.nil_iff.mp e
          subst e'
          exact now g (.tup hx rx') (by simpa using r.2) k
        · exact tup_done g hp (rx'.append ry') r.2 k
  · split at r
    · rename_i a b ea eb
      obtain ⟨pa, xs, rfl, ha, qa⟩ := asL_at g qx ea
      obtain ⟨pb, ys, rfl, hb, qb⟩ := asL_at g qy eb
      refine op_cat pins s σ H _ _ v u Q I rx ry ⟨_, _, _, _, rfl, rfl, ha, hb, ?_, fun p hp => ?_⟩
      · rw [qa.length, qb.length]; exact r.1
      · exact mkL_done g hp (qa.append qb) r.2 k
    · exact r.elim
theorem o_sub : OpR X (binaryOp .Sub) (lift2 ⟨X.K, T⟩ subD) := by
  intro pins s σ H x y v u Q I rx ry h
  obtain ⟨dx, dy, G, Q3, qx, qy, g, r, k⟩ := h
  unfold subD at r
  split at r
  · cases qx; cases qy
    exact op_sub pins s σ H _ _ v u Q I rx ry ⟨_, _, rfl, rfl, now g (.int _) r k⟩
  · exact r.elim
theorem o_fdiv : OpR X (binaryOp .FloorDiv) (lift2 ⟨X.K, T⟩ fdivD) := by
  intro pins s σ H x y v u Q I rx ry h
  obtain ⟨dx, dy, G, Q3, qx, qy, g, r, k⟩ := h
  unfold fdivD at r
  split at r
  · cases qx; cases qy
    rcases r.1 with c | c
    · exact op_fdivN pins s σ H _ _ v u Q I rx ry ⟨_, _, rfl, rfl, c, now g (.int _) r.2 k⟩
    · have e := r.2
      rw [Int.fdiv_eq_ediv_of_nonneg _ (Int.le_of_lt c.1)] at e
      exact op_fdivW pins s σ H _ _ v u Q I rx ry ⟨_, _, rfl, rfl, c, now g (.int _) e k⟩
  · exact r.elim
theorem o_mod : OpR X (binaryOp .Mod) (lift2 ⟨X.K, T⟩ modD) := by
  intro pins s σ H x y v u Q I rx ry h
  obtain ⟨dx, dy, G, Q3, qx, qy, g, r, k⟩ := h
  unfold modD at r
  split at r
  · cases qx; cases qy
    exact op_modN pins s σ H _ _ v u Q I rx ry ⟨_, _, rfl, rfl, r.1, now g (.int _) r.2 k⟩
  · exact r.elim
theorem o_pow : OpR X (binaryOp .Pow) (lift2 ⟨X.K, T⟩ powD) := by
  intro pins s σ H x y v u Q I rx ry h
  obtain ⟨dx, dy, G, Q3, qx, qy, g, r, k⟩ := h
  unfold powD at r
  split at r
  · rename_i i j
    cases qx; cases qy
    have ho : OpR X (binaryOp .Pow) (rI PowOk fun i j => .int (i ^ j.toNat)) := opI fun i j t u s Q E hc q => by
      obtain ⟨h1, h2, h3⟩ := hc
      exact PySem.AutoIntOps.pow_4 (by omega) (by simp; omega) (by simp; omega) (by simp; omega) (by rw [h3]; decide) q
    exact ho pins s σ H _ _ v u Q I rx ry ⟨_, _, rfl, rfl, r.1, now g (.int _) r.2 k⟩
  · exact r.elim
theorem foldl_one (c : Nat) : ∀ (n : Nat) (acc : List Nat), (List.replicate n #[c]).foldl (· ++ ·) acc.toArray = (acc ++ List.replicate n c).toArray
  | 0, acc => by simp
  | n + 1, acc => by
    rw [List.replicate_succ, List.foldl_cons]
    have e : acc.toArray ++ #[c] = (acc ++ [c]).toArray := by simp
    rw [e, foldl_one c n (acc ++ [c])]
    simp [List.replicate_succ]
theorem o_mul (m : Bool) : OpR X (binaryOp .Mult) (lift2 ⟨X.K, T⟩ (mulD m)) := by
  intro pins s σ H x y v u Q I rx ry h
  obtain ⟨dx, dy, G, Q3, qx, qy, g, r, k⟩ := h
  unfold mulD at r
  split at r
  · rename_i i j
    cases qx; cases qy
    rcases r.1 with c | c
    · exact op_mul pins s σ H _ _ v u Q I rx ry ⟨_, _, rfl, rfl, c, now g (.int _) r.2 k⟩
    · exact op_mulW pins s σ H _ _ v u Q I rx ry ⟨_, _, rfl, rfl, c, now g (.int _) r.2 k⟩
  · rename_i a n
    cases qx; cases qy
    obtain ⟨t, rfl⟩ := rx
    obtain ⟨t', rfl⟩ := ry
    obtain ⟨h1, h2, h3, r⟩ := r
    obtain ⟨arr⟩ := a
    obtain ⟨c, rfl⟩ : ∃ c, arr = #[c] := by
      have h1' : arr.size = 1 := h1
      match arr, h1' with
      | ⟨[c]⟩, _ => exact ⟨c, rfl⟩
    refine PySem.P.mul_str ?_ (fun _ _ => ?_) (fun _ _ => ?_) ?_
    · rw [decide_eq_false (by omega), decide_eq_false (by omega)] <;> rfl
    · intro z
      have z1 : (1 : Int) > (2 ^ 63 - 1) / n := z
      have : 1 * n ≤ 2 ^ 63 - 1 := by omega
      have := (Int.le_ediv_iff_mul_le (show 0 < n by omega)).mpr this
      omega
    · show PySem.Builtin.Str.tooLong (1 * n.toNat) = false
      rw [Nat.one_mul]
      unfold PySem.Builtin.Str.tooLong
      simp
      have : n.toNat ≤ 10000 := by omega
      have : (10000 : Nat) ≤ PySem.sizeLine := by rw [sizeLine_eq]; decide
      omega
    · rw [if_neg (by omega)]
      have e1 : (n == 1 || (⟨#[c]⟩ : Str).length == 0) = false := by
        have : (n == 1) = false := beq_eq_false_iff_ne.mpr (by omega)
        rw [this]; rfl
      rw [if_neg (by rw [e1]; decide)]
      have e2 := foldl_one c n.toNat []
      simp only [List.nil_append] at e2
      have e3 : (⟨(List.replicate n.toNat (⟨#[c]⟩ : Str).cps).foldl (· ++ ·) #[]⟩ : Str) = ⟨(List.replicate n.toNat c).toArray⟩ := congrArg Str.mk e2
      rw [e3]
      refine ⟨?_, ⟨.str _, H, I.tok _, ⟨_, rfl⟩, ?_⟩⟩
      · show (List.replicate n.toNat c).toArray.size ≤ _
        rw [List.size_toArray, List.length_replicate, sizeLine_eq]
        omega
      · exact now g (.str _) r k
  · exact r.elim
  · rename_i d n _ _ _
    cases qy
    split at r
    · rename_i l e
      obtain ⟨p, xs, rfl, hp, q⟩ := asL_at g qx e
      obtain ⟨h1, h2, h3, r⟩ := r
      refine op_rep pins s σ H _ _ v u Q I rx ry ⟨_, _, _, rfl, rfl, hp, h1, h2, (by rw [q.length]; exact h3), fun p hp => ?_⟩
      refine mkL_done g hp ?_ r k
      generalize n.toNat = j
      induction j with
      | zero => exact .nil
      | succ j ih =>
        rw [List.replicate_succ, List.replicate_succ, List.flatten_cons, List.flatten_cons]
        exact q.append ih
    · exact r.elim
  · exact r.elim
end
end L3
set_option Elab.async false
set_option linter.all false
set_option maxRecDepth 100000
set_option maxHeartbeats 1000000
namespace L3
open PySem PySem.Spec PyProof.Rows L2 LamX
/-! ### data -/
mutual
inductive PyOf (G : Gp) : D → PyData → Prop
  | non : PyOf G .non .none
  | bl (b : Bool) : PyOf G (.bl b) (.bool b)
  | int (i : Int) : PyOf G (.int i) (.int i)
  | str (x : Str) : PyOf G (.str x) (.str x)
  | tup {l : List D} {ps : List PyData} : PyAll G l ps → PyOf G (.tup l) (.tuple ps)
  | lst {d : D} {l : List D} {ps : List PyData} : asL G d = some l → PyAll G l ps → PyOf G d (.list ps)
inductive PyAll (G : Gp) : List D → List PyData → Prop
  | nil : PyAll G [] []
  | cons {d : D} {ds : List D} {p : PyData} {ps : List PyData} : PyOf G d p → PyAll G ds ps → PyAll G (d :: ds) (p :: ps)
end
mutual
theorem PyOf.dp {w : Wd} {H : Hp} {G : Gp} (g : GRel w H G) : ∀ {d : D} {p : PyData} {v : V}, PyOf G d p → Rep w.K H G v d → Dp w.K H v p
  | _, _, _, .non, .non => .non
  | _, _, _, .bl b, .bl _ => .bl b
  | _, _, _, .int i, .int _ => .int i
  | _, _, _, .str x, .str _ => .str x
  | _, _, _, .tup h, .tup t r => .tup t.sq (PyAll.dp g h r)
  | d, _, v, .lst e h, r => by
    obtain ⟨a, xs, rfl, ha, q⟩ := asL_at g r e
    exact .lst (SqL.of ha) (PyAll.dp g h q)
theorem PyAll.dp {w : Wd} {H : Hp} {G : Gp} (g : GRel w H G) : ∀ {ds : List D} {ps : List PyData} {vs : List V}, PyAll G ds ps → Reps w.K H G vs ds → DpAll w.K H vs ps
  | _, _, _, .nil, .nil => .nil
  | _, _, _, .cons h t, .cons r rs => .cons (PyOf.dp g h r) (PyAll.dp g t rs)
end
mutual
/-- data's own conversion (nothing that changes within) -/
def py : D → PyData
  | .non => .none
  | .bl b => .bool b
  | .int i => .int i
  | .str x => .str x
  | .tup l => .tuple (pys l)
  | .lst l => .list (pys l)
  | _ => .none
def pys : List D → List PyData
  | [] => []
  | d :: ds => py d :: pys ds
end
mutual
/-- nothing that changes, no class, no instance within -/
def pureD : D → Bool
  | .non => true
  | .bl _ => true
  | .int _ => true
  | .str _ => true
  | .tup l => pureDs l
  | .lst l => pureDs l
  | _ => false
def pureDs : List D → Bool
  | [] => true
  | d :: ds => pureD d && pureDs ds
end
mutual
theorem pyOf_pure {G : Gp} : ∀ {d : D}, pureD d = true → PyOf G d (py d)
  | .non, _ => .non
  | .bl b, _ => .bl b
  | .int i, _ => .int i
  | .str x, _ => .str x
  | .tup l, h => .tup (pyAll_pure (by simpa only [pureD] using h))
  | .lst l, h => .lst rfl (pyAll_pure (by simpa only [pureD] using h))
  | .ty _, h => by simp [pureD] at h
  | .obj _, h => by simp [pureD] at h
  | .dct _ _, h => by simp [pureD] at h
  | .ins _ _ _, h => by simp [pureD] at h
theorem pyAll_pure {G : Gp} : ∀ {ds : List D}, pureDs ds = true → PyAll G ds (pys ds)
  | [], _ => .nil
  | d :: ds, h => by
    simp only [pureDs, Bool.and_eq_true] at h
    exact .cons (pyOf_pure h.1) (pyAll_pure h.2)
end
/-! ### comparisons -/
def isNon : D → Bool
  | .non => true
  | _ => false
def isBl (b : Bool) : D → Bool
  | .bl c => c == b
  | _ => false
def eqD (neg : Bool) : R3 := fun x y G Q => match x, y with
  | .int i, .int j => Q (.bl (if neg then !decide (i = j) else decide (i = j))) G
  | .str a, .str b => Q (.bl (if neg then !decide (a = b) else decide (a = b))) G
  | .bl a, .bl b => Q (.bl (if neg then !decide (a = b) else decide (a = b))) G
  | x, y => (∃ p q, PyOf G x p ∧ PyOf G y q ∧ SeqAt.shaped p = true ∧ SeqAt.shaped q = true ∧ Q (.bl (if neg then !PyData.eqv p q else PyData.eqv p q)) G) ∨
      ∃ l r, asL G x = some l ∧ asL G y = some r ∧ l.length ≠ r.length ∧ Q (.bl neg) G
def ordD (f : Int → Int → Bool) : R3 := fun x y G Q => match x, y with
  | .int i, .int j => Q (.bl (f i j)) G
  | _, _ => False
/-- in: a sign in a text; a flat value among flat ones; data among data -/
def flatD : D → Bool
  | .non => true
  | .bl _ => true
  | .int _ => true
  | .str _ => true
  | _ => false
def eqF : D → D → Bool
  | .non, .non => true
  | .bl a, .bl b => a == b
  | .bl a, .int b => (if a then 1 else 0) == b
  | .int a, .bl b => a == (if b then 1 else 0)
  | .int a, .int b => a == b
  | .str a, .str b => a == b
  | _, _ => false
def inF (x : D) (l : List D) : Bool := l.any fun y => eqF y x
def inD (neg : Bool) : R3 := fun x y G Q => match x, y with
  | .str a, .str z => a.length = 1 ∧ Q (.bl (if neg then !decide (a.cps.getD 0 0 ∈ z.cps.toList) else decide (a.cps.getD 0 0 ∈ z.cps.toList))) G
  | x, .tup l => flatD x = true ∧ l.all flatD = true ∧ Q (.bl (if neg then !inF x l else inF x l)) G
  | x, y => match asL G y with
    | some l => flatD x = true ∧ l.all flatD = true ∧ Q (.bl (if neg then !inF x l else inF x l)) G
    | none => False
def isD (neg : Bool) : R3 := fun x y G Q => match y with
  | .non => Q (.bl (if neg then !isNon x else isNon x)) G
  | .bl b => Q (.bl (if neg then !isBl b x else isBl b x)) G
  | _ => False
section
variable {X : Cx} {T : List (Addr × Str)}
theorem if_neg_b {neg : Bool} {p : Prop} [Decidable p] : (if neg = true then !decide p else decide p) = (if neg = true then !decide p else decide p) := rfl
theorem o_eq (hu : X.A.units + 64 < cLine) : OpR X (compareOp .Eq) (lift2 ⟨X.K, T⟩ (eqD false)) := by
  intro pins s σ H x y v u Q I rx ry h
  obtain ⟨dx, dy, G, Q3, qx, qy, g, r, k⟩ := h
  unfold eqD at r
  split at r
  · cases qx; cases qy
    refine op_eq pins s σ H _ _ v u Q I rx ry ⟨rfl, ?_⟩
    have r' := now g (.bl _) r k
    simpa using r'
  · cases qx; cases qy
    refine op_eq pins s σ H _ _ v u Q I rx ry ⟨rfl, ?_⟩
    have r' := now g (.bl _) r k
    simpa using r'
  · cases qx; cases qy
    refine op_eq pins s σ H _ _ v u Q I rx ry ⟨rfl, ?_⟩
    have r' := now g (.bl _) r k
    simpa using r'
  · rcases r with ⟨p, q, hp, hq, sp, sq, r⟩ | ⟨l, m, el, em, hn, r⟩
    · exact op_eqD hu pins s σ H _ _ v u Q I rx ry ⟨p, q, hp.dp g qx, hq.dp g qy, sp, sq, now g (.bl _) r k⟩
    · obtain ⟨pa, xs, rfl, ha, qa⟩ := asL_at g qx el
      obtain ⟨pb, ys, rfl, hb, qb⟩ := asL_at g qy em
      cases (show v = Value.ref pa from rx)
      cases (show u = Value.ref pb from ry)
      obtain ⟨is1, r1, p1, _⟩ := I.list (SqL.of ha)
      obtain ⟨is2, r2, p2, _⟩ := I.list (SqL.of hb)
      refine SeqAt.eq_list_lengthsAt p1.isList p2.isList ?_ (by omega) ⟨.bl false, H, I, rfl, now g (.bl false) r k⟩
      have h1 := r1.length
      have h2 := r2.length
      have h3 := qa.length
      have h4 := qb.length
      simp
      omega
theorem o_ne (hu : X.A.units + 64 < cLine) : OpR X (compareOp .NotEq) (lift2 ⟨X.K, T⟩ (eqD true)) := by
  intro pins s σ H x y v u Q I rx ry h
  obtain ⟨dx, dy, G, Q3, qx, qy, g, r, k⟩ := h
  unfold eqD at r
  split at r
  · cases qx; cases qy
    refine op_ne pins s σ H _ _ v u Q I rx ry ⟨rfl, ?_⟩
    have r' := now g (.bl _) r k
    simpa using r'
  · cases qx; cases qy
    refine op_ne pins s σ H _ _ v u Q I rx ry ⟨rfl, ?_⟩
    have r' := now g (.bl _) r k
    simpa using r'
  · cases qx; cases qy
    refine op_ne pins s σ H _ _ v u Q I rx ry ⟨rfl, ?_⟩
    have r' := now g (.bl _) r k
    simpa using r'
  · rcases r with ⟨p, q, hp, hq, sp, sq, r⟩ | ⟨l, m, el, em, hn, r⟩
    · exact op_neD hu pins s σ H _ _ v u Q I rx ry ⟨p, q, hp.dp g qx, hq.dp g qy, sp, sq, now g (.bl _) r k⟩
    · obtain ⟨pa, xs, rfl, ha, qa⟩ := asL_at g qx el
      obtain ⟨pb, ys, rfl, hb, qb⟩ := asL_at g qy em
      cases (show v = Value.ref pa from rx)
      cases (show u = Value.ref pb from ry)
      obtain ⟨is1, r1, p1, _⟩ := I.list (SqL.of ha)
      obtain ⟨is2, r2, p2, _⟩ := I.list (SqL.of hb)
      refine SeqAt.RcNeAt.lists_lengths p1.isList p2.isList ?_ (by omega) _ _ _ _ ⟨.bl true, H, I, rfl, now g (.bl true) r k⟩
      have h1 := r1.length
      have h2 := r2.length
      have h3 := qa.length
      have h4 := qb.length
      simp
      omega
theorem o_ord {op : CmpOp} {f : Int → Int → Bool} (ho : OpR X (compareOp op) (rI0 fun i j => .bl (f i j))) : OpR X (compareOp op) (lift2 ⟨X.K, T⟩ (ordD f)) := by
  intro pins s σ H x y v u Q I rx ry h
  obtain ⟨dx, dy, G, Q3, qx, qy, g, r, k⟩ := h
  unfold ordD at r
  split at r
  · cases qx; cases qy
    exact ho pins s σ H _ _ v u Q I rx ry ⟨_, _, rfl, rfl, now g (.bl _) r k⟩
  · exact r.elim
theorem flat_rep {w : Wd} {H : Hp} {G : Gp} : ∀ {x : V} {d : D}, Rep w.K H G x d → flatD d = true → flatV x = true ∧ ∀ {y : V} {e : D}, Rep w.K H G y e → flatD e = true → eqV x y = eqF d e
  | _, _, .non, _ => ⟨rfl, fun q f => by cases q <;> first | rfl | (simp [flatD] at f)⟩
  | _, _, .bl b, _ => ⟨rfl, fun q f => by cases q <;> first | rfl | (simp [flatD] at f)⟩
  | _, _, .int i, _ => ⟨rfl, fun q f => by cases q <;> first | rfl | (simp [flatD] at f)⟩
  | _, _, .str z, _ => ⟨rfl, fun q f => by cases q <;> first | rfl | (simp [flatD] at f)⟩
  | _, _, .ty _, f => by simp [flatD] at f
  | _, _, .obj _, f => by simp [flatD] at f
  | _, _, .tup _ _, f => by simp [flatD] at f
  | _, _, .lst _ _ _, f => by simp [flatD] at f
  | _, _, .dct _ _ _ _, f => by simp [flatD] at f
  | _, _, .ins _ _ _ _, f => by simp [flatD] at f
theorem flats_rep {w : Wd} {H : Hp} {G : Gp} {x : V} {d : D} (rx : Rep w.K H G x d) (fx : flatD d = true) : ∀ {xs : List V} {l : List D}, Reps w.K H G xs l → l.all flatD = true → xs.all flatV = true ∧ inV x xs = inF d l
  | _, _, .nil, _ => ⟨rfl, rfl⟩
  | _, _, .cons r rs, f => by
    rw [List.all_cons, Bool.and_eq_true] at f
    have h1 := flat_rep r f.1
    have h2 := flats_rep rx fx rs f.2
    refine ⟨by rw [List.all_cons, h1.1, h2.1] <;> rfl, ?_⟩
    have h3 := h2.2
    unfold inV inF at h3 ⊢
    rw [List.any_cons, List.any_cons, h1.2 rx fx, h3]
theorem o_in : OpR X (compareOp .In) (lift2 ⟨X.K, T⟩ (inD false)) := by
  intro pins s σ H x y v u Q I rx ry h
  obtain ⟨dx, dy, G, Q3, qx, qy, g, r, k⟩ := h
  unfold inD at r
  split at r
  · rename_i a z
    cases qx; cases qy
    obtain ⟨h1, r⟩ := r
    obtain ⟨arr⟩ := a
    obtain ⟨c, rfl⟩ : ∃ c, arr = #[c] := by
      have h1' : arr.size = 1 := h1
      match arr, h1' with
      | ⟨[c]⟩, _ => exact ⟨c, rfl⟩
    exact op_in_sign pins s σ H _ _ v u Q I rx ry ⟨c, z, rfl, rfl, by have r' := now g (.bl _) r k; simpa using r'⟩
  · cases qy with
    | tup hy ry' =>
      obtain ⟨h1, h2, r⟩ := r
      have f1 := flat_rep qx h1
      have f2 := flats_rep qx h1 ry' h2
      refine op_in_seq pins s σ H _ _ v u Q I rx ry ⟨_, _, rfl, .inr hy.sq, f1.1, f2.1, ?_⟩
      rw [f2.2]
      have r' := now g (.bl _) r k
      simpa using r'
  · split at r
    · rename_i l e
      obtain ⟨p, xs, rfl, hp, q⟩ := asL_at g qy e
      obtain ⟨h1, h2, r⟩ := r
      have f1 := flat_rep qx h1
      have f2 := flats_rep qx h1 q h2
      refine op_in_seq pins s σ H _ _ v u Q I rx ry ⟨_, _, rfl, .inl (SqL.of hp), f1.1, f2.1, ?_⟩
      rw [f2.2]
      have r' := now g (.bl _) r k
      simpa using r'
    · exact r.elim
theorem o_notIn : OpR X (compareOp .NotIn) (lift2 ⟨X.K, T⟩ (inD true)) := by
  intro pins s σ H x y v u Q I rx ry h
  obtain ⟨dx, dy, G, Q3, qx, qy, g, r, k⟩ := h
  unfold inD at r
  split at r
  · rename_i a z
    cases qx; cases qy
    obtain ⟨h1, r⟩ := r
    obtain ⟨arr⟩ := a
    obtain ⟨c, rfl⟩ : ∃ c, arr = #[c] := by
      have h1' : arr.size = 1 := h1
      match arr, h1' with
      | ⟨[c]⟩, _ => exact ⟨c, rfl⟩
    exact op_notIn_sign pins s σ H _ _ v u Q I rx ry ⟨c, z, rfl, rfl, by have r' := now g (.bl _) r k; simpa using r'⟩
  · cases qy with
    | tup hy ry' =>
      obtain ⟨h1, h2, r⟩ := r
      have f1 := flat_rep qx h1
      have f2 := flats_rep qx h1 ry' h2
      refine op_notIn_seq pins s σ H _ _ v u Q I rx ry ⟨_, _, rfl, .inr hy.sq, f1.1, f2.1, ?_⟩
      rw [f2.2]
      have r' := now g (.bl _) r k
      simpa using r'
  · split at r
    · rename_i l e
      obtain ⟨p, xs, rfl, hp, q⟩ := asL_at g qy e
      obtain ⟨h1, h2, r⟩ := r
      have f1 := flat_rep qx h1
      have f2 := flats_rep qx h1 q h2
      refine op_notIn_seq pins s σ H _ _ v u Q I rx ry ⟨_, _, rfl, .inl (SqL.of hp), f1.1, f2.1, ?_⟩
      rw [f2.2]
      have r' := now g (.bl _) r k
      simpa using r'
    · exact r.elim
theorem plainIs_bl {x : V} {v : Value} (rv : RelV x v) (b : Bool) : plainIs v (.bool b) = true := by
  cases x with
  | bl c => cases (show v = Value.bool c from rv); rfl
  | non => cases (show v = Value.none from rv); rfl
  | int i => obtain ⟨t, rfl⟩ := rv; rfl
  | str i => obtain ⟨t, rfl⟩ := rv; rfl
  | byt i => obtain ⟨t, rfl⟩ := rv; rfl
  | flt i => obtain ⟨t, rfl⟩ := rv; rfl
  | ty n => cases (show v = Value.type n from rv); rfl
  | ref a => cases (show v = Value.ref a from rv); rfl
theorem isBl_eq {w : Wd} {H : Hp} {G : Gp} {x : V} {d : D} {v : Value} (r : Rep w.K H G x d) (rv : RelV x v) (b : Bool) : (v == Value.bool b) = isBl b d := by
  cases r with
  | bl c => cases (show v = Value.bool c from rv); cases c <;> cases b <;> rfl
  | non => cases (show v = Value.none from rv); rfl
  | int i => obtain ⟨t, rfl⟩ := rv; rfl
  | str i => obtain ⟨t, rfl⟩ := rv; rfl
  | ty n => cases (show v = Value.type n from rv); rfl
  | obj a => cases (show v = Value.ref a from rv); rfl
  | tup _ _ => cases (show v = Value.ref _ from rv); rfl
  | lst _ _ _ => cases (show v = Value.ref _ from rv); rfl
  | dct _ _ _ _ => cases (show v = Value.ref _ from rv); rfl
  | ins _ _ _ _ => cases (show v = Value.ref _ from rv); rfl
theorem isNon_eq {w : Wd} {H : Hp} {G : Gp} {x : V} {d : D} (r : Rep w.K H G x d) : decide (x = .non) = isNon d := by
  cases r <;> rfl
theorem o_is : OpR X (compareOp .Is) (lift2 ⟨X.K, T⟩ (isD false)) := by
  intro pins s σ H x y v u Q I rx ry h
  obtain ⟨dx, dy, G, Q3, qx, qy, g, r, k⟩ := h
  unfold isD at r
  split at r
  · cases qy
    refine op_isN pins s σ H _ _ v u Q I rx ry ⟨rfl, ?_⟩
    rw [isNon_eq qx]
    have r' := now g (.bl _) r k
    simpa using r'
  · rename_i b
    cases qy
    cases (show u = Value.bool b from ry)
    refine PySem.wpAny_is_plain (plainIs_bl rx b) ?_
    rw [isBl_eq qx rx]
    refine ⟨.bl _, H, I, rfl, ?_⟩
    have r' := now g (.bl _) r k
    simpa using r'
  · exact r.elim
theorem o_isNot : OpR X (compareOp .IsNot) (lift2 ⟨X.K, T⟩ (isD true)) := by
  intro pins s σ H x y v u Q I rx ry h
  obtain ⟨dx, dy, G, Q3, qx, qy, g, r, k⟩ := h
  unfold isD at r
  split at r
  · cases qy
    refine op_notN pins s σ H _ _ v u Q I rx ry ⟨rfl, ?_⟩
    rw [isNon_eq qx]
    have r' := now g (.bl _) r k
    simpa using r'
  · rename_i b
    cases qy
    cases (show u = Value.bool b from ry)
    refine PySem.wpAny_isNot_plain (plainIs_bl rx b) ?_
    have e := isBl_eq qx rx b
    refine ⟨.bl (!(v == Value.bool b)), H, I, rfl, ?_⟩
    rw [e]
    have r' := now g (.bl _) r k
    simpa using r'
  · exact r.elim
end
end L3
set_option Elab.async false
set_option linter.all false
set_option maxRecDepth 100000
set_option maxHeartbeats 1000000
namespace L3
open PySem PySem.Spec PyProof.Rows L2 LamX
/-! ### one value -/
abbrev R1 := D → Gp → K3 → Prop
def lift1 (w : Wd) (r3 : R1) : V → Hp → VK → Prop := fun x H Q => ∃ dx G Q3, Rep w.K H G x dx ∧ GRel w H G ∧ r3 dx G Q3 ∧ EK w H G Q3 Q
def negD : R1 := fun x G Q => match x with
  | .int i => Q (.int (-i)) G
  | _ => False
/-- a value's truth -/
def truD (G : Gp) : D → Option Bool
  | .non => some false
  | .bl b => some b
  | .int i => some (i != 0)
  | .tup l => some !l.isEmpty
  | .lst l => some !l.isEmpty
  | .obj a => match G a with
    | some (.lst l) => some !l.isEmpty
    | _ => none
  | _ => none
/-! ### subscripts -/
def valD (kvs : List (Key × D)) (k : Key) : Option D := (kvs.find? fun kv => decide (kv.1 = k)).map (·.2)
def putD (kvs : List (Key × D)) (k : Key) (v : D) : List (Key × D) :=
  if (kvs.any fun kv => decide (kv.1 = k)) = true then kvs.map (fun kv => if kv.1 = k then (kv.1, v) else kv) else kvs ++ [(k, v)]
def ixD : R3 := fun x y G Q => match x, y with
  | .tup l, .int i => match atI l i with
    | some d => Q d G
    | none => False
  | .str z, .int i => match atI z.cps.toList i with
    | some c => z.length ≤ sizeLine ∧ Q (.str ⟨#[c]⟩) G
    | none => False
  | .obj a, .str k => match G a with
    | some (.dct kvs) => (match valD kvs (.inr k) with
      | some d => Q d G
      | none => False)
    | _ => False
  | x, .int i => match asL G x with
    | some l => (match atI l i with
      | some d => Q d G
      | none => False)
    | none => False
  | _, _ => False
def cutL {α : Type} (xs : List α) (lo hi : Option Int) : List α := (xs.drop (HT.sIx xs.length 0 lo)).take (HT.sIx xs.length xs.length hi - HT.sIx xs.length 0 lo)
def slD (m : Bool) : D → Option Int → Option Int → Gp → K3 → Prop := fun x lo hi G Q => match x with
  | .tup l => Q (.tup (cutL l lo hi)) G
  | .str z => z.length ≤ sizeLine ∧ Q (.str ⟨(cutL z.cps.toList lo hi).toArray⟩) G
  | x => match asL G x with
    | some l => mkL m (cutL l lo hi) G Q
    | none => False
section
variable {w : Wd} {H : Hp} {G : Gp}
theorem atI_rep {xs : List V} {l : List D} {i : Int} {d : D} (r : Reps w.K H G xs l) (h : atI l i = some d) : ∃ v, atI xs i = some v ∧ Rep w.K H G v d := by
  unfold atI at h ⊢
  rw [r.length]
  cases e : ixN l.length i with
  | none => rw [e] at h; cases h
  | some j =>
    rw [e] at h
    exact r.get h
theorem cut_rep {xs : List V} {l : List D} {lo hi : Option Int} (r : Reps w.K H G xs l) : Reps w.K H G (cutV xs lo hi) (cutL l lo hi) := by
  unfold cutV cutL
  rw [r.length]
  exact (r.drop _).take _
theorem frep_val {kws : List (Key × V)} {kvs : List (Key × D)} (r : FReps w.K H G kws kvs) (k : Key) : ∀ {d : D}, valD kvs k = some d → ∃ v, valV kws k = some v ∧ Rep w.K H G v d := by
  obtain ⟨h1, h2⟩ := r
  induction kws generalizing kvs with
  | nil =>
    cases kvs with
    | nil => intro d h; cases h
    | cons a b => simp at h1
  | cons p r ih =>
    cases kvs with
    | nil => simp at h1
    | cons q t =>
      intro d h
      simp only [List.map_cons, List.cons.injEq] at h1
      rw [List.map_cons, List.map_cons] at h2
      cases h2 with
      | cons r1 r2 =>
        unfold valD valV at *
        rw [List.find?_cons] at h ⊢
        rw [h1.1]
        by_cases e : q.1 = k
        · rw [decide_eq_true e] at h ⊢
          cases h
          exact ⟨_, rfl, r1⟩
        · rw [decide_eq_false e] at h ⊢
          exact ih h1.2 r2 h
theorem frep_put {kws : List (Key × V)} {kvs : List (Key × D)} {v : V} {d : D} (r : FReps w.K H G kws kvs) (q : Rep w.K H G v d) (k : Key) : FReps w.K H G (putK kws k v) (putD kvs k d) := by
  obtain ⟨h1, h2⟩ := r
  have ea : (kws.any fun kv => decide (kv.1 = k)) = (kvs.any fun kv => decide (kv.1 = k)) := by
    have a1 : (kws.any fun kv => decide (kv.1 = k)) = ((kws.map (·.1)).any fun z => decide (z = k)) := by rw [List.any_map] <;> rfl
    have a2 : (kvs.any fun kv => decide (kv.1 = k)) = ((kvs.map (·.1)).any fun z => decide (z = k)) := by rw [List.any_map] <;> rfl
    rw [a1, a2, h1]
  unfold putK putD
  rw [ea]
  split
  · clear ea
    rename_i hc
    clear hc
    induction kws generalizing kvs with
    | nil =>
      cases kvs with
      | nil => exact ⟨rfl, .nil⟩
      | cons a b => simp at h1
    | cons p r ih =>
      cases kvs with
      | nil => simp at h1
      | cons s t =>
        simp only [List.map_cons, List.cons.injEq] at h1
        rw [List.map_cons, List.map_cons] at h2
        cases h2 with
        | cons r1 r2 =>
          obtain ⟨i1, i2⟩ := ih h1.2 r2
          rw [List.map_cons, List.map_cons]
          by_cases e : s.1 = k
          · rw [if_pos (h1.1.trans e), if_pos e]
            refine ⟨?_, ?_⟩
            · rw [List.map_cons, List.map_cons, i1]
              show p.1 :: _ = s.1 :: _
              rw [h1.1]
            · exact .cons q i2
          · rw [if_neg (fun z => e (h1.1.symm.trans z)), if_neg e]
            refine ⟨?_, ?_⟩
            · rw [List.map_cons, List.map_cons, i1, h1.1]
            · exact .cons r1 i2
  · refine ⟨?_, ?_⟩
    · rw [List.map_append, List.map_append, h1] <;> rfl
    · rw [List.map_append, List.map_append]
      exact h2.append (.cons q .nil)
theorem put_len (kvs : List (Key × D)) (k : Key) (d : D) : (putD kvs k d).length ≤ kvs.length + 1 := by
  unfold putD
  split
  · rw [List.length_map]; omega
  · rw [List.length_append]; exact Nat.le_refl _
end
section
variable {X : Cx} {T : List (Addr × Str)}
theorem u_neg : UnR X (unaryOp .USub) (lift1 ⟨X.K, T⟩ negD) := by
  intro pins s σ H x v Q I rx h
  obtain ⟨dx, G, Q3, qx, g, r, k⟩ := h
  unfold negD at r
  split at r
  · cases qx
    exact un_neg pins s σ H _ v Q I rx ⟨_, rfl, now g (.int _) r k⟩
  · exact r.elim
theorem tru_rep {H : Hp} {G : Gp} {x : V} {d : D} {b : Bool} (g : GRel ⟨X.K, T⟩ H G) (r : Rep X.K H G x d) (h : truD G d = some b) : TruV X.K x H b := by
  cases r with
  | non => cases h; rfl
  | bl c => cases h; rfl
  | int i => cases h; rfl
  | str z => cases h
  | ty n => cases h
  | obj a =>
    unfold truD at h
    simp only at h
    split at h
    · rename_i e
      cases h
      obtain ⟨xs, h2, r⟩ := g.2 a _ e
      have e2 := r.nil_iff
      refine .inl ⟨xs, SqL.of h2, ?_⟩
      cases r <;> rfl
    · cases h
  | tup t r =>
    cases h
    refine .inr (.inl ⟨_, t.sq, ?_⟩)
    cases r <;> rfl
  | lst h1 h2 r =>
    cases h
    refine .inl ⟨_, SqL.of h2, ?_⟩
    cases r <;> rfl
  | dct _ _ _ _ => cases h
  | ins _ _ _ _ => cases h
theorem x_ix (hu : X.A.units + 1 < cLine) : IxR X (lift2 ⟨X.K, T⟩ ixD) := by
  intro value slice pins s σ H x y v u Q I rx ry h hs
  obtain ⟨dx, dy, G, Q3, qx, qy, g, r, k⟩ := h
  unfold ixD at r
  split at r
  · split at r
    · rename_i d e
      cases qx with
      | tup t q =>
        cases qy
        obtain ⟨w, e2, r2⟩ := atI_rep (w := ⟨X.K, T⟩) q e
        exact ix_tup value slice pins s σ H _ _ v u Q I rx ry ⟨_, _, _, _, rfl, rfl, t.sq, e2, now g r2 r k⟩ hs
    · exact r.elim
  · split at r
    · rename_i c e
      cases qx; cases qy
      exact ix_str value slice pins s σ H _ _ v u Q I rx ry ⟨_, _, _, rfl, rfl, r.1, e, now g (.str _) r.2 k⟩ hs
    · exact r.elim
  · rename_i a key
    split at r
    · rename_i kvs e
      split at r
      · rename_i d ed
        cases qx; cases qy
        obtain ⟨kws, h1, q⟩ := g.2 a _ e
        obtain ⟨w, ew, rw'⟩ := frep_val (w := ⟨X.K, T⟩) q (.inr key) ed
        cases (show v = Value.ref a from rx)
        have dg : DGet H a (V.str key) (some w) := by
          have z := DGet.k (k := (.inr key : Key)) h1
          rw [ew] at z
          exact z
        exact PyProof.Rows.tail_any (dict_typeIs I dg) PySem.F.slot_dict_getitem.lookup (d_getItem hu I dg ry fun w' s' I' rw2 => ⟨w, H, I', rw2, now g rw' r k⟩) hs
      · exact r.elim
    · exact r.elim
  · split at r
    · rename_i l el
      split at r
      · rename_i d e
        obtain ⟨p, xs, rfl, hp, q⟩ := asL_at g qx el
        cases qy
        obtain ⟨w, e2, r2⟩ := atI_rep (w := ⟨X.K, T⟩) q e
        exact ix_list value slice pins s σ H _ _ v u Q I rx ry ⟨_, _, _, _, rfl, rfl, SqL.of hp, e2, now g r2 r k⟩ hs
      · exact r.elim
    · exact r.elim
  · exact r.elim
def liftSl (w : Wd) (r3 : D → Option Int → Option Int → Gp → K3 → Prop) : V → Option Int → Option Int → Hp → VK → Prop := fun x lo hi H Q => ∃ dx G Q3, Rep w.K H G x dx ∧ GRel w H G ∧ r3 dx lo hi G Q3 ∧ EK w H G Q3 Q
theorem x_sl (m : Bool) : SlR X (liftSl ⟨X.K, T⟩ (slD m)) := by
  intro pins s σ H x v vl vu lo hi sl Q I rx hs pl pu h
  obtain ⟨dx, G, Q3, qx, g, r, k⟩ := h
  unfold slD at r
  split at r
  · cases qx with
    | tup t q =>
      refine sl_tupA pins s σ H _ v vl vu lo hi sl Q I rx hs pl pu ⟨_, _, rfl, t.sq, fun e => ?_, fun e p hp => tup_done g hp (cut_rep (w := ⟨X.K, T⟩) q) r k⟩
      rename_i l _ xs
      have z : cutL l lo hi = l := by
        unfold cutL
        rw [← q.length, e.1, e.2, List.drop_zero, Nat.sub_zero, q.length]
        exact List.take_length
      rw [z] at r
      exact now g (.tup t q) r k
  · cases qx
    refine sl_str pins s σ H _ v vl vu lo hi sl Q I rx hs pl pu ⟨_, rfl, r.1, now g (.str _) ?_ k⟩
    exact r.2
  · split at r
    · rename_i l el
      obtain ⟨p, xs, rfl, hp, q⟩ := asL_at g qx el
      exact sl_list pins s σ H _ v vl vu lo hi sl Q I rx hs pl pu ⟨_, _, rfl, SqL.of hp, fun p hp => mkL_done g hp (cut_rep (w := ⟨X.K, T⟩) q) r k⟩
    · exact r.elim
/-! ### stores -/
abbrev RS3 := D → D → D → Gp → (Gp → Prop) → Prop
def setD : RS3 := fun o i v G Q => match o, i with
  | .obj a, .int j => (match G a with
    | some (.lst l) => (match ixN l.length j with
      | some n => Q (updG G a (.lst (l.set n v)))
      | none => False)
    | _ => False)
  | .obj a, .str k => (match G a with
    | some (.dct kvs) => kvs.length < sizeLine ∧ Q (updG G a (.dct (putD kvs (.inr k) v)))
    | _ => False)
  | _, _ => False
def GK (w : Wd) (H : Hp) (G : Gp) (Q3 : Gp → Prop) (Q : Hp → Prop) : Prop := ∀ H' G', Step w H G H' G' → Q3 G' → Q H'
theorem x_set (hu : X.A.units + 1 < cLine) : PSet X (fun o i v H Q => ∃ dO di dv G Q3, Rep X.K H G o dO ∧ Rep X.K H G i di ∧ Rep X.K H G v dv ∧ GRel ⟨X.K, T⟩ H G ∧ setD dO di dv G Q3 ∧ GK ⟨X.K, T⟩ H G Q3 Q) := by
  intro pins s σ H o i v ov iv u Q I ro ri rv h
  obtain ⟨dO, di, dv, G, Q3, qo, qi, qv, g, r, k⟩ := h
  unfold setD at r
  split at r
  · rename_i a j
    split at r
    · rename_i l e
      split at r
      · rename_i n en
        cases qo; cases qi
        obtain ⟨xs, h1, q⟩ := g.2 a _ e
        refine set_list pins s σ H _ _ v ov iv u Q I ro ri rv ⟨a, xs, j, n, rfl, rfl, h1, (by rw [q.length]; exact en), ?_⟩
        exact k _ _ (Step.write (u := .lst (l.set n dv)) g e fun H' G' e' mo => ⟨_, e', (q.set qv n).mono mo⟩) r
      · exact r.elim
    · exact r.elim
  · rename_i a key
    split at r
    · rename_i kvs e
      cases qo; cases qi
      obtain ⟨kws, h1, q⟩ := g.2 a _ e
      cases (show ov = Value.ref a from ro)
      have hl : kws.length < sizeLine := by
        have z := congrArg List.length q.1
        rw [List.length_map, List.length_map] at z
        omega
      refine d_setItem hu I (DPut.k (k := (.inr key : Key)) h1 hl) ri rv fun s' I' => ⟨_, I', ?_⟩
      exact k _ _ (Step.write (u := .dct (putD kvs (.inr key) dv)) g e fun H' G' e' mo => ⟨_, e', (frep_put (w := ⟨X.K, T⟩) q qv _).mono mo⟩) r.2
    · exact r.elim
  · exact r.elim
end
end L3
set_option Elab.async false
set_option linter.all false
set_option maxRecDepth 100000
set_option maxHeartbeats 1000000
namespace L3
open PySem PySem.Spec PyProof.Rows L2 LamX
/-! ### built-in calls -/
abbrev RC3 := List D → Gp → K3 → Prop
def liftC (w : Wd) (r3 : RC3) : List V → Hp → VK → Prop := fun xs H Q => ∃ ds G Q3, Reps w.K H G xs ds ∧ GRel w H G ∧ r3 ds G Q3 ∧ EK w H G Q3 Q
def lenOf (G : Gp) : D → Option Nat
  | .str z => if z.length ≤ sizeLine then some z.length else none
  | .tup l => some l.length
  | .lst l => some l.length
  | .obj a => match G a with
    | some (.lst l) => some l.length
    | _ => none
  | _ => none
def lenD : RC3 := fun ds G Q => match ds with
  | [d] => (match lenOf G d with
    | some n => Q (.int n) G
    | none => False)
  | _ => False
def absD : RC3 := fun ds G Q => match ds with
  | [.int i] => Q (.int (if i < 0 then -i else i)) G
  | _ => False
/-- int(x): of a whole number, a truth value, a text of at most 640 signs -/
def intD : RC3 := fun ds G Q => match ds with
  | [.int i] => Q (.int i) G
  | [.bl b] => Q (.int (if b then 1 else 0)) G
  | [.str z] => ∃ n, PySem.intText? z = some n ∧ z.length ≤ 640 ∧ Q (.int n) G
  | _ => False
def strD : RC3 := fun ds G Q => match ds with
  | [.int i] => i.natAbs.log2 < 1920 ∧ Q (.str (toString i)) G
  | _ => False
def tupleD : RC3 := fun ds G Q => match ds with
  | [.tup l] => Q (.tup l) G
  | [d] => (match asL G d with
    | some l => Q (.tup l) G
    | none => False)
  | _ => False
def seqOf (G : Gp) : D → Option (List D)
  | .tup l => some l
  | .lst l => some l
  | .obj a => match G a with
    | some (.lst l) => some l
    | some (.scr l) => some l
    | _ => none
  | _ => none
def listD (m : Bool) : RC3 := fun ds G Q => match ds with
  | [d] => (match seqOf G d with
    | some l => mkL m l G Q
    | none => False)
  | _ => False
def blsOf : List D → Option (List Bool)
  | [] => some []
  | .bl b :: r => (blsOf r).map (b :: ·)
  | _ => none
def allD : RC3 := fun ds G Q => match ds with
  | [d] => (match asL G d with
    | some l => (match blsOf l with
      | some bs => Q (.bl (bs.all id)) G
      | none => False)
    | none => False)
  | _ => False
def gcdD : RC3 := fun ds G Q => match ds with
  | [.int a, .int b] => Q (.int ((Nat.gcd a.natAbs b.natAbs : Nat) : Int)) G
  | _ => False
/-! ### isinstance -/
/-- the own classes whose instances are asked for -/
structure IsiOk (K : PySem.W.Frag) (CS : List Addr) : Prop where
  inst : ∀ C ∈ CS, Cls K C ∧ PySem.W.findIn K (.ref C) "__class__" = some (some (.builtin "object.__class__")) ∧ PySem.W.specialIn K (.builtin "object.__class__") "__get__" = some (some (.builtin "getset_descriptor.__get__")) ∧
    PySem.W.takesIn K (.builtin "object.__class__") = some true ∧ PySem.W.mroIn K C (.type "object") = some true
  kc : ∀ C ∈ CS, ∀ k ∈ ["NoneType", "bool", "int", "str", "list", "tuple", "dict"], PySem.W.kitOne K (.type k) (.ref C) = some false
  ck : ∀ C ∈ CS, ∀ n ∈ ["bool", "int", "str", "list", "tuple", "dict"], PySem.W.kitOne K (.ref C) (.type n) = some false
  cc : ∀ C ∈ CS, ∀ C' ∈ CS, PySem.W.kitOne K (.ref C') (.ref C) = some (decide (C' = C))
def kindB (G : Gp) : D → Option String
  | .non => some "NoneType"
  | .bl _ => some "bool"
  | .int _ => some "int"
  | .str _ => some "str"
  | .tup _ => some "tuple"
  | .lst _ => some "list"
  | .dct _ _ => some "dict"
  | .obj a => match G a with
    | some (.lst _) => some "list"
    | some (.scr _) => some "list"
    | some (.dct _) => some "dict"
    | _ => none
  | _ => none
def clsOf (G : Gp) : D → Option Addr
  | .ins C _ _ => some C
  | .obj a => match G a with
    | some (.ins C _) => some C
    | _ => none
  | _ => none
def isiB (k n : String) : Bool := k == n || (k == "bool" && n == "int")
/-- isinstance(x, n), n a built-in class; (x, (n1, n2)); (x, C) -/
def isiOne (CS : List Addr) (G : Gp) (x : D) (n : String) : Option Bool :=
  if ["bool", "int", "str", "list", "tuple", "dict"].contains n then
    match kindB G x with
    | some k => some (isiB k n)
    | none => match clsOf G x with
      | some C => if C ∈ CS then some false else none
      | none => none
  else none
def isiCls (CS : List Addr) (G : Gp) (x : D) (C : Addr) : Option Bool :=
  if C ∈ CS then
    match kindB G x with
    | some _ => some false
    | none => match clsOf G x with
      | some C' => if C' ∈ CS then some (decide (C' = C)) else none
      | none => none
  else none
def isiD (CS : List Addr) : RC3 := fun ds G Q => match ds with
  | [x, .ty n] => (match isiOne CS G x n with
    | some b => Q (.bl b) G
    | none => False)
  | [x, .obj C] => (match isiCls CS G x C with
    | some b => Q (.bl b) G
    | none => False)
  | [x, .tup [.ty n, .ty m]] => (match isiOne CS G x n, isiOne CS G x m with
    | some b, some c => Q (.bl (b || c)) G
    | _, _ => False)
  | _ => False
section
variable {X : Cx} {T : List (Addr × Str)}
theorem reps1 {w : Wd} {H : Hp} {G : Gp} {xs : List V} {d : D} (r : Reps w.K H G xs [d]) : ∃ x, xs = [x] ∧ Rep w.K H G x d := by
  cases r with
  | cons r t => cases t; exact ⟨_, rfl, r⟩
theorem reps2 {w : Wd} {H : Hp} {G : Gp} {xs : List V} {d e : D} (r : Reps w.K H G xs [d, e]) : ∃ x y, xs = [x, y] ∧ Rep w.K H G x d ∧ Rep w.K H G y e := by
  cases r with
  | cons r t => cases t with
    | cons r2 t2 => cases t2; exact ⟨_, _, rfl, r, r2⟩
theorem len_rep {H : Hp} {G : Gp} {x : V} {d : D} {n : Nat} (g : GRel ⟨X.K, T⟩ H G) (r : Rep X.K H G x d) (h : lenOf G d = some n) : LenV X.K x H n := by
  cases r with
  | str z =>
    unfold lenOf at h
    simp only at h
    split at h
    · rename_i hz
      cases h
      exact ⟨hz, rfl⟩
    · cases h
  | tup t r => cases h; exact .inr ⟨_, t.sq, r.length.symm⟩
  | lst h1 h2 r => cases h; exact .inl ⟨_, SqL.of h2, r.length.symm⟩
  | obj a =>
    unfold lenOf at h
    simp only at h
    split at h
    · rename_i e
      cases h
      obtain ⟨xs, h2, r⟩ := g.2 a _ e
      exact .inl ⟨xs, SqL.of h2, r.length.symm⟩
    · cases h
  | non => cases h
  | bl _ => cases h
  | int _ => cases h
  | ty _ => cases h
  | dct _ _ _ _ => cases h
  | ins _ _ _ _ => cases h
theorem c_len : CallR X (.builtin "len") (liftC ⟨X.K, T⟩ lenD) := by
  intro pins s σ H xs us Q I rs h
  obtain ⟨ds, G, Q3, qs, g, r, k⟩ := h
  unfold lenD at r
  split at r
  · split at r
    · rename_i n e
      obtain ⟨x, rfl, q⟩ := reps1 qs
      exact call_len pins s σ H _ us Q I rs ⟨x, n, rfl, len_rep g q e, now g (.int _) r k⟩
    · exact r.elim
  · exact r.elim
theorem c_abs : CallR X (.builtin "abs") (liftC ⟨X.K, T⟩ absD) := by
  intro pins s σ H xs us Q I rs h
  obtain ⟨ds, G, Q3, qs, g, r, k⟩ := h
  unfold absD at r
  split at r
  · obtain ⟨x, rfl, q⟩ := reps1 qs
    cases q
    exact call_abs pins s σ H _ us Q I rs ⟨_, rfl, now g (.int _) r k⟩
  · exact r.elim
theorem c_int : CallR X (.type "int") (liftC ⟨X.K, T⟩ intD) := by
  intro pins s σ H xs us Q I rs h
  obtain ⟨ds, G, Q3, qs, g, r, k⟩ := h
  unfold intD at r
  split at r
  · obtain ⟨x, rfl, q⟩ := reps1 qs
    cases q
    exact call_int1 pins s σ H _ us Q I rs (.inl ⟨_, rfl, now g (.int _) r k⟩)
  · obtain ⟨x, rfl, q⟩ := reps1 qs
    cases q
    exact call_int1 pins s σ H _ us Q I rs (.inr ⟨_, rfl, now g (.int _) r k⟩)
  · obtain ⟨x, rfl, q⟩ := reps1 qs
    cases q
    obtain ⟨n, h1, h2, r⟩ := r
    exact call_int_str pins s σ H _ us Q I rs ⟨_, n, rfl, h1, h2, now g (.int _) r k⟩
  · exact r.elim
theorem c_str : CallR X (.type "str") (liftC ⟨X.K, T⟩ strD) := by
  intro pins s σ H xs us Q I rs h
  obtain ⟨ds, G, Q3, qs, g, r, k⟩ := h
  unfold strD at r
  split at r
  · obtain ⟨x, rfl, q⟩ := reps1 qs
    cases q
    exact call_str_int pins s σ H _ us Q I rs ⟨_, rfl, r.1, now g (.str _) r.2 k⟩
  · exact r.elim
theorem c_tuple : CallR X (.type "tuple") (liftC ⟨X.K, T⟩ tupleD) := by
  intro pins s σ H xs us Q I rs h
  obtain ⟨ds, G, Q3, qs, g, r, k⟩ := h
  unfold tupleD at r
  split at r
  · obtain ⟨x, rfl, q⟩ := reps1 qs
    cases q with
    | tup t q => exact call_tuple_of pins s σ H _ us Q I rs ⟨_, _, rfl, .inr ⟨t.sq, now g (.tup t q) r k⟩⟩
  · obtain ⟨x, rfl, q⟩ := reps1 qs
    split at r
    · rename_i e
      obtain ⟨a, xs, rfl, ha, q⟩ := asL_at g q e
      exact call_tuple_of pins s σ H _ us Q I rs ⟨_, _, rfl, .inl ⟨SqL.of ha, fun p hp => tup_done g hp q r k⟩⟩
    · exact r.elim
  · exact r.elim
theorem seq_rep {H : Hp} {G : Gp} {x : V} {d : D} {l : List D} (g : GRel ⟨X.K, T⟩ H G) (r : Rep X.K H G x d) (h : seqOf G d = some l) : ∃ a xs, x = .ref a ∧ (SqL X.K H a xs ∨ SqT X.K H a xs) ∧ Reps X.K H G xs l := by
  cases r with
  | tup t r => cases h; exact ⟨_, _, rfl, .inr t.sq, r⟩
  | lst h1 h2 r => cases h; exact ⟨_, _, rfl, .inl (SqL.of h2), r⟩
  | obj a =>
    unfold seqOf at h
    simp only at h
    split at h
    · rename_i e
      cases h
      obtain ⟨xs, h2, r⟩ := g.2 a _ e
      exact ⟨_, _, rfl, .inl (SqL.of h2), r⟩
    · rename_i e
      cases h
      obtain ⟨xs, ⟨o, h2⟩, r⟩ := g.2 a _ e
      exact ⟨_, _, rfl, .inl (.inl (.inr ⟨o, h2⟩)), r⟩
    · cases h
  | non => cases h
  | bl _ => cases h
  | int _ => cases h
  | str _ => cases h
  | ty _ => cases h
  | dct _ _ _ _ => cases h
  | ins _ _ _ _ => cases h
theorem c_list (m : Bool) : CallR X (.type "list") (liftC ⟨X.K, T⟩ (listD m)) := by
  intro pins s σ H xs us Q I rs h
  obtain ⟨ds, G, Q3, qs, g, r, k⟩ := h
  unfold listD at r
  split at r
  · obtain ⟨x, rfl, q⟩ := reps1 qs
    split at r
    · rename_i e
      obtain ⟨a, xs, rfl, ha, q⟩ := seq_rep g q e
      exact call_list_of pins s σ H _ us Q I rs ⟨_, _, rfl, ha, fun p hp => mkL_done g hp q r k⟩
    · exact r.elim
  · exact r.elim
theorem blsOf_eq : ∀ {l : List D} {bs : List Bool}, blsOf l = some bs → l = bs.map D.bl
  | [], bs, h => by cases h; rfl
  | .bl b :: r, bs, h => by
    unfold blsOf at h
    cases e : blsOf r with
    | none => rw [e] at h; cases h
    | some cs =>
      rw [e] at h
      cases h
      rw [blsOf_eq e]
      rfl
  | .non :: _, _, h => by cases h
  | .int _ :: _, _, h => by cases h
  | .str _ :: _, _, h => by cases h
  | .ty _ :: _, _, h => by cases h
  | .obj _ :: _, _, h => by cases h
  | .tup _ :: _, _, h => by cases h
  | .lst _ :: _, _, h => by cases h
  | .dct _ _ :: _, _, h => by cases h
  | .ins _ _ _ :: _, _, h => by cases h
theorem c_all (hc : X.calm = true) : CallR X (.builtin "all") (liftC ⟨X.K, T⟩ allD) := by
  intro pins s σ H xs us Q I rs h
  obtain ⟨ds, G, Q3, qs, g, r, k⟩ := h
  unfold allD at r
  split at r
  · obtain ⟨x, rfl, q⟩ := reps1 qs
    split at r
    · rename_i l e
      split at r
      · rename_i bs eb
        obtain ⟨a, xs, rfl, ha, q⟩ := asL_at g q e
        have e2 := blsOf_eq eb
        subst e2
        have e3 := q.bls
        subst e3
        exact cr_all hc pins s σ H _ us Q I rs ⟨_, bs, rfl, SqL.of ha, now g (.bl _) r k⟩
      · exact r.elim
    · exact r.elim
  · exact r.elim
theorem c_gcd : CallR X (.builtin "math.gcd") (liftC ⟨X.K, T⟩ gcdD) := by
  intro pins s σ H xs us Q I rs h
  obtain ⟨ds, G, Q3, qs, g, r, k⟩ := h
  unfold gcdD at r
  split at r
  · obtain ⟨x, y, rfl, q, q2⟩ := reps2 qs
    cases q; cases q2
    exact cr_gcd pins s σ H _ us Q I rs ⟨_, _, rfl, now g (.int _) r k⟩
  · exact r.elim
theorem kind_rep {H : Hp} {G : Gp} {x : V} {d : D} {n : String} (g : GRel ⟨X.K, T⟩ H G) (r : Rep X.K H G x d) (h : kindB G d = some n) : TyX X.K H x (.type n) ∧ n ∈ ["NoneType", "bool", "int", "str", "list", "tuple", "dict"] := by
  cases r with
  | non => cases h; exact ⟨.base .non, by decide⟩
  | bl _ => cases h; exact ⟨.base (.bl _), by decide⟩
  | int _ => cases h; exact ⟨.base (.int _), by decide⟩
  | str _ => cases h; exact ⟨.base (.str _), by decide⟩
  | ty _ => cases h
  | tup t r =>
    cases h
    refine ⟨?_, by decide⟩
    rcases t with ⟨_, t⟩ | ⟨o, its, n, hk, hc, _⟩
    · exact .base (.tup t)
    · exact .kTuple hk hc
  | lst h1 h2 r => cases h; exact ⟨.base (.lst h2), by decide⟩
  | dct h1 h2 h3 r => cases h; exact ⟨.base (.dK h2), by decide⟩
  | ins _ _ _ _ => cases h
  | obj a =>
    unfold kindB at h
    simp only at h
    split at h
    · rename_i e
      cases h
      obtain ⟨xs, h2, r⟩ := g.2 a _ e
      exact ⟨.base (.lst h2), by decide⟩
    · rename_i e
      cases h
      obtain ⟨xs, ⟨o, h2⟩, r⟩ := g.2 a _ e
      exact ⟨.base (.frz h2), by decide⟩
    · rename_i e
      cases h
      obtain ⟨xs, h2, r⟩ := g.2 a _ e
      exact ⟨.base (.dK h2), by decide⟩
    · cases h
theorem cls_rep {CS : List Addr} (ok : IsiOk X.K CS) {H : Hp} {G : Gp} {x : V} {d : D} {C : Addr} (g : GRel ⟨X.K, T⟩ H G) (r : Rep X.K H G x d) (h : clsOf G d = some C) (hC : C ∈ CS) : TyX X.K H x (.ref C) := by
  obtain ⟨k1, k2, k3, k4, k5⟩ := ok.inst C hC
  cases r with
  | ins h1 h2 h3 r => cases h; exact .base (.ins h2 k1 k2 k3 k4 k5)
  | obj a =>
    unfold clsOf at h
    simp only at h
    split at h
    · rename_i e
      cases h
      obtain ⟨dx, gs, h2, r⟩ := g.2 a _ e
      exact .base (.ins h2 k1 k2 k3 k4 k5)
    · cases h
  | non => cases h
  | bl _ => cases h
  | int _ => cases h
  | str _ => cases h
  | ty _ => cases h
  | tup _ _ => cases h
  | lst _ _ _ => cases h
  | dct _ _ _ _ => cases h
theorem kit_table {K : PySem.W.Frag} : ∀ k ∈ ["NoneType", "bool", "int", "str", "list", "tuple", "dict"], ∀ n ∈ ["bool", "int", "str", "list", "tuple", "dict"], PySem.W.kitOne K (.type k) (.type n) = some (isiB k n) := by
  intro k hk n hn
  have h : (["NoneType", "bool", "int", "str", "list", "tuple", "dict"].all fun k => ["bool", "int", "str", "list", "tuple", "dict"].all fun n => decide (kitB k n = some (isiB k n))) = true := by decide +kernel
  exact kit_ty (of_decide_eq_true (List.all_eq_true.mp (List.all_eq_true.mp h k hk) n hn))
theorem isi_one {CS : List Addr} (ok : IsiOk X.K CS) {H : Hp} {G : Gp} {x : V} {d : D} {n : String} {b : Bool} (g : GRel ⟨X.K, T⟩ H G) (r : Rep X.K H G x d) (h : isiOne CS G d n = some b) : ∃ t, TyX X.K H x t ∧ PySem.W.kitOne X.K t (.type n) = some b ∧ (t = match kindB G d with | some k => .type k | none => match clsOf G d with | some C => .ref C | none => .none) := by
  unfold isiOne at h
  split at h
  · rename_i hn
    have hn' : n ∈ ["bool", "int", "str", "list", "tuple", "dict"] := List.contains_iff_mem.mp hn
    split at h
    · rename_i k e
      cases h
      obtain ⟨t, hk⟩ := kind_rep g r e
      exact ⟨_, t, kit_table k hk n hn', rfl⟩
    · rename_i e
      split at h
      · rename_i C eC
        split at h
        · rename_i hC
          cases h
          exact ⟨_, cls_rep ok g r eC hC, ok.ck C hC n hn', rfl⟩
        · cases h
      · cases h
  · cases h
theorem c_isi {CS : List Addr} (ok : IsiOk X.K CS) : CallR X (.builtin "isinstance") (liftC ⟨X.K, T⟩ (isiD CS)) := by
  intro pins s σ H xs us Q I rs h
  obtain ⟨ds, G, Q3, qs, g, r, k⟩ := h
  unfold isiD at r
  split at r
  · obtain ⟨x, y, rfl, q, q2⟩ := reps2 qs
    split at r
    · rename_i b e
      cases q2
      obtain ⟨t, h1, h2, _⟩ := isi_one ok g q e
      exact call_isi pins s σ H _ us Q I rs ⟨x, _, t, _, b, rfl, .ty _, h1, h2, now g (.bl _) r k⟩
    · exact r.elim
  · obtain ⟨x, y, rfl, q, q2⟩ := reps2 qs
    split at r
    · rename_i C b e
      cases q2
      unfold isiCls at e
      split at e
      · rename_i hC
        split at e
        · rename_i kk ek
          cases e
          obtain ⟨t, hk⟩ := kind_rep g q ek
          exact call_isi pins s σ H _ us Q I rs ⟨x, _, _, _, false, rfl, .own _, t, ok.kc _ hC _ hk, now g (.bl _) r k⟩
        · split at e
          · rename_i C' eC
            split at e
            · rename_i hC'
              cases e
              exact call_isi pins s σ H _ us Q I rs ⟨x, _, _, _, _, rfl, .own _, cls_rep ok g q eC hC', ok.cc _ hC _ hC', now g (.bl _) r k⟩
            · cases e
          · cases e
      · cases e
    · exact r.elim
  · obtain ⟨x, y, rfl, q, q2⟩ := reps2 qs
    split at r
    · rename_i n m _ _ b c eb ec
      obtain ⟨t, h1, h2, e1⟩ := isi_one ok g q eb
      obtain ⟨t', h1', h2', e2⟩ := isi_one ok g q ec
      have et : t' = t := e2.trans e1.symm
      subst et
      cases q2 with
      | tup tt qq =>
        obtain ⟨y1, y2, rfl, r1, r2⟩ := reps2 (w := ⟨X.K, T⟩) qq
        cases r1; cases r2
        rcases tt with ⟨_, tt⟩ | ⟨o, its, nn, hk, hc, hd, hz, hv⟩
        · refine call_isiT pins s σ H _ us Q I rs ⟨x, _, _, t', _, b || c, rfl, tt, .cons (.ty _) (.cons (.ty _) .nil), h1, ?_, now g (.bl _) r k⟩
          refine kitAny_cons h2 (fun hb => kitAny_cons h2' (fun hc => ?_) (fun hc => by rw [hb, hc]; rfl)) (fun hb => by rw [hb]; rfl)
          rw [hb, hc]
          exact kitAny_nil
        · obtain ⟨oc, od, dt, osl⟩ := o
          simp only at hc hd
          subst hc hd
          have ev : its = [Value.type n, Value.type m].toArray := by
            cases its with
            | mk il =>
              cases hv with
              | cons a1 a2 => cases a2 with
                | cons a3 a4 =>
                  cases a4
                  cases (show _ = Value.type n from a1)
                  cases (show _ = Value.type m from a3)
                  rfl
          subst ev
          refine call_isiK pins s σ H _ us Q I rs ⟨x, _, _, _, _, _, t', b || c, rfl, hk, h1, ?_, now g (.bl _) r k⟩
          refine kitAny_cons h2 (fun hb => kitAny_cons h2' (fun hc => ?_) (fun hc => by rw [hb, hc]; rfl)) (fun hb => by rw [hb]; rfl)
          rw [hb, hc]
          exact kitAny_nil
    · exact r.elim
  · exact r.elim
end
end L3
set_option Elab.async false
set_option linter.all false
set_option maxRecDepth 100000
set_option maxHeartbeats 1000000
namespace L3
open PySem PySem.Spec PyProof.Rows L2 LamX
/-! ### methods of built-in types -/
abbrev RM3 := D → List D → Gp → K3 → Prop
def liftM (w : Wd) (r3 : RM3) : V → List V → Hp → VK → Prop := fun x xs H Q => ∃ d ds G Q3, Rep w.K H G x d ∧ Reps w.K H G xs ds ∧ GRel w H G ∧ r3 d ds G Q3 ∧ EK w H G Q3 Q
def strsOf : List D → Option (List Str)
  | [] => some []
  | .str b :: r => (strsOf r).map (b :: ·)
  | _ => none
theorem strsOf_eq : ∀ {l : List D} {bs : List Str}, strsOf l = some bs → l = bs.map D.str
  | [], bs, h => by cases h; rfl
  | .str b :: r, bs, h => by
    unfold strsOf at h
    cases e : strsOf r with
    | none => rw [e] at h; cases h
    | some cs =>
      rw [e] at h
      cases h
      rw [strsOf_eq e]
      rfl
  | .non :: _, _, h => by cases h
  | .int _ :: _, _, h => by cases h
  | .bl _ :: _, _, h => by cases h
  | .ty _ :: _, _, h => by cases h
  | .obj _ :: _, _, h => by cases h
  | .tup _ :: _, _, h => by cases h
  | .lst _ :: _, _, h => by cases h
  | .dct _ _ :: _, _, h => by cases h
  | .ins _ _ _ :: _, _, h => by cases h
theorem strsOf_map (bs : List Str) : strsOf (bs.map D.str) = some bs := by
  induction bs with
  | nil => rfl
  | cons b r ih =>
    show (strsOf (r.map D.str)).map (b :: ·) = _
    rw [ih]
    rfl
theorem blsOf_map (bs : List Bool) : blsOf (bs.map D.bl) = some bs := by
  induction bs with
  | nil => rfl
  | cons b r ih =>
    show (blsOf (r.map D.bl)).map (b :: ·) = _
    rw [ih]
    rfl
def appendD : RM3 := fun x ds G Q => match x, ds with
  | .obj a, [d] => (match G a with
    | some (.lst l) => l.length < sizeLine ∧ Q .non (updG G a (.lst (l ++ [d])))
    | _ => False)
  | _, _ => False
def extendD : RM3 := fun x ds G Q => match x, ds with
  | .obj a, [d] => (match G a, asL G d with
    | some (.lst l), some m => l.length + m.length ≤ sizeLine ∧ Q .non (updG G a (.lst (l ++ m)))
    | _, _ => False)
  | _, _ => False
def popD : RM3 := fun x ds G Q => match x, ds with
  | .obj a, [] => (match G a with
    | some (.lst l) => (match l.getLast? with
      | some y => Q y (updG G a (.lst l.dropLast))
      | none => False)
    | _ => False)
  | .obj a, [.int i] => (match G a with
    | some (.lst l) => (match ixN l.length i with
      | some n => (match l[n]? with
        | some y => l.length ≤ sizeLine ∧ Q y (updG G a (.lst (l.eraseIdx n)))
        | none => False)
      | none => False)
    | _ => False)
  | _, _ => False
def joinD : RM3 := fun x ds G Q => match x, ds with
  | .str a, [d] => (match seqOf G d with
    | some l => (match strsOf l with
      | some ys => (ys.map (·.length)).sum + ys.length * a.length ≤ 16777216 ∧ Q (.str (Txt.join a ys)) G
      | none => False)
    | none => False)
  | _, _ => False
def splitD (m : Bool) : RM3 := fun x ds G Q => match x, ds with
  | .str a, [.str b] => (b.length == 0) = false ∧ a.length + 2 ≤ sizeLine ∧ mkL m ((Txt.split a b).map D.str) G Q
  | _, _ => False
def stripD : RM3 := fun x ds G Q => match x, ds with
  | .str a, [] => a.length ≤ sizeLine ∧ Q (.str (Txt.strip a)) G
  | _, _ => False
section
variable {X : Cx} {T : List (Addr × Str)}
theorem m_append : MtR X "list.append" (liftM ⟨X.K, T⟩ appendD) := by
  intro pins s σ H x xs v us Q I rx rs h
  obtain ⟨d, ds, G, Q3, q, qs, g, r, k⟩ := h
  unfold appendD at r
  split at r
  · rename_i a y
    split at r
    · rename_i l e
      cases q
      obtain ⟨z, rfl, qz⟩ := reps1 qs
      obtain ⟨xs, h2, q2⟩ := g.2 a _ e
      refine mt_append pins s σ H _ _ v us Q I rx rs ⟨a, xs, z, rfl, rfl, h2, (by rw [q2.length]; exact r.1), ?_⟩
      exact k _ _ _ _ (Step.write (u := .lst (l ++ [y])) g e fun H' G' e' mo => ⟨_, e', (q2.append (.cons qz .nil)).mono mo⟩) .non r.2
    · exact r.elim
  · exact r.elim
theorem m_extend : MtR X "list.extend" (liftM ⟨X.K, T⟩ extendD) := by
  intro pins s σ H x xs v us Q I rx rs h
  obtain ⟨d, ds, G, Q3, q, qs, g, r, k⟩ := h
  unfold extendD at r
  split at r
  · rename_i a y
    split at r
    · rename_i l m e em
      cases q
      obtain ⟨z, rfl, qz⟩ := reps1 qs
      obtain ⟨xs, h2, q2⟩ := g.2 a _ e
      obtain ⟨b, ys, rfl, hb, qb⟩ := asL_at g qz em
      refine mt_extend pins s σ H _ _ v us Q I rx rs ⟨a, b, xs, ys, rfl, rfl, h2, hb, (by rw [q2.length, qb.length]; exact r.1), ?_⟩
      exact k _ _ _ _ (Step.write (u := .lst (l ++ m)) g e fun H' G' e' mo => ⟨_, e', (q2.append qb).mono mo⟩) .non r.2
    · exact r.elim
  · exact r.elim
theorem m_pop0 : MtR X "list.pop" (fun x xs H Q => xs = [] ∧ liftM ⟨X.K, T⟩ popD x xs H Q) := by
  intro pins s σ H x xs v us Q I rx rs h
  obtain ⟨ex, d, ds, G, Q3, q, qs, g, r, k⟩ := h
  subst ex
  cases qs
  unfold popD at r
  split at r
  · rename_i a ea
    split at r
    · rename_i l e
      split at r
      · rename_i y ey
        cases q
        obtain ⟨xs, h2, q2⟩ := g.2 a _ e
        have e2 : l[l.length - 1]? = some y := by rw [← List.getLast?_eq_getElem?]; exact ey
        obtain ⟨z, hz, qz⟩ := q2.get e2
        refine mt_pop pins s σ H _ _ v us Q I rx rs ⟨a, xs, z, rfl, rfl, h2, (by rw [q2.length]; exact hz), ?_⟩
        have st := Step.write (o := .lst xs.dropLast) (u := .lst l.dropLast) g e fun H' G' e' mo => ⟨_, e', q2.dropLast.mono mo⟩
        exact k _ _ _ _ st (qz.step st) r
      · exact r.elim
    · exact r.elim
  · rename_i e; cases e
  · exact r.elim
theorem m_pop1 : MtR X "list.pop" (fun x xs H Q => xs.length = 1 ∧ liftM ⟨X.K, T⟩ popD x xs H Q) := by
  intro pins s σ H x xs v us Q I rx rs h
  obtain ⟨ex, d, ds, G, Q3, q, qs, g, r, k⟩ := h
  unfold popD at r
  split at r
  · have := qs.length
    rw [ex] at this
    simp at this
  · rename_i a i
    split at r
    · rename_i l e
      split at r
      · rename_i n en
        split at r
        · rename_i y ey
          cases q
          obtain ⟨z, rfl, qz⟩ := reps1 qs
          cases qz
          obtain ⟨xs, h2, q2⟩ := g.2 a _ e
          obtain ⟨w, hw, qw⟩ := q2.get ey
          obtain ⟨s1, s2, s3, s4⟩ := ixN_seq en
          have hz : (sizeLine : Nat) < 2 ^ 63 := line63
          refine mt_popAt pins s σ H _ _ v us Q I rx rs ⟨a, xs, i, n, w, rfl, rfl, h2, by omega, by omega, (by rw [q2.length]; exact s1), hw, ?_⟩
          have st := Step.write (o := .lst (xs.eraseIdx n)) (u := .lst (l.eraseIdx n)) g e fun H' G' e' mo => ⟨_, e', (q2.eraseIdx n).mono mo⟩
          exact k _ _ _ _ st (qw.step st) r.2
        · exact r.elim
      · exact r.elim
    · exact r.elim
  · exact r.elim
theorem m_join : MtR X "str.join" (liftM ⟨X.K, T⟩ joinD) := by
  intro pins s σ H x xs v us Q I rx rs h
  obtain ⟨d, ds, G, Q3, q, qs, g, r, k⟩ := h
  unfold joinD at r
  split at r
  · split at r
    · rename_i l e
      split at r
      · rename_i ys ey
        cases q
        obtain ⟨z, rfl, qz⟩ := reps1 qs
        obtain ⟨a, xs, rfl, ha, q2⟩ := seq_rep g qz e
        have e2 := strsOf_eq ey
        subst e2
        have e3 := q2.strs
        subst e3
        exact mt_join pins s σ H _ _ v us Q I rx rs ⟨_, _, ys, rfl, rfl, ha, r.1, now g (.str _) r.2 k⟩
      · exact r.elim
    · exact r.elim
  · exact r.elim
theorem m_split (m : Bool) : MtR X "str.split" (liftM ⟨X.K, T⟩ (splitD m)) := by
  intro pins s σ H x xs v us Q I rx rs h
  obtain ⟨d, ds, G, Q3, q, qs, g, r, k⟩ := h
  unfold splitD at r
  split at r
  · cases q
    obtain ⟨z, rfl, qz⟩ := reps1 qs
    cases qz
    exact mt_split pins s σ H _ _ v us Q I rx rs ⟨_, _, rfl, rfl, r.1, r.2.1, fun p hp => mkL_done g hp (Reps.ofStrs _) r.2.2 k⟩
  · exact r.elim
theorem m_strip : MtR X "str.strip" (liftM ⟨X.K, T⟩ stripD) := by
  intro pins s σ H x xs v us Q I rx rs h
  obtain ⟨d, ds, G, Q3, q, qs, g, r, k⟩ := h
  unfold stripD at r
  split at r
  · cases q
    cases qs
    exact mt_strip pins s σ H _ _ v us Q I rx rs ⟨_, rfl, rfl, r.1, now g (.str _) r.2 k⟩
  · exact r.elim
end
end L3
set_option Elab.async false
set_option linter.all false
set_option maxRecDepth 100000
set_option maxHeartbeats 1000000
namespace L3
open PySem PySem.Spec PyProof.Rows L2 LamX
/-! ### promises -/
abbrev Sp3 := List D → Gp → K3 → X3 → Prop
def liftSp (w : Wd) (sp : Sp3) : Sp := fun vs H Q E => ∃ ds G Q3 E3, Reps w.K H G vs ds ∧ GRel w H G ∧ sp ds G Q3 E3 ∧ EK w H G Q3 Q ∧ XKR w H G E3 E
/-- a def that may be called, k calls deep -/
structure FnAt (P : Program) (w : World) (K : PySem.W.Frag) (mg : Str → Option Value) (base : Heap) (T : List (Addr × Str)) (k : Nat) (f : Addr) (sp : Sp3) : Prop where
  ok : ∃ fd ps, FnOk P w K mg base (L2.CX P w) k f fd ps (liftSp ⟨K, T⟩ sp) ∧ Binds K fd ps []
theorem FnAt.mono {P : Program} {w : World} {K : PySem.W.Frag} {mg : Str → Option Value} {base : Heap} {T : List (Addr × Str)} {j k : Nat} {f : Addr} {sp : Sp3} (h : FnAt P w K mg base T j f sp) (l : j ≤ k) : FnAt P w K mg base T k f sp := by
  obtain ⟨fd, ps, F, b⟩ := h.ok
  exact ⟨fd, ps, F.mono l, b⟩
theorem FnAt.imp {P : Program} {w : World} {K : PySem.W.Frag} {mg : Str → Option Value} {base : Heap} {T : List (Addr × Str)} {k : Nat} {f : Addr} {sp sp' : Sp3} (h : FnAt P w K mg base T k f sp) (l : ∀ ds G Q E, sp' ds G Q E → sp ds G Q E) : FnAt P w K mg base T k f sp' := by
  obtain ⟨fd, ps, F, b⟩ := h.ok
  exact ⟨fd, ps, F.imp fun vs H Q E ⟨ds, G, Q3, E3, a, b, c, d⟩ => ⟨ds, G, Q3, E3, a, b, l _ _ _ _ c, d⟩, b⟩
/-- a def that may be called where an exception is handled (at a, of the class C, with the dict dd) -/
abbrev SpE3 := Addr → Addr → Addr → Sp3
structure FnE (P : Program) (w : World) (K : PySem.W.Frag) (mg : Str → Option Value) (base : Heap) (T : List (Addr × Str)) (k : Nat) (f : Addr) (exs : List Addr) (sp : SpE3) : Prop where
  ok : ∃ fd ps, Binds K fd ps [] ∧ (∀ a C dd ds G Q E, sp a C dd ds G Q E → ds.length = ps.length) ∧
    ∀ (A : Around) (outer : List Env) (s : Shared) (H : Hp) (args : Args) (us : List Value) (vs : List V) (Q : VK) (E : XK) (a : Addr) (oe : Obj) (C dd : Addr), C ∈ exs → A.guards = some [] → L2H.RoomH k A → Zc (.ref C) (some dd) oe → (∃ vs, oe.data = .fields vs) → L2H.PinOk outer H s (a, oe) →
      Env0 P w K mg base A outer s H → BindsTo s fd args (ps.zip us) → Vals vs us → liftSp ⟨K, T⟩ (sp a C dd) vs H Q E → codeAny (model P w) A (.call (.ref f) args) (CR (L2.CX P w) outer P w H s Q E) s
/-- a def that wants to know that no text of an object is being made -/
structure FnG (P : Program) (w : World) (K : PySem.W.Frag) (mg : Str → Option Value) (base : Heap) (T : List (Addr × Str)) (k : Nat) (f : Addr) (sp : Sp3) : Prop where
  ok : ∃ fd ps, Binds K fd ps [] ∧ (∀ ds G Q E, sp ds G Q E → ds.length = ps.length) ∧
    ∀ (A : Around) (outer : List Env) (s : Shared) (H : Hp) (args : Args) (us : List Value) (vs : List V) (Q : VK) (E : XK), A.guards = some [] → Room k A →
      Env0 P w K mg base A outer s H → BindsTo s fd args (ps.zip us) → Vals vs us → liftSp ⟨K, T⟩ sp vs H Q E → codeAny (model P w) A (.call (.ref f) args) (CR (L2.CX P w) outer P w H s Q E) s
/-- how an exception of a class with fields is told -/
abbrev Ft := Addr → List (Str × D) → List D → Prop
def TTf (w : Wd) (ft : Ft) : (XK → Hp → VK → Prop) → Hp → VK → Prop := fun tl H Q =>
  tl (fun cls od H' => ∃ C dd gs fs G vals Q3, cls = .ref C ∧ od = some dd ∧ G dd = none ∧ H' dd = some (.xd gs) ∧ FReps w.K H' G gs fs ∧ GRel w H' G ∧ ft C fs vals ∧ Q3 (.tup vals) G ∧ EK w H' G Q3 Q) H (fun _ H' => Q .non H')
structure FaultAt (P : Program) (w : World) (K : PySem.W.Frag) (mg : Str → Option Value) (base : Heap) (T : List (Addr × Str)) (k : Nat) (x : Str) (g : Addr) (ft : Ft) : Prop where
  ok : ∃ (Ng : List Str) (a : Str) (pg : Arguments) (bg : List Stmt) (sg : Scope) (dV kV doc pm cdv ct oc : Value) (an od : Option Addr) (osl : Array (Option Value)),
    K.lookup g = some ⟨oc, od, .func (PySem.W.fnOf x x pg bg sg dV kV doc pm an cdv ct), osl⟩ ∧ PySem.W.codeIn K cdv x = true ∧ L2.Binds K (PySem.W.fnOf x x pg bg sg dV kV doc pm an cdv ct) [a] [] ∧ FnScope Ng [a] sg ∧ Ng[0]? = some a ∧ Vis sg a ∧
    (a == ("__debug__" : Str)) = false ∧ (a == ("__classdict__" : Str)) = false ∧
    ∀ (X : Cx) (q : Str), X.prog = P → X.w = w → X.K = K → X.mg = mg → X.base = base → X.A.guards = some [] → L2H.RoomH (k + 1) X.A → GivesTo X Ng x sg g cdv bg a q (TTf ⟨K, T⟩ ft)
/-- exceptions' classes, side by side under one class, whose __init__ keeps fields -/
structure ExOk (K : PySem.W.Frag) (cs : List Addr) (fs : List Str) : Prop where
  xf : ∀ C ∈ cs, XfC K C
  xi : ∀ C ∈ cs, ExcC K C
  no : ∀ C ∈ cs, ∀ n ∈ fs, PySem.W.findIn K (.ref C) n = some none
  cc : ∀ C ∈ cs, ∀ C' ∈ cs, PySem.W.kitOne K (.ref C) (.ref C') = some (decide (C = C'))
  ve : ∀ C ∈ cs, PySem.W.kitOne K (.ref C) (.type "ValueError") = some true
/-- no limit of digits is set -/
def NoDigK (K : PySem.W.Frag) : Prop := ∀ h, K.In h → h.NoDigits
/-- what must be known of an exception's class whose __init__ keeps its arguments as fields fs -/
structure RzAt (P : Program) (w : World) (K : PySem.W.Frag) (mg : Str → Option Value) (base : Heap) (k : Nat) (x : Str) (C : Addr) (fs : List Str) : Prop where
  at_ : mg x = some (.ref C)
  oex : OexC K C
  ne : fs ≠ []
  ini : ∃ fI fd ps sp, PySem.W.findIn K (.ref C) "__init__" = some (some (.ref fI)) ∧ PySem.W.typeIn K (.ref fI) = some (.type "function") ∧ FnOk P w K mg base (L2.CX P w) k fI fd ps sp ∧ Binds K fd ps [] ∧
    ∀ (a : Addr) (vs : List V) (H : Hp) (Q : VK) (E : XK), vs.length = fs.length → H a = some (exo a C none) → (∀ d, H d = none → d ≠ a → Q .non (upd (upd H d (exd d (fs.zip vs).reverse)) a (exo a C (some d)))) → sp (.ref a :: vs) H Q E
/-- what a def's text leans on -/
structure Cn where
  T : List (Addr × Str)
  N : List Str
  nm : List (Str × NameKind)
  fn : List (Str × Sp3) := []
  gv : List (Str × D) := []
  bt : List Str := []
  fl : List (Addr × Str) := []
  mt : List (Str × Addr × Sp3) := []
  mks : List (Str × Addr × Sp3) := []
  cs : List Addr := []
  rz : List (Str × Addr × List Str) := []
  cf : Bool := true
  gc : List Str := []
  /-- an exception is handled: where it is, its class, its dict -/
  hot : Bool := false
  hx : Option (Addr × Addr × Addr) := none
  exs : List Addr := []
  xfs : List Str := []
  fnE : List (Str × SpE3) := []
  fnL : List (Str × Sp3) := []
  nd : Bool := false
  gd : Bool := false
  fnG : List (Str × Sp3) := []
  lm : Option (Addr × Addr) := none
  lf : Option (Str × Ft) := none
/-- the same over other names -/
def Cn.blk (c : Cn) (nm : List (Str × NameKind)) : Cn := { c with nm := nm, cf := false, hx := none, lm := none }
/-- the same within a lambda -/
def Cn.lamc (c : Cn) (nm : List (Str × NameKind)) : Cn := { T := c.T, N := c.N, nm := nm, fn := c.fnL, gv := c.gv, bt := c.bt, fl := c.fl, cs := c.cs, cf := false, gc := c.gc }
/-- the world's facts -/
structure GOk (c : Cn) (k : Nat) (P : Program) (w : World) (K : PySem.W.Frag) (mg : Str → Option Value) (base : Heap) : Prop where
  fn : ∀ (i : Nat) x sp, c.fn[i]? = some (x, sp) → ∃ f, mg x = some (.ref f) ∧ PySem.W.keepIn K (.ref f) = true ∧ FnAt P w K mg base c.T k f sp
  gv : ∀ (i : Nat) x d, c.gv[i]? = some (x, d) → ∃ v u, mg x = some u ∧ RelV v u ∧ ∀ H G, Rep K H G v d
  bt : ∀ x ∈ c.bt, mg x = none
  fl : ∀ p ∈ c.fl, Cls K p.1 ∧ NoAttr K p.1 p.2
  mt : ∀ (i : Nat) m C sp, c.mt[i]? = some (m, C, sp) → ∃ f, Cls K C ∧ Meth K C m f ∧ FnAt P w K mg base c.T k f sp
  mks : ∀ (i : Nat) x C sp, c.mks[i]? = some (x, C, sp) → ∃ f, mg x = some (.ref C) ∧ Mk K C f ∧ FnAt P w K mg base c.T k f sp
  cs : IsiOk K c.cs
  rz : ∀ (i : Nat) x C fs, c.rz[i]? = some (x, C, fs) → RzAt P w K mg base k x C fs
  gc : ∀ x ∈ c.gc, mg x = some (.builtin "math.gcd")
  ex : ExOk K c.exs c.xfs
  fnE : ∀ (i : Nat) x sp, c.fnE[i]? = some (x, sp) → ∃ f, mg x = some (.ref f) ∧ PySem.W.keepIn K (.ref f) = true ∧ FnE P w K mg base c.T k f c.exs sp
  fnL : ∀ (i : Nat) x sp, c.fnL[i]? = some (x, sp) → ∃ f, mg x = some (.ref f) ∧ PySem.W.keepIn K (.ref f) = true ∧ FnAt P w K mg base c.T (k - 2) f sp
  nd : c.nd = true → NoDigK K
  fnG : ∀ (i : Nat) x sp, c.fnG[i]? = some (x, sp) → ∃ f, mg x = some (.ref f) ∧ PySem.W.keepIn K (.ref f) = true ∧ FnG P w K mg base c.T k f sp
  lf : ∀ x ft, c.lf = some (x, ft) → 2 ≤ k ∧ ∃ g, mg x = some (.ref g) ∧ PySem.W.keepIn K (.ref g) = true ∧ FaultAt P w K mg base c.T k x g ft
structure XOk (c : Cn) (k : Nat) (E : XK) (X : Cx) : Prop where
  tk : Takes X fun cls d _ H => E cls d H
  rmH : L2H.RoomH (k + 1) X.A
  cold : c.hot = false → X.A.handled = none ∧ X.calm = true
  hx : ∀ a C dd, c.hx = some (a, C, dd) → C ∈ c.exs ∧ ∃ oe : Obj, (a, oe) ∈ X.pn ∧ Zc (.ref C) (some dd) oe ∧ ∃ vs, oe.data = .fields vs
  gd : c.gd = true → X.A.guards = some []
  lm : ∀ cP P, c.lm = some (cP, P) → X.env.code = .ref cP ∧ TabB X.base X.mg cP P ∧ (P, X.env.qual ++ "<lambda>") ∈ c.T ∧ ∀ p ∈ c.T, p.1 = P → p.2 = X.env.qual ++ "<lambda>"
  nd : X.N.Nodup
  N : X.N = c.N
  nm : X.env.scope.names = c.nm
  kind : X.env.scope.kind = .function
  cel : c.cf = true → ∀ x, X.fn x = true
  po : PassesOwn (model X.prog X.w) X.A X.env X.xe
  g : GOk c k X.prog X.w X.K X.mg X.base
def visB (nm : List (Str × NameKind)) (x : Str) : Bool := match nm.lookup x with
  | some .local => true
  | some .cell => true
  | some .free => true
  | _ => false
def locB (c : Cn) (x : Str) : Bool := match c.nm.lookup x with
  | some .local => true
  | some .cell => c.cf
  | _ => false
def plocB (nm : List (Str × NameKind)) (x : Str) : Bool := match nm.lookup x with
  | some .local => true
  | _ => false
def glB (nm : List (Str × NameKind)) (x : Str) : Bool := match nm.lookup x with
  | some .globalImplicit => true
  | _ => false
def nameB (x : Str) : Bool := !(x == ("__debug__" : Str)) && !(x == ("__classdict__" : Str)) && !decide (x = "__name__")
theorem nameB_of {x : Str} (h : nameB x = true) : (x == ("__debug__" : Str)) = false ∧ (x == ("__classdict__" : Str)) = false ∧ x ≠ "__name__" := by
  unfold nameB at h
  simp only [Bool.and_eq_true, Bool.not_eq_true', decide_eq_false_iff_not] at h
  exact ⟨h.1.1, h.1.2, h.2⟩
section
variable {c : Cn} {k : Nat} {E : XK} {X : Cx}
theorem vis_of (h : XOk c k E X) {x : Str} (v : visB c.nm x = true) : Vis X.env.scope x := by
  unfold visB at v
  unfold Vis
  rw [h.nm]
  split at v <;> simp_all
theorem loc_of (h : XOk c k E X) {x : Str} (v : locB c x = true) : L2.Loc X.env.scope x ∧ (X.fn x = true ∨ X.env.scope.names.lookup x = some .local) := by
  unfold locB at v
  unfold L2.Loc
  split at v
  · rename_i e
    rw [← h.nm] at e
    exact ⟨.inl e, .inr e⟩
  · rename_i e
    rw [← h.nm] at e
    exact ⟨.inr e, .inl (h.cel v x)⟩
  · cases v
theorem ploc_of (h : XOk c k E X) {x : Str} (v : plocB c.nm x = true) : X.env.scope.names.lookup x = some .local := by
  unfold plocB at v
  split at v
  · rename_i e; rw [← h.nm] at e; exact e
  · cases v
theorem gl_of (h : XOk c k E X) {x : Str} (v : glB c.nm x = true) : Gl X x := by
  unfold glB at v
  split at v
  · rename_i e; rw [← h.nm] at e; exact e
  · cases v
theorem XOk.pass (h : XOk c k E X) (σ : L2.St) : PassesAt (L2.CX X.prog X.w) X σ E := passAt h.tk σ
theorem XOk.passes (h : XOk c k E X) : Passes (L2.CX X.prog X.w) X E := passes_call h.tk fun _ _ _ _ e => e
theorem XOk.hu (h : XOk c k E X) : X.A.units + 64 < cLine := by have := h.rmH.un; omega
theorem XOk.hu1 (h : XOk c k E X) : X.A.units + 1 < cLine := by have := h.rmH.un; omega
theorem XOk.room (h : XOk c k E X) (z : c.hot = false) : Room (k + 1) X.A := ⟨(h.cold z).1, h.rmH.dp, h.rmH.un⟩
theorem XOk.rm (h : XOk c k E X) (z : c.hot = false) : Room k X.A := (h.room z).mono (Nat.le_succ k)
theorem XOk.calm (h : XOk c k E X) (z : c.hot = false) : X.calm = true := (h.cold z).2
theorem cold_of {c : Cn} (h : (!c.hot) = true) : c.hot = false := by
  cases e : c.hot
  · rfl
  · rw [e] at h; cases h
end
abbrev LE (w : Wd) (E : XK) (t : TE3) : TE := liftE w (fun _ => E) t
abbrev LT (w : Wd) (E : XK) (t : TT3) : TT := liftT w (fun _ => E) t
abbrev LA (w : Wd) (E : XK) (t : TA3) : TA := liftA w (fun _ => E) t
/-- an expression's reading with its check -/
structure CE (c : Cn) where
  t : TE3
  chk : Expr → Bool
  ok : ∀ {k : Nat} {E : XK} {X : Cx} {e : Expr}, XOk c k E X → chk e = true → PE X e (LE ⟨X.K, c.T⟩ E t)
structure CT (c : Cn) where
  t : TT3
  chk : Expr → Bool
  ok : ∀ {k : Nat} {E : XK} {X : Cx} {e : Expr}, XOk c k E X → chk e = true → PT X e (LT ⟨X.K, c.T⟩ E t)
/-! ### composing -/
def seqE (a : TE3) (b : D → TE3) : TE3 := fun τ G Q E => a τ G (fun d G1 => b d τ G1 Q E) E
def opE (r : R3) (a b : TE3) : TE3 := fun τ G Q E => a τ G (fun x G1 => b τ G1 (fun y G2 => r x y G2 Q) E) E
def unE (r : R1) (a : TE3) : TE3 := fun τ G Q E => a τ G (fun x G1 => r x G1 Q) E
section
variable {w : Wd} {E : XK} {σ : L2.St} {H : Hp}
theorem l_op {r : R3} {a b : TE3} {Q : VK} (h : LE w E (opE r a b) σ H Q) : tOp (lift2 w r) (LE w E a) (LE w E b) σ H Q := by
  obtain ⟨τ, G, Q3, E3, rs, g, h, kk, kx⟩ := h
  refine ⟨τ, G, _, E3, rs, g, h, fun v H1 d G1 s1 q1 h1 => ?_, kx⟩
  exact ⟨τ, G1, _, E3, rs.step s1, s1.rel, h1, fun v2 H2 d2 G2 s2 q2 h2 => ⟨d, d2, G2, Q3, q1.step s2, q2, s2.rel, h2, (kk.step s1).step s2⟩, kx.step s1⟩
theorem l_un {r : R1} {a : TE3} {Q : VK} (h : LE w E (unE r a) σ H Q) : tUn (lift1 w r) (LE w E a) σ H Q := by
  obtain ⟨τ, G, Q3, E3, rs, g, h, kk, kx⟩ := h
  exact ⟨τ, G, _, E3, rs, g, h, fun v H1 d G1 s1 q1 h1 => ⟨d, G1, Q3, q1, s1.rel, h1, kk.step s1⟩, kx⟩
end
/-! ### names, constants -/
def varE (i : Nat) : TE3 := fun τ G Q _ => ∃ d, τ[i]? = some (some d) ∧ Q d G
def cE (d : D) : TE3 := fun _ G Q _ => Q d G
theorem l_var {w : Wd} {E : XK} {i : Nat} {σ : L2.St} {H : Hp} {Q : VK} (h : LE w E (varE i) σ H Q) : tVar i σ H Q := by
  obtain ⟨τ, G, Q3, E3, rs, g, ⟨d, hd, q⟩, kk, kx⟩ := h
  obtain ⟨v, hv, r⟩ := rs.2 i d hd
  exact ⟨v, hv, now g r q kk⟩
theorem l_c {w : Wd} {E : XK} {v : V} {d : D} (hr : ∀ H G, Rep w.K H G v d) {σ : L2.St} {H : Hp} {Q : VK} (h : LE w E (cE d) σ H Q) : tC v σ H Q := by
  obtain ⟨τ, G, Q3, E3, rs, g, q, kk, kx⟩ := h
  exact now g (hr H G) q kk
/-- a local name -/
def eVar {c : Cn} (i : Nat) : CE c where
  t := varE i
  chk := fun
    | .Name x _ => decide (c.N[i]? = some x) && visB c.nm x && nameB x
    | _ => false
  ok := fun {k E X e} h ch => by
    split at ch
    · rename_i x p
      simp only [Bool.and_eq_true, decide_eq_true_eq] at ch
      obtain ⟨n1, n2, n3⟩ := nameB_of ch.2
      exact PE.imp (pe_var (by rw [h.N]; exact ch.1.1) (vis_of h ch.1.2) n1 n2) fun _ _ _ q => l_var q
    · cases ch
/-- a constant -/
def eInt {c : Cn} (i : Int) : CE c where
  t := cE (.int i)
  chk := fun
    | .Constant (.int j) _ _ => i == j
    | _ => false
  ok := fun {k E X e} h ch => by
    split at ch
    · have := eq_of_beq ch
      subst this
      exact PE.imp pe_int fun _ _ _ q => l_c (fun _ _ => .int _) q
    · cases ch
def eStr {c : Cn} (x : Str) : CE c where
  t := cE (.str x)
  chk := fun
    | .Constant (.str y) _ _ => decide (x = y)
    | _ => false
  ok := fun {k E X e} h ch => by
    split at ch
    · have := of_decide_eq_true ch
      subst this
      exact PE.imp pe_str fun _ _ _ q => l_c (fun _ _ => .str _) q
    · cases ch
def eBl {c : Cn} (b : Bool) : CE c where
  t := cE (.bl b)
  chk := fun
    | .Constant (.bool y) _ _ => b == y
    | _ => false
  ok := fun {k E X e} h ch => by
    split at ch
    · have := eq_of_beq ch
      subst this
      exact PE.imp pe_bl fun _ _ _ q => l_c (fun _ _ => .bl _) q
    · cases ch
def eNon {c : Cn} : CE c where
  t := cE .non
  chk := fun
    | .Constant .none _ _ => true
    | _ => false
  ok := fun {k E X e} h ch => by
    split at ch
    · exact PE.imp pe_non fun _ _ _ q => l_c (fun _ _ => .non) q
    · cases ch
def gvD (c : Cn) (i : Nat) : D := match c.gv[i]? with
  | some (_, d) => d
  | none => .non
/-- a module's constant, a class -/
def eGlob {c : Cn} (i : Nat) : CE c where
  t := cE (gvD c i)
  chk := fun
    | .Name x _ => (match c.gv[i]? with
      | some (y, _) => decide (x = y)
      | none => false) && glB c.nm x && nameB x
    | _ => false
  ok := fun {k E X e} h ch => by
    split at ch
    · rename_i x p
      simp only [Bool.and_eq_true] at ch
      obtain ⟨n1, n2, n3⟩ := nameB_of ch.2
      have ch1 := ch.1.1
      split at ch1
      · rename_i y d e
        have := of_decide_eq_true ch1
        subst this
        obtain ⟨v, u, h1, h2, h3⟩ := h.g.gv i x d e
        refine PE.imp (pe_glob (gl_of h ch.1.2) h1 h2 n1) fun _ _ _ q => l_c (w := ⟨X.K, c.T⟩) (fun H G => ?_) q
        unfold gvD
        rw [e]
        exact h3 H G
      · cases ch1
    · cases ch
/-- a built-in type as a value -/
def eTy {c : Cn} (n : String) : CE c where
  t := cE (.ty n)
  chk := fun
    | .Name x _ => decide (x = Str.ofString n) && c.bt.contains x && glB c.nm x && nameB x && decide (bootBuiltins x = some (.type n))
    | _ => false
  ok := fun {k E X e} h ch => by
    split at ch
    · rename_i x p
      simp only [Bool.and_eq_true, decide_eq_true_eq] at ch
      obtain ⟨n1, n2, n3⟩ := nameB_of ch.1.2
      exact PE.imp (pe_bltn (v := .ty n) (gl_of h ch.1.1.2) (h.g.bt x (List.contains_iff_mem.mp ch.1.1.1.2)) ch.2 rfl n3 n1) fun _ _ _ q => l_c (fun _ _ => .ty n) q
    · cases ch
/-! ### operators -/
def opB : Operator → Operator → Bool
  | .Add, .Add => true
  | .Sub, .Sub => true
  | .Mult, .Mult => true
  | .FloorDiv, .FloorDiv => true
  | .Mod, .Mod => true
  | .Pow, .Pow => true
  | _, _ => false
theorem opB_eq {a b : Operator} (h : opB a b = true) : a = b := by
  cases a <;> cases b <;> first | rfl | (exact Bool.noConfusion h)
/-- what an operator says, m: a new list is tracked -/
def binD (m : Bool) : Operator → R3
  | .Add => addD m
  | .Sub => subD
  | .Mult => mulD m
  | .FloorDiv => fdivD
  | .Mod => modD
  | .Pow => powD
  | _ => fun _ _ _ _ => False
theorem bin_ok {X : Cx} {T : List (Addr × Str)} (m : Bool) (op : Operator) (h : opB op op = true) : OpR X (binaryOp op) (lift2 ⟨X.K, T⟩ (binD m op)) := by
  cases op <;> first | exact o_add m | exact o_sub | exact o_mul m | exact o_fdiv | exact o_mod | exact o_pow | (exact Bool.noConfusion h)
def eBin {c : Cn} (op : Operator) (a b : CE c) (m : Bool := false) : CE c where
  t := opE (binD m op) a.t b.t
  chk := fun
    | .BinOp x o y _ => opB op o && a.chk x && b.chk y
    | _ => false
  ok := fun {k E X e} h ch => by
    split at ch
    · simp only [Bool.and_eq_true] at ch
      have := opB_eq ch.1.1
      subst this
      exact PE.imp (pe_op (bin_ok m op ch.1.1) (a.ok h ch.1.2) (b.ok h ch.2)) fun _ _ _ q => l_op q
    · cases ch
def eNeg {c : Cn} (a : CE c) : CE c where
  t := unE negD a.t
  chk := fun
    | .UnaryOp .USub x _ => a.chk x
    | _ => false
  ok := fun {k E X e} h ch => by
    split at ch
    · exact PE.imp (pe_un u_neg (a.ok h ch)) fun _ _ _ q => l_un q
    · cases ch
/-! ### comparisons -/
def cmpB : CmpOp → CmpOp → Bool
  | .Eq, .Eq => true
  | .NotEq, .NotEq => true
  | .Lt, .Lt => true
  | .LtE, .LtE => true
  | .Gt, .Gt => true
  | .GtE, .GtE => true
  | .Is, .Is => true
  | .IsNot, .IsNot => true
  | .In, .In => true
  | .NotIn, .NotIn => true
  | _, _ => false
theorem cmpB_eq {a b : CmpOp} (h : cmpB a b = true) : a = b := by
  cases a <;> cases b <;> first | rfl | (exact Bool.noConfusion h)
def cmpD : CmpOp → R3
  | .Eq => eqD false
  | .NotEq => eqD true
  | .Lt => ordD fun i j => decide (i < j)
  | .LtE => ordD fun i j => decide (i ≤ j)
  | .Gt => ordD fun i j => decide (j < i)
  | .GtE => ordD fun i j => decide (j ≤ i)
  | .Is => isD false
  | .IsNot => isD true
  | .In => inD false
  | .NotIn => inD true
theorem cmp_ok {X : Cx} {T : List (Addr × Str)} (hu : X.A.units + 64 < cLine) (op : CmpOp) : OpR X (compareOp op) (lift2 ⟨X.K, T⟩ (cmpD op)) := by
  cases op <;> first | exact o_eq hu | exact o_ne hu | exact o_ord op_lt | exact o_ord op_le | exact o_ord op_gt | exact o_ord op_ge | exact o_is | exact o_isNot | exact o_in | exact o_notIn
/-- not a written set -/
def noSet : Expr → Bool
  | .Set .. => false
  | _ => true
theorem noSet_mark {op : CmpOp} {e : Expr} (h : noSet e = true) : behindInMarks op e = false := by
  cases e <;> first | rfl | (exact Bool.noConfusion h)
def eCmp {c : Cn} (op : CmpOp) (a b : CE c) : CE c where
  t := opE (cmpD op) a.t b.t
  chk := fun
    | .Compare x [o] [y] _ => cmpB op o && a.chk x && b.chk y && noSet y
    | _ => false
  ok := fun {k E X e} h ch => by
    split at ch
    · simp only [Bool.and_eq_true] at ch
      have := cmpB_eq ch.1.1.1
      subst this
      exact PE.imp (pe_cmpR (cmp_ok h.hu op) (a.ok h ch.1.1.2) (b.ok h ch.1.2) (noSet_mark ch.2)) fun _ _ _ q => l_op q
    · cases ch
/-- a reading as a test -/
def testT (t : TE3) : TT3 := fun τ G Q E => t τ G (fun d G1 => ∃ b, d = .bl b ∧ Q b G1) E
theorem l_test {w : Wd} {E : XK} {t : TE3} {u : TE} (hu : ∀ σ H Q, LE w E t σ H Q → u σ H Q) {σ : L2.St} {H : Hp} {Q : Bool → Hp → Prop} (h : LT w E (testT t) σ H Q) : tTest u σ H Q := by
  obtain ⟨τ, G, Q3, E3, rs, g, h, kk, kx⟩ := h
  refine hu _ _ _ ⟨τ, G, _, E3, rs, g, h, fun v H1 d G1 s1 q1 h1 => ?_, kx⟩
  obtain ⟨b, rfl, h1⟩ := h1
  cases q1
  exact ⟨b, rfl, kk _ _ _ s1 h1⟩
def tCmp3 {c : Cn} (op : CmpOp) (a b : CE c) : CT c where
  t := testT (opE (cmpD op) a.t b.t)
  chk := fun
    | .Compare x [o] [y] _ => cmpB op o && a.chk x && b.chk y && noSet y
    | _ => false
  ok := fun {k E X e} h ch => by
    split at ch
    · simp only [Bool.and_eq_true] at ch
      have := cmpB_eq ch.1.1.1
      subst this
      exact PT.imp (pt_cmpR (cmp_ok h.hu op) (a.ok h ch.1.1.2) (b.ok h ch.1.2) (noSet_mark ch.2)) fun _ _ _ q => l_test (fun _ _ _ q => l_op q) q
    · cases ch
/-- a op b op2 d -/
def chainE (r r' : R3) (a b d : TE3) : TE3 := fun τ G Q E => a τ G (fun x G1 => b τ G1 (fun y G2 => r x y G2 fun z G3 => ∃ k, z = .bl k ∧ if k = true then d τ G3 (fun v G4 => r' y v G4 Q) E else Q (.bl false) G3) E) E
theorem l_chain {w : Wd} {E : XK} {r r' : R3} {a b d : TE3} {σ : L2.St} {H : Hp} {Q : VK} (h : LE w E (chainE r r' a b d) σ H Q) : tChain (lift2 w r) (lift2 w r') (LE w E a) (LE w E b) (LE w E d) σ H Q := by
  obtain ⟨τ, G, Q3, E3, rs, g, h, kk, kx⟩ := h
  refine ⟨τ, G, _, E3, rs, g, h, fun v1 H1 d1 G1 s1 q1 h1 => ?_, kx⟩
  refine ⟨τ, G1, _, E3, rs.step s1, s1.rel, h1, fun v2 H2 d2 G2 s2 q2 h2 => ?_, kx.step s1⟩
  refine ⟨d1, d2, G2, _, q1.step s2, q2, s2.rel, h2, fun v3 H3 d3 G3 s3 q3 h3 => ?_⟩
  obtain ⟨k, rfl, h3⟩ := h3
  cases q3
  refine ⟨k, rfl, ?_⟩
  split at h3
  · rename_i hk
    rw [if_pos hk]
    refine ⟨τ, G3, _, E3, ((rs.step s1).step s2).step s3, s3.rel, h3, fun v4 H4 d4 G4 s4 q4 h4 => ?_, ((kx.step s1).step s2).step s3⟩
    exact ⟨d2, d4, G4, Q3, (q2.step s3).step s4, q4, s4.rel, h4, (((kk.step s1).step s2).step s3).step s4⟩
  · rename_i hk
    rw [if_neg hk]
    exact now s3.rel (.bl _) h3 (((kk.step s1).step s2).step s3)
theorem noSet_marks {op op' : CmpOp} {x y : Expr} (h : noSet y = true) : lastMarks [op, op'] [x, y] = false := noSet_mark h
def eChain {c : Cn} (op op' : CmpOp) (a b d : CE c) : CE c where
  t := chainE (cmpD op) (cmpD op') a.t b.t d.t
  chk := fun
    | .Compare x [o, o'] [y, z] _ => cmpB op o && cmpB op' o' && a.chk x && b.chk y && d.chk z && noSet z
    | _ => false
  ok := fun {k E X e} h ch => by
    split at ch
    · simp only [Bool.and_eq_true] at ch
      have := cmpB_eq ch.1.1.1.1.1
      subst this
      have := cmpB_eq ch.1.1.1.1.2
      subst this
      exact PE.imp (pe_chain (cmp_ok h.hu op) (cmp_ok h.hu op') (a.ok h ch.1.1.1.2) (b.ok h ch.1.1.2) (d.ok h ch.1.2) (noSet_marks ch.2)) fun _ _ _ q => l_chain q
    · cases ch
def tChain3 {c : Cn} (op op' : CmpOp) (a b d : CE c) : CT c where
  t := testT (chainE (cmpD op) (cmpD op') a.t b.t d.t)
  chk := fun
    | .Compare x [o, o'] [y, z] _ => cmpB op o && cmpB op' o' && a.chk x && b.chk y && d.chk z && noSet z
    | _ => false
  ok := fun {k E X e} h ch => by
    split at ch
    · simp only [Bool.and_eq_true] at ch
      have := cmpB_eq ch.1.1.1.1.1
      subst this
      have := cmpB_eq ch.1.1.1.1.2
      subst this
      exact PT.imp (pt_chain (cmp_ok h.hu op) (cmp_ok h.hu op') (a.ok h ch.1.1.1.2) (b.ok h ch.1.1.2) (d.ok h ch.1.2) (noSet_marks ch.2)) fun _ _ _ q => l_test (fun _ _ _ q => l_chain q) q
    · cases ch
/-! ### truth -/
def truT (t : TE3) : TT3 := fun τ G Q E => t τ G (fun d G1 => ∃ b, truD G1 d = some b ∧ Q b G1) E
theorem l_tru {X : Cx} {T : List (Addr × Str)} {E : XK} {t : TE3} {σ : L2.St} {H : Hp} {Q : Bool → Hp → Prop} (h : LT ⟨X.K, T⟩ E (truT t) σ H Q) : LE ⟨X.K, T⟩ E t σ H fun x H' => ∃ k, TruV X.K x H' k ∧ Q k H' := by
  obtain ⟨τ, G, Q3, E3, rs, g, h, kk, kx⟩ := h
  refine ⟨τ, G, _, E3, rs, g, h, fun v H1 d G1 s1 q1 h1 => ?_, kx⟩
  obtain ⟨b, e, h1⟩ := h1
  exact ⟨b, tru_rep s1.rel q1 e, kk _ _ _ s1 h1⟩
/-- an expression whose test is its value's truth -/
def plainT : Expr → Bool
  | .UnaryOp .Not _ _ => false
  | .BoolOp .. => false
  | .IfExp .. => false
  | .Compare .. => false
  | _ => true
theorem plainT_of {e : Expr} {env : Env} (h : plainT e = true) : ∀ whole, isTrue e env whole = (do let v ← whole; standAt e.pos; holding [v] (truthy v)) := by
  intro whole
  cases e <;> first | rfl | (exact Bool.noConfusion h) | (rename_i op _ _; cases op <;> first | rfl | (exact Bool.noConfusion h))
def tTru {c : Cn} (a : CE c) : CT c where
  t := truT a.t
  chk := fun e => plainT e && a.chk e
  ok := fun {k E X e} h ch => by
    simp only [Bool.and_eq_true] at ch
    exact PT.imp (pt_truth (a.ok h ch.2) (plainT_of ch.1)) fun _ _ _ q => l_tru q
def notT (t : TT3) : TT3 := fun τ G Q E => t τ G (fun b G1 => Q (!b) G1) E
def tNot3 {c : Cn} (a : CT c) : CT c where
  t := notT a.t
  chk := fun
    | .UnaryOp .Not x _ => a.chk x
    | _ => false
  ok := fun {k E X e} h ch => by
    split at ch
    · refine PT.imp (pt_not (a.ok h ch)) fun _ _ _ q => ?_
      obtain ⟨τ, G, Q3, E3, rs, g, h, kk, kx⟩ := q
      exact ⟨τ, G, _, E3, rs, g, h, fun b H1 G1 s1 h1 => kk _ _ _ s1 h1, kx⟩
    · cases ch
def andT : List TT3 → TT3
  | [] => fun _ G Q _ => Q true G
  | [t] => t
  | t :: r => fun τ G Q E => t τ G (fun b G1 => if b = true then andT r τ G1 Q E else Q false G1) E
def orT : List TT3 → TT3
  | [] => fun _ G Q _ => Q false G
  | [t] => t
  | t :: r => fun τ G Q E => t τ G (fun b G1 => if b = true then Q true G1 else orT r τ G1 Q E) E
def chkTs {c : Cn} : List (CT c) → List Expr → Bool
  | [], [] => true
  | t :: r, e :: es => t.chk e && chkTs r es
  | _, _ => false
theorem ands_ok {c : Cn} {k : Nat} {E : XK} {X : Cx} {pos : Pos} (h : XOk c k E X) : ∀ {ts : List (CT c)} {es : List Expr}, ts ≠ [] → chkTs ts es = true → PW X (.BoolOp .And es pos) (LT ⟨X.K, c.T⟩ E (andT (ts.map (·.t))))
  | [], _, n, _ => absurd rfl n
  | [t], es, _, ch => by
    cases es with
    | nil => cases ch
    | cons e r =>
      simp only [chkTs, Bool.and_eq_true] at ch
      cases r with
      | nil => exact pw_and1 (t.ok h ch.1)
      | cons _ _ => cases ch.2
  | t :: u :: r, es, _, ch => by
    cases es with
    | nil => cases ch
    | cons e es =>
      simp only [chkTs, Bool.and_eq_true] at ch
      cases es with
      | nil => cases ch.2
      | cons e2 es =>
        refine PW.imp (pw_and (t.ok h ch.1) (ands_ok (ts := u :: r) h (by simp) ch.2)) fun _ _ _ q => ?_
        obtain ⟨τ, G, Q3, E3, rs, g, q, kk, kx⟩ := q
        refine ⟨τ, G, _, E3, rs, g, q, fun b H1 G1 s1 h1 => ?_, kx⟩
        dsimp only at h1
        split at h1
        · rename_i hb
          subst hb
          exact ⟨τ, G1, Q3, E3, rs.step s1, s1.rel, h1, kk.step s1, kx.step s1⟩
        · rename_i hb
          have hb' : b = false := by simpa using hb
          subst hb'
          exact kk _ _ _ s1 h1
theorem ors_ok {c : Cn} {k : Nat} {E : XK} {X : Cx} {pos : Pos} (h : XOk c k E X) : ∀ {ts : List (CT c)} {es : List Expr}, ts ≠ [] → chkTs ts es = true → PW X (.BoolOp .Or es pos) (LT ⟨X.K, c.T⟩ E (orT (ts.map (·.t))))
  | [], _, n, _ => absurd rfl n
  | [t], es, _, ch => by
    cases es with
    | nil => cases ch
    | cons e r =>
      simp only [chkTs, Bool.and_eq_true] at ch
      cases r with
      | nil => exact pw_or1 (t.ok h ch.1)
      | cons _ _ => cases ch.2
  | t :: u :: r, es, _, ch => by
    cases es with
    | nil => cases ch
    | cons e es =>
      simp only [chkTs, Bool.and_eq_true] at ch
      cases es with
      | nil => cases ch.2
      | cons e2 es =>
        refine PW.imp (pw_or (t.ok h ch.1) (ors_ok (ts := u :: r) h (by simp) ch.2)) fun _ _ _ q => ?_
        obtain ⟨τ, G, Q3, E3, rs, g, q, kk, kx⟩ := q
        refine ⟨τ, G, _, E3, rs, g, q, fun b H1 G1 s1 h1 => ?_, kx⟩
        dsimp only at h1
        split at h1
        · rename_i hb
          subst hb
          exact kk _ _ _ s1 h1
        · rename_i hb
          have hb' : b = false := by simpa using hb
          subst hb'
          exact ⟨τ, G1, Q3, E3, rs.step s1, s1.rel, h1, kk.step s1, kx.step s1⟩
def tAnds {c : Cn} (ts : List (CT c)) : CT c where
  t := andT (ts.map (·.t))
  chk := fun
    | .BoolOp .And es _ => !ts.isEmpty && chkTs ts es
    | _ => false
  ok := fun {k E X e} h ch => by
    split at ch
    · simp only [Bool.and_eq_true] at ch
      exact (ands_ok h (by intro z; rw [z] at ch; exact Bool.noConfusion ch.1) ch.2).pt
    · cases ch
def tOrs {c : Cn} (ts : List (CT c)) : CT c where
  t := orT (ts.map (·.t))
  chk := fun
    | .BoolOp .Or es _ => !ts.isEmpty && chkTs ts es
    | _ => false
  ok := fun {k E X e} h ch => by
    split at ch
    · simp only [Bool.and_eq_true] at ch
      exact (ors_ok h (by intro z; rw [z] at ch; exact Bool.noConfusion ch.1) ch.2).pt
    · cases ch
/-- and, or as values -/
def andE : List TE3 → TE3
  | [] => fun _ _ _ _ => False
  | [t] => t
  | t :: r => fun τ G Q E => t τ G (fun d G1 => ∃ b, truD G1 d = some b ∧ if b = true then andE r τ G1 Q E else Q d G1) E
def orE : List TE3 → TE3
  | [] => fun _ _ _ _ => False
  | [t] => t
  | t :: r => fun τ G Q E => t τ G (fun d G1 => ∃ b, truD G1 d = some b ∧ if b = true then Q d G1 else orE r τ G1 Q E) E
def chkEs {c : Cn} : List (CE c) → List Expr → Bool
  | [], [] => true
  | t :: r, e :: es => t.chk e && chkEs r es
  | _, _ => false
theorem andEs_ok {c : Cn} {k : Nat} {E : XK} {X : Cx} {pos : Pos} (h : XOk c k E X) : ∀ {ts : List (CE c)} {es : List Expr}, ts ≠ [] → chkEs ts es = true → PE X (.BoolOp .And es pos) (LE ⟨X.K, c.T⟩ E (andE (ts.map (·.t))))
  | [], _, n, _ => absurd rfl n
  | [t], es, _, ch => by
    cases es with
    | nil => cases ch
    | cons e r =>
      simp only [chkEs, Bool.and_eq_true] at ch
      cases r with
      | nil => exact pe_one (t.ok h ch.1)
      | cons _ _ => cases ch.2
  | t :: u :: r, es, _, ch => by
    cases es with
    | nil => cases ch
    | cons e es =>
      simp only [chkEs, Bool.and_eq_true] at ch
      cases es with
      | nil => cases ch.2
      | cons e2 es =>
        refine PE.imp (pe_andT (t.ok h ch.1) (andEs_ok (ts := u :: r) h (by simp) ch.2)) fun _ _ _ q => ?_
        obtain ⟨τ, G, Q3, E3, rs, g, q, kk, kx⟩ := q
        refine ⟨τ, G, _, E3, rs, g, q, fun v H1 d G1 s1 q1 h1 => ?_, kx⟩
        obtain ⟨b, eb, h1⟩ := h1
        refine ⟨b, tru_rep s1.rel q1 eb, ?_⟩
        split at h1
        · rename_i hb
          subst hb
          exact ⟨τ, G1, Q3, E3, rs.step s1, s1.rel, h1, kk.step s1, kx.step s1⟩
        · rename_i hb
          have hb' : b = false := by simpa using hb
          subst hb'
          exact now s1.rel q1 h1 (kk.step s1)
theorem orEs_ok {c : Cn} {k : Nat} {E : XK} {X : Cx} {pos : Pos} (h : XOk c k E X) : ∀ {ts : List (CE c)} {es : List Expr}, ts ≠ [] → chkEs ts es = true → PE X (.BoolOp .Or es pos) (LE ⟨X.K, c.T⟩ E (orE (ts.map (·.t))))
  | [], _, n, _ => absurd rfl n
  | [t], es, _, ch => by
    cases es with
    | nil => cases ch
    | cons e r =>
      simp only [chkEs, Bool.and_eq_true] at ch
      cases r with
      | nil => exact pe_one (t.ok h ch.1)
      | cons _ _ => cases ch.2
  | t :: u :: r, es, _, ch => by
    cases es with
    | nil => cases ch
    | cons e es =>
      simp only [chkEs, Bool.and_eq_true] at ch
      cases es with
      | nil => cases ch.2
      | cons e2 es =>
        refine PE.imp (pe_orT (t.ok h ch.1) (orEs_ok (ts := u :: r) h (by simp) ch.2)) fun _ _ _ q => ?_
        obtain ⟨τ, G, Q3, E3, rs, g, q, kk, kx⟩ := q
        refine ⟨τ, G, _, E3, rs, g, q, fun v H1 d G1 s1 q1 h1 => ?_, kx⟩
        obtain ⟨b, eb, h1⟩ := h1
        refine ⟨b, tru_rep s1.rel q1 eb, ?_⟩
        split at h1
        · rename_i hb
          subst hb
          exact now s1.rel q1 h1 (kk.step s1)
        · rename_i hb
          have hb' : b = false := by simpa using hb
          subst hb'
          exact ⟨τ, G1, Q3, E3, rs.step s1, s1.rel, h1, kk.step s1, kx.step s1⟩
def eAnds {c : Cn} (ts : List (CE c)) : CE c where
  t := andE (ts.map (·.t))
  chk := fun
    | .BoolOp .And es _ => !ts.isEmpty && chkEs ts es
    | _ => false
  ok := fun {k E X e} h ch => by
    split at ch
    · simp only [Bool.and_eq_true] at ch
      exact andEs_ok h (by intro z; rw [z] at ch; exact Bool.noConfusion ch.1) ch.2
    · cases ch
def eOrs {c : Cn} (ts : List (CE c)) : CE c where
  t := orE (ts.map (·.t))
  chk := fun
    | .BoolOp .Or es _ => !ts.isEmpty && chkEs ts es
    | _ => false
  ok := fun {k E X e} h ch => by
    split at ch
    · simp only [Bool.and_eq_true] at ch
      exact orEs_ok h (by intro z; rw [z] at ch; exact Bool.noConfusion ch.1) ch.2
    · cases ch
/-- not as a value -/
def notE (t : TE3) : TE3 := fun τ G Q E => t τ G (fun d G1 => ∃ b, truD G1 d = some b ∧ Q (.bl (!b)) G1) E
def eNot {c : Cn} (a : CE c) : CE c where
  t := notE a.t
  chk := fun
    | .UnaryOp .Not x _ => a.chk x
    | _ => false
  ok := fun {k E X e} h ch => by
    split at ch
    · refine PE.imp (pe_notT (a.ok h ch)) fun _ _ _ q => ?_
      obtain ⟨τ, G, Q3, E3, rs, g, q, kk, kx⟩ := q
      refine ⟨τ, G, _, E3, rs, g, q, fun v H1 d G1 s1 q1 h1 => ?_, kx⟩
      obtain ⟨b, eb, h1⟩ := h1
      exact ⟨b, tru_rep s1.rel q1 eb, now s1.rel (.bl _) h1 (kk.step s1)⟩
    · cases ch
def ifE (t : TT3) (a b : TE3) : TE3 := fun τ G Q E => t τ G (fun k G1 => if k = true then a τ G1 Q E else b τ G1 Q E) E
def eIf {c : Cn} (t : CT c) (a b : CE c) : CE c where
  t := ifE t.t a.t b.t
  chk := fun
    | .IfExp x y z _ => t.chk x && a.chk y && b.chk z
    | _ => false
  ok := fun {k E X e} h ch => by
    split at ch
    · simp only [Bool.and_eq_true] at ch
      refine PE.imp (pe_ifExp (t.ok h ch.1.1) (a.ok h ch.1.2) (b.ok h ch.2)) fun _ _ _ q => ?_
      obtain ⟨τ, G, Q3, E3, rs, g, q, kk, kx⟩ := q
      refine ⟨τ, G, _, E3, rs, g, q, fun v H1 G1 s1 h1 => ?_, kx⟩
      dsimp only at h1 ⊢
      split at h1
      · rename_i hb
        rw [if_pos hb]
        exact ⟨τ, G1, Q3, E3, rs.step s1, s1.rel, h1, kk.step s1, kx.step s1⟩
      · rename_i hb
        rw [if_neg hb]
        exact ⟨τ, G1, Q3, E3, rs.step s1, s1.rel, h1, kk.step s1, kx.step s1⟩
    · cases ch
end L3
set_option Elab.async false
set_option linter.all false
set_option maxRecDepth 100000
set_option maxHeartbeats 1000000
namespace L3
open PySem PySem.Spec PyProof.Rows L2 LamX
/-! ### argument lists -/
def noStar : Expr → Bool
  | .Starred .. => false
  | _ => true
theorem star_of {e : Expr} {es : List Expr} {env : Env} (h : noStar e = true) : starEach (e :: es) env = (false, eval e env) :: starEach es env := by
  cases e <;> first | rfl | (exact Bool.noConfusion h)
def argT : List TE3 → TA3
  | [] => fun _ G Q _ => Q [] G
  | t :: r => fun τ G Q E => t τ G (fun d G1 => argT r τ G1 (fun ds G2 => Q (d :: ds) G2) E) E
def chkAs {c : Cn} : List (CE c) → List Expr → Bool
  | [], [] => true
  | t :: r, e :: es => noStar e && t.chk e && chkAs r es
  | _, _ => false
theorem l_nil {w : Wd} {E : XK} {σ : L2.St} {H : Hp} {Q : List V → Hp → Prop} (h : LA w E (argT []) σ H Q) : tNil σ H Q := by
  obtain ⟨τ, G, Q3, E3, rs, g, q, kk, kx⟩ := h
  exact kk [] H [] G (Step.refl g) .nil q
theorem l_cons {w : Wd} {E : XK} {t : TE3} {r : List TE3} {σ : L2.St} {H : Hp} {Q : List V → Hp → Prop} (h : LA w E (argT (t :: r)) σ H Q) : tCons (LE w E t) (LA w E (argT r)) σ H Q := by
  obtain ⟨τ, G, Q3, E3, rs, g, q, kk, kx⟩ := h
  refine ⟨τ, G, _, E3, rs, g, q, fun v H1 d G1 s1 q1 h1 => ?_, kx⟩
  exact ⟨τ, G1, _, E3, rs.step s1, s1.rel, h1, fun vs H2 ds G2 s2 q2 h2 => kk _ _ _ _ (s1.trans s2) (.cons (q1.step s2) q2) h2, kx.step s1⟩
theorem args_ok {c : Cn} {k : Nat} {E : XK} {X : Cx} (h : XOk c k E X) : ∀ {ts : List (CE c)} {es : List Expr}, chkAs ts es = true → PA X es (LA ⟨X.K, c.T⟩ E (argT (ts.map (·.t))))
  | [], es, ch => by
    cases es with
    | nil => exact PA.imp pa_nil fun _ _ _ q => l_nil q
    | cons _ _ => cases ch
  | t :: r, es, ch => by
    cases es with
    | nil => cases ch
    | cons e es =>
      simp only [chkAs, Bool.and_eq_true] at ch
      exact PA.imp (pa_cons (t.ok h ch.1.2) (args_ok h ch.2) (star_of ch.1.1)) fun _ _ _ q => l_cons q
theorem back_any {c : Cn} {pos : Pos} {env : Env} : ∀ {ts : List (CE c)} {es : List Expr}, chkAs ts es = true → (backTo pos (starEach es env)).any (·.1) = false
  | [], es, ch => by
    cases es with
    | nil => rfl
    | cons _ _ => cases ch
  | t :: r, es, ch => by
    cases es with
    | nil => cases ch
    | cons e es =>
      simp only [chkAs, Bool.and_eq_true] at ch
      rw [star_of ch.1.1]
      exact back_any ch.2
theorem back_all {c : Cn} {pos : Pos} {env : Env} : ∀ {ts : List (CE c)} {es : List Expr}, chkAs ts es = true → (backTo pos (starEach es env)).all (fun x => !x.1) = true
  | [], es, ch => by
    cases es with
    | nil => rfl
    | cons _ _ => cases ch
  | t :: r, es, ch => by
    cases es with
    | nil => cases ch
    | cons e es =>
      simp only [chkAs, Bool.and_eq_true] at ch
      rw [star_of ch.1.1]
      exact back_all ch.2
theorem chk_len {c : Cn} : ∀ {ts : List (CE c)} {es : List Expr}, chkAs ts es = true → es.length = ts.length
  | [], es, ch => by
    cases es with
    | nil => rfl
    | cons _ _ => cases ch
  | t :: r, es, ch => by
    cases es with
    | nil => cases ch
    | cons e es =>
      simp only [chkAs, Bool.and_eq_true] at ch
      rw [List.length_cons, List.length_cons, chk_len ch.2]
/-! ### displays -/
def tupE (ts : List TE3) : TE3 := fun τ G Q E => argT ts τ G (fun ds G1 => ds.length ≤ sizeLine ∧ Q (.tup ds) G1) E
def lstE (m : Bool) (ts : List TE3) : TE3 := fun τ G Q E => argT ts τ G (fun ds G1 => ds.length ≤ sizeLine ∧ mkL m ds G1 Q) E
def eTup {c : Cn} (ts : List (CE c)) : CE c where
  t := tupE (ts.map (·.t))
  chk := fun
    | .Tuple es _ _ => chkAs ts es
    | _ => false
  ok := fun {k E X e} h ch => by
    split at ch
    · refine PE.imp (pe_tup (args_ok h ch)) fun _ _ _ q => ?_
      obtain ⟨τ, G, Q3, E3, rs, g, q, kk, kx⟩ := q
      refine ⟨τ, G, _, E3, rs, g, q, fun vs H1 ds G1 s1 q1 h1 => ?_, kx⟩
      exact ⟨by rw [q1.length]; exact h1.1, fun p hp => tup_done s1.rel hp q1 h1.2 (kk.step s1)⟩
    · cases ch
def eLst {c : Cn} (ts : List (CE c)) (m : Bool := false) : CE c where
  t := lstE m (ts.map (·.t))
  chk := fun
    | .List es _ => chkAs ts es
    | _ => false
  ok := fun {k E X e} h ch => by
    split at ch
    · refine PE.imp (pe_lst (args_ok h ch)) fun _ _ _ q => ?_
      obtain ⟨τ, G, Q3, E3, rs, g, q, kk, kx⟩ := q
      refine ⟨τ, G, _, E3, rs, g, q, fun vs H1 ds G1 s1 q1 h1 => ?_, kx⟩
      exact ⟨by rw [q1.length]; exact h1.1, fun p hp => mkL_done s1.rel hp q1 h1.2 (kk.step s1)⟩
    · cases ch
/-- a tracked list, tracked no longer -/
def frzD : R1 := fun x G Q => match x with
  | .obj a => match G a with
    | some (.lst l) => Q (.lst l) (delG G a)
    | some (.ins C fs) => Q (.ins C (fs.map (·.1)) (fs.map (·.2))) (delG G a)
    | _ => False
  | _ => False
theorem zip_maps {α β : Type} : ∀ (l : List (α × β)), (l.map (·.1)).zip (l.map (·.2)) = l
  | [] => rfl
  | (a, b) :: r => by rw [List.map_cons, List.map_cons, List.zip_cons_cons, zip_maps r]
def eFrz {c : Cn} (a : CE c) : CE c where
  t := unE frzD a.t
  chk := a.chk
  ok := fun {k E X e} h ch => by
    refine PE.imp (a.ok h ch) fun _ _ _ q => ?_
    obtain ⟨τ, G, Q3, E3, rs, g, q, kk, kx⟩ := q
    refine ⟨τ, G, _, E3, rs, g, q, fun v H1 d G1 s1 q1 h1 => ?_, kx⟩
    unfold frzD at h1
    dsimp only at h1
    split at h1
    · rename_i a
      split at h1
      · rename_i l e
        cases q1
        obtain ⟨xs, h2, r⟩ := s1.rel.2 a _ e
        have st : Step ⟨X.K, c.T⟩ H1 G1 H1 (delG G1 a) := Step.freeze s1.rel
        exact kk _ _ _ _ (s1.trans st) (.lst delG_same h2 (r.step st)) h1
      · rename_i C fs e
        cases q1
        obtain ⟨dx, gs, h2, r1, r2⟩ := s1.rel.2 a _ e
        have st : Step ⟨X.K, c.T⟩ H1 G1 H1 (delG G1 a) := Step.freeze s1.rel
        refine kk _ _ _ _ (s1.trans st) (.ins (dx := dx) (xs := gs.map (·.2)) delG_same ?_ ?_ (r2.step st)) h1
        · rw [← r1, zip_maps]; exact h2
        · rw [← r1, List.length_map, List.length_map]
      · exact h1.elim
    · exact h1.elim
/-! ### subscripts -/
def eIx {c : Cn} (a b : CE c) : CE c where
  t := opE ixD a.t b.t
  chk := fun
    | .Subscript x y _ => (match y with
      | .Slice .. => false
      | _ => true) && a.chk x && b.chk y
    | _ => false
  ok := fun {k E X e} h ch => by
    split at ch
    · rename_i x y p
      simp only [Bool.and_eq_true] at ch
      refine PE.imp (pe_ix (x_ix h.hu1) (a.ok h ch.1.2) (b.ok h ch.2) ?_) fun _ _ _ q => l_op q
      intro o i
      cases y <;> first | rfl | (exact Bool.noConfusion ch.1.1)
    · cases ch
def optE : Option TE3 → S3 → Gp → (Option Int → Gp → Prop) → X3 → Prop
  | none => fun _ G Q _ => Q none G
  | some t => fun τ G Q E => t τ G (fun d G1 => match d with
    | .int i => Q (some i) G1
    | _ => False) E
def slE (m : Bool) (a : TE3) (lo hi : Option TE3) : TE3 := fun τ G Q E => a τ G (fun x G1 => optE lo τ G1 (fun l G2 => optE hi τ G2 (fun u G3 => slD m x l u G3 Q) E) E) E
def chkO {c : Cn} : Option (CE c) → Option Expr → Bool
  | none, none => true
  | some a, some e => a.chk e
  | _, _ => false
def LO (w : Wd) (E : XK) (t : Option TE3) : TO := fun σ H Q => ∃ τ G Q3 E3, RelS w H G σ τ ∧ GRel w H G ∧ optE t τ G Q3 E3 ∧ (∀ o H' G', Step w H G H' G' → Q3 o G' → Q o H') ∧ XKR w H G E3 E
theorem opt_ok {c : Cn} {k : Nat} {E : XK} {X : Cx} (h : XOk c k E X) : ∀ {t : Option (CE c)} {e : Option Expr}, chkO t e = true → ∃ to, PO X e to ∧ ∀ σ H Q, LO ⟨X.K, c.T⟩ E (t.map (·.t)) σ H Q → to σ H Q
  | none, none, _ => ⟨_, po_none, fun σ H Q q => by
    obtain ⟨τ, G, Q3, E3, rs, g, q, kk, kx⟩ := q
    exact kk _ _ _ (Step.refl g) q⟩
  | some a, some e, ch => ⟨_, po_some (a.ok h ch), fun σ H Q q => by
    obtain ⟨τ, G, Q3, E3, rs, g, q, kk, kx⟩ := q
    refine ⟨τ, G, _, E3, rs, g, q, fun v H1 d G1 s1 q1 h1 => ?_, kx⟩
    cases d with
    | int i =>
      cases q1
      exact ⟨i, rfl, kk _ _ _ s1 h1⟩
    | _ => exact h1.elim⟩
  | none, some _, ch => by cases ch
  | some _, none, ch => by cases ch
def eSl {c : Cn} (a : CE c) (lo hi : Option (CE c)) (m : Bool := false) : CE c where
  t := slE m a.t (lo.map (·.t)) (hi.map (·.t))
  chk := fun
    | .Subscript x (.Slice l u none _) _ => a.chk x && chkO lo l && chkO hi u
    | _ => false
  ok := fun {k E X e} h ch => by
    split at ch
    · simp only [Bool.and_eq_true] at ch
      obtain ⟨tl, pl, il⟩ := opt_ok h ch.1.2
      obtain ⟨tu, pu, iu⟩ := opt_ok h ch.2
      refine PE.imp (pe_slice (x_sl (T := c.T) m) (a.ok h ch.1.1) pl pu) fun σ H Q q => ?_
      obtain ⟨τ, G, Q3, E3, rs, g, q, kk, kx⟩ := q
      refine ⟨τ, G, _, E3, rs, g, q, fun v H1 d G1 s1 q1 h1 => ?_, kx⟩
      refine il _ _ _ ⟨τ, G1, _, E3, rs.step s1, s1.rel, h1, fun o1 H2 G2 s2 h2 => ?_, kx.step s1⟩
      refine iu _ _ _ ⟨τ, G2, _, E3, (rs.step s1).step s2, s2.rel, h2, fun o2 H3 G3 s3 h3 => ?_, (kx.step s1).step s2⟩
      exact ⟨d, G3, Q3, (q1.step s2).step s3, s3.rel, h3, ((kk.step s1).step s2).step s3⟩
    · cases ch
/-! ### fields -/
/-- not C() (nor super()) -/
def noBase : Expr → Bool
  | .Call (.Name _ _) [] [] _ => false
  | _ => true
theorem base_of {o : Expr} {attr : Str} {env : Env} (h : noBase o = true) : attributeBase o attr env (eval o env) = eval o env := by
  unfold attributeBase
  split
  · exact Bool.noConfusion h
  · rfl
def fldD (fl : List (Addr × Str)) (f : Str) : R1 := fun x G Q => match x with
  | .obj a => match G a with
    | some (.ins C fs) => (C, f) ∈ fl ∧ (match fs.lookup f with
      | some d => Q d G
      | none => False)
    | _ => False
  | .ins C fs vs => (C, f) ∈ fl ∧ (match (fs.zip vs).lookup f with
      | some d => Q d G
      | none => False)
  | _ => False
theorem frep_look {w : Wd} {H : Hp} {G : Gp} {f : Str} {d : D} : ∀ {gs : List (Str × V)} {fs : List (Str × D)}, FReps w.K H G gs fs → fs.lookup f = some d → ∃ v, gs.lookup f = some v ∧ Rep w.K H G v d
  | [], [], _, e => by cases e
  | [], _ :: _, r, _ => by have := r.1; simp at this
  | _ :: _, [], r, _ => by have := r.1; simp at this
  | (g, v) :: gs, (g', d') :: fs, r, e => by
    obtain ⟨r1, r2⟩ := r
    simp only [List.map_cons, List.cons.injEq] at r1 r2
    obtain ⟨rfl, r1⟩ := r1
    cases r2 with
    | cons q t =>
      rw [List.lookup_cons] at e ⊢
      by_cases hf : (f == g) = true
      · rw [hf] at e ⊢
        cases e
        exact ⟨v, rfl, q⟩
      · have hf' : (f == g) = false := by simpa using hf
        rw [hf'] at e ⊢
        exact frep_look ⟨r1, t⟩ e
theorem map_fst_zip {α β : Type} : ∀ {l : List α} {r : List β}, l.length = r.length → (l.zip r).map (·.1) = l
  | [], [], _ => rfl
  | [], _ :: _, h => by simp at h
  | _ :: _, [], h => by simp at h
  | a :: l, b :: r, h => by rw [List.zip_cons_cons, List.map_cons, map_fst_zip (by simpa using h)]
theorem map_snd_zip {α β : Type} : ∀ {l : List α} {r : List β}, l.length = r.length → (l.zip r).map (·.2) = r
  | [], [], _ => rfl
  | [], _ :: _, h => by simp at h
  | _ :: _, [], h => by simp at h
  | a :: l, b :: r, h => by rw [List.zip_cons_cons, List.map_cons, map_snd_zip (by simpa using h)]
def eFld {c : Cn} (a : CE c) (f : Str) : CE c where
  t := unE (fldD c.fl f) a.t
  chk := fun
    | .Attribute x g _ => decide (f = g) && noBase x && a.chk x
    | _ => false
  ok := fun {k E X e} h ch => by
    split at ch
    · simp only [Bool.and_eq_true, decide_eq_true_eq] at ch
      obtain ⟨⟨rfl, c2⟩, c3⟩ := ch
      refine PE.imp (pe_fld (a.ok h c3) (base_of c2)) fun _ _ _ q => ?_
      obtain ⟨τ, G, Q3, E3, rs, g, q, kk, kx⟩ := q
      refine ⟨τ, G, _, E3, rs, g, q, fun v H1 d G1 s1 q1 h1 => ?_, kx⟩
      unfold fldD at h1
      dsimp only at h1
      split at h1
      · rename_i a
        split at h1
        · rename_i C fs e
          cases q1
          obtain ⟨dx, gs, h2, r⟩ := s1.rel.2 a _ e
          obtain ⟨m, h1⟩ := h1
          split at h1
          · rename_i d' el
            obtain ⟨v, hv, rv⟩ := frep_look (w := ⟨X.K, c.T⟩) r el
            have := h.g.fl _ m
            exact ⟨a, C, dx, gs, v, rfl, h2, this.1, this.2, hv, now s1.rel rv h1 (kk.step s1)⟩
          · exact h1.elim
        · exact h1.elim
      · rename_i C fs vs
        cases q1 with
        | ins e1 e2 e3 r =>
          obtain ⟨m, h1⟩ := h1
          split at h1
          · rename_i d' el
            have hl := r.length
            obtain ⟨v, hv, rv⟩ := frep_look (w := ⟨X.K, c.T⟩) (gs := fs.zip _) ⟨by rw [map_fst_zip e3, map_fst_zip (by rw [e3, hl])], by rw [map_snd_zip e3, map_snd_zip (by rw [e3, hl])]; exact r⟩ el
            have := h.g.fl _ m
            exact ⟨_, C, _, _, v, rfl, e2, this.1, this.2, hv, now s1.rel rv h1 (kk.step s1)⟩
          · exact h1.elim
      · exact h1.elim
    · cases ch
/-! ### calls -/
def spE (sp : Sp3) (ts : List TE3) : TE3 := fun τ G Q E => argT ts τ G (fun ds G1 => sp ds G1 Q E) E
def fnSp (c : Cn) (i : Nat) : Sp3 := match c.fn[i]? with
  | some (_, sp) => sp
  | none => fun _ _ _ _ => False
/-- f(..) -/
def eCall {c : Cn} (i : Nat) (ts : List (CE c)) : CE c where
  t := spE (fnSp c i) (ts.map (·.t))
  chk := fun
    | .Call (.Name x _) es [] _ => (!c.hot) && ((match c.fn[i]? with
      | some (y, _) => decide (x = y)
      | none => false) && glB c.nm x && nameB x && chkAs ts es && (match es with
        | [] => false
        | _ => true))
    | _ => false
  ok := fun {k E X e} h ch => by
    split at ch
    · rename_i x p es pos
      rw [Bool.and_eq_true] at ch
      obtain ⟨cz, ch⟩ := ch
      have cz := cold_of cz
      simp only [Bool.and_eq_true] at ch
      obtain ⟨⟨⟨⟨c1, c2⟩, c3⟩, c4⟩, c5⟩ := ch
      obtain ⟨n1, n2, n3⟩ := nameB_of c3
      cases es with
      | nil => cases c5
      | cons a es =>
        cases ts with
        | nil => cases c4
        | cons ta ts =>
          have c4' := c4
          simp only [chkAs, Bool.and_eq_true] at c4
          split at c1
          · rename_i y sp e
            have := of_decide_eq_true c1
            subst this
            obtain ⟨f, m1, m2, F⟩ := h.g.fn i x sp e
            obtain ⟨fd, ps, F, B⟩ := F.ok
            refine PE.imp (pe_callSD (E := fun _ => E) F (h.rm cz) (gl_of h c2) m1 m2 B .nil (fun σ => h.pass σ) (args_ok h c4') n1 (star_of c4.1.1) (back_any c4.2)) fun σ H Q q => ?_
            obtain ⟨τ, G, Q3, E3, rs, g, q, kk, kx⟩ := q
            refine ⟨τ, G, _, E3, rs, g, q, fun vs H1 ds G1 s1 q1 h1 => ?_, kx⟩
            refine ⟨ds, G1, Q3, E3, by rw [List.append_nil]; exact q1, s1.rel, ?_, kk.step s1, kx.step s1⟩
            unfold fnSp at h1
            rw [e] at h1
            exact h1
          · cases c1
    · cases ch
/-- f() -/
def eCall0 {c : Cn} (i : Nat) : CE c where
  t := spE (fnSp c i) []
  chk := fun
    | .Call (.Name x _) [] [] _ => (!c.hot) && ((match c.fn[i]? with
      | some (y, _) => decide (x = y)
      | none => false) && glB c.nm x && nameB x)
    | _ => false
  ok := fun {k E X e} h ch => by
    split at ch
    · rename_i x p pos
      rw [Bool.and_eq_true] at ch
      obtain ⟨cz, ch⟩ := ch
      have cz := cold_of cz
      simp only [Bool.and_eq_true] at ch
      obtain ⟨⟨c1, c2⟩, c3⟩ := ch
      obtain ⟨n1, n2, n3⟩ := nameB_of c3
      split at c1
      · rename_i y sp e
        have := of_decide_eq_true c1
        subst this
        obtain ⟨f, m1, m2, F⟩ := h.g.fn i x sp e
        obtain ⟨fd, ps, F, B⟩ := F.ok
        refine PE.imp (pe_call0 F (h.rm cz) (gl_of h c2) m1 m2 B .nil h.passes n1) fun σ H Q q => ?_
        obtain ⟨τ, G, Q3, E3, rs, g, q, kk, kx⟩ := q
        refine ⟨[], G, Q3, E3, .nil, g, ?_, kk, kx⟩
        unfold spE argT fnSp at q
        rw [e] at q
        exact q
      · cases c1
    · cases ch
def cE' (r : RC3) (ts : List TE3) : TE3 := fun τ G Q E => argT ts τ G (fun ds G1 => r ds G1 Q) E
/-- a built-in function, a type, math.gcd, called -/
inductive Bf where
  | len | abs | int | str | tuple | list (m : Bool) | all | gcd | isi
def Bf.nm : Bf → Str
  | .len => "len" | .abs => "abs" | .int => "int" | .str => "str" | .tuple => "tuple" | .list _ => "list" | .all => "all" | .gcd => "gcd" | .isi => "isinstance"
def Bf.r (cs : List Addr) : Bf → RC3
  | .len => lenD | .abs => absD | .int => intD | .str => strD | .tuple => tupleD | .list m => listD m | .all => allD | .gcd => fun _ _ _ => False | .isi => isiD cs
def Bf.isTy : Bf → Option String
  | .int => some "int" | .str => some "str" | .tuple => some "tuple" | .list _ => some "list" | _ => none
def Bf.isFn : Bf → Option String
  | .len => some "len" | .abs => some "abs" | .all => some "all" | .isi => some "isinstance" | _ => none
theorem bf_ty {c : Cn} {k : Nat} {E : XK} {X : Cx} (h : XOk c k E X) (b : Bf) {T : String} (e : b.isTy = some T) : CallR X (.type T) (liftC ⟨X.K, c.T⟩ (b.r c.cs)) ∧ bootBuiltins b.nm = some (.type T) := by
  cases b <;> cases e
  · exact ⟨c_int, by decide +kernel⟩
  · exact ⟨c_str, by decide +kernel⟩
  · exact ⟨c_tuple, by decide +kernel⟩
  · exact ⟨c_list _, by show bootBuiltins "list" = _; decide +kernel⟩
def Bf.isAll : Bf → Bool
  | .all => true
  | _ => false
theorem bf_fn {c : Cn} {k : Nat} {E : XK} {X : Cx} (h : XOk c k E X) (b : Bf) (cz : (!(c.hot && b.isAll)) = true) {T : String} (e : b.isFn = some T) : CallR X (.builtin T) (liftC ⟨X.K, c.T⟩ (b.r c.cs)) ∧ bootBuiltins b.nm = some (.builtin T) := by
  cases b <;> cases e
  · exact ⟨c_len, by decide +kernel⟩
  · exact ⟨c_abs, by decide +kernel⟩
  · exact ⟨c_all (h.calm (cold_of (by simpa [Bf.isAll] using cz))), by decide +kernel⟩
  · exact ⟨c_isi h.g.cs, by decide +kernel⟩
def Bf.fine (b : Bf) : Bool := b.isTy.isSome || b.isFn.isSome
theorem l_cb {w : Wd} {E : XK} {r : RC3} {ts : List TE3} {σ : L2.St} {H : Hp} {Q : VK} (h : LE w E (cE' r ts) σ H Q) : tCB (liftC w r) (LA w E (argT ts)) σ H Q := by
  obtain ⟨τ, G, Q3, E3, rs, g, q, kk, kx⟩ := h
  exact ⟨τ, G, _, E3, rs, g, q, fun vs H1 ds G1 s1 q1 h1 => ⟨ds, G1, Q3, q1, s1.rel, h1, kk.step s1⟩, kx⟩
def eBf {c : Cn} (b : Bf) (ts : List (CE c)) : CE c where
  t := cE' (b.r c.cs) (ts.map (·.t))
  chk := fun
    | .Call (.Name x _) es [] _ => (!(c.hot && b.isAll)) && (decide (x = b.nm) && b.fine && c.bt.contains x && glB c.nm x && nameB x && chkAs ts es && (match es with
        | [] => false
        | _ => true))
    | _ => false
  ok := fun {k E X e} h ch => by
    split at ch
    · rename_i x p es pos
      rw [Bool.and_eq_true] at ch
      obtain ⟨cz, ch⟩ := ch
      simp only [Bool.and_eq_true, decide_eq_true_eq] at ch
      obtain ⟨⟨⟨⟨⟨⟨rfl, c0⟩, c1⟩, c2⟩, c3⟩, c4⟩, c5⟩ := ch
      obtain ⟨n1, n2, n3⟩ := nameB_of c3
      cases es with
      | nil => cases c5
      | cons a es =>
        cases ts with
        | nil => cases c4
        | cons ta ts =>
          have c4' := c4
          simp only [chkAs, Bool.and_eq_true] at c4
          have hm := h.g.bt _ (List.contains_iff_mem.mp c1)
          cases eT : b.isTy with
          | some T =>
            obtain ⟨hc, hv⟩ := bf_ty h b eT
            exact PE.imp (pe_callTy hc (gl_of h c2) hm hv (args_ok h c4') n3 n1 (star_of c4.1.1) (back_any c4.2)) fun _ _ _ q => l_cb q
          | none =>
            cases eF : b.isFn with
            | some T =>
              obtain ⟨hc, hv⟩ := bf_fn h b cz eF
              exact PE.imp (pe_callB hc (gl_of h c2) hm hv (args_ok h c4') n3 n1 (star_of c4.1.1) (back_any c4.2)) fun _ _ _ q => l_cb q
            | none =>
              unfold Bf.fine at c0
              rw [eT, eF] at c0
              cases c0
    · cases ch
/-- math.gcd by an imported name -/
def eGcd {c : Cn} (ts : List (CE c)) : CE c where
  t := cE' gcdD (ts.map (·.t))
  chk := fun
    | .Call (.Name x _) es [] _ => c.gc.contains x && glB c.nm x && nameB x && chkAs ts es && (match es with
        | [] => false
        | _ => true)
    | _ => false
  ok := fun {k E X e} h ch => by
    split at ch
    · rename_i x p es pos
      simp only [Bool.and_eq_true] at ch
      obtain ⟨⟨⟨⟨c1, c2⟩, c3⟩, c4⟩, c5⟩ := ch
      obtain ⟨n1, n2, n3⟩ := nameB_of c3
      cases es with
      | nil => cases c5
      | cons a es =>
        cases ts with
        | nil => cases c4
        | cons ta ts =>
          have c4' := c4
          simp only [chkAs, Bool.and_eq_true] at c4
          exact PE.imp (pe_callBfun c_gcd (gl_of h c2) (h.g.gc _ (List.contains_iff_mem.mp c1)) (args_ok h c4') n1 (star_of c4.1.1) (back_any c4.2)) fun _ _ _ q => l_cb q
    · cases ch
/-! ### methods of built-in types -/
inductive Bm where
  | append | extend | pop | join | split (m : Bool) | strip
def Bm.nm : Bm → Str
  | .append => "append" | .extend => "extend" | .pop => "pop" | .join => "join" | .split _ => "split" | .strip => "strip"
def Bm.r : Bm → RM3
  | .append => appendD | .extend => extendD | .pop => popD | .join => joinD | .split m => splitD m | .strip => stripD
def Bm.ty : Bm → String
  | .append => "list" | .extend => "list" | .pop => "list" | .join => "str" | .split _ => "str" | .strip => "str"
def Bm.id : Bm → String
  | .append => "list.append" | .extend => "list.extend" | .pop => "list.pop" | .join => "str.join" | .split _ => "str.split" | .strip => "str.strip"
def recvD (G : Gp) (T : String) : D → Prop
  | .str _ => T = "str"
  | .obj p => T = "list" ∧ ∃ l, G p = some (.lst l)
  | _ => False
def mtE (b : Bm) (a : TE3) (ts : List TE3) : TE3 := fun τ G Q E => a τ G (fun x G1 => recvD G1 b.ty x ∧ argT ts τ G1 (fun ds G2 => b.r x ds G2 Q) E) E
theorem recv_ok {X : Cx} {T : List (Addr × Str)} {H : Hp} {G : Gp} {v : V} {d : D} {ty : String} (g : GRel ⟨X.K, T⟩ H G) (r : Rep X.K H G v d) (h : recvD G ty d) : tyV X.K ty v H := by
  unfold recvD at h
  split at h
  · cases r; exact h
  · cases r
    obtain ⟨e, l, hl⟩ := h
    obtain ⟨xs, h2, _⟩ := g.2 _ _ hl
    exact .inl ⟨e, xs, SqL.of h2⟩
  · exact h.elim
theorem m_pop {X : Cx} {T : List (Addr × Str)} : MtR X "list.pop" (liftM ⟨X.K, T⟩ popD) := by
  intro pins s σ H x xs v us Q I rx rs h
  obtain ⟨d, ds, G, Q3, q, qs, g, r, k⟩ := id h
  cases ds with
  | nil =>
    cases qs
    exact m_pop0 pins s σ H x [] v us Q I rx rs ⟨rfl, h⟩
  | cons a t =>
    cases t with
    | nil => exact m_pop1 pins s σ H x xs v us Q I rx rs ⟨qs.length, h⟩
    | cons _ _ =>
      unfold popD at r
      split at r
      · rename_i e; cases e
      · rename_i e; cases e
      · exact r.elim
theorem bm_ok {X : Cx} {T : List (Addr × Str)} (b : Bm) : MtR X b.id (liftM ⟨X.K, T⟩ b.r) := by
  cases b with
  | append => exact m_append
  | extend => exact m_extend
  | pop => exact m_pop
  | join => exact m_join
  | split m => exact m_split m
  | strip => exact m_strip
theorem bm_slot (b : Bm) : PlainAttrs b.ty ∧ Slot b.ty b.nm b.id ∧ typeOf (.builtin b.id) = pure (.type "method_descriptor") := by
  cases b
  · exact ⟨PySem.F.plainAttrs_list, PySem.F.slot_list_append, PySem.F.type_list_append⟩
  · exact ⟨PySem.F.plainAttrs_list, PySem.F.slot_list_extend, PySem.F.type_list_extend⟩
  · exact ⟨PySem.F.plainAttrs_list, PySem.F.slot_list_pop, PySem.F.type_list_pop⟩
  · exact ⟨PySem.F.plainAttrs_str, PySem.F.slot_str_join, PySem.F.type_str_join⟩
  · exact ⟨PySem.F.plainAttrs_str, PySem.F.slot_str_split, PySem.F.type_str_split⟩
  · exact ⟨PySem.F.plainAttrs_str, PySem.F.slot_str_strip, PySem.F.type_str_strip⟩
theorem few_ok {c : Cn} {cp : Pos} {env : Env} {ts : List (CE c)} {es : List Expr} (h : chkAs ts es = true) (l : es.length < 30) : ((backTo cp (starEach es env)).all (fun x => !x.1) && (backToKw cp (keywordEach [] env)).all (fun x => x.1.isSome)
      && decide (es.length + ([] : List Keyword).length + (if ([] : List Keyword).isEmpty then 0 else 1) < 30)) = true := by
  rw [back_all h]
  show (true && true && decide _) = true
  rw [decide_eq_true (by simpa using l)]
  rfl
def eBm {c : Cn} (b : Bm) (a : CE c) (ts : List (CE c)) : CE c where
  t := mtE b a.t (ts.map (·.t))
  chk := fun
    | .Call (.Attribute o n ap) es [] cp => decide (n = b.nm) && noBase o && a.chk o && chkAs ts es && (ap.endLine == cp.line) && decide (es.length < 30)
    | _ => false
  ok := fun {k E X e} h ch => by
    split at ch
    · rename_i o n ap es cp
      simp only [Bool.and_eq_true, decide_eq_true_eq] at ch
      obtain ⟨⟨⟨⟨⟨rfl, c1⟩, c2⟩, c3⟩, c4⟩, c5⟩ := ch
      obtain ⟨pa, sl, ty⟩ := bm_slot b
      cases es with
      | nil =>
        cases ts with
        | cons _ _ => cases c3
        | nil =>
          refine PE.imp (pe_bm0 pa sl ty (bm_ok (T := c.T) b) (a.ok h c2) (base_of c1) c4) fun σ H Q q => ?_
          obtain ⟨τ, G, Q3, E3, rs, g, q, kk, kx⟩ := q
          refine ⟨τ, G, _, E3, rs, g, q, fun v H1 d G1 s1 q1 h1 => ?_, kx⟩
          exact ⟨recv_ok s1.rel q1 h1.1, d, [], G1, Q3, q1, .nil, s1.rel, h1.2, kk.step s1⟩
      | cons a1 es =>
        cases ts with
        | nil => cases c3
        | cons t1 ts =>
          have c3' := c3
          simp only [chkAs, Bool.and_eq_true] at c3'
          refine PE.imp (pe_bm pa sl ty (bm_ok (T := c.T) b) (a.ok h c2) (args_ok h c3) (base_of c1) (few_ok c3 c5) c4 (star_of c3'.1.1) (back_any c3'.2)) fun σ H Q q => ?_
          obtain ⟨τ, G, Q3, E3, rs, g, q, kk, kx⟩ := q
          refine ⟨τ, G, _, E3, rs, g, q, fun v H1 d G1 s1 q1 h1 => ⟨recv_ok s1.rel q1 h1.1, τ, G1, _, E3, rs.step s1, s1.rel, h1.2, fun vs H2 ds G2 s2 q2 h2 => ?_, kx.step s1⟩, kx⟩
          exact ⟨d, ds, G2, Q3, q1.step s2, q2, s2.rel, h2, (kk.step s1).step s2⟩
    · cases ch
/-! ### own methods, own classes -/
def mtC (c : Cn) (i : Nat) : Addr × Sp3 := match c.mt[i]? with
  | some (_, C, sp) => (C, sp)
  | none => (0, fun _ _ _ _ => False)
/-- o.m(..) of a tracked instance -/
def omE (C : Addr) (m : Str) (sp : Sp3) (a : TE3) (ts : List TE3) : TE3 := fun τ G Q E => a τ G (fun x G1 => ∃ p fs, x = .obj p ∧ G1 p = some (.ins C fs) ∧ fs.lookup m = none ∧ argT ts τ G1 (fun ds G2 => sp (x :: ds) G2 Q E) E) E
theorem frep_none {K : PySem.W.Frag} {H : Hp} {G : Gp} {f : Str} : ∀ {gs : List (Str × V)} {fs : List (Str × D)}, gs.map (·.1) = fs.map (·.1) → fs.lookup f = none → gs.lookup f = none
  | [], _, _, _ => rfl
  | _ :: _, [], r, _ => by simp at r
  | (g, v) :: gs, (g', d') :: fs, r, e => by
    simp only [List.map_cons, List.cons.injEq] at r
    obtain ⟨rfl, r1⟩ := r
    rw [List.lookup_cons] at e ⊢
    by_cases hf : (f == g) = true
    · rw [hf] at e; cases e
    · have hf' : (f == g) = false := by simpa using hf
      rw [hf'] at e ⊢
      exact frep_none (K := K) (H := H) (G := G) r1 e
theorem mcall_ok {o : Expr} {m : Str} {ap pos : Pos} {args : List Expr} {env : Env} (hb : noBase o = true) (hf : methodCallForm (args.length + ([] : List Keyword).length) (backTo pos (starEach args env)) (backToKw pos (keywordEach [] env)) = true) (hl : (ap.endLine == pos.line) = true) :
    eval (.Call (.Attribute o m ap) args [] pos) env = (do
      let ov ← eval o env
      standAt ap.atName
      let (f, first) ← holding [ov] (getMethod ov m (do return (← importBound o env).getD true))
      callWith pos f first (backTo pos (starEach args env)) (backToKw pos (keywordEach [] env))) := by
  refine mcall_of (base_of hb) fun ov => ?_
  unfold methodCall methodCallPos calleeOf
  rw [hf, hl]
  rfl
theorem form_ok {c : Cn} {cp : Pos} {env : Env} {ts : List (CE c)} {es : List Expr} (h : chkAs ts es = true) (l : es.length < 30) : methodCallForm (es.length + ([] : List Keyword).length) (backTo cp (starEach es env)) (backToKw cp (keywordEach [] env)) = true := few_ok h l
def eOm {c : Cn} (i : Nat) (m : Str) (a : CE c) (ts : List (CE c)) : CE c where
  t := omE (mtC c i).1 m (mtC c i).2 a.t (ts.map (·.t))
  chk := fun
    | .Call (.Attribute o n ap) es [] cp => (!c.hot) && (decide (n = m) && noBase o && a.chk o && chkAs ts es && (ap.endLine == cp.line) && decide (es.length < 30) && (match c.mt[i]? with
      | some (y, _) => decide (m = y)
      | none => false))
    | _ => false
  ok := fun {k E X e} h ch => by
    split at ch
    · rename_i o n ap es cp
      rw [Bool.and_eq_true] at ch
      obtain ⟨cz, ch⟩ := ch
      have cz := cold_of cz
      simp only [Bool.and_eq_true, decide_eq_true_eq] at ch
      obtain ⟨⟨⟨⟨⟨⟨rfl, c1⟩, c2⟩, c3⟩, c4⟩, c5⟩, c6⟩ := ch
      split at c6
      · rename_i y p e
        obtain ⟨C, sp⟩ := p
        have := of_decide_eq_true c6
        subst this
        obtain ⟨f, cC, mC, F⟩ := h.g.mt i n C sp e
        obtain ⟨fd, ps, F, B⟩ := F.ok
        have fin : ∀ {ws : List (CE c)} {σ : L2.St} {H : Hp} {Q : VK}, LE ⟨X.K, c.T⟩ E (omE (mtC c i).1 n (mtC c i).2 a.t (ws.map (·.t))) σ H Q →
            tMeth C n (liftSp ⟨X.K, c.T⟩ sp) [] E (LE ⟨X.K, c.T⟩ E a.t) (LA ⟨X.K, c.T⟩ E (argT (ws.map (·.t)))) σ H Q := by
          intro ws σ H Q q
          obtain ⟨τ, G, Q3, E3, rs, g, q, kk, kx⟩ := q
          refine ⟨τ, G, _, E3, rs, g, q, fun v H1 d G1 s1 q1 h1 => ?_, kx⟩
          obtain ⟨p, fs, rfl, hp, hn, h1⟩ := h1
          have eC : mtC c i = (C, sp) := by unfold mtC; rw [e]
          rw [eC] at hp h1
          cases q1
          obtain ⟨dx, gs, h2, r⟩ := s1.rel.2 p _ hp
          refine ⟨p, dx, gs, rfl, h2, frep_none (K := X.K) (H := H1) (G := G1) r.1 hn, τ, G1, _, E3, rs.step s1, s1.rel, h1, fun vs H2 ds G2 s2 q2 h3 => ?_, kx.step s1⟩
          exact ⟨.obj p :: ds, G2, Q3, E3, .cons (.obj p) (by rw [List.append_nil]; exact q2), s2.rel, h3, (kk.step s1).step s2, (kx.step s1).step s2⟩
        cases es with
        | nil =>
          cases ts with
          | cons _ _ => cases c3
          | nil =>
            refine PE.imp (pe_meth0 (a.ok h c2) cC mC F (h.rm cz) B .nil h.passes (mcall_ok c1 (form_ok c3 c5) c4)) fun σ H Q q => ?_
            have q := fin q
            obtain ⟨τ, G, Q3, E3, rs, g, q, kk, kx⟩ := q
            refine ⟨τ, G, _, E3, rs, g, q, fun v H1 d G1 s1 q1 h1 => ?_, kx⟩
            obtain ⟨p, dx, gs, e1, e2, e3, h1⟩ := kk _ _ _ _ s1 q1 h1
            exact ⟨p, dx, gs, e1, e2, e3, l_nil h1⟩
        | cons a1 es =>
          cases ts with
          | nil => cases c3
          | cons t1 ts =>
            have c3' := c3
            simp only [chkAs, Bool.and_eq_true] at c3'
            exact PE.imp (pe_meth (a.ok h c2) cC mC F (h.rm cz) B .nil h.passes (args_ok h c3) (star_of c3'.1.1) (back_any c3'.2) (mcall_ok c1 (form_ok c3 c5) c4)) fun σ H Q q => fin q
      · cases c6
    · cases ch
end L3
set_option Elab.async false
set_option linter.all false
set_option maxRecDepth 100000
set_option maxHeartbeats 1000000
namespace L3
open PySem PySem.Spec PyProof.Rows L2 LamX
/-! ### targets -/
inductive Tg where
  | nm (i : Nat)
  | tup (l : List Nat)
def setAll : List Nat → List D → S3 → S3
  | [], _, τ => τ
  | _ :: _, [], τ => τ
  | i :: is, d :: ds, τ => setAll is ds (τ.set i (some d))
def setAllV : List Nat → List V → L2.St → L2.St
  | [], _, σ => σ
  | _ :: _, [], σ => σ
  | i :: is, d :: ds, σ => setAllV is ds (σ.set i (some d))
def Tg.sl : Tg → List Nat
  | .nm i => [i]
  | .tup l => l
def Tg.t : Tg → D → S3 → Gp → (S3 → Gp → Prop) → Prop
  | .nm i => fun d τ G Q => Q (τ.set i (some d)) G
  | .tup is => fun d τ G Q => match d with
    | .tup l => l.length = is.length ∧ Q (setAll is l τ) G
    | _ => False
def gNames : List Nat → TGs
  | [] => gNil
  | i :: is => gCons (gName i) (gNames is)
def Tg.g (K : PySem.W.Frag) : Tg → TG
  | .nm i => gName i
  | .tup is => gTup K is.length (gNames is)
def chkNames (c : Cn) : List Nat → List Expr → Bool
  | [], [] => true
  | i :: is, .Name x _ :: es => decide (c.N[i]? = some x) && locB c x && chkNames c is es
  | _, _ => false
def Tg.chk (c : Cn) : Tg → Expr → Bool
  | .nm i, .Name x _ => decide (c.N[i]? = some x) && locB c x
  | .tup is, .Tuple es _ _ => (!c.hot) && chkNames c is es
  | _, _ => false
theorem pg_nm {c : Cn} {k : Nat} {E : XK} {X : Cx} (h : XOk c k E X) {i : Nat} {x : Str} {p : Pos} (h1 : c.N[i]? = some x) (h2 : locB c x = true) : PG X (.Name x p) (gName i) :=
  pg_name h.nd (by rw [h.N]; exact h1) (loc_of h h2).1 (loc_of h h2).2
theorem names_ok {c : Cn} {k : Nat} {E : XK} {X : Cx} (h : XOk c k E X) : ∀ {is : List Nat} {es : List Expr}, chkNames c is es = true → PGs X es (gNames is) ∧ (assignEach es X.env).length = is.length ∧ (assignEach es X.env).findIdx? (·.1) = none
  | [], [], _ => ⟨pgs_nil, rfl, rfl⟩
  | i :: is, .Name x p :: es, ch => by
    simp only [chkNames, Bool.and_eq_true, decide_eq_true_eq] at ch
    obtain ⟨r1, r2, r3⟩ := names_ok h ch.2
    refine ⟨pgs_cons (pg_nm h ch.1.1 ch.1.2) r1 rfl, ?_, ?_⟩
    · show (assignEach es X.env).length + 1 = _
      rw [r2]; rfl
    · show List.findIdx? _ ((false, assign (.Name x p) X.env) :: assignEach es X.env) = none
      rw [List.findIdx?_cons, r3]
      rfl
  | [], _ :: _, ch => by cases ch
  | _ :: _, [], ch => by cases ch
theorem tg_ok {c : Cn} {k : Nat} {E : XK} {X : Cx} (h : XOk c k E X) (t : Tg) {e : Expr} (ch : t.chk c e = true) : PG X e (t.g X.K) := by
  cases t with
  | nm i =>
    unfold Tg.chk at ch
    split at ch
    · rename_i x p e1
      cases e1
      simp only [Bool.and_eq_true, decide_eq_true_eq] at ch
      exact pg_nm h ch.1 ch.2
    · rename_i e1; cases e1
    · cases ch
  | tup is =>
    unfold Tg.chk at ch
    split at ch
    · rename_i e1; cases e1
    · rename_i e1
      cases e1
      rw [Bool.and_eq_true] at ch
      obtain ⟨r1, r2, r3⟩ := names_ok h ch.2
      exact pg_tup (h.calm (cold_of ch.1)) r1 r2 r3
    · cases ch
theorem gNames_of {w : Wd} {H : Hp} {G : Gp} : ∀ {is : List Nat} {vs : List V} {ds : List D} {σ : L2.St} {τ : S3} {Q : L2.St → Hp → Prop}, RelS w H G σ τ → Reps w.K H G vs ds → ds.length = is.length → (RelS w H G (setAllV is vs σ) (setAll is ds τ) → Q (setAllV is vs σ) H) → gNames is vs σ H Q
  | [], _, [], _, _, _, r, q, _, h => by
    cases q
    exact ⟨rfl, h r⟩
  | i :: is, _, d :: ds, _, _, _, r, q, l, h => by
    cases q with
    | cons q1 q2 => exact ⟨_, _, rfl, gNames_of (r.set q1 i) q2 (by simpa using l) h⟩
  | [], _, _ :: _, _, _, _, _, _, l, _ => by simp at l
  | _ :: _, _, [], _, _, _, _, _, l, _ => by simp at l
/-- the target's store, both sides -/
theorem tg_of {w : Wd} {H : Hp} {G : Gp} (t : Tg) {v : V} {d : D} {σ : L2.St} {τ : S3} {Q3 : S3 → Gp → Prop} {Q : L2.St → Hp → Prop} (r : RelS w H G σ τ) (q : Rep w.K H G v d) (h : t.t d τ G Q3)
    (k : ∀ vs τ', RelS w H G (setAllV t.sl vs σ) τ' → Q3 τ' G → Q (setAllV t.sl vs σ) H) : t.g w.K v σ H Q := by
  cases t with
  | nm i => exact k [v] _ (r.set q i) h
  | tup is =>
    cases d with
    | tup l =>
      have h : l.length = is.length ∧ Q3 (setAll is l τ) G := h
      cases q with
      | tup tt qq =>
        exact ⟨_, _, rfl, tt.sq, by rw [qq.length]; exact h.1, gNames_of r qq h.1 fun r' => k _ _ r' h.2⟩
    | _ => exact (show False from h).elim
theorem setAllV_wipe {is : List Nat} : ∀ {js : List Nat} {vs : List V} {σ : L2.St}, (∀ j ∈ js, j ∈ is) → wipe (setAllV js vs σ) is = wipe σ is := by
  have one : ∀ {is : List Nat} {j : Nat} {v : V} {σ : L2.St}, j ∈ is → wipe (σ.set j (some v)) is = wipe σ is := by
    intro is
    induction is with
    | nil => intro j v σ h; cases h
    | cons i r ih =>
      intro j v σ h
      show (wipe (σ.set j (some v)) r).set i none = (wipe σ r).set i none
      rcases List.mem_cons.mp h with rfl | h
      · -- the slot itself is wiped
        have comm : ∀ {r : List Nat} {σ : L2.St}, (wipe (σ.set j (some v)) r).set j none = (wipe σ r).set j none := by
          intro r
          induction r with
          | nil => intro σ; show (σ.set j (some v)).set j none = σ.set j none; rw [List.set_set]
          | cons a b ihb =>
            intro σ
            show ((wipe (σ.set j (some v)) b).set a none).set j none = ((wipe σ b).set a none).set j none
            by_cases e : a = j
            · subst e; rw [List.set_set, List.set_set]; exact ihb
            · rw [List.set_comm _ _ e, List.set_comm (i := a) (j := j) _ _ e, ihb]
        exact comm
      · rw [ih h]
  intro js
  induction js with
  | nil => intro vs σ _; cases vs <;> rfl
  | cons j js ih =>
    intro vs σ h
    cases vs with
    | nil => rfl
    | cons v vs =>
      show wipe (setAllV js vs (σ.set j (some v))) is = _
      rw [ih fun x hx => h x (List.mem_cons_of_mem _ hx), one (h j (List.mem_cons_self ..))]
def wipe3 (τ : S3) : List Nat → S3
  | [] => τ
  | v :: vs => (wipe3 τ vs).set v none
theorem RelS.wipe {w : Wd} {H : Hp} {G : Gp} {σ : L2.St} {τ : S3} (r : RelS w H G σ τ) : ∀ vs, RelS w H G (L2.wipe σ vs) (wipe3 τ vs)
  | [] => r
  | v :: vs => by
    have ih := RelS.wipe r vs
    refine ⟨by show ((L2.wipe σ vs).set v none).length = ((wipe3 τ vs).set v none).length; rw [List.length_set, List.length_set]; exact ih.1, fun i d hd => ?_⟩
    show ∃ u, ((L2.wipe σ vs).set v none)[i]? = _ ∧ _
    have hd : ((wipe3 τ vs).set v none)[i]? = some (some d) := hd
    by_cases e : v = i
    · subst e
      rw [List.getElem?_set] at hd
      simp only [if_true] at hd
      split at hd <;> cases hd
    · rw [List.getElem?_set_ne e] at hd ⊢
      exact ih.2 i d hd
/-! ### what a loop walks -/
structure Src where
  items : List D
  keep : Gp → Prop
structure ItOk (w : Wd) (J : It) (H0 : Hp) (G0 : Gp) (S : Src) : Prop where
  go : ∀ i H G, Step w H0 G0 H G → S.keep G → i < S.items.length → J.go i H
  stop : ∀ i H G, Step w H0 G0 H G → S.keep G → S.items.length ≤ i → J.stop i H
  yld : ∀ i H G x H' d, Step w H0 G0 H G → S.keep G → S.items[i]? = some d → J.yld i H x H' → Step w H G H' G ∧ Rep w.K H' G x d
theorem ItOk.step {w : Wd} {J : It} {H0 H1 : Hp} {G0 G1 : Gp} {S : Src} (o : ItOk w J H0 G0 S) (s : Step w H0 G0 H1 G1) : ItOk w J H1 G1 S where
  go := fun i H G t => o.go i H G (s.trans t)
  stop := fun i H G t => o.stop i H G (s.trans t)
  yld := fun i H G x H' d t => o.yld i H G x H' d (s.trans t)
abbrev TI3 := S3 → Gp → (Src → Gp → Prop) → X3 → Prop
def LI (w : Wd) (E : XK) (t : TI3) : TI := fun σ H R => ∃ τ G R3 E3, RelS w H G σ τ ∧ GRel w H G ∧ t τ G R3 E3 ∧ (∀ J H' G' S, Step w H G H' G' → ItOk w J H' G' S → R3 S G' → R J H') ∧ XKR w H G E3 E
structure CI (c : Cn) where
  t : TI3
  chk : Expr → Expr → Bool
  ok : ∀ {k : Nat} {E : XK} {X : Cx} {tg e : Expr}, XOk c k E X → chk tg e = true → PI X tg e (LI ⟨X.K, c.T⟩ E t)
theorem PI.imp {X : Cx} {tg e : Expr} {t t' : TI} (h : PI X tg e t) (i : ∀ σ H R, t' σ H R → t σ H R) : PI X tg e t' := ⟨fun pins s σ H R I q => h.run pins s σ H R I (i σ H R q)⟩
/-- a list: one that nobody changes, or a tracked one, which the loop leaves as it is -/
def srcL (G : Gp) : D → Option Src
  | .lst l => some ⟨l, fun _ => True⟩
  | .obj a => match G a with
    | some (.lst l) => some ⟨l, fun G' => G' a = some (.lst l)⟩
    | some (.scr l) => some ⟨l, fun G' => G' a = some (.scr l)⟩
    | _ => none
  | _ => none
theorem src_ok {w : Wd} {H : Hp} {G : Gp} {v : V} {d : D} {S : Src} (g : GRel w H G) (r : Rep w.K H G v d) (h : srcL G d = some S) : ∃ a, v = .ref a ∧ (∃ xs, SqL w.K H a xs) ∧ S.keep G ∧ ItOk w (Itl w.K a) H G S ∧
    (∀ H' G', Step w H G H' G' → S.keep G' → ∃ xs, SqL w.K H' a xs ∧ Reps w.K H' G' xs S.items) := by
  have main : ∀ a, (∀ H' G', Step w H G H' G' → S.keep G' → ∃ xs, SqL w.K H' a xs ∧ Reps w.K H' G' xs S.items) → ItOk w (Itl w.K a) H G S := by
    intro a k
    refine ⟨fun i H' G' s kp hi => ?_, fun i H' G' s kp hi => ?_, fun i H' G' x H'' d s kp hd y => ?_⟩
    · obtain ⟨xs, h1, h2⟩ := k H' G' s kp
      have hl : i < xs.length := by rw [h2.length]; exact hi
      exact ⟨xs, xs[i], h1, List.getElem?_eq_getElem hl⟩
    · obtain ⟨xs, h1, h2⟩ := k H' G' s kp
      exact ⟨xs, h1, by rw [h2.length]; exact hi⟩
    · obtain ⟨xs, h1, h2⟩ := k H' G' s kp
      obtain ⟨rfl, y⟩ := y
      obtain ⟨v, hv, rv⟩ := h2.get hd
      have := y xs h1
      rw [hv] at this
      cases this
      exact ⟨Step.refl s.rel, rv⟩
  unfold srcL at h
  split at h
  · rename_i l
    cases h
    cases r with
    | @lst a xs _ h1 h2 q =>
      have k : ∀ H' G', Step w H G H' G' → True → ∃ xs, SqL w.K H' a xs ∧ Reps w.K H' G' xs l := fun H' G' s _ => ⟨xs, SqL.of (s.keep _ _ h2 h1 (fun _ z => by cases z) (fun _ z => by cases z)), q.step s⟩
      exact ⟨a, rfl, ⟨xs, SqL.of h2⟩, trivial, main a k, k⟩
  · rename_i a
    cases r
    split at h
    · rename_i l e
      cases h
      have k : ∀ H' G', Step w H G H' G' → G' a = some (.lst l) → ∃ xs, SqL w.K H' a xs ∧ Reps w.K H' G' xs l := fun H' G' s e' => by
        obtain ⟨xs, h2, q⟩ := s.rel.2 a _ e'
        exact ⟨xs, SqL.of h2, q⟩
      obtain ⟨xs, h2, q⟩ := g.2 a _ e
      exact ⟨a, rfl, ⟨xs, SqL.of h2⟩, e, main a k, k⟩
    · rename_i l e
      cases h
      have k : ∀ H' G', Step w H G H' G' → G' a = some (.scr l) → ∃ xs, SqL w.K H' a xs ∧ Reps w.K H' G' xs l := fun H' G' s e' => by
        obtain ⟨xs, ⟨o, h2⟩, q⟩ := s.rel.2 a _ e'
        exact ⟨xs, .inl (.inr ⟨o, h2⟩), q⟩
      obtain ⟨xs, ⟨o, h2⟩, q⟩ := g.2 a _ e
      exact ⟨a, rfl, ⟨xs, .inl (.inr ⟨o, h2⟩)⟩, e, main a k, k⟩
    · cases h
  · cases h
def itL (t : TE3) : TI3 := fun τ G R E => t τ G (fun d G1 => match srcL G1 d with
  | some S => R S G1
  | none => False) E
/-- over a list -/
def iLst {c : Cn} (a : CE c) : CI c where
  t := itL a.t
  chk := fun _ e => a.chk e
  ok := fun {k E X tg e} h ch => by
    refine PI.imp (pi_list (a.ok h ch)) fun σ H R q => ?_
    obtain ⟨τ, G, R3, E3, rs, g, q, kk, kx⟩ := q
    refine ⟨τ, G, _, E3, rs, g, q, fun v H1 d G1 s1 q1 h1 => ?_, kx⟩
    dsimp only at h1
    split at h1
    · rename_i S e
      obtain ⟨a, rfl, h2, kp, io, _⟩ := src_ok s1.rel q1 e
      exact ⟨a, rfl, h2, kk _ _ _ S s1 io h1⟩
    · exact h1.elim
def itT (t : TE3) : TI3 := fun τ G R E => t τ G (fun d G1 => match d with
  | .tup l => R ⟨l, fun _ => True⟩ G1
  | _ => False) E
/-- over a tuple -/
def iTupl {c : Cn} (a : CE c) : CI c where
  t := itT a.t
  chk := fun _ e => a.chk e
  ok := fun {k E X tg e} h ch => by
    refine PI.imp (pi_tup (a.ok h ch)) fun σ H R q => ?_
    obtain ⟨τ, G, R3, E3, rs, g, q, kk, kx⟩ := q
    refine ⟨τ, G, _, E3, rs, g, q, fun v H1 d G1 s1 q1 h1 => ?_, kx⟩
    dsimp only at h1
    split at h1
    · rename_i l
      cases q1 with
      | @tup a xs l t q1 =>
        refine ⟨a, rfl, ⟨xs, t.sq⟩, kk _ _ _ ⟨l, fun _ => True⟩ s1 ⟨fun i H' G' s kp hi => ?_, fun i H' G' s kp hi => ?_, fun i H' G' x H'' d s kp hd y => ?_⟩ h1⟩
        · have q2 := q1.step s
          have r2 : Rep X.K H' G' (.ref a) (.tup l) := (Rep.tup t q1 : Rep (⟨X.K, c.T⟩ : Wd).K H1 G1 _ _).step s
          cases r2 with
          | @tup _ ys _ t2 q3 =>
            have hl : i < ys.length := by rw [q3.length]; exact hi
            exact ⟨ys, ys[i], t2.sq, List.getElem?_eq_getElem hl⟩
        · have r2 : Rep X.K H' G' (.ref a) (.tup l) := (Rep.tup t q1 : Rep (⟨X.K, c.T⟩ : Wd).K H1 G1 _ _).step s
          cases r2 with
          | @tup _ ys _ t2 q3 => exact ⟨ys, t2.sq, by rw [q3.length]; exact hi⟩
        · have r2 : Rep X.K H' G' (.ref a) (.tup l) := (Rep.tup t q1 : Rep (⟨X.K, c.T⟩ : Wd).K H1 G1 _ _).step s
          cases r2 with
          | @tup _ ys _ t2 q3 =>
            obtain ⟨rfl, y⟩ := y
            obtain ⟨v, hv, rv⟩ := q3.get hd
            have := y ys t2.sq
            rw [hv] at this
            cases this
            exact ⟨Step.refl s.rel, rv⟩
    · exact h1.elim
def itS (t : TE3) : TI3 := fun τ G R E => t τ G (fun d G1 => match d with
  | .str x => R ⟨x.cps.toList.map fun c => .str ⟨#[c]⟩, fun _ => True⟩ G1
  | _ => False) E
/-- over a text -/
def iTxt {c : Cn} (a : CE c) : CI c where
  t := itS a.t
  chk := fun _ e => a.chk e
  ok := fun {k E X tg e} h ch => by
    refine PI.imp (pi_str (a.ok h ch)) fun σ H R q => ?_
    obtain ⟨τ, G, R3, E3, rs, g, q, kk, kx⟩ := q
    refine ⟨τ, G, _, E3, rs, g, q, fun v H1 d G1 s1 q1 h1 => ?_, kx⟩
    dsimp only at h1
    split at h1
    · rename_i x
      cases q1
      refine ⟨x, rfl, kk _ _ _ ⟨x.cps.toList.map fun c => .str ⟨#[c]⟩, fun _ => True⟩ s1 ⟨fun i H' G' s kp hi => ?_, fun i H' G' s kp hi => ?_, fun i H' G' v H'' d s kp hd y => ?_⟩ h1⟩
      · show i < x.cps.size
        simpa using hi
      · show x.cps.size ≤ i
        simpa using hi
      · obtain ⟨rfl, c, hc, rfl⟩ := y
        rw [List.getElem?_map, Array.getElem?_toList, hc] at hd
        cases hd
        exact ⟨Step.refl s.rel, .str _⟩
    · exact h1.elim
def rngItems (lo : Int) (n : Nat) : List D := (List.range n).map fun i => .int (lo + (i : Nat))
theorem rng_ok {w : Wd} {H : Hp} {G : Gp} {lo : Int} {n : Nat} : ItOk w (Itr lo n) H G ⟨rngItems lo n, fun _ => True⟩ := by
  refine ⟨fun i H' G' s kp hi => ?_, fun i H' G' s kp hi => ?_, fun i H' G' v H'' d s kp hd y => ?_⟩
  · show i < n
    simpa [rngItems] using hi
  · show n ≤ i
    simpa [rngItems] using hi
  · obtain ⟨rfl, rfl⟩ := y
    unfold rngItems at hd
    rw [List.getElem?_map, List.getElem?_range] at hd
    · cases hd
      exact ⟨Step.refl s.rel, .int _⟩
    · by_cases hi : i < n
      · exact hi
      · rw [List.getElem?_eq_none (by simpa using hi)] at hd
        cases hd
def itR1 (t : TE3) : TI3 := fun τ G R E => t τ G (fun d G1 => match d with
  | .int j => (-(2 ^ 62) ≤ j ∧ j < 2 ^ 62) ∧ R ⟨rngItems 0 j.toNat, fun _ => True⟩ G1
  | _ => False) E
def itR2 (t u : TE3) : TI3 := fun τ G R E => t τ G (fun d G1 => u τ G1 (fun d2 G2 => match d, d2 with
  | .int i, .int j => (-(2 ^ 62) ≤ i ∧ i < 2 ^ 62 ∧ -(2 ^ 62) ≤ j ∧ j < 2 ^ 62) ∧ R ⟨rngItems i (j - i).toNat, fun _ => True⟩ G2
  | _, _ => False) E) E
/-- over range(n) -/
def iRng1 {c : Cn} (a : CE c) : CI c where
  t := itR1 a.t
  chk := fun _ e => match e with
    | .Call (.Name x _) [e1] [] _ => decide (x = "range") && c.bt.contains x && glB c.nm x && chkAs [a] [e1]
    | _ => false
  ok := fun {k E X tg e} h ch => by
    split at ch
    · simp only [Bool.and_eq_true, decide_eq_true_eq] at ch
      obtain ⟨⟨⟨rfl, c1⟩, c2⟩, c3⟩ := ch
      have hm := h.g.bt _ (List.contains_iff_mem.mp c1)
      simp only [chkAs, Bool.and_eq_true] at c3
      refine PI.imp (pi_range1 (gl_of h c2) hm (pa_cons (a.ok h c3.1.2) pa_nil (star_of c3.1.1)) (star_of c3.1.1)) fun σ H R q => ?_
      obtain ⟨τ, G, R3, E3, rs, g, q, kk, kx⟩ := q
      refine ⟨τ, G, _, E3, rs, g, q, fun v H1 d G1 s1 q1 h1 => ?_, kx⟩
      dsimp only at h1
      split at h1
      · cases q1
        exact ⟨_, rfl, h1.1.1, h1.1.2, kk _ _ _ _ s1 rng_ok h1.2⟩
      · exact h1.elim
    · cases ch
/-- over range(m, n) -/
def iRng2 {c : Cn} (a b : CE c) : CI c where
  t := itR2 a.t b.t
  chk := fun _ e => match e with
    | .Call (.Name x _) [e1, e2] [] _ => decide (x = "range") && c.bt.contains x && glB c.nm x && chkAs [a, b] [e1, e2]
    | _ => false
  ok := fun {k E X tg e} h ch => by
    split at ch
    · simp only [Bool.and_eq_true, decide_eq_true_eq] at ch
      obtain ⟨⟨⟨rfl, c1⟩, c2⟩, c3⟩ := ch
      have hm := h.g.bt _ (List.contains_iff_mem.mp c1)
      simp only [chkAs, Bool.and_eq_true] at c3
      refine PI.imp (pi_range2 (gl_of h c2) hm (pa_cons (a.ok h c3.1.2) (pa_cons (b.ok h c3.2.1.2) pa_nil (star_of c3.2.1.1)) (star_of c3.1.1)) (by rw [star_of c3.1.1, star_of c3.2.1.1]; rfl) (star_of c3.2.1.1)) fun σ H R q => ?_
      obtain ⟨τ, G, R3, E3, rs, g, q, kk, kx⟩ := q
      refine ⟨τ, G, _, E3, rs, g, q, fun v H1 d G1 s1 q1 h1 => ?_, kx⟩
      refine ⟨τ, G1, _, E3, rs.step s1, s1.rel, h1, fun v2 H2 d2 G2 s2 q2 h2 => ?_, kx.step s1⟩
      dsimp only at h2
      split at h2
      · cases q1; cases q2
        exact ⟨_, _, rfl, h2.1, kk _ _ _ _ (s1.trans s2) rng_ok h2.2⟩
      · exact h2.elim
    · cases ch
/-! ### enumerate over a list, zip of two lists -/
def numb : Nat → List D → List D
  | _, [] => []
  | n, d :: r => .tup [.int (n : Int), d] :: numb (n + 1) r
theorem numb_get : ∀ {l : List D} {n i : Nat} {d : D}, (numb n l)[i]? = some d → ∃ e, l[i]? = some e ∧ d = .tup [.int ((n + i : Nat) : Int), e]
  | [], _, _, _, h => by simp [numb] at h
  | e :: r, n, 0, d, h => by
    simp [numb] at h
    exact ⟨e, rfl, by rw [← h]; rfl⟩
  | e :: r, n, i + 1, d, h => by
    simp only [numb, List.getElem?_cons_succ] at h
    obtain ⟨e', h1, h2⟩ := numb_get h
    exact ⟨e', by simpa using h1, by rw [h2]; congr 4; omega⟩
theorem numb_len : ∀ {l : List D} {n : Nat}, (numb n l).length = l.length
  | [], _ => rfl
  | _ :: r, n => by simp [numb, numb_len (l := r)]
def itE (t : TE3) : TI3 := fun τ G R E => t τ G (fun d G1 => match srcL G1 d with
  | some S => R ⟨numb 0 S.items, S.keep⟩ G1
  | none => False) E
/-- over enumerate(list) -/
def iEnm {c : Cn} (a : CE c) : CI c where
  t := itE a.t
  chk := fun tg e => (match tg with
    | .Tuple .. => true
    | _ => false) && match e with
    | .Call (.Name x _) [e1] [] _ => decide (x = "enumerate") && c.bt.contains x && glB c.nm x && chkAs [a] [e1]
    | _ => false
  ok := fun {k E X tg e} h ch => by
    rw [Bool.and_eq_true] at ch
    obtain ⟨ct, ch⟩ := ch
    split at ct
    · split at ch
      · simp only [Bool.and_eq_true, decide_eq_true_eq] at ch
        obtain ⟨⟨⟨rfl, c1⟩, c2⟩, c3⟩ := ch
        have hm := h.g.bt _ (List.contains_iff_mem.mp c1)
        simp only [chkAs, Bool.and_eq_true] at c3
        refine PI.imp (pi_enum (gl_of h c2) hm (pa_cons (a.ok h c3.1.2) pa_nil (star_of c3.1.1)) (star_of c3.1.1)) fun σ H R q => ?_
        obtain ⟨τ, G, R3, E3, rs, g, q, kk, kx⟩ := q
        refine ⟨τ, G, _, E3, rs, g, q, fun v H1 d G1 s1 q1 h1 => ?_, kx⟩
        dsimp only at h1
        split at h1
        · rename_i S e
          obtain ⟨a, rfl, ⟨xs, h2⟩, kp, io, hx⟩ := src_ok s1.rel q1 e
          refine ⟨a, xs, rfl, h2, kk _ _ _ ⟨numb 0 S.items, S.keep⟩ s1 ⟨fun i H' G' s kp hi => ?_, fun i H' G' s kp hi => ?_, fun i H' G' v H'' d s kp hd y => ?_⟩ h1⟩
          · obtain ⟨ys, k1, k2⟩ := hx H' G' s kp
            have hl : i < ys.length := by rw [k2.length]; simpa [numb_len] using hi
            exact ⟨ys, ys[i], k1, List.getElem?_eq_getElem hl⟩
          · obtain ⟨ys, k1, k2⟩ := hx H' G' s kp
            exact ⟨ys, k1, by rw [k2.length]; simpa [numb_len] using hi⟩
          · obtain ⟨ys, k1, k2⟩ := hx H' G' s kp
            obtain ⟨e1, he, rfl⟩ := numb_get hd
            obtain ⟨T, x, rfl, hT, rfl, y⟩ := y
            obtain ⟨u, hu, ru⟩ := k2.get he
            have z := y ys k1
            rw [hu] at z
            have z := Option.some.inj z
            subst z
            have st : Step ⟨X.K, c.T⟩ H' G' (upd H' T (.tup [.int (i : Nat), u])) G' := Step.fresh s.rel hT
            refine ⟨st, .tup (.inl ⟨s.rel.free hT, upd_same⟩) ?_⟩
            rw [Nat.zero_add]
            exact .cons (.int _) (.cons (ru.step st) .nil)
        · exact h1.elim
      · cases ch
    · cases ct
end L3
set_option Elab.async false
set_option linter.all false
set_option maxRecDepth 100000
set_option maxHeartbeats 1000000
namespace L3
open PySem PySem.Spec PyProof.Rows L2 LamX
/-! ### list comprehensions -/
def lcGo (keep : Gp → Prop) (p : Addr) (tg : Tg) (tt : TT3) (te : TE3) (τ : S3) (Q : List D → Gp → Prop) : List D → List D → Gp → Prop
  | [], acc, G => Q acc G
  | d :: r, acc, G => tg.t d τ G fun τ2 G2 => tt τ2 G2 (fun b G3 => if b = true then te τ2 G3 (fun y G4 => G4 p = some (.lst acc) ∧ acc.length < sizeLine ∧ keep (updG G4 p (.lst (acc ++ [y]))) ∧
      lcGo keep p tg tt te τ Q r (acc ++ [y]) (updG G4 p (.lst (acc ++ [y])))) (fun _ _ _ => False) else G3 p = some (.lst acc) ∧ keep G3 ∧ lcGo keep p tg tt te τ Q r acc G3) (fun _ _ _ => False)
def lcE (it : TI3) (tg : Tg) (tt : TT3) (te : TE3) (m : Bool) : TE3 := fun τ G Q E => it τ G (fun S G1 => ∀ p, G1 p = none → S.keep (updG G1 p (.lst [])) ∧
  lcGo S.keep p tg tt te (wipe3 τ tg.sl) (fun acc G2 => if m = true then Q (.obj p) G2 else Q (.lst acc) (delG G2 p)) S.items [] (updG G1 p (.lst []))) E
theorem wipe_get {σ : L2.St} {i : Nat} : ∀ {vs : List Nat}, (wipe σ vs)[i]? = if i ∈ vs then σ[i]?.map (fun _ => none) else σ[i]?
  | [] => by simp [wipe]
  | v :: vs => by
    show ((wipe σ vs).set v none)[i]? = _
    by_cases e : v = i
    · subst e
      rw [if_pos (List.mem_cons_self ..), List.getElem?_set]
      simp only [if_true, wipe_length]
      split
      · rename_i h; rw [List.getElem?_eq_getElem h]; rfl
      · rename_i h; rw [List.getElem?_eq_none (by omega)]; rfl
    · rw [List.getElem?_set_ne e, wipe_get]
      have : i ∈ v :: vs ↔ i ∈ vs := by simp [Ne.symm e]
      simp only [this]
theorem wipe_wipe {σ : L2.St} {vs : List Nat} : wipe (wipe σ vs) vs = wipe σ vs := by
  apply List.ext_getElem?
  intro i
  rw [wipe_get, wipe_get]
  split
  · cases σ[i]? <;> rfl
  · rfl
def relN (nm ns : List (Str × NameKind)) : List (Str × NameKind) := ns.map fun (n, k) => if (k == .free && true && nm.lookup n == some .cell) then (n, .cell) else (n, k)
def ownOf (c : Cn) (t : Tg) : List (Str × Nat) := t.sl.map fun i => ((c.N[i]?).getD "", i)
theorem own_snd (c : Cn) (t : Tg) : (ownOf c t).map (·.2) = t.sl := by
  unfold ownOf
  rw [List.map_map]
  exact List.map_id _
def scOf (nm : List (Str × NameKind)) : Scope := { kind := .function, names := nm, isGenerator := false, isCoroutine := false, more := [] }
theorem blk_names {N : List Str} {sc sc' scope : Scope} {own : List (Str × Nat)} (h : BlkOk N sc scope own) (e : sc.names = sc'.names) : BlkOk N sc' scope own := ⟨h.kind, h.uniq, h.ix, fun y m f => by rw [← e]; exact h.free y m f, h.own⟩
theorem blk_ok {c : Cn} {k : Nat} {E : XK} {X : Cx} (h : XOk c k E X) {scope : Scope} (hk : scope.kind = .function) (s : Shared) (H : Hp) (C : Addr) (cl : List (Str × Addr)) (fp : List Addr) :
    XOk (c.blk (relN c.nm scope.names)) k (fun _ _ _ => False) (X.blk s H scope (compEnvC scope cl C X.env) fp) where
  tk := fun u s' ⟨_, _, _, _, _, _, _, _, _, _, _, _, _, _, _, _, w⟩ => w
  rmH := h.rmH
  cold := h.cold
  hx := fun a C dd z => by cases z
  gd := h.gd
  lm := fun a C z => by cases z
  nd := h.nd
  N := h.N
  nm := by
    show (scope.names.map _) = scope.names.map _
    have e1 : (X.env.scope.kind == ScopeKind.function) = true := by rw [h.kind]; rfl
    have e2 : ∀ n, X.env.kindOf n = c.nm.lookup n := fun n => by unfold Env.kindOf; rw [h.nm]
    simp only [e1, e2]
  kind := hk
  cel := fun e => Bool.noConfusion e
  po := PassesOwn.never
  g := ⟨h.g.fn, h.g.gv, h.g.bt, h.g.fl, h.g.mt, h.g.mks, h.g.cs, h.g.rz, h.g.gc, h.g.ex, h.g.fnE, h.g.fnL, h.g.nd, h.g.fnG, h.g.lf⟩
def yesT : TT3 := fun _ G Q _ => Q true G
def ifsT {c : Cn} : Option (CT c) → TT3
  | none => yesT
  | some t => t.t
def chkIfs {c : Cn} : Option (CT c) → List Expr → Bool
  | none, [] => true
  | some t, [e] => t.chk e
  | _, _ => false
theorem ifs_ok {c : Cn} {k : Nat} {E : XK} {X : Cx} (h : XOk c k E X) : ∀ {t : Option (CT c)} {es : List Expr}, chkIfs t es = true → PTs X es (LT ⟨X.K, c.T⟩ E (ifsT t))
  | none, [], _ => ⟨fun pins s σ H Q I q => by
    obtain ⟨τ, G, Q3, E3, rs, g, q, kk, kx⟩ := q
    exact (pts_nil (X := X)).run pins s σ H Q I (kk true H G (Step.refl g) q)⟩
  | some t, [e], ch => pts_one (t.ok h ch)
  | none, _ :: _, ch => by cases ch
  | some _, [], ch => by cases ch
  | some _, _ :: _ :: _, ch => by cases ch
theorem noSetIter {e : Expr} {env : Env} (h : noSet e = true) : ∀ x, foldedSetIterable e env x = pure x := by
  intro x
  cases e <;> first | rfl | (exact Bool.noConfusion h)
theorem l_lc {w : Wd} {E : XK} {it : TI3} {tg : Tg} {tt : TT3} {te : TE3} {m : Bool} {σ : L2.St} {H : Hp} {Q : VK} (h : LE w E (lcE it tg tt te m) σ H Q) :
    tLc (LI w E it) (tg.g w.K) (LT w (fun _ _ _ => False) tt) (LE w (fun _ _ _ => False) te) tg.sl σ H Q := by
  obtain ⟨τ, G, Q3, E3, rs, g, q, kk, kx⟩ := h
  refine ⟨τ, G, _, E3, rs, g, q, fun J H1 G1 S s1 io h1 p hp => ?_, kx⟩
  obtain ⟨kp, h1⟩ := h1 p (s1.rel.free hp)
  have st : Step w H1 G1 (upd H1 p (.lst [])) (updG G1 p (.lst [])) := Step.freshG (u := .lst []) s1.rel hp fun H' G' e mo => ⟨[], e, .nil⟩
  have rs1 := (rs.step s1)
  refine ⟨fun i n H => n + i = S.items.length ∧ ∃ G acc, Step w H1 G1 H G ∧ S.keep G ∧ G p = some (.lst acc) ∧
    lcGo S.keep p tg tt te (wipe3 τ tg.sl) (fun acc G2 => if (m : Bool) = true then Q3 (.obj p) G2 else Q3 (.lst acc) (delG G2 p)) (S.items.drop i) acc G, ⟨S.items.length, rfl, updG G1 p (.lst []), [], st, kp, updG_same, h1⟩, ?_⟩
  rintro i n H2 ⟨hm, G2, acc, s2, kp2, ep, h2⟩
  by_cases hi : i < S.items.length
  · right
    refine ⟨io.go i H2 G2 s2 kp2 hi, fun H' => ∃ G acc, Step w H1 G1 H' G ∧ S.keep G ∧ G p = some (.lst acc) ∧ lcGo S.keep p tg tt te (wipe3 τ tg.sl) (fun acc G2 => if (m : Bool) = true then Q3 (.obj p) G2 else Q3 (.lst acc) (delG G2 p)) (S.items.drop (i + 1)) acc G,
      fun H' hN => ⟨n - 1, by omega, by omega, hN⟩, fun x H3 y => ?_⟩
    obtain ⟨s3, r3⟩ := io.yld i H2 G2 x H3 _ s2 kp2 (List.getElem?_eq_getElem hi) y
    rw [List.drop_eq_getElem_cons hi] at h2
    have s13 := s2.trans s3
    refine tg_of (w := w) (G := G2) tg ((rs1.step s13).wipe tg.sl) r3 h2 fun vs τ' rs' h3 => ⟨?_, ?_⟩
    · rw [setAllV_wipe (fun j hj => hj), wipe_wipe]
    · refine ⟨τ', G2, _, _, rs', s3.rel, h3, fun b H4 G4 s4 h4 => ?_, fun _ _ _ _ _ _ _ _ z => z.elim⟩
      dsimp only at h4
      split at h4
      · rename_i hb
        rw [if_pos hb]
        refine ⟨τ', G4, _, _, rs'.step s4, s4.rel, h4, fun v H5 d G5 s5 q5 h5 => ?_, fun _ _ _ _ _ _ _ _ z => z.elim⟩
        obtain ⟨e5, l5, k5, h5⟩ := h5
        obtain ⟨xs, e6, q6⟩ := s5.rel.2 p _ e5
        have sw := Step.write (o := .lst (xs ++ [v])) (u := .lst (acc ++ [d])) s5.rel e5 fun H' G' e' mo => ⟨_, e', (q6.append (.cons q5 .nil)).mono mo⟩
        exact ⟨xs, e6, by rw [q6.length]; exact l5, _, acc ++ [d], (s13.trans s4).trans (s5.trans sw), k5, updG_same, h5⟩
      · rename_i hb
        rw [if_neg hb]
        exact ⟨G4, acc, s13.trans s4, h4.2.1, h4.1, h4.2.2⟩
  · left
    refine ⟨io.stop i H2 G2 s2 kp2 (by omega), ?_⟩
    rw [List.drop_eq_nil_of_le (by omega)] at h2
    have h2 : if (m : Bool) = true then Q3 (.obj p) G2 else Q3 (.lst acc) (delG G2 p) := h2
    split at h2
    · exact kk _ _ _ _ (s1.trans s2) (.obj p) h2
    · obtain ⟨xs, e6, q6⟩ := s2.rel.2 p _ ep
      have sf : Step w H2 G2 H2 (delG G2 p) := Step.freeze s2.rel
      exact kk _ _ _ _ ((s1.trans s2).trans sf) (.lst delG_same e6 (q6.step sf)) h2
def lcChk {c : Cn} (it : CI c) (tg : Tg) (ifs : ∀ nm, Option (CT (c.blk nm))) (elt : ∀ nm, CE (c.blk nm)) : Expr → Bool
  | .ListComp e [⟨t, i, fs, 0⟩] scope _ => (match scope.kind with
      | .function => true
      | _ => false) && (!c.hot) && it.chk t i && noSet i && tg.chk (c.blk (relN c.nm scope.names)) t && chkIfs (ifs (relN c.nm scope.names)) fs && (elt (relN c.nm scope.names)).chk e && blkC c.N (scOf c.nm) scope (ownOf c tg)
  | _ => false
theorem kindFn {k : ScopeKind} (h : (match k with
      | .function => true
      | _ => false) = true) : k = .function := by
  cases k <;> first | rfl | (exact Bool.noConfusion h)
def eLc {c : Cn} (it : CI c) (tg : Tg) (ifs : ∀ nm, Option (CT (c.blk nm))) (elt : ∀ nm, CE (c.blk nm)) (m : Bool := false) (hI : ∀ nm, ifsT (ifs nm) = ifsT (ifs []) := by intro _; rfl) (hE : ∀ nm, (elt nm).t = (elt []).t := by intro _; rfl) : CE c where
  t := lcE it.t tg (ifsT (ifs [])) (elt []).t m
  chk := lcChk it tg ifs elt
  ok := fun {k E X e} h ch => by
    unfold lcChk at ch
    split at ch
    · rename_i e t i fs scope pos
      simp only [Bool.and_eq_true] at ch
      obtain ⟨⟨⟨⟨⟨⟨⟨c1, cz⟩, c2⟩, c3⟩, c4⟩, c5⟩, c6⟩, c7⟩ := ch
      have cz := cold_of cz
      have hk := kindFn c1
      have b0 := blk_names (sc' := X.env.scope) (blkOk_by c7) h.nm.symm
      rw [← h.N] at b0
      have b := pe_lc (g := tg.g X.K) (tt := LT ⟨X.K, c.T⟩ (fun _ _ _ => False) (ifsT (ifs (relN c.nm scope.names)))) (te := LE ⟨X.K, c.T⟩ (fun _ _ _ => False) (elt (relN c.nm scope.names)).t) (pos := pos) (h.calm cz) h.nd (it.ok h c2) b0 (fun s H C cl fp => tg_ok (blk_ok h hk s H C cl fp) tg c4) (fun s H C cl fp => ifs_ok (blk_ok h hk s H C cl fp) c5) (fun s H C cl fp => (elt _).ok (blk_ok h hk s H C cl fp) c6) (noSetIter c3)
      rw [own_snd] at b
      refine PE.imp b fun σ H Q q => ?_
      rw [hI, hE]
      exact l_lc q
    · cases ch
end L3
set_option Elab.async false
set_option linter.all false
set_option maxRecDepth 100000
set_option maxHeartbeats 1000000
namespace L3
open PySem PySem.Spec PyProof.Rows L2 LamX
/-! ### statements -/
structure En where
  nx : S3 → Gp → Prop
  rt : K3
  bk : S3 → Gp → Prop := fun _ _ => False
  ct : S3 → Gp → Prop := fun _ _ => False
  xe : X3
abbrev TS3 := En → S3 → Gp → Prop
structure SK (w : Wd) (E : XK) (H : Hp) (G : Gp) (D3 : En) (D : Ends) : Prop where
  nx : ∀ σ' H' τ' G', Step w H G H' G' → RelS w H' G' σ' τ' → D3.nx τ' G' → D.nx σ' H'
  bk : ∀ σ' H' τ' G', Step w H G H' G' → RelS w H' G' σ' τ' → D3.bk τ' G' → D.bk σ' H'
  ct : ∀ σ' H' τ' G', Step w H G H' G' → RelS w H' G' σ' τ' → D3.ct τ' G' → D.ct σ' H'
  rt : EK w H G D3.rt D.rt
  xe : XKR w H G D3.xe E
theorem SK.step {w : Wd} {E : XK} {H H' : Hp} {G G' : Gp} {D3 : En} {D : Ends} (k : SK w E H G D3 D) (s : Step w H G H' G') : SK w E H' G' D3 D where
  nx := fun a b c d t => k.nx a b c d (s.trans t)
  bk := fun a b c d t => k.bk a b c d (s.trans t)
  ct := fun a b c d t => k.ct a b c d (s.trans t)
  rt := k.rt.step s
  xe := k.xe.step s
def LS (w : Wd) (E : XK) (t : TS3) : TS := fun D σ H => ∃ τ G D3, RelS w H G σ τ ∧ GRel w H G ∧ t D3 τ G ∧ SK w E H G D3 D
structure CS (c : Cn) where
  t : TS3
  chk : Stmt → Bool
  ok : ∀ {k : Nat} {E : XK} {X : Cx} {s : Stmt}, XOk c k E X → chk s = true → PS X s (LS ⟨X.K, c.T⟩ E t)
def seqT : List TS3 → TS3
  | [] => fun D τ G => D.nx τ G
  | t :: r => fun D τ G => t { D with nx := fun τ1 G1 => seqT r D τ1 G1 } τ G
def chkSs {c : Cn} : List (CS c) → List Stmt → Bool
  | [], [] => true
  | t :: r, e :: es => t.chk e && chkSs r es
  | _, _ => false
theorem seq_ok {c : Cn} {k : Nat} {E : XK} {X : Cx} (h : XOk c k E X) : ∀ {ts : List (CS c)} {es : List Stmt}, chkSs ts es = true → PSs X es (LS ⟨X.K, c.T⟩ E (seqT (ts.map (·.t))))
  | [], es, ch => by
    cases es with
    | nil =>
      refine PSs.imp pss_nil fun D σ H q => ?_
      obtain ⟨τ, G, D3, rs, g, q, kk⟩ := q
      exact kk.nx _ _ _ _ (Step.refl g) rs q
    | cons _ _ => cases ch
  | t :: r, es, ch => by
    cases es with
    | nil => cases ch
    | cons e es =>
      simp only [chkSs, Bool.and_eq_true] at ch
      refine PSs.imp (pss_cons (t.ok h ch.1) (seq_ok h ch.2)) fun D σ H q => ?_
      obtain ⟨τ, G, D3, rs, g, q, kk⟩ := q
      exact ⟨τ, G, _, rs, g, q, ⟨fun σ' H' τ' G' s r' q' => ⟨τ', G', D3, r', s.rel, q', kk.step s⟩, kk.bk, kk.ct, kk.rt, kk.xe⟩⟩
/-- no comprehension -/
def noComp : Expr → Bool
  | .ListComp .. => false
  | .SetComp .. => false
  | .DictComp .. => false
  | _ => true
theorem noSwap {e : Expr} {t : Option Expr} {l : Nat} {env : Env} (h : noComp e = true) : swapsWith e t l env = pure false := by
  cases e <;> first | rfl | (exact Bool.noConfusion h)
theorem noSwapS {t e : Expr} {l : Nat} {env : Env} (h : noComp e = true) : swapsWithSole [t] e l env = pure false := by
  unfold swapsWithSole
  exact noSwap h
def setT (i : Nat) (t : TE3) : TS3 := fun D τ G => t τ G (fun d G1 => D.nx (τ.set i (some d)) G1) D.xe
theorem l_set {w : Wd} {E : XK} {i : Nat} {t : TE3} {D : Ends} {σ : L2.St} {H : Hp} (q : LS w E (setT i t) D σ H) : tAsg (LE w E t) (gName i) D σ H := by
  obtain ⟨τ, G, D3, rs, g, q, kk⟩ := q
  exact ⟨τ, G, _, _, rs, g, q, fun v H1 d G1 s1 q1 h1 => kk.nx _ _ _ _ s1 ((rs.step s1).set q1 i) h1, kk.xe⟩
/-- not: a list comprehension into a plain local on its line -/
def setChk (c : Cn) (x : Str) (p : Pos) : Expr → Bool
  | .ListComp _ _ _ q => !(plocB c.nm x && (p.line == q.line))
  | .SetComp .. => false
  | .DictComp .. => false
  | _ => true
theorem setChk_of {c : Cn} {k : Nat} {E : XK} {X : Cx} (h : XOk c k E X) {x : Str} {p : Pos} {e : Expr} {l : Nat} (ch : setChk c x p e = true) : swapsWith e (some (.Name x p)) l X.env = pure false := by
  unfold setChk at ch
  split at ch
  · rename_i e gs sc q
    unfold swapsWith
    show (do return X.env.blockKind == .function && X.env.kindOf x == some .local && p.line == q.line && !(sc.names.any fun (n, k) => n == x && (k == .local || k == .cell)) : Sem Bool) = _
    have hb : (X.env.kindOf x == some .local && p.line == q.line) = false := by
      have ek : X.env.kindOf x = c.nm.lookup x := by unfold Env.kindOf; rw [h.nm]
      rw [ek]
      unfold plocB at ch
      split at ch
      · rename_i e1
        rw [e1]
        have : (p.line == q.line) = false := by simpa using ch
        rw [this]
        simp
      · rename_i n1
        have : (c.nm.lookup x == some NameKind.local) = false := by
          cases hl : c.nm.lookup x with
          | none => rfl
          | some kk => cases kk <;> first | rfl | (exact absurd hl n1)
        rw [this]
        rfl
    rw [Bool.and_assoc (X.env.blockKind == .function), hb]
    simp
  · cases ch
  · cases ch
  · rename_i n1 n2 n3
    refine noSwap ?_
    cases e <;> first | rfl | (exact absurd rfl (n1 _ _ _ _)) | (exact absurd rfl (n2 _ _ _ _)) | (exact absurd rfl (n3 _ _ _ _ _))
/-- name = e -/
def sSet {c : Cn} (i : Nat) (a : CE c) : CS c where
  t := setT i a.t
  chk := fun
    | .Assign [.Name x p] e _ => decide (c.N[i]? = some x) && locB c x && a.chk e && setChk c x p e
    | _ => false
  ok := fun {k E X s} h ch => by
    split at ch
    · simp only [Bool.and_eq_true, decide_eq_true_eq] at ch
      obtain ⟨⟨⟨c1, c2⟩, c3⟩, c4⟩ := ch
      have l := loc_of h c2
      exact PS.imp (ps_set h.nd (by rw [h.N]; exact c1) l.1 (a.ok h c3) (setChk_of h c4) l.2) fun _ _ _ q => l_set q
    · cases ch
/-- name = [..] on its line -/
def sSetLc {c : Cn} (i : Nat) (it : CI c) (tg : Tg) (ifs : ∀ nm, Option (CT (c.blk nm))) (elt : ∀ nm, CE (c.blk nm)) (m : Bool := false) (hI : ∀ nm, ifsT (ifs nm) = ifsT (ifs []) := by intro _; rfl) (hE : ∀ nm, (elt nm).t = (elt []).t := by intro _; rfl) : CS c where
  t := setT i (lcE it.t tg (ifsT (ifs [])) (elt []).t m)
  chk := fun
    | .Assign [.Name x p] (.ListComp e gs scope q) _ => decide (c.N[i]? = some x) && plocB c.nm x && (p.line == q.line) && !(scope.names.any fun (n, k) => n == x && (k == .local || k == .cell)) && lcChk it tg ifs elt (.ListComp e gs scope q)
    | _ => false
  ok := fun {k E X s} h ch => by
    split at ch
    · rename_i x p e gs scope q spos
      simp only [Bool.and_eq_true, decide_eq_true_eq] at ch
      obtain ⟨⟨⟨⟨a1, a2⟩, a3⟩, a4⟩, ch⟩ := ch
      unfold lcChk at ch
      split at ch
      · rename_i e t i fs scope pos e1
        cases e1
        simp only [Bool.and_eq_true] at ch
        obtain ⟨⟨⟨⟨⟨⟨⟨c1, cz⟩, c2⟩, c3⟩, c4⟩, c5⟩, c6⟩, c7⟩ := ch
        have cz := cold_of cz
        have hk := kindFn c1
        have b0 := blk_names (sc' := X.env.scope) (blkOk_by c7) h.nm.symm
        rw [← h.N] at b0
        have b := ps_setLc (spos := spos) (g := tg.g X.K) (tt := LT ⟨X.K, c.T⟩ (fun _ _ _ => False) (ifsT (ifs (relN c.nm scope.names)))) (te := LE ⟨X.K, c.T⟩ (fun _ _ _ => False) (elt (relN c.nm scope.names)).t) (h.calm cz) h.nd (by rw [h.N]; exact a1) (ploc_of h a2)
          (sw_true h.kind (ploc_of h a2) a3 (by simpa using a4)) (it.ok h c2) b0 (fun s H C cl fp => tg_ok (blk_ok h hk s H C cl fp) tg c4) (fun s H C cl fp => ifs_ok (blk_ok h hk s H C cl fp) c5) (fun s H C cl fp => (elt _).ok (blk_ok h hk s H C cl fp) c6) (noSetIter c3)
        rw [own_snd] at b
        refine PS.imp b fun D σ H q => ?_
        obtain ⟨τ, G, D3, rs, g, q, kk⟩ := q
        rw [hI, hE]
        exact l_lc ⟨τ, G, _, _, rs, g, q, fun v H1 d G1 s1 q1 h1 => kk.nx _ _ _ _ s1 ((rs.step s1).set q1 _) h1, kk.xe⟩
      · cases ch
    · cases ch
def swNames (nm : List (Str × NameKind)) (ts : List Expr) : List Str := ts.filterMap fun
      | .Name id pos => if nm.lookup id == some .local && pos.line == (ts.head?.map (·.pos.line)).getD 0 then some id else none
      | _ => none
/-- no swap of stores: no display, or constants, or not all plain locals -/
def noPar (nm : List (Str × NameKind)) (ts : List Expr) : Expr → Bool
  | .Tuple vs _ _ => !(vs.any fun | .Starred .. => true | _ => false) && ((swNames nm ts).length != ts.length || vs.all (foldedForSure 8))
  | _ => true
theorem noPar_of {c : Cn} {k : Nat} {E : XK} {X : Cx} (h : XOk c k E X) {ts : List Expr} {k1 : Nat} {p1 : Pos} {e : Expr} (hp : noPar c.nm ts e = true) : swappedStores [.Tuple ts k1 p1] e X.env = pure none := by
  have ek : ∀ x, X.env.kindOf x = c.nm.lookup x := fun x => by unfold Env.kindOf; rw [h.nm]
  unfold noPar at hp
  split at hp
  · rename_i vs kk p
    simp only [Bool.and_eq_true, Bool.or_eq_true] at hp
    obtain ⟨p1, p2⟩ := hp
    unfold swappedStores
    dsimp only
    simp only [ek]
    split
    · rfl
    · refine Eq.trans (if_neg fun hg => ?_) ?_
      · have z : (vs.any fun | .Starred .. => true | _ => false) = true := hg
        rw [z] at p1
        cases p1
      · rcases p2 with p2 | p2
        · refine if_pos ?_
          rw [Bool.or_eq_true]
          exact .inl p2
        · by_cases q : ((swNames c.nm ts).length != ts.length || (swNames c.nm ts).eraseDups.length != (swNames c.nm ts).length) = true
          · exact if_pos q
          · exact Eq.trans (if_neg q) (if_pos p2)
  · rename_i hn
    unfold swappedStores
    cases e <;> first | rfl | (exact absurd rfl (hn _ _ _))
def asgT (tg : Tg) (t : TE3) : TS3 := fun D τ G => t τ G (fun d G1 => tg.t d τ G1 D.nx) D.xe
/-- a, b = e -/
def sAsg {c : Cn} (tg : Tg) (a : CE c) : CS c where
  t := asgT tg a.t
  chk := fun
    | .Assign [.Tuple es kk p] e _ => tg.chk c (.Tuple es kk p) && a.chk e && noComp e && noPar c.nm es e
    | _ => false
  ok := fun {k E X s} h ch => by
    split at ch
    · simp only [Bool.and_eq_true] at ch
      obtain ⟨⟨⟨c1, c2⟩, c3⟩, c4⟩ := ch
      refine PS.imp (ps_asg (a.ok h c2) (tg_ok h tg c1) (noSwapS c3) (noPar_of h c4) rfl) fun D σ H q => ?_
      obtain ⟨τ, G, D3, rs, g, q, kk⟩ := q
      exact ⟨τ, G, _, _, rs, g, q, fun v H1 d G1 s1 q1 h1 => tg_of (w := ⟨X.K, c.T⟩) tg (rs.step s1) q1 h1 fun vs τ' r' q' => kk.nx _ _ _ _ s1 r' q', kk.xe⟩
    · cases ch
def swC (nm : List (Str × NameKind)) (ts vs : List Expr) : Option (List Str) :=
  if !(ts.length == 2 || ts.length == 3) || vs.length != ts.length then none
  else if (vs.any fun | .Starred .. => true | _ => false) then none
  else
    let line := (ts.head?.map (·.pos.line)).getD 0
    let names := ts.filterMap fun
      | .Name id pos => if nm.lookup id == some .local && pos.line == line then some id else none
      | _ => none
    if names.length != ts.length || names.eraseDups.length != names.length then none
    else if vs.all (foldedForSure 8) then none
    else if vs.all (constantsAlone 8) then none
    else some names
theorem swC_of {c : Cn} {k : Nat} {E : XK} {X : Cx} (h : XOk c k E X) {ts vs : List Expr} {k1 k2 : Nat} {p1 p2 : Pos} {ns : List Str} (e : swC c.nm ts vs = some ns) : swappedStores [.Tuple ts k1 p1] (.Tuple vs k2 p2) X.env = pure (some ns) := by
  have ek : ∀ x, X.env.kindOf x = c.nm.lookup x := fun x => by unfold Env.kindOf; rw [h.nm]
  have eb : X.env.blockKind = .function := by unfold Env.blockKind; rw [h.kind]; rfl
  have eb' : (X.env.blockKind != .function) = false := by rw [eb]; rfl
  unfold swC at e
  unfold swappedStores
  dsimp only at e ⊢
  split at e
  · cases e
  · rename_i h1
    split at e
    · cases e
    · rename_i h2
      split at e
      · cases e
      · rename_i h3
        split at e
        · cases e
        · rename_i h4
          split at e
          · cases e
          · rename_i h5
            cases e
            simp only [ek]
            have h1' : (!(ts.length == 2 || ts.length == 3) || vs.length != ts.length || X.env.blockKind != .function) = false := by
              rw [eb', Bool.or_false]
              exact Bool.eq_false_iff.mpr h1
            refine Eq.trans (if_neg fun hg => by rw [h1'] at hg; cases hg) ?_
            refine Eq.trans (if_neg fun hg => h2 hg) ?_
            refine Eq.trans (if_neg fun hg => h3 hg) ?_
            refine Eq.trans (if_neg fun hg => h4 hg) ?_
            refine Eq.trans (if_neg fun hg => h5 hg) ?_
            rfl
def parT (is : List Nat) (ts : List TE3) : TS3 := fun D τ G => argT ts τ G (fun ds G1 => ds.length = is.length ∧ D.nx (setAll is ds τ) G1) D.xe
/-- a, b = x, y -/
def sPar {c : Cn} (i j : Nat) (a b : CE c) : CS c where
  t := parT [i, j] [a.t, b.t]
  chk := fun
    | .Assign [.Tuple [.Name x px, .Name y py] k1 p1] (.Tuple [e1, e2] k2 p2) _ => (!c.hot) && decide (c.N[i]? = some x) && decide (c.N[j]? = some y) && !(i == j) && plocB c.nm x && plocB c.nm y && chkAs [a, b] [e1, e2] && decide (swC c.nm [.Name x px, .Name y py] [e1, e2] = some [x, y])
    | _ => false
  ok := fun {k E X s} h ch => by
    split at ch
    · simp only [Bool.and_eq_true, decide_eq_true_eq] at ch
      obtain ⟨⟨⟨⟨⟨⟨⟨cz, c1⟩, c2⟩, c3⟩, c4⟩, c5⟩, c6⟩, c7⟩ := ch
      refine PS.imp (ps_par (h.calm (cold_of cz)) h.nd (by rw [h.N]; exact c1) (by rw [h.N]; exact c2) (by simpa using c3) (ploc_of h c4) (ploc_of h c5) (args_ok h c6) (swC_of h c7) rfl) fun D σ H q => ?_
      obtain ⟨τ, G, D3, rs, g, q, kk⟩ := q
      refine ⟨τ, G, _, _, rs, g, q, fun vs H1 ds G1 s1 q1 h1 => ?_, kk.xe⟩
      obtain ⟨hl, h1⟩ := h1
      match ds, hl with
      | [d1, d2], _ =>
        obtain ⟨v1, v2, rfl, r1, r2⟩ := reps2 (w := ⟨X.K, c.T⟩) q1
        exact ⟨v1, v2, rfl, kk.nx _ _ _ _ s1 (((rs.step s1).set r1 i).set r2 j) h1⟩
    · cases ch
theorem reps3 {w : Wd} {H : Hp} {G : Gp} {xs : List V} {d e f : D} (r : Reps w.K H G xs [d, e, f]) : ∃ x y z, xs = [x, y, z] ∧ Rep w.K H G x d ∧ Rep w.K H G y e ∧ Rep w.K H G z f := by
  cases r with
  | cons r t => cases t with
    | cons r2 t2 => cases t2 with
      | cons r3 t3 => cases t3; exact ⟨_, _, _, rfl, r, r2, r3⟩
def sPar3 {c : Cn} (i j l : Nat) (a b d : CE c) : CS c where
  t := parT [i, j, l] [a.t, b.t, d.t]
  chk := fun
    | .Assign [.Tuple [.Name x px, .Name y py, .Name z pz] k1 p1] (.Tuple [e1, e2, e3] k2 p2) _ => (!c.hot) && decide (c.N[i]? = some x) && decide (c.N[j]? = some y) && decide (c.N[l]? = some z) && !(i == j) && !(i == l) && !(j == l) && plocB c.nm x && plocB c.nm y && plocB c.nm z && chkAs [a, b, d] [e1, e2, e3] && decide (swC c.nm [.Name x px, .Name y py, .Name z pz] [e1, e2, e3] = some [x, y, z])
    | _ => false
  ok := fun {k E X s} h ch => by
    split at ch
    · simp only [Bool.and_eq_true, decide_eq_true_eq] at ch
      obtain ⟨⟨⟨⟨⟨⟨⟨⟨⟨⟨⟨cz, c1⟩, c2⟩, c2'⟩, c3⟩, c3'⟩, c3''⟩, c4⟩, c5⟩, c5'⟩, c6⟩, c7⟩ := ch
      refine PS.imp (ps_par3 (h.calm (cold_of cz)) h.nd (by rw [h.N]; exact c1) (by rw [h.N]; exact c2) (by rw [h.N]; exact c2') (by simpa using c3) (by simpa using c3') (by simpa using c3'') (ploc_of h c4) (ploc_of h c5) (ploc_of h c5') (args_ok h c6) (swC_of h c7)) fun D σ H q => ?_
      obtain ⟨τ, G, D3, rs, g, q, kk⟩ := q
      refine ⟨τ, G, _, _, rs, g, q, fun vs H1 ds G1 s1 q1 h1 => ?_, kk.xe⟩
      obtain ⟨hl, h1⟩ := h1
      match ds, hl with
      | [d1, d2, d3], _ =>
        obtain ⟨v1, v2, v3, rfl, r1, r2, r3⟩ := reps3 (w := ⟨X.K, c.T⟩) q1
        exact ⟨v1, v2, v3, rfl, kk.nx _ _ _ _ s1 ((((rs.step s1).set r1 i).set r2 j).set r3 l) h1⟩
    · cases ch
end L3
set_option Elab.async false
set_option linter.all false
set_option maxRecDepth 100000
set_option maxHeartbeats 1000000
namespace L3
open PySem PySem.Spec PyProof.Rows L2 LamX
/-! ### small statements -/
def dropT (t : TE3) : TS3 := fun D τ G => t τ G (fun _ G1 => D.nx τ G1) D.xe
def sExpr {c : Cn} (a : CE c) : CS c where
  t := dropT a.t
  chk := fun
    | .Expr e _ => a.chk e && noComp e
    | _ => false
  ok := fun {k E X s} h ch => by
    split at ch
    · simp only [Bool.and_eq_true] at ch
      refine PS.imp (ps_expr (a.ok h ch.1) (noSwap ch.2)) fun D σ H q => ?_
      obtain ⟨τ, G, D3, rs, g, q, kk⟩ := q
      exact ⟨τ, G, _, _, rs, g, q, fun v H1 d G1 s1 q1 h1 => kk.nx _ _ _ _ s1 (rs.step s1) h1, kk.xe⟩
    · cases ch
def retT (t : TE3) : TS3 := fun D τ G => t τ G D.rt D.xe
def sRet {c : Cn} (a : CE c) : CS c where
  t := retT a.t
  chk := fun
    | .Return (some e) _ => a.chk e
    | _ => false
  ok := fun {k E X s} h ch => by
    split at ch
    · refine PS.imp (ps_ret (a.ok h ch)) fun D σ H q => ?_
      obtain ⟨τ, G, D3, rs, g, q, kk⟩ := q
      exact ⟨τ, G, _, _, rs, g, q, kk.rt, kk.xe⟩
    · cases ch
def sPass {c : Cn} : CS c where
  t := fun D τ G => D.nx τ G
  chk := fun
    | .Pass _ => true
    | _ => false
  ok := fun {k E X s} h ch => by
    split at ch
    · refine PS.imp ps_pass fun D σ H q => ?_
      obtain ⟨τ, G, D3, rs, g, q, kk⟩ := q
      exact kk.nx _ _ _ _ (Step.refl g) rs q
    · cases ch
def sBreak {c : Cn} : CS c where
  t := fun D τ G => D.bk τ G
  chk := fun
    | .Break _ => true
    | _ => false
  ok := fun {k E X s} h ch => by
    split at ch
    · refine PS.imp ps_break fun D σ H q => ?_
      obtain ⟨τ, G, D3, rs, g, q, kk⟩ := q
      exact kk.bk _ _ _ _ (Step.refl g) rs q
    · cases ch
def sCont {c : Cn} : CS c where
  t := fun D τ G => D.ct τ G
  chk := fun
    | .Continue _ => true
    | _ => false
  ok := fun {k E X s} h ch => by
    split at ch
    · refine PS.imp ps_continue fun D σ H q => ?_
      obtain ⟨τ, G, D3, rs, g, q, kk⟩ := q
      exact kk.ct _ _ _ _ (Step.refl g) rs q
    · cases ch
def ifT (t : TT3) (a b : List TS3) : TS3 := fun D τ G => t τ G (fun k G1 => if k = true then seqT a D τ G1 else seqT b D τ G1) D.xe
def sIf {c : Cn} (t : CT c) (a b : List (CS c)) : CS c where
  t := ifT t.t (a.map (·.t)) (b.map (·.t))
  chk := fun
    | .If e p q _ => t.chk e && chkSs a p && chkSs b q
    | _ => false
  ok := fun {k E X s} h ch => by
    split at ch
    · simp only [Bool.and_eq_true] at ch
      refine PS.imp (ps_if (t.ok h ch.1.1) (seq_ok h ch.1.2) (seq_ok h ch.2)) fun D σ H q => ?_
      obtain ⟨τ, G, D3, rs, g, q, kk⟩ := q
      refine ⟨τ, G, _, _, rs, g, q, fun b H1 G1 s1 h1 => ?_, kk.xe⟩
      dsimp only at h1 ⊢
      split at h1
      · rename_i hb
        rw [if_pos hb]
        exact ⟨τ, G1, D3, rs.step s1, s1.rel, h1, kk.step s1⟩
      · rename_i hb
        rw [if_neg hb]
        exact ⟨τ, G1, D3, rs.step s1, s1.rel, h1, kk.step s1⟩
    · cases ch
/-! ### loops -/
def whileGo (t : TT3) (b : TS3) (D : En) : Nat → S3 → Gp → Prop
  | 0, _, _ => False
  | n + 1, τ, G => t τ G (fun k G1 => if k = true then b { D with nx := whileGo t b D n, ct := whileGo t b D n, bk := D.nx } τ G1 else D.nx τ G1) D.xe
def whileT (t : TT3) (b : List TS3) : TS3 := fun D τ G => ∃ n, whileGo t (seqT b) D n τ G
def sWhile {c : Cn} (t : CT c) (b : List (CS c)) : CS c where
  t := whileT t.t (b.map (·.t))
  chk := fun
    | .While e p [] _ => t.chk e && chkSs b p
    | _ => false
  ok := fun {k E X s} h ch => by
    split at ch
    · simp only [Bool.and_eq_true] at ch
      refine PS.imp (ps_while h.po (t.ok h ch.1) (seq_ok h ch.2)) fun D σ H q => ?_
      obtain ⟨τ, G, D3, rs, g, ⟨n, q⟩, kk⟩ := q
      refine ⟨fun m σ' H' => ∃ τ' G', RelS ⟨X.K, c.T⟩ H' G' σ' τ' ∧ Step ⟨X.K, c.T⟩ H G H' G' ∧ whileGo t.t (seqT (b.map (·.t))) D3 m τ' G', ⟨n, τ, G, rs, Step.refl g, q⟩, ?_⟩
      rintro m σ1 H1 ⟨τ1, G1, rs1, s1, q1⟩
      cases m with
      | zero => exact (show False from q1).elim
      | succ m =>
        have k1 := kk.step s1
        refine ⟨τ1, G1, _, _, rs1, s1.rel, q1, fun b H2 G2 s2 h2 => ?_, k1.xe⟩
        dsimp only at h2 ⊢
        split at h2
        · rename_i hb
          rw [if_pos hb]
          refine ⟨fun σ' H' => ∃ τ' G', RelS ⟨X.K, c.T⟩ H' G' σ' τ' ∧ Step ⟨X.K, c.T⟩ H G H' G' ∧ whileGo t.t (seqT _) D3 m τ' G', fun σ' H' z => ⟨m, Nat.lt_succ_self m, z⟩, ?_⟩
          have s12 := s1.trans s2
          refine ⟨τ1, G2, _, rs1.step s2, s2.rel, h2, ⟨fun σ' H' τ' G' s r' q' => ⟨τ', G', r', s12.trans s, q'⟩, (kk.step s12).nx, fun σ' H' τ' G' s r' q' => ⟨τ', G', r', s12.trans s, q'⟩, (kk.step s12).rt, (kk.step s12).xe⟩⟩
        · rename_i hb
          rw [if_neg hb]
          exact k1.nx _ _ _ _ s2 (rs1.step s2) h2
    · cases ch
def forGo (keep : Gp → Prop) (tg : Tg) (b : TS3) (N : En) : List D → S3 → Gp → Prop
  | [], τ, G => N.nx τ G
  | d :: r, τ, G => tg.t d τ G fun τ1 G1 => b { N with nx := fun τ2 G2 => keep G2 ∧ forGo keep tg b N r τ2 G2, ct := fun τ2 G2 => keep G2 ∧ forGo keep tg b N r τ2 G2, bk := N.nx } τ1 G1
def forT (it : TI3) (tg : Tg) (b : List TS3) : TS3 := fun D τ G => it τ G (fun S G1 => S.keep G1 ∧ forGo S.keep tg (seqT b) D S.items τ G1) D.xe
def sFor {c : Cn} (tg : Tg) (it : CI c) (b : List (CS c)) : CS c where
  t := forT it.t tg (b.map (·.t))
  chk := fun
    | .For t e p [] _ => (!c.hot) && tg.chk c t && it.chk t e && chkSs b p && noSet e
    | _ => false
  ok := fun {k E X s} h ch => by
    split at ch
    · simp only [Bool.and_eq_true] at ch
      obtain ⟨⟨⟨⟨cz, c1⟩, c2⟩, c3⟩, c4⟩ := ch
      refine PS.imp (ps_for h.po (h.calm (cold_of cz)) (it.ok h c2) (tg_ok h tg c1) (seq_ok h c3) (noSetIter c4)) fun D σ H q => ?_
      obtain ⟨τ, G, D3, rs, g, q, kk⟩ := q
      refine ⟨τ, G, _, _, rs, g, q, fun J H1 G1 S s1 io h1 => ?_, kk.xe⟩
      obtain ⟨kp, h1⟩ := h1
      refine ⟨fun i n σ' H' => n + i = S.items.length ∧ ∃ τ' G', RelS ⟨X.K, c.T⟩ H' G' σ' τ' ∧ Step ⟨X.K, c.T⟩ H1 G1 H' G' ∧ S.keep G' ∧ forGo S.keep tg (seqT (b.map (·.t))) D3 (S.items.drop i) τ' G', ⟨S.items.length, rfl, τ, G1, rs.step s1, Step.refl s1.rel, kp, h1⟩, ?_⟩
      rintro i n σ2 H2 ⟨hn, τ2, G2, rs2, s2, kp2, h2⟩
      have k2 := (kk.step s1).step s2
      by_cases hi : i < S.items.length
      · right
        refine ⟨io.go i H2 G2 s2 kp2 hi, fun σ' H' => ∃ τ' G', RelS ⟨X.K, c.T⟩ H' G' σ' τ' ∧ Step ⟨X.K, c.T⟩ H1 G1 H' G' ∧ S.keep G' ∧ forGo S.keep tg (seqT (b.map (·.t))) D3 (S.items.drop (i + 1)) τ' G', fun σ' H' z => ⟨n - 1, by omega, by omega, z⟩, fun x H3 y => ?_⟩
        obtain ⟨s3, r3⟩ := io.yld i H2 G2 x H3 _ s2 kp2 (List.getElem?_eq_getElem hi) y
        rw [List.drop_eq_getElem_cons hi] at h2
        have s23 := s2.trans s3
        refine tg_of (w := ⟨X.K, c.T⟩) (G := G2) tg (rs2.step s3) r3 h2 fun vs τ' rs' h3 => ?_
        have k3 := k2.step s3
        exact ⟨τ', G2, _, rs', s3.rel, h3, ⟨fun σ' H' τ'' G' s r' q' => ⟨τ'', G', r', s23.trans s, q'.1, q'.2⟩, k3.nx, fun σ' H' τ'' G' s r' q' => ⟨τ'', G', r', s23.trans s, q'.1, q'.2⟩, k3.rt, k3.xe⟩⟩
      · left
        refine ⟨io.stop i H2 G2 s2 kp2 (by omega), ?_⟩
        rw [List.drop_eq_nil_of_le (by omega)] at h2
        exact k2.nx _ _ _ _ (Step.refl s2.rel) rs2 h2
    · cases ch
/-! ### stores into objects -/
def augD : Operator → R3
  | .Add => fun x y G Q => match x, y with
    | .int i, .int j => Q (.int (i + j)) G
    | .str a, .str b => a.length + b.length ≤ sizeLine ∧ Q (.str (a ++ b)) G
    | _, _ => False
  | .Sub => subD
  | _ => fun _ _ _ _ => False
theorem aug_ok {X : Cx} {T : List (Addr × Str)} (op : Operator) : OpR X (inplaceOp op) (lift2 ⟨X.K, T⟩ (augD op)) := by
  intro pins s σ H x y v u Q I rx ry h
  obtain ⟨dx, dy, G, Q3, qx, qy, g, r, k⟩ := h
  unfold augD at r
  split at r
  · split at r
    · cases qx; cases qy
      exact iop_add pins s σ H _ _ v u Q I rx ry ⟨_, _, rfl, rfl, now g (.int _) r k⟩
    · cases qx; cases qy
      exact iop_add_str pins s σ H _ _ v u Q I rx ry ⟨_, _, rfl, rfl, r.1, now g (.str _) r.2 k⟩
    · exact r.elim
  · unfold subD at r
    split at r
    · cases qx; cases qy
      exact iop_sub pins s σ H _ _ v u Q I rx ry ⟨_, _, rfl, rfl, now g (.int _) r k⟩
    · exact r.elim
  · exact r.elim
def augT (op : Operator) (i : Nat) (t : TE3) : TS3 := fun D τ G => ∃ x, τ[i]? = some (some x) ∧ t τ G (fun y G1 => augD op x y G1 fun z G2 => D.nx (τ.set i (some z)) G2) D.xe
/-- name op= e -/
def sAug {c : Cn} (op : Operator) (i : Nat) (a : CE c) : CS c where
  t := augT op i a.t
  chk := fun
    | .AugAssign (.Name x _) o e _ => decide (c.N[i]? = some x) && locB c x && a.chk e && opB op o
    | _ => false
  ok := fun {k E X s} h ch => by
    split at ch
    · simp only [Bool.and_eq_true, decide_eq_true_eq] at ch
      obtain ⟨⟨⟨c1, c2⟩, c3⟩, c4⟩ := ch
      have l := loc_of h c2
      have := opB_eq c4
      subst this
      refine PS.imp (ps_aug h.nd (by rw [h.N]; exact c1) l.1 (a.ok h c3) (aug_ok (T := c.T) op) l.2) fun D σ H q => ?_
      obtain ⟨τ, G, D3, rs, g, ⟨x, ex, q⟩, kk⟩ := q
      obtain ⟨v, hv, rv⟩ := rs.2 i x ex
      refine ⟨v, hv, τ, G, _, _, rs, g, q, fun u H1 d G1 s1 q1 h1 => ?_, kk.xe⟩
      exact ⟨x, d, G1, _, rv.step s1, q1, s1.rel, h1, fun z H2 dz G2 s2 q2 h2 => kk.nx _ _ _ _ (s1.trans s2) (((rs.step s1).step s2).set q2 i) h2⟩
    · cases ch
def putFD (f : Str) (v : D) : List (Str × D) → List (Str × D)
  | [] => [(f, v)]
  | (g, x) :: r => if g = f then (g, v) :: r else (g, x) :: putFD f v r
theorem frep_putF {w : Wd} {H : Hp} {G : Gp} {f : Str} {v : V} {d : D} (q : Rep w.K H G v d) : ∀ {gs : List (Str × V)} {fs : List (Str × D)}, FReps w.K H G gs fs → FReps w.K H G (putF f v gs) (putFD f d fs)
  | [], [], _ => ⟨rfl, .cons q .nil⟩
  | [], _ :: _, r => by have := r.1; simp at this
  | _ :: _, [], r => by have := r.1; simp at this
  | (g, x) :: gs, (g', x') :: fs, r => by
    obtain ⟨r1, r2⟩ := r
    simp only [List.map_cons, List.cons.injEq] at r1 r2
    obtain ⟨rfl, r1⟩ := r1
    cases r2 with
    | cons a t =>
      unfold putF putFD
      split
      · exact ⟨by simp [r1], .cons q t⟩
      · have ih := frep_putF (f := f) q ⟨r1, t⟩
        exact ⟨by simp only [List.map_cons]; rw [ih.1], .cons a ih.2⟩
theorem frep_len {w : Wd} {H : Hp} {G : Gp} {κ : Type} {gs : List (κ × V)} {fs : List (κ × D)} (r : FReps w.K H G gs fs) : gs.length = fs.length := by
  have := congrArg List.length r.1
  rwa [List.length_map, List.length_map] at this
def fldT (fl : List (Addr × Str)) (f : Str) (o e : TE3) : TS3 := fun D τ G => e τ G (fun y G1 => o τ G1 (fun x G2 => ∃ a C fs, x = .obj a ∧ G2 a = some (.ins C fs) ∧ (C, f) ∈ fl ∧ fs.length < 1000 ∧ D.nx τ (updG G2 a (.ins C (putFD f y fs)))) D.xe) D.xe
/-- o.f = e -/
def sFld3 {c : Cn} (f : Str) (o e : CE c) : CS c where
  t := fldT c.fl f o.t e.t
  chk := fun
    | .Assign [.Attribute x g _] v _ => decide (f = g) && o.chk x && e.chk v && noComp v
    | _ => false
  ok := fun {k E X s} h ch => by
    split at ch
    · simp only [Bool.and_eq_true, decide_eq_true_eq] at ch
      obtain ⟨⟨⟨rfl, c2⟩, c3⟩, c4⟩ := ch
      refine PS.imp (ps_fld (o.ok h c2) (e.ok h c3) (noSwap c4)) fun D σ H q => ?_
      obtain ⟨τ, G, D3, rs, g, q, kk⟩ := q
      refine ⟨τ, G, _, _, rs, g, q, fun v H1 d G1 s1 q1 h1 => ?_, kk.xe⟩
      refine ⟨τ, G1, _, _, rs.step s1, s1.rel, h1, fun v2 H2 d2 G2 s2 q2 h2 => ?_, kk.xe.step s1⟩
      obtain ⟨a, C, fs, rfl, ea, m, l, h2⟩ := h2
      cases q2
      obtain ⟨dx, gs, e2, r⟩ := s2.rel.2 a _ ea
      have hf := h.g.fl _ m
      refine ⟨a, C, dx, gs, rfl, e2, hf.1, hf.2, by rw [frep_len (w := ⟨X.K, c.T⟩) r]; exact l, ?_⟩
      have sw := Step.write (o := .ins C dx (putF f v gs)) (u := .ins C (putFD f d fs)) s2.rel ea fun H' G' e' mo => ⟨dx, _, e', (frep_putF (w := ⟨X.K, c.T⟩) (q1.step s2) r).mono mo⟩
      exact kk.nx _ _ _ _ ((s1.trans s2).trans sw) (((rs.step s1).step s2).step sw) h2
    · cases ch
def fldAugT (fl : List (Addr × Str)) (op : Operator) (f : Str) (o e : TE3) : TS3 := fun D τ G => o τ G (fun x G1 => ∃ a C fs v, x = .obj a ∧ G1 a = some (.ins C fs) ∧ (C, f) ∈ fl ∧ fs.lookup f = some v ∧
  e τ G1 (fun y G2 => augD op v y G2 fun z G3 => ∃ fs', G3 a = some (.ins C fs') ∧ fs'.length < 1000 ∧ D.nx τ (updG G3 a (.ins C (putFD f z fs')))) D.xe) D.xe
/-- o.f op= e -/
def sFldAug3 {c : Cn} (op : Operator) (f : Str) (o e : CE c) : CS c where
  t := fldAugT c.fl op f o.t e.t
  chk := fun
    | .AugAssign (.Attribute x g _) p v _ => decide (f = g) && o.chk x && e.chk v && opB op p
    | _ => false
  ok := fun {k E X s} h ch => by
    split at ch
    · simp only [Bool.and_eq_true, decide_eq_true_eq] at ch
      obtain ⟨⟨⟨rfl, c2⟩, c3⟩, c4⟩ := ch
      have := opB_eq c4
      subst this
      refine PS.imp (ps_fldaug (o.ok h c2) (e.ok h c3) (aug_ok (T := c.T) op)) fun D σ H q => ?_
      obtain ⟨τ, G, D3, rs, g, q, kk⟩ := q
      refine ⟨τ, G, _, _, rs, g, q, fun v H1 d G1 s1 q1 h1 => ?_, kk.xe⟩
      obtain ⟨a, C, fs, v0, rfl, ea, m, el, h1⟩ := h1
      cases q1
      obtain ⟨dx, gs, e2, r⟩ := s1.rel.2 a _ ea
      have hf := h.g.fl _ m
      obtain ⟨w0, hw0, rw0⟩ := frep_look (w := ⟨X.K, c.T⟩) r el
      refine ⟨a, C, dx, gs, w0, rfl, e2, hf.1, hf.2, hw0, τ, G1, _, _, rs.step s1, s1.rel, h1, fun y H2 dy G2 s2 q2 h2 => ?_, kk.xe.step s1⟩
      refine ⟨v0, dy, G2, _, rw0.step s2, q2, s2.rel, h2, fun z H3 dz G3 s3 q3 h3 => ?_⟩
      obtain ⟨fs', ea', l', h3⟩ := h3
      obtain ⟨dx', gs', e3, r'⟩ := s3.rel.2 a _ ea'
      refine ⟨dx', gs', e3, by rw [frep_len (w := ⟨X.K, c.T⟩) r']; exact l', ?_⟩
      have sw := Step.write (o := .ins C dx' (putF f z gs')) (u := .ins C (putFD f dz fs')) s3.rel ea' fun H' G' e' mo => ⟨dx', _, e', (frep_putF (w := ⟨X.K, c.T⟩) q3 r').mono mo⟩
      exact kk.nx _ _ _ _ (((s1.trans s2).trans s3).trans sw) ((((rs.step s1).step s2).step s3).step sw) h3
    · cases ch
def subT (o i e : TE3) : TS3 := fun D τ G => e τ G (fun v G1 => o τ G1 (fun x G2 => i τ G2 (fun y G3 => setD x y v G3 fun G4 => D.nx τ G4) D.xe) D.xe) D.xe
def noSlice : Expr → Bool
  | .Slice .. => false
  | _ => true
theorem sub_asg {o i : Expr} {pos : Pos} {env : Env} (h : noSlice i = true) : ∀ v, assign (.Subscript o i pos) env v = (do
      let ov ← holding [v] (eval o env)
      let iv ← holding [v, ov] (eval i env)
      standAt pos
      holding [v, ov, iv] (setItem ov iv v)
      release [v, ov, iv] []) := by
  intro v
  cases i <;> first | rfl | (exact Bool.noConfusion h)
/-- o[i] = e -/
def sSub {c : Cn} (o i e : CE c) : CS c where
  t := subT o.t i.t e.t
  chk := fun
    | .Assign [.Subscript x y _] v _ => o.chk x && i.chk y && e.chk v && noComp v && noSlice y
    | _ => false
  ok := fun {k E X s} h ch => by
    split at ch
    · rename_i x y p1 v p2
      simp only [Bool.and_eq_true] at ch
      obtain ⟨⟨⟨⟨c1, c2⟩, c3⟩, c4⟩, c5⟩ := ch
      have hw : swappedStores [.Subscript x y p1] v X.env = pure none := by
        unfold swappedStores
        cases v <;> rfl
      refine PS.imp (ps_asg (e.ok h c3) (pg_sub (o.ok h c1) (i.ok h c2) (x_set (T := c.T) h.hu1) (sub_asg c5)) (noSwapS c4) hw rfl) fun D σ H q => ?_
      obtain ⟨τ, G, D3, rs, g, q, kk⟩ := q
      refine ⟨τ, G, _, _, rs, g, q, fun v H1 dv G1 s1 q1 h1 => ?_, kk.xe⟩
      refine ⟨τ, G1, _, _, rs.step s1, s1.rel, h1, fun ov H2 dO G2 s2 q2 h2 => ?_, kk.xe.step s1⟩
      refine ⟨τ, G2, _, _, (rs.step s1).step s2, s2.rel, h2, fun iv H3 di G3 s3 q3 h3 => ?_, (kk.xe.step s1).step s2⟩
      exact ⟨dO, di, dv, G3, _, q2.step s3, q3, (q1.step s2).step s3, s3.rel, h3, fun H4 G4 s4 h4 => kk.nx _ _ _ _ (((s1.trans s2).trans s3).trans s4) ((((rs.step s1).step s2).step s3).step s4) h4⟩
    · cases ch
end L3
set_option Elab.async false
set_option linter.all false
set_option maxRecDepth 100000
set_option maxHeartbeats 1000000
namespace L3
open PySem PySem.Spec PyProof.Rows L2 LamX
/-! ### new instances -/
def mkC (c : Cn) (i : Nat) : Addr × Sp3 := match c.mks[i]? with
  | some (_, C, sp) => (C, sp)
  | none => (0, fun _ _ _ _ => False)
/-- C(..): a new instance, tracked -/
def makeE (C : Addr) (sp : Sp3) (ts : List TE3) : TE3 := fun τ G Q E => argT ts τ G (fun ds G1 => ∀ p, G1 p = none → sp (.obj p :: ds) (updG G1 p (.ins C [])) (fun d G2 => d = .non ∧ Q (.obj p) G2) E) E
def eMake {c : Cn} (i : Nat) (ts : List (CE c)) : CE c where
  t := makeE (mkC c i).1 (mkC c i).2 (ts.map (·.t))
  chk := fun
    | .Call (.Name x _) es [] _ => (!c.hot) && ((match c.mks[i]? with
      | some (y, _) => decide (x = y)
      | none => false) && glB c.nm x && nameB x && chkAs ts es && (match es with
        | [] => false
        | _ => true))
    | _ => false
  ok := fun {k E X e} h ch => by
    split at ch
    · rename_i x p es pos
      rw [Bool.and_eq_true] at ch
      obtain ⟨cz, ch⟩ := ch
      have cz := cold_of cz
      simp only [Bool.and_eq_true] at ch
      obtain ⟨⟨⟨⟨c1, c2⟩, c3⟩, c4⟩, c5⟩ := ch
      obtain ⟨n1, n2, n3⟩ := nameB_of c3
      cases es with
      | nil => cases c5
      | cons a es =>
        cases ts with
        | nil => cases c4
        | cons ta ts =>
          have c4' := c4
          simp only [chkAs, Bool.and_eq_true] at c4
          split at c1
          · rename_i y q e
            obtain ⟨C, sp⟩ := q
            have := of_decide_eq_true c1
            subst this
            obtain ⟨f, m1, M, F⟩ := h.g.mks i x C sp e
            obtain ⟨fd, ps, F, B⟩ := F.ok
            refine PE.imp (pe_make M F (h.room cz) (gl_of h c2) m1 B .nil h.passes (args_ok h c4') n1 (star_of c4.1.1) (back_any c4.2)) fun σ H Q q => ?_
            obtain ⟨τ, G, Q3, E3, rs, g, q, kk, kx⟩ := q
            refine ⟨τ, G, _, E3, rs, g, q, fun vs H1 ds G1 s1 q1 h1 => fun x dx hx hdx ne => ?_, kx⟩
            have eC : mkC c i = (C, sp) := by unfold mkC; rw [e]
            rw [eC] at h1
            have h1 := h1 x (s1.rel.free hx)
            have sa : Step ⟨X.K, c.T⟩ H1 G1 (upd H1 dx (.own x)) G1 := Step.fresh s1.rel hdx
            have hx' : upd H1 dx (.own x) x = none := by rw [upd_ne (Ne.symm ne)]; exact hx
            have sb : Step ⟨X.K, c.T⟩ (upd H1 dx (.own x)) G1 (upd (upd H1 dx (.own x)) x (.ins C dx [])) (updG G1 x (.ins C [])) := Step.freshG (u := .ins C []) sa.rel hx' fun H' G' e' mo => ⟨dx, [], e', rfl, .nil⟩
            have sab := sa.trans sb
            have s2 := s1.trans sab
            refine ⟨.obj x :: ds, _, _, E3, .cons (.obj x) (by rw [List.append_nil]; exact q1.step sab), sab.rel, h1, fun v H2 d G2 s3 q3 h3 => ?_, kx.step s2⟩
            obtain ⟨rfl, h3⟩ := h3
            cases q3
            exact ⟨rfl, kk _ _ _ _ (s2.trans s3) (.obj x) h3⟩
          · cases c1
    · cases ch
/-! ### dict displays with written texts as keys -/
def kvOf (ks : List Str) (ds : List D) : List (Key × D) := (ks.map Sum.inr).zip ds
def mergeD (kvs more : List (Key × D)) : List (Key × D) := more.foldl (fun acc kv => putD acc kv.1 kv.2) kvs
/-- {'k': e, ..}: a new dict, tracked -/
def dispE (ks : List Str) (ts : List TE3) : TE3 := fun τ G Q E => ∀ p, G p = none → argT ts τ (updG G p (.dct [])) (fun ds G1 => G1 p = some (.dct []) ∧ ds.length = ks.length ∧ ks.length ≤ 15 ∧ Q (.obj p) (updG G1 p (.dct (mergeD [] (kvOf ks ds))))) E
def chkD {c : Cn} : List Str → List (CE c) → List (Option Expr) → List Expr → Bool
  | [], [], [], [] => true
  | k :: ks, t :: ts, some (.Constant (.str x) _ _) :: xs, e :: es => decide (k = x) && t.chk e && chkD ks ts xs es
  | _, _, _, _ => false
theorem disp_ok {c : Cn} {k : Nat} {E : XK} {X : Cx} (h : XOk c k E X) {pos : Pos} : ∀ {ks : List Str} {ts : List (CE c)} {xs : List (Option Expr)} {es : List Expr}, chkD ks ts xs es = true →
    PPs X pos xs es ((ks.map fun k => tC (.str k)).zip (ts.map fun t => LE ⟨X.K, c.T⟩ E t.t)) ∧ xs.all (·.isSome) = true ∧ xs.length = es.length ∧ xs.length = ks.length
  | [], [], [], [], _ => ⟨pps_nil, rfl, rfl, rfl⟩
  | k :: ks, t :: ts, some (.Constant (.str x) _ _) :: xs, e :: es, ch => by
    simp only [chkD, Bool.and_eq_true, decide_eq_true_eq] at ch
    obtain ⟨⟨rfl, c2⟩, c3⟩ := ch
    obtain ⟨r1, r2, r3, r4⟩ := disp_ok h (pos := pos) c3
    exact ⟨pps_cons pe_str (t.ok h c2) r1, by simp [r2], by simp [r3], by simp [r4]⟩
theorem pairs_of {w : Wd} {E : XK} : ∀ {ks : List Str} {ts : List TE3} {σ : L2.St} {H : Hp} {Q : List (V × V) → Hp → Prop} {τ : S3} {G : Gp} {Q3 : List D → Gp → Prop} {E3 : X3}, RelS w H G σ τ → GRel w H G → argT ts τ G Q3 E3 → ks.length = ts.length →
    (∀ vs H' ds G', Step w H G H' G' → Reps w.K H' G' vs ds → Q3 ds G' → Q ((ks.map V.str).zip vs) H') → XKR w H G E3 E → tPairs ((ks.map fun k => tC (.str k)).zip (ts.map fun t => LE w E t)) σ H Q
  | [], [], σ, H, Q, τ, G, Q3, E3, rs, g, q, _, kk, kx => kk [] H [] G (Step.refl g) .nil q
  | k :: ks, t :: ts, σ, H, Q, τ, G, Q3, E3, rs, g, q, hl, kk, kx => by
    refine ⟨τ, G, _, E3, rs, g, q, fun v H1 d G1 s1 q1 h1 => ?_, kx⟩
    exact pairs_of (rs.step s1) s1.rel h1 (by simpa using hl) (fun vs H2 ds G2 s2 q2 h2 => kk (v :: vs) H2 (d :: ds) G2 (s1.trans s2) (.cons (q1.step s2) q2) h2) (kx.step s1)
  | [], _ :: _, _, _, _, _, _, _, _, _, _, _, hl, _, _ => by simp at hl
  | _ :: _, [], _, _, _, _, _, _, _, _, _, _, hl, _, _ => by simp at hl
def kvV (ks : List Str) (vs : List V) : List (Key × V) := (ks.map Sum.inr).zip vs
theorem kvV_eq : ∀ {ks : List Str} {vs : List V}, (ks.map V.str).zip vs = (kvV ks vs).map fun kv => (kV kv.1, kv.2)
  | [], _ => rfl
  | _ :: _, [] => rfl
  | k :: ks, v :: vs => by
    show (V.str k, v) :: (ks.map V.str).zip vs = (kV (Sum.inr k), v) :: _
    rw [kvV_eq]
    rfl
theorem frep_merge {w : Wd} {H : Hp} {G : Gp} : ∀ {ks : List Str} {vs : List V} {ds : List D} {kws : List (Key × V)} {kvs : List (Key × D)}, Reps w.K H G vs ds → FReps w.K H G kws kvs → FReps w.K H G (mergeK kws (kvV ks vs)) (mergeD kvs (kvOf ks ds))
  | [], _, _, _, _, _, r => r
  | _ :: _, [], [], _, _, _, r => r
  | k :: ks, v :: vs, d :: ds, _, _, .cons q t, r => frep_merge (ks := ks) t (frep_put r q (Sum.inr k))
def eDisp {c : Cn} (ks : List Str) (ts : List (CE c)) : CE c where
  t := dispE ks (ts.map (·.t))
  chk := fun
    | .Dict xs es _ => chkD ks ts xs es && !ks.isEmpty && decide (ks.length ≤ 15) && (ks.length == ts.length)
    | _ => false
  ok := fun {k E X e} h ch => by
    split at ch
    · simp only [Bool.and_eq_true, decide_eq_true_eq] at ch
      obtain ⟨⟨⟨c1, c2⟩, c3⟩, c4⟩ := ch
      obtain ⟨r1, r2, r3, r4⟩ := disp_ok h c1
      refine PE.imp (pe_disp r1 r2 r3 (fun z => ?_) (by rw [r4]; exact c3)) fun σ H Q q => ?_
      · rw [z] at r4
        have : ks = [] := List.eq_nil_of_length_eq_zero r4.symm
        rw [this] at c2
        exact Bool.noConfusion c2
      · obtain ⟨τ, G, Q3, E3, rs, g, q, kk, kx⟩ := q
        intro p hp
        have q := q p (g.free hp)
        have s0 : Step ⟨X.K, c.T⟩ H G (upd H p (.dK [])) (updG G p (.dct [])) := Step.freshG (u := .dct []) g hp fun H' G' e' mo => ⟨[], e', rfl, .nil⟩
        have em : (ts.map fun t => LE ⟨X.K, c.T⟩ E t.t) = ((ts.map (·.t)).map fun t => LE ⟨X.K, c.T⟩ E t) := by rw [List.map_map]; rfl
        rw [em]
        have el : ks.length = (ts.map (·.t)).length := by rw [List.length_map]; exact eq_of_beq c4
        refine pairs_of (ks := ks) (ts := ts.map (·.t)) (rs.step s0) s0.rel q el (fun vs H1 ds G1 s1 q1 h1 => ?_) (kx.step s0)
        obtain ⟨e1, l1, l2, h1⟩ := h1
        obtain ⟨kws, e2, r⟩ := s1.rel.2 p _ e1
        have ek : kws = [] := by
          have := r.1
          cases kws with
          | nil => rfl
          | cons _ _ => simp at this
        subst ek
        refine ⟨e2, kvV ks vs, kvV_eq, ?_, ?_⟩
        · unfold kvV
          rw [List.length_zip, List.length_map]
          omega
        · have sw := Step.write (o := .dK (mergeK [] (kvV ks vs))) (u := .dct (mergeD [] (kvOf ks ds))) s1.rel e1 fun H' G' e' mo => ⟨_, e', (frep_merge (w := ⟨X.K, c.T⟩) (ks := ks) q1 r).mono mo⟩
          exact kk _ _ _ _ ((s0.trans s1).trans sw) (.obj p) h1
    · cases ch
/-! ### raise -/
def rzT (C : Addr) (fs : List Str) (ts : List TE3) : TS3 := fun D τ G => argT ts τ G (fun ds G1 => ds.length = fs.length ∧ ds.length ≤ 1000 ∧ D.xe C (fs.zip ds).reverse G1) D.xe
/-- raise C(..) -/
def rzC (c : Cn) (i : Nat) : Addr × List Str := match c.rz[i]? with
  | some (_, C, fs) => (C, fs)
  | none => (0, [])
def sRaise {c : Cn} (i : Nat) (ts : List (CE c)) : CS c where
  t := rzT (rzC c i).1 (rzC c i).2 (ts.map (·.t))
  chk := fun
    | .Raise (some (.Call (.Name y _) es [] _)) none _ => (!c.hot) && ((match c.rz[i]? with
      | some (x, _) => decide (y = x)
      | none => false) && glB c.nm y && nameB y && chkAs ts es && (match es with
        | [] => false
        | _ => true))
    | _ => false
  ok := fun {k E X s} h ch => by
    split at ch
    · rename_i y p es pos pos2
      rw [Bool.and_eq_true] at ch
      obtain ⟨cz, ch⟩ := ch
      have cz := cold_of cz
      simp only [Bool.and_eq_true] at ch
      obtain ⟨⟨⟨⟨c1, c2⟩, c3⟩, c4⟩, c5⟩ := ch
      obtain ⟨n1, n2, n3⟩ := nameB_of c3
      split at c1
      case h_2 => cases c1
      rename_i x q ei
      obtain ⟨C, fs⟩ := q
      have := of_decide_eq_true c1
      subst this
      have eC : rzC c i = (C, fs) := by unfold rzC; rw [ei]
      rw [eC]
      cases es with
      | nil => cases c5
      | cons a es =>
        cases ts with
        | nil => cases c4
        | cons ta ts =>
          have c4' := c4
          simp only [chkAs, Bool.and_eq_true] at c4
          have Z := h.g.rz i y C fs ei
          obtain ⟨fI, fd, ps, sp, iC, tI, F, B, hsp⟩ := Z.ini
          have hx : Passes (L2.CX X.prog X.w) X (fun _ _ _ => False) := fun pins σ H s e s' I z => by
            obtain ⟨_, _, _, _, _, _, _, _, _, _, _, _, z⟩ := z
            exact z.elim
          refine PS.imp (ps_raise (h.calm cz) h.tk (pmk_oex Z.oex iC tI F (h.room cz) B .nil hx (gl_of h c2) Z.at_ (args_ok h c4') n1 (star_of c4.1.1) (back_any c4.2))) fun D σ H q => ?_
          obtain ⟨τ, G, D3, rs, g, q, kk⟩ := q
          refine ⟨τ, G, _, _, rs, g, q, fun vs H1 ds G1 s1 q1 h1 => ?_, kk.xe⟩
          obtain ⟨hl, hl2, h1⟩ := h1
          refine ⟨by rw [q1.length]; exact hl2, fun a ha => ?_⟩
          rw [List.append_nil]
          refine hsp a vs _ _ _ (by rw [q1.length]; exact hl) upd_same fun d hd ne => ?_
          refine ⟨rfl, d, (fs.zip vs).reverse, upd_same, ?_, ?_, ?_⟩
          · rw [upd_ne ne, upd_same]
          · rw [upd_ne ne] at hd; exact hd
          · have hd1 : H1 d = none := by rw [upd_ne ne] at hd; exact hd
            have eH : upd (del (upd (upd (upd H1 a (exo a C none)) d (exd d (fs.zip vs).reverse)) a (exo a C (some d))) a) d (.xd (fs.zip vs).reverse) = upd H1 d (.xd (fs.zip vs).reverse) := by
              funext b
              by_cases e1 : b = d
              · subst e1; rw [upd_same, upd_same]
              · rw [upd_ne e1, upd_ne e1]
                by_cases e2 : b = a
                · subst e2; rw [del_same, ha]
                · rw [del_ne e2, upd_ne e2, upd_ne e1, upd_ne e2]
            rw [eH]
            have sf : Step ⟨X.K, c.T⟩ H1 G1 (upd H1 d (.xd (fs.zip vs).reverse)) G1 := Step.fresh s1.rel hd1
            refine kk.xe _ _ _ C (fs.zip ds).reverse G1 (s1.trans sf) ⟨rfl, .inr ⟨d, (fs.zip vs).reverse, rfl, s1.rel.free hd1, upd_same, ?_⟩⟩ h1
            have hlv : fs.length = vs.length := by rw [q1.length, hl]
            have hr := q1.step sf
            refine ⟨?_, ?_⟩
            · rw [List.map_reverse, List.map_reverse, map_fst_zip hlv, map_fst_zip hl.symm]
            · rw [List.map_reverse, List.map_reverse, map_snd_zip hlv, map_snd_zip hl.symm]
              exact hr.reverse
    · cases ch
/-! ### a def -/
def start3 (N : List Str) (ds : List D) : S3 := ds.map some ++ List.replicate (N.length - ds.length) none
theorem rel_start {w : Wd} {H : Hp} {G : Gp} {N : List Str} {vs : List V} {ds : List D} (r : Reps w.K H G vs ds) : RelS w H G (L2.start N vs) (start3 N ds) := by
  refine ⟨?_, fun i d h => ?_⟩
  · unfold L2.start start3
    simp [r.length]
  · unfold start3 at h
    unfold L2.start
    by_cases hi : i < ds.length
    · rw [List.getElem?_append_left (by simpa using hi), List.getElem?_map] at h
      rw [List.getElem?_append_left (by rw [List.length_map, r.length]; exact hi), List.getElem?_map]
      cases e : ds[i]? with
      | none => rw [e] at h; cases h
      | some d' =>
        rw [e] at h
        cases h
        obtain ⟨v, hv, q⟩ := r.get e
        exact ⟨v, by rw [hv]; rfl, q⟩
    · rw [List.getElem?_append_right (by simpa using hi), List.getElem?_replicate] at h
      split at h <;> cases h
theorem fnAt3 {P : Program} {w : World} {K : PySem.W.Frag} {mg : Str → Option Value} {base : Heap} {k : Nat} {c : Cn} {x qual : Str} {params : Arguments} {body : List Stmt} {scope : Scope} {kws : List (Str × V)} {f : Addr} {fd : FuncData} {ps : List Str} {sp : Sp3} (F : FunD K x qual params body scope [] kws f fd) (hb : Binds K fd ps []) (S : FnScope c.N ps scope) (hnm : c.nm = scope.names)
    (g : GOk c k P w K mg base) (B : List (CS c)) (ch : chkSs B body = true) (len : ∀ ds G Q E, sp ds G Q E → ds.length = ps.length)
    (h : ∀ ds G Q E, sp ds G Q E → seqT (B.map (·.t)) { nx := fun _ G' => Q .non G', rt := Q, xe := E } (start3 c.N ds) G) (hz : c.hx = none ∧ c.gd = false ∧ c.lm = none := by exact ⟨rfl, rfl, rfl⟩) : FnAt P w K mg base c.T (k + 2) f sp := by
  refine ⟨fd, ps, ?_, hb⟩
  refine FunD.ok (k := k + 1) F S (fun vs H Q E q => ?_) (fun cdv A outer s H vs Q E hr q => ?_)
  · obtain ⟨ds, G, Q3, E3, r, _, q, _⟩ := q
    rw [r.length]
    exact len _ _ _ _ q
  · obtain ⟨ds, G, Q3, E3, r, g0, q, kk, kx⟩ := q
    have XO : XOk c k E (cxOf (L2.CX P w) P w K mg base c.N qual scope f cdv A outer s H E) := {
      tk := takes_of rfl rfl rfl (E₁ := fun e' s'' => L2.CX P w outer H s E e' s'') rfl
      rmH := ⟨hr.dp, hr.un⟩
      cold := fun _ => ⟨hr.hd, rfl⟩
      hx := fun a C dd z => by rw [hz.1] at z; cases z
      gd := fun z => by rw [hz.2.1] at z; cases z
      lm := fun a C z => by rw [hz.2.2] at z; cases z
      nd := S.nd
      N := rfl
      nm := hnm.symm
      kind := S.kind
      cel := fun _ _ => rfl
      po := passes_of (K := fun e s'' => L2.CX P w outer H s E e s'') (E₁ := fun e' s'' => L2.CX P w outer H s E e' s'') rfl
      g := g }
    refine ⟨_, seq_ok XO ch, ?_⟩
    refine ⟨start3 c.N ds, G, _, rel_start r, g0, h _ _ _ _ q, ⟨fun σ' H' τ' G' s1 _ q' => kk _ _ _ _ s1 .non q', fun _ _ _ _ _ _ z => z.elim, fun _ _ _ _ _ _ z => z.elim, kk, kx⟩⟩
/-- what is tracked may be forgotten -/
def Les (G' G : Gp) : Prop := ∀ b, G' b = G b ∨ G' b = none
theorem Les.refl (G : Gp) : Les G G := fun _ => .inl rfl
/-- what was tracked stands as it did -/
def Ext (G G' : Gp) : Prop := ∀ b, G b ≠ none → G' b = G b
theorem Ext.refl (G : Gp) : Ext G G := fun _ _ => rfl
theorem Ext.trans {G G1 G2 : Gp} (a : Ext G G1) (b : Ext G1 G2) : Ext G G2 := fun c h => by rw [b c (by rw [a c h]; exact h), a c h]
theorem Ext.upd {G G' : Gp} (h : Ext G G') {p : Addr} {o : GO} (hp : G p = none) : Ext G (updG G' p o) := fun b hb => by
  rw [updG_ne (fun z => hb (by rw [z]; exact hp))]
  exact h b hb
theorem Ext.les {G G' : Gp} (h : Ext G G') : Les G G' := fun b => by
  by_cases hb : G b = none
  · exact .inr hb
  · exact .inl (h b hb).symm
theorem Ext.none {G G' : Gp} (h : Ext G G') {p : Addr} (hp : G' p = none) : G p = none := by
  by_cases hb : G p = Option.none
  · exact hb
  · rw [h p hb] at hp; exact absurd hp hb
theorem Step.forget {w : Wd} {H : Hp} {G G' : Gp} (r : GRel w H G) (h : Les G' G) : Step w H G H G' := by
  have keep : ∀ b u', H b = some u' → G b = none → (∀ ps, u' ≠ .tbl ps) → (∀ fs, u' ≠ .xd fs) → H b = some u' ∧ G' b = none := fun b u' h' n _ _ => ⟨h', by
    rcases h b with e | e
    · rw [e]; exact n
    · exact e⟩
  refine ⟨fun b u h' n t t2 => h', fun b h' => .inl h', fun b ps h' => .inr ⟨ps, h'⟩, fun b fs h' => .inr (.inr (.inr ⟨fs, h'⟩)), fun b h' => ?_, ⟨r.1, fun b v e => ?_⟩⟩
  · rcases h b with z | z
    · rw [z] at h'; exact .inl h'
    · exact absurd z h'
  · rcases h b with z | z
    · rw [z] at e; exact (r.2 b v e).mono rfl keep
    · rw [z] at e; cases e
def FG (Q : K3) : K3 := fun d G => ∃ G', Les G' G ∧ Q d G'
def FX (E : X3) : X3 := fun C fs G => ∃ G', Les G' G ∧ E C fs G'
theorem EK.fg {w : Wd} {H : Hp} {G : Gp} {Q3 : K3} {Q : VK} (k : EK w H G Q3 Q) : EK w H G (FG Q3) Q := fun v H' d G' s r ⟨G2, l, q⟩ => by
  have sf := Step.forget s.rel l
  exact k v H' d G2 (s.trans sf) (r.step sf) q
theorem XRep.step {w : Wd} {H H' : Hp} {G G' : Gp} {cls : Value} {od : Option Addr} {C : Addr} {fs : List (Str × D)} (r : XRep w H G cls od C fs) (s : Step w H G H' G') (e : H' = H) (l : Les G' G) : XRep w H' G' cls od C fs := by
  obtain ⟨h1, h2⟩ := r
  refine ⟨h1, ?_⟩
  rcases h2 with h2 | ⟨d, gs, h3, h3', h4, h5⟩
  · exact .inl h2
  · refine .inr ⟨d, gs, h3, ?_, by rw [e]; exact h4, h5.step s⟩
    subst e
    rcases l d with z | z
    · rw [z]; exact h3'
    · exact z
theorem XKR.fx {w : Wd} {H : Hp} {G : Gp} {E3 : X3} {E : XK} (k : XKR w H G E3 E) : XKR w H G (FX E3) E := fun c o H' C fs G' s r ⟨G2, l, q⟩ => by
  have sf := Step.forget s.rel l
  exact k c o H' C fs G2 (s.trans sf) (r.step sf rfl l) q
theorem fnAt4 {P : Program} {w : World} {K : PySem.W.Frag} {mg : Str → Option Value} {base : Heap} {k : Nat} {c : Cn} {x qual : Str} {params : Arguments} {body : List Stmt} {scope : Scope} {kws : List (Str × V)} {f : Addr} {fd : FuncData} {ps : List Str} {sp : Sp3} (F : FunD K x qual params body scope [] kws f fd) (hb : Binds K fd ps []) (S : FnScope c.N ps scope) (hnm : c.nm = scope.names)
    (g : GOk c k P w K mg base) (B : List (CS c)) (ch : chkSs B body = true) (len : ∀ ds G Q E, sp ds G Q E → ds.length = ps.length)
    (h : ∀ ds G Q E, sp ds G Q E → seqT (B.map (·.t)) { nx := fun _ G' => FG Q .non G', rt := FG Q, xe := FX E } (start3 c.N ds) G) (hz : c.hx = none ∧ c.gd = false ∧ c.lm = none := by exact ⟨rfl, rfl, rfl⟩) : FnAt P w K mg base c.T (k + 2) f sp := by
  refine ⟨fd, ps, ?_, hb⟩
  refine FunD.ok (k := k + 1) F S (fun vs H Q E q => ?_) (fun cdv A outer s H vs Q E hr q => ?_)
  · obtain ⟨ds, G, Q3, E3, r, _, q, _⟩ := q
    rw [r.length]
    exact len _ _ _ _ q
  · obtain ⟨ds, G, Q3, E3, r, g0, q, kk, kx⟩ := q
    have XO : XOk c k E (cxOf (L2.CX P w) P w K mg base c.N qual scope f cdv A outer s H E) := {
      tk := takes_of rfl rfl rfl (E₁ := fun e' s'' => L2.CX P w outer H s E e' s'') rfl
      rmH := ⟨hr.dp, hr.un⟩
      cold := fun _ => ⟨hr.hd, rfl⟩
      hx := fun a C dd z => by rw [hz.1] at z; cases z
      gd := fun z => by rw [hz.2.1] at z; cases z
      lm := fun a C z => by rw [hz.2.2] at z; cases z
      nd := S.nd
      N := rfl
      nm := hnm.symm
      kind := S.kind
      cel := fun _ _ => rfl
      po := passes_of (K := fun e s'' => L2.CX P w outer H s E e s'') (E₁ := fun e' s'' => L2.CX P w outer H s E e' s'') rfl
      g := g }
    refine ⟨_, seq_ok XO ch, ?_⟩
    refine ⟨start3 c.N ds, G, _, rel_start r, g0, h _ _ _ _ q, ⟨fun σ' H' τ' G' s1 _ q' => kk.fg _ _ _ _ s1 .non q', fun _ _ _ _ _ _ z => z.elim, fun _ _ _ _ _ _ z => z.elim, kk.fg, kx.fx⟩⟩
end L3
set_option Elab.async false
set_option linter.all false
set_option maxRecDepth 100000
set_option maxHeartbeats 1000000
namespace L3
open PySem PySem.Spec PyProof.Rows L2 LamX
/-! ### a list or a tuple, walked -/
theorem pi_seq {X : Cx} {tg l : Expr} {tl : TE} (hl : PE X l tl) : PI X tg l (fun σ H R => tl σ H fun x H1 => ∃ a, x = .ref a ∧ (((∃ xs, SqL X.K H1 a xs) ∧ R (Itl X.K a) H1) ∨ ((∃ xs, SqT X.K H1 a xs) ∧ R (Itt X.K a) H1))) := by
  refine ⟨fun pins s σ H R I h => ?_⟩
  refine thn (hl.run pins s σ H _ I h) fun v s1 ⟨x, H1, I1, r1, q1⟩ => ?_
  obtain ⟨a, e, q⟩ := q1
  subst e
  cases r1
  rcases q with ⟨⟨xs, hq⟩, q⟩ | ⟨⟨xs, hq⟩, q⟩
  · obtain ⟨its, rv, p, hz⟩ := I1.list hq
    refine wpAny_pyIter_list p.isList ?_
    refine ⟨s1.heap.objs.size, [s1.heap.objs.size], _, _, H1, rfl, I1.kept (t' := s1.toks) fun b o e => Heap.get?_push_of_some _ e, turn_list a _, ⟨_, Heap.get?_push_size _ rfl, rfl, rfl⟩, fun b hb => ?_, q⟩
    have e : b = s1.heap.objs.size := by simpa using hb
    subst e
    exact I1.fpOk (Nat.le_refl _) (I1.hok.fresh (Nat.le_refl _))
  · obtain ⟨its, rv, p, hz⟩ := I1.tuple hq
    refine wpAny_pyIter_tuple (show s1.heap.IsTuple a its.toArray from p) ?_
    refine ⟨s1.heap.objs.size, [s1.heap.objs.size], _, _, H1, rfl, I1.kept (t' := s1.toks) fun b o e => Heap.get?_push_of_some _ e, turn_tuple a _, ⟨_, Heap.get?_push_size _ rfl, rfl, rfl⟩, fun b hb => ?_, q⟩
    have e : b = s1.heap.objs.size := by simpa using hb
    subst e
    exact I1.fpOk (Nat.le_refl _) (I1.hok.fresh (Nat.le_refl _))
theorem tup_it {w : Wd} {H : Hp} {G : Gp} {a : Addr} {l : List D} (r : Rep w.K H G (.ref a) (.tup l)) : (∃ xs, SqT w.K H a xs) ∧ ItOk w (Itt w.K a) H G ⟨l, fun _ => True⟩ := by
  have k : ∀ H' G', Step w H G H' G' → ∃ xs, SqT w.K H' a xs ∧ Reps w.K H' G' xs l := fun H' G' s => by
    have r2 := r.step s
    cases r2 with
    | @tup _ ys _ t2 q3 => exact ⟨ys, t2.sq, q3⟩
  refine ⟨?_, fun i H' G' s kp hi => ?_, fun i H' G' s kp hi => ?_, fun i H' G' x H'' d s kp hd y => ?_⟩
  · cases r with
    | @tup _ ys _ t2 q3 => exact ⟨ys, t2.sq⟩
  · obtain ⟨ys, h1, h2⟩ := k H' G' s
    have hl : i < ys.length := by rw [h2.length]; exact hi
    exact ⟨ys, ys[i], h1, List.getElem?_eq_getElem hl⟩
  · obtain ⟨ys, h1, h2⟩ := k H' G' s
    exact ⟨ys, h1, by rw [h2.length]; exact hi⟩
  · obtain ⟨ys, h1, h2⟩ := k H' G' s
    obtain ⟨rfl, y⟩ := y
    obtain ⟨v, hv, rv⟩ := h2.get hd
    have z := y ys h1
    rw [hv] at z
    have z := Option.some.inj z
    subst z
    exact ⟨Step.refl s.rel, rv⟩
/-- a list or a tuple -/
def srcS (G : Gp) : D → Option Src
  | .tup l => some ⟨l, fun _ => True⟩
  | d => srcL G d
def itQ (t : TE3) : TI3 := fun τ G R E => t τ G (fun d G1 => match srcS G1 d with
  | some S => R S G1
  | none => False) E
def iSeq {c : Cn} (a : CE c) : CI c where
  t := itQ a.t
  chk := fun _ e => a.chk e
  ok := fun {k E X tg e} h ch => by
    refine PI.imp (pi_seq (a.ok h ch)) fun σ H R q => ?_
    obtain ⟨τ, G, R3, E3, rs, g, q, kk, kx⟩ := q
    refine ⟨τ, G, _, E3, rs, g, q, fun v H1 d G1 s1 q1 h1 => ?_, kx⟩
    dsimp only at h1
    split at h1
    · rename_i S e
      unfold srcS at e
      split at e
      · cases e
        cases q1 with
        | @tup a xs l t q1 =>
          obtain ⟨i1, i2⟩ := tup_it (w := ⟨X.K, c.T⟩) (Rep.tup t q1)
          exact ⟨a, rfl, .inr ⟨i1, kk _ _ _ _ s1 i2 h1⟩⟩
      · obtain ⟨a, rfl, h2, kp, io, _⟩ := src_ok s1.rel q1 e
        exact ⟨a, rfl, .inl ⟨h2, kk _ _ _ S s1 io h1⟩⟩
    · exact h1.elim
/-! ### the forms one uses -/
/-- a comprehension whose element is told by a map, the rest left as it is -/
theorem lc_map {keep : Gp → Prop} {p : Addr} {tg : Tg} {te : TE3} {τ : S3} {Q : List D → Gp → Prop} {G : Gp} (f : D → D) (hk : ∀ acc, keep (updG G p (.lst acc))) : ∀ {l : List D} {acc : List D}, acc.length + l.length ≤ sizeLine →
    (∀ d ∈ l, ∀ acc (Q' : K3), Q' (f d) (updG G p (.lst acc)) → tg.t d τ (updG G p (.lst acc)) fun τ2 G2 => te τ2 G2 Q' (fun _ _ _ => False)) →
    Q (acc ++ l.map f) (updG G p (.lst (acc ++ l.map f))) → lcGo keep p tg yesT te τ Q l acc (updG G p (.lst acc))
  | [], acc, _, _, q => by
    have q' : Q acc (updG G p (.lst acc)) := by simpa using q
    exact q'
  | d :: r, acc, hl, h, q => by
    have h1 := h d (List.mem_cons_self ..) acc (fun y G4 => G4 p = some (.lst acc) ∧ acc.length < sizeLine ∧ keep (updG G4 p (.lst (acc ++ [y]))) ∧ lcGo keep p tg yesT te τ Q r (acc ++ [y]) (updG G4 p (.lst (acc ++ [y])))) ?_
    · unfold lcGo
      cases tg with
      | nm i => exact h1
      | tup is =>
        cases d with
        | tup l => exact h1
        | _ => exact h1.elim
    · refine ⟨updG_same, by simp at hl; omega, ?_, ?_⟩
      · rw [updG_updG]; exact hk _
      · rw [updG_updG]
        refine lc_map f hk (by simp at hl ⊢; omega) (fun d hd => h d (List.mem_cons_of_mem _ hd)) ?_
        simpa using q
theorem while_by {t : TT3} {b : List TS3} {D : En} {τ : S3} {G : Gp} (I : Nat → S3 → Gp → Prop) (n : Nat)
    (step : ∀ n τ G (N : S3 → Gp → Prop), I n τ G → (∀ m τ' G', m < n → I m τ' G' → N τ' G') → t τ G (fun k G1 => if k = true then seqT b { D with nx := N, ct := N, bk := D.nx } τ G1 else D.nx τ G1) D.xe)
    (h : I n τ G) : whileT t b D τ G := by
  have main : ∀ n m τ G, m < n → I m τ G → whileGo t (seqT b) D n τ G := by
    intro n
    induction n with
    | zero => intro m τ G hm; omega
    | succ n ih =>
      intro m τ G hm h
      exact step m τ G _ h fun m' τ' G' hm' h' => ih m' τ' G' (by omega) h'
  exact ⟨n + 1, main _ _ _ _ (Nat.lt_succ_self n) h⟩
/-- I: what holds ahead of the items that are left -/
theorem for_by {keep : Gp → Prop} {tg : Tg} {b : TS3} {E : En} (I : List D → S3 → Gp → Prop) (hk : ∀ l τ G, I l τ G → keep G)
    (step : ∀ d r τ G (N : S3 → Gp → Prop), I (d :: r) τ G → (∀ τ' G', I r τ' G' → N τ' G') → tg.t d τ G fun τ1 G1 => b { E with nx := N, ct := N, bk := E.nx } τ1 G1)
    (fin : ∀ τ G, I [] τ G → E.nx τ G) : ∀ l {τ G}, I l τ G → forGo keep tg b E l τ G
  | [], _, _, h => fin _ _ h
  | d :: r, _, _, h => step d r _ _ _ h fun τ' G' h' => ⟨hk r τ' G' h', for_by I hk step fin r h'⟩
/-- what holds between the first statement and the rest -/
theorem seq_mid {c : Cn} {l r : List (CS c)} {a : CS c} {D : En} {τ : S3} {G : Gp} (e : l = a :: r) (M : S3 → Gp → Prop) (h1 : ∀ N : S3 → Gp → Prop, (∀ τ1 G1, M τ1 G1 → N τ1 G1) → a.t { D with nx := N } τ G)
    (h2 : ∀ τ1 G1, M τ1 G1 → seqT (r.map (·.t)) D τ1 G1) : seqT (l.map (·.t)) D τ G := by
  subst e
  exact h1 _ h2
/-- .. of readings -/
theorem seqT_mid {t : TS3} {r : List TS3} {D : En} {τ : S3} {G : Gp} (M : S3 → Gp → Prop) (h1 : ∀ N : S3 → Gp → Prop, (∀ τ1 G1, M τ1 G1 → N τ1 G1) → t { D with nx := N } τ G)
    (h2 : ∀ τ1 G1, M τ1 G1 → seqT r D τ1 G1) : seqT (t :: r) D τ G := h1 _ h2
end L3
set_option Elab.async false
set_option linter.all false
set_option maxRecDepth 100000
set_option maxHeartbeats 1000000
namespace L3
open PySem PySem.Spec PyProof.Rows L2 LamX
/-- a value's kind, where isinstance may be asked -/
def kn (cs : List Addr) (G : Gp) (d : D) : Option String := match kindB G d with
  | some k => some k
  | none => match clsOf G d with
    | some C => if C ∈ cs then some "own" else none
    | none => none
def six (n : String) : Bool := ["bool", "int", "str", "list", "tuple", "dict"].contains n
theorem isi_one_kn {cs : List Addr} {G : Gp} {d : D} {k n : String} (h : kn cs G d = some k) (hn : six n = true) : isiOne cs G d n = some (isiB k n) := by
  unfold kn at h
  unfold isiOne
  unfold six at hn
  rw [if_pos hn]
  split at h
  · rename_i k' e
    cases h
    first | rfl | rw [e]
  · rename_i e
    try rw [e]
    split at h
    · rename_i C eC
      try rw [eC]
      try dsimp only
      split at h
      · rename_i hC
        cases h
        try rw [if_pos hC]
        have : isiB "own" n = false := by
          have hm : n ∈ ["bool", "int", "str", "list", "tuple", "dict"] := List.contains_iff_mem.mp hn
          have all : ["bool", "int", "str", "list", "tuple", "dict"].all (fun n => !isiB "own" n) = true := by decide
          have := List.all_eq_true.mp all n hm
          simpa using this
        rw [this]
      · cases h
    · cases h
theorem isi1 {cs : List Addr} {G : Gp} {d : D} {k n : String} {Q : K3} (h : kn cs G d = some k) (q : Q (.bl (isiB k n)) G) (hn : six n = true := by rfl) : isiD cs [d, .ty n] G Q := by
  unfold isiD
  dsimp only
  rw [isi_one_kn h hn]
  exact q
theorem isi2 {cs : List Addr} {G : Gp} {d : D} {k n m : String} {Q : K3} (h : kn cs G d = some k) (q : Q (.bl (isiB k n || isiB k m)) G) (hn : six n = true := by rfl) (hm : six m = true := by rfl) : isiD cs [d, .tup [.ty n, .ty m]] G Q := by
  unfold isiD
  dsimp only
  rw [isi_one_kn h hn, isi_one_kn h hm]
  exact q
/-- plain data: what it is depends on no object -/
def knP : D → Option String
  | .non => some "NoneType"
  | .bl _ => some "bool"
  | .int _ => some "int"
  | .str _ => some "str"
  | .tup _ => some "tuple"
  | .lst _ => some "list"
  | .dct _ _ => some "dict"
  | _ => none
theorem kn_of {cs : List Addr} {G : Gp} {d : D} {k : String} (h : knP d = some k) : kn cs G d = some k := by
  unfold knP at h
  split at h
  all_goals first | (cases h; rfl) | (cases h)
theorem tru_bl {G : Gp} {b : Bool} : truD G (.bl b) = some b := rfl
theorem ite_b {b : Bool} {P R : Prop} (h1 : b = true → P) (h2 : b = false → R) : if b = true then P else R := by
  cases b
  · rw [if_neg (by decide)]; exact h2 rfl
  · rw [if_pos rfl]; exact h1 rfl
theorem ite_t {b : Bool} {P R : Prop} (hb : b = true) (h : P) : if b = true then P else R := by rw [if_pos hb]; exact h
theorem ite_f {b : Bool} {P R : Prop} (hb : b = false) (h : R) : if b = true then P else R := by rw [if_neg (by rw [hb]; decide)]; exact h
end L3
set_option Elab.async false
set_option linter.all false
set_option maxRecDepth 100000
set_option maxHeartbeats 1000000
namespace L3
open PySem PySem.Spec PyProof.Rows L2 LamX
/-! ### texts as lists of signs -/
theorem mkS_inj {a b : List Nat} (h : mkS a = mkS b) : a = b := by
  have := congrArg (fun x : Str => x.cps.toList) h
  exact this
theorem mkS_app (a b : List Nat) : mkS a ++ mkS b = mkS (a ++ b) := by
  show (⟨a.toArray ++ b.toArray⟩ : Str) = _
  simp [mkS]
theorem mkS_of (x : Str) : x = mkS x.cps.toList := rfl
def SzOk (l : List Nat) : Prop := l.length ≤ sizeLine
def inL (l : List Nat) (c : Nat) : Bool := decide (c ∈ l)
theorem atI_nat {α : Type} {l : List α} {n : Nat} {c : α} (h : l[n]? = some c) : atI l (n : Int) = some c := by
  have hl : n < l.length := by
    by_cases hn : n < l.length
    · exact hn
    · rw [List.getElem?_eq_none (by omega)] at h; cases h
  have e : ixN l.length (n : Int) = some n := by
    unfold ixN
    rw [if_pos (by omega)]
    simp [hl]
  unfold atI
  rw [e]
  exact h
theorem atI_last {α : Type} {l : List α} {c : α} (h : l.getLast? = some c) : atI l (-1) = some c := by
  have hl : l ≠ [] := by intro z; rw [z] at h; cases h
  have hp : 0 < l.length := List.length_pos_iff.mpr hl
  have e : ixN l.length (-1) = some (l.length - 1) := by
    unfold ixN
    rw [if_neg (by decide), if_pos (by omega)]
    congr 1
    omega
  unfold atI
  rw [e]
  show l[l.length - 1]? = some c
  rw [← List.getLast?_eq_getElem?]
  exact h
section
variable {G : Gp} {Q : K3}
theorem z_len_str {t : List Nat} (ht : SzOk t) (q : Q (.int (t.length : Nat)) G) : lenD [.str (mkS t)] G Q := by
  show match lenOf G (.str (mkS t)) with
    | some n => Q (.int n) G
    | none => False
  have e : lenOf G (.str (mkS t)) = some t.length := if_pos ht
  rw [e]
  exact q
theorem z_len_lst {d : D} {l : List D} (h : asL G d = some l) (q : Q (.int (l.length : Nat)) G) : lenD [d] G Q := by
  show match lenOf G d with
    | some n => Q (.int n) G
    | none => False
  have e : lenOf G d = some l.length := by
    unfold asL at h
    split at h
    · cases h; rfl
    · split at h
      · rename_i a _ _ e
        cases h
        show (match G a with
          | some (.lst l) => some l.length
          | _ => none) = _
        rw [e]
      · cases h
    · cases h
  rw [e]
  exact q
theorem z_ix_str {t : List Nat} {i c : Nat} (ht : SzOk t) (h : t[i]? = some c) (q : Q (.str (mkS [c])) G) : ixD (.str (mkS t)) (.int (i : Nat)) G Q := by
  show match atI (mkS t).cps.toList (i : Int) with
    | some c => (mkS t).length ≤ sizeLine ∧ Q (.str ⟨#[c]⟩) G
    | none => False
  have e : atI (mkS t).cps.toList (i : Int) = some c := atI_nat (l := t) h
  rw [e]
  exact ⟨ht, q⟩
theorem z_ix_tup {l : List D} {i : Nat} {d : D} (h : l[i]? = some d) (q : Q d G) : ixD (.tup l) (.int (i : Nat)) G Q := by
  show match atI l (i : Int) with
    | some d => Q d G
    | none => False
  rw [atI_nat h]
  exact q
theorem ixD_lst {x : D} {l : List D} {i : Int} (h : asL G x = some l) : ixD x (.int i) G Q = match atI l i with
    | some d => Q d G
    | none => False := by
  unfold asL at h
  split at h
  · cases h; rfl
  · rename_i a
    split at h
    · rename_i e
      cases h
      have ea : asL G (.obj a) = some l := by
        show (match G a with
          | some (.lst l) => some l
          | _ => none) = _
        rw [e]
      show (match asL G (.obj a) with
        | some l => (match atI l i with
          | some d => Q d G
          | none => False)
        | none => False) = _
      rw [ea]
    · cases h
  · cases h
theorem z_ix_lst {x : D} {l : List D} {i : Nat} {d : D} (h : asL G x = some l) (hi : l[i]? = some d) (q : Q d G) : ixD x (.int (i : Nat)) G Q := by
  rw [ixD_lst h, atI_nat hi]
  exact q
theorem z_ix_last {x : D} {l : List D} {d : D} (h : asL G x = some l) (hi : l.getLast? = some d) (q : Q d G) : ixD x (.int (-1)) G Q := by
  rw [ixD_lst h, atI_last hi]
  exact q
theorem z_in {s : List Nat} {c : Nat} (q : Q (.bl (inL s c)) G) : inD false (.str (mkS [c])) (.str (mkS s)) G Q := ⟨rfl, q⟩
theorem z_notin {s : List Nat} {c : Nat} (q : Q (.bl (!inL s c)) G) : inD true (.str (mkS [c])) (.str (mkS s)) G Q := ⟨rfl, q⟩
theorem dec_mkS (a b : List Nat) : decide (mkS a = mkS b) = decide (a = b) := by
  congr 1
  exact propext ⟨mkS_inj, fun h => by rw [h]⟩
theorem z_eq_str {a b : List Nat} (q : Q (.bl (decide (a = b))) G) : eqD false (.str (mkS a)) (.str (mkS b)) G Q := by
  show Q (.bl (decide (mkS a = mkS b))) G
  rw [dec_mkS]; exact q
theorem z_ne_str {a b : List Nat} (q : Q (.bl (!decide (a = b))) G) : eqD true (.str (mkS a)) (.str (mkS b)) G Q := by
  show Q (.bl (!decide (mkS a = mkS b))) G
  rw [dec_mkS]; exact q
theorem z_add_str {m : Bool} {a b : List Nat} (h : SzOk (a ++ b)) (q : Q (.str (mkS (a ++ b))) G) : addD m (.str (mkS a)) (.str (mkS b)) G Q := by
  refine ⟨?_, ?_⟩
  · show a.length + b.length ≤ sizeLine
    unfold SzOk at h
    rw [List.length_append] at h
    exact h
  · rw [mkS_app]; exact q
theorem z_append {p : Addr} {l : List D} {d : D} (h : G p = some (.lst l)) (hl : l.length < sizeLine) (q : Q .non (updG G p (.lst (l ++ [d])))) : appendD (.obj p) [d] G Q := by
  show match G p with
    | some (.lst l) => l.length < sizeLine ∧ Q .non (updG G p (.lst (l ++ [d])))
    | _ => False
  rw [h]
  exact ⟨hl, q⟩
theorem z_extend {p : Addr} {l m : List D} {d : D} (h : G p = some (.lst l)) (hd : asL G d = some m) (hl : l.length + m.length ≤ sizeLine) (q : Q .non (updG G p (.lst (l ++ m)))) : extendD (.obj p) [d] G Q := by
  show match G p, asL G d with
    | some (.lst l), some m => l.length + m.length ≤ sizeLine ∧ Q .non (updG G p (.lst (l ++ m)))
    | _, _ => False
  rw [h, hd]
  exact ⟨hl, q⟩
theorem z_pop {p : Addr} {l : List D} {d : D} (h : G p = some (.lst (l ++ [d]))) (q : Q d (updG G p (.lst l))) : popD (.obj p) [] G Q := by
  show match G p with
    | some (.lst l) => (match l.getLast? with
      | some y => Q y (updG G p (.lst l.dropLast))
      | none => False)
    | _ => False
  rw [h]
  simp only [List.getLast?_append, List.getLast?_singleton, Option.some_or, List.dropLast_concat]
  exact q
theorem asL_obj {p : Addr} {l : List D} (h : G p = some (.lst l)) : asL G (.obj p) = some l := by
  show (match G p with
    | some (.lst l) => some l
    | _ => none) = _
  rw [h]
theorem cut_mk (l : List Nat) (lo hi : Option Int) : (cutL (mkS l).cps.toList lo hi) = cutL l lo hi := rfl
/-- l[i : j], 0 ≤ i ≤ j -/
theorem cut_nat {α : Type} (l : List α) (i j : Nat) : cutL l (some (i : Int)) (some (j : Int)) = (l.drop i).take (j - i) := by
  unfold cutL
  rw [HT.sIx_nat, HT.sIx_nat]
  apply List.ext_getElem?
  intro k
  rw [List.getElem?_take, List.getElem?_take, List.getElem?_drop, List.getElem?_drop]
  by_cases h1 : k < j - i
  · rw [if_pos h1]
    by_cases h2 : i + k < l.length
    · rw [if_pos (by omega), Nat.min_eq_left (by omega)]
    · rw [List.getElem?_eq_none (by omega : l.length ≤ i + k)]
      split
      · rw [List.getElem?_eq_none (by omega)]
      · rfl
  · rw [if_neg h1, if_neg (by omega)]
theorem cut_to {α : Type} (l : List α) (j : Nat) : cutL l none (some (j : Int)) = l.take j := by
  unfold cutL
  rw [HT.sIx_nat, HT.sIx_none, List.drop_zero]
  by_cases h2 : j ≤ l.length
  · rw [Nat.min_eq_left h2]; rfl
  · rw [Nat.min_eq_right (by omega), Nat.sub_zero, List.take_of_length_le (Nat.le_refl _), List.take_of_length_le (by omega)]
theorem cut_from {α : Type} (l : List α) (i : Nat) : cutL l (some (i : Int)) none = l.drop i := by
  unfold cutL
  rw [HT.sIx_nat, HT.sIx_none]
  by_cases h : i ≤ l.length
  · rw [Nat.min_eq_left h, List.take_of_length_le (by rw [List.length_drop]; exact Nat.le_refl _)]
  · rw [Nat.min_eq_right (by omega), List.drop_eq_nil_of_le (Nat.le_refl _), List.drop_eq_nil_of_le (by omega)]
    simp
theorem z_sl_str {m : Bool} {t : List Nat} {lo hi : Option Int} (ht : SzOk t) (q : Q (.str (mkS (cutL t lo hi))) G) : slD m (.str (mkS t)) lo hi G Q := ⟨ht, q⟩
theorem slD_lst {m : Bool} {x : D} {l : List D} {lo hi : Option Int} (h : asL G x = some l) (q : mkL m (cutL l lo hi) G Q) : slD m x lo hi G Q := by
  cases x <;> first | (cases h; done) | skip
  · rename_i a
    show match asL G (.obj a) with
      | some l => mkL m (cutL l lo hi) G Q
      | none => False
    rw [h]
    exact q
  · cases h
    exact q
theorem z_sl_lst {x : D} {l : List D} {lo hi : Option Int} (h : asL G x = some l) (q : Q (.lst (cutL l lo hi)) G) : slD false x lo hi G Q := slD_lst h q
theorem z_mkT {l : List D} (h : ∀ p, G p = none → Q (.obj p) (updG G p (.lst l))) : mkL true l G Q := by
  unfold mkL
  rw [if_pos rfl]
  exact h
theorem z_frz {p : Addr} {l : List D} (h : G p = some (.lst l)) (q : Q (.lst l) (delG G p)) : frzD (.obj p) G Q := by
  show match G p with
    | some (.lst l) => Q (.lst l) (delG G p)
    | some (.ins C fs) => Q (.ins C (fs.map (·.1)) (fs.map (·.2))) (delG G p)
    | _ => False
  rw [h]
  exact q
theorem z_addI {m : Bool} {i j : Int} (q : Q (.int (i + j)) G) : addD m (.int i) (.int j) G Q := q
theorem z_subI {i j : Int} (q : Q (.int (i - j)) G) : subD (.int i) (.int j) G Q := q
theorem z_ord {f : Int → Int → Bool} {i j : Int} (q : Q (.bl (f i j)) G) : ordD f (.int i) (.int j) G Q := q
theorem z_eqI {i j : Int} (q : Q (.bl (decide (i = j))) G) : eqD false (.int i) (.int j) G Q := q
theorem z_neI {i j : Int} (q : Q (.bl (!decide (i = j))) G) : eqD true (.int i) (.int j) G Q := q
theorem z_addL {a b : D} {l r : List D} (ha : asL G a = some l) (hb : asL G b = some r) (hl : l.length + r.length ≤ sizeLine) (q : Q (.lst (l ++ r)) G) : addD false a b G Q := by
  have main : (match asL G a, asL G b with
    | some a, some b => a.length + b.length ≤ sizeLine ∧ mkL false (a ++ b) G Q
    | _, _ => False) := by
    rw [ha, hb]
    exact ⟨hl, q⟩
  cases a <;> cases b <;> first | exact main | (cases ha; done) | (cases hb; done)
theorem z_all {bs : List Bool} (q : Q (.bl (bs.all id)) G) : allD [.lst (bs.map D.bl)] G Q := by
  show match blsOf (bs.map D.bl) with
    | some bs => Q (.bl (bs.all id)) G
    | none => False
  rw [blsOf_map]
  exact q
theorem eqD_lst {neg : Bool} {x y : D} {l r : List D} (hx : asL G x = some l) (hy : asL G y = some r) (q : (∃ p q, PyOf G x p ∧ PyOf G y q ∧ SeqAt.shaped p = true ∧ SeqAt.shaped q = true ∧ Q (.bl (if neg then !PyData.eqv p q else PyData.eqv p q)) G) ∨
      ∃ l r, asL G x = some l ∧ asL G y = some r ∧ l.length ≠ r.length ∧ Q (.bl neg) G) : eqD neg x y G Q := by
  cases x <;> cases y <;> first | exact q | (cases hx; done) | (cases hy; done)
theorem z_neNil {x : D} {l : List D} (h : asL G x = some l) (q : Q (.bl (!l.isEmpty)) G) : eqD true x (.lst []) G Q := by
  refine eqD_lst h rfl ?_
  cases l with
  | nil => exact .inl ⟨.list [], .list [], .lst h .nil, .lst rfl .nil, by decide +kernel, by decide +kernel, q⟩
  | cons a r => exact .inr ⟨_, _, h, rfl, by simp, q⟩
theorem z_eqNil {x : D} {l : List D} (h : asL G x = some l) (q : Q (.bl l.isEmpty) G) : eqD false x (.lst []) G Q := by
  refine eqD_lst h rfl ?_
  cases l with
  | nil => exact .inl ⟨.list [], .list [], .lst h .nil, .lst rfl .nil, by decide +kernel, by decide +kernel, q⟩
  | cons a r => exact .inr ⟨_, _, h, rfl, by simp, q⟩
theorem z_mkF {l : List D} (q : Q (.lst l) G) : mkL false l G Q := by
  unfold mkL
  rw [if_neg (by decide)]
  exact q
theorem z_neg {i : Int} (q : Q (.int (-i)) G) : negD (.int i) G Q := q
end
end L3
set_option Elab.async false
set_option linter.all false
set_option maxRecDepth 100000
set_option maxHeartbeats 1000000
namespace L3
open PySem PySem.Spec PyProof.Rows L2 LamX
/-! ### down a range -/
def dnItems (hi : Int) (n : Nat) : List D := (List.range n).map fun i => .int (hi - (i : Nat))
def itDn (t u : TE3) : TI3 := fun τ G R E => t τ G (fun d G1 => u τ G1 (fun d2 G2 => match d, d2 with
  | .int i, .int j => (-(2 ^ 62) ≤ i ∧ i < 2 ^ 62 ∧ -(2 ^ 62) ≤ j ∧ j < 2 ^ 62) ∧ R ⟨dnItems i (i - j).toNat, fun _ => True⟩ G2
  | _, _ => False) E) E
theorem dn_ok {w : Wd} {H : Hp} {G : Gp} {hi : Int} {n : Nat} : ItOk w (Itc hi (-1) n) H G ⟨dnItems hi n, fun _ => True⟩ := by
  refine ⟨fun i H' G' s kp hi' => ?_, fun i H' G' s kp hi' => ?_, fun i H' G' v H'' d s kp hd y => ?_⟩
  · show i < n
    simpa [dnItems] using hi'
  · show n ≤ i
    simpa [dnItems] using hi'
  · obtain ⟨rfl, rfl⟩ := y
    unfold dnItems at hd
    rw [List.getElem?_map, List.getElem?_range] at hd
    · cases hd
      have e : hi + (i : Nat) * -1 = hi - (i : Nat) := by omega
      rw [e]
      exact ⟨Step.refl s.rel, .int _⟩
    · by_cases hi' : i < n
      · exact hi'
      · rw [List.getElem?_eq_none (by simpa using hi')] at hd
        cases hd
/-- over range(m, n, -1) -/
def iRngDn {c : Cn} (a b : CE c) : CI c where
  t := itDn a.t b.t
  chk := fun _ e => match e with
    | .Call (.Name x _) [e1, e2, .UnaryOp .USub (.Constant (.int 1) _ _) _] [] _ => decide (x = "range") && c.bt.contains x && glB c.nm x && chkAs [a, b] [e1, e2]
    | _ => false
  ok := fun {k E X tg e} h ch => by
    split at ch
    · rename_i x px e1 e2 k1 p1 p2 pos
      simp only [Bool.and_eq_true, decide_eq_true_eq] at ch
      obtain ⟨⟨⟨rfl, c1⟩, c2⟩, c3⟩ := ch
      have hm := h.g.bt _ (List.contains_iff_mem.mp c1)
      have c3' := c3
      simp only [chkAs, Bool.and_eq_true] at c3
      have hn : PE X (.UnaryOp .USub (.Constant (.int 1) k1 p1) p2) (LE ⟨X.K, c.T⟩ E (unE negD (cE (.int 1)))) := (eNeg (eInt 1) : CE c).ok h (by rfl)
      have hpl : ∀ {pos : Pos}, (backTo pos (starEach [e2, .UnaryOp .USub (.Constant (.int 1) k1 p1) p2] X.env)).any (·.1) = false := by
        intro pos
        rw [star_of c3.2.1.1]
        rfl
      refine PI.imp (pi_range3 (gl_of h c2) hm (pa_cons (a.ok h c3.1.2) (pa_cons (b.ok h c3.2.1.2) (pa_cons hn pa_nil rfl) (star_of c3.2.1.1)) (star_of c3.1.1)) (star_of c3.1.1) hpl) fun σ H R q => ?_
      obtain ⟨τ, G, R3, E3, rs, g, q, kk, kx⟩ := q
      refine ⟨τ, G, _, E3, rs, g, q, fun v H1 d G1 s1 q1 h1 => ?_, kx⟩
      refine ⟨τ, G1, _, E3, rs.step s1, s1.rel, h1, fun v2 H2 d2 G2 s2 q2 h2 => ?_, kx.step s1⟩
      dsimp only at h2
      split at h2
      · rename_i i j
        refine ⟨τ, G2, fun d G3 => d = .int (-1) ∧ G3 = G2, E3, (rs.step s1).step s2, s2.rel, ⟨rfl, rfl⟩, fun v3 H3 d3 G3 s3 q3 h3 => ?_, (kx.step s1).step s2⟩
        obtain ⟨rfl, rfl⟩ := h3
        cases q1; cases q2; cases q3
        obtain ⟨⟨h1, h2, h3, h4⟩, h5⟩ := h2
        exact ⟨_, _, _, _, rfl, RgC.neg h1 h2 h3 h4, kk _ _ _ _ ((s1.trans s2).trans s3) dn_ok h5⟩
      · exact h2.elim
    · cases ch
/-- {}: a dict that nobody changes -/
def eDict0 {c : Cn} : CE c where
  t := cE (.dct [] [])
  chk := fun
    | .Dict [] [] _ => true
    | _ => false
  ok := fun {k E X e} h ch => by
    split at ch
    · refine PE.imp pe_dnewK fun σ H Q q => ?_
      obtain ⟨τ, G, Q3, E3, rs, g, q, kk, kx⟩ := q
      intro p hp
      exact kk _ _ _ _ (Step.fresh g hp) (.dct (xs := []) (g.free hp) upd_same rfl .nil) q
    · cases ch
theorem z_len_tup {l : List D} {G : Gp} {Q : K3} (q : Q (.int (l.length : Nat)) G) : lenD [.tup l] G Q := q
theorem joinL_nil : ∀ l : List (List Nat), TL.joinL [] l = l.flatten
  | [] => rfl
  | [p] => by simp [TL.joinL]
  | p :: q :: r => by
    show p ++ ([] ++ TL.joinL [] (q :: r)) = _
    rw [joinL_nil (q :: r)]
    rfl
/-- s.join of texts -/
theorem z_join {s : List Nat} {ts : List (List Nat)} {x : D} {G : Gp} {Q : K3} (h : seqOf G x = some (ts.map fun t => .str (mkS t))) (hl : (TL.joinL s ts).length ≤ 16777216) (hz : (ts.map List.length).sum + ts.length * s.length ≤ 16777216) (q : Q (.str (mkS (TL.joinL s ts))) G) : joinD (.str (mkS s)) [x] G Q := by
  have e2 : strsOf (ts.map fun t => D.str (mkS t)) = some (ts.map mkS) := by
    have : (ts.map fun t => D.str (mkS t)) = (ts.map mkS).map D.str := by rw [List.map_map]; rfl
    rw [this, strsOf_map]
  show match seqOf G x with
    | some l => (match strsOf l with
      | some ys => (ys.map (·.length)).sum + ys.length * (mkS s).length ≤ 16777216 ∧ Q (.str (Txt.join (mkS s) ys)) G
      | none => False)
    | none => False
  rw [h]
  show match strsOf (ts.map fun t => D.str (mkS t)) with
      | some ys => (ys.map (·.length)).sum + ys.length * (mkS s).length ≤ 16777216 ∧ Q (.str (Txt.join (mkS s) ys)) G
      | none => False
  rw [e2]
  have ej : Txt.join (mkS s) (ts.map mkS) = mkS (TL.joinL s ts) := SX.join_S s ts
  refine ⟨?_, by rw [ej]; exact q⟩
  rw [List.map_map, List.length_map]
  exact hz
theorem seqOf_obj {p : Addr} {l : List D} {G : Gp} (h : G p = some (.lst l)) : seqOf G (.obj p) = some l := by
  show (match G p with
    | some (.lst l) => some l
    | some (.scr l) => some l
    | _ => none) = _
  rw [h]
end L3
set_option Elab.async false
set_option linter.all false
set_option maxRecDepth 100000
set_option maxHeartbeats 2000000
namespace PySem
open Sem (wp)
open AutoSeq1 (wpAny_loadPart')
/-! ### enumerate of a tuple -/
theorem l3_enumerate_newT (l : Addr) (items : Array Value) (n : Nat) (dct : Option Addr) (sl : Array (Option Value)) :
    Meets (Builtin.«enumerate.__new__» ⟨[.type "enumerate", .ref l], []⟩) (fun _ R s => s.heap.get? l = some { cls := .type "tuple", dict := dct, data := .seq items n, slots := sl } ∧
      R (.ok (.ret (.ref (s.heap.push { cls := .type "tuple_iterator", data := .fields #[.ref l, .int 0 0] }).objs.size)))
        { s with heap := (s.heap.push { cls := .type "tuple_iterator", data := .fields #[.ref l, .int 0 0] }).push { cls := .type "enumerate", data := .fields #[.none, .bool false, .ref s.heap.objs.size, rawInt 0, .none, .none] } }) :=
  .of_wp fun prog w A R s h => by
    obtain ⟨hp, g, d, tk, os⟩ := s; obtain ⟨hl, h⟩ := h
    have hsub := sub_enumerate
    have hL : Heap.IsTuple (Shared.heap ⟨hp, g, d, tk, os⟩) l items := ⟨_, hl, rfl, n, rfl⟩
    wp_walk using wpAny_loadPart' hl
    refine wpAny_stack_any fun st => wpAny_pure ?_
    split
    · rename_i c _ _ _ _ _
      cases (c == Value.type "enumerate")
      · wp_walk using wpAny_loadPart' hl, wpAny_pyIter_tuple hL
        exact ⟨_, rfl, h⟩
      · wp_walk using wpAny_loadPart' hl, wpAny_pyIter_tuple hL
        exact ⟨_, rfl, h⟩
    · wp_walk using wpAny_loadPart' hl, wpAny_pyIter_tuple hL
      exact ⟨_, rfl, h⟩
section
variable {prog : Program} {w : World} {A : Around} {E : Value → Shared → Prop} {s : Shared}
theorem l3_call_enumerate_tuple {l : Addr} {items : Array Value} {Q : Value → Shared → Prop} (hL : s.heap.IsTuple l items)
    (h : ∀ h', IsEnum h' (s.heap.objs.size + 1) s.heap.objs.size 0 .none → h'.IsTupleIter s.heap.objs.size l 0 → h'.objs.size = s.heap.objs.size + 2 →
      (∀ b o, s.heap.get? b = some o → h'.get? b = some o) → Q (.ref (s.heap.objs.size + 1)) { s with heap := h' }) :
    wpAny (model prog w) A (call (.type "enumerate") [.ref l]) Q E s := by
  obtain ⟨⟨c, dct, dt, sl⟩, hl, hc, n, hd⟩ := hL
  replace hc : c = .type "tuple" := hc
  replace hd : dt = .seq items n := hd
  subst hc hd
  refine callType_new F.called_enumerate (by decide) (F.typeCall_enumerate_1 _) (F.newCall_enumerate_1 _) (fun obj => F.args_object_init_2 obj _) F.entry_enumerate_new
    (l3_enumerate_newT l items n dct sl) ⟨hl, ?_⟩
  have hz : (s.heap.push { cls := .type "tuple_iterator", data := .fields #[.ref l, .int 0 0] }).objs.size = s.heap.objs.size + 1 := Heap.size_push ..
  show _ ∧ _
  rw [hz]
  have he : IsEnum ((s.heap.push { cls := .type "tuple_iterator", data := .fields #[.ref l, .int 0 0] }).push
      { cls := .type "enumerate", data := .fields #[.none, .bool false, .ref s.heap.objs.size, rawInt 0, .none, .none] }) (s.heap.objs.size + 1) s.heap.objs.size 0 .none := by
    have := Heap.get?_push_size (s.heap.push { cls := .type "tuple_iterator", data := .fields #[.ref l, .int 0 0] })
      (o := { cls := .type "enumerate", data := .fields #[.none, .bool false, .ref s.heap.objs.size, rawInt 0, .none, .none] }) rfl
    rw [hz] at this; exact this
  refine ⟨⟨_, he, rfl⟩, h _ he ⟨_, Heap.get?_push_of_some _ (Heap.get?_push_size _ rfl), rfl, rfl⟩ (by rw [Heap.size_push, hz]) fun b o x => Heap.get?_push_of_some _ (Heap.get?_push_of_some _ x)⟩
/-- what a tuple's iterator draws -/
theorem l3_draws_tuple (hh : A.handled = none) {it t : Addr} (hne : t ≠ it) (items : Array Value) : Draws prog w A it [it, t] items.size (fun i v => items[i]? = some v) (fun i h => h.IsTupleIter it t i ∧ h.IsTuple t items) where
  live := fun i h st => by obtain ⟨⟨o, ho, _⟩, _⟩ := st; exact ⟨o, ho⟩
  frame := fun i h h' st k => by
    obtain ⟨⟨o, ho, r⟩, ⟨o2, ho2, r2⟩⟩ := st
    exact ⟨⟨o, k it (by simp) o ho, r⟩, ⟨o2, k t (by simp) o2 ho2, r2⟩⟩
  item := fun i s Q E hi st hQ => by
    have hx : items[i]? = some items[i] := Array.getElem?_eq_getElem hi
    refine wpAny_nextOf_tuple_item st.1 st.2 hx fun h' hit sb => hQ _ h' s.toks hx ⟨hit, ?_⟩ sb
    obtain ⟨o2, ho2, r2⟩ := st.2
    exact ⟨o2, (sb.2 t hne).trans ho2, r2⟩
  done := fun s Q E st hE => wpAny_nextOf_tuple_end hh st.1 st.2 (Array.getElem?_eq_none (Nat.le_refl _)) hE
theorem l3_draws_end (hh : A.handled = none) {it t : Addr} (items : Array Value) {n : Nat} (hn : items.size ≤ n) : Draws prog w A it [it, t] n (fun _ _ => True) (fun i h => i = n ∧ h.IsTupleIter it t n ∧ h.IsTuple t items) where
  live := fun i h st => by obtain ⟨_, ⟨o, ho, _⟩, _⟩ := st; exact ⟨o, ho⟩
  frame := fun i h h' st k => by
    obtain ⟨e, ⟨o, ho, r⟩, ⟨o2, ho2, r2⟩⟩ := st
    exact ⟨e, ⟨o, k it (by simp) o ho, r⟩, ⟨o2, k t (by simp) o2 ho2, r2⟩⟩
  item := fun i s Q E hi st hQ => absurd st.1 (Nat.ne_of_lt hi)
  done := fun s Q E st hE => wpAny_nextOf_tuple_end hh st.2.1 st.2.2 (Array.getElem?_eq_none hn) hE
end
end PySem
namespace L3
open PySem PySem.Spec PyProof.Rows L2 LamX
def IteT (K : PySem.W.Frag) (a : Addr) : It :=
  ⟨fun i H => ∃ (xs : List V) (x : V), SqT K H a xs ∧ xs[i]? = some x, fun i H v H' => ∃ T x, v = .ref T ∧ H T = none ∧ H' = upd H T (.tup [.int (i : Nat), x]) ∧ ∀ xs, SqT K H a xs → xs[i]? = some x, fun i H => ∃ xs : List V, SqT K H a xs ∧ xs.length ≤ i⟩
theorem turn_enumT {P : Program} {w : World} {K : PySem.W.Frag} {elts : List Expr} {kk : Nat} {tpos : Pos} (a e it : Addr) (hai : a ≠ it) (hae : a ≠ e) :
    Turn P w K (.Tuple elts kk tpos) (IteT K a) [e, it] e (fun i h => (∃ old, IsEnum h e it ((i : Nat) : Int) old) ∧ h.IsTupleIter it a i ∧ e ≠ it) where
  mem := by simp
  obj := fun i h st b hb => by
    obtain ⟨⟨old, he⟩, ⟨o, ho, hc, hd⟩, _⟩ := st
    have e' : b = e ∨ b = it := by simpa using hb
    rcases e' with z | z
    · rw [z]; exact ⟨_, he, fun v q => nomatch q⟩
    · rw [z]; exact ⟨o, ho, fun v q => by rw [hd] at q; cases q⟩
  keep := fun i h h' st k => let ⟨⟨old, he⟩, ⟨o, ho, r⟩, hne⟩ := st; ⟨⟨old, k e (by simp) _ he⟩, ⟨o, k it (by simp) o ho, r⟩, hne⟩
  item := by
    intro X hP hw hK hc i pins s σ H E I hf st hg
    subst hP hw hK
    obtain ⟨⟨old, he⟩, hit, hne⟩ := st
    obtain ⟨xs, x, hq, hx⟩ := hg
    obtain ⟨its, rv, p, hz⟩ := I.tuple hq
    obtain ⟨u, hu, ru⟩ := rv.get hx
    have hel : e < s.heap.objs.size := Heap.lt_size he
    have hil : it < s.heap.objs.size := by obtain ⟨_, q, _⟩ := hit; exact Heap.lt_size q
    have pT : s.heap.IsTuple a its.toArray := p
    have hi : i < its.toArray.size := by
      rw [List.size_toArray]
      by_cases z : i < its.length
      · exact z
      · rw [List.getElem?_eq_none (by omega)] at hu; cases hu
    refine wpAny_pyNext_enum_itemD (l3_draws_tuple (A := X.A.in1) (I.ok.hd hc) hai its.toArray) he (St := fun i h => h.IsTupleIter it a i ∧ h.IsTuple a its.toArray) ⟨hit, pT⟩ hi hne (by simp; exact ⟨hne, Ne.symm hae⟩) fun v h' tk hv ho hit' hT hsz hk => ?_
    have hvu : v = u := by
      have h2 : its.toArray[i]? = some u := by simpa using hu
      rw [h2] at hv
      exact (Option.some.inj hv).symm
    subst hvu
    refine ⟨_, rfl, wpAny_letOwnedTupleGo_enum (s := { s with heap := h', toks := tk + 1 }) ho fun h'' he' sb => ?_⟩
    have hT2 : h''.get? s.heap.objs.size = some { cls := .type "tuple", data := .seq #[.int i tk, v] } := (sb.2 _ (Nat.ne_of_gt hel)).trans hT
    have new : ObjOk X.prog X.w (upd H s.heap.objs.size (.tup [.int (i : Nat), x])) h'' s.heap.objs.size (.tup [.int (i : Nat), x]) :=
      ⟨by show 2 ≤ sizeLine; decide, [.int i tk, v], .cons ⟨_, rfl⟩ (.cons ru .nil), ⟨_, hT2, rfl, _, rfl⟩⟩
    have I1 : Inv X pins σ (upd H s.heap.objs.size (.tup [.int (i : Nat), x])) { s with heap := h'', toks := tk + 1 } :=
      I.turnedNew (ch := [e, it]) (fun b ob hb q => (sb.2 b (fun z => hb (by simp [z]))).trans (hk b ob (fun z => hb (by simp [z])) (fun z => hb (by simp [z])) q)) hf (Nat.le_refl _) new
    refine ⟨.ref s.heap.objs.size, _, I1, rfl, ⟨_, x, rfl, I.hok.fresh (Nat.le_refl _), rfl, fun ys hy => by rw [I.tuple_inj hy hq]; exact hx⟩, ⟨⟨v, ?_⟩, ?_, hne⟩, fun b hb => ?_⟩
    · have e1 : ((i + 1 : Nat) : Int) = (i : Int) + 1 := by omega
      rw [e1]; exact he'
    · obtain ⟨o, ho2, r⟩ := hit'.1
      exact ⟨o, (sb.2 it (Ne.symm hne)).trans ho2, r⟩
    · have hb' : b < s.heap.objs.size := by
        have e' : b = e ∨ b = it := by simpa using hb
        rcases e' with z | z
        · rw [z]; exact hel
        · rw [z]; exact hil
      rw [upd_ne (Nat.ne_of_lt hb')]
      exact (hf b hb).1
  done := by
    intro X hP hw hK hc i pins s σ H E I hf st hg
    subst hP hw hK
    obtain ⟨⟨old, he⟩, hit, hne⟩ := st
    obtain ⟨xs, hq, hx⟩ := hg
    obtain ⟨its, rv, p, hz⟩ := I.tuple hq
    obtain ⟨f0, f1, f2, f3, f4, f5⟩ := hf it (by simp)
    have hl := rv.length
    have pT : s.heap.IsTuple a its.toArray := p
    have hi : its.toArray.size ≤ i := by rw [List.size_toArray]; omega
    refine wpAny_pyNext_enum_endD (l3_draws_end (A := X.A.in1) (I.ok.hd hc) its.toArray hi) he ⟨rfl, hit, pT⟩ fun h' eb => ⟨rfl, I.turned (t' := s.toks) (fun b o hb q => eb b o hb q) f0 f1 f3 f4 f5⟩
  self := fun A i s Q E st h => let ⟨⟨_, he⟩, _⟩ := st; wpAny_pyIter_enum he h
theorem pi_enumT {X : Cx} {e : Expr} {te : TE} {p pos tpos : Pos} {elts : List Expr} {kk : Nat} (hg : Gl X "enumerate") (hm : X.mg "enumerate" = none) (ha : PE X e te) (hs : starEach [e] X.env = [(false, eval e X.env)]) :
    PI X (.Tuple elts kk tpos) (.Call (.Name "enumerate" p) [e] [] pos) (fun σ H R => te σ H fun v H1 => ∃ a xs, v = .ref a ∧ SqT X.K H1 a xs ∧ R (IteT X.K a) H1) := by
  refine ⟨fun pins s σ H R I h => ?_⟩
  have hq : tCons te tNil σ H fun vs H1 => ∃ a xs, vs = [.ref a] ∧ SqT X.K H1 a xs ∧ R (IteT X.K a) H1 := by
    show te σ H fun x H1 => ∃ a xs, [x] = [.ref a] ∧ SqT X.K H1 a xs ∧ R (IteT X.K a) H1
    have e : (fun (x : V) (H1 : Hp) => ∃ a xs, [x] = [V.ref a] ∧ SqT X.K H1 a xs ∧ R (IteT X.K a) H1) = fun v H1 => ∃ a xs, v = .ref a ∧ SqT X.K H1 a xs ∧ R (IteT X.K a) H1 := by
      funext x H1
      simp only [List.cons.injEq, and_true]
    rw [e]
    exact h
  refine Call_ (ld_blt I hg hm boot_enumerate (PyProof.Rows.callWith_type1 (thn ((pa_cons ha pa_nil (by rw [hs]; rfl)).run pos pins s σ H _ I hq) fun us s1 ⟨vs, H1, I1, r1, q1⟩ => ?_) hs rfl))
  obtain ⟨a, xs, ex, hq, q⟩ := q1
  subst ex
  cases r1 with
  | cons r rr =>
    cases rr
    cases r
    obtain ⟨its, rv, p', hz⟩ := I1.tuple hq
    have pT : s1.heap.IsTuple a its.toArray := p'
    have hal : a < s1.heap.objs.size := by obtain ⟨o, ho, _⟩ := pT; exact Heap.lt_size ho
    refine l3_call_enumerate_tuple pT fun h' he hit hsz hk => wpAny_pyIter_enum he ?_
    have I2 : Inv X pins σ H1 { s1 with heap := h' } := I1.kept (t' := s1.toks) hk
    refine ⟨s1.heap.objs.size + 1, [s1.heap.objs.size + 1, s1.heap.objs.size], _, _, H1, rfl, I2, turn_enumT a (s1.heap.objs.size + 1) s1.heap.objs.size (Nat.ne_of_lt hal) (Nat.ne_of_lt (Nat.lt_succ_of_lt hal)), ⟨⟨.none, he⟩, hit, Nat.succ_ne_self _⟩, fun b hb => ?_, q⟩
    have e' : b = s1.heap.objs.size + 1 ∨ b = s1.heap.objs.size := by simpa using hb
    have hle : s1.heap.objs.size ≤ b := by
      rcases e' with z | z
      · rw [z]; exact Nat.le_add_right _ _
      · rw [z]; exact Nat.le_refl _
    exact I1.fpOk hle (I1.hok.fresh hle)
def itET (t : TE3) : TI3 := fun τ G R E => t τ G (fun d G1 => match d with
  | .tup l => R ⟨numb 0 l, fun _ => True⟩ G1
  | _ => False) E
/-- over enumerate(tuple) -/
def iEnmT {c : Cn} (a : CE c) : CI c where
  t := itET a.t
  chk := fun tg e => (match tg with
    | .Tuple .. => true
    | _ => false) && match e with
    | .Call (.Name x _) [e1] [] _ => decide (x = "enumerate") && c.bt.contains x && glB c.nm x && chkAs [a] [e1]
    | _ => false
  ok := fun {k E X tg e} h ch => by
    rw [Bool.and_eq_true] at ch
    obtain ⟨ct, ch⟩ := ch
    split at ct
    · split at ch
      · simp only [Bool.and_eq_true, decide_eq_true_eq] at ch
        obtain ⟨⟨⟨rfl, c1⟩, c2⟩, c3⟩ := ch
        have hm := h.g.bt _ (List.contains_iff_mem.mp c1)
        simp only [chkAs, Bool.and_eq_true] at c3
        refine PI.imp (pi_enumT (gl_of h c2) hm (a.ok h c3.1.2) (star_of c3.1.1)) fun σ H R q => ?_
        obtain ⟨τ, G, R3, E3, rs, g, q, kk, kx⟩ := q
        refine ⟨τ, G, _, E3, rs, g, q, fun v H1 d G1 s1 q1 h1 => ?_, kx⟩
        dsimp only at h1
        split at h1
        · rename_i l
          cases q1 with
          | @tup a xs l t q1 =>
            have kt : ∀ H' G', Step ⟨X.K, c.T⟩ H1 G1 H' G' → ∃ xs, SqT X.K H' a xs ∧ Reps X.K H' G' xs l := fun H' G' s => by
              have r2 : Rep X.K H' G' (.ref a) (.tup l) := (Rep.tup t q1 : Rep (⟨X.K, c.T⟩ : Wd).K H1 G1 _ _).step s
              cases r2 with
              | @tup _ ys _ t2 q3 => exact ⟨ys, t2.sq, q3⟩
            refine ⟨a, xs, rfl, t.sq, kk _ _ _ ⟨numb 0 l, fun _ => True⟩ s1 ⟨fun i H' G' s kp hi => ?_, fun i H' G' s kp hi => ?_, fun i H' G' v H'' d s kp hd y => ?_⟩ h1⟩
            · obtain ⟨ys, k1, k2⟩ := kt H' G' s
              have hl : i < ys.length := by rw [k2.length]; simpa [numb_len] using hi
              exact ⟨ys, ys[i], k1, List.getElem?_eq_getElem hl⟩
            · obtain ⟨ys, k1, k2⟩ := kt H' G' s
              exact ⟨ys, k1, by rw [k2.length]; simpa [numb_len] using hi⟩
            · obtain ⟨ys, k1, k2⟩ := kt H' G' s
              obtain ⟨e1, he, rfl⟩ := numb_get hd
              obtain ⟨T, x, rfl, hT, rfl, y⟩ := y
              obtain ⟨u, hu, ru⟩ := k2.get he
              have z := y ys k1
              rw [hu] at z
              have z := Option.some.inj z
              subst z
              have st : Step ⟨X.K, c.T⟩ H' G' (upd H' T (.tup [.int (i : Nat), u])) G' := Step.fresh s.rel hT
              refine ⟨st, .tup (.inl ⟨s.rel.free hT, upd_same⟩) ?_⟩
              rw [Nat.zero_add]
              exact .cons (.int _) (.cons (ru.step st) .nil)
        · exact h1.elim
      · cases ch
    · cases ct
end L3
set_option Elab.async false
set_option linter.all false
set_option maxRecDepth 100000
set_option maxHeartbeats 2000000
/-! ### isinstance of an exception that has a dict -/
namespace PySem.W
open PySem PySem.Spec PySem.Calls PyProof.Rows
section
variable {prog : Program} {w : World} {A : Around} {E : Value → Shared → Prop} {s : Shared} {K : Frag} {x D : Addr} {ox : Obj} {od : Option Obj}
theorem l3_findObj {C : Addr} {name : Str} {a g : Value} (hc : (clsIn K C).isSome = true) (ha : findIn K (.ref C) name = some (some a)) (hg : specialIn K a "__get__" = some (some g)) (ht : takesIn K a = some true) : findObj K C od name = some (.bind g a) := by
  cases e : clsIn K C with
  | none => rw [e] at hc; cases hc
  | some cd =>
    unfold findObj
    simp [e, ha, hg, ht]
theorem l3_kin_class {Q : Option Value → Shared → Prop} (hga : findIn K (.ref D) "__getattribute__" = some (some (.builtin "BaseException.__getattribute__"))) (hgt : findIn K (.ref D) "__getattr__" = some none) (hsub : subIn K (.ref D) (.type "BaseException") = some true)
    (hdct : hasDictIn K D = true) (ha : findIn K (.ref D) "__class__" = some (some (.builtin "object.__class__")))
    (hn : specialIn K (.builtin "object.__class__") "__get__" = some (some (.builtin "getset_descriptor.__get__"))) (htk : takesIn K (.builtin "object.__class__") = some true) (hm : mroIn K D (.type "object") = some true)
    (X : K.In s.heap) (I : InstAt s.heap x ox D od) (h : Q (some (.ref D)) { s with toks := s.toks + 1 }) : wpAny (model prog w) A (getAttr? (.ref x) "__class__") Q E s := by
  have hcl : (clsIn K D).isSome = true := by
    obtain ⟨cd, hc, _⟩ := any_some hdct
    rw [hc] <;> rfl
  have hf : findObj K D od "__class__" = some (.bind (.builtin "getset_descriptor.__get__") (.builtin "object.__class__")) := l3_findObj hcl ha hn htk
  obtain ⟨hp, g, d, t, os⟩ := s
  have La := I.type (M := model prog w)
  have Lb := looks_findIn (M := model prog w) X hga
  have Lc := looks_findIn (M := model prog w) X hgt
  have Ld := looks_find (M := model prog w) X I hf
  have sub : Looks (model prog w) hp (isInstance (.ref x) (.type "BaseException")) true := La.andThen (looks_subIn X hsub)
  have h0 : (false && onTheHeap (Value.builtin "BaseException.__getattribute__")) = false := rfl
  have h2 : (Value.builtin "BaseException.__getattribute__" == Value.builtin "object.__getattribute__") = false := by decide +kernel
  have h1 : (onTheHeap (Value.ref D) && Value.builtin "BaseException.__getattribute__" == Value.builtin "object.__getattribute__") = false := by rw [h2]; rfl
  unfold getAttr? getAttrBy? getAttrBy
  refine wpAny_bind (wpAny_mkText (wpAny_bind (wpAny_attempt (wpAny_holding (wpAny_bind (La.at (wpAny_bind (Lb.at ?_))))))))
  show wpAny _ _ (if (onTheHeap (Value.ref D) && Value.builtin "BaseException.__getattribute__" == Value.builtin "object.__getattribute__") = true then _ else _) _ _ _
  rw [h1, if_neg Bool.false_ne_true]
  unfold getAttrByItsOwn hookBefore
  refine wpAny_bind ?_
  rw [if_pos (show onTheHeap (Value.ref D) = true from rfl)]
  refine Lc.at ?_
  refine wpAny_bind (wpAny_attempt (wpAny_holding ?_))
  unfold callGetattribute
  rw [h0, if_neg Bool.false_ne_true]
  unfold boundAndCalled
  rw [PySem.F.excAttr_ValueError.ga.bind (.ref x)]
  refine wpAny_bind (wpAny_pure ?_)
  show wpAny _ _ (call (.builtin "BaseException.__getattribute__") [.ref x, .str "__class__" t]) _ _ _
  refine wpAny_call (codeAny_call_builtin PySem.F.excAttr_ValueError.ga.plain PySem.F.entry_bexc_ga ?_)
  refine @check_slot (model prog w) _ _ ⟨hp, g, d, t + 1, os⟩ "BaseException.__getattribute__" "BaseException" "__getattribute__" (.ref x) [.str "__class__" t] [] _ (by decide +kernel) (by decide +kernel) sub (PySem.F.args_bexc_ga (.ref x) (.str "__class__" t)) ?_
  unfold Builtin.«object.__getattribute__»
  refine wpAny_bind (wpAny_of_eq (a := ((Value.ref x : Value), [Value.str "__class__" t])) (by first | rfl | (simp only [slotArgs]; rfl)) ?_)
  refine wpAny_bind (wpAny_pure (wpAny_bind (La.at (wpAny_bind (Ld.at ?_)))))
  show wpAny _ _ (holding [Value.builtin "object.__class__"] (call (.builtin "getset_descriptor.__get__") [.builtin "object.__class__", .ref x, .ref D]) >>= ret) _ _ _
  refine wpAny_bind (wpAny_holding (wpAny_call (class_get (s := ⟨hp, g, d, t + 1, os⟩) (ox := ox) (od := od) X I hm ?_)))
  refine wpAny_pure ?_
  show wpAny _ _ (handedOut (.ref D)) _ _ _
  rw [handedOut_of (v := .ref D) rfl]
  first
    | exact wpAny_pure (wpAny_pure h)
    | exact wpAny_pure h
    | exact wpAny_pure (wpAny_bind (wpAny_pure (wpAny_pure h)))
theorem l3_kitx (hga : findIn K (.ref D) "__getattribute__" = some (some (.builtin "BaseException.__getattribute__"))) (hgt : findIn K (.ref D) "__getattr__" = some none) (hsub : subIn K (.ref D) (.type "BaseException") = some true) (hdct : hasDictIn K D = true) (ha : findIn K (.ref D) "__class__" = some (some (.builtin "object.__class__")))
    (hn : specialIn K (.builtin "object.__class__") "__get__" = some (some (.builtin "getset_descriptor.__get__"))) (htk : takesIn K (.builtin "object.__class__") = some true) (hm : mroIn K D (.type "object") = some true) :
    KitX K (.ref x) (.ref D) (fun h => InstAt h x ox D od) := by
  obtain ⟨cdD, hcD, _⟩ := any_some hdct
  unfold clsIn at hcD
  split at hcD
  case h_2 => cases hcD
  rename_i c' d' cd' sl' ho
  refine ⟨fun _ _ _ I => I.type, fun _ _ X _ => ?_, fun h tp dd its n sl X htp => Bool.eq_false_iff.mpr fun q => ?_, fun X I k => l3_kin_class hga hgt hsub hdct ha hn htk hm X I k⟩
  · intro A' Q' E' s' k q
    unfold isType loadHead
    exact wpAny_bind (wpAny_loadPart (k _ _ (X _ _ ho)) (wpAny_pure q))
  · have e : D = tp := Value.ref.inj (beq_iff_eq.mp q)
    subst e
    have z := (X _ _ ho).symm.trans htp
    cases z
end
end PySem.W
namespace L3
open PySem PySem.Spec PyProof.Rows L2 LamX
theorem fst_mem {α : Type} {l m : List α} {a : α} (h : a ∈ l) : a ∈ l ++ m := List.mem_append_left _ h
/-- isinstance(e, C), e the handled exception -/
def isED (hx : Option (Addr × Addr × Addr)) (exs : List Addr) : RC3 := fun ds G Q => match ds, hx with
  | [.obj x, .obj C'], some (a, C, dd) => x = a ∧ C' ∈ exs ∧ (∃ fs, G dd = some (.xd fs)) ∧ Q (.bl (decide (C = C'))) G
  | [.obj x, .ty n], some (a, _, dd) => x = a ∧ n = "ValueError" ∧ (∃ fs, G dd = some (.xd fs)) ∧ Q (.bl true) G
  | _, _ => False
theorem c_isE {c : Cn} {k : Nat} {E : XK} {X : Cx} (h : XOk c k E X) : CallR X (.builtin "isinstance") (liftC ⟨X.K, c.T⟩ (isED c.hx c.exs)) := by
  intro pins s σ H xs us Q I rs hq
  obtain ⟨ds, G, Q3, qs, g, r, kk⟩ := hq
  have main : ∀ a C dd (cv : Value) (b : Bool) (u : Value), c.hx = some (a, C, dd) → u = cv → PySem.W.kitOne X.K (.ref C) cv = some b → (∃ fs, G dd = some (.xd fs)) → Q (.bl b) H →
      wpAny (model X.prog X.w) X.A (call (.builtin "isinstance") [.ref a, u]) (EP X pins σ Q) X.xe s := by
    intro a C dd cv b u eh ec e hd q
    subst ec
    obtain ⟨hC, oe, hp, hz, vs, hv⟩ := h.hx a C dd eh
    obtain ⟨hget, _⟩ := I.pin (a, oe) (fst_mem hp)
    have xi := h.g.ex.xi C hC
    obtain ⟨fs, hd⟩ := hd
    obtain ⟨gs, hd, _⟩ := g.2 dd _ hd
    obtain ⟨mA, hns, _⟩ := I.hok dd _ hd
    obtain ⟨od, hod, _⟩ := lookIn_ns hns
    have J : PySem.W.InstAt s.heap a oe C (some od) := by
      obtain ⟨oc, od', oda, osl⟩ := oe
      obtain ⟨h1, h2⟩ := hz
      dsimp only at h1 h2 hv
      subst h1 h2 hv
      exact ⟨hget, rfl, rfl, hod⟩
    exact PySem.W.kia_one (PySem.W.l3_kitx xi.hg xi.hk xi.hs xi.hd xi.ha xi.hn xi.ht xi.hm) I.kIn J e (fun z => nomatch z) fun tk => ⟨.bl b, H, I.kept (t' := tk) fun _ _ z => z, rfl, q⟩
  unfold isED at r
  split at r
  · rename_i x C' a C dd eh
    obtain ⟨rfl, hC', hd, q⟩ := r
    obtain ⟨x1, x2, rfl, q1, q2⟩ := reps2 qs
    cases q1; cases q2
    cases rs with
    | cons r1 rr => cases rr with
      | cons r2 rr =>
        cases rr
        cases (show _ = Value.ref _ from r1)
        cases (show _ = Value.ref _ from r2)
        have hC := (h.hx _ C dd eh).1
        exact main _ C dd _ _ _ eh rfl (h.g.ex.cc C hC C' hC') hd (now g (.bl _) q kk)
  · rename_i x n a C dd eh
    obtain ⟨rfl, rfl, hd, q⟩ := r
    obtain ⟨x1, x2, rfl, q1, q2⟩ := reps2 qs
    cases q1; cases q2
    cases rs with
    | cons r1 rr => cases rr with
      | cons r2 rr =>
        cases rr
        cases (show _ = Value.ref _ from r1)
        cases (show _ = Value.type "ValueError" from r2)
        have hC := (h.hx _ C dd eh).1
        exact main _ C dd _ _ _ eh rfl (h.g.ex.ve C hC) hd (now g (.bl _) q kk)
  · exact r.elim
/-- a built-in function's call, its rule told -/
theorem bfun_ok {c : Cn} {k : Nat} {E : XK} {X : Cx} (h : XOk c k E X) {T : String} {r : RC3} (hc : CallR X (.builtin T) (liftC ⟨X.K, c.T⟩ r)) {x : Str} (hv : bootBuiltins x = some (.builtin T)) {ts : List (CE c)} {es : List Expr} {p pos : Pos}
    (ch : (c.bt.contains x && glB c.nm x && nameB x && chkAs ts es && (match es with
        | [] => false
        | _ => true)) = true) : PE X (.Call (.Name x p) es [] pos) (LE ⟨X.K, c.T⟩ E (cE' r (ts.map (·.t)))) := by
  simp only [Bool.and_eq_true] at ch
  obtain ⟨⟨⟨⟨c1, c2⟩, c3⟩, c4⟩, c5⟩ := ch
  obtain ⟨n1, n2, n3⟩ := nameB_of c3
  cases es with
  | nil => cases c5
  | cons a es =>
    cases ts with
    | nil => cases c4
    | cons ta ts =>
      have c4' := c4
      simp only [chkAs, Bool.and_eq_true] at c4
      exact PE.imp (pe_callB hc (gl_of h c2) (h.g.bt _ (List.contains_iff_mem.mp c1)) hv (args_ok h c4') n3 n1 (star_of c4.1.1) (back_any c4.2)) fun _ _ _ q => l_cb q
def chkBf {c : Cn} (n : Str) (ts : List (CE c)) : Expr → Bool
  | .Call (.Name x _) es [] _ => decide (x = n) && (c.bt.contains x && glB c.nm x && nameB x && chkAs ts es && (match es with
        | [] => false
        | _ => true))
  | _ => false
def eIsE {c : Cn} (ts : List (CE c)) : CE c where
  t := cE' (isED c.hx c.exs) (ts.map (·.t))
  chk := chkBf "isinstance" ts
  ok := fun {k E X e} h ch => by
    unfold chkBf at ch
    split at ch
    · rw [Bool.and_eq_true, decide_eq_true_eq] at ch
      obtain ⟨rfl, ch⟩ := ch
      exact bfun_ok h (c_isE h) (by decide +kernel) ch
    · cases ch
/-- e.f, e the handled exception -/
def xfE (hx : Option (Addr × Addr × Addr)) (f : Str) (a : TE3) : TE3 := fun τ G Q E => a τ G (fun x G1 => ∃ ad C dd fs v, hx = some (ad, C, dd) ∧ x = .obj ad ∧ G1 dd = some (.xd fs) ∧ fs.lookup f = some v ∧ Q v G1) E
theorem frep_lookup {w : Wd} {H : Hp} {G : Gp} {f : Str} : ∀ {gs : List (Str × V)} {fs : List (Str × D)} {d : D}, FReps w.K H G gs fs → fs.lookup f = some d → ∃ v, gs.lookup f = some v ∧ Rep w.K H G v d
  | [], [], _, _, e => by cases e
  | [], _ :: _, _, r, _ => by have := r.1; simp at this
  | _ :: _, [], _, r, _ => by have := r.1; simp at this
  | (g, v) :: gs, (g', v') :: fs, d, r, e => by
    obtain ⟨r1, r2⟩ := r
    simp only [List.map_cons, List.cons.injEq] at r1 r2
    obtain ⟨rfl, r1⟩ := r1
    cases r2 with
    | cons a t =>
      rw [List.lookup_cons] at e ⊢
      cases hf : (f == g) with
      | true => rw [hf] at e; cases e; exact ⟨v, rfl, a⟩
      | false => rw [hf] at e; exact frep_lookup ⟨r1, t⟩ e
def eXf {c : Cn} (f : Str) (a : CE c) : CE c where
  t := xfE c.hx f a.t
  chk := fun
    | .Attribute e n _ => decide (n = f) && noBase e && a.chk e && c.xfs.contains f
    | _ => false
  ok := fun {k E X e} h ch => by
    split at ch
    · rename_i e n pos
      simp only [Bool.and_eq_true, decide_eq_true_eq] at ch
      obtain ⟨⟨⟨rfl, c1⟩, c2⟩, c3⟩ := ch
      refine ⟨fun pins s σ H Q I q => ?_⟩
      obtain ⟨τ, G, Q3, E3, rs, g, q, kk, kx⟩ := q
      refine attr_of (base_of c1) (thn ((a.ok h c2).run pins s σ H (fun x H1 => ∃ G1 d, Step ⟨X.K, c.T⟩ H G H1 G1 ∧ Rep X.K H1 G1 x d ∧ ∃ ad C dd fs v, c.hx = some (ad, C, dd) ∧ d = .obj ad ∧ G1 dd = some (.xd fs) ∧ fs.lookup n = some v ∧ Q3 v G1) I
        ⟨τ, G, _, E3, rs, g, q, fun v H1 d G1 s1 q1 h1 => ⟨G1, d, s1, q1, h1⟩, kx⟩) fun u s1 hh => ?_)
      obtain ⟨x, H1, I1, rx, G1, d, st, rd, ad, C, dd, fs, v, eh, rfl, ed, el, q⟩ := hh
      cases rd
      obtain rfl : u = Value.ref ad := rx
      obtain ⟨hC, oe, hp, hz, vs, hv⟩ := h.hx ad C dd eh
      obtain ⟨hget, _⟩ := I1.pin (ad, oe) (fst_mem hp)
      obtain ⟨gs, hd, fr⟩ := st.rel.2 dd _ ed
      obtain ⟨w0, hw, rw0⟩ := frep_lookup (w := ⟨X.K, c.T⟩) fr el
      obtain ⟨mA, hns, hr⟩ := I1.hok dd _ hd
      obtain ⟨od, ho, hl⟩ := lookIn_ns hns
      obtain ⟨u, hu, ru⟩ := RelO.some_of (v := w0) (o := mA n) (by rw [← hw]; exact hr n)
      have J : PySem.W.InstAt s1.heap ad oe C (some od) := ⟨hget, hz.1, by unfold PySem.W.notCls; rw [hv] <;> rfl, by rw [hz.2]; exact ho⟩
      have xf := h.g.ex.xf C hC
      exact HandSPX.exc_get I1.kIn J xf.ga xf.gg xf.exC (PySem.W.findObj_own xf.hdC (h.g.ex.no C hC n (List.contains_iff_mem.mp c3)) rfl (by rw [hl, hu])) (handed_of ru) ⟨w0, H1, I1.tok _, ru, kk _ _ _ _ st rw0 q⟩
    · cases ch
end L3
set_option Elab.async false
set_option linter.all false
set_option maxRecDepth 100000
set_option maxHeartbeats 2000000
/-! ### texts of great whole numbers -/
namespace PySem
open PySem.Spec PyProof.Rows Builtin
section
variable {prog : Program} {w : World} {A : Around} {E : Value → Shared → Prop} {s : Shared}
theorem l3_fits {a : Int} (h : a.natAbs.log2 < 14000) : a.natAbs < 10 ^ 4300 := Nat.lt_of_lt_of_le (lt_of_log2 h) (by decide +kernel)
theorem l3_int_repr {a : Int} {t : Tok} {Q : Value → Shared → Prop} (hn : s.heap.NoDigits) (hlt : a.natAbs < 10 ^ 4300) (h : Q (.str (toString a) s.toks) { s with toks := s.toks + 1 }) : wpAny (model prog w) A (call (.builtin "int.__repr__") [.int a t]) Q E s := by
  refine wpAny_call_entry F.slot_int_repr (typeIs_int s a t) F.entry_int_repr ?_ (F.args_int_repr_1 _)
  unfold Builtin.«int.__repr__»
  show wpAny _ _ (do let r ← Builtin.overDigitLimit? a; _) _ _ s
  exact wpAny_bind (overDigitLimit_any hn (fun _ => wpAny_bind (wpAny_mkStr (wpAny_pure ⟨_, rfl, h⟩) (int_text_fits10 hlt))) fun hge => absurd hlt (Nat.not_lt.mpr hge))
theorem l3_reprObj_int {a : Int} {t : Tok} {Q : Value → Shared → Prop} (hn : s.heap.NoDigits) (hlt : a.natAbs < 10 ^ 4300) (h : Q (.str (toString a) s.toks) { s with toks := s.toks + 1 }) : wpAny (model prog w) A (pyReprObj (.int a t)) Q E s := by
  have hv : [Value.int a t].any Value.onHeap = false := rfl
  unfold pyReprObj
  simp only [cRoomFor, hv, Bool.false_eq_true, if_false, pure_bind]
  refine wpAny_bind (wpAny_specialOf (name := Str.ofString "__repr__") (typeIs_int s a t) F.slot_int_repr.lookup ?_)
  refine wpAny_bind (m := callSpecialIfBound? (.int a t) (Str.ofString "__repr__")) (wpAny_callSpecialIfBound?_slot (name := Str.ofString "__repr__") (typeIs_int s a t) F.slot_int_repr (l3_int_repr hn hlt ?_))
  exact wpAny_bind (wpAny_isInstance (T := "str") (b := true) rfl isSubtype_str_str (wpAny_pure h))
theorem l3_repr_int {a : Int} {t : Tok} {Q : Value → Shared → Prop} (hn : s.heap.NoDigits) (hlt : a.natAbs < 10 ^ 4300) (h : Q (.str (toString a) s.toks) { s with toks := s.toks + 1 }) : wpAny (model prog w) A (call (.builtin "repr") [.int a t]) Q E s := by
  have hv : [Value.int a t].any Value.onHeap = false := rfl
  refine Calls.call_function_entry F.kind_repr F.plain_repr F.entry_repr (F.args_repr1 _) ?_
  unfold Builtin.«repr»
  refine wpAny_bind (m := oneArg "repr" _) (wpAny_pure ?_)
  simp only [cRoomFor, hv, Bool.false_eq_true, if_false, pure_bind]
  refine wpAny_bind (wpAny_specialOf (name := Str.ofString "__repr__") (typeIs_int s a t) F.slot_int_repr.lookup ?_)
  refine wpAny_bind (m := callSpecialIfBound? (.int a t) (Str.ofString "__repr__")) (wpAny_callSpecialIfBound?_slot (name := Str.ofString "__repr__") (typeIs_int s a t) F.slot_int_repr (l3_int_repr hn hlt ?_))
  refine wpAny_bind (wpAny_isInstance (T := "str") (b := true) rfl isSubtype_str_str ?_)
  exact wpAny_pure ⟨_, rfl, h⟩
theorem l3_reprK_int {h₀ : Heap} {a : Int} {t : Tok} {as : List Addr} {d : Nat} (hn : h₀.NoDigits) (hlt : a.natAbs < 10 ^ 4300) : ReprK prog w as h₀ d (.int a t) (toString a) := fun base hb A g E s Q _ _ _ hk hQ => by
  have hn' : base ≤ sizeLine := by omega
  rw [pyReprUnder_leaf (v := .int a t) hn' (fun _ e => nomatch e)]
  unfold pyRepr
  exact wpAny_bind (l3_reprObj_int (hn.keeps hk) hlt (wpAny_pure (hQ s.heap _ fun _ _ e => e)))
end
/-! ### texts of data with great whole numbers -/
mutual
def PyData.wideB (nd : Bool) : PyData → Bool
  | .none => true
  | .bool _ => true
  | .str _ => true
  | .int i => decide (i.natAbs.log2 < 1920) || (nd && decide (i.natAbs.log2 < 14000))
  | .list xs => PyData.wideBs nd xs
  | .tuple xs => PyData.wideBs nd xs
  | .dict _ => false
def PyData.wideBs (nd : Bool) : List PyData → Bool
  | [] => true
  | x :: xs => PyData.wideB nd x && PyData.wideBs nd xs
end
section
variable {prog : Program} {w : World} {h₀ : Heap} {nd : Bool}
mutual
theorem l3_reprK (hn : nd = true → h₀.NoDigits) : ∀ {v : Value} {d : PyData} {as : List Addr}, Reads h₀ v d as → d.wideB nd = true → d.shown.length ≤ sizeLine → ∃ bs, ReadAtMost h₀ d.depth bs ∧ ReprK prog w bs h₀ d.depth v d.shown
  | _, _, _, .none, _, _ => ⟨[], (fun _ h => nomatch h), by simp only [PyData.shown]; exact .of_is ReprIs.none _ _ _⟩
  | _, _, _, .bool b, _, _ => ⟨[], (fun _ h => nomatch h), by simp only [PyData.shown]; exact .of_is (ReprIs.bool b) _ _ _⟩
  | _, _, _, .str x t, _, hz => ⟨[], (fun _ h => nomatch h), by simp only [PyData.shown] at hz ⊢; exact .of_is (ReprIs.str x t hz) _ _ _⟩
  | _, _, _, .int i t, hs, _ => by
    refine ⟨[], (fun _ h => nomatch h), ?_⟩
    simp only [PyData.shown]
    simp only [PyData.wideB, Bool.or_eq_true, Bool.and_eq_true, decide_eq_true_eq] at hs
    rcases hs with hs | ⟨h1, h2⟩
    · exact .of_is (ReprIs.int t hs) _ _ _
    · exact l3_reprK_int (hn h1) (l3_fits h2)
  | _, _, _, .list (a := a) (o := o) (vs := vs) (n := n) (xs := xs) e1 e2 e3 e4, hs, hz => by
    simp only [PyData.wideB] at hs
    simp only [PyData.shown] at hz
    obtain ⟨bs, hb, hk⟩ := l3_reprAllK hn e4 hs fun t ht => Nat.le_trans (listText_mem_le ht) hz
    have r : Reads h₀ (.ref a) (.list xs) _ := .list e1 e2 e3 e4
    have lt : PyData.depthAll xs < (PyData.list xs).depth := by simp only [PyData.depth]; omega
    have hna : a ∉ bs := not_mem_of_deeper r lt hb
    refine ⟨a :: bs, ReadAtMost.cons r (Nat.le_of_lt lt) hb, ?_⟩
    simp only [PyData.depth, PyData.shown]
    obtain ⟨l⟩ := vs
    cases l with
    | nil =>
      have e4' : ReadsAll h₀ [] xs _ := e4
      cases e4'
      rw [PyData.shownAll, listText_nil]
      exact ReprK.listEmpty e1 e2 e3
    | cons x l => exact ReprK.list e1 e2 e3 hna (by simpa using hk.length_eq) fun i y e => hk.item i y (by simpa using e)
  | _, _, _, .tuple (a := a) (o := o) (vs := vs) (n := n) (xs := xs) e1 e2 e3 e4, hs, hz => by
    simp only [PyData.wideB] at hs
    simp only [PyData.shown] at hz
    obtain ⟨bs, hb, hk⟩ := l3_reprAllK hn e4 hs fun t ht => Nat.le_trans (tupleText_mem_le ht) hz
    have r : Reads h₀ (.ref a) (.tuple xs) _ := .tuple e1 e2 e3 e4
    have lt : PyData.depthAll xs < (PyData.tuple xs).depth := by simp only [PyData.depth]; omega
    have hna : a ∉ bs := not_mem_of_deeper r lt hb
    refine ⟨a :: bs, ReadAtMost.cons r (Nat.le_of_lt lt) hb, ?_⟩
    simp only [PyData.depth, PyData.shown]
    exact ReprK.tuple e1 e2 e3 hna hk
  | _, _, _, .dict .., hs, _ => by simp only [PyData.wideB] at hs; cases hs
theorem l3_reprAllK (hn : nd = true → h₀.NoDigits) : ∀ {vs : List Value} {ds : List PyData} {as : List Addr}, ReadsAll h₀ vs ds as → PyData.wideBs nd ds = true → (∀ t ∈ PyData.shownAll ds, t.length ≤ sizeLine) → ∃ bs, ReadAtMost h₀ (PyData.depthAll ds) bs ∧ ReprAllK prog w bs h₀ (PyData.depthAll ds) vs (PyData.shownAll ds)
  | _, _, _, .nil, _, _ => ⟨[], (fun _ h => nomatch h), by simp only [PyData.shownAll]; exact .nil⟩
  | _, _, _, .cons (d := d) (ds := ds) r rs, hs, hz => by
    simp only [PyData.wideBs, Bool.and_eq_true] at hs
    simp only [PyData.shownAll, List.mem_cons, forall_eq_or_imp] at hz
    obtain ⟨b1, hb1, k1⟩ := l3_reprK hn r hs.1 hz.1
    obtain ⟨b2, hb2, k2⟩ := l3_reprAllK hn rs hs.2 hz.2
    refine ⟨b1 ++ b2, ?_, ?_⟩
    · simp only [PyData.depthAll]
      exact (hb1.mono (Nat.le_max_left _ _)).append (hb2.mono (Nat.le_max_right _ _))
    · simp only [PyData.depthAll, PyData.shownAll]
      exact .cons ((k1.more fun b hb => List.mem_append_left _ hb).level_le (Nat.le_max_left _ _)) (k2.more_le (fun b hb => List.mem_append_right _ hb) (Nat.le_max_right _ _))
end
theorem l3_repr {A : Around} {E : Value → Shared → Prop} {s : Shared} {Q : Value → Shared → Prop} {v : Value} {d : PyData} {as : List Addr} (hn : nd = true → s.heap.NoDigits) (r : Reads s.heap v d as) (hs : d.wideB nd = true) (hg : A.guards = some []) (hu : A.units + (d.depth + 1) < cLine) (hsz : d.shown.length ≤ sizeLine)
    (hQ : ∀ h' u tk, (∀ b o, s.heap.get? b = some o → h'.get? b = some o) → Q (.str d.shown u) { s with heap := h', toks := tk }) : wpAny (model prog w) A (call (.builtin "repr") [v]) Q E s := by
  cases r with
  | none => simp only [PyData.shown] at hQ; exact P.repr_of_none (hQ s.heap _ _ fun _ _ e => e)
  | bool b => simp only [PyData.shown] at hQ; exact P.repr_of_bool (hQ s.heap _ _ fun _ _ e => e)
  | str x t => simp only [PyData.shown] at hQ hsz; exact P.repr_of_str (hQ s.heap _ _ fun _ _ e => e) hsz
  | int i t =>
    simp only [PyData.shown] at hQ
    simp only [PyData.wideB, Bool.or_eq_true, Bool.and_eq_true, decide_eq_true_eq] at hs
    rcases hs with hs | ⟨h1, h2⟩
    · exact P.repr_of_int hs (hQ s.heap _ _ fun _ _ e => e)
    · exact l3_repr_int (hn h1) (l3_fits h2) (hQ s.heap _ _ fun _ _ e => e)
  | @list a o vs n xs bs0 e1 e2 e3 e4 =>
    simp only [PyData.wideB] at hs
    simp only [PyData.shown] at hsz
    obtain ⟨bs, hb, hk⟩ := l3_reprAllK (prog := prog) (w := w) hn e4 hs fun t ht => Nat.le_trans (listText_mem_le ht) hsz
    have r : Reads s.heap (.ref a) (.list xs) _ := .list e1 e2 e3 e4
    have lt : PyData.depthAll xs < (PyData.list xs).depth := by simp only [PyData.depth]; omega
    have hna : a ∉ bs := not_mem_of_deeper r lt hb
    simp only [PyData.depth] at hu
    simp only [PyData.shown] at hQ
    refine call_repr_slot (T := "list") (by omega) ⟨o, e1, e2⟩ F.slot_list_repr.toG ?_
    have hQ' : ∀ h' u tk, (∀ b o, s.heap.get? b = some o → h'.get? b = some o) → (fun r s₁ => ∃ x t, r = Value.str x t ∧ Q r s₁) (.str (listText (PyData.shownAll xs)) u) { s with heap := h', toks := tk } := fun h' u tk k => ⟨_, _, rfl, hQ h' u tk k⟩
    obtain ⟨l⟩ := vs
    cases l with
    | nil =>
      have e4' : ReadsAll s.heap [] xs _ := e4
      cases e4'
      simp only [PyData.shownAll, listText_nil] at hQ'
      exact call_list_repr_empty ⟨o, e1, e2⟩ e1 e3 (hQ' s.heap _ _ fun _ _ e => e)
    | cons x l => exact call_list_reprK e1 e2 e3 hna (by simpa using hk.length_eq) (fun i y e => hk.item i y (by simpa using e)) (A := A.in1) hg (fun b _ => Clear.nil b) (by show A.units + 1 + _ < _; omega) (fun _ _ e => e) hQ' hsz
  | @tuple a o vs n xs bs0 e1 e2 e3 e4 =>
    simp only [PyData.wideB] at hs
    simp only [PyData.shown] at hsz
    obtain ⟨bs, hb, hk⟩ := l3_reprAllK (prog := prog) (w := w) hn e4 hs fun t ht => Nat.le_trans (tupleText_mem_le ht) hsz
    have r : Reads s.heap (.ref a) (.tuple xs) _ := .tuple e1 e2 e3 e4
    have lt : PyData.depthAll xs < (PyData.tuple xs).depth := by simp only [PyData.depth]; omega
    have hna : a ∉ bs := not_mem_of_deeper r lt hb
    simp only [PyData.depth] at hu
    simp only [PyData.shown] at hQ
    refine call_repr_slot (T := "tuple") (by omega) ⟨o, e1, e2⟩ F.slot_tuple_repr ?_
    exact call_tuple_reprK e1 e2 e3 hna hk (A := A.in1) hg (fun b _ => Clear.nil b) (by show A.units + 1 + _ < _; omega) (fun _ _ e => e) (fun h' u tk k => ⟨_, _, rfl, hQ h' u tk k⟩) hsz
  | dict e1 e2 e3 e4 e5 => simp only [PyData.wideB] at hs; cases hs
end
end PySem
set_option Elab.async false
set_option linter.all false
set_option maxRecDepth 100000
set_option maxHeartbeats 2000000
/-! ### int(text) of many figures -/
namespace PySem.W
open PySem PySem.Calls PySem.NumText PyProof.Rows
namespace KIN
theorem l3_limit {M : Model} {A : Around} {E : Value → Shared → Prop} {s : Shared} {Q : Nat → Shared → Prop} (hn : s.heap.NoDigits) (h : Q 4300 s) : wpAny M A Builtin.intMaxStrDigits Q E s := by
  obtain ⟨mc, h1, h2⟩ := hn
  unfold Builtin.intMaxStrDigits
  refine wpAny_bind (wpAny_nsGet h1 ?_)
  rw [h2]
  exact wpAny_pure h
theorem l3_wp_text {M : Model} {A : Around} {E : Value → Shared → Prop} {s : Shared} {Q : Value → Shared → Prop} {v : Value} {text : List Nat} {n : Int} (hn : s.heap.NoDigits)
    (hs : ¬ (text.takeWhile (· != 0)).length ≤ 640) (hr : (int_private% "readNumeral") 4300 10 (text.takeWhile (· != 0)) = (int_private% "Numeral.value") n)
    (ha : ((text.takeWhile (· != 0)).length == text.length) = true) (h : Q (.int n s.toks) { s with toks := s.toks + 1 }) :
    wpAny M A ((int_private% "intFromText") v text 10) Q E s := by
  have q := l3_limit (M := M) (A := A) (E := E) (Q := fun k s' => k = 4300 ∧ s' = s) hn ⟨rfl, rfl⟩
  obtain ⟨hp, g, d, tk, os⟩ := s
  repeat (any_goals (first
    | assumption
    | (with_reducible refine wpAny_ite_false (decide_eq_false hs) ?_)
    | (with_reducible refine wpAny_ite_true (decide_eq_true ha) ?_)
    | (with_reducible refine wpAny_mono q (fun k s' hk => ?_) (fun _ _ z => z))
    | wp_step))
  all_goals (obtain ⟨rfl, rfl⟩ := hk)
  all_goals (try rw [hr])
  all_goals (try dsimp only)
  repeat (any_goals (first
    | assumption
    | (with_reducible refine wpAny_ite_true (decide_eq_true ha) ?_)
    | wp_step))
theorem l3_meets_text {x : PySem.Str} {u : Tok} {n : Int} (hl : x.length ≤ sizeLine) (h6 : ¬ (numSeenOf x).length ≤ 640) (hn : PySem.intText? x = some n) : Meets (Builtin.«int.__new__» ⟨[.type "int", .str x u], []⟩) (fun _ R s => s.heap.NoDigits ∧ R (.ok (.ret (.int n s.toks))) { s with toks := s.toks + 1 }) := by
  exact .of_wp fun prog w A R s hq => by
      obtain ⟨hd, hq⟩ := hq
      obtain ⟨hp, g, d, tk, os⟩ := s
      have f1 := F.conv_sub_int
      have f2 := F.madeHere_int
      have f3 := str_int
      have f4 := str_idx
      have f5 := str_trunc
      have f6 : typeOf (.str x u) = pure (.type "str") := rfl
      have hr : (int_private% "readNumeral") 4300 10 (numSeenOf x) = (int_private% "Numeral.value") n ∧ ((numSeenOf x).length == (numTextOf x).length) = true := by
        rcases read4300 x hl with ⟨m, h1, h2, h3⟩ | ⟨h1, _⟩
        · rw [hn] at h1
          injection h1 with h1
          subst h1
          exact ⟨h3, h2⟩
        · rw [hn] at h1
          cases h1
      have hk := Hid.mk (And.intro h6 (And.intro hr hd))
      clear h6 hr hl hn hd
      repeat (any_goals (first
        | assumption
        | ((with_reducible show wpAny _ _ ((int_private% "intFromText") _ _ _) _ _ _); refine l3_wp_text hk.out.2.2 hk.out.1 hk.out.2.1.1 hk.out.2.1.2 ?_)
        | wp_step))
      all_goals first | exact ⟨_, rfl, hq⟩ | skip
end KIN
end PySem.W
namespace L3
open PySem PySem.Spec PyProof.Rows L2 LamX
/-! ### repr -/
def reprD (nd : Bool) : RC3 := fun ds G Q => match ds with
  | [d] => (∃ p, PyOf G d p ∧ p.wideB nd = true ∧ p.depth ≤ 60 ∧ p.shown.length ≤ sizeLine ∧ Q (.str p.shown) G) ∨ (d = .dct [] [] ∧ Q (.str (PyData.dict []).shown) G)
  | _ => False
theorem kept_bk {X : Cx} {pins : List (Addr × Obj)} {σ : L2.St} {H : Hp} {s : Shared} (I : Inv X pins σ H s) {h' : Heap} {tk : Nat} (k : ∀ b o, s.heap.get? b = some o → h'.get? b = some o) : Inv X pins σ H { s with heap := h', toks := tk } := I.kept (t' := tk) k
theorem c_repr {c : Cn} {k : Nat} {E : XK} {X : Cx} (h : XOk c k E X) (gz : c.gd = true) : CallR X (.builtin "repr") (liftC ⟨X.K, c.T⟩ (reprD c.nd)) := by
  intro pins s σ H xs us Q I rs hq
  obtain ⟨ds, G, Q3, qs, g, r, kk⟩ := hq
  unfold reprD at r
  split at r
  · rename_i d
    obtain ⟨x, rfl, q⟩ := reps1 qs
    cases rs with
    | cons r1 rr =>
      cases rr
      rename_i u
      rcases r with ⟨p, hp, hw, hd, hz, r⟩ | ⟨rfl, r⟩
      · obtain ⟨as, rd⟩ := Dp.reads I p x u (hp.dp g q) r1
        have hu := h.hu
        refine l3_repr (nd := c.nd) (fun z => h.g.nd z s.heap I.kIn) rd hw (h.gd gz) (by omega) hz fun h' t tk hk => ?_
        exact ⟨.str _, H, kept_bk I hk, ⟨_, rfl⟩, now g (.str _) r kk⟩
      · cases q with
        | @dct a ks xs l h1 h2 h3 h4 =>
          cases (show u = Value.ref a from r1)
          obtain ⟨_, hsys, vs, kv, o, es, ep, e1, e2, e3, _, e5, _⟩ := I.hok a _ h2
          have ev : vs = [] := by
            cases kv with
            | nil => rfl
          subst ev
          have ee : es.toList = [] := by
            cases hl : es.toList with
            | nil => rfl
            | cons x y => rw [hl] at e5; exact absurd e5 (by intro z; cases z)
          have rd : Reads s.heap (.ref a) (.dict []) (a :: [] ++ []) := .dict e1 e2.1 e3 (by rw [ee]; exact .nil) (by rw [ee]; exact .nil)
          have hu := h.hu
          refine repr_of_reads' rd rfl (fun _ hm => ?_) (h.gd gz) (by simp only [PyData.depth, PyData.depthKv]; omega) (fun _ _ e => e) (fun h' t tk hk => ?_) (by decide +kernel)
          · have : sysModules = a := by simpa using hm
            rw [← this] at hsys
            simp at hsys
          · exact ⟨.str _, H, kept_bk I hk, ⟨_, rfl⟩, now g (.str _) r kk⟩
  · exact r.elim
def eRepr {c : Cn} (ts : List (CE c)) : CE c where
  t := cE' (reprD c.nd) (ts.map (·.t))
  chk := fun e => c.gd && chkBf "repr" ts e
  ok := fun {k E X e} h ch => by
    rw [Bool.and_eq_true] at ch
    obtain ⟨gz, ch⟩ := ch
    unfold chkBf at ch
    split at ch
    · rw [Bool.and_eq_true, decide_eq_true_eq] at ch
      obtain ⟨rfl, ch⟩ := ch
      exact bfun_ok h (c_repr h gz) (by decide +kernel) ch
    · cases ch
/-! ### int(text) of many figures: the rule -/
def intWD : RC3 := fun ds G Q => match ds with
  | [.str z] => ∃ w, z = mkS w ∧ NumText.AllDigits w ∧ 640 < w.length ∧ w.length ≤ 4300 ∧ Q (.int (NumText.digitsVal w : Nat)) G
  | _ => False
theorem c_intW {X : Cx} {T : List (Addr × Str)} (hd : NoDigK X.K) : CallR X (.type "int") (liftC ⟨X.K, T⟩ intWD) := by
  intro pins s σ H xs us Q I rs hq
  obtain ⟨ds, G, Q3, qs, g, r, kk⟩ := hq
  unfold intWD at r
  split at r
  · obtain ⟨x, rfl, q⟩ := reps1 qs
    cases q
    obtain ⟨w, rfl, h1, h2, h3, r⟩ := r
    cases rs with
    | cons r1 rr =>
      cases rr
      obtain ⟨t, rfl⟩ := r1
      have hsz : (mkS w).length ≤ sizeLine := by
        show w.length ≤ sizeLine
        rw [sizeLine_eq]; omega
      have hseen : numSeenOf (mkS w) = w := (numText_signs (x := mkS w) fun c hc => .inr (h1 c hc)).2
      have hn : PySem.intText? (mkS w) = some ((NumText.digitsVal w : Nat) : Int) := intText_digits (x := mkS w) h1 (fun z => by have z : w = [] := z; rw [z] at h2; exact absurd h2 (by decide)) h3
      exact PySem.call_int_1 (PySem.W.KIN.l3_meets_text hsz (by rw [hseen]; omega) hn) ⟨hd s.heap I.kIn, rfl, ⟨.int _, H, I.tok _, ⟨_, rfl⟩, now g (.int _) r kk⟩⟩
  · exact r.elim
def eIntW {c : Cn} (ts : List (CE c)) : CE c where
  t := cE' intWD (ts.map (·.t))
  chk := fun e => c.nd && match e with
    | .Call (.Name x _) es [] _ => decide (x = "int") && (c.bt.contains x && glB c.nm x && nameB x && chkAs ts es && (match es with
        | [] => false
        | _ => true))
    | _ => false
  ok := fun {k E X e} h ch => by
    rw [Bool.and_eq_true] at ch
    obtain ⟨gz, ch⟩ := ch
    split at ch
    · rename_i x p es pos
      rw [Bool.and_eq_true, decide_eq_true_eq] at ch
      obtain ⟨rfl, ch⟩ := ch
      simp only [Bool.and_eq_true] at ch
      obtain ⟨⟨⟨⟨c1, c2⟩, c3⟩, c4⟩, c5⟩ := ch
      obtain ⟨n1, n2, n3⟩ := nameB_of c3
      cases es with
      | nil => cases c5
      | cons a es =>
        cases ts with
        | nil => cases c4
        | cons ta ts =>
          have c4' := c4
          simp only [chkAs, Bool.and_eq_true] at c4
          exact PE.imp (pe_callTy (c_intW (T := c.T) (h.g.nd gz)) (gl_of h c2) (h.g.bt _ (List.contains_iff_mem.mp c1)) (by decide +kernel) (args_ok h c4') n3 n1 (star_of c4.1.1) (back_any c4.2)) fun _ _ _ q => l_cb q
    · cases ch
end L3
set_option Elab.async false
set_option linter.all false
set_option maxRecDepth 100000
set_option maxHeartbeats 2000000
namespace L3
open PySem PySem.Spec PyProof.Rows L2 LamX
/-! ### calls where nothing's text is being made -/
def spG (l : List (Str × Sp3)) (i : Nat) : Sp3 := match l[i]? with
  | some (_, sp) => sp
  | none => fun _ _ _ _ => False
def chkG {c : Cn} (names : List Str) (i : Nat) (ts : List (CE c)) : Expr → Bool
  | .Call (.Name x _) es [] _ => decide (names[i]? = some x) && (glB c.nm x && nameB x && chkAs ts es && (match es with
        | [] => false
        | _ => true))
  | _ => false
theorem names_get {β : Type} {l : List (Str × β)} {i : Nat} {x : Str} (h : (l.map (·.1))[i]? = some x) : ∃ sp, l[i]? = some (x, sp) := by
  rw [List.getElem?_map] at h
  cases e : l[i]? with
  | none => rw [e] at h; cases h
  | some p => rw [e] at h; cases h; exact ⟨p.2, rfl⟩
def eCallG {c : Cn} (i : Nat) (ts : List (CE c)) : CE c where
  t := spE (spG c.fnG i) (ts.map (·.t))
  chk := fun e => (!c.hot) && c.gd && chkG (c.fnG.map (·.1)) i ts e
  ok := fun {k E X e} h ch => by
    simp only [Bool.and_eq_true] at ch
    obtain ⟨⟨cz, gz⟩, ch⟩ := ch
    have cz := cold_of cz
    unfold chkG at ch
    split at ch
    · rename_i x p es pos
      simp only [Bool.and_eq_true, decide_eq_true_eq] at ch
      obtain ⟨c1, ⟨⟨c2, c3⟩, c4⟩, c5⟩ := ch
      obtain ⟨n1, n2, n3⟩ := nameB_of c3
      obtain ⟨sp, e⟩ := names_get c1
      cases es with
      | nil => cases c5
      | cons a es =>
        cases ts with
        | nil => cases c4
        | cons ta ts =>
          have c4' := c4
          simp only [chkAs, Bool.and_eq_true] at c4
          obtain ⟨f, m1, m2, F⟩ := h.g.fnG i x sp e
          obtain ⟨fd, ps, B, len, F⟩ := F.ok
          refine ⟨fun pins s σ H Q I q => ?_⟩
          obtain ⟨τ, G, Q3, E3, rs, g, q, kk, kx⟩ := q
          refine wpAny_Call_Name_kw (ld_glob I (gl_of h c2) m1 ?_ n1)
          refine PySem.W.callWith_K (h₀ := X.base) I.ok.mod.kin m2 (thn ((args_ok h c4').run pos pins s σ H (fun vs H1 => ∃ G1 ds, Step ⟨X.K, c.T⟩ H G H1 G1 ∧ Reps X.K H1 G1 vs ds ∧ sp ds G1 Q3 E3) I
            ⟨τ, G, _, E3, rs, g, q, fun vs H1 ds G1 s1 q1 h1 => ⟨G1, ds, s1, q1, by unfold spG at h1; rw [e] at h1; exact h1⟩, kx⟩) fun us s1 ⟨vs, H1, I1, r, G1, ds, st, rd, h1⟩ => ⟨I1.kIn, ?_⟩) (star_of c4.1.1) (back_any c4.2)
          have hl : us.length = ps.length := by rw [← r.length, rd.length]; exact len _ _ _ _ h1
          have b := B s1 us I1.kIn (by simpa using hl)
          rw [List.append_nil] at b
          refine wpAny_call (codeAny_mono (F X.A X.stack s1 H1 ⟨us, []⟩ us vs Q E (h.gd gz) (h.rm cz) I1.env0 b r ⟨ds, G1, Q3, E3, rd, st.rel, h1, kk.step st, kx.step st⟩) fun r s' hq => ?_)
          cases r with
          | error er => exact h.passes pins σ H1 s1 er s' I1 hq
          | ok fl =>
            cases fl with
            | ret u => exact I1.after hq
            | next => exact False.elim hq
            | brk => exact False.elim hq
            | cont => exact False.elim hq
    · cases ch
/-! ### calls where an exception is handled -/
def spH (l : List (Str × SpE3)) (hx : Option (Addr × Addr × Addr)) (i : Nat) : Sp3 := match l[i]?, hx with
  | some (_, sp), some (a, C, dd) => sp a C dd
  | _, _ => fun _ _ _ _ => False
def eCallH {c : Cn} (i : Nat) (ts : List (CE c)) : CE c where
  t := spE (spH c.fnE c.hx i) (ts.map (·.t))
  chk := fun e => c.gd && c.hx.isSome && chkG (c.fnE.map (·.1)) i ts e
  ok := fun {k E X e} h ch => by
    simp only [Bool.and_eq_true] at ch
    obtain ⟨⟨gz, hz⟩, ch⟩ := ch
    obtain ⟨⟨a, C, dd⟩, eh⟩ := Option.isSome_iff_exists.mp hz
    unfold chkG at ch
    split at ch
    · rename_i x p es pos
      simp only [Bool.and_eq_true, decide_eq_true_eq] at ch
      obtain ⟨c1, ⟨⟨c2, c3⟩, c4⟩, c5⟩ := ch
      obtain ⟨n1, n2, n3⟩ := nameB_of c3
      obtain ⟨sp, e⟩ := names_get c1
      cases es with
      | nil => cases c5
      | cons a1 es =>
        cases ts with
        | nil => cases c4
        | cons ta ts =>
          have c4' := c4
          simp only [chkAs, Bool.and_eq_true] at c4
          obtain ⟨f, m1, m2, F⟩ := h.g.fnE i x sp e
          obtain ⟨fd, ps, B, len, F⟩ := F.ok
          refine ⟨fun pins s σ H Q I q => ?_⟩
          obtain ⟨τ, G, Q3, E3, rs, g, q, kk, kx⟩ := q
          refine wpAny_Call_Name_kw (ld_glob I (gl_of h c2) m1 ?_ n1)
          refine PySem.W.callWith_K (h₀ := X.base) I.ok.mod.kin m2 (thn ((args_ok h c4').run pos pins s σ H (fun vs H1 => ∃ G1 ds, Step ⟨X.K, c.T⟩ H G H1 G1 ∧ Reps X.K H1 G1 vs ds ∧ sp a C dd ds G1 Q3 E3) I
            ⟨τ, G, _, E3, rs, g, q, fun vs H1 ds G1 s1 q1 h1 => ⟨G1, ds, s1, q1, by unfold spH at h1; rw [e, eh] at h1; exact h1⟩, kx⟩) fun us s1 ⟨vs, H1, I1, r, G1, ds, st, rd, h1⟩ => ⟨I1.kIn, ?_⟩) (star_of c4.1.1) (back_any c4.2)
          have hl : us.length = ps.length := by rw [← r.length, rd.length]; exact len _ _ _ _ _ _ _ h1
          have b := B s1 us I1.kIn (by simpa using hl)
          rw [List.append_nil] at b
          obtain ⟨hC, oe, hp, hzc, hv⟩ := h.hx a C dd eh
          have P1 := I1.pin (a, oe) (fst_mem hp)
          have hpin : L2H.PinOk X.stack H1 s1 (a, oe) := ⟨P1.1, P1.2.1, fun hm => (List.mem_cons.mp (I1.stkSub a hm)).elim P1.2.2.1 P1.2.2.2.1, P1.2.2.2.2⟩
          refine wpAny_call (codeAny_mono (F X.A X.stack s1 H1 ⟨us, []⟩ us vs Q E a oe C dd hC (h.gd gz) (h.rmH.mono (Nat.le_succ k)) hzc hv hpin I1.env0 b r ⟨ds, G1, Q3, E3, rd, st.rel, h1, kk.step st, kx.step st⟩) fun r s' hq => ?_)
          cases r with
          | error er => exact h.passes pins σ H1 s1 er s' I1 hq
          | ok fl =>
            cases fl with
            | ret u => exact I1.after hq
            | next => exact False.elim hq
            | brk => exact False.elim hq
            | cont => exact False.elim hq
    · cases ch
end L3
set_option Elab.async false
set_option linter.all false
set_option maxRecDepth 100000
set_option maxHeartbeats 2000000
namespace L3
open PySem PySem.Spec PyProof.Rows L2 LamX
/-! ### defs for calls where an exception is handled -/
section
variable {P : Program} {w : World} {K : PySem.W.Frag} {mg : Str → Option Value} {base : Heap} {T : List (Addr × Str)} {k : Nat} {x qual : Str} {params : Arguments} {body : List Stmt} {scope : Scope} {kws : List (Str × V)} {f : Addr} {fd : FuncData} {ps N : List Str} {exs : List Addr}
theorem fnE3 {c : Addr → Addr → Addr → Cn} {sp : SpE3} (F : FunD K x qual params body scope [] kws f fd) (hb : Binds K fd ps []) (S : FnScope N ps scope)
    (hc : ∀ a C dd, (c a C dd).T = T ∧ (c a C dd).N = N ∧ (c a C dd).nm = scope.names ∧ (c a C dd).exs = exs ∧ (c a C dd).hx = some (a, C, dd) ∧ (c a C dd).hot = true ∧ (c a C dd).lm = none)
    (g : ∀ a C dd, GOk (c a C dd) k P w K mg base) (B : ∀ a C dd, List (CS (c a C dd))) (ch : ∀ a C dd, chkSs (B a C dd) body = true) (len : ∀ a C dd ds G Q E, sp a C dd ds G Q E → ds.length = ps.length)
    (h : ∀ a C dd ds G Q E, C ∈ exs → sp a C dd ds G Q E → seqT ((B a C dd).map (·.t)) { nx := fun _ G' => FG Q .non G', rt := FG Q, xe := FX E } (start3 N ds) G) : FnE P w K mg base T (k + 2) f exs sp := by
  obtain ⟨oc, od, dV, kV, doc, pm, an, cdv, ct, osl, rfl, lk, hcd, _, _⟩ := F.ex
  refine ⟨_, ps, hb, len, fun A outer s H args us vs Q E a oe C dd hC hg hr hz hv hpin e0 hbt r q => ?_⟩
  obtain ⟨c1, c2, c3, c4, c5, c6, c7⟩ := hc a C dd
  obtain ⟨ds, G, Q3, E3, rr, g0, q, kk, kx⟩ := q
  have hl : vs.length = ps.length := by rw [rr.length]; exact len _ _ _ _ _ _ _ q
  have KX : K.In s.heap := e0.mod.kin.keeps fun b o e => (e0.bs b o e).1
  have lim : s.heap.NoLimit := e0.mod.nolimit.keeps fun b o e => (e0.bs b o e).1
  have hkind : ∀ y ∈ ps.zip us, scope.names.lookup y.1 = some .local ∨ (scope.names.lookup y.1 = some .cell ∧ ((cellsFrom (s.heap.objs.size + 1) scope.names []).lookup y.1).isSome = true) := fun ⟨n, v⟩ hy => by
    rcases S.par n (List.of_mem_zip hy).1 with q | q
    · exact .inl q
    · exact .inr ⟨q, PySem.W.cellsFrom_some _ _ _ (.inl q)⟩
  refine codeAny_call_function hr.depth (KX _ _ lk) rfl S.co S.gen rfl (PySem.W.codeRec_of KX hcd) (hbt _ _ _ _ ?_)
  refine wpAny_newFunctionEnv_cells S.kind hkind fun env he s1 xx => ?_
  subst he
  refine ⟨lim.keeps xx.toInCall.keep, codeAny_func ?_⟩
  have I : Inv (L2H.cxH (L2.CX P w) P w K mg base N qual scope f cdv A outer s H E (a, oe)) [] (L2.start N vs) H s1 := L2H.inv_startH S hpin e0 hl r xx
  have hr' := hr.deeper (envOfC qual scope s.heap.objs.size f cdv)
  have XO : XOk (c a C dd) k E (L2H.cxH (L2.CX P w) P w K mg base N qual scope f cdv A outer s H E (a, oe)) := {
    tk := takes_of rfl rfl rfl (E₁ := fun e' s'' => L2.CX P w outer H s E e' s'') rfl
    rmH := hr'
    cold := fun z => by rw [c6] at z; cases z
    hx := fun a' C' dd' z => by
      rw [c5] at z
      cases z
      rw [c4]
      exact ⟨hC, oe, List.mem_cons_self, hz, hv⟩
    gd := fun _ => hg
    lm := fun cP P z => by rw [c7] at z; cases z
    nd := S.nd
    N := c2.symm
    nm := c3.symm
    kind := S.kind
    cel := fun _ _ => rfl
    po := passes_of (K := fun e s'' => L2.CX P w outer H s E e s'') (E₁ := fun e' s'' => L2.CX P w outer H s E e' s'') rfl
    g := g a C dd }
  have ht := seq_ok XO (ch a C dd)
  have hq := h a C dd ds G Q3 E3 hC q
  rw [← c2] at hq
  refine wpAny_mono (ht.run [] s1 (L2.start N vs) H { nx := fun _ H' => Q .non H', rt := Q } I ⟨_, G, _, ?_, ?_, hq, ⟨fun σ' H' τ' G' s1 _ q' => kk.fg _ _ _ _ ?_ .non q', fun _ _ _ _ _ _ z => z.elim, fun _ _ _ _ _ _ z => z.elim, ?_, ?_⟩⟩) (fun fl s' hs => ?_) fun e s' hs => hs
  · rw [c2, c1]; exact rel_start rr
  · rw [c1]; exact g0
  · rw [c1] at s1; exact s1
  · rw [c1]; exact kk.fg
  · rw [c1]; exact kx.fx
  have fin : ∀ {σ' : L2.St} {H' : Hp} {v : V} {u : Value}, Inv (L2H.cxH (L2.CX P w) P w K mg base N qual scope f cdv A outer s H E (a, oe)) [] σ' H' s' → RelV v u → Q v H' → L2.CE outer P w H s Q u s' :=
    fun {σ' H' v u} J rv q => ⟨v, H', J.os, J.bare, J.base, J.hok, rv, q⟩
  cases fl with
  | ret u =>
    obtain ⟨v, σ', H', J, rv, q⟩ := hs
    exact fin J rv q
  | next =>
    obtain ⟨σ', H', J, q⟩ := hs
    exact fin (v := V.non) (u := Value.none) J rfl q
  | brk =>
    obtain ⟨_, _, _, q⟩ := hs
    exact False.elim q
  | cont =>
    obtain ⟨_, _, _, q⟩ := hs
    exact False.elim q
end
end L3
set_option Elab.async false
set_option linter.all false
set_option maxRecDepth 100000
set_option maxHeartbeats 2000000
namespace L3
open PySem PySem.Spec PyProof.Rows L2 LamX
/-! ### what is told of an exception: a def that calls what it gets, within a try -/
def suiteOf : List Stmt → List Stmt
  | [_, .Try _ [.ExceptHandler _ _ s _] _ _ _, _] => s
  | _ => []
def chkFault (CEx : Str) (nm : List (Str × NameKind)) : List Stmt → Bool
  | [.Assign [.Name f1 _] (.Constant .none _ _) _, .Try [.Expr (.Call (.Name a1 _) [] [] _) _] [.ExceptHandler (some (.Name x _)) (some n) (_ :: _) _] [] [] _, .Return (some (.Name f2 _)) _] =>
    decide (f1 = "found") && decide (a1 = "call") && decide (x = CEx) && decide (n = "e") && decide (f2 = "found") && decide (nm.lookup ("call" : Str) = some .local) && decide (nm.lookup ("found" : Str) = some .local) && decide (nm.lookup ("e" : Str) = some .local) && decide (nm.lookup CEx = some .globalImplicit) && nameB CEx
  | _ => false
theorem takes_len {X : Cx} {W : WX} (t : Takes X W) : Takes X (fun cls d σ H => σ.length = X.N.length → W cls d σ H) := fun u s' ⟨a, B, sI, pins, σ, H, cls, d, e, I, nb, up, sky, na, os, ag, w⟩ => t u s' ⟨a, B, sI, pins, σ, H, cls, d, e, I, nb, up, sky, na, os, ag, w I.len⟩
section
variable {P : Program} {w : World} {K : PySem.W.Frag} {mg : Str → Option Value} {base : Heap} {T : List (Addr × Str)} {k : Nat} {x : Str} {params : Arguments} {body : List Stmt} {scope : Scope} {f : Addr} {fd : FuncData} {exs : List Addr} {CEx : Str} {CS0 : Addr}
theorem faultAt {c : Addr → Addr → Addr → Cn} {ft : Ft} (F : FunD K x x params body scope [] [] f fd) (hb : Binds K fd ["call"] []) (S : FnScope ["call", "found", "e"] ["call"] scope) (ch : chkFault CEx scope.names body = true)
    (hCE : mg CEx = some (.ref CS0)) (hexm : ∀ C ∈ exs, PySem.W.exmOne K (.ref C) (.ref CS0) = some true)
    (hc : ∀ a C dd, (c a C dd).T = T ∧ (c a C dd).N = (["call", "found", "e"] : List Str) ∧ (c a C dd).nm = scope.names ∧ (c a C dd).exs = exs ∧ (c a C dd).hx = some (a, C, dd) ∧ (c a C dd).hot = true ∧ (c a C dd).lm = none)
    (g : ∀ a C dd, GOk (c a C dd) k P w K mg base) (B : ∀ a C dd, List (CS (c a C dd))) (chs : ∀ a C dd, chkSs (B a C dd) (suiteOf body) = true) (hft : ∀ C fs vals, ft C fs vals → C ∈ exs)
    (h : ∀ a C dd fs vals G Q3, ft C fs vals → G dd = some (.xd fs) → Q3 (.tup vals) G → seqT ((B a C dd).map (·.t)) { nx := fun τ' G' => ∃ d, τ'[1]? = some (some d) ∧ FG Q3 d G', rt := fun _ _ => False, xe := fun _ _ _ => False } [none, none, some (.obj a)] G) :
    FaultAt P w K mg base T (k + 1) x f ft := by
  obtain ⟨oc, od, dV, kV, doc, pm, an, cdv, ct, osl, rfl, lk, hcd, _, _⟩ := F.ex
  unfold chkFault at ch
  split at ch
  case h_2 => cases ch
  rename_i f1 p1 j1 p2 p3 a1 p4 p5 p6 x1 p7 n1 b0 suite p8 p9 f2 p10 p11
  simp only [Bool.and_eq_true, decide_eq_true_eq] at ch
  obtain ⟨⟨⟨⟨⟨⟨⟨⟨⟨rfl, rfl⟩, rfl⟩, rfl⟩, rfl⟩, l1⟩, l2⟩, l3⟩, l4⟩, l5⟩ := ch
  obtain ⟨e1, e2, e3⟩ := nameB_of l5
  refine ⟨["call", "found", "e"], "call", params, _, scope, dV, kV, doc, pm, cdv, ct, oc, an, od, osl, lk, hcd, hb, S, rfl, .inl l1, by decide, by decide, fun X q hP hw hK hM hB hg hr => ?_⟩
  subst hP hw hK hM hB
  intro f0 c' s H Q tl act hco hq
  have nd : (["call", "found", "e"] : List Str).Nodup := S.nd
  let Z : Cx := (cxOf C8.CX0 X.prog X.w X.K X.mg X.base ["call", "found", "e"] x scope f cdv X.A X.stack s H C8.E0).nox
  have hrZ : L2H.RoomH (k + 1) Z.A := hr.deeper _
  have XO : ∀ (a : Addr) (oe : Obj) (C dd : Addr) (pn : List (Addr × Obj)), C ∈ exs → Zc (.ref C) (some dd) oe → (∃ vs, oe.data = .fields vs) → XOk (c a C dd) k (fun _ _ _ => False) (Z.suite a ((a, oe) :: pn)) := by
    intro a oe C dd pn hC hz hv
    obtain ⟨c1, c2, c3, c4, c5, c6, c7⟩ := hc a C dd
    exact {
      tk := LamX.takes0
      rmH := ⟨hrZ.dp, hrZ.un⟩
      cold := fun z => by rw [c6] at z; cases z
      hx := fun a' C' dd' z => by
        rw [c5] at z
        cases z
        rw [c4]
        exact ⟨hC, oe, List.mem_cons_self, hz, hv⟩
      gd := fun _ => hg
      lm := fun cP P z => by rw [c7] at z; cases z
      nd := nd
      N := c2.symm
      nm := c3.symm
      kind := S.kind
      cel := fun _ _ => rfl
      po := PassesOwn.never
      g := g a C dd }
  have hgl : Gl Z x1 := l4
  refine ⟨_, pss_cons (ps_set (i := 1) nd rfl (.inl l2) pe_non) (pss_cons (ps_try_as (X := Z) (i := 2) (c := .ref CS0)
      (tb := fun W D σ H => ∃ Ech : XK, (∀ cls d σ' H', σ'.length = 3 → Ech cls d H' → W cls d σ' H') ∧ σ[0]? = some (some (.ref f0)) ∧ H c' = some (CodeO c' q) ∧ tl Ech H (fun _ H' => D.nx σ H'))
      (ts := fun a cls d D σ H => ∃ C dd, cls = .ref C ∧ d = some dd ∧ C ∈ exs ∧ LS ⟨X.K, T⟩ (fun _ _ _ => False) (seqT ((B a C dd).map (·.t))) D σ H)
      rfl rfl nd rfl l3 ⟨hgl, e1, .inl hCE⟩ LamX.takes0 (fun W pn xe tk _ => ?_) (fun a oe cls d pn hz hv => ?_)) (pss_one (ps_ret (pe_var (i := 1) rfl (.inl l2) (by decide) (by decide))))), ?_⟩
  · refine ⟨fun pins s' σ H' D I h' => ?_⟩
    obtain ⟨Ech, hW, h1, h2, h3⟩ := h'
    have hp := act (fun cls d σ H => σ.length = 3 → W cls d σ H) pn xe Ech p4 p5 (takes_len tk) (fun cls d σ' H' e l => hW cls d σ' H' l e)
    exact (pss_one (ps_expr (pos := p6) hp)).run pins s' σ H' D I ⟨h1, h2, h3⟩
  · refine ⟨fun pins s' σ H' D I h' => ?_⟩
    obtain ⟨C, dd, rfl, rfl, hC, h'⟩ := h'
    have := seq_ok (XO a oe C dd pn hC hz hv) (chs a C dd)
    rw [(hc a C dd).1] at this
    exact this.run pins s' σ H' D I h'
  · have eQ : (fun (_ : V) (H' : Hp) => ∃ v, (some (some V.non) : Option (Option V)) = some (some v) ∧ Q v H') = fun _ H' => Q .non H' := by
      funext _ H'
      exact propext ⟨fun ⟨v, e, q⟩ => by cases e; exact q, fun q => ⟨_, rfl, q⟩⟩
    refine ⟨fun cls od H' => ∃ C dd gs fs G vals Q3, cls = .ref C ∧ od = some dd ∧ G dd = none ∧ H' dd = some (.xd gs) ∧ FReps X.K H' G gs fs ∧ GRel ⟨X.K, T⟩ H' G ∧ ft C fs vals ∧ Q3 (.tup vals) G ∧ EK ⟨X.K, T⟩ H' G Q3 Q, fun cls d σ' H' l e => ?_, rfl, hco, ?_⟩
    case refine_2 =>
      show tl _ H (fun (_ : V) (H' : Hp) => ∃ v, (some (some V.non) : Option (Option V)) = some (some v) ∧ Q v H')
      rw [eQ]
      exact hq
    obtain ⟨C, dd, gs, fs, G, vals, Q3, rfl, rfl, hgd, hd, fr, gr, hf, q3, ek⟩ := e
    have hC := hft C fs vals hf
    refine ⟨true, hexm C hC, fun _ a ha => ?_, fun z => by cases z⟩
    have st : Step ⟨X.K, T⟩ H' G H' (updG G dd (.xd fs)) := Step.track gr hd fr
    refine ⟨C, dd, rfl, rfl, hC, [none, none, some (.obj a)], updG G dd (.xd fs), _, ?_, st.rel, h a C dd fs vals (updG G dd (.xd fs)) (fun d G' => ∃ G0, Les G0 G' ∧ Q3 d G0) hf updG_same ⟨G, ?_, q3⟩, ?_⟩
    · refine ⟨by simp [l], fun i d hi => ?_⟩
      match i, hi with
      | 2, hi =>
        have hi : some (some (D.obj a)) = some (some d) := hi
        cases hi
        refine ⟨.ref a, ?_, .obj a⟩
        rw [List.getElem?_set]
        simp [l]
    · intro b
      by_cases z : b = dd
      · subst z
        exact .inr hgd
      · left; rw [updG_ne z]
    · refine ⟨fun σ'' H'' τ' G'' s1 rs ⟨d, hd1, G0, l0, q0⟩ => ?_, fun _ _ _ _ _ _ z => z.elim, fun _ _ _ _ _ _ z => z.elim, fun _ _ _ _ _ _ z => z.elim, fun _ _ _ _ _ _ _ _ z => z.elim⟩
      obtain ⟨v, hv, rv⟩ := rs.2 1 d hd1
      have sf := Step.forget s1.rel l0
      obtain ⟨G1, l1, q1⟩ := q0
      have sg := Step.forget sf.rel l1
      refine ⟨v, ?_, ek v H'' d G1 (((st.trans s1).trans sf).trans sg) ((rv.step sf).step sg) q1⟩
      rw [List.getElem?_set_ne (by decide)]
      exact hv
end
end L3
set_option Elab.async false
set_option linter.all false
set_option maxRecDepth 100000
set_option maxHeartbeats 2000000
namespace L3
open PySem PySem.Spec PyProof.Rows L2 LamX
/-! ### a lambda handed to a def that calls it -/
theorem lamc_ok {c : Cn} {k : Nat} {P : Program} {w : World} {K : PySem.W.Frag} {mg : Str → Option Value} {base : Heap} (g : GOk c k P w K mg base) (nm : List (Str × NameKind)) : GOk (c.lamc nm) (k - 2) P w K mg base where
  fn := g.fnL
  gv := g.gv
  bt := g.bt
  fl := g.fl
  mt := fun i m C sp e => by cases e
  mks := fun i m C sp e => by cases e
  cs := g.cs
  rz := fun i x C fs e => by cases e
  gc := g.gc
  ex := ⟨(fun _ h => by cases h), (fun _ h => by cases h), (fun _ h => by cases h), (fun _ h => by cases h), (fun _ h => by cases h)⟩
  fnE := fun i x sp e => by cases e
  fnL := fun i x sp e => by cases e
  nd := fun e => by cases e
  fnG := fun i x sp e => by cases e
  lf := fun x ft e => by cases e
theorem lamX_ok {c : Cn} {k : Nat} {E0 : XK} {X : Cx} (h : XOk c k E0 X) (h2 : 2 ≤ k) {scope : Scope} (L : LamS X.env.scope scope) (A : Around) (outer : List Env) (s : Shared) (H : Hp) (E : XK) (f c' : Addr) (hr : Room (k - 1) (A.deeper (lamEnv X scope s.heap.objs.size f c'))) :
    XOk (c.lamc scope.names) (k - 2) E (lamCx X A outer s H E scope f c') where
  tk := takes_of rfl rfl rfl (E₁ := fun e' s'' => L2.CX X.prog X.w outer H s E e' s'') rfl
  rmH := by
    have e : k - 2 + 1 = k - 1 := by omega
    rw [e]
    exact ⟨hr.dp, hr.un⟩
  cold := fun _ => ⟨hr.hd, rfl⟩
  hx := fun a C dd z => by cases z
  gd := fun z => by cases z
  lm := fun a C z => by cases z
  nd := h.nd
  N := h.N
  nm := rfl
  kind := L.kind
  cel := fun z => by cases z
  po := passes_of (K := fun e s'' => L2.CX X.prog X.w outer H s E e s'') (E₁ := fun e' s'' => L2.CX X.prog X.w outer H s E e' s'') rfl
  g := lamc_ok h.g scope.names
theorem Step.extN {w : Wd} {H H1 : Hp} {G : Gp} (r : GRel w H G) (e : ExtN H H1) (t : Tabs w.T H1) : Step w H G H1 G := by
  have keep : ∀ a o, H a = some o → G a = none → (∀ ps, o ≠ .tbl ps) → (∀ fs, o ≠ .xd fs) → H1 a = some o ∧ G a = none := fun a o h n t _ => ⟨e a o h t, n⟩
  have look : ∀ a, H a = none ∨ (∃ ps, H a = some (.tbl ps)) ∨ ∃ o, H a = some o ∧ H1 a = some o ∧ ∀ ps, o ≠ .tbl ps := fun a => by
    cases q : H a with
    | none => exact .inl rfl
    | some o =>
      by_cases z : ∃ ps, o = .tbl ps
      · obtain ⟨ps, rfl⟩ := z
        exact .inr (.inl ⟨ps, rfl⟩)
      · have z' : ∀ ps, o ≠ .tbl ps := fun ps y => z ⟨ps, y⟩
        exact .inr (.inr ⟨o, rfl, e a o q z', z'⟩)
  refine ⟨fun a o h n t t2 => (keep a o h n t t2).1, fun a h => ?_, fun a ps h => ?_, fun a fs h => ?_, fun a h => .inl h, ⟨t, fun a o q => ?_⟩⟩
  · rcases look a with z | z | ⟨o, z, z1, _⟩
    · exact .inl z
    · exact .inr z
    · rw [h] at z1; cases z1
  · rcases look a with z | z | ⟨o, z, z1, z2⟩
    · exact .inl z
    · exact .inr z
    · rw [h] at z1; cases z1; exact absurd rfl (z2 ps)
  · rcases look a with z | z | ⟨o, z, z1, z2⟩
    · exact .inr (.inl z)
    · exact .inr (.inr (.inl z))
    · rw [h] at z1; cases z1; exact .inr (.inr (.inr ⟨fs, z⟩))
  · have o1 := r.2 a o q
    rcases look a with z | ⟨ps, z⟩ | ⟨u, z, z1, _⟩
    · exact absurd z o1.there
    · exact absurd z (o1.notbl ps)
    · exact o1.mono (z1.trans z.symm) keep
def lamE (ft : Option (Str × Ft)) (b : TE3) : TE3 := fun τ G Q E => match ft with
  | some (_, ft) => b τ G (fun _ G1 => Q .non G1) (fun C fs G1 => fs ≠ [] ∧ ∃ vals, ft C fs vals ∧ Q (.tup vals) G1)
  | none => False
def eLam {c : Cn} (b : ∀ nm, CE (c.lamc nm)) (hE : ∀ nm, (b nm).t = (b []).t := by intro _; rfl) : CE c where
  t := lamE c.lf (b []).t
  chk := fun
    | .Call (.Name x _) [.Lambda ⟨[], [], none, [], [], none, []⟩ body scope _] [] _ => (!c.hot) && c.gd && c.lm.isSome && decide (c.lf.map (·.1) = some x) && glB c.nm x && nameB x && lamSB (scOf c.nm) scope && (b scope.names).chk body
    | _ => false
  ok := fun {k E X e} h ch => by
    split at ch
    · rename_i x p body scope lpos pos
      simp only [Bool.and_eq_true, decide_eq_true_eq] at ch
      obtain ⟨⟨⟨⟨⟨⟨⟨c1, c2⟩, c3⟩, c4⟩, c5⟩, c6⟩, c7⟩, c8⟩ := ch
      have cz := cold_of c1
      obtain ⟨n1, n2, n3⟩ := nameB_of c6
      obtain ⟨⟨cP, PP⟩, elm⟩ := Option.isSome_iff_exists.mp c3
      obtain ⟨⟨y, ft⟩, elf, ey⟩ : ∃ p, c.lf = some p ∧ p.1 = x := by
        cases e : c.lf with
        | none => rw [e] at c4; cases c4
        | some p => rw [e] at c4; exact ⟨p, rfl, Option.some.inj c4⟩
      subst ey
      obtain ⟨l1, l2, l3, l4⟩ := h.lm cP PP elm
      obtain ⟨k2, g, m1, m2, F⟩ := h.g.lf y ft elf
      obtain ⟨Ng, a, pg, bg, sg, dV, kV, doc, pm, cdv, ct, oc, an, od, osl, lk, hcg, hb, Sg, hNg, hva, d1, d2, F⟩ := F.ok
      have L : LamS X.env.scope scope := by
        have L0 := lamS_by c7
        refine ⟨L0.kind, L0.co, L0.gen, L0.own, fun z hz e => ?_⟩
        rw [h.nm]
        exact L0.free z hz e
      have hr : Room (k - 1 + 2) X.A := by
        have e : k - 1 + 2 = k + 1 := by omega
        rw [e]
        exact h.room cz
      refine PE.imp (pe_lamcall (T := c.T) (TT := TTf ⟨X.K, c.T⟩ ft) (k := k - 1) (t := fun E => LE ⟨X.K, c.T⟩ E (b []).t) (gl_of h c5) m1 m2 lk hcg hb Sg hNg hva (F X _ rfl rfl rfl rfl rfl (h.gd c2) h.rmH) l2 l1 l3 l4 hr L rfl (fun _ _ _ _ _ => rfl) (fun A outer s H E f c' hr' => ?_) n1 d1 d2) fun σ H Q q => ?_
      · rw [← hE scope.names]
        exact (b scope.names).ok (lamX_ok h k2 L A outer s H E f c' hr') c8
      · obtain ⟨τ, G, Q3, E3, rs, gr, q, kk, kx⟩ := q
        unfold lamE at q
        rw [elf] at q
        refine ⟨gr.1, fun H1 eN T1 => ?_⟩
        have st : Step ⟨X.K, c.T⟩ H G H1 G := Step.extN gr eN T1
        refine ⟨τ, G, _, _, rs.step st, st.rel, q, fun v H' d G' s1 r1 q1 => kk .non H' .non G' (st.trans s1) .non q1, fun cls od H' C fs G' s1 r1 q1 => ?_⟩
        obtain ⟨rc, r1⟩ := r1
        obtain ⟨hne, vals, hft, q1⟩ := q1
        rcases r1 with ⟨_, r1⟩ | ⟨d, gs, e1, e2, e3, e4⟩
        · exact absurd r1 hne
        · exact ⟨C, d, gs, fs, G', vals, Q3, rc, e1, e2, e3, e4, s1.rel, hft, q1, kk.step (st.trans s1)⟩
    · cases ch
/-! ### a def that makes lambdas -/
def LamOk (c : Cn) (fd : FuncData) (base : Heap) (mg : Str → Option Value) (qual : Str) : Prop := ∀ cP PP, c.lm = some (cP, PP) → fd.code = .ref cP ∧ TabB base mg cP PP ∧ (PP, qual ++ ".<locals>." ++ "<lambda>") ∈ c.T ∧ ∀ p ∈ c.T, p.1 = PP → p.2 = qual ++ ".<locals>." ++ "<lambda>"
section
variable {P : Program} {w : World} {K : PySem.W.Frag} {mg : Str → Option Value} {base : Heap} {k : Nat} {c : Cn} {x qual : Str} {params : Arguments} {body : List Stmt} {scope : Scope} {kws : List (Str × V)} {f : Addr} {fd : FuncData} {ps : List Str} {sp : Sp3}
theorem fnG3 (F : FunD K x qual params body scope [] kws f fd) (hb : Binds K fd ps []) (S : FnScope c.N ps scope) (hnm : c.nm = scope.names)
    (hl : LamOk c fd base mg qual)
    (g : GOk c k P w K mg base) (B : List (CS c)) (ch : chkSs B body = true) (len : ∀ ds G Q E, sp ds G Q E → ds.length = ps.length)
    (h : ∀ ds G Q E, sp ds G Q E → seqT (B.map (·.t)) { nx := fun _ G' => FG Q .non G', rt := FG Q, xe := FX E } (start3 c.N ds) G) (hz : c.hx = none := by rfl) : FnG P w K mg base c.T (k + 2) f sp := by
  obtain ⟨oc, od, dV, kV, doc, pm, an, cdv, ct, osl, rfl, lk, hcd, _, _⟩ := F.ex
  refine ⟨_, ps, hb, len, fun A outer s H args us vs Q E hg hr e0 hbt r q => ?_⟩
  obtain ⟨ds, G, Q3, E3, rr, g0, q, kk, kx⟩ := q
  have hlen : vs.length = ps.length := by rw [rr.length]; exact len _ _ _ _ q
  refine run_ofS (CX := L2.CX P w) (N := c.N) lk hcd S hr e0 hbt r hlen fun hr' => ?_
  have XO : XOk c k E (cxOf (L2.CX P w) P w K mg base c.N qual scope f cdv A outer s H E) := {
    tk := takes_of rfl rfl rfl (E₁ := fun e' s'' => L2.CX P w outer H s E e' s'') rfl
    rmH := ⟨hr'.dp, hr'.un⟩
    cold := fun _ => ⟨hr'.hd, rfl⟩
    hx := fun a C dd z => by rw [hz] at z; cases z
    gd := fun _ => hg
    lm := fun cP PP z => hl cP PP z
    nd := S.nd
    N := rfl
    nm := hnm.symm
    kind := S.kind
    cel := fun _ _ => rfl
    po := passes_of (K := fun e s'' => L2.CX P w outer H s E e s'') (E₁ := fun e' s'' => L2.CX P w outer H s E e' s'') rfl
    g := g }
  refine ⟨_, seq_ok XO ch, ?_⟩
  exact ⟨start3 c.N ds, G, _, rel_start rr, g0, h _ _ _ _ q, ⟨fun σ' H' τ' G' s1 _ q' => kk.fg _ _ _ _ s1 .non q', fun _ _ _ _ _ _ z => z.elim, fun _ _ _ _ _ _ z => z.elim, kk.fg, kx.fx⟩⟩
end
end L3
set_option Elab.async false
set_option linter.all false
set_option maxRecDepth 100000
set_option maxHeartbeats 2000000
namespace L3
open PySem PySem.Spec PyProof.Rows L2 LamX
/-! ### f() where nothing's text is being made -/
def eCallG0 {c : Cn} (i : Nat) : CE c where
  t := spE (spG c.fnG i) []
  chk := fun
    | .Call (.Name x _) [] [] _ => (!c.hot) && (c.gd && (decide ((c.fnG.map (·.1))[i]? = some x) && (glB c.nm x && nameB x)))
    | _ => false
  ok := fun {k E X e} h ch => by
    split at ch
    · rename_i x p pos
      simp only [Bool.and_eq_true, decide_eq_true_eq] at ch
      obtain ⟨cz, gz, c1, c2, c3⟩ := ch
      have cz := cold_of cz
      obtain ⟨n1, n2, n3⟩ := nameB_of c3
      obtain ⟨sp, e⟩ := names_get c1
      obtain ⟨f, m1, m2, F⟩ := h.g.fnG i x sp e
      obtain ⟨fd, ps, B, len, F⟩ := F.ok
      refine ⟨fun pins s σ H Q I q => ?_⟩
      obtain ⟨τ, G, Q3, E3, rs, g, q, kk, kx⟩ := q
      unfold spE argT spG at q
      rw [e] at q
      refine wpAny_Call_Name_kw (ld_glob I (gl_of h c2) m1 ?_ n1)
      refine PySem.W.callWith_K0 I.kIn m2 ?_
      have hl : ([] : List Value).length = ps.length := by rw [← len _ _ _ _ q]; rfl
      have b := B s [] I.kIn hl
      refine wpAny_call (codeAny_mono (F X.A X.stack s H ⟨[], []⟩ [] [] Q E (h.gd gz) (h.rm cz) I.env0 b .nil ⟨[], G, Q3, E3, .nil, g, q, kk, kx⟩) fun r s' hq => ?_)
      cases r with
      | error er => exact h.passes pins σ H s er s' I hq
      | ok fl =>
        cases fl with
        | ret u => exact I.after hq
        | next => exact False.elim hq
        | brk => exact False.elim hq
        | cont => exact False.elim hq
    · cases ch
end L3
set_option Elab.async false
set_option linter.all false
set_option maxRecDepth 100000
set_option maxHeartbeats 1000000
namespace W75
open PySem PySem.Spec PyProof.Rows L2 LamX L3 Hd
local macro_rules | `(tactic| walk_at "den") => `(tactic| simp only [List.map, sRet, sSet, sSetLc, sAsg, sPar, sPar3, sExpr, sPass, sBreak, sCont, sIf, sWhile, sFor, sAug, sFld3, sFldAug3, sSub, sRaise,
  seqT, retT, setT, asgT, parT, dropT, ifT, augT, fldT, fldAugT, subT, rzT, eAnds, eOrs, eNot, eBf, eVar, eTy, eInt, eStr, eBl, eNon, eGlob, eBin, eNeg, eCmp, eChain, eIf, eTup, eLst, eFrz, eIx, eSl, eFld, eCall, eCall0, eBm, eOm, eLc, eMake, eDisp, eGcd, iSeq, iLst, iTupl, iTxt, L3.iRng1, L3.iRng2, iEnm, iEnmT, iRngDn, eDict0, L3.ifsT,
  tCmp3, tChain3, tTru, tNot3, tAnds, tOrs, testT, truT, notT, andT, orT, andE, orE, notE, ifE, cE', argT, varE, cE, opE, unE, chainE, tupE, lstE, slE, optE, spE, mtE, omE, makeE, dispE, Bf.r, Bm.r, Bm.ty, Tg.t, setAll, Option.map,
  List.getElem?_cons_zero, List.getElem?_cons_succ, List.set_cons_zero, List.set_cons_succ, Option.some.injEq, exists_eq_left', List.length_cons, List.length_nil, Nat.reduceAdd, true_and, binD, cmpD, augD, fnSp, mtC, mkC, rzC, gvD])
variable {P : Program} {w : World} {K : PySem.W.Frag} {mg : Str → Option Value} {base : Heap} {T : List (Addr × Str)} {k : Nat} {f : Addr} {fd : FuncData}
/-! ### whole numbers, ratios -/
def S_is_integer (cs : List Addr) (d : D) (G : Gp) (Q : K3) (E : X3) : Prop := ∃ k, kn cs G d = some k ∧ Q (.bl (k == "int")) G
abbrev s_is_integer : Stmt := (top 21)
def n_is_integer : List Str := ["value"]
def b_is_integer (c : Cn) : List (CS c) := [sRet (eAnds [(eBf .isi [(eVar 0), (eTy "int")]), (eNot (eBf .isi [(eVar 0), (eTy "bool")]))])]
def c_is_integer (T : List (Addr × Str)) (cs : List Addr) : Cn := { T := T, N := n_is_integer, nm := (defScope (top 21)).names, bt := ["isinstance", "int", "bool"], cs := cs }
theorem k_is_integer (T : List (Addr × Str)) (cs : List Addr) : chkSs (b_is_integer (c_is_integer T cs)) (defBody (top 21)) = true := by kernel_rfl
def sp_is_integer (cs : List Addr) : Sp3 := fun ds G Q E => match ds with
  | [a0] => S_is_integer cs a0 G Q E
  | _ => False
abbrev W_is_integer (T : List (Addr × Str)) (cs : List Addr) (a0 : D) (G : Gp) (Q : K3) (E : X3) : Prop := seqT ((b_is_integer (c_is_integer T cs)).map (·.t)) { nx := fun _ G' => Q .non G', rt := Q, xe := E } [some a0] G
theorem p_is_integer {cs : List Addr} {d : D} {G : Gp} {Q : K3} {E : X3} (h : S_is_integer cs d G Q E) : W_is_integer T cs d G Q E := by
  obtain ⟨k, hk, q⟩ := h
  unfold W_is_integer b_is_integer
  walk_at "den"
  refine isi1 hk ⟨_, tru_bl, ?_⟩
  have e : isiB k "int" = (k == "int" || k == "bool") := by simp [isiB]
  have e2 : isiB k "bool" = (k == "bool") := by simp [isiB]
  split
  · rename_i h1
    refine isi1 hk ⟨_, tru_bl, ?_⟩
    rw [e] at h1
    rw [e2]
    by_cases hb : k = "bool"
    · subst hb; exact q
    · have : (k == "int") = true := by simpa [hb] using h1
      rw [this] at q
      have : (k == "bool") = false := by simpa using hb
      rw [this]
      exact q
  · rename_i h1
    rw [e] at h1 ⊢
    have h2 : (k == "int") = false := by
      cases hc : (k == "int")
      · rfl
      · rw [hc] at h1; exact absurd rfl h1
    have h3 : (k == "bool") = false := by
      cases hc : (k == "bool")
      · rfl
      · rw [hc, Bool.or_true] at h1; exact absurd rfl h1
    rw [h2] at q ⊢
    rw [h3]
    exact q
theorem ok_is_integer (cs : List Addr) (F : FunD K "is_integer" "is_integer" (defArgs (top 21)) (defBody (top 21)) (defScope (top 21)) [] [] f fd) (g : GOk (c_is_integer T cs) k P w K mg base) : FnAt P w K mg base T (k + 2) f (sp_is_integer cs) := by
  refine fnAt3 F (F.bindsN fun _ _ _ _ _ _ us hl => match us, hl with | [_], _ => rfl) (ps := ["value"]) (C8.fnScope_by (by kernel_rfl)) rfl g (b_is_integer _) (k_is_integer T cs) (fun ds G Q E h => ?_) (fun ds G Q E h => ?_)
  · rcases ds with _ | ⟨a0, _ | r⟩ <;> first | rfl | exact False.elim h
  · rcases ds with _ | ⟨a0, _ | r⟩ <;> first | exact False.elim h | exact p_is_integer h
/-- a ratio: a whole number, or a pair in lowest terms -/
def ratB : D → Bool
  | .int _ => true
  | .tup [.int a, .int b] => decide (1 < b) && decide ((Nat.gcd a.natAbs b.natAbs : Nat) = 1)
  | _ => false
def S_is_ratio (cs : List Addr) (d : D) (G : Gp) (Q : K3) (E : X3) : Prop := (∃ k, kn cs G d = some k) ∧ (∀ l, d = .tup l → ∀ e ∈ l, (knP e).isSome = true) ∧ Q (.bl (ratB d)) G
abbrev s_is_ratio : Stmt := (top 22)
def n_is_ratio : List Str := ["value"]
def b_is_ratio (c : Cn) : List (CS c) := [sIf (tNot3 (tTru (eBf .isi [(eVar 0), (eTy "tuple")]))) [sRet (eCall 0 [(eVar 0)])] [], sIf (tOrs [(tCmp3 .NotEq (eBf .len [(eVar 0)]) (eInt 2)), (tNot3 (tTru (eCall 0 [(eIx (eVar 0) (eInt 0))]))), (tNot3 (tTru (eCall 0 [(eIx (eVar 0) (eInt 1))])))]) [sRet (eBl false)] [], sRet (eAnds [(eCmp .Gt (eIx (eVar 0) (eInt 1)) (eInt 1)), (eCmp .Eq (eGcd [(eIx (eVar 0) (eInt 0)), (eIx (eVar 0) (eInt 1))]) (eInt 1))])]
def c_is_ratio (T : List (Addr × Str)) (cs : List Addr) : Cn := { T := T, N := n_is_ratio, nm := (defScope (top 22)).names, fn := [("is_integer", sp_is_integer cs)], bt := ["isinstance", "tuple", "len"], gc := ["gcd"], cs := cs }
theorem k_is_ratio (T : List (Addr × Str)) (cs : List Addr) : chkSs (b_is_ratio (c_is_ratio T cs)) (defBody (top 22)) = true := by kernel_rfl
def sp_is_ratio (cs : List Addr) : Sp3 := fun ds G Q E => match ds with
  | [a0] => S_is_ratio cs a0 G Q E
  | _ => False
abbrev W_is_ratio (T : List (Addr × Str)) (cs : List Addr) (a0 : D) (G : Gp) (Q : K3) (E : X3) : Prop := seqT ((b_is_ratio (c_is_ratio T cs)).map (·.t)) { nx := fun _ G' => Q .non G', rt := Q, xe := E } [some a0] G
theorem kn_tup {cs : List Addr} {G : Gp} {d : D} (h : kn cs G d = some "tuple") : ∃ l, d = .tup l := by
  unfold kn at h
  split at h
  · rename_i k e
    cases h
    unfold kindB at e
    split at e
    all_goals first | (exact absurd (Option.some.inj e) (by decide)) | (exact ⟨_, rfl⟩) | (cases e; done) | skip
    split at e <;> first | (exact absurd (Option.some.inj e) (by decide)) | (cases e; done)
  · split at h
    · split at h <;> first | (exact absurd (Option.some.inj h) (by decide)) | (cases h; done)
    · cases h
theorem kn_int {cs : List Addr} {G : Gp} {d : D} (h : kn cs G d = some "int") : ∃ l, d = .int l := by
  unfold kn at h
  split at h
  · rename_i k e
    cases h
    unfold kindB at e
    split at e
    all_goals first | (exact absurd (Option.some.inj e) (by decide)) | (exact ⟨_, rfl⟩) | (cases e; done) | skip
    split at e <;> first | (exact absurd (Option.some.inj e) (by decide)) | (cases e; done)
  · split at h
    · split at h <;> first | (exact absurd (Option.some.inj h) (by decide)) | (cases h; done)
    · cases h
theorem p_is_ratio {cs : List Addr} {d : D} {G : Gp} {Q : K3} {E : X3} (h : S_is_ratio cs d G Q E) : W_is_ratio T cs d G Q E := by
  obtain ⟨⟨k, hk⟩, h2, q⟩ := h
  unfold W_is_ratio b_is_ratio
  walk_at "den"
  simp only [c_is_ratio, List.getElem?_cons_zero]
  refine isi1 hk ⟨_, tru_bl, ?_⟩
  have e : isiB k "tuple" = (k == "tuple") := by
    unfold isiB
    have : (("tuple" : String) == "int") = false := by decide
    rw [this, Bool.and_false, Bool.or_false]
  rw [e]
  by_cases ht : k = "tuple"
  · subst ht
    obtain ⟨l, rfl⟩ := kn_tup hk
    rw [if_neg (by decide)]
    have h2 := h2 l rfl
    match l, h2 with
    | [], _ => exact ⟨_, rfl, by rw [if_pos (by simp), if_pos trivial]; exact q⟩
    | [a], _ => exact ⟨_, rfl, by
        rw [if_pos (by simp), if_pos trivial]
        have er : ratB (.tup [a]) = false := by cases a <;> rfl
        rw [er] at q
        exact q⟩
    | a :: b :: c :: r, _ =>
      refine ⟨_, rfl, ?_⟩
      have hl : ¬ (((r.length + 1 + 1 + 1 : Nat) : Int) = 2) := by omega
      have hl' : (!decide (((r.length + 1 + 1 + 1 : Nat) : Int) = 2)) = true := by rw [decide_eq_false hl]; rfl
      refine (if_pos ?_).mpr ?_
      · exact hl'
      · rw [if_pos trivial]
        have er : ratB (.tup (a :: b :: c :: r)) = false := by cases a <;> first | rfl | (cases b <;> rfl)
        rw [er] at q
        exact q
    | [a, b], h2 =>
      refine ⟨_, rfl, ?_⟩
      rw [if_neg (by simp)]
      obtain ⟨ka, ha⟩ := Option.isSome_iff_exists.mp (h2 a (by simp))
      obtain ⟨kb, hb⟩ := Option.isSome_iff_exists.mp (h2 b (by simp))
      refine ⟨ka, kn_of ha, _, tru_bl, ?_⟩
      by_cases ea : ka = "int"
      · subst ea
        obtain ⟨i, rfl⟩ := kn_int (kn_of (cs := cs) (G := G) ha)
        rw [if_neg (by decide)]
        refine ⟨kb, kn_of hb, _, tru_bl, ?_⟩
        by_cases eb : kb = "int"
        · subst eb
          obtain ⟨j, rfl⟩ := kn_int (kn_of (cs := cs) (G := G) hb)
          rw [if_neg (by decide)]
          refine ⟨_, tru_bl, ?_⟩
          have er : ratB (.tup [.int i, .int j]) = (decide (1 < j) && decide ((Nat.gcd i.natAbs j.natAbs : Nat) = 1)) := rfl
          rw [er] at q
          show if decide (1 < j) = true then _ else Q (.bl (decide (1 < j))) G
          split
          · rename_i h1
            rw [h1, Bool.true_and] at q
            have ec : decide (((Nat.gcd i.natAbs j.natAbs : Nat) : Int) = 1) = decide ((Nat.gcd i.natAbs j.natAbs : Nat) = 1) := by
              congr 1
              exact propext ⟨fun h => by omega, fun h => by omega⟩
            show Q (.bl (decide (((Nat.gcd i.natAbs j.natAbs : Nat) : Int) = 1))) G
            rw [ec]
            exact q
          · rename_i h1
            have h1' : decide (1 < j) = false := Bool.eq_false_iff.mpr h1
            rw [h1'] at q ⊢
            exact q
        · have z : (kb == "int") = false := by simpa using eb
          rw [z, if_pos (by decide)]
          have er : ratB (.tup [.int i, b]) = false := by
            cases b <;> first | rfl | (cases hb; exact absurd rfl eb)
          rw [er] at q
          exact q
      · have z : (ka == "int") = false := by simpa using ea
        rw [z, if_pos (by decide), if_pos trivial]
        have er : ratB (.tup [a, b]) = false := by
          cases a <;> first | rfl | (cases ha; exact absurd rfl ea)
        rw [er] at q
        exact q
  · have hz : (k == "tuple") = false := by simpa using ht
    rw [hz, if_pos (by decide)]
    refine ⟨k, hk, ?_⟩
    by_cases hi : k = "int"
    · subst hi
      obtain ⟨i, rfl⟩ := kn_int hk
      exact q
    · have z : (k == "int") = false := by simpa using hi
      rw [z]
      have er : ratB d = false := by
        cases d <;> first | rfl | (cases hk; exact absurd rfl hi) | (cases hk; exact absurd rfl ht)
      rw [er] at q
      exact q
theorem ok_is_ratio (cs : List Addr) (F : FunD K "is_ratio" "is_ratio" (defArgs (top 22)) (defBody (top 22)) (defScope (top 22)) [] [] f fd) (g : GOk (c_is_ratio T cs) k P w K mg base) : FnAt P w K mg base T (k + 2) f (sp_is_ratio cs) := by
  refine fnAt3 F (F.bindsN fun _ _ _ _ _ _ us hl => match us, hl with | [_], _ => rfl) (ps := ["value"]) (C8.fnScope_by (by kernel_rfl)) rfl g (b_is_ratio _) (k_is_ratio T cs) (fun ds G Q E h => ?_) (fun ds G Q E h => ?_)
  · rcases ds with _ | ⟨a0, _ | r⟩ <;> first | rfl | exact False.elim h
  · rcases ds with _ | ⟨a0, _ | r⟩ <;> first | exact False.elim h | exact p_is_ratio h
def ratP : D → Int × Int
  | .int i => (i, 1)
  | .tup [.int a, .int b] => (a, b)
  | _ => (0, 1)
def S_pair (cs : List Addr) (d : D) (G : Gp) (Q : K3) (E : X3) : Prop := ratB d = true ∧ Q (.tup [.int (ratP d).1, .int (ratP d).2]) G
theorem rat_cases {d : D} (h : ratB d = true) : (∃ i, d = .int i) ∨ ∃ a b : Int, d = .tup [.int a, .int b] ∧ 1 < b ∧ Nat.gcd a.natAbs b.natAbs = 1 := by
  unfold ratB at h
  split at h
  · exact .inl ⟨_, rfl⟩
  · rename_i a b
    simp only [Bool.and_eq_true, decide_eq_true_eq] at h
    exact .inr ⟨a, b, rfl, h.1, h.2⟩
  · cases h
abbrev s_pair : Stmt := (top 23)
def n_pair : List Str := ["number"]
def b_pair (c : Cn) : List (CS c) := [sRet (eIf (tTru (eBf .isi [(eVar 0), (eTy "int")])) (eTup [(eVar 0), (eInt 1)]) (eVar 0))]
def c_pair (T : List (Addr × Str)) (cs : List Addr) : Cn := { T := T, N := n_pair, nm := (defScope (top 23)).names, bt := ["isinstance", "int"], cs := cs }
theorem k_pair (T : List (Addr × Str)) (cs : List Addr) : chkSs (b_pair (c_pair T cs)) (defBody (top 23)) = true := by kernel_rfl
def sp_pair (cs : List Addr) : Sp3 := fun ds G Q E => match ds with
  | [a0] => S_pair cs a0 G Q E
  | _ => False
abbrev W_pair (T : List (Addr × Str)) (cs : List Addr) (a0 : D) (G : Gp) (Q : K3) (E : X3) : Prop := seqT ((b_pair (c_pair T cs)).map (·.t)) { nx := fun _ G' => Q .non G', rt := Q, xe := E } [some a0] G
theorem two_line : 2 ≤ sizeLine := by rw [sizeLine_eq]; decide
theorem p_pair {cs : List Addr} {d : D} {G : Gp} {Q : K3} {E : X3} (h : S_pair cs d G Q E) : W_pair T cs d G Q E := by
  obtain ⟨h1, q⟩ := h
  unfold W_pair b_pair
  walk_at "den"
  rcases rat_cases h1 with ⟨i, rfl⟩ | ⟨a, b, rfl, _, _⟩
  · exact isi1 (kn_of rfl) ⟨_, tru_bl, ⟨two_line, q⟩⟩
  · exact isi1 (kn_of rfl) ⟨_, tru_bl, q⟩
theorem ok_pair (cs : List Addr) (F : FunD K "pair" "pair" (defArgs (top 23)) (defBody (top 23)) (defScope (top 23)) [] [] f fd) (g : GOk (c_pair T cs) k P w K mg base) : FnAt P w K mg base T (k + 2) f (sp_pair cs) := by
  refine fnAt3 F (F.bindsN fun _ _ _ _ _ _ us hl => match us, hl with | [_], _ => rfl) (ps := ["number"]) (C8.fnScope_by (by kernel_rfl)) rfl g (b_pair _) (k_pair T cs) (fun ds G Q E h => ?_) (fun ds G Q E h => ?_)
  · rcases ds with _ | ⟨a0, _ | r⟩ <;> first | rfl | exact False.elim h
  · rcases ds with _ | ⟨a0, _ | r⟩ <;> first | exact False.elim h | exact p_pair h
def oppD : D → D
  | .int i => .int (-i)
  | .tup [.int a, .int b] => .tup [.int (-a), .int b]
  | _ => .non
def S_opposite (cs : List Addr) (d : D) (G : Gp) (Q : K3) (E : X3) : Prop := ratB d = true ∧ Q (oppD d) G
abbrev s_opposite : Stmt := (top 24)
def n_opposite : List Str := ["number"]
def b_opposite (c : Cn) : List (CS c) := [sRet (eIf (tTru (eBf .isi [(eVar 0), (eTy "int")])) (eNeg (eVar 0)) (eTup [(eNeg (eIx (eVar 0) (eInt 0))), (eIx (eVar 0) (eInt 1))]))]
def c_opposite (T : List (Addr × Str)) (cs : List Addr) : Cn := { T := T, N := n_opposite, nm := (defScope (top 24)).names, bt := ["isinstance", "int"], cs := cs }
theorem k_opposite (T : List (Addr × Str)) (cs : List Addr) : chkSs (b_opposite (c_opposite T cs)) (defBody (top 24)) = true := by kernel_rfl
def sp_opposite (cs : List Addr) : Sp3 := fun ds G Q E => match ds with
  | [a0] => S_opposite cs a0 G Q E
  | _ => False
abbrev W_opposite (T : List (Addr × Str)) (cs : List Addr) (a0 : D) (G : Gp) (Q : K3) (E : X3) : Prop := seqT ((b_opposite (c_opposite T cs)).map (·.t)) { nx := fun _ G' => Q .non G', rt := Q, xe := E } [some a0] G
theorem p_opposite {cs : List Addr} {d : D} {G : Gp} {Q : K3} {E : X3} (h : S_opposite cs d G Q E) : W_opposite T cs d G Q E := by
  obtain ⟨h1, q⟩ := h
  unfold W_opposite b_opposite
  walk_at "den"
  rcases rat_cases h1 with ⟨i, rfl⟩ | ⟨a, b, rfl, _, _⟩
  · exact isi1 (kn_of rfl) ⟨_, tru_bl, q⟩
  · exact isi1 (kn_of rfl) ⟨_, tru_bl, ⟨two_line, q⟩⟩
theorem ok_opposite (cs : List Addr) (F : FunD K "opposite" "opposite" (defArgs (top 24)) (defBody (top 24)) (defScope (top 24)) [] [] f fd) (g : GOk (c_opposite T cs) k P w K mg base) : FnAt P w K mg base T (k + 2) f (sp_opposite cs) := by
  refine fnAt3 F (F.bindsN fun _ _ _ _ _ _ us hl => match us, hl with | [_], _ => rfl) (ps := ["number"]) (C8.fnScope_by (by kernel_rfl)) rfl g (b_opposite _) (k_opposite T cs) (fun ds G Q E h => ?_) (fun ds G Q E h => ?_)
  · rcases ds with _ | ⟨a0, _ | r⟩ <;> first | rfl | exact False.elim h
  · rcases ds with _ | ⟨a0, _ | r⟩ <;> first | exact False.elim h | exact p_opposite h
def sgn (i : Int) : Int := if 0 < i then 1 else if i < 0 then -1 else 0
def S_sign_of (cs : List Addr) (d : D) (G : Gp) (Q : K3) (E : X3) : Prop := ratB d = true ∧ Q (.int (sgn (ratP d).1)) G
abbrev s_sign_of : Stmt := (top 25)
def n_sign_of : List Str := ["number", "top"]
def b_sign_of (c : Cn) : List (CS c) := [sSet 1 (eIf (tTru (eBf .isi [(eVar 0), (eTy "int")])) (eVar 0) (eIx (eVar 0) (eInt 0))), sRet (eIf (tCmp3 .Gt (eVar 1) (eInt 0)) (eInt 1) (eIf (tCmp3 .Lt (eVar 1) (eInt 0)) (eNeg (eInt 1)) (eInt 0)))]
def c_sign_of (T : List (Addr × Str)) (cs : List Addr) : Cn := { T := T, N := n_sign_of, nm := (defScope (top 25)).names, bt := ["isinstance", "int"], cs := cs }
theorem k_sign_of (T : List (Addr × Str)) (cs : List Addr) : chkSs (b_sign_of (c_sign_of T cs)) (defBody (top 25)) = true := by kernel_rfl
def sp_sign_of (cs : List Addr) : Sp3 := fun ds G Q E => match ds with
  | [a0] => S_sign_of cs a0 G Q E
  | _ => False
abbrev W_sign_of (T : List (Addr × Str)) (cs : List Addr) (a0 : D) (G : Gp) (Q : K3) (E : X3) : Prop := seqT ((b_sign_of (c_sign_of T cs)).map (·.t)) { nx := fun _ G' => Q .non G', rt := Q, xe := E } [some a0, none] G
theorem p_sign_of {cs : List Addr} {d : D} {G : Gp} {Q : K3} {E : X3} (h : S_sign_of cs d G Q E) : W_sign_of T cs d G Q E := by
  obtain ⟨h1, q⟩ := h
  unfold W_sign_of b_sign_of
  walk_at "den"
  have fin : ∀ i : Int, Q (.int (sgn i)) G → if decide (0 < i) = true then Q (.int 1) G else ∃ b, D.bl (decide (i < 0)) = .bl b ∧ if b = true then Q (.int (-1)) G else Q (.int 0) G := by
    intro i q
    unfold sgn at q
    refine ite_b (fun c => ?_) (fun c => ⟨_, rfl, ite_b (fun c2 => ?_) (fun c2 => ?_)⟩)
    · rw [if_pos (of_decide_eq_true c)] at q; exact q
    · rw [if_neg (of_decide_eq_false c), if_pos (of_decide_eq_true c2)] at q; exact q
    · rw [if_neg (of_decide_eq_false c), if_neg (of_decide_eq_false c2)] at q; exact q
  rcases rat_cases h1 with ⟨i, rfl⟩ | ⟨a, b, rfl, _, _⟩
  · exact isi1 (kn_of rfl) ⟨_, tru_bl, ⟨_, rfl, fin _ q⟩⟩
  · exact isi1 (kn_of rfl) ⟨_, tru_bl, ⟨_, rfl, fin _ q⟩⟩
theorem ok_sign_of (cs : List Addr) (F : FunD K "sign_of" "sign_of" (defArgs (top 25)) (defBody (top 25)) (defScope (top 25)) [] [] f fd) (g : GOk (c_sign_of T cs) k P w K mg base) : FnAt P w K mg base T (k + 2) f (sp_sign_of cs) := by
  refine fnAt3 F (F.bindsN fun _ _ _ _ _ _ us hl => match us, hl with | [_], _ => rfl) (ps := ["number"]) (C8.fnScope_by (by kernel_rfl)) rfl g (b_sign_of _) (k_sign_of T cs) (fun ds G Q E h => ?_) (fun ds G Q E h => ?_)
  · rcases ds with _ | ⟨a0, _ | r⟩ <;> first | rfl | exact False.elim h
  · rcases ds with _ | ⟨a0, _ | r⟩ <;> first | exact False.elim h | exact p_sign_of h
/-! ### texts -/
/-- how far a run goes -/
def runL (p : Nat → Bool) : List Nat → Nat
  | [] => 0
  | c :: r => if p c then runL p r + 1 else 0
theorem runL_le (p : Nat → Bool) : ∀ l, runL p l ≤ l.length
  | [] => Nat.le_refl _
  | c :: r => by
    unfold runL
    split
    · have := runL_le p r; simp; omega
    · simp
def S_run_of (x at_ z : D) (G : Gp) (Q : K3) (E : X3) : Prop := ∃ (t s : List Nat) (n : Nat), x = .str (mkS t) ∧ at_ = .int n ∧ z = .str (mkS s) ∧ SzOk t ∧ Q (.int (n + runL (inL s) (t.drop n) : Nat)) G
abbrev s_run_of : Stmt := (top 31)
def n_run_of : List Str := ["text", "at", "some"]
def b_run_of (c : Cn) : List (CS c) := [sWhile (tAnds [(tCmp3 .Lt (eVar 1) (eBf .len [(eVar 0)])), (tCmp3 .In (eIx (eVar 0) (eVar 1)) (eVar 2))]) [sAug .Add 1 (eInt 1)], sRet (eVar 1)]
def c_run_of (T : List (Addr × Str))  : Cn := { T := T, N := n_run_of, nm := (defScope (top 31)).names, bt := ["len"] }
theorem k_run_of (T : List (Addr × Str))  : chkSs (b_run_of (c_run_of T)) (defBody (top 31)) = true := by kernel_rfl
def sp_run_of  : Sp3 := fun ds G Q E => match ds with
  | [a0, a1, a2] => S_run_of a0 a1 a2 G Q E
  | _ => False
abbrev W_run_of (T : List (Addr × Str))  (a0 a1 a2 : D) (G : Gp) (Q : K3) (E : X3) : Prop := seqT ((b_run_of (c_run_of T)).map (·.t)) { nx := fun _ G' => Q .non G', rt := Q, xe := E } [some a0, some a1, some a2] G
theorem p_run_of {x at_ z : D} {G : Gp} {Q : K3} {E : X3} (h : S_run_of x at_ z G Q E) : W_run_of T x at_ z G Q E := by
  obtain ⟨t, s, n, rfl, rfl, rfl, ht, q⟩ := h
  unfold W_run_of b_run_of
  walk_at "den"
  refine while_by (fun m τ G' => G' = G ∧ ∃ i : Nat, τ = [some (.str (mkS t)), some (.int i), some (.str (mkS s))] ∧ m = t.length - i ∧ i + runL (inL s) (t.drop i) = n + runL (inL s) (t.drop n)) (t.length - n) ?_ ⟨rfl, n, rfl, rfl, rfl⟩
  rintro m τ G' N ⟨rfl, i, rfl, rfl, hi⟩ hN
  walk_at "den"
  refine z_len_str ht ⟨_, rfl, ite_b (fun c => ?_) fun c => ite_f rfl ?_⟩
  · have hl : i < t.length := by simpa using c
    have hd : t.drop i = t[i] :: t.drop (i + 1) := List.drop_eq_getElem_cons hl
    refine z_ix_str ht (List.getElem?_eq_getElem hl) (z_in ⟨_, rfl, ite_b (fun c2 => ?_) fun c2 => ?_⟩)
    · refine hN (t.length - (i + 1)) _ _ (by omega) ⟨rfl, i + 1, rfl, rfl, ?_⟩
      rw [hd, runL, if_pos c2] at hi
      omega
    · rw [hd, runL, if_neg (by rw [c2]; decide)] at hi
      rw [← hi] at q
      exact q
  · have hl : ¬ i < t.length := by simpa using c
    rw [List.drop_eq_nil_of_le (by omega)] at hi
    have hi' : i = n + runL (inL s) (t.drop n) := hi
    rw [← hi'] at q
    exact q
theorem ok_run_of  (F : FunD K "run_of" "run_of" (defArgs (top 31)) (defBody (top 31)) (defScope (top 31)) [] [] f fd) (g : GOk (c_run_of T) k P w K mg base) : FnAt P w K mg base T (k + 2) f (sp_run_of) := by
  refine fnAt3 F (F.bindsN fun _ _ _ _ _ _ us hl => match us, hl with | [_, _, _], _ => rfl) (ps := ["text", "at", "some"]) (C8.fnScope_by (by kernel_rfl)) rfl g (b_run_of _) (k_run_of T) (fun ds G Q E h => ?_) (fun ds G Q E h => ?_)
  · rcases ds with _ | ⟨a0, _ | ⟨a1, _ | ⟨a2, _ | r⟩⟩⟩ <;> first | rfl | exact False.elim h
  · rcases ds with _ | ⟨a0, _ | ⟨a1, _ | ⟨a2, _ | r⟩⟩⟩ <;> first | exact False.elim h | exact p_run_of h
/-- the end of the token at n -/
def endL (t : List Nat) (n : Nat) : Nat := match t[n]? with
  | none => n
  | some c => if inL INNERs c then n + runL (inL INNERs) (t.drop n)
    else n + (if inL [60, 62] c && decide ((t.drop (n + 1)).take 1 = [61]) then 2 else 1)
def S_end_of_token (x at_ : D) (G : Gp) (Q : K3) (E : X3) : Prop := ∃ (t : List Nat) (n : Nat), x = .str (mkS t) ∧ at_ = .int n ∧ SzOk t ∧ n < t.length ∧ Q (.int (endL t n : Nat)) G
abbrev s_end_of_token : Stmt := (top 32)
def n_end_of_token : List Str := ["text", "at"]
def b_end_of_token (c : Cn) : List (CS c) := [sIf (tCmp3 .In (eIx (eVar 0) (eVar 1)) (eGlob 0)) [sRet (eCall 0 [(eVar 0), (eVar 1), (eGlob 0)])] [], sRet (eBin .Add (eVar 1) (eIf (tAnds [(tCmp3 .In (eIx (eVar 0) (eVar 1)) (eStr "<>")), (tCmp3 .Eq (eSl (eVar 0) (some (eBin .Add (eVar 1) (eInt 1))) (some (eBin .Add (eVar 1) (eInt 2)))) (eStr "="))]) (eInt 2) (eInt 1)))]
def c_end_of_token (T : List (Addr × Str))  : Cn := { T := T, N := n_end_of_token, nm := (defScope (top 32)).names, fn := [("run_of", sp_run_of)], gv := [("INNER", .str (mkS INNERs))] }
theorem k_end_of_token (T : List (Addr × Str))  : chkSs (b_end_of_token (c_end_of_token T)) (defBody (top 32)) = true := by kernel_rfl
def sp_end_of_token  : Sp3 := fun ds G Q E => match ds with
  | [a0, a1] => S_end_of_token a0 a1 G Q E
  | _ => False
abbrev W_end_of_token (T : List (Addr × Str))  (a0 a1 : D) (G : Gp) (Q : K3) (E : X3) : Prop := seqT ((b_end_of_token (c_end_of_token T)).map (·.t)) { nx := fun _ G' => Q .non G', rt := Q, xe := E } [some a0, some a1] G
theorem p_end_of_token {x at_ : D} {G : Gp} {Q : K3} {E : X3} (h : S_end_of_token x at_ G Q E) : W_end_of_token T x at_ G Q E := by
  obtain ⟨t, n, rfl, rfl, ht, hn, q⟩ := h
  have hc : t[n]? = some t[n] := List.getElem?_eq_getElem hn
  unfold endL at q
  rw [hc] at q
  dsimp only at q
  unfold W_end_of_token b_end_of_token
  walk_at "den"
  simp only [c_end_of_token, List.getElem?_cons_zero]
  refine z_ix_str ht hc (z_in ⟨_, rfl, ite_b (fun c => ?_) fun c => ?_⟩)
  · rw [if_pos c] at q
    exact ⟨t, INNERs, n, rfl, rfl, rfl, ht, q⟩
  · rw [if_neg (by rw [c]; decide)] at q
    refine z_ix_str ht hc (z_in (s := [60, 62]) ⟨_, rfl, ite_b (fun c2 => ?_) fun c2 => ?_⟩)
    · rw [c2, Bool.true_and] at q
      refine z_addI ?_
      dsimp only
      refine z_addI ?_
      dsimp only
      refine z_sl_str ht ?_
      have e : cutL t (some ((n : Int) + 1)) (some ((n : Int) + 2)) = (t.drop (n + 1)).take 1 := by
        have := cut_nat t (n + 1) (n + 2)
        rw [show n + 2 - (n + 1) = 1 by omega] at this
        exact this
      show eqD false (.str (mkS (cutL t (some ((n : Int) + 1)) (some ((n : Int) + 2))))) _ _ _
      rw [e]
      refine z_eq_str (b := [61]) ⟨_, rfl, ite_b (fun c3 => ?_) fun c3 => ?_⟩
      · rw [if_pos c3] at q; exact q
      · rw [if_neg (by rw [c3]; decide)] at q; exact q
    · rw [c2, Bool.false_and] at q
      exact ite_f rfl (by rw [if_neg (by decide)] at q; exact q)
theorem ok_end_of_token  (F : FunD K "end_of_token" "end_of_token" (defArgs (top 32)) (defBody (top 32)) (defScope (top 32)) [] [] f fd) (g : GOk (c_end_of_token T) k P w K mg base) : FnAt P w K mg base T (k + 2) f (sp_end_of_token) := by
  refine fnAt3 F (F.bindsN fun _ _ _ _ _ _ us hl => match us, hl with | [_, _], _ => rfl) (ps := ["text", "at"]) (C8.fnScope_by (by kernel_rfl)) rfl g (b_end_of_token _) (k_end_of_token T) (fun ds G Q E h => ?_) (fun ds G Q E h => ?_)
  · rcases ds with _ | ⟨a0, _ | ⟨a1, _ | r⟩⟩ <;> first | rfl | exact False.elim h
  · rcases ds with _ | ⟨a0, _ | ⟨a1, _ | r⟩⟩ <;> first | exact False.elim h | exact p_end_of_token h
/-- the tokens from n on (fuel) -/
def toksFrom (t : List Nat) : Nat → Nat → List (List Nat)
  | 0, _ => []
  | f + 1, n => if n < t.length then (if t[n]? = some 32 then toksFrom t f (n + 1) else ((t.drop n).take (endL t n - n)) :: toksFrom t f (endL t n)) else []
def toksOf (t : List Nat) : List (List Nat) := toksFrom t t.length 0
theorem endL_gt {t : List Nat} {n : Nat} (hn : n < t.length) : n < endL t n := by
  unfold endL
  rw [List.getElem?_eq_getElem hn]
  dsimp only
  split
  · rename_i h
    rw [List.drop_eq_getElem_cons hn, runL, if_pos h]
    omega
  · split <;> omega
theorem toksFrom_len (t : List Nat) : ∀ f n, (toksFrom t f n).length ≤ t.length - n
  | 0, _ => Nat.zero_le _
  | f + 1, n => by
    unfold toksFrom
    split
    · rename_i hn
      split
      · have := toksFrom_len t f (n + 1); omega
      · have := toksFrom_len t f (endL t n)
        have := endL_gt hn
        rw [List.length_cons]
        omega
    · exact Nat.zero_le _
def strL (l : List (List Nat)) : List D := l.map fun x => .str (mkS x)
def S_tokens_of (x : D) (G : Gp) (Q : K3) (E : X3) : Prop := ∃ (t : List Nat), x = .str (mkS t) ∧ SzOk t ∧ Q (.lst (strL (toksOf t))) G
theorem toksFrom_eq {t : List Nat} : ∀ {f n : Nat}, t.length - n ≤ f → toksFrom t f n = if n < t.length then (if t[n]? = some 32 then toksFrom t (f - 1) (n + 1) else ((t.drop n).take (endL t n - n)) :: toksFrom t (f - 1) (endL t n)) else []
  | 0, n, h => by
    rw [if_neg (by omega)]
    rfl
  | f + 1, n, _ => rfl
theorem toksFrom_fuel {t : List Nat} : ∀ {f g n : Nat}, t.length - n ≤ f → t.length - n ≤ g → toksFrom t f n = toksFrom t g n
  | 0, g, n, h, h2 => by
    rw [toksFrom_eq h2, if_neg (by omega)]
    rfl
  | f + 1, g, n, h, h2 => by
    rw [toksFrom_eq h, toksFrom_eq h2]
    split
    · rename_i hn
      have := endL_gt hn
      rw [Nat.add_sub_cancel, toksFrom_fuel (f := f) (g := g - 1) (n := n + 1) (by omega) (by omega), toksFrom_fuel (f := f) (g := g - 1) (n := endL t n) (by omega) (by omega)]
    · rfl
def rest (t : List Nat) (n : Nat) : List (List Nat) := toksFrom t (t.length - n) n
theorem rest_end {t : List Nat} {n : Nat} (h : t.length ≤ n) : rest t n = [] := by
  unfold rest
  rw [toksFrom_eq (Nat.le_refl _), if_neg (by omega)]
theorem rest_blank {t : List Nat} {n : Nat} (h : t[n]? = some 32) : rest t n = rest t (n + 1) := by
  have hn : n < t.length := by
    by_cases q : n < t.length
    · exact q
    · rw [List.getElem?_eq_none (by omega)] at h; cases h
  unfold rest
  rw [toksFrom_eq (Nat.le_refl _), if_pos hn, if_pos h]
  exact toksFrom_fuel (by omega) (by omega)
theorem rest_tok {t : List Nat} {n : Nat} (hn : n < t.length) (h : t[n]? ≠ some 32) : rest t n = ((t.drop n).take (endL t n - n)) :: rest t (endL t n) := by
  unfold rest
  rw [toksFrom_eq (Nat.le_refl _), if_pos hn, if_neg h]
  have := endL_gt hn
  rw [toksFrom_fuel (by omega) (Nat.le_refl _)]
theorem toksOf_rest (t : List Nat) : toksOf t = rest t 0 := rfl
abbrev s_tokens_of : Stmt := (top 33)
def n_tokens_of : List Str := ["text", "found", "at", "end"]
def b_tokens_of (c : Cn) : List (CS c) := [sPar 1 2 (eLst [] true) (eInt 0), sWhile (tCmp3 .Lt (eVar 2) (eBf .len [(eVar 0)])) [sIf (tCmp3 .Eq (eIx (eVar 0) (eVar 2)) (eStr " ")) [sAug .Add 2 (eInt 1)] [sSet 3 (eCall 0 [(eVar 0), (eVar 2)]), sExpr (eBm .append (eVar 1) [(eSl (eVar 0) (some (eVar 2)) (some (eVar 3)))]), sSet 2 (eVar 3)]], sRet (eFrz (eVar 1))]
def c_tokens_of (T : List (Addr × Str))  : Cn := { T := T, N := n_tokens_of, nm := (defScope (top 33)).names, fn := [("end_of_token", sp_end_of_token)], bt := ["len"] }
theorem k_tokens_of (T : List (Addr × Str))  : chkSs (b_tokens_of (c_tokens_of T)) (defBody (top 33)) = true := by kernel_rfl
def sp_tokens_of  : Sp3 := fun ds G Q E => match ds with
  | [a0] => S_tokens_of a0 G Q E
  | _ => False
abbrev W_tokens_of (T : List (Addr × Str))  (a0 : D) (G : Gp) (Q : K3) (E : X3) : Prop := seqT ((b_tokens_of (c_tokens_of T)).map (·.t)) { nx := fun _ G' => Q .non G', rt := Q, xe := E } [some a0, none, none, none] G
theorem p_tokens_of {x : D} {G : Gp} {Q : K3} {E : X3} (h : S_tokens_of x G Q E) : W_tokens_of T x G Q E := by
  obtain ⟨t, rfl, ht, q⟩ := h
  unfold W_tokens_of b_tokens_of
  walk_at "den"
  simp only [c_tokens_of, List.getElem?_cons_zero]
  refine ⟨Nat.zero_le _, z_mkT fun p hp => ?_⟩
  refine while_by (fun m τ G' => ∃ (i : Nat) (a : List (List Nat)) (e : Option D), τ = [some (.str (mkS t)), some (.obj p), some (.int i), e] ∧ G' = updG G p (.lst (strL a)) ∧ m = t.length - i ∧ a.length ≤ i ∧ a ++ rest t i = toksOf t) t.length ?_ ⟨0, [], none, rfl, rfl, rfl, Nat.le_refl _, (toksOf_rest t).symm⟩
  rintro m τ G' N ⟨i, a, e, rfl, rfl, rfl, ha, hi⟩ hN
  walk_at "den"
  refine z_len_str ht ⟨_, rfl, ite_b (fun c => ?_) fun c => ?_⟩
  · have hl : i < t.length := by simpa using c
    refine z_ix_str ht (List.getElem?_eq_getElem hl) (z_eq_str (b := [32]) ⟨_, rfl, ite_b (fun c2 => ?_) fun c2 => ?_⟩)
    · have e1 : t[i]? = some 32 := by
        rw [List.getElem?_eq_getElem hl]
        simpa using c2
      exact hN (t.length - (i + 1)) _ _ (by omega) ⟨i + 1, a, e, rfl, rfl, rfl, by omega, by rw [← rest_blank e1]; exact hi⟩
    · have e1 : t[i]? ≠ some 32 := by
        rw [List.getElem?_eq_getElem hl]
        simpa using c2
      refine ⟨t, i, rfl, rfl, ht, hl, ?_⟩
      refine ⟨⟨rfl, _, updG_same⟩, ?_⟩
      have hg := endL_gt hl
      refine z_sl_str ht (z_append updG_same ?_ ?_)
      · have h2 : (strL a).length = a.length := List.length_map ..
        have : t.length ≤ sizeLine := ht
        omega
      · rw [updG_updG]
        refine hN (t.length - endL t i) _ _ (by omega) ⟨endL t i, a ++ [(t.drop i).take (endL t i - i)], _, rfl, ?_, rfl, ?_, ?_⟩
        · show _ = updG G p (.lst (strL (a ++ [_])))
          unfold strL
          rw [List.map_append]
          rw [cut_nat t i (endL t i)]
          rfl
        · rw [List.length_append]
          show a.length + 1 ≤ _
          omega
        · rw [List.append_assoc]
          show a ++ (_ :: rest t (endL t i)) = _
          rw [← rest_tok hl e1]
          exact hi
  · have hl : t.length ≤ i := by simpa using c
    rw [rest_end hl, List.append_nil] at hi
    refine z_frz updG_same ?_
    rw [hi, delG_updG hp]
    exact q
theorem ok_tokens_of  (F : FunD K "tokens_of" "tokens_of" (defArgs (top 33)) (defBody (top 33)) (defScope (top 33)) [] [] f fd) (g : GOk (c_tokens_of T) k P w K mg base) : FnAt P w K mg base T (k + 2) f (sp_tokens_of) := by
  refine fnAt3 F (F.bindsN fun _ _ _ _ _ _ us hl => match us, hl with | [_], _ => rfl) (ps := ["text"]) (C8.fnScope_by (by kernel_rfl)) rfl g (b_tokens_of _) (k_tokens_of T) (fun ds G Q E h => ?_) (fun ds G Q E h => ?_)
  · rcases ds with _ | ⟨a0, _ | r⟩ <;> first | rfl | exact False.elim h
  · rcases ds with _ | ⟨a0, _ | r⟩ <;> first | exact False.elim h | exact p_tokens_of h
end W75
set_option Elab.async false
set_option linter.all false
set_option maxRecDepth 100000
set_option maxHeartbeats 1000000
namespace W75
open PySem PySem.Spec PyProof.Rows L2 LamX L3 Hd
local macro_rules | `(tactic| walk_at "den") => `(tactic| simp only [List.map, sRet, sSet, sSetLc, sAsg, sPar, sPar3, sExpr, sPass, sBreak, sCont, sIf, sWhile, sFor, sAug, sFld3, sFldAug3, sSub, sRaise,
  seqT, retT, setT, asgT, parT, dropT, ifT, augT, fldT, fldAugT, subT, rzT, eAnds, eOrs, eNot, eBf, eVar, eTy, eInt, eStr, eBl, eNon, eGlob, eBin, eNeg, eCmp, eChain, eIf, eTup, eLst, eFrz, eIx, eSl, eFld, eCall, eCall0, eBm, eOm, eLc, eMake, eDisp, eGcd, iSeq, iLst, iTupl, iTxt, L3.iRng1, L3.iRng2, iEnm, iEnmT, iRngDn, eDict0, L3.ifsT,
  tCmp3, tChain3, tTru, tNot3, tAnds, tOrs, testT, truT, notT, andT, orT, andE, orE, notE, ifE, cE', argT, varE, cE, opE, unE, chainE, tupE, lstE, slE, optE, spE, mtE, omE, makeE, dispE, Bf.r, Bm.r, Bm.ty, Tg.t, setAll, Option.map,
  List.getElem?_cons_zero, List.getElem?_cons_succ, List.set_cons_zero, List.set_cons_succ, Option.some.injEq, exists_eq_left', List.length_cons, List.length_nil, Nat.reduceAdd, true_and, binD, cmpD, augD, fnSp, mtC, mkC, rzC, gvD])
variable {P : Program} {w : World} {K : PySem.W.Frag} {mg : Str → Option Value} {base : Heap} {T : List (Addr × Str)} {k : Nat} {f : Addr} {fd : FuncData}
/-! ### values -/
/-- plain data, nested at most n deep -/
def Pl : Nat → D → Prop
  | 0, d => ∃ k, knP d = some k ∧ k ≠ "tuple" ∧ k ≠ "list" ∧ k ≠ "dict"
  | n + 1, d => (∃ k, knP d = some k ∧ k ≠ "tuple" ∧ k ≠ "list" ∧ k ≠ "dict") ∨ ∃ l, (d = .tup l ∨ d = .lst l) ∧ l.length ≤ 1000 ∧ ∀ e ∈ l, Pl n e
def asT : Nat → D → D
  | 0, d => d
  | n + 1, .tup l => .tup (l.map (asT n))
  | n + 1, .lst l => .tup (l.map (asT n))
  | _ + 1, d => d
theorem isT2 {k : String} (h1 : k ≠ "tuple") (h2 : k ≠ "list") : (isiB k "list" || isiB k "tuple") = false := by
  have a : (k == "list") = false := by simpa using h2
  have b : (k == "tuple") = false := by simpa using h1
  have c : (("list" : String) == "int") = false := by decide
  have d : (("tuple" : String) == "int") = false := by decide
  unfold isiB
  rw [a, b, c, d]
  simp
theorem asT_leaf {n : Nat} {d : D} {k : String} (h : knP d = some k) (h1 : k ≠ "tuple") (h2 : k ≠ "list") : asT n d = d := by
  cases n with
  | zero => rfl
  | succ n => cases d <;> first | rfl | (cases h; exact absurd rfl h1) | (cases h; exact absurd rfl h2)
theorem ln1000 : 1000 ≤ sizeLine := by rw [sizeLine_eq]; decide
def S_as_tuples (cs : List Addr) (n : Nat) (d : D) (G : Gp) (Q : K3) (E : X3) : Prop := Pl n d ∧ Q (asT n d) G
def sp_as_tuples' (cs : List Addr) : Nat → Sp3
  | 0 => fun _ _ _ _ => False
  | n + 1 => fun ds G Q E => match ds with
    | [d] => S_as_tuples cs n d G Q E
    | _ => False
abbrev s_as_tuples : Stmt := (top 27)
def n_as_tuples : List Str := ["value", "one"]
def b_as_tuples (c : Cn) : List (CS c) := [sIf (tTru (eBf .isi [(eVar 0), (eTup [(eTy "list"), (eTy "tuple")])])) [sRet (eBf .tuple [(eLc (iSeq (eVar 0)) (.nm 1) (fun nm => none) (fun nm => (eCall 0 [(eVar 1)])))])] [], sRet (eVar 0)]
def c_as_tuples (T : List (Addr × Str)) (cs : List Addr) (n : Nat) : Cn := { T := T, N := n_as_tuples, nm := (defScope (top 27)).names, fn := [("as_tuples", sp_as_tuples' cs n)], bt := ["isinstance", "list", "tuple"], cs := cs }
theorem k_as_tuples (T : List (Addr × Str)) (cs : List Addr) (n : Nat) : chkSs (b_as_tuples (c_as_tuples T cs n)) (defBody (top 27)) = true := by kernel_rfl
def sp_as_tuples (cs : List Addr) (n : Nat) : Sp3 := fun ds G Q E => match ds with
  | [a0] => S_as_tuples cs n a0 G Q E
  | _ => False
abbrev W_as_tuples (T : List (Addr × Str)) (cs : List Addr) (n : Nat) (a0 : D) (G : Gp) (Q : K3) (E : X3) : Prop := seqT ((b_as_tuples (c_as_tuples T cs n)).map (·.t)) { nx := fun _ G' => Q .non G', rt := Q, xe := E } [some a0, none] G
theorem p_as_tuples {cs : List Addr} {n : Nat} {d : D} {G : Gp} {Q : K3} {E : X3} (h : S_as_tuples cs n d G Q E) : W_as_tuples T cs n d G Q E := by
  obtain ⟨hp, q⟩ := h
  unfold W_as_tuples b_as_tuples
  walk_at "den"
  simp only [c_as_tuples, Cn.blk, List.getElem?_cons_zero]
  refine ⟨two_line, ?_⟩
  have hn : n = 0 ∨ ∃ m, n = m + 1 := by cases n <;> simp
  have hc : (∃ k, knP d = some k ∧ k ≠ "tuple" ∧ k ≠ "list") ∨ ∃ m l, n = m + 1 ∧ (d = .tup l ∨ d = .lst l) ∧ l.length ≤ 1000 ∧ ∀ e ∈ l, Pl m e := by
    cases n with
    | zero => obtain ⟨k, a, b, c, _⟩ := hp; exact .inl ⟨k, a, b, c⟩
    | succ n =>
      rcases hp with ⟨k, a, b, c, _⟩ | ⟨l, a, b, c⟩
      · exact .inl ⟨k, a, b, c⟩
      · exact .inr ⟨n, l, rfl, a, b, c⟩
  rcases hc with ⟨k, hk, h1, h2⟩ | ⟨m, l, rfl, hd, hl, hs⟩
  · refine isi2 (kn_of hk) ⟨_, tru_bl, ite_f (isT2 h1 h2) ?_⟩
    rw [asT_leaf hk h1 h2] at q
    exact q
  · obtain ⟨k, hk, hb⟩ : ∃ k, knP d = some k ∧ (isiB k "list" || isiB k "tuple") = true := by
      rcases hd with rfl | rfl
      · exact ⟨_, rfl, by decide⟩
      · exact ⟨_, rfl, by decide⟩
    have ha : asT (m + 1) d = .tup (l.map (asT m)) := by rcases hd with rfl | rfl <;> rfl
    have hsrc : srcS G d = some ⟨l, fun _ => True⟩ := by rcases hd with rfl | rfl <;> rfl
    rw [ha] at q
    refine isi2 (kn_of hk) ⟨_, tru_bl, ite_t hb ?_⟩
    refine ⟨d, rfl, ?_⟩
    dsimp only
    rw [hsrc]
    refine fun p hp => ⟨trivial, ?_⟩
    refine lc_map (asT m) (fun _ => trivial) (by have := ln1000; simp; omega) (fun e he acc Q' q' => ?_) ?_
    · exact ⟨e, rfl, hs e he, q'⟩
    · rw [if_neg (by decide), List.nil_append, delG_updG hp]
      exact q
theorem ok_as_tuples (cs : List Addr) (n : Nat) (F : FunD K "as_tuples" "as_tuples" (defArgs (top 27)) (defBody (top 27)) (defScope (top 27)) [] [] f fd) (g : GOk (c_as_tuples T cs n) k P w K mg base) : FnAt P w K mg base T (k + 2) f (sp_as_tuples cs n) := by
  refine fnAt3 F (F.bindsN fun _ _ _ _ _ _ us hl => match us, hl with | [_], _ => rfl) (ps := ["value"]) (C8.fnScope_by (by kernel_rfl)) rfl g (b_as_tuples _) (k_as_tuples T cs n) (fun ds G Q E h => ?_) (fun ds G Q E h => ?_)
  · rcases ds with _ | ⟨a0, _ | r⟩ <;> first | rfl | exact False.elim h
  · rcases ds with _ | ⟨a0, _ | r⟩ <;> first | exact False.elim h | exact p_as_tuples h
/-! ### what is raised -/
def fW (line word : Int) : List (Str × D) := [("word", .int word), ("line", .int line)]
def S_need_string (cs : List Addr) (CB : Addr) (d : D) (G : Gp) (Q : K3) (E : X3) : Prop := ∃ k, kn cs G d = some k ∧ (k = "str" → Q .non G) ∧ (k ≠ "str" → E CB (fW 0 0) G)
abbrev s_need_string : Stmt := (top 34)
def n_need_string : List Str := ["text"]
def b_need_string (c : Cn) : List (CS c) := [sIf (tNot3 (tTru (eBf .isi [(eVar 0), (eTy "str")]))) [sRaise 0 [(eInt 0), (eInt 0)]] []]
def c_need_string (T : List (Addr × Str)) (cs : List Addr) (CB : Addr) : Cn := { T := T, N := n_need_string, nm := (defScope (top 34)).names, bt := ["isinstance", "str"], cs := cs, rz := [("BadText", CB, ["line", "word"])] }
theorem k_need_string (T : List (Addr × Str)) (cs : List Addr) (CB : Addr) : chkSs (b_need_string (c_need_string T cs CB)) (defBody (top 34)) = true := by kernel_rfl
def sp_need_string (cs : List Addr) (CB : Addr) : Sp3 := fun ds G Q E => match ds with
  | [a0] => S_need_string cs CB a0 G Q E
  | _ => False
abbrev W_need_string (T : List (Addr × Str)) (cs : List Addr) (CB : Addr) (a0 : D) (G : Gp) (Q : K3) (E : X3) : Prop := seqT ((b_need_string (c_need_string T cs CB)).map (·.t)) { nx := fun _ G' => Q .non G', rt := Q, xe := E } [some a0] G
theorem p_need_string {cs : List Addr} {CB : Addr} {d : D} {G : Gp} {Q : K3} {E : X3} (h : S_need_string cs CB d G Q E) : W_need_string T cs CB d G Q E := by
  obtain ⟨k, hk, h1, h2⟩ := h
  unfold W_need_string b_need_string
  walk_at "den"
  simp only [c_need_string, List.getElem?_cons_zero]
  refine isi1 hk ⟨_, tru_bl, ?_⟩
  have e : isiB k "str" = (k == "str") := by
    unfold isiB
    have : (("str" : String) == "int") = false := by decide
    rw [this, Bool.and_false, Bool.or_false]
  rw [e]
  refine ite_b (fun c => ?_) fun c => ?_
  · refine ⟨rfl, by omega, h2 (by simpa using c)⟩
  · exact h1 (by simpa using c)
theorem ok_need_string (cs : List Addr) (CB : Addr) (F : FunD K "need_string" "need_string" (defArgs (top 34)) (defBody (top 34)) (defScope (top 34)) [] [] f fd) (g : GOk (c_need_string T cs CB) k P w K mg base) : FnAt P w K mg base T (k + 2) f (sp_need_string cs CB) := by
  refine fnAt3 F (F.bindsN fun _ _ _ _ _ _ us hl => match us, hl with | [_], _ => rfl) (ps := ["text"]) (C8.fnScope_by (by kernel_rfl)) rfl g (b_need_string _) (k_need_string T cs CB) (fun ds G Q E h => ?_) (fun ds G Q E h => ?_)
  · rcases ds with _ | ⟨a0, _ | r⟩ <;> first | rfl | exact False.elim h
  · rcases ds with _ | ⟨a0, _ | r⟩ <;> first | exact False.elim h | exact p_need_string h
/-! ### numerals -/
def isNum (w : List Nat) (most : Int) : Bool := !decide (w = []) && !decide (most < (w.length : Int)) && w.all (inL FIGs) && (decide (w = [48]) || !decide (w.head? = some 48))
def S_is_numeral (d m : D) (G : Gp) (Q : K3) (E : X3) : Prop := ∃ (w : List Nat) (most : Int), d = .str (mkS w) ∧ m = .int most ∧ SzOk w ∧ most ≤ 4000 ∧ Q (.bl (isNum w most)) G
abbrev s_is_numeral : Stmt := (top 35)
def n_is_numeral : List Str := ["token", "most", "sign"]
def b_is_numeral (c : Cn) : List (CS c) := [sIf (tOrs [(tCmp3 .Eq (eVar 0) (eStr "")), (tCmp3 .Gt (eBf .len [(eVar 0)]) (eVar 1)), (tNot3 (tTru (eBf .all [(eLc (iTxt (eVar 0)) (.nm 2) (fun nm => none) (fun nm => (eCmp .In (eVar 2) (eGlob 0))))])))]) [sRet (eBl false)] [], sRet (eOrs [(eCmp .Eq (eVar 0) (eStr "0")), (eCmp .NotEq (eIx (eVar 0) (eInt 0)) (eStr "0"))])]
def c_is_numeral (T : List (Addr × Str))  : Cn := { T := T, N := n_is_numeral, nm := (defScope (top 35)).names, gv := [("FIGURES", .str (mkS FIGs))], bt := ["len", "all"] }
theorem k_is_numeral (T : List (Addr × Str))  : chkSs (b_is_numeral (c_is_numeral T)) (defBody (top 35)) = true := by kernel_rfl
def sp_is_numeral  : Sp3 := fun ds G Q E => match ds with
  | [a0, a1] => S_is_numeral a0 a1 G Q E
  | _ => False
abbrev W_is_numeral (T : List (Addr × Str))  (a0 a1 : D) (G : Gp) (Q : K3) (E : X3) : Prop := seqT ((b_is_numeral (c_is_numeral T)).map (·.t)) { nx := fun _ G' => Q .non G', rt := Q, xe := E } [some a0, some a1, none] G
theorem p_is_numeral {d m : D} {G : Gp} {Q : K3} {E : X3} (h : S_is_numeral d m G Q E) : W_is_numeral T d m G Q E := by
  obtain ⟨w, most, rfl, rfl, hw, hm, q⟩ := h
  unfold W_is_numeral b_is_numeral
  walk_at "den"
  simp only [c_is_numeral, Cn.blk, List.getElem?_cons_zero]
  have hl : w.length < 2 ^ 62 := by have h1 : w.length ≤ sizeLine := hw; have h2 : sizeLine < 2 ^ 62 := by rw [sizeLine_eq]; decide
                                    omega
  have tail : w ≠ [] → isNum w most = (decide (w = [48]) || !decide (w.head? = some 48)) → ∀ {b : Bool}, b = decide (w = [48]) → if b = true then Q (.bl b) G else ixD (.str (mkS w)) (.int 0) G fun x G1 => eqD true x (.str "0") G1 Q := by
    intro hne he b hb
    rw [he, ← hb] at q
    refine ite_b (fun c => ?_) (fun c => ?_)
    · rw [c, Bool.true_or] at q; rw [c]; exact q
    · rw [c, Bool.false_or] at q
      match w, hne with
      | a :: r, _ =>
        refine z_ix_str (i := 0) hw rfl (z_ne_str (b := [48]) ?_)
        have e : decide ([a] = [48]) = decide ((a :: r).head? = some 48) := by simp
        rw [e]
        exact q
  refine z_eq_str (b := []) ⟨_, rfl, ite_b (fun c => ?_) fun c => ?_⟩
  · have e : isNum w most = false := by unfold isNum; rw [c]; rfl
    rw [e] at q
    rw [if_pos trivial]
    exact q
  · have hne : w ≠ [] := of_decide_eq_false c
    refine z_len_str hw ⟨_, rfl, ite_b (fun c2 => ?_) fun c2 => ?_⟩
    · have e : isNum w most = false := by
        unfold isNum
        have c2' : decide (most < (w.length : Int)) = true := c2
        rw [c2']; simp
      rw [e] at q
      rw [if_pos trivial]
      exact q
    · have c2' : decide (most < (w.length : Int)) = false := c2
      refine ⟨_, rfl, ?_⟩
      refine fun p hp => ⟨trivial, ?_⟩
      refine lc_map (fun d => match d with | .str x => .bl (inL FIGs (x.cps.toList.headD 0)) | _ => .non) (fun _ => trivial) (by have h1 : w.length ≤ sizeLine := hw; simpa [mkS] using h1) (fun d hd acc Q' q' => ?_) ?_
      · obtain ⟨a, ha, rfl⟩ := List.mem_map.mp hd
        exact ⟨_, rfl, z_in q'⟩
      · rw [if_neg (by decide), List.nil_append, delG_updG hp, List.map_map]
        have em : List.map ((fun d => match d with | .str x => D.bl (inL FIGs (x.cps.toList.headD 0)) | _ => .non) ∘ fun c => D.str ⟨#[c]⟩) (mkS w).cps.toList = (w.map (inL FIGs)).map D.bl := by
          rw [List.map_map]
          rfl
        rw [em]
        refine z_all ⟨_, tru_bl, ?_⟩
        have ea : (w.map (inL FIGs)).all id = w.all (inL FIGs) := by rw [List.all_map]; rfl
        rw [ea]
        refine ite_b (fun c3 => ?_) fun c3 => ?_
        · have c3' : w.all (inL FIGs) = false := by simpa using c3
          have e : isNum w most = false := by unfold isNum; rw [c3']; simp
          rw [e] at q
          exact q
        · have c3' : w.all (inL FIGs) = true := by simpa using c3
          refine z_eq_str (b := [48]) ⟨_, tru_bl, tail hne ?_ rfl⟩
          unfold isNum
          rw [c, c2', c3']
          simp
theorem ok_is_numeral  (F : FunD K "is_numeral" "is_numeral" (defArgs (top 35)) (defBody (top 35)) (defScope (top 35)) [] [] f fd) (g : GOk (c_is_numeral T) k P w K mg base) : FnAt P w K mg base T (k + 2) f (sp_is_numeral) := by
  refine fnAt3 F (F.bindsN fun _ _ _ _ _ _ us hl => match us, hl with | [_, _], _ => rfl) (ps := ["token", "most"]) (C8.fnScope_by (by kernel_rfl)) rfl g (b_is_numeral _) (k_is_numeral T) (fun ds G Q E h => ?_) (fun ds G Q E h => ?_)
  · rcases ds with _ | ⟨a0, _ | ⟨a1, _ | r⟩⟩ <;> first | rfl | exact False.elim h
  · rcases ds with _ | ⟨a0, _ | ⟨a1, _ | r⟩⟩ <;> first | exact False.elim h | exact p_is_numeral h
/-! ### the reader -/
theorem putFD_le (f : Str) (v : D) : ∀ fs : List (Str × D), (putFD f v fs).length ≤ fs.length + 1
  | [] => Nat.le_refl _
  | (g, x) :: r => by
    unfold putFD
    split
    · simp
    · have := putFD_le f v r; simp; omega
theorem put_lt {f : Str} {v : D} {fs : List (Str × D)} {n : Nat} (h : fs.length < n) : (putFD f v fs).length < n + 1 := by
  have := putFD_le f v fs; omega
def rdF (CR : Addr) : List (Addr × Str) := [(CR, "tokens"), (CR, "line"), (CR, "most"), (CR, "at")]
def rdO (CR : Addr) (ts : List (List Nat)) (line most at_ : Int) : GO := .ins CR [("tokens", .lst (strL ts)), ("line", .int line), ("most", .int most), ("at", .int at_)]
def S_Reader___init__ (CR : Addr) (x t l m : D) (G : Gp) (Q : K3) (E : X3) : Prop := ∃ p ts line most, x = .obj p ∧ t = .lst (strL ts) ∧ l = .int line ∧ m = .int most ∧ G p = some (.ins CR []) ∧ Q .non (updG G p (rdO CR ts line most 0))
abbrev s_Reader___init__ : Stmt := (inClass (top 36) 0)
def n_Reader___init__ : List Str := ["self", "tokens", "line", "most"]
def b_Reader___init__ (c : Cn) : List (CS c) := [sFld3 "tokens" (eVar 0) (eVar 1), sFld3 "line" (eVar 0) (eVar 2), sFld3 "most" (eVar 0) (eVar 3), sFld3 "at" (eVar 0) (eInt 0)]
def c_Reader___init__ (T : List (Addr × Str)) (CR : Addr) : Cn := { T := T, N := n_Reader___init__, nm := (defScope (inClass (top 36) 0)).names, fl := rdF CR }
theorem k_Reader___init__ (T : List (Addr × Str)) (CR : Addr) : chkSs (b_Reader___init__ (c_Reader___init__ T CR)) (defBody (inClass (top 36) 0)) = true := by kernel_rfl
def sp_Reader___init__ (CR : Addr) : Sp3 := fun ds G Q E => match ds with
  | [a0, a1, a2, a3] => S_Reader___init__ CR a0 a1 a2 a3 G Q E
  | _ => False
abbrev W_Reader___init__ (T : List (Addr × Str)) (CR : Addr) (a0 a1 a2 a3 : D) (G : Gp) (Q : K3) (E : X3) : Prop := seqT ((b_Reader___init__ (c_Reader___init__ T CR)).map (·.t)) { nx := fun _ G' => Q .non G', rt := Q, xe := E } [some a0, some a1, some a2, some a3] G
theorem p_Reader___init__ {CR : Addr} {x t l m : D} {G : Gp} {Q : K3} {E : X3} (h : S_Reader___init__ CR x t l m G Q E) : W_Reader___init__ T CR x t l m G Q E := by
  obtain ⟨p, ts, line, most, rfl, rfl, rfl, rfl, hp, q⟩ := h
  unfold W_Reader___init__ b_Reader___init__
  walk_at "den"
  refine ⟨p, CR, _, rfl, hp, by simp [c_Reader___init__, rdF], by simp, p, CR, _, rfl, updG_same, by simp [c_Reader___init__, rdF], put_lt (by simp), p, CR, _, rfl, by rw [updG_updG]; exact updG_same, by simp [c_Reader___init__, rdF], put_lt (put_lt (by simp)), p, CR, _, rfl, by rw [updG_updG, updG_updG]; exact updG_same, by simp [c_Reader___init__, rdF], put_lt (put_lt (put_lt (by simp))), ?_⟩
  rw [updG_updG, updG_updG, updG_updG]
  exact q
theorem ok_Reader___init__ (CR : Addr) (F : FunD K "__init__" "Reader.__init__" (defArgs (inClass (top 36) 0)) (defBody (inClass (top 36) 0)) (defScope (inClass (top 36) 0)) [] [] f fd) (g : GOk (c_Reader___init__ T CR) k P w K mg base) : FnAt P w K mg base T (k + 2) f (sp_Reader___init__ CR) := by
  refine fnAt3 F (F.bindsN fun _ _ _ _ _ _ us hl => match us, hl with | [_, _, _, _], _ => rfl) (ps := ["self", "tokens", "line", "most"]) (C8.fnScope_by (by kernel_rfl)) rfl g (b_Reader___init__ _) (k_Reader___init__ T CR) (fun ds G Q E h => ?_) (fun ds G Q E h => ?_)
  · rcases ds with _ | ⟨a0, _ | ⟨a1, _ | ⟨a2, _ | ⟨a3, _ | r⟩⟩⟩⟩ <;> first | rfl | exact False.elim h
  · rcases ds with _ | ⟨a0, _ | ⟨a1, _ | ⟨a2, _ | ⟨a3, _ | r⟩⟩⟩⟩ <;> first | exact False.elim h | exact p_Reader___init__ h
/-- the reader at p -/
def Rd3 (CR : Addr) (G : Gp) (x : D) (p : Addr) (ts : List (List Nat)) (line most : Int) (n : Nat) : Prop := x = .obj p ∧ G p = some (rdO CR ts line most n)
def S_Reader_wrong (CR CB : Addr) (x : D) (G : Gp) (Q : K3) (E : X3) : Prop := ∃ p ts line most n, Rd3 CR G x p ts line most n ∧ E CB (fW line (n + 1)) G
abbrev s_Reader_wrong : Stmt := (inClass (top 36) 1)
def n_Reader_wrong : List Str := ["self"]
def b_Reader_wrong (c : Cn) : List (CS c) := [sRaise 0 [(eFld (eVar 0) "line"), (eBin .Add (eFld (eVar 0) "at") (eInt 1))]]
def c_Reader_wrong (T : List (Addr × Str)) (CR CB : Addr) : Cn := { T := T, N := n_Reader_wrong, nm := (defScope (inClass (top 36) 1)).names, fl := rdF CR, rz := [("BadText", CB, ["line", "word"])] }
theorem k_Reader_wrong (T : List (Addr × Str)) (CR CB : Addr) : chkSs (b_Reader_wrong (c_Reader_wrong T CR CB)) (defBody (inClass (top 36) 1)) = true := by kernel_rfl
def sp_Reader_wrong (CR CB : Addr) : Sp3 := fun ds G Q E => match ds with
  | [a0] => S_Reader_wrong CR CB a0 G Q E
  | _ => False
abbrev W_Reader_wrong (T : List (Addr × Str)) (CR CB : Addr) (a0 : D) (G : Gp) (Q : K3) (E : X3) : Prop := seqT ((b_Reader_wrong (c_Reader_wrong T CR CB)).map (·.t)) { nx := fun _ G' => Q .non G', rt := Q, xe := E } [some a0] G
section
variable {CR CB : Addr} {G : Gp} {Q : K3} {p : Addr} {ts : List (List Nat)} {line most : Int} {n : Nat} {fl : List (Addr × Str)}
theorem f_tokens (h : G p = some (rdO CR ts line most n)) (m : (CR, ("tokens" : Str)) ∈ fl) (q : Q (.lst (strL ts)) G) : fldD fl "tokens" (.obj p) G Q := by
  show match G p with
    | some (.ins C fs) => (C, ("tokens" : Str)) ∈ fl ∧ (match fs.lookup ("tokens" : Str) with
      | some d => Q d G
      | none => False)
    | _ => False
  rw [h]
  exact ⟨m, q⟩
theorem f_line (h : G p = some (rdO CR ts line most n)) (m : (CR, ("line" : Str)) ∈ fl) (q : Q (.int line) G) : fldD fl "line" (.obj p) G Q := by
  show match G p with
    | some (.ins C fs) => (C, ("line" : Str)) ∈ fl ∧ (match fs.lookup ("line" : Str) with
      | some d => Q d G
      | none => False)
    | _ => False
  rw [h]
  exact ⟨m, q⟩
theorem f_most (h : G p = some (rdO CR ts line most n)) (m : (CR, ("most" : Str)) ∈ fl) (q : Q (.int most) G) : fldD fl "most" (.obj p) G Q := by
  show match G p with
    | some (.ins C fs) => (C, ("most" : Str)) ∈ fl ∧ (match fs.lookup ("most" : Str) with
      | some d => Q d G
      | none => False)
    | _ => False
  rw [h]
  exact ⟨m, q⟩
theorem f_at (h : G p = some (rdO CR ts line most n)) (m : (CR, ("at" : Str)) ∈ fl) (q : Q (.int n) G) : fldD fl "at" (.obj p) G Q := by
  show match G p with
    | some (.ins C fs) => (C, ("at" : Str)) ∈ fl ∧ (match fs.lookup ("at" : Str) with
      | some d => Q d G
      | none => False)
    | _ => False
  rw [h]
  exact ⟨m, q⟩
theorem m_tokens : (CR, ("tokens" : Str)) ∈ rdF CR := by simp [rdF]
theorem m_line : (CR, ("line" : Str)) ∈ rdF CR := by simp [rdF]
theorem m_most : (CR, ("most" : Str)) ∈ rdF CR := by simp [rdF]
theorem m_at : (CR, ("at" : Str)) ∈ rdF CR := by simp [rdF]
end
theorem p_Reader_wrong {CR CB : Addr} {x : D} {G : Gp} {Q : K3} {E : X3} (h : S_Reader_wrong CR CB x G Q E) : W_Reader_wrong T CR CB x G Q E := by
  obtain ⟨p, ts, line, most, n, ⟨rfl, hp⟩, q⟩ := h
  unfold W_Reader_wrong b_Reader_wrong
  walk_at "den"
  simp only [c_Reader_wrong, List.getElem?_cons_zero]
  refine f_line hp m_line (f_at hp m_at (z_addI ⟨rfl, by omega, q⟩))
theorem ok_Reader_wrong (CR CB : Addr) (F : FunD K "wrong" "Reader.wrong" (defArgs (inClass (top 36) 1)) (defBody (inClass (top 36) 1)) (defScope (inClass (top 36) 1)) [] [] f fd) (g : GOk (c_Reader_wrong T CR CB) k P w K mg base) : FnAt P w K mg base T (k + 2) f (sp_Reader_wrong CR CB) := by
  refine fnAt3 F (F.bindsN fun _ _ _ _ _ _ us hl => match us, hl with | [_], _ => rfl) (ps := ["self"]) (C8.fnScope_by (by kernel_rfl)) rfl g (b_Reader_wrong _) (k_Reader_wrong T CR CB) (fun ds G Q E h => ?_) (fun ds G Q E h => ?_)
  · rcases ds with _ | ⟨a0, _ | r⟩ <;> first | rfl | exact False.elim h
  · rcases ds with _ | ⟨a0, _ | r⟩ <;> first | exact False.elim h | exact p_Reader_wrong h
def tokAt (ts : List (List Nat)) (n : Nat) : List Nat := (ts[n]?).getD []
def S_Reader_peek (CR : Addr) (x : D) (G : Gp) (Q : K3) (E : X3) : Prop := ∃ p ts line most n, Rd3 CR G x p ts line most n ∧ Q (.str (mkS (tokAt ts n))) G
abbrev s_Reader_peek : Stmt := (inClass (top 36) 2)
def n_Reader_peek : List Str := ["self"]
def b_Reader_peek (c : Cn) : List (CS c) := [sRet (eIf (tCmp3 .Lt (eFld (eVar 0) "at") (eBf .len [(eFld (eVar 0) "tokens")])) (eIx (eFld (eVar 0) "tokens") (eFld (eVar 0) "at")) (eStr ""))]
def c_Reader_peek (T : List (Addr × Str)) (CR : Addr) : Cn := { T := T, N := n_Reader_peek, nm := (defScope (inClass (top 36) 2)).names, bt := ["len"], fl := rdF CR }
theorem k_Reader_peek (T : List (Addr × Str)) (CR : Addr) : chkSs (b_Reader_peek (c_Reader_peek T CR)) (defBody (inClass (top 36) 2)) = true := by kernel_rfl
def sp_Reader_peek (CR : Addr) : Sp3 := fun ds G Q E => match ds with
  | [a0] => S_Reader_peek CR a0 G Q E
  | _ => False
abbrev W_Reader_peek (T : List (Addr × Str)) (CR : Addr) (a0 : D) (G : Gp) (Q : K3) (E : X3) : Prop := seqT ((b_Reader_peek (c_Reader_peek T CR)).map (·.t)) { nx := fun _ G' => Q .non G', rt := Q, xe := E } [some a0] G
theorem strL_len (ts : List (List Nat)) : (strL ts).length = ts.length := List.length_map ..
theorem strL_get {ts : List (List Nat)} {n : Nat} {w : List Nat} (h : ts[n]? = some w) : (strL ts)[n]? = some (.str (mkS w)) := by
  unfold strL
  rw [List.getElem?_map, h]
  rfl
theorem p_Reader_peek {CR : Addr} {x : D} {G : Gp} {Q : K3} {E : X3} (h : S_Reader_peek CR x G Q E) : W_Reader_peek T CR x G Q E := by
  obtain ⟨p, ts, line, most, n, ⟨rfl, hp⟩, q⟩ := h
  unfold W_Reader_peek b_Reader_peek
  walk_at "den"
  simp only [c_Reader_peek, List.getElem?_cons_zero]
  refine f_at hp m_at (f_tokens hp m_tokens (z_len_lst rfl (z_ord ⟨_, rfl, ite_b (fun c => ?_) fun c => ?_⟩)))
  · have hl : n < ts.length := by
      have := of_decide_eq_true c
      rw [strL_len] at this
      omega
    have e : tokAt ts n = ts[n] := by unfold tokAt; rw [List.getElem?_eq_getElem hl]; rfl
    rw [e] at q
    exact f_tokens hp m_tokens (f_at hp m_at (z_ix_lst rfl (strL_get (List.getElem?_eq_getElem hl)) q))
  · have hl : ¬ n < ts.length := by
      have := of_decide_eq_false c
      rw [strL_len] at this
      omega
    have e : tokAt ts n = [] := by unfold tokAt; rw [List.getElem?_eq_none (by omega)]; rfl
    rw [e] at q
    exact q
theorem ok_Reader_peek (CR : Addr) (F : FunD K "peek" "Reader.peek" (defArgs (inClass (top 36) 2)) (defBody (inClass (top 36) 2)) (defScope (inClass (top 36) 2)) [] [] f fd) (g : GOk (c_Reader_peek T CR) k P w K mg base) : FnAt P w K mg base T (k + 2) f (sp_Reader_peek CR) := by
  refine fnAt3 F (F.bindsN fun _ _ _ _ _ _ us hl => match us, hl with | [_], _ => rfl) (ps := ["self"]) (C8.fnScope_by (by kernel_rfl)) rfl g (b_Reader_peek _) (k_Reader_peek T CR) (fun ds G Q E h => ?_) (fun ds G Q E h => ?_)
  · rcases ds with _ | ⟨a0, _ | r⟩ <;> first | rfl | exact False.elim h
  · rcases ds with _ | ⟨a0, _ | r⟩ <;> first | exact False.elim h | exact p_Reader_peek h
def S_Reader_next_is (CR : Addr) (x y : D) (G : Gp) (Q : K3) (E : X3) : Prop := ∃ p ts line most n w, Rd3 CR G x p ts line most n ∧ y = .str (mkS w) ∧
  (ts[n]? = some w → Q (.bl true) (updG G p (rdO CR ts line most (n + 1 : Nat)))) ∧ (ts[n]? ≠ some w → Q (.bl false) G)
abbrev s_Reader_next_is : Stmt := (inClass (top 36) 3)
def n_Reader_next_is : List Str := ["self", "token"]
def b_Reader_next_is (c : Cn) : List (CS c) := [sIf (tAnds [(tCmp3 .Lt (eFld (eVar 0) "at") (eBf .len [(eFld (eVar 0) "tokens")])), (tCmp3 .Eq (eIx (eFld (eVar 0) "tokens") (eFld (eVar 0) "at")) (eVar 1))]) [sFldAug3 .Add "at" (eVar 0) (eInt 1), sRet (eBl true)] [], sRet (eBl false)]
def c_Reader_next_is (T : List (Addr × Str)) (CR : Addr) : Cn := { T := T, N := n_Reader_next_is, nm := (defScope (inClass (top 36) 3)).names, bt := ["len"], fl := rdF CR }
theorem k_Reader_next_is (T : List (Addr × Str)) (CR : Addr) : chkSs (b_Reader_next_is (c_Reader_next_is T CR)) (defBody (inClass (top 36) 3)) = true := by kernel_rfl
def sp_Reader_next_is (CR : Addr) : Sp3 := fun ds G Q E => match ds with
  | [a0, a1] => S_Reader_next_is CR a0 a1 G Q E
  | _ => False
abbrev W_Reader_next_is (T : List (Addr × Str)) (CR : Addr) (a0 a1 : D) (G : Gp) (Q : K3) (E : X3) : Prop := seqT ((b_Reader_next_is (c_Reader_next_is T CR)).map (·.t)) { nx := fun _ G' => Q .non G', rt := Q, xe := E } [some a0, some a1] G
theorem p_Reader_next_is {CR : Addr} {x y : D} {G : Gp} {Q : K3} {E : X3} (h : S_Reader_next_is CR x y G Q E) : W_Reader_next_is T CR x y G Q E := by
  obtain ⟨p, ts, line, most, n, w, ⟨rfl, hp⟩, rfl, q1, q2⟩ := h
  unfold W_Reader_next_is b_Reader_next_is
  walk_at "den"
  simp only [c_Reader_next_is, List.getElem?_cons_zero]
  refine f_at hp m_at (f_tokens hp m_tokens (z_len_lst rfl (z_ord ⟨_, rfl, ite_b (fun c => ?_) fun c => ?_⟩)))
  · have hl : n < ts.length := by
      have := of_decide_eq_true c
      rw [strL_len] at this
      omega
    refine f_tokens hp m_tokens (f_at hp m_at (z_ix_lst rfl (strL_get (List.getElem?_eq_getElem hl)) (z_eq_str ⟨_, rfl, ite_b (fun c2 => ?_) fun c2 => ?_⟩)))
    · refine ⟨p, CR, _, _, rfl, hp, m_at, rfl, _, hp, by simp, q1 (by rw [List.getElem?_eq_getElem hl, of_decide_eq_true c2])⟩
    · exact q2 (by rw [List.getElem?_eq_getElem hl]; intro z; exact of_decide_eq_false c2 (Option.some.inj z))
  · have hl : ¬ n < ts.length := by
      have := of_decide_eq_false c
      rw [strL_len] at this
      omega
    exact ite_f rfl (q2 (by rw [List.getElem?_eq_none (by omega)]; intro z; cases z))
theorem ok_Reader_next_is (CR : Addr) (F : FunD K "next_is" "Reader.next_is" (defArgs (inClass (top 36) 3)) (defBody (inClass (top 36) 3)) (defScope (inClass (top 36) 3)) [] [] f fd) (g : GOk (c_Reader_next_is T CR) k P w K mg base) : FnAt P w K mg base T (k + 2) f (sp_Reader_next_is CR) := by
  refine fnAt3 F (F.bindsN fun _ _ _ _ _ _ us hl => match us, hl with | [_, _], _ => rfl) (ps := ["self", "token"]) (C8.fnScope_by (by kernel_rfl)) rfl g (b_Reader_next_is _) (k_Reader_next_is T CR) (fun ds G Q E h => ?_) (fun ds G Q E h => ?_)
  · rcases ds with _ | ⟨a0, _ | ⟨a1, _ | r⟩⟩ <;> first | rfl | exact False.elim h
  · rcases ds with _ | ⟨a0, _ | ⟨a1, _ | r⟩⟩ <;> first | exact False.elim h | exact p_Reader_next_is h
def S_Reader_need (CR CB : Addr) (x y : D) (G : Gp) (Q : K3) (E : X3) : Prop := ∃ p ts line most n w, Rd3 CR G x p ts line most n ∧ y = .str (mkS w) ∧
  (ts[n]? = some w → Q .non (updG G p (rdO CR ts line most (n + 1 : Nat)))) ∧ (ts[n]? ≠ some w → E CB (fW line (n + 1)) G)
abbrev s_Reader_need : Stmt := (inClass (top 36) 4)
def n_Reader_need : List Str := ["self", "token"]
def b_Reader_need (c : Cn) : List (CS c) := [sIf (tNot3 (tTru (eOm 0 "next_is" (eVar 0) [(eVar 1)]))) [sExpr (eOm 1 "wrong" (eVar 0) [])] []]
def c_Reader_need (T : List (Addr × Str)) (CR CB : Addr) : Cn := { T := T, N := n_Reader_need, nm := (defScope (inClass (top 36) 4)).names, mt := [("next_is", CR, sp_Reader_next_is CR), ("wrong", CR, sp_Reader_wrong CR CB)], fl := rdF CR }
theorem k_Reader_need (T : List (Addr × Str)) (CR CB : Addr) : chkSs (b_Reader_need (c_Reader_need T CR CB)) (defBody (inClass (top 36) 4)) = true := by kernel_rfl
def sp_Reader_need (CR CB : Addr) : Sp3 := fun ds G Q E => match ds with
  | [a0, a1] => S_Reader_need CR CB a0 a1 G Q E
  | _ => False
abbrev W_Reader_need (T : List (Addr × Str)) (CR CB : Addr) (a0 a1 : D) (G : Gp) (Q : K3) (E : X3) : Prop := seqT ((b_Reader_need (c_Reader_need T CR CB)).map (·.t)) { nx := fun _ G' => Q .non G', rt := Q, xe := E } [some a0, some a1] G
theorem p_Reader_need {CR CB : Addr} {x y : D} {G : Gp} {Q : K3} {E : X3} (h : S_Reader_need CR CB x y G Q E) : W_Reader_need T CR CB x y G Q E := by
  obtain ⟨p, ts, line, most, n, w, ⟨rfl, hp⟩, rfl, q1, q2⟩ := h
  unfold W_Reader_need b_Reader_need
  walk_at "den"
  simp only [c_Reader_need, List.getElem?_cons_zero, List.getElem?_cons_succ]
  refine ⟨p, _, rfl, hp, rfl, p, ts, line, most, n, w, ⟨rfl, hp⟩, rfl, fun e => ⟨_, tru_bl, ?_⟩, fun e => ⟨_, tru_bl, ?_⟩⟩
  · exact ite_f rfl (q1 e)
  · exact ite_t rfl ⟨p, _, rfl, hp, rfl, p, ts, line, most, n, ⟨rfl, hp⟩, q2 e⟩
theorem ok_Reader_need (CR CB : Addr) (F : FunD K "need" "Reader.need" (defArgs (inClass (top 36) 4)) (defBody (inClass (top 36) 4)) (defScope (inClass (top 36) 4)) [] [] f fd) (g : GOk (c_Reader_need T CR CB) k P w K mg base) : FnAt P w K mg base T (k + 2) f (sp_Reader_need CR CB) := by
  refine fnAt3 F (F.bindsN fun _ _ _ _ _ _ us hl => match us, hl with | [_, _], _ => rfl) (ps := ["self", "token"]) (C8.fnScope_by (by kernel_rfl)) rfl g (b_Reader_need _) (k_Reader_need T CR CB) (fun ds G Q E h => ?_) (fun ds G Q E h => ?_)
  · rcases ds with _ | ⟨a0, _ | ⟨a1, _ | r⟩⟩ <;> first | rfl | exact False.elim h
  · rcases ds with _ | ⟨a0, _ | ⟨a1, _ | r⟩⟩ <;> first | exact False.elim h | exact p_Reader_need h
def S_Reader_end (CR CB : Addr) (x : D) (G : Gp) (Q : K3) (E : X3) : Prop := ∃ p ts line most n, Rd3 CR G x p ts line most n ∧
  (ts.length ≤ n → Q .non G) ∧ (n < ts.length → E CB (fW line (n + 1)) G)
abbrev s_Reader_end : Stmt := (inClass (top 36) 7)
def n_Reader_end : List Str := ["self"]
def b_Reader_end (c : Cn) : List (CS c) := [sIf (tCmp3 .Lt (eFld (eVar 0) "at") (eBf .len [(eFld (eVar 0) "tokens")])) [sExpr (eOm 0 "wrong" (eVar 0) [])] []]
def c_Reader_end (T : List (Addr × Str)) (CR CB : Addr) : Cn := { T := T, N := n_Reader_end, nm := (defScope (inClass (top 36) 7)).names, bt := ["len"], mt := [("wrong", CR, sp_Reader_wrong CR CB)], fl := rdF CR }
theorem k_Reader_end (T : List (Addr × Str)) (CR CB : Addr) : chkSs (b_Reader_end (c_Reader_end T CR CB)) (defBody (inClass (top 36) 7)) = true := by kernel_rfl
def sp_Reader_end (CR CB : Addr) : Sp3 := fun ds G Q E => match ds with
  | [a0] => S_Reader_end CR CB a0 G Q E
  | _ => False
abbrev W_Reader_end (T : List (Addr × Str)) (CR CB : Addr) (a0 : D) (G : Gp) (Q : K3) (E : X3) : Prop := seqT ((b_Reader_end (c_Reader_end T CR CB)).map (·.t)) { nx := fun _ G' => Q .non G', rt := Q, xe := E } [some a0] G
theorem p_Reader_end {CR CB : Addr} {x : D} {G : Gp} {Q : K3} {E : X3} (h : S_Reader_end CR CB x G Q E) : W_Reader_end T CR CB x G Q E := by
  obtain ⟨p, ts, line, most, n, ⟨rfl, hp⟩, q1, q2⟩ := h
  unfold W_Reader_end b_Reader_end
  walk_at "den"
  simp only [c_Reader_end, List.getElem?_cons_zero]
  refine f_at hp m_at (f_tokens hp m_tokens (z_len_lst rfl (z_ord ⟨_, rfl, ite_b (fun c => ?_) fun c => ?_⟩)))
  · have hl : n < ts.length := by
      have := of_decide_eq_true c
      rw [strL_len] at this
      omega
    exact ⟨p, _, rfl, hp, rfl, p, ts, line, most, n, ⟨rfl, hp⟩, q2 hl⟩
  · have hl : ¬ n < ts.length := by
      have := of_decide_eq_false c
      rw [strL_len] at this
      omega
    exact q1 (by omega)
theorem ok_Reader_end (CR CB : Addr) (F : FunD K "end" "Reader.end" (defArgs (inClass (top 36) 7)) (defBody (inClass (top 36) 7)) (defScope (inClass (top 36) 7)) [] [] f fd) (g : GOk (c_Reader_end T CR CB) k P w K mg base) : FnAt P w K mg base T (k + 2) f (sp_Reader_end CR CB) := by
  refine fnAt3 F (F.bindsN fun _ _ _ _ _ _ us hl => match us, hl with | [_], _ => rfl) (ps := ["self"]) (C8.fnScope_by (by kernel_rfl)) rfl g (b_Reader_end _) (k_Reader_end T CR CB) (fun ds G Q E h => ?_) (fun ds G Q E h => ?_)
  · rcases ds with _ | ⟨a0, _ | r⟩ <;> first | rfl | exact False.elim h
  · rcases ds with _ | ⟨a0, _ | r⟩ <;> first | exact False.elim h | exact p_Reader_end h
end W75
set_option Elab.async false
set_option linter.all false
set_option maxRecDepth 100000
set_option maxHeartbeats 1000000
namespace W75
open PySem PySem.Spec PyProof.Rows L2 LamX L3 Hd
local macro_rules | `(tactic| walk_at "den") => `(tactic| simp only [List.map, sRet, sSet, sSetLc, sAsg, sPar, sPar3, sExpr, sPass, sBreak, sCont, sIf, sWhile, sFor, sAug, sFld3, sFldAug3, sSub, sRaise,
  seqT, retT, setT, asgT, parT, dropT, ifT, augT, fldT, fldAugT, subT, rzT, eAnds, eOrs, eNot, eBf, eVar, eTy, eInt, eStr, eBl, eNon, eGlob, eBin, eNeg, eCmp, eChain, eIf, eTup, eLst, eFrz, eIx, eSl, eFld, eCall, eCall0, eBm, eOm, eLc, eMake, eDisp, eGcd, iSeq, iLst, iTupl, iTxt, L3.iRng1, L3.iRng2, iEnm, iEnmT, iRngDn, eDict0, L3.ifsT,
  tCmp3, tChain3, tTru, tNot3, tAnds, tOrs, testT, truT, notT, andT, orT, andE, orE, notE, ifE, cE', argT, varE, cE, opE, unE, chainE, tupE, lstE, slE, optE, spE, mtE, omE, makeE, dispE, Bf.r, Bm.r, Bm.ty, Tg.t, setAll, Option.map,
  List.getElem?_cons_zero, List.getElem?_cons_succ, List.set_cons_zero, List.set_cons_succ, Option.some.injEq, exists_eq_left', List.length_cons, List.length_nil, Nat.reduceAdd, true_and, binD, cmpD, augD, fnSp, mtC, mkC, rzC, gvD])
variable {P : Program} {w : World} {K : PySem.W.Frag} {mg : Str → Option Value} {base : Heap} {T : List (Addr × Str)} {k : Nat} {f : Addr} {fd : FuncData}
/-! ### numbers of a text -/
open PySem.NumText
def numV (w : List Nat) : Int := (digitsVal w : Nat)
theorem digs_of {w : List Nat} (h : w.all (inL FIGs) = true) : AllDigits w := by
  intro c hc
  have := List.all_eq_true.mp h c hc
  have hm : c ∈ FIGs := of_decide_eq_true this
  have e : FIGs = [48, 49, 50, 51, 52, 53, 54, 55, 56, 57] := by decide +kernel
  rw [e] at hm
  simp at hm
  omega
theorem isNum_facts {w : List Nat} {most : Int} (h : isNum w most = true) : w ≠ [] ∧ (w.length : Int) ≤ most ∧ w.all (inL FIGs) = true := by
  unfold isNum at h
  simp only [Bool.and_eq_true, Bool.not_eq_true', decide_eq_false_iff_not] at h
  exact ⟨h.1.1.1, by omega, h.1.2⟩
theorem numV_text {w : List Nat} {most : Int} (h : isNum w most = true) (hl : w.length ≤ 640) : intText? (mkS w) = some (numV w) := by
  obtain ⟨h1, h2, h3⟩ := isNum_facts h
  exact intText_digits (x := mkS w) (digs_of h3) h1 (by show w.length ≤ 4300; omega)
/-- the tokens' sizes -/
def TokOk (ts : List (List Nat)) : Prop := ∀ w ∈ ts, SzOk w ∧ (w.length ≤ 640 ∨ 4000 < w.length)
theorem tokOk_at {ts : List (List Nat)} (h : TokOk ts) (n : Nat) : SzOk (tokAt ts n) ∧ ((tokAt ts n).length ≤ 640 ∨ 4000 < (tokAt ts n).length) := by
  unfold tokAt
  cases e : ts[n]? with
  | none => exact ⟨Nat.zero_le _, .inl (Nat.zero_le _)⟩
  | some w => exact h w (List.mem_of_getElem? e)
theorem num_small {ts : List (List Nat)} (h : TokOk ts) {n : Nat} {most : Int} (hm : most ≤ 4000) (hn : isNum (tokAt ts n) most = true) : (tokAt ts n).length ≤ 640 := by
  obtain ⟨_, h2, _⟩ := isNum_facts hn
  rcases (tokOk_at h n).2 with h3 | h3
  · exact h3
  · omega
def S_Reader_numeral (CR CB : Addr) (x : D) (G : Gp) (Q : K3) (E : X3) : Prop := ∃ p ts line most n, Rd3 CR G x p ts line most n ∧ most ≤ 4000 ∧ TokOk ts ∧
  (isNum (tokAt ts n) most = true → Q (.int (numV (tokAt ts n))) (updG G p (rdO CR ts line most (n + 1 : Nat)))) ∧ (isNum (tokAt ts n) most = false → E CB (fW line (n + 1)) G)
abbrev s_Reader_numeral : Stmt := (inClass (top 36) 5)
def n_Reader_numeral : List Str := ["self"]
def b_Reader_numeral (c : Cn) : List (CS c) := [sIf (tNot3 (tTru (eCall 0 [(eOm 0 "peek" (eVar 0) []), (eFld (eVar 0) "most")]))) [sExpr (eOm 1 "wrong" (eVar 0) [])] [], sFldAug3 .Add "at" (eVar 0) (eInt 1), sRet (eBf .int [(eIx (eFld (eVar 0) "tokens") (eBin .Sub (eFld (eVar 0) "at") (eInt 1)))])]
def c_Reader_numeral (T : List (Addr × Str)) (CR CB : Addr) : Cn := { T := T, N := n_Reader_numeral, nm := (defScope (inClass (top 36) 5)).names, fn := [("is_numeral", sp_is_numeral)], bt := ["int"], mt := [("peek", CR, sp_Reader_peek CR), ("wrong", CR, sp_Reader_wrong CR CB)], fl := rdF CR }
theorem k_Reader_numeral (T : List (Addr × Str)) (CR CB : Addr) : chkSs (b_Reader_numeral (c_Reader_numeral T CR CB)) (defBody (inClass (top 36) 5)) = true := by kernel_rfl
def sp_Reader_numeral (CR CB : Addr) : Sp3 := fun ds G Q E => match ds with
  | [a0] => S_Reader_numeral CR CB a0 G Q E
  | _ => False
abbrev W_Reader_numeral (T : List (Addr × Str)) (CR CB : Addr) (a0 : D) (G : Gp) (Q : K3) (E : X3) : Prop := seqT ((b_Reader_numeral (c_Reader_numeral T CR CB)).map (·.t)) { nx := fun _ G' => Q .non G', rt := Q, xe := E } [some a0] G
theorem tokAt_get {ts : List (List Nat)} {n : Nat} (h : tokAt ts n ≠ []) : ts[n]? = some (tokAt ts n) := by
  unfold tokAt at h ⊢
  cases e : ts[n]? with
  | none => rw [e] at h; exact absurd rfl h
  | some w => rfl
theorem p_Reader_numeral {CR CB : Addr} {x : D} {G : Gp} {Q : K3} {E : X3} (h : S_Reader_numeral CR CB x G Q E) : W_Reader_numeral T CR CB x G Q E := by
  obtain ⟨p, ts, line, most, n, ⟨rfl, hp⟩, hm, ht, q1, q2⟩ := h
  unfold W_Reader_numeral b_Reader_numeral
  walk_at "den"
  simp only [c_Reader_numeral, List.getElem?_cons_zero, List.getElem?_cons_succ]
  refine ⟨p, _, rfl, hp, rfl, p, ts, line, most, n, ⟨rfl, hp⟩, f_most hp m_most ⟨tokAt ts n, most, rfl, rfl, (tokOk_at ht n).1, hm, _, tru_bl, ite_b (fun c => ?_) fun c => ?_⟩⟩
  · exact ⟨p, _, rfl, hp, rfl, p, ts, line, most, n, ⟨rfl, hp⟩, q2 (by simpa using c)⟩
  · have hn : isNum (tokAt ts n) most = true := by simpa using c
    have hg := tokAt_get (isNum_facts hn).1
    have hs := num_small ht hm hn
    refine ⟨p, CR, _, _, rfl, hp, m_at, rfl, _, hp, by simp, ?_⟩
    have e : updG G p (.ins CR (putFD "at" (.int ((n : Int) + 1)) [("tokens", .lst (strL ts)), ("line", .int line), ("most", .int most), ("at", .int n)])) = updG G p (rdO CR ts line most (n + 1 : Nat)) := rfl
    show fldD (rdF CR) "tokens" (.obj p) (updG G p (.ins CR (putFD "at" (.int ((n : Int) + 1)) [("tokens", .lst (strL ts)), ("line", .int line), ("most", .int most), ("at", .int n)]))) _
    rw [e]
    refine f_tokens updG_same m_tokens (f_at updG_same m_at (z_subI ?_))
    have e2 : ((n + 1 : Nat) : Int) - 1 = (n : Int) := by omega
    rw [e2]
    exact z_ix_lst rfl (strL_get hg) ⟨_, numV_text hn hs, hs, q1 hn⟩
theorem ok_Reader_numeral (CR CB : Addr) (F : FunD K "numeral" "Reader.numeral" (defArgs (inClass (top 36) 5)) (defBody (inClass (top 36) 5)) (defScope (inClass (top 36) 5)) [] [] f fd) (g : GOk (c_Reader_numeral T CR CB) k P w K mg base) : FnAt P w K mg base T (k + 2) f (sp_Reader_numeral CR CB) := by
  refine fnAt3 F (F.bindsN fun _ _ _ _ _ _ us hl => match us, hl with | [_], _ => rfl) (ps := ["self"]) (C8.fnScope_by (by kernel_rfl)) rfl g (b_Reader_numeral _) (k_Reader_numeral T CR CB) (fun ds G Q E h => ?_) (fun ds G Q E h => ?_)
  · rcases ds with _ | ⟨a0, _ | r⟩ <;> first | rfl | exact False.elim h
  · rcases ds with _ | ⟨a0, _ | r⟩ <;> first | exact False.elim h | exact p_Reader_numeral h
/-- what stands at s, read as a ratio behind its sign: the wrong place, or the value and where it goes on -/
def ratAt (ts : List (List Nat)) (most : Int) (below : Bool) (s : Nat) : Nat ⊕ (D × Nat) :=
  if isNum (tokAt ts s) most then
    if below && decide (numV (tokAt ts s) = 0) then .inl s
    else if !decide (numV (tokAt ts s) = 0) && decide (ts[s + 1]? = some [47]) then
      if isNum (tokAt ts (s + 2)) most then
        if ratB (.tup [.int (numV (tokAt ts s)), .int (numV (tokAt ts (s + 2)))]) then .inr (if below then .tup [.int (-(numV (tokAt ts s))), .int (numV (tokAt ts (s + 2)))] else .tup [.int (numV (tokAt ts s)), .int (numV (tokAt ts (s + 2)))], s + 3)
        else .inl (s + 2)
      else .inl (s + 2)
    else .inr (if below then .int (-(numV (tokAt ts s))) else .int (numV (tokAt ts s)), s + 1)
  else .inl s
def ratM (ts : List (List Nat)) (most : Int) (n : Nat) : Nat ⊕ (D × Nat) := if ts[n]? = some [45] then ratAt ts most true (n + 1) else ratAt ts most false n
def RatEnd (CR CB : Addr) (G : Gp) (p : Addr) (ts : List (List Nat)) (line most : Int) (Q : K3) (E : X3) (r : Nat ⊕ (D × Nat)) : Prop := match r with
  | .inl m => ∀ j, E CB (fW line (m + 1)) (updG G p (rdO CR ts line most j))
  | .inr (d, m) => Q d (updG G p (rdO CR ts line most m))
def S_Reader_ratio (cs : List Addr) (CR CB : Addr) (x : D) (G : Gp) (Q : K3) (E : X3) : Prop := ∃ p ts line most n, Rd3 CR G x p ts line most n ∧ most ≤ 4000 ∧ TokOk ts ∧
  RatEnd CR CB G p ts line most Q E (ratM ts most n)
abbrev s_Reader_ratio : Stmt := (inClass (top 36) 6)
def n_Reader_ratio : List Str := ["self", "below", "start", "found"]
def b_Reader_ratio (c : Cn) : List (CS c) := [sSet 1 (eOm 0 "next_is" (eVar 0) [(eStr "-")]), sSet 2 (eFld (eVar 0) "at"), sSet 3 (eOm 1 "numeral" (eVar 0) []), sIf (tAnds [(tTru (eVar 1)), (tCmp3 .Eq (eVar 3) (eInt 0))]) [sFld3 "at" (eVar 0) (eVar 2), sExpr (eOm 2 "wrong" (eVar 0) [])] [], sIf (tAnds [(tCmp3 .NotEq (eVar 3) (eInt 0)), (tTru (eOm 0 "next_is" (eVar 0) [(eStr "/")]))]) [sSet 2 (eFld (eVar 0) "at"), sSet 3 (eTup [(eVar 3), (eOm 1 "numeral" (eVar 0) [])]), sIf (tNot3 (tTru (eCall 0 [(eVar 3)]))) [sFld3 "at" (eVar 0) (eVar 2), sExpr (eOm 2 "wrong" (eVar 0) [])] []] [], sRet (eIf (tTru (eVar 1)) (eCall 1 [(eVar 3)]) (eVar 3))]
def c_Reader_ratio (T : List (Addr × Str)) (cs : List Addr) (CR CB : Addr) : Cn := { T := T, N := n_Reader_ratio, nm := (defScope (inClass (top 36) 6)).names, fn := [("is_ratio", sp_is_ratio cs), ("opposite", sp_opposite cs)], mt := [("next_is", CR, sp_Reader_next_is CR), ("numeral", CR, sp_Reader_numeral CR CB), ("wrong", CR, sp_Reader_wrong CR CB)], fl := rdF CR }
theorem k_Reader_ratio (T : List (Addr × Str)) (cs : List Addr) (CR CB : Addr) : chkSs (b_Reader_ratio (c_Reader_ratio T cs CR CB)) (defBody (inClass (top 36) 6)) = true := by kernel_rfl
def sp_Reader_ratio (cs : List Addr) (CR CB : Addr) : Sp3 := fun ds G Q E => match ds with
  | [a0] => S_Reader_ratio cs CR CB a0 G Q E
  | _ => False
abbrev W_Reader_ratio (T : List (Addr × Str)) (cs : List Addr) (CR CB : Addr) (a0 : D) (G : Gp) (Q : K3) (E : X3) : Prop := seqT ((b_Reader_ratio (c_Reader_ratio T cs CR CB)).map (·.t)) { nx := fun _ G' => Q .non G', rt := Q, xe := E } [some a0, none, none, none] G
theorem p_Reader_ratio {cs : List Addr} {CR CB : Addr} {x : D} {G : Gp} {Q : K3} {E : X3} (h : S_Reader_ratio cs CR CB x G Q E) : W_Reader_ratio T cs CR CB x G Q E := by
  obtain ⟨p, ts, line, most, n, ⟨rfl, hp⟩, hm, ht, q⟩ := h
  unfold W_Reader_ratio b_Reader_ratio
  refine seq_mid rfl (fun τ1 G1 => ∃ b s, τ1 = [some (.obj p), some (.bl b), none, none] ∧ G1 p = some (rdO CR ts line most (s : Nat)) ∧ (∀ o, updG G1 p o = updG G p o) ∧ RatEnd CR CB G p ts line most Q E (ratAt ts most b s)) (fun N hN => ?_) ?_
  · walk_at "den"
    simp only [c_Reader_ratio, List.getElem?_cons_zero, List.getElem?_cons_succ]
    refine ⟨p, _, rfl, hp, rfl, p, ts, line, most, n, [45], ⟨rfl, hp⟩, rfl, fun e => ?_, fun e => ?_⟩
    · refine hN _ _ ⟨true, n + 1, rfl, updG_same, fun o => updG_updG, ?_⟩
      unfold ratM at q
      rw [if_pos e] at q
      exact q
    · refine hN _ _ ⟨false, n, rfl, hp, fun o => rfl, ?_⟩
      unfold ratM at q
      rw [if_neg e] at q
      exact q
  clear q
  rintro τ1 G1 ⟨b, s, rfl, hp1, hu, q⟩
  refine seq_mid rfl (fun τ2 G2 => τ2 = [some (.obj p), some (.bl b), some (.int s), none] ∧ G2 = G1) (fun N hN => ?_) ?_
  · walk_at "den"
    simp only [c_Reader_ratio]
    exact f_at hp1 m_at (hN _ _ ⟨rfl, rfl⟩)
  rintro τ2 G2 ⟨rfl, rfl⟩
  refine seq_mid rfl (fun τ3 G3 => τ3 = [some (.obj p), some (.bl b), some (.int s), some (.int (numV (tokAt ts s)))] ∧ G3 = updG G p (rdO CR ts line most (s + 1 : Nat)) ∧ isNum (tokAt ts s) most = true) (fun N hN => ?_) ?_
  · walk_at "den"
    simp only [c_Reader_ratio, List.getElem?_cons_zero, List.getElem?_cons_succ]
    refine ⟨p, _, rfl, hp1, rfl, p, ts, line, most, s, ⟨rfl, hp1⟩, hm, ht, fun c => ?_, fun c => ?_⟩
    · rw [hu]
      exact hN _ _ ⟨rfl, rfl, c⟩
    · unfold ratAt at q
      rw [if_neg (by rw [c]; decide)] at q
      have q := q s
      rw [← hu] at q
      have e : updG G2 p (rdO CR ts line most s) = G2 := by
        funext a
        by_cases z : a = p
        · subst z; rw [updG_same, hp1]
        · rw [updG_ne z]
      rw [e] at q
      exact q
  rintro τ3 G3 ⟨rfl, rfl, hn⟩
  unfold ratAt at q
  rw [if_pos hn] at q
  generalize hv : numV (tokAt ts s) = v at q
  refine seq_mid rfl (fun τ4 G4 => τ4 = [some (.obj p), some (.bl b), some (.int s), some (.int v)] ∧ G4 = updG G p (rdO CR ts line most (s + 1 : Nat)) ∧ (b && decide (v = 0)) = false) (fun N hN => ?_) ?_
  · walk_at "den"
    simp only [c_Reader_ratio, List.getElem?_cons_zero, List.getElem?_cons_succ]
    refine ⟨_, tru_bl, ite_b (fun cb => ?_) fun cb => ite_f rfl ?_⟩
    · refine z_eqI ⟨_, rfl, ite_b (fun c0 => ?_) fun c0 => ?_⟩
      · rw [if_pos (by rw [cb, c0]; rfl)] at q
        refine ⟨p, CR, _, rfl, updG_same, m_at, by simp, p, _, rfl, updG_same, rfl, p, ts, line, most, s, ⟨rfl, updG_same⟩, ?_⟩
        rw [updG_updG]
        exact q s
      · exact hN _ _ ⟨rfl, rfl, by rw [c0, Bool.and_false]⟩
    · exact hN _ _ ⟨rfl, rfl, by rw [cb, Bool.false_and]⟩
  rintro τ4 G4 ⟨rfl, rfl, hz⟩
  rw [if_neg (by rw [hz]; decide)] at q
  refine seq_mid rfl (fun τ5 G5 => ∃ d m st, τ5 = [some (.obj p), some (.bl b), st, some d] ∧ G5 = updG G p (rdO CR ts line most (m : Nat)) ∧ ratB d = true ∧ Q (if b = true then oppD d else d) (updG G p (rdO CR ts line most (m : Nat)))) (fun N hN => ?_) ?_
  · walk_at "den"
    simp only [c_Reader_ratio, List.getElem?_cons_zero, List.getElem?_cons_succ]
    have plain : (!decide (v = 0) && decide (ts[s + 1]? = some [47])) = false → N [some (.obj p), some (.bl b), some (.int s), some (.int v)] (updG G p (rdO CR ts line most (s + 1 : Nat))) := fun hc => by
      rw [if_neg (by rw [hc]; decide)] at q
      refine hN _ _ ⟨.int v, s + 1, _, rfl, rfl, rfl, ?_⟩
      cases b <;> exact q
    refine z_neI ⟨_, rfl, ite_b (fun c0 => ?_) fun c0 => ite_f rfl ?_⟩
    · refine ⟨p, _, rfl, updG_same, rfl, p, ts, line, most, s + 1, [47], ⟨rfl, updG_same⟩, rfl, fun e => ⟨_, tru_bl, ite_t rfl ?_⟩, fun e => ⟨_, tru_bl, ite_f rfl ?_⟩⟩
      · rw [if_pos (by rw [c0, decide_eq_true e]; rfl)] at q
        rw [updG_updG]
        refine f_at updG_same m_at ⟨p, _, rfl, updG_same, rfl, p, ts, line, most, s + 2, ⟨rfl, updG_same⟩, hm, ht, fun c => ?_, fun c => ?_⟩
        · rw [if_pos c] at q
          refine ⟨two_line, ⟨_, kn_of rfl⟩, fun l hl e he => ?_, ?_⟩
          · cases hl
            simp at he
            rcases he with rfl | rfl <;> rfl
          · refine ⟨_, tru_bl, ite_b (fun cr => ?_) fun cr => ?_⟩
            · have cr : ratB (.tup [.int v, .int (numV (tokAt ts (s + 2)))]) = false := by simpa using cr
              rw [if_neg (by rw [cr]; decide)] at q
              rw [updG_updG]
              refine ⟨p, CR, _, rfl, updG_same, m_at, by simp, p, _, rfl, updG_same, rfl, p, ts, line, most, s + 2, ⟨rfl, updG_same⟩, ?_⟩
              rw [updG_updG]
              exact q _
            · have cr : ratB (.tup [.int v, .int (numV (tokAt ts (s + 2)))]) = true := by simpa using cr
              rw [if_pos cr] at q
              rw [updG_updG]
              refine hN _ _ ⟨_, s + 3, _, rfl, rfl, cr, ?_⟩
              cases b <;> exact q
        · rw [if_neg (by rw [c]; decide)] at q
          exact q _
      · exact plain (by rw [decide_eq_false e, Bool.and_false])
    · exact plain (by rw [c0, Bool.false_and])
  rintro τ5 G5 ⟨d, m, st, rfl, rfl, hr, q⟩
  walk_at "den"
  simp only [c_Reader_ratio, List.getElem?_cons_zero, List.getElem?_cons_succ]
  refine ⟨_, tru_bl, ite_b (fun c => ?_) fun c => ?_⟩
  · rw [if_pos c] at q
    exact ⟨hr, q⟩
  · rw [if_neg (by rw [c]; decide)] at q
    exact q
theorem ok_Reader_ratio (cs : List Addr) (CR CB : Addr) (F : FunD K "ratio" "Reader.ratio" (defArgs (inClass (top 36) 6)) (defBody (inClass (top 36) 6)) (defScope (inClass (top 36) 6)) [] [] f fd) (g : GOk (c_Reader_ratio T cs CR CB) k P w K mg base) : FnAt P w K mg base T (k + 2) f (sp_Reader_ratio cs CR CB) := by
  refine fnAt3 F (F.bindsN fun _ _ _ _ _ _ us hl => match us, hl with | [_], _ => rfl) (ps := ["self"]) (C8.fnScope_by (by kernel_rfl)) rfl g (b_Reader_ratio _) (k_Reader_ratio T cs CR CB) (fun ds G Q E h => ?_) (fun ds G Q E h => ?_)
  · rcases ds with _ | ⟨a0, _ | r⟩ <;> first | rfl | exact False.elim h
  · rcases ds with _ | ⟨a0, _ | r⟩ <;> first | exact False.elim h | exact p_Reader_ratio h
end W75
set_option Elab.async false
set_option linter.all false
set_option maxRecDepth 100000
set_option maxHeartbeats 1000000
namespace W75
open PySem PySem.Spec PyProof.Rows L2 LamX L3 Hd
local macro_rules | `(tactic| walk_at "den") => `(tactic| simp only [List.map, sRet, sSet, sSetLc, sAsg, sPar, sPar3, sExpr, sPass, sBreak, sCont, sIf, sWhile, sFor, sAug, sFld3, sFldAug3, sSub, sRaise,
  seqT, retT, setT, asgT, parT, dropT, ifT, augT, fldT, fldAugT, subT, rzT, eAnds, eOrs, eNot, eBf, eVar, eTy, eInt, eStr, eBl, eNon, eGlob, eBin, eNeg, eCmp, eChain, eIf, eTup, eLst, eFrz, eIx, eSl, eFld, eCall, eCall0, eBm, eOm, eLc, eMake, eDisp, eGcd, iSeq, iLst, iTupl, iTxt, L3.iRng1, L3.iRng2, iEnm, iEnmT, iRngDn, eDict0, L3.ifsT,
  tCmp3, tChain3, tTru, tNot3, tAnds, tOrs, testT, truT, notT, andT, orT, andE, orE, notE, ifE, cE', argT, varE, cE, opE, unE, chainE, tupE, lstE, slE, optE, spE, mtE, omE, makeE, dispE, Bf.r, Bm.r, Bm.ty, Tg.t, setAll, Option.map,
  List.getElem?_cons_zero, List.getElem?_cons_succ, List.set_cons_zero, List.set_cons_succ, Option.some.injEq, exists_eq_left', List.length_cons, List.length_nil, Nat.reduceAdd, true_and, binD, cmpD, augD, fnSp, mtC, mkC, rzC, gvD])
variable {P : Program} {w : World} {K : PySem.W.Frag} {mg : Str → Option Value} {base : Heap} {T : List (Addr × Str)} {k : Nat} {f : Addr} {fd : FuncData}
/-! ### reading a value -/
/-- a number, a tuple of such, nested at most n deep -/
def TP : Nat → D → Prop
  | 0, d => ∃ i, d = .int i
  | n + 1, d => (∃ i, d = .int i) ∨ ∃ l, d = .tup l ∧ l.length ≤ 1000 ∧ ∀ e ∈ l, TP n e
theorem TP.pl : ∀ {n : Nat} {d : D}, TP n d → Pl n d
  | 0, d, ⟨i, h⟩ => by subst h; exact ⟨_, rfl, by decide, by decide, by decide⟩
  | n + 1, d, .inl ⟨i, h⟩ => by subst h; exact .inl ⟨_, rfl, by decide, by decide, by decide⟩
  | n + 1, d, .inr ⟨l, h, hl, he⟩ => .inr ⟨l, .inl h, hl, fun e m => TP.pl (he e m)⟩
theorem TP.asT : ∀ {n : Nat} {d : D}, TP n d → asT n d = d
  | 0, d, _ => rfl
  | n + 1, d, .inl ⟨i, h⟩ => by subst h; rfl
  | n + 1, d, .inr ⟨l, h, hl, he⟩ => by
    subst h
    show D.tup (l.map (W75.asT n)) = .tup l
    congr 1
    exact (List.map_congr_left fun e m => TP.asT (he e m)).trans (List.map_id l)
/-- a value is found, the open lists st: the wrong place; what goes on; or the end -/
inductive Cl where
  | wrong (m : Nat)
  | on (st : List (List D)) (n : Nat)
  | done (d : D) (n : Nat)
def closeM (ts : List (List Nat)) : List (List D) → D → Nat → Cl
  | [], d, n => .done d n
  | now :: st, d, n =>
    if now = [] then
      if ts[n]? = some [44] then (if ts[n + 1]? = some [41] then closeM ts st (.tup [d]) (n + 2) else .on ([d] :: st) (n + 1)) else .wrong n
    else if ts[n]? = some [44] then .on ((now ++ [d]) :: st) (n + 1)
    else if ts[n]? = some [41] then closeM ts st (.tup (now ++ [d])) (n + 1) else .wrong n
def finM (g : List (List D) → Nat → Nat ⊕ D) (ts : List (List Nat)) : Cl → Nat ⊕ D
  | .wrong m => .inl m
  | .on st n => g st n
  | .done d n => if n < ts.length then .inl n else .inr d
def valM (ts : List (List Nat)) : Nat → List (List D) → Nat → Nat ⊕ D
  | 0, _, n => .inl n
  | f + 1, st, n =>
    if tokAt ts n = [40] ∧ st.length < 16 then
      if ts[n + 1]? = some [41] then finM (valM ts f) ts (closeM ts st (.tup []) (n + 2)) else valM ts f ([] :: st) (n + 1)
    else match ratM ts 4000 n with
      | .inl m => .inl m
      | .inr (d, m) => finM (valM ts f) ts (closeM ts st d m)
def Its (G : Gp) : List Addr → List (List D) → Prop
  | [], [] => True
  | a :: as, l :: st => G a = some (.lst l) ∧ Its G as st
  | _, _ => False
/-- the objects of a reading that goes on -/
structure VG (CR : Addr) (ts : List (List Nat)) (line : Int) (G G' : Gp) (p q : Addr) (as : List Addr) (st : List (List D)) (n : Nat) : Prop where
  rd : G' p = some (rdO CR ts line 4000 n)
  op : G' q = some (.lst (as.reverse.map .obj))
  its : Its G' as st
  nd : (p :: q :: as).Nodup
  ext : Ext G G'
  fr : ∀ b ∈ p :: q :: as, G b = none
theorem Its.eq {G G' : Gp} : ∀ {as : List Addr} {st : List (List D)}, Its G as st → (∀ a ∈ as, G' a = G a) → Its G' as st
  | [], [], _, _ => trivial
  | a :: as, l :: st, h, k => ⟨by rw [k a (List.mem_cons_self ..)]; exact h.1, Its.eq h.2 fun b hb => k b (List.mem_cons_of_mem _ hb)⟩
  | [], _ :: _, h, _ => h.elim
  | _ :: _, [], h, _ => h.elim
theorem Its.some {G : Gp} : ∀ {as : List Addr} {st : List (List D)}, Its G as st → ∀ a ∈ as, G a ≠ none
  | a :: as, l :: st, h, b, hb => by
    rcases List.mem_cons.mp hb with rfl | hb
    · rw [h.1]; intro z; cases z
    · exact Its.some h.2 b hb
  | [], _, _, _, hb => by cases hb
  | _ :: _, [], h, _, _ => h.elim
theorem Its.len {G : Gp} : ∀ {as : List Addr} {st : List (List D)}, Its G as st → as.length = st.length
  | [], [], _ => rfl
  | a :: as, l :: st, h => by rw [List.length_cons, List.length_cons, Its.len h.2]
  | [], _ :: _, h => h.elim
  | _ :: _, [], h => h.elim
section
variable {CR : Addr} {ts : List (List Nat)} {line : Int} {G G' : Gp} {p q a : Addr} {as : List Addr} {l : List D} {st : List (List D)} {n : Nat}
theorem VG.at_ (v : VG CR ts line G G' p q as st n) (m : Nat) : VG CR ts line G (updG G' p (rdO CR ts line 4000 m)) p q as st m := by
  have nd := v.nd
  simp only [List.nodup_cons, List.mem_cons, not_or] at nd
  refine ⟨updG_same, ?_, v.its.eq fun b hb => updG_ne ?_, v.nd, v.ext.upd (v.fr p (by simp)), v.fr⟩
  · rw [updG_ne (Ne.symm nd.1.1)]; exact v.op
  · rintro rfl; exact nd.1.2 hb
theorem VG.push (v : VG CR ts line G G' p q as st n) (ha : G' a = none) : VG CR ts line G (updG (updG G' a (.lst [])) q (.lst ((a :: as).reverse.map .obj))) p q (a :: as) ([] :: st) n := by
  have nd := v.nd
  simp only [List.nodup_cons, List.mem_cons, not_or] at nd
  have hap : a ≠ p := by rintro rfl; rw [v.rd] at ha; cases ha
  have haq : a ≠ q := by rintro rfl; rw [v.op] at ha; cases ha
  have haa : a ∉ as := fun h => v.its.some a h ha
  have fa : G a = none := v.ext.none ha
  refine ⟨?_, updG_same, ⟨?_, v.its.eq fun b hb => ?_⟩, ?_, (v.ext.upd fa).upd (v.fr q (by simp)), ?_⟩
  · rw [updG_ne nd.1.1, updG_ne (Ne.symm hap)]; exact v.rd
  · rw [updG_ne haq, updG_same]
  · rw [updG_ne (by rintro rfl; exact nd.2.1 hb), updG_ne (by rintro rfl; exact haa hb)]
  · simp only [List.nodup_cons, List.mem_cons, not_or]
    exact ⟨⟨nd.1.1, Ne.symm hap, nd.1.2⟩, ⟨Ne.symm haq, nd.2.1⟩, haa, nd.2.2⟩
  · intro b hb
    simp only [List.mem_cons] at hb
    rcases hb with rfl | rfl | rfl | hb
    · exact v.fr _ (by simp)
    · exact v.fr _ (by simp)
    · exact fa
    · exact v.fr _ (by simp [hb])
theorem VG.app (v : VG CR ts line G G' p q (a :: as) (l :: st) n) (d : D) : VG CR ts line G (updG G' a (.lst (l ++ [d]))) p q (a :: as) ((l ++ [d]) :: st) n := by
  have nd := v.nd
  simp only [List.nodup_cons, List.mem_cons, not_or] at nd
  refine ⟨?_, ?_, ⟨updG_same, v.its.2.eq fun b hb => updG_ne ?_⟩, v.nd, v.ext.upd (v.fr a (by simp)), v.fr⟩
  · rw [updG_ne nd.1.2.1]; exact v.rd
  · rw [updG_ne nd.2.1.1]; exact v.op
  · rintro rfl; exact nd.2.2.1 hb
theorem VG.pop (v : VG CR ts line G G' p q (a :: as) (l :: st) n) : VG CR ts line G (delG (updG G' q (.lst (as.reverse.map .obj))) a) p q as st n := by
  have nd := v.nd
  simp only [List.nodup_cons, List.mem_cons, not_or] at nd
  refine ⟨?_, ?_, v.its.2.eq fun b hb => ?_, ?_, ?_, fun b hb => ?_⟩
  · rw [delG_ne nd.1.2.1, updG_ne nd.1.1]; exact v.rd
  · rw [delG_ne nd.2.1.1, updG_same]
  · rw [delG_ne (by rintro rfl; exact nd.2.2.1 hb), updG_ne (by rintro rfl; exact nd.2.1.2 hb)]
  · simp only [List.nodup_cons, List.mem_cons, not_or]
    exact ⟨⟨nd.1.1, nd.1.2.2⟩, nd.2.1.2, nd.2.2.2⟩
  · intro b hb
    have h1 : b ≠ a := by rintro rfl; exact hb (v.fr _ (by simp))
    have h2 : b ≠ q := by rintro rfl; exact hb (v.fr _ (by simp))
    rw [delG_ne h1, updG_ne h2]
    exact v.ext b hb
  · simp only [List.mem_cons] at hb
    rcases hb with rfl | rfl | hb
    · exact v.fr _ (by simp)
    · exact v.fr _ (by simp)
    · exact v.fr _ (by simp [hb])
end
/-- the open lists' values -/
def StOk (k : Nat) : List (List D) → Prop
  | [] => True
  | l :: st => (∀ e ∈ l, TP (16 - st.length) e) ∧ l.length ≤ k ∧ StOk k st
theorem StOk.mono {k m : Nat} (h : k ≤ m) : ∀ {st : List (List D)}, StOk k st → StOk m st
  | [], _ => trivial
  | _ :: _, s => ⟨s.1, Nat.le_trans s.2.1 h, StOk.mono h s.2.2⟩
theorem TP.succ : ∀ {n : Nat} {d : D}, TP n d → TP (n + 1) d
  | 0, d, h => .inl h
  | n + 1, d, .inl h => .inl h
  | n + 1, d, .inr ⟨l, h, hl, he⟩ => .inr ⟨l, h, hl, fun e m => TP.succ (he e m)⟩
theorem TP.mono {n : Nat} {d : D} (h : TP n d) : ∀ k, TP (n + k) d
  | 0 => h
  | k + 1 => TP.succ (TP.mono h k)
theorem TP.le {n m : Nat} {d : D} (h : TP n d) (l : n ≤ m) : TP m d := by
  have := h.mono (m - n)
  rwa [show n + (m - n) = m by omega] at this
theorem lnBig : 100000 ≤ sizeLine := by rw [sizeLine_eq]; decide
theorem close_ok {cs : List Addr} {CR : Addr} {ts : List (List Nat)} {line : Int} {G G' : Gp} {p r a : Addr} {as : List Addr} {l : List D} {st : List (List D)} {n : Nat} {Q3 : K3} {E3 : X3} (v : VG CR ts line G G' p r (a :: as) (l :: st) n)
    (tp : ∀ e ∈ l, TP (16 - st.length) e) (hl : l.length ≤ 1000) (q : Q3 (.tup l) (delG (updG G' r (.lst (as.reverse.map .obj))) a)) :
    recvD G' "list" (.obj r) ∧ popD (.obj r) [] G' (fun x G1 => frzD x G1 fun d G1 => sp_as_tuples cs 18 [d] G1 Q3 E3) := by
  refine ⟨⟨rfl, _, v.op⟩, z_pop (l := as.reverse.map .obj) (d := .obj a) (by rw [v.op]; simp) (z_frz (l := l) ?_ ⟨?_, ?_⟩)⟩
  · have nd := v.nd
    simp only [List.nodup_cons, List.mem_cons, not_or] at nd
    rw [updG_ne (Ne.symm nd.2.1.1)]
    exact v.its.1
  · exact .inr ⟨l, .inr rfl, hl, fun e he => ((tp e he).le (by omega : 16 - st.length ≤ 17)).pl⟩
  · have e : asT 18 (.lst l) = .tup l := by
      show D.tup (l.map (asT 17)) = .tup l
      congr 1
      exact (List.map_congr_left fun e m => ((tp e m).le (by omega : 16 - st.length ≤ 17)).asT).trans (List.map_id l)
    rw [e]
    exact q
theorem ratM_facts {ts : List (List Nat)} {n m : Nat} {d : D} (h : ratM ts 4000 n = .inr (d, m)) (hn : n ≤ ts.length) : n < m ∧ m ≤ ts.length ∧ ∀ k, TP (k + 1) d := by
  have main : ∀ b s, n ≤ s → ratAt ts 4000 b s = .inr (d, m) → n < m ∧ m ≤ ts.length ∧ ∀ k, TP (k + 1) d := by
    intro b s hs h
    unfold ratAt at h
    split at h
    · rename_i h1
      have l1 : s < ts.length := by
        by_cases q : s < ts.length
        · exact q
        · have e : tokAt ts s = [] := by unfold tokAt; rw [List.getElem?_eq_none (by omega)]; rfl
          exact absurd e (isNum_facts h1).1
      split at h
      · cases h
      · split at h
        · split at h
          · rename_i h3
            have l2 : s + 2 < ts.length := by
              by_cases q : s + 2 < ts.length
              · exact q
              · have e : tokAt ts (s + 2) = [] := by unfold tokAt; rw [List.getElem?_eq_none (by omega)]; rfl
                exact absurd e (isNum_facts h3).1
            split at h
            · cases h
              refine ⟨by omega, by omega, fun k => ?_⟩
              have tp : ∀ (a b : Int), TP (k + 1) (.tup [.int a, .int b]) := fun a b => .inr ⟨_, rfl, by simp, fun e he => by
                simp at he
                rcases he with rfl | rfl
                · cases k with
                  | zero => exact ⟨_, rfl⟩
                  | succ k => exact .inl ⟨_, rfl⟩
                · cases k with
                  | zero => exact ⟨_, rfl⟩
                  | succ k => exact .inl ⟨_, rfl⟩⟩
              cases b <;> exact tp _ _
            · cases h
          · cases h
        · cases h
          refine ⟨by omega, by omega, fun k => ?_⟩
          cases b <;> exact .inl ⟨_, rfl⟩
    · cases h
  unfold ratM at h
  split at h
  · exact main _ _ (by omega) h
  · exact main _ _ (Nat.le_refl _) h
def S_value_in (cs : List Addr) (CR CB : Addr) (x a l : D) (G : Gp) (Q : K3) (E : X3) : Prop := ∃ ts line n, x = .lst (strL ts) ∧ a = .int (n : Nat) ∧ l = .int line ∧ TokOk ts ∧ ts.length ≤ 1000 ∧ n ≤ ts.length ∧ match valM ts (ts.length + 1) [] n with
  | .inl m => E CB (fW line (m + 1)) G
  | .inr d => Q d G
abbrev s_value_in : Stmt := (top 46)
def n_value_in : List Str := ["tokens", "at", "line", "reader", "open_now", "found", "now"]
def b_value_in (c : Cn) : List (CS c) := [sPar 3 4 (eMake 0 [(eVar 0), (eVar 2), (eGlob 0)]) (eLst [] true), sFld3 "at" (eVar 3) (eVar 1), sWhile (tTru (eBl true)) [sIf (tAnds [(tCmp3 .Eq (eOm 0 "peek" (eVar 3) []) (eStr "(")), (tCmp3 .Lt (eBf .len [(eVar 4)]) (eGlob 1))]) [sFldAug3 .Add "at" (eVar 3) (eInt 1), sExpr (eBm .append (eVar 4) [(eLst [] true)]), sIf (tNot3 (tTru (eOm 1 "next_is" (eVar 3) [(eStr ")")]))) [sCont] [], sSet 5 (eBf .tuple [(eFrz (eBm .pop (eVar 4) []))])] [sSet 5 (eOm 2 "ratio" (eVar 3) [])], sWhile (tCmp3 .NotEq (eVar 4) (eLst [])) [sSet 6 (eIx (eVar 4) (eNeg (eInt 1))), sExpr (eBm .append (eVar 6) [(eVar 5)]), sIf (tCmp3 .Eq (eBf .len [(eVar 6)]) (eInt 1)) [sExpr (eOm 3 "need" (eVar 3) [(eStr ",")]), sIf (tNot3 (tTru (eOm 1 "next_is" (eVar 3) [(eStr ")")]))) [sBreak] []] [sIf (tTru (eOm 1 "next_is" (eVar 3) [(eStr ",")])) [sBreak] [sExpr (eOm 3 "need" (eVar 3) [(eStr ")")])]], sSet 5 (eCall 0 [(eFrz (eBm .pop (eVar 4) []))])], sIf (tCmp3 .Eq (eVar 4) (eLst [])) [sExpr (eOm 4 "end" (eVar 3) []), sRet (eVar 5)] []]]
def c_value_in (T : List (Addr × Str)) (cs : List Addr) (CR CB : Addr) : Cn := { T := T, N := n_value_in, nm := (defScope (top 46)).names, fn := [("as_tuples", sp_as_tuples cs 18)], gv := [("MOST_PLAIN", .int 4000), ("MOST_NESTED", .int 16)], bt := ["len", "tuple"], mt := [("peek", CR, sp_Reader_peek CR), ("next_is", CR, sp_Reader_next_is CR), ("ratio", CR, sp_Reader_ratio cs CR CB), ("need", CR, sp_Reader_need CR CB), ("end", CR, sp_Reader_end CR CB)], mks := [("Reader", CR, sp_Reader___init__ CR)], fl := rdF CR }
theorem k_value_in (T : List (Addr × Str)) (cs : List Addr) (CR CB : Addr) : chkSs (b_value_in (c_value_in T cs CR CB)) (defBody (top 46)) = true := by kernel_rfl
def sp_value_in (cs : List Addr) (CR CB : Addr) : Sp3 := fun ds G Q E => match ds with
  | [a0, a1, a2] => S_value_in cs CR CB a0 a1 a2 G Q E
  | _ => False
abbrev W_value_in (T : List (Addr × Str)) (cs : List Addr) (CR CB : Addr) (a0 a1 a2 : D) (G : Gp) (Q : K3) (E : X3) : Prop := seqT ((b_value_in (c_value_in T cs CR CB)).map (·.t)) { nx := fun _ G' => FG Q .non G', rt := FG Q, xe := FX E } [some a0, some a1, some a2, none, none, none, none] G
theorem p_value_in {cs : List Addr} {CR CB : Addr} {x a l : D} {G : Gp} {Q : K3} {E : X3} (h : S_value_in cs CR CB x a l G Q E) : W_value_in T cs CR CB x a l G Q E := by
  obtain ⟨ts, line, n, rfl, rfl, rfl, ht, hts, hn, q⟩ := h
  unfold W_value_in b_value_in
  walk_at "den"
  simp only [c_value_in, List.getElem?_cons_zero, List.getElem?_cons_succ]
  have Fin0 : ∃ Fin : Nat ⊕ D → Prop, (∀ m, Fin (.inl m) = E CB (fW line (m + 1)) G) ∧ (∀ d, Fin (.inr d) = Q d G) ∧ Fin (valM ts (ts.length + 1) [] n) := ⟨fun r => match r with
    | .inl m => E CB (fW line (m + 1)) G
    | .inr d => Q d G, fun _ => rfl, fun _ => rfl, q⟩
  obtain ⟨Fin, fw, fd, hfin⟩ := Fin0
  intro p hp
  refine ⟨p, ts, line, 4000, rfl, rfl, rfl, rfl, updG_same, rfl, Nat.zero_le _, z_mkT fun r hr => ⟨p, CR, [("tokens", .lst (strL ts)), ("line", .int line), ("most", .int 4000), ("at", .int 0)], rfl, ?_, m_at, by simp, ?_⟩⟩
  · have ne : p ≠ r := by rintro rfl; rw [updG_updG, updG_same] at hr; cases hr
    rw [updG_ne ne]
    exact updG_same
  have ne : p ≠ r := by rintro rfl; rw [updG_updG, updG_same] at hr; cases hr
  rw [updG_updG] at hr
  have hr' : G r = none := by rw [updG_ne (Ne.symm ne)] at hr; exact hr
  refine while_by (fun m τ G' => ∃ as st k f e6, τ = [some (.lst (strL ts)), some (.int n), some (.int line), some (.obj p), some (.obj r), f, e6] ∧ VG CR ts line G G' p r as st k ∧ StOk k st ∧ st.length ≤ 16 ∧ k ≤ ts.length ∧ ts.length + 1 ≤ k + m ∧ Fin (valM ts m st k)) (ts.length + 1) ?_ ?_
  · rintro m τ G' N ⟨as, st, k, f, e6, rfl, v, so, s16, hk, hm, hf⟩ hN
    simp only [truT, cE]
    refine ⟨_, tru_bl, ite_t rfl ?_⟩
    have v0 := v
    have hm0 : ∃ m', m = m' + 1 := ⟨m - 1, by omega⟩
    obtain ⟨m', rfl⟩ := hm0
    -- a value is found, or the loop goes on
    refine seqT_mid (fun τ2 G2 => ∃ as st k d e6, τ2 = [some (.lst (strL ts)), some (.int n), some (.int line), some (.obj p), some (.obj r), some d, e6] ∧ VG CR ts line G G2 p r as st k ∧ StOk k st ∧ st.length ≤ 16 ∧ k ≤ ts.length ∧ ts.length + 1 ≤ k + m' ∧ TP (17 - st.length) d ∧
        Fin (finM (valM ts m') ts (closeM ts st d k))) (fun N2 hN2 => ?_) ?_
    · have hpk := v.rd
      walk_at "den"
      have hlen : asL G' (.obj r) = some (as.reverse.map .obj) := asL_obj v.op
      have hal := v.its.len
      unfold valM at hf
      refine ⟨p, _, rfl, v.rd, rfl, p, ts, line, 4000, k, ⟨rfl, v.rd⟩, z_eq_str (b := [40]) ⟨_, rfl, ?_⟩⟩
      have other : ¬ (tokAt ts k = [40] ∧ st.length < 16) → ∃ p_2 fs, D.obj p = .obj p_2 ∧ G' p_2 = some (.ins CR fs) ∧ List.lookup ("ratio" : Str) fs = none ∧ sp_Reader_ratio cs CR CB [.obj p] G' (fun d G1 => N2 [some (.lst (strL ts)), some (.int n), some (.int line), some (.obj p), some (.obj r), some d, e6] G1) (FX E) := by
        intro hc
        rw [if_neg hc] at hf
        refine ⟨p, _, rfl, v.rd, rfl, p, ts, line, 4000, k, ⟨rfl, v.rd⟩, by decide, ht, ?_⟩
        cases er : ratM ts 4000 k with
        | inl m =>
          rw [er] at hf
          have hf : Fin (.inl m) := hf
          rw [fw] at hf
          exact fun j => ⟨G, (v.ext.upd hp).les, hf⟩
        | inr dm =>
          obtain ⟨d, m⟩ := dm
          rw [er] at hf
          obtain ⟨h1, h2, h3⟩ := ratM_facts er hk
          refine hN2 _ _ ⟨as, st, m, d, e6, rfl, v.at_ m, so.mono (by omega), s16, h2, by omega, ?_, hf⟩
          have := h3 (16 - st.length)
          rwa [show 16 - st.length + 1 = 17 - st.length by omega] at this
      refine ite_b (fun c => ?_) fun c => ite_f rfl (other fun z => of_decide_eq_false c z.1)
      refine z_len_lst hlen (z_ord ⟨_, rfl, ite_b (fun c2 => ?_) fun c2 => ?_⟩)
      · have l16 : st.length < 16 := by
          have := of_decide_eq_true c2
          simp at this
          omega
        have hl1 : k < ts.length := by
          by_cases q : k < ts.length
          · exact q
          · have e : tokAt ts k = [] := by unfold tokAt; rw [List.getElem?_eq_none (by omega)]; rfl
            rw [e] at c
            exact absurd c (by decide)
        rw [if_pos ⟨of_decide_eq_true c, l16⟩] at hf
        refine ⟨p, CR, _, _, rfl, v.rd, m_at, rfl, _, v.rd, by simp, ?_⟩
        have v1 := v.at_ (k + 1)
        refine ⟨⟨rfl, _, v1.op⟩, Nat.zero_le _, z_mkT fun a ha => ?_⟩
        have ha : updG G' p (rdO CR ts line 4000 (k + 1 : Nat)) a = none := ha
        have har : r ≠ a := by rintro rfl; rw [v1.op] at ha; cases ha
        have v2 := v1.push ha
        refine z_append (l := as.reverse.map .obj) (by rw [updG_ne har]; exact v1.op) (by simp; have := ln1000; omega) ?_
        have el : as.reverse.map D.obj ++ [D.obj a] = (a :: as).reverse.map .obj := by simp
        rw [el]
        refine ⟨p, _, rfl, v2.rd, rfl, p, ts, line, 4000, k + 1, [41], ⟨rfl, v2.rd⟩, rfl, fun e => ⟨_, tru_bl, ite_f rfl ?_⟩, fun e => ⟨_, tru_bl, ite_t rfl ?_⟩⟩
        · have hl2 : k + 1 < ts.length := by
            by_cases q : k + 1 < ts.length
            · exact q
            · rw [List.getElem?_eq_none (by omega)] at e; cases e
          rw [if_pos e] at hf
          have v3 := v2.at_ (k + 2)
          have v4 := v3.pop
          refine ⟨⟨rfl, _, v3.op⟩, z_pop (l := as.reverse.map .obj) (d := .obj a) (by rw [el]; exact v3.op) (z_frz (l := []) ?_ ?_)⟩
          · have nd := v3.nd
            simp only [List.nodup_cons, List.mem_cons, not_or] at nd
            rw [updG_ne (Ne.symm nd.2.1.1)]
            exact v3.its.1
          · refine hN2 _ _ ⟨as, st, k + 2, .tup [], e6, rfl, v4, so.mono (by omega), s16, by omega, by omega, ?_, hf⟩
            rw [show 17 - st.length = (16 - st.length) + 1 by omega]
            exact .inr ⟨[], rfl, by simp, fun _ h => by cases h⟩
        · rw [if_neg e] at hf
          refine hN m' _ _ (by omega) ⟨a :: as, [] :: st, k + 1, _, _, rfl, v2, ⟨(fun _ h => by cases h), Nat.zero_le _, so.mono (by omega)⟩, by simp; omega, by omega, by omega, hf⟩
      · refine other fun z => ?_
        have := of_decide_eq_false c2
        simp at this
        omega
    · clear hf v v0 so s16 hk hm
      rintro τ2 G2 ⟨as, st, k, d, e6, rfl, v, so, s16, hk, hm, tp, hf⟩
      refine seqT_mid (fun τ3 G3 => ∃ as st k d e6, τ3 = [some (.lst (strL ts)), some (.int n), some (.int line), some (.obj p), some (.obj r), some d, e6] ∧ VG CR ts line G G3 p r as st k ∧ StOk k st ∧ st.length ≤ 16 ∧ k ≤ ts.length ∧ ts.length + 1 ≤ k + m' ∧
          ((st = [] ∧ Fin (finM (valM ts m') ts (.done d k))) ∨ (st ≠ [] ∧ Fin (valM ts m' st k)))) (fun N2 hN2 => ?_) ?_
      · refine while_by (fun m τ2 G2 => ∃ as st k d e6, τ2 = [some (.lst (strL ts)), some (.int n), some (.int line), some (.obj p), some (.obj r), some d, e6] ∧ VG CR ts line G G2 p r as st k ∧ StOk k st ∧ st.length ≤ 16 ∧ k ≤ ts.length ∧ ts.length + 1 ≤ k + m' ∧ TP (17 - st.length) d ∧
          Fin (finM (valM ts m') ts (closeM ts st d k)) ∧ m = st.length) st.length ?_ ⟨as, st, k, d, e6, rfl, v, so, s16, hk, hm, tp, hf, rfl⟩
        clear hf v so s16 hk hm tp
        rintro m τ2 G2 N3 ⟨as, st, k, d, e6, rfl, v, so, s16, hk, hm, tp, hf, rfl⟩ hN3
        walk_at "den"
        refine ⟨Nat.zero_le _, z_mkF (z_neNil (asL_obj v.op) ⟨_, rfl, ite_b (fun c => ?_) fun c => ?_⟩)⟩
        · match as, st, v with
          | [], _, _ => exact absurd c (by simp)
          | _ :: _, [], v => exact v.its.elim
          | a :: as, now :: st, v =>
            refine z_neg (z_ix_last (asL_obj v.op) (d := .obj a) (by simp) ⟨⟨rfl, _, v.its.1⟩, z_append v.its.1 (by have := so.2.1; have := lnBig; omega) ?_⟩)
            have v1 := v.app d
            refine z_len_lst (asL_obj updG_same) (z_eqI ⟨_, rfl, ite_b (fun c1 => ?_) fun c1 => ?_⟩)
            · have hnow : now = [] := by
                have := of_decide_eq_true c1
                rw [List.length_append] at this
                exact List.eq_nil_of_length_eq_zero (by simp at this; omega)
              subst hnow
              unfold closeM at hf
              rw [if_pos rfl] at hf
              refine ⟨p, _, rfl, v1.rd, rfl, p, ts, line, 4000, k, [44], ⟨rfl, v1.rd⟩, rfl, fun e => ?_, fun e => ?_⟩
              · have hl1 : k < ts.length := by
                  by_cases q : k < ts.length
                  · exact q
                  · rw [List.getElem?_eq_none (by omega)] at e; cases e
                rw [if_pos e] at hf
                have v2 := v1.at_ (k + 1)
                refine ⟨p, _, rfl, v2.rd, rfl, p, ts, line, 4000, k + 1, [41], ⟨rfl, v2.rd⟩, rfl, fun e2 => ⟨_, tru_bl, ite_f rfl ?_⟩, fun e2 => ⟨_, tru_bl, ite_t rfl ?_⟩⟩
                · have hl2 : k + 1 < ts.length := by
                    by_cases q : k + 1 < ts.length
                    · exact q
                    · rw [List.getElem?_eq_none (by omega)] at e2; cases e2
                  rw [if_pos e2] at hf
                  have v3 := v2.at_ (k + 2)
                  have tp' : ∀ e ∈ ([] ++ [d] : List D), TP (16 - st.length) e := fun e he => by
                    simp at he
                    subst he
                    have : 17 - ([] :: st : List (List D)).length = 16 - st.length := by simp
                    rw [← this]; exact tp
                  refine close_ok v3 tp' (by simp) ?_
                  refine hN3 st.length _ _ (by simp) ⟨as, st, k + 2, .tup [d], _, rfl, v3.pop, so.2.2.mono (by omega), by simp at s16; omega, by omega, by omega, ?_, hf, rfl⟩
                  have hs : st.length ≤ 15 := by simp at s16; omega
                  rw [show 17 - st.length = (16 - st.length) + 1 by omega]
                  exact .inr ⟨[d], rfl, by simp, fun e he => tp' e (by simpa using he)⟩
                · rw [if_neg e2] at hf
                  refine hN2 _ _ ⟨a :: as, ([] ++ [d]) :: st, k + 1, d, _, rfl, v2, ⟨fun e he => ?_, by simp, so.2.2.mono (by omega)⟩, s16, by omega, by omega, .inr ⟨by simp, hf⟩⟩
                  simp at he
                  subst he
                  have : 17 - ([] :: st : List (List D)).length = 16 - st.length := by simp
                  rw [← this]; exact tp
              · rw [if_neg e] at hf
                have hf : Fin (.inl k) := hf
                rw [fw] at hf
                exact ⟨G, v1.ext.les, hf⟩
            · have hnow : now ≠ [] := by
                rintro rfl
                exact absurd (of_decide_eq_false c1) (by simp)
              unfold closeM at hf
              rw [if_neg hnow] at hf
              have tp' : ∀ e ∈ now ++ [d], TP (16 - st.length) e := fun e he => by
                rcases List.mem_append.mp he with he | he
                · exact so.1 e he
                · simp at he
                  subst he
                  have : 17 - (now :: st : List (List D)).length = 16 - st.length := by simp
                  rw [← this]; exact tp
              refine ⟨p, _, rfl, v1.rd, rfl, p, ts, line, 4000, k, [44], ⟨rfl, v1.rd⟩, rfl, fun e => ⟨_, tru_bl, ite_t rfl ?_⟩, fun e => ⟨_, tru_bl, ite_f rfl ?_⟩⟩
              · have hl1 : k < ts.length := by
                  by_cases q : k < ts.length
                  · exact q
                  · rw [List.getElem?_eq_none (by omega)] at e; cases e
                rw [if_pos e] at hf
                have v2 := v1.at_ (k + 1)
                exact hN2 _ _ ⟨a :: as, (now ++ [d]) :: st, k + 1, d, _, rfl, v2, ⟨tp', by have := so.2.1; simp; omega, so.2.2.mono (by omega)⟩, s16, by omega, by omega, .inr ⟨by simp, hf⟩⟩
              · rw [if_neg e] at hf
                refine ⟨p, _, rfl, v1.rd, rfl, p, ts, line, 4000, k, [41], ⟨rfl, v1.rd⟩, rfl, fun e2 => ?_, fun e2 => ?_⟩
                · have hl1 : k < ts.length := by
                    by_cases q : k < ts.length
                    · exact q
                    · rw [List.getElem?_eq_none (by omega)] at e2; cases e2
                  rw [if_pos e2] at hf
                  have v2 := v1.at_ (k + 1)
                  have hln : (now ++ [d]).length ≤ 1000 := by have := so.2.1; simp; omega
                  refine close_ok v2 tp' hln ?_
                  refine hN3 st.length _ _ (by simp) ⟨as, st, k + 1, .tup (now ++ [d]), _, rfl, v2.pop, so.2.2.mono (by omega), by simp at s16; omega, by omega, by omega, ?_, hf, rfl⟩
                  have hs : st.length ≤ 15 := by simp at s16; omega
                  rw [show 17 - st.length = (16 - st.length) + 1 by omega]
                  exact .inr ⟨now ++ [d], rfl, hln, tp'⟩
                · rw [if_neg e2] at hf
                  have hf : Fin (.inl k) := hf
                  rw [fw] at hf
                  exact ⟨G, v1.ext.les, hf⟩
        · have hz : as = [] := by simpa using c
          subst hz
          match st, v with
          | _ :: _, v => exact v.its.elim
          | [], v => exact hN2 _ _ ⟨[], [], k, d, _, rfl, v, so, s16, hk, hm, .inl ⟨rfl, hf⟩⟩
      · clear hf v so s16 hk hm tp
        rintro τ2 G2 ⟨as, st, k, d, e6, rfl, v, so, s16, hk, hm, hf⟩
        walk_at "den"
        refine ⟨Nat.zero_le _, z_mkF (z_eqNil (asL_obj v.op) ⟨_, rfl, ite_b (fun c => ?_) fun c => ?_⟩)⟩
        · have hz : as = [] := by simpa using c
          subst hz
          have hst : st = [] := List.eq_nil_of_length_eq_zero v.its.len.symm
          rcases hf with ⟨_, hf⟩ | ⟨hf, _⟩
          · refine ⟨p, _, rfl, v.rd, rfl, p, ts, line, 4000, k, ⟨rfl, v.rd⟩, fun hl => ?_, fun hl => ?_⟩
            · have hf : Fin (if k < ts.length then .inl k else .inr d) := hf
              rw [if_neg (by omega), fd] at hf
              exact ⟨G, v.ext.les, hf⟩
            · have hf : Fin (if k < ts.length then .inl k else .inr d) := hf
              rw [if_pos hl, fw] at hf
              exact ⟨G, v.ext.les, hf⟩
          · exact absurd hst hf
        · have hst : st ≠ [] := by
            rintro rfl
            have : as = [] := List.eq_nil_of_length_eq_zero v.its.len
            subst this
            exact absurd c (by simp)
          rcases hf with ⟨hf, _⟩ | ⟨_, hf⟩
          · exact absurd hf hst
          · exact hN m' _ _ (by omega) ⟨as, st, k, _, _, rfl, v, so, s16, hk, by omega, hf⟩
  · refine ⟨[], [], n, none, none, rfl, ⟨?_, ?_, trivial, ?_, ?_, ?_⟩, trivial, by simp, hn, by omega, hfin⟩
    · exact updG_same
    · rw [updG_ne (Ne.symm ne)]
      exact updG_same
    · simpa using ne
    · exact ((((Ext.refl G).upd hp).upd hp).upd hr').upd hp
    · intro b hb
      simp only [List.mem_cons, List.not_mem_nil, or_false] at hb
      rcases hb with rfl | rfl
      · exact hp
      · exact hr'
theorem ok_value_in (cs : List Addr) (CR CB : Addr) (F : FunD K "value_in" "value_in" (defArgs (top 46)) (defBody (top 46)) (defScope (top 46)) [] [] f fd) (g : GOk (c_value_in T cs CR CB) k P w K mg base) : FnAt P w K mg base T (k + 2) f (sp_value_in cs CR CB) := by
  refine fnAt4 F (F.bindsN fun _ _ _ _ _ _ us hl => match us, hl with | [_, _, _], _ => rfl) (ps := ["tokens", "at", "line"]) (C8.fnScope_by (by kernel_rfl)) rfl g (b_value_in _) (k_value_in T cs CR CB) (fun ds G Q E h => ?_) (fun ds G Q E h => ?_)
  · rcases ds with _ | ⟨a0, _ | ⟨a1, _ | ⟨a2, _ | r⟩⟩⟩ <;> first | rfl | exact False.elim h
  · rcases ds with _ | ⟨a0, _ | ⟨a1, _ | ⟨a2, _ | r⟩⟩⟩ <;> first | exact False.elim h | exact p_value_in h
end W75
set_option Elab.async false
set_option linter.all false
set_option maxRecDepth 100000
set_option maxHeartbeats 1000000
namespace W75
open PySem PySem.Spec PyProof.Rows L2 LamX L3 Hd
local macro_rules | `(tactic| walk_at "den") => `(tactic| simp only [List.map, sRet, sSet, sSetLc, sAsg, sPar, sPar3, sExpr, sPass, sBreak, sCont, sIf, sWhile, sFor, sAug, sFld3, sFldAug3, sSub, sRaise,
  seqT, retT, setT, asgT, parT, dropT, ifT, augT, fldT, fldAugT, subT, rzT, eAnds, eOrs, eNot, eBf, eVar, eTy, eInt, eStr, eBl, eNon, eGlob, eBin, eNeg, eCmp, eChain, eIf, eTup, eLst, eFrz, eIx, eSl, eFld, eCall, eCall0, eBm, eOm, eLc, eMake, eDisp, eGcd, iSeq, iLst, iTupl, iTxt, L3.iRng1, L3.iRng2, iEnm, iEnmT, iRngDn, eDict0, L3.ifsT,
  tCmp3, tChain3, tTru, tNot3, tAnds, tOrs, testT, truT, notT, andT, orT, andE, orE, notE, ifE, cE', argT, varE, cE, opE, unE, chainE, tupE, lstE, slE, optE, spE, mtE, omE, makeE, dispE, Bf.r, Bm.r, Bm.ty, Tg.t, setAll, Option.map,
  List.getElem?_cons_zero, List.getElem?_cons_succ, List.set_cons_zero, List.set_cons_succ, Option.some.injEq, exists_eq_left', List.length_cons, List.length_nil, Nat.reduceAdd, true_and, binD, cmpD, augD, fnSp, mtC, mkC, rzC, gvD])
variable {P : Program} {w : World} {K : PySem.W.Frag} {mg : Str → Option Value} {base : Heap} {T : List (Addr × Str)} {k : Nat} {f : Addr} {fd : FuncData}
open PySem.NumText
def S_value_of_text (cs : List Addr) (CR CB : Addr) (x : D) (G : Gp) (Q : K3) (E : X3) : Prop := ∃ k, kn cs G x = some k ∧ (k ≠ "str" → E CB (fW 0 0) G) ∧
  (∀ t, x = .str (mkS t) → SzOk t ∧ TokOk (toksOf t) ∧ (toksOf t).length ≤ 1000 ∧ match valM (toksOf t) ((toksOf t).length + 1) [] 0 with
  | .inl m => E CB (fW 1 (m + 1)) G
  | .inr d => Q d G)
abbrev s_value_of_text : Stmt := (top 47)
def n_value_of_text : List Str := ["text"]
def b_value_of_text (c : Cn) : List (CS c) := [sExpr (eCall 0 [(eVar 0)]), sRet (eCall 1 [(eCall 2 [(eVar 0)]), (eInt 0), (eInt 1)])]
def c_value_of_text (T : List (Addr × Str)) (cs : List Addr) (CR CB : Addr) : Cn := { T := T, N := n_value_of_text, nm := (defScope (top 47)).names, fn := [("need_string", sp_need_string cs CB), ("value_in", sp_value_in cs CR CB), ("tokens_of", sp_tokens_of)] }
theorem k_value_of_text (T : List (Addr × Str)) (cs : List Addr) (CR CB : Addr) : chkSs (b_value_of_text (c_value_of_text T cs CR CB)) (defBody (top 47)) = true := by kernel_rfl
def sp_value_of_text (cs : List Addr) (CR CB : Addr) : Sp3 := fun ds G Q E => match ds with
  | [a0] => S_value_of_text cs CR CB a0 G Q E
  | _ => False
abbrev W_value_of_text (T : List (Addr × Str)) (cs : List Addr) (CR CB : Addr) (a0 : D) (G : Gp) (Q : K3) (E : X3) : Prop := seqT ((b_value_of_text (c_value_of_text T cs CR CB)).map (·.t)) { nx := fun _ G' => Q .non G', rt := Q, xe := E } [some a0] G
theorem kn_str {cs : List Addr} {G : Gp} {d : D} (h : kn cs G d = some "str") : ∃ l, d = .str (mkS l) := by
  unfold kn at h
  split at h
  · rename_i k e
    cases h
    unfold kindB at e
    split at e
    all_goals first | (exact ⟨_, congrArg D.str (mkS_of _)⟩) | (exact absurd (Option.some.inj e) (by decide)) | (cases e; done) | skip
    split at e <;> first | (exact absurd (Option.some.inj e) (by decide)) | (cases e; done)
  · split at h
    · split at h <;> first | (exact absurd (Option.some.inj h) (by decide)) | (cases h; done)
    · cases h
theorem p_value_of_text {cs : List Addr} {CR CB : Addr} {x : D} {G : Gp} {Q : K3} {E : X3} (h : S_value_of_text cs CR CB x G Q E) : W_value_of_text T cs CR CB x G Q E := by
  obtain ⟨k, hk, h1, h2⟩ := h
  unfold W_value_of_text b_value_of_text
  walk_at "den"
  simp only [c_value_of_text, List.getElem?_cons_zero, List.getElem?_cons_succ]
  refine ⟨k, hk, fun e => ?_, h1⟩
  subst e
  obtain ⟨t, rfl⟩ := kn_str hk
  obtain ⟨s1, s2, s3, s4⟩ := h2 t rfl
  refine ⟨t, rfl, s1, toksOf t, 1, 0, rfl, rfl, rfl, s2, s3, Nat.zero_le _, s4⟩
theorem ok_value_of_text (cs : List Addr) (CR CB : Addr) (F : FunD K "value_of_text" "value_of_text" (defArgs (top 47)) (defBody (top 47)) (defScope (top 47)) [] [] f fd) (g : GOk (c_value_of_text T cs CR CB) k P w K mg base) : FnAt P w K mg base T (k + 2) f (sp_value_of_text cs CR CB) := by
  refine fnAt3 F (F.bindsN fun _ _ _ _ _ _ us hl => match us, hl with | [_], _ => rfl) (ps := ["text"]) (C8.fnScope_by (by kernel_rfl)) rfl g (b_value_of_text _) (k_value_of_text T cs CR CB) (fun ds G Q E h => ?_) (fun ds G Q E h => ?_)
  · rcases ds with _ | ⟨a0, _ | r⟩ <;> first | rfl | exact False.elim h
  · rcases ds with _ | ⟨a0, _ | r⟩ <;> first | exact False.elim h | exact p_value_of_text h
/-! ### the text of a ratio -/
/-- a number's figures -/
def decL (n : Nat) : List Nat := (Nat.toDigits 10 n).map Char.toNat
theorem dec_text (n : Nat) : (Str.ofString (toString ((n : Nat) : Int))) = mkS (decL n) := by
  have h := PySem.W.KIN.signs_num n
  rw [mkS_of (Str.ofString _), h]
  rfl
def BIG : Nat := 10 ^ 100
theorem dec_len {n : Nat} (h : n < BIG) : (decL n).length ≤ 100 := by
  unfold decL
  rw [List.length_map]
  exact PySem.toDigits_len_pow (by decide) (by decide) h
def ratT (d : D) : List Nat := (if (ratP d).1 < 0 then [45] else []) ++ decL (ratP d).1.natAbs ++ (if (ratP d).2 = 1 then [] else [47] ++ decL (ratP d).2.toNat)
def RBig (d : D) : Prop := (ratP d).1.natAbs < BIG ∧ (ratP d).2.toNat < BIG
def S_ratio_text (cs : List Addr) (d : D) (G : Gp) (Q : K3) (E : X3) : Prop := ratB d = true ∧ RBig d ∧ Q (.str (mkS (ratT d))) G
abbrev s_ratio_text : Stmt := (top 37)
def n_ratio_text : List Str := ["one", "top", "bottom"]
def b_ratio_text (c : Cn) : List (CS c) := [sAsg (.tup [1, 2]) (eCall 0 [(eVar 0)]), sRet (eBin .Add (eBin .Add (eIf (tCmp3 .Lt (eCall 1 [(eVar 0)]) (eInt 0)) (eStr "-") (eStr "")) (eBf .str [(eBf .abs [(eVar 1)])])) (eIf (tCmp3 .Eq (eVar 2) (eInt 1)) (eStr "") (eBin .Add (eStr "/") (eBf .str [(eVar 2)]))))]
def c_ratio_text (T : List (Addr × Str)) (cs : List Addr) : Cn := { T := T, N := n_ratio_text, nm := (defScope (top 37)).names, fn := [("pair", sp_pair cs), ("sign_of", sp_sign_of cs)], bt := ["str", "abs"] }
theorem k_ratio_text (T : List (Addr × Str)) (cs : List Addr) : chkSs (b_ratio_text (c_ratio_text T cs)) (defBody (top 37)) = true := by kernel_rfl
def sp_ratio_text (cs : List Addr) : Sp3 := fun ds G Q E => match ds with
  | [a0] => S_ratio_text cs a0 G Q E
  | _ => False
abbrev W_ratio_text (T : List (Addr × Str)) (cs : List Addr) (a0 : D) (G : Gp) (Q : K3) (E : X3) : Prop := seqT ((b_ratio_text (c_ratio_text T cs)).map (·.t)) { nx := fun _ G' => Q .non G', rt := Q, xe := E } [some a0, none, none] G
theorem ratT_len {d : D} (h : RBig d) : (ratT d).length ≤ 202 := by
  have h1 := dec_len h.1
  have h2 := dec_len h.2
  unfold ratT
  rw [List.length_append, List.length_append]
  have a : ((if (ratP d).1 < 0 then [45] else []) : List Nat).length ≤ 1 := by split <;> simp
  have b : ((if (ratP d).2 = 1 then [] else [47] ++ decL (ratP d).2.toNat) : List Nat).length ≤ 101 := by split <;> simp <;> omega
  omega
theorem big_log {n : Nat} (h : n < BIG) : n.log2 < 1920 := by
  by_cases z : n = 0
  · subst z; decide
  · rw [Nat.log2_lt z]
    exact Nat.lt_trans h (by decide +kernel)
theorem rat_pos {d : D} (h : ratB d = true) : 1 ≤ (ratP d).2 := by
  rcases rat_cases h with ⟨i, rfl⟩ | ⟨a, b, rfl, h1, _⟩
  · exact Int.le_refl _
  · show 1 ≤ b; omega
theorem z_strN {n : Nat} {G : Gp} {Q : K3} (h : n < BIG) (q : Q (.str (mkS (decL n))) G) : strD [.int (n : Nat)] G Q := by
  refine ⟨big_log h, ?_⟩
  show Q (.str (Str.ofString (toString ((n : Nat) : Int)))) G
  rw [dec_text]
  exact q
theorem z_abs {i : Int} {G : Gp} {Q : K3} (q : Q (.int (i.natAbs : Nat)) G) : absD [.int i] G Q := by
  show Q (.int (if i < 0 then -i else i)) G
  have e : (if i < 0 then -i else i) = (i.natAbs : Nat) := by split <;> omega
  rw [e]
  exact q
theorem szOk_small {l : List Nat} (h : l.length ≤ 90000) : SzOk l := Nat.le_trans h (Nat.le_trans (by decide) lnBig)
theorem sgn_neg (t : Int) : decide (sgn t < 0) = decide (t < 0) := by
  unfold sgn
  split
  · rw [decide_eq_false (by omega), decide_eq_false (by omega)]
  · split
    · rw [decide_eq_true (by decide), decide_eq_true (by assumption)]
    · rw [decide_eq_false (by decide), decide_eq_false (by assumption)]
theorem p_ratio_text {cs : List Addr} {d : D} {G : Gp} {Q : K3} {E : X3} (h : S_ratio_text cs d G Q E) : W_ratio_text T cs d G Q E := by
  obtain ⟨hr, hb, q⟩ := h
  have hl := ratT_len hb
  have hp := rat_pos hr
  unfold RBig at hb
  unfold ratT at q hl
  unfold W_ratio_text b_ratio_text
  walk_at "den"
  simp only [c_ratio_text, List.getElem?_cons_zero, List.getElem?_cons_succ]
  refine ⟨hr, rfl, ?_⟩
  walk_at "den"
  generalize ht : (ratP d).1 = t at q hl hb
  obtain ⟨n, hn⟩ : ∃ n : Nat, (ratP d).2 = n := ⟨(ratP d).2.toNat, by omega⟩
  rw [hn] at q hl hb hp ⊢
  rw [Int.toNat_natCast] at hb q hl
  have tail : ∀ (s : List Nat), SzOk (s ++ (if (n : Int) = 1 then [] else [47] ++ decL n)) → Q (.str (mkS (s ++ (if (n : Int) = 1 then [] else [47] ++ decL n)))) G → eqD false (.int n) (.int 1) G fun d_5 G1 => ∃ b, d_5 = .bl b ∧ if b = true then addD false (.str (mkS s)) (.str "") G1 Q else
      strD [.int n] G1 fun y G2 => addD false (.str "/") y G2 fun y G2 => addD false (.str (mkS s)) y G2 Q := by
    intro s hs q
    refine z_eqI ⟨_, rfl, ite_b (fun c => ?_) fun c => ?_⟩
    · rw [if_pos (of_decide_eq_true c)] at q hs
      exact z_add_str (b := []) hs q
    · rw [if_neg (of_decide_eq_false c)] at q hs
      refine z_strN hb.2 (z_add_str (a := [47]) (szOk_small (by have := dec_len hb.2; simp; omega)) (z_add_str hs q))
  refine ⟨hr, z_ord ⟨_, rfl, ite_b (fun c => ?_) fun c => ?_⟩⟩
  · rw [ht, sgn_neg] at c
    rw [if_pos (of_decide_eq_true c)] at q hl
    refine z_abs (z_strN hb.1 (z_add_str (a := [45]) (szOk_small (by have := dec_len hb.1; simp; omega)) (tail _ (szOk_small (by omega)) q)))
  · rw [ht, sgn_neg] at c
    rw [if_neg (of_decide_eq_false c)] at q hl
    refine z_abs (z_strN hb.1 (z_add_str (a := []) (szOk_small (by have := dec_len hb.1; simp; omega)) (tail _ (szOk_small (by omega)) q)))
theorem ok_ratio_text (cs : List Addr) (F : FunD K "ratio_text" "ratio_text" (defArgs (top 37)) (defBody (top 37)) (defScope (top 37)) [] [] f fd) (g : GOk (c_ratio_text T cs) k P w K mg base) : FnAt P w K mg base T (k + 2) f (sp_ratio_text cs) := by
  refine fnAt3 F (F.bindsN fun _ _ _ _ _ _ us hl => match us, hl with | [_], _ => rfl) (ps := ["one"]) (C8.fnScope_by (by kernel_rfl)) rfl g (b_ratio_text _) (k_ratio_text T cs) (fun ds G Q E h => ?_) (fun ds G Q E h => ?_)
  · rcases ds with _ | ⟨a0, _ | r⟩ <;> first | rfl | exact False.elim h
  · rcases ds with _ | ⟨a0, _ | r⟩ <;> first | exact False.elim h | exact p_ratio_text h
end W75
set_option Elab.async false
set_option linter.all false
set_option maxRecDepth 100000
set_option maxHeartbeats 1000000
namespace W75
open PySem PySem.Spec PyProof.Rows L2 LamX L3 Hd
local macro_rules | `(tactic| walk_at "den") => `(tactic| simp only [List.map, sRet, sSet, sSetLc, sAsg, sPar, sPar3, sExpr, sPass, sBreak, sCont, sIf, sWhile, sFor, sAug, sFld3, sFldAug3, sSub, sRaise,
  seqT, retT, setT, asgT, parT, dropT, ifT, augT, fldT, fldAugT, subT, rzT, eAnds, eOrs, eNot, eBf, eVar, eTy, eInt, eStr, eBl, eNon, eGlob, eBin, eNeg, eCmp, eChain, eIf, eTup, eLst, eFrz, eIx, eSl, eFld, eCall, eCall0, eBm, eOm, eLc, eMake, eDisp, eGcd, iSeq, iLst, iTupl, iTxt, L3.iRng1, L3.iRng2, iEnm, iEnmT, iRngDn, eDict0, L3.ifsT,
  tCmp3, tChain3, tTru, tNot3, tAnds, tOrs, testT, truT, notT, andT, orT, andE, orE, notE, ifE, cE', argT, varE, cE, opE, unE, chainE, tupE, lstE, slE, optE, spE, mtE, omE, makeE, dispE, Bf.r, Bm.r, Bm.ty, Tg.t, setAll, Option.map,
  List.getElem?_cons_zero, List.getElem?_cons_succ, List.set_cons_zero, List.set_cons_succ, Option.some.injEq, exists_eq_left', List.length_cons, List.length_nil, Nat.reduceAdd, true_and, binD, cmpD, augD, fnSp, mtC, mkC, rzC, gvD])
variable {P : Program} {w : World} {K : PySem.W.Frag} {mg : Str → Option Value} {base : Heap} {T : List (Addr × Str)} {k : Nat} {f : Addr} {fd : FuncData}
/-! ### plain values -/
@[irreducible] def MX : Int := (((10 : Int) ^ Int.toNat 50) ^ Int.toNat 40) ^ Int.toNat 2
def smallB (d : D) : Bool := decide (((ratP d).1.natAbs : Int) < MX) && decide ((ratP d).2 < MX)
def S_is_small (cs : List Addr) (d : D) (G : Gp) (Q : K3) (E : X3) : Prop := ratB d = true ∧ Q (.bl (smallB d)) G
abbrev s_is_small : Stmt := (top 42)
def n_is_small : List Str := ["one", "top", "bottom", "most"]
def b_is_small (c : Cn) : List (CS c) := [sAsg (.tup [1, 2]) (eCall 0 [(eVar 0)]), sSet 3 (eBin .Pow (eBin .Pow (eBin .Pow (eInt 10) (eInt 50)) (eInt 40)) (eInt 2)), sRet (eAnds [(eCmp .Lt (eBf .abs [(eVar 1)]) (eVar 3)), (eCmp .Lt (eVar 2) (eVar 3))])]
def c_is_small (T : List (Addr × Str)) (cs : List Addr) : Cn := { T := T, N := n_is_small, nm := (defScope (top 42)).names, fn := [("pair", sp_pair cs)], bt := ["abs"] }
theorem k_is_small (T : List (Addr × Str)) (cs : List Addr) : chkSs (b_is_small (c_is_small T cs)) (defBody (top 42)) = true := by kernel_rfl
def sp_is_small (cs : List Addr) : Sp3 := fun ds G Q E => match ds with
  | [a0] => S_is_small cs a0 G Q E
  | _ => False
abbrev W_is_small (T : List (Addr × Str)) (cs : List Addr) (a0 : D) (G : Gp) (Q : K3) (E : X3) : Prop := seqT ((b_is_small (c_is_small T cs)).map (·.t)) { nx := fun _ G' => Q .non G', rt := Q, xe := E } [some a0, none, none, none] G
theorem z_pow {i j : Int} {G : Gp} {Q : K3} (h : PowOk i j) (q : Q (.int (i ^ j.toNat)) G) : powD (.int i) (.int j) G Q := ⟨h, q⟩
theorem pw1 : PowOk 10 50 := ⟨by decide, by decide, by decide +kernel⟩
theorem pw2 : PowOk (10 ^ 50) 40 := ⟨by decide +kernel, by decide, by decide +kernel⟩
theorem pw3 : PowOk ((10 ^ 50) ^ 40) 2 := ⟨by decide +kernel, by decide, by decide +kernel⟩
theorem p_is_small {cs : List Addr} {d : D} {G : Gp} {Q : K3} {E : X3} (h : S_is_small cs d G Q E) : W_is_small T cs d G Q E := by
  obtain ⟨hr, q⟩ := h
  unfold smallB at q
  unfold W_is_small b_is_small
  walk_at "den"
  simp only [c_is_small, List.getElem?_cons_zero, List.getElem?_cons_succ]
  refine ⟨hr, rfl, ?_⟩
  walk_at "den"
  refine z_pow pw1 (z_pow pw2 (z_pow pw3 (z_abs (z_ord ⟨_, tru_bl, ?_⟩))))
  have e : (((10 : Int) ^ Int.toNat 50) ^ Int.toNat 40) ^ Int.toNat 2 = MX := by unfold MX; rfl
  rw [e]
  generalize MX = mx at q
  refine ite_b (fun c => ?_) fun c => ?_
  · have c : decide (((ratP d).1.natAbs : Int) < mx) = true := c
    rw [c, Bool.true_and] at q
    exact q
  · have c : decide (((ratP d).1.natAbs : Int) < mx) = false := c
    rw [c, Bool.false_and] at q
    rw [c]
    exact q
theorem ok_is_small (cs : List Addr) (F : FunD K "is_small" "is_small" (defArgs (top 42)) (defBody (top 42)) (defScope (top 42)) [] [] f fd) (g : GOk (c_is_small T cs) k P w K mg base) : FnAt P w K mg base T (k + 2) f (sp_is_small cs) := by
  refine fnAt3 F (F.bindsN fun _ _ _ _ _ _ us hl => match us, hl with | [_], _ => rfl) (ps := ["one"]) (C8.fnScope_by (by kernel_rfl)) rfl g (b_is_small _) (k_is_small T cs) (fun ds G Q E h => ?_) (fun ds G Q E h => ?_)
  · rcases ds with _ | ⟨a0, _ | r⟩ <;> first | rfl | exact False.elim h
  · rcases ds with _ | ⟨a0, _ | r⟩ <;> first | exact False.elim h | exact p_is_small h
/-- any data, nested at most n deep -/
def Ak : Nat → D → Prop
  | 0, d => ∃ k, knP d = some k ∧ k ≠ "tuple" ∧ k ≠ "list"
  | n + 1, d => (∃ k, knP d = some k ∧ k ≠ "tuple" ∧ k ≠ "list") ∨ ∃ l, (d = .tup l ∨ d = .lst l) ∧ l.length ≤ 1000 ∧ ∀ e ∈ l, Ak n e
def tupd : D → D
  | .lst l => .tup l
  | d => d
/-- plain, at most m deep -/
def plB : Nat → D → Bool
  | 0, d => if ratB (tupd d) then smallB (tupd d) else false
  | m + 1, d => if ratB (tupd d) then smallB (tupd d) else match tupd d with
    | .tup l => l.all (plB m)
    | _ => false
/-- how much is left to look at -/
def wt : Nat → D → Nat
  | 0, _ => 1
  | n + 1, .tup l => 1 + (l.map (wt n)).sum
  | n + 1, .lst l => 1 + (l.map (wt n)).sum
  | _ + 1, _ => 1
theorem wt_pos : ∀ n d, 1 ≤ wt n d
  | 0, _ => Nat.le_refl _
  | n + 1, d => by cases d <;> simp [wt]
theorem plB_eq (m : Nat) (d : D) : plB m d = if ratB (tupd d) then smallB (tupd d) else match m, tupd d with
    | m + 1, .tup l => l.all (plB m)
    | _, _ => false := by
  cases m with
  | zero =>
    have e : (match 0, tupd d with
      | m + 1, .tup l => l.all (plB m)
      | _, _ => false) = false := by cases tupd d <;> rfl
    rw [e]
    rfl
  | succ m =>
    have e : (match m + 1, tupd d with
      | m + 1, .tup l => l.all (plB m)
      | _, _ => false) = (match tupd d with
      | .tup l => l.all (plB m)
      | _ => false) := by cases tupd d <;> rfl
    rw [e]
    rfl
theorem wt_sum {α : Type} (f : α → Nat) (h : ∀ a, 1 ≤ f a) : ∀ l : List α, l.length ≤ (l.map f).sum
  | [] => Nat.le_refl _
  | a :: r => by
    have := wt_sum f h r
    have := h a
    simp
    omega
theorem isTup {k : String} : isiB k "tuple" = (k == "tuple") := by
  unfold isiB
  have : (("tuple" : String) == "int") = false := by decide
  rw [this, Bool.and_false, Bool.or_false]
theorem isLst {k : String} : isiB k "list" = (k == "list") := by
  unfold isiB
  have : (("list" : String) == "int") = false := by decide
  rw [this, Bool.and_false, Bool.or_false]
def stk (s : List (Nat × Nat × D)) : List D := s.map fun x => .tup [x.2.2, .int (x.2.1 : Nat)]
def stw (s : List (Nat × Nat × D)) : Nat := (s.map fun x => wt x.1 x.2.2).sum
theorem knP_tupd {v : D} (h : (knP v).isSome = true) : knP (tupd v) = some "tuple" ∧ (∃ l, tupd v = .tup l) ∨ tupd v = v ∧ knP v ≠ some "tuple" ∧ knP v ≠ some "list" := by
  cases v <;> first | (exact .inl ⟨rfl, _, rfl⟩) | (exact .inr ⟨rfl, by simp [knP], by simp [knP]⟩) | (simp [knP] at h; done)
def S_is_plain (cs : List Addr) (d : D) (G : Gp) (Q : K3) (E : X3) : Prop := Ak 20 d ∧ wt 20 d ≤ 90000 ∧ Q (.bl (plB 16 d)) G
abbrev s_is_plain : Stmt := (top 43)
def n_is_plain : List Str := ["value", "left", "depth", "one", "part"]
def b_is_plain (c : Cn) : List (CS c) := [sSet 1 (eLst [(eTup [(eVar 0), (eInt 0)])] true), sWhile (tCmp3 .NotEq (eVar 1) (eLst [])) [sAsg (.tup [0, 2]) (eBm .pop (eVar 1) []), sSet 3 (eIf (tTru (eBf .isi [(eVar 0), (eTy "list")])) (eBf .tuple [(eVar 0)]) (eVar 0)), sIf (tTru (eCall 0 [(eVar 3)])) [sIf (tNot3 (tTru (eCall 1 [(eVar 3)]))) [sRet (eBl false)] []] [sIf (tOrs [(tNot3 (tTru (eBf .isi [(eVar 3), (eTy "tuple")]))), (tCmp3 .GtE (eVar 2) (eGlob 0))]) [sRet (eBl false)] [sExpr (eBm .extend (eVar 1) [(eLc (iTupl (eVar 3)) (.nm 4) (fun nm => none) (fun nm => (eTup [(eVar 4), (eBin .Add (eVar 2) (eInt 1))])))])]]], sRet (eBl true)]
def c_is_plain (T : List (Addr × Str)) (cs : List Addr) : Cn := { T := T, N := n_is_plain, nm := (defScope (top 43)).names, fn := [("is_ratio", sp_is_ratio cs), ("is_small", sp_is_small cs)], gv := [("MOST_NESTED", .int 16)], bt := ["isinstance", "list", "tuple"], cs := cs }
theorem k_is_plain (T : List (Addr × Str)) (cs : List Addr) : chkSs (b_is_plain (c_is_plain T cs)) (defBody (top 43)) = true := by kernel_rfl
def sp_is_plain (cs : List Addr) : Sp3 := fun ds G Q E => match ds with
  | [a0] => S_is_plain cs a0 G Q E
  | _ => False
abbrev W_is_plain (T : List (Addr × Str)) (cs : List Addr) (a0 : D) (G : Gp) (Q : K3) (E : X3) : Prop := seqT ((b_is_plain (c_is_plain T cs)).map (·.t)) { nx := fun _ G' => FG Q .non G', rt := FG Q, xe := FX E } [some a0, none, none, none, none] G
theorem Ak.kn : ∀ {n : Nat} {d : D}, Ak n d → ∃ k, knP d = some k
  | 0, d, ⟨k, h, _⟩ => ⟨k, h⟩
  | n + 1, d, .inl ⟨k, h, _⟩ => ⟨k, h⟩
  | n + 1, d, .inr ⟨l, h, _⟩ => by rcases h with rfl | rfl <;> exact ⟨_, rfl⟩
theorem p_is_plain {cs : List Addr} {d : D} {G : Gp} {Q : K3} {E : X3} (h : S_is_plain cs d G Q E) : W_is_plain T cs d G Q E := by
  obtain ⟨ha, hw, q⟩ := h
  unfold W_is_plain b_is_plain
  walk_at "den"
  simp only [c_is_plain, Cn.blk, List.getElem?_cons_zero, List.getElem?_cons_succ]
  refine ⟨two_line, by have := lnBig; omega, z_mkT fun p hp => ?_⟩
  have les : ∀ o, Les G (updG G p o) := fun o => ((Ext.refl G).upd hp).les
  refine while_by (fun m τ G' => ∃ (s : List (Nat × Nat × D)) (e1 e2 e3 e4 : Option D), τ = [e1, some (.obj p), e2, e3, e4] ∧ G' = updG G p (.lst (stk s)) ∧ (∀ x ∈ s, Ak x.1 x.2.2) ∧ m = stw s ∧ stw s ≤ 90000 ∧ plB 16 d = s.all fun x => plB (16 - x.2.1) x.2.2) (wt 20 d) ?_ ?_
  · rintro m τ G' N ⟨s, e1, e2, e3, e4, rfl, rfl, hs, rfl, hsw, he⟩ hN
    simp only [testT, opE, varE, lstE, argT, List.getElem?_cons_zero, List.getElem?_cons_succ, Option.some.injEq, exists_eq_left', List.length_nil]
    refine ⟨Nat.zero_le _, z_mkF (z_neNil (asL_obj updG_same) ⟨_, rfl, ite_b (fun c => ?_) fun c => ?_⟩)⟩
    · obtain ⟨s', x, rfl⟩ : ∃ s' x, s = s' ++ [x] := by
        have hne : s ≠ [] := by rintro rfl; exact absurd c (by decide)
        exact ⟨_, _, (List.dropLast_concat_getLast hne).symm⟩
      obtain ⟨n, k, v⟩ := x
      have hak : Ak n v := hs (n, k, v) (by simp)
      have hs0 : ∀ x ∈ s', Ak x.1 x.2.2 := fun x hx => hs x (by simp [hx])
      obtain ⟨kk, hkk⟩ := hak.kn
      have hst : stk (s' ++ [(n, k, v)]) = stk s' ++ [.tup [v, .int (k : Nat)]] := by unfold stk; rw [List.map_append]; rfl
      have hsw2 : stw (s' ++ [(n, k, v)]) = stw s' + wt n v := by unfold stw; rw [List.map_append, List.sum_append]; simp
      rw [List.all_append] at he
      have he' : plB 16 d = ((s'.all fun x => plB (16 - x.2.1) x.2.2) && plB (16 - k) v) := by rw [he]; simp
      refine seqT_mid (fun τ1 G1 => τ1 = [some v, some (.obj p), some (.int (k : Nat)), e3, e4] ∧ G1 = updG G p (.lst (stk s'))) (fun N1 hN1 => ?_) ?_
      · walk_at "den"
        refine ⟨⟨rfl, _, updG_same⟩, z_pop (l := stk s') (d := .tup [v, .int (k : Nat)]) (by rw [updG_same, hst]) ⟨rfl, ?_⟩⟩
        rw [updG_updG]
        exact hN1 _ _ ⟨rfl, rfl⟩
      rintro τ1 G1 ⟨rfl, rfl⟩
      refine seqT_mid (fun τ1 G1 => τ1 = [some v, some (.obj p), some (.int (k : Nat)), some (tupd v), e4] ∧ G1 = updG G p (.lst (stk s'))) (fun N1 hN1 => ?_) ?_
      · walk_at "den"
        refine isi1 (kn_of hkk) ⟨_, tru_bl, ite_b (fun c1 => ?_) fun c1 => ?_⟩
        · rw [isLst] at c1
          have : kk = "list" := by simpa using c1
          subst this
          cases v <;> first | (cases hkk; done) | (exact absurd (Option.some.inj hkk) (by decide)) | skip
          exact hN1 _ _ ⟨rfl, rfl⟩
        · rw [isLst] at c1
          have : tupd v = v := by
            cases v <;> first | rfl | skip
            cases hkk
            exact absurd c1 (by decide)
          refine hN1 _ _ ⟨?_, rfl⟩
          rw [this]
      rintro τ1 G1 ⟨rfl, rfl⟩
      have hkt : ∃ k2, knP (tupd v) = some k2 := by cases v <;> first | exact ⟨_, rfl⟩ | exact ⟨_, hkk⟩
      obtain ⟨k2, hk2⟩ := hkt
      -- the items
      have hit : ∀ l, tupd v = .tup l → (∃ n', n = n' + 1 ∧ l.length ≤ 1000 ∧ (∀ e ∈ l, Ak n' e) ∧ wt n v = 1 + (l.map (wt n')).sum) := by
        intro l hl
        cases n with
        | zero =>
          obtain ⟨k3, h3, h4, h5⟩ := hak
          cases v <;> first | (cases hl; done) | skip
          · cases h3; exact absurd rfl h4
          · cases h3; exact absurd rfl h5
        | succ n' =>
          rcases hak with ⟨k3, h3, h4, h5⟩ | ⟨l', h3, h4, h5⟩
          · cases v <;> first | (cases hl; done) | skip
            · cases h3; exact absurd rfl h4
            · cases h3; exact absurd rfl h5
          · rcases h3 with rfl | rfl
            · cases hl; exact ⟨n', rfl, h4, h5, rfl⟩
            · cases hl; exact ⟨n', rfl, h4, h5, rfl⟩
      have hpl := plB_eq (16 - k) v
      rw [hpl] at he'
      clear hpl he hst hs
      have hs' : ∀ x ∈ s', Ak x.1 x.2.2 := hs0
      walk_at "den"
      refine ⟨⟨k2, kn_of hk2⟩, fun l hl e hel => ?_, _, tru_bl, ite_b (fun c1 => ?_) fun c1 => ?_⟩
      · obtain ⟨n', _, _, h3, _⟩ := hit l hl
        obtain ⟨k3, h4⟩ := (h3 e hel).kn
        rw [h4]; rfl
      · rw [if_pos c1] at he'
        refine ⟨c1, _, tru_bl, ite_b (fun c2 => ?_) fun c2 => ?_⟩
        · have c2 : smallB (tupd v) = false := by simpa using c2
          rw [c2, Bool.and_false] at he'
          rw [he'] at q
          exact ⟨G, les _, q⟩
        · have c2 : smallB (tupd v) = true := by simpa using c2
          rw [c2, Bool.and_true] at he'
          have := wt_pos n v
          exact hN (stw s') _ _ (by omega) ⟨s', _, _, _, _, rfl, rfl, hs', rfl, by omega, he'⟩
      · rw [if_neg (by rw [c1]; decide)] at he'
        refine isi1 (kn_of hk2) ⟨_, tru_bl, ?_⟩
        rw [isTup]
        refine ite_b (fun c2 => ?_) fun c2 => ?_
        · have hnt : k2 ≠ "tuple" := by simpa using c2
          have hf : (match 16 - k, tupd v with | m + 1, .tup l => l.all (plB m) | _, _ => false) = false := by
            cases e : tupd v <;> first | (cases 16 - k <;> rfl) | (rw [e] at hk2; cases hk2; exact absurd rfl hnt)
          rw [hf, Bool.and_false] at he'
          rw [he'] at q
          rw [if_pos trivial]
          exact ⟨G, les _, q⟩
        · have hnt : k2 = "tuple" := by simpa using c2
          subst hnt
          obtain ⟨l, hl⟩ := kn_tup (cs := cs) (G := G) (kn_of hk2)
          rw [hl] at he' c1 ⊢
          obtain ⟨n', hn', hll, hle, hlw⟩ := hit l hl
          refine z_ord ⟨_, rfl, ite_b (fun c3 => ?_) fun c3 => ?_⟩
          · have c3 : (16 : Int) ≤ k := of_decide_eq_true c3
            have : 16 - k = 0 := by omega
            rw [this] at he'
            have he' : plB 16 d = ((s'.all fun x => plB (16 - x.2.1) x.2.2) && false) := he'
            rw [Bool.and_false] at he'
            rw [he'] at q
            exact ⟨G, les _, q⟩
          · have c3 : ¬ (16 : Int) ≤ k := of_decide_eq_false c3
            have ek : 16 - k = (16 - (k + 1)) + 1 := by omega
            rw [ek] at he'
            have he' : plB 16 d = ((s'.all fun x => plB (16 - x.2.1) x.2.2) && l.all (plB (16 - (k + 1)))) := he'
            refine ⟨⟨rfl, _, updG_same⟩, ?_⟩
            refine ⟨.tup l, rfl, fun b hb => ⟨trivial, ?_⟩⟩
            refine lc_map (fun e => .tup [e, .int ((k + 1 : Nat))]) (fun _ => trivial) (by have := lnBig; simp; omega) (fun e he2 acc Q' q' => ?_) ?_
            · exact ⟨e, rfl, _, rfl, two_line, q'⟩
            · rw [if_neg (by decide), List.nil_append, delG_updG hb]
              have hsl : (stk s').length ≤ stw s' := by
                unfold stk stw
                rw [List.length_map]
                exact wt_sum _ (fun a => wt_pos _ _) s'
              refine z_extend (l := stk s') updG_same rfl (by have := lnBig; simp; omega) ?_
              rw [updG_updG]
              have es : stk s' ++ l.map (fun e => D.tup [e, .int ((k + 1 : Nat))]) = stk (s' ++ l.map fun e => (n', k + 1, e)) := by
                unfold stk
                rw [List.map_append, List.map_map]
                rfl
              have ew : stw (s' ++ l.map fun e => (n', k + 1, e)) = stw s' + (l.map (wt n')).sum := by
                unfold stw
                rw [List.map_append, List.sum_append, List.map_map]
                rfl
              rw [es]
              refine hN (stw (s' ++ l.map fun e => (n', k + 1, e))) _ _ (by omega) ⟨_, _, _, _, _, rfl, rfl, fun x hx => ?_, rfl, by omega, ?_⟩
              · rcases List.mem_append.mp hx with hx | hx
                · exact hs' x hx
                · obtain ⟨e, he3, rfl⟩ := List.mem_map.mp hx
                  exact hle e he3
              · rw [List.all_append, he', List.all_map]
                rfl
    · have hz : s = [] := by
        cases s with
        | nil => rfl
        | cons a b => exact absurd c (by simp [stk])
      subst hz
      rw [he] at q
      exact ⟨G, les _, q⟩
  · exact ⟨[(20, 0, d)], _, _, _, _, rfl, rfl, by simpa using ha, by simp [stw], by simpa [stw] using hw, by simp⟩
theorem ok_is_plain (cs : List Addr) (F : FunD K "is_plain" "is_plain" (defArgs (top 43)) (defBody (top 43)) (defScope (top 43)) [] [] f fd) (g : GOk (c_is_plain T cs) k P w K mg base) : FnAt P w K mg base T (k + 2) f (sp_is_plain cs) := by
  refine fnAt4 F (F.bindsN fun _ _ _ _ _ _ us hl => match us, hl with | [_], _ => rfl) (ps := ["value"]) (C8.fnScope_by (by kernel_rfl)) rfl g (b_is_plain _) (k_is_plain T cs) (fun ds G Q E h => ?_) (fun ds G Q E h => ?_)
  · rcases ds with _ | ⟨a0, _ | r⟩ <;> first | rfl | exact False.elim h
  · rcases ds with _ | ⟨a0, _ | r⟩ <;> first | exact False.elim h | exact p_is_plain h
end W75
set_option Elab.async false
set_option linter.all false
set_option maxRecDepth 100000
set_option maxHeartbeats 1000000
namespace W75
open PySem PySem.Spec PyProof.Rows L2 LamX L3 Hd
local macro_rules | `(tactic| walk_at "den") => `(tactic| simp only [List.map, sRet, sSet, sSetLc, sAsg, sPar, sPar3, sExpr, sPass, sBreak, sCont, sIf, sWhile, sFor, sAug, sFld3, sFldAug3, sSub, sRaise,
  seqT, retT, setT, asgT, parT, dropT, ifT, augT, fldT, fldAugT, subT, rzT, eAnds, eOrs, eNot, eBf, eVar, eTy, eInt, eStr, eBl, eNon, eGlob, eBin, eNeg, eCmp, eChain, eIf, eTup, eLst, eFrz, eIx, eSl, eFld, eCall, eCall0, eBm, eOm, eLc, eMake, eDisp, eGcd, iSeq, iLst, iTupl, iTxt, L3.iRng1, L3.iRng2, iEnm, iEnmT, iRngDn, eDict0, L3.ifsT,
  tCmp3, tChain3, tTru, tNot3, tAnds, tOrs, testT, truT, notT, andT, orT, andE, orE, notE, ifE, cE', argT, varE, cE, opE, unE, chainE, tupE, lstE, slE, optE, spE, mtE, omE, makeE, dispE, Bf.r, Bm.r, Bm.ty, Tg.t, setAll, Option.map,
  List.getElem?_cons_zero, List.getElem?_cons_succ, List.set_cons_zero, List.set_cons_succ, Option.some.injEq, exists_eq_left', List.length_cons, List.length_nil, Nat.reduceAdd, true_and, binD, cmpD, augD, fnSp, mtC, mkC, rzC, gvD])
variable {P : Program} {w : World} {K : PySem.W.Frag} {mg : Str → Option Value} {base : Heap} {T : List (Addr × Str)} {k : Nat} {f : Addr} {fd : FuncData}
/-! ### the text of a value -/
def mkF (CM : Addr) : List (Addr × Str) := [(CM, "text")]
def S_Mark___init__ (CM : Addr) (x d : D) (G : Gp) (Q : K3) (E : X3) : Prop := ∃ p, x = .obj p ∧ G p = some (.ins CM []) ∧ Q .non (updG G p (.ins CM [("text", d)]))
abbrev s_Mark___init__ : Stmt := (inClass (top 41) 0)
def n_Mark___init__ : List Str := ["self", "text"]
def b_Mark___init__ (c : Cn) : List (CS c) := [sFld3 "text" (eVar 0) (eVar 1)]
def c_Mark___init__ (T : List (Addr × Str)) (CM : Addr) : Cn := { T := T, N := n_Mark___init__, nm := (defScope (inClass (top 41) 0)).names, fl := mkF CM }
theorem k_Mark___init__ (T : List (Addr × Str)) (CM : Addr) : chkSs (b_Mark___init__ (c_Mark___init__ T CM)) (defBody (inClass (top 41) 0)) = true := by kernel_rfl
def sp_Mark___init__ (CM : Addr) : Sp3 := fun ds G Q E => match ds with
  | [a0, a1] => S_Mark___init__ CM a0 a1 G Q E
  | _ => False
abbrev W_Mark___init__ (T : List (Addr × Str)) (CM : Addr) (a0 a1 : D) (G : Gp) (Q : K3) (E : X3) : Prop := seqT ((b_Mark___init__ (c_Mark___init__ T CM)).map (·.t)) { nx := fun _ G' => Q .non G', rt := Q, xe := E } [some a0, some a1] G
theorem p_Mark___init__ {CM : Addr} {x d : D} {G : Gp} {Q : K3} {E : X3} (h : S_Mark___init__ CM x d G Q E) : W_Mark___init__ T CM x d G Q E := by
  obtain ⟨p, rfl, hp, q⟩ := h
  unfold W_Mark___init__ b_Mark___init__
  walk_at "den"
  exact ⟨p, CM, _, rfl, hp, by simp [c_Mark___init__, mkF], by simp, q⟩
theorem ok_Mark___init__ (CM : Addr) (F : FunD K "__init__" "Mark.__init__" (defArgs (inClass (top 41) 0)) (defBody (inClass (top 41) 0)) (defScope (inClass (top 41) 0)) [] [] f fd) (g : GOk (c_Mark___init__ T CM) k P w K mg base) : FnAt P w K mg base T (k + 2) f (sp_Mark___init__ CM) := by
  refine fnAt3 F (F.bindsN fun _ _ _ _ _ _ us hl => match us, hl with | [_, _], _ => rfl) (ps := ["self", "text"]) (C8.fnScope_by (by kernel_rfl)) rfl g (b_Mark___init__ _) (k_Mark___init__ T CM) (fun ds G Q E h => ?_) (fun ds G Q E h => ?_)
  · rcases ds with _ | ⟨a0, _ | ⟨a1, _ | r⟩⟩ <;> first | rfl | exact False.elim h
  · rcases ds with _ | ⟨a0, _ | ⟨a1, _ | r⟩⟩ <;> first | exact False.elim h | exact p_Mark___init__ h
/-- a value of small numbers, nested at most n deep -/
def TB : Nat → D → Prop
  | 0, d => ∃ i, d = .int i ∧ i.natAbs < BIG
  | n + 1, d => (∃ i, d = .int i ∧ i.natAbs < BIG) ∨ ∃ l, d = .tup l ∧ l.length ≤ 1000 ∧ ∀ e ∈ l, TB n e
theorem TB.big {n : Nat} {d : D} (h : TB n d) (hr : ratB d = true) : RBig d := by
  have one : 1 < BIG := by decide +kernel
  have int : ∀ i : Int, i.natAbs < BIG → RBig (.int i) := fun i hi => ⟨hi, one⟩
  have lf : ∀ {m : Nat} {i : Int}, TB m (.int i) → i.natAbs < BIG := by
    intro m i hi
    cases m with
    | zero => obtain ⟨j, e, h⟩ := hi; cases e; exact h
    | succ m =>
      rcases hi with ⟨j, e, h⟩ | ⟨l, e, _⟩
      · cases e; exact h
      · cases e
  rcases rat_cases hr with ⟨i, rfl⟩ | ⟨a, b, rfl, h1, _⟩
  · exact int i (lf h)
  · cases n with
    | zero => obtain ⟨j, e, _⟩ := h; cases e
    | succ n =>
      rcases h with ⟨j, e, _⟩ | ⟨l, e, _, hl⟩
      · cases e
      · cases e
        have ha := lf (hl (.int a) (by simp))
        have hb := lf (hl (.int b) (by simp))
        refine ⟨ha, ?_⟩
        show b.toNat < BIG
        omega
def sepL : List (List Nat) → List Nat
  | [] => []
  | a :: r => a ++ (r.map fun x => [44, 32] ++ x).flatten
def txN : Nat → D → List Nat
  | 0, d => ratT d
  | n + 1, d => if ratB d then ratT d else match d with
    | .tup l => [40] ++ sepL (l.map (txN n)) ++ (if l.length = 1 then [44, 41] else [41])
    | _ => []
theorem txN_succ (n : Nat) (d : D) : txN (n + 1) d = if ratB d then ratT d else match d with
    | .tup l => [40] ++ sepL (l.map (txN n)) ++ (if l.length = 1 then [44, 41] else [41])
    | _ => [] := rfl
abbrev It2 := Sum (Nat × D) (List Nat)
def mkD (CM : Addr) (t : List Nat) : D := .ins CM ["text"] [.str (mkS t)]
def itd (CM : Addr) : It2 → D
  | .inl x => x.2
  | .inr t => mkD CM t
def itx : It2 → List Nat
  | .inl x => txN x.1 x.2
  | .inr t => t
def wt2 : Nat → D → Nat
  | n + 1, .tup l => 2 + (l.map fun e => 1 + wt2 n e).sum
  | _, _ => 1
def itw : It2 → Nat
  | .inl x => wt2 x.1 x.2
  | .inr _ => 1
theorem wt2_pos (n : Nat) (d : D) : 1 ≤ wt2 n d := by
  cases n <;> cases d <;> simp [wt2] <;> omega
theorem itw_pos (x : It2) : 1 ≤ itw x := by
  cases x with
  | inl x => exact wt2_pos _ _
  | inr t => exact Nat.le_refl _
/-- what is pushed of the items that are not the first -/
def pu1 (n : Nat) : List D → List It2
  | [] => []
  | x :: s => pu1 n s ++ [.inl (n, x), .inr [44, 32]]
def pu0 (n : Nat) : List D → List It2
  | [] => []
  | x :: s => pu1 n s ++ [.inl (n, x)]
def outT (s : List It2) : List Nat := (s.reverse.map itx).flatten
theorem outT_app (a b : List It2) : outT (a ++ b) = outT b ++ outT a := by
  unfold outT
  rw [List.reverse_append, List.map_append, List.flatten_append]
theorem out_pu1 (n : Nat) : ∀ l : List D, outT (pu1 n l) = (l.map fun x => [44, 32] ++ txN n x).flatten
  | [] => rfl
  | x :: s => by
    rw [pu1, outT_app, out_pu1 n s]
    show ([44, 32] ++ (txN n x ++ [])) ++ _ = ([44, 32] ++ txN n x) ++ _
    rw [List.append_nil]
theorem out_pu0 (n : Nat) (l : List D) : outT (pu0 n l) = sepL (l.map (txN n)) := by
  cases l with
  | nil => rfl
  | cons x s =>
    rw [pu0, outT_app, out_pu1]
    show (txN n x ++ []) ++ _ = txN n x ++ ((s.map (txN n)).map _).flatten
    rw [List.append_nil, List.map_map]
    rfl
def stw2 (s : List It2) : Nat := (s.map itw).sum
theorem stw2_app (a b : List It2) : stw2 (a ++ b) = stw2 a + stw2 b := by unfold stw2; rw [List.map_append, List.sum_append]
theorem stw2_pu1 (n : Nat) : ∀ l : List D, stw2 (pu1 n l) = (l.map fun e => 1 + wt2 n e).sum
  | [] => rfl
  | x :: s => by
    rw [pu1, stw2_app, stw2_pu1 n s]
    simp [stw2, itw]
    omega
theorem stw2_pu0 (n : Nat) (l : List D) : stw2 (pu0 n l) ≤ (l.map fun e => 1 + wt2 n e).sum := by
  cases l with
  | nil => exact Nat.le_refl _
  | cons x s =>
    rw [pu0, stw2_app, stw2_pu1]
    simp [stw2, itw]
    omega
def OkIt : It2 → Prop
  | .inl x => TB x.1 x.2
  | .inr t => t.length ≤ 1000
theorem ok_pu1 (n : Nat) : ∀ l : List D, (∀ e ∈ l, TB n e) → ∀ x ∈ pu1 n l, OkIt x
  | [], _, _, hx => by cases hx
  | y :: s, h, x, hx => by
    rw [pu1] at hx
    rcases List.mem_append.mp hx with hx | hx
    · exact ok_pu1 n s (fun e he => h e (List.mem_cons_of_mem _ he)) x hx
    · simp at hx
      rcases hx with rfl | rfl
      · exact h y (List.mem_cons_self ..)
      · show ([44, 32] : List Nat).length ≤ 1000; decide
theorem ok_pu0 (n : Nat) (l : List D) (h : ∀ e ∈ l, TB n e) : ∀ x ∈ pu0 n l, OkIt x := by
  cases l with
  | nil => intro x hx; cases hx
  | cons y s =>
    intro x hx
    rw [pu0] at hx
    rcases List.mem_append.mp hx with hx | hx
    · exact ok_pu1 n s (fun e he => h e (List.mem_cons_of_mem _ he)) x hx
    · simp at hx
      subst hx
      exact h y (List.mem_cons_self ..)
theorem dn_succ (j : Nat) : dnItems (((j + 1 : Nat) : Int) - 1) (j + 1) = .int (j : Nat) :: dnItems ((j : Int) - 1) j := by
  unfold dnItems
  rw [List.range_succ_eq_map, List.map_cons, List.map_map]
  congr 1
  · congr 1; omega
  · apply List.map_congr_left
    intro i _
    show D.int _ = D.int _
    congr 1
    push_cast
    omega
theorem pu1_len (n : Nat) : ∀ l : List D, (pu1 n l).length = 2 * l.length
  | [] => rfl
  | x :: s => by rw [pu1, List.length_append, pu1_len n s]; simp; omega
structure TG2 (CM : Addr) (G G' : Gp) (pw pl : Addr) (ws : List (List Nat)) (s : List It2) : Prop where
  w : G' pw = some (.lst (strL ws))
  l : G' pl = some (.lst (s.map (itd CM)))
  ne : pw ≠ pl
  ext : Ext G G'
  fw : G pw = none
  fl : G pl = none
section
variable {CM : Addr} {G G' : Gp} {pw pl : Addr} {ws : List (List Nat)} {s : List It2}
theorem TG2.word (v : TG2 CM G G' pw pl ws s) (t : List Nat) : TG2 CM G (updG G' pw (.lst (strL ws ++ [.str (mkS t)]))) pw pl (ws ++ [t]) s := by
  refine ⟨?_, ?_, v.ne, v.ext.upd v.fw, v.fw, v.fl⟩
  · rw [updG_same]; unfold strL; rw [List.map_append]; rfl
  · rw [updG_ne (Ne.symm v.ne)]; exact v.l
theorem TG2.left (v : TG2 CM G G' pw pl ws s) (l : List D) (s2 : List It2) (e : l = s2.map (itd CM)) : TG2 CM G (updG G' pl (.lst l)) pw pl ws s2 := by
  refine ⟨?_, ?_, v.ne, v.ext.upd v.fl, v.fw, v.fl⟩
  · rw [updG_ne v.ne]; exact v.w
  · rw [updG_same, e]
end
theorem mark_ok {CM : Addr} {t : List Nat} {G1 : Gp} {Q : K3} {E : X3} (hq : Q (mkD CM t) G1) : ∀ p, G1 p = none → sp_Mark___init__ CM [.obj p, .str (mkS t)] (updG G1 p (.ins CM [])) (fun d G2 => d = .non ∧ frzD (.obj p) G2 Q) E := by
  intro p hp
  refine ⟨p, rfl, updG_same, rfl, ?_⟩
  rw [updG_updG]
  show match updG G1 p (.ins CM [("text", .str (mkS t))]) p with
    | some (.lst l) => Q (.lst l) (delG (updG G1 p (.ins CM [("text", .str (mkS t))])) p)
    | some (.ins C fs) => Q (.ins C (fs.map (·.1)) (fs.map (·.2))) (delG (updG G1 p (.ins CM [("text", .str (mkS t))])) p)
    | _ => False
  rw [updG_same, delG_updG hp]
  exact hq
theorem knP_TB {n : Nat} {d : D} (h : TB n d) : (∃ i, d = .int i) ∨ ∃ m l, n = m + 1 ∧ d = .tup l ∧ l.length ≤ 1000 ∧ ∀ e ∈ l, TB m e := by
  cases n with
  | zero => obtain ⟨i, h, _⟩ := h; exact .inl ⟨i, h⟩
  | succ m =>
    rcases h with ⟨i, h, _⟩ | ⟨l, h1, h2, h3⟩
    · exact .inl ⟨i, h⟩
    · exact .inr ⟨m, l, rfl, h1, h2, h3⟩
theorem txN_rat {n : Nat} {d : D} (h : ratB d = true) : txN n d = ratT d := by
  cases n with
  | zero => rfl
  | succ n => rw [txN_succ, if_pos h]
theorem stw2_len (s : List It2) : s.length ≤ stw2 s := wt_sum _ itw_pos s
def S_text_of_value (cs : List Addr) (CM : Addr) (d : D) (G : Gp) (Q : K3) (E : X3) : Prop := CM ∈ cs ∧ TB 20 d ∧ wt2 20 d ≤ 90000 ∧ (txN 20 d).length ≤ 90000 ∧ Q (.str (mkS (txN 20 d))) G
abbrev s_text_of_value : Stmt := (top 44)
def n_text_of_value : List Str := ["value", "words", "left", "one", "at"]
def b_text_of_value (c : Cn) : List (CS c) := [sPar 1 2 (eLst [] true) (eLst [(eVar 0)] true), sWhile (tCmp3 .NotEq (eVar 2) (eLst [])) [sSet 3 (eBm .pop (eVar 2) []), sIf (tTru (eBf .isi [(eVar 3), (eGlob 0)])) [sExpr (eBm .append (eVar 1) [(eFld (eVar 3) "text")])] [sIf (tTru (eCall 0 [(eVar 3)])) [sExpr (eBm .append (eVar 1) [(eCall 1 [(eVar 3)])])] [sExpr (eBm .append (eVar 1) [(eStr "(")]), sExpr (eBm .append (eVar 2) [(eFrz (eMake 0 [(eIf (tCmp3 .Eq (eBf .len [(eVar 3)]) (eInt 1)) (eStr ",)") (eStr ")"))]))]), sFor (.nm 4) (iRngDn (eBin .Sub (eBf .len [(eVar 3)]) (eInt 1)) (eNeg (eInt 1))) [sExpr (eBm .append (eVar 2) [(eIx (eVar 3) (eVar 4))]), sIf (tCmp3 .Gt (eVar 4) (eInt 0)) [sExpr (eBm .append (eVar 2) [(eFrz (eMake 0 [(eStr ", ")]))])] []]]]], sRet (eBm .join (eStr "") [(eVar 1)])]
def c_text_of_value (T : List (Addr × Str)) (cs : List Addr) (CM : Addr) : Cn := { T := T, N := n_text_of_value, nm := (defScope (top 44)).names, fn := [("is_ratio", sp_is_ratio cs), ("ratio_text", sp_ratio_text cs)], gv := [("Mark", .obj CM)], bt := ["isinstance", "len", "range"], mks := [("Mark", CM, sp_Mark___init__ CM)], cs := cs, fl := mkF CM }
theorem k_text_of_value (T : List (Addr × Str)) (cs : List Addr) (CM : Addr) : chkSs (b_text_of_value (c_text_of_value T cs CM)) (defBody (top 44)) = true := by kernel_rfl
def sp_text_of_value (cs : List Addr) (CM : Addr) : Sp3 := fun ds G Q E => match ds with
  | [a0] => S_text_of_value cs CM a0 G Q E
  | _ => False
abbrev W_text_of_value (T : List (Addr × Str)) (cs : List Addr) (CM : Addr) (a0 : D) (G : Gp) (Q : K3) (E : X3) : Prop := seqT ((b_text_of_value (c_text_of_value T cs CM)).map (·.t)) { nx := fun _ G' => FG Q .non G', rt := FG Q, xe := FX E } [some a0, none, none, none, none] G
theorem p_text_of_value {cs : List Addr} {CM : Addr} {d : D} {G : Gp} {Q : K3} {E : X3} (h : S_text_of_value cs CM d G Q E) : W_text_of_value T cs CM d G Q E := by
  obtain ⟨hm, ht, hw, hl, q⟩ := h
  unfold W_text_of_value b_text_of_value
  walk_at "den"
  simp only [c_text_of_value, List.getElem?_cons_zero, List.getElem?_cons_succ]
  have two : (1 : Nat) ≤ sizeLine := by have := lnBig; omega
  refine ⟨Nat.zero_le _, z_mkT fun pw hpw => ⟨two, z_mkT fun pl hpl => ?_⟩⟩
  have ne : pw ≠ pl := by rintro rfl; rw [updG_same] at hpl; cases hpl
  have hpl' : G pl = none := by rw [updG_ne (Ne.symm ne)] at hpl; exact hpl
  refine while_by (fun m τ G' => ∃ (ws : List (List Nat)) (s : List It2) (e1 e3 e4 : Option D), τ = [e1, some (.obj pw), some (.obj pl), e3, e4] ∧ TG2 CM G G' pw pl ws s ∧ (∀ x ∈ s, OkIt x) ∧ m = stw2 s ∧ ws.length + stw2 s ≤ 90001 ∧ ws.flatten ++ outT s = txN 20 d) (wt2 20 d) ?_ ?_
  · rintro m τ G' N ⟨ws, s, e1, e3, e4, rfl, v, hs, rfl, hsz, he⟩ hN
    simp only [testT, opE, varE, lstE, argT, List.getElem?_cons_zero, List.getElem?_cons_succ, Option.some.injEq, exists_eq_left', List.length_nil]
    refine ⟨Nat.zero_le _, z_mkF (z_neNil (asL_obj v.l) ⟨_, rfl, ite_b (fun c => ?_) fun c => ?_⟩)⟩
    · obtain ⟨s', x, rfl⟩ : ∃ s' x, s = s' ++ [x] := by
        have hne : s ≠ [] := by rintro rfl; exact absurd c (by simp)
        exact ⟨_, _, (List.dropLast_concat_getLast hne).symm⟩
      have hx : OkIt x := hs x (by simp)
      have hs' : ∀ y ∈ s', OkIt y := fun y hy => hs y (by simp [hy])
      have hw2 : stw2 (s' ++ [x]) = stw2 s' + itw x := by rw [stw2_app]; simp [stw2]
      have ho : outT (s' ++ [x]) = itx x ++ outT s' := by rw [outT_app]; simp [outT]
      rw [ho] at he
      have hxp := itw_pos x
      have hlb := lnBig
      refine seqT_mid (fun τ1 G1 => τ1 = [e1, some (.obj pw), some (.obj pl), some (itd CM x), e4] ∧ TG2 CM G G1 pw pl ws s') (fun N1 hN1 => ?_) ?_
      · walk_at "den"
        refine ⟨⟨rfl, _, v.l⟩, z_pop (l := s'.map (itd CM)) (d := itd CM x) (by rw [v.l, List.map_append]; rfl) ?_⟩
        exact hN1 _ _ ⟨rfl, v.left _ _ rfl⟩
      clear v
      rintro τ1 G1 ⟨rfl, v⟩
      cases x with
      | inr t =>
        walk_at "den"
        have hi : isiCls cs G1 (mkD CM t) CM = some true := by
          unfold isiCls mkD
          rw [if_pos hm]
          show (if CM ∈ cs then some (decide (CM = CM)) else none) = _
          rw [if_pos hm, decide_eq_true rfl]
        show (match isiCls cs G1 (mkD CM t) CM with
          | some b => _
          | none => False)
        rw [hi]
        refine ⟨_, tru_bl, ite_t rfl ⟨⟨rfl, _, v.w⟩, ⟨by simp [mkF], z_append v.w (by rw [strL_len]; omega) ?_⟩⟩⟩
        refine hN (stw2 s') _ _ (by simp [itw] at hw2; omega) ⟨ws ++ [t], s', _, _, _, rfl, v.word t, hs', rfl, by simp [itw] at hw2; simp; omega, ?_⟩
        rw [List.flatten_append, List.append_assoc, ← he]
        simp [itx]
      | inl y =>
        obtain ⟨n, x⟩ := y
        have hx : TB n x := hx
        have hkk : ∃ kk, knP x = some kk := by
          rcases knP_TB hx with ⟨i, rfl⟩ | ⟨_, l, _, rfl, _⟩
          · exact ⟨_, rfl⟩
          · exact ⟨_, rfl⟩
        obtain ⟨kk, hkk⟩ := hkk
        show seqT _ _ [e1, some (D.obj pw), some (D.obj pl), some x, e4] G1
        walk_at "den"
        have hi : isiCls cs G1 x CM = some false := by
          unfold isiCls
          rw [if_pos hm]
          rcases knP_TB hx with ⟨i, rfl⟩ | ⟨_, l, _, rfl, _⟩ <;> rfl
        show (match isiCls cs G1 x CM with
          | some b => _
          | none => False)
        rw [hi]
        refine ⟨_, tru_bl, ite_f rfl ⟨⟨kk, kn_of hkk⟩, fun l hl e hel => ?_, _, tru_bl, ite_b (fun c1 => ?_) fun c1 => ?_⟩⟩
        · rcases knP_TB hx with ⟨i, rfl⟩ | ⟨m', l', _, rfl, _, h3⟩
          · cases hl
          · cases hl
            rcases knP_TB (h3 e hel) with ⟨i, rfl⟩ | ⟨_, _, _, rfl, _⟩ <;> rfl
        · have c1 : ratB x = true := c1
          have hr : RBig x := hx.big c1
          refine ⟨⟨rfl, _, v.w⟩, c1, hr, z_append v.w (by rw [strL_len]; omega) ?_⟩
          refine hN (stw2 s') _ _ (by omega) ⟨ws ++ [ratT x], s', _, _, _, rfl, v.word _, hs', rfl, by simp; omega, ?_⟩
          rw [List.flatten_append, List.append_assoc, ← he]
          show _ = _ ++ (txN n x ++ _)
          rw [txN_rat c1]
          simp
        · rcases knP_TB hx with ⟨i, rfl⟩ | ⟨n', l, rfl, rfl, hll, hle⟩
          · cases c1
          have hw3 : itw (.inl (n' + 1, .tup l)) = 2 + (l.map fun e => 1 + wt2 n' e).sum := rfl
          have htx : itx (.inl (n' + 1, .tup l)) = [40] ++ sepL (l.map (txN n')) ++ (if l.length = 1 then [44, 41] else [41]) := by
            show txN (n' + 1) (.tup l) = _
            rw [txN_succ, if_neg (by rw [show ratB (.tup l) = false from c1]; decide)]
          have hlen : l.length ≤ (l.map fun e => 1 + wt2 n' e).sum := wt_sum _ (fun a => by omega) l
          have v1 := v.word [40]
          have hsl := stw2_len s'
          refine ⟨⟨rfl, _, v.w⟩, z_append v.w (by rw [strL_len]; omega) ?_⟩
          refine ⟨⟨rfl, _, v1.l⟩, ?_⟩
          refine z_len_tup (z_eqI ⟨_, rfl, ite_b (fun c2 => mark_ok (t := [44, 41]) ?_) (fun c2 => mark_ok (t := [41]) ?_)⟩)
          all_goals
            refine z_append v1.l (by rw [List.length_map]; omega) ?_
            simp only [forT, itDn]
            walk_at "den"
          · have hcl : (if l.length = 1 then [44, 41] else [41] : List Nat) = [44, 41] := if_pos (by have := of_decide_eq_true c2; omega)
            have v2 := v1.left (s'.map (itd CM) ++ [mkD CM [44, 41]]) (s' ++ [.inr [44, 41]]) (by rw [List.map_append]; rfl)
            refine z_len_tup (z_subI (z_neg ?_))
            dsimp only
            have en : ((l.length : Int) - 1 - -1).toNat = l.length := by omega
            rw [en]
            refine ⟨by omega, ?_⟩
            refine for_by (fun rest τ2 G2 => ∃ j, j ≤ l.length ∧ rest = dnItems ((j : Int) - 1) j ∧ (∃ e4, τ2 = [e1, some (.obj pw), some (.obj pl), some (.tup l), e4]) ∧ TG2 CM G G2 pw pl (ws ++ [[40]]) (s' ++ [.inr [44, 41]] ++ (if j = 0 then pu0 n' l else pu1 n' (l.drop j)))) (fun _ _ _ _ => trivial) ?_ ?_ _ ⟨l.length, Nat.le_refl _, rfl, ⟨_, rfl⟩, ?_⟩
            · rintro x r τ2 G2 N3 ⟨j, hj, hr, ⟨e4', rfl⟩, v3⟩ hN3
              cases j with
              | zero => cases hr
              | succ j =>
                rw [dn_succ] at hr
                cases hr
                rw [if_neg (Nat.succ_ne_zero j)] at v3
                have hlt : j < l.length := hj
                have hd : l.drop j = l[j] :: l.drop (j + 1) := List.drop_eq_getElem_cons hlt
                have hz : (s' ++ [Sum.inr [44, 41]] ++ pu1 n' (l.drop (j + 1))).length ≤ 95000 := by
                  rw [List.length_append, List.length_append, pu1_len, List.length_drop]
                  simp
                  omega
                refine ⟨_, rfl, ⟨rfl, _, v3.l⟩, _, rfl, _, rfl, z_ix_tup (List.getElem?_eq_getElem hlt) (z_append v3.l (by rw [List.length_map]; omega) ⟨_, rfl, z_ord ⟨_, rfl, ite_b (fun c3 => ⟨_, rfl, ⟨rfl, _, updG_same⟩, mark_ok (t := [44, 32]) (z_append updG_same (by have hz2 := hz; rw [List.length_append, List.length_map]; simp only [List.length_append, List.length_cons, List.length_nil] at hz2 ⊢; omega) ?_)⟩) fun c3 => ?_⟩⟩)⟩
                · have j0 : j ≠ 0 := by have := of_decide_eq_true c3; omega
                  refine hN3 _ _ ⟨j, by omega, rfl, ⟨_, rfl⟩, ?_⟩
                  rw [if_neg j0, updG_updG]
                  refine v3.left _ _ ?_
                  rw [hd, pu1, ← List.append_assoc, List.map_append]
                  simp [itd, mkD]
                · have j0 : j = 0 := by have := of_decide_eq_false c3; omega
                  subst j0
                  refine hN3 _ _ ⟨0, by omega, rfl, ⟨_, rfl⟩, ?_⟩
                  rw [if_pos rfl]
                  refine v3.left _ _ ?_
                  have hd0 : l = l[0] :: l.drop 1 := hd
                  have hp : pu0 n' l = pu1 n' (l.drop 1) ++ [.inl (n', l[0])] := by
                    conv => lhs; rw [hd0]
                    rfl
                  rw [hp, ← List.append_assoc, List.map_append]
                  simp [itd, mkD]
            · rintro τ2 G2 ⟨j, hj, hr, ⟨e4', rfl⟩, v3⟩
              have j0 : j = 0 := by
                cases j with
                | zero => rfl
                | succ j => rw [dn_succ] at hr; cases hr
              subst j0
              rw [if_pos rfl] at v3
              have hw4 := stw2_pu0 n' l
              have hw5 : stw2 (s' ++ [Sum.inr [44, 41]] ++ pu0 n' l) = stw2 s' + 1 + stw2 (pu0 n' l) := by
                rw [stw2_app, stw2_app]
                simp [stw2, itw]
              refine hN (stw2 (s' ++ [Sum.inr [44, 41]] ++ pu0 n' l)) _ _ (by omega) ⟨_, _, _, _, _, rfl, v3, fun y hy => ?_, rfl, by simp only [List.length_append, List.length_cons, List.length_nil]; omega, ?_⟩
              · rcases List.mem_append.mp hy with hy | hy
                · rcases List.mem_append.mp hy with hy | hy
                  · exact hs' y hy
                  · simp at hy
                    subst hy
                    show ([44, 41] : List Nat).length ≤ 1000
                    decide
                · exact ok_pu0 n' l hle y hy
              · rw [← he, htx, hcl, outT_app, outT_app, out_pu0]
                simp [outT, itx]
            · have e0 : (if l.length = 0 then pu0 n' l else pu1 n' (l.drop l.length)) = [] := by
                rw [List.drop_length]
                split
                · rename_i h0
                  rw [List.eq_nil_of_length_eq_zero h0]
                  rfl
                · rfl
              rw [e0, List.append_nil]
              exact v2
          · have hcl : (if l.length = 1 then [44, 41] else [41] : List Nat) = [41] := if_neg (by have := of_decide_eq_false c2; omega)
            have v2 := v1.left (s'.map (itd CM) ++ [mkD CM [41]]) (s' ++ [.inr [41]]) (by rw [List.map_append]; rfl)
            refine z_len_tup (z_subI (z_neg ?_))
            dsimp only
            have en : ((l.length : Int) - 1 - -1).toNat = l.length := by omega
            rw [en]
            refine ⟨by omega, ?_⟩
            refine for_by (fun rest τ2 G2 => ∃ j, j ≤ l.length ∧ rest = dnItems ((j : Int) - 1) j ∧ (∃ e4, τ2 = [e1, some (.obj pw), some (.obj pl), some (.tup l), e4]) ∧ TG2 CM G G2 pw pl (ws ++ [[40]]) (s' ++ [.inr [41]] ++ (if j = 0 then pu0 n' l else pu1 n' (l.drop j)))) (fun _ _ _ _ => trivial) ?_ ?_ _ ⟨l.length, Nat.le_refl _, rfl, ⟨_, rfl⟩, ?_⟩
            · rintro x r τ2 G2 N3 ⟨j, hj, hr, ⟨e4', rfl⟩, v3⟩ hN3
              cases j with
              | zero => cases hr
              | succ j =>
                rw [dn_succ] at hr
                cases hr
                rw [if_neg (Nat.succ_ne_zero j)] at v3
                have hlt : j < l.length := hj
                have hd : l.drop j = l[j] :: l.drop (j + 1) := List.drop_eq_getElem_cons hlt
                have hz : (s' ++ [Sum.inr [41]] ++ pu1 n' (l.drop (j + 1))).length ≤ 95000 := by
                  rw [List.length_append, List.length_append, pu1_len, List.length_drop]
                  simp
                  omega
                refine ⟨_, rfl, ⟨rfl, _, v3.l⟩, _, rfl, _, rfl, z_ix_tup (List.getElem?_eq_getElem hlt) (z_append v3.l (by rw [List.length_map]; omega) ⟨_, rfl, z_ord ⟨_, rfl, ite_b (fun c3 => ⟨_, rfl, ⟨rfl, _, updG_same⟩, mark_ok (t := [44, 32]) (z_append updG_same (by have hz2 := hz; rw [List.length_append, List.length_map]; simp only [List.length_append, List.length_cons, List.length_nil] at hz2 ⊢; omega) ?_)⟩) fun c3 => ?_⟩⟩)⟩
                · have j0 : j ≠ 0 := by have := of_decide_eq_true c3; omega
                  refine hN3 _ _ ⟨j, by omega, rfl, ⟨_, rfl⟩, ?_⟩
                  rw [if_neg j0, updG_updG]
                  refine v3.left _ _ ?_
                  rw [hd, pu1, ← List.append_assoc, List.map_append]
                  simp [itd, mkD]
                · have j0 : j = 0 := by have := of_decide_eq_false c3; omega
                  subst j0
                  refine hN3 _ _ ⟨0, by omega, rfl, ⟨_, rfl⟩, ?_⟩
                  rw [if_pos rfl]
                  refine v3.left _ _ ?_
                  have hd0 : l = l[0] :: l.drop 1 := hd
                  have hp : pu0 n' l = pu1 n' (l.drop 1) ++ [.inl (n', l[0])] := by
                    conv => lhs; rw [hd0]
                    rfl
                  rw [hp, ← List.append_assoc, List.map_append]
                  simp [itd, mkD]
            · rintro τ2 G2 ⟨j, hj, hr, ⟨e4', rfl⟩, v3⟩
              have j0 : j = 0 := by
                cases j with
                | zero => rfl
                | succ j => rw [dn_succ] at hr; cases hr
              subst j0
              rw [if_pos rfl] at v3
              have hw4 := stw2_pu0 n' l
              have hw5 : stw2 (s' ++ [Sum.inr [41]] ++ pu0 n' l) = stw2 s' + 1 + stw2 (pu0 n' l) := by
                rw [stw2_app, stw2_app]
                simp [stw2, itw]
              refine hN (stw2 (s' ++ [Sum.inr [41]] ++ pu0 n' l)) _ _ (by omega) ⟨_, _, _, _, _, rfl, v3, fun y hy => ?_, rfl, by simp only [List.length_append, List.length_cons, List.length_nil]; omega, ?_⟩
              · rcases List.mem_append.mp hy with hy | hy
                · rcases List.mem_append.mp hy with hy | hy
                  · exact hs' y hy
                  · simp at hy
                    subst hy
                    show ([41] : List Nat).length ≤ 1000
                    decide
                · exact ok_pu0 n' l hle y hy
              · rw [← he, htx, hcl, outT_app, outT_app, out_pu0]
                simp [outT, itx]
            · have e0 : (if l.length = 0 then pu0 n' l else pu1 n' (l.drop l.length)) = [] := by
                rw [List.drop_length]
                split
                · rename_i h0
                  rw [List.eq_nil_of_length_eq_zero h0]
                  rfl
                · rfl
              rw [e0, List.append_nil]
              exact v2
    · have hz : s = [] := by
        cases s with
        | nil => rfl
        | cons a b => exact absurd c (by simp)
      subst hz
      have he : ws.flatten = txN 20 d := by simpa [outT] using he
      refine ⟨rfl, ?_⟩
      have sums : ∀ l : List (List Nat), (l.map List.length).sum = l.flatten.length := fun l => by rw [List.length_flatten]
      refine z_join (s := []) (ts := ws) (seqOf_obj v.w) (by rw [joinL_nil, he]; omega) (by rw [sums, he]; simp; omega) ⟨G, v.ext.les, ?_⟩
      rw [joinL_nil, he]
      exact q
  · refine ⟨[], [.inl (20, d)], _, _, _, rfl, ⟨?_, updG_same, ne, (Ext.upd (Ext.upd (Ext.refl G) hpw) hpl'), hpw, hpl'⟩, ?_, by simp [stw2, itw], by simp [stw2, itw]; omega, ?_⟩
    · rw [updG_ne ne]; exact updG_same
    · intro x hx
      simp at hx
      subst hx
      exact ht
    · simp [outT, itx]
theorem ok_text_of_value (cs : List Addr) (CM : Addr) (F : FunD K "text_of_value" "text_of_value" (defArgs (top 44)) (defBody (top 44)) (defScope (top 44)) [] [] f fd) (g : GOk (c_text_of_value T cs CM) k P w K mg base) : FnAt P w K mg base T (k + 2) f (sp_text_of_value cs CM) := by
  refine fnAt4 F (F.bindsN fun _ _ _ _ _ _ us hl => match us, hl with | [_], _ => rfl) (ps := ["value"]) (C8.fnScope_by (by kernel_rfl)) rfl g (b_text_of_value _) (k_text_of_value T cs CM) (fun ds G Q E h => ?_) (fun ds G Q E h => ?_)
  · rcases ds with _ | ⟨a0, _ | r⟩ <;> first | rfl | exact False.elim h
  · rcases ds with _ | ⟨a0, _ | r⟩ <;> first | exact False.elim h | exact p_text_of_value h
end W75
set_option Elab.async false
set_option linter.all false
set_option maxRecDepth 100000
set_option maxHeartbeats 1000000
namespace W75
open PySem PySem.Spec PyProof.Rows L2 LamX L3 Hd
local macro_rules | `(tactic| walk_at "den") => `(tactic| simp only [List.map, sRet, sSet, sSetLc, sAsg, sPar, sPar3, sExpr, sPass, sBreak, sCont, sIf, sWhile, sFor, sAug, sFld3, sFldAug3, sSub, sRaise,
  seqT, retT, setT, asgT, parT, dropT, ifT, augT, fldT, fldAugT, subT, rzT, eAnds, eOrs, eNot, eBf, eVar, eTy, eInt, eStr, eBl, eNon, eGlob, eBin, eNeg, eCmp, eChain, eIf, eTup, eLst, eFrz, eIx, eSl, eFld, eCall, eCall0, eBm, eOm, eLc, eMake, eDisp, eGcd, iSeq, iLst, iTupl, iTxt, L3.iRng1, L3.iRng2, iEnm, iEnmT, iRngDn, eDict0, L3.ifsT,
  tCmp3, tChain3, tTru, tNot3, tAnds, tOrs, testT, truT, notT, andT, orT, andE, orE, notE, ifE, cE', argT, varE, cE, opE, unE, chainE, tupE, lstE, slE, optE, spE, mtE, omE, makeE, dispE, Bf.r, Bm.r, Bm.ty, Tg.t, setAll, Option.map,
  List.getElem?_cons_zero, List.getElem?_cons_succ, List.set_cons_zero, List.set_cons_succ, Option.some.injEq, exists_eq_left', List.length_cons, List.length_nil, Nat.reduceAdd, true_and, binD, cmpD, augD, fnSp, mtC, mkC, rzC, gvD])
variable {P : Program} {w : World} {K : PySem.W.Frag} {mg : Str → Option Value} {base : Heap} {T : List (Addr × Str)} {k : Nat} {f : Addr} {fd : FuncData}
def fR (d : D) : List (Str × D) := [("row", d), ("what", .str "value")]
def S_value_text (cs : List Addr) (CM CW : Addr) (d : D) (G : Gp) (Q : K3) (E : X3) : Prop := CM ∈ cs ∧ Ak 20 d ∧ wt 20 d ≤ 90000 ∧ (plB 16 d = false → E CW (fR d) G) ∧
  (plB 16 d = true → Pl 20 d ∧ TB 20 (asT 20 d) ∧ wt2 20 (asT 20 d) ≤ 90000 ∧ (txN 20 (asT 20 d)).length ≤ 90000 ∧ Q (.str (mkS (txN 20 (asT 20 d)))) G)
abbrev s_value_text : Stmt := (top 45)
def n_value_text : List Str := ["value"]
def b_value_text (c : Cn) : List (CS c) := [sIf (tNot3 (tTru (eCall 0 [(eVar 0)]))) [sRaise 0 [(eStr "value"), (eVar 0)]] [], sRet (eCall 1 [(eCall 2 [(eVar 0)])])]
def c_value_text (T : List (Addr × Str)) (cs : List Addr) (CM CW : Addr) : Cn := { T := T, N := n_value_text, nm := (defScope (top 45)).names, fn := [("is_plain", sp_is_plain cs), ("text_of_value", sp_text_of_value cs CM), ("as_tuples", sp_as_tuples cs 20)], rz := [("BadRow", CW, ["what", "row"])] }
theorem k_value_text (T : List (Addr × Str)) (cs : List Addr) (CM CW : Addr) : chkSs (b_value_text (c_value_text T cs CM CW)) (defBody (top 45)) = true := by kernel_rfl
def sp_value_text (cs : List Addr) (CM CW : Addr) : Sp3 := fun ds G Q E => match ds with
  | [a0] => S_value_text cs CM CW a0 G Q E
  | _ => False
abbrev W_value_text (T : List (Addr × Str)) (cs : List Addr) (CM CW : Addr) (a0 : D) (G : Gp) (Q : K3) (E : X3) : Prop := seqT ((b_value_text (c_value_text T cs CM CW)).map (·.t)) { nx := fun _ G' => Q .non G', rt := Q, xe := E } [some a0] G
theorem p_value_text {cs : List Addr} {CM CW : Addr} {d : D} {G : Gp} {Q : K3} {E : X3} (h : S_value_text cs CM CW d G Q E) : W_value_text T cs CM CW d G Q E := by
  obtain ⟨hm, ha, hw, h1, h2⟩ := h
  unfold W_value_text b_value_text
  walk_at "den"
  simp only [c_value_text, List.getElem?_cons_zero, List.getElem?_cons_succ]
  refine ⟨ha, hw, _, tru_bl, ite_b (fun c => ?_) fun c => ?_⟩
  · exact ⟨rfl, by decide, h1 (by simpa using c)⟩
  · obtain ⟨a, b, c1, e, q⟩ := h2 (by simpa using c)
    exact ⟨a, hm, b, c1, e, q⟩
theorem ok_value_text (cs : List Addr) (CM CW : Addr) (F : FunD K "value_text" "value_text" (defArgs (top 45)) (defBody (top 45)) (defScope (top 45)) [] [] f fd) (g : GOk (c_value_text T cs CM CW) k P w K mg base) : FnAt P w K mg base T (k + 2) f (sp_value_text cs CM CW) := by
  refine fnAt3 F (F.bindsN fun _ _ _ _ _ _ us hl => match us, hl with | [_], _ => rfl) (ps := ["value"]) (C8.fnScope_by (by kernel_rfl)) rfl g (b_value_text _) (k_value_text T cs CM CW) (fun ds G Q E h => ?_) (fun ds G Q E h => ?_)
  · rcases ds with _ | ⟨a0, _ | r⟩ <;> first | rfl | exact False.elim h
  · rcases ds with _ | ⟨a0, _ | r⟩ <;> first | exact False.elim h | exact p_value_text h
/-! ### the law's draws -/
def penO (cells : List D) (at_ : Nat) (digits count fold : Int) : GO := .dct [(.inr "cells", .lst cells), (.inr "at", .int at_), (.inr "digits", .int digits), (.inr "count", .int count), (.inr "fold", .int fold)]
def IntsD (l : List D) : Prop := ∀ e ∈ l, ∃ i, e = .int i
def PenO (o : GO) : Prop := ∃ cells at_ digits count fold, o = penO cells at_ digits count fold ∧ IntsD cells ∧ cells.length ≤ 1000
section
variable {G : Gp} {Q : K3} {p : Addr} {cells : List D} {at_ : Nat} {digits count fold : Int}
theorem ixD_dct {k : Str} {kvs : List (Key × D)} {d : D} (h : G p = some (.dct kvs)) (hv : valD kvs (.inr k) = some d) (q : Q d G) : ixD (.obj p) (.str k) G Q := by
  show match G p with
    | some (.dct kvs) => (match valD kvs (.inr k) with
      | some d => Q d G
      | none => False)
    | _ => False
  rw [h]
  show match valD kvs (.inr k) with
      | some d => Q d G
      | none => False
  rw [hv]
  exact q
theorem setD_dct {k : Str} {kvs kvs' : List (Key × D)} {d : D} {Q : Gp → Prop} (h : G p = some (.dct kvs)) (hl : kvs.length < sizeLine) (hv : putD kvs (.inr k) d = kvs') (q : Q (updG G p (.dct kvs'))) : setD (.obj p) (.str k) d G Q := by
  show match G p with
    | some (.dct kvs) => kvs.length < sizeLine ∧ Q (updG G p (.dct (putD kvs (.inr k) d)))
    | _ => False
  rw [h]
  show kvs.length < sizeLine ∧ Q (updG G p (.dct (putD kvs (.inr k) d)))
  rw [hv]
  exact ⟨hl, q⟩
theorem five : 5 < sizeLine := by have := lnBig; omega
end
theorem i_cells (c : List D) (a : Nat) (d n f : Int) : ∀ kvs, penO c a d n f = .dct kvs → valD kvs (.inr "cells") = some (.lst c) := by intro kvs h; cases h; rfl
def S__law_draw (x m : D) (G : Gp) (Q : K3) (E : X3) : Prop := ∃ p many o, x = .obj p ∧ m = .int many ∧ 0 < many ∧ many < 1073741824 ∧ G p = some o ∧ PenO o ∧ ∀ r o, 0 ≤ r → r < many → PenO o → Q (.int r) (updG G p o)
abbrev s__law_draw : Stmt := (top 50)
def n__law_draw : List Str := ["pen", "many", "cell", "digit", "blend"]
def b__law_draw (c : Cn) : List (CS c) := [sSub (eVar 0) (eStr "count") (eBin .Add (eIx (eVar 0) (eStr "count")) (eInt 1)), sIf (tAnds [(tCmp3 .Eq (eIx (eVar 0) (eStr "digits")) (eInt 0)), (tCmp3 .Lt (eIx (eVar 0) (eStr "at")) (eBf .len [(eIx (eVar 0) (eStr "cells"))]))]) [sSet 2 (eIx (eIx (eVar 0) (eStr "cells")) (eIx (eVar 0) (eStr "at"))), sSub (eVar 0) (eStr "at") (eBin .Add (eIx (eVar 0) (eStr "at")) (eInt 1)), sIf (tCmp3 .GtE (eVar 2) (eBin .Pow (eInt 10) (eInt 18))) [sSub (eVar 0) (eStr "digits") (eBin .Sub (eVar 2) (eBin .Pow (eInt 10) (eInt 18)))] [sSub (eVar 0) (eStr "fold") (eBin .Mod (eBf .int [(eBin .Add (eBin .Mult (eIx (eVar 0) (eStr "fold")) (eInt 69069)) (eVar 2))]) (eInt 2147483587))]] [], sIf (tCmp3 .Gt (eIx (eVar 0) (eStr "digits")) (eInt 0)) [sSet 3 (eBin .Mod (eBf .int [(eIx (eVar 0) (eStr "digits"))]) (eVar 1)), sSub (eVar 0) (eStr "digits") (eBin .FloorDiv (eIx (eVar 0) (eStr "digits")) (eVar 1)), sRet (eVar 3)] [], sSet 4 (eBin .Mod (eBf .int [(eBin .Add (eBin .Add (eBin .Mult (eIx (eVar 0) (eStr "fold")) (eInt 48271)) (eBin .Mult (eIx (eVar 0) (eStr "count")) (eInt 7919))) (eInt 13))]) (eInt 2147483647)), sSet 4 (eBin .Mod (eBf .int [(eBin .Add (eBin .Add (eBin .Mult (eVar 4) (eVar 4)) (eBin .Mult (eInt 31) (eVar 4))) (eIx (eVar 0) (eStr "count")))]) (eInt 2147483629)), sSub (eVar 0) (eStr "fold") (eBin .Mod (eBf .int [(eBin .Add (eBin .Mult (eVar 4) (eInt 16807)) (eInt 7))]) (eInt 2147483647)), sRet (eBin .Mod (eBf .int [(eBin .FloorDiv (eVar 4) (eInt 64))]) (eVar 1))]
def c__law_draw (T : List (Addr × Str))  : Cn := { T := T, N := n__law_draw, nm := (defScope (top 50)).names, bt := ["len", "int"] }
theorem k__law_draw (T : List (Addr × Str))  : chkSs (b__law_draw (c__law_draw T)) (defBody (top 50)) = true := by kernel_rfl
def sp__law_draw  : Sp3 := fun ds G Q E => match ds with
  | [a0, a1] => S__law_draw a0 a1 G Q E
  | _ => False
abbrev W__law_draw (T : List (Addr × Str))  (a0 a1 : D) (G : Gp) (Q : K3) (E : X3) : Prop := seqT ((b__law_draw (c__law_draw T)).map (·.t)) { nx := fun _ G' => Q .non G', rt := Q, xe := E } [some a0, some a1, none, none, none] G
theorem z_mulI {m : Bool} {i j : Int} {G : Gp} {Q : K3} (h : MulOk i j) (q : Q (.int (i * j)) G) : mulD m (.int i) (.int j) G Q := ⟨h, q⟩
theorem z_mod {i j : Int} {G : Gp} {Q : K3} (h : j ≠ 0) (q : Q (.int (i.fmod j)) G) : modD (.int i) (.int j) G Q := ⟨h, q⟩
theorem z_fdiv {i j : Int} {G : Gp} {Q : K3} (h : DivOk i j) (q : Q (.int (i.fdiv j)) G) : fdivD (.int i) (.int j) G Q := ⟨h, q⟩
theorem z_int {i : Int} {G : Gp} {Q : K3} (q : Q (.int i) G) : L3.intD [.int i] G Q := q
theorem mulR {i j : Int} (h : -(2 ^ 64) < j ∧ j < 2 ^ 64) : MulOk i j := .inl (.inr h)
theorem mulL {i j : Int} (h : -(2 ^ 64) < i ∧ i < 2 ^ 64) : MulOk i j := .inl (.inl h)
theorem p__law_draw {x m : D} {G : Gp} {Q : K3} {E : X3} (h : S__law_draw x m G Q E) : W__law_draw T x m G Q E := by
  obtain ⟨p, many, o, rfl, rfl, h0, h1, hp, ⟨cells, at_, digits, count, fold, rfl, hc, hcl⟩, q⟩ := h
  unfold W__law_draw b__law_draw
  refine seq_mid rfl (fun τ1 G1 => ∃ count, τ1 = [some (.obj p), some (.int many), none, none, none] ∧ G1 = updG G p (penO cells at_ digits count fold)) (fun N hN => ?_) ?_
  · walk_at "den"
    refine ixD_dct hp rfl (z_addI (setD_dct hp five rfl ?_))
    exact hN _ _ ⟨_, rfl, rfl⟩
  rintro τ1 G1 ⟨count, rfl, rfl⟩
  refine seq_mid rfl (fun τ1 G1 => ∃ at_ digits fold e, τ1 = [some (.obj p), some (.int many), e, none, none] ∧ G1 = updG G p (penO cells at_ digits count fold)) (fun N hN => ?_) ?_
  · walk_at "den"
    have u : ∀ {at2 d2 f2}, updG G p (penO cells at2 d2 count f2) p = some (penO cells at2 d2 count f2) := updG_same
    refine ixD_dct u rfl (z_eqI ⟨_, rfl, ite_b (fun c => ?_) fun c => ite_f rfl (hN _ _ ⟨_, _, _, _, rfl, rfl⟩)⟩)
    refine ixD_dct u rfl (ixD_dct u rfl (z_len_lst rfl (z_ord ⟨_, rfl, ite_b (fun c2 => ?_) fun c2 => hN _ _ ⟨_, _, _, _, rfl, rfl⟩⟩)))
    have hl : at_ < cells.length := by have := of_decide_eq_true c2; omega
    obtain ⟨i, hi⟩ := hc cells[at_] (List.getElem_mem hl)
    have hg : cells[at_]? = some (.int i) := by rw [List.getElem?_eq_getElem hl, hi]
    refine ixD_dct u rfl (ixD_dct u rfl (z_ix_lst rfl hg (ixD_dct u rfl (z_addI (setD_dct u five rfl ?_)))))
    rw [updG_updG]
    have u2 : ∀ {d2 f2}, updG G p (penO cells (at_ + 1) d2 count f2) p = some (penO cells (at_ + 1) d2 count f2) := updG_same
    refine z_pow ⟨by decide, by decide, by decide +kernel⟩ (z_ord ⟨_, rfl, ite_b (fun c3 => ?_) fun c3 => ?_⟩)
    · refine z_pow ⟨by decide, by decide, by decide +kernel⟩ (z_subI (setD_dct u2 five rfl ?_))
      rw [updG_updG]
      exact hN _ _ ⟨at_ + 1, _, fold, _, rfl, rfl⟩
    · refine ixD_dct u2 rfl (z_mulI (mulR (by decide)) (z_addI (z_int (z_mod (by decide) (setD_dct u2 five rfl ?_)))))
      rw [updG_updG]
      exact hN _ _ ⟨at_ + 1, digits, _, _, rfl, rfl⟩
  clear hp
  rintro τ1 G1 ⟨at2, digits2, fold2, e, rfl, rfl⟩
  have u : ∀ {at2 d2 f2}, updG G p (penO cells at2 d2 count f2) p = some (penO cells at2 d2 count f2) := updG_same
  refine seq_mid rfl (fun τ1 G1 => τ1 = [some (.obj p), some (.int many), e, none, none] ∧ G1 = updG G p (penO cells at2 digits2 count fold2)) (fun N hN => ?_) ?_
  · walk_at "den"
    refine ixD_dct u rfl (z_ord ⟨_, rfl, ite_b (fun c => ?_) fun c => hN _ _ ⟨rfl, rfl⟩⟩)
    refine ixD_dct u rfl (z_int (z_mod (by omega) (ixD_dct u rfl (z_fdiv (.inl ⟨by omega, by omega⟩) (setD_dct u five rfl ?_)))))
    rw [updG_updG]
    have e1 : digits2.fmod many = digits2 % many := Int.fmod_eq_emod_of_nonneg _ (by omega)
    refine q _ _ ?_ ?_ ⟨_, _, _, _, _, rfl, hc, hcl⟩
    · rw [e1]; exact Int.emod_nonneg _ (by omega)
    · rw [e1]; exact Int.emod_lt_of_pos _ h0
  rintro τ1 G1 ⟨rfl, rfl⟩
  have fm : ∀ (a b : Int), 0 < b → 0 ≤ a.fmod b ∧ a.fmod b < b := fun a b hb => by
    rw [Int.fmod_eq_emod_of_nonneg _ (by omega)]
    exact ⟨Int.emod_nonneg _ (by omega), Int.emod_lt_of_pos _ hb⟩
  refine seq_mid rfl (fun τ1 G1 => (∃ b : Int, 0 ≤ b ∧ b < 2147483647 ∧ τ1 = [some (.obj p), some (.int many), e, none, some (.int b)]) ∧ G1 = updG G p (penO cells at2 digits2 count fold2)) (fun N hN => ?_) ?_
  · walk_at "den"
    refine ixD_dct u rfl (z_mulI (mulR (by decide)) (ixD_dct u rfl (z_mulI (mulR (by decide)) (z_addI (z_addI (z_int (z_mod (by decide) ?_)))))))
    exact hN _ _ ⟨⟨_, (fm _ _ (by decide)).1, (fm _ _ (by decide)).2, rfl⟩, rfl⟩
  rintro τ1 G1 ⟨⟨b, hb0, hb1, rfl⟩, rfl⟩
  refine seq_mid rfl (fun τ1 G1 => (∃ b : Int, 0 ≤ b ∧ b < 2147483629 ∧ τ1 = [some (.obj p), some (.int many), e, none, some (.int b)]) ∧ G1 = updG G p (penO cells at2 digits2 count fold2)) (fun N hN => ?_) ?_
  · walk_at "den"
    refine z_mulI (mulR ⟨by omega, by omega⟩) (z_mulI (mulL (by decide)) (z_addI (ixD_dct u rfl (z_addI (z_int (z_mod (by decide) ?_))))))
    exact hN _ _ ⟨⟨_, (fm _ _ (by decide)).1, (fm _ _ (by decide)).2, rfl⟩, rfl⟩
  rintro τ1 G1 ⟨⟨b, hb0, hb1, rfl⟩, rfl⟩
  walk_at "den"
  refine z_mulI (mulR (by decide)) (z_addI (z_int (z_mod (by decide) (setD_dct u five rfl ?_))))
  rw [updG_updG]
  refine z_fdiv (.inl ⟨by decide, by decide⟩) (z_int (z_mod (by omega) ?_))
  exact q _ _ (fm _ _ h0).1 (fm _ _ h0).2 ⟨_, _, _, _, _, rfl, hc, hcl⟩
theorem ok__law_draw  (F : FunD K "_law_draw" "_law_draw" (defArgs (top 50)) (defBody (top 50)) (defScope (top 50)) [] [] f fd) (g : GOk (c__law_draw T) k P w K mg base) : FnAt P w K mg base T (k + 2) f (sp__law_draw) := by
  refine fnAt3 F (F.bindsN fun _ _ _ _ _ _ us hl => match us, hl with | [_, _], _ => rfl) (ps := ["pen", "many"]) (C8.fnScope_by (by kernel_rfl)) rfl g (b__law_draw _) (k__law_draw T) (fun ds G Q E h => ?_) (fun ds G Q E h => ?_)
  · rcases ds with _ | ⟨a0, _ | ⟨a1, _ | r⟩⟩ <;> first | rfl | exact False.elim h
  · rcases ds with _ | ⟨a0, _ | ⟨a1, _ | r⟩⟩ <;> first | exact False.elim h | exact p__law_draw h
end W75
set_option Elab.async false
set_option linter.all false
set_option maxRecDepth 100000
set_option maxHeartbeats 1000000
namespace W75
open PySem PySem.Spec PyProof.Rows L2 LamX L3 Hd
local macro_rules | `(tactic| walk_at "den") => `(tactic| simp only [List.map, sRet, sSet, sSetLc, sAsg, sPar, sPar3, sExpr, sPass, sBreak, sCont, sIf, sWhile, sFor, sAug, sFld3, sFldAug3, sSub, sRaise,
  seqT, retT, setT, asgT, parT, dropT, ifT, augT, fldT, fldAugT, subT, rzT, eAnds, eOrs, eNot, eBf, eVar, eTy, eInt, eStr, eBl, eNon, eGlob, eBin, eNeg, eCmp, eChain, eIf, eTup, eLst, eFrz, eIx, eSl, eFld, eCall, eCall0, eBm, eOm, eLc, eMake, eDisp, eGcd, iSeq, iLst, iTupl, iTxt, L3.iRng1, L3.iRng2, iEnm, iEnmT, iRngDn, eDict0, L3.ifsT,
  tCmp3, tChain3, tTru, tNot3, tAnds, tOrs, testT, truT, notT, andT, orT, andE, orE, notE, ifE, cE', argT, varE, cE, opE, unE, chainE, tupE, lstE, slE, optE, spE, mtE, omE, makeE, dispE, Bf.r, Bm.r, Bm.ty, Tg.t, setAll, Option.map,
  List.getElem?_cons_zero, List.getElem?_cons_succ, List.set_cons_zero, List.set_cons_succ, Option.some.injEq, exists_eq_left', List.length_cons, List.length_nil, Nat.reduceAdd, true_and, binD, cmpD, augD, fnSp, mtC, mkC, rzC, gvD])
variable {P : Program} {w : World} {K : PySem.W.Frag} {mg : Str → Option Value} {base : Heap} {T : List (Addr × Str)} {k : Nat} {f : Addr} {fd : FuncData}
def S__law_pen (x : D) (G : Gp) (Q : K3) (E : X3) : Prop := ∃ (l : List D) (S : Src), srcL G x = some S ∧ S.items = l ∧ IntsD l ∧ l.length ≤ 1000 ∧ seqOf G x = some l ∧ S.keep G ∧ ∀ p o, G p = none → PenO o → Q (.obj p) (updG G p o)
abbrev s__law_pen : Stmt := (top 49)
def n__law_pen : List Str := ["script", "fold", "cell"]
def b__law_pen (c : Cn) : List (CS c) := [sSet 1 (eInt 0), sFor (.nm 2) (iLst (eVar 0)) [sSet 1 (eBin .Mod (eBf .int [(eBin .Add (eBin .Mult (eVar 1) (eInt 47)) (eVar 2))]) (eInt 1000000007))], sRet (eDisp ["cells", "at", "digits", "count", "fold"] [(eBf (.list false) [(eVar 0)]), (eInt 0), (eInt 0), (eInt 0), (eVar 1)])]
def c__law_pen (T : List (Addr × Str))  : Cn := { T := T, N := n__law_pen, nm := (defScope (top 49)).names, bt := ["int", "list"] }
theorem k__law_pen (T : List (Addr × Str))  : chkSs (b__law_pen (c__law_pen T)) (defBody (top 49)) = true := by kernel_rfl
def sp__law_pen  : Sp3 := fun ds G Q E => match ds with
  | [a0] => S__law_pen a0 G Q E
  | _ => False
abbrev W__law_pen (T : List (Addr × Str))  (a0 : D) (G : Gp) (Q : K3) (E : X3) : Prop := seqT ((b__law_pen (c__law_pen T)).map (·.t)) { nx := fun _ G' => Q .non G', rt := Q, xe := E } [some a0, none, none] G
theorem p__law_pen {x : D} {G : Gp} {Q : K3} {E : X3} (h : S__law_pen x G Q E) : W__law_pen T x G Q E := by
  obtain ⟨l, S, hS, rfl, hi, hl, hq, hk, q⟩ := h
  unfold W__law_pen b__law_pen
  refine seq_mid rfl (fun τ1 G1 => τ1 = [some x, some (.int 0), none] ∧ G1 = G) (fun N hN => ?_) ?_
  · walk_at "den"
    exact hN _ _ ⟨rfl, rfl⟩
  rintro τ1 G1 ⟨rfl, rfl⟩
  refine seq_mid rfl (fun τ1 G2 => ∃ (f : Int) (e : Option D), τ1 = [some x, some (.int f), e] ∧ G2 = G1) (fun N hN => ?_) ?_
  · simp only [sFor, forT]
    walk_at "den"
    simp only [itL, varE, List.getElem?_cons_zero, Option.some.injEq, exists_eq_left']
    rw [hS]
    refine ⟨hk, ?_⟩
    refine for_by (fun rest τ G2 => (∃ s, S.items = s ++ rest) ∧ (∃ (f : Int) (e : Option D), τ = [some x, some (.int f), e]) ∧ G2 = G1) (fun _ _ _ h => by rw [h.2.2]; exact hk) ?_ ?_ _ ⟨⟨[], rfl⟩, ⟨0, none, rfl⟩, rfl⟩
    · rintro d r τ G2 N2 ⟨⟨s, hs⟩, ⟨f, e, rfl⟩, rfl⟩ hN2
      obtain ⟨i, rfl⟩ := hi d (by rw [hs]; simp)
      refine ⟨_, rfl, z_mulI (mulR (by decide)) ⟨_, rfl, z_addI (z_int (z_mod (by decide) ?_))⟩⟩
      exact hN2 _ _ ⟨⟨s ++ [.int i], by rw [hs]; simp⟩, ⟨_, _, rfl⟩, rfl⟩
    · rintro τ G2 ⟨_, ⟨f, e, rfl⟩, rfl⟩
      exact hN _ _ ⟨f, e, rfl, rfl⟩
  rintro τ1 G2 ⟨f, e, rfl, rfl⟩
  walk_at "den"
  intro p hp
  have ne : ∀ o, seqOf (updG G2 p o) x = some S.items := by
    intro o
    unfold srcL at hS
    cases x <;> first | (cases hS; done) | skip
    · rename_i a
      have hpa : a ≠ p := by
        rintro rfl
        have hS : (match G2 a with
          | some (.lst l) => some ⟨l, fun G' => G' a = some (.lst l)⟩
          | some (.scr l) => some ⟨l, fun G' => G' a = some (.scr l)⟩
          | _ => none) = some S := hS
        rw [hp] at hS
        cases hS
      show (match updG G2 p o a with
        | some (.lst l) => some l
        | some (.scr l) => some l
        | _ => none) = _
      rw [updG_ne hpa]
      exact hq
    · exact hq
  show match seqOf (updG G2 p (.dct [])) x with
    | some l => mkL false l _ _
    | none => False
  rw [ne]
  refine z_mkF ⟨updG_same, by decide, ?_⟩
  rw [updG_updG]
  exact q p _ hp ⟨S.items, 0, 0, 0, f, rfl, hi, hl⟩
theorem ok__law_pen  (F : FunD K "_law_pen" "_law_pen" (defArgs (top 49)) (defBody (top 49)) (defScope (top 49)) [] [] f fd) (g : GOk (c__law_pen T) k P w K mg base) : FnAt P w K mg base T (k + 2) f (sp__law_pen) := by
  refine fnAt3 F (F.bindsN fun _ _ _ _ _ _ us hl => match us, hl with | [_], _ => rfl) (ps := ["script"]) (C8.fnScope_by (by kernel_rfl)) rfl g (b__law_pen _) (k__law_pen T) (fun ds G Q E h => ?_) (fun ds G Q E h => ?_)
  · rcases ds with _ | ⟨a0, _ | r⟩ <;> first | rfl | exact False.elim h
  · rcases ds with _ | ⟨a0, _ | r⟩ <;> first | exact False.elim h | exact p__law_pen h
def S__law_pick (x m : D) (G : Gp) (Q : K3) (E : X3) : Prop := ∃ p l o, x = .obj p ∧ m = .lst l ∧ l ≠ [] ∧ l.length ≤ 1000 ∧ G p = some o ∧ PenO o ∧ ∀ d o, d ∈ l → PenO o → Q d (updG G p o)
abbrev s__law_pick : Stmt := (top 51)
def n__law_pick : List Str := ["pen", "some"]
def b__law_pick (c : Cn) : List (CS c) := [sRet (eIx (eVar 1) (eCall 0 [(eVar 0), (eBf .len [(eVar 1)])]))]
def c__law_pick (T : List (Addr × Str))  : Cn := { T := T, N := n__law_pick, nm := (defScope (top 51)).names, fn := [("_law_draw", sp__law_draw)], bt := ["len"] }
theorem k__law_pick (T : List (Addr × Str))  : chkSs (b__law_pick (c__law_pick T)) (defBody (top 51)) = true := by kernel_rfl
def sp__law_pick  : Sp3 := fun ds G Q E => match ds with
  | [a0, a1] => S__law_pick a0 a1 G Q E
  | _ => False
abbrev W__law_pick (T : List (Addr × Str))  (a0 a1 : D) (G : Gp) (Q : K3) (E : X3) : Prop := seqT ((b__law_pick (c__law_pick T)).map (·.t)) { nx := fun _ G' => Q .non G', rt := Q, xe := E } [some a0, some a1] G
theorem p__law_pick {x m : D} {G : Gp} {Q : K3} {E : X3} (h : S__law_pick x m G Q E) : W__law_pick T x m G Q E := by
  obtain ⟨p, l, o, rfl, rfl, hne, hl, hp, ho, q⟩ := h
  unfold W__law_pick b__law_pick
  walk_at "den"
  simp only [c__law_pick, List.getElem?_cons_zero]
  have := List.length_pos_iff.mpr hne
  refine z_len_lst rfl ⟨p, _, o, rfl, rfl, by omega, by omega, hp, ho, fun r o2 h0 h1 ho2 => ?_⟩
  obtain ⟨n, rfl⟩ : ∃ n : Nat, r = n := ⟨r.toNat, by omega⟩
  have hn : n < l.length := by omega
  exact z_ix_lst rfl (List.getElem?_eq_getElem hn) (q _ _ (List.getElem_mem hn) ho2)
theorem ok__law_pick  (F : FunD K "_law_pick" "_law_pick" (defArgs (top 51)) (defBody (top 51)) (defScope (top 51)) [] [] f fd) (g : GOk (c__law_pick T) k P w K mg base) : FnAt P w K mg base T (k + 2) f (sp__law_pick) := by
  refine fnAt3 F (F.bindsN fun _ _ _ _ _ _ us hl => match us, hl with | [_, _], _ => rfl) (ps := ["pen", "some"]) (C8.fnScope_by (by kernel_rfl)) rfl g (b__law_pick _) (k__law_pick T) (fun ds G Q E h => ?_) (fun ds G Q E h => ?_)
  · rcases ds with _ | ⟨a0, _ | ⟨a1, _ | r⟩⟩ <;> first | rfl | exact False.elim h
  · rcases ds with _ | ⟨a0, _ | ⟨a1, _ | r⟩⟩ <;> first | exact False.elim h | exact p__law_pick h
def S__law_divisor (x y : D) (G : Gp) (Q : K3) (E : X3) : Prop := ∃ a b : Int, x = .int a ∧ y = .int b ∧ Q (.int (Nat.gcd a.natAbs b.natAbs : Nat)) G
abbrev s__law_divisor : Stmt := (top 53)
def n__law_divisor : List Str := ["one", "other"]
def b__law_divisor (c : Cn) : List (CS c) := [sPar 0 1 (eBf .abs [(eVar 0)]) (eBf .abs [(eVar 1)]), sWhile (tCmp3 .NotEq (eVar 1) (eInt 0)) [sPar 0 1 (eVar 1) (eBin .Mod (eBf .int [(eVar 0)]) (eVar 1))], sRet (eVar 0)]
def c__law_divisor (T : List (Addr × Str))  : Cn := { T := T, N := n__law_divisor, nm := (defScope (top 53)).names, bt := ["abs", "int"] }
theorem k__law_divisor (T : List (Addr × Str))  : chkSs (b__law_divisor (c__law_divisor T)) (defBody (top 53)) = true := by kernel_rfl
def sp__law_divisor  : Sp3 := fun ds G Q E => match ds with
  | [a0, a1] => S__law_divisor a0 a1 G Q E
  | _ => False
abbrev W__law_divisor (T : List (Addr × Str))  (a0 a1 : D) (G : Gp) (Q : K3) (E : X3) : Prop := seqT ((b__law_divisor (c__law_divisor T)).map (·.t)) { nx := fun _ G' => Q .non G', rt := Q, xe := E } [some a0, some a1] G
theorem p__law_divisor {x y : D} {G : Gp} {Q : K3} {E : X3} (h : S__law_divisor x y G Q E) : W__law_divisor T x y G Q E := by
  obtain ⟨a, b, rfl, rfl, q⟩ := h
  unfold W__law_divisor b__law_divisor
  refine seq_mid rfl (fun τ1 G1 => τ1 = [some (.int (a.natAbs : Nat)), some (.int (b.natAbs : Nat))] ∧ G1 = G) (fun N hN => ?_) ?_
  · walk_at "den"
    exact z_abs (z_abs (hN _ _ ⟨rfl, rfl⟩))
  rintro τ1 G1 ⟨rfl, rfl⟩
  refine seq_mid rfl (fun τ1 G2 => (∃ e, τ1 = [some (.int (Nat.gcd a.natAbs b.natAbs : Nat)), e]) ∧ G2 = G1) (fun N hN => ?_) ?_
  · simp only [sWhile]
    refine while_by (fun m τ G2 => G2 = G1 ∧ ∃ n : Nat, τ = [some (.int n), some (.int (m : Nat))] ∧ Nat.gcd n m = Nat.gcd a.natAbs b.natAbs) b.natAbs ?_ ⟨rfl, _, rfl, rfl⟩
    rintro m τ G2 N2 ⟨rfl, n, rfl, hg⟩ hN2
    walk_at "den"
    refine z_neI ⟨_, rfl, ite_b (fun c => ?_) fun c => ?_⟩
    · have hm : m ≠ 0 := by rintro rfl; exact absurd c (by decide)
      refine z_int (z_mod (by omega) ?_)
      have e : ((n : Nat) : Int).fmod (m : Nat) = ((n % m : Nat) : Int) := by
        rw [Int.fmod_eq_emod_of_nonneg _ (by omega)]
        rfl
      rw [e]
      refine hN2 (n % m) _ _ (Nat.mod_lt _ (by omega)) ⟨rfl, m, rfl, ?_⟩
      rw [← hg, Nat.gcd_comm n m, Nat.gcd_rec m n, Nat.gcd_comm]
    · have hm : m = 0 := by
        have := c
        simp at this
        exact this
      subst hm
      rw [Nat.gcd_zero_right] at hg
      subst hg
      exact hN _ _ ⟨⟨_, rfl⟩, rfl⟩
  rintro τ1 G2 ⟨⟨e, rfl⟩, rfl⟩
  walk_at "den"
  exact q
theorem ok__law_divisor  (F : FunD K "_law_divisor" "_law_divisor" (defArgs (top 53)) (defBody (top 53)) (defScope (top 53)) [] [] f fd) (g : GOk (c__law_divisor T) k P w K mg base) : FnAt P w K mg base T (k + 2) f (sp__law_divisor) := by
  refine fnAt3 F (F.bindsN fun _ _ _ _ _ _ us hl => match us, hl with | [_, _], _ => rfl) (ps := ["one", "other"]) (C8.fnScope_by (by kernel_rfl)) rfl g (b__law_divisor _) (k__law_divisor T) (fun ds G Q E h => ?_) (fun ds G Q E h => ?_)
  · rcases ds with _ | ⟨a0, _ | ⟨a1, _ | r⟩⟩ <;> first | rfl | exact False.elim h
  · rcases ds with _ | ⟨a0, _ | ⟨a1, _ | r⟩⟩ <;> first | exact False.elim h | exact p__law_divisor h
end W75
set_option Elab.async false
set_option linter.all false
set_option maxRecDepth 100000
set_option maxHeartbeats 1000000
namespace W75
open PySem PySem.Spec PyProof.Rows L2 LamX L3 Hd
local macro_rules | `(tactic| walk_at "den") => `(tactic| simp only [List.map, sRet, sSet, sSetLc, sAsg, sPar, sPar3, sExpr, sPass, sBreak, sCont, sIf, sWhile, sFor, sAug, sFld3, sFldAug3, sSub, sRaise,
  seqT, retT, setT, asgT, parT, dropT, ifT, augT, fldT, fldAugT, subT, rzT, eAnds, eOrs, eNot, eBf, eVar, eTy, eInt, eStr, eBl, eNon, eGlob, eBin, eNeg, eCmp, eChain, eIf, eTup, eLst, eFrz, eIx, eSl, eFld, eCall, eCall0, eBm, eOm, eLc, eMake, eDisp, eGcd, iSeq, iLst, iTupl, iTxt, L3.iRng1, L3.iRng2, iEnm, iEnmT, iRngDn, eDict0, L3.ifsT,
  tCmp3, tChain3, tTru, tNot3, tAnds, tOrs, testT, truT, notT, andT, orT, andE, orE, notE, ifE, cE', argT, varE, cE, opE, unE, chainE, tupE, lstE, slE, optE, spE, mtE, omE, makeE, dispE, Bf.r, Bm.r, Bm.ty, Tg.t, setAll, Option.map,
  List.getElem?_cons_zero, List.getElem?_cons_succ, List.set_cons_zero, List.set_cons_succ, Option.some.injEq, exists_eq_left', List.length_cons, List.length_nil, Nat.reduceAdd, true_and, binD, cmpD, augD, fnSp, mtC, mkC, rzC, gvD])
variable {P : Program} {w : World} {K : PySem.W.Frag} {mg : Str → Option Value} {base : Heap} {T : List (Addr × Str)} {k : Nat} {f : Addr} {fd : FuncData}
def S__law_pair (cs : List Addr) (d : D) (G : Gp) (Q : K3) (E : X3) : Prop := ratB d = true ∧ Q (.tup [.int (ratP d).1, .int (ratP d).2]) G
abbrev s__law_pair : Stmt := (top 55)
def n__law_pair : List Str := ["number"]
def b__law_pair (c : Cn) : List (CS c) := [sRet (eIf (tTru (eBf .isi [(eVar 0), (eTy "int")])) (eTup [(eVar 0), (eInt 1)]) (eVar 0))]
def c__law_pair (T : List (Addr × Str)) (cs : List Addr) : Cn := { T := T, N := n__law_pair, nm := (defScope (top 55)).names, bt := ["isinstance", "int"], cs := cs }
theorem k__law_pair (T : List (Addr × Str)) (cs : List Addr) : chkSs (b__law_pair (c__law_pair T cs)) (defBody (top 55)) = true := by kernel_rfl
def sp__law_pair (cs : List Addr) : Sp3 := fun ds G Q E => match ds with
  | [a0] => S__law_pair cs a0 G Q E
  | _ => False
abbrev W__law_pair (T : List (Addr × Str)) (cs : List Addr) (a0 : D) (G : Gp) (Q : K3) (E : X3) : Prop := seqT ((b__law_pair (c__law_pair T cs)).map (·.t)) { nx := fun _ G' => Q .non G', rt := Q, xe := E } [some a0] G
theorem p__law_pair {cs : List Addr} {d : D} {G : Gp} {Q : K3} {E : X3} (h : S__law_pair cs d G Q E) : W__law_pair T cs d G Q E := by
  obtain ⟨h1, q⟩ := h
  unfold W__law_pair b__law_pair
  walk_at "den"
  rcases rat_cases h1 with ⟨i, rfl⟩ | ⟨a, b, rfl, _, _⟩
  · exact isi1 (kn_of rfl) ⟨_, tru_bl, ⟨two_line, q⟩⟩
  · exact isi1 (kn_of rfl) ⟨_, tru_bl, q⟩
theorem ok__law_pair (cs : List Addr) (F : FunD K "_law_pair" "_law_pair" (defArgs (top 55)) (defBody (top 55)) (defScope (top 55)) [] [] f fd) (g : GOk (c__law_pair T cs) k P w K mg base) : FnAt P w K mg base T (k + 2) f (sp__law_pair cs) := by
  refine fnAt3 F (F.bindsN fun _ _ _ _ _ _ us hl => match us, hl with | [_], _ => rfl) (ps := ["number"]) (C8.fnScope_by (by kernel_rfl)) rfl g (b__law_pair _) (k__law_pair T cs) (fun ds G Q E h => ?_) (fun ds G Q E h => ?_)
  · rcases ds with _ | ⟨a0, _ | r⟩ <;> first | rfl | exact False.elim h
  · rcases ds with _ | ⟨a0, _ | r⟩ <;> first | exact False.elim h | exact p__law_pair h
/-- top over bottom, in lowest terms -/
def lowD (a b : Int) : D := let g : Int := (Nat.gcd a.natAbs b.natAbs : Nat)
  if b = g then .int (a / g) else .tup [.int (a / g), .int (b / g)]
theorem gcd_pos {a b : Int} (h : 0 < b) : 0 < (Nat.gcd a.natAbs b.natAbs) := Nat.gcd_pos_of_pos_right _ (by omega)
theorem lowD_rat {a b : Int} (h : 0 < b) : ratB (lowD a b) = true := by
  unfold lowD
  dsimp only
  split
  · rfl
  · rename_i hne
    have hg := gcd_pos (a := a) h
    have hdb : ((Nat.gcd a.natAbs b.natAbs : Nat) : Int) ∣ b := Int.ofNat_dvd_left.mpr (Nat.gcd_dvd_right _ _)
    have hda : ((Nat.gcd a.natAbs b.natAbs : Nat) : Int) ∣ a := Int.ofNat_dvd_left.mpr (Nat.gcd_dvd_left _ _)
    obtain ⟨c, hc⟩ := hdb
    obtain ⟨e, he⟩ := hda
    have hg0 : ((Nat.gcd a.natAbs b.natAbs : Nat) : Int) ≠ 0 := by omega
    have e1 : b / ((Nat.gcd a.natAbs b.natAbs : Nat) : Int) = c := by
      conv => lhs; arg 1; rw [hc]
      exact Int.mul_ediv_cancel_left _ hg0
    have e2 : a / ((Nat.gcd a.natAbs b.natAbs : Nat) : Int) = e := by
      conv => lhs; arg 1; rw [he]
      exact Int.mul_ediv_cancel_left _ hg0
    rw [e1, e2]
    unfold ratB
    simp only [Bool.and_eq_true, decide_eq_true_eq]
    generalize hgg : Nat.gcd a.natAbs b.natAbs = g at *
    have cpos : 0 < c := by
      rcases Int.lt_trichotomy c 0 with z | z | z
      · have : (g : Int) * c < 0 := Int.mul_neg_of_pos_of_neg (by omega) z
        omega
      · rw [z] at hc; omega
      · exact z
    refine ⟨?_, ?_⟩
    · have : c ≠ 1 := by rintro rfl; rw [Int.mul_one] at hc; exact hne hc
      omega
    · have h1 : a.natAbs = g * e.natAbs := by
        have := congrArg Int.natAbs he
        rw [Int.natAbs_mul] at this
        simpa using this
      have h2 : b.natAbs = g * c.natAbs := by
        have := congrArg Int.natAbs hc
        rw [Int.natAbs_mul] at this
        simpa using this
      rw [h1, h2, Nat.gcd_mul_left] at hgg
      exact Nat.eq_of_mul_eq_mul_left hg (by rw [hgg, Nat.mul_one])
def S__law_low (x y : D) (G : Gp) (Q : K3) (E : X3) : Prop := ∃ a b : Int, x = .int a ∧ y = .int b ∧ 0 < b ∧ b.natAbs < BIG ∧ Q (lowD a b) G
abbrev s__law_low : Stmt := (top 54)
def n__law_low : List Str := ["top", "bottom", "by"]
def b__law_low (c : Cn) : List (CS c) := [sSet 2 (eCall 0 [(eVar 0), (eVar 1)]), sIf (tCmp3 .Lt (eVar 1) (eInt 0)) [sSet 2 (eNeg (eVar 2))] [], sRet (eIf (tCmp3 .Eq (eVar 1) (eVar 2)) (eBin .FloorDiv (eVar 0) (eVar 2)) (eTup [(eBin .FloorDiv (eVar 0) (eVar 2)), (eBin .FloorDiv (eVar 1) (eVar 2))]))]
def c__law_low (T : List (Addr × Str))  : Cn := { T := T, N := n__law_low, nm := (defScope (top 54)).names, fn := [("_law_divisor", sp__law_divisor)] }
theorem k__law_low (T : List (Addr × Str))  : chkSs (b__law_low (c__law_low T)) (defBody (top 54)) = true := by kernel_rfl
def sp__law_low  : Sp3 := fun ds G Q E => match ds with
  | [a0, a1] => S__law_low a0 a1 G Q E
  | _ => False
abbrev W__law_low (T : List (Addr × Str))  (a0 a1 : D) (G : Gp) (Q : K3) (E : X3) : Prop := seqT ((b__law_low (c__law_low T)).map (·.t)) { nx := fun _ G' => Q .non G', rt := Q, xe := E } [some a0, some a1, none] G
theorem p__law_low {x y : D} {G : Gp} {Q : K3} {E : X3} (h : S__law_low x y G Q E) : W__law_low T x y G Q E := by
  obtain ⟨a, b, rfl, rfl, hb, hB, q⟩ := h
  have hg := gcd_pos (a := a) hb
  have hle : Nat.gcd a.natAbs b.natAbs ≤ b.natAbs := Nat.gcd_le_right _ (by omega)
  unfold lowD at q
  dsimp only at q
  unfold W__law_low b__law_low
  walk_at "den"
  simp only [c__law_low, List.getElem?_cons_zero]
  have fe : ∀ z : Int, z.fdiv ((Nat.gcd a.natAbs b.natAbs : Nat) : Int) = z / ((Nat.gcd a.natAbs b.natAbs : Nat) : Int) := fun z => Int.fdiv_eq_ediv_of_nonneg _ (by omega)
  have dok : ∀ z : Int, DivOk z ((Nat.gcd a.natAbs b.natAbs : Nat) : Int) := fun z => .inr ⟨by omega, by
    rw [Int.natAbs_natCast]
    have := big_log (Nat.lt_of_le_of_lt hle hB)
    omega⟩
  refine ⟨a, b, rfl, rfl, z_ord ⟨_, rfl, ite_f (decide_eq_false (by omega)) ?_⟩⟩
  refine z_eqI ⟨_, rfl, ite_b (fun c => ?_) fun c => ?_⟩
  · rw [if_pos (of_decide_eq_true c)] at q
    refine z_fdiv (dok _) ?_
    rw [fe]
    exact q
  · rw [if_neg (of_decide_eq_false c)] at q
    refine z_fdiv (dok _) (z_fdiv (dok _) ⟨two_line, ?_⟩)
    rw [fe, fe]
    exact q
theorem ok__law_low  (F : FunD K "_law_low" "_law_low" (defArgs (top 54)) (defBody (top 54)) (defScope (top 54)) [] [] f fd) (g : GOk (c__law_low T) k P w K mg base) : FnAt P w K mg base T (k + 2) f (sp__law_low) := by
  refine fnAt3 F (F.bindsN fun _ _ _ _ _ _ us hl => match us, hl with | [_, _], _ => rfl) (ps := ["top", "bottom"]) (C8.fnScope_by (by kernel_rfl)) rfl g (b__law_low _) (k__law_low T) (fun ds G Q E h => ?_) (fun ds G Q E h => ?_)
  · rcases ds with _ | ⟨a0, _ | ⟨a1, _ | r⟩⟩ <;> first | rfl | exact False.elim h
  · rcases ds with _ | ⟨a0, _ | ⟨a1, _ | r⟩⟩ <;> first | exact False.elim h | exact p__law_low h
def timesD (x y : D) : D := lowD ((ratP x).1 * (ratP y).1) ((ratP x).2 * (ratP y).2)
def S__law_times (cs : List Addr) (x y : D) (G : Gp) (Q : K3) (E : X3) : Prop := ratB x = true ∧ ratB y = true ∧ MulOk (ratP x).1 (ratP y).1 ∧ MulOk (ratP x).2 (ratP y).2 ∧ ((ratP x).2 * (ratP y).2).natAbs < BIG ∧ Q (timesD x y) G
abbrev s__law_times : Stmt := (top 56)
def n__law_times : List Str := ["one", "other", "first", "second"]
def b__law_times (c : Cn) : List (CS c) := [sPar 2 3 (eCall 0 [(eVar 0)]) (eCall 0 [(eVar 1)]), sRet (eCall 1 [(eBin .Mult (eIx (eVar 2) (eInt 0)) (eIx (eVar 3) (eInt 0))), (eBin .Mult (eIx (eVar 2) (eInt 1)) (eIx (eVar 3) (eInt 1)))])]
def c__law_times (T : List (Addr × Str)) (cs : List Addr) : Cn := { T := T, N := n__law_times, nm := (defScope (top 56)).names, fn := [("_law_pair", sp__law_pair cs), ("_law_low", sp__law_low)] }
theorem k__law_times (T : List (Addr × Str)) (cs : List Addr) : chkSs (b__law_times (c__law_times T cs)) (defBody (top 56)) = true := by kernel_rfl
def sp__law_times (cs : List Addr) : Sp3 := fun ds G Q E => match ds with
  | [a0, a1] => S__law_times cs a0 a1 G Q E
  | _ => False
abbrev W__law_times (T : List (Addr × Str)) (cs : List Addr) (a0 a1 : D) (G : Gp) (Q : K3) (E : X3) : Prop := seqT ((b__law_times (c__law_times T cs)).map (·.t)) { nx := fun _ G' => Q .non G', rt := Q, xe := E } [some a0, some a1, none, none] G
theorem p__law_times {cs : List Addr} {x y : D} {G : Gp} {Q : K3} {E : X3} (h : S__law_times cs x y G Q E) : W__law_times T cs x y G Q E := by
  obtain ⟨h1, h2, m1, m2, hb, q⟩ := h
  unfold W__law_times b__law_times
  walk_at "den"
  simp only [c__law_times, List.getElem?_cons_zero, List.getElem?_cons_succ]
  refine ⟨h1, h2, ?_⟩
  refine z_ix_tup (i := 0) rfl (z_ix_tup (i := 0) rfl (z_mulI m1 (z_ix_tup (i := 1) rfl (z_ix_tup (i := 1) rfl (z_mulI m2 ?_)))))
  have p1 := rat_pos h1
  have p2 := rat_pos h2
  exact ⟨_, _, rfl, rfl, Int.mul_pos (by omega) (by omega), hb, q⟩
theorem ok__law_times (cs : List Addr) (F : FunD K "_law_times" "_law_times" (defArgs (top 56)) (defBody (top 56)) (defScope (top 56)) [] [] f fd) (g : GOk (c__law_times T cs) k P w K mg base) : FnAt P w K mg base T (k + 2) f (sp__law_times cs) := by
  refine fnAt3 F (F.bindsN fun _ _ _ _ _ _ us hl => match us, hl with | [_, _], _ => rfl) (ps := ["one", "other"]) (C8.fnScope_by (by kernel_rfl)) rfl g (b__law_times _) (k__law_times T cs) (fun ds G Q E h => ?_) (fun ds G Q E h => ?_)
  · rcases ds with _ | ⟨a0, _ | ⟨a1, _ | r⟩⟩ <;> first | rfl | exact False.elim h
  · rcases ds with _ | ⟨a0, _ | ⟨a1, _ | r⟩⟩ <;> first | exact False.elim h | exact p__law_times h
def S__law_sign (cs : List Addr) (d : D) (G : Gp) (Q : K3) (E : X3) : Prop := ratB d = true ∧ Q (.int (sgn (ratP d).1)) G
abbrev s__law_sign : Stmt := (top 57)
def n__law_sign : List Str := ["number", "top"]
def b__law_sign (c : Cn) : List (CS c) := [sSet 1 (eIx (eCall 0 [(eVar 0)]) (eInt 0)), sRet (eBin .Sub (eBf .int [(eCmp .Gt (eVar 1) (eInt 0))]) (eBf .int [(eCmp .Lt (eVar 1) (eInt 0))]))]
def c__law_sign (T : List (Addr × Str)) (cs : List Addr) : Cn := { T := T, N := n__law_sign, nm := (defScope (top 57)).names, fn := [("_law_pair", sp__law_pair cs)], bt := ["int"] }
theorem k__law_sign (T : List (Addr × Str)) (cs : List Addr) : chkSs (b__law_sign (c__law_sign T cs)) (defBody (top 57)) = true := by kernel_rfl
def sp__law_sign (cs : List Addr) : Sp3 := fun ds G Q E => match ds with
  | [a0] => S__law_sign cs a0 G Q E
  | _ => False
abbrev W__law_sign (T : List (Addr × Str)) (cs : List Addr) (a0 : D) (G : Gp) (Q : K3) (E : X3) : Prop := seqT ((b__law_sign (c__law_sign T cs)).map (·.t)) { nx := fun _ G' => Q .non G', rt := Q, xe := E } [some a0, none] G
theorem z_intB {b : Bool} {G : Gp} {Q : K3} (q : Q (.int (if b then 1 else 0)) G) : L3.intD [.bl b] G Q := q
theorem p__law_sign {cs : List Addr} {d : D} {G : Gp} {Q : K3} {E : X3} (h : S__law_sign cs d G Q E) : W__law_sign T cs d G Q E := by
  obtain ⟨h1, q⟩ := h
  unfold W__law_sign b__law_sign
  walk_at "den"
  simp only [c__law_sign, List.getElem?_cons_zero]
  refine ⟨h1, z_ix_tup (i := 0) rfl ?_⟩
  refine z_ord (z_intB (z_ord (z_intB (z_subI ?_))))
  have e : ((if decide (0 < (ratP d).1) = true then 1 else 0 : Int) - (if decide ((ratP d).1 < 0) = true then 1 else 0)) = sgn (ratP d).1 := by
    unfold sgn
    by_cases a : 0 < (ratP d).1
    · rw [if_pos (decide_eq_true a), if_neg (by simp; omega), if_pos a]; rfl
    · rw [if_neg (by simpa using a), if_neg a]
      by_cases b : (ratP d).1 < 0
      · rw [if_pos (decide_eq_true b), if_pos b]; rfl
      · rw [if_neg (by simpa using b), if_neg b]; rfl
  rw [← e] at q
  exact q
theorem ok__law_sign (cs : List Addr) (F : FunD K "_law_sign" "_law_sign" (defArgs (top 57)) (defBody (top 57)) (defScope (top 57)) [] [] f fd) (g : GOk (c__law_sign T cs) k P w K mg base) : FnAt P w K mg base T (k + 2) f (sp__law_sign cs) := by
  refine fnAt3 F (F.bindsN fun _ _ _ _ _ _ us hl => match us, hl with | [_], _ => rfl) (ps := ["number"]) (C8.fnScope_by (by kernel_rfl)) rfl g (b__law_sign _) (k__law_sign T cs) (fun ds G Q E h => ?_) (fun ds G Q E h => ?_)
  · rcases ds with _ | ⟨a0, _ | r⟩ <;> first | rfl | exact False.elim h
  · rcases ds with _ | ⟨a0, _ | r⟩ <;> first | exact False.elim h | exact p__law_sign h
end W75
set_option Elab.async false
set_option linter.all false
set_option maxRecDepth 100000
set_option maxHeartbeats 1000000
namespace W75
open PySem PySem.Spec PyProof.Rows L2 LamX L3 Hd
local macro_rules | `(tactic| walk_at "den") => `(tactic| simp only [List.map, sRet, sSet, sSetLc, sAsg, sPar, sPar3, sExpr, sPass, sBreak, sCont, sIf, sWhile, sFor, sAug, sFld3, sFldAug3, sSub, sRaise,
  seqT, retT, setT, asgT, parT, dropT, ifT, augT, fldT, fldAugT, subT, rzT, eAnds, eOrs, eNot, eBf, eVar, eTy, eInt, eStr, eBl, eNon, eGlob, eBin, eNeg, eCmp, eChain, eIf, eTup, eLst, eFrz, eIx, eSl, eFld, eCall, eCall0, eBm, eOm, eLc, eMake, eDisp, eGcd, iSeq, iLst, iTupl, iTxt, L3.iRng1, L3.iRng2, iEnm, iEnmT, iRngDn, eDict0, L3.ifsT,
  tCmp3, tChain3, tTru, tNot3, tAnds, tOrs, testT, truT, notT, andT, orT, andE, orE, notE, ifE, cE', argT, varE, cE, opE, unE, chainE, tupE, lstE, slE, optE, spE, mtE, omE, makeE, dispE, Bf.r, Bm.r, Bm.ty, Tg.t, setAll, Option.map,
  List.getElem?_cons_zero, List.getElem?_cons_succ, List.set_cons_zero, List.set_cons_succ, Option.some.injEq, exists_eq_left', List.length_cons, List.length_nil, Nat.reduceAdd, true_and, binD, cmpD, augD, fnSp, mtC, mkC, rzC, gvD])
variable {P : Program} {w : World} {K : PySem.W.Frag} {mg : Str → Option Value} {base : Heap} {T : List (Addr × Str)} {k : Nat} {f : Addr} {fd : FuncData}
def S__law_is_whole (cs : List Addr) (d : D) (G : Gp) (Q : K3) (E : X3) : Prop := ∃ k, kn cs G d = some k ∧ Q (.bl (k == "int")) G
abbrev s__law_is_whole : Stmt := (top 59)
def n__law_is_whole : List Str := ["value"]
def b__law_is_whole (c : Cn) : List (CS c) := [sRet (eAnds [(eBf .isi [(eVar 0), (eTy "int")]), (eNot (eBf .isi [(eVar 0), (eTy "bool")]))])]
def c__law_is_whole (T : List (Addr × Str)) (cs : List Addr) : Cn := { T := T, N := n__law_is_whole, nm := (defScope (top 59)).names, bt := ["isinstance", "int", "bool"], cs := cs }
theorem k__law_is_whole (T : List (Addr × Str)) (cs : List Addr) : chkSs (b__law_is_whole (c__law_is_whole T cs)) (defBody (top 59)) = true := by kernel_rfl
def sp__law_is_whole (cs : List Addr) : Sp3 := fun ds G Q E => match ds with
  | [a0] => S__law_is_whole cs a0 G Q E
  | _ => False
abbrev W__law_is_whole (T : List (Addr × Str)) (cs : List Addr) (a0 : D) (G : Gp) (Q : K3) (E : X3) : Prop := seqT ((b__law_is_whole (c__law_is_whole T cs)).map (·.t)) { nx := fun _ G' => Q .non G', rt := Q, xe := E } [some a0] G
theorem p__law_is_whole {cs : List Addr} {d : D} {G : Gp} {Q : K3} {E : X3} (h : S__law_is_whole cs d G Q E) : W__law_is_whole T cs d G Q E := by
  obtain ⟨k, hk, q⟩ := h
  unfold W__law_is_whole b__law_is_whole
  walk_at "den"
  refine isi1 hk ⟨_, tru_bl, ?_⟩
  have e : isiB k "int" = (k == "int" || k == "bool") := by simp [isiB]
  have e2 : isiB k "bool" = (k == "bool") := by simp [isiB]
  split
  · rename_i h1
    refine isi1 hk ⟨_, tru_bl, ?_⟩
    rw [e] at h1
    rw [e2]
    by_cases hb : k = "bool"
    · subst hb; exact q
    · have : (k == "int") = true := by simpa [hb] using h1
      rw [this] at q
      have : (k == "bool") = false := by simpa using hb
      rw [this]
      exact q
  · rename_i h1
    rw [e] at h1 ⊢
    have h2 : (k == "int") = false := by
      cases hc : (k == "int")
      · rfl
      · rw [hc] at h1; exact absurd rfl h1
    have h3 : (k == "bool") = false := by
      cases hc : (k == "bool")
      · rfl
      · rw [hc, Bool.or_true] at h1; exact absurd rfl h1
    rw [h2] at q ⊢
    rw [h3]
    exact q
theorem ok__law_is_whole (cs : List Addr) (F : FunD K "_law_is_whole" "_law_is_whole" (defArgs (top 59)) (defBody (top 59)) (defScope (top 59)) [] [] f fd) (g : GOk (c__law_is_whole T cs) k P w K mg base) : FnAt P w K mg base T (k + 2) f (sp__law_is_whole cs) := by
  refine fnAt3 F (F.bindsN fun _ _ _ _ _ _ us hl => match us, hl with | [_], _ => rfl) (ps := ["value"]) (C8.fnScope_by (by kernel_rfl)) rfl g (b__law_is_whole _) (k__law_is_whole T cs) (fun ds G Q E h => ?_) (fun ds G Q E h => ?_)
  · rcases ds with _ | ⟨a0, _ | r⟩ <;> first | rfl | exact False.elim h
  · rcases ds with _ | ⟨a0, _ | r⟩ <;> first | exact False.elim h | exact p__law_is_whole h
/-- a number or a tuple of such -/
def NT : Nat → D → Prop := TB
def S__law_is_ratio (cs : List Addr) (d : D) (G : Gp) (Q : K3) (E : X3) : Prop := (∃ n, TB n d) ∧ Q (.bl (ratB d)) G
abbrev s__law_is_ratio : Stmt := (top 58)
def n__law_is_ratio : List Str := ["value"]
def b__law_is_ratio (c : Cn) : List (CS c) := [sIf (tTru (eBf .isi [(eVar 0), (eTy "tuple")])) [sIf (tOrs [(tCmp3 .NotEq (eBf .len [(eVar 0)]) (eInt 2)), (tNot3 (tTru (eCall 0 [(eIx (eVar 0) (eInt 0))]))), (tNot3 (tTru (eCall 0 [(eIx (eVar 0) (eInt 1))])))]) [sRet (eBl false)] [], sRet (eAnds [(eCmp .Gt (eIx (eVar 0) (eInt 1)) (eInt 1)), (eCmp .Eq (eCall 1 [(eIx (eVar 0) (eInt 0)), (eIx (eVar 0) (eInt 1))]) (eInt 1))])] [], sRet (eCall 0 [(eVar 0)])]
def c__law_is_ratio (T : List (Addr × Str)) (cs : List Addr) : Cn := { T := T, N := n__law_is_ratio, nm := (defScope (top 58)).names, fn := [("_law_is_whole", sp__law_is_whole cs), ("_law_divisor", sp__law_divisor)], bt := ["isinstance", "tuple", "len"], cs := cs }
theorem k__law_is_ratio (T : List (Addr × Str)) (cs : List Addr) : chkSs (b__law_is_ratio (c__law_is_ratio T cs)) (defBody (top 58)) = true := by kernel_rfl
def sp__law_is_ratio (cs : List Addr) : Sp3 := fun ds G Q E => match ds with
  | [a0] => S__law_is_ratio cs a0 G Q E
  | _ => False
abbrev W__law_is_ratio (T : List (Addr × Str)) (cs : List Addr) (a0 : D) (G : Gp) (Q : K3) (E : X3) : Prop := seqT ((b__law_is_ratio (c__law_is_ratio T cs)).map (·.t)) { nx := fun _ G' => Q .non G', rt := Q, xe := E } [some a0] G
theorem p__law_is_ratio {cs : List Addr} {d : D} {G : Gp} {Q : K3} {E : X3} (h : S__law_is_ratio cs d G Q E) : W__law_is_ratio T cs d G Q E := by
  obtain ⟨⟨n, hd⟩, q⟩ := h
  unfold W__law_is_ratio b__law_is_ratio
  walk_at "den"
  simp only [c__law_is_ratio, List.getElem?_cons_zero, List.getElem?_cons_succ]
  rcases knP_TB hd with ⟨i, rfl⟩ | ⟨m, l, rfl, rfl, hl, hle⟩
  · exact isi1 (kn_of rfl) ⟨_, tru_bl, ite_f (by decide) ⟨_, kn_of rfl, q⟩⟩
  · refine isi1 (kn_of rfl) ⟨_, tru_bl, ite_t (by decide) ?_⟩
    have no : ratB (.tup l) = false → Q (.bl false) G := fun e => by rw [e] at q; exact q
    match l, hle with
    | [], _ => exact ⟨_, rfl, by rw [if_pos (by simp), if_pos trivial]; exact no rfl⟩
    | [a], hle =>
      refine ⟨_, rfl, ?_⟩
      rw [if_pos (by simp), if_pos trivial]
      exact no (by cases a <;> rfl)
    | a :: b :: c :: r, _ =>
      refine ⟨_, rfl, ?_⟩
      have hl' : (!decide (((r.length + 1 + 1 + 1 : Nat) : Int) = 2)) = true := by rw [decide_eq_false (by omega)]; rfl
      refine (if_pos ?_).mpr ?_
      · exact hl'
      · rw [if_pos trivial]
        exact no (by cases a <;> first | rfl | (cases b <;> rfl))
    | [a, b], hle =>
      refine ⟨_, rfl, ?_⟩
      rw [if_neg (by simp)]
      rcases knP_TB (hle a (by simp)) with ⟨i, rfl⟩ | ⟨_, la, _, rfl, _⟩
      · refine ⟨_, kn_of rfl, _, tru_bl, ?_⟩
        rw [if_neg (by decide)]
        rcases knP_TB (hle b (by simp)) with ⟨j, rfl⟩ | ⟨_, lb, _, rfl, _⟩
        · refine ⟨_, kn_of rfl, _, tru_bl, ?_⟩
          rw [if_neg (by decide)]
          refine ⟨_, tru_bl, ?_⟩
          have er : ratB (.tup [.int i, .int j]) = (decide (1 < j) && decide ((Nat.gcd i.natAbs j.natAbs : Nat) = 1)) := rfl
          rw [er] at q
          show if decide (1 < j) = true then _ else Q (.bl (decide (1 < j))) G
          split
          · rename_i h1
            rw [h1, Bool.true_and] at q
            have ec : decide (((Nat.gcd i.natAbs j.natAbs : Nat) : Int) = 1) = decide ((Nat.gcd i.natAbs j.natAbs : Nat) = 1) := by
              congr 1
              exact propext ⟨fun h => by omega, fun h => by omega⟩
            refine ⟨i, j, rfl, rfl, ?_⟩
            show Q (.bl (decide (((Nat.gcd i.natAbs j.natAbs : Nat) : Int) = 1))) G
            rw [ec]
            exact q
          · rename_i h1
            have h1' : decide (1 < j) = false := Bool.eq_false_iff.mpr h1
            rw [h1'] at q ⊢
            exact q
        · refine ⟨_, kn_of rfl, _, tru_bl, ?_⟩
          rw [if_pos (by decide)]
          exact no rfl
      · refine ⟨_, kn_of rfl, _, tru_bl, ?_⟩
        rw [if_pos (by decide), if_pos trivial]
        exact no rfl
theorem ok__law_is_ratio (cs : List Addr) (F : FunD K "_law_is_ratio" "_law_is_ratio" (defArgs (top 58)) (defBody (top 58)) (defScope (top 58)) [] [] f fd) (g : GOk (c__law_is_ratio T cs) k P w K mg base) : FnAt P w K mg base T (k + 2) f (sp__law_is_ratio cs) := by
  refine fnAt3 F (F.bindsN fun _ _ _ _ _ _ us hl => match us, hl with | [_], _ => rfl) (ps := ["value"]) (C8.fnScope_by (by kernel_rfl)) rfl g (b__law_is_ratio _) (k__law_is_ratio T cs) (fun ds G Q E h => ?_) (fun ds G Q E h => ?_)
  · rcases ds with _ | ⟨a0, _ | r⟩ <;> first | rfl | exact False.elim h
  · rcases ds with _ | ⟨a0, _ | r⟩ <;> first | exact False.elim h | exact p__law_is_ratio h
def S__law_wide (x m : D) (G : Gp) (Q : K3) (E : X3) : Prop := ∃ (p : Addr) (n : Nat) (o : GO), x = .obj p ∧ m = .int n ∧ n ≤ 45 ∧ G p = some o ∧ PenO o ∧ ∀ r o, 0 ≤ r → r < (10 : Int) ^ n → PenO o → Q (.int r) (updG G p o)
abbrev s__law_wide : Stmt := (top 61)
def n__law_wide : List Str := ["pen", "figures", "found", "top", "lap"]
def b__law_wide (c : Cn) : List (CS c) := [sAsg (.tup [2, 3]) (eTup [(eInt 0), (eInt 1)]), sFor (.nm 4) (L3.iRng1 (eBin .FloorDiv (eBin .Add (eVar 1) (eInt 5)) (eInt 6))) [sSet 2 (eBin .Add (eBin .Mult (eVar 2) (eBin .Pow (eInt 10) (eInt 6))) (eCall 0 [(eVar 0), (eBin .Pow (eInt 10) (eInt 6))]))], sFor (.nm 4) (L3.iRng1 (eVar 1)) [sSet 3 (eBin .Mult (eVar 3) (eInt 10))], sRet (eBin .Mod (eBf .int [(eVar 2)]) (eVar 3))]
def c__law_wide (T : List (Addr × Str))  : Cn := { T := T, N := n__law_wide, nm := (defScope (top 61)).names, fn := [("_law_draw", sp__law_draw)], bt := ["range", "int"] }
theorem k__law_wide (T : List (Addr × Str))  : chkSs (b__law_wide (c__law_wide T)) (defBody (top 61)) = true := by kernel_rfl
def sp__law_wide  : Sp3 := fun ds G Q E => match ds with
  | [a0, a1] => S__law_wide a0 a1 G Q E
  | _ => False
abbrev W__law_wide (T : List (Addr × Str))  (a0 a1 : D) (G : Gp) (Q : K3) (E : X3) : Prop := seqT ((b__law_wide (c__law_wide T)).map (·.t)) { nx := fun _ G' => Q .non G', rt := Q, xe := E } [some a0, some a1, none, none, none] G
theorem pw6 : PowOk 10 6 := ⟨by decide, by decide, by decide +kernel⟩
theorem p__law_wide {x m : D} {G : Gp} {Q : K3} {E : X3} (h : S__law_wide x m G Q E) : W__law_wide T x m G Q E := by
  obtain ⟨p, n, o, rfl, rfl, hn, hp, ho, q⟩ := h
  unfold W__law_wide b__law_wide
  refine seq_mid rfl (fun τ1 G1 => τ1 = [some (.obj p), some (.int n), some (.int 0), some (.int 1), none] ∧ G1 = G) (fun N hN => ?_) ?_
  · walk_at "den"
    exact ⟨two_line, hN _ _ ⟨rfl, rfl⟩⟩
  rintro τ1 G1 ⟨rfl, rfl⟩
  refine seq_mid rfl (fun τ1 G2 => (∃ (f : Int) (e : Option D), τ1 = [some (.obj p), some (.int n), some (.int f), some (.int 1), e]) ∧ ∃ o, PenO o ∧ G2 p = some o ∧ ∀ o, updG G2 p o = updG G1 p o) (fun N hN => ?_) ?_
  · simp only [sFor, forT, L3.iRng1, itR1]
    walk_at "den"
    refine z_addI (z_fdiv (.inl ⟨by decide, by decide⟩) ?_)
    have e : ((n : Int) + 5).fdiv 6 = ((n + 5) / 6 : Nat) := by
      rw [Int.fdiv_eq_ediv_of_nonneg _ (by decide)]; rfl
    rw [e]
    refine ⟨⟨by omega, by omega⟩, ?_⟩
    refine for_by (fun rest τ G2 => (∃ (f : Int) (e : Option D), τ = [some (.obj p), some (.int n), some (.int f), some (.int 1), e]) ∧ ∃ o, PenO o ∧ G2 p = some o ∧ ∀ o, updG G2 p o = updG G1 p o) (fun _ _ _ _ => trivial) ?_ ?_ _ ⟨⟨0, none, rfl⟩, o, ho, hp, fun _ => rfl⟩
    · rintro d r τ G2 N2 ⟨⟨f, e, rfl⟩, o2, ho2, hp2, hu⟩ hN2
      simp only [c__law_wide, List.getElem?_cons_zero]
      refine ⟨_, rfl, z_pow pw6 (z_mulI (mulR (by decide)) ⟨_, rfl, z_pow pw6 ⟨p, _, o2, rfl, rfl, by decide, by decide, hp2, ho2, fun r3 o3 _ _ ho3 => z_addI ?_⟩⟩)⟩
      exact hN2 _ _ ⟨⟨_, _, rfl⟩, o3, ho3, updG_same, fun o => by rw [updG_updG]; exact hu o⟩
    · rintro τ G2 ⟨⟨f, e, rfl⟩, hh⟩
      exact hN _ _ ⟨⟨f, e, rfl⟩, hh⟩
  rintro τ1 G2 ⟨⟨f, e, rfl⟩, o2, ho2, hp2, hu⟩
  refine seq_mid rfl (fun τ1 G3 => (∃ (e : Option D), τ1 = [some (.obj p), some (.int n), some (.int f), some (.int (10 ^ n)), e]) ∧ G3 = G2) (fun N hN => ?_) ?_
  · simp only [sFor, forT, L3.iRng1, itR1]
    walk_at "den"
    refine ⟨⟨by omega, by omega⟩, ?_⟩
    refine for_by (fun rest τ G3 => (∃ (j : Nat) (e : Option D), rest.length + j = n ∧ τ = [some (.obj p), some (.int n), some (.int f), some (.int (10 ^ j)), e]) ∧ G3 = G2) (fun _ _ _ _ => trivial) ?_ ?_ _ ⟨⟨0, e, by simp [rngItems], rfl⟩, rfl⟩
    · rintro d r τ G3 N2 ⟨⟨j, e, hj, rfl⟩, rfl⟩ hN2
      refine ⟨_, rfl, z_mulI (mulR (by decide)) ?_⟩
      exact hN2 _ _ ⟨⟨j + 1, _, by simp at hj; omega, by rw [Int.pow_succ]; rfl⟩, rfl⟩
    · rintro τ G3 ⟨⟨j, e, hj, rfl⟩, rfl⟩
      have : j = n := by simpa using hj
      subst this
      exact hN _ _ ⟨⟨e, rfl⟩, rfl⟩
  rintro τ1 G3 ⟨⟨e, rfl⟩, rfl⟩
  walk_at "den"
  have hpos : (0 : Int) < 10 ^ n := Int.pow_pos (by decide)
  refine z_int (z_mod (by omega) ?_)
  have e1 : f.fmod (10 ^ n) = f % (10 ^ n) := Int.fmod_eq_emod_of_nonneg _ (by omega)
  rw [e1]
  have := q (f % (10 ^ n)) o2 (Int.emod_nonneg _ (by omega)) (Int.emod_lt_of_pos _ hpos) ho2
  rw [← hu] at this
  have eG : updG G3 p o2 = G3 := by
    funext a
    by_cases z : a = p
    · subst z; rw [updG_same, hp2]
    · rw [updG_ne z]
  rw [eG] at this
  exact this
theorem ok__law_wide  (F : FunD K "_law_wide" "_law_wide" (defArgs (top 61)) (defBody (top 61)) (defScope (top 61)) [] [] f fd) (g : GOk (c__law_wide T) k P w K mg base) : FnAt P w K mg base T (k + 2) f (sp__law_wide) := by
  refine fnAt3 F (F.bindsN fun _ _ _ _ _ _ us hl => match us, hl with | [_, _], _ => rfl) (ps := ["pen", "figures"]) (C8.fnScope_by (by kernel_rfl)) rfl g (b__law_wide _) (k__law_wide T) (fun ds G Q E h => ?_) (fun ds G Q E h => ?_)
  · rcases ds with _ | ⟨a0, _ | ⟨a1, _ | r⟩⟩ <;> first | rfl | exact False.elim h
  · rcases ds with _ | ⟨a0, _ | ⟨a1, _ | r⟩⟩ <;> first | exact False.elim h | exact p__law_wide h
end W75
set_option Elab.async false
set_option linter.all false
set_option maxRecDepth 100000
set_option maxHeartbeats 1000000
namespace W75
open PySem PySem.Spec PyProof.Rows L2 LamX L3 Hd
local macro_rules | `(tactic| walk_at "den") => `(tactic| simp only [List.map, sRet, sSet, sSetLc, sAsg, sPar, sPar3, sExpr, sPass, sBreak, sCont, sIf, sWhile, sFor, sAug, sFld3, sFldAug3, sSub, sRaise,
  seqT, retT, setT, asgT, parT, dropT, ifT, augT, fldT, fldAugT, subT, rzT, eAnds, eOrs, eNot, eBf, eVar, eTy, eInt, eStr, eBl, eNon, eGlob, eBin, eNeg, eCmp, eChain, eIf, eTup, eLst, eFrz, eIx, eSl, eFld, eCall, eCall0, eBm, eOm, eLc, eMake, eDisp, eGcd, iSeq, iLst, iTupl, iTxt, L3.iRng1, L3.iRng2, iEnm, iEnmT, iRngDn, eDict0, L3.ifsT,
  tCmp3, tChain3, tTru, tNot3, tAnds, tOrs, testT, truT, notT, andT, orT, andE, orE, notE, ifE, cE', argT, varE, cE, opE, unE, chainE, tupE, lstE, slE, optE, spE, mtE, omE, makeE, dispE, Bf.r, Bm.r, Bm.ty, Tg.t, setAll, Option.map,
  List.getElem?_cons_zero, List.getElem?_cons_succ, List.set_cons_zero, List.set_cons_succ, Option.some.injEq, exists_eq_left', List.length_cons, List.length_nil, Nat.reduceAdd, true_and, binD, cmpD, augD, fnSp, mtC, mkC, rzC, gvD])
variable {P : Program} {w : World} {K : PySem.W.Frag} {mg : Str → Option Value} {base : Heap} {T : List (Addr × Str)} {k : Nat} {f : Addr} {fd : FuncData}
/-- a drawn number -/
def NumV (d : D) : Prop := ratB d = true ∧ (ratP d).1.natAbs < 10 ^ 45 ∧ (ratP d).2.natAbs < 10 ^ 45
theorem BIG45 : 10 ^ 45 < BIG := by decide +kernel
theorem NumV.tb {d : D} (h : NumV d) (n : Nat) : TB (n + 1) d := by
  obtain ⟨h1, h2, h3⟩ := h
  have hb := BIG45
  rcases rat_cases h1 with ⟨i, rfl⟩ | ⟨a, b, rfl, _, _⟩
  · exact .inl ⟨i, rfl, Nat.lt_trans h2 hb⟩
  · refine .inr ⟨_, rfl, by simp, fun e he => ?_⟩
    simp at he
    rcases he with rfl | rfl
    · cases n with
      | zero => exact ⟨a, rfl, Nat.lt_trans h2 hb⟩
      | succ n => exact .inl ⟨a, rfl, Nat.lt_trans h2 hb⟩
    · cases n with
      | zero => exact ⟨b, rfl, Nat.lt_trans h3 hb⟩
      | succ n => exact .inl ⟨b, rfl, Nat.lt_trans h3 hb⟩
theorem lowD_num {a b : Int} (h : 0 < b) (ha : a.natAbs < 10 ^ 45) (hb : b.natAbs < 10 ^ 45) : NumV (lowD a b) := by
  refine ⟨lowD_rat h, ?_, ?_⟩
  · have key : (a / ((Nat.gcd a.natAbs b.natAbs : Nat) : Int)).natAbs ≤ a.natAbs := Int.natAbs_ediv_le_natAbs _ _
    unfold lowD
    dsimp only
    split
    · exact Nat.lt_of_le_of_lt key ha
    · exact Nat.lt_of_le_of_lt key ha
  · have key : (b / ((Nat.gcd a.natAbs b.natAbs : Nat) : Int)).natAbs ≤ b.natAbs := Int.natAbs_ediv_le_natAbs _ _
    unfold lowD
    dsimp only
    split
    · show (1 : Int).natAbs < 10 ^ 45; decide
    · exact Nat.lt_of_le_of_lt key hb
def S__law_number (x m : D) (G : Gp) (Q : K3) (E : X3) : Prop := ∃ (p : Addr) (n : Int) (o : GO), x = .obj p ∧ m = .int n ∧ G p = some o ∧ PenO o ∧ ∀ v o, NumV v → PenO o → Q v (updG G p o)
abbrev s__law_number : Stmt := (top 60)
def n__law_number : List Str := ["pen", "size"]
def b__law_number (c : Cn) : List (CS c) := [sIf (tCmp3 .Eq (eVar 1) (eInt 0)) [sRet (eBin .Sub (eCall 0 [(eVar 0), (eInt 7)]) (eInt 3))] [], sIf (tCmp3 .Eq (eVar 1) (eInt 1)) [sRet (eCall 1 [(eBin .Sub (eCall 0 [(eVar 0), (eInt 19)]) (eInt 9)), (eBin .Add (eInt 1) (eCall 0 [(eVar 0), (eInt 6)]))])] [], sIf (tCmp3 .Eq (eVar 1) (eInt 2)) [sRet (eCall 1 [(eBin .Sub (eCall 0 [(eVar 0), (eInt 1999)]) (eInt 999)), (eBin .Add (eInt 1) (eCall 0 [(eVar 0), (eInt 97)]))])] [], sRet (eCall 1 [(eBin .Mult (eBin .Sub (eInt 1) (eBin .Mult (eInt 2) (eCall 0 [(eVar 0), (eInt 2)]))) (eCall 2 [(eVar 0), (eInt 40)])), (eBin .Add (eInt 1) (eCall 2 [(eVar 0), (eInt 39)]))])]
def c__law_number (T : List (Addr × Str))  : Cn := { T := T, N := n__law_number, nm := (defScope (top 60)).names, fn := [("_law_draw", sp__law_draw), ("_law_low", sp__law_low), ("_law_wide", sp__law_wide)] }
theorem k__law_number (T : List (Addr × Str))  : chkSs (b__law_number (c__law_number T)) (defBody (top 60)) = true := by kernel_rfl
def sp__law_number  : Sp3 := fun ds G Q E => match ds with
  | [a0, a1] => S__law_number a0 a1 G Q E
  | _ => False
abbrev W__law_number (T : List (Addr × Str))  (a0 a1 : D) (G : Gp) (Q : K3) (E : X3) : Prop := seqT ((b__law_number (c__law_number T)).map (·.t)) { nx := fun _ G' => Q .non G', rt := Q, xe := E } [some a0, some a1] G
theorem small_big {b : Int} (h : b.natAbs < 10 ^ 45) : b.natAbs < BIG := Nat.lt_trans h BIG45
theorem p__law_number {x m : D} {G : Gp} {Q : K3} {E : X3} (h : S__law_number x m G Q E) : W__law_number T x m G Q E := by
  obtain ⟨p, n, o, rfl, rfl, hp, ho, q⟩ := h
  unfold W__law_number b__law_number
  walk_at "den"
  simp only [c__law_number, List.getElem?_cons_zero, List.getElem?_cons_succ]
  refine z_eqI ⟨_, rfl, ite_b (fun c => ?_) fun c => ?_⟩
  · refine ⟨p, _, o, rfl, rfl, by decide, by decide, hp, ho, fun r o2 h0 h1 ho2 => z_subI (q _ _ ⟨rfl, ?_, by show (1 : Int).natAbs < 10 ^ 45; decide⟩ ho2)⟩
    show (r - 3).natAbs < 10 ^ 45
    have : (r - 3).natAbs < 10 := by omega
    exact Nat.lt_trans this (by decide)
  refine z_eqI ⟨_, rfl, ite_b (fun c => ?_) fun c => ?_⟩
  · refine ⟨p, _, o, rfl, rfl, by decide, by decide, hp, ho, fun r o2 h0 h1 ho2 => z_subI ⟨p, _, o2, rfl, rfl, by decide, by decide, updG_same, ho2, fun r2 o3 h2 h3 ho3 => z_addI ?_⟩⟩
    rw [updG_updG]
    have e1 : (r - 9).natAbs < 10 ^ 45 := Nat.lt_trans (by omega : (r - 9).natAbs < 100) (by decide)
    have e2 : (1 + r2).natAbs < 10 ^ 45 := Nat.lt_trans (by omega : (1 + r2).natAbs < 100) (by decide)
    exact ⟨_, _, rfl, rfl, by omega, small_big e2, q _ _ (lowD_num (by omega) e1 e2) ho3⟩
  refine z_eqI ⟨_, rfl, ite_b (fun c => ?_) fun c => ?_⟩
  · refine ⟨p, _, o, rfl, rfl, by decide, by decide, hp, ho, fun r o2 h0 h1 ho2 => z_subI ⟨p, _, o2, rfl, rfl, by decide, by decide, updG_same, ho2, fun r2 o3 h2 h3 ho3 => z_addI ?_⟩⟩
    rw [updG_updG]
    have e1 : (r - 999).natAbs < 10 ^ 45 := Nat.lt_trans (by omega : (r - 999).natAbs < 10000) (by decide)
    have e2 : (1 + r2).natAbs < 10 ^ 45 := Nat.lt_trans (by omega : (1 + r2).natAbs < 1000) (by decide)
    exact ⟨_, _, rfl, rfl, by omega, small_big e2, q _ _ (lowD_num (by omega) e1 e2) ho3⟩
  · refine ⟨p, _, o, rfl, rfl, by decide, by decide, hp, ho, fun r o2 h0 h1 ho2 => z_mulI (mulL (by decide)) (z_subI ⟨p, 40, o2, rfl, rfl, by decide, updG_same, ho2, fun r2 o3 h2 h3 ho3 => z_mulI (mulL ⟨by omega, by omega⟩) ?_⟩)⟩
    rw [updG_updG]
    refine ⟨p, 39, o3, rfl, rfl, by decide, updG_same, ho3, fun r3 o4 h4 h5 ho4 => z_addI ?_⟩
    rw [updG_updG]
    have hr : r = 0 ∨ r = 1 := by omega
    have e1 : ((1 - 2 * r) * r2).natAbs < 10 ^ 45 := by
      have h3' : r2 < 10 ^ 45 := Int.lt_trans h3 (by decide)
      rcases hr with rfl | rfl
      · have : (1 - 2 * (0 : Int)) * r2 = r2 := by omega
        rw [this]; omega
      · have : (1 - 2 * (1 : Int)) * r2 = -r2 := by omega
        rw [this]; omega
    have e2 : (1 + r3).natAbs < 10 ^ 45 := by
      have h5' : r3 < 10 ^ 40 := Int.lt_trans h5 (by decide)
      omega
    exact ⟨_, _, rfl, rfl, by omega, small_big e2, q _ _ (lowD_num (by omega) e1 e2) ho4⟩
theorem ok__law_number  (F : FunD K "_law_number" "_law_number" (defArgs (top 60)) (defBody (top 60)) (defScope (top 60)) [] [] f fd) (g : GOk (c__law_number T) k P w K mg base) : FnAt P w K mg base T (k + 2) f (sp__law_number) := by
  refine fnAt3 F (F.bindsN fun _ _ _ _ _ _ us hl => match us, hl with | [_, _], _ => rfl) (ps := ["pen", "size"]) (C8.fnScope_by (by kernel_rfl)) rfl g (b__law_number _) (k__law_number T) (fun ds G Q E h => ?_) (fun ds G Q E h => ?_)
  · rcases ds with _ | ⟨a0, _ | ⟨a1, _ | r⟩⟩ <;> first | rfl | exact False.elim h
  · rcases ds with _ | ⟨a0, _ | ⟨a1, _ | r⟩⟩ <;> first | exact False.elim h | exact p__law_number h
def S__law_tupled (cs : List Addr) (n : Nat) (d : D) (G : Gp) (Q : K3) (E : X3) : Prop := Pl n d ∧ Q (asT n d) G
def sp__law_tupled' (cs : List Addr) : Nat → Sp3
  | 0 => fun _ _ _ _ => False
  | n + 1 => fun ds G Q E => match ds with
    | [d] => S__law_tupled cs n d G Q E
    | _ => False
abbrev s__law_tupled : Stmt := (top 62)
def n__law_tupled : List Str := ["value", "one"]
def b__law_tupled (c : Cn) : List (CS c) := [sIf (tTru (eBf .isi [(eVar 0), (eTup [(eTy "list"), (eTy "tuple")])])) [sRet (eBf .tuple [(eLc (iSeq (eVar 0)) (.nm 1) (fun nm => none) (fun nm => (eCall 0 [(eVar 1)])))])] [], sRet (eVar 0)]
def c__law_tupled (T : List (Addr × Str)) (cs : List Addr) (n : Nat) : Cn := { T := T, N := n__law_tupled, nm := (defScope (top 62)).names, fn := [("_law_tupled", sp__law_tupled' cs n)], bt := ["isinstance", "list", "tuple"], cs := cs }
theorem k__law_tupled (T : List (Addr × Str)) (cs : List Addr) (n : Nat) : chkSs (b__law_tupled (c__law_tupled T cs n)) (defBody (top 62)) = true := by kernel_rfl
def sp__law_tupled (cs : List Addr) (n : Nat) : Sp3 := fun ds G Q E => match ds with
  | [a0] => S__law_tupled cs n a0 G Q E
  | _ => False
abbrev W__law_tupled (T : List (Addr × Str)) (cs : List Addr) (n : Nat) (a0 : D) (G : Gp) (Q : K3) (E : X3) : Prop := seqT ((b__law_tupled (c__law_tupled T cs n)).map (·.t)) { nx := fun _ G' => Q .non G', rt := Q, xe := E } [some a0, none] G
theorem p__law_tupled {cs : List Addr} {n : Nat} {d : D} {G : Gp} {Q : K3} {E : X3} (h : S__law_tupled cs n d G Q E) : W__law_tupled T cs n d G Q E := by
  obtain ⟨hp, q⟩ := h
  unfold W__law_tupled b__law_tupled
  walk_at "den"
  simp only [c__law_tupled, Cn.blk, List.getElem?_cons_zero]
  refine ⟨two_line, ?_⟩
  have hc : (∃ k, knP d = some k ∧ k ≠ "tuple" ∧ k ≠ "list") ∨ ∃ m l, n = m + 1 ∧ (d = .tup l ∨ d = .lst l) ∧ l.length ≤ 1000 ∧ ∀ e ∈ l, Pl m e := by
    cases n with
    | zero => obtain ⟨k, a, b, c, _⟩ := hp; exact .inl ⟨k, a, b, c⟩
    | succ n =>
      rcases hp with ⟨k, a, b, c, _⟩ | ⟨l, a, b, c⟩
      · exact .inl ⟨k, a, b, c⟩
      · exact .inr ⟨n, l, rfl, a, b, c⟩
  rcases hc with ⟨k, hk, h1, h2⟩ | ⟨m, l, rfl, hd, hl, hs⟩
  · refine isi2 (kn_of hk) ⟨_, tru_bl, ite_f (isT2 h1 h2) ?_⟩
    rw [asT_leaf hk h1 h2] at q
    exact q
  · obtain ⟨k, hk, hb⟩ : ∃ k, knP d = some k ∧ (isiB k "list" || isiB k "tuple") = true := by
      rcases hd with rfl | rfl
      · exact ⟨_, rfl, by decide⟩
      · exact ⟨_, rfl, by decide⟩
    have ha : asT (m + 1) d = .tup (l.map (asT m)) := by rcases hd with rfl | rfl <;> rfl
    have hsrc : srcS G d = some ⟨l, fun _ => True⟩ := by rcases hd with rfl | rfl <;> rfl
    rw [ha] at q
    refine isi2 (kn_of hk) ⟨_, tru_bl, ite_t hb ?_⟩
    refine ⟨d, rfl, ?_⟩
    dsimp only
    rw [hsrc]
    refine fun p hp => ⟨trivial, ?_⟩
    refine lc_map (asT m) (fun _ => trivial) (by have := ln1000; simp; omega) (fun e he acc Q' q' => ?_) ?_
    · exact ⟨e, rfl, hs e he, q'⟩
    · rw [if_neg (by decide), List.nil_append, delG_updG hp]
      exact q
theorem ok__law_tupled (cs : List Addr) (n : Nat) (F : FunD K "_law_tupled" "_law_tupled" (defArgs (top 62)) (defBody (top 62)) (defScope (top 62)) [] [] f fd) (g : GOk (c__law_tupled T cs n) k P w K mg base) : FnAt P w K mg base T (k + 2) f (sp__law_tupled cs n) := by
  refine fnAt3 F (F.bindsN fun _ _ _ _ _ _ us hl => match us, hl with | [_], _ => rfl) (ps := ["value"]) (C8.fnScope_by (by kernel_rfl)) rfl g (b__law_tupled _) (k__law_tupled T cs n) (fun ds G Q E h => ?_) (fun ds G Q E h => ?_)
  · rcases ds with _ | ⟨a0, _ | r⟩ <;> first | rfl | exact False.elim h
  · rcases ds with _ | ⟨a0, _ | r⟩ <;> first | exact False.elim h | exact p__law_tupled h
end W75
set_option Elab.async false
set_option linter.all false
set_option maxRecDepth 100000
set_option maxHeartbeats 1000000
namespace W75
open PySem PySem.Spec PyProof.Rows L2 LamX L3 Hd
local macro_rules | `(tactic| walk_at "den") => `(tactic| simp only [List.map, sRet, sSet, sSetLc, sAsg, sPar, sPar3, sExpr, sPass, sBreak, sCont, sIf, sWhile, sFor, sAug, sFld3, sFldAug3, sSub, sRaise,
  seqT, retT, setT, asgT, parT, dropT, ifT, augT, fldT, fldAugT, subT, rzT, eAnds, eOrs, eNot, eBf, eVar, eTy, eInt, eStr, eBl, eNon, eGlob, eBin, eNeg, eCmp, eChain, eIf, eTup, eLst, eFrz, eIx, eSl, eFld, eCall, eCall0, eBm, eOm, eLc, eMake, eDisp, eGcd, iSeq, iLst, iTupl, iTxt, L3.iRng1, L3.iRng2, iEnm, iEnmT, iRngDn, eDict0, L3.ifsT,
  tCmp3, tChain3, tTru, tNot3, tAnds, tOrs, testT, truT, notT, andT, orT, andE, orE, notE, ifE, cE', argT, varE, cE, opE, unE, chainE, tupE, lstE, slE, optE, spE, mtE, omE, makeE, dispE, Bf.r, Bm.r, Bm.ty, Tg.t, setAll, Option.map,
  List.getElem?_cons_zero, List.getElem?_cons_succ, List.set_cons_zero, List.set_cons_succ, Option.some.injEq, exists_eq_left', List.length_cons, List.length_nil, Nat.reduceAdd, true_and, binD, cmpD, augD, fnSp, mtC, mkC, rzC, gvD])
variable {P : Program} {w : World} {K : PySem.W.Frag} {mg : Str → Option Value} {base : Heap} {T : List (Addr × Str)} {k : Nat} {f : Addr} {fd : FuncData}
/-- a comprehension in general: I holds ahead of the items that are left, with what is gathered -/
theorem lc_inv {keep : Gp → Prop} {p : Addr} {tg : Tg} {tt : TT3} {te : TE3} {τ : S3} {Q : List D → Gp → Prop} (I : List D → List D → Gp → Prop)
    (step : ∀ d r acc G (N : List D → Gp → Prop), I (d :: r) acc G → (∀ acc2 G2, I r acc2 G2 → N acc2 G2) → tg.t d τ G fun τ2 G2 => tt τ2 G2 (fun b G3 => if b = true then te τ2 G3 (fun y G4 => G4 p = some (.lst acc) ∧ acc.length < sizeLine ∧ keep (updG G4 p (.lst (acc ++ [y]))) ∧ N (acc ++ [y]) (updG G4 p (.lst (acc ++ [y])))) (fun _ _ _ => False) else G3 p = some (.lst acc) ∧ keep G3 ∧ N acc G3) (fun _ _ _ => False))
    (fin : ∀ acc G, I [] acc G → Q acc G) : ∀ {l acc G}, I l acc G → lcGo keep p tg tt te τ Q l acc G
  | [], _, _, h => fin _ _ h
  | d :: r, _, _, h => step d r _ _ _ h fun _ _ h2 => lc_inv I step fin h2
/-! ### drawn values -/
/-- a drawn value, at most n deep -/
def DV : Nat → D → Prop
  | 0, d => NumV d
  | n + 1, d => NumV d ∨ ∃ l, d = .tup l ∧ l.length ≤ 3 ∧ ∀ e ∈ l, DV n e
def S__law_drawn_value (n : Nat) (x m : D) (G : Gp) (Q : K3) (E : X3) : Prop := ∃ (p : Addr) (o : GO), x = .obj p ∧ m = .int n ∧ G p = some o ∧ PenO o ∧ ∀ v o, DV n v → PenO o → Q v (updG G p o)
def sp__law_drawn_value' : Nat → Sp3
  | 0 => fun _ _ _ _ => False
  | n + 1 => fun ds G Q E => match ds with
    | [x, m] => S__law_drawn_value n x m G Q E
    | _ => False
abbrev s__law_drawn_value : Stmt := (top 66)
def n__law_drawn_value : List Str := ["pen", "deep", "way", "lap"]
def b__law_drawn_value (c : Cn) : List (CS c) := [sSet 2 (eCall 0 [(eVar 0), (eIf (tCmp3 .Gt (eVar 1) (eInt 0)) (eInt 5) (eInt 2))]), sIf (tCmp3 .Lt (eVar 2) (eInt 2)) [sRet (eCall 1 [(eVar 0), (eCall 0 [(eVar 0), (eInt 4)])])] [], sRet (eBf .tuple [(eLc (L3.iRng1 (eCall 0 [(eVar 0), (eInt 4)])) (.nm 3) (fun nm => none) (fun nm => (eCall 2 [(eVar 0), (eBin .Sub (eVar 1) (eInt 1))])))])]
def c__law_drawn_value (T : List (Addr × Str)) (n : Nat) : Cn := { T := T, N := n__law_drawn_value, nm := (defScope (top 66)).names, fn := [("_law_draw", sp__law_draw), ("_law_number", sp__law_number), ("_law_drawn_value", sp__law_drawn_value' n)], bt := ["tuple", "range"] }
theorem k__law_drawn_value (T : List (Addr × Str)) (n : Nat) : chkSs (b__law_drawn_value (c__law_drawn_value T n)) (defBody (top 66)) = true := by kernel_rfl
def sp__law_drawn_value (n : Nat) : Sp3 := fun ds G Q E => match ds with
  | [a0, a1] => S__law_drawn_value n a0 a1 G Q E
  | _ => False
abbrev W__law_drawn_value (T : List (Addr × Str)) (n : Nat) (a0 a1 : D) (G : Gp) (Q : K3) (E : X3) : Prop := seqT ((b__law_drawn_value (c__law_drawn_value T n)).map (·.t)) { nx := fun _ G' => FG Q .non G', rt := FG Q, xe := FX E } [some a0, some a1, none, none] G
theorem p__law_drawn_value {n : Nat} {x m : D} {G : Gp} {Q : K3} {E : X3} (h : S__law_drawn_value n x m G Q E) : W__law_drawn_value T n x m G Q E := by
  obtain ⟨p, o, rfl, rfl, hp, ho, q⟩ := h
  unfold W__law_drawn_value b__law_drawn_value
  walk_at "den"
  simp only [c__law_drawn_value, Cn.blk, List.getElem?_cons_zero, List.getElem?_cons_succ]
  have num : ∀ o1, PenO o1 → sp__law_draw [.obj p, .int 4] (updG G p o1) (fun d G1 => sp__law_number [.obj p, d] G1 (FG Q) (FX E)) (FX E) := by
    intro o1 ho1
    refine ⟨p, _, o1, rfl, rfl, by decide, by decide, updG_same, ho1, fun r o2 h0 h1 ho2 => ⟨p, r, o2, rfl, rfl, updG_same, ho2, fun v o3 hv ho3 => ?_⟩⟩
    rw [updG_updG, updG_updG]
    refine ⟨_, Les.refl _, q v o3 ?_ ho3⟩
    cases n with
    | zero => exact hv
    | succ n => exact .inl hv
  refine z_ord ⟨_, rfl, ite_b (fun c => ?_) fun c => ?_⟩
  · refine ⟨p, _, o, rfl, rfl, by decide, by decide, hp, ho, fun r o1 h0 h1 ho1 => z_ord ⟨_, rfl, ite_b (fun c2 => num o1 ho1) fun c2 => ?_⟩⟩
    obtain ⟨m, rfl⟩ : ∃ m, n = m + 1 := ⟨n - 1, by have := of_decide_eq_true c; omega⟩
    refine ⟨_, rfl, p, _, o1, rfl, rfl, by decide, by decide, updG_same, ho1, fun r o2 h0 h1 ho2 => ?_⟩
    rw [updG_updG]
    refine ⟨⟨by omega, by omega⟩, fun a ha => ⟨trivial, ?_⟩⟩
    have hpa : a ≠ p := by rintro rfl; rw [updG_same] at ha; cases ha
    have hGa : G a = none := by rw [updG_ne hpa] at ha; exact ha
    refine lc_inv (fun rest acc G' => acc.length + rest.length ≤ 3 ∧ (∀ e ∈ acc, DV m e) ∧ ∃ o, PenO o ∧ G' = updG (updG G p o) a (.lst acc)) ?_ ?_ ⟨by simp [rngItems]; omega, (fun _ h => by cases h), o2, ho2, rfl⟩
    · rintro d r acc G' N ⟨hl, hd, o3, ho3, rfl⟩ hN
      have hp3 : updG (updG G p o3) a (.lst acc) p = some o3 := by rw [updG_ne (Ne.symm hpa), updG_same]
      refine ⟨_, rfl, _, rfl, ⟨p, o3, rfl, ?_, hp3, ho3, fun v o4 hv ho4 => ?_⟩⟩
      · show D.int (((m + 1 : Nat) : Int) - 1) = .int (m : Nat)
        congr 1
        omega
      · have ec : updG (updG (updG G p o3) a (.lst acc)) p o4 = updG (updG G p o4) a (.lst acc) := by
          funext b
          unfold updG
          by_cases h1 : b = a
          · subst h1; rw [if_neg hpa, if_pos rfl, if_pos rfl]
          · by_cases h2 : b = p
            · rw [if_pos h2, if_neg h1, if_pos h2]
            · rw [if_neg h2, if_neg h1, if_neg h2, if_neg h1, if_neg h2]
        rw [ec]
        refine ⟨updG_same, by have := lnBig; simp at hl; omega, trivial, hN _ _ ⟨by simp at hl ⊢; omega, fun e he => ?_, o4, ho4, by rw [updG_updG]⟩⟩
        rcases List.mem_append.mp he with he | he
        · exact hd e he
        · simp at he
          subst he
          exact hv
    · rintro acc G' ⟨hl, hd, o3, ho3, rfl⟩
      rw [if_neg (by decide), delG_updG (by rw [updG_ne hpa]; exact hGa)]
      exact ⟨_, Les.refl _, q _ _ (.inr ⟨acc, rfl, by simpa using hl, hd⟩) ho3⟩
  · refine ⟨p, _, o, rfl, rfl, by decide, by decide, hp, ho, fun r o1 h0 h1 ho1 => z_ord ⟨_, rfl, ite_t (decide_eq_true h1) (num o1 ho1)⟩⟩
theorem ok__law_drawn_value (n : Nat) (F : FunD K "_law_drawn_value" "_law_drawn_value" (defArgs (top 66)) (defBody (top 66)) (defScope (top 66)) [] [] f fd) (g : GOk (c__law_drawn_value T n) k P w K mg base) : FnAt P w K mg base T (k + 2) f (sp__law_drawn_value n) := by
  refine fnAt4 F (F.bindsN fun _ _ _ _ _ _ us hl => match us, hl with | [_, _], _ => rfl) (ps := ["pen", "deep"]) (C8.fnScope_by (by kernel_rfl)) rfl g (b__law_drawn_value _) (k__law_drawn_value T n) (fun ds G Q E h => ?_) (fun ds G Q E h => ?_)
  · rcases ds with _ | ⟨a0, _ | ⟨a1, _ | r⟩⟩ <;> first | rfl | exact False.elim h
  · rcases ds with _ | ⟨a0, _ | ⟨a1, _ | r⟩⟩ <;> first | exact False.elim h | exact p__law_drawn_value h
end W75
set_option Elab.async false
set_option linter.all false
set_option maxRecDepth 100000
set_option maxHeartbeats 1000000
namespace W75
open PySem PySem.Spec PyProof.Rows L2 LamX L3 Hd
local macro_rules | `(tactic| walk_at "den") => `(tactic| simp only [List.map, sRet, sSet, sSetLc, sAsg, sPar, sPar3, sExpr, sPass, sBreak, sCont, sIf, sWhile, sFor, sAug, sFld3, sFldAug3, sSub, sRaise,
  seqT, retT, setT, asgT, parT, dropT, ifT, augT, fldT, fldAugT, subT, rzT, eAnds, eOrs, eNot, eBf, eVar, eTy, eInt, eStr, eBl, eNon, eGlob, eBin, eNeg, eCmp, eChain, eIf, eTup, eLst, eFrz, eIx, eSl, eFld, eCall, eCall0, eBm, eOm, eLc, eMake, eDisp, eGcd, iSeq, iLst, iTupl, iTxt, L3.iRng1, L3.iRng2, iEnm, iEnmT, iRngDn, eDict0, L3.ifsT,
  tCmp3, tChain3, tTru, tNot3, tAnds, tOrs, testT, truT, notT, andT, orT, andE, orE, notE, ifE, cE', argT, varE, cE, opE, unE, chainE, tupE, lstE, slE, optE, spE, mtE, omE, makeE, dispE, Bf.r, Bm.r, Bm.ty, Tg.t, setAll, Option.map,
  List.getElem?_cons_zero, List.getElem?_cons_succ, List.set_cons_zero, List.set_cons_succ, Option.some.injEq, exists_eq_left', List.length_cons, List.length_nil, Nat.reduceAdd, true_and, binD, cmpD, augD, fnSp, mtC, mkC, rzC, gvD])
variable {P : Program} {w : World} {K : PySem.W.Frag} {mg : Str → Option Value} {base : Heap} {T : List (Addr × Str)} {k : Nat} {f : Addr} {fd : FuncData}
theorem DV.tb : ∀ {n : Nat} {d : D}, DV n d → TB (n + 1) d
  | 0, _, h => NumV.tb h 0
  | n + 1, _, .inl h => NumV.tb h _
  | n + 1, _, .inr ⟨l, h, hl, he⟩ => .inr ⟨l, h, by omega, fun e m => (he e m).tb⟩
/-! ### the law's tokens of a value -/
def tkR (d : D) : List (List Nat) := (if (ratP d).1 < 0 then [[45]] else []) ++ (if (ratP d).2 = 1 then [decL (ratP d).1.natAbs] else [decL (ratP d).1.natAbs, [47], decL (ratP d).2.toNat])
def sepT : List (List (List Nat)) → List (List Nat)
  | [] => []
  | a :: r => a ++ (r.map fun x => [[44]] ++ x).flatten
def tkN : Nat → D → List (List Nat)
  | 0, d => tkR d
  | n + 1, d => if ratB d then tkR d else match d with
    | .tup l => [[40]] ++ sepT (l.map (tkN n)) ++ (if l.length = 1 then [[44]] else []) ++ [[41]]
    | _ => []
theorem sepT_snoc (a : List (List Nat)) : ∀ s : List (List (List Nat)), sepT (s ++ [a]) = sepT s ++ (if s = [] then [] else [[44]]) ++ a
  | [] => by simp [sepT]
  | b :: r => by simp [sepT]
theorem sepT_le : ∀ (s t : List (List (List Nat))), (sepT s).length ≤ (sepT (s ++ t)).length
  | [], t => Nat.zero_le _
  | b :: r, t => by simp [sepT]
theorem tkN_succ (n : Nat) (d : D) : tkN (n + 1) d = if ratB d then tkR d else match d with
    | .tup l => [[40]] ++ sepT (l.map (tkN n)) ++ (if l.length = 1 then [[44]] else []) ++ [[41]]
    | _ => [] := rfl
def absR (d : D) : D := if (ratP d).2 = 1 then .int (ratP d).1.natAbs else .tup [.int (ratP d).1.natAbs, .int (ratP d).2]
theorem sgn_mul (a : Int) : sgn a * a = a.natAbs := by
  unfold sgn
  split
  · omega
  · split <;> omega
theorem times_sgn {d : D} (h : ratB d = true) : timesD (.int (sgn (ratP d).1)) d = absR d := by
  unfold timesD absR
  have hg : Nat.gcd (ratP d).1.natAbs (ratP d).2.natAbs = 1 := by
    rcases rat_cases h with ⟨i, rfl⟩ | ⟨a, b, rfl, _, hg⟩
    · exact Nat.gcd_one_right _
    · exact hg
  show lowD (sgn (ratP d).1 * (ratP d).1) (1 * (ratP d).2) = _
  rw [sgn_mul, Int.one_mul]
  unfold lowD
  rw [Int.natAbs_natCast, hg]
  simp
def S__law_tokens_of (cs : List Addr) (n : Nat) (d : D) (G : Gp) (Q : K3) (E : X3) : Prop := DV n d ∧ (tkN n d).length ≤ 1000 ∧ Q (.lst (strL (tkN n d))) G
def sp__law_tokens_of' (cs : List Addr) : Nat → Sp3
  | 0 => fun _ _ _ _ => False
  | n + 1 => fun ds G Q E => match ds with
    | [x] => S__law_tokens_of cs n x G Q E
    | _ => False
abbrev s__law_tokens_of : Stmt := (top 67)
def n__law_tokens_of : List Str := ["value", "size", "found", "at", "one"]
def b__law_tokens_of (c : Cn) : List (CS c) := [sIf (tTru (eCall 0 [(eVar 0)])) [sSet 1 (eCall 1 [(eCall 2 [(eVar 0)]), (eVar 0)]), sRet (eBin .Add (eIf (tCmp3 .Lt (eCall 2 [(eVar 0)]) (eInt 0)) (eLst [(eStr "-")]) (eLst [])) (eIf (tTru (eCall 3 [(eVar 1)])) (eLst [(eBf .str [(eVar 1)])]) (eLst [(eBf .str [(eIx (eVar 1) (eInt 0))]), (eStr "/"), (eBf .str [(eIx (eVar 1) (eInt 1))])])))] [], sSet 2 (eLst [(eStr "(")] true), sFor (.tup [3, 4]) (iEnmT (eVar 0)) [sExpr (eBm .extend (eVar 2) [(eBin .Add (eIf (tCmp3 .Gt (eVar 3) (eInt 0)) (eLst [(eStr ",")]) (eLst [])) (eCall 4 [(eVar 4)]))])], sRet (eBin .Add (eBin .Add (eVar 2) (eIf (tCmp3 .Eq (eBf .len [(eVar 0)]) (eInt 1)) (eLst [(eStr ",")]) (eLst []))) (eLst [(eStr ")")]))]
def c__law_tokens_of (T : List (Addr × Str)) (cs : List Addr) (n : Nat) : Cn := { T := T, N := n__law_tokens_of, nm := (defScope (top 67)).names, fn := [("_law_is_ratio", sp__law_is_ratio cs), ("_law_times", sp__law_times cs), ("_law_sign", sp__law_sign cs), ("_law_is_whole", sp__law_is_whole cs), ("_law_tokens_of", sp__law_tokens_of' cs n)], bt := ["str", "enumerate", "len"] }
theorem k__law_tokens_of (T : List (Addr × Str)) (cs : List Addr) (n : Nat) : chkSs (b__law_tokens_of (c__law_tokens_of T cs n)) (defBody (top 67)) = true := by kernel_rfl
def sp__law_tokens_of (cs : List Addr) (n : Nat) : Sp3 := fun ds G Q E => match ds with
  | [a0] => S__law_tokens_of cs n a0 G Q E
  | _ => False
abbrev W__law_tokens_of (T : List (Addr × Str)) (cs : List Addr) (n : Nat) (a0 : D) (G : Gp) (Q : K3) (E : X3) : Prop := seqT ((b__law_tokens_of (c__law_tokens_of T cs n)).map (·.t)) { nx := fun _ G' => FG Q .non G', rt := FG Q, xe := FX E } [some a0, none, none, none, none] G
theorem p__law_tokens_of {cs : List Addr} {n : Nat} {d : D} {G : Gp} {Q : K3} {E : X3} (h : S__law_tokens_of cs n d G Q E) : W__law_tokens_of T cs n d G Q E := by
  obtain ⟨hd, hl, q⟩ := h
  have htb := hd.tb
  have hlb := lnBig
  unfold W__law_tokens_of b__law_tokens_of
  by_cases hr : ratB d = true
  · refine seq_mid rfl (fun _ _ => False) (fun N hN => ?_) (fun _ _ h => h.elim)
    walk_at "den"
    simp only [c__law_tokens_of, List.getElem?_cons_zero, List.getElem?_cons_succ]
    have hnv : NumV d := by
      cases n with
      | zero => exact hd
      | succ n =>
        rcases hd with h | ⟨l, rfl, hl, he⟩
        · exact h
        · rcases rat_cases hr with ⟨i, e⟩ | ⟨a, b, e, h1, h2⟩
          · cases e
          · cases e
            have lf : ∀ {m : Nat} {i : Int}, DV m (.int i) → i.natAbs < 10 ^ 45 := by
              intro m i h
              cases m with
              | zero => exact h.2.1
              | succ m =>
                rcases h with h | ⟨l, e, _⟩
                · exact h.2.1
                · cases e
            exact ⟨hr, lf (he (.int a) (by simp)), lf (he (.int b) (by simp))⟩
    have htk : tkN n d = tkR d := by
      cases n with
      | zero => rfl
      | succ n => rw [tkN_succ, if_pos hr]
    rw [htk] at q
    have hbig := htb.big hr
    have hp := rat_pos hr
    refine ⟨⟨_, htb⟩, _, tru_bl, ite_t hr ⟨hr, rfl, hr, mulL ?_, mulL (by show (-(2 ^ 64) < (1 : Int)) ∧ (1 : Int) < 2 ^ 64; decide), ?_, ?_⟩⟩
    · show -(2 ^ 64) < sgn _ ∧ sgn _ < 2 ^ 64
      unfold sgn; split
      · decide
      · split <;> decide
    · show (1 * (ratP d).2).natAbs < BIG
      rw [Int.one_mul]
      exact small_big hnv.2.2
    rw [times_sgn hr]
    refine ⟨hr, z_ord ⟨_, rfl, ite_b (fun c => ?_) fun c => ?_⟩⟩
    · rw [sgn_neg] at c
      refine ⟨by omega, z_mkF ?_⟩
      by_cases hb : (ratP d).2 = 1
      · rw [show absR d = .int _ from if_pos hb]
        refine ⟨_, kn_of rfl, _, tru_bl, ite_t rfl (z_strN hbig.1 ⟨by omega, z_mkF (z_addL rfl rfl (by simp; omega) ⟨_, Les.refl _, ?_⟩)⟩)⟩
        have e : strL (tkR d) = [.str (mkS [45])] ++ [.str (mkS (decL (ratP d).1.natAbs))] := by
          unfold tkR
          rw [if_pos (of_decide_eq_true c), if_pos hb]
          rfl
        rw [e] at q
        exact q
      · rw [show absR d = .tup _ from if_neg hb]
        refine ⟨_, kn_of rfl, _, tru_bl, ite_f rfl (z_ix_tup (i := 0) rfl (z_strN hbig.1 (z_ix_tup (i := 1) rfl ?_)))⟩
        have e2 : (ratP d).2 = ((ratP d).2.toNat : Nat) := by omega
        rw [e2]
        refine z_strN hbig.2 ⟨by omega, z_mkF (z_addL rfl rfl (by simp; omega) ⟨_, Les.refl _, ?_⟩)⟩
        have e : strL (tkR d) = [.str (mkS [45])] ++ [.str (mkS (decL (ratP d).1.natAbs)), .str (mkS [47]), .str (mkS (decL (ratP d).2.toNat))] := by
          unfold tkR
          rw [if_pos (of_decide_eq_true c), if_neg hb]
          rfl
        rw [e] at q
        exact q
    · rw [sgn_neg] at c
      refine ⟨by omega, z_mkF ?_⟩
      by_cases hb : (ratP d).2 = 1
      · rw [show absR d = .int _ from if_pos hb]
        refine ⟨_, kn_of rfl, _, tru_bl, ite_t rfl (z_strN hbig.1 ⟨by omega, z_mkF (z_addL rfl rfl (by simp; omega) ⟨_, Les.refl _, ?_⟩)⟩)⟩
        have e : strL (tkR d) = ([] : List D) ++ [.str (mkS (decL (ratP d).1.natAbs))] := by
          unfold tkR
          rw [if_neg (of_decide_eq_false c), if_pos hb]
          rfl
        rw [e] at q
        exact q
      · rw [show absR d = .tup _ from if_neg hb]
        refine ⟨_, kn_of rfl, _, tru_bl, ite_f rfl (z_ix_tup (i := 0) rfl (z_strN hbig.1 (z_ix_tup (i := 1) rfl ?_)))⟩
        have e2 : (ratP d).2 = ((ratP d).2.toNat : Nat) := by omega
        rw [e2]
        refine z_strN hbig.2 ⟨by omega, z_mkF (z_addL rfl rfl (by simp; omega) ⟨_, Les.refl _, ?_⟩)⟩
        have e : strL (tkR d) = ([] : List D) ++ [.str (mkS (decL (ratP d).1.natAbs)), .str (mkS [47]), .str (mkS (decL (ratP d).2.toNat))] := by
          unfold tkR
          rw [if_neg (of_decide_eq_false c), if_neg hb]
          rfl
        rw [e] at q
        exact q
  · have hr : ratB d = false := by simpa using hr
    obtain ⟨m, l, rfl, rfl, hll, hle⟩ : ∃ m l, n = m + 1 ∧ d = .tup l ∧ l.length ≤ 3 ∧ ∀ e ∈ l, DV m e := by
      cases n with
      | zero => rw [hd.1] at hr; cases hr
      | succ n =>
        rcases hd with h | ⟨l, h1, h2, h3⟩
        · rw [h.1] at hr; cases hr
        · exact ⟨n, l, rfl, h1, h2, h3⟩
    have htk : tkN (m + 1) (.tup l) = [[40]] ++ sepT (l.map (tkN m)) ++ (if l.length = 1 then [[44]] else []) ++ [[41]] := by rw [tkN_succ, if_neg (by rw [hr]; decide)]
    rw [htk] at q hl
    refine seq_mid rfl (fun τ1 G1 => τ1 = [some (.tup l), none, none, none, none] ∧ G1 = G) (fun N hN => ?_) ?_
    · walk_at "den"
      simp only [c__law_tokens_of, List.getElem?_cons_zero, List.getElem?_cons_succ]
      exact ⟨⟨_, htb⟩, _, tru_bl, ite_f hr (hN _ _ ⟨rfl, rfl⟩)⟩
    rintro τ1 G1 ⟨rfl, rfl⟩
    refine seq_mid rfl (fun τ1 G2 => ∃ p, τ1 = [some (.tup l), none, some (.obj p), none, none] ∧ G2 = updG G1 p (.lst (strL [[40]])) ∧ G1 p = none) (fun N hN => ?_) ?_
    · walk_at "den"
      exact ⟨by omega, z_mkT fun p hp => hN _ _ ⟨p, rfl, rfl, hp⟩⟩
    rintro τ1 G2 ⟨p, rfl, rfl, hp⟩
    have hlen : (sepT (l.map (tkN m))).length ≤ 1000 := by
      simp only [List.length_append] at hl
      omega
    refine seq_mid rfl (fun τ1 G2 => (∃ e3 e4, τ1 = [some (.tup l), none, some (.obj p), e3, e4]) ∧ G2 = updG G1 p (.lst (strL ([[40]] ++ sepT (l.map (tkN m)))))) (fun N hN => ?_) ?_
    · simp only [sFor, forT]
      walk_at "den"
      simp only [itET, varE, List.getElem?_cons_zero, Option.some.injEq, exists_eq_left']
      refine ⟨trivial, ?_⟩
      refine for_by (fun rest τ G2 => ∃ s r, l = s ++ r ∧ rest = numb s.length r ∧ (∃ e3 e4, τ = [some (.tup l), none, some (.obj p), e3, e4]) ∧ G2 = updG G1 p (.lst (strL ([[40]] ++ sepT (s.map (tkN m)))))) (fun _ _ _ _ => trivial) ?_ ?_ _ ⟨[], l, rfl, rfl, ⟨_, _, rfl⟩, by simp [sepT]⟩
      · rintro d r0 τ G2 N2 ⟨s, r, hs, hr0, ⟨e3, e4, rfl⟩, rfl⟩ hN2
        cases r with
        | nil => cases hr0
        | cons x r =>
          simp only [numb, List.cons.injEq] at hr0
          obtain ⟨rfl, rfl⟩ := hr0
          have hx : x ∈ l := by rw [hs]; simp
          have hsx : (s.map (tkN m) ++ [tkN m x]) ++ r.map (tkN m) = l.map (tkN m) := by rw [hs]; simp
          have hle2 := sepT_le (s.map (tkN m) ++ [tkN m x]) (r.map (tkN m))
          rw [hsx, sepT_snoc] at hle2
          simp only [List.length_append] at hle2
          have fin : ∀ (pre : List (List Nat)), pre = (if s.map (tkN m) = [] then [] else [[44]]) → N2 [some (.tup l), none, some (.obj p), some (.int (s.length : Nat)), some x] (updG G1 p (.lst (strL ([[40]] ++ sepT (s.map (tkN m))) ++ (strL pre ++ strL (tkN m x))))) := by
            intro pre hpre
            refine hN2 _ _ ⟨s ++ [x], r, by rw [hs]; simp, by simp, ⟨_, _, rfl⟩, ?_⟩
            congr 2
            rw [List.map_append]
            show _ = strL ([[40]] ++ sepT (s.map (tkN m) ++ [tkN m x]))
            rw [sepT_snoc, ← hpre]
            unfold strL
            simp
          refine ⟨rfl, _, rfl, ⟨rfl, _, updG_same⟩, ?_⟩
          simp only [c__law_tokens_of, List.getElem?_cons_zero, List.getElem?_cons_succ]
          have hz : (strL ([[40]] ++ sepT (s.map (tkN m)))).length ≤ 1001 := by
            rw [strL_len, List.length_append]
            simp
            omega
          have hz2 : (strL (tkN m x)).length ≤ 1000 := by rw [strL_len]; omega
          refine ⟨_, rfl, z_ord ⟨_, rfl, ite_b (fun c => ?_) fun c => ?_⟩⟩
          · refine ⟨by omega, z_mkF ⟨_, rfl, hle x hx, by omega, z_addL rfl rfl (by simp; omega) (z_extend updG_same rfl (by simp at hz hz2 ⊢; omega) ?_)⟩⟩
            rw [updG_updG]
            refine fin [[44]] ?_
            rw [if_neg]
            intro z
            have h0 : s = [] := by simpa using z
            subst h0
            exact absurd c (by decide)
          · refine ⟨by omega, z_mkF ⟨_, rfl, hle x hx, by omega, z_addL rfl rfl (by simp; omega) (z_extend updG_same rfl (by simp at hz hz2 ⊢; omega) ?_)⟩⟩
            rw [updG_updG]
            refine fin [] ?_
            rw [if_pos]
            have h0 : s = [] := by
              cases s with
              | nil => rfl
              | cons a b => exact absurd c (by simp)
            subst h0
            rfl
      · rintro τ G2 ⟨s, r, hs, hr0, ⟨e3, e4, rfl⟩, rfl⟩
        cases r with
        | nil =>
          have : l = s := by simpa using hs
          subst this
          exact hN _ _ ⟨⟨_, _, rfl⟩, rfl⟩
        | cons x r => cases hr0
    rintro τ1 G2 ⟨⟨e3, e4, rfl⟩, rfl⟩
    walk_at "den"
    have hz : (strL ([[40]] ++ sepT (l.map (tkN m)))).length ≤ 1001 := by
      rw [strL_len, List.length_append]
      simp
      omega
    have les : Les G1 (updG G1 p (.lst (strL ([[40]] ++ sepT (l.map (tkN m)))))) := ((Ext.refl G1).upd hp).les
    refine z_len_tup (z_eqI ⟨_, rfl, ite_b (fun c => ?_) fun c => ?_⟩)
    · refine ⟨by omega, z_mkF (z_addL (asL_obj updG_same) rfl (by simp at hz ⊢; omega) ⟨by omega, z_mkF (z_addL rfl rfl (by simp at hz ⊢; omega) ⟨G1, les, ?_⟩)⟩)⟩
      have h1 : l.length = 1 := by have := of_decide_eq_true c; omega
      rw [if_pos h1] at q
      have e : strL (([[40]] ++ sepT (l.map (tkN m)) ++ [[44]]) ++ [[41]]) = strL ([[40]] ++ sepT (l.map (tkN m))) ++ [.str (mkS [44])] ++ [.str (mkS [41])] := by unfold strL; simp
      rw [e] at q
      exact q
    · refine ⟨by omega, z_mkF (z_addL (asL_obj updG_same) rfl (by simp at hz ⊢; omega) ⟨by omega, z_mkF (z_addL rfl rfl (by simp at hz ⊢; omega) ⟨G1, les, ?_⟩)⟩)⟩
      have h1 : ¬ l.length = 1 := by have := of_decide_eq_false c; omega
      rw [if_neg h1] at q
      have e : strL (([[40]] ++ sepT (l.map (tkN m)) ++ []) ++ [[41]]) = strL ([[40]] ++ sepT (l.map (tkN m))) ++ [] ++ [.str (mkS [41])] := by unfold strL; simp
      rw [e] at q
      exact q
theorem ok__law_tokens_of (cs : List Addr) (n : Nat) (F : FunD K "_law_tokens_of" "_law_tokens_of" (defArgs (top 67)) (defBody (top 67)) (defScope (top 67)) [] [] f fd) (g : GOk (c__law_tokens_of T cs n) k P w K mg base) : FnAt P w K mg base T (k + 2) f (sp__law_tokens_of cs n) := by
  refine fnAt4 F (F.bindsN fun _ _ _ _ _ _ us hl => match us, hl with | [_], _ => rfl) (ps := ["value"]) (C8.fnScope_by (by kernel_rfl)) rfl g (b__law_tokens_of _) (k__law_tokens_of T cs n) (fun ds G Q E h => ?_) (fun ds G Q E h => ?_)
  · rcases ds with _ | ⟨a0, _ | r⟩ <;> first | rfl | exact False.elim h
  · rcases ds with _ | ⟨a0, _ | r⟩ <;> first | exact False.elim h | exact p__law_tokens_of h
end W75
set_option Elab.async false
set_option linter.all false
set_option maxRecDepth 100000
set_option maxHeartbeats 1000000
namespace W75
open PySem PySem.Spec PyProof.Rows L2 LamX L3 Hd
local macro_rules | `(tactic| walk_at "den") => `(tactic| simp only [List.map, sRet, sSet, sSetLc, sAsg, sPar, sPar3, sExpr, sPass, sBreak, sCont, sIf, sWhile, sFor, sAug, sFld3, sFldAug3, sSub, sRaise,
  seqT, retT, setT, asgT, parT, dropT, ifT, augT, fldT, fldAugT, subT, rzT, eAnds, eOrs, eNot, eBf, eVar, eTy, eInt, eStr, eBl, eNon, eGlob, eBin, eNeg, eCmp, eChain, eIf, eTup, eLst, eFrz, eIx, eSl, eFld, eCall, eCall0, eBm, eOm, eLc, eMake, eDisp, eGcd, iSeq, iLst, iTupl, iTxt, L3.iRng1, L3.iRng2, iEnm, iEnmT, iRngDn, eDict0, L3.ifsT,
  tCmp3, tChain3, tTru, tNot3, tAnds, tOrs, testT, truT, notT, andT, orT, andE, orE, notE, ifE, cE', argT, varE, cE, opE, unE, chainE, tupE, lstE, slE, optE, spE, mtE, omE, makeE, dispE, Bf.r, Bm.r, Bm.ty, Tg.t, setAll, Option.map,
  List.getElem?_cons_zero, List.getElem?_cons_succ, List.set_cons_zero, List.set_cons_succ, Option.some.injEq, exists_eq_left', List.length_cons, List.length_nil, Nat.reduceAdd, true_and, binD, cmpD, augD, fnSp, mtC, mkC, rzC, gvD])
variable {P : Program} {w : World} {K : PySem.W.Frag} {mg : Str → Option Value} {base : Heap} {T : List (Addr × Str)} {k : Nat} {f : Addr} {fd : FuncData}
/-! ### the law's look at figures -/
def S__law_is_figures (d : D) (G : Gp) (Q : K3) (E : X3) : Prop := ∃ (w : List Nat), d = .str (mkS w) ∧ SzOk w ∧ Q (.bl (isNum w 4000)) G
abbrev s__law_is_figures : Stmt := (top 69)
def n__law_is_figures : List Str := ["word", "one"]
def b__law_is_figures (c : Cn) : List (CS c) := [sIf (tOrs [(tCmp3 .Eq (eVar 0) (eStr "")), (tCmp3 .Gt (eBf .len [(eVar 0)]) (eInt 4000)), (tCmp3 .NotEq (eLc (iTxt (eVar 0)) (.nm 1) (fun nm => some (tCmp3 .NotIn (eVar 1) (eStr "0123456789"))) (fun nm => (eVar 1))) (eLst []))]) [sRet (eBl false)] [], sRet (eOrs [(eCmp .Eq (eVar 0) (eStr "0")), (eCmp .NotEq (eIx (eVar 0) (eInt 0)) (eStr "0"))])]
def c__law_is_figures (T : List (Addr × Str))  : Cn := { T := T, N := n__law_is_figures, nm := (defScope (top 69)).names, bt := ["len"] }
theorem k__law_is_figures (T : List (Addr × Str))  : chkSs (b__law_is_figures (c__law_is_figures T)) (defBody (top 69)) = true := by kernel_rfl
def sp__law_is_figures  : Sp3 := fun ds G Q E => match ds with
  | [a0] => S__law_is_figures a0 G Q E
  | _ => False
abbrev W__law_is_figures (T : List (Addr × Str))  (a0 : D) (G : Gp) (Q : K3) (E : X3) : Prop := seqT ((b__law_is_figures (c__law_is_figures T)).map (·.t)) { nx := fun _ G' => Q .non G', rt := Q, xe := E } [some a0, none] G
theorem p__law_is_figures {d : D} {G : Gp} {Q : K3} {E : X3} (h : S__law_is_figures d G Q E) : W__law_is_figures T d G Q E := by
  obtain ⟨w, rfl, hw, q⟩ := h
  unfold W__law_is_figures b__law_is_figures
  walk_at "den"
  have tail : w ≠ [] → isNum w 4000 = (decide (w = [48]) || !decide (w.head? = some 48)) → ∀ {b : Bool}, b = decide (w = [48]) → if b = true then Q (.bl b) G else ixD (.str (mkS w)) (.int 0) G fun x G1 => eqD true x (.str "0") G1 Q := by
    intro hne he b hb
    rw [he, ← hb] at q
    refine ite_b (fun c => ?_) (fun c => ?_)
    · rw [c, Bool.true_or] at q; rw [c]; exact q
    · rw [c, Bool.false_or] at q
      match w, hne with
      | a :: r, _ =>
        refine z_ix_str (i := 0) hw rfl (z_ne_str (b := [48]) ?_)
        have e : decide ([a] = [48]) = decide ((a :: r).head? = some 48) := by simp
        rw [e]
        exact q
  refine z_eq_str (b := []) ⟨_, rfl, ite_b (fun c => ?_) fun c => ?_⟩
  · have e : isNum w 4000 = false := by unfold isNum; rw [c]; rfl
    rw [e] at q
    rw [if_pos trivial]
    exact q
  · have hne : w ≠ [] := of_decide_eq_false c
    refine z_len_str hw ⟨_, rfl, ite_b (fun c2 => ?_) fun c2 => ?_⟩
    · have e : isNum w 4000 = false := by
        unfold isNum
        have c2' : decide ((4000 : Int) < (w.length : Int)) = true := c2
        rw [c2']; simp
      rw [e] at q
      rw [if_pos trivial]
      exact q
    · have c2' : decide ((4000 : Int) < (w.length : Int)) = false := c2
      refine ⟨_, rfl, ?_⟩
      refine fun p hp => ⟨trivial, ?_⟩
      have bad : ∀ c, (!inL FIGs c) = decide (c ∉ FIGs) := fun c => by simp [inL]
      refine lc_inv (fun rest acc G' => (∃ r, rest = (r.map fun c => D.str (mkS [c])) ∧ ∃ bs : List Nat, acc = bs.map (fun c => D.str (mkS [c])) ∧ (bs ++ r.filter fun c => !inL FIGs c) = w.filter fun c => !inL FIGs c) ∧ G' = updG G p (.lst acc)) ?_ ?_ ⟨⟨w, rfl, [], rfl, rfl⟩, rfl⟩
      · rintro d r0 acc G' N ⟨⟨r, hr, bs, rfl, he⟩, rfl⟩ hN
        cases r with
        | nil => cases hr
        | cons c r =>
          simp only [List.map_cons, List.cons.injEq] at hr
          obtain ⟨rfl, rfl⟩ := hr
          have hbl : bs.length < sizeLine := by
            have h1 := congrArg List.length he
            rw [List.length_append] at h1
            have h2 : (w.filter fun c => !inL FIGs c).length ≤ w.length := List.length_filter_le ..
            have h3 : ((c :: r).filter fun c => !inL FIGs c).length ≤ (w.filter fun c => !inL FIGs c).length := by omega
            have hw' : w.length ≤ 4000 := by have := of_decide_eq_false c2'; omega
            have := lnBig
            omega
          walk_at "den"
          refine ⟨_, rfl, z_notin (s := FIGs) ⟨_, rfl, ite_b (fun c3 => ?_) fun c3 => ?_⟩⟩
          · refine ⟨_, rfl, updG_same, by rw [List.length_map]; exact hbl, hN _ _ ⟨⟨r, rfl, bs ++ [c], by simp, ?_⟩, by rw [updG_updG]⟩⟩
            rw [List.filter_cons_of_pos (by simpa using c3)] at he
            rw [List.append_assoc]
            exact he
          · refine ⟨updG_same, hN _ _ ⟨⟨r, rfl, bs, rfl, ?_⟩, rfl⟩⟩
            rw [List.filter_cons_of_neg (by simp at c3 ⊢; exact c3)] at he
            exact he
      · rintro acc G' ⟨⟨r, hr, bs, rfl, he⟩, rfl⟩
        rw [if_neg (by decide), delG_updG hp]
        have hr0 : r = [] := by
          cases r with
          | nil => rfl
          | cons a b => cases hr
        subst hr0
        have he : bs = w.filter fun c => !inL FIGs c := by simpa using he
        have hall : w.all (inL FIGs) = bs.isEmpty := by
          rw [he, Bool.eq_iff_iff, List.isEmpty_iff, List.filter_eq_nil_iff]
          simp
        refine ⟨Nat.zero_le _, z_mkF (z_neNil rfl ⟨_, rfl, ite_b (fun c3 => ?_) fun c3 => ?_⟩)⟩
        · have c3' : w.all (inL FIGs) = false := by rw [hall]; simpa using c3
          have e : isNum w 4000 = false := by unfold isNum; rw [c3']; simp
          rw [e] at q
          exact q
        · have c3' : w.all (inL FIGs) = true := by rw [hall]; simpa using c3
          refine z_eq_str (b := [48]) ⟨_, tru_bl, tail hne ?_ rfl⟩
          unfold isNum
          rw [c, c2', c3']
          simp
theorem ok__law_is_figures  (F : FunD K "_law_is_figures" "_law_is_figures" (defArgs (top 69)) (defBody (top 69)) (defScope (top 69)) [] [] f fd) (g : GOk (c__law_is_figures T) k P w K mg base) : FnAt P w K mg base T (k + 2) f (sp__law_is_figures) := by
  refine fnAt3 F (F.bindsN fun _ _ _ _ _ _ us hl => match us, hl with | [_], _ => rfl) (ps := ["word"]) (C8.fnScope_by (by kernel_rfl)) rfl g (b__law_is_figures _) (k__law_is_figures T) (fun ds G Q E h => ?_) (fun ds G Q E h => ?_)
  · rcases ds with _ | ⟨a0, _ | r⟩ <;> first | rfl | exact False.elim h
  · rcases ds with _ | ⟨a0, _ | r⟩ <;> first | exact False.elim h | exact p__law_is_figures h
end W75
set_option Elab.async false
set_option linter.all false
set_option maxRecDepth 100000
set_option maxHeartbeats 1000000
namespace W75
open PySem PySem.Spec PyProof.Rows L2 LamX L3 Hd
local macro_rules | `(tactic| walk_at "den") => `(tactic| simp only [List.map, sRet, sSet, sSetLc, sAsg, sPar, sPar3, sExpr, sPass, sBreak, sCont, sIf, sWhile, sFor, sAug, sFld3, sFldAug3, sSub, sRaise,
  seqT, retT, setT, asgT, parT, dropT, ifT, augT, fldT, fldAugT, subT, rzT, eAnds, eOrs, eNot, eBf, eVar, eTy, eInt, eStr, eBl, eNon, eGlob, eBin, eNeg, eCmp, eChain, eIf, eTup, eLst, eFrz, eIx, eSl, eFld, eCall, eCall0, eBm, eOm, eLc, eMake, eDisp, eGcd, iSeq, iLst, iTupl, iTxt, L3.iRng1, L3.iRng2, iEnm, iEnmT, iRngDn, eDict0, L3.ifsT,
  tCmp3, tChain3, tTru, tNot3, tAnds, tOrs, testT, truT, notT, andT, orT, andE, orE, notE, ifE, cE', argT, varE, cE, opE, unE, chainE, tupE, lstE, slE, optE, spE, mtE, omE, makeE, dispE, Bf.r, Bm.r, Bm.ty, Tg.t, setAll, Option.map,
  List.getElem?_cons_zero, List.getElem?_cons_succ, List.set_cons_zero, List.set_cons_succ, Option.some.injEq, exists_eq_left', List.length_cons, List.length_nil, Nat.reduceAdd, true_and, binD, cmpD, augD, fnSp, mtC, mkC, rzC, gvD])
variable {P : Program} {w : World} {K : PySem.W.Frag} {mg : Str → Option Value} {base : Heap} {T : List (Addr × Str)} {k : Nat} {f : Addr} {fd : FuncData}
/-! ### the law's text of a value -/
def wordsL : List (List Nat) → List Nat
  | [] => []
  | t :: r => t ++ (if t = [44] ∧ r.head? ≠ some [41] then [32] else []) ++ wordsL r
/-- behind each comma stands something -/
def ComOk (ts : List (List Nat)) : Prop := ts.getLast? ≠ some [44]
def S__law_value_words (cs : List Addr) (n : Nat) (d : D) (G : Gp) (Q : K3) (E : X3) : Prop := DV n d ∧ (tkN n d).length ≤ 1000 ∧ ComOk (tkN n d) ∧ (wordsL (tkN n d)).length ≤ 90000 ∧ Q (.str (mkS (wordsL (tkN n d)))) G
abbrev s__law_value_words : Stmt := (top 68)
def n__law_value_words : List Str := ["value", "found", "tokens", "at", "token", "close"]
def b__law_value_words (c : Cn) : List (CS c) := [sSet 1 (eStr ""), sSet 2 (eCall 0 [(eVar 0)]), sFor (.tup [3, 4]) (iEnm (eVar 2)) [sSet 5 (eAnds [(eCmp .Eq (eVar 4) (eStr ",")), (eCmp .NotEq (eIx (eVar 2) (eBin .Add (eVar 3) (eInt 1))) (eStr ")"))]), sSet 1 (eBin .Add (eBin .Add (eVar 1) (eVar 4)) (eIf (tTru (eVar 5)) (eStr " ") (eStr "")))], sRet (eVar 1)]
def c__law_value_words (T : List (Addr × Str)) (cs : List Addr) (n : Nat) : Cn := { T := T, N := n__law_value_words, nm := (defScope (top 68)).names, fn := [("_law_tokens_of", sp__law_tokens_of cs n)], bt := ["enumerate"] }
theorem k__law_value_words (T : List (Addr × Str)) (cs : List Addr) (n : Nat) : chkSs (b__law_value_words (c__law_value_words T cs n)) (defBody (top 68)) = true := by kernel_rfl
def sp__law_value_words (cs : List Addr) (n : Nat) : Sp3 := fun ds G Q E => match ds with
  | [a0] => S__law_value_words cs n a0 G Q E
  | _ => False
abbrev W__law_value_words (T : List (Addr × Str)) (cs : List Addr) (n : Nat) (a0 : D) (G : Gp) (Q : K3) (E : X3) : Prop := seqT ((b__law_value_words (c__law_value_words T cs n)).map (·.t)) { nx := fun _ G' => Q .non G', rt := Q, xe := E } [some a0, none, none, none, none, none] G
theorem words_le : ∀ (s r : List (List Nat)), (wordsL r).length ≤ (wordsL (s ++ r)).length
  | [], r => Nat.le_refl _
  | a :: s, r => by
    have := words_le s r
    rw [List.cons_append, wordsL, List.length_append, List.length_append]
    omega
theorem p__law_value_words {cs : List Addr} {n : Nat} {d : D} {G : Gp} {Q : K3} {E : X3} (h : S__law_value_words cs n d G Q E) : W__law_value_words T cs n d G Q E := by
  obtain ⟨hd, hl, hco, hw, q⟩ := h
  generalize hts : tkN n d = ts at hl hco hw q
  unfold W__law_value_words b__law_value_words
  refine seq_mid rfl (fun τ1 G1 => τ1 = [some d, some (.str (mkS [])), none, none, none, none] ∧ G1 = G) (fun N hN => ?_) ?_
  · walk_at "den"
    exact hN _ _ ⟨rfl, rfl⟩
  rintro τ1 G1 ⟨rfl, rfl⟩
  refine seq_mid rfl (fun τ1 G2 => τ1 = [some d, some (.str (mkS [])), some (.lst (strL ts)), none, none, none] ∧ G2 = G1) (fun N hN => ?_) ?_
  · walk_at "den"
    simp only [c__law_value_words, List.getElem?_cons_zero]
    refine ⟨hd, by rw [hts]; exact hl, ?_⟩
    rw [hts]
    exact hN _ _ ⟨rfl, rfl⟩
  rintro τ1 G2 ⟨rfl, rfl⟩
  refine seq_mid rfl (fun τ1 G3 => (∃ e1 e2 e3, τ1 = [some d, some (.str (mkS (wordsL ts))), some (.lst (strL ts)), e1, e2, e3]) ∧ G3 = G2) (fun N hN => ?_) ?_
  · simp only [sFor, forT]
    walk_at "den"
    simp only [itE, varE, List.getElem?_cons_zero, List.getElem?_cons_succ, Option.some.injEq, exists_eq_left']
    show True ∧ _
    refine ⟨trivial, ?_⟩
    refine for_by (fun rest τ G3 => ∃ s r o, ts = s ++ r ∧ rest = numb s.length (strL r) ∧ o ++ wordsL r = wordsL ts ∧ (∃ e1 e2 e3, τ = [some d, some (.str (mkS o)), some (.lst (strL ts)), e1, e2, e3]) ∧ G3 = G2) (fun _ _ _ _ => trivial) ?_ ?_ _ ⟨[], ts, [], rfl, rfl, rfl, ⟨_, _, _, rfl⟩, rfl⟩
    · rintro x r0 τ G3 N2 ⟨s, r, o, hs, hr0, ho, ⟨e1, e2, e3, rfl⟩, rfl⟩ hN2
      cases r with
      | nil => cases hr0
      | cons t r =>
        simp only [strL, List.map_cons, numb, List.cons.injEq] at hr0
        obtain ⟨rfl, rfl⟩ := hr0
        have hget : ts[s.length]? = some t := by rw [hs]; simp
        have hlo : o.length + (wordsL (t :: r)).length ≤ 90000 := by
          have := congrArg List.length ho
          rw [List.length_append] at this
          omega
        have hsz : ∀ l : List Nat, l.length ≤ 90000 → SzOk l := fun l h => szOk_small h
        refine ⟨rfl, ?_⟩
        simp only [setAll, List.set_cons_zero, List.set_cons_succ, List.getElem?_cons_zero, List.getElem?_cons_succ, Option.some.injEq, exists_eq_left']
        have fin : ∀ sp : List Nat, sp = (if t = [44] ∧ r.head? ≠ some [41] then [32] else []) → ∀ e3', N2 [some d, some (.str (mkS (o ++ t ++ sp))), some (.lst (strL ts)), some (.int (s.length : Nat)), some (.str (mkS t)), e3'] G3 := by
          intro sp hsp e3'
          refine hN2 _ _ ⟨s ++ [t], r, o ++ t ++ sp, by rw [hs]; simp, by simp [strL], ?_, ⟨_, _, _, rfl⟩, rfl⟩
          rw [← ho, wordsL, ← hsp]
          simp
        have hw2 : (wordsL (t :: r)).length = t.length + (if t = [44] ∧ r.head? ≠ some [41] then [32] else [] : List Nat).length + (wordsL r).length := by
          rw [wordsL, List.length_append, List.length_append]
        refine z_eq_str (b := [44]) ⟨_, tru_bl, ite_b (fun c => ?_) fun c => ?_⟩
        · have ht : t = [44] := of_decide_eq_true c
          cases r with
          | nil =>
            refine absurd ?_ hco
            rw [hs, ht]
            simp
          | cons u r =>
            have hu : ts[s.length + 1]? = some u := by rw [hs]; simp
            refine z_addI ?_
            show ixD (.lst (strL ts)) (.int ((s.length + 1 : Nat) : Int)) G3 _
            refine z_ix_lst rfl (strL_get hu) (z_ne_str (b := [41]) (z_add_str (hsz _ (by rw [List.length_append]; omega)) ⟨_, tru_bl, ite_b (fun c2 => ?_) fun c2 => ?_⟩))
            · have hne : u ≠ [41] := by simpa using c2
              have e : ([32] : List Nat) = (if t = [44] ∧ (u :: r).head? ≠ some [41] then [32] else []) := by rw [if_pos ⟨ht, by simpa using hne⟩]
              refine z_add_str (b := [32]) (hsz _ ?_) (fin [32] e _)
              rw [← e] at hw2
              simp at hw2 ⊢
              omega
            · have hne : u = [41] := by simpa using c2
              have e : ([] : List Nat) = (if t = [44] ∧ (u :: r).head? ≠ some [41] then [32] else []) := by rw [if_neg (by rw [hne]; simp)]
              refine z_add_str (b := []) (hsz _ ?_) (fin [] e _)
              simp
              omega
        · have ht : t ≠ [44] := of_decide_eq_false c
          refine z_add_str (hsz _ (by rw [List.length_append]; omega)) ⟨_, tru_bl, ite_f c ?_⟩
          have e : ([] : List Nat) = (if t = [44] ∧ r.head? ≠ some [41] then [32] else []) := by rw [if_neg (fun z => ht z.1)]
          refine z_add_str (b := []) (hsz _ ?_) (fin [] e _)
          simp
          omega
    · rintro τ G3 ⟨s, r, o, hs, hr0, ho, ⟨e1, e2, e3, rfl⟩, rfl⟩
      cases r with
      | nil =>
        have : o = wordsL ts := by simpa [wordsL] using ho
        subst this
        exact hN _ _ ⟨⟨_, _, _, rfl⟩, rfl⟩
      | cons x r => cases hr0
  rintro τ1 G3 ⟨⟨e1, e2, e3, rfl⟩, rfl⟩
  walk_at "den"
  exact q
theorem ok__law_value_words (cs : List Addr) (n : Nat) (F : FunD K "_law_value_words" "_law_value_words" (defArgs (top 68)) (defBody (top 68)) (defScope (top 68)) [] [] f fd) (g : GOk (c__law_value_words T cs n) k P w K mg base) : FnAt P w K mg base T (k + 2) f (sp__law_value_words cs n) := by
  refine fnAt3 F (F.bindsN fun _ _ _ _ _ _ us hl => match us, hl with | [_], _ => rfl) (ps := ["value"]) (C8.fnScope_by (by kernel_rfl)) rfl g (b__law_value_words _) (k__law_value_words T cs n) (fun ds G Q E h => ?_) (fun ds G Q E h => ?_)
  · rcases ds with _ | ⟨a0, _ | r⟩ <;> first | rfl | exact False.elim h
  · rcases ds with _ | ⟨a0, _ | r⟩ <;> first | exact False.elim h | exact p__law_value_words h
end W75
set_option Elab.async false
set_option linter.all false
set_option maxRecDepth 100000
set_option maxHeartbeats 1000000
namespace W75
open PySem PySem.Spec PyProof.Rows L2 LamX L3 Hd
local macro_rules | `(tactic| walk_at "den") => `(tactic| simp only [List.map, sRet, sSet, sSetLc, sAsg, sPar, sPar3, sExpr, sPass, sBreak, sCont, sIf, sWhile, sFor, sAug, sFld3, sFldAug3, sSub, sRaise,
  seqT, retT, setT, asgT, parT, dropT, ifT, augT, fldT, fldAugT, subT, rzT, eAnds, eOrs, eNot, eBf, eVar, eTy, eInt, eStr, eBl, eNon, eGlob, eBin, eNeg, eCmp, eChain, eIf, eTup, eLst, eFrz, eIx, eSl, eFld, eCall, eCall0, eBm, eOm, eLc, eMake, eDisp, eGcd, iSeq, iLst, iTupl, iTxt, L3.iRng1, L3.iRng2, iEnm, iEnmT, iRngDn, eDict0, L3.ifsT,
  tCmp3, tChain3, tTru, tNot3, tAnds, tOrs, testT, truT, notT, andT, orT, andE, orE, notE, ifE, cE', argT, varE, cE, opE, unE, chainE, tupE, lstE, slE, optE, spE, mtE, omE, makeE, dispE, Bf.r, Bm.r, Bm.ty, Tg.t, setAll, Option.map,
  List.getElem?_cons_zero, List.getElem?_cons_succ, List.set_cons_zero, List.set_cons_succ, Option.some.injEq, exists_eq_left', List.length_cons, List.length_nil, Nat.reduceAdd, true_and, binD, cmpD, augD, fnSp, mtC, mkC, rzC, gvD])
variable {P : Program} {w : World} {K : PySem.W.Frag} {mg : Str → Option Value} {base : Heap} {T : List (Addr × Str)} {k : Nat} {f : Addr} {fd : FuncData}
/-! ### the law's own reader -/
def rdNum (ts : List (List Nat)) (n : Nat) : Nat × Bool :=
  let neg := decide (tokAt ts n = [45])
  let s := if neg then n + 1 else n
  let top := tokAt ts s
  if !isNum top 4000 || (neg && decide (top = [48])) then (s, false)
  else if !decide (ts[s + 1]? = some [47]) || decide (top = [48]) then (s + 1, true)
  else
    let low := tokAt ts (s + 2)
    if isNum low 4000 && decide (1 < numV low) && decide (Nat.gcd (numV top).natAbs (numV low).natAbs = 1) then (s + 3, true) else (s + 2, false)
def rdL (rd : Nat → Nat × Bool) (ts : List (List Nat)) : Nat → Nat → Bool → Nat → Nat × Bool
  | 0, a, _, _ => (a, false)
  | k + 1, a, right, many =>
    if right = true ∧ ts[a]? = some [44] then
      if many = 1 ∧ ts[a + 1]? = some [41] then (a + 2, true)
      else rdL rd ts k (rd (a + 1)).1 (rd (a + 1)).2 (many + 1)
    else if right = false then (a, false)
    else if 1 < many ∧ ts[a]? = some [41] then (a + 1, true) else (a, false)
def rdM (ts : List (List Nat)) : Nat → Nat → Nat × Bool
  | 0, n => rdNum ts n
  | d + 1, n => if tokAt ts n = [40] then
      if ts[n + 1]? = some [41] then (n + 2, true) else rdL (rdM ts d) ts (ts.length + 2) (rdM ts d (n + 1)).1 (rdM ts d (n + 1)).2 1
    else rdNum ts n
/-- the open brackets from n on -/
def cntO (ts : List (List Nat)) (n : Nat) : Nat := ((ts.drop n).filter fun t => decide (t = [40])).length
theorem take1 {α : Type} (ts : List α) (n : Nat) : (ts.drop n).take 1 = match ts[n]? with
    | some x => [x]
    | none => [] := by
  cases e : ts[n]? with
  | none =>
    have : ts.length ≤ n := by
      by_cases h : n < ts.length
      · rw [List.getElem?_eq_getElem h] at e; cases e
      · omega
    rw [List.drop_eq_nil_of_le this]
    rfl
  | some x =>
    have h : n < ts.length := by
      by_cases h : n < ts.length
      · exact h
      · rw [List.getElem?_eq_none (by omega)] at e; cases e
    rw [List.drop_eq_getElem_cons h]
    rw [List.getElem?_eq_getElem h] at e
    cases e
    rfl
def optL : Option (List Nat) → List D
  | some x => [.str (mkS x)]
  | none => []
/-- tokens[n:n+1] == [w] -/
theorem sl1 {ts : List (List Nat)} {n : Nat} : cutL (strL ts) (some (n : Int)) (some ((n + 1 : Nat) : Int)) = optL ts[n]? := by
  rw [cut_nat, show n + 1 - n = 1 by omega, take1]
  unfold strL
  rw [List.getElem?_map]
  cases ts[n]? <;> rfl
/-- s == [w], s of texts -/
def ChOk (w : List Nat) : Prop := w.all (· < 0x110000) = true
theorem shp1 {x : List Nat} (h : ChOk x) : SeqAt.shaped (.list [.str (mkS x)]) = true := by
  have h1 : PyData.canLay0 (.list [.str (mkS x)]) = true := by
    simp only [PyData.canLay0, PyData.canLayAll0, Bool.and_true]
    show (mkS x).cps.all (· < 0x110000) = true
    rw [← h]
    show x.toArray.all (fun c => decide (c < 0x110000)) = _
    simp
  have h2 : PyData.depth (.list [.str (mkS x)]) ≤ 64 := by
    simp only [PyData.depth, PyData.depthAll]
    omega
  unfold SeqAt.shaped
  rw [h1, decide_eq_true h2]
  rfl
theorem z_eqL1 {neg : Bool} {G : Gp} {Q : K3} {o : Option (List Nat)} {w : List Nat} (ho : ∀ x, o = some x → ChOk x) (hw : ChOk w) (q : Q (.bl (if neg then !decide (o = some w) else decide (o = some w))) G) : eqD neg (.lst (optL o)) (.lst [.str (mkS w)]) G Q := by
  refine eqD_lst rfl rfl ?_
  cases o with
  | none =>
    refine .inr ⟨_, _, rfl, rfl, by simp [optL], ?_⟩
    have e : (if neg = true then !decide ((none : Option (List Nat)) = some w) else decide ((none : Option (List Nat)) = some w)) = neg := by cases neg <;> rfl
    rw [e] at q
    exact q
  | some x =>
    refine .inl ⟨.list [.str (mkS x)], .list [.str (mkS w)], .lst rfl (.cons (.str _) .nil), .lst rfl (.cons (.str _) .nil), shp1 (ho x rfl), shp1 hw, ?_⟩
    have e : PyData.eqv (.list [.str (mkS x)]) (.list [.str (mkS w)]) = decide (some x = some w) := by
      have : decide (some x = some w) = decide (mkS x = mkS w) := by rw [dec_mkS]; simp
      rw [this]
      simp only [PyData.eqv, PyData.eqvAll, Bool.and_true]
      rfl
    rw [e]
    exact q
/-- tokens[n:m] == [w] -/
theorem z_sl1 {neg : Bool} {ts : List (List Nat)} {i j : Int} {n : Nat} {G : Gp} {Q : K3} {w : List Nat} (hi : i = (n : Nat)) (hj : j = ((n + 1 : Nat) : Int)) (ht : ∀ w ∈ ts, ChOk w) (hw : ChOk w) (q : Q (.bl (if neg then !decide (ts[n]? = some w) else decide (ts[n]? = some w))) G) :
    slD false (.lst (strL ts)) (some i) (some j) G fun d G1 => 1 ≤ sizeLine ∧ mkL false [.str (mkS w)] G1 fun y G2 => eqD neg d y G2 Q := by
  subst hi hj
  refine z_sl_lst rfl ⟨by decide, z_mkF ?_⟩
  rw [sl1]
  exact z_eqL1 (fun x hx => ht x (List.mem_of_getElem? hx)) hw q
def rdPair (r : Nat × Bool) : D := .tup [.int (r.1 : Nat), .bl r.2]
def S__law_read (d : Nat) (x a : D) (G : Gp) (Q : K3) (E : X3) : Prop := ∃ (ts : List (List Nat)) (n : Nat), x = .lst (strL ts) ∧ a = .int n ∧ ts.length ≤ 1000 ∧ TokOk ts ∧ (∀ w ∈ ts, ChOk w) ∧ n ≤ ts.length ∧ cntO ts n ≤ d ∧ Q (rdPair (rdM ts d n)) G
def sp__law_read' : Nat → Sp3
  | 0 => fun _ _ _ _ => False
  | n + 1 => fun ds G Q E => match ds with
    | [x, y] => S__law_read n x y G Q E
    | _ => False
abbrev s__law_read : Stmt := (top 70)
def n__law_read : List Str := ["tokens", "at", "token", "right", "many", "start", "top", "low", "good"]
def b__law_read (c : Cn) : List (CS c) := [sSet 2 (eIf (tCmp3 .Lt (eVar 1) (eBf .len [(eVar 0)])) (eIx (eVar 0) (eVar 1)) (eStr "")), sIf (tCmp3 .Eq (eVar 2) (eStr "(")) [sIf (tCmp3 .Eq (eSl (eVar 0) (some (eBin .Add (eVar 1) (eInt 1))) (some (eBin .Add (eVar 1) (eInt 2)))) (eLst [(eStr ")")])) [sRet (eTup [(eBin .Add (eVar 1) (eInt 2)), (eBl true)])] [], sAsg (.tup [1, 3]) (eCall 0 [(eVar 0), (eBin .Add (eVar 1) (eInt 1))]), sSet 4 (eInt 1), sWhile (tAnds [(tTru (eVar 3)), (tCmp3 .Eq (eSl (eVar 0) (some (eVar 1)) (some (eBin .Add (eVar 1) (eInt 1)))) (eLst [(eStr ",")]))]) [sIf (tAnds [(tCmp3 .Eq (eVar 4) (eInt 1)), (tCmp3 .Eq (eSl (eVar 0) (some (eBin .Add (eVar 1) (eInt 1))) (some (eBin .Add (eVar 1) (eInt 2)))) (eLst [(eStr ")")]))]) [sRet (eTup [(eBin .Add (eVar 1) (eInt 2)), (eBl true)])] [], sAsg (.tup [1, 3]) (eCall 0 [(eVar 0), (eBin .Add (eVar 1) (eInt 1))]), sSet 4 (eBin .Add (eVar 4) (eInt 1))], sIf (tNot3 (tTru (eVar 3))) [sRet (eTup [(eVar 1), (eBl false)])] [], sRet (eIf (tAnds [(tCmp3 .Gt (eVar 4) (eInt 1)), (tCmp3 .Eq (eSl (eVar 0) (some (eVar 1)) (some (eBin .Add (eVar 1) (eInt 1)))) (eLst [(eStr ")")]))]) (eTup [(eBin .Add (eVar 1) (eInt 1)), (eBl true)]) (eTup [(eVar 1), (eBl false)]))] [], sSet 5 (eIf (tCmp3 .Eq (eVar 2) (eStr "-")) (eBin .Add (eVar 1) (eInt 1)) (eVar 1)), sSet 6 (eIf (tCmp3 .Lt (eVar 5) (eBf .len [(eVar 0)])) (eIx (eVar 0) (eVar 5)) (eStr "")), sIf (tOrs [(tNot3 (tTru (eCall 1 [(eVar 6)]))), (tAnds [(tCmp3 .Eq (eVar 2) (eStr "-")), (tCmp3 .Eq (eVar 6) (eStr "0"))])]) [sRet (eTup [(eVar 5), (eBl false)])] [], sIf (tOrs [(tCmp3 .NotEq (eSl (eVar 0) (some (eBin .Add (eVar 5) (eInt 1))) (some (eBin .Add (eVar 5) (eInt 2)))) (eLst [(eStr "/")])), (tCmp3 .Eq (eVar 6) (eStr "0"))]) [sRet (eTup [(eBin .Add (eVar 5) (eInt 1)), (eBl true)])] [], sSet 7 (eIf (tCmp3 .Lt (eBin .Add (eVar 5) (eInt 2)) (eBf .len [(eVar 0)])) (eIx (eVar 0) (eBin .Add (eVar 5) (eInt 2))) (eStr "")), sSet 8 (eAnds [(eCall 1 [(eVar 7)]), (eCmp .Gt (eBf .int [(eVar 7)]) (eInt 1)), (eCmp .Eq (eCall 2 [(eBf .int [(eVar 6)]), (eBf .int [(eVar 7)])]) (eInt 1))]), sRet (eIf (tTru (eVar 8)) (eTup [(eBin .Add (eVar 5) (eInt 3)), (eBl true)]) (eTup [(eBin .Add (eVar 5) (eInt 2)), (eBl false)]))]
def c__law_read (T : List (Addr × Str)) (n : Nat) : Cn := { T := T, N := n__law_read, nm := (defScope (top 70)).names, fn := [("_law_read", sp__law_read' n), ("_law_is_figures", sp__law_is_figures), ("_law_divisor", sp__law_divisor)], bt := ["len", "int"] }
theorem k__law_read (T : List (Addr × Str)) (n : Nat) : chkSs (b__law_read (c__law_read T n)) (defBody (top 70)) = true := by kernel_rfl
def sp__law_read (n : Nat) : Sp3 := fun ds G Q E => match ds with
  | [a0, a1] => S__law_read n a0 a1 G Q E
  | _ => False
abbrev W__law_read (T : List (Addr × Str)) (n : Nat) (a0 a1 : D) (G : Gp) (Q : K3) (E : X3) : Prop := seqT ((b__law_read (c__law_read T n)).map (·.t)) { nx := fun _ G' => Q .non G', rt := Q, xe := E } [some a0, some a1, none, none, none, none, none, none, none] G
theorem rdNum_le {ts : List (List Nat)} {n : Nat} : n ≤ (rdNum ts n).1 := by
  unfold rdNum
  dsimp only
  have : n ≤ (if decide (tokAt ts n = [45]) = true then n + 1 else n) := by split <;> omega
  repeat' split
  all_goals (first | omega | (dsimp only; omega))
theorem rdL_le {rd : Nat → Nat × Bool} {ts : List (List Nat)} (hr : ∀ n, n ≤ (rd n).1) : ∀ k a r m, a ≤ (rdL rd ts k a r m).1
  | 0, a, _, _ => Nat.le_refl _
  | k + 1, a, r, m => by
    have h1 := hr (a + 1)
    have h2 := rdL_le (ts := ts) hr k (rd (a + 1)).1 (rd (a + 1)).2 (m + 1)
    rw [rdL]
    repeat' split
    all_goals (first | omega | (dsimp only; omega))
theorem rdM_le {ts : List (List Nat)} : ∀ d n, n ≤ (rdM ts d n).1
  | 0, n => rdNum_le
  | d + 1, n => by
    have h1 := rdM_le (ts := ts) d (n + 1)
    have h2 := rdL_le (ts := ts) (rdM_le (ts := ts) d) (ts.length + 2) (rdM ts d (n + 1)).1 (rdM ts d (n + 1)).2 1
    have h3 := rdNum_le (ts := ts) (n := n)
    rw [rdM]
    repeat' split
    all_goals (first | omega | (dsimp only; omega))
theorem cntO_step {ts : List (List Nat)} {n : Nat} (h : tokAt ts n = [40]) : cntO ts n = cntO ts (n + 1) + 1 ∧ n < ts.length := by
  have hg : ts[n]? = some [40] := by
    rw [← h]
    exact tokAt_get (by rw [h]; decide)
  have hn : n < ts.length := by
    by_cases z : n < ts.length
    · exact z
    · rw [List.getElem?_eq_none (by omega)] at hg; cases hg
  refine ⟨?_, hn⟩
  unfold cntO
  rw [List.drop_eq_getElem_cons hn]
  rw [List.getElem?_eq_getElem hn] at hg
  rw [Option.some.inj hg, List.filter_cons_of_pos (by decide)]
  rfl
theorem cntO_le {ts : List (List Nat)} : ∀ {n m : Nat}, n ≤ m → cntO ts m ≤ cntO ts n := by
  intro n m h
  obtain ⟨d, rfl⟩ := Nat.exists_eq_add_of_le h
  unfold cntO
  rw [← List.drop_drop]
  exact ((List.drop_sublist d _).filter _).length_le
theorem p__law_read {n : Nat} {x a : D} {G : Gp} {Q : K3} {E : X3} (h : S__law_read n x a G Q E) : W__law_read T n x a G Q E := by
  obtain ⟨ts, k, rfl, rfl, hl, ht, hch, hk, hc, q⟩ := h
  have hlen : (strL ts).length = ts.length := List.length_map ..
  have get : ∀ (i : Nat) {P1 : K3} {G1 : Gp}, P1 (.str (mkS (tokAt ts i))) G1 → lenD [.lst (strL ts)] G1 (fun y G2 => ordD (fun i j => decide (i < j)) (.int i) y G2 fun d G3 => ∃ b, d = .bl b ∧ if b = true then ixD (.lst (strL ts)) (.int i) G3 P1 else P1 (.str (Str.ofString "")) G3) := by
    intro i P1 G1 hp
    refine z_len_lst rfl (z_ord ⟨_, rfl, ?_⟩)
    rw [hlen]
    refine ite_b (fun c => ?_) fun c => ?_
    · have hi : i < ts.length := by simpa using c
      have e : ts[i]? = some (tokAt ts i) := by unfold tokAt; rw [List.getElem?_eq_getElem hi]; rfl
      exact z_ix_lst rfl (strL_get e) hp
    · have hi : ¬ i < ts.length := by simpa using c
      have e : tokAt ts i = [] := by unfold tokAt; rw [List.getElem?_eq_none (by omega)]; rfl
      rw [e] at hp
      exact hp
  unfold W__law_read b__law_read
  refine seq_mid rfl (fun τ1 G1 => τ1 = [some (.lst (strL ts)), some (.int k), some (.str (mkS (tokAt ts k))), none, none, none, none, none, none] ∧ G1 = G) (fun N hN => ?_) ?_
  · walk_at "den"
    exact get k (hN _ _ ⟨rfl, rfl⟩)
  rintro τ1 G1 ⟨rfl, rfl⟩
  by_cases hop : tokAt ts k = [40]
  · walk_at "den"
    obtain ⟨hc1, hk1⟩ := cntO_step hop
    cases n with
    | zero => omega
    | succ n =>
    unfold rdM at q
    rw [if_pos hop] at q
    refine z_eq_str (b := [40]) ⟨_, rfl, ite_t (decide_eq_true hop) ?_⟩
    refine z_addI (z_addI (z_sl1 (n := k + 1) (w := [41]) (by omega) (by omega) hch rfl ⟨_, rfl, ite_b (fun c => ?_) fun c => ?_⟩))
    · have c2 : ts[k + 1]? = some [41] := by simpa using c
      rw [if_pos c2] at q
      refine z_addI ⟨by decide, ?_⟩
      exact q
    · have c2 : ¬ ts[k + 1]? = some [41] := by simpa using c
      rw [if_neg c2] at q
      refine z_addI ?_
      simp only [c__law_read, List.getElem?_cons_zero, sp__law_read', S__law_read]
      refine ⟨ts, k + 1, rfl, rfl, hl, ht, hch, hk1, by omega, rfl, ?_⟩
      refine while_by (fun f τ G2 => ∃ a r m, τ = [some (.lst (strL ts)), some (.int (a : Nat)), some (.str (mkS (tokAt ts k))), some (.bl r), some (.int (m : Nat)), none, none, none, none] ∧ G2 = G1 ∧ k + 1 ≤ a ∧ 1 ≤ f ∧ ts.length + 2 ≤ f + a ∧ 1 ≤ m ∧ Q (rdPair (rdL (rdM ts n) ts f a r m)) G1) (ts.length + 2) ?_ ⟨_, _, 1, rfl, rfl, rdM_le n (k + 1), by omega, by omega, by omega, q⟩
      clear q
      rintro f τ G2 N ⟨a, r, m, rfl, rfl, ha, hf, hfa, hm, q⟩ hN
      cases f with
      | zero => omega
      | succ f =>
      unfold rdL at q
      walk_at "den"
      refine ⟨r, tru_bl, ite_b (fun cr => ?_) fun cr => ?_⟩
      · subst cr
        refine z_addI (z_sl1 (n := a) (w := [44]) (by omega) (by omega) hch rfl ⟨_, rfl, ite_b (fun cc => ?_) fun cc => ?_⟩)
        · have c44 : ts[a]? = some [44] := by simpa using cc
          have hal : a < ts.length := by
            by_cases z : a < ts.length
            · exact z
            · rw [List.getElem?_eq_none (by omega)] at c44; cases c44
          have hco : cntO ts (a + 1) ≤ n := by
            have := cntO_le (ts := ts) (show k + 1 ≤ a + 1 by omega)
            omega
          have hle := rdM_le (ts := ts) n (a + 1)
          rw [if_pos ⟨rfl, c44⟩] at q
          refine z_eqI ⟨_, rfl, ite_b (fun cm => ?_) fun cm => ?_⟩
          · have hm1 : m = 1 := by have := of_decide_eq_true cm; omega
            refine z_addI (z_addI (z_sl1 (n := a + 1) (w := [41]) (by omega) (by omega) hch rfl ⟨_, rfl, ite_b (fun c5 => ?_) fun c5 => ?_⟩))
            · rw [if_pos ⟨hm1, by simpa using c5⟩] at q
              exact z_addI ⟨by decide, q⟩
            · have h41 : ¬ ts[a + 1]? = some [41] := by simpa using c5
              rw [if_neg fun h => h41 h.2] at q
              exact z_addI ⟨ts, a + 1, rfl, rfl, hl, ht, hch, hal, hco, rfl, .int m, rfl, z_addI (hN f _ _ (Nat.lt_succ_self f) ⟨_, _, m + 1, rfl, rfl, by omega, by omega, by omega, by omega, q⟩)⟩
          · have hm1 : ¬ m = 1 := by
              have := of_decide_eq_false cm
              omega
            rw [if_neg fun h => hm1 h.1] at q
            exact ite_f rfl (z_addI ⟨ts, a + 1, rfl, rfl, hl, ht, hch, hal, hco, rfl, .int m, rfl, z_addI (hN f _ _ (Nat.lt_succ_self f) ⟨_, _, m + 1, rfl, rfl, by omega, by omega, by omega, by omega, q⟩)⟩)
        · have c44 : ¬ ts[a]? = some [44] := by simpa using cc
          rw [if_neg fun h => c44 h.2, if_neg (by decide)] at q
          refine ⟨true, tru_bl, ite_f rfl (z_ord ⟨_, rfl, ite_b (fun cm => ?_) fun cm => ?_⟩)⟩
          · have hm1 : 1 < m := by have := of_decide_eq_true cm; omega
            refine z_addI (z_sl1 (n := a) (w := [41]) (by omega) (by omega) hch rfl ⟨_, rfl, ite_b (fun c5 => ?_) fun c5 => ?_⟩)
            · rw [if_pos ⟨hm1, by simpa using c5⟩] at q
              exact z_addI ⟨by decide, q⟩
            · have h41 : ¬ ts[a]? = some [41] := by simpa using c5
              rw [if_neg fun h => h41 h.2] at q
              exact ⟨by decide, q⟩
          · have hm1 : ¬ 1 < m := by have := of_decide_eq_false cm; omega
            rw [if_neg fun h => hm1 h.1] at q
            exact ite_f rfl ⟨by decide, q⟩
      · subst cr
        rw [if_neg (by simp), if_pos rfl] at q
        exact ite_f rfl ⟨false, tru_bl, ite_t rfl ⟨by decide, q⟩⟩
  · have q' : Q (rdPair (rdNum ts k)) G1 := by
      cases n with
      | zero => exact q
      | succ n => unfold rdM at q; rw [if_neg hop] at q; exact q
    clear q
    rename Q (rdPair (rdNum ts k)) G1 => q
    refine seq_mid rfl (fun τ1 G2 => τ1 = [some (.lst (strL ts)), some (.int k), some (.str (mkS (tokAt ts k))), none, none, none, none, none, none] ∧ G2 = G1) (fun N hN => ?_) ?_
    · walk_at "den"
      exact z_eq_str (b := [40]) ⟨_, rfl, ite_f (decide_eq_false hop) (hN _ _ ⟨rfl, rfl⟩)⟩
    rintro τ1 G2 ⟨rfl, rfl⟩
    unfold rdNum at q
    dsimp only at q
    generalize hs : (if decide (tokAt ts k = [45]) = true then k + 1 else k) = s at q
    generalize hng : decide (tokAt ts k = [45]) = neg at q hs
    refine seq_mid rfl (fun τ1 G3 => τ1 = [some (.lst (strL ts)), some (.int k), some (.str (mkS (tokAt ts k))), none, none, some (.int s), none, none, none] ∧ G3 = G2) (fun N hN => ?_) ?_
    · walk_at "den"
      refine z_eq_str (b := [45]) ⟨_, rfl, ?_⟩
      rw [hng]
      refine ite_b (fun c => ?_) fun c => ?_
      · rw [if_pos c] at hs
        subst hs
        exact z_addI (hN _ _ ⟨rfl, rfl⟩)
      · rw [if_neg (by rw [c]; decide)] at hs
        subst hs
        exact hN _ _ ⟨rfl, rfl⟩
    rintro τ1 G3 ⟨rfl, rfl⟩
    refine seq_mid rfl (fun τ1 G4 => τ1 = [some (.lst (strL ts)), some (.int k), some (.str (mkS (tokAt ts k))), none, none, some (.int s), some (.str (mkS (tokAt ts s))), none, none] ∧ G4 = G3) (fun N hN => ?_) ?_
    · walk_at "den"
      exact get s (hN _ _ ⟨rfl, rfl⟩)
    rintro τ1 G4 ⟨rfl, rfl⟩
    have sz : ∀ i, SzOk (tokAt ts i) := fun i => (tokOk_at ht i).1
    refine seq_mid rfl (fun τ1 G5 => τ1 = [some (.lst (strL ts)), some (.int k), some (.str (mkS (tokAt ts k))), none, none, some (.int s), some (.str (mkS (tokAt ts s))), none, none] ∧ G5 = G4 ∧ (!isNum (tokAt ts s) 4000 || neg && decide (tokAt ts s = [48])) = false) (fun N hN => ?_) ?_
    · walk_at "den"
      simp only [c__law_read, List.getElem?_cons_zero, List.getElem?_cons_succ]
      refine ⟨_, rfl, sz s, _, tru_bl, ite_b (fun c => ?_) fun c => ?_⟩
      · rw [if_pos (by rw [c]; rfl)] at q
        rw [if_pos trivial]
        exact ⟨by decide, q⟩
      · refine z_eq_str (b := [45]) ⟨_, rfl, ?_⟩
        rw [hng]
        refine ite_b (fun cn => ?_) fun cn => ?_
        · refine z_eq_str (b := [48]) ⟨_, rfl, ite_b (fun c0 => ?_) fun c0 => ?_⟩
          · rw [if_pos (by rw [c, cn, c0]; rfl)] at q
            exact ⟨by decide, q⟩
          · exact hN _ _ ⟨rfl, rfl, by rw [c, c0, Bool.and_false]; rfl⟩
        · exact ite_f rfl (hN _ _ ⟨rfl, rfl, by rw [c, cn]; rfl⟩)
    rintro τ1 G5 ⟨rfl, rfl, hfig⟩
    rw [if_neg (by rw [hfig]; decide)] at q
    have hn1 : isNum (tokAt ts s) 4000 = true := by
      cases z : isNum (tokAt ts s) 4000 with
      | true => rfl
      | false => rw [z] at hfig; exact absurd hfig (by simp)
    refine seq_mid rfl (fun τ1 G6 => τ1 = [some (.lst (strL ts)), some (.int k), some (.str (mkS (tokAt ts k))), none, none, some (.int s), some (.str (mkS (tokAt ts s))), none, none] ∧ G6 = G5 ∧ (!decide (ts[s + 1]? = some [47]) || decide (tokAt ts s = [48])) = false) (fun N hN => ?_) ?_
    · walk_at "den"
      refine z_addI (z_addI (z_sl1 (n := s + 1) (w := [47]) (by omega) (by omega) hch rfl ⟨_, rfl, ite_b (fun c => ?_) fun c => ?_⟩))
      · rw [if_pos (by rw [show (!decide (ts[s + 1]? = some [47])) = true from c]; rfl)] at q
        rw [if_pos trivial]
        exact z_addI ⟨by decide, q⟩
      · have c : (!decide (ts[s + 1]? = some [47])) = false := c
        refine z_eq_str (b := [48]) ⟨_, rfl, ite_b (fun c0 => ?_) fun c0 => ?_⟩
        · rw [if_pos (by rw [c, c0]; rfl)] at q
          exact z_addI ⟨by decide, q⟩
        · exact hN _ _ ⟨rfl, rfl, by rw [c, c0]; rfl⟩
    rintro τ1 G6 ⟨rfl, rfl, hsl⟩
    rw [if_neg (by rw [hsl]; decide)] at q
    refine seq_mid rfl (fun τ1 G7 => τ1 = [some (.lst (strL ts)), some (.int k), some (.str (mkS (tokAt ts k))), none, none, some (.int s), some (.str (mkS (tokAt ts s))), some (.str (mkS (tokAt ts (s + 2)))), none] ∧ G7 = G6) (fun N hN => ?_) ?_
    · walk_at "den"
      exact z_addI (get (s + 2) (hN _ _ ⟨rfl, rfl⟩))
    rintro τ1 G7 ⟨rfl, rfl⟩
    walk_at "den"
    simp only [c__law_read, List.getElem?_cons_zero, List.getElem?_cons_succ]
    have n1 := numV_text hn1 (num_small ht (by decide) hn1)
    have s1 := num_small ht (by decide) hn1
    generalize hb : (isNum (tokAt ts (s + 2)) 4000 && decide (1 < numV (tokAt ts (s + 2))) && decide ((numV (tokAt ts s)).natAbs.gcd (numV (tokAt ts (s + 2))).natAbs = 1)) = b at q
    have fin : ∃ b', truD G7 (.bl b) = some b' ∧ if b' = true then addD false (.int s) (.int 3) G7 fun d G1 => 2 ≤ sizeLine ∧ Q (.tup [d, .bl true]) G1 else addD false (.int s) (.int 2) G7 fun d G1 => 2 ≤ sizeLine ∧ Q (.tup [d, .bl false]) G1 := by
      refine ⟨b, tru_bl, ite_b (fun c => ?_) fun c => ?_⟩
      · rw [if_pos c] at q
        exact z_addI ⟨by decide, q⟩
      · rw [if_neg (by rw [c]; decide)] at q
        exact z_addI ⟨by decide, q⟩
    refine ⟨_, rfl, sz _, _, tru_bl, ite_b (fun c => ?_) fun c => ?_⟩
    · have n2 := numV_text c (num_small ht (by decide) c)
      have s2 := num_small ht (by decide) c
      rw [c, Bool.true_and] at hb
      refine ⟨_, n2, s2, z_ord ⟨_, tru_bl, ite_b (fun c2 => ?_) fun c2 => ?_⟩⟩
      · rw [show decide (1 < numV (tokAt ts (s + 2))) = true from c2, Bool.true_and] at hb
        refine ⟨_, n1, s1, _, n2, s2, _, _, rfl, rfl, z_eqI ?_⟩
        have e : decide (((numV (tokAt ts s)).natAbs.gcd (numV (tokAt ts (s + 2))).natAbs : Int) = 1) = b := by
          rw [← hb]
          exact decide_eq_decide.mpr (by omega)
        rw [e]
        exact fin
      · rw [show decide (1 < numV (tokAt ts (s + 2))) = false from c2, Bool.false_and] at hb
        subst hb
        rw [show decide (1 < numV (tokAt ts (s + 2))) = false from c2]
        exact fin
    · rw [c] at hb
      have hb : false = b := hb
      subst hb
      rw [c]
      exact fin
theorem ok__law_read (n : Nat) (F : FunD K "_law_read" "_law_read" (defArgs (top 70)) (defBody (top 70)) (defScope (top 70)) [] [] f fd) (g : GOk (c__law_read T n) k P w K mg base) : FnAt P w K mg base T (k + 2) f (sp__law_read n) := by
  refine fnAt3 F (F.bindsN fun _ _ _ _ _ _ us hl => match us, hl with | [_, _], _ => rfl) (ps := ["tokens", "at"]) (C8.fnScope_by (by kernel_rfl)) rfl g (b__law_read _) (k__law_read T n) (fun ds G Q E h => ?_) (fun ds G Q E h => ?_)
  · rcases ds with _ | ⟨a0, _ | ⟨a1, _ | r⟩⟩ <;> first | rfl | exact False.elim h
  · rcases ds with _ | ⟨a0, _ | ⟨a1, _ | r⟩⟩ <;> first | exact False.elim h | exact p__law_read h
end W75
set_option Elab.async false
set_option linter.all false
set_option maxRecDepth 100000
set_option maxHeartbeats 1000000
namespace W75
open PySem PySem.Spec PyProof.Rows L2 LamX L3 Hd
local macro_rules | `(tactic| walk_at "den") => `(tactic| simp only [List.map, sRet, sSet, sSetLc, sAsg, sPar, sPar3, sExpr, sPass, sBreak, sCont, sIf, sWhile, sFor, sAug, sFld3, sFldAug3, sSub, sRaise,
  seqT, retT, setT, asgT, parT, dropT, ifT, augT, fldT, fldAugT, subT, rzT, eAnds, eOrs, eNot, eBf, eVar, eTy, eInt, eStr, eBl, eNon, eGlob, eBin, eNeg, eCmp, eChain, eIf, eTup, eLst, eFrz, eIx, eSl, eFld, eCall, eCall0, eBm, eOm, eLc, eMake, eDisp, eGcd, iSeq, iLst, iTupl, iTxt, L3.iRng1, L3.iRng2, iEnm, iEnmT, iRngDn, eDict0, L3.ifsT,
  tCmp3, tChain3, tTru, tNot3, tAnds, tOrs, testT, truT, notT, andT, orT, andE, orE, notE, ifE, cE', argT, varE, cE, opE, unE, chainE, tupE, lstE, slE, optE, spE, mtE, omE, makeE, dispE, Bf.r, Bm.r, Bm.ty, Tg.t, setAll, Option.map,
  List.getElem?_cons_zero, List.getElem?_cons_succ, List.set_cons_zero, List.set_cons_succ, Option.some.injEq, exists_eq_left', List.length_cons, List.length_nil, Nat.reduceAdd, true_and, binD, cmpD, augD, fnSp, mtC, mkC, rzC, gvD])
variable {P : Program} {w : World} {K : PySem.W.Frag} {mg : Str → Option Value} {base : Heap} {T : List (Addr × Str)} {k : Nat} {f : Addr} {fd : FuncData}
/-! ### one value is another -/
def IsV : Nat → D → Prop
  | _, .int _ => True
  | _, .str _ => True
  | n + 1, .tup l => l.length ≤ 1000 ∧ ∀ d ∈ l, IsV n d
  | _, _ => False
def S__law_is (cs : List Addr) (n : Nat) (x y : D) (G : Gp) (Q : K3) (E : X3) : Prop := x = y ∧ IsV n x ∧ Q (.bl true) G
def sp__law_is' (cs : List Addr) : Nat → Sp3
  | 0 => fun _ _ _ _ => False
  | n + 1 => fun ds G Q E => match ds with
    | [x, y] => S__law_is cs n x y G Q E
    | _ => False
theorem isV_cases : ∀ {n : Nat} {x : D}, IsV n x → (∃ i, x = .int i) ∨ (∃ w, x = .str w) ∨ ∃ m l, n = m + 1 ∧ x = .tup l ∧ l.length ≤ 1000 ∧ ∀ d ∈ l, IsV m d := by
  intro n x h
  cases x with
  | int i => exact .inl ⟨i, rfl⟩
  | str w => exact .inr (.inl ⟨w, rfl⟩)
  | tup l =>
    cases n with
    | zero => exact absurd h (by unfold IsV; exact id)
    | succ m => exact .inr (.inr ⟨m, l, rfl, rfl, h.1, h.2⟩)
  | _ => cases n <;> exact absurd h (by unfold IsV; exact id)
abbrev s__law_is : Stmt := (top 52)
def n__law_is : List Str := ["told", "due", "at"]
def b__law_is (c : Cn) : List (CS c) := [sIf (tTru (eBf .isi [(eVar 1), (eTy "tuple")])) [sIf (tOrs [(tNot3 (tTru (eBf .isi [(eVar 0), (eTy "tuple")]))), (tCmp3 .NotEq (eBf .len [(eVar 0)]) (eBf .len [(eVar 1)]))]) [sRet (eBl false)] [], sRet (eCmp .Eq (eLc (L3.iRng1 (eBf .len [(eVar 1)])) (.nm 2) (fun nm => some (tNot3 (tTru (eCall 0 [(eIx (eVar 0) (eVar 2)), (eIx (eVar 1) (eVar 2))])))) (fun nm => (eVar 2))) (eLst []))] [], sIf (tCmp3 .Is (eVar 1) eNon) [sRet (eCmp .Is (eVar 0) eNon)] [], sIf (tCmp3 .Is (eVar 1) (eBl true)) [sRet (eCmp .Is (eVar 0) (eBl true))] [], sIf (tCmp3 .Is (eVar 1) (eBl false)) [sRet (eCmp .Is (eVar 0) (eBl false))] [], sIf (tTru (eBf .isi [(eVar 1), (eTy "str")])) [sRet (eAnds [(eBf .isi [(eVar 0), (eTy "str")]), (eCmp .Eq (eVar 0) (eVar 1))])] [], sRet (eAnds [(eBf .isi [(eVar 0), (eTy "int")]), (eNot (eBf .isi [(eVar 0), (eTy "bool")])), (eCmp .Eq (eVar 0) (eVar 1))])]
def c__law_is (T : List (Addr × Str)) (cs : List Addr) (n : Nat) : Cn := { T := T, N := n__law_is, nm := (defScope (top 52)).names, fn := [("_law_is", sp__law_is' cs n)], bt := ["isinstance", "tuple", "len", "range", "str", "int", "bool"], cs := cs }
theorem k__law_is (T : List (Addr × Str)) (cs : List Addr) (n : Nat) : chkSs (b__law_is (c__law_is T cs n)) (defBody (top 52)) = true := by kernel_rfl
def sp__law_is (cs : List Addr) (n : Nat) : Sp3 := fun ds G Q E => match ds with
  | [a0, a1] => S__law_is cs n a0 a1 G Q E
  | _ => False
abbrev W__law_is (T : List (Addr × Str)) (cs : List Addr) (n : Nat) (a0 a1 : D) (G : Gp) (Q : K3) (E : X3) : Prop := seqT ((b__law_is (c__law_is T cs n)).map (·.t)) { nx := fun _ G' => Q .non G', rt := Q, xe := E } [some a0, some a1, none] G
theorem p__law_is {cs : List Addr} {n : Nat} {x y : D} {G : Gp} {Q : K3} {E : X3} (h : S__law_is cs n x y G Q E) : W__law_is T cs n x y G Q E := by
  obtain ⟨rfl, hv, q⟩ := h
  unfold W__law_is b__law_is
  walk_at "den"
  rcases isV_cases hv with ⟨i, rfl⟩ | ⟨w, rfl⟩ | ⟨n, l, rfl, rfl, hl, hv⟩
  · refine isi1 (kn_of rfl) ⟨_, tru_bl, ite_f (by decide) ⟨_, rfl, ite_f rfl ⟨_, rfl, ite_f rfl ⟨_, rfl, ite_f rfl (isi1 (kn_of rfl) ⟨_, tru_bl, ite_f (by decide) (isi1 (kn_of rfl) ⟨_, tru_bl, ite_t (by decide) (isi1 (kn_of rfl) ⟨_, tru_bl, _, tru_bl, ite_t (by decide) (z_eqI ?_)⟩)⟩)⟩)⟩⟩⟩⟩
    rw [decide_eq_true rfl]
    exact q
  · refine isi1 (kn_of rfl) ⟨_, tru_bl, ite_f (by decide) ⟨_, rfl, ite_f rfl ⟨_, rfl, ite_f rfl ⟨_, rfl, ite_f rfl (isi1 (kn_of rfl) ⟨_, tru_bl, ite_t (by decide) (isi1 (kn_of rfl) ⟨_, tru_bl, ite_t (by decide) ?_⟩)⟩)⟩⟩⟩⟩
    show Q (.bl (decide (w = w))) G
    rw [decide_eq_true rfl]
    exact q
  · refine isi1 (kn_of rfl) ⟨_, tru_bl, ite_t (by decide) (isi1 (kn_of rfl) ⟨_, tru_bl, ite_f (by decide) (z_len_tup (z_len_tup (z_neI ⟨_, rfl, ite_f (by rw [decide_eq_true rfl]; rfl) ?_⟩)))⟩)⟩
    simp only [lcE, itR1]
    walk_at "den"
    simp only [c__law_is, Cn.blk, List.getElem?_cons_zero, List.getElem?_cons_succ]
    refine z_len_tup ⟨⟨by omega, by omega⟩, fun p hp => ?_⟩
    refine lc_inv (fun rest acc G' => acc = [] ∧ G' = updG G p (.lst []) ∧ ∀ d ∈ rest, ∃ i, i < l.length ∧ d = .int (i : Nat)) ?_ ?_ ⟨rfl, rfl, ?_⟩
    · rintro d r acc G' N ⟨rfl, rfl, hr⟩ hN
      obtain ⟨i, hi, rfl⟩ := hr d (List.mem_cons_self ..)
      walk_at "den"
      simp only [wipe3, Tg.sl, List.foldl, List.set_cons_zero, List.set_cons_succ, List.getElem?_cons_zero, List.getElem?_cons_succ, Option.some.injEq, exists_eq_left']
      have hg : l[i]? = some l[i] := List.getElem?_eq_getElem hi
      refine z_ix_tup hg (z_ix_tup hg ?_)
      simp only [sp__law_is', S__law_is]
      exact ⟨trivial, hv _ (List.getElem_mem hi), true, tru_bl, ite_f rfl ⟨updG_same, hN _ _ ⟨rfl, rfl, fun d hd => hr d (List.mem_cons_of_mem _ hd)⟩⟩⟩
    · rintro acc G' ⟨rfl, rfl, _⟩
      rw [delG_updG hp]
      exact ite_f rfl ⟨by decide, z_mkF (z_eqNil rfl q)⟩
    · intro d hd
      unfold rngItems at hd
      obtain ⟨i, hi, rfl⟩ := List.mem_map.mp hd
      have hi : i < l.length := by simpa using List.mem_range.mp hi
      exact ⟨i, hi, by rw [Int.zero_add]⟩
theorem ok__law_is (cs : List Addr) (n : Nat) (F : FunD K "_law_is" "_law_is" (defArgs (top 52)) (defBody (top 52)) (defScope (top 52)) [] [] f fd) (g : GOk (c__law_is T cs n) k P w K mg base) : FnAt P w K mg base T (k + 2) f (sp__law_is cs n) := by
  refine fnAt3 F (F.bindsN fun _ _ _ _ _ _ us hl => match us, hl with | [_, _], _ => rfl) (ps := ["told", "due"]) (C8.fnScope_by (by kernel_rfl)) rfl g (b__law_is _) (k__law_is T cs n) (fun ds G Q E h => ?_) (fun ds G Q E h => ?_)
  · rcases ds with _ | ⟨a0, _ | ⟨a1, _ | r⟩⟩ <;> first | rfl | exact False.elim h
  · rcases ds with _ | ⟨a0, _ | ⟨a1, _ | r⟩⟩ <;> first | exact False.elim h | exact p__law_is h
end W75
set_option Elab.async false
set_option linter.all false
set_option maxRecDepth 100000
set_option maxHeartbeats 1000000
namespace W75
open PySem PySem.Spec PyProof.Rows L2 LamX L3 Hd
local macro_rules | `(tactic| walk_at "den") => `(tactic| simp only [List.map, sRet, sSet, sSetLc, sAsg, sPar, sPar3, sExpr, sPass, sBreak, sCont, sIf, sWhile, sFor, sAug, sFld3, sFldAug3, sSub, sRaise,
  seqT, retT, setT, asgT, parT, dropT, ifT, augT, fldT, fldAugT, subT, rzT, eAnds, eOrs, eNot, eBf, eVar, eTy, eInt, eStr, eBl, eNon, eGlob, eBin, eNeg, eCmp, eChain, eIf, eTup, eLst, eFrz, eIx, eSl, eFld, eCall, eCall0, eBm, eOm, eLc, eMake, eDisp, eGcd, iSeq, iLst, iTupl, iTxt, L3.iRng1, L3.iRng2, iEnm, iEnmT, iRngDn, eDict0, L3.ifsT,
  tCmp3, tChain3, tTru, tNot3, tAnds, tOrs, testT, truT, notT, andT, orT, andE, orE, notE, ifE, cE', argT, varE, cE, opE, unE, chainE, tupE, lstE, slE, optE, spE, mtE, omE, makeE, dispE, Bf.r, Bm.r, Bm.ty, Tg.t, setAll, Option.map,
  List.getElem?_cons_zero, List.getElem?_cons_succ, List.set_cons_zero, List.set_cons_succ, Option.some.injEq, exists_eq_left', List.length_cons, List.length_nil, Nat.reduceAdd, true_and, binD, cmpD, augD, fnSp, mtC, mkC, rzC, gvD])
variable {P : Program} {w : World} {K : PySem.W.Frag} {mg : Str → Option Value} {base : Heap} {T : List (Addr × Str)} {k : Nat} {f : Addr} {fd : FuncData}
/-! ### plain law: texts and their tokens -/
def Word (w : List Nat) : Prop := w ≠ [] ∧ w.all (inL INNERs) = true
def Sig (c : Nat) : Prop := inL INNERs c = false ∧ c ≠ 32 ∧ inL [60, 62] c = false
def NoWord (r : List Nat) : Prop := ∀ c, r.head? = some c → inL INNERs c = false
theorem runL_app {p : Nat → Bool} : ∀ {w r : List Nat}, w.all p = true → (∀ c, r.head? = some c → p c = false) → runL p (w ++ r) = w.length
  | [], [], _, _ => rfl
  | [], c :: r, _, h => by
    rw [List.nil_append, runL, if_neg (by rw [h c rfl]; decide)]
    rfl
  | c :: w, r, hw, h => by
    rw [List.all_cons, Bool.and_eq_true] at hw
    rw [List.cons_append, runL, if_pos hw.1, runL_app hw.2 h]
    rfl
theorem rest_word {p w r : List Nat} (hw : Word w) (hr : NoWord r) : rest (p ++ (w ++ r)) p.length = w :: rest (p ++ (w ++ r)) (p.length + w.length) := by
  obtain ⟨c, w', rfl⟩ : ∃ c w', w = c :: w' := by
    cases w with
    | nil => exact absurd rfl hw.1
    | cons c w => exact ⟨c, w, rfl⟩
  have hg : (p ++ (c :: w' ++ r))[p.length]? = some c := by simp
  have hc : inL INNERs c = true := by
    have := hw.2
    rw [List.all_cons, Bool.and_eq_true] at this
    exact this.1
  have h32 : inL INNERs 32 = false := by decide +kernel
  have he : endL (p ++ (c :: w' ++ r)) p.length = p.length + (c :: w').length := by
    unfold endL
    rw [hg]
    dsimp only
    rw [if_pos hc, List.drop_left, runL_app hw.2 hr]
  rw [rest_tok (by simp) (by rw [hg]; rintro h; cases h; rw [h32] at hc; cases hc), he, List.drop_left, Nat.add_sub_cancel_left, List.take_left]
theorem rest_sig {p r : List Nat} {c : Nat} (hc : Sig c) : rest (p ++ (c :: r)) p.length = [c] :: rest (p ++ (c :: r)) (p.length + 1) := by
  have hg : (p ++ (c :: r))[p.length]? = some c := by simp
  have he : endL (p ++ (c :: r)) p.length = p.length + 1 := by
    unfold endL
    rw [hg]
    dsimp only
    rw [if_neg (by rw [hc.1]; decide), hc.2.2, Bool.false_and, if_neg (by decide)]
  rw [rest_tok (by simp) (by rw [hg]; intro h; exact hc.2.1 (Option.some.inj h)), he, List.drop_left, Nat.add_sub_cancel_left]
  rfl
theorem rest_spc {p r : List Nat} : rest (p ++ (32 :: r)) p.length = rest (p ++ (32 :: r)) (p.length + 1) := rest_blank (by simp)
/-- tokens with blanks behind each -/
def txtP : List (List Nat × Nat) → List Nat
  | [] => []
  | x :: r => x.1 ++ (List.replicate x.2 32 ++ txtP r)
def GoodP : List (List Nat × Nat) → Prop
  | [] => True
  | x :: r => ((Word x.1 ∧ (x.2 = 0 → NoWord (txtP r))) ∨ ∃ c, x.1 = [c] ∧ Sig c) ∧ GoodP r
theorem rest_spcs {r : List Nat} : ∀ {k : Nat} {p : List Nat}, rest (p ++ (List.replicate k 32 ++ r)) p.length = rest (p ++ (List.replicate k 32 ++ r)) (p.length + k)
  | 0, p => rfl
  | k + 1, p => by
    have h1 := rest_spc (p := p) (r := List.replicate k 32 ++ r)
    have h2 := rest_spcs (r := r) (k := k) (p := p ++ [32])
    rw [List.replicate_succ, List.cons_append, h1]
    rw [List.append_assoc, List.length_append] at h2
    have e : [32] ++ (List.replicate k 32 ++ r) = 32 :: (List.replicate k 32 ++ r) := rfl
    rw [e] at h2
    rw [show p.length + (k + 1) = p.length + [32].length + k from by simp; omega]
    exact h2
theorem rest_txtP : ∀ {l : List (List Nat × Nat)} {p : List Nat}, GoodP l → rest (p ++ txtP l) p.length = l.map (·.1)
  | [], p, _ => rest_end (by simp [txtP])
  | (w, k) :: r, p, ⟨h, hr⟩ => by
    have h2 := rest_spcs (r := txtP r) (k := k) (p := p ++ w)
    have h3 := rest_txtP (p := p ++ w ++ List.replicate k 32) hr
    have e1 : p ++ w ++ (List.replicate k 32 ++ txtP r) = p ++ txtP ((w, k) :: r) := by simp [txtP]
    have e2 : p ++ w ++ List.replicate k 32 ++ txtP r = p ++ txtP ((w, k) :: r) := by simp [txtP]
    rw [e1] at h2
    rw [e2] at h3
    have h1 : rest (p ++ txtP ((w, k) :: r)) p.length = w :: rest (p ++ txtP ((w, k) :: r)) (p.length + w.length) := by
      rcases h with ⟨hw, hk⟩ | ⟨c, hc, hs⟩
      · refine rest_word hw ?_
        intro c hc
        cases k with
        | zero => exact hk rfl c (by simpa using hc)
        | succ k =>
          have : c = 32 := by
            have hc : some 32 = some c := hc
            exact (Option.some.inj hc).symm
          subst this
          decide +kernel
      · have hc : w = [c] := hc
        subst hc
        exact rest_sig hs
    rw [h1, List.map_cons]
    congr 1
    rw [List.length_append] at h2 h3
    rw [List.length_append, List.length_replicate] at h3
    rw [h2, h3]
theorem toks_txtP {l : List (List Nat × Nat)} {k : Nat} (h : GoodP l) : toksOf (List.replicate k 32 ++ txtP l) = l.map (·.1) := by
  have h1 := rest_spcs (r := txtP l) (k := k) (p := [])
  have h2 := rest_txtP (p := List.replicate k 32) h
  rw [List.length_replicate] at h2
  rw [toksOf_rest]
  rw [List.nil_append, List.length_nil, Nat.zero_add] at h1
  rw [h1, h2]
end W75
set_option Elab.async false
set_option linter.all false
set_option maxRecDepth 100000
set_option maxHeartbeats 1000000
namespace W75
open PySem PySem.Spec PyProof.Rows L2 LamX L3 Hd
local macro_rules | `(tactic| walk_at "den") => `(tactic| simp only [List.map, sRet, sSet, sSetLc, sAsg, sPar, sPar3, sExpr, sPass, sBreak, sCont, sIf, sWhile, sFor, sAug, sFld3, sFldAug3, sSub, sRaise,
  seqT, retT, setT, asgT, parT, dropT, ifT, augT, fldT, fldAugT, subT, rzT, eAnds, eOrs, eNot, eBf, eVar, eTy, eInt, eStr, eBl, eNon, eGlob, eBin, eNeg, eCmp, eChain, eIf, eTup, eLst, eFrz, eIx, eSl, eFld, eCall, eCall0, eBm, eOm, eLc, eMake, eDisp, eGcd, iSeq, iLst, iTupl, iTxt, L3.iRng1, L3.iRng2, iEnm, iEnmT, iRngDn, eDict0, L3.ifsT,
  tCmp3, tChain3, tTru, tNot3, tAnds, tOrs, testT, truT, notT, andT, orT, andE, orE, notE, ifE, cE', argT, varE, cE, opE, unE, chainE, tupE, lstE, slE, optE, spE, mtE, omE, makeE, dispE, Bf.r, Bm.r, Bm.ty, Tg.t, setAll, Option.map,
  List.getElem?_cons_zero, List.getElem?_cons_succ, List.set_cons_zero, List.set_cons_succ, Option.some.injEq, exists_eq_left', List.length_cons, List.length_nil, Nat.reduceAdd, true_and, binD, cmpD, augD, fnSp, mtC, mkC, rzC, gvD])
variable {P : Program} {w : World} {K : PySem.W.Frag} {mg : Str → Option Value} {base : Heap} {T : List (Addr × Str)} {k : Nat} {f : Addr} {fd : FuncData}
/-! ### plain law: the three texts of tokens -/
def Tok1 (w : List Nat) : Prop := Word w ∨ ∃ c, w = [c] ∧ Sig c
/-- k blanks between, e behind -/
def gapP (k e : Nat) : List (List Nat) → List (List Nat × Nat)
  | [] => []
  | [w] => [(w, e)]
  | w :: x :: r => (w, k) :: gapP k e (x :: r)
theorem gapP_fst (k e : Nat) : ∀ ts, (gapP k e ts).map (·.1) = ts
  | [] => rfl
  | [w] => rfl
  | w :: x :: r => by rw [gapP, List.map_cons, gapP_fst k e (x :: r)]
theorem gapP_good {k e : Nat} (hk : 0 < k) : ∀ {ts : List (List Nat)}, (∀ w ∈ ts, Tok1 w) → GoodP (gapP k e ts)
  | [], _ => trivial
  | [w], h => by
    refine ⟨?_, trivial⟩
    rcases h w (List.mem_cons_self ..) with h | h
    · exact .inl ⟨h, fun _ c hc => by cases hc⟩
    · exact .inr h
  | w :: x :: r, h => by
    refine ⟨?_, gapP_good hk fun v hv => h v (List.mem_cons_of_mem _ hv)⟩
    rcases h w (List.mem_cons_self ..) with h | h
    · exact .inl ⟨h, fun e => by have e : k = 0 := e; omega⟩
    · exact .inr h
theorem gapP_txt (k : Nat) : ∀ ts, txtP (gapP k 0 ts) = TL.joinL (List.replicate k 32) ts
  | [] => rfl
  | [w] => by simp [gapP, txtP, TL.joinL]
  | w :: x :: r => by rw [gapP, txtP, gapP_txt k (x :: r), TL.joinL]; try simp
theorem gapP_txt1 (k : Nat) : ∀ ts, ts ≠ [] → txtP (gapP k 1 ts) = TL.joinL (List.replicate k 32) ts ++ [32]
  | [], h => absurd rfl h
  | [w], _ => by simp [gapP, txtP, TL.joinL]
  | w :: x :: r, _ => by rw [gapP, txtP, gapP_txt1 k (x :: r) (by simp), TL.joinL]; try simp
/-- ' '.join(tokens) -/
theorem toks_join1 {ts : List (List Nat)} (h : ∀ w ∈ ts, Tok1 w) : toksOf (TL.joinL [32] ts) = ts := by
  have := toks_txtP (k := 0) (gapP_good (k := 1) (e := 0) Nat.one_pos h)
  rw [gapP_txt, gapP_fst] at this
  exact this
/-- ' ' + '  '.join(tokens) + ' ' -/
theorem toks_join2 {ts : List (List Nat)} (h0 : ts ≠ []) (h : ∀ w ∈ ts, Tok1 w) : toksOf ([32] ++ TL.joinL [32, 32] ts ++ [32]) = ts := by
  have := toks_txtP (k := 1) (gapP_good (k := 2) (e := 1) (by omega) h)
  rw [gapP_txt1 _ _ h0, gapP_fst] at this
  exact this
/-- the law's own text: blanks behind commas -/
def comP : List (List Nat) → List (List Nat × Nat)
  | [] => []
  | t :: r => (t, if t = [44] ∧ r.head? ≠ some [41] then 1 else 0) :: comP r
theorem comP_fst : ∀ ts, (comP ts).map (·.1) = ts
  | [] => rfl
  | t :: r => by rw [comP, List.map_cons, comP_fst r]
theorem comP_txt : ∀ ts, txtP (comP ts) = wordsL ts
  | [] => rfl
  | t :: r => by
    rw [comP, txtP, wordsL, comP_txt r]
    dsimp only
    split <;> simp
/-- no two words side by side -/
def Apart : List (List Nat) → Prop
  | [] => True
  | t :: r => (Word t → ∀ u, r.head? = some u → ∃ c, u = [c] ∧ Sig c) ∧ Apart r
theorem comP_good : ∀ {ts : List (List Nat)}, (∀ w ∈ ts, Tok1 w) → Apart ts → GoodP (comP ts)
  | [], _, _ => trivial
  | t :: r, h, ha => by
    refine ⟨?_, comP_good (fun w hw => h w (List.mem_cons_of_mem _ hw)) ha.2⟩
    rcases h t (List.mem_cons_self ..) with hw | hs
    · refine .inl ⟨hw, fun _ c hc => ?_⟩
      rw [comP_txt] at hc
      cases r with
      | nil => cases hc
      | cons u r =>
        obtain ⟨d, rfl, hd⟩ := ha.1 hw u rfl
        rw [wordsL] at hc
        have : d = c := by simpa using hc
        subst this
        exact hd.1
    · exact .inr hs
theorem toks_words {ts : List (List Nat)} (h : ∀ w ∈ ts, Tok1 w) (ha : Apart ts) : toksOf (wordsL ts) = ts := by
  have := toks_txtP (k := 0) (comP_good h ha)
  rw [comP_txt, comP_fst] at this
  exact this
end W75
set_option Elab.async false
set_option linter.all false
set_option maxRecDepth 100000
set_option maxHeartbeats 1000000
namespace W75
open PySem PySem.Spec PyProof.Rows L2 LamX L3 Hd
local macro_rules | `(tactic| walk_at "den") => `(tactic| simp only [List.map, sRet, sSet, sSetLc, sAsg, sPar, sPar3, sExpr, sPass, sBreak, sCont, sIf, sWhile, sFor, sAug, sFld3, sFldAug3, sSub, sRaise,
  seqT, retT, setT, asgT, parT, dropT, ifT, augT, fldT, fldAugT, subT, rzT, eAnds, eOrs, eNot, eBf, eVar, eTy, eInt, eStr, eBl, eNon, eGlob, eBin, eNeg, eCmp, eChain, eIf, eTup, eLst, eFrz, eIx, eSl, eFld, eCall, eCall0, eBm, eOm, eLc, eMake, eDisp, eGcd, iSeq, iLst, iTupl, iTxt, L3.iRng1, L3.iRng2, iEnm, iEnmT, iRngDn, eDict0, L3.ifsT,
  tCmp3, tChain3, tTru, tNot3, tAnds, tOrs, testT, truT, notT, andT, orT, andE, orE, notE, ifE, cE', argT, varE, cE, opE, unE, chainE, tupE, lstE, slE, optE, spE, mtE, omE, makeE, dispE, Bf.r, Bm.r, Bm.ty, Tg.t, setAll, Option.map,
  List.getElem?_cons_zero, List.getElem?_cons_succ, List.set_cons_zero, List.set_cons_succ, Option.some.injEq, exists_eq_left', List.length_cons, List.length_nil, Nat.reduceAdd, true_and, binD, cmpD, augD, fnSp, mtC, mkC, rzC, gvD])
variable {P : Program} {w : World} {K : PySem.W.Frag} {mg : Str → Option Value} {base : Heap} {T : List (Addr × Str)} {k : Nat} {f : Addr} {fd : FuncData}
open PySem.NumText
/-! ### plain law: the reader's places beside the law's -/
theorem num_zero {w : List Nat} {most : Int} (h : isNum w most = true) : decide (numV w = 0) = decide (w = [48]) := by
  obtain ⟨h1, _, h3⟩ := isNum_facts h
  have h4 : (decide (w = [48]) || !decide (w.head? = some 48)) = true := by
    unfold isNum at h
    simp only [Bool.and_eq_true] at h
    exact h.2
  by_cases hw : w = [48]
  · subst hw; rfl
  · rw [decide_eq_false hw]
    refine decide_eq_false ?_
    rw [decide_eq_false hw, Bool.false_or] at h4
    cases w with
    | nil => exact absurd rfl h1
    | cons c r =>
      have hc := digs_of h3 c (List.mem_cons_self ..)
      have h48 : ¬ c = 48 := by simpa using h4
      have : 0 < digitsVal (c :: r) := digitsVal_pos (by omega)
      show ¬ ((digitsVal (c :: r) : Nat) : Int) = 0
      omega
def rdAt (ts : List (List Nat)) (neg : Bool) (s : Nat) : Nat × Bool :=
  if !isNum (tokAt ts s) 4000 || (neg && decide (tokAt ts s = [48])) then (s, false)
  else if !decide (ts[s + 1]? = some [47]) || decide (tokAt ts s = [48]) then (s + 1, true)
  else if isNum (tokAt ts (s + 2)) 4000 && decide (1 < numV (tokAt ts (s + 2))) && decide (Nat.gcd (numV (tokAt ts s)).natAbs (numV (tokAt ts (s + 2))).natAbs = 1) then (s + 3, true) else (s + 2, false)
theorem rdNum_at (ts : List (List Nat)) (n : Nat) : rdNum ts n = if tokAt ts n = [45] then rdAt ts true (n + 1) else rdAt ts false n := by
  by_cases h : tokAt ts n = [45]
  · simp only [rdNum, rdAt, h, decide_true, if_true]
  · simp only [rdNum, rdAt, h, decide_false, if_false, Bool.false_eq_true]
theorem rat_num {ts : List (List Nat)} {n : Nat} : if (rdNum ts n).2 = true then ∃ v, ratM ts 4000 n = .inr (v, (rdNum ts n).1) else ratM ts 4000 n = .inl (rdNum ts n).1 := by
  have main : ∀ (neg : Bool) (s : Nat), if (rdAt ts neg s).2 = true then ∃ v, ratAt ts 4000 neg s = .inr (v, (rdAt ts neg s).1) else ratAt ts 4000 neg s = .inl (rdAt ts neg s).1 := by
    intro neg s
    unfold ratAt rdAt
    cases h1 : isNum (tokAt ts s) 4000 with
    | false => simp
    | true =>
      rw [num_zero h1]
      cases h2 : decide (tokAt ts s = [48]) with
      | true => cases neg <;> simp
      | false =>
        cases h3 : decide (ts[s + 1]? = some [47]) with
        | false => cases neg <;> simp
        | true =>
          cases h4 : isNum (tokAt ts (s + 2)) 4000 with
          | false => simp
          | true =>
            simp only [ratB]
            by_cases h5 : 1 < numV (tokAt ts (s + 2)) <;> by_cases h6 : Nat.gcd (numV (tokAt ts s)).natAbs (numV (tokAt ts (s + 2))).natAbs = 1 <;> cases neg <;> simp [h5, h6]
  have hn : (ts[n]? = some [45]) ↔ tokAt ts n = [45] := by
    constructor
    · intro h; unfold tokAt; rw [h]; rfl
    · intro h; rw [← h]; exact tokAt_get (by rw [h]; decide)
  rw [rdNum_at]
  unfold ratM
  by_cases h : tokAt ts n = [45]
  · rw [if_pos (hn.mpr h), if_pos h]
    exact main true (n + 1)
  · rw [if_neg (fun e => h (hn.mp e)), if_neg h]
    exact main false n
end W75
set_option Elab.async false
set_option linter.all false
set_option maxRecDepth 100000
set_option maxHeartbeats 1000000
namespace W75
open PySem PySem.Spec PyProof.Rows L2 LamX L3 Hd
local macro_rules | `(tactic| walk_at "den") => `(tactic| simp only [List.map, sRet, sSet, sSetLc, sAsg, sPar, sPar3, sExpr, sPass, sBreak, sCont, sIf, sWhile, sFor, sAug, sFld3, sFldAug3, sSub, sRaise,
  seqT, retT, setT, asgT, parT, dropT, ifT, augT, fldT, fldAugT, subT, rzT, eAnds, eOrs, eNot, eBf, eVar, eTy, eInt, eStr, eBl, eNon, eGlob, eBin, eNeg, eCmp, eChain, eIf, eTup, eLst, eFrz, eIx, eSl, eFld, eCall, eCall0, eBm, eOm, eLc, eMake, eDisp, eGcd, iSeq, iLst, iTupl, iTxt, L3.iRng1, L3.iRng2, iEnm, iEnmT, iRngDn, eDict0, L3.ifsT,
  tCmp3, tChain3, tTru, tNot3, tAnds, tOrs, testT, truT, notT, andT, orT, andE, orE, notE, ifE, cE', argT, varE, cE, opE, unE, chainE, tupE, lstE, slE, optE, spE, mtE, omE, makeE, dispE, Bf.r, Bm.r, Bm.ty, Tg.t, setAll, Option.map,
  List.getElem?_cons_zero, List.getElem?_cons_succ, List.set_cons_zero, List.set_cons_succ, Option.some.injEq, exists_eq_left', List.length_cons, List.length_nil, Nat.reduceAdd, true_and, binD, cmpD, augD, fnSp, mtC, mkC, rzC, gvD])
variable {P : Program} {w : World} {K : PySem.W.Frag} {mg : Str → Option Value} {base : Heap} {T : List (Addr × Str)} {k : Nat} {f : Addr} {fd : FuncData}
/-! ### plain law: the reading beside the law's reader -/
/-- what a reading from n comes to, r being what the law's reader tells -/
def Beside (ts : List (List Nat)) (st : List (List D)) (r : Nat × Bool) (o : Nat ⊕ D) : Prop :=
  if r.2 = true then ∃ v f, ts.length + 1 ≤ f + r.1 ∧ o = finM (valM ts f) ts (closeM ts st v r.1) else o = .inl r.1
theorem rdL_succ (rd : Nat → Nat × Bool) (ts : List (List Nat)) (k a : Nat) (right : Bool) (many : Nat) : rdL rd ts (k + 1) a right many =
    if right = true ∧ ts[a]? = some [44] then
      if many = 1 ∧ ts[a + 1]? = some [41] then (a + 2, true)
      else rdL rd ts k (rd (a + 1)).1 (rd (a + 1)).2 (many + 1)
    else if right = false then (a, false)
    else if 1 < many ∧ ts[a]? = some [41] then (a + 1, true) else (a, false) := rfl
theorem get_lt {ts : List (List Nat)} {a : Nat} {w : List Nat} (h : ts[a]? = some w) : a < ts.length := by
  by_cases z : a < ts.length
  · exact z
  · rw [List.getElem?_eq_none (by omega)] at h; cases h
theorem beside_loop {ts : List (List Nat)} {d : Nat} {st : List (List D)} {b : Nat} (hb : ∀ n now f, b ≤ n → n ≤ ts.length → ts.length + 1 ≤ f + n → Beside ts (now :: st) (rdM ts d n) (valM ts f (now :: st) n)) :
    ∀ k a right many now o, b ≤ a → 1 ≤ k → ts.length + 2 ≤ k + a → now.length + 1 = many → Beside ts (now :: st) (a, right) o → Beside ts st (rdL (rdM ts d) ts k a right many) o := by
  intro k
  induction k with
  | zero => intro a _ _ _ _ _ h; omega
  | succ k ih =>
    intro a right many now o ha _ hk hm ho
    rw [rdL_succ]
    cases right with
    | false =>
      rw [if_neg (by simp), if_pos rfl]
      exact ho
    | true =>
      obtain ⟨v, f, hf, rfl⟩ : ∃ v f, ts.length + 1 ≤ f + a ∧ o = finM (valM ts f) ts (closeM ts (now :: st) v a) := ho
      by_cases h44 : ts[a]? = some [44]
      · rw [if_pos ⟨rfl, h44⟩]
        have hal := get_lt h44
        have hle := rdM_le (ts := ts) d (a + 1)
        have go : ∀ now2 : List D, now2.length + 1 = many + 1 → Beside ts st (rdL (rdM ts d) ts k (rdM ts d (a + 1)).1 (rdM ts d (a + 1)).2 (many + 1)) (valM ts f (now2 :: st) (a + 1)) := fun now2 h2 =>
          ih _ _ _ now2 _ (by omega) (by omega) (by omega) h2 (hb (a + 1) now2 f (by omega) (by omega) (by omega))
        by_cases hn : now = []
        · subst hn
          have hm1 : many = 1 := by simpa using hm.symm
          by_cases h41 : ts[a + 1]? = some [41]
          · rw [if_pos ⟨hm1, h41⟩]
            refine ⟨.tup [v], f, by dsimp only; omega, ?_⟩
            rw [closeM, if_pos rfl, if_pos h44, if_pos h41]
          · rw [if_neg fun h => h41 h.2]
            rw [closeM, if_pos rfl, if_pos h44, if_neg h41]
            exact go [v] (by simp [hm1])
        · have hm1 : ¬ many = 1 := by
            intro e
            have : now.length = 0 := by omega
            exact hn (List.length_eq_zero_iff.mp this)
          rw [if_neg fun h => hm1 h.1]
          rw [closeM, if_neg hn, if_pos h44]
          exact go (now ++ [v]) (by simp; omega)
      · rw [if_neg fun h => h44 h.2, if_neg (by simp)]
        by_cases hn : now = []
        · subst hn
          have hm1 : many = 1 := by simpa using hm.symm
          rw [if_neg (by omega), closeM, if_pos rfl, if_neg h44]
          rfl
        · have hm1 : 1 < many := by
            have := List.length_pos_iff.mpr hn
            omega
          by_cases h41 : ts[a]? = some [41]
          · rw [if_pos ⟨hm1, h41⟩]
            refine ⟨.tup (now ++ [v]), f, by dsimp only; omega, ?_⟩
            rw [closeM, if_neg hn, if_neg h44, if_pos h41]
          · rw [if_neg fun h => h41 h.2, closeM, if_neg hn, if_neg h44, if_neg h41]
            rfl
theorem valM_succ (ts : List (List Nat)) (f : Nat) (st : List (List D)) (n : Nat) : valM ts (f + 1) st n =
    if tokAt ts n = [40] ∧ st.length < 16 then
      if ts[n + 1]? = some [41] then finM (valM ts f) ts (closeM ts st (.tup []) (n + 2)) else valM ts f ([] :: st) (n + 1)
    else match ratM ts 4000 n with
      | .inl m => .inl m
      | .inr (d, m) => finM (valM ts f) ts (closeM ts st d m) := rfl
theorem beside_num {ts : List (List Nat)} {n f : Nat} {st : List (List D)} (hop : ¬ tokAt ts n = [40]) (hf : ts.length + 1 ≤ f + n) (hn : n ≤ ts.length) : Beside ts st (rdNum ts n) (valM ts f st n) := by
  obtain ⟨f, rfl⟩ : ∃ g, f = g + 1 := ⟨f - 1, by omega⟩
  have h := rat_num (ts := ts) (n := n)
  have hgt : (rdNum ts n).2 = true → n < (rdNum ts n).1 := by
    rw [rdNum_at]
    unfold rdAt
    split <;> (repeat' split) <;> intro h <;> first | (exfalso; exact Bool.false_ne_true h) | (show n < _; omega) | (simp at h) | simp
  rw [valM_succ, if_neg fun h => hop h.1]
  unfold Beside
  by_cases hr : (rdNum ts n).2 = true
  · rw [if_pos hr] at h ⊢
    obtain ⟨v, hv⟩ := h
    have := hgt hr
    rw [hv]
    exact ⟨v, f, by omega, rfl⟩
  · rw [if_neg hr] at h ⊢
    rw [h]
theorem beside {ts : List (List Nat)} : ∀ d n st f, st.length + d ≤ 16 → cntO ts n ≤ d → n ≤ ts.length → ts.length + 1 ≤ f + n → Beside ts st (rdM ts d n) (valM ts f st n)
  | 0, n, st, f, _, hc, hn, hf => beside_num (fun h => by have := (cntO_step h).1; omega) hf hn
  | d + 1, n, st, f, hd, hc, hn, hf => by
    by_cases hop : tokAt ts n = [40]
    · obtain ⟨hc1, hlt⟩ := cntO_step hop
      obtain ⟨f, rfl⟩ : ∃ g, f = g + 1 := ⟨f - 1, by omega⟩
      rw [valM_succ, if_pos ⟨hop, by omega⟩, rdM, if_pos hop]
      by_cases h41 : ts[n + 1]? = some [41]
      · rw [if_pos h41, if_pos h41]
        exact ⟨.tup [], f, by dsimp only; omega, rfl⟩
      · rw [if_neg h41, if_neg h41]
        have hb : ∀ m now f, n + 1 ≤ m → m ≤ ts.length → ts.length + 1 ≤ f + m → Beside ts (now :: st) (rdM ts d m) (valM ts f (now :: st) m) := fun m now f hm hml hf =>
          beside d m (now :: st) f (by simp; omega) (by have := cntO_le (ts := ts) hm; omega) hml hf
        have hle := rdM_le (ts := ts) d (n + 1)
        exact beside_loop (b := n + 1) hb _ _ _ 1 [] _ hle (by omega) (by omega) rfl (hb (n + 1) [] f (by omega) (by omega) (by omega))
    · rw [rdM, if_neg hop]
      exact beside_num hop hf hn
/-- the whole text -/
theorem valM_all {ts : List (List Nat)} (hc : cntO ts 0 ≤ 16) : (∃ v, valM ts (ts.length + 1) [] 0 = .inr v ∧ (rdM ts 16 0).2 = true ∧ ts.length ≤ (rdM ts 16 0).1) ∨
    (valM ts (ts.length + 1) [] 0 = .inl (rdM ts 16 0).1 ∧ ¬ ((rdM ts 16 0).2 = true ∧ ts.length ≤ (rdM ts 16 0).1)) := by
  have h := beside (ts := ts) 16 0 [] (ts.length + 1) (by decide) hc (Nat.zero_le _) (by omega)
  unfold Beside at h
  by_cases hr : (rdM ts 16 0).2 = true
  · rw [if_pos hr] at h
    obtain ⟨v, f, _, h⟩ := h
    rw [h, closeM, finM]
    by_cases hl : (rdM ts 16 0).1 < ts.length
    · rw [if_pos hl]
      exact .inr ⟨rfl, fun h => by omega⟩
    · rw [if_neg hl]
      exact .inl ⟨v, rfl, hr, by omega⟩
  · rw [if_neg hr] at h
    exact .inr ⟨h, fun h => hr h.1⟩
end W75
set_option Elab.async false
set_option linter.all false
set_option maxRecDepth 100000
set_option maxHeartbeats 1000000
namespace W75
open PySem PySem.Spec PyProof.Rows L2 LamX L3 Hd
local macro_rules | `(tactic| walk_at "den") => `(tactic| simp only [List.map, sRet, sSet, sSetLc, sAsg, sPar, sPar3, sExpr, sPass, sBreak, sCont, sIf, sWhile, sFor, sAug, sFld3, sFldAug3, sSub, sRaise,
  seqT, retT, setT, asgT, parT, dropT, ifT, augT, fldT, fldAugT, subT, rzT, eAnds, eOrs, eNot, eBf, eVar, eTy, eInt, eStr, eBl, eNon, eGlob, eBin, eNeg, eCmp, eChain, eIf, eTup, eLst, eFrz, eIx, eSl, eFld, eCall, eCall0, eBm, eOm, eLc, eMake, eDisp, eGcd, iSeq, iLst, iTupl, iTxt, L3.iRng1, L3.iRng2, iEnm, iEnmT, iRngDn, eDict0, L3.ifsT, eIsE, eXf, xfE, eRepr, eIntW, eCallH, spH, eCallG, eCallG0, spG, eLam,
  tCmp3, tChain3, tTru, tNot3, tAnds, tOrs, testT, truT, notT, andT, orT, andE, orE, notE, ifE, cE', argT, varE, cE, opE, unE, chainE, tupE, lstE, slE, optE, spE, mtE, omE, makeE, dispE, Bf.r, Bm.r, Bm.ty, Tg.t, setAll, Option.map,
  List.getElem?_cons_zero, List.getElem?_cons_succ, List.set_cons_zero, List.set_cons_succ, Option.some.injEq, exists_eq_left', List.length_cons, List.length_nil, Nat.reduceAdd, true_and, binD, cmpD, augD, fnSp, mtC, mkC, rzC, gvD])
variable {P : Program} {w : World} {K : PySem.W.Frag} {mg : Str → Option Value} {base : Heap} {T : List (Addr × Str)} {k : Nat} {f : Addr} {fd : FuncData}
/-! ### what is told of an exception -/
def Inj (cl : Nat → Addr) : Prop := ∀ i j, i < 16 → j < 16 → cl i = cl j → i = j
def RT (row : D) (text : Str) : Prop := (pureD row = true ∧ (py row).wideB true = true ∧ (py row).depth ≤ 60 ∧ (py row).shown.length ≤ sizeLine ∧ text = (py row).shown) ∨ (row = .dct [] [] ∧ text = (PyData.dict []).shown)
def ftK (cl : Nat → Addr) : Ft := fun C fs vals => (C = cl 1 ∧ ∃ what row text, fs.lookup ("what" : Str) = some what ∧ fs.lookup ("row" : Str) = some row ∧ RT row text ∧ vals = [.str "row", what, .str text]) ∨
  (C = cl 3 ∧ ∃ what, fs.lookup ("what" : Str) = some what ∧ vals = [.str "system", what]) ∨ (C = cl 4 ∧ ∃ what, fs.lookup ("what" : Str) = some what ∧ vals = [.str "book", what]) ∨
  (C = cl 6 ∧ ∃ l w, fs.lookup ("line" : Str) = some l ∧ fs.lookup ("word" : Str) = some w ∧ vals = [.str "text", l, w])
theorem exL_mem {cl : Nat → Addr} {i : Nat} (h : i < 16) : cl i ∈ exL cl := List.mem_map.mpr ⟨i, List.mem_range.mpr h, rfl⟩
def S__law_more_kinds (cl : Nat → Addr) (a C dd : Addr) (x : D) (G : Gp) (Q : K3) (E : X3) : Prop := Inj cl ∧ x = .obj a ∧ (∃ i, i < 8 ∧ C = cl i) ∧ (∃ fs, G dd = some (.xd fs)) ∧ ∀ p, G p = none → Q (.obj p) (updG G p (.lst []))
abbrev s__law_more_kinds : Stmt := (top 65)
def n__law_more_kinds : List Str := ["e", "found"]
def b__law_more_kinds (c : Cn) : List (CS c) := [sSet 1 (eLst [] true), sIf (tTru (eIsE [(eVar 0), (eGlob 0)])) [sExpr (eBm .append (eVar 1) [(eTup [(eStr "noname"), (eRepr [(eXf "name" (eVar 0))])])])] [], sIf (tTru (eIsE [(eVar 0), (eGlob 1)])) [sExpr (eBm .append (eVar 1) [(eTup [(eStr "taken"), (eRepr [(eXf "name" (eVar 0))])])])] [], sIf (tTru (eIsE [(eVar 0), (eGlob 2)])) [sExpr (eBm .append (eVar 1) [(eTup [(eStr "unlike"), (eXf "what" (eVar 0))])])] [], sIf (tTru (eIsE [(eVar 0), (eGlob 3)])) [sExpr (eBm .append (eVar 1) [(eTup [(eStr "notthere"), (eXf "paper" (eVar 0))])])] [], sIf (tTru (eIsE [(eVar 0), (eGlob 4)])) [sExpr (eBm .append (eVar 1) [(eTup [(eStr "many"), (eXf "what" (eVar 0)), (eXf "many" (eVar 0)), (eXf "limit" (eVar 0))])])] [], sIf (tTru (eIsE [(eVar 0), (eGlob 5)])) [sExpr (eBm .append (eVar 1) [(eTup [(eStr "kept"), (eXf "promise" (eVar 0)), (eXf "witness" (eVar 0))])])] [], sIf (tTru (eIsE [(eVar 0), (eGlob 6)])) [sExpr (eBm .append (eVar 1) [(eTup [(eStr "undo")])])] [], sIf (tTru (eIsE [(eVar 0), (eGlob 7)])) [sExpr (eBm .append (eVar 1) [(eTup [(eStr "redo")])])] [], sRet (eVar 1)]
def c__law_more_kinds (T : List (Addr × Str)) (cl : Nat → Addr) (a_ C_ dd_ : Addr) : Cn := { T := T, N := n__law_more_kinds, nm := (defScope (top 65)).names, gv := [("NoName", .obj (cl 8)), ("TakenName", .obj (cl 9)), ("Unlike", .obj (cl 10)), ("NotThere", .obj (cl 11)), ("TooMany", .obj (cl 12)), ("NotKept", .obj (cl 13)), ("NothingToUndo", .obj (cl 14)), ("NothingToRedo", .obj (cl 15))], bt := ["isinstance", "repr"], exs := exL cl, xfs := xfL, hot := true, gd := true, nd := true, hx := some (a_, C_, dd_) }
theorem k__law_more_kinds (T : List (Addr × Str)) (cl : Nat → Addr) (a_ C_ dd_ : Addr) : chkSs (b__law_more_kinds (c__law_more_kinds T cl a_ C_ dd_)) (defBody (top 65)) = true := by kernel_rfl
def sp__law_more_kinds (cl : Nat → Addr) : SpE3 := fun a_ C_ dd_ ds G Q E => match ds with
  | [a0] => S__law_more_kinds cl a_ C_ dd_ a0 G Q E
  | _ => False
abbrev W__law_more_kinds (T : List (Addr × Str)) (cl : Nat → Addr) (a_ C_ dd_ : Addr) (a0 : D) (G : Gp) (Q : K3) (E : X3) : Prop := seqT ((b__law_more_kinds (c__law_more_kinds T cl a_ C_ dd_)).map (·.t)) { nx := fun _ G' => FG Q .non G', rt := FG Q, xe := FX E } [some a0, none] G
theorem cl_no {cl : Nat → Addr} (inj : Inj cl) {i j : Nat} (hi : i < 16) (hj : j < 16) (h : i ≠ j) : decide (cl i = cl j) = false := decide_eq_false fun e => h (inj i j hi hj e)
theorem p__law_more_kinds {cl : Nat → Addr} {a C dd : Addr} {x : D} {G : Gp} {Q : K3} {E : X3} (h : S__law_more_kinds cl a C dd x G Q E) : W__law_more_kinds T cl a C dd x G Q E := by
  obtain ⟨inj, rfl, ⟨i, hi, rfl⟩, ⟨fs, hd⟩, q⟩ := h
  unfold W__law_more_kinds b__law_more_kinds
  walk_at "den"
  simp only [c__law_more_kinds, List.getElem?_cons_zero, List.getElem?_cons_succ]
  refine ⟨Nat.zero_le _, z_mkT fun p hp => ?_⟩
  have ne : dd ≠ p := fun z => by rw [z, hp] at hd; cases hd
  have hd' : updG G p (.lst []) dd = some (.xd fs) := by rw [updG_ne ne]; exact hd
  have no : ∀ j, 8 ≤ j → j < 16 → decide (cl i = cl j) = false := fun j h1 h2 => cl_no inj (by omega) h2 (by omega)
  refine ⟨rfl, exL_mem (by decide), ⟨fs, hd'⟩, _, tru_bl, ite_f (no 8 (by decide) (by decide)) ?_⟩
  refine ⟨rfl, exL_mem (by decide), ⟨fs, hd'⟩, _, tru_bl, ite_f (no 9 (by decide) (by decide)) ?_⟩
  refine ⟨rfl, exL_mem (by decide), ⟨fs, hd'⟩, _, tru_bl, ite_f (no 10 (by decide) (by decide)) ?_⟩
  refine ⟨rfl, exL_mem (by decide), ⟨fs, hd'⟩, _, tru_bl, ite_f (no 11 (by decide) (by decide)) ?_⟩
  refine ⟨rfl, exL_mem (by decide), ⟨fs, hd'⟩, _, tru_bl, ite_f (no 12 (by decide) (by decide)) ?_⟩
  refine ⟨rfl, exL_mem (by decide), ⟨fs, hd'⟩, _, tru_bl, ite_f (no 13 (by decide) (by decide)) ?_⟩
  refine ⟨rfl, exL_mem (by decide), ⟨fs, hd'⟩, _, tru_bl, ite_f (no 14 (by decide) (by decide)) ?_⟩
  refine ⟨rfl, exL_mem (by decide), ⟨fs, hd'⟩, _, tru_bl, ite_f (no 15 (by decide) (by decide)) ?_⟩
  exact ⟨_, Les.refl _, q p hp⟩
theorem ok__law_more_kinds (cl : Nat → Addr) (F : FunD K "_law_more_kinds" "_law_more_kinds" (defArgs (top 65)) (defBody (top 65)) (defScope (top 65)) [] [] f fd) (g : ∀ a C dd, GOk (c__law_more_kinds T cl a C dd) k P w K mg base) : FnE P w K mg base T (k + 2) f (exL cl) (sp__law_more_kinds cl) := by
  refine fnE3 (N := n__law_more_kinds) F (F.bindsN fun _ _ _ _ _ _ us hl => match us, hl with | [_], _ => rfl) (ps := ["e"]) (C8.fnScope_by (by kernel_rfl)) (fun a C dd => ⟨rfl, rfl, rfl, rfl, rfl, rfl, rfl⟩) g (fun a C dd => b__law_more_kinds _) (fun a C dd => k__law_more_kinds T cl a C dd) (fun a C dd ds G Q E h => ?_) (fun a C dd ds G Q E hC h => ?_)
  · rcases ds with _ | ⟨a0, _ | r⟩ <;> first | rfl | exact False.elim h
  · rcases ds with _ | ⟨a0, _ | r⟩ <;> first | exact False.elim h | exact p__law_more_kinds h
def S__law_kinds (cl : Nat → Addr) (a C dd : Addr) (x : D) (G : Gp) (Q : K3) (E : X3) : Prop := Inj cl ∧ x = .obj a ∧ ∃ fs vals, G dd = some (.xd fs) ∧ ftK cl C fs vals ∧ Q (.lst [.tup vals]) G
abbrev s__law_kinds : Stmt := (top 64)
def n__law_kinds : List Str := ["e", "found"]
def b__law_kinds (c : Cn) : List (CS c) := [sSet 1 (eLst [] true), sIf (tTru (eIsE [(eVar 0), (eGlob 0)])) [sExpr (eBm .append (eVar 1) [(eTup [(eStr "number"), (eXf "what" (eVar 0)), (eRepr [(eXf "number" (eVar 0))])])])] [], sIf (tTru (eIsE [(eVar 0), (eGlob 1)])) [sExpr (eBm .append (eVar 1) [(eTup [(eStr "row"), (eXf "what" (eVar 0)), (eRepr [(eXf "row" (eVar 0))])])])] [], sIf (tTru (eIsE [(eVar 0), (eGlob 2)])) [sExpr (eBm .append (eVar 1) [(eTup [(eStr "table"), (eXf "what" (eVar 0))])])] [], sIf (tTru (eIsE [(eVar 0), (eGlob 3)])) [sExpr (eBm .append (eVar 1) [(eTup [(eStr "system"), (eXf "what" (eVar 0))])])] [], sIf (tTru (eIsE [(eVar 0), (eGlob 4)])) [sExpr (eBm .append (eVar 1) [(eTup [(eStr "book"), (eXf "what" (eVar 0))])])] [], sIf (tTru (eIsE [(eVar 0), (eGlob 5)])) [sExpr (eBm .append (eVar 1) [(eTup [(eStr "badname"), (eRepr [(eXf "name" (eVar 0))])])])] [], sIf (tTru (eIsE [(eVar 0), (eGlob 6)])) [sExpr (eBm .append (eVar 1) [(eTup [(eStr "text"), (eXf "line" (eVar 0)), (eXf "word" (eVar 0))])])] [], sIf (tTru (eIsE [(eVar 0), (eGlob 7)])) [sExpr (eBm .append (eVar 1) [(eTup [(eStr "place"), (eXf "what" (eVar 0)), (eRepr [(eXf "index" (eVar 0))])])])] [], sRet (eBin .Add (eVar 1) (eCallH 0 [(eVar 0)]))]
def c__law_kinds (T : List (Addr × Str)) (cl : Nat → Addr) (a_ C_ dd_ : Addr) : Cn := { T := T, N := n__law_kinds, nm := (defScope (top 64)).names, gv := [("BadNumber", .obj (cl 0)), ("BadRow", .obj (cl 1)), ("BadTable", .obj (cl 2)), ("BadSystem", .obj (cl 3)), ("BadBook", .obj (cl 4)), ("BadName", .obj (cl 5)), ("BadText", .obj (cl 6)), ("NoPlace", .obj (cl 7))], bt := ["isinstance", "repr"], fnE := [("_law_more_kinds", sp__law_more_kinds cl)], exs := exL cl, xfs := xfL, hot := true, gd := true, nd := true, hx := some (a_, C_, dd_) }
theorem k__law_kinds (T : List (Addr × Str)) (cl : Nat → Addr) (a_ C_ dd_ : Addr) : chkSs (b__law_kinds (c__law_kinds T cl a_ C_ dd_)) (defBody (top 64)) = true := by kernel_rfl
def sp__law_kinds (cl : Nat → Addr) : SpE3 := fun a_ C_ dd_ ds G Q E => match ds with
  | [a0] => S__law_kinds cl a_ C_ dd_ a0 G Q E
  | _ => False
abbrev W__law_kinds (T : List (Addr × Str)) (cl : Nat → Addr) (a_ C_ dd_ : Addr) (a0 : D) (G : Gp) (Q : K3) (E : X3) : Prop := seqT ((b__law_kinds (c__law_kinds T cl a_ C_ dd_)).map (·.t)) { nx := fun _ G' => FG Q .non G', rt := FG Q, xe := FX E } [some a0, none] G
theorem rt_repr {row : D} {text : Str} {G : Gp} {Q : K3} (h : RT row text) (q : Q (.str text) G) : reprD true [row] G Q := by
  rcases h with ⟨h1, h2, h3, h4, rfl⟩ | ⟨rfl, rfl⟩
  · exact .inl ⟨_, pyOf_pure h1, h2, h3, h4, q⟩
  · exact .inr ⟨rfl, q⟩
theorem p__law_kinds {cl : Nat → Addr} {a C dd : Addr} {x : D} {G : Gp} {Q : K3} {E : X3} (h : S__law_kinds cl a C dd x G Q E) : W__law_kinds T cl a C dd x G Q E := by
  obtain ⟨inj, rfl, fs, vals, hd, hf, q⟩ := h
  unfold W__law_kinds b__law_kinds
  refine seq_mid rfl (fun τ G' => ∃ p, G p = none ∧ τ = [some (.obj a), some (.obj p)] ∧ G' = updG G p (.lst [])) (fun N hN => ?_) ?_
  · walk_at "den"
    exact ⟨Nat.zero_le _, z_mkT fun p hp => hN _ _ ⟨p, hp, rfl, rfl⟩⟩
  rintro τ G' ⟨p, hp, rfl, rfl⟩
  have ne : dd ≠ p := fun z => by rw [z, hp] at hd; cases hd
  have hd' : ∀ l, updG G p (.lst l) dd = some (.xd fs) := fun l => by rw [updG_ne ne]; exact hd
  have fin : ∀ i, i < 8 → C = cl i → sp__law_more_kinds cl a C dd [.obj a] (updG G p (.lst [.tup vals])) (fun d G1 => addD false (.obj p) d G1 (FG Q)) (FX E) := by
    rintro i hi rfl
    refine ⟨inj, rfl, ⟨i, hi, rfl⟩, ⟨fs, hd' _⟩, fun p2 hp2 => ?_⟩
    have n2 : p ≠ p2 := fun z => by rw [← z, updG_same] at hp2; cases hp2
    have hg2 : G p2 = none := by rw [updG_ne (Ne.symm n2)] at hp2; exact hp2
    refine z_addL (l := [.tup vals]) (r := []) ?_ ?_ (by have := lnBig; simp; omega) ⟨G, ?_, ?_⟩
    · exact asL_obj (by rw [updG_ne n2]; exact updG_same)
    · exact asL_obj updG_same
    · exact (((Ext.refl G).upd hp).upd hg2).les
    · simpa using q
  have app : ∀ (v : D) {Q1 : K3}, Q1 .non (updG G p (.lst [v])) → appendD (.obj p) [v] (updG G p (.lst [])) Q1 := fun v Q1 q1 => z_append (l := []) updG_same (by have := lnBig; simp; omega) (by rw [updG_updG]; exact q1)
  have recv : recvD (updG G p (.lst [])) "list" (.obj p) := ⟨rfl, _, updG_same⟩
  walk_at "den"
  simp only [c__law_kinds, List.getElem?_cons_zero, List.getElem?_cons_succ]
  rcases hf with ⟨rfl, what, row, text, f1, f2, rt, rfl⟩ | ⟨rfl, what, f1, rfl⟩ | ⟨rfl, what, f1, rfl⟩ | ⟨rfl, l, wd, f1, f2, rfl⟩
  · have no : ∀ j, j < 16 → j ≠ 1 → decide (cl 1 = cl j) = false := fun j h1 h2 => cl_no inj (by decide) h1 (Ne.symm h2)
    refine ⟨rfl, exL_mem (by decide), ⟨fs, hd' _⟩, _, tru_bl, ite_f (no 0 (by decide) (by decide)) ?_⟩
    refine ⟨rfl, exL_mem (by decide), ⟨fs, hd' _⟩, _, tru_bl, ite_t (decide_eq_true rfl) ?_⟩
    refine ⟨recv, _, _, _, _, _, rfl, rfl, hd' _, f1, _, _, _, _, _, rfl, rfl, hd' _, f2, rt_repr rt ⟨by have := lnBig; simp; omega, app _ ?_⟩⟩
    iterate 6 (refine ⟨rfl, exL_mem (by decide), ⟨fs, hd' _⟩, _, tru_bl, ite_f (no _ (by decide) (by decide)) ?_⟩)
    exact fin 1 (by decide) rfl
  · have no : ∀ j, j < 16 → j ≠ 3 → decide (cl 3 = cl j) = false := fun j h1 h2 => cl_no inj (by decide) h1 (Ne.symm h2)
    iterate 3 (refine ⟨rfl, exL_mem (by decide), ⟨fs, hd' _⟩, _, tru_bl, ite_f (no _ (by decide) (by decide)) ?_⟩)
    refine ⟨rfl, exL_mem (by decide), ⟨fs, hd' _⟩, _, tru_bl, ite_t (decide_eq_true rfl) ?_⟩
    refine ⟨recv, _, _, _, _, _, rfl, rfl, hd' _, f1, by have := lnBig; simp; omega, app _ ?_⟩
    iterate 4 (refine ⟨rfl, exL_mem (by decide), ⟨fs, hd' _⟩, _, tru_bl, ite_f (no _ (by decide) (by decide)) ?_⟩)
    exact fin 3 (by decide) rfl
  · have no : ∀ j, j < 16 → j ≠ 4 → decide (cl 4 = cl j) = false := fun j h1 h2 => cl_no inj (by decide) h1 (Ne.symm h2)
    iterate 4 (refine ⟨rfl, exL_mem (by decide), ⟨fs, hd' _⟩, _, tru_bl, ite_f (no _ (by decide) (by decide)) ?_⟩)
    refine ⟨rfl, exL_mem (by decide), ⟨fs, hd' _⟩, _, tru_bl, ite_t (decide_eq_true rfl) ?_⟩
    refine ⟨recv, _, _, _, _, _, rfl, rfl, hd' _, f1, by have := lnBig; simp; omega, app _ ?_⟩
    iterate 3 (refine ⟨rfl, exL_mem (by decide), ⟨fs, hd' _⟩, _, tru_bl, ite_f (no _ (by decide) (by decide)) ?_⟩)
    exact fin 4 (by decide) rfl
  · have no : ∀ j, j < 16 → j ≠ 6 → decide (cl 6 = cl j) = false := fun j h1 h2 => cl_no inj (by decide) h1 (Ne.symm h2)
    iterate 6 (refine ⟨rfl, exL_mem (by decide), ⟨fs, hd' _⟩, _, tru_bl, ite_f (no _ (by decide) (by decide)) ?_⟩)
    refine ⟨rfl, exL_mem (by decide), ⟨fs, hd' _⟩, _, tru_bl, ite_t (decide_eq_true rfl) ?_⟩
    refine ⟨recv, _, _, _, _, _, rfl, rfl, hd' _, f1, _, _, _, _, _, rfl, rfl, hd' _, f2, by have := lnBig; simp; omega, app _ ?_⟩
    refine ⟨rfl, exL_mem (by decide), ⟨fs, hd' _⟩, _, tru_bl, ite_f (no _ (by decide) (by decide)) ?_⟩
    exact fin 6 (by decide) rfl
theorem ok__law_kinds (cl : Nat → Addr) (F : FunD K "_law_kinds" "_law_kinds" (defArgs (top 64)) (defBody (top 64)) (defScope (top 64)) [] [] f fd) (g : ∀ a C dd, GOk (c__law_kinds T cl a C dd) k P w K mg base) : FnE P w K mg base T (k + 2) f (exL cl) (sp__law_kinds cl) := by
  refine fnE3 (N := n__law_kinds) F (F.bindsN fun _ _ _ _ _ _ us hl => match us, hl with | [_], _ => rfl) (ps := ["e"]) (C8.fnScope_by (by kernel_rfl)) (fun a C dd => ⟨rfl, rfl, rfl, rfl, rfl, rfl, rfl⟩) g (fun a C dd => b__law_kinds _) (fun a C dd => k__law_kinds T cl a C dd) (fun a C dd ds G Q E h => ?_) (fun a C dd ds G Q E hC h => ?_)
  · rcases ds with _ | ⟨a0, _ | r⟩ <;> first | rfl | exact False.elim h
  · rcases ds with _ | ⟨a0, _ | r⟩ <;> first | exact False.elim h | exact p__law_kinds h
abbrev s__law_fault : Stmt := (top 63)
def n__law_fault : List Str := ["call", "found", "e"]
def b__law_fault (c : Cn) : List (CS c) := [sSet 1 (eCallH 0 [(eVar 2)]), sSet 1 (eIf (tAnds [(tCmp3 .Eq (eBf .len [(eVar 1)]) (eInt 1)), (tTru (eIsE [(eVar 2), (eTy "ValueError")]))]) (eIx (eVar 1) (eInt 0)) (eTup [(eStr "several"), (eBf .len [(eVar 1)])]))]
def c__law_fault (T : List (Addr × Str)) (cl : Nat → Addr) (a_ C_ dd_ : Addr) : Cn := { T := T, N := n__law_fault, nm := (defScope (top 63)).names, bt := ["len", "isinstance", "ValueError"], fnE := [("_law_kinds", sp__law_kinds cl)], exs := exL cl, xfs := xfL, hot := true, gd := true, nd := true, hx := some (a_, C_, dd_) }
theorem k__law_fault (T : List (Addr × Str)) (cl : Nat → Addr) (a_ C_ dd_ : Addr) : chkSs (b__law_fault (c__law_fault T cl a_ C_ dd_)) (suiteOf (defBody (top 63))) = true := by kernel_rfl
theorem p__law_fault {cl : Nat → Addr} (inj : Inj cl) (a C dd : Addr) (fs : List (Str × D)) (vals : List D) (G : Gp) (Q3 : K3) (hf : ftK cl C fs vals) (hd : G dd = some (.xd fs)) (q : Q3 (.tup vals) G) :
    seqT ((b__law_fault (c__law_fault T cl a C dd)).map (·.t)) { nx := fun τ' G' => ∃ d, τ'[1]? = some (some d) ∧ FG Q3 d G', rt := fun _ _ => False, xe := fun _ _ _ => False } [none, none, some (.obj a)] G := by
  have hC : ∃ i, i < 16 ∧ C = cl i := by
    rcases hf with ⟨h, _⟩ | ⟨h, _⟩ | ⟨h, _⟩ | ⟨h, _⟩
    · exact ⟨1, by decide, h⟩
    · exact ⟨3, by decide, h⟩
    · exact ⟨4, by decide, h⟩
    · exact ⟨6, by decide, h⟩
  unfold b__law_fault
  walk_at "den"
  simp only [c__law_fault, List.getElem?_cons_zero, List.getElem?_cons_succ]
  refine ⟨inj, rfl, fs, vals, hd, hf, ?_⟩
  refine z_len_lst rfl (z_eqI ⟨_, rfl, ite_t (by simp) ?_⟩)
  refine ⟨rfl, rfl, ⟨fs, hd⟩, _, tru_bl, ite_t rfl ?_⟩
  refine z_ix_lst (i := 0) rfl rfl ?_
  exact ⟨G, Les.refl _, q⟩
theorem ok__law_fault (cl : Nat → Addr) (inj : Inj cl) {CS0 : Addr} (F : FunD K "_law_fault" "_law_fault" (defArgs s__law_fault) (defBody s__law_fault) (defScope s__law_fault) [] [] f fd) (hCE : mg "CountsError" = some (.ref CS0)) (hexm : ∀ C ∈ exL cl, PySem.W.exmOne K (.ref C) (.ref CS0) = some true)
    (g : ∀ a C dd, GOk (c__law_fault T cl a C dd) k P w K mg base) : FaultAt P w K mg base T (k + 1) "_law_fault" f (ftK cl) := by
  refine faultAt (CEx := "CountsError") F (F.bindsN fun _ _ _ _ _ _ us hl => match us, hl with | [_], _ => rfl) (C8.fnScope_by (by kernel_rfl)) (by kernel_rfl) hCE hexm (fun a C dd => ⟨rfl, rfl, rfl, rfl, rfl, rfl, rfl⟩) g (fun a C dd => b__law_fault _) (fun a C dd => k__law_fault T cl a C dd) (fun C fs vals h => ?_)
    (fun a C dd fs vals G Q3 h1 h2 h3 => p__law_fault inj a C dd fs vals G Q3 h1 h2 h3)
  rcases h with ⟨h, _⟩ | ⟨h, _⟩ | ⟨h, _⟩ | ⟨h, _⟩ <;> rw [h] <;> exact exL_mem (by decide)
end W75
set_option Elab.async false
set_option linter.all false
set_option maxRecDepth 100000
set_option maxHeartbeats 1000000
namespace W75
open PySem PySem.Spec PyProof.Rows L2 LamX L3 Hd
local macro_rules | `(tactic| walk_at "den") => `(tactic| simp only [List.map, sRet, sSet, sSetLc, sAsg, sPar, sPar3, sExpr, sPass, sBreak, sCont, sIf, sWhile, sFor, sAug, sFld3, sFldAug3, sSub, sRaise,
  seqT, retT, setT, asgT, parT, dropT, ifT, augT, fldT, fldAugT, subT, rzT, eAnds, eOrs, eNot, eBf, eVar, eTy, eInt, eStr, eBl, eNon, eGlob, eBin, eNeg, eCmp, eChain, eIf, eTup, eLst, eFrz, eIx, eSl, eFld, eCall, eCall0, eBm, eOm, eLc, eMake, eDisp, eGcd, iSeq, iLst, iTupl, iTxt, L3.iRng1, L3.iRng2, iEnm, iEnmT, iRngDn, eDict0, L3.ifsT,
  tCmp3, tChain3, tTru, tNot3, tAnds, tOrs, testT, truT, notT, andT, orT, andE, orE, notE, ifE, cE', argT, varE, cE, opE, unE, chainE, tupE, lstE, slE, optE, spE, mtE, omE, makeE, dispE, Bf.r, Bm.r, Bm.ty, Tg.t, setAll, Option.map,
  List.getElem?_cons_zero, List.getElem?_cons_succ, List.set_cons_zero, List.set_cons_succ, Option.some.injEq, exists_eq_left', List.length_cons, List.length_nil, Nat.reduceAdd, true_and, binD, cmpD, augD, fnSp, mtC, mkC, rzC, gvD])
variable {P : Program} {w : World} {K : PySem.W.Frag} {mg : Str → Option Value} {base : Heap} {T : List (Addr × Str)} {k : Nat} {f : Addr} {fd : FuncData}
open PySem.NumText
/-! ### plain law: a drawn value's tokens read back -/
theorem figs_mem {c : Nat} (h : 48 ≤ c ∧ c ≤ 57) : inL FIGs c = true := by
  have e : FIGs = [48, 49, 50, 51, 52, 53, 54, 55, 56, 57] := by decide +kernel
  unfold inL
  rw [e]
  refine decide_eq_true ?_
  simp
  omega
theorem dig_range {n c : Nat} (h : c ∈ decL n) : 48 ≤ c ∧ c ≤ 57 := by
  unfold decL at h
  obtain ⟨ch, hch, rfl⟩ := List.mem_map.mp h
  have := Nat.isDigit_of_mem_toDigits (b := 10) (by decide) (by decide) hch
  unfold Char.isDigit at this
  simp only [Bool.and_eq_true, decide_eq_true_eq] at this
  exact ⟨this.1, this.2⟩
theorem decL_val (n : Nat) : digitsVal (decL n) = n := PySem.W.KIN.val_back n
theorem decL_ne (n : Nat) : decL n ≠ [] := by
  unfold decL
  intro h
  have : Nat.toDigits 10 n = [] := by simpa using h
  exact absurd this Nat.toDigits_ne_nil
theorem decL_zero : decL 0 = [48] := by decide +kernel
theorem decL_split {n : Nat} (h : 10 ≤ n) : decL n = decL (n / 10) ++ decL (n % 10) := by
  unfold decL
  have t := Nat.toDigits_append_toDigits (b := 10) (n := n / 10) (d := n % 10) (by decide) (by omega) (Nat.mod_lt n (by decide))
  have e : 10 * (n / 10) + n % 10 = n := by omega
  rw [e] at t
  rw [← t, List.map_append]
theorem decL_head : ∀ {n : Nat}, 0 < n → (decL n).head? ≠ some 48 := by
  intro n
  induction n using Nat.strongRecOn with
  | _ n ih =>
    intro h
    by_cases h10 : n < 10
    · have : ∀ m : Fin 10, 0 < m.val → (decL m.val).head? ≠ some 48 := by decide +kernel
      exact this ⟨n, h10⟩ h
    · rw [decL_split (by omega)]
      have h1 := ih (n / 10) (by omega) (by omega)
      have h2 := decL_ne (n / 10)
      cases e : decL (n / 10) with
      | nil => exact absurd e h2
      | cons c r => rw [e] at h1; simpa using h1
theorem decL_len {n k : Nat} (h : n < 10 ^ k) (hk : 0 < k) : (decL n).length ≤ k := by
  unfold decL
  rw [List.length_map]
  exact (Nat.length_toDigits_le_iff (b := 10) (by decide) hk).mpr h
theorem decL_num {n : Nat} (h : n < 10 ^ 45) : isNum (decL n) 4000 = true := by
  have hl := decL_len h (by decide)
  unfold isNum
  simp only [Bool.and_eq_true, Bool.or_eq_true, Bool.not_eq_true', decide_eq_false_iff_not, decide_eq_true_eq]
  refine ⟨⟨⟨decL_ne n, by omega⟩, ?_⟩, ?_⟩
  · exact List.all_eq_true.mpr fun c hc => figs_mem (dig_range hc)
  · by_cases z : n = 0
    · subst z; exact .inl decL_zero
    · exact .inr (decL_head (by omega))
theorem tok_at {p r : List (List Nat)} {w : List Nat} : tokAt (p ++ w :: r) p.length = w := by
  unfold tokAt
  rw [List.getElem?_append_right (Nat.le_refl _), Nat.sub_self]
  rfl
theorem get_at {p r : List (List Nat)} {w : List Nat} : (p ++ w :: r)[p.length]? = some w := by
  rw [List.getElem?_append_right (Nat.le_refl _), Nat.sub_self]
  rfl
theorem get_at0 {p r : List (List Nat)} : (p ++ r)[p.length]? = r.head? := by
  rw [List.getElem?_append_right (Nat.le_refl _), Nat.sub_self]
  cases r <;> rfl
theorem get_at1 {p r : List (List Nat)} {v : List Nat} : (p ++ v :: r)[p.length + 1]? = r.head? := by
  have e : p ++ v :: r = (p ++ [v]) ++ r := by simp
  have := get_at0 (p := p ++ [v]) (r := r)
  rw [e]
  simpa using this
theorem tok_at1 {p r : List (List Nat)} {v w : List Nat} : tokAt (p ++ v :: w :: r) (p.length + 1) = w := by
  have := tok_at (p := p ++ [v]) (r := r) (w := w)
  simpa using this
theorem tok_at2 {p r : List (List Nat)} {u v w : List Nat} : tokAt (p ++ u :: v :: w :: r) (p.length + 2) = w := by
  have := tok_at (p := p ++ [u, v]) (r := r) (w := w)
  simpa using this
/-- a number's tokens -/
theorem dec_no45 (n : Nat) : decL n ≠ [45] := by
  intro h
  have := dig_range (n := n) (c := 45) (by rw [h]; simp)
  omega
theorem dec_no40 (n : Nat) : decL n ≠ [40] := by
  intro h
  have := dig_range (n := n) (c := 40) (by rw [h]; simp)
  omega
theorem rat_at {d : D} (hd : NumV d) (below : Bool) {p r : List (List Nat)} (hr : r.head? ≠ some [47]) (hb : below = true → (ratP d).1.natAbs ≠ 0) :
    ratAt (p ++ ((if (ratP d).2 = 1 then [decL (ratP d).1.natAbs] else [decL (ratP d).1.natAbs, [47], decL (ratP d).2.toNat]) ++ r)) 4000 below p.length =
      .inr (if below then (if (ratP d).2 = 1 then .int (-((ratP d).1.natAbs : Int)) else .tup [.int (-((ratP d).1.natAbs : Int)), .int (ratP d).2]) else (if (ratP d).2 = 1 then .int ((ratP d).1.natAbs : Int) else .tup [.int ((ratP d).1.natAbs : Int), .int (ratP d).2]), p.length + (if (ratP d).2 = 1 then 1 else 3)) := by
  obtain ⟨h1, h2, h3⟩ := hd
  generalize ht : (ratP d).1.natAbs = t at *
  have n1 := decL_num h2
  have v1 : numV (decL t) = (t : Int) := by unfold numV; rw [decL_val]
  by_cases hb1 : (ratP d).2 = 1
  · rw [if_pos hb1, if_pos hb1, if_pos hb1, if_pos hb1]
    have e1 : tokAt (p ++ ([decL t] ++ r)) p.length = decL t := tok_at
    have e2 : (p ++ ([decL t] ++ r))[p.length + 1]? = r.head? := get_at1
    unfold ratAt
    rw [e1, n1, if_pos rfl, v1, e2]
    have e3 : (below && decide ((t : Int) = 0)) = false := by
      cases hb' : below with
      | false => rfl
      | true => have := hb hb'; simp; omega
    rw [e3, if_neg (by decide)]
    have e4 : decide (r.head? = some [47]) = false := decide_eq_false hr
    rw [e4, Bool.and_false, if_neg (by decide)]
  · rw [if_neg hb1, if_neg hb1, if_neg hb1, if_neg hb1]
    have hg : Nat.gcd t (ratP d).2.natAbs = 1 ∧ 1 < (ratP d).2 := by
      rcases rat_cases h1 with ⟨i, rfl⟩ | ⟨a, b, rfl, q1, q2⟩
      · exact absurd rfl hb1
      · subst ht; exact ⟨q2, q1⟩
    generalize hbb : (ratP d).2 = b at *
    have e1 : tokAt (p ++ ([decL t, [47], decL b.toNat] ++ r)) p.length = decL t := tok_at
    have e2 : (p ++ ([decL t, [47], decL b.toNat] ++ r))[p.length + 1]? = some [47] := get_at1
    have e5 : tokAt (p ++ ([decL t, [47], decL b.toNat] ++ r)) (p.length + 2) = decL b.toNat := tok_at2
    have ht0 : t ≠ 0 := by
      intro z
      rw [z, Nat.gcd_zero_left] at hg
      omega
    have n2 := decL_num (n := b.toNat) (by omega)
    have v2 : numV (decL b.toNat) = b := by
      unfold numV
      rw [decL_val]
      omega
    unfold ratAt
    rw [e1, n1, if_pos rfl, v1, e2, e5, n2, if_pos rfl, v2]
    have e3 : decide ((t : Int) = 0) = false := decide_eq_false (by omega)
    rw [e3, Bool.and_false, if_neg (by decide), if_pos (by simp)]
    have e6 : ratB (.tup [.int (t : Int), .int b]) = true := by
      simp only [ratB, Bool.and_eq_true, decide_eq_true_eq]
      exact ⟨hg.2, by simpa using hg.1⟩
    rw [if_pos e6]
theorem num_read {d : D} (hd : NumV d) {p r : List (List Nat)} (hr : r.head? ≠ some [47]) : ratM (p ++ (tkR d ++ r)) 4000 p.length = .inr (d, p.length + (tkR d).length) := by
  have back : ∀ (neg : Bool), (neg = true ↔ (ratP d).1 < 0) → (if neg then (if (ratP d).2 = 1 then D.int (-((ratP d).1.natAbs : Int)) else .tup [.int (-((ratP d).1.natAbs : Int)), .int (ratP d).2]) else (if (ratP d).2 = 1 then .int ((ratP d).1.natAbs : Int) else .tup [.int ((ratP d).1.natAbs : Int), .int (ratP d).2])) = d := by
    intro neg hn
    have en : (if neg then (-((ratP d).1.natAbs : Int)) else ((ratP d).1.natAbs : Int)) = (ratP d).1 := by
      cases neg with
      | true => have := hn.mp rfl; simp; omega
      | false =>
        have : ¬ (ratP d).1 < 0 := fun z => by have := hn.mpr z; cases this
        simp
        omega
    rcases rat_cases hd.1 with ⟨i, rfl⟩ | ⟨a, b, rfl, q1, q2⟩
    · have en : (if neg then (-((i).natAbs : Int)) else ((i).natAbs : Int)) = i := en
      cases neg
      · show D.int _ = _
        exact congrArg D.int en
      · show D.int _ = _
        exact congrArg D.int en
    · have en : (if neg then (-((a).natAbs : Int)) else ((a).natAbs : Int)) = a := en
      have hb : ¬ b = 1 := by omega
      cases neg
      · show (if b = 1 then D.int _ else .tup [.int _, .int b]) = _
        rw [if_neg hb]
        exact congrArg (fun z => D.tup [.int z, .int b]) en
      · show (if b = 1 then D.int _ else .tup [.int _, .int b]) = _
        rw [if_neg hb]
        exact congrArg (fun z => D.tup [.int z, .int b]) en
  have len : (tkR d).length = (if (ratP d).1 < 0 then 1 else 0) + (if (ratP d).2 = 1 then 1 else 3) := by
    unfold tkR
    rw [List.length_append]
    split <;> split <;> rfl
  by_cases hneg : (ratP d).1 < 0
  · have et : p ++ (tkR d ++ r) = (p ++ [[45]]) ++ ((if (ratP d).2 = 1 then [decL (ratP d).1.natAbs] else [decL (ratP d).1.natAbs, [47], decL (ratP d).2.toNat]) ++ r) := by
      unfold tkR
      rw [if_pos hneg]
      simp
    have h := rat_at hd true (p := p ++ [[45]]) hr (fun _ => by omega)
    rw [back true (by simp [hneg])] at h
    unfold ratM
    have e0 : (p ++ (tkR d ++ r))[p.length]? = some [45] := by
      rw [get_at0]
      unfold tkR
      rw [if_pos hneg]
      rfl
    rw [if_pos e0, et]
    have el : (p ++ [[45]]).length = p.length + 1 := by simp
    rw [el] at h
    rw [h, len, if_pos hneg]
    congr 2
    omega
  · have et : p ++ (tkR d ++ r) = p ++ ((if (ratP d).2 = 1 then [decL (ratP d).1.natAbs] else [decL (ratP d).1.natAbs, [47], decL (ratP d).2.toNat]) ++ r) := by
      unfold tkR
      rw [if_neg hneg]
      simp
    have h := rat_at hd false (p := p) hr (fun z => by cases z)
    rw [back false (by simp [hneg])] at h
    unfold ratM
    have e0 : ¬ (p ++ (tkR d ++ r))[p.length]? = some [45] := by
      rw [get_at0]
      unfold tkR
      rw [if_neg hneg]
      split
      · intro z; exact dec_no45 _ (by simpa using z)
      · intro z; exact dec_no45 _ (by simpa using z)
    rw [if_neg e0, et, h, len, if_neg hneg]
    congr 2
    omega
end W75
set_option Elab.async false
set_option linter.all false
set_option maxRecDepth 100000
set_option maxHeartbeats 1000000
namespace W75
open PySem PySem.Spec PyProof.Rows L2 LamX L3 Hd
local macro_rules | `(tactic| walk_at "den") => `(tactic| simp only [List.map, sRet, sSet, sSetLc, sAsg, sPar, sPar3, sExpr, sPass, sBreak, sCont, sIf, sWhile, sFor, sAug, sFld3, sFldAug3, sSub, sRaise,
  seqT, retT, setT, asgT, parT, dropT, ifT, augT, fldT, fldAugT, subT, rzT, eAnds, eOrs, eNot, eBf, eVar, eTy, eInt, eStr, eBl, eNon, eGlob, eBin, eNeg, eCmp, eChain, eIf, eTup, eLst, eFrz, eIx, eSl, eFld, eCall, eCall0, eBm, eOm, eLc, eMake, eDisp, eGcd, iSeq, iLst, iTupl, iTxt, L3.iRng1, L3.iRng2, iEnm, iEnmT, iRngDn, eDict0, L3.ifsT,
  tCmp3, tChain3, tTru, tNot3, tAnds, tOrs, testT, truT, notT, andT, orT, andE, orE, notE, ifE, cE', argT, varE, cE, opE, unE, chainE, tupE, lstE, slE, optE, spE, mtE, omE, makeE, dispE, Bf.r, Bm.r, Bm.ty, Tg.t, setAll, Option.map,
  List.getElem?_cons_zero, List.getElem?_cons_succ, List.set_cons_zero, List.set_cons_succ, Option.some.injEq, exists_eq_left', List.length_cons, List.length_nil, Nat.reduceAdd, true_and, binD, cmpD, augD, fnSp, mtC, mkC, rzC, gvD])
variable {P : Program} {w : World} {K : PySem.W.Frag} {mg : Str → Option Value} {base : Heap} {T : List (Addr × Str)} {k : Nat} {f : Addr} {fd : FuncData}
open PySem.NumText
/-! ### plain law: drawn values read back -/
theorem DV.num : ∀ {n : Nat} {d : D}, DV n d → ratB d = true → NumV d
  | 0, _, h, _ => h
  | n + 1, d, h, hr => by
    rcases h with h | ⟨l, rfl, hl, he⟩
    · exact h
    · rcases rat_cases hr with ⟨i, e⟩ | ⟨a, b, e, h1, h2⟩
      · cases e
      · cases e
        have lf : ∀ {m : Nat} {i : Int}, DV m (.int i) → i.natAbs < 10 ^ 45 := by
          intro m i h
          cases m with
          | zero => exact h.2.1
          | succ m =>
            rcases h with h | ⟨l, e, _⟩
            · exact h.2.1
            · cases e
        exact ⟨hr, lf (he (.int a) (by simp)), lf (he (.int b) (by simp))⟩
theorem DV.tup {n : Nat} {d : D} (h : DV n d) (hr : ratB d = false) : ∃ m l, n = m + 1 ∧ d = .tup l ∧ l.length ≤ 3 ∧ ∀ e ∈ l, DV m e := by
  cases n with
  | zero => rw [h.1] at hr; cases hr
  | succ n =>
    rcases h with h | ⟨l, h1, h2, h3⟩
    · rw [h.1] at hr; cases hr
    · exact ⟨n, l, rfl, h1, h2, h3⟩
theorem tkN_rat {n : Nat} {d : D} (hr : ratB d = true) : tkN n d = tkR d := by
  cases n with
  | zero => rfl
  | succ n => rw [tkN_succ, if_pos hr]
theorem tkN_tup {m : Nat} {l : List D} (hr : ratB (.tup l) = false) : tkN (m + 1) (.tup l) = [[40]] ++ sepT (l.map (tkN m)) ++ (if l.length = 1 then [[44]] else []) ++ [[41]] := by rw [tkN_succ, if_neg (by rw [hr]; decide)]
theorem tkR_head (d : D) : ∃ w r, tkR d = w :: r ∧ w ≠ [40] ∧ w ≠ [41] := by
  have n41 : ∀ n, decL n ≠ [41] := fun n h => by
    have := dig_range (n := n) (c := 41) (by rw [h]; simp)
    omega
  unfold tkR
  split
  · exact ⟨[45], _, rfl, by decide, by decide⟩
  · split
    · exact ⟨_, _, rfl, dec_no40 _, n41 _⟩
    · exact ⟨_, _, rfl, dec_no40 _, n41 _⟩
theorem tkN_head {n : Nat} {d : D} (h : DV n d) : ∃ w r, tkN n d = w :: r ∧ w ≠ [41] := by
  cases hr : ratB d with
  | true =>
    obtain ⟨w, r, e, _, h2⟩ := tkR_head d
    exact ⟨w, r, by rw [tkN_rat hr]; exact e, h2⟩
  | false =>
    obtain ⟨m, l, rfl, rfl, _, _⟩ := h.tup hr
    exact ⟨[40], _, tkN_tup hr, by decide⟩
theorem sepT_cons2 (a b : List (List Nat)) (r : List (List (List Nat))) : sepT (a :: b :: r) = a ++ [[44]] ++ sepT (b :: r) := by simp [sepT]
/-- what reading d at p comes to -/
def ReadsAs (ts : List (List Nat)) (f : Nat) (st : List (List D)) (p : Nat) (d : D) (m : Nat) : Prop := ∃ f', ts.length + 1 ≤ f' + m ∧ valM ts f st p = finM (valM ts f') ts (closeM ts st d m)
theorem read_rest {ts : List (List Nat)} {st : List (List D)} {m : Nat} (ih : ∀ (d : D) (now : List D) (p r : List (List Nat)) (f : Nat), DV m d → r.head? ≠ some [47] → ts = p ++ (tkN m d ++ r) → ts.length + 1 ≤ f + p.length → ReadsAs ts f (now :: st) p.length d (p.length + (tkN m d).length)) :
    ∀ (xs : List D) (now : List D) (p r : List (List Nat)) (f : Nat), xs ≠ [] → now ≠ [] → (∀ e ∈ xs, DV m e) → ts = p ++ (sepT (xs.map (tkN m)) ++ ([41] :: r)) → ts.length + 1 ≤ f + p.length →
      ∃ f', ts.length + 1 ≤ f' + (p.length + (sepT (xs.map (tkN m))).length + 1) ∧ valM ts f (now :: st) p.length = finM (valM ts f') ts (closeM ts st (.tup (now ++ xs)) (p.length + (sepT (xs.map (tkN m))).length + 1))
  | [], _, _, _, _, h, _, _, _, _ => absurd rfl h
  | [x], now, p, r, f, _, hn, he, ht, hf => by
    have es : sepT ([x].map (tkN m)) = tkN m x := by simp [sepT]
    rw [es] at ht ⊢
    obtain ⟨f', h1, h2⟩ := ih x now p ([41] :: r) f (he x (by simp)) (by simp) ht hf
    refine ⟨f', by omega, ?_⟩
    rw [h2, closeM, if_neg hn]
    have hg : ts[p.length + (tkN m x).length]? = some [41] := by
      rw [ht, ← List.append_assoc, ← List.length_append]
      exact get_at
    rw [hg, if_neg (by simp), if_pos rfl]
  | x :: y :: ys, now, p, r, f, _, hn, he, ht, hf => by
    have es : sepT ((x :: y :: ys).map (tkN m)) = tkN m x ++ [[44]] ++ sepT ((y :: ys).map (tkN m)) := sepT_cons2 _ _ _
    rw [es] at ht ⊢
    have ht2 : ts = p ++ (tkN m x ++ ([44] :: (sepT ((y :: ys).map (tkN m)) ++ ([41] :: r)))) := by rw [ht]; simp
    obtain ⟨f', h1, h2⟩ := ih x now p _ f (he x (by simp)) (by simp) ht2 hf
    have hg : ts[p.length + (tkN m x).length]? = some [44] := by
      rw [ht2, ← List.append_assoc, ← List.length_append]
      exact get_at
    rw [h2, closeM, if_neg hn, hg, if_pos rfl, finM]
    have ht3 : ts = (p ++ tkN m x ++ [[44]]) ++ (sepT ((y :: ys).map (tkN m)) ++ ([41] :: r)) := by rw [ht2]; simp
    have el : (p ++ tkN m x ++ [[44]]).length = p.length + (tkN m x).length + 1 := by simp; omega
    obtain ⟨g, h3, h4⟩ := read_rest ih (y :: ys) (now ++ [x]) (p ++ tkN m x ++ [[44]]) r f' (by simp) (by simp) (fun e h => he e (List.mem_cons_of_mem _ h)) ht3 (by rw [el]; omega)
    rw [el] at h3 h4
    have e5 : now ++ [x] ++ y :: ys = now ++ x :: y :: ys := by simp
    rw [e5] at h4
    have e6 : (tkN m x ++ [[44]] ++ sepT ((y :: ys).map (tkN m))).length = (tkN m x).length + 1 + (sepT ((y :: ys).map (tkN m))).length := by simp; omega
    rw [e6]
    refine ⟨g, by omega, ?_⟩
    rw [h4]
    congr 2
    omega
theorem read_val {ts : List (List Nat)} : ∀ (n : Nat) (d : D) (st : List (List D)) (p r : List (List Nat)) (f : Nat), DV n d → st.length + n ≤ 16 → r.head? ≠ some [47] → ts = p ++ (tkN n d ++ r) → ts.length + 1 ≤ f + p.length → ReadsAs ts f st p.length d (p.length + (tkN n d).length) := by
  intro n
  induction n with
  | zero =>
    intro d st p r f hd hs hr ht hf
    have hnum : NumV d := hd
    obtain ⟨w, q, ew, h40, _⟩ := tkR_head d
    have et : tkN 0 d = tkR d := rfl
    rw [et] at ht ⊢
    have hl : p.length < ts.length := by rw [ht, ew]; simp
    obtain ⟨f, rfl⟩ : ∃ g, f = g + 1 := ⟨f - 1, by omega⟩
    have hk : tokAt ts p.length = w := by rw [ht, ew]; exact tok_at
    have hq : 0 < (tkR d).length := by rw [ew]; simp
    refine ⟨f, by omega, ?_⟩
    rw [valM_succ, hk, if_neg fun h => h40 h.1, ht, num_read hnum hr]
  | succ n ih =>
    intro d st p r f hd hs hr ht hf
    cases hrat : ratB d with
    | true =>
      have hnum := hd.num hrat
      obtain ⟨w, q, ew, h40, _⟩ := tkR_head d
      rw [tkN_rat hrat] at ht ⊢
      have hl : p.length < ts.length := by rw [ht, ew]; simp
      obtain ⟨f, rfl⟩ : ∃ g, f = g + 1 := ⟨f - 1, by omega⟩
      have hk : tokAt ts p.length = w := by rw [ht, ew]; exact tok_at
      have hq : 0 < (tkR d).length := by rw [ew]; simp
      refine ⟨f, by omega, ?_⟩
      rw [valM_succ, hk, if_neg fun h => h40 h.1, ht, num_read hnum hr]
    | false =>
      obtain ⟨m, l, e, rfl, hl3, he⟩ := hd.tup hrat
      cases e
      rw [tkN_tup hrat] at ht ⊢
      have hlt : p.length < ts.length := by rw [ht]; simp
      obtain ⟨f, rfl⟩ : ∃ g, f = g + 1 := ⟨f - 1, by omega⟩
      have hk : tokAt ts p.length = [40] := by
        rw [ht]
        simp only [List.append_assoc, List.cons_append, List.nil_append]
        exact tok_at
      have hg1 : ts[p.length + 1]? = (sepT (l.map (tkN n)) ++ ((if l.length = 1 then [[44]] else []) ++ ([41] :: r))).head? := by
        rw [ht]
        simp only [List.append_assoc, List.cons_append, List.nil_append]
        exact get_at1
      rw [ReadsAs, valM_succ, hk]
      have hb : ([40] : List Nat) = [40] ∧ st.length < 16 := ⟨rfl, by omega⟩
      rw [if_pos hb]
      match l, hl3, he with
      | [], _, _ =>
        rw [hg1]
        have e0 : (sepT (([] : List D).map (tkN n)) ++ ((if ([] : List D).length = 1 then [[44]] else []) ++ ([41] :: r))).head? = some [41] := rfl
        rw [if_pos e0]
        refine ⟨f, ?_, rfl⟩
        show ts.length + 1 ≤ f + (p.length + 2)
        omega
      | x :: xs, _, he =>
        obtain ⟨w, q, ew, hw⟩ := tkN_head (he x (by simp))
        have hh : ¬ ts[p.length + 1]? = some [41] := by
          rw [hg1]
          have : (sepT ((x :: xs).map (tkN n)) ++ ((if (x :: xs).length = 1 then [[44]] else []) ++ ([41] :: r))).head? = some w := by
            simp [sepT, ew]
          rw [this]
          simpa using hw
        rw [if_neg hh]
        have ihS : ∀ (d : D) (now : List D) (p r : List (List Nat)) (f : Nat), DV n d → r.head? ≠ some [47] → ts = p ++ (tkN n d ++ r) → ts.length + 1 ≤ f + p.length → ReadsAs ts f (now :: st) p.length d (p.length + (tkN n d).length) :=
          fun d now p r f h1 h2 h3 h4 => ih d (now :: st) p r f h1 (by simp; omega) h2 h3 h4
        have el1 : (p ++ [[40]]).length = p.length + 1 := by simp
        cases xs with
        | nil =>
          have ht2 : ts = (p ++ [[40]]) ++ (tkN n x ++ ([44] :: [41] :: r)) := by rw [ht]; simp [sepT]
          obtain ⟨f', h1, h2⟩ := ihS x [] (p ++ [[40]]) _ f (he x (by simp)) (by simp) ht2 (by rw [el1]; omega)
          rw [el1] at h1 h2
          have ga : ts[p.length + 1 + (tkN n x).length]? = some [44] := by
            have : (p ++ [[40]] ++ tkN n x).length = p.length + 1 + (tkN n x).length := by simp; omega
            rw [← this, ht2, ← List.append_assoc]
            exact get_at
          have gb : ts[p.length + 1 + (tkN n x).length + 1]? = some [41] := by
            have : (p ++ [[40]] ++ tkN n x).length = p.length + 1 + (tkN n x).length := by simp; omega
            rw [← this, ht2, ← List.append_assoc]
            exact get_at1
          rw [h2, closeM, if_pos rfl, ga, if_pos rfl, gb, if_pos rfl]
          have e7 : ([[40]] ++ sepT ([x].map (tkN n)) ++ (if [x].length = 1 then [[44]] else []) ++ [[41]]).length = 1 + (tkN n x).length + 2 := by simp [sepT]; omega
          rw [e7]
          refine ⟨f', by omega, ?_⟩
          congr 2
          omega
        | cons y ys =>
          have e8 : (if (x :: y :: ys).length = 1 then ([[44]] : List (List Nat)) else []) = [] := if_neg (by simp)
          have es : sepT ((x :: y :: ys).map (tkN n)) = tkN n x ++ [[44]] ++ sepT ((y :: ys).map (tkN n)) := sepT_cons2 _ _ _
          rw [e8] at ht ⊢
          rw [es] at ht ⊢
          have ht2 : ts = (p ++ [[40]]) ++ (tkN n x ++ ([44] :: (sepT ((y :: ys).map (tkN n)) ++ ([41] :: r)))) := by rw [ht]; simp
          obtain ⟨f', h1, h2⟩ := ihS x [] (p ++ [[40]]) _ f (he x (by simp)) (by simp) ht2 (by rw [el1]; omega)
          rw [el1] at h1 h2
          have eL : (p ++ [[40]] ++ tkN n x).length = p.length + 1 + (tkN n x).length := by simp; omega
          have ga : ts[p.length + 1 + (tkN n x).length]? = some [44] := by
            rw [← eL, ht2, ← List.append_assoc]
            exact get_at
          obtain ⟨w2, q2, ew2, hw2⟩ := tkN_head (he y (by simp))
          have gb : ¬ ts[p.length + 1 + (tkN n x).length + 1]? = some [41] := by
            have : ts[(p ++ [[40]] ++ tkN n x).length + 1]? = (sepT ((y :: ys).map (tkN n)) ++ ([41] :: r)).head? := by
              rw [ht2, ← List.append_assoc]
              exact get_at1
            rw [← eL, this]
            have h9 : (sepT ((y :: ys).map (tkN n)) ++ ([41] :: r)).head? = some w2 := by simp [sepT, ew2]
            rw [h9]
            simpa using hw2
          rw [h2, closeM, if_pos rfl, ga, if_pos rfl, if_neg gb, finM]
          have ht3 : ts = (p ++ [[40]] ++ tkN n x ++ [[44]]) ++ (sepT ((y :: ys).map (tkN n)) ++ ([41] :: r)) := by rw [ht2]; simp
          have el2 : (p ++ [[40]] ++ tkN n x ++ [[44]]).length = p.length + 1 + (tkN n x).length + 1 := by simp; omega
          obtain ⟨g, h3, h4⟩ := read_rest ihS (y :: ys) [x] (p ++ [[40]] ++ tkN n x ++ [[44]]) r f' (by simp) (by simp) (fun e h => he e (List.mem_cons_of_mem _ h)) ht3 (by rw [el2]; omega)
          rw [el2] at h3 h4
          have e9 : ([[40]] ++ (tkN n x ++ [[44]] ++ sepT ((y :: ys).map (tkN n))) ++ [] ++ [[41]]).length = 1 + (tkN n x).length + 1 + (sepT ((y :: ys).map (tkN n))).length + 1 := by simp; omega
          rw [e9]
          refine ⟨g, by omega, ?_⟩
          have h4' : valM ts f' ([x] :: st) (p.length + 1 + (tkN n x).length + 1) = _ := h4
          rw [h4']
          congr 2
          omega
/-- the whole text -/
theorem read_all {n : Nat} {d : D} (h : DV n d) (hn : n ≤ 16) : valM (tkN n d) ((tkN n d).length + 1) [] 0 = .inr d := by
  obtain ⟨f', h1, h2⟩ := read_val (ts := tkN n d) n d [] [] [] ((tkN n d).length + 1) h (by simpa using hn) (by simp) (by simp) (by simp)
  have h2 : valM (tkN n d) ((tkN n d).length + 1) [] 0 = finM (valM (tkN n d) f') (tkN n d) (closeM (tkN n d) [] d (0 + (tkN n d).length)) := h2
  rw [h2, closeM, finM, if_neg (by omega)]
end W75
set_option Elab.async false
set_option linter.all false
set_option maxRecDepth 100000
set_option maxHeartbeats 1000000
namespace W75
open PySem PySem.Spec PyProof.Rows L2 LamX L3 Hd
local macro_rules | `(tactic| walk_at "den") => `(tactic| simp only [List.map, sRet, sSet, sSetLc, sAsg, sPar, sPar3, sExpr, sPass, sBreak, sCont, sIf, sWhile, sFor, sAug, sFld3, sFldAug3, sSub, sRaise,
  seqT, retT, setT, asgT, parT, dropT, ifT, augT, fldT, fldAugT, subT, rzT, eAnds, eOrs, eNot, eBf, eVar, eTy, eInt, eStr, eBl, eNon, eGlob, eBin, eNeg, eCmp, eChain, eIf, eTup, eLst, eFrz, eIx, eSl, eFld, eCall, eCall0, eBm, eOm, eLc, eMake, eDisp, eGcd, iSeq, iLst, iTupl, iTxt, L3.iRng1, L3.iRng2, iEnm, iEnmT, iRngDn, eDict0, L3.ifsT,
  tCmp3, tChain3, tTru, tNot3, tAnds, tOrs, testT, truT, notT, andT, orT, andE, orE, notE, ifE, cE', argT, varE, cE, opE, unE, chainE, tupE, lstE, slE, optE, spE, mtE, omE, makeE, dispE, Bf.r, Bm.r, Bm.ty, Tg.t, setAll, Option.map,
  List.getElem?_cons_zero, List.getElem?_cons_succ, List.set_cons_zero, List.set_cons_succ, Option.some.injEq, exists_eq_left', List.length_cons, List.length_nil, Nat.reduceAdd, true_and, binD, cmpD, augD, fnSp, mtC, mkC, rzC, gvD])
variable {P : Program} {w : World} {K : PySem.W.Frag} {mg : Str → Option Value} {base : Heap} {T : List (Addr × Str)} {k : Nat} {f : Addr} {fd : FuncData}
open PySem.NumText
/-! ### plain law: sizes of drawn values -/
theorem numV_cases {d : D} (h : NumV d) : (∃ i, d = .int i ∧ i.natAbs < 10 ^ 45) ∨ ∃ a b : Int, d = .tup [.int a, .int b] ∧ a.natAbs < 10 ^ 45 ∧ b.natAbs < 10 ^ 45 ∧ ratB (.tup [.int a, .int b]) = true := by
  obtain ⟨h1, h2, h3⟩ := h
  rcases rat_cases h1 with ⟨i, rfl⟩ | ⟨a, b, rfl, _, _⟩
  · exact .inl ⟨i, rfl, h2⟩
  · exact .inr ⟨a, b, rfl, h2, h3, h1⟩
/-- what holds of a value, k deep, size s -/
structure Fine (k s : Nat) (d : D) : Prop where
  pl : Pl k d
  ak : Ak k d
  as_ : asT k d = d
  w1 : wt k d ≤ s
  w2 : wt2 k d ≤ s
theorem fine_int (k : Nat) (i : Int) : Fine k 1 (.int i) := by
  have e : knP (.int i) = some "int" := rfl
  cases k with
  | zero => exact ⟨⟨_, e, by decide, by decide, by decide⟩, ⟨_, e, by decide, by decide⟩, rfl, Nat.le_refl _, Nat.le_refl _⟩
  | succ k => exact ⟨.inl ⟨_, e, by decide, by decide, by decide⟩, .inl ⟨_, e, by decide, by decide⟩, rfl, Nat.le_refl _, Nat.le_refl _⟩
theorem sum_le {α : Type} (f : α → Nat) (s : Nat) : ∀ l : List α, (∀ e ∈ l, f e ≤ s) → (l.map f).sum ≤ l.length * s
  | [], _ => by simp
  | a :: r, h => by
    have := sum_le f s r fun e he => h e (List.mem_cons_of_mem _ he)
    have h1 := h a (List.mem_cons_self ..)
    rw [List.map_cons, List.sum_cons, List.length_cons, Nat.succ_mul]
    omega
theorem fine_tup {k s : Nat} {l : List D} (hl : l.length ≤ 3) (h : ∀ e ∈ l, Fine k s e) : Fine (k + 1) (5 + 3 * s) (.tup l) := by
  refine ⟨.inr ⟨l, .inl rfl, by omega, fun e he => (h e he).pl⟩, .inr ⟨l, .inl rfl, by omega, fun e he => (h e he).ak⟩, ?_, ?_, ?_⟩
  · show D.tup (l.map (asT k)) = .tup l
    congr 1
    exact (List.map_congr_left fun e m => (h e m).as_).trans (List.map_id l)
  · show 1 + (l.map (wt k)).sum ≤ _
    have := sum_le (wt k) s l fun e he => (h e he).w1
    have := Nat.mul_le_mul_right s hl
    omega
  · show 2 + (l.map fun e => 1 + wt2 k e).sum ≤ _
    have := sum_le (fun e => 1 + wt2 k e) (1 + s) l fun e he => by have := (h e he).w2; omega
    have := Nat.mul_le_mul_right (1 + s) hl
    omega
theorem Fine.mono {k s t : Nat} {d : D} (h : Fine k s d) (l : s ≤ t) : Fine k t d := ⟨h.pl, h.ak, h.as_, Nat.le_trans h.w1 l, Nat.le_trans h.w2 l⟩
theorem fine_num {d : D} (h : NumV d) (k : Nat) : Fine (k + 1) 8 d := by
  rcases numV_cases h with ⟨i, rfl, _⟩ | ⟨a, b, rfl, _, _, _⟩
  · exact (fine_int _ i).mono (by decide)
  · refine fine_tup (s := 1) (by simp) fun e he => ?_
    simp at he
    rcases he with rfl | rfl <;> exact fine_int _ _
theorem fine_dv : ∀ (n k : Nat) (d : D), DV n d → n + 1 ≤ k → Fine k (8 * 4 ^ n) d
  | 0, k, d, h, hk => by
    obtain ⟨k, rfl⟩ : ∃ j, k = j + 1 := ⟨k - 1, by omega⟩
    exact (fine_num h k).mono (by decide)
  | n + 1, k, d, h, hk => by
    obtain ⟨k, rfl⟩ : ∃ j, k = j + 1 := ⟨k - 1, by omega⟩
    have hp : 8 * 4 ^ (n + 1) = 4 * (8 * 4 ^ n) := by rw [Nat.pow_succ]; omega
    have h8 : 8 ≤ 8 * 4 ^ n := by have := Nat.pow_pos (n := n) (show 0 < 4 by decide); omega
    rcases h with h | ⟨l, rfl, hl, he⟩
    · exact (fine_num h k).mono (by omega)
    · exact (fine_tup hl fun e hm => fine_dv n k e (he e hm) (by omega)).mono (by omega)
theorem tb_dv : ∀ (n k : Nat) (d : D), DV n d → n + 1 ≤ k → TB k d
  | 0, k, d, h, hk => by
    obtain ⟨k, rfl⟩ : ∃ j, k = j + 1 := ⟨k - 1, by omega⟩
    exact NumV.tb h k
  | n + 1, k, d, h, hk => by
    obtain ⟨k, rfl⟩ : ∃ j, k = j + 1 := ⟨k - 1, by omega⟩
    rcases h with h | ⟨l, rfl, hl, he⟩
    · exact NumV.tb h k
    · exact .inr ⟨l, rfl, by omega, fun e hm => tb_dv n k e (he e hm) (by omega)⟩
theorem MX45 : (10 : Int) ^ 45 < MX := by
  unfold MX
  decide +kernel
theorem small_num {d : D} (h : NumV d) : smallB d = true := by
  have hm := MX45
  obtain ⟨h1, h2, h3⟩ := h
  unfold smallB
  generalize MX = mx at *
  have e2 : (((ratP d).1.natAbs : Nat) : Int) < (10 : Int) ^ 45 := by exact_mod_cast h2
  have e3 : (((ratP d).2.natAbs : Nat) : Int) < (10 : Int) ^ 45 := by exact_mod_cast h3
  rw [Bool.and_eq_true, decide_eq_true_eq, decide_eq_true_eq]
  omega
theorem tupd_dv {n : Nat} {d : D} (h : DV n d) : tupd d = d := by
  have num : NumV d → tupd d = d := fun h => by
    rcases numV_cases h with ⟨i, rfl, _⟩ | ⟨a, b, rfl, _⟩ <;> rfl
  cases n with
  | zero => exact num h
  | succ n =>
    rcases h with h | ⟨l, rfl, _⟩
    · exact num h
    · rfl
theorem plB_dv : ∀ (n m : Nat) (d : D), DV n d → n ≤ m → plB m d = true := by
  intro n
  induction n with
  | zero =>
    intro m d h hm
    have h' : NumV d := h
    rw [plB_eq, tupd_dv h, if_pos h'.1]
    exact small_num h'
  | succ n ih =>
    intro m d h hm
    obtain ⟨m, rfl⟩ : ∃ j, m = j + 1 := ⟨m - 1, by omega⟩
    cases hr : ratB d with
    | true =>
      rw [plB_eq, tupd_dv h, if_pos hr]
      exact small_num (h.num hr)
    | false =>
      obtain ⟨j, l, e, rfl, hl, he⟩ := h.tup hr
      cases e
      have e1 : tupd (.tup l) = .tup l := rfl
      rw [plB_eq, e1, if_neg (by rw [hr]; decide)]
      exact List.all_eq_true.mpr fun e hm => ih m e (he e hm) (by omega)
/-! ### plain law: the program's text is the law's -/
theorem words_app : ∀ {s r : List (List Nat)}, s.getLast? ≠ some [44] → wordsL (s ++ r) = wordsL s ++ wordsL r
  | [], r, _ => rfl
  | [t], r, h => by
    have ht : t ≠ [44] := fun e => h (by rw [e]; rfl)
    simp [wordsL, ht]
  | t :: u :: s, r, h => by
    have ih := words_app (s := u :: s) (r := r) (by simpa using h)
    show t ++ (if t = [44] ∧ (u :: (s ++ r)).head? ≠ some [41] then [32] else []) ++ wordsL (u :: s ++ r) = (t ++ (if t = [44] ∧ (u :: s).head? ≠ some [41] then [32] else []) ++ wordsL (u :: s)) ++ wordsL r
    rw [ih]
    simp only [List.head?_cons, List.append_assoc]
    congr 2
theorem tkR_words (d : D) : wordsL (tkR d) = ratT d := by
  have n44 : ∀ n, decL n ≠ [44] := fun n h => by
    have := dig_range (n := n) (c := 44) (by rw [h]; simp)
    omega
  unfold tkR ratT
  split <;> split <;> simp [wordsL, n44]
theorem tkR_last (d : D) : (tkR d).getLast? ≠ some [44] := by
  have n44 : ∀ n, decL n ≠ [44] := fun n h => by
    have := dig_range (n := n) (c := 44) (by rw [h]; simp)
    omega
  unfold tkR
  split <;> split <;> simp [n44]
theorem tkN_last {n : Nat} {d : D} (h : DV n d) : (tkN n d).getLast? ≠ some [44] := by
  cases hr : ratB d with
  | true => rw [tkN_rat hr]; exact tkR_last d
  | false =>
    obtain ⟨m, l, rfl, rfl, _, _⟩ := h.tup hr
    rw [tkN_tup hr, List.getLast?_concat]
    decide
theorem sep_words {m k : Nat} (ih : ∀ e, DV m e → txN k e = wordsL (tkN m e)) : ∀ (l : List D) (r : List (List Nat)), l ≠ [] → (∀ e ∈ l, DV m e) → wordsL (sepT (l.map (tkN m)) ++ r) = sepL (l.map (txN k)) ++ wordsL r
  | [], _, h, _ => absurd rfl h
  | [x], r, _, he => by
    have hx := he x (by simp)
    have e1 : sepT ([x].map (tkN m)) = tkN m x := by simp [sepT]
    have e2 : sepL ([x].map (txN k)) = txN k x := by simp [sepL]
    rw [e1, e2, words_app (tkN_last hx), ih x hx]
  | x :: y :: l, r, _, he => by
    have hx := he x (by simp)
    have e1 : sepT ((x :: y :: l).map (tkN m)) = tkN m x ++ [[44]] ++ sepT ((y :: l).map (tkN m)) := sepT_cons2 _ _ _
    have e2 : sepL ((x :: y :: l).map (txN k)) = txN k x ++ [44, 32] ++ sepL ((y :: l).map (txN k)) := by simp [sepL]
    have h1 := sep_words ih (y :: l) r (by simp) fun e hm => he e (List.mem_cons_of_mem _ hm)
    obtain ⟨w, q, ew, hw⟩ := tkN_head (he y (by simp))
    have hh : (sepT ((y :: l).map (tkN m)) ++ r).head? = some w := by simp [sepT, ew]
    rw [e1, e2]
    simp only [List.append_assoc]
    rw [words_app (tkN_last hx), ih x hx]
    show _ ++ wordsL ([44] :: (sepT ((y :: l).map (tkN m)) ++ r)) = _
    rw [wordsL, hh, h1, if_pos ⟨rfl, by simpa using hw⟩]
    simp
theorem tx_words : ∀ (n k : Nat) (d : D), DV n d → n ≤ k → txN k d = wordsL (tkN n d) := by
  intro n
  induction n with
  | zero =>
    intro k d h hk
    have hr := (show NumV d from h).1
    rw [txN_rat hr, tkN_rat hr, tkR_words]
  | succ n ih =>
    intro k d h hk
    cases hr : ratB d with
    | true => rw [txN_rat hr, tkN_rat hr, tkR_words]
    | false =>
      obtain ⟨k, rfl⟩ : ∃ j, k = j + 1 := ⟨k - 1, by omega⟩
      obtain ⟨m, l, e, rfl, hl, he⟩ := h.tup hr
      cases e
      rw [tkN_tup hr, txN_succ, if_neg (by rw [hr]; decide)]
      show [40] ++ sepL (l.map (txN k)) ++ (if l.length = 1 then [44, 41] else [41]) = _
      by_cases hl0 : l = []
      · subst hl0
        rfl
      · have h1 := sep_words (m := n) (k := k) (fun e hm => ih k e hm (by omega)) l ((if l.length = 1 then [[44]] else []) ++ [[41]]) hl0 he
        have e3 : [[40]] ++ sepT (l.map (tkN n)) ++ (if l.length = 1 then [[44]] else []) ++ [[41]] = [40] :: (sepT (l.map (tkN n)) ++ ((if l.length = 1 then [[44]] else []) ++ [[41]])) := by simp
        rw [e3, wordsL, h1]
        split <;> simp [wordsL]
end W75
set_option Elab.async false
set_option linter.all false
set_option maxRecDepth 100000
set_option maxHeartbeats 1000000
namespace W75
open PySem PySem.Spec PyProof.Rows L2 LamX L3 Hd
local macro_rules | `(tactic| walk_at "den") => `(tactic| simp only [List.map, sRet, sSet, sSetLc, sAsg, sPar, sPar3, sExpr, sPass, sBreak, sCont, sIf, sWhile, sFor, sAug, sFld3, sFldAug3, sSub, sRaise,
  seqT, retT, setT, asgT, parT, dropT, ifT, augT, fldT, fldAugT, subT, rzT, eAnds, eOrs, eNot, eBf, eVar, eTy, eInt, eStr, eBl, eNon, eGlob, eBin, eNeg, eCmp, eChain, eIf, eTup, eLst, eFrz, eIx, eSl, eFld, eCall, eCall0, eBm, eOm, eLc, eMake, eDisp, eGcd, iSeq, iLst, iTupl, iTxt, L3.iRng1, L3.iRng2, iEnm, iEnmT, iRngDn, eDict0, L3.ifsT,
  tCmp3, tChain3, tTru, tNot3, tAnds, tOrs, testT, truT, notT, andT, orT, andE, orE, notE, ifE, cE', argT, varE, cE, opE, unE, chainE, tupE, lstE, slE, optE, spE, mtE, omE, makeE, dispE, Bf.r, Bm.r, Bm.ty, Tg.t, setAll, Option.map,
  List.getElem?_cons_zero, List.getElem?_cons_succ, List.set_cons_zero, List.set_cons_succ, Option.some.injEq, exists_eq_left', List.length_cons, List.length_nil, Nat.reduceAdd, true_and, binD, cmpD, augD, fnSp, mtC, mkC, rzC, gvD])
variable {P : Program} {w : World} {K : PySem.W.Frag} {mg : Str → Option Value} {base : Heap} {T : List (Addr × Str)} {k : Nat} {f : Addr} {fd : FuncData}
open PySem.NumText
/-! ### plain law: tokens -/
/-- what holds of each token: its kind, its size, its signs -/
structure TokG (w : List Nat) : Prop where
  one : Tok1 w
  len : w.length ≤ 640 ∨ w.length = 4001
  sz : SzOk w
  ch : ChOk w
theorem inner_dig {c : Nat} (h : 48 ≤ c ∧ c ≤ 57) : inL INNERs c = true := by
  have : ∀ c : Fin 58, 48 ≤ c.val → inL INNERs c.val = true := by decide +kernel
  exact this ⟨c, by omega⟩ h.1
theorem word_dec (n : Nat) : Word (decL n) := ⟨decL_ne n, List.all_eq_true.mpr fun c hc => inner_dig (dig_range hc)⟩
theorem sz_of {w : List Nat} (h : w.length ≤ 4001) : SzOk w := by
  unfold SzOk
  rw [sizeLine_eq]
  omega
theorem ch_dig {w : List Nat} (h : ∀ c ∈ w, c < 128) : ChOk w := by
  unfold ChOk
  exact List.all_eq_true.mpr fun c hc => decide_eq_true (by have := h c hc; omega)
theorem tokG_dec {n : Nat} (h : n < 10 ^ 45) : TokG (decL n) := by
  have hl := decL_len h (by decide)
  exact ⟨.inl (word_dec n), .inl (by omega), sz_of (by omega), ch_dig fun c hc => by have := dig_range hc; omega⟩
theorem tokG_sig {c : Nat} (h : Sig c) (hc : c < 128) : TokG [c] := ⟨.inr ⟨c, rfl, h⟩, .inl (by simp), sz_of (by simp), ch_dig fun d hd => by simp at hd; omega⟩
theorem sig40 : Sig 40 := by refine ⟨?_, ?_, ?_⟩ <;> decide +kernel
theorem sig41 : Sig 41 := by refine ⟨?_, ?_, ?_⟩ <;> decide +kernel
theorem sig43 : Sig 43 := by refine ⟨?_, ?_, ?_⟩ <;> decide +kernel
theorem sig44 : Sig 44 := by refine ⟨?_, ?_, ?_⟩ <;> decide +kernel
theorem sig45 : Sig 45 := by refine ⟨?_, ?_, ?_⟩ <;> decide +kernel
theorem sig47 : Sig 47 := by refine ⟨?_, ?_, ?_⟩ <;> decide +kernel
theorem tokR_all {d : D} (h : NumV d) : ∀ w ∈ tkR d, TokG w := by
  obtain ⟨h1, h2, h3⟩ := h
  have a := tokG_dec h2
  have b : TokG (decL (ratP d).2.toNat) := tokG_dec (by omega)
  intro w hw
  unfold tkR at hw
  rcases List.mem_append.mp hw with hw | hw
  · split at hw
    · simp at hw; subst hw; exact tokG_sig sig45 (by decide)
    · cases hw
  · split at hw
    · simp at hw; subst hw; exact a
    · simp at hw
      rcases hw with rfl | rfl | rfl
      · exact a
      · exact tokG_sig sig47 (by decide)
      · exact b
theorem sepT_mem {w : List Nat} : ∀ {s : List (List (List Nat))}, w ∈ sepT s → w = [44] ∨ ∃ a ∈ s, w ∈ a
  | [], h => by cases h
  | a :: r, h => by
    unfold sepT at h
    rcases List.mem_append.mp h with h | h
    · exact .inr ⟨a, by simp, h⟩
    · obtain ⟨b, hb, hw⟩ := List.mem_flatten.mp h
      obtain ⟨x, hx, rfl⟩ := List.mem_map.mp hb
      rcases List.mem_append.mp hw with hw | hw
      · simp at hw; exact .inl hw
      · exact .inr ⟨x, by simp [hx], hw⟩
theorem tok_all : ∀ (n : Nat) (d : D), DV n d → ∀ w ∈ tkN n d, TokG w := by
  intro n
  induction n with
  | zero => intro d h; exact tokR_all h
  | succ n ih =>
    intro d h w hw
    cases hr : ratB d with
    | true => rw [tkN_rat hr] at hw; exact tokR_all (h.num hr) w hw
    | false =>
      obtain ⟨m, l, e, rfl, hl, he⟩ := h.tup hr
      cases e
      rw [tkN_tup hr] at hw
      simp only [List.mem_append, List.mem_singleton] at hw
      rcases hw with ((rfl | hw) | hw) | rfl
      · exact tokG_sig sig40 (by decide)
      · rcases sepT_mem hw with rfl | ⟨a, ha, hw⟩
        · exact tokG_sig sig44 (by decide)
        · obtain ⟨x, hx, rfl⟩ := List.mem_map.mp ha
          exact ih x (he x hx) w hw
      · split at hw
        · simp at hw; subst hw; exact tokG_sig sig44 (by decide)
        · cases hw
      · exact tokG_sig sig41 (by decide)
/-- behind what begins by a sign -/
def SigHead (r : List (List Nat)) : Prop := ∀ u, r.head? = some u → ∃ c, u = [c] ∧ Sig c
theorem not_word {c : Nat} (h : Sig c) : ¬ Word [c] := fun w => by
  have := w.2
  simp at this
  rw [h.1] at this
  cases this
theorem apart_sig {c : Nat} {r : List (List Nat)} (h : Sig c) (hr : Apart r) : Apart ([c] :: r) := ⟨fun w => absurd w (not_word h), hr⟩
theorem apart_R (d : D) {r : List (List Nat)} (hs : SigHead r) (hr : Apart r) : Apart (tkR d ++ r) := by
  have num : ∀ n, Apart (decL n :: r) := fun n => ⟨fun _ u hu => hs u hu, hr⟩
  have rest : Apart ((if (ratP d).2 = 1 then [decL (ratP d).1.natAbs] else [decL (ratP d).1.natAbs, [47], decL (ratP d).2.toNat]) ++ r) := by
    split
    · exact num _
    · refine ⟨fun _ u hu => ?_, apart_sig sig47 (num _)⟩
      have : [47] = u := by simpa using hu
      exact ⟨47, this.symm, sig47⟩
  unfold tkR
  rw [List.append_assoc]
  split
  · exact apart_sig sig45 rest
  · exact rest
theorem sigHead_cons {c : Nat} {r : List (List Nat)} (h : Sig c) : SigHead ([c] :: r) := fun u hu => ⟨c, by simpa using hu.symm, h⟩
theorem apart_sep {m : Nat} (ih : ∀ e r, DV m e → SigHead r → Apart r → Apart (tkN m e ++ r)) : ∀ (l : List D) (r : List (List Nat)), (∀ e ∈ l, DV m e) → SigHead r → Apart r → Apart (sepT (l.map (tkN m)) ++ r)
  | [], r, _, _, hr => hr
  | [x], r, he, hs, hr => by
    have e1 : sepT ([x].map (tkN m)) = tkN m x := by simp [sepT]
    rw [e1]
    exact ih x r (he x (by simp)) hs hr
  | x :: y :: l, r, he, hs, hr => by
    have e1 : sepT ((x :: y :: l).map (tkN m)) = tkN m x ++ [[44]] ++ sepT ((y :: l).map (tkN m)) := sepT_cons2 _ _ _
    have h1 := apart_sep ih (y :: l) r (fun e hm => he e (List.mem_cons_of_mem _ hm)) hs hr
    rw [e1]
    simp only [List.append_assoc]
    exact ih x _ (he x (by simp)) (sigHead_cons sig44) (apart_sig sig44 h1)
theorem apart_N : ∀ (n : Nat) (d : D) (r : List (List Nat)), DV n d → SigHead r → Apart r → Apart (tkN n d ++ r) := by
  intro n
  induction n with
  | zero => intro d r h hs hr; exact apart_R d hs hr
  | succ n ih =>
    intro d r h hs hr
    cases hb : ratB d with
    | true => rw [tkN_rat hb]; exact apart_R d hs hr
    | false =>
      obtain ⟨m, l, e, rfl, hl, he⟩ := h.tup hb
      cases e
      rw [tkN_tup hb]
      simp only [List.append_assoc, List.cons_append, List.nil_append]
      have tail : Apart ((if l.length = 1 then [[44]] else []) ++ ([41] :: r)) ∧ SigHead ((if l.length = 1 then [[44]] else []) ++ ([41] :: r)) := by
        split
        · exact ⟨apart_sig sig44 (apart_sig sig41 hr), sigHead_cons sig44⟩
        · exact ⟨apart_sig sig41 hr, sigHead_cons sig41⟩
      exact apart_sig sig40 (apart_sep (fun e r h1 h2 h3 => ih e r h1 h2 h3) l _ he tail.2 tail.1)
/-- the three texts' tokens -/
theorem toks_all {n : Nat} {d : D} (h : DV n d) : toksOf (wordsL (tkN n d)) = tkN n d := by
  have ha := apart_N n d [] h (fun u hu => by cases hu) trivial
  rw [List.append_nil] at ha
  exact toks_words (fun w hw => (tok_all n d h w hw).one) ha
/-! ### counts -/
def cntB (l : List (List Nat)) : Nat := (l.filter fun t => decide (t = [40])).length
theorem cntO_zero (l : List (List Nat)) : cntO l 0 = cntB l := rfl
theorem cntB_app (a b : List (List Nat)) : cntB (a ++ b) = cntB a + cntB b := by simp [cntB]
theorem cntB_cons (a : List Nat) (b : List (List Nat)) : cntB (a :: b) = (if a = [40] then 1 else 0) + cntB b := by
  unfold cntB
  rw [List.filter_cons]
  by_cases h : a = [40]
  · rw [if_pos (decide_eq_true h), if_pos h, List.length_cons]; omega
  · rw [if_neg (by simpa using h), if_neg h]; omega
theorem cntB_take (l : List (List Nat)) (n : Nat) : cntB (l.take n) ≤ cntB l := by
  have h := cntB_app (l.take n) (l.drop n)
  rw [List.take_append_drop] at h
  omega
theorem cntB_drop (l : List (List Nat)) (n : Nat) : cntB (l.drop n) ≤ cntB l := by
  have h := cntB_app (l.take n) (l.drop n)
  rw [List.take_append_drop] at h
  omega
theorem cntB_td (l : List (List Nat)) (n m : Nat) (h : n ≤ m) : cntB (l.take n) + cntB (l.drop m) ≤ cntB l := by
  have h1 := cntB_app (l.take n) (l.drop n)
  rw [List.take_append_drop] at h1
  have h2 := cntB_drop (l.drop n) (m - n)
  rw [List.drop_drop, show n + (m - n) = m by omega] at h2
  omega
def cB : Nat → Nat
  | 0 => 0
  | n + 1 => 1 + 3 * cB n
theorem cntR (d : D) : cntB (tkR d) = 0 := by
  have h : ∀ n, ¬ decL n = [40] := fun n => dec_no40 n
  unfold tkR
  rw [cntB_app]
  split <;> split <;> simp [cntB_cons, h, cntB]
theorem cntSep (f : D → List (List Nat)) (c : Nat) : ∀ l : List D, (∀ e ∈ l, cntB (f e) ≤ c) → cntB (sepT (l.map f)) ≤ l.length * c
  | [], _ => by simp [sepT, cntB]
  | [x], h => by
    have e1 : sepT ([x].map f) = f x := by simp [sepT]
    rw [e1]
    have := h x (by simp)
    simpa using this
  | x :: y :: l, h => by
    have e1 : sepT ((x :: y :: l).map f) = f x ++ [[44]] ++ sepT ((y :: l).map f) := sepT_cons2 _ _ _
    have h1 := cntSep f c (y :: l) fun e hm => h e (List.mem_cons_of_mem _ hm)
    have h2 := h x (by simp)
    have h3 : cntB [[44]] = 0 := by decide
    rw [e1, cntB_app, cntB_app, h3, List.length_cons, Nat.succ_mul]
    omega
theorem cnt_dv : ∀ (n : Nat) (d : D), DV n d → cntB (tkN n d) ≤ cB n := by
  intro n
  induction n with
  | zero => intro d h; have e : tkN 0 d = tkR d := rfl; rw [e, cntR]; exact Nat.zero_le _
  | succ n ih =>
    intro d h
    cases hr : ratB d with
    | true => rw [tkN_rat hr, cntR]; exact Nat.zero_le _
    | false =>
      obtain ⟨m, l, e, rfl, hl, he⟩ := h.tup hr
      cases e
      have h1 := cntSep (tkN n) (cB n) l fun e hm => ih e (he e hm)
      have h2 : l.length * cB n ≤ 3 * cB n := Nat.mul_le_mul_right _ hl
      have h3 : cntB (if l.length = 1 then [[44]] else []) = 0 := by split <;> decide
      have h4 : cntB [[40]] = 1 := by decide
      have h5 : cntB [[41]] = 0 := by decide
      rw [tkN_tup hr, cntB_app, cntB_app, cntB_app, h3, h4, h5]
      show _ ≤ 1 + 3 * cB n
      omega
theorem lenSep (f : D → List (List Nat)) (c : Nat) : ∀ l : List D, (∀ e ∈ l, (f e).length ≤ c) → (sepT (l.map f)).length ≤ l.length * (c + 1)
  | [], _ => by simp [sepT]
  | [x], h => by
    have e1 : sepT ([x].map f) = f x := by simp [sepT]
    rw [e1]
    have := h x (by simp)
    simp
    omega
  | x :: y :: l, h => by
    have e1 : sepT ((x :: y :: l).map f) = f x ++ [[44]] ++ sepT ((y :: l).map f) := sepT_cons2 _ _ _
    have h1 := lenSep f c (y :: l) fun e hm => h e (List.mem_cons_of_mem _ hm)
    have h2 := h x (by simp)
    have e2 : (x :: y :: l).length * (c + 1) = (y :: l).length * (c + 1) + (c + 1) := by rw [List.length_cons (as := y :: l), Nat.succ_mul]
    rw [e2, e1, List.length_append, List.length_append]
    have e3 : ([[44]] : List (List Nat)).length = 1 := rfl
    omega
theorem len_dv : ∀ (n : Nat) (d : D), DV n d → (tkN n d).length ≤ 6 * 4 ^ n := by
  have lr : ∀ d, (tkR d).length ≤ 4 := fun d => by
    unfold tkR
    rw [List.length_append]
    split <;> split <;> simp
  intro n
  induction n with
  | zero => intro d h; have e : tkN 0 d = tkR d := rfl; rw [e]; have := lr d; omega
  | succ n ih =>
    intro d h
    have h6 : 6 ≤ 6 * 4 ^ n := by have := Nat.pow_pos (n := n) (show 0 < 4 by decide); omega
    have hp : 6 * 4 ^ (n + 1) = 4 * (6 * 4 ^ n) := by rw [Nat.pow_succ]; omega
    cases hr : ratB d with
    | true => rw [tkN_rat hr]; have := lr d; omega
    | false =>
      obtain ⟨m, l, e, rfl, hl, he⟩ := h.tup hr
      cases e
      rw [tkN_tup hr]
      match l, hl, he with
      | [], _, _ => have e0 : ([[40]] ++ sepT (([] : List D).map (tkN n)) ++ (if ([] : List D).length = 1 then [[44]] else []) ++ [[41]]).length = 2 := rfl; omega
      | [x], _, he =>
        have := ih x (he x (by simp))
        have e1 : sepT ([x].map (tkN n)) = tkN n x := by simp [sepT]
        rw [e1]
        simp
        omega
      | [x, y], _, he =>
        have h1 := ih x (he x (by simp))
        have h2 := ih y (he y (by simp))
        have e1 : sepT ([x, y].map (tkN n)) = tkN n x ++ [[44]] ++ tkN n y := by simp [sepT]
        rw [e1]
        simp
        omega
      | [x, y, z], _, he =>
        have h1 := ih x (he x (by simp))
        have h2 := ih y (he y (by simp))
        have h3 := ih z (he z (by simp))
        have e1 : sepT ([x, y, z].map (tkN n)) = tkN n x ++ [[44]] ++ tkN n y ++ [[44]] ++ tkN n z := by simp [sepT]
        rw [e1]
        simp
        omega
      | _ :: _ :: _ :: _ :: _, hl, _ => exact absurd hl (by simp)
theorem words_len (s : Nat) : ∀ l : List (List Nat), (∀ w ∈ l, w.length ≤ s) → (wordsL l).length ≤ l.length * (s + 1)
  | [], _ => by simp [wordsL]
  | t :: r, h => by
    have h1 := words_len s r fun w hw => h w (List.mem_cons_of_mem _ hw)
    have h2 := h t (by simp)
    rw [wordsL, List.length_append, List.length_append, List.length_cons, Nat.succ_mul]
    have : (if t = [44] ∧ r.head? ≠ some [41] then [32] else ([] : List Nat)).length ≤ 1 := by split <;> simp
    omega
theorem tok_len : ∀ (n : Nat) (d : D), DV n d → ∀ w ∈ tkN n d, w.length ≤ 45 := by
  have lr : ∀ d, NumV d → ∀ w ∈ tkR d, w.length ≤ 45 := by
    intro d h w hw
    obtain ⟨h1, h2, h3⟩ := h
    have a := decL_len h2 (by decide)
    have b := decL_len (n := (ratP d).2.toNat) (k := 45) (by omega) (by decide)
    unfold tkR at hw
    rcases List.mem_append.mp hw with hw | hw
    · split at hw
      · simp at hw; subst hw; decide
      · cases hw
    · split at hw
      · simp at hw; subst hw; exact a
      · simp at hw
        rcases hw with rfl | rfl | rfl
        · exact a
        · decide
        · exact b
  intro n
  induction n with
  | zero => intro d h; exact lr d h
  | succ n ih =>
    intro d h w hw
    cases hr : ratB d with
    | true => rw [tkN_rat hr] at hw; exact lr d (h.num hr) w hw
    | false =>
      obtain ⟨m, l, e, rfl, hl, he⟩ := h.tup hr
      cases e
      rw [tkN_tup hr] at hw
      simp only [List.mem_append, List.mem_singleton] at hw
      rcases hw with ((rfl | hw) | hw) | rfl
      · decide
      · rcases sepT_mem hw with rfl | ⟨a, ha, hw⟩
        · decide
        · obtain ⟨x, hx, rfl⟩ := List.mem_map.mp ha
          exact ih x (he x hx) w hw
      · split at hw
        · simp at hw; subst hw; decide
        · cases hw
      · decide
/-- the reader's place, if it is right, lies within -/
theorem tokAt_lt {ts : List (List Nat)} {n : Nat} (h : tokAt ts n ≠ []) : n < ts.length := get_lt (tokAt_get h)
theorem rdNum_in {ts : List (List Nat)} {n : Nat} (h : (rdNum ts n).2 = true) : (rdNum ts n).1 ≤ ts.length := by
  have main : ∀ neg s, (rdAt ts neg s).2 = true → (rdAt ts neg s).1 ≤ ts.length := by
    intro neg s
    unfold rdAt
    cases h1 : isNum (tokAt ts s) 4000 with
    | false => intro h; simp at h
    | true =>
      have l1 := tokAt_lt (isNum_facts h1).1
      split
      · intro h; simp at h
      · split
        · intro _; show s + 1 ≤ _; omega
        · split
          · rename_i h2
            simp only [Bool.and_eq_true] at h2
            have l2 := tokAt_lt (isNum_facts h2.1.1).1
            intro _; show s + 3 ≤ _; omega
          · intro h; simp at h
  rw [rdNum_at] at h ⊢
  split at h
  · rename_i c; rw [if_pos c]; exact main _ _ h
  · rename_i c; rw [if_neg c]; exact main _ _ h
theorem rdL_in {rd : Nat → Nat × Bool} {ts : List (List Nat)} (hr : ∀ n, (rd n).2 = true → (rd n).1 ≤ ts.length) : ∀ k a right many, (rdL rd ts k a right many).2 = true → (rdL rd ts k a right many).1 ≤ ts.length := by
  intro k
  induction k with
  | zero => intro a right many h; cases h
  | succ k ih =>
    intro a right many
    rw [rdL_succ]
    split
    · split
      · rename_i h2
        have := get_lt h2.2
        intro _; show a + 2 ≤ _; omega
      · exact ih _ _ _
    · split
      · intro h; cases h
      · split
        · rename_i h2
          have := get_lt h2.2
          intro _; show a + 1 ≤ _; omega
        · intro h; cases h
theorem rdM_in {ts : List (List Nat)} : ∀ d n, (rdM ts d n).2 = true → (rdM ts d n).1 ≤ ts.length
  | 0, n => rdNum_in
  | d + 1, n => by
    unfold rdM
    split
    · split
      · rename_i h2
        have := get_lt h2
        intro _; show n + 2 ≤ _; omega
      · exact rdL_in (rdM_in d) _ _ _ _
    · exact rdNum_in
end W75
set_option Elab.async false
set_option linter.all false
set_option maxRecDepth 100000
set_option maxHeartbeats 1000000
namespace W75
open PySem PySem.Spec PyProof.Rows L2 LamX L3 Hd
local macro_rules | `(tactic| walk_at "den") => `(tactic| simp only [List.map, sRet, sSet, sSetLc, sAsg, sPar, sPar3, sExpr, sPass, sBreak, sCont, sIf, sWhile, sFor, sAug, sFld3, sFldAug3, sSub, sRaise,
  seqT, retT, setT, asgT, parT, dropT, ifT, augT, fldT, fldAugT, subT, rzT, eAnds, eOrs, eNot, eBf, eVar, eTy, eInt, eStr, eBl, eNon, eGlob, eBin, eNeg, eCmp, eChain, eIf, eTup, eLst, eFrz, eIx, eSl, eFld, eCall, eCall0, eBm, eOm, eLc, eMake, eDisp, eGcd, iSeq, iLst, iTupl, iTxt, L3.iRng1, L3.iRng2, iEnm, iEnmT, iRngDn, eDict0, L3.ifsT, eIsE, eXf, xfE, eRepr, eIntW, eCallH, spH, eCallG, eCallG0, spG, eLam,
  tCmp3, tChain3, tTru, tNot3, tAnds, tOrs, testT, truT, notT, andT, orT, andE, orE, notE, ifE, cE', argT, varE, cE, opE, unE, chainE, tupE, lstE, slE, optE, spE, mtE, omE, makeE, dispE, Bf.r, Bm.r, Bm.ty, Tg.t, setAll, Option.map,
  List.getElem?_cons_zero, List.getElem?_cons_succ, List.set_cons_zero, List.set_cons_succ, Option.some.injEq, exists_eq_left', List.length_cons, List.length_nil, Nat.reduceAdd, true_and, binD, cmpD, augD, fnSp, mtC, mkC, rzC, gvD])
variable {P : Program} {w : World} {K : PySem.W.Frag} {mg : Str → Option Value} {base : Heap} {T : List (Addr × Str)} {k : Nat} {f : Addr} {fd : FuncData}
open PySem.NumText
/-! ### a reading's fault -/
theorem ft_text {cl : Nat → Addr} {i j : Int} {G : Gp} {Q : K3} (q : Q (.tup [.str "text", .int i, .int j]) G) : fW i j ≠ [] ∧ ∃ vals, ftK cl (cl 6) (fW i j) vals ∧ Q (.tup vals) G :=
  ⟨by simp [fW], _, .inr (.inr (.inr ⟨rfl, _, _, rfl, rfl, rfl⟩)), q⟩
theorem lam_of {x : Str} {ft : Ft} {b : TE3} {τ : S3} {G : Gp} {Q : K3} {E : X3} {due : D} (h : ∀ Q0 : K3, Q0 due G → b τ G (fun _ G1 => Q0 .non G1) (fun C fs G1 => fs ≠ [] ∧ ∃ vals, ft C fs vals ∧ Q0 (.tup vals) G1)) (q : Q due G) : lamE (some (x, ft)) b τ G Q E := h Q q
def S__law_read_fault (cs : List Addr) (cl : Nat → Addr) (CR cP PP : Addr) (x : D) (G : Gp) (Q : K3) (E : X3) : Prop := ∃ k, kn cs G x = some k ∧ k ≠ "str" ∧ Q (.tup [.str "text", .int 0, .int 0]) G
abbrev s__law_read_fault : Stmt := (top 72)
def n__law_read_fault : List Str := ["text"]
def b__law_read_fault (c : Cn) : List (CS c) := [sRet (eLam (fun nm => (eCall 0 [(eVar 0)])))]
def c__law_read_fault (T : List (Addr × Str)) (cs : List Addr) (cl : Nat → Addr) (CR cP PP : Addr) : Cn := { T := T, N := n__law_read_fault, nm := (defScope (top 72)).names, fnL := [("value_of_text", sp_value_of_text cs CR (cl 6))], lm := some (cP, PP), lf := some ("_law_fault", ftK cl), gd := true, nd := true }
theorem k__law_read_fault (T : List (Addr × Str)) (cs : List Addr) (cl : Nat → Addr) (CR cP PP : Addr) : chkSs (b__law_read_fault (c__law_read_fault T cs cl CR cP PP)) (defBody (top 72)) = true := by kernel_rfl
def sp__law_read_fault (cs : List Addr) (cl : Nat → Addr) (CR cP PP : Addr) : Sp3 := fun ds G Q E => match ds with
  | [a0] => S__law_read_fault cs cl CR cP PP a0 G Q E
  | _ => False
abbrev W__law_read_fault (T : List (Addr × Str)) (cs : List Addr) (cl : Nat → Addr) (CR cP PP : Addr) (a0 : D) (G : Gp) (Q : K3) (E : X3) : Prop := seqT ((b__law_read_fault (c__law_read_fault T cs cl CR cP PP)).map (·.t)) { nx := fun _ G' => FG Q .non G', rt := FG Q, xe := FX E } [some a0] G
theorem kn_ne {cs : List Addr} {G : Gp} {x : D} {k : String} (h : kn cs G x = some k) (hk : k ≠ "str") (t : List Nat) : x ≠ .str (mkS t) := by
  rintro rfl
  have : kn cs G (.str (mkS t)) = some "str" := kn_of rfl
  rw [this] at h
  cases h
  exact hk rfl
theorem p__law_read_fault {cs : List Addr} {cl : Nat → Addr} {CR cP PP : Addr} {x : D} {G : Gp} {Q : K3} {E : X3} (h : S__law_read_fault cs cl CR cP PP x G Q E) : W__law_read_fault T cs cl CR cP PP x G Q E := by
  obtain ⟨k, hk, hs, q⟩ := h
  unfold W__law_read_fault b__law_read_fault
  walk_at "den"
  simp only [c__law_read_fault, Cn.lamc, List.getElem?_cons_zero, List.getElem?_cons_succ]
  refine lam_of (fun Q0 q0 => ?_) ⟨G, Les.refl _, q⟩
  refine ⟨_, rfl, k, hk, fun _ => ft_text q0, fun t e => absurd e (kn_ne hk hs t)⟩
theorem ok__law_read_fault (cs : List Addr) (cl : Nat → Addr) (CR cP PP : Addr) (F : FunD K "_law_read_fault" "_law_read_fault" (defArgs (top 72)) (defBody (top 72)) (defScope (top 72)) [] [] f fd) (hl : LamOk (c__law_read_fault T cs cl CR cP PP) fd base mg "_law_read_fault") (g : GOk (c__law_read_fault T cs cl CR cP PP) k P w K mg base) : FnG P w K mg base T (k + 2) f (sp__law_read_fault cs cl CR cP PP) := by
  refine fnG3 F (F.bindsN fun _ _ _ _ _ _ us hl => match us, hl with | [_], _ => rfl) (ps := ["text"]) (C8.fnScope_by (by kernel_rfl)) rfl hl g (b__law_read_fault _) (k__law_read_fault T cs cl CR cP PP) (fun ds G Q E h => ?_) (fun ds G Q E h => ?_)
  · rcases ds with _ | ⟨a0, _ | r⟩ <;> first | rfl | exact False.elim h
  · rcases ds with _ | ⟨a0, _ | r⟩ <;> first | exact False.elim h | exact p__law_read_fault h
end W75
set_option Elab.async false
set_option linter.all false
set_option maxRecDepth 100000
set_option maxHeartbeats 1000000
namespace W75
open PySem PySem.Spec PyProof.Rows L2 LamX L3 Hd
local macro_rules | `(tactic| walk_at "den") => `(tactic| simp only [List.map, sRet, sSet, sSetLc, sAsg, sPar, sPar3, sExpr, sPass, sBreak, sCont, sIf, sWhile, sFor, sAug, sFld3, sFldAug3, sSub, sRaise,
  seqT, retT, setT, asgT, parT, dropT, ifT, augT, fldT, fldAugT, subT, rzT, eAnds, eOrs, eNot, eBf, eVar, eTy, eInt, eStr, eBl, eNon, eGlob, eBin, eNeg, eCmp, eChain, eIf, eTup, eLst, eFrz, eIx, eSl, eFld, eCall, eCall0, eBm, eOm, eLc, eMake, eDisp, eGcd, iSeq, iLst, iTupl, iTxt, L3.iRng1, L3.iRng2, iEnm, iEnmT, iRngDn, eDict0, L3.ifsT, eIsE, eXf, xfE, eRepr, eIntW, eCallH, spH, eCallG, eCallG0, spG, eLam,
  tCmp3, tChain3, tTru, tNot3, tAnds, tOrs, testT, truT, notT, andT, orT, andE, orE, notE, ifE, cE', argT, varE, cE, opE, unE, chainE, tupE, lstE, slE, optE, spE, mtE, omE, makeE, dispE, Bf.r, Bm.r, Bm.ty, Tg.t, setAll, Option.map,
  List.getElem?_cons_zero, List.getElem?_cons_succ, List.set_cons_zero, List.set_cons_succ, Option.some.injEq, exists_eq_left', List.length_cons, List.length_nil, Nat.reduceAdd, true_and, binD, cmpD, augD, fnSp, mtC, mkC, rzC, gvD])
variable {P : Program} {w : World} {K : PySem.W.Frag} {mg : Str → Option Value} {base : Heap} {T : List (Addr × Str)} {k : Nat} {f : Addr} {fd : FuncData}
open PySem.NumText
/-! ### one round of the law -/
theorem isV_dv : ∀ (n k : Nat) (d : D), DV n d → n + 1 ≤ k → IsV k d := by
  have num : ∀ (k : Nat) (d : D), NumV d → IsV (k + 1) d := fun k d h => by
    rcases numV_cases h with ⟨i, rfl, _⟩ | ⟨a, b, rfl, _, _, _⟩
    · trivial
    · refine ⟨by simp, fun e he => ?_⟩
      simp at he
      rcases he with rfl | rfl <;> (cases k <;> trivial)
  intro n
  induction n with
  | zero =>
    intro k d h hk
    obtain ⟨k, rfl⟩ : ∃ j, k = j + 1 := ⟨k - 1, by omega⟩
    exact num k d h
  | succ n ih =>
    intro k d h hk
    obtain ⟨k, rfl⟩ : ∃ j, k = j + 1 := ⟨k - 1, by omega⟩
    rcases h with h | ⟨l, rfl, hl, he⟩
    · exact num k d h
    · exact ⟨by omega, fun e hm => ih k e (he e hm) (by omega)⟩
theorem dv_len {d : D} (h : DV 3 d) : (tkN 3 d).length ≤ 384 := by
  have := len_dv 3 d h
  exact Nat.le_trans this (by decide)
theorem dv_words {d : D} (h : DV 3 d) : (wordsL (tkN 3 d)).length ≤ 90000 := by
  have h1 := words_len 45 (tkN 3 d) (tok_len 3 d h)
  have h2 := Nat.mul_le_mul_right 46 (dv_len h)
  omega
theorem vt_ok {cs : List Addr} {CM CW : Addr} {d : D} {G : Gp} {Q : K3} {E : X3} (hcm : CM ∈ cs) (h : DV 3 d) (q : Q (.str (mkS (wordsL (tkN 3 d)))) G) : sp_value_text cs CM CW [d] G Q E := by
  have f := fine_dv 3 20 d h (by decide)
  have hp := plB_dv 3 16 d h (by decide)
  have ht := tx_words 3 20 d h (by decide)
  have hw := dv_words h
  refine ⟨hcm, f.ak, Nat.le_trans f.w1 (by decide), fun z => ?_, fun _ => ?_⟩
  · rw [hp] at z; cases z
  · rw [f.as_, ht]
    exact ⟨f.pl, tb_dv 3 20 d h (by decide), Nat.le_trans f.w2 (by decide), hw, q⟩
theorem tokOk_dv {d : D} (h : DV 3 d) : TokOk (tkN 3 d) := fun w hw => ⟨(tok_all 3 d h w hw).sz, .inl (by have := tok_len 3 d h w hw; omega)⟩
theorem vof_ok {cs : List Addr} {CR CB : Addr} {d : D} {t : List Nat} {G : Gp} {Q : K3} {E : X3} (h : DV 3 d) (hz : SzOk t) (ht : toksOf t = tkN 3 d) (q : Q d G) : sp_value_of_text cs CR CB [.str (mkS t)] G Q E := by
  refine ⟨"str", kn_of rfl, fun z => absurd rfl z, fun t' e => ?_⟩
  have e1 : t' = t := mkS_inj (by injection e with e; exact e.symm)
  subst e1
  refine ⟨hz, by rw [ht]; exact tokOk_dv h, by rw [ht]; have := dv_len h; omega, ?_⟩
  rw [ht, read_all h (by decide)]
  exact q
theorem joinL_len (s : List Nat) : ∀ l : List (List Nat), (TL.joinL s l).length ≤ (l.map List.length).sum + l.length * s.length
  | [] => by simp [TL.joinL]
  | [w] => by simp [TL.joinL]
  | w :: x :: r => by
    have := joinL_len s (x :: r)
    rw [TL.joinL, List.length_append, List.length_append, List.map_cons, List.sum_cons, List.length_cons (as := x :: r), Nat.succ_mul]
    omega
theorem sum_len (c : Nat) : ∀ l : List (List Nat), (∀ w ∈ l, w.length ≤ c) → (l.map List.length).sum ≤ l.length * c := fun l h => sum_le List.length c l h
theorem sz_le {w : List Nat} (h : w.length ≤ 90000) : SzOk w := by
  unfold SzOk
  rw [sizeLine_eq]
  omega
/-- the changed tokens -/
structure SomeOk (ts : List (List Nat)) : Prop where
  all : ∀ w ∈ ts, TokG w
  len : ts.length ≤ 400
  cnt : cntB ts ≤ 14
  sum : (ts.map List.length).sum ≤ 30000
theorem SomeOk.tok {ts : List (List Nat)} (h : SomeOk ts) : TokOk ts := fun w hw => ⟨(h.all w hw).sz, by rcases (h.all w hw).len with l | l <;> omega⟩
theorem SomeOk.text {ts : List (List Nat)} (h : SomeOk ts) : SzOk (TL.joinL [32] ts) := by
  have h0 := joinL_len [32] ts
  have := h.len
  have := h.sum
  have e : ([32] : List Nat).length = 1 := rfl
  rw [e, Nat.mul_one] at h0
  refine sz_le ?_
  omega
def oddL : List (List Nat) := [[40], [41], [44], [45], [47], [48], [49], [50], [48, 54], [120], [43], List.replicate 4001 55]
theorem odd_ok : ∀ w ∈ oddL, TokG w := by
  have word : ∀ w : List Nat, w ≠ [] → w.all (inL INNERs) = true → w.length ≤ 640 → (∀ c ∈ w, c < 128) → TokG w := fun w h1 h2 h3 h4 => ⟨.inl ⟨h1, h2⟩, .inl h3, sz_of (by omega), ch_dig h4⟩
  intro w hw
  unfold oddL at hw
  simp only [List.mem_cons, List.not_mem_nil, or_false] at hw
  rcases hw with rfl | rfl | rfl | rfl | rfl | rfl | rfl | rfl | rfl | rfl | rfl | rfl
  · exact tokG_sig sig40 (by decide)
  · exact tokG_sig sig41 (by decide)
  · exact tokG_sig sig44 (by decide)
  · exact tokG_sig sig45 (by decide)
  · exact tokG_sig sig47 (by decide)
  · exact word _ (by decide) (by decide +kernel) (by decide) (by decide)
  · exact word _ (by decide) (by decide +kernel) (by decide) (by decide)
  · exact word _ (by decide) (by decide +kernel) (by decide) (by decide)
  · exact word _ (by decide) (by decide +kernel) (by decide) (by decide)
  · exact word _ (by decide) (by decide +kernel) (by decide) (by decide)
  · exact tokG_sig sig43 (by decide)
  · have ha : ∀ c ∈ List.replicate 4001 55, c = 55 := fun c hc => (List.mem_replicate.mp hc).2
    refine ⟨.inl ⟨by intro z; have := congrArg List.length z; rw [List.length_replicate] at this; exact absurd this (by decide), List.all_eq_true.mpr fun c hc => by rw [ha c hc]; decide +kernel⟩, .inr (by rw [List.length_replicate]), sz_of (by rw [List.length_replicate]; exact Nat.le_refl _), ch_dig fun c hc => by rw [ha c hc]; decide⟩
theorem odd_len : ∀ w ∈ oddL, w.length ≤ 4001 := fun w hw => by
  rcases (odd_ok w hw).len with h | h <;> omega
theorem some_of {d : D} (h : DV 3 d) (l : List (List Nat)) (hm : ∀ w ∈ l, w ∈ tkN 3 d ∨ w ∈ oddL) (hl : l.length ≤ 385) (hc : cntB l ≤ 14) (hs : (l.map List.length).sum ≤ 384 * 45 + 4001) : SomeOk l :=
  ⟨fun w hw => (hm w hw).elim (fun h1 => tok_all 3 d h w h1) fun h1 => odd_ok w h1, by omega, hc, by omega⟩
theorem sum_td (l : List (List Nat)) (n m : Nat) (h : n ≤ m) : ((l.take n).map List.length).sum + ((l.drop m).map List.length).sum ≤ (l.map List.length).sum := by
  have e : (l.map List.length).sum = ((l.take n).map List.length).sum + ((l.drop n).map List.length).sum := by rw [← List.sum_append, ← List.map_append, List.take_append_drop]
  have e2 : ((l.drop n).map List.length).sum = (((l.drop n).take (m - n)).map List.length).sum + (((l.drop n).drop (m - n)).map List.length).sum := by rw [← List.sum_append, ← List.map_append, List.take_append_drop]
  rw [List.drop_drop, show n + (m - n) = m by omega] at e2
  omega
theorem some_four {d : D} (h : DV 3 d) {at_ : Nat} {odd : List Nat} (ho : odd ∈ oddL) (l : List (List Nat))
    (hl : l = (tkN 3 d).take at_ ++ [odd] ++ (tkN 3 d).drop (at_ + 1) ∨ l = (tkN 3 d).take at_ ++ [odd] ++ (tkN 3 d).drop at_ ∨ l = (tkN 3 d).take at_ ++ (tkN 3 d).drop (at_ + 1) ∨ l = (tkN 3 d).take at_) : SomeOk l := by
  have hlen := dv_len h
  have hcn : cntB (tkN 3 d) ≤ 13 := cnt_dv 3 d h
  have hsum := sum_len 45 (tkN 3 d) (tok_len 3 d h)
  have hsum2 := Nat.mul_le_mul_right 45 hlen
  have hol := odd_len odd ho
  have c1 : cntB [odd] ≤ 1 := by rw [cntB_cons]; have : cntB [] = 0 := rfl; split <;> omega
  have s1 : ([odd].map List.length).sum = odd.length := by simp
  have hso := some_of h
  generalize tkN 3 d = ts at *
  have mt : ∀ {w : List Nat} {n : Nat}, w ∈ ts.take n → w ∈ ts := fun hw => List.mem_of_mem_take hw
  have md : ∀ {w : List Nat} {n : Nat}, w ∈ ts.drop n → w ∈ ts := fun hw => List.mem_of_mem_drop hw
  have sum3 : ∀ (a b c : List (List Nat)), ((a ++ b ++ c).map List.length).sum = (a.map List.length).sum + (b.map List.length).sum + (c.map List.length).sum := fun a b c => by simp [Nat.add_assoc]
  have sum2 : ∀ (a c : List (List Nat)), ((a ++ c).map List.length).sum = (a.map List.length).sum + (c.map List.length).sum := fun a c => by simp
  have mk : ∀ l : List (List Nat), (∀ w ∈ l, w ∈ ts ∨ w ∈ oddL) → l.length ≤ 385 → cntB l ≤ 14 → (l.map List.length).sum ≤ 384 * 45 + 4001 → SomeOk l := fun l a b c e => hso l a b c e
  rcases hl with rfl | rfl | rfl | rfl
  · have k1 := cntB_td ts at_ (at_ + 1) (by omega)
    have k2 := sum_td ts at_ (at_ + 1) (by omega)
    refine mk _ (fun w hw => ?_) ?_ ?_ ?_
    · rcases List.mem_append.mp hw with hw | hw
      · rcases List.mem_append.mp hw with hw | hw
        · exact .inl (mt hw)
        · simp at hw; subst hw; exact .inr ho
      · exact .inl (md hw)
    · simp only [List.length_append, List.length_take, List.length_drop, List.length_cons, List.length_nil]; omega
    · rw [cntB_app, cntB_app]; omega
    · rw [sum3, s1]; omega
  · have k1 := cntB_td ts at_ at_ (by omega)
    have k2 := sum_td ts at_ at_ (by omega)
    refine mk _ (fun w hw => ?_) ?_ ?_ ?_
    · rcases List.mem_append.mp hw with hw | hw
      · rcases List.mem_append.mp hw with hw | hw
        · exact .inl (mt hw)
        · simp at hw; subst hw; exact .inr ho
      · exact .inl (md hw)
    · simp only [List.length_append, List.length_take, List.length_drop, List.length_cons, List.length_nil]; omega
    · rw [cntB_app, cntB_app]; omega
    · rw [sum3, s1]; omega
  · have k1 := cntB_td ts at_ (at_ + 1) (by omega)
    have k2 := sum_td ts at_ (at_ + 1) (by omega)
    refine mk _ (fun w hw => ?_) ?_ ?_ ?_
    · rcases List.mem_append.mp hw with hw | hw
      · exact .inl (mt hw)
      · exact .inl (md hw)
    · simp only [List.length_append, List.length_take, List.length_drop]; omega
    · rw [cntB_app]; omega
    · rw [sum2]; omega
  · have k1 := cntB_td ts at_ at_ (by omega)
    have k2 := sum_td ts at_ at_ (by omega)
    refine mk _ (fun w hw => .inl (mt hw)) ?_ ?_ ?_
    · simp only [List.length_take]; omega
    · omega
    · omega
theorem z_list {l : List D} {G : Gp} {Q : K3} (q : Q (.lst l) G) : listD false [.lst l] G Q := by
  show mkL false l G Q
  exact z_mkF q
theorem odd_eq : D.lst [.str "(", .str ")", .str ",", .str "-", .str "/", .str "0", .str "1", .str "2", .str "06", .str "x", .str "+", .str ⟨(List.replicate (4001 : Int).toNat ((("7" : Str).cps.getD 0 0))).toArray⟩] = .lst (strL oddL) := rfl
theorem cut_s1 (ts : List (List Nat)) (n : Nat) : cutL (strL ts) none (some (n : Int)) = strL (ts.take n) := by rw [cut_to]; unfold strL; rw [List.map_take]
theorem cut_s2 (ts : List (List Nat)) (n : Nat) : cutL (strL ts) (some (n : Int)) none = strL (ts.drop n) := by rw [cut_from]; unfold strL; rw [List.map_drop]
theorem z_s1 {ts : List (List Nat)} {n : Nat} {G : Gp} {Q : K3} (q : Q (.lst (strL (ts.take n))) G) : slD false (.lst (strL ts)) none (some (n : Int)) G Q := z_sl_lst rfl (by rw [cut_s1]; exact q)
theorem z_s2 {ts : List (List Nat)} {n : Nat} {G : Gp} {Q : K3} (q : Q (.lst (strL (ts.drop n))) G) : slD false (.lst (strL ts)) (some (n : Int)) none G Q := z_sl_lst rfl (by rw [cut_s2]; exact q)
theorem z_s3 {ts : List (List Nat)} {n : Nat} {G : Gp} {Q : K3} (q : Q (.lst (strL (ts.drop (n + 1)))) G) : slD false (.lst (strL ts)) (some ((n : Int) + 1)) none G Q := z_s2 (n := n + 1) q
theorem z_cat {a b : List (List Nat)} {G : Gp} {Q : K3} (h : a.length + b.length ≤ sizeLine) (q : Q (.lst (strL (a ++ b))) G) : addD false (.lst (strL a)) (.lst (strL b)) G Q := z_addL rfl rfl (by rw [strL_len, strL_len]; exact h) (by unfold strL at q ⊢; rw [List.map_append] at q; exact q)
/-- what is due of changed tokens -/
def dueD (ts : List (List Nat)) : D := if (rdM ts 16 0).2 = true ∧ (rdM ts 16 0).1 = ts.length then .non else .tup [.str "text", .int 1, .int ((rdM ts 16 0).1 + 1 : Nat)]
theorem fault_ok {cs : List Addr} {cl : Nat → Addr} {CR : Addr} {ts : List (List Nat)} {G : Gp} {Q : K3} (h : SomeOk ts) (q : Q (dueD ts) G) :
    sp_value_of_text cs CR (cl 6) [.str (mkS (TL.joinL [32] ts))] G (fun _ G1 => Q .non G1) (fun C fs G1 => fs ≠ [] ∧ ∃ vals, ftK cl C fs vals ∧ Q (.tup vals) G1) := by
  have ht : toksOf (TL.joinL [32] ts) = ts := toks_join1 fun w hw => (h.all w hw).one
  refine ⟨"str", kn_of rfl, fun z => absurd rfl z, fun t' e => ?_⟩
  have e1 : t' = TL.joinL [32] ts := mkS_inj (by injection e with e; exact e.symm)
  subst e1
  refine ⟨h.text, by rw [ht]; exact h.tok, by rw [ht]; have := h.len; omega, ?_⟩
  rw [ht]
  have hc : cntO ts 0 ≤ 16 := by rw [cntO_zero]; have := h.cnt; omega
  unfold dueD at q
  rcases valM_all hc with ⟨v, h1, h2, h3⟩ | ⟨h1, h2⟩
  · rw [h1]
    rw [if_pos ⟨h2, Nat.le_antisymm (rdM_in 16 0 h2) h3⟩] at q
    exact q
  · rw [h1]
    rw [if_neg fun z => h2 ⟨z.1, by omega⟩] at q
    exact ft_text q
theorem shp_text (i j : Int) : SeqAt.shaped (.tuple [.str "text", .int i, .int j]) = true := by
  have h1 : PyData.canLay0 (.tuple [.str "text", .int i, .int j]) = true := by
    simp only [PyData.canLay0, PyData.canLayAll0, Bool.and_true]
    decide +kernel
  have h2 : PyData.depth (.tuple [.str "text", .int i, .int j]) ≤ 64 := by
    simp only [PyData.depth, PyData.depthAll]
    omega
  unfold SeqAt.shaped
  rw [h1, decide_eq_true h2]
  rfl
/-- told beside due, the same -/
theorem z_ne_due {ts : List (List Nat)} {G : Gp} {Q : K3} (q : Q (.bl false) G) : eqD true (dueD ts) (dueD ts) G Q := by
  unfold dueD
  split
  · refine .inl ⟨.none, .none, .non, .non, by decide +kernel, by decide +kernel, ?_⟩
    have e : PyData.eqv .none .none = true := by simp only [PyData.eqv]
    rw [e]
    exact q
  · refine .inl ⟨.tuple [.str "text", .int _, .int _], .tuple [.str "text", .int _, .int _], .tup (.cons (.str _) (.cons (.int _) (.cons (.int _) .nil))), .tup (.cons (.str _) (.cons (.int _) (.cons (.int _) .nil))), shp_text _ _, shp_text _ _, ?_⟩
    have e : ∀ (i j : Int), PyData.eqv (.tuple [.str "text", .int i, .int j]) (.tuple [.str "text", .int i, .int j]) = true := fun i j => by
      simp only [PyData.eqv, PyData.eqvAll]
      simp
    rw [e]
    exact q
theorem z_ne_due' {ts : List (List Nat)} {x : D} {G : Gp} {Q : K3} (e : x = dueD ts) (q : Q (.bl false) G) : eqD true (dueD ts) x G Q := by
  rw [e]
  exact z_ne_due q
def S__law_right (cs : List Addr) (cl : Nat → Addr) (CR CM cP PP : Addr) (x : D) (G : Gp) (Q : K3) (E : X3) : Prop := ∃ (p : Addr) (o : GO), CM ∈ cs ∧ x = .obj p ∧ G p = some o ∧ PenO o ∧ ∀ o, PenO o → Q (.bl true) (updG G p o)
abbrev s__law_right : Stmt := (top 71)
def n__law_right : List Str := ["pen", "value", "text", "tokens", "lap", "at", "some", "odd", "place", "good", "due"]
def b__law_right (c : Cn) : List (CS c) := [sSet 1 (eCall 0 [(eVar 0), (eInt 3)]), sSet 2 (eCall 1 [(eVar 1)]), sIf (tOrs [(tNot3 (tTru (eCall 2 [(eCall 3 [(eVar 1)]), (eVar 2)]))), (tNot3 (tTru (eCall 2 [(eCall 4 [(eVar 2)]), (eVar 1)])))]) [sRet (eBl false)] [], sSet 3 (eCall 5 [(eVar 1)]), sIf (tNot3 (tTru (eCall 2 [(eCall 4 [(eBin .Add (eBin .Add (eStr " ") (eBm .join (eStr "  ") [(eVar 3)])) (eStr " "))]), (eVar 1)]))) [sRet (eBl false)] [], sFor (.nm 4) (L3.iRng1 (eInt 6)) [sAsg (.tup [5, 6]) (eTup [(eCall 6 [(eVar 0), (eBf .len [(eVar 3)])]), (eBf (.list false) [(eVar 3)])]), sSet 7 (eCall 7 [(eVar 0), (eLst [(eStr "("), (eStr ")"), (eStr ","), (eStr "-"), (eStr "/"), (eStr "0"), (eStr "1"), (eStr "2"), (eStr "06"), (eStr "x"), (eStr "+"), (eBin .Mult (eStr "7") (eInt 4001))])]), sSet 6 (eCall 7 [(eVar 0), (eLst [(eBin .Add (eBin .Add (eSl (eVar 6) none (some (eVar 5))) (eLst [(eVar 7)])) (eSl (eVar 6) (some (eBin .Add (eVar 5) (eInt 1))) none)), (eBin .Add (eBin .Add (eSl (eVar 6) none (some (eVar 5))) (eLst [(eVar 7)])) (eSl (eVar 6) (some (eVar 5)) none)), (eBin .Add (eSl (eVar 6) none (some (eVar 5))) (eSl (eVar 6) (some (eBin .Add (eVar 5) (eInt 1))) none)), (eSl (eVar 6) none (some (eVar 5)))])]), sAsg (.tup [8, 9]) (eCall 8 [(eVar 6), (eInt 0)]), sSet 10 (eIf (tAnds [(tTru (eVar 9)), (tCmp3 .Eq (eVar 8) (eBf .len [(eVar 6)]))]) eNon (eTup [(eStr "text"), (eInt 1), (eBin .Add (eVar 8) (eInt 1))])), sIf (tCmp3 .NotEq (eLam (fun nm => (eCall 0 [(eBm .join (eStr " ") [(eVar 6)])]))) (eVar 10)) [sRet (eBl false)] []], sRet (eBl true)]
def c__law_right (T : List (Addr × Str)) (cs : List Addr) (cl : Nat → Addr) (CR CM cP PP : Addr) : Cn := { T := T, N := n__law_right, nm := (defScope (top 71)).names, fn := [("_law_drawn_value", sp__law_drawn_value 3), ("_law_value_words", sp__law_value_words cs 3), ("_law_is", sp__law_is cs 5), ("value_text", sp_value_text cs CM (cl 1)), ("value_of_text", sp_value_of_text cs CR (cl 6)), ("_law_tokens_of", sp__law_tokens_of cs 3), ("_law_draw", sp__law_draw), ("_law_pick", sp__law_pick), ("_law_read", sp__law_read 16)], bt := ["range", "len", "list"], fnL := [("value_of_text", sp_value_of_text cs CR (cl 6))], lm := some (cP, PP), lf := some ("_law_fault", ftK cl), gd := true, nd := true }
theorem k__law_right (T : List (Addr × Str)) (cs : List Addr) (cl : Nat → Addr) (CR CM cP PP : Addr) : chkSs (b__law_right (c__law_right T cs cl CR CM cP PP)) (defBody (top 71)) = true := by kernel_rfl
def sp__law_right (cs : List Addr) (cl : Nat → Addr) (CR CM cP PP : Addr) : Sp3 := fun ds G Q E => match ds with
  | [a0] => S__law_right cs cl CR CM cP PP a0 G Q E
  | _ => False
abbrev W__law_right (T : List (Addr × Str)) (cs : List Addr) (cl : Nat → Addr) (CR CM cP PP : Addr) (a0 : D) (G : Gp) (Q : K3) (E : X3) : Prop := seqT ((b__law_right (c__law_right T cs cl CR CM cP PP)).map (·.t)) { nx := fun _ G' => FG Q .non G', rt := FG Q, xe := FX E } [some a0, none, none, none, none, none, none, none, none, none, none] G
theorem p__law_right {cs : List Addr} {cl : Nat → Addr} {CR CM cP PP : Addr} {x : D} {G : Gp} {Q : K3} {E : X3} (h : S__law_right cs cl CR CM cP PP x G Q E) : W__law_right T cs cl CR CM cP PP x G Q E := by
  obtain ⟨p, o, hcm, rfl, hp, ho, q⟩ := h
  unfold W__law_right b__law_right
  refine seq_mid rfl (fun τ G' => ∃ d, DV 3 d ∧ ∃ o1, PenO o1 ∧ τ = [some (.obj p), some d, none, none, none, none, none, none, none, none, none] ∧ G' = updG G p o1) (fun N hN => ?_) ?_
  · walk_at "den"
    simp only [c__law_right, List.getElem?_cons_zero, List.getElem?_cons_succ]
    exact ⟨p, o, rfl, rfl, hp, ho, fun v o1 hv ho1 => hN _ _ ⟨v, hv, o1, ho1, rfl, rfl⟩⟩
  rintro τ G' ⟨d, hd, o1, ho1, rfl, rfl⟩
  have hll := dv_len hd
  refine seq_mid rfl (fun τ G' => τ = [some (.obj p), some d, some (.str (mkS (wordsL (tkN 3 d)))), none, none, none, none, none, none, none, none] ∧ G' = updG G p o1) (fun N hN => ?_) ?_
  · walk_at "den"
    simp only [c__law_right, List.getElem?_cons_zero, List.getElem?_cons_succ]
    exact ⟨hd, by omega, tkN_last hd, dv_words hd, hN _ _ ⟨rfl, rfl⟩⟩
  rintro τ G' ⟨rfl, rfl⟩
  refine seq_mid rfl (fun τ G' => τ = [some (.obj p), some d, some (.str (mkS (wordsL (tkN 3 d)))), none, none, none, none, none, none, none, none] ∧ G' = updG G p o1) (fun N hN => ?_) ?_
  · walk_at "den"
    simp only [c__law_right, List.getElem?_cons_zero, List.getElem?_cons_succ]
    refine vt_ok hcm hd ⟨rfl, trivial, _, tru_bl, ite_f rfl ?_⟩
    exact vof_ok hd (sz_le (dv_words hd)) (toks_all hd) ⟨rfl, isV_dv 3 5 d hd (by decide), _, tru_bl, ite_f rfl (hN _ _ ⟨rfl, rfl⟩)⟩
  rintro τ G' ⟨rfl, rfl⟩
  refine seq_mid rfl (fun τ G' => τ = [some (.obj p), some d, some (.str (mkS (wordsL (tkN 3 d)))), some (.lst (strL (tkN 3 d))), none, none, none, none, none, none, none] ∧ G' = updG G p o1) (fun N hN => ?_) ?_
  · walk_at "den"
    simp only [c__law_right, List.getElem?_cons_zero, List.getElem?_cons_succ]
    exact ⟨hd, by omega, hN _ _ ⟨rfl, rfl⟩⟩
  rintro τ G' ⟨rfl, rfl⟩
  have hne : tkN 3 d ≠ [] := by
    obtain ⟨w, r, e, _⟩ := tkN_head hd
    rw [e]
    simp
  have hsum := sum_len 45 (tkN 3 d) (tok_len 3 d hd)
  have hsum2 := Nat.mul_le_mul_right 45 hll
  refine seq_mid rfl (fun τ G' => τ = [some (.obj p), some d, some (.str (mkS (wordsL (tkN 3 d)))), some (.lst (strL (tkN 3 d))), none, none, none, none, none, none, none] ∧ G' = updG G p o1) (fun N hN => ?_) ?_
  · walk_at "den"
    simp only [c__law_right, List.getElem?_cons_zero, List.getElem?_cons_succ]
    have hj := joinL_len [32, 32] (tkN 3 d)
    have e2 : ([32, 32] : List Nat).length = 2 := rfl
    rw [e2] at hj
    have e1 : ([32] : List Nat).length = 1 := rfl
    refine ⟨rfl, z_join (s := [32, 32]) (ts := tkN 3 d) rfl (by omega) (by rw [e2]; omega) (z_add_str (a := [32]) (sz_le (by rw [List.length_append, e1]; omega)) (z_add_str (b := [32]) (sz_le (by rw [List.length_append, List.length_append, e1]; omega)) ?_))⟩
    refine vof_ok hd (sz_le (by rw [List.length_append, List.length_append, e1]; omega)) (toks_join2 hne fun w hw => (tok_all 3 d hd w hw).one) ⟨rfl, isV_dv 3 5 d hd (by decide), _, tru_bl, ite_f rfl (hN _ _ ⟨rfl, rfl⟩)⟩
  rintro τ G' ⟨rfl, rfl⟩
  refine seq_mid rfl (fun τ G' => ∃ o2, PenO o2 ∧ G' = updG G p o2) (fun N hN => ?_) ?_
  · simp only [sFor, forT, L3.iRng1, itR1]
    walk_at "den"
    refine ⟨⟨by decide, by decide⟩, ?_⟩
    refine for_by (fun rest τ G' => ∃ e4 e5 e6 e7 e8 e9 e10 o2, PenO o2 ∧ τ = [some (.obj p), some d, some (.str (mkS (wordsL (tkN 3 d)))), some (.lst (strL (tkN 3 d))), e4, e5, e6, e7, e8, e9, e10] ∧ G' = updG G p o2) (fun _ _ _ _ => trivial) ?_ ?_ _ ⟨_, _, _, _, _, _, _, o1, ho1, rfl, rfl⟩
    · rintro lap r τ G' N2 ⟨e4, e5, e6, e7, e8, e9, e10, o2, ho2, rfl, rfl⟩ hN2
      walk_at "den"
      simp only [c__law_right, List.getElem?_cons_zero, List.getElem?_cons_succ]
      have hlb := lnBig
      refine z_len_lst rfl ⟨p, _, o2, rfl, rfl, by rw [strL_len]; have := List.length_pos_iff.mpr hne; omega, by rw [strL_len]; omega, updG_same, ho2, fun r0 o3 h0 h1 ho3 => ?_⟩
      obtain ⟨n, rfl⟩ : ∃ n : Nat, r0 = n := ⟨r0.toNat, by omega⟩
      rw [updG_updG]
      refine z_list ⟨two_line, rfl, by decide, by decide, by omega, z_mkF ⟨p, strL oddL, o3, rfl, odd_eq, by decide, by decide, updG_same, ho3, fun od o4 hod ho4 => ?_⟩⟩
      obtain ⟨w, hw, rfl⟩ := List.mem_map.mp hod
      rw [updG_updG]
      have l1 : ∀ n, ((tkN 3 d).take n).length ≤ 384 := fun n => by rw [List.length_take]; omega
      have l2 : ∀ n, ((tkN 3 d).drop n).length ≤ 384 := fun n => by rw [List.length_drop]; omega
      have l3 : ([w] : List (List Nat)).length = 1 := rfl
      refine z_s1 ⟨by omega, z_mkF (z_cat (b := [w]) (by have := l1 n; omega) (z_addI (z_s3 (z_cat (by have := l1 n; have := l2 (n + 1); rw [List.length_append]; omega) ?_))))⟩
      refine z_s1 ⟨by omega, z_mkF (z_cat (b := [w]) (by have := l1 n; omega) (z_s2 (z_cat (by have := l1 n; have := l2 n; rw [List.length_append]; omega) ?_)))⟩
      refine z_s1 (z_addI (z_s3 (z_cat (by have := l1 n; have := l2 (n + 1); omega) ?_)))
      refine z_s1 ⟨by omega, z_mkF ⟨p, _, o4, rfl, rfl, by simp, by simp, updG_same, ho4, fun sd o5 hsd ho5 => ?_⟩⟩
      rw [updG_updG]
      obtain ⟨ts, hts, rfl⟩ : ∃ ts, SomeOk ts ∧ sd = .lst (strL ts) := by
        simp only [List.mem_cons, List.not_mem_nil, or_false] at hsd
        rcases hsd with rfl | rfl | rfl | rfl
        · exact ⟨_, some_four hd hw _ (.inl rfl), rfl⟩
        · exact ⟨_, some_four hd hw _ (.inr (.inl rfl)), rfl⟩
        · exact ⟨_, some_four hd hw _ (.inr (.inr (.inl rfl))), rfl⟩
        · exact ⟨_, some_four hd hw _ (.inr (.inr (.inr rfl))), rfl⟩
      have hlen := hts.len
      refine ⟨ts, 0, rfl, rfl, by omega, hts.tok, fun w hw => (hts.all w hw).ch, Nat.zero_le _, by rw [cntO_zero]; have := hts.cnt; omega, rfl, ?_⟩
      have last : ∀ (Q0 : K3), (Q0 (dueD ts) (updG G p o5)) → joinD (.str (mkS [32])) [.lst (strL ts)] (updG G p o5) (fun d G1 => sp_value_of_text cs CR (cl 6) [d] G1 (fun _ G1 => Q0 .non G1) (fun C fs G1 => fs ≠ [] ∧ ∃ vals, ftK cl C fs vals ∧ Q0 (.tup vals) G1)) := by
        intro Q0 q0
        have hj := joinL_len [32] ts
        have hs := hts.sum
        have e1 : ([32] : List Nat).length = 1 := rfl
        rw [e1] at hj
        exact z_join (s := [32]) (ts := ts) rfl (by omega) (by rw [e1]; omega) (fault_ok hts q0)
      refine ⟨_, rfl, _, tru_bl, ite_b (fun c => ?_) fun c => ?_⟩
      · refine ⟨_, rfl, _, rfl, z_len_lst rfl (z_eqI ⟨_, rfl, ite_b (fun c2 => ?_) fun c2 => ?_⟩)⟩
        · have hdue : D.non = dueD ts := (if_pos ⟨c, by have := of_decide_eq_true c2; rw [strL_len] at this; omega⟩).symm
          exact lam_of (fun Q0 q0 => by
            walk_at "den"
            exact ⟨rfl, last Q0 q0⟩) ⟨_, rfl, z_ne_due' hdue ⟨_, rfl, ite_f rfl (hN2 _ _ ⟨_, _, _, _, _, _, _, o5, ho5, rfl, rfl⟩)⟩⟩
        · have hdue : D.tup [.str "text", .int 1, .int ((rdM ts 16 0).1 + 1 : Nat)] = dueD ts := (if_neg fun z => by have := of_decide_eq_false c2; rw [strL_len] at this; omega).symm
          refine ⟨_, rfl, z_addI ?_⟩
          exact ⟨by omega, lam_of (fun Q0 q0 => by
            walk_at "den"
            exact ⟨rfl, last Q0 q0⟩) ⟨_, rfl, z_ne_due' hdue ⟨_, rfl, ite_f rfl (hN2 _ _ ⟨_, _, _, _, _, _, _, o5, ho5, rfl, rfl⟩)⟩⟩⟩
      · have hdue : D.tup [.str "text", .int 1, .int ((rdM ts 16 0).1 + 1 : Nat)] = dueD ts := (if_neg fun z => by rw [z.1] at c; cases c).symm
        exact ⟨_, rfl, z_addI ⟨by omega, lam_of (fun Q0 q0 => by
            walk_at "den"
            exact ⟨rfl, last Q0 q0⟩) ⟨_, rfl, z_ne_due' hdue ⟨_, rfl, ite_f rfl (hN2 _ _ ⟨_, _, _, _, _, _, _, o5, ho5, rfl, rfl⟩)⟩⟩⟩⟩
    · rintro τ G' ⟨e4, e5, e6, e7, e8, e9, e10, o2, ho2, rfl, rfl⟩
      exact hN _ _ ⟨o2, ho2, rfl⟩
  rintro τ G' ⟨o2, ho2, rfl⟩
  walk_at "den"
  exact ⟨_, Les.refl _, q o2 ho2⟩
theorem ok__law_right (cs : List Addr) (cl : Nat → Addr) (CR CM cP PP : Addr) (F : FunD K "_law_right" "_law_right" (defArgs (top 71)) (defBody (top 71)) (defScope (top 71)) [] [] f fd) (hl : LamOk (c__law_right T cs cl CR CM cP PP) fd base mg "_law_right") (g : GOk (c__law_right T cs cl CR CM cP PP) k P w K mg base) : FnG P w K mg base T (k + 2) f (sp__law_right cs cl CR CM cP PP) := by
  refine fnG3 F (F.bindsN fun _ _ _ _ _ _ us hl => match us, hl with | [_], _ => rfl) (ps := ["pen"]) (C8.fnScope_by (by kernel_rfl)) rfl hl g (b__law_right _) (k__law_right T cs cl CR CM cP PP) (fun ds G Q E h => ?_) (fun ds G Q E h => ?_)
  · rcases ds with _ | ⟨a0, _ | r⟩ <;> first | rfl | exact False.elim h
  · rcases ds with _ | ⟨a0, _ | r⟩ <;> first | exact False.elim h | exact p__law_right h
end W75
set_option Elab.async false
set_option linter.all false
set_option maxRecDepth 100000
set_option maxHeartbeats 1000000
namespace W75
open PySem PySem.Spec PyProof.Rows L2 LamX L3 Hd
local macro_rules | `(tactic| walk_at "den") => `(tactic| simp only [List.map, sRet, sSet, sSetLc, sAsg, sPar, sPar3, sExpr, sPass, sBreak, sCont, sIf, sWhile, sFor, sAug, sFld3, sFldAug3, sSub, sRaise,
  seqT, retT, setT, asgT, parT, dropT, ifT, augT, fldT, fldAugT, subT, rzT, eAnds, eOrs, eNot, eBf, eVar, eTy, eInt, eStr, eBl, eNon, eGlob, eBin, eNeg, eCmp, eChain, eIf, eTup, eLst, eFrz, eIx, eSl, eFld, eCall, eCall0, eBm, eOm, eLc, eMake, eDisp, eGcd, iSeq, iLst, iTupl, iTxt, L3.iRng1, L3.iRng2, iEnm, iEnmT, iRngDn, eDict0, L3.ifsT, eIsE, eXf, xfE, eRepr, eIntW, eCallH, spH, eCallG, eCallG0, spG, eLam,
  tCmp3, tChain3, tTru, tNot3, tAnds, tOrs, testT, truT, notT, andT, orT, andE, orE, notE, ifE, cE', argT, varE, cE, opE, unE, chainE, tupE, lstE, slE, optE, spE, mtE, omE, makeE, dispE, Bf.r, Bm.r, Bm.ty, Tg.t, setAll, Option.map,
  List.getElem?_cons_zero, List.getElem?_cons_succ, List.set_cons_zero, List.set_cons_succ, Option.some.injEq, exists_eq_left', List.length_cons, List.length_nil, Nat.reduceAdd, true_and, binD, cmpD, augD, fnSp, mtC, mkC, rzC, gvD])
variable {P : Program} {w : World} {K : PySem.W.Frag} {mg : Str → Option Value} {base : Heap} {T : List (Addr × Str)} {k : Nat} {f : Addr} {fd : FuncData}
open PySem.NumText
/-! ### the deep value -/
def inn : Nat → D
  | 0 => .lst [.int 1, .int 2]
  | n + 1 => .lst [inn n, .int 7]
def txL : Nat → List Nat
  | 0 => [49, 47, 50]
  | n + 1 => [40] ++ txL n ++ [44, 32, 55, 41]
theorem txL_len : ∀ n, (txL n).length = 3 + 5 * n
  | 0 => rfl
  | n + 1 => by
    have := txL_len n
    simp only [txL, List.length_append, List.length_cons, List.length_nil]
    omega
def akB : Nat → D → Bool
  | 0, .non => true
  | 0, .bl _ => true
  | 0, .int _ => true
  | 0, .str _ => true
  | 0, .dct _ _ => true
  | 0, _ => false
  | _ + 1, .non => true
  | _ + 1, .bl _ => true
  | _ + 1, .int _ => true
  | _ + 1, .str _ => true
  | _ + 1, .dct _ _ => true
  | n + 1, .tup l => decide (l.length ≤ 1000) && l.all (akB n)
  | n + 1, .lst l => decide (l.length ≤ 1000) && l.all (akB n)
  | _ + 1, _ => false
theorem ak_of : ∀ (n : Nat) (d : D), akB n d = true → Ak n d
  | 0, d, h => by
    cases d <;> first | exact ⟨_, rfl, by decide, by decide⟩ | (unfold akB at h; cases h)
  | n + 1, d, h => by
    cases d with
    | tup l =>
      unfold akB at h
      rw [Bool.and_eq_true, decide_eq_true_eq, List.all_eq_true] at h
      exact .inr ⟨l, .inl rfl, h.1, fun e he => ak_of n e (h.2 e he)⟩
    | lst l =>
      unfold akB at h
      rw [Bool.and_eq_true, decide_eq_true_eq, List.all_eq_true] at h
      exact .inr ⟨l, .inr rfl, h.1, fun e he => ak_of n e (h.2 e he)⟩
    | _ => first | exact .inl ⟨_, rfl, by decide, by decide⟩ | (unfold akB at h; cases h)
def plainB : Nat → D → Bool
  | 0, .int _ => true
  | 0, _ => false
  | _ + 1, .int _ => true
  | n + 1, .tup l => decide (l.length ≤ 1000) && l.all (plainB n)
  | n + 1, .lst l => decide (l.length ≤ 1000) && l.all (plainB n)
  | _ + 1, _ => false
theorem pl_of : ∀ (n : Nat) (d : D), plainB n d = true → Pl n d
  | 0, d, h => by
    cases d <;> first | exact ⟨_, rfl, by decide, by decide, by decide⟩ | (unfold plainB at h; cases h)
  | n + 1, d, h => by
    cases d with
    | tup l =>
      unfold plainB at h
      rw [Bool.and_eq_true, decide_eq_true_eq, List.all_eq_true] at h
      exact .inr ⟨l, .inl rfl, h.1, fun e he => pl_of n e (h.2 e he)⟩
    | lst l =>
      unfold plainB at h
      rw [Bool.and_eq_true, decide_eq_true_eq, List.all_eq_true] at h
      exact .inr ⟨l, .inr rfl, h.1, fun e he => pl_of n e (h.2 e he)⟩
    | _ => first | exact .inl ⟨_, rfl, by decide, by decide, by decide⟩ | (unfold plainB at h; cases h)
def tbB : Nat → D → Bool
  | 0, .int i => decide (i.natAbs < 1000)
  | 0, _ => false
  | _ + 1, .int i => decide (i.natAbs < 1000)
  | n + 1, .tup l => decide (l.length ≤ 1000) && l.all (tbB n)
  | _ + 1, _ => false
theorem big1000 : 1000 < BIG := by decide +kernel
theorem tb_of : ∀ (n : Nat) (d : D), tbB n d = true → TB n d
  | 0, d, h => by
    have hb := big1000
    cases d <;> first | (unfold tbB at h; cases h; done) | skip
    unfold tbB at h
    have := of_decide_eq_true h
    exact ⟨_, rfl, by omega⟩
  | n + 1, d, h => by
    have hb := big1000
    cases d with
    | tup l =>
      unfold tbB at h
      rw [Bool.and_eq_true, decide_eq_true_eq, List.all_eq_true] at h
      exact .inr ⟨l, rfl, h.1, fun e he => tb_of n e (h.2 e he)⟩
    | int i =>
      unfold tbB at h
      have := of_decide_eq_true h
      exact .inl ⟨_, rfl, by omega⟩
    | _ => unfold tbB at h; cases h
def isvB : Nat → D → Bool
  | 0, .int _ => true
  | 0, .str _ => true
  | 0, _ => false
  | _ + 1, .int _ => true
  | _ + 1, .str _ => true
  | n + 1, .tup l => decide (l.length ≤ 1000) && l.all (isvB n)
  | _ + 1, _ => false
theorem isv_of : ∀ (n : Nat) (d : D), isvB n d = true → IsV n d
  | 0, d, h => by
    cases d <;> first | trivial | (unfold isvB at h; cases h)
  | n + 1, d, h => by
    cases d with
    | tup l =>
      unfold isvB at h
      rw [Bool.and_eq_true, decide_eq_true_eq, List.all_eq_true] at h
      exact ⟨h.1, fun e he => isv_of n e (h.2 e he)⟩
    | _ => first | trivial | (unfold isvB at h; cases h)
def dpD : D := asT 20 (inn 16)
theorem dp_ak : Ak 20 (inn 16) := ak_of _ _ (by decide +kernel)
theorem dp_ak2 : Ak 20 (.lst [inn 16]) := ak_of _ _ (by decide +kernel)
theorem dp_pl : Pl 20 (inn 16) := pl_of _ _ (by decide +kernel)
theorem dp_tb : TB 20 dpD := tb_of _ _ (by decide +kernel)
theorem dp_isv : IsV 20 dpD := isv_of _ _ (by decide +kernel)
theorem dp_wt : wt 20 (inn 16) ≤ 90000 := by decide +kernel
theorem dp_wt' : wt 20 (.lst [inn 16]) ≤ 90000 := by decide +kernel
theorem dp_wt2 : wt2 20 dpD ≤ 90000 := by decide +kernel
theorem dp_plB : plB 16 (inn 16) = true := by decide +kernel
theorem dp_plB2 : plB 16 (.lst [inn 16]) = false := by decide +kernel
theorem dp_tx : txN 20 dpD = txL 16 := by decide +kernel
theorem dp_toks : (toksOf (txL 16)).length ≤ 200 ∧ ∀ w ∈ toksOf (txL 16), w.length ≤ 640 := by decide +kernel
theorem dp_val : valM (toksOf (txL 16)) ((toksOf (txL 16)).length + 1) [] 0 = .inr dpD := by kernel_rfl
def dpS : Str := (py (.lst [inn 16])).shown
theorem dp_rt : RT (.lst [inn 16]) dpS := .inl ⟨by decide +kernel, by decide +kernel, by decide +kernel, Nat.le_trans (m := 100000) (by decide +kernel) lnBig, rfl⟩
end W75
set_option Elab.async false
set_option linter.all false
set_option maxRecDepth 100000
set_option maxHeartbeats 1000000
namespace W75
open PySem PySem.Spec PyProof.Rows L2 LamX L3 Hd
local macro_rules | `(tactic| walk_at "den") => `(tactic| simp only [List.map, sRet, sSet, sSetLc, sAsg, sPar, sPar3, sExpr, sPass, sBreak, sCont, sIf, sWhile, sFor, sAug, sFld3, sFldAug3, sSub, sRaise,
  seqT, retT, setT, asgT, parT, dropT, ifT, augT, fldT, fldAugT, subT, rzT, eAnds, eOrs, eNot, eBf, eVar, eTy, eInt, eStr, eBl, eNon, eGlob, eBin, eNeg, eCmp, eChain, eIf, eTup, eLst, eFrz, eIx, eSl, eFld, eCall, eCall0, eBm, eOm, eLc, eMake, eDisp, eGcd, iSeq, iLst, iTupl, iTxt, L3.iRng1, L3.iRng2, iEnm, iEnmT, iRngDn, eDict0, L3.ifsT, eIsE, eXf, xfE, eRepr, eIntW, eCallH, spH, eCallG, eCallG0, spG, eLam,
  tCmp3, tChain3, tTru, tNot3, tAnds, tOrs, testT, truT, notT, andT, orT, andE, orE, notE, ifE, cE', argT, varE, cE, opE, unE, chainE, tupE, lstE, slE, optE, spE, mtE, omE, makeE, dispE, Bf.r, Bm.r, Bm.ty, Tg.t, setAll, Option.map,
  List.getElem?_cons_zero, List.getElem?_cons_succ, List.set_cons_zero, List.set_cons_succ, Option.some.injEq, exists_eq_left', List.length_cons, List.length_nil, Nat.reduceAdd, true_and, binD, cmpD, augD, fnSp, mtC, mkC, rzC, gvD])
variable {P : Program} {w : World} {K : PySem.W.Frag} {mg : Str → Option Value} {base : Heap} {T : List (Addr × Str)} {k : Nat} {f : Addr} {fd : FuncData}
open PySem.NumText
/-! ### the deep value's law -/
theorem shp_row (t : Str) (ht : PyData.strOk t = true) : SeqAt.shaped (.tuple [.str "row", .str "value", .str t]) = true := by
  have h1 : PyData.canLay0 (.tuple [.str "row", .str "value", .str t]) = true := by
    simp only [PyData.canLay0, PyData.canLayAll0, Bool.and_true, ht]
    decide +kernel
  have h2 : PyData.depth (.tuple [.str "row", .str "value", .str t]) ≤ 64 := by
    simp only [PyData.depth, PyData.depthAll]
    omega
  unfold SeqAt.shaped
  rw [h1, decide_eq_true h2]
  rfl
def rowD (t : Str) : D := .tup [.str "row", .str "value", .str t]
theorem z_eq_row {b : Bool} {t : Str} {G : Gp} {Q : K3} (ht : PyData.strOk t = true) (q : Q (.bl (!b)) G) : eqD b (rowD t) (rowD t) G Q := by
  refine .inl ⟨.tuple [.str "row", .str "value", .str t], .tuple [.str "row", .str "value", .str t], .tup (.cons (.str _) (.cons (.str _) (.cons (.str _) .nil))), .tup (.cons (.str _) (.cons (.str _) (.cons (.str _) .nil))), shp_row _ ht, shp_row _ ht, ?_⟩
  have e : PyData.eqv (.tuple [.str "row", .str "value", .str t]) (.tuple [.str "row", .str "value", .str t]) = true := by
    simp only [PyData.eqv, PyData.eqvAll]
    simp
  rw [e]
  cases b <;> exact q
theorem ft_row {cl : Nat → Addr} {d : D} {t : Str} (h : RT d t) {G : Gp} {Q : K3} (q : Q (rowD t) G) : fR d ≠ [] ∧ ∃ vals, ftK cl (cl 1) (fR d) vals ∧ Q (.tup vals) G :=
  ⟨by simp [fR], _, .inl ⟨rfl, _, _, _, rfl, rfl, h, rfl⟩, q⟩
theorem dp_str : PyData.strOk dpS = true := by decide +kernel
def S__law_deep_right (cs : List Addr) (cl : Nat → Addr) (CR CM cP PP : Addr) (G : Gp) (Q : K3) (E : X3) : Prop := CM ∈ cs ∧ Q (.bl true) G
abbrev s__law_deep_right : Stmt := (top 73)
def n__law_deep_right : List Str := ["inner", "wide", "text", "lap"]
def b__law_deep_right (c : Cn) : List (CS c) := [sAsg (.tup [0, 1, 2]) (eTup [(eLst [(eInt 1), (eInt 2)]), (eInt 7), (eStr "1/2")]), sFor (.nm 3) (L3.iRng1 (eInt 16)) [sAsg (.tup [0, 2]) (eTup [(eLst [(eVar 0), (eVar 1)]), (eBin .Add (eBin .Add (eStr "(") (eVar 2)) (eStr ", 7)"))])], sIf (tOrs [(tNot3 (tTru (eCall 0 [(eCall 1 [(eVar 0)]), (eVar 2)]))), (tNot3 (tTru (eCall 0 [(eCall 2 [(eVar 2)]), (eCall 3 [(eVar 0)])])))]) [sRet (eBl false)] [], sRet (eCmp .Eq (eLam (fun nm => (eCall 0 [(eLst [(eVar 0)])]))) (eTup [(eStr "row"), (eStr "value"), (eRepr [(eLst [(eVar 0)])])]))]
def c__law_deep_right (T : List (Addr × Str)) (cs : List Addr) (cl : Nat → Addr) (CR CM cP PP : Addr) : Cn := { T := T, N := n__law_deep_right, nm := (defScope (top 73)).names, fn := [("_law_is", sp__law_is cs 20), ("value_text", sp_value_text cs CM (cl 1)), ("value_of_text", sp_value_of_text cs CR (cl 6)), ("_law_tupled", sp__law_tupled cs 20)], bt := ["range", "repr"], fnL := [("value_text", sp_value_text cs CM (cl 1))], lm := some (cP, PP), lf := some ("_law_fault", ftK cl), gd := true, nd := true }
theorem k__law_deep_right (T : List (Addr × Str)) (cs : List Addr) (cl : Nat → Addr) (CR CM cP PP : Addr) : chkSs (b__law_deep_right (c__law_deep_right T cs cl CR CM cP PP)) (defBody (top 73)) = true := by kernel_rfl
def sp__law_deep_right (cs : List Addr) (cl : Nat → Addr) (CR CM cP PP : Addr) : Sp3 := fun ds G Q E => match ds with
  | [] => S__law_deep_right cs cl CR CM cP PP  G Q E
  | _ => False
abbrev W__law_deep_right (T : List (Addr × Str)) (cs : List Addr) (cl : Nat → Addr) (CR CM cP PP : Addr) (G : Gp) (Q : K3) (E : X3) : Prop := seqT ((b__law_deep_right (c__law_deep_right T cs cl CR CM cP PP)).map (·.t)) { nx := fun _ G' => FG Q .non G', rt := FG Q, xe := FX E } [none, none, none, none] G
theorem p__law_deep_right {cs : List Addr} {cl : Nat → Addr} {CR CM cP PP : Addr} {G : Gp} {Q : K3} {E : X3} (h : S__law_deep_right cs cl CR CM cP PP G Q E) : W__law_deep_right T cs cl CR CM cP PP G Q E := by
  obtain ⟨hcm, q⟩ := h
  unfold W__law_deep_right b__law_deep_right
  refine seq_mid rfl (fun τ G' => τ = [some (inn 0), some (.int 7), some (.str (mkS (txL 0))), none] ∧ G = G') (fun N hN => ?_) ?_
  · walk_at "den"
    exact ⟨two_line, z_mkF ⟨by have := lnBig; omega, hN _ _ ⟨rfl, rfl⟩⟩⟩
  rintro τ G' ⟨rfl, rfl⟩
  refine seq_mid rfl (fun τ G' => ∃ e, τ = [some (inn 16), some (.int 7), some (.str (mkS (txL 16))), e] ∧ G = G') (fun N hN => ?_) ?_
  · simp only [sFor, forT, L3.iRng1, itR1]
    walk_at "den"
    refine ⟨⟨by decide, by decide⟩, ?_⟩
    refine for_by (fun rest τ G' => ∃ m e, rest.length + m = 16 ∧ τ = [some (inn m), some (.int 7), some (.str (mkS (txL m))), e] ∧ G = G') (fun _ _ _ _ => trivial) ?_ ?_ _ ⟨0, _, rfl, rfl, rfl⟩
    · rintro lap r τ G' N2 ⟨m, e, hm, rfl, rfl⟩ hN2
      walk_at "den"
      have hm' : m ≤ 15 := by simp at hm; omega
      have hl := txL_len m
      refine ⟨two_line, z_mkF (z_add_str (a := [40]) (b := txL m) (sz_le (by simp only [List.length_append, List.length_cons, List.length_nil]; omega)) (z_add_str (a := [40] ++ txL m) (b := [44, 32, 55, 41]) (sz_le (by simp only [List.length_append, List.length_cons, List.length_nil]; omega)) ⟨by have := lnBig; omega, hN2 _ _ ⟨m + 1, _, by simp at hm ⊢; omega, rfl, rfl⟩⟩))⟩
    · rintro τ G' ⟨m, e, hm, rfl, rfl⟩
      obtain rfl : m = 16 := by simpa using hm
      exact hN _ _ ⟨_, rfl, rfl⟩
  rintro τ G' ⟨e, rfl, rfl⟩
  walk_at "den"
  simp only [c__law_deep_right, Cn.lamc, List.getElem?_cons_zero, List.getElem?_cons_succ]
  refine ⟨hcm, dp_ak, dp_wt, fun z => (by rw [dp_plB] at z; cases z), fun _ => ⟨dp_pl, dp_tb, dp_wt2, by rw [show asT 20 (inn 16) = dpD from rfl, dp_tx, txL_len]; decide, ?_⟩⟩
  rw [show asT 20 (inn 16) = dpD from rfl, dp_tx]
  refine ⟨rfl, trivial, _, tru_bl, ite_f rfl ?_⟩
  refine ⟨"str", kn_of rfl, fun z => absurd rfl z, fun t' e1 => ?_⟩
  obtain rfl : t' = txL 16 := mkS_inj (by injection e1 with e1; exact e1.symm)
  refine ⟨sz_le (by rw [txL_len]; decide), fun w hw => ⟨sz_of (by have := dp_toks.2 w hw; omega), .inl (dp_toks.2 w hw)⟩, Nat.le_trans dp_toks.1 (by decide), ?_⟩
  rw [dp_val]
  refine ⟨dp_pl, ⟨rfl, dp_isv, _, tru_bl, ite_f rfl ?_⟩⟩
  refine lam_of (fun Q0 q0 => ?_) ⟨by have := lnBig; omega, z_mkF (rt_repr dp_rt ⟨by have := lnBig; omega, z_eq_row dp_str ⟨G, Les.refl _, q⟩⟩)⟩
  walk_at "den"
  trace_state
  exact ⟨by have := lnBig; omega, z_mkF ⟨hcm, dp_ak2, dp_wt', fun _ => ft_row dp_rt q0, fun z => (by rw [dp_plB2] at z; cases z)⟩⟩
theorem ok__law_deep_right (cs : List Addr) (cl : Nat → Addr) (CR CM cP PP : Addr) (F : FunD K "_law_deep_right" "_law_deep_right" (defArgs (top 73)) (defBody (top 73)) (defScope (top 73)) [] [] f fd) (hl : LamOk (c__law_deep_right T cs cl CR CM cP PP) fd base mg "_law_deep_right") (g : GOk (c__law_deep_right T cs cl CR CM cP PP) k P w K mg base) : FnG P w K mg base T (k + 2) f (sp__law_deep_right cs cl CR CM cP PP) := by
  refine fnG3 F (F.bindsN fun _ _ _ _ _ _ us hl => match us, hl with | [], _ => rfl) (ps := []) (C8.fnScope_by (by kernel_rfl)) rfl hl g (b__law_deep_right _) (k__law_deep_right T cs cl CR CM cP PP) (fun ds G Q E h => ?_) (fun ds G Q E h => ?_)
  · rcases ds with _ | r <;> first | rfl | exact False.elim h
  · rcases ds with _ | r <;> first | exact False.elim h | exact p__law_deep_right h
end W75
set_option Elab.async false
set_option linter.all false
set_option maxRecDepth 100000
set_option maxHeartbeats 1000000
namespace W75
open PySem PySem.Spec PyProof.Rows L2 LamX L3 Hd
local macro_rules | `(tactic| walk_at "den") => `(tactic| simp only [List.map, sRet, sSet, sSetLc, sAsg, sPar, sPar3, sExpr, sPass, sBreak, sCont, sIf, sWhile, sFor, sAug, sFld3, sFldAug3, sSub, sRaise,
  seqT, retT, setT, asgT, parT, dropT, ifT, augT, fldT, fldAugT, subT, rzT, eAnds, eOrs, eNot, eBf, eVar, eTy, eInt, eStr, eBl, eNon, eGlob, eBin, eNeg, eCmp, eChain, eIf, eTup, eLst, eFrz, eIx, eSl, eFld, eCall, eCall0, eBm, eOm, eLc, eMake, eDisp, eGcd, iSeq, iLst, iTupl, iTxt, L3.iRng1, L3.iRng2, iEnm, iEnmT, iRngDn, eDict0, L3.ifsT, eIsE, eXf, xfE, eRepr, eIntW, eCallH, spH, eCallG, eCallG0, spG, eLam,
  tCmp3, tChain3, tTru, tNot3, tAnds, tOrs, testT, truT, notT, andT, orT, andE, orE, notE, ifE, cE', argT, varE, cE, opE, unE, chainE, tupE, lstE, slE, optE, spE, mtE, omE, makeE, dispE, Bf.r, Bm.r, Bm.ty, Tg.t, setAll, Option.map,
  List.getElem?_cons_zero, List.getElem?_cons_succ, List.set_cons_zero, List.set_cons_succ, Option.some.injEq, exists_eq_left', List.length_cons, List.length_nil, Nat.reduceAdd, true_and, binD, cmpD, augD, fnSp, mtC, mkC, rzC, gvD])
variable {P : Program} {w : World} {K : PySem.W.Frag} {mg : Str → Option Value} {base : Heap} {T : List (Addr × Str)} {k : Nat} {f : Addr} {fd : FuncData}
open PySem.NumText
/-! ### what is no plain value -/
def wA : List Nat := 49 :: List.replicate 4000 48
def wB : List Nat := List.replicate 4001 55
def badL : List D := [.non, .str "1", .bl true, .tup [.int 1, .non], .tup [.tup [.int 1, .str "2"]], .dct [] [], .tup [.non], .tup [.int 1, .tup [.int 0, .int (digitsVal wA : Nat)]], .tup [.int 3, .int (digitsVal wB : Nat)]]
structure BadOk (d : D) : Prop where
  ak : Ak 20 d
  wt : wt 20 d ≤ 90000
  pl : plB 16 d = false
  rt : ∃ t, RT d t ∧ PyData.strOk t = true
/-! texts of plain signs -/
structure Safe (n : Nat) (x : Str) : Prop where
  len : x.cps.size ≤ n
  no : ∀ c ∈ x.cps.toList, c < 0x110000
theorem Safe.mono {n m : Nat} {x : Str} (h : Safe n x) (e : n ≤ m) : Safe m x := ⟨Nat.le_trans h.len e, h.no⟩
theorem Safe.app {n m : Nat} {x y : Str} (h : Safe n x) (h' : Safe m y) : Safe (n + m) (x ++ y) := by
  have e : (x ++ y).cps = x.cps ++ y.cps := rfl
  refine ⟨by rw [e, Array.size_append]; have := h.len; have := h'.len; omega, fun c hc => ?_⟩
  rw [e, Array.toList_append] at hc
  exact (List.mem_append.mp hc).elim (h.no c) (h'.no c)
theorem Safe.dec {n k : Nat} (h : n < 10 ^ k) (hk : 0 < k) : Safe k (Str.ofString (toString ((n : Nat) : Int))) := by
  rw [dec_text]
  exact ⟨decL_len h hk, fun c hc => by have := dig_range hc; omega⟩
theorem Safe.lit {n : Nat} {x : Str} (h : (decide (x.cps.size ≤ n) && x.cps.toList.all fun c => decide (c < 0x110000)) = true) : Safe n x := by
  rw [Bool.and_eq_true, decide_eq_true_eq, List.all_eq_true] at h
  exact ⟨h.1, fun c hc => of_decide_eq_true (h.2 c hc)⟩
theorem safe_ok {n : Nat} {x : Str} (h : Safe n x) : PyData.strOk x = true := by
  unfold PyData.strOk
  rw [Array.all_eq_true']
  intro c hc
  exact decide_eq_true (h.no c (Array.mem_toList_iff.mpr hc))
theorem bad_of {d : D} (h1 : (akB 20 d && decide (W75.wt 20 d ≤ 90000) && !plB 16 d && pureD d && (py d).wideB true && decide ((py d).depth ≤ 60)) = true) (hs : Safe 90000 (py d).shown) : BadOk d := by
  simp only [Bool.and_eq_true, decide_eq_true_eq, Bool.not_eq_true'] at h1
  obtain ⟨⟨⟨⟨⟨a, b⟩, c⟩, e⟩, f⟩, g⟩ := h1
  exact ⟨ak_of _ _ a, b, c, _, .inl ⟨e, f, g, Nat.le_trans (Nat.le_trans hs.len (by decide)) lnBig, rfl⟩, safe_ok hs⟩
theorem bad0 : BadOk .non := bad_of (by decide +kernel) (Safe.lit (by decide +kernel))
theorem bad1 : BadOk (.str "1") := bad_of (by decide +kernel) (Safe.lit (by decide +kernel))
theorem bad2 : BadOk (.bl true) := bad_of (by decide +kernel) (Safe.lit (by decide +kernel))
theorem bad3 : BadOk (.tup [.int 1, .non]) := bad_of (by decide +kernel) (Safe.lit (by decide +kernel))
theorem bad4 : BadOk (.tup [.tup [.int 1, .str "2"]]) := bad_of (by decide +kernel) (Safe.lit (by decide +kernel))
theorem bad5 : BadOk (.dct [] []) := ⟨ak_of _ _ (by decide +kernel), by decide +kernel, by decide +kernel, _, .inr ⟨rfl, rfl⟩, by decide +kernel⟩
theorem bad6 : BadOk (.tup [.non]) := bad_of (by decide +kernel) (Safe.lit (by decide +kernel))
theorem valA : digitsVal wA = 10 ^ 4000 := by decide +kernel
theorem valB : digitsVal wB < 10 ^ 4001 := by decide +kernel
theorem tup2_safe {n m : Nat} {x y : PyData} (h : Safe n x.shown) (h' : Safe m y.shown) : Safe (n + m + 10) (PyData.tuple [x, y]).shown := by
  have e : (PyData.tuple [x, y]).shown = (("(" : Str) ++ (x.shown ++ (", " : Str) ++ y.shown)) ++ (")" : Str) := by
    simp only [PyData.shown, PyData.shownAll]
    rfl
  rw [e]
  exact (((Safe.lit (n := 2) (by decide +kernel)).app ((h.app (Safe.lit (n := 2) (by decide +kernel))).app h')).app (Safe.lit (n := 2) (by decide +kernel))).mono (by omega)
theorem int_safe (n k : Nat) (h : n < 10 ^ k) (hk : 0 < k) : Safe k (PyData.int (n : Nat)).shown := by
  have := Safe.dec h hk
  simp only [PyData.shown]
  exact this
theorem bad7 : BadOk (.tup [.int 1, .tup [.int 0, .int (digitsVal wA : Nat)]]) := bad_of (by decide +kernel) ((tup2_safe (int_safe 1 1 (by decide) (by decide)) (tup2_safe (int_safe 0 1 (by decide) (by decide)) (int_safe _ 4001 (by rw [valA]; exact Nat.pow_lt_pow_right (by decide) (by decide)) (by decide)))).mono (by decide))
theorem bad8 : BadOk (.tup [.int 3, .int (digitsVal wB : Nat)]) := bad_of (by decide +kernel) ((tup2_safe (int_safe 3 1 (by decide) (by decide)) (int_safe _ 4001 valB (by decide))).mono (by decide))
theorem bad_ok : ∀ d ∈ badL, BadOk d := by
  intro d h
  unfold badL at h
  simp only [List.mem_cons, List.not_mem_nil, or_false] at h
  rcases h with rfl | rfl | rfl | rfl | rfl | rfl | rfl | rfl | rfl
  · exact bad0
  · exact bad1
  · exact bad2
  · exact bad3
  · exact bad4
  · exact bad5
  · exact bad6
  · exact bad7
  · exact bad8
end W75
set_option Elab.async false
set_option linter.all false
set_option maxRecDepth 100000
set_option maxHeartbeats 1000000
namespace W75
open PySem PySem.Spec PyProof.Rows L2 LamX L3 Hd
local macro_rules | `(tactic| walk_at "den") => `(tactic| simp only [List.map, sRet, sSet, sSetLc, sAsg, sPar, sPar3, sExpr, sPass, sBreak, sCont, sIf, sWhile, sFor, sAug, sFld3, sFldAug3, sSub, sRaise,
  seqT, retT, setT, asgT, parT, dropT, ifT, augT, fldT, fldAugT, subT, rzT, eAnds, eOrs, eNot, eBf, eVar, eTy, eInt, eStr, eBl, eNon, eGlob, eBin, eNeg, eCmp, eChain, eIf, eTup, eLst, eFrz, eIx, eSl, eFld, eCall, eCall0, eBm, eOm, eLc, eMake, eDisp, eGcd, iSeq, iLst, iTupl, iTxt, L3.iRng1, L3.iRng2, iEnm, iEnmT, iRngDn, eDict0, L3.ifsT, eIsE, eXf, xfE, eRepr, eIntW, eCallH, spH, eCallG, eCallG0, spG, eLam,
  tCmp3, tChain3, tTru, tNot3, tAnds, tOrs, testT, truT, notT, andT, orT, andE, orE, notE, ifE, cE', argT, varE, cE, opE, unE, chainE, tupE, lstE, slE, optE, spE, mtE, omE, makeE, dispE, Bf.r, Bm.r, Bm.ty, Tg.t, setAll, Option.map,
  List.getElem?_cons_zero, List.getElem?_cons_succ, List.set_cons_zero, List.set_cons_succ, Option.some.injEq, exists_eq_left', List.length_cons, List.length_nil, Nat.reduceAdd, true_and, binD, cmpD, augD, fnSp, mtC, mkC, rzC, gvD])
variable {P : Program} {w : World} {K : PySem.W.Frag} {mg : Str → Option Value} {base : Heap} {T : List (Addr × Str)} {k : Nat} {f : Addr} {fd : FuncData}
open PySem.NumText
/-! ### the law -/
def badE {c : Cn} : CE c := eLst [eNon, (eStr "1"), (eBl true), (eTup [(eInt 1), eNon]), (eTup [(eTup [(eInt 1), (eStr "2")])]), eDict0, (eTup [eNon]), (eTup [(eInt 1), (eTup [(eInt 0), (eIntW [(eBin .Add (eStr "1") (eBin .Mult (eStr "0") (eInt 4000)))])])]), (eTup [(eInt 3), (eIntW [(eBin .Mult (eStr "7") (eInt 4001))])])]
theorem digA : AllDigits wA := fun c hc => by
  rcases List.mem_cons.mp hc with rfl | hc
  · decide
  · rw [(List.mem_replicate.mp hc).2]; decide
theorem digB : AllDigits wB := fun c hc => by rw [(List.mem_replicate.mp hc).2]; decide
theorem lenA : wA.length = 4001 := by rw [wA, List.length_cons, List.length_replicate]
theorem lenB : wB.length = 4001 := by rw [wB, List.length_replicate]
theorem bad_eval {c : Cn} {τ : S3} {G : Gp} {N : K3} {E : X3} (q : N (.lst badL) G) : (badE (c := c)).t τ G N E := by
  have h1 := two_line
  have h2 := lnBig
  unfold badE
  walk_at "den"
  refine ⟨h1, h1, by omega, by omega, ⟨rfl, by decide, by decide, z_add_str (a := [49]) (b := List.replicate 4000 48) (sz_le (by rw [List.length_append, List.length_replicate]; decide)) ⟨wA, rfl, digA, by rw [lenA]; decide, by rw [lenA]; decide, h1, h1, ?_⟩⟩⟩
  exact ⟨rfl, by decide, by decide, wB, rfl, digB, by rw [lenB]; decide, by rw [lenB]; decide, h1, by omega, z_mkF q⟩
theorem set_call2 {c : Cn} {i j n : Nat} {b : CE c} {D : En} {τ : S3} {G : Gp} {v : L3.D} (hv : τ[n]? = some (some v)) (q : b.t τ G (fun d G1 => fnSp c j [v, d] G1 (fun r G2 => D.nx (τ.set i (some r)) G2) D.xe) D.xe) : (sSet i (eCall j [eVar n, b])).t D τ G := by
  walk_at "den"
  exact ⟨v, hv, q⟩
abbrev laV : D := .lst [.int 1, .lst [.tup [.int (-3), .int 2]], .lst []]
theorem la_ak : Ak 20 laV := ak_of _ _ (by decide +kernel)
theorem la_wt : wt 20 laV ≤ 90000 := by decide +kernel
theorem la_pl : plB 16 laV = true := by decide +kernel
theorem la_pl' : Pl 20 laV := pl_of _ _ (by decide +kernel)
theorem la_tb : TB 20 (asT 20 laV) := tb_of _ _ (by decide +kernel)
theorem la_wt2 : wt2 20 (asT 20 laV) ≤ 90000 := by decide +kernel
theorem la_len : (txN 20 (asT 20 laV)).length ≤ 90000 := by decide +kernel
theorem la_tx : mkS (txN 20 (asT 20 laV)) = Str.ofString "(1, (-3/2,), ())" := by decide +kernel
abbrev laP : D := .tup [.int 1, .int 2]
theorem lp_ak : Ak 20 laP := ak_of _ _ (by decide +kernel)
theorem lp_wt : wt 20 laP ≤ 90000 := by decide +kernel
theorem lp_pl : plB 16 laP = true := by decide +kernel
theorem lp_pl' : Pl 20 laP := pl_of _ _ (by decide +kernel)
theorem lp_tb : TB 20 (asT 20 laP) := tb_of _ _ (by decide +kernel)
theorem lp_wt2 : wt2 20 (asT 20 laP) ≤ 90000 := by decide +kernel
theorem lp_len : (txN 20 (asT 20 laP)).length ≤ 90000 := by decide +kernel
theorem lp_tx : mkS (txN 20 (asT 20 laP)) = Str.ofString "1/2" := by decide +kernel
def l12 : List Nat := [40, 49, 44, 32, 50, 41]
theorem l12_toks : (toksOf l12).length ≤ 200 ∧ ∀ w ∈ toksOf l12, w.length ≤ 640 := by decide +kernel
theorem l12_val : valM (toksOf l12) ((toksOf l12).length + 1) [] 0 = .inr laP := by kernel_rfl
def S_law (cs : List Addr) (cl : Nat → Addr) (CR CM cP PP cP1 PP1 cP2 PP2 cP3 PP3 : Addr) (x : D) (G : Gp) (Q : K3) (E : X3) : Prop := CM ∈ cs ∧ ∃ (l : List D) (S : Src), srcL G x = some S ∧ S.items = l ∧ IntsD l ∧ l.length ≤ 1000 ∧ seqOf G x = some l ∧ S.keep G ∧ ∀ p o, G p = none → PenO o → Q (.bl true) (updG G p o)
abbrev s_law : Stmt := (top 74)
def n_law : List Str := ["script", "pen", "lap", "bad", "odd"]
def b_law (c : Cn) : List (CS c) := [sSet 1 (eCall 0 [(eVar 0)]), sFor (.nm 2) (L3.iRng1 (eInt 8)) [sIf (tNot3 (tTru (eCallG 0 [(eVar 1)]))) [sRet (eBl false)] []], sIf (tNot3 (tTru (eCallG0 1))) [sRet (eBl false)] [], sSet 3 (eCall 1 [(eVar 1), badE]), sSet 4 (eCall 1 [(eVar 1), (eLst [eNon, (eInt 3), (eBl true), (eLst [(eStr "(1,)")])])]), sIf (tOrs [(tCmp3 .NotEq (eLam (fun nm => (eCall 0 [(eVar 3)]))) (eTup [(eStr "row"), (eStr "value"), (eRepr [(eVar 3)])])), (tCmp3 .NotEq (eCallG 2 [(eVar 4)]) (eTup [(eStr "text"), (eInt 0), (eInt 0)]))]) [sRet (eBl false)] [], sRet (eAnds [(eCall 2 [(eCall 3 [(eLst [(eInt 1), (eLst [(eTup [(eNeg (eInt 3)), (eInt 2)])]), (eLst [])])]), (eStr "(1, (-3/2,), ())")]), (eCall 2 [(eCall 4 [(eStr "(1, 2)")]), (eTup [(eInt 1), (eInt 2)])]), (eCmp .Eq (eCall 3 [(eTup [(eInt 1), (eInt 2)])]) (eStr "1/2"))])]
def c_law (T : List (Addr × Str)) (cs : List Addr) (cl : Nat → Addr) (CR CM cP PP cP1 PP1 cP2 PP2 cP3 PP3 : Addr) : Cn := { T := T, N := n_law, nm := (defScope (top 74)).names, fn := [("_law_pen", sp__law_pen), ("_law_pick", sp__law_pick), ("_law_is", sp__law_is cs 20), ("value_text", sp_value_text cs CM (cl 1)), ("value_of_text", sp_value_of_text cs CR (cl 6))], bt := ["range", "repr", "int"], fnG := [("_law_right", sp__law_right cs cl CR CM cP1 PP1), ("_law_deep_right", sp__law_deep_right cs cl CR CM cP2 PP2), ("_law_read_fault", sp__law_read_fault cs cl CR cP3 PP3)], fnL := [("value_text", sp_value_text cs CM (cl 1))], lm := some (cP, PP), lf := some ("_law_fault", ftK cl), gd := true, nd := true }
theorem k_law (T : List (Addr × Str)) (cs : List Addr) (cl : Nat → Addr) (CR CM cP PP cP1 PP1 cP2 PP2 cP3 PP3 : Addr) : chkSs (b_law (c_law T cs cl CR CM cP PP cP1 PP1 cP2 PP2 cP3 PP3)) (defBody (top 74)) = true := by kernel_rfl
def sp_law (cs : List Addr) (cl : Nat → Addr) (CR CM cP PP cP1 PP1 cP2 PP2 cP3 PP3 : Addr) : Sp3 := fun ds G Q E => match ds with
  | [a0] => S_law cs cl CR CM cP PP cP1 PP1 cP2 PP2 cP3 PP3 a0 G Q E
  | _ => False
abbrev W_law (T : List (Addr × Str)) (cs : List Addr) (cl : Nat → Addr) (CR CM cP PP cP1 PP1 cP2 PP2 cP3 PP3 : Addr) (a0 : D) (G : Gp) (Q : K3) (E : X3) : Prop := seqT ((b_law (c_law T cs cl CR CM cP PP cP1 PP1 cP2 PP2 cP3 PP3)).map (·.t)) { nx := fun _ G' => FG Q .non G', rt := FG Q, xe := FX E } [some a0, none, none, none, none] G
theorem p_law {cs : List Addr} {cl : Nat → Addr} {CR CM cP PP cP1 PP1 cP2 PP2 cP3 PP3 : Addr} {x : D} {G : Gp} {Q : K3} {E : X3} (h : S_law cs cl CR CM cP PP cP1 PP1 cP2 PP2 cP3 PP3 x G Q E) : W_law T cs cl CR CM cP PP cP1 PP1 cP2 PP2 cP3 PP3 x G Q E := by
  obtain ⟨hcm, l, S, s1, s2, s3, s4, s5, s6, q⟩ := h
  unfold W_law b_law
  refine seq_mid rfl (fun τ G' => ∃ p o, G p = none ∧ PenO o ∧ τ = [some x, some (.obj p), none, none, none] ∧ G' = updG G p o) (fun N hN => ?_) ?_
  · walk_at "den"
    simp only [c_law, List.getElem?_cons_zero, List.getElem?_cons_succ]
    exact ⟨l, S, s1, s2, s3, s4, s5, s6, fun p o hp ho => hN _ _ ⟨p, o, hp, ho, rfl, rfl⟩⟩
  rintro τ G' ⟨p, o, hp, ho, rfl, rfl⟩
  refine seq_mid rfl (fun τ G' => ∃ e o, PenO o ∧ τ = [some x, some (.obj p), e, none, none] ∧ G' = updG G p o) (fun N hN => ?_) ?_
  · simp only [sFor, forT, L3.iRng1, itR1]
    walk_at "den"
    refine ⟨⟨by decide, by decide⟩, ?_⟩
    refine for_by (fun rest τ G' => ∃ e o, PenO o ∧ τ = [some x, some (.obj p), e, none, none] ∧ G' = updG G p o) (fun _ _ _ _ => trivial) ?_ ?_ _ ⟨_, _, ho, rfl, rfl⟩
    · rintro lap r τ G' N2 ⟨e, o, ho, rfl, rfl⟩ hN2
      walk_at "den"
      simp only [c_law, List.getElem?_cons_zero, List.getElem?_cons_succ]
      refine ⟨p, _, hcm, rfl, updG_same, ho, fun o2 ho2 => ?_⟩
      rw [updG_updG]
      exact ⟨_, tru_bl, ite_f rfl (hN2 _ _ ⟨_, _, ho2, rfl, rfl⟩)⟩
    · rintro τ G' ⟨e, o, ho, rfl, rfl⟩
      exact hN _ _ ⟨e, o, ho, rfl, rfl⟩
  rintro τ G' ⟨e, o, ho, rfl, rfl⟩
  refine seq_mid rfl (fun τ G' => τ = [some x, some (.obj p), e, none, none] ∧ G' = updG G p o) (fun N hN => ?_) ?_
  · walk_at "den"
    simp only [c_law, List.getElem?_cons_zero, List.getElem?_cons_succ]
    exact ⟨hcm, _, tru_bl, ite_f rfl (hN _ _ ⟨rfl, rfl⟩)⟩
  rintro τ G' ⟨rfl, rfl⟩
  refine seq_mid rfl (fun τ G' => ∃ d o, BadOk d ∧ PenO o ∧ τ = [some x, some (.obj p), e, some d, none] ∧ G' = updG G p o) (fun N hN => ?_) ?_
  · refine set_call2 rfl (bad_eval ?_)
    show S__law_pick _ _ _ _ (FX E)
    refine ⟨p, badL, o, rfl, rfl, by simp [badL], by simp [badL], updG_same, ho, fun d o2 hd ho2 => ?_⟩
    rw [updG_updG]
    exact hN _ _ ⟨d, o2, bad_ok d hd, ho2, rfl, rfl⟩
  rintro τ G' ⟨d, o, hd, ho, rfl, rfl⟩
  refine seq_mid rfl (fun τ G' => ∃ z k o, knP z = some k ∧ k ≠ "str" ∧ PenO o ∧ τ = [some x, some (.obj p), e, some d, some z] ∧ G' = updG G p o) (fun N hN => ?_) ?_
  · walk_at "den"
    simp only [c_law, List.getElem?_cons_zero, List.getElem?_cons_succ]
    have hb := lnBig
    refine ⟨by omega, z_mkF ⟨by omega, z_mkF ⟨p, _, o, rfl, rfl, by simp, by simp, updG_same, ho, fun z o2 hz ho2 => ?_⟩⟩⟩
    rw [updG_updG]
    simp only [List.mem_cons, List.not_mem_nil, or_false] at hz
    rcases hz with rfl | rfl | rfl | rfl
    · exact hN _ _ ⟨_, _, o2, rfl, by decide, ho2, rfl, rfl⟩
    · exact hN _ _ ⟨_, _, o2, rfl, by decide, ho2, rfl, rfl⟩
    · exact hN _ _ ⟨_, _, o2, rfl, by decide, ho2, rfl, rfl⟩
    · exact hN _ _ ⟨_, _, o2, rfl, by decide, ho2, rfl, rfl⟩
  rintro τ G' ⟨z, k, o, hz, hk, ho, rfl, rfl⟩
  refine seq_mid rfl (fun τ G' => τ = [some x, some (.obj p), e, some d, some z] ∧ G' = updG G p o) (fun N hN => ?_) ?_
  · walk_at "den"
    simp only [c_law, List.getElem?_cons_zero, List.getElem?_cons_succ]
    have hb := lnBig
    obtain ⟨t, rt, st⟩ := hd.rt
    refine lam_of (fun Q0 q0 => ?_) (rt_repr rt ⟨by omega, z_eq_row (b := true) st ⟨_, rfl, ite_f rfl ⟨k, kn_of hz, hk, ?_⟩⟩⟩)
    · walk_at "den"
      exact ⟨hcm, hd.ak, hd.wt, fun _ => ft_row rt q0, fun y => (by rw [hd.pl] at y; cases y)⟩
    · refine ⟨by omega, .inl ⟨.tuple [.str "text", .int 0, .int 0], .tuple [.str "text", .int 0, .int 0], .tup (.cons (.str _) (.cons (.int _) (.cons (.int _) .nil))), .tup (.cons (.str _) (.cons (.int _) (.cons (.int _) .nil))), shp_text _ _, shp_text _ _, ?_⟩⟩
      have e : PyData.eqv (.tuple [.str "text", .int 0, .int 0]) (.tuple [.str "text", .int 0, .int 0]) = true := by decide +kernel
      rw [e]
      exact ⟨_, rfl, ite_f rfl (hN _ _ ⟨rfl, rfl⟩)⟩
  rintro τ G' ⟨rfl, rfl⟩
  walk_at "den"
  simp only [c_law, List.getElem?_cons_zero, List.getElem?_cons_succ]
  have hb := lnBig
  have ht := two_line
  refine (show negD (.int 3) _ _ from ?_)
  refine (?_ : 2 ≤ sizeLine ∧ _)
  refine ⟨ht, by omega, z_mkF ⟨Nat.zero_le _, z_mkF ⟨by omega, z_mkF ?_⟩⟩⟩
  refine ⟨hcm, la_ak, la_wt, fun y => (by rw [la_pl] at y; cases y), fun _ => ⟨la_pl', la_tb, la_wt2, la_len, ?_⟩⟩
  rw [la_tx]
  refine ⟨rfl, trivial, _, tru_bl, ite_t rfl ?_⟩
  refine ⟨"str", kn_of rfl, fun z => absurd rfl z, fun t' e1 => ?_⟩
  obtain rfl : t' = l12 := mkS_inj (by injection e1 with e1; exact e1.symm)
  refine ⟨sz_le (by decide), fun w hw => ⟨sz_of (by have := l12_toks.2 w hw; omega), .inl (l12_toks.2 w hw)⟩, Nat.le_trans l12_toks.1 (by decide), ?_⟩
  rw [l12_val]
  refine ⟨ht, ⟨rfl, isv_of _ _ (by decide +kernel), _, tru_bl, ite_t rfl ⟨ht, ?_⟩⟩⟩
  refine ⟨hcm, lp_ak, lp_wt, fun y => (by rw [lp_pl] at y; cases y), fun _ => ⟨lp_pl', lp_tb, lp_wt2, lp_len, ?_⟩⟩
  rw [lp_tx]
  show FG Q (.bl (decide (Str.ofString "1/2" = Str.ofString "1/2"))) _
  rw [decide_eq_true rfl]
  exact ⟨_, Les.refl _, q p o hp ho⟩
theorem ok_law (cs : List Addr) (cl : Nat → Addr) (CR CM cP PP cP1 PP1 cP2 PP2 cP3 PP3 : Addr) (F : FunD K "law" "law" (defArgs (top 74)) (defBody (top 74)) (defScope (top 74)) [] [] f fd) (hl : LamOk (c_law T cs cl CR CM cP PP cP1 PP1 cP2 PP2 cP3 PP3) fd base mg "law") (g : GOk (c_law T cs cl CR CM cP PP cP1 PP1 cP2 PP2 cP3 PP3) k P w K mg base) : FnG P w K mg base T (k + 2) f (sp_law cs cl CR CM cP PP cP1 PP1 cP2 PP2 cP3 PP3) := by
  refine fnG3 F (F.bindsN fun _ _ _ _ _ _ us hl => match us, hl with | [_], _ => rfl) (ps := ["script"]) (C8.fnScope_by (by kernel_rfl)) rfl hl g (b_law _) (k_law T cs cl CR CM cP PP cP1 PP1 cP2 PP2 cP3 PP3) (fun ds G Q E h => ?_) (fun ds G Q E h => ?_)
  · rcases ds with _ | ⟨a0, _ | r⟩ <;> first | rfl | exact False.elim h
  · rcases ds with _ | ⟨a0, _ | r⟩ <;> first | exact False.elim h | exact p_law h
end W75
set_option Elab.async false
set_option linter.all false
set_option maxRecDepth 100000
set_option maxHeartbeats 1000000
namespace W75
open PySem PySem.Spec PyProof.Rows L2 LamX L3 Hd
local macro_rules | `(tactic| walk_at "den") => `(tactic| simp only [List.map, sRet, sSet, sSetLc, sAsg, sPar, sPar3, sExpr, sPass, sBreak, sCont, sIf, sWhile, sFor, sAug, sFld3, sFldAug3, sSub, sRaise,
  seqT, retT, setT, asgT, parT, dropT, ifT, augT, fldT, fldAugT, subT, rzT, eAnds, eOrs, eNot, eBf, eVar, eTy, eInt, eStr, eBl, eNon, eGlob, eBin, eNeg, eCmp, eChain, eIf, eTup, eLst, eFrz, eIx, eSl, eFld, eCall, eCall0, eBm, eOm, eLc, eMake, eDisp, eGcd, iSeq, iLst, iTupl, iTxt, L3.iRng1, L3.iRng2, iEnm, iEnmT, iRngDn, eDict0, L3.ifsT, eIsE, eXf, xfE, eRepr, eIntW, eCallH, spH, eCallG, eCallG0, spG, eLam,
  tCmp3, tChain3, tTru, tNot3, tAnds, tOrs, testT, truT, notT, andT, orT, andE, orE, notE, ifE, cE', argT, varE, cE, opE, unE, chainE, tupE, lstE, slE, optE, spE, mtE, omE, makeE, dispE, Bf.r, Bm.r, Bm.ty, Tg.t, setAll, Option.map,
  List.getElem?_cons_zero, List.getElem?_cons_succ, List.set_cons_zero, List.set_cons_succ, Option.some.injEq, exists_eq_left', List.length_cons, List.length_nil, Nat.reduceAdd, true_and, binD, cmpD, augD, fnSp, mtC, mkC, rzC, gvD])
variable {P : Program} {w : World} {K : PySem.W.Frag} {mg : Str → Option Value} {base : Heap} {T : List (Addr × Str)} {k : Nat} {f : Addr} {fd : FuncData}
open PySem.NumText
/-! ### an exception's __init__: two fields -/
def spI (C : Addr) (f1 f2 : Str) : Sp := fun vs H Q _ => ∃ (a : Addr) (v1 v2 : V), vs = [.ref a, v1, v2] ∧ H a = some (exo a C none) ∧ ∀ d, H d = none → d ≠ a → Q .non (upd (upd H d (exd d [(f2, v2), (f1, v1)])) a (exo a C (some d)))
theorem upd_three {H : Hp} {a d : Addr} {A A' B : HO} (h : d ≠ a) : upd (upd (upd H d A) a B) d A' = upd (upd H d A') a B := by
  funext b
  unfold upd
  by_cases h1 : b = d
  · subst h1
    rw [if_pos rfl, if_neg h, if_pos rfl]
  · rw [if_neg h1]
    by_cases h2 : b = a
    · rw [if_pos h2, if_pos h2]
    · rw [if_neg h2, if_neg h2, if_neg h1, if_neg h1]
theorem ok_init {params : Arguments} {body : List Stmt} {scope : Scope} {qual sf f1 f2 : Str} {C : Addr} (F : FunD K "__init__" qual params body scope [] [] f fd) (S : FnScope [sf, f1, f2] [sf, f1, f2] scope) (T : OexC K C) (n1 : PySem.W.findIn K (.ref C) f1 = some none) (n2 : PySem.W.findIn K (.ref C) f2 = some none)
    (hb : ∀ (cdv : Value) (A : Around) (outer : List Env) (s : Shared) (H : Hp) (E : XK), PSs (cxOf (L2.CX P w) P w K mg base [sf, f1, f2] qual scope f cdv A outer s H E) body (tSeq (tOst K f1 (tVar 0) (tVar 1)) (tOst K f2 (tVar 0) (tVar 2)))) : FnOk P w K mg base (L2.CX P w) (k + 1) f fd [sf, f1, f2] (spI C f1 f2) := by
  refine F.ok S (fun vs H Q E h => ?_) (fun cdv A outer s H vs Q E hr h => ⟨_, hb cdv A outer s H E, ?_⟩)
  · obtain ⟨a, v1, v2, rfl, _⟩ := h
    rfl
  · obtain ⟨a, v1, v2, rfl, ha, q⟩ := h
    refine ⟨v1, rfl, .ref a, rfl, a, C, rfl, T, n1, .inl ⟨ha, fun dx h1 h2 => ?_⟩⟩
    refine ⟨v2, rfl, .ref a, rfl, a, C, rfl, T, n2, .inr ⟨dx, [(f1, v1)], upd_same, (upd_ne h2).trans upd_same, by simp, ?_⟩⟩
    rw [upd_three h2]
    exact q dx h1 h2
theorem ok_BadText {C : Addr} (F : FunD K "__init__" "BadText.__init__" (defArgs (inClass (top 10) 0)) (defBody (inClass (top 10) 0)) (defScope (inClass (top 10) 0)) [] [] f fd) (T : OexC K C) (n1 : PySem.W.findIn K (.ref C) "line" = some none) (n2 : PySem.W.findIn K (.ref C) "word" = some none) : FnOk P w K mg base (L2.CX P w) (k + 1) f fd ["self", "line", "word"] (spI C "line" "word") :=
  ok_init F (C8.fnScope_by (by kernel_rfl)) T n1 n2 fun cdv A outer s H E => PSs.nox (pss_cons (ps_ost (pv 0) (pv 1)) (pss_one (ps_ost (pv 0) (pv 2))))
theorem ok_BadRow {C : Addr} (F : FunD K "__init__" "BadRow.__init__" (defArgs (inClass (top 5) 0)) (defBody (inClass (top 5) 0)) (defScope (inClass (top 5) 0)) [] [] f fd) (T : OexC K C) (n1 : PySem.W.findIn K (.ref C) "what" = some none) (n2 : PySem.W.findIn K (.ref C) "row" = some none) : FnOk P w K mg base (L2.CX P w) (k + 1) f fd ["self", "what", "row"] (spI C "what" "row") :=
  ok_init F (C8.fnScope_by (by kernel_rfl)) T n1 n2 fun cdv A outer s H E => PSs.nox (pss_cons (ps_ost (pv 0) (pv 1)) (pss_one (ps_ost (pv 0) (pv 2))))
end W75
set_option Elab.async false
set_option linter.all false
set_option maxRecDepth 100000
set_option maxHeartbeats 1000000
namespace W75
open PySem PySem.Spec PyProof.Rows L2 LamX L3 Hd
local macro_rules | `(tactic| walk_at "den") => `(tactic| simp only [List.map, sRet, sSet, sSetLc, sAsg, sPar, sPar3, sExpr, sPass, sBreak, sCont, sIf, sWhile, sFor, sAug, sFld3, sFldAug3, sSub, sRaise,
  seqT, retT, setT, asgT, parT, dropT, ifT, augT, fldT, fldAugT, subT, rzT, eAnds, eOrs, eNot, eBf, eVar, eTy, eInt, eStr, eBl, eNon, eGlob, eBin, eNeg, eCmp, eChain, eIf, eTup, eLst, eFrz, eIx, eSl, eFld, eCall, eCall0, eBm, eOm, eLc, eMake, eDisp, eGcd, iSeq, iLst, iTupl, iTxt, L3.iRng1, L3.iRng2, iEnm, iEnmT, iRngDn, eDict0, L3.ifsT, eIsE, eXf, xfE, eRepr, eIntW, eCallH, spH, eCallG, eCallG0, spG, eLam,
  tCmp3, tChain3, tTru, tNot3, tAnds, tOrs, testT, truT, notT, andT, orT, andE, orE, notE, ifE, cE', argT, varE, cE, opE, unE, chainE, tupE, lstE, slE, optE, spE, mtE, omE, makeE, dispE, Bf.r, Bm.r, Bm.ty, Tg.t, setAll, Option.map,
  List.getElem?_cons_zero, List.getElem?_cons_succ, List.set_cons_zero, List.set_cons_succ, Option.some.injEq, exists_eq_left', List.length_cons, List.length_nil, Nat.reduceAdd, true_and, binD, cmpD, augD, fnSp, mtC, mkC, rzC, gvD])
variable {P : Program} {w : World} {K : PySem.W.Frag} {mg : Str → Option Value} {base : Heap} {T : List (Addr × Str)} {k : Nat} {f : Addr} {fd : FuncData}
open PySem.NumText
/-! ### what the head must show of K -/
theorem oex_of {C : Addr} (h : oexB K C = true) : OexC K C := by
  unfold oexB at h
  obtain ⟨h1, h2⟩ := He.ba h
  obtain ⟨a, b, c, d⟩ := of_decide_eq_true h2
  refine ⟨?_, a, b, c, d⟩
  split at h1
  · rename_i t dd cd sl ho
    split at h1
    · rename_i C' bm k0 k1 k2 k3 n k5 hm hs
      simp only [Bool.and_eq_true, decide_eq_true_eq, Bool.not_eq_true'] at h1
      obtain ⟨e1, e2, e3, e4, e5, e6⟩ := h1
      subst e1 e2 e3
      obtain ⟨nm, bs, mro, ns, qn, hd, sn, sub, ab, col, del⟩ := cd
      dsimp only at hm e4 e5
      subst hm e4 e5
      have hsl : sl = #[k0, k1, k2, k3, some (.builtin "ValueError.__new__"), k5] := by
        obtain ⟨l⟩ := sl
        simp only at hs
        rw [hs]
      subst hsl
      exact ⟨nm, qn, ns, bs, bm, sn, sub, ab, col, dd, k0, k1, k2, k3, k5, ho, e6⟩
    · cases h1
  · cases h1
/-- an exception's __init__ where it should be -/
theorem rz_of {x f1 f2 : Str} {fd : FuncData} (h : IniP K x f1 f2) (hx : mg x = some (.ref (He.ga K x))) (F : FnOk P w K mg base (L2.CX P w) k (He.ma K (He.ga K x) "__init__") fd ["self", f1, f2] (spI (He.ga K x) f1 f2)) (b : Binds K fd ["self", f1, f2] []) :
    RzAt P w K mg base k x (He.ga K x) [f1, f2] := by
  obtain ⟨h1, h2, h3, _, _⟩ := h
  refine ⟨hx, oex_of h1, by simp, _, fd, _, _, h2, h3, F, b, fun a vs H Q E hl ha hq => ?_⟩
  match vs, hl with
  | [v1, v2], _ => exact ⟨a, v1, v2, rfl, ha, fun d h1 h2 => hq d h1 h2⟩
theorem ex_of (h1 : ∀ C ∈ exL (clK K), ExcP K C) (h2 : ExN K) (h3 : ExT K) : ExOk K (exL (clK K)) xfL :=
  ⟨fun C hC => xfB_ok (h1 C hC).1, fun C hC => by
    obtain ⟨a, b, c, d, e, _⟩ := h1 C hC
    obtain ⟨x1, x2, x3, x4⟩ := xfB_ok a
    exact ⟨x1, x2, x3, x4, b, c, d, e⟩, h2, h3, fun C hC => (h1 C hC).2.2.2.2.2.1⟩
theorem is_of {C : Addr} (c : Cls K C) (h : IsP K C) : IsiOk K [C] := by
  obtain ⟨h1, h2, h3, h4⟩ := h
  refine ⟨fun C' hC => ?_, fun C' hC => ?_, fun C' hC => ?_, fun C' hC C2 hC2 => ?_⟩
  · obtain rfl := List.mem_singleton.mp hC
    exact ⟨c, h1⟩
  · obtain rfl := List.mem_singleton.mp hC
    exact h2
  · obtain rfl := List.mem_singleton.mp hC
    exact h3
  · obtain rfl := List.mem_singleton.mp hC
    obtain rfl := List.mem_singleton.mp hC2
    rw [h4, decide_eq_true rfl]
theorem inj_of (h : ExI K) : Inj (clK K) := fun i j hi hj e => h i (List.mem_range.mpr hi) j (List.mem_range.mpr hj) e
theorem dig_of (h : DigP K) : NoDigK K := fun hp X => ⟨_, .of_isNs (PySem.W.isNs_of_in X h.1), PySem.W.nsMap_none_of_in X h.1 h.2⟩
end W75
set_option Elab.async false
set_option linter.all false
set_option maxRecDepth 100000
set_option maxHeartbeats 2000000
namespace W75
open PySem PySem.Spec PyProof.Rows L2 LamX L3 Hd
theorem at_nil {α β : Type} {R : α → β → Prop} : ∀ (i : Nat) x y, ([] : List (α × β))[i]? = some (x, y) → R x y := fun i x y e => by simp at e
theorem at_cons {α β : Type} {R : α → β → Prop} {x0 : α} {y0 : β} {l : List (α × β)} (h : R x0 y0) (t : ∀ (i : Nat) x y, l[i]? = some (x, y) → R x y) : ∀ (i : Nat) x y, ((x0, y0) :: l)[i]? = some (x, y) → R x y := fun i x y e => by
  cases i with
  | zero => simp at e; obtain ⟨rfl, rfl⟩ := e; exact h
  | succ i => exact t i x y (by simpa using e)
theorem at3_nil {α β γ : Type} {R : α → β → γ → Prop} : ∀ (i : Nat) x y z, ([] : List (α × β × γ))[i]? = some (x, y, z) → R x y z := fun i x y z e => by simp at e
theorem at3_cons {α β γ : Type} {R : α → β → γ → Prop} {x0 : α} {y0 : β} {z0 : γ} {l : List (α × β × γ)} (h : R x0 y0 z0) (t : ∀ (i : Nat) x y z, l[i]? = some (x, y, z) → R x y z) : ∀ (i : Nat) x y z, ((x0, y0, z0) :: l)[i]? = some (x, y, z) → R x y z := fun i x y z e => by
  cases i with
  | zero => simp at e; obtain ⟨rfl, rfl, rfl⟩ := e; exact h
  | succ i => exact t i x y z (by simpa using e)
theorem lf_nil {R : Str → Ft → Prop} : ∀ x ft, (none : Option (Str × Ft)) = some (x, ft) → R x ft := fun x ft e => by cases e
theorem lf_one {R : Str → Ft → Prop} {x0 : Str} {ft0 : Ft} (h : R x0 ft0) : ∀ x ft, some (x0, ft0) = some (x, ft) → R x ft := fun x ft e => by cases e; exact h
section
variable {P : Program} {w : World} {K : PySem.W.Frag} {mg : Str → Option Value} {base : Heap} {T : List (Addr × Str)} {j k : Nat} {f : Addr} {fd : FuncData}
theorem bt_nil : ∀ x ∈ ([] : List Str), mg x = none := fun x h => by cases h
theorem bt_cons {x0 : Str} {l : List Str} (h : mg x0 = none) (t : ∀ x ∈ l, mg x = none) : ∀ x ∈ x0 :: l, mg x = none := fun x hx => (List.mem_cons.mp hx).elim (fun e => e ▸ h) (t x)
theorem gc_nil : ∀ x ∈ ([] : List Str), mg x = some (.builtin "math.gcd") := fun x h => by cases h
theorem bt_consG (h : mg "gcd" = some (.builtin "math.gcd")) : ∀ x ∈ (["gcd"] : List Str), mg x = some (.builtin "math.gcd") := fun x hx => (List.mem_singleton.mp hx) ▸ h
theorem fl_nil : ∀ p ∈ ([] : List (Addr × Str)), Cls K p.1 ∧ NoAttr K p.1 p.2 := fun x h => by cases h
theorem fl_cons {p0 : Addr × Str} {l : List (Addr × Str)} (h : Cls K p0.1 ∧ NoAttr K p0.1 p0.2) (t : ∀ p ∈ l, Cls K p.1 ∧ NoAttr K p.1 p.2) : ∀ p ∈ p0 :: l, Cls K p.1 ∧ NoAttr K p.1 p.2 := fun x hx => (List.mem_cons.mp hx).elim (fun e => e ▸ h) (t x)
theorem is_nil : IsiOk K [] := ⟨(fun _ h => by cases h), (fun _ h => by cases h), (fun _ h => by cases h), (fun _ h => by cases h)⟩
theorem ex_nil {fs : List Str} : ExOk K [] fs := ⟨(fun _ h => by cases h), (fun _ h => by cases h), (fun _ h => by cases h), (fun _ h => by cases h), (fun _ h => by cases h)⟩
theorem gv_str {x z : Str} (h : ∃ t, mg x = some (.str z t)) : ∃ v u, mg x = some u ∧ RelV v u ∧ ∀ H G, Rep K H G v (.str z) := by
  obtain ⟨t, e⟩ := h
  exact ⟨.str z, _, e, ⟨t, rfl⟩, fun _ _ => .str z⟩
theorem gv_int {x : Str} {i : Int} (h : ∃ t, mg x = some (.int i t)) : ∃ v u, mg x = some u ∧ RelV v u ∧ ∀ H G, Rep K H G v (.int i) := by
  obtain ⟨t, e⟩ := h
  exact ⟨.int i, _, e, ⟨t, rfl⟩, fun _ _ => .int i⟩
theorem gv_obj {x : Str} {a : Addr} (h : mg x = some (.ref a)) : ∃ v u, mg x = some u ∧ RelV v u ∧ ∀ H G, Rep K H G v (.obj a) := ⟨.ref a, _, h, rfl, fun _ _ => .obj a⟩
theorem _root_.L3.FnE.mono {xs : List Addr} {sp : SpE3} (h : FnE P w K mg base T j f xs sp) (l : j ≤ k) : FnE P w K mg base T k f xs sp := by
  obtain ⟨fd, ps, b, len, F⟩ := h.ok
  exact ⟨fd, ps, b, len, fun A outer s H args us vs Q E a oe C dd hC hg hr => F A outer s H args us vs Q E a oe C dd hC hg (hr.mono l)⟩
theorem _root_.L3.FnG.mono {sp : Sp3} (h : FnG P w K mg base T j f sp) (l : j ≤ k) : FnG P w K mg base T k f sp := by
  obtain ⟨fd, ps, b, len, F⟩ := h.ok
  exact ⟨fd, ps, b, len, fun A outer s H args us vs Q E hg hr => F A outer s H args us vs Q E hg (hr.mono l)⟩
theorem _root_.L3.FaultAt.mono {x : Str} {ft : Ft} (h : FaultAt P w K mg base T j x f ft) (l : j ≤ k) : FaultAt P w K mg base T k x f ft := by
  obtain ⟨Ng, a, pg, bg, sg, dV, kV, doc, pm, cdv, ct, oc, an, od, osl, a1, a2, a3, a4, a5, a6, a7, a8, F⟩ := h.ok
  exact ⟨Ng, a, pg, bg, sg, dV, kV, doc, pm, cdv, ct, oc, an, od, osl, a1, a2, a3, a4, a5, a6, a7, a8, fun X q e1 e2 e3 e4 e5 e6 hr => F X q e1 e2 e3 e4 e5 e6 (hr.mono (by omega))⟩
theorem false_at {ps : List Str} {sp : Sp3} (b : Binds K fd ps []) (no : ∀ ds G Q E, sp ds G Q E → False) : FnAt P w K mg base T k f sp :=
  ⟨fd, ps, ⟨fun vs H Q E ⟨ds, G, Q3, E3, _, _, h, _⟩ => (no _ _ _ _ h).elim, fun A outer s H args us vs Q E _ _ _ _ ⟨ds, G, Q3, E3, _, _, h, _⟩ => (no _ _ _ _ h).elim⟩, b⟩
def tabK (K : PySem.W.Frag) : List (Addr × Str) := tfK.map fun p => ((He.cT K p).2, p.1 ++ ".<locals>." ++ "<lambda>")
theorem lam_ok {h : Heap} {c0 : Cn} {p : He.Defn} {x qual : Str} {params : Arguments} {body : List Stmt} {scope : Scope} (hlm : c0.lm = some (He.cT K p)) (hT : c0.T = tabK K) (D : FunD K x qual params body scope [] [] (He.fAd K p) fd) (c : SaysK h K) (tb : ∀ p ∈ tfK, TabB base mg (He.cT K p).1 (He.cT K p).2)
    (hp : p ∈ tfK) (hq : p.1 = qual := by rfl) : LamOk c0 fd base mg qual := by
  intro cP PP e
  rw [hlm] at e
  injection e with e
  obtain ⟨oc, od, dV, kV, doc, pm, an, cdv, ct, osl, rfl, lk, hcd, _, _⟩ := D.ex
  have e1 : (He.cT K p).1 = cP := congrArg (·.1) e
  have e2 : (He.cT K p).2 = PP := congrArg (·.2) e
  have hc : ∃ cd, cdv = .ref cd := by
    unfold PySem.W.codeIn at hcd
    split at hcd
    · exact ⟨_, rfl⟩
    · cases hcd
  obtain ⟨cd, rfl⟩ := hc
  have e3 : He.codeOf K p = cd := He.codeOf_eq lk rfl
  refine ⟨?_, ?_, ?_, fun q hq2 e4 => ?_⟩
  · show Value.ref cd = .ref cP
    rw [← e1, ← e3]
    rfl
  · have := tb p hp
    rw [e1, e2] at this
    exact this
  · rw [hT, ← e2, ← hq]
    exact List.mem_map.mpr ⟨p, hp, rfl⟩
  · rw [hT] at hq2
    obtain ⟨p', hp', e5⟩ := List.mem_map.mp hq2
    subst e5
    have e6 : (He.cT K p').2 = (He.cT K p).2 := e4.trans e2.symm
    obtain rfl := c.dist p' hp' p hp e6
    rw [← hq]
end
theorem all_ok {P : Program} {w : World} {K : PySem.W.Frag} {mg : Str → Option Value} {base h : Heap} (X : K.In base) (G : base.Ns mainGlobals mg) (c : SaysK h K) (tb : ∀ p ∈ tfK, TabB base mg (He.cT K p).1 (He.cT K p).2) :
    FnG P w K mg base (tabK K) 50 (He.ga K "law") (sp_law [He.ga K "Mark"] (clK K) (He.ga K "Reader") (He.ga K "Mark") ((He.cT K ("law", none)).1) ((He.cT K ("law", none)).2) ((He.cT K ("_law_right", none)).1) ((He.cT K ("_law_right", none)).2) ((He.cT K ("_law_deep_right", none)).1) ((He.cT K ("_law_deep_right", none)).2) ((He.cT K ("_law_read_fault", none)).1) ((He.cT K ("_law_read_fault", none)).2)) := by
  have flR : ∀ p ∈ rdF (He.ga K "Reader"), Cls K p.1 ∧ NoAttr K p.1 p.2 := fl_cons ⟨He.cls_ok (c.d.fact 81 (f := .cls "Reader") rfl), He.noat_ok (c.d.fact 82 (f := .noat "Reader" "tokens") rfl)⟩ (fl_cons ⟨He.cls_ok (c.d.fact 81 (f := .cls "Reader") rfl), He.noat_ok (c.d.fact 83 (f := .noat "Reader" "line") rfl)⟩ (fl_cons ⟨He.cls_ok (c.d.fact 81 (f := .cls "Reader") rfl), He.noat_ok (c.d.fact 84 (f := .noat "Reader" "most") rfl)⟩ (fl_cons ⟨He.cls_ok (c.d.fact 81 (f := .cls "Reader") rfl), He.noat_ok (c.d.fact 85 (f := .noat "Reader" "at") rfl)⟩ fl_nil)))
  have flM : ∀ p ∈ mkF (He.ga K "Mark"), Cls K p.1 ∧ NoAttr K p.1 p.2 := fl_cons ⟨He.cls_ok (c.d.fact 94 (f := .cls "Mark") rfl), He.noat_ok (c.d.fact 95 (f := .noat "Mark" "text") rfl)⟩ fl_nil
  have isM : IsiOk K [He.ga K "Mark"] := is_of (He.cls_ok (c.d.fact 94 (f := .cls "Mark") rfl)) c.is
  have exO : ExOk K (exL (clK K)) xfL := ex_of c.ex c.exN c.exT
  obtain ⟨fd_BadText___init__, D_BadText___init__⟩ : ∃ fd, FunD K "__init__" "BadText.__init__" (defArgs (inClass (top 10) 0)) (defBody (inClass (top 10) 0)) (defScope (inClass (top 10) 0)) [] [] (He.ma K (He.ga K "BadText") "__init__") fd := c.d.def_ 7 (d := ⟨("BadText", some "__init__"), "__init__", "BadText.__init__", defArgs (inClass (top 10) 0), defBody (inClass (top 10) 0), defScope (inClass (top 10) 0), [], []⟩) rfl
  have R_BadText : ∀ k, 1 ≤ k → RzAt P w K mg base k "BadText" (clK K 6) ["line", "word"] := fun k hk => by
    obtain ⟨j, rfl⟩ : ∃ j, k = j + 1 := ⟨k - 1, by omega⟩
    exact rz_of c.i1 (He.glo_ok X G (c.d.fact 52 (f := .glo "BadText") rfl)) (ok_BadText D_BadText___init__ (oex_of c.i1.1) c.i1.2.2.2.1 c.i1.2.2.2.2) (D_BadText___init__.bindsN fun _ _ _ _ _ _ us hl => match us, hl with | [_, _, _], _ => rfl)
  obtain ⟨fd_BadRow___init__, D_BadRow___init__⟩ : ∃ fd, FunD K "__init__" "BadRow.__init__" (defArgs (inClass (top 5) 0)) (defBody (inClass (top 5) 0)) (defScope (inClass (top 5) 0)) [] [] (He.ma K (He.ga K "BadRow") "__init__") fd := c.d.def_ 2 (d := ⟨("BadRow", some "__init__"), "__init__", "BadRow.__init__", defArgs (inClass (top 5) 0), defBody (inClass (top 5) 0), defScope (inClass (top 5) 0), [], []⟩) rfl
  have R_BadRow : ∀ k, 1 ≤ k → RzAt P w K mg base k "BadRow" (clK K 1) ["what", "row"] := fun k hk => by
    obtain ⟨j, rfl⟩ : ∃ j, k = j + 1 := ⟨k - 1, by omega⟩
    exact rz_of c.i2 (He.glo_ok X G (c.d.fact 47 (f := .glo "BadRow") rfl)) (ok_BadRow D_BadRow___init__ (oex_of c.i2.1) c.i2.2.2.2.1 c.i2.2.2.2.2) (D_BadRow___init__.bindsN fun _ _ _ _ _ _ us hl => match us, hl with | [_, _, _], _ => rfl)
  obtain ⟨fd_is_integer, D_is_integer⟩ : ∃ fd, FunD K "is_integer" "is_integer" (defArgs (top 21)) (defBody (top 21)) (defScope (top 21)) [] [] (He.ga K "is_integer") fd := c.d.def_ 15 (d := ⟨("is_integer", none), "is_integer", "is_integer", defArgs (top 21), defBody (top 21), defScope (top 21), [], []⟩) rfl
  have F_is_integer : FnAt P w K mg base (tabK K) 2 (He.ga K "is_integer") (sp_is_integer [He.ga K "Mark"]) := ok_is_integer (T := tabK K) [He.ga K "Mark"] D_is_integer (k := 0) { fn := at_nil, gv := at_nil, bt := (bt_cons (He.free_ok X G (c.d.fact 65 (f := .free "isinstance") rfl)) (bt_cons (He.free_ok X G (c.d.fact 66 (f := .free "int") rfl)) (bt_cons (He.free_ok X G (c.d.fact 76 (f := .free "bool") rfl)) bt_nil))), fl := fl_nil, mt := at3_nil, mks := at3_nil, cs := isM, rz := at3_nil, gc := gc_nil, ex := ex_nil, fnE := at_nil, fnL := at_nil, nd := fun _ => dig_of c.dig, fnG := at_nil, lf := lf_nil }
  obtain ⟨fd_is_ratio, D_is_ratio⟩ : ∃ fd, FunD K "is_ratio" "is_ratio" (defArgs (top 22)) (defBody (top 22)) (defScope (top 22)) [] [] (He.ga K "is_ratio") fd := c.d.def_ 16 (d := ⟨("is_ratio", none), "is_ratio", "is_ratio", defArgs (top 22), defBody (top 22), defScope (top 22), [], []⟩) rfl
  have F_is_ratio : FnAt P w K mg base (tabK K) 4 (He.ga K "is_ratio") (sp_is_ratio [He.ga K "Mark"]) := ok_is_ratio (T := tabK K) [He.ga K "Mark"] D_is_ratio (k := 2) { fn := (at_cons ⟨_, (He.glo_ok X G (c.d.fact 1 (f := .glo "is_integer") rfl)), D_is_integer.kp, F_is_integer.mono (by omega)⟩ at_nil), gv := at_nil, bt := (bt_cons (He.free_ok X G (c.d.fact 65 (f := .free "isinstance") rfl)) (bt_cons (He.free_ok X G (c.d.fact 68 (f := .free "tuple") rfl)) (bt_cons (He.free_ok X G (c.d.fact 64 (f := .free "len") rfl)) bt_nil))), fl := fl_nil, mt := at3_nil, mks := at3_nil, cs := isM, rz := at3_nil, gc := (bt_consG (PySem.W.mg_of X G c.gcd)), ex := ex_nil, fnE := at_nil, fnL := at_nil, nd := fun _ => dig_of c.dig, fnG := at_nil, lf := lf_nil }
  obtain ⟨fd_pair, D_pair⟩ : ∃ fd, FunD K "pair" "pair" (defArgs (top 23)) (defBody (top 23)) (defScope (top 23)) [] [] (He.ga K "pair") fd := c.d.def_ 17 (d := ⟨("pair", none), "pair", "pair", defArgs (top 23), defBody (top 23), defScope (top 23), [], []⟩) rfl
  have F_pair : FnAt P w K mg base (tabK K) 2 (He.ga K "pair") (sp_pair [He.ga K "Mark"]) := ok_pair (T := tabK K) [He.ga K "Mark"] D_pair (k := 0) { fn := at_nil, gv := at_nil, bt := (bt_cons (He.free_ok X G (c.d.fact 65 (f := .free "isinstance") rfl)) (bt_cons (He.free_ok X G (c.d.fact 66 (f := .free "int") rfl)) bt_nil)), fl := fl_nil, mt := at3_nil, mks := at3_nil, cs := isM, rz := at3_nil, gc := gc_nil, ex := ex_nil, fnE := at_nil, fnL := at_nil, nd := fun _ => dig_of c.dig, fnG := at_nil, lf := lf_nil }
  obtain ⟨fd_opposite, D_opposite⟩ : ∃ fd, FunD K "opposite" "opposite" (defArgs (top 24)) (defBody (top 24)) (defScope (top 24)) [] [] (He.ga K "opposite") fd := c.d.def_ 18 (d := ⟨("opposite", none), "opposite", "opposite", defArgs (top 24), defBody (top 24), defScope (top 24), [], []⟩) rfl
  have F_opposite : FnAt P w K mg base (tabK K) 2 (He.ga K "opposite") (sp_opposite [He.ga K "Mark"]) := ok_opposite (T := tabK K) [He.ga K "Mark"] D_opposite (k := 0) { fn := at_nil, gv := at_nil, bt := (bt_cons (He.free_ok X G (c.d.fact 65 (f := .free "isinstance") rfl)) (bt_cons (He.free_ok X G (c.d.fact 66 (f := .free "int") rfl)) bt_nil)), fl := fl_nil, mt := at3_nil, mks := at3_nil, cs := isM, rz := at3_nil, gc := gc_nil, ex := ex_nil, fnE := at_nil, fnL := at_nil, nd := fun _ => dig_of c.dig, fnG := at_nil, lf := lf_nil }
  obtain ⟨fd_sign_of, D_sign_of⟩ : ∃ fd, FunD K "sign_of" "sign_of" (defArgs (top 25)) (defBody (top 25)) (defScope (top 25)) [] [] (He.ga K "sign_of") fd := c.d.def_ 19 (d := ⟨("sign_of", none), "sign_of", "sign_of", defArgs (top 25), defBody (top 25), defScope (top 25), [], []⟩) rfl
  have F_sign_of : FnAt P w K mg base (tabK K) 2 (He.ga K "sign_of") (sp_sign_of [He.ga K "Mark"]) := ok_sign_of (T := tabK K) [He.ga K "Mark"] D_sign_of (k := 0) { fn := at_nil, gv := at_nil, bt := (bt_cons (He.free_ok X G (c.d.fact 65 (f := .free "isinstance") rfl)) (bt_cons (He.free_ok X G (c.d.fact 66 (f := .free "int") rfl)) bt_nil)), fl := fl_nil, mt := at3_nil, mks := at3_nil, cs := isM, rz := at3_nil, gc := gc_nil, ex := ex_nil, fnE := at_nil, fnL := at_nil, nd := fun _ => dig_of c.dig, fnG := at_nil, lf := lf_nil }
  obtain ⟨fd_run_of, D_run_of⟩ : ∃ fd, FunD K "run_of" "run_of" (defArgs (top 31)) (defBody (top 31)) (defScope (top 31)) [] [] (He.ga K "run_of") fd := c.d.def_ 21 (d := ⟨("run_of", none), "run_of", "run_of", defArgs (top 31), defBody (top 31), defScope (top 31), [], []⟩) rfl
  have F_run_of : FnAt P w K mg base (tabK K) 2 (He.ga K "run_of") (sp_run_of ) := ok_run_of (T := tabK K)  D_run_of (k := 0) { fn := at_nil, gv := at_nil, bt := (bt_cons (He.free_ok X G (c.d.fact 64 (f := .free "len") rfl)) bt_nil), fl := fl_nil, mt := at3_nil, mks := at3_nil, cs := is_nil, rz := at3_nil, gc := gc_nil, ex := ex_nil, fnE := at_nil, fnL := at_nil, nd := fun _ => dig_of c.dig, fnG := at_nil, lf := lf_nil }
  obtain ⟨fd_end_of_token, D_end_of_token⟩ : ∃ fd, FunD K "end_of_token" "end_of_token" (defArgs (top 32)) (defBody (top 32)) (defScope (top 32)) [] [] (He.ga K "end_of_token") fd := c.d.def_ 22 (d := ⟨("end_of_token", none), "end_of_token", "end_of_token", defArgs (top 32), defBody (top 32), defScope (top 32), [], []⟩) rfl
  have F_end_of_token : FnAt P w K mg base (tabK K) 4 (He.ga K "end_of_token") (sp_end_of_token ) := ok_end_of_token (T := tabK K)  D_end_of_token (k := 2) { fn := (at_cons ⟨_, (He.glo_ok X G (c.d.fact 7 (f := .glo "run_of") rfl)), D_run_of.kp, F_run_of.mono (by omega)⟩ at_nil), gv := (at_cons (gv_str (He.str_ok X G (c.d.fact 78 (f := .str "INNER" (mkS INNERs)) rfl))) at_nil), bt := bt_nil, fl := fl_nil, mt := at3_nil, mks := at3_nil, cs := is_nil, rz := at3_nil, gc := gc_nil, ex := ex_nil, fnE := at_nil, fnL := at_nil, nd := fun _ => dig_of c.dig, fnG := at_nil, lf := lf_nil }
  obtain ⟨fd_tokens_of, D_tokens_of⟩ : ∃ fd, FunD K "tokens_of" "tokens_of" (defArgs (top 33)) (defBody (top 33)) (defScope (top 33)) [] [] (He.ga K "tokens_of") fd := c.d.def_ 23 (d := ⟨("tokens_of", none), "tokens_of", "tokens_of", defArgs (top 33), defBody (top 33), defScope (top 33), [], []⟩) rfl
  have F_tokens_of : FnAt P w K mg base (tabK K) 6 (He.ga K "tokens_of") (sp_tokens_of ) := ok_tokens_of (T := tabK K)  D_tokens_of (k := 4) { fn := (at_cons ⟨_, (He.glo_ok X G (c.d.fact 8 (f := .glo "end_of_token") rfl)), D_end_of_token.kp, F_end_of_token.mono (by omega)⟩ at_nil), gv := at_nil, bt := (bt_cons (He.free_ok X G (c.d.fact 64 (f := .free "len") rfl)) bt_nil), fl := fl_nil, mt := at3_nil, mks := at3_nil, cs := is_nil, rz := at3_nil, gc := gc_nil, ex := ex_nil, fnE := at_nil, fnL := at_nil, nd := fun _ => dig_of c.dig, fnG := at_nil, lf := lf_nil }
  obtain ⟨fd_as_tuples, D_as_tuples⟩ : ∃ fd, FunD K "as_tuples" "as_tuples" (defArgs (top 27)) (defBody (top 27)) (defScope (top 27)) [] [] (He.ga K "as_tuples") fd := c.d.def_ 20 (d := ⟨("as_tuples", none), "as_tuples", "as_tuples", defArgs (top 27), defBody (top 27), defScope (top 27), [], []⟩) rfl
  have S_as_tuples : ∀ n, FnAt P w K mg base (tabK K) (0 + 2 * n) (He.ga K "as_tuples") (sp_as_tuples' [He.ga K "Mark"] n) := by
    intro n
    induction n with
    | zero => exact false_at (ps := ["value"]) (D_as_tuples.bindsN fun _ _ _ _ _ _ us hl => match us, hl with | [_], _ => rfl) (fun _ _ _ _ h => h)
    | succ n ih =>
      refine FnAt.imp (ok_as_tuples [He.ga K "Mark"] n D_as_tuples (k := 0 + 2 * n) { fn := (at_cons ⟨_, (He.glo_ok X G (c.d.fact 6 (f := .glo "as_tuples") rfl)), D_as_tuples.kp, ih⟩ at_nil), gv := at_nil, bt := (bt_cons (He.free_ok X G (c.d.fact 65 (f := .free "isinstance") rfl)) (bt_cons (He.free_ok X G (c.d.fact 69 (f := .free "list") rfl)) (bt_cons (He.free_ok X G (c.d.fact 68 (f := .free "tuple") rfl)) bt_nil))), fl := fl_nil, mt := at3_nil, mks := at3_nil, cs := isM, rz := at3_nil, gc := gc_nil, ex := ex_nil, fnE := at_nil, fnL := at_nil, nd := fun _ => dig_of c.dig, fnG := at_nil, lf := lf_nil }) fun ds G Q E h => ?_
      rcases ds with _ | ⟨_, _ | r⟩ <;> first | exact h | exact False.elim h
  have F_as_tuples_18 : FnAt P w K mg base (tabK K) (0 + 2 * 18 + 2) (He.ga K "as_tuples") (sp_as_tuples [He.ga K "Mark"] 18) := ok_as_tuples [He.ga K "Mark"] 18 D_as_tuples (k := 0 + 2 * 18) { fn := (at_cons ⟨_, (He.glo_ok X G (c.d.fact 6 (f := .glo "as_tuples") rfl)), D_as_tuples.kp, (S_as_tuples 18)⟩ at_nil), gv := at_nil, bt := (bt_cons (He.free_ok X G (c.d.fact 65 (f := .free "isinstance") rfl)) (bt_cons (He.free_ok X G (c.d.fact 69 (f := .free "list") rfl)) (bt_cons (He.free_ok X G (c.d.fact 68 (f := .free "tuple") rfl)) bt_nil))), fl := fl_nil, mt := at3_nil, mks := at3_nil, cs := isM, rz := at3_nil, gc := gc_nil, ex := ex_nil, fnE := at_nil, fnL := at_nil, nd := fun _ => dig_of c.dig, fnG := at_nil, lf := lf_nil }
  have F_as_tuples_20 : FnAt P w K mg base (tabK K) (0 + 2 * 20 + 2) (He.ga K "as_tuples") (sp_as_tuples [He.ga K "Mark"] 20) := ok_as_tuples [He.ga K "Mark"] 20 D_as_tuples (k := 0 + 2 * 20) { fn := (at_cons ⟨_, (He.glo_ok X G (c.d.fact 6 (f := .glo "as_tuples") rfl)), D_as_tuples.kp, (S_as_tuples 20)⟩ at_nil), gv := at_nil, bt := (bt_cons (He.free_ok X G (c.d.fact 65 (f := .free "isinstance") rfl)) (bt_cons (He.free_ok X G (c.d.fact 69 (f := .free "list") rfl)) (bt_cons (He.free_ok X G (c.d.fact 68 (f := .free "tuple") rfl)) bt_nil))), fl := fl_nil, mt := at3_nil, mks := at3_nil, cs := isM, rz := at3_nil, gc := gc_nil, ex := ex_nil, fnE := at_nil, fnL := at_nil, nd := fun _ => dig_of c.dig, fnG := at_nil, lf := lf_nil }
  obtain ⟨fd_need_string, D_need_string⟩ : ∃ fd, FunD K "need_string" "need_string" (defArgs (top 34)) (defBody (top 34)) (defScope (top 34)) [] [] (He.ga K "need_string") fd := c.d.def_ 24 (d := ⟨("need_string", none), "need_string", "need_string", defArgs (top 34), defBody (top 34), defScope (top 34), [], []⟩) rfl
  have F_need_string : FnAt P w K mg base (tabK K) 3 (He.ga K "need_string") (sp_need_string [He.ga K "Mark"] (clK K 6)) := ok_need_string (T := tabK K) [He.ga K "Mark"] (clK K 6) D_need_string (k := 1) { fn := at_nil, gv := at_nil, bt := (bt_cons (He.free_ok X G (c.d.fact 65 (f := .free "isinstance") rfl)) (bt_cons (He.free_ok X G (c.d.fact 72 (f := .free "str") rfl)) bt_nil)), fl := fl_nil, mt := at3_nil, mks := at3_nil, cs := isM, rz := (at3_cons (R_BadText _ (by omega)) at3_nil), gc := gc_nil, ex := ex_nil, fnE := at_nil, fnL := at_nil, nd := fun _ => dig_of c.dig, fnG := at_nil, lf := lf_nil }
  obtain ⟨fd_is_numeral, D_is_numeral⟩ : ∃ fd, FunD K "is_numeral" "is_numeral" (defArgs (top 35)) (defBody (top 35)) (defScope (top 35)) [] [] (He.ga K "is_numeral") fd := c.d.def_ 25 (d := ⟨("is_numeral", none), "is_numeral", "is_numeral", defArgs (top 35), defBody (top 35), defScope (top 35), [], []⟩) rfl
  have F_is_numeral : FnAt P w K mg base (tabK K) 2 (He.ga K "is_numeral") (sp_is_numeral ) := ok_is_numeral (T := tabK K)  D_is_numeral (k := 0) { fn := at_nil, gv := (at_cons (gv_str (He.str_ok X G (c.d.fact 77 (f := .str "FIGURES" (mkS FIGs)) rfl))) at_nil), bt := (bt_cons (He.free_ok X G (c.d.fact 64 (f := .free "len") rfl)) (bt_cons (He.free_ok X G (c.d.fact 74 (f := .free "all") rfl)) bt_nil)), fl := fl_nil, mt := at3_nil, mks := at3_nil, cs := is_nil, rz := at3_nil, gc := gc_nil, ex := ex_nil, fnE := at_nil, fnL := at_nil, nd := fun _ => dig_of c.dig, fnG := at_nil, lf := lf_nil }
  obtain ⟨fd_Reader___init__, D_Reader___init__⟩ : ∃ fd, FunD K "__init__" "Reader.__init__" (defArgs (inClass (top 36) 0)) (defBody (inClass (top 36) 0)) (defScope (inClass (top 36) 0)) [] [] (He.ma K (He.ga K "Reader") "__init__") fd := c.d.def_ 26 (d := ⟨("Reader", some "__init__"), "__init__", "Reader.__init__", defArgs (inClass (top 36) 0), defBody (inClass (top 36) 0), defScope (inClass (top 36) 0), [], []⟩) rfl
  have F_Reader___init__ : FnAt P w K mg base (tabK K) 2 (He.ma K (He.ga K "Reader") "__init__") (sp_Reader___init__ (He.ga K "Reader")) := ok_Reader___init__ (T := tabK K) (He.ga K "Reader") D_Reader___init__ (k := 0) { fn := at_nil, gv := at_nil, bt := bt_nil, fl := flR, mt := at3_nil, mks := at3_nil, cs := is_nil, rz := at3_nil, gc := gc_nil, ex := ex_nil, fnE := at_nil, fnL := at_nil, nd := fun _ => dig_of c.dig, fnG := at_nil, lf := lf_nil }
  obtain ⟨fd_Reader_wrong, D_Reader_wrong⟩ : ∃ fd, FunD K "wrong" "Reader.wrong" (defArgs (inClass (top 36) 1)) (defBody (inClass (top 36) 1)) (defScope (inClass (top 36) 1)) [] [] (He.ma K (He.ga K "Reader") "wrong") fd := c.d.def_ 27 (d := ⟨("Reader", some "wrong"), "wrong", "Reader.wrong", defArgs (inClass (top 36) 1), defBody (inClass (top 36) 1), defScope (inClass (top 36) 1), [], []⟩) rfl
  have F_Reader_wrong : FnAt P w K mg base (tabK K) 3 (He.ma K (He.ga K "Reader") "wrong") (sp_Reader_wrong (He.ga K "Reader") (clK K 6)) := ok_Reader_wrong (T := tabK K) (He.ga K "Reader") (clK K 6) D_Reader_wrong (k := 1) { fn := at_nil, gv := at_nil, bt := bt_nil, fl := flR, mt := at3_nil, mks := at3_nil, cs := is_nil, rz := (at3_cons (R_BadText _ (by omega)) at3_nil), gc := gc_nil, ex := ex_nil, fnE := at_nil, fnL := at_nil, nd := fun _ => dig_of c.dig, fnG := at_nil, lf := lf_nil }
  obtain ⟨fd_Reader_peek, D_Reader_peek⟩ : ∃ fd, FunD K "peek" "Reader.peek" (defArgs (inClass (top 36) 2)) (defBody (inClass (top 36) 2)) (defScope (inClass (top 36) 2)) [] [] (He.ma K (He.ga K "Reader") "peek") fd := c.d.def_ 28 (d := ⟨("Reader", some "peek"), "peek", "Reader.peek", defArgs (inClass (top 36) 2), defBody (inClass (top 36) 2), defScope (inClass (top 36) 2), [], []⟩) rfl
  have F_Reader_peek : FnAt P w K mg base (tabK K) 2 (He.ma K (He.ga K "Reader") "peek") (sp_Reader_peek (He.ga K "Reader")) := ok_Reader_peek (T := tabK K) (He.ga K "Reader") D_Reader_peek (k := 0) { fn := at_nil, gv := at_nil, bt := (bt_cons (He.free_ok X G (c.d.fact 64 (f := .free "len") rfl)) bt_nil), fl := flR, mt := at3_nil, mks := at3_nil, cs := is_nil, rz := at3_nil, gc := gc_nil, ex := ex_nil, fnE := at_nil, fnL := at_nil, nd := fun _ => dig_of c.dig, fnG := at_nil, lf := lf_nil }
  obtain ⟨fd_Reader_next_is, D_Reader_next_is⟩ : ∃ fd, FunD K "next_is" "Reader.next_is" (defArgs (inClass (top 36) 3)) (defBody (inClass (top 36) 3)) (defScope (inClass (top 36) 3)) [] [] (He.ma K (He.ga K "Reader") "next_is") fd := c.d.def_ 29 (d := ⟨("Reader", some "next_is"), "next_is", "Reader.next_is", defArgs (inClass (top 36) 3), defBody (inClass (top 36) 3), defScope (inClass (top 36) 3), [], []⟩) rfl
  have F_Reader_next_is : FnAt P w K mg base (tabK K) 2 (He.ma K (He.ga K "Reader") "next_is") (sp_Reader_next_is (He.ga K "Reader")) := ok_Reader_next_is (T := tabK K) (He.ga K "Reader") D_Reader_next_is (k := 0) { fn := at_nil, gv := at_nil, bt := (bt_cons (He.free_ok X G (c.d.fact 64 (f := .free "len") rfl)) bt_nil), fl := flR, mt := at3_nil, mks := at3_nil, cs := is_nil, rz := at3_nil, gc := gc_nil, ex := ex_nil, fnE := at_nil, fnL := at_nil, nd := fun _ => dig_of c.dig, fnG := at_nil, lf := lf_nil }
  obtain ⟨fd_Reader_need, D_Reader_need⟩ : ∃ fd, FunD K "need" "Reader.need" (defArgs (inClass (top 36) 4)) (defBody (inClass (top 36) 4)) (defScope (inClass (top 36) 4)) [] [] (He.ma K (He.ga K "Reader") "need") fd := c.d.def_ 30 (d := ⟨("Reader", some "need"), "need", "Reader.need", defArgs (inClass (top 36) 4), defBody (inClass (top 36) 4), defScope (inClass (top 36) 4), [], []⟩) rfl
  have F_Reader_need : FnAt P w K mg base (tabK K) 5 (He.ma K (He.ga K "Reader") "need") (sp_Reader_need (He.ga K "Reader") (clK K 6)) := ok_Reader_need (T := tabK K) (He.ga K "Reader") (clK K 6) D_Reader_need (k := 3) { fn := at_nil, gv := at_nil, bt := bt_nil, fl := flR, mt := (at3_cons ⟨_, He.cls_ok (c.d.fact 81 (f := .cls "Reader") rfl), He.meth_ok (c.d.fact 89 (f := .meth "Reader" "next_is") rfl), F_Reader_next_is.mono (by omega)⟩ (at3_cons ⟨_, He.cls_ok (c.d.fact 81 (f := .cls "Reader") rfl), He.meth_ok (c.d.fact 87 (f := .meth "Reader" "wrong") rfl), F_Reader_wrong.mono (by omega)⟩ at3_nil)), mks := at3_nil, cs := is_nil, rz := at3_nil, gc := gc_nil, ex := ex_nil, fnE := at_nil, fnL := at_nil, nd := fun _ => dig_of c.dig, fnG := at_nil, lf := lf_nil }
  obtain ⟨fd_Reader_end, D_Reader_end⟩ : ∃ fd, FunD K "end" "Reader.end" (defArgs (inClass (top 36) 7)) (defBody (inClass (top 36) 7)) (defScope (inClass (top 36) 7)) [] [] (He.ma K (He.ga K "Reader") "end") fd := c.d.def_ 33 (d := ⟨("Reader", some "end"), "end", "Reader.end", defArgs (inClass (top 36) 7), defBody (inClass (top 36) 7), defScope (inClass (top 36) 7), [], []⟩) rfl
  have F_Reader_end : FnAt P w K mg base (tabK K) 5 (He.ma K (He.ga K "Reader") "end") (sp_Reader_end (He.ga K "Reader") (clK K 6)) := ok_Reader_end (T := tabK K) (He.ga K "Reader") (clK K 6) D_Reader_end (k := 3) { fn := at_nil, gv := at_nil, bt := (bt_cons (He.free_ok X G (c.d.fact 64 (f := .free "len") rfl)) bt_nil), fl := flR, mt := (at3_cons ⟨_, He.cls_ok (c.d.fact 81 (f := .cls "Reader") rfl), He.meth_ok (c.d.fact 87 (f := .meth "Reader" "wrong") rfl), F_Reader_wrong.mono (by omega)⟩ at3_nil), mks := at3_nil, cs := is_nil, rz := at3_nil, gc := gc_nil, ex := ex_nil, fnE := at_nil, fnL := at_nil, nd := fun _ => dig_of c.dig, fnG := at_nil, lf := lf_nil }
  obtain ⟨fd_Reader_numeral, D_Reader_numeral⟩ : ∃ fd, FunD K "numeral" "Reader.numeral" (defArgs (inClass (top 36) 5)) (defBody (inClass (top 36) 5)) (defScope (inClass (top 36) 5)) [] [] (He.ma K (He.ga K "Reader") "numeral") fd := c.d.def_ 31 (d := ⟨("Reader", some "numeral"), "numeral", "Reader.numeral", defArgs (inClass (top 36) 5), defBody (inClass (top 36) 5), defScope (inClass (top 36) 5), [], []⟩) rfl
  have F_Reader_numeral : FnAt P w K mg base (tabK K) 5 (He.ma K (He.ga K "Reader") "numeral") (sp_Reader_numeral (He.ga K "Reader") (clK K 6)) := ok_Reader_numeral (T := tabK K) (He.ga K "Reader") (clK K 6) D_Reader_numeral (k := 3) { fn := (at_cons ⟨_, (He.glo_ok X G (c.d.fact 11 (f := .glo "is_numeral") rfl)), D_is_numeral.kp, F_is_numeral.mono (by omega)⟩ at_nil), gv := at_nil, bt := (bt_cons (He.free_ok X G (c.d.fact 66 (f := .free "int") rfl)) bt_nil), fl := flR, mt := (at3_cons ⟨_, He.cls_ok (c.d.fact 81 (f := .cls "Reader") rfl), He.meth_ok (c.d.fact 88 (f := .meth "Reader" "peek") rfl), F_Reader_peek.mono (by omega)⟩ (at3_cons ⟨_, He.cls_ok (c.d.fact 81 (f := .cls "Reader") rfl), He.meth_ok (c.d.fact 87 (f := .meth "Reader" "wrong") rfl), F_Reader_wrong.mono (by omega)⟩ at3_nil)), mks := at3_nil, cs := is_nil, rz := at3_nil, gc := gc_nil, ex := ex_nil, fnE := at_nil, fnL := at_nil, nd := fun _ => dig_of c.dig, fnG := at_nil, lf := lf_nil }
  obtain ⟨fd_Reader_ratio, D_Reader_ratio⟩ : ∃ fd, FunD K "ratio" "Reader.ratio" (defArgs (inClass (top 36) 6)) (defBody (inClass (top 36) 6)) (defScope (inClass (top 36) 6)) [] [] (He.ma K (He.ga K "Reader") "ratio") fd := c.d.def_ 32 (d := ⟨("Reader", some "ratio"), "ratio", "Reader.ratio", defArgs (inClass (top 36) 6), defBody (inClass (top 36) 6), defScope (inClass (top 36) 6), [], []⟩) rfl
  have F_Reader_ratio : FnAt P w K mg base (tabK K) 7 (He.ma K (He.ga K "Reader") "ratio") (sp_Reader_ratio [He.ga K "Mark"] (He.ga K "Reader") (clK K 6)) := ok_Reader_ratio (T := tabK K) [He.ga K "Mark"] (He.ga K "Reader") (clK K 6) D_Reader_ratio (k := 5) { fn := (at_cons ⟨_, (He.glo_ok X G (c.d.fact 2 (f := .glo "is_ratio") rfl)), D_is_ratio.kp, F_is_ratio.mono (by omega)⟩ (at_cons ⟨_, (He.glo_ok X G (c.d.fact 4 (f := .glo "opposite") rfl)), D_opposite.kp, F_opposite.mono (by omega)⟩ at_nil)), gv := at_nil, bt := bt_nil, fl := flR, mt := (at3_cons ⟨_, He.cls_ok (c.d.fact 81 (f := .cls "Reader") rfl), He.meth_ok (c.d.fact 89 (f := .meth "Reader" "next_is") rfl), F_Reader_next_is.mono (by omega)⟩ (at3_cons ⟨_, He.cls_ok (c.d.fact 81 (f := .cls "Reader") rfl), He.meth_ok (c.d.fact 91 (f := .meth "Reader" "numeral") rfl), F_Reader_numeral.mono (by omega)⟩ (at3_cons ⟨_, He.cls_ok (c.d.fact 81 (f := .cls "Reader") rfl), He.meth_ok (c.d.fact 87 (f := .meth "Reader" "wrong") rfl), F_Reader_wrong.mono (by omega)⟩ at3_nil))), mks := at3_nil, cs := is_nil, rz := at3_nil, gc := gc_nil, ex := ex_nil, fnE := at_nil, fnL := at_nil, nd := fun _ => dig_of c.dig, fnG := at_nil, lf := lf_nil }
  obtain ⟨fd_value_in, D_value_in⟩ : ∃ fd, FunD K "value_in" "value_in" (defArgs (top 46)) (defBody (top 46)) (defScope (top 46)) [] [] (He.ga K "value_in") fd := c.d.def_ 44 (d := ⟨("value_in", none), "value_in", "value_in", defArgs (top 46), defBody (top 46), defScope (top 46), [], []⟩) rfl
  have F_value_in : FnAt P w K mg base (tabK K) 40 (He.ga K "value_in") (sp_value_in [He.ga K "Mark"] (He.ga K "Reader") (clK K 6)) := ok_value_in (T := tabK K) [He.ga K "Mark"] (He.ga K "Reader") (clK K 6) D_value_in (k := 38) { fn := (at_cons ⟨_, (He.glo_ok X G (c.d.fact 6 (f := .glo "as_tuples") rfl)), D_as_tuples.kp, F_as_tuples_18.mono (by omega)⟩ at_nil), gv := (at_cons (gv_int (He.int_ok X G (c.d.fact 79 (f := .int "MOST_PLAIN" 4000) rfl))) (at_cons (gv_int (He.int_ok X G (c.d.fact 80 (f := .int "MOST_NESTED" 16) rfl))) at_nil)), bt := (bt_cons (He.free_ok X G (c.d.fact 64 (f := .free "len") rfl)) (bt_cons (He.free_ok X G (c.d.fact 68 (f := .free "tuple") rfl)) bt_nil)), fl := flR, mt := (at3_cons ⟨_, He.cls_ok (c.d.fact 81 (f := .cls "Reader") rfl), He.meth_ok (c.d.fact 88 (f := .meth "Reader" "peek") rfl), F_Reader_peek.mono (by omega)⟩ (at3_cons ⟨_, He.cls_ok (c.d.fact 81 (f := .cls "Reader") rfl), He.meth_ok (c.d.fact 89 (f := .meth "Reader" "next_is") rfl), F_Reader_next_is.mono (by omega)⟩ (at3_cons ⟨_, He.cls_ok (c.d.fact 81 (f := .cls "Reader") rfl), He.meth_ok (c.d.fact 92 (f := .meth "Reader" "ratio") rfl), F_Reader_ratio.mono (by omega)⟩ (at3_cons ⟨_, He.cls_ok (c.d.fact 81 (f := .cls "Reader") rfl), He.meth_ok (c.d.fact 90 (f := .meth "Reader" "need") rfl), F_Reader_need.mono (by omega)⟩ (at3_cons ⟨_, He.cls_ok (c.d.fact 81 (f := .cls "Reader") rfl), He.meth_ok (c.d.fact 93 (f := .meth "Reader" "end") rfl), F_Reader_end.mono (by omega)⟩ at3_nil))))), mks := (at3_cons ⟨_, (He.glo_ok X G (c.d.fact 62 (f := .glo "Reader") rfl)), He.mkr_ok (c.d.fact 86 (f := .mkr "Reader") rfl), F_Reader___init__.mono (by omega)⟩ at3_nil), cs := is_nil, rz := at3_nil, gc := gc_nil, ex := ex_nil, fnE := at_nil, fnL := at_nil, nd := fun _ => dig_of c.dig, fnG := at_nil, lf := lf_nil }
  obtain ⟨fd_value_of_text, D_value_of_text⟩ : ∃ fd, FunD K "value_of_text" "value_of_text" (defArgs (top 47)) (defBody (top 47)) (defScope (top 47)) [] [] (He.ga K "value_of_text") fd := c.d.def_ 45 (d := ⟨("value_of_text", none), "value_of_text", "value_of_text", defArgs (top 47), defBody (top 47), defScope (top 47), [], []⟩) rfl
  have F_value_of_text : FnAt P w K mg base (tabK K) 42 (He.ga K "value_of_text") (sp_value_of_text [He.ga K "Mark"] (He.ga K "Reader") (clK K 6)) := ok_value_of_text (T := tabK K) [He.ga K "Mark"] (He.ga K "Reader") (clK K 6) D_value_of_text (k := 40) { fn := (at_cons ⟨_, (He.glo_ok X G (c.d.fact 10 (f := .glo "need_string") rfl)), D_need_string.kp, F_need_string.mono (by omega)⟩ (at_cons ⟨_, (He.glo_ok X G (c.d.fact 17 (f := .glo "value_in") rfl)), D_value_in.kp, F_value_in.mono (by omega)⟩ (at_cons ⟨_, (He.glo_ok X G (c.d.fact 9 (f := .glo "tokens_of") rfl)), D_tokens_of.kp, F_tokens_of.mono (by omega)⟩ at_nil))), gv := at_nil, bt := bt_nil, fl := fl_nil, mt := at3_nil, mks := at3_nil, cs := is_nil, rz := at3_nil, gc := gc_nil, ex := ex_nil, fnE := at_nil, fnL := at_nil, nd := fun _ => dig_of c.dig, fnG := at_nil, lf := lf_nil }
  obtain ⟨fd_ratio_text, D_ratio_text⟩ : ∃ fd, FunD K "ratio_text" "ratio_text" (defArgs (top 37)) (defBody (top 37)) (defScope (top 37)) [] [] (He.ga K "ratio_text") fd := c.d.def_ 38 (d := ⟨("ratio_text", none), "ratio_text", "ratio_text", defArgs (top 37), defBody (top 37), defScope (top 37), [], []⟩) rfl
  have F_ratio_text : FnAt P w K mg base (tabK K) 4 (He.ga K "ratio_text") (sp_ratio_text [He.ga K "Mark"]) := ok_ratio_text (T := tabK K) [He.ga K "Mark"] D_ratio_text (k := 2) { fn := (at_cons ⟨_, (He.glo_ok X G (c.d.fact 3 (f := .glo "pair") rfl)), D_pair.kp, F_pair.mono (by omega)⟩ (at_cons ⟨_, (He.glo_ok X G (c.d.fact 5 (f := .glo "sign_of") rfl)), D_sign_of.kp, F_sign_of.mono (by omega)⟩ at_nil)), gv := at_nil, bt := (bt_cons (He.free_ok X G (c.d.fact 72 (f := .free "str") rfl)) (bt_cons (He.free_ok X G (c.d.fact 67 (f := .free "abs") rfl)) bt_nil)), fl := fl_nil, mt := at3_nil, mks := at3_nil, cs := is_nil, rz := at3_nil, gc := gc_nil, ex := ex_nil, fnE := at_nil, fnL := at_nil, nd := fun _ => dig_of c.dig, fnG := at_nil, lf := lf_nil }
  obtain ⟨fd_is_small, D_is_small⟩ : ∃ fd, FunD K "is_small" "is_small" (defArgs (top 42)) (defBody (top 42)) (defScope (top 42)) [] [] (He.ga K "is_small") fd := c.d.def_ 40 (d := ⟨("is_small", none), "is_small", "is_small", defArgs (top 42), defBody (top 42), defScope (top 42), [], []⟩) rfl
  have F_is_small : FnAt P w K mg base (tabK K) 4 (He.ga K "is_small") (sp_is_small [He.ga K "Mark"]) := ok_is_small (T := tabK K) [He.ga K "Mark"] D_is_small (k := 2) { fn := (at_cons ⟨_, (He.glo_ok X G (c.d.fact 3 (f := .glo "pair") rfl)), D_pair.kp, F_pair.mono (by omega)⟩ at_nil), gv := at_nil, bt := (bt_cons (He.free_ok X G (c.d.fact 67 (f := .free "abs") rfl)) bt_nil), fl := fl_nil, mt := at3_nil, mks := at3_nil, cs := is_nil, rz := at3_nil, gc := gc_nil, ex := ex_nil, fnE := at_nil, fnL := at_nil, nd := fun _ => dig_of c.dig, fnG := at_nil, lf := lf_nil }
  obtain ⟨fd_is_plain, D_is_plain⟩ : ∃ fd, FunD K "is_plain" "is_plain" (defArgs (top 43)) (defBody (top 43)) (defScope (top 43)) [] [] (He.ga K "is_plain") fd := c.d.def_ 41 (d := ⟨("is_plain", none), "is_plain", "is_plain", defArgs (top 43), defBody (top 43), defScope (top 43), [], []⟩) rfl
  have F_is_plain : FnAt P w K mg base (tabK K) 6 (He.ga K "is_plain") (sp_is_plain [He.ga K "Mark"]) := ok_is_plain (T := tabK K) [He.ga K "Mark"] D_is_plain (k := 4) { fn := (at_cons ⟨_, (He.glo_ok X G (c.d.fact 2 (f := .glo "is_ratio") rfl)), D_is_ratio.kp, F_is_ratio.mono (by omega)⟩ (at_cons ⟨_, (He.glo_ok X G (c.d.fact 13 (f := .glo "is_small") rfl)), D_is_small.kp, F_is_small.mono (by omega)⟩ at_nil)), gv := (at_cons (gv_int (He.int_ok X G (c.d.fact 80 (f := .int "MOST_NESTED" 16) rfl))) at_nil), bt := (bt_cons (He.free_ok X G (c.d.fact 65 (f := .free "isinstance") rfl)) (bt_cons (He.free_ok X G (c.d.fact 69 (f := .free "list") rfl)) (bt_cons (He.free_ok X G (c.d.fact 68 (f := .free "tuple") rfl)) bt_nil))), fl := fl_nil, mt := at3_nil, mks := at3_nil, cs := isM, rz := at3_nil, gc := gc_nil, ex := ex_nil, fnE := at_nil, fnL := at_nil, nd := fun _ => dig_of c.dig, fnG := at_nil, lf := lf_nil }
  obtain ⟨fd_Mark___init__, D_Mark___init__⟩ : ∃ fd, FunD K "__init__" "Mark.__init__" (defArgs (inClass (top 41) 0)) (defBody (inClass (top 41) 0)) (defScope (inClass (top 41) 0)) [] [] (He.ma K (He.ga K "Mark") "__init__") fd := c.d.def_ 39 (d := ⟨("Mark", some "__init__"), "__init__", "Mark.__init__", defArgs (inClass (top 41) 0), defBody (inClass (top 41) 0), defScope (inClass (top 41) 0), [], []⟩) rfl
  have F_Mark___init__ : FnAt P w K mg base (tabK K) 2 (He.ma K (He.ga K "Mark") "__init__") (sp_Mark___init__ (He.ga K "Mark")) := ok_Mark___init__ (T := tabK K) (He.ga K "Mark") D_Mark___init__ (k := 0) { fn := at_nil, gv := at_nil, bt := bt_nil, fl := flM, mt := at3_nil, mks := at3_nil, cs := is_nil, rz := at3_nil, gc := gc_nil, ex := ex_nil, fnE := at_nil, fnL := at_nil, nd := fun _ => dig_of c.dig, fnG := at_nil, lf := lf_nil }
  obtain ⟨fd_text_of_value, D_text_of_value⟩ : ∃ fd, FunD K "text_of_value" "text_of_value" (defArgs (top 44)) (defBody (top 44)) (defScope (top 44)) [] [] (He.ga K "text_of_value") fd := c.d.def_ 42 (d := ⟨("text_of_value", none), "text_of_value", "text_of_value", defArgs (top 44), defBody (top 44), defScope (top 44), [], []⟩) rfl
  have F_text_of_value : FnAt P w K mg base (tabK K) 6 (He.ga K "text_of_value") (sp_text_of_value [He.ga K "Mark"] (He.ga K "Mark")) := ok_text_of_value (T := tabK K) [He.ga K "Mark"] (He.ga K "Mark") D_text_of_value (k := 4) { fn := (at_cons ⟨_, (He.glo_ok X G (c.d.fact 2 (f := .glo "is_ratio") rfl)), D_is_ratio.kp, F_is_ratio.mono (by omega)⟩ (at_cons ⟨_, (He.glo_ok X G (c.d.fact 12 (f := .glo "ratio_text") rfl)), D_ratio_text.kp, F_ratio_text.mono (by omega)⟩ at_nil)), gv := (at_cons (gv_obj (He.glo_ok X G (c.d.fact 63 (f := .glo "Mark") rfl))) at_nil), bt := (bt_cons (He.free_ok X G (c.d.fact 65 (f := .free "isinstance") rfl)) (bt_cons (He.free_ok X G (c.d.fact 64 (f := .free "len") rfl)) (bt_cons (He.free_ok X G (c.d.fact 70 (f := .free "range") rfl)) bt_nil))), fl := flM, mt := at3_nil, mks := (at3_cons ⟨_, (He.glo_ok X G (c.d.fact 63 (f := .glo "Mark") rfl)), He.mkr_ok (c.d.fact 96 (f := .mkr "Mark") rfl), F_Mark___init__.mono (by omega)⟩ at3_nil), cs := isM, rz := at3_nil, gc := gc_nil, ex := ex_nil, fnE := at_nil, fnL := at_nil, nd := fun _ => dig_of c.dig, fnG := at_nil, lf := lf_nil }
  obtain ⟨fd_value_text, D_value_text⟩ : ∃ fd, FunD K "value_text" "value_text" (defArgs (top 45)) (defBody (top 45)) (defScope (top 45)) [] [] (He.ga K "value_text") fd := c.d.def_ 43 (d := ⟨("value_text", none), "value_text", "value_text", defArgs (top 45), defBody (top 45), defScope (top 45), [], []⟩) rfl
  have F_value_text : FnAt P w K mg base (tabK K) 44 (He.ga K "value_text") (sp_value_text [He.ga K "Mark"] (He.ga K "Mark") (clK K 1)) := ok_value_text (T := tabK K) [He.ga K "Mark"] (He.ga K "Mark") (clK K 1) D_value_text (k := 42) { fn := (at_cons ⟨_, (He.glo_ok X G (c.d.fact 14 (f := .glo "is_plain") rfl)), D_is_plain.kp, F_is_plain.mono (by omega)⟩ (at_cons ⟨_, (He.glo_ok X G (c.d.fact 15 (f := .glo "text_of_value") rfl)), D_text_of_value.kp, F_text_of_value.mono (by omega)⟩ (at_cons ⟨_, (He.glo_ok X G (c.d.fact 6 (f := .glo "as_tuples") rfl)), D_as_tuples.kp, F_as_tuples_20.mono (by omega)⟩ at_nil))), gv := at_nil, bt := bt_nil, fl := fl_nil, mt := at3_nil, mks := at3_nil, cs := is_nil, rz := (at3_cons (R_BadRow _ (by omega)) at3_nil), gc := gc_nil, ex := ex_nil, fnE := at_nil, fnL := at_nil, nd := fun _ => dig_of c.dig, fnG := at_nil, lf := lf_nil }
  obtain ⟨fd__law_draw, D__law_draw⟩ : ∃ fd, FunD K "_law_draw" "_law_draw" (defArgs (top 50)) (defBody (top 50)) (defScope (top 50)) [] [] (He.ga K "_law_draw") fd := c.d.def_ 47 (d := ⟨("_law_draw", none), "_law_draw", "_law_draw", defArgs (top 50), defBody (top 50), defScope (top 50), [], []⟩) rfl
  have F__law_draw : FnAt P w K mg base (tabK K) 2 (He.ga K "_law_draw") (sp__law_draw ) := ok__law_draw (T := tabK K)  D__law_draw (k := 0) { fn := at_nil, gv := at_nil, bt := (bt_cons (He.free_ok X G (c.d.fact 64 (f := .free "len") rfl)) (bt_cons (He.free_ok X G (c.d.fact 66 (f := .free "int") rfl)) bt_nil)), fl := fl_nil, mt := at3_nil, mks := at3_nil, cs := is_nil, rz := at3_nil, gc := gc_nil, ex := ex_nil, fnE := at_nil, fnL := at_nil, nd := fun _ => dig_of c.dig, fnG := at_nil, lf := lf_nil }
  obtain ⟨fd__law_pen, D__law_pen⟩ : ∃ fd, FunD K "_law_pen" "_law_pen" (defArgs (top 49)) (defBody (top 49)) (defScope (top 49)) [] [] (He.ga K "_law_pen") fd := c.d.def_ 46 (d := ⟨("_law_pen", none), "_law_pen", "_law_pen", defArgs (top 49), defBody (top 49), defScope (top 49), [], []⟩) rfl
  have F__law_pen : FnAt P w K mg base (tabK K) 2 (He.ga K "_law_pen") (sp__law_pen ) := ok__law_pen (T := tabK K)  D__law_pen (k := 0) { fn := at_nil, gv := at_nil, bt := (bt_cons (He.free_ok X G (c.d.fact 66 (f := .free "int") rfl)) (bt_cons (He.free_ok X G (c.d.fact 69 (f := .free "list") rfl)) bt_nil)), fl := fl_nil, mt := at3_nil, mks := at3_nil, cs := is_nil, rz := at3_nil, gc := gc_nil, ex := ex_nil, fnE := at_nil, fnL := at_nil, nd := fun _ => dig_of c.dig, fnG := at_nil, lf := lf_nil }
  obtain ⟨fd__law_pick, D__law_pick⟩ : ∃ fd, FunD K "_law_pick" "_law_pick" (defArgs (top 51)) (defBody (top 51)) (defScope (top 51)) [] [] (He.ga K "_law_pick") fd := c.d.def_ 48 (d := ⟨("_law_pick", none), "_law_pick", "_law_pick", defArgs (top 51), defBody (top 51), defScope (top 51), [], []⟩) rfl
  have F__law_pick : FnAt P w K mg base (tabK K) 4 (He.ga K "_law_pick") (sp__law_pick ) := ok__law_pick (T := tabK K)  D__law_pick (k := 2) { fn := (at_cons ⟨_, (He.glo_ok X G (c.d.fact 20 (f := .glo "_law_draw") rfl)), D__law_draw.kp, F__law_draw.mono (by omega)⟩ at_nil), gv := at_nil, bt := (bt_cons (He.free_ok X G (c.d.fact 64 (f := .free "len") rfl)) bt_nil), fl := fl_nil, mt := at3_nil, mks := at3_nil, cs := is_nil, rz := at3_nil, gc := gc_nil, ex := ex_nil, fnE := at_nil, fnL := at_nil, nd := fun _ => dig_of c.dig, fnG := at_nil, lf := lf_nil }
  obtain ⟨fd__law_divisor, D__law_divisor⟩ : ∃ fd, FunD K "_law_divisor" "_law_divisor" (defArgs (top 53)) (defBody (top 53)) (defScope (top 53)) [] [] (He.ga K "_law_divisor") fd := c.d.def_ 50 (d := ⟨("_law_divisor", none), "_law_divisor", "_law_divisor", defArgs (top 53), defBody (top 53), defScope (top 53), [], []⟩) rfl
  have F__law_divisor : FnAt P w K mg base (tabK K) 2 (He.ga K "_law_divisor") (sp__law_divisor ) := ok__law_divisor (T := tabK K)  D__law_divisor (k := 0) { fn := at_nil, gv := at_nil, bt := (bt_cons (He.free_ok X G (c.d.fact 67 (f := .free "abs") rfl)) (bt_cons (He.free_ok X G (c.d.fact 66 (f := .free "int") rfl)) bt_nil)), fl := fl_nil, mt := at3_nil, mks := at3_nil, cs := is_nil, rz := at3_nil, gc := gc_nil, ex := ex_nil, fnE := at_nil, fnL := at_nil, nd := fun _ => dig_of c.dig, fnG := at_nil, lf := lf_nil }
  obtain ⟨fd__law_pair, D__law_pair⟩ : ∃ fd, FunD K "_law_pair" "_law_pair" (defArgs (top 55)) (defBody (top 55)) (defScope (top 55)) [] [] (He.ga K "_law_pair") fd := c.d.def_ 52 (d := ⟨("_law_pair", none), "_law_pair", "_law_pair", defArgs (top 55), defBody (top 55), defScope (top 55), [], []⟩) rfl
  have F__law_pair : FnAt P w K mg base (tabK K) 2 (He.ga K "_law_pair") (sp__law_pair [He.ga K "Mark"]) := ok__law_pair (T := tabK K) [He.ga K "Mark"] D__law_pair (k := 0) { fn := at_nil, gv := at_nil, bt := (bt_cons (He.free_ok X G (c.d.fact 65 (f := .free "isinstance") rfl)) (bt_cons (He.free_ok X G (c.d.fact 66 (f := .free "int") rfl)) bt_nil)), fl := fl_nil, mt := at3_nil, mks := at3_nil, cs := isM, rz := at3_nil, gc := gc_nil, ex := ex_nil, fnE := at_nil, fnL := at_nil, nd := fun _ => dig_of c.dig, fnG := at_nil, lf := lf_nil }
  obtain ⟨fd__law_low, D__law_low⟩ : ∃ fd, FunD K "_law_low" "_law_low" (defArgs (top 54)) (defBody (top 54)) (defScope (top 54)) [] [] (He.ga K "_law_low") fd := c.d.def_ 51 (d := ⟨("_law_low", none), "_law_low", "_law_low", defArgs (top 54), defBody (top 54), defScope (top 54), [], []⟩) rfl
  have F__law_low : FnAt P w K mg base (tabK K) 4 (He.ga K "_law_low") (sp__law_low ) := ok__law_low (T := tabK K)  D__law_low (k := 2) { fn := (at_cons ⟨_, (He.glo_ok X G (c.d.fact 23 (f := .glo "_law_divisor") rfl)), D__law_divisor.kp, F__law_divisor.mono (by omega)⟩ at_nil), gv := at_nil, bt := bt_nil, fl := fl_nil, mt := at3_nil, mks := at3_nil, cs := is_nil, rz := at3_nil, gc := gc_nil, ex := ex_nil, fnE := at_nil, fnL := at_nil, nd := fun _ => dig_of c.dig, fnG := at_nil, lf := lf_nil }
  obtain ⟨fd__law_times, D__law_times⟩ : ∃ fd, FunD K "_law_times" "_law_times" (defArgs (top 56)) (defBody (top 56)) (defScope (top 56)) [] [] (He.ga K "_law_times") fd := c.d.def_ 53 (d := ⟨("_law_times", none), "_law_times", "_law_times", defArgs (top 56), defBody (top 56), defScope (top 56), [], []⟩) rfl
  have F__law_times : FnAt P w K mg base (tabK K) 6 (He.ga K "_law_times") (sp__law_times [He.ga K "Mark"]) := ok__law_times (T := tabK K) [He.ga K "Mark"] D__law_times (k := 4) { fn := (at_cons ⟨_, (He.glo_ok X G (c.d.fact 25 (f := .glo "_law_pair") rfl)), D__law_pair.kp, F__law_pair.mono (by omega)⟩ (at_cons ⟨_, (He.glo_ok X G (c.d.fact 24 (f := .glo "_law_low") rfl)), D__law_low.kp, F__law_low.mono (by omega)⟩ at_nil)), gv := at_nil, bt := bt_nil, fl := fl_nil, mt := at3_nil, mks := at3_nil, cs := is_nil, rz := at3_nil, gc := gc_nil, ex := ex_nil, fnE := at_nil, fnL := at_nil, nd := fun _ => dig_of c.dig, fnG := at_nil, lf := lf_nil }
  obtain ⟨fd__law_sign, D__law_sign⟩ : ∃ fd, FunD K "_law_sign" "_law_sign" (defArgs (top 57)) (defBody (top 57)) (defScope (top 57)) [] [] (He.ga K "_law_sign") fd := c.d.def_ 54 (d := ⟨("_law_sign", none), "_law_sign", "_law_sign", defArgs (top 57), defBody (top 57), defScope (top 57), [], []⟩) rfl
  have F__law_sign : FnAt P w K mg base (tabK K) 4 (He.ga K "_law_sign") (sp__law_sign [He.ga K "Mark"]) := ok__law_sign (T := tabK K) [He.ga K "Mark"] D__law_sign (k := 2) { fn := (at_cons ⟨_, (He.glo_ok X G (c.d.fact 25 (f := .glo "_law_pair") rfl)), D__law_pair.kp, F__law_pair.mono (by omega)⟩ at_nil), gv := at_nil, bt := (bt_cons (He.free_ok X G (c.d.fact 66 (f := .free "int") rfl)) bt_nil), fl := fl_nil, mt := at3_nil, mks := at3_nil, cs := is_nil, rz := at3_nil, gc := gc_nil, ex := ex_nil, fnE := at_nil, fnL := at_nil, nd := fun _ => dig_of c.dig, fnG := at_nil, lf := lf_nil }
  obtain ⟨fd__law_is_whole, D__law_is_whole⟩ : ∃ fd, FunD K "_law_is_whole" "_law_is_whole" (defArgs (top 59)) (defBody (top 59)) (defScope (top 59)) [] [] (He.ga K "_law_is_whole") fd := c.d.def_ 56 (d := ⟨("_law_is_whole", none), "_law_is_whole", "_law_is_whole", defArgs (top 59), defBody (top 59), defScope (top 59), [], []⟩) rfl
  have F__law_is_whole : FnAt P w K mg base (tabK K) 2 (He.ga K "_law_is_whole") (sp__law_is_whole [He.ga K "Mark"]) := ok__law_is_whole (T := tabK K) [He.ga K "Mark"] D__law_is_whole (k := 0) { fn := at_nil, gv := at_nil, bt := (bt_cons (He.free_ok X G (c.d.fact 65 (f := .free "isinstance") rfl)) (bt_cons (He.free_ok X G (c.d.fact 66 (f := .free "int") rfl)) (bt_cons (He.free_ok X G (c.d.fact 76 (f := .free "bool") rfl)) bt_nil))), fl := fl_nil, mt := at3_nil, mks := at3_nil, cs := isM, rz := at3_nil, gc := gc_nil, ex := ex_nil, fnE := at_nil, fnL := at_nil, nd := fun _ => dig_of c.dig, fnG := at_nil, lf := lf_nil }
  obtain ⟨fd__law_is_ratio, D__law_is_ratio⟩ : ∃ fd, FunD K "_law_is_ratio" "_law_is_ratio" (defArgs (top 58)) (defBody (top 58)) (defScope (top 58)) [] [] (He.ga K "_law_is_ratio") fd := c.d.def_ 55 (d := ⟨("_law_is_ratio", none), "_law_is_ratio", "_law_is_ratio", defArgs (top 58), defBody (top 58), defScope (top 58), [], []⟩) rfl
  have F__law_is_ratio : FnAt P w K mg base (tabK K) 4 (He.ga K "_law_is_ratio") (sp__law_is_ratio [He.ga K "Mark"]) := ok__law_is_ratio (T := tabK K) [He.ga K "Mark"] D__law_is_ratio (k := 2) { fn := (at_cons ⟨_, (He.glo_ok X G (c.d.fact 29 (f := .glo "_law_is_whole") rfl)), D__law_is_whole.kp, F__law_is_whole.mono (by omega)⟩ (at_cons ⟨_, (He.glo_ok X G (c.d.fact 23 (f := .glo "_law_divisor") rfl)), D__law_divisor.kp, F__law_divisor.mono (by omega)⟩ at_nil)), gv := at_nil, bt := (bt_cons (He.free_ok X G (c.d.fact 65 (f := .free "isinstance") rfl)) (bt_cons (He.free_ok X G (c.d.fact 68 (f := .free "tuple") rfl)) (bt_cons (He.free_ok X G (c.d.fact 64 (f := .free "len") rfl)) bt_nil))), fl := fl_nil, mt := at3_nil, mks := at3_nil, cs := isM, rz := at3_nil, gc := gc_nil, ex := ex_nil, fnE := at_nil, fnL := at_nil, nd := fun _ => dig_of c.dig, fnG := at_nil, lf := lf_nil }
  obtain ⟨fd__law_wide, D__law_wide⟩ : ∃ fd, FunD K "_law_wide" "_law_wide" (defArgs (top 61)) (defBody (top 61)) (defScope (top 61)) [] [] (He.ga K "_law_wide") fd := c.d.def_ 58 (d := ⟨("_law_wide", none), "_law_wide", "_law_wide", defArgs (top 61), defBody (top 61), defScope (top 61), [], []⟩) rfl
  have F__law_wide : FnAt P w K mg base (tabK K) 4 (He.ga K "_law_wide") (sp__law_wide ) := ok__law_wide (T := tabK K)  D__law_wide (k := 2) { fn := (at_cons ⟨_, (He.glo_ok X G (c.d.fact 20 (f := .glo "_law_draw") rfl)), D__law_draw.kp, F__law_draw.mono (by omega)⟩ at_nil), gv := at_nil, bt := (bt_cons (He.free_ok X G (c.d.fact 70 (f := .free "range") rfl)) (bt_cons (He.free_ok X G (c.d.fact 66 (f := .free "int") rfl)) bt_nil)), fl := fl_nil, mt := at3_nil, mks := at3_nil, cs := is_nil, rz := at3_nil, gc := gc_nil, ex := ex_nil, fnE := at_nil, fnL := at_nil, nd := fun _ => dig_of c.dig, fnG := at_nil, lf := lf_nil }
  obtain ⟨fd__law_number, D__law_number⟩ : ∃ fd, FunD K "_law_number" "_law_number" (defArgs (top 60)) (defBody (top 60)) (defScope (top 60)) [] [] (He.ga K "_law_number") fd := c.d.def_ 57 (d := ⟨("_law_number", none), "_law_number", "_law_number", defArgs (top 60), defBody (top 60), defScope (top 60), [], []⟩) rfl
  have F__law_number : FnAt P w K mg base (tabK K) 6 (He.ga K "_law_number") (sp__law_number ) := ok__law_number (T := tabK K)  D__law_number (k := 4) { fn := (at_cons ⟨_, (He.glo_ok X G (c.d.fact 20 (f := .glo "_law_draw") rfl)), D__law_draw.kp, F__law_draw.mono (by omega)⟩ (at_cons ⟨_, (He.glo_ok X G (c.d.fact 24 (f := .glo "_law_low") rfl)), D__law_low.kp, F__law_low.mono (by omega)⟩ (at_cons ⟨_, (He.glo_ok X G (c.d.fact 31 (f := .glo "_law_wide") rfl)), D__law_wide.kp, F__law_wide.mono (by omega)⟩ at_nil))), gv := at_nil, bt := bt_nil, fl := fl_nil, mt := at3_nil, mks := at3_nil, cs := is_nil, rz := at3_nil, gc := gc_nil, ex := ex_nil, fnE := at_nil, fnL := at_nil, nd := fun _ => dig_of c.dig, fnG := at_nil, lf := lf_nil }
  obtain ⟨fd__law_tupled, D__law_tupled⟩ : ∃ fd, FunD K "_law_tupled" "_law_tupled" (defArgs (top 62)) (defBody (top 62)) (defScope (top 62)) [] [] (He.ga K "_law_tupled") fd := c.d.def_ 59 (d := ⟨("_law_tupled", none), "_law_tupled", "_law_tupled", defArgs (top 62), defBody (top 62), defScope (top 62), [], []⟩) rfl
  have S__law_tupled : ∀ n, FnAt P w K mg base (tabK K) (0 + 2 * n) (He.ga K "_law_tupled") (sp__law_tupled' [He.ga K "Mark"] n) := by
    intro n
    induction n with
    | zero => exact false_at (ps := ["value"]) (D__law_tupled.bindsN fun _ _ _ _ _ _ us hl => match us, hl with | [_], _ => rfl) (fun _ _ _ _ h => h)
    | succ n ih =>
      refine FnAt.imp (ok__law_tupled [He.ga K "Mark"] n D__law_tupled (k := 0 + 2 * n) { fn := (at_cons ⟨_, (He.glo_ok X G (c.d.fact 32 (f := .glo "_law_tupled") rfl)), D__law_tupled.kp, ih⟩ at_nil), gv := at_nil, bt := (bt_cons (He.free_ok X G (c.d.fact 65 (f := .free "isinstance") rfl)) (bt_cons (He.free_ok X G (c.d.fact 69 (f := .free "list") rfl)) (bt_cons (He.free_ok X G (c.d.fact 68 (f := .free "tuple") rfl)) bt_nil))), fl := fl_nil, mt := at3_nil, mks := at3_nil, cs := isM, rz := at3_nil, gc := gc_nil, ex := ex_nil, fnE := at_nil, fnL := at_nil, nd := fun _ => dig_of c.dig, fnG := at_nil, lf := lf_nil }) fun ds G Q E h => ?_
      rcases ds with _ | ⟨_, _ | r⟩ <;> first | exact h | exact False.elim h
  have F__law_tupled_20 : FnAt P w K mg base (tabK K) (0 + 2 * 20 + 2) (He.ga K "_law_tupled") (sp__law_tupled [He.ga K "Mark"] 20) := ok__law_tupled [He.ga K "Mark"] 20 D__law_tupled (k := 0 + 2 * 20) { fn := (at_cons ⟨_, (He.glo_ok X G (c.d.fact 32 (f := .glo "_law_tupled") rfl)), D__law_tupled.kp, (S__law_tupled 20)⟩ at_nil), gv := at_nil, bt := (bt_cons (He.free_ok X G (c.d.fact 65 (f := .free "isinstance") rfl)) (bt_cons (He.free_ok X G (c.d.fact 69 (f := .free "list") rfl)) (bt_cons (He.free_ok X G (c.d.fact 68 (f := .free "tuple") rfl)) bt_nil))), fl := fl_nil, mt := at3_nil, mks := at3_nil, cs := isM, rz := at3_nil, gc := gc_nil, ex := ex_nil, fnE := at_nil, fnL := at_nil, nd := fun _ => dig_of c.dig, fnG := at_nil, lf := lf_nil }
  obtain ⟨fd__law_drawn_value, D__law_drawn_value⟩ : ∃ fd, FunD K "_law_drawn_value" "_law_drawn_value" (defArgs (top 66)) (defBody (top 66)) (defScope (top 66)) [] [] (He.ga K "_law_drawn_value") fd := c.d.def_ 63 (d := ⟨("_law_drawn_value", none), "_law_drawn_value", "_law_drawn_value", defArgs (top 66), defBody (top 66), defScope (top 66), [], []⟩) rfl
  have S__law_drawn_value : ∀ n, FnAt P w K mg base (tabK K) (6 + 2 * n) (He.ga K "_law_drawn_value") (sp__law_drawn_value'  n) := by
    intro n
    induction n with
    | zero => exact false_at (ps := ["pen", "deep"]) (D__law_drawn_value.bindsN fun _ _ _ _ _ _ us hl => match us, hl with | [_, _], _ => rfl) (fun _ _ _ _ h => h)
    | succ n ih =>
      refine FnAt.imp (ok__law_drawn_value n D__law_drawn_value (k := 6 + 2 * n) { fn := (at_cons ⟨_, (He.glo_ok X G (c.d.fact 20 (f := .glo "_law_draw") rfl)), D__law_draw.kp, F__law_draw.mono (by omega)⟩ (at_cons ⟨_, (He.glo_ok X G (c.d.fact 30 (f := .glo "_law_number") rfl)), D__law_number.kp, F__law_number.mono (by omega)⟩ (at_cons ⟨_, (He.glo_ok X G (c.d.fact 36 (f := .glo "_law_drawn_value") rfl)), D__law_drawn_value.kp, ih⟩ at_nil))), gv := at_nil, bt := (bt_cons (He.free_ok X G (c.d.fact 68 (f := .free "tuple") rfl)) (bt_cons (He.free_ok X G (c.d.fact 70 (f := .free "range") rfl)) bt_nil)), fl := fl_nil, mt := at3_nil, mks := at3_nil, cs := is_nil, rz := at3_nil, gc := gc_nil, ex := ex_nil, fnE := at_nil, fnL := at_nil, nd := fun _ => dig_of c.dig, fnG := at_nil, lf := lf_nil }) fun ds G Q E h => ?_
      rcases ds with _ | ⟨_, _ | ⟨_, _ | r⟩⟩ <;> first | exact h | exact False.elim h
  have F__law_drawn_value_3 : FnAt P w K mg base (tabK K) (6 + 2 * 3 + 2) (He.ga K "_law_drawn_value") (sp__law_drawn_value 3) := ok__law_drawn_value 3 D__law_drawn_value (k := 6 + 2 * 3) { fn := (at_cons ⟨_, (He.glo_ok X G (c.d.fact 20 (f := .glo "_law_draw") rfl)), D__law_draw.kp, F__law_draw.mono (by omega)⟩ (at_cons ⟨_, (He.glo_ok X G (c.d.fact 30 (f := .glo "_law_number") rfl)), D__law_number.kp, F__law_number.mono (by omega)⟩ (at_cons ⟨_, (He.glo_ok X G (c.d.fact 36 (f := .glo "_law_drawn_value") rfl)), D__law_drawn_value.kp, (S__law_drawn_value 3)⟩ at_nil))), gv := at_nil, bt := (bt_cons (He.free_ok X G (c.d.fact 68 (f := .free "tuple") rfl)) (bt_cons (He.free_ok X G (c.d.fact 70 (f := .free "range") rfl)) bt_nil)), fl := fl_nil, mt := at3_nil, mks := at3_nil, cs := is_nil, rz := at3_nil, gc := gc_nil, ex := ex_nil, fnE := at_nil, fnL := at_nil, nd := fun _ => dig_of c.dig, fnG := at_nil, lf := lf_nil }
  obtain ⟨fd__law_tokens_of, D__law_tokens_of⟩ : ∃ fd, FunD K "_law_tokens_of" "_law_tokens_of" (defArgs (top 67)) (defBody (top 67)) (defScope (top 67)) [] [] (He.ga K "_law_tokens_of") fd := c.d.def_ 64 (d := ⟨("_law_tokens_of", none), "_law_tokens_of", "_law_tokens_of", defArgs (top 67), defBody (top 67), defScope (top 67), [], []⟩) rfl
  have S__law_tokens_of : ∀ n, FnAt P w K mg base (tabK K) (6 + 2 * n) (He.ga K "_law_tokens_of") (sp__law_tokens_of' [He.ga K "Mark"] n) := by
    intro n
    induction n with
    | zero => exact false_at (ps := ["value"]) (D__law_tokens_of.bindsN fun _ _ _ _ _ _ us hl => match us, hl with | [_], _ => rfl) (fun _ _ _ _ h => h)
    | succ n ih =>
      refine FnAt.imp (ok__law_tokens_of [He.ga K "Mark"] n D__law_tokens_of (k := 6 + 2 * n) { fn := (at_cons ⟨_, (He.glo_ok X G (c.d.fact 28 (f := .glo "_law_is_ratio") rfl)), D__law_is_ratio.kp, F__law_is_ratio.mono (by omega)⟩ (at_cons ⟨_, (He.glo_ok X G (c.d.fact 26 (f := .glo "_law_times") rfl)), D__law_times.kp, F__law_times.mono (by omega)⟩ (at_cons ⟨_, (He.glo_ok X G (c.d.fact 27 (f := .glo "_law_sign") rfl)), D__law_sign.kp, F__law_sign.mono (by omega)⟩ (at_cons ⟨_, (He.glo_ok X G (c.d.fact 29 (f := .glo "_law_is_whole") rfl)), D__law_is_whole.kp, F__law_is_whole.mono (by omega)⟩ (at_cons ⟨_, (He.glo_ok X G (c.d.fact 37 (f := .glo "_law_tokens_of") rfl)), D__law_tokens_of.kp, ih⟩ at_nil))))), gv := at_nil, bt := (bt_cons (He.free_ok X G (c.d.fact 72 (f := .free "str") rfl)) (bt_cons (He.free_ok X G (c.d.fact 73 (f := .free "enumerate") rfl)) (bt_cons (He.free_ok X G (c.d.fact 64 (f := .free "len") rfl)) bt_nil))), fl := fl_nil, mt := at3_nil, mks := at3_nil, cs := is_nil, rz := at3_nil, gc := gc_nil, ex := ex_nil, fnE := at_nil, fnL := at_nil, nd := fun _ => dig_of c.dig, fnG := at_nil, lf := lf_nil }) fun ds G Q E h => ?_
      rcases ds with _ | ⟨_, _ | r⟩ <;> first | exact h | exact False.elim h
  have F__law_tokens_of_3 : FnAt P w K mg base (tabK K) (6 + 2 * 3 + 2) (He.ga K "_law_tokens_of") (sp__law_tokens_of [He.ga K "Mark"] 3) := ok__law_tokens_of [He.ga K "Mark"] 3 D__law_tokens_of (k := 6 + 2 * 3) { fn := (at_cons ⟨_, (He.glo_ok X G (c.d.fact 28 (f := .glo "_law_is_ratio") rfl)), D__law_is_ratio.kp, F__law_is_ratio.mono (by omega)⟩ (at_cons ⟨_, (He.glo_ok X G (c.d.fact 26 (f := .glo "_law_times") rfl)), D__law_times.kp, F__law_times.mono (by omega)⟩ (at_cons ⟨_, (He.glo_ok X G (c.d.fact 27 (f := .glo "_law_sign") rfl)), D__law_sign.kp, F__law_sign.mono (by omega)⟩ (at_cons ⟨_, (He.glo_ok X G (c.d.fact 29 (f := .glo "_law_is_whole") rfl)), D__law_is_whole.kp, F__law_is_whole.mono (by omega)⟩ (at_cons ⟨_, (He.glo_ok X G (c.d.fact 37 (f := .glo "_law_tokens_of") rfl)), D__law_tokens_of.kp, (S__law_tokens_of 3)⟩ at_nil))))), gv := at_nil, bt := (bt_cons (He.free_ok X G (c.d.fact 72 (f := .free "str") rfl)) (bt_cons (He.free_ok X G (c.d.fact 73 (f := .free "enumerate") rfl)) (bt_cons (He.free_ok X G (c.d.fact 64 (f := .free "len") rfl)) bt_nil))), fl := fl_nil, mt := at3_nil, mks := at3_nil, cs := is_nil, rz := at3_nil, gc := gc_nil, ex := ex_nil, fnE := at_nil, fnL := at_nil, nd := fun _ => dig_of c.dig, fnG := at_nil, lf := lf_nil }
  obtain ⟨fd__law_is_figures, D__law_is_figures⟩ : ∃ fd, FunD K "_law_is_figures" "_law_is_figures" (defArgs (top 69)) (defBody (top 69)) (defScope (top 69)) [] [] (He.ga K "_law_is_figures") fd := c.d.def_ 66 (d := ⟨("_law_is_figures", none), "_law_is_figures", "_law_is_figures", defArgs (top 69), defBody (top 69), defScope (top 69), [], []⟩) rfl
  have F__law_is_figures : FnAt P w K mg base (tabK K) 2 (He.ga K "_law_is_figures") (sp__law_is_figures ) := ok__law_is_figures (T := tabK K)  D__law_is_figures (k := 0) { fn := at_nil, gv := at_nil, bt := (bt_cons (He.free_ok X G (c.d.fact 64 (f := .free "len") rfl)) bt_nil), fl := fl_nil, mt := at3_nil, mks := at3_nil, cs := is_nil, rz := at3_nil, gc := gc_nil, ex := ex_nil, fnE := at_nil, fnL := at_nil, nd := fun _ => dig_of c.dig, fnG := at_nil, lf := lf_nil }
  obtain ⟨fd__law_value_words, D__law_value_words⟩ : ∃ fd, FunD K "_law_value_words" "_law_value_words" (defArgs (top 68)) (defBody (top 68)) (defScope (top 68)) [] [] (He.ga K "_law_value_words") fd := c.d.def_ 65 (d := ⟨("_law_value_words", none), "_law_value_words", "_law_value_words", defArgs (top 68), defBody (top 68), defScope (top 68), [], []⟩) rfl
  have F__law_value_words_3 : FnAt P w K mg base (tabK K) 16 (He.ga K "_law_value_words") (sp__law_value_words [He.ga K "Mark"] 3) := ok__law_value_words [He.ga K "Mark"] 3 D__law_value_words (k := 14) { fn := (at_cons ⟨_, (He.glo_ok X G (c.d.fact 37 (f := .glo "_law_tokens_of") rfl)), D__law_tokens_of.kp, F__law_tokens_of_3.mono (by omega)⟩ at_nil), gv := at_nil, bt := (bt_cons (He.free_ok X G (c.d.fact 73 (f := .free "enumerate") rfl)) bt_nil), fl := fl_nil, mt := at3_nil, mks := at3_nil, cs := is_nil, rz := at3_nil, gc := gc_nil, ex := ex_nil, fnE := at_nil, fnL := at_nil, nd := fun _ => dig_of c.dig, fnG := at_nil, lf := lf_nil }
  obtain ⟨fd__law_read, D__law_read⟩ : ∃ fd, FunD K "_law_read" "_law_read" (defArgs (top 70)) (defBody (top 70)) (defScope (top 70)) [] [] (He.ga K "_law_read") fd := c.d.def_ 67 (d := ⟨("_law_read", none), "_law_read", "_law_read", defArgs (top 70), defBody (top 70), defScope (top 70), [], []⟩) rfl
  have S__law_read : ∀ n, FnAt P w K mg base (tabK K) (2 + 2 * n) (He.ga K "_law_read") (sp__law_read'  n) := by
    intro n
    induction n with
    | zero => exact false_at (ps := ["tokens", "at"]) (D__law_read.bindsN fun _ _ _ _ _ _ us hl => match us, hl with | [_, _], _ => rfl) (fun _ _ _ _ h => h)
    | succ n ih =>
      refine FnAt.imp (ok__law_read n D__law_read (k := 2 + 2 * n) { fn := (at_cons ⟨_, (He.glo_ok X G (c.d.fact 40 (f := .glo "_law_read") rfl)), D__law_read.kp, ih⟩ (at_cons ⟨_, (He.glo_ok X G (c.d.fact 39 (f := .glo "_law_is_figures") rfl)), D__law_is_figures.kp, F__law_is_figures.mono (by omega)⟩ (at_cons ⟨_, (He.glo_ok X G (c.d.fact 23 (f := .glo "_law_divisor") rfl)), D__law_divisor.kp, F__law_divisor.mono (by omega)⟩ at_nil))), gv := at_nil, bt := (bt_cons (He.free_ok X G (c.d.fact 64 (f := .free "len") rfl)) (bt_cons (He.free_ok X G (c.d.fact 66 (f := .free "int") rfl)) bt_nil)), fl := fl_nil, mt := at3_nil, mks := at3_nil, cs := is_nil, rz := at3_nil, gc := gc_nil, ex := ex_nil, fnE := at_nil, fnL := at_nil, nd := fun _ => dig_of c.dig, fnG := at_nil, lf := lf_nil }) fun ds G Q E h => ?_
      rcases ds with _ | ⟨_, _ | ⟨_, _ | r⟩⟩ <;> first | exact h | exact False.elim h
  have F__law_read_16 : FnAt P w K mg base (tabK K) (2 + 2 * 16 + 2) (He.ga K "_law_read") (sp__law_read 16) := ok__law_read 16 D__law_read (k := 2 + 2 * 16) { fn := (at_cons ⟨_, (He.glo_ok X G (c.d.fact 40 (f := .glo "_law_read") rfl)), D__law_read.kp, (S__law_read 16)⟩ (at_cons ⟨_, (He.glo_ok X G (c.d.fact 39 (f := .glo "_law_is_figures") rfl)), D__law_is_figures.kp, F__law_is_figures.mono (by omega)⟩ (at_cons ⟨_, (He.glo_ok X G (c.d.fact 23 (f := .glo "_law_divisor") rfl)), D__law_divisor.kp, F__law_divisor.mono (by omega)⟩ at_nil))), gv := at_nil, bt := (bt_cons (He.free_ok X G (c.d.fact 64 (f := .free "len") rfl)) (bt_cons (He.free_ok X G (c.d.fact 66 (f := .free "int") rfl)) bt_nil)), fl := fl_nil, mt := at3_nil, mks := at3_nil, cs := is_nil, rz := at3_nil, gc := gc_nil, ex := ex_nil, fnE := at_nil, fnL := at_nil, nd := fun _ => dig_of c.dig, fnG := at_nil, lf := lf_nil }
  obtain ⟨fd__law_is, D__law_is⟩ : ∃ fd, FunD K "_law_is" "_law_is" (defArgs (top 52)) (defBody (top 52)) (defScope (top 52)) [] [] (He.ga K "_law_is") fd := c.d.def_ 49 (d := ⟨("_law_is", none), "_law_is", "_law_is", defArgs (top 52), defBody (top 52), defScope (top 52), [], []⟩) rfl
  have S__law_is : ∀ n, FnAt P w K mg base (tabK K) (0 + 2 * n) (He.ga K "_law_is") (sp__law_is' [He.ga K "Mark"] n) := by
    intro n
    induction n with
    | zero => exact false_at (ps := ["told", "due"]) (D__law_is.bindsN fun _ _ _ _ _ _ us hl => match us, hl with | [_, _], _ => rfl) (fun _ _ _ _ h => h)
    | succ n ih =>
      refine FnAt.imp (ok__law_is [He.ga K "Mark"] n D__law_is (k := 0 + 2 * n) { fn := (at_cons ⟨_, (He.glo_ok X G (c.d.fact 22 (f := .glo "_law_is") rfl)), D__law_is.kp, ih⟩ at_nil), gv := at_nil, bt := (bt_cons (He.free_ok X G (c.d.fact 65 (f := .free "isinstance") rfl)) (bt_cons (He.free_ok X G (c.d.fact 68 (f := .free "tuple") rfl)) (bt_cons (He.free_ok X G (c.d.fact 64 (f := .free "len") rfl)) (bt_cons (He.free_ok X G (c.d.fact 70 (f := .free "range") rfl)) (bt_cons (He.free_ok X G (c.d.fact 72 (f := .free "str") rfl)) (bt_cons (He.free_ok X G (c.d.fact 66 (f := .free "int") rfl)) (bt_cons (He.free_ok X G (c.d.fact 76 (f := .free "bool") rfl)) bt_nil))))))), fl := fl_nil, mt := at3_nil, mks := at3_nil, cs := isM, rz := at3_nil, gc := gc_nil, ex := ex_nil, fnE := at_nil, fnL := at_nil, nd := fun _ => dig_of c.dig, fnG := at_nil, lf := lf_nil }) fun ds G Q E h => ?_
      rcases ds with _ | ⟨_, _ | ⟨_, _ | r⟩⟩ <;> first | exact h | exact False.elim h
  have F__law_is_5 : FnAt P w K mg base (tabK K) (0 + 2 * 5 + 2) (He.ga K "_law_is") (sp__law_is [He.ga K "Mark"] 5) := ok__law_is [He.ga K "Mark"] 5 D__law_is (k := 0 + 2 * 5) { fn := (at_cons ⟨_, (He.glo_ok X G (c.d.fact 22 (f := .glo "_law_is") rfl)), D__law_is.kp, (S__law_is 5)⟩ at_nil), gv := at_nil, bt := (bt_cons (He.free_ok X G (c.d.fact 65 (f := .free "isinstance") rfl)) (bt_cons (He.free_ok X G (c.d.fact 68 (f := .free "tuple") rfl)) (bt_cons (He.free_ok X G (c.d.fact 64 (f := .free "len") rfl)) (bt_cons (He.free_ok X G (c.d.fact 70 (f := .free "range") rfl)) (bt_cons (He.free_ok X G (c.d.fact 72 (f := .free "str") rfl)) (bt_cons (He.free_ok X G (c.d.fact 66 (f := .free "int") rfl)) (bt_cons (He.free_ok X G (c.d.fact 76 (f := .free "bool") rfl)) bt_nil))))))), fl := fl_nil, mt := at3_nil, mks := at3_nil, cs := isM, rz := at3_nil, gc := gc_nil, ex := ex_nil, fnE := at_nil, fnL := at_nil, nd := fun _ => dig_of c.dig, fnG := at_nil, lf := lf_nil }
  have F__law_is_20 : FnAt P w K mg base (tabK K) (0 + 2 * 20 + 2) (He.ga K "_law_is") (sp__law_is [He.ga K "Mark"] 20) := ok__law_is [He.ga K "Mark"] 20 D__law_is (k := 0 + 2 * 20) { fn := (at_cons ⟨_, (He.glo_ok X G (c.d.fact 22 (f := .glo "_law_is") rfl)), D__law_is.kp, (S__law_is 20)⟩ at_nil), gv := at_nil, bt := (bt_cons (He.free_ok X G (c.d.fact 65 (f := .free "isinstance") rfl)) (bt_cons (He.free_ok X G (c.d.fact 68 (f := .free "tuple") rfl)) (bt_cons (He.free_ok X G (c.d.fact 64 (f := .free "len") rfl)) (bt_cons (He.free_ok X G (c.d.fact 70 (f := .free "range") rfl)) (bt_cons (He.free_ok X G (c.d.fact 72 (f := .free "str") rfl)) (bt_cons (He.free_ok X G (c.d.fact 66 (f := .free "int") rfl)) (bt_cons (He.free_ok X G (c.d.fact 76 (f := .free "bool") rfl)) bt_nil))))))), fl := fl_nil, mt := at3_nil, mks := at3_nil, cs := isM, rz := at3_nil, gc := gc_nil, ex := ex_nil, fnE := at_nil, fnL := at_nil, nd := fun _ => dig_of c.dig, fnG := at_nil, lf := lf_nil }
  obtain ⟨fd__law_more_kinds, D__law_more_kinds⟩ : ∃ fd, FunD K "_law_more_kinds" "_law_more_kinds" (defArgs (top 65)) (defBody (top 65)) (defScope (top 65)) [] [] (He.ga K "_law_more_kinds") fd := c.d.def_ 62 (d := ⟨("_law_more_kinds", none), "_law_more_kinds", "_law_more_kinds", defArgs (top 65), defBody (top 65), defScope (top 65), [], []⟩) rfl
  have F__law_more_kinds : FnE P w K mg base (tabK K) 2 (He.ga K "_law_more_kinds") (exL (clK K)) (sp__law_more_kinds (clK K)) := ok__law_more_kinds (clK K) D__law_more_kinds (k := 0) (fun _ _ _ => ({ fn := at_nil, gv := (at_cons (gv_obj (He.glo_ok X G (c.d.fact 54 (f := .glo "NoName") rfl))) (at_cons (gv_obj (He.glo_ok X G (c.d.fact 55 (f := .glo "TakenName") rfl))) (at_cons (gv_obj (He.glo_ok X G (c.d.fact 56 (f := .glo "Unlike") rfl))) (at_cons (gv_obj (He.glo_ok X G (c.d.fact 57 (f := .glo "NotThere") rfl))) (at_cons (gv_obj (He.glo_ok X G (c.d.fact 58 (f := .glo "TooMany") rfl))) (at_cons (gv_obj (He.glo_ok X G (c.d.fact 59 (f := .glo "NotKept") rfl))) (at_cons (gv_obj (He.glo_ok X G (c.d.fact 60 (f := .glo "NothingToUndo") rfl))) (at_cons (gv_obj (He.glo_ok X G (c.d.fact 61 (f := .glo "NothingToRedo") rfl))) at_nil)))))))), bt := (bt_cons (He.free_ok X G (c.d.fact 65 (f := .free "isinstance") rfl)) (bt_cons (He.free_ok X G (c.d.fact 71 (f := .free "repr") rfl)) bt_nil)), fl := fl_nil, mt := at3_nil, mks := at3_nil, cs := is_nil, rz := at3_nil, gc := gc_nil, ex := exO, fnE := at_nil, fnL := at_nil, nd := fun _ => dig_of c.dig, fnG := at_nil, lf := lf_nil } : GOk (c__law_more_kinds (tabK K) (clK K) _ _ _) 0 P w K mg base))
  obtain ⟨fd__law_kinds, D__law_kinds⟩ : ∃ fd, FunD K "_law_kinds" "_law_kinds" (defArgs (top 64)) (defBody (top 64)) (defScope (top 64)) [] [] (He.ga K "_law_kinds") fd := c.d.def_ 61 (d := ⟨("_law_kinds", none), "_law_kinds", "_law_kinds", defArgs (top 64), defBody (top 64), defScope (top 64), [], []⟩) rfl
  have F__law_kinds : FnE P w K mg base (tabK K) 4 (He.ga K "_law_kinds") (exL (clK K)) (sp__law_kinds (clK K)) := ok__law_kinds (clK K) D__law_kinds (k := 2) (fun _ _ _ => ({ fn := at_nil, gv := (at_cons (gv_obj (He.glo_ok X G (c.d.fact 46 (f := .glo "BadNumber") rfl))) (at_cons (gv_obj (He.glo_ok X G (c.d.fact 47 (f := .glo "BadRow") rfl))) (at_cons (gv_obj (He.glo_ok X G (c.d.fact 48 (f := .glo "BadTable") rfl))) (at_cons (gv_obj (He.glo_ok X G (c.d.fact 49 (f := .glo "BadSystem") rfl))) (at_cons (gv_obj (He.glo_ok X G (c.d.fact 50 (f := .glo "BadBook") rfl))) (at_cons (gv_obj (He.glo_ok X G (c.d.fact 51 (f := .glo "BadName") rfl))) (at_cons (gv_obj (He.glo_ok X G (c.d.fact 52 (f := .glo "BadText") rfl))) (at_cons (gv_obj (He.glo_ok X G (c.d.fact 53 (f := .glo "NoPlace") rfl))) at_nil)))))))), bt := (bt_cons (He.free_ok X G (c.d.fact 65 (f := .free "isinstance") rfl)) (bt_cons (He.free_ok X G (c.d.fact 71 (f := .free "repr") rfl)) bt_nil)), fl := fl_nil, mt := at3_nil, mks := at3_nil, cs := is_nil, rz := at3_nil, gc := gc_nil, ex := exO, fnE := (at_cons ⟨_, (He.glo_ok X G (c.d.fact 35 (f := .glo "_law_more_kinds") rfl)), D__law_more_kinds.kp, F__law_more_kinds.mono (by omega)⟩ at_nil), fnL := at_nil, nd := fun _ => dig_of c.dig, fnG := at_nil, lf := lf_nil } : GOk (c__law_kinds (tabK K) (clK K) _ _ _) 2 P w K mg base))
  obtain ⟨fd__law_fault, D__law_fault⟩ : ∃ fd, FunD K "_law_fault" "_law_fault" (defArgs (top 63)) (defBody (top 63)) (defScope (top 63)) [] [] (He.ga K "_law_fault") fd := c.d.def_ 60 (d := ⟨("_law_fault", none), "_law_fault", "_law_fault", defArgs (top 63), defBody (top 63), defScope (top 63), [], []⟩) rfl
  have FF : FaultAt P w K mg base (tabK K) 5 "_law_fault" (He.ga K "_law_fault") (ftK (clK K)) := ok__law_fault (T := tabK K) (clK K) (inj_of c.exI) D__law_fault (He.glo_ok X G (c.d.fact 45 (f := .glo "CountsError") rfl)) (fun C hC => (c.ex C hC).2.2.2.2.2.2) (k := 4) (fun _ _ _ => { fn := at_nil, gv := at_nil, bt := (bt_cons (He.free_ok X G (c.d.fact 64 (f := .free "len") rfl)) (bt_cons (He.free_ok X G (c.d.fact 65 (f := .free "isinstance") rfl)) (bt_cons (He.free_ok X G (c.d.fact 75 (f := .free "ValueError") rfl)) bt_nil))), fl := fl_nil, mt := at3_nil, mks := at3_nil, cs := is_nil, rz := at3_nil, gc := gc_nil, ex := exO, fnE := (at_cons ⟨_, (He.glo_ok X G (c.d.fact 34 (f := .glo "_law_kinds") rfl)), D__law_kinds.kp, F__law_kinds.mono (by omega)⟩ at_nil), fnL := at_nil, nd := fun _ => dig_of c.dig, fnG := at_nil, lf := lf_nil })
  obtain ⟨fd__law_read_fault, D__law_read_fault⟩ : ∃ fd, FunD K "_law_read_fault" "_law_read_fault" (defArgs (top 72)) (defBody (top 72)) (defScope (top 72)) [] [] (He.ga K "_law_read_fault") fd := c.d.def_ 69 (d := ⟨("_law_read_fault", none), "_law_read_fault", "_law_read_fault", defArgs (top 72), defBody (top 72), defScope (top 72), [], []⟩) rfl
  have F__law_read_fault : FnG P w K mg base (tabK K) 46 (He.ga K "_law_read_fault") (sp__law_read_fault [He.ga K "Mark"] (clK K) (He.ga K "Reader") ((He.cT K ("_law_read_fault", none)).1) ((He.cT K ("_law_read_fault", none)).2)) := ok__law_read_fault [He.ga K "Mark"] (clK K) (He.ga K "Reader") ((He.cT K ("_law_read_fault", none)).1) ((He.cT K ("_law_read_fault", none)).2) D__law_read_fault (lam_ok (p := ("_law_read_fault", none)) rfl rfl D__law_read_fault c tb (by simp [tfK])) (k := 44) { fn := at_nil, gv := at_nil, bt := bt_nil, fl := fl_nil, mt := at3_nil, mks := at3_nil, cs := is_nil, rz := at3_nil, gc := gc_nil, ex := ex_nil, fnE := at_nil, fnL := (at_cons ⟨_, (He.glo_ok X G (c.d.fact 18 (f := .glo "value_of_text") rfl)), D_value_of_text.kp, F_value_of_text.mono (by omega)⟩ at_nil), nd := fun _ => dig_of c.dig, fnG := at_nil, lf := (lf_one ⟨by omega, _, (He.glo_ok X G (c.d.fact 33 (f := .glo "_law_fault") rfl)), D__law_fault.kp, FF.mono (by omega)⟩) }
  obtain ⟨fd__law_right, D__law_right⟩ : ∃ fd, FunD K "_law_right" "_law_right" (defArgs (top 71)) (defBody (top 71)) (defScope (top 71)) [] [] (He.ga K "_law_right") fd := c.d.def_ 68 (d := ⟨("_law_right", none), "_law_right", "_law_right", defArgs (top 71), defBody (top 71), defScope (top 71), [], []⟩) rfl
  have F__law_right : FnG P w K mg base (tabK K) 46 (He.ga K "_law_right") (sp__law_right [He.ga K "Mark"] (clK K) (He.ga K "Reader") (He.ga K "Mark") ((He.cT K ("_law_right", none)).1) ((He.cT K ("_law_right", none)).2)) := ok__law_right [He.ga K "Mark"] (clK K) (He.ga K "Reader") (He.ga K "Mark") ((He.cT K ("_law_right", none)).1) ((He.cT K ("_law_right", none)).2) D__law_right (lam_ok (p := ("_law_right", none)) rfl rfl D__law_right c tb (by simp [tfK])) (k := 44) { fn := (at_cons ⟨_, (He.glo_ok X G (c.d.fact 36 (f := .glo "_law_drawn_value") rfl)), D__law_drawn_value.kp, F__law_drawn_value_3.mono (by omega)⟩ (at_cons ⟨_, (He.glo_ok X G (c.d.fact 38 (f := .glo "_law_value_words") rfl)), D__law_value_words.kp, F__law_value_words_3.mono (by omega)⟩ (at_cons ⟨_, (He.glo_ok X G (c.d.fact 22 (f := .glo "_law_is") rfl)), D__law_is.kp, F__law_is_5.mono (by omega)⟩ (at_cons ⟨_, (He.glo_ok X G (c.d.fact 16 (f := .glo "value_text") rfl)), D_value_text.kp, F_value_text.mono (by omega)⟩ (at_cons ⟨_, (He.glo_ok X G (c.d.fact 18 (f := .glo "value_of_text") rfl)), D_value_of_text.kp, F_value_of_text.mono (by omega)⟩ (at_cons ⟨_, (He.glo_ok X G (c.d.fact 37 (f := .glo "_law_tokens_of") rfl)), D__law_tokens_of.kp, F__law_tokens_of_3.mono (by omega)⟩ (at_cons ⟨_, (He.glo_ok X G (c.d.fact 20 (f := .glo "_law_draw") rfl)), D__law_draw.kp, F__law_draw.mono (by omega)⟩ (at_cons ⟨_, (He.glo_ok X G (c.d.fact 21 (f := .glo "_law_pick") rfl)), D__law_pick.kp, F__law_pick.mono (by omega)⟩ (at_cons ⟨_, (He.glo_ok X G (c.d.fact 40 (f := .glo "_law_read") rfl)), D__law_read.kp, F__law_read_16.mono (by omega)⟩ at_nil))))))))), gv := at_nil, bt := (bt_cons (He.free_ok X G (c.d.fact 70 (f := .free "range") rfl)) (bt_cons (He.free_ok X G (c.d.fact 64 (f := .free "len") rfl)) (bt_cons (He.free_ok X G (c.d.fact 69 (f := .free "list") rfl)) bt_nil))), fl := fl_nil, mt := at3_nil, mks := at3_nil, cs := is_nil, rz := at3_nil, gc := gc_nil, ex := ex_nil, fnE := at_nil, fnL := (at_cons ⟨_, (He.glo_ok X G (c.d.fact 18 (f := .glo "value_of_text") rfl)), D_value_of_text.kp, F_value_of_text.mono (by omega)⟩ at_nil), nd := fun _ => dig_of c.dig, fnG := at_nil, lf := (lf_one ⟨by omega, _, (He.glo_ok X G (c.d.fact 33 (f := .glo "_law_fault") rfl)), D__law_fault.kp, FF.mono (by omega)⟩) }
  obtain ⟨fd__law_deep_right, D__law_deep_right⟩ : ∃ fd, FunD K "_law_deep_right" "_law_deep_right" (defArgs (top 73)) (defBody (top 73)) (defScope (top 73)) [] [] (He.ga K "_law_deep_right") fd := c.d.def_ 70 (d := ⟨("_law_deep_right", none), "_law_deep_right", "_law_deep_right", defArgs (top 73), defBody (top 73), defScope (top 73), [], []⟩) rfl
  have F__law_deep_right : FnG P w K mg base (tabK K) 48 (He.ga K "_law_deep_right") (sp__law_deep_right [He.ga K "Mark"] (clK K) (He.ga K "Reader") (He.ga K "Mark") ((He.cT K ("_law_deep_right", none)).1) ((He.cT K ("_law_deep_right", none)).2)) := ok__law_deep_right [He.ga K "Mark"] (clK K) (He.ga K "Reader") (He.ga K "Mark") ((He.cT K ("_law_deep_right", none)).1) ((He.cT K ("_law_deep_right", none)).2) D__law_deep_right (lam_ok (p := ("_law_deep_right", none)) rfl rfl D__law_deep_right c tb (by simp [tfK])) (k := 46) { fn := (at_cons ⟨_, (He.glo_ok X G (c.d.fact 22 (f := .glo "_law_is") rfl)), D__law_is.kp, F__law_is_20.mono (by omega)⟩ (at_cons ⟨_, (He.glo_ok X G (c.d.fact 16 (f := .glo "value_text") rfl)), D_value_text.kp, F_value_text.mono (by omega)⟩ (at_cons ⟨_, (He.glo_ok X G (c.d.fact 18 (f := .glo "value_of_text") rfl)), D_value_of_text.kp, F_value_of_text.mono (by omega)⟩ (at_cons ⟨_, (He.glo_ok X G (c.d.fact 32 (f := .glo "_law_tupled") rfl)), D__law_tupled.kp, F__law_tupled_20.mono (by omega)⟩ at_nil)))), gv := at_nil, bt := (bt_cons (He.free_ok X G (c.d.fact 70 (f := .free "range") rfl)) (bt_cons (He.free_ok X G (c.d.fact 71 (f := .free "repr") rfl)) bt_nil)), fl := fl_nil, mt := at3_nil, mks := at3_nil, cs := is_nil, rz := at3_nil, gc := gc_nil, ex := ex_nil, fnE := at_nil, fnL := (at_cons ⟨_, (He.glo_ok X G (c.d.fact 16 (f := .glo "value_text") rfl)), D_value_text.kp, F_value_text.mono (by omega)⟩ at_nil), nd := fun _ => dig_of c.dig, fnG := at_nil, lf := (lf_one ⟨by omega, _, (He.glo_ok X G (c.d.fact 33 (f := .glo "_law_fault") rfl)), D__law_fault.kp, FF.mono (by omega)⟩) }
  obtain ⟨fd_law, D_law⟩ : ∃ fd, FunD K "law" "law" (defArgs (top 74)) (defBody (top 74)) (defScope (top 74)) [] [] (He.ga K "law") fd := c.d.def_ 71 (d := ⟨("law", none), "law", "law", defArgs (top 74), defBody (top 74), defScope (top 74), [], []⟩) rfl
  have F_law : FnG P w K mg base (tabK K) 50 (He.ga K "law") (sp_law [He.ga K "Mark"] (clK K) (He.ga K "Reader") (He.ga K "Mark") ((He.cT K ("law", none)).1) ((He.cT K ("law", none)).2) ((He.cT K ("_law_right", none)).1) ((He.cT K ("_law_right", none)).2) ((He.cT K ("_law_deep_right", none)).1) ((He.cT K ("_law_deep_right", none)).2) ((He.cT K ("_law_read_fault", none)).1) ((He.cT K ("_law_read_fault", none)).2)) := ok_law [He.ga K "Mark"] (clK K) (He.ga K "Reader") (He.ga K "Mark") ((He.cT K ("law", none)).1) ((He.cT K ("law", none)).2) ((He.cT K ("_law_right", none)).1) ((He.cT K ("_law_right", none)).2) ((He.cT K ("_law_deep_right", none)).1) ((He.cT K ("_law_deep_right", none)).2) ((He.cT K ("_law_read_fault", none)).1) ((He.cT K ("_law_read_fault", none)).2) D_law (lam_ok (p := ("law", none)) rfl rfl D_law c tb (by simp [tfK])) (k := 48) { fn := (at_cons ⟨_, (He.glo_ok X G (c.d.fact 19 (f := .glo "_law_pen") rfl)), D__law_pen.kp, F__law_pen.mono (by omega)⟩ (at_cons ⟨_, (He.glo_ok X G (c.d.fact 21 (f := .glo "_law_pick") rfl)), D__law_pick.kp, F__law_pick.mono (by omega)⟩ (at_cons ⟨_, (He.glo_ok X G (c.d.fact 22 (f := .glo "_law_is") rfl)), D__law_is.kp, F__law_is_20.mono (by omega)⟩ (at_cons ⟨_, (He.glo_ok X G (c.d.fact 16 (f := .glo "value_text") rfl)), D_value_text.kp, F_value_text.mono (by omega)⟩ (at_cons ⟨_, (He.glo_ok X G (c.d.fact 18 (f := .glo "value_of_text") rfl)), D_value_of_text.kp, F_value_of_text.mono (by omega)⟩ at_nil))))), gv := at_nil, bt := (bt_cons (He.free_ok X G (c.d.fact 70 (f := .free "range") rfl)) (bt_cons (He.free_ok X G (c.d.fact 71 (f := .free "repr") rfl)) (bt_cons (He.free_ok X G (c.d.fact 66 (f := .free "int") rfl)) bt_nil))), fl := fl_nil, mt := at3_nil, mks := at3_nil, cs := is_nil, rz := at3_nil, gc := gc_nil, ex := ex_nil, fnE := at_nil, fnL := (at_cons ⟨_, (He.glo_ok X G (c.d.fact 16 (f := .glo "value_text") rfl)), D_value_text.kp, F_value_text.mono (by omega)⟩ at_nil), nd := fun _ => dig_of c.dig, fnG := (at_cons ⟨_, (He.glo_ok X G (c.d.fact 41 (f := .glo "_law_right") rfl)), D__law_right.kp, F__law_right.mono (by omega)⟩ (at_cons ⟨_, (He.glo_ok X G (c.d.fact 43 (f := .glo "_law_deep_right") rfl)), D__law_deep_right.kp, F__law_deep_right.mono (by omega)⟩ (at_cons ⟨_, (He.glo_ok X G (c.d.fact 42 (f := .glo "_law_read_fault") rfl)), D__law_read_fault.kp, F__law_read_fault.mono (by omega)⟩ at_nil))), lf := (lf_one ⟨by omega, _, (He.glo_ok X G (c.d.fact 33 (f := .glo "_law_fault") rfl)), D__law_fault.kp, FF.mono (by omega)⟩) }
  exact F_law
end W75
set_option Elab.async false
set_option linter.all false
set_option maxRecDepth 100000
set_option maxHeartbeats 2000000
namespace W75
open PySem PySem.Spec PyProof.Rows L2 LamX L3 Hd
/-! ### the end: from the caller, over the script and the tables alone -/
abbrev scrO (vs : List Value) : Obj := { cls := .type "list", data := .seq vs.toArray }
abbrev tabO : Obj := { cls := .none, data := .fields #[] }
def endH (K : PySem.W.Frag) (a : Addr) (vs : List Value) (xs : List V) : Hp := fun b => if b = a then some (.frz (scrO vs) (.lst xs)) else if b ∈ tfK.map (fun p => (He.cT K p).2) then some (.tbl #[]) else none
def endG (a : Addr) (l : List D) : Gp := fun b => if b = a then some (.scr l) else none
theorem reps_ints {K : PySem.W.Frag} {H : Hp} {G : Gp} : ∀ ns : List Int, Reps K H G (ns.map V.int) (ns.map D.int)
  | [] => .nil
  | n :: r => .cons (.int n) (reps_ints r)
theorem law_end {P : Program} {w : World} {K : PySem.W.Frag} {mg mb : Str → Option Value} {k : Nat} {fa a : Addr} {s₁ : Shared} {vs : List Value} {ns : List Int} {sp : Sp3}
    (KX : K.In s₁.heap) (c : SaysK s₁.heap K) (hns : s₁.heap.Ns mainGlobals mg) (hb : s₁.heap.Ns builtinsNs mb) (hbb : ∀ x : Str, x ≠ "__name__" → mb x = bootBuiltins x) (hlim : s₁.heap.NoLimit) (hg : s₁.gens = #[])
    (hbm : ∃ (bm : Addr) (ob : Obj), mg "__builtins__" = some (.ref bm) ∧ bm ≠ builtinsNs ∧ s₁.heap.get? bm = some ob ∧ ob.cls = .type "module" ∧ ob.dict = some builtinsNs ∧ ob.data = .plain)
    (ha : s₁.heap.get? a = some (scrO vs)) (hi : IntsAre vs ns) (hl : ns.length ≤ sizeLine) (hr : Room k callerA)
    (F : ∀ base : Heap, K.In base → base.Ns mainGlobals mg → (∀ p ∈ tfK, TabB base mg (He.cT K p).1 (He.cT K p).2) → FnG P w K mg base (tabK K) k fa sp)
    (hsp : ∀ G : Gp, G a = some (.scr (ns.map D.int)) → sp [.obj a] G (fun d _ => d = .bl true) fun _ _ _ => False) :
    codeAny (model P w) callerA (.call (.ref fa) ⟨[.ref a], []⟩) (fun r s' => r = .ok (.ret (.bool true)) ∧ OldK s₁.heap s'.heap ∧ s'.os = s₁.os ∧ AllBare s'.gens) s₁ := by
  have ka : K.lookup a = none := by
    cases q : K.lookup a with
    | none => rfl
    | some o =>
      have e := KX a o q
      rw [ha] at e
      cases e
      exact absurd ((show isL (scrO vs) = true by rfl).symm.trans (c.noL a _ q)) (by decide)
  obtain ⟨H, eH⟩ : ∃ H, H = endH K a vs (ns.map V.int) := ⟨_, rfl⟩
  have Ha : H a = some (.frz (scrO vs) (.lst (ns.map V.int))) := by rw [eH]; exact if_pos rfl
  have tab : ∀ b, b ∈ tfK.map (fun p => (He.cT K p).2) → s₁.heap.get? b = some tabO := fun b hm => by
    obtain ⟨p, hp, e⟩ := List.mem_map.mp hm
    rw [← e]
    exact c.empty p hp
  have tna : ∀ b, b ∈ tfK.map (fun p => (He.cT K p).2) → b ≠ a := fun b hm z => by
    have e := tab b hm
    rw [z, ha] at e
    cases e
  have Ht : ∀ b, b ∈ tfK.map (fun p => (He.cT K p).2) → H b = some (.tbl #[]) := fun b hm => by
    rw [eH]
    exact (if_neg (tna b hm)).trans (if_pos hm)
  have Hc : ∀ b, H b = none ∨ b = a ∨ b ∈ tfK.map (fun p => (He.cT K p).2) := fun b => by
    by_cases h1 : b = a
    · exact .inr (.inl h1)
    · by_cases h2 : b ∈ tfK.map (fun p => (He.cT K p).2)
      · exact .inr (.inr h2)
      · exact .inl (by rw [eH]; exact (if_neg h1).trans (if_neg h2))
  -- an object of another shape is not tracked
  have other : ∀ b o, s₁.heap.get? b = some o → o ≠ scrO vs → o ≠ tabO → H b = none := fun b o e n1 n2 => by
    rcases Hc b with z | z | z
    · exact z
    · rw [z, ha] at e
      cases e
      exact absurd rfl n1
    · rw [tab b z] at e
      cases e
      exact absurd rfl n2
  have dic : ∀ b o es ep, s₁.heap.get? b = some o → o.data = .dict es ep → H b = none := fun b o es ep e d => other b o e (fun z => by rw [z] at d; cases d) fun z => by rw [z] at d; cases d
  have nsB : ∀ {b : Addr} {m : Str → Option Value}, s₁.heap.Ns b m → (hidT s₁.heap H).Ns b m := fun {b m} ⟨o, es, ep, e, d, r⟩ => ⟨o, es, ep, hidT_get e (dic b o es ep e d), d, r⟩
  have KB : K.In (hidT s₁.heap H) := fun b o e => hidT_get (KX b o e) (by
    rcases Hc b with z | z | z
    · exact z
    · rw [z, ka] at e
      cases e
    · obtain ⟨p, hp, ep⟩ := List.mem_map.mp z
      rw [← ep, c.out p hp] at e
      cases e)
  have hM : L2.Mod K mg (hidT s₁.heap H) := ⟨KB, nsB hns, ⟨mb, nsB hb, hbb⟩, let ⟨mc, h1, h2⟩ := hlim; ⟨mc, nsB h1, h2⟩⟩
  have notG : ∀ b o, s₁.heap.get? b = some o → (∀ es ep, o.data ≠ .dict es ep) → b ≠ mainGlobals := fun b o e d z => by
    obtain ⟨o', es, ep, e', d', _⟩ := hns
    rw [z, e'] at e
    cases e
    exact d es ep d'
  have TB : ∀ p ∈ tfK, TabB (hidT s₁.heap H) mg (He.cT K p).1 (He.cT K p).2 := fun p hp => by
    obtain ⟨bm, ob, b1, b2, b3, b4, b5, b6⟩ := hbm
    refine ⟨PySem.W.codeHd_of_K KB (c.hd p hp), ⟨bm, ob, b1, b2, notG bm ob b3 (fun es ep z => by rw [b6] at z; cases z), fun z => ?_, hidT_get b3 (other bm ob b3 (fun z => by rw [z] at b6; cases b6) fun z => by rw [z] at b6; cases b6), b4, b5, b6⟩, Ne.symm (notG _ tabO (c.empty p hp) (fun es ep z => by cases z))⟩
    rw [z, c.empty p hp] at b3
    cases b3
    cases b6
  have hok : HOk P w H s₁.heap := fun b o e => by
    rcases Hc b with z | z | z
    · rw [z] at e
      cases e
    · subst z
      rw [Ha] at e
      cases e
      exact ⟨ha, by rw [List.length_map]; exact hl, vs, _, vals_ints hi, ha⟩
    · rw [Ht b z] at e
      cases e
      exact tab b z
  have e0 : Env0 P w K mg (hidT s₁.heap H) callerA [] s₁ H := ⟨rfl, hM, fun b o e => of_hidT e, Nat.le_of_eq (hidT_size _ _), trivial, fun b hb => absurd (show b ∈ ([] : List Addr) from hb) (by simp), hok, .of_eq hg⟩
  obtain ⟨fd, ps, B, len, run⟩ := (F _ KB (nsB hns) TB).ok
  have gr : GRel ⟨K, tabK K⟩ H (endG a (ns.map D.int)) := by
    refine ⟨fun p hp => ?_, fun b o e => ?_⟩
    · obtain ⟨q, hq, rfl⟩ := List.mem_map.mp hp
      exact TabS.nil (Ht _ (List.mem_map.mpr ⟨q, hq, rfl⟩))
    · unfold endG at e
      split at e
      · rename_i z
        subst z
        cases e
        exact ⟨_, ⟨_, Ha⟩, reps_ints ns⟩
      · cases e
  have sp1 := hsp (endG a (ns.map D.int)) (if_pos rfl)
  have hlen : ([.ref a] : List Value).length = ps.length := by rw [← len _ _ _ _ sp1]; rfl
  have bnd := B s₁ [.ref a] KX hlen
  rw [List.append_nil] at bnd
  refine codeAny_mono (run callerA [] s₁ H ⟨[.ref a], []⟩ [.ref a] [.ref a] (fun v _ => v = .bl true) (fun _ _ _ => False) rfl hr e0 bnd (.cons rfl .nil)
    ⟨[.obj a], endG a (ns.map D.int), fun d _ => d = .bl true, fun _ _ _ => False, .cons (.obj a) .nil, gr, sp1, fun v H' d G' st r q => by subst q; cases r; rfl, fun _ _ _ _ _ _ _ _ q => q.elim⟩) fun r s' h => ?_
  cases r with
  | error e =>
    obtain ⟨_, _, _, _, _, _, _, _, _, _, _, _, z⟩ := h
    exact z.elim
  | ok fl =>
    cases fl with
    | next => exact False.elim h
    | brk => exact False.elim h
    | cont => exact False.elim h
    | ret u =>
      obtain ⟨v, H', os, bare, un, hok', r', q⟩ := h
      have q' : v = .bl true := q
      subst q'
      obtain rfl : u = Value.bool true := r'
      have plain : ∀ b o, b ∉ tfK.map (fun p => (He.cT K p).2) → s₁.heap.get? b = some o → s'.heap.get? b = some o := fun b o nb e => by
        rcases Hc b with z | z | z
        · exact un.keep b o e z (by intro y; exact absurd (show b ∈ ([] : List Addr) from y) (by simp)) (by simp)
        · subst z
          rw [ha] at e
          cases e
          exact (hok' b _ (un.frzs b _ _ Ha)).1
        · exact absurd z nb
      have grown : ∀ b, b ∈ tfK.map (fun p => (He.cT K p).2) → ∃ more : Array Value, s'.heap.get? b = some { cls := .none, data := .fields more } := fun b hb => by
        obtain ⟨more, z⟩ := un.tbls b #[] (Ht b hb)
        exact ⟨_, hok' b _ z⟩
      refine ⟨rfl, ⟨fun b o e => ?_, fun b o e => ?_⟩, os, bare⟩
      · by_cases hb : b ∈ tfK.map (fun p => (He.cT K p).2)
        · obtain ⟨more, hm⟩ := grown b hb
          have e1 := tab b hb
          rw [e1] at e
          cases e
          obtain ⟨p, hp, ep⟩ := List.mem_map.mp hb
          subst ep
          exact .inr (.inl ⟨((PySem.W.codeHd_of_K KX (c.hd p hp)).tab e1).isCodeTable, rfl, #[], more, rfl, by rw [Array.empty_append]; exact hm⟩)
        · exact .inl (plain b o hb e)
      · by_cases hb : b ∈ tfK.map (fun p => (He.cT K p).2)
        · obtain ⟨more, hm⟩ := grown b hb
          exact ⟨_, hm⟩
        · exact ⟨o, plain b o hb e⟩
end W75
set_option Elab.async false
set_option linter.all false
set_option maxRecDepth 100000
set_option maxHeartbeats 0
namespace W75
open PySem PySem.Spec PyProof.Rows L2 LamX L3 Hd
theorem law_start {cs : List Addr} {cl : Nat → Addr} {CR cP PP cP1 PP1 cP2 PP2 cP3 PP3 a : Addr} {CM : Addr} {G : Gp} {ns : List Int} (h : G a = some (.scr (ns.map D.int))) (hl : ns.length ≤ 1000) (hc : CM ∈ cs := by simp) :
    sp_law cs cl CR CM cP PP cP1 PP1 cP2 PP2 cP3 PP3 [.obj a] G (fun d _ => d = .bl true) fun _ _ _ => False := by
  refine ⟨hc, ns.map D.int, ⟨ns.map D.int, fun G' => G' a = some (.scr (ns.map D.int))⟩, ?_, rfl, fun e he => ?_, by rw [List.length_map]; exact hl, ?_, h, fun _ _ _ _ => rfl⟩
  · unfold srcL
    dsimp only
    rw [h]
  · obtain ⟨i, _, rfl⟩ := List.mem_map.mp he
    exact ⟨i, rfl⟩
  · unfold seqOf
    dsimp only
    rw [h]
theorem le63 : 63 ≤ sizeLine := Nat.le_trans (by decide) lnBig
end W75
open PySem PySem.W PySem.Calls PyProof.Rows
theorem PySem.Challenge.cw_countsforall_k75_whole_plain_values_holds : PySem.Challenge.rw_countsforall_k75_whole_plain_values.Holds := by
  w_on; o_law
  refine HandSHeadRun.head_imp (r := OpenLaw.row PySem.Challenge.rw_countsforall_k75_whole_plain_values) (q := view (OpenLaw.row PySem.Challenge.rw_countsforall_k75_whole_plain_values).prog [0, 74]) (H := W75.hkK) (ob := W75.obK) (M := 20000) (loose := Hd.names)
    (d := HandSHeadRun.topDef (OpenLaw.row PySem.Challenge.rw_countsforall_k75_whole_plain_values).prog 74) (kwd := []) W75.obK_eq W75.run (by kernel_rfl) (by kernel_rfl) (by kernel_rfl) (by rfl) (by first | assumption | decide +kernel) (by decide +kernel) ⟨rfl, rfl, rfl, rfl, rfl, by decide +kernel⟩ ?hw ?hc
  case hw => w_witness2
  case hc =>
    refine Att.attach_callB (n := 63) rfl (by kernel_rfl) fun w s₀ s₁ mg mb fa o pm cd doc a vs ns G Y ho hd hcd hmg hobj hints hlen hbits hg => ?_
    obtain ⟨K, KX, c⟩ := Y
    have e : (HandSHeadRun.topDef (OpenLaw.row PySem.Challenge.rw_countsforall_k75_whole_plain_values).prog 74).name = ("law" : PySem.Str) := by kernel_rfl
    rw [e] at hmg
    have e2 := hmg.symm.trans (He.glo_ok KX G.T.g (c.d.facts (f := .glo "law") (by simp [W75.faK, Hd.fa])))
    cases e2
    refine W75.law_end KX c G.T.g G.T.b G.T.builtins G.T.nolimit hg G.T.bmain hobj hints (Nat.le_trans hlen W75.le63) (k := 50) ⟨rfl, by decide, by decide⟩ (fun base X Gb tb => W75.all_ok X Gb c tb) fun Gp hG => ?_
    exact W75.law_start hG (Nat.le_trans hlen (by decide))
