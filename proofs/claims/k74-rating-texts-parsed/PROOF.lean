import PyProof.Rows.All
import HandS.ForMost
import HandS.ForExc
import HandS.IsInst
import HandS.Wide
import HandS.Flow
import HandS.Zip
import HandS.Rev
import HandS.Sort
import HandS.SortInts
import HandS.SortRule
import HandS.Defaults
import PyProof.Rows.SeqMore
import KE.GoesEnum
import HandS.RevRange
import HandS.Conv
import HandS.Ends
import HandS.HeadEnd
import HandS.Head0
import HandS.Head1
import HandS.Head2
import HandS.HeadHook1
import HandS.HeadHook2
import HandS.Style
import KE.KRevSl
import HandS.NamedTupSort
import HandS.TupSets
import HandS.SortOrd
import HandS.TupMul
import HandS.TupLe
import HandS.SetFor
import KE.KDictZip
import KE.DataMinKey
import KE.KMinBuiltin
import HandS.SortKw
import HandS.WordsExc
import HandS.TryOnly
import HandS.ExcIs
import HandS.ExcOwn
import HandS.ExcField
import KE.KExcIs
import HandS.ExcInit
import HandS.Dict
import KE.KDictCopyH
import KE.KeyNested
import KE.KIndexWalk
import HandS.FStr
import HandS.RaiseMore
import HandS.ReplaceLit
import KE.IntTextLaws
import HandS.Lambda
import HandS.CallSlots
import HandS.HeadHook4
import KE.DataMinMax
import HandS.ReplaceList
import Wide.All
import OpenK.AllK
import Wide.FinOn
import KE.KStateDown
import Lean
import HandS.Base
import HandS.Call
import HandS.More
import HandS.Words
import PySem.Challenge.RW_poolmarks_k74_rating_texts_parsed
set_option Elab.async false
set_option linter.all false
set_option maxRecDepth 100000
set_option maxHeartbeats 1000000
namespace Pm
set_option autoImplicit false
open PySem PySem.Spec
open PyProof.Rows hiding St
open L2

inductive Ad where
  | a (x : Addr) | f (φ : Hp → V → Prop)
instance : Coe Addr Ad := ⟨.a⟩
structure GP (γ : Type) where
  K : PySem.W.Frag
  foot : γ → Addr → Prop
  J : γ → Hp → Hp → Prop
  stay : ∀ g Z Z' H H', J g Z H → Same Z Z' → (∀ a, foot g a → H' a = H a) → J g Z' H'
  live : ∀ g Z H a, J g Z H → foot g a → ∃ o, H a = some o
  /-- what is known to be settled -/
  fl : Hp := fun _ => none
end Pm
set_option Elab.async false
set_option linter.all false
set_option maxRecDepth 100000
set_option maxHeartbeats 1000000
set_option autoImplicit false
namespace Pm
open PySem PySem.Spec
open PyProof.Rows hiding St
open L2
def obsB (fa : List He.Fa) (fn : List He.DefD) (ex : PySem.W.Frag → Bool) (K : PySem.W.Frag) : He.AlD × Bool := (He.obsD fa fn K, ex K)
def valB (fn : List He.DefD) : He.AlD × Bool := (He.valD fn, true)
end Pm
set_option Elab.async false
set_option linter.all false
set_option maxRecDepth 100000
set_option maxHeartbeats 1000000
set_option autoImplicit false
namespace Pm
open PySem PySem.Spec PySem.W
open PyProof.Rows hiding St
open L2
def W (eds : List (Nat × Nat)) : Nat → Nat → Nat → Bool
  | 0, i, j => decide (i = j) || decide ((i, j) ∈ eds)
  | k + 1, i, j => W eds k i j || (W eds k i k && W eds k k j)
end Pm
set_option Elab.async false
set_option linter.all false
set_option maxRecDepth 100000
set_option maxHeartbeats 1000000
set_option autoImplicit false
namespace Pm
open PySem PySem.Spec
open PyProof.Rows hiding St
open L2
def sysB (K : PySem.W.Frag) : Bool := match K.lookup sysModules with
  | some o => (match o.data with | .dict _ _ => true | _ => false)
  | none => false
end Pm
set_option Elab.async false
set_option linter.all false
set_option maxRecDepth 100000
set_option maxHeartbeats 1000000
set_option autoImplicit false
namespace Pm
open PySem PySem.Spec
open PyProof.Rows hiding St
open L2
variable {γ : Type}
section
variable {X : Cx} {G : GP γ} {W : WX} {pos : Pos} {e : Expr}
def excAt (K : PySem.W.Frag) (x : Str) : Option Addr := match PySem.W.nsIn K mainGlobals x with
  | some (some (.ref C)) => some C
  | _ => none
def bVal : List Value := [.type "ValueError", .type "Exception", .type "BaseException", .type "object"]
def exc0B (K : PySem.W.Frag) (x : Str) : Bool := match excAt K x with
  | some C => PySem.W.excIn K C bVal "ValueError.__new__" && PySem.W.keepIn K (.ref C)
  | none => false
def excQB (K : PySem.W.Frag) (x : Str) : Bool := match excAt K x with
  | some C => (PySem.W.subIn K (.ref C) (.type "BaseException") == some true) && (PySem.W.typeIn K (.ref C) == some (.type "type")) && (PySem.W.findIn K (.ref C) "__getattribute__" == some (some (.builtin "BaseException.__getattribute__"))) && (PySem.W.findIn K (.ref C) "__getattr__" == some none)
      && PySem.W.hasDictIn K C && (PySem.W.findIn K (.ref C) "__class__" == some (some (.builtin "object.__class__"))) && (PySem.W.specialIn K (.builtin "object.__class__") "__get__" == some (some (.builtin "getset_descriptor.__get__"))) && (PySem.W.takesIn K (.builtin "object.__class__") == some true) && (PySem.W.mroIn K C (.type "object") == some true)
  | none => false
def clsV (K : PySem.W.Frag) (y : Str) : Option Value := match PySem.W.nsIn K mainGlobals y with
  | some (some (.ref C)) => some (.ref C)
  | some none => match bootBuiltins y with
    | some (.type T) => some (.type T)
    | _ => none
  | _ => none
def subB (K : PySem.W.Frag) (x y : Str) (b : Bool) : Bool := match excAt K x, clsV K y with
  | some C, some c => (PySem.W.kitOne K (.ref C) c == some b) && (PySem.W.exmOne K (.ref C) c == some b)
  | _, _ => false
end
end Pm
namespace Pm
open PySem PySem.Spec
open PyProof.Rows hiding St
open L2
def xflB (K : PySem.W.Frag) (q : Str × Str) : Bool := match excAt K q.1 with
  | some C => xfB K C && decide (PySem.W.findIn K (.ref C) q.2 = some none)
  | none => false
def excsB (K : PySem.W.Frag) (x0 xq : List Str) (sub : List (Str × Str × Bool)) (xf : List (Str × Str)) : Bool := x0.all (exc0B K) && (xq.all (excQB K) && (sub.all (fun q => subB K q.1 q.2.1 q.2.2) && xf.all (xflB K)))
end Pm
namespace Pm
open PySem PySem.Spec
open PyProof.Rows hiding St
open L2
end Pm
namespace Pm
open PySem PySem.Spec
open PyProof.Rows hiding St
open L2
def oexB (K : PySem.W.Frag) (C : Addr) : Bool := (match K.lookup C with
  | some ⟨.type "type", _, .cls cd, sl⟩ => match cd.mro, sl.toList with
    | .ref C' :: bm, [_, _, _, _, some (.builtin n), _] => C' == C && (n == "ValueError.__new__" && (!cd.hasDel && (cd.hasDict && PySem.HandSPX.refsVE bm)))
    | _, _ => false
  | _ => false) && ((PySem.W.findIn K (.ref C) "__setattr__" == some (some (.builtin "object.__setattr__"))) && ((PySem.W.subIn K (.ref C) (.type "BaseException") == some true) && ((PySem.W.typeIn K (.ref C) == some (.type "type")) && PySem.W.keepIn K (.ref C))))
def initB (K : PySem.W.Frag) (q : Str × Str) : Bool := (He.Fa.glo q.1).ok K && (oexB K (He.ga K q.1) && ((PySem.W.findIn K (.ref (He.ga K q.1)) "__init__" == some (some (.ref (He.ma K (He.ga K q.1) "__init__")))) && ((PySem.W.typeIn K (.ref (He.ma K (He.ga K q.1) "__init__")) == some (.type "function")) && (PySem.W.findIn K (.ref (He.ga K q.1)) q.2 == some none))))
end Pm
set_option Elab.async false
set_option linter.all false
set_option maxRecDepth 100000
set_option maxHeartbeats 2000000
set_option autoImplicit false
namespace Pm
open PySem PySem.Spec
open PyProof.Rows hiding St
open L2
abbrev tabP (K : PySem.W.Frag) (x : Str) : Addr := (He.cT K (x, none)).2
abbrev codP (K : PySem.W.Frag) (x : Str) : Addr := (He.cT K (x, none)).1
section
variable {fa : List He.Fa} {fn : List He.DefD} {ex : PySem.W.Frag → Bool} {xs : List Str}
def apartB (xs : List Str) (K : PySem.W.Frag) : Bool := decide (xs.map (tabP K)).Nodup
abbrev defsOf (xs : List Str) : List He.Defn := xs.map fun x => (x, none)
def obsLG (n : Nat) (fa : List He.Fa) (fn : List He.DefD) (ex : PySem.W.Frag → Bool) (xs : List Str) (g : Addr → Option Obj) : He.AlD × Bool :=
  let K := He.frT g (He.asD g n ++ [sysModules])
  obsB fa fn (fun K => ex K && (apartB xs K && He.tabsB g (defsOf xs) K)) K
structure SaysL (fa : List He.Fa) (fn : List He.DefD) (ex : PySem.W.Frag → Bool) (xs : List Str) (h : Heap) (K : PySem.W.Frag) : Prop where
  d : He.SaysD fa fn K
  own : ex K = true
  apart : (xs.map (tabP K)).Nodup
  tab : ∀ y ∈ xs, h.get? (tabP K y) = some { cls := .none, data := .fields #[] } ∧ K.lookup (tabP K y) = none ∧ PySem.W.codeHdIn K (codP K y) (tabP K y) = true
theorem saysL_of {n : Nat} {h : Heap} (e : obsLG n fa fn ex xs h.get? = valB fn) : SaysL fa fn ex xs h (He.frT h.get? (He.asD h.get? n ++ [sysModules])) := by
  have e1 := congrArg (fun z : He.AlD × Bool => z.1) e
  have e2 : (ex _ && (apartB xs _ && He.tabsB h.get? (defsOf xs) _)) = true := congrArg (fun z : He.AlD × Bool => z.2) e
  obtain ⟨h1, h2⟩ := He.ba e2
  obtain ⟨h3, h4⟩ := He.ba h2
  refine ⟨e1, h1, of_decide_eq_true h3, fun y hy => ?_⟩
  obtain ⟨h5, h6⟩ := He.ba (List.all_eq_true.mp h4 (y, none) (List.mem_map.mpr ⟨y, hy, rfl⟩))
  have h7 : ∃ o, h.get? (tabP (He.frT h.get? (He.asD h.get? n ++ [sysModules])) y) = some o ∧ He.emptyTab o = true := by
    cases q : h.get? (He.cT (He.frT h.get? (He.asD h.get? n ++ [sysModules])) (y, none)).2 with
    | none => rw [q] at h6; cases h6
    | some o => rw [q] at h6; exact ⟨o, rfl, h6⟩
  obtain ⟨o, q, z⟩ := h7
  exact ⟨by rw [q, He.emptyTab_eq z], He.frT_none q z, h5⟩
def hookL (n : Nat) (fa : List He.Fa) (fn : List He.DefD) (ex : PySem.W.Frag → Bool) (xs : List Str) : PySem.W.Hook where
  α := He.AlD × Bool
  obs := fun s => obsLG n fa fn ex xs s.heap.get?
  val := fun _ => valB fn
  says := fun _ h => ∃ K : PySem.W.Frag, K.In h ∧ SaysL fa fn ex xs h K
  of := fun _ _ e => ⟨_, He.frT_in, saysL_of e⟩
  keeps := fun _ _ _ ⟨K, hK, c⟩ k => ⟨K, PySem.W.Frag.In.keeps hK k, ⟨c.d, c.own, c.apart, fun y hy => ⟨k _ _ (c.tab y hy).1, (c.tab y hy).2⟩⟩⟩
end
end Pm
set_option Elab.async false
set_option linter.all false
set_option maxRecDepth 100000
set_option maxHeartbeats 0
set_option autoImplicit false
namespace Pm
open PySem PySem.Spec
open PyProof.Rows hiding St
open L2 TL
def top (i : Nat) : Stmt := PySem.Challenge.pw_poolmarks_k74_rating_texts_parsed.main.body.getD i (.Pass ⟨0, 0, 0, 0⟩)
def x0L : List Str := []
def xqL : List Str := ["ParseError"]
def subL : List (Str × Str × Bool) := [("ParseError", "MarksError", true), ("ParseError", "InvalidPanel", false), ("ParseError", "InvalidMark", false), ("ParseError", "InvalidWeight", false), ("ParseError", "ZeroDenominator", false), ("ParseError", "ParseError", true), ("ParseError", "ValueError", true)]
def xfL : List (Str × Str) := [("ParseError", "place")]
abbrev st_ParseError : Stmt := inClass (top 6) 0
abbrev tfl : List Str := ["law"]
section
variable {P : Program} {w : World} {K : PySem.W.Frag} {mg : Str → Option Value} {base : Heap}
abbrev st_draws : Stmt := top 17
abbrev st_next : Stmt := top 18
abbrev st_lowest_ba06 : Stmt := top 22
abbrev st_fraction_6a64 : Stmt := top 23
abbrev st_written_5c80 : Stmt := top 30
abbrev st_one_be76 : Stmt := top 19
abbrev st_bent_word_0551 : Stmt := top 29
abbrev st_fraction_text_1128 : Stmt := top 26
abbrev st_odd_a635 : Stmt := top 21
abbrev st_values_a2af : Stmt := top 32
abbrev st_read_integer_60bf : Stmt := top 24
abbrev st_read_fraction_659f : Stmt := top 25
abbrev st_due_f7bc : Stmt := top 31
abbrev st_equal_17a7 : Stmt := top 20
abbrev st_same_outcome_0e16 : Stmt := top 28
abbrev st_parsed_469d : Stmt := top 27
abbrev st_read_integer_d611 : Stmt := top 13
abbrev st_is_integer_8a5f : Stmt := top 8
abbrev st_common_divisor_2932 : Stmt := top 9
abbrev st_is_fraction_c9ac : Stmt := top 10
abbrev st_read_fraction_3da6 : Stmt := top 14
abbrev st_parse_rating_ac02x : Stmt := top 15
abbrev st_law_0e9c : Stmt := top 33
end
def d_draws : He.DefD := ⟨("_law_draws", none), "_law_draws", "_law_draws", defArgs st_draws, defBody st_draws, defScope st_draws, [], []⟩
def d_next : He.DefD := ⟨("_law_next", none), "_law_next", "_law_next", defArgs st_next, defBody st_next, defScope st_next, [], []⟩
def d_lowest_ba06 : He.DefD := ⟨("_law_lowest", none), "_law_lowest", "_law_lowest", defArgs st_lowest_ba06, defBody st_lowest_ba06, defScope st_lowest_ba06, [], []⟩
def d_fraction_6a64 : He.DefD := ⟨("_law_fraction", none), "_law_fraction", "_law_fraction", defArgs st_fraction_6a64, defBody st_fraction_6a64, defScope st_fraction_6a64, [], []⟩
def d_written_5c80 : He.DefD := ⟨("_law_written", none), "_law_written", "_law_written", defArgs st_written_5c80, defBody st_written_5c80, defScope st_written_5c80, [], []⟩
def d_one_be76 : He.DefD := ⟨("_law_one", none), "_law_one", "_law_one", defArgs st_one_be76, defBody st_one_be76, defScope st_one_be76, [], []⟩
def d_bent_word_0551 : He.DefD := ⟨("_law_bent_word", none), "_law_bent_word", "_law_bent_word", defArgs st_bent_word_0551, defBody st_bent_word_0551, defScope st_bent_word_0551, [], []⟩
def d_fraction_text_1128 : He.DefD := ⟨("_law_fraction_text", none), "_law_fraction_text", "_law_fraction_text", defArgs st_fraction_text_1128, defBody st_fraction_text_1128, defScope st_fraction_text_1128, [], []⟩
def d_odd_a635 : He.DefD := ⟨("_law_odd", none), "_law_odd", "_law_odd", defArgs st_odd_a635, defBody st_odd_a635, defScope st_odd_a635, [], []⟩
def d_values_a2af : He.DefD := ⟨("_law_values", none), "_law_values", "_law_values", defArgs st_values_a2af, defBody st_values_a2af, defScope st_values_a2af, [], []⟩
def d_read_integer_60bf : He.DefD := ⟨("_law_read_integer", none), "_law_read_integer", "_law_read_integer", defArgs st_read_integer_60bf, defBody st_read_integer_60bf, defScope st_read_integer_60bf, [], []⟩
def d_read_fraction_659f : He.DefD := ⟨("_law_read_fraction", none), "_law_read_fraction", "_law_read_fraction", defArgs st_read_fraction_659f, defBody st_read_fraction_659f, defScope st_read_fraction_659f, [], []⟩
def d_due_f7bc : He.DefD := ⟨("_law_due", none), "_law_due", "_law_due", defArgs st_due_f7bc, defBody st_due_f7bc, defScope st_due_f7bc, [], []⟩
def d_equal_17a7 : He.DefD := ⟨("_law_equal", none), "_law_equal", "_law_equal", defArgs st_equal_17a7, defBody st_equal_17a7, defScope st_equal_17a7, [], []⟩
def d_same_outcome_0e16 : He.DefD := ⟨("_law_same_outcome", none), "_law_same_outcome", "_law_same_outcome", defArgs st_same_outcome_0e16, defBody st_same_outcome_0e16, defScope st_same_outcome_0e16, [], []⟩
def d_parsed_469d : He.DefD := ⟨("_law_parsed", none), "_law_parsed", "_law_parsed", defArgs st_parsed_469d, defBody st_parsed_469d, defScope st_parsed_469d, [], []⟩
def d_read_integer_d611 : He.DefD := ⟨("read_integer", none), "read_integer", "read_integer", defArgs st_read_integer_d611, defBody st_read_integer_d611, defScope st_read_integer_d611, [], []⟩
def d_is_integer_8a5f : He.DefD := ⟨("is_integer", none), "is_integer", "is_integer", defArgs st_is_integer_8a5f, defBody st_is_integer_8a5f, defScope st_is_integer_8a5f, [], []⟩
def d_common_divisor_2932 : He.DefD := ⟨("common_divisor", none), "common_divisor", "common_divisor", defArgs st_common_divisor_2932, defBody st_common_divisor_2932, defScope st_common_divisor_2932, [], []⟩
def d_is_fraction_c9ac : He.DefD := ⟨("is_fraction", none), "is_fraction", "is_fraction", defArgs st_is_fraction_c9ac, defBody st_is_fraction_c9ac, defScope st_is_fraction_c9ac, [], []⟩
def d_read_fraction_3da6 : He.DefD := ⟨("read_fraction", none), "read_fraction", "read_fraction", defArgs st_read_fraction_3da6, defBody st_read_fraction_3da6, defScope st_read_fraction_3da6, [], []⟩
def d_parse_rating_ac02x : He.DefD := ⟨("parse_rating", none), "parse_rating", "parse_rating", defArgs st_parse_rating_ac02x, defBody st_parse_rating_ac02x, defScope st_parse_rating_ac02x, [], []⟩
def d_law_0e9c : He.DefD := ⟨("law", none), "law", "law", defArgs st_law_0e9c, defBody st_law_0e9c, defScope st_law_0e9c, [], []⟩
def d_ParseError : He.DefD := ⟨("ParseError", some "__init__"), "__init__", "ParseError.__init__", defArgs st_ParseError, defBody st_ParseError, defScope st_ParseError, [], []⟩
def fnl : List He.DefD := [d_draws, d_next, d_lowest_ba06, d_fraction_6a64, d_written_5c80, d_one_be76, d_bent_word_0551, d_fraction_text_1128, d_odd_a635, d_values_a2af, d_read_integer_60bf, d_read_fraction_659f, d_due_f7bc, d_equal_17a7, d_same_outcome_0e16, d_parsed_469d, d_read_integer_d611, d_is_integer_8a5f, d_common_divisor_2932, d_is_fraction_c9ac, d_read_fraction_3da6, d_parse_rating_ac02x, d_law_0e9c, d_ParseError]
def fal : List He.Fa := [.glo "_law_draws", .glo "_law_next", .glo "_law_lowest", .glo "_law_fraction", .glo "_law_written", .glo "_law_one", .glo "_law_bent_word", .glo "_law_fraction_text", .glo "_law_odd", .glo "_law_values", .glo "_law_read_integer", .glo "_law_read_fraction", .glo "_law_due", .glo "_law_equal", .glo "_law_same_outcome", .glo "_law_parsed", .glo "read_integer", .glo "is_integer", .glo "common_divisor", .glo "is_fraction", .glo "read_fraction", .glo "parse_rating", .glo "law", .free "abs", .free "all", .free "any", .free "bool", .free "enumerate", .free "int", .free "isinstance", .free "len", .free "list", .free "max", .free "range", .free "repr", .free "str", .free "tuple", .free "zip", .str "DIGITS" "0123456789"]
abbrev R : PySem.W.OpenRow := PySem.W.OpenLaw.row PySem.Challenge.rw_poolmarks_k74_rating_texts_parsed
def exl (K : PySem.W.Frag) : Bool := sysB K && (excsB K x0L xqL subL xfL && (initB K ("ParseError", "place") && (true)))
abbrev hk : PySem.W.Hook := hookL 5 fal fnl exl tfl
def ob (s : PySem.W.SharedT) : He.AlD × Bool := obsLG 5 fal fnl exl tfl (HandSHeadRun.getT s)
def loose : List PySem.Str := (["MarksError", "ZeroDenominator", "InvalidPanel", "InvalidMark", "InvalidWeight", "ParseError", "is_integer", "common_divisor", "is_fraction", "DIGITS", "read_integer", "read_fraction", "parse_rating", "_law_draws", "_law_next", "_law_one", "_law_equal", "_law_odd", "_law_lowest", "_law_fraction", "_law_read_integer", "_law_read_fraction", "_law_fraction_text", "_law_parsed", "_law_same_outcome", "_law_bent_word", "_law_written", "_law_due", "_law_values"] : List PySem.Str)
theorem run (w : World) : HandSHeadRun.RunEq R (PySem.W.view R.prog [33]) hk ob 4000 loose w := by
  intro os
  kernel_rfl
end Pm
set_option Elab.async false
set_option linter.all false
set_option maxRecDepth 100000
set_option maxHeartbeats 1000000
namespace Pm
set_option autoImplicit false
open PySem PySem.Spec
open PyProof.Rows hiding St
open L2

instance : Coe Addr Ad := ⟨.a⟩
def Ad.at (Z : Hp) : Ad → V → Prop
  | .a x, v => v = .ref x
  | .f φ, v => ∀ Z', Same Z Z' → φ Z' v
theorem Ad.at.mono {Z Z' : Hp} (e : Same Z Z') : ∀ {p : Ad} {v : V}, p.at Z v → p.at Z' v
  | .a _, _, h => h
  | .f _, _, h => fun Z2 k => h Z2 fun a o x => k a o (e a o x)
inductive D where
  | non | bl (b : Bool) | int (i : Int) | str (x : Str)
  | lst (xs : List D) | tup (xs : List D) | dct (ks : List Key) (xs : List D) | obj (a : Ad)

mutual
def At (K : PySem.W.Frag) (Z : Hp) : D → V → Prop
  | .non, v => v = .non
  | .bl b, v => v = .bl b
  | .int i, v => v = .int i
  | .str x, v => v = .str x
  | .lst xs, v => ∃ a vs, v = .ref a ∧ Z a = some (.lst vs) ∧ Ats K Z xs vs
  | .tup xs, v => ∃ a vs, v = .ref a ∧ SqT K Z a vs ∧ Ats K Z xs vs
  | .dct ks xs, v => ∃ a kvs, v = .ref a ∧ Z a = some (.dK kvs) ∧ kvs.map (·.1) = ks ∧ Ats K Z xs (kvs.map (·.2))
  | .obj a, v => a.at Z v
def Ats (K : PySem.W.Frag) (Z : Hp) : List D → List V → Prop
  | [], vs => vs = []
  | d :: ds, vs => ∃ w ws, vs = w :: ws ∧ At K Z d w ∧ Ats K Z ds ws
end
theorem seqT {K : PySem.W.Frag} {H H' : Hp} {a : Addr} {xs : List V} (e : Same H H') (h : SqT K H a xs) : SqT K H' a xs := by
  rcases h with (h | ⟨o, h⟩) | h
  · exact .inl (.inl (e _ _ h))
  · exact .inl (.inr ⟨o, e _ _ h⟩)
  · exact .inr h
section
variable {K : PySem.W.Frag} {Z Z' : Hp}
mutual
theorem At.mono (e : Same Z Z') : ∀ (d : D) (v : V), At K Z d v → At K Z' d v
  | .non, _, h => h
  | .bl _, _, h => h
  | .int _, _, h => h
  | .str _, _, h => h
  | .lst xs, v, h => by
    simp only [At] at h ⊢
    obtain ⟨a, vs, h1, h2, h3⟩ := h
    exact ⟨a, vs, h1, e _ _ h2, Ats.mono e xs vs h3⟩
  | .tup xs, v, h => by
    simp only [At] at h ⊢
    obtain ⟨a, vs, h1, h2, h3⟩ := h
    exact ⟨a, vs, h1, seqT e h2, Ats.mono e xs vs h3⟩
  | .dct ks xs, v, h => by
    simp only [At] at h ⊢
    obtain ⟨a, vs, h1, h2, h3, h4⟩ := h
    exact ⟨a, vs, h1, e _ _ h2, h3, Ats.mono e xs _ h4⟩
  | .obj _, _, h => Ad.at.mono e h
theorem Ats.mono (e : Same Z Z') : ∀ (ds : List D) (vs : List V), Ats K Z ds vs → Ats K Z' ds vs
  | [], _, h => h
  | d :: ds, vs, h => by
    simp only [Ats] at h ⊢
    obtain ⟨w, ws, h1, h2, h3⟩ := h
    exact ⟨w, ws, h1, At.mono e d w h2, Ats.mono e ds ws h3⟩
end
theorem Ats.len : ∀ {ds : List D} {vs : List V}, Ats K Z ds vs → vs.length = ds.length
  | [], _, h => by simp only [Ats] at h; subst h; rfl
  | d :: ds, vs, h => by
    simp only [Ats] at h
    obtain ⟨w, ws, rfl, _, h3⟩ := h
    simp [Ats.len h3]
theorem Ats.get : ∀ {ds : List D} {vs : List V} {i : Nat} {d : D}, Ats K Z ds vs → ds[i]? = some d → ∃ v, vs[i]? = some v ∧ At K Z d v
  | [], _, _, _, _, e => by simp at e
  | d :: ds, vs, i, d', h, e => by
    simp only [Ats] at h
    obtain ⟨w, ws, rfl, h2, h3⟩ := h
    cases i with
    | zero => simp at e; subst e; exact ⟨w, rfl, h2⟩
    | succ i =>
      obtain ⟨v, h4, h5⟩ := Ats.get (i := i) h3 (by simpa using e)
      exact ⟨v, by simpa using h4, h5⟩
theorem Ats.append : ∀ {ds es : List D} {vs ws : List V}, Ats K Z ds vs → Ats K Z es ws → Ats K Z (ds ++ es) (vs ++ ws)
  | [], _, _, _, h, h' => by simp only [Ats] at h; subst h; exact h'
  | d :: ds, es, vs, ws, h, h' => by
    simp only [Ats] at h
    obtain ⟨w, vs, rfl, h2, h3⟩ := h
    exact ⟨w, vs ++ ws, rfl, h2, Ats.append h3 h'⟩
theorem Ats.take : ∀ {ds : List D} {vs : List V} (n : Nat), Ats K Z ds vs → Ats K Z (ds.take n) (vs.take n)
  | _, _, 0, _ => by simp [Ats]
  | [], _, n + 1, h => by simp only [Ats] at h; subst h; simp [Ats]
  | d :: ds, vs, n + 1, h => by
    simp only [Ats] at h
    obtain ⟨w, vs, rfl, h2, h3⟩ := h
    exact ⟨w, vs.take n, rfl, h2, Ats.take n h3⟩
theorem Ats.drop : ∀ {ds : List D} {vs : List V} (n : Nat), Ats K Z ds vs → Ats K Z (ds.drop n) (vs.drop n)
  | _, _, 0, h => h
  | [], _, n + 1, h => by simp only [Ats] at h; subst h; simp [Ats]
  | d :: ds, vs, n + 1, h => by
    simp only [Ats] at h
    obtain ⟨w, vs, rfl, h2, h3⟩ := h
    exact Ats.drop n h3
theorem Ats.bls : ∀ {ns : List Bool} {vs : List V}, Ats K Z (ns.map D.bl) vs → vs = ns.map V.bl
  | [], _, h => h
  | n :: ns, vs, h => by
    simp only [List.map_cons, Ats] at h
    obtain ⟨w, ws, rfl, h2, h3⟩ := h
    simp only [At] at h2
    subst h2
    rw [Ats.bls h3]; rfl
theorem Ats.strs : ∀ {ns : List Str} {vs : List V}, Ats K Z (ns.map D.str) vs → vs = ns.map V.str
  | [], _, h => h
  | n :: ns, vs, h => by
    simp only [List.map_cons, Ats] at h
    obtain ⟨w, ws, rfl, h2, h3⟩ := h
    simp only [At] at h2
    subst h2
    rw [Ats.strs h3]; rfl
end

inductive L where | val (d : D) | own (ds : List D) | dic (kds : List (Key × D))
def L.ow : L → Bool | .val _ => false | _ => true
def L.ds : L → List D | .val _ => [] | .own ds => ds | .dic kds => kds.map (·.2)
def L.ho : L → List V → HO | .dic kds, vs => .dK ((kds.map (·.1)).zip vs) | _, vs => .lst vs
structure S (γ : Type) where
  ρ : List (Option L)
  g : γ
def none0 (K : PySem.W.Frag) : GP Unit := ⟨K, fun _ _ => False, fun _ _ _ => True, fun _ _ _ _ _ _ _ _ => trivial, fun _ _ _ _ _ h => h.elim, fun _ => none⟩

structure Fra where
  F : Hp
  B : Addr → Prop
  bf : ∀ a, B a → ∃ o, F a = some o
variable {γ : Type}
structure Rel (G : GP γ) (F : Fra) (Z : Hp) (s : S γ) (σ : St) (H : Hp) : Prop where
  z : Same Z H
  f : Same F.F H
  zb : ∀ a, F.B a → Z a = none
  len : σ.length = s.ρ.length
  loc : ∀ (i : Nat) (d : D), s.ρ[i]? = some (some (.val d)) → ∃ v, σ[i]? = some (some v) ∧ At G.K Z d v
  ownL : ∀ (i : Nat) (l : L), s.ρ[i]? = some (some l) → l.ow = true → ∃ a vs, σ[i]? = some (some (.ref a)) ∧ H a = some (l.ho vs) ∧ Ats G.K Z l.ds vs ∧ Z a = none ∧ F.F a = none ∧ ¬ G.foot s.g a
  injL : ∀ (i j : Nat) (l m : L) (a : Addr), i ≠ j → s.ρ[i]? = some (some l) → l.ow = true → s.ρ[j]? = some (some m) → m.ow = true → σ[i]? = some (some (.ref a)) → σ[j]? = some (some (.ref a)) → False
  j : G.J s.g Z H
  zf : ∀ a, G.foot s.g a → Z a = none
  ff : ∀ a, G.foot s.g a → F.F a = none
  fl : Same G.fl Z
theorem Rel.own {G : GP γ} {F : Fra} {Z : Hp} {s : S γ} {σ : St} {H : Hp} (r : Rel G F Z s σ H) (i : Nat) (ds : List D) (h : s.ρ[i]? = some (some (.own ds))) : ∃ a vs, σ[i]? = some (some (.ref a)) ∧ H a = some (.lst vs) ∧ Ats G.K Z ds vs ∧ Z a = none ∧ F.F a = none ∧ ¬ G.foot s.g a := r.ownL i _ h rfl
abbrev Nob (s : S γ) (σ : St) (a : Addr) : Prop := ∀ (i : Nat) (l : L), s.ρ[i]? = some (some l) → l.ow = true → σ[i]? ≠ some (some (.ref a))
structure Wk (s s' : S γ) : Prop where
  g : s'.g = s.g
  len : s'.ρ.length = s.ρ.length
  le : ∀ (i : Nat) l, s'.ρ[i]? = some (some l) → s.ρ[i]? = some (some l)
theorem Wk.refl (s : S γ) : Wk s s := ⟨rfl, rfl, fun _ _ h => h⟩
section
variable {G : GP γ} {F : Fra} {Z : Hp} {s s' : S γ} {σ : St} {H H' : Hp}
theorem Fra.nb {F : Fra} {a : Addr} (h : F.F a = none) : ¬ F.B a := fun b => by
  obtain ⟨o, e⟩ := F.bf a b
  rw [h] at e; cases e
theorem Rel.weak (r : Rel G F Z s σ H) (w : Wk s s') : Rel G F Z s' σ H := by
  obtain ⟨g', ρ'⟩ := s'
  obtain ⟨hg, hl, he⟩ := w
  simp only at hg
  subst hg
  exact ⟨r.z, r.f, r.zb, r.len.trans hl.symm, fun i d h => r.loc i d (he _ _ h), fun i l h => r.ownL i l (he _ _ h), fun i j l m a n h1 o1 h2 => r.injL i j l m a n (he _ _ h1) o1 (he _ _ h2), r.j, r.zf, r.ff, r.fl⟩
theorem Rel.grow (r : Rel G F Z s σ H) (k : Same H H') : Rel G F Z s σ H' :=
  ⟨r.z.trans k, r.f.trans k, r.zb, r.len, r.loc, fun i l h o => let ⟨a, vs, h1, h2, h3⟩ := r.ownL i l h o; ⟨a, vs, h1, k _ _ h2, h3⟩, r.injL,
    G.stay _ _ _ _ _ r.j (Same.refl _) fun a h => by
      obtain ⟨o, e⟩ := G.live _ _ _ _ r.j h
      rw [e, k _ _ e], r.zf, r.ff, r.fl⟩
theorem same_upd {p : Addr} {o : HO} (h : H p = none) : Same H (upd H p o) := fun b x e => by
  rw [upd_ne (ne_of_none e h)]
  exact e
theorem same_upd2 {p : Addr} {o : HO} (k : Same Z H) (h : H p = some o) (hz : Z p = none) : Same (upd Z p o) H := fun b x e => by
  by_cases hb : b = p
  · subst hb; rw [upd_same] at e; rw [h, ← e]
  · rw [upd_ne hb] at e; exact k _ _ e
theorem Rel.settle (r : Rel G F Z s σ H) {p : Addr} {o : HO} (hp : H p = some o) (hz : Z p = none) (hf : ¬ G.foot s.g p) (hb : ¬ F.B p)
    (ho : Nob s σ p) : Rel G F (upd Z p o) s σ H := by
  have k := same_upd (o := o) hz
  refine ⟨same_upd2 r.z hp hz, r.f, fun a h => by rw [upd_ne (show a ≠ p from fun e => hb (by rw [← e]; exact h))]; exact r.zb a h, r.len, fun i d h => ?_, fun i l h o1 => ?_, r.injL, G.stay _ _ _ _ _ r.j k fun _ _ => rfl, fun a h => ?_, r.ff, r.fl.trans k⟩
  · obtain ⟨v, h1, h2⟩ := r.loc i d h
    exact ⟨v, h1, At.mono k _ _ h2⟩
  · obtain ⟨a, vs, h1, h2, h3, h4, h5⟩ := r.ownL i l h o1
    refine ⟨a, vs, h1, h2, Ats.mono k _ _ h3, ?_, h5⟩
    rw [upd_ne (show a ≠ p from fun e => ho i l h o1 (by rw [← e]; exact h1))]
    exact h4
  · rw [upd_ne (show a ≠ p from fun e => hf (by rw [← e]; exact h))]
    exact r.zf a h
theorem Rel.new (r : Rel G F Z s σ H) {p : Addr} {o : HO} (hp : H p = none) : Rel G F (upd Z p o) s σ (upd H p o) := by
  have k := same_upd (o := o) hp
  refine (r.grow k).settle upd_same (r.z.free hp) (fun h => ?_) (Fra.nb (r.f.free hp)) fun i l h o1 e => ?_
  · obtain ⟨o, e⟩ := G.live _ _ _ _ r.j h
    rw [hp] at e; cases e
  · obtain ⟨a, vs, h1, h2, _⟩ := r.ownL i l h o1
    rw [h1] at e
    cases e
    rw [hp] at h2; cases h2
theorem Rel.put (r : Rel G F Z s σ H) {i : Nat} {d : D} {v : V} (h : At G.K Z d v) : Rel G F Z ⟨s.ρ.set i (some (.val d)), s.g⟩ (σ.set i (some v)) H := by
  refine ⟨r.z, r.f, r.zb, by simpa using r.len, fun j e hj => ?_, fun j l hj o1 => ?_, fun j k l m a n h1 o1 h2 o2 h3 h4 => ?_, r.j, r.zf, r.ff, r.fl⟩
  · by_cases hij : i = j
    · subst hij
      have hl : i < s.ρ.length := by
        have := (List.getElem?_eq_some_iff.mp hj).1
        simpa using this
      rw [List.getElem?_set_self hl] at hj
      cases hj
      exact ⟨v, by rw [List.getElem?_set_self (by rw [r.len]; exact hl)], h⟩
    · rw [List.getElem?_set_ne hij] at hj
      rw [List.getElem?_set_ne hij]
      exact r.loc j e hj
  · have hij : i ≠ j := by
      intro e
      subst e
      have hl : i < s.ρ.length := by
        have := (List.getElem?_eq_some_iff.mp hj).1
        simpa using this
      rw [List.getElem?_set_self hl] at hj
      cases hj
      cases o1
    rw [List.getElem?_set_ne hij] at hj
    rw [List.getElem?_set_ne hij]
    exact r.ownL j l hj o1
  · have ne : ∀ {j : Nat} {l : L}, (s.ρ.set i (some (L.val d)))[j]? = some (some l) → l.ow = true → i ≠ j := fun {j l} hj o1 e => by
      subst e
      have hl : i < s.ρ.length := by
        have := (List.getElem?_eq_some_iff.mp hj).1
        simpa using this
      rw [List.getElem?_set_self hl] at hj
      cases hj
      cases o1
    have n1 := ne h1 o1
    have n2 := ne h2 o2
    rw [List.getElem?_set_ne n1] at h1 h3
    rw [List.getElem?_set_ne n2] at h2 h4
    exact r.injL j k l m a n h1 o1 h2 o2 h3 h4
theorem Rel.putW (r : Rel G F Z s σ H) {i : Nat} {l : L} (ol : l.ow = true) {a : Addr} {vs : List V} (ha : H a = some (l.ho vs)) (h : Ats G.K Z l.ds vs) (hz : Z a = none) (hF : F.F a = none) (hf : ¬ G.foot s.g a)
    (ho : Nob s σ a) : Rel G F Z ⟨s.ρ.set i (some l), s.g⟩ (σ.set i (some (.ref a))) H := by
  have at_i : ∀ {m : L}, (s.ρ.set i (some l))[i]? = some (some m) → i < s.ρ.length ∧ m = l := fun {m} hj => by
    have hl : i < s.ρ.length := by
      have := (List.getElem?_eq_some_iff.mp hj).1
      simpa using this
    rw [List.getElem?_set_self hl] at hj
    cases hj
    exact ⟨hl, rfl⟩
  have other : ∀ {j : Nat} {m : L}, i ≠ j → (s.ρ.set i (some l))[j]? = some (some m) → m.ow = true → (σ.set i (some (V.ref a)))[j]? ≠ some (some (.ref a)) := fun {j m} n h1 o1 => by
    rw [List.getElem?_set_ne n] at h1 ⊢
    exact ho j m h1 o1
  refine ⟨r.z, r.f, r.zb, by simpa using r.len, fun j e hj => ?_, fun j m hj o1 => ?_, fun j k m m' b n h1 o1 h2 o2 h3 h4 => ?_, r.j, r.zf, r.ff, r.fl⟩
  · have hij : i ≠ j := by
      intro e; subst e
      obtain ⟨_, e⟩ := at_i hj
      rw [← e] at ol; cases ol
    rw [List.getElem?_set_ne hij] at hj ⊢
    exact r.loc j e hj
  · by_cases hij : i = j
    · subst hij
      obtain ⟨hl, e⟩ := at_i hj
      subst e
      exact ⟨a, vs, List.getElem?_set_self (by rw [r.len]; exact hl), ha, h, hz, hF, hf⟩
    · rw [List.getElem?_set_ne hij] at hj ⊢
      exact r.ownL j m hj o1
  · by_cases hij : i = j
    · subst hij
      obtain ⟨hl, e⟩ := at_i h1
      rw [List.getElem?_set_self (by rw [r.len]; exact hl)] at h3
      cases h3
      exact other n h2 o2 h4
    · by_cases hik : i = k
      · subst hik
        obtain ⟨hl, e⟩ := at_i h2
        rw [List.getElem?_set_self (by rw [r.len]; exact hl)] at h4
        cases h4
        exact other (Ne.symm n) h1 o1 h3
      · rw [List.getElem?_set_ne hij] at h1 h3
        rw [List.getElem?_set_ne hik] at h2 h4
        exact r.injL j k m m' b n h1 o1 h2 o2 h3 h4
theorem Rel.putOwn (r : Rel G F Z s σ H) {i : Nat} {ds : List D} {a : Addr} {vs : List V} (ha : H a = some (.lst vs)) (h : Ats G.K Z ds vs) (hz : Z a = none) (hF : F.F a = none) (hf : ¬ G.foot s.g a)
    (ho : Nob s σ a) : Rel G F Z ⟨s.ρ.set i (some (.own ds)), s.g⟩ (σ.set i (some (.ref a))) H := r.putW (l := .own ds) rfl ha h hz hF hf ho
theorem Rel.writeL (r : Rel G F Z s σ H) {i : Nat} {l m : L} {a : Addr} {ws : List V} (hi : s.ρ[i]? = some (some l)) (ol : l.ow = true) (om : m.ow = true) (ha : σ[i]? = some (some (.ref a))) (h : Ats G.K Z m.ds ws) :
    Rel G F Z ⟨s.ρ.set i (some m), s.g⟩ σ (upd H a (m.ho ws)) := by
  obtain ⟨b, vs, h1, h2, h3, h4, h5, h6⟩ := r.ownL i l hi ol
  rw [ha] at h1
  cases h1
  have hl : i < s.ρ.length := (List.getElem?_eq_some_iff.mp hi).1
  have back : ∀ {j : Nat} {n : L}, (s.ρ.set i (some m))[j]? = some (some n) → n.ow = true → ∃ n', s.ρ[j]? = some (some n') ∧ n'.ow = true := fun {j n} hj o1 => by
    by_cases hij : i = j
    · subst hij; exact ⟨l, hi, ol⟩
    · rw [List.getElem?_set_ne hij] at hj; exact ⟨n, hj, o1⟩
  refine ⟨fun b o e => ?_, fun b o e => ?_, r.zb, by simpa using r.len, fun j e hj => ?_, fun j n hj o1 => ?_, fun j k p q b n h1 o1 h2 o2 h3 h4 => ?_, G.stay _ _ _ _ _ r.j (Same.refl _) fun b hb => ?_, r.zf, r.ff, r.fl⟩
  · rw [upd_ne (ne_of_none e h4)]; exact r.z _ _ e
  · rw [upd_ne (ne_of_none e h5)]; exact r.f _ _ e
  · have hij : i ≠ j := by
      intro e; subst e
      rw [List.getElem?_set_self hl] at hj
      cases hj
      cases om
    rw [List.getElem?_set_ne hij] at hj
    exact r.loc j e hj
  · by_cases hij : i = j
    · subst hij
      rw [List.getElem?_set_self hl] at hj
      cases hj
      exact ⟨a, ws, ha, upd_same, h, h4, h5, h6⟩
    · rw [List.getElem?_set_ne hij] at hj
      obtain ⟨c, us, k1, k2, k3⟩ := r.ownL j n hj o1
      refine ⟨c, us, k1, ?_, k3⟩
      rw [upd_ne]
      · exact k2
      · intro e; subst e
        exact r.injL i j l n c hij hi ol hj o1 ha k1
  · obtain ⟨p', e1, f1⟩ := back h1 o1
    obtain ⟨q', e2, f2⟩ := back h2 o2
    exact r.injL j k p' q' b n e1 f1 e2 f2 h3 h4
  · exact upd_ne fun e => h6 (e ▸ hb)
theorem Rel.write (r : Rel G F Z s σ H) {i : Nat} {ds es : List D} {a : Addr} {ws : List V} (hi : s.ρ[i]? = some (some (.own ds))) (ha : σ[i]? = some (some (.ref a))) (h : Ats G.K Z es ws) :
    Rel G F Z ⟨s.ρ.set i (some (.own es)), s.g⟩ σ (upd H a (.lst ws)) := r.writeL (l := .own ds) (m := .own es) hi rfl rfl ha h
theorem map_fst_zip' : ∀ {ks : List Key} {vs : List V}, ks.length = vs.length → (ks.zip vs).map (·.1) = ks
  | [], [], _ => rfl
  | k :: ks, v :: vs, h => by simp only [List.zip_cons_cons, List.map_cons, map_fst_zip' (ks := ks) (vs := vs) (by simpa using h)]
theorem map_snd_zip' : ∀ {ks : List Key} {vs : List V}, ks.length = vs.length → (ks.zip vs).map (·.2) = vs
  | [], [], _ => rfl
  | k :: ks, v :: vs, h => by simp only [List.zip_cons_cons, List.map_cons, map_snd_zip' (ks := ks) (vs := vs) (by simpa using h)]
def L.d : L → D | .val d => d | .own ds => .lst ds | .dic kds => .dct (kds.map (·.1)) (kds.map (·.2))
theorem At.ofL {K : PySem.W.Frag} {l : L} (ol : l.ow = true) {a : Addr} {vs : List V} (hz : Z a = some (l.ho vs)) (h : Ats K Z l.ds vs) : At K Z l.d (.ref a) := by
  cases l with
  | val d => cases ol
  | own ds => exact ⟨a, vs, rfl, hz, h⟩
  | dic kds =>
    have hl : (kds.map (·.1)).length = vs.length := by have := h.len; simp only [L.ds, List.length_map] at this ⊢; exact this.symm
    exact ⟨a, _, rfl, hz, map_fst_zip' hl, by rw [map_snd_zip' hl]; exact h⟩
theorem Rel.freezeL (r : Rel G F Z s σ H) {i : Nat} {l : L} (hi : s.ρ[i]? = some (some l)) (ol : l.ow = true) :
    ∃ a Z', Same Z Z' ∧ σ[i]? = some (some (.ref a)) ∧ At G.K Z' l.d (.ref a) ∧ Rel G F Z' ⟨s.ρ.set i (some (.val l.d)), s.g⟩ σ H := by
  obtain ⟨a, vs, h1, h2, h3, h4, h5, h6⟩ := r.ownL i l hi ol
  have hl : i < s.ρ.length := (List.getElem?_eq_some_iff.mp hi).1
  have k := same_upd (o := l.ho vs) h4
  have at' : At G.K (upd Z a (l.ho vs)) l.d (.ref a) := At.ofL ol upd_same (Ats.mono k _ _ h3)
  refine ⟨a, upd Z a (l.ho vs), k, h1, at', same_upd2 r.z h2 h4, r.f, fun b hb => by rw [upd_ne (show b ≠ a from fun e => Fra.nb h5 (by rw [← e]; exact hb))]; exact r.zb b hb, by simpa using r.len, fun j e hj => ?_, fun j m hj o1 => ?_, fun j k p q b n q1 o1 q2 o2 q3 q4 => ?_, G.stay _ _ _ _ _ r.j k fun _ _ => rfl, fun b hb => ?_, r.ff, r.fl.trans k⟩
  · by_cases hij : i = j
    · subst hij
      rw [List.getElem?_set_self hl] at hj
      cases hj
      exact ⟨_, h1, at'⟩
    · rw [List.getElem?_set_ne hij] at hj
      obtain ⟨v, k1, k2⟩ := r.loc j e hj
      exact ⟨v, k1, At.mono k _ _ k2⟩
  · have hij : i ≠ j := by
      intro e; subst e
      rw [List.getElem?_set_self hl] at hj
      cases hj
      cases o1
    rw [List.getElem?_set_ne hij] at hj
    obtain ⟨c, us, k1, k2, k3, k4, k5⟩ := r.ownL j m hj o1
    refine ⟨c, us, k1, k2, Ats.mono k _ _ k3, ?_, k5⟩
    rw [upd_ne]
    · exact k4
    · intro e; subst e
      exact r.injL i j l m c hij hi ol hj o1 h1 k1
  · have ne : ∀ {j : Nat} {m : L}, (s.ρ.set i (some (L.val l.d)))[j]? = some (some m) → m.ow = true → s.ρ[j]? = some (some m) := fun {j m} hj o1 => by
      by_cases hij : i = j
      · subst hij
        rw [List.getElem?_set_self hl] at hj
        cases hj
        cases o1
      · rw [List.getElem?_set_ne hij] at hj; exact hj
    exact r.injL j k p q b n (ne q1 o1) o1 (ne q2 o2) o2 q3 q4
  · rw [upd_ne (show b ≠ a from fun e => h6 (by rw [← e]; exact hb))]
    exact r.zf b hb
theorem Rel.freeze (r : Rel G F Z s σ H) {i : Nat} {ds : List D} (hi : s.ρ[i]? = some (some (.own ds))) :
    ∃ a Z', Same Z Z' ∧ σ[i]? = some (some (.ref a)) ∧ At G.K Z' (.lst ds) (.ref a) ∧ Rel G F Z' ⟨s.ρ.set i (some (.val (.lst ds))), s.g⟩ σ H := r.freezeL (l := .own ds) hi rfl
end
end Pm
set_option Elab.async false
set_option linter.all false
set_option maxRecDepth 100000
set_option maxHeartbeats 1000000
set_option autoImplicit false
namespace Pm
open PySem PySem.Spec
open PyProof.Rows hiding St
open L2
variable {γ : Type}

abbrev PEx (γ : Type) := S γ → (D → S γ → Prop) → Prop
abbrev PTx (γ : Type) := S γ → (Bool → S γ → Prop) → Prop
abbrev PAx (γ : Type) := S γ → (List D → S γ → Prop) → Prop
abbrev POx (γ : Type) := S γ → (Option Int → S γ → Prop) → Prop
structure En (γ : Type) where
  nx : S γ → Prop
  rt : D → γ → Prop
  bk : S γ → Prop := fun _ => False
  ct : S γ → Prop := fun _ => False
abbrev PSx (γ : Type) := En γ → S γ → Prop
abbrev PGx (γ : Type) := D → S γ → (S γ → Prop) → Prop
abbrev DK := D → Prop

def lE (G : GP γ) (t : PEx γ) : TE := fun σ H Q => ∃ F Z s R, Rel G F Z s σ H ∧ t s R ∧ ∀ d s' Z' v H', R d s' → Same Z Z' → Rel G F Z' s' σ H' → At G.K Z' d v → Q v H'
def lT (G : GP γ) (t : PTx γ) : TT := fun σ H Q => ∃ F Z s R, Rel G F Z s σ H ∧ t s R ∧ ∀ b s' Z' H', R b s' → Same Z Z' → Rel G F Z' s' σ H' → Q b H'
def lA (G : GP γ) (t : PAx γ) : TA := fun σ H Q => ∃ F Z s R, Rel G F Z s σ H ∧ t s R ∧ ∀ ds s' Z' vs H', R ds s' → Same Z Z' → Rel G F Z' s' σ H' → Ats G.K Z' ds vs → Q vs H'
def lO (G : GP γ) (t : POx γ) : TO := fun σ H Q => ∃ F Z s R, Rel G F Z s σ H ∧ t s R ∧ ∀ o s' Z' H', R o s' → Same Z Z' → Rel G F Z' s' σ H' → Q o H'
def lF (G : GP γ) (t : PAx γ) : TE := fun σ H Q => ∃ F Z s R, Rel G F Z s σ H ∧ t s R ∧ ∀ ds s' Z' a vs H', R ds s' → Same Z Z' → Rel G F Z' s' σ H' → H' a = some (.lst vs) → Ats G.K Z' ds vs → Z' a = none → F.F a = none → ¬ G.foot s'.g a →
  Nob s' σ a → Q (.ref a) H'
def lS (G : GP γ) (t : PSx γ) : TS := fun De σ H => ∃ F Z s E, Rel G F Z s σ H ∧ t E s ∧
  (∀ s' Z' σ' H', E.nx s' → Same Z Z' → Rel G F Z' s' σ' H' → De.nx σ' H') ∧
  (∀ d s' Z' σ' v H', E.rt d s'.g → Same Z Z' → Rel G F Z' s' σ' H' → At G.K Z' d v → De.rt v H') ∧
  (∀ s' Z' σ' H', E.bk s' → Same Z Z' → Rel G F Z' s' σ' H' → De.bk σ' H') ∧
  (∀ s' Z' σ' H', E.ct s' → Same Z Z' → Rel G F Z' s' σ' H' → De.ct σ' H')
def lG (G : GP γ) (js : List Nat) (t : PGx γ) : TG := fun v σ H Q => ∃ F Z s d R, Rel G F Z s σ H ∧ At G.K Z d v ∧ t d s R ∧
  ∀ s' Z' σ' H', R s' → Same Z Z' → Rel G F Z' s' σ' H' → H' = H → (∀ j, j ∉ js → σ'[j]? = σ[j]?) → σ'.length = σ.length → Q σ' H'

abbrev QE (X : Cx) (G : GP γ) (e : Expr) (t : PEx γ) : Prop := PE X e (lE G t)
abbrev QF (X : Cx) (G : GP γ) (e : Expr) (t : PAx γ) : Prop := PE X e (lF G t)
abbrev QT (X : Cx) (G : GP γ) (e : Expr) (t : PTx γ) : Prop := PT X e (lT G t)
abbrev QW (X : Cx) (G : GP γ) (e : Expr) (t : PTx γ) : Prop := PW X e (lT G t)
abbrev QA (X : Cx) (G : GP γ) (es : List Expr) (t : PAx γ) : Prop := PA X es (lA G t)
abbrev QO (X : Cx) (G : GP γ) (e : Option Expr) (t : POx γ) : Prop := PO X e (lO G t)
abbrev QS (X : Cx) (G : GP γ) (st : Stmt) (t : PSx γ) : Prop := PS X st (lS G t)
abbrev QSs (X : Cx) (G : GP γ) (st : List Stmt) (t : PSx γ) : Prop := PSs X st (lS G t)
theorem PE.imp {X : Cx} {e : Expr} {t t' : TE} (h : PE X e t) (k : ∀ σ H Q, t' σ H Q → t σ H Q) : PE X e t' := ⟨fun pins s σ H Q I w => h.run pins s σ H Q I (k _ _ _ w)⟩
theorem PT.imp {X : Cx} {e : Expr} {t t' : TT} (h : PT X e t) (k : ∀ σ H Q, t' σ H Q → t σ H Q) : PT X e t' := ⟨fun pins s σ H Q I w => h.run pins s σ H Q I (k _ _ _ w)⟩
theorem PW.imp {X : Cx} {e : Expr} {t t' : TT} (h : PW X e t) (k : ∀ σ H Q, t' σ H Q → t σ H Q) : PW X e t' := ⟨fun wh pins s σ H Q I w => h.run wh pins s σ H Q I (k _ _ _ w)⟩
theorem PA.imp {X : Cx} {e : List Expr} {t t' : TA} (h : PA X e t) (k : ∀ σ H Q, t' σ H Q → t σ H Q) : PA X e t' := ⟨fun pos pins s σ H Q I w => h.run pos pins s σ H Q I (k _ _ _ w)⟩
theorem PO.imp {X : Cx} {e : Option Expr} {t t' : TO} (h : PO X e t) (k : ∀ σ H Q, t' σ H Q → t σ H Q) : PO X e t' := ⟨fun pins s σ H Q I w => h.run pins s σ H Q I (k _ _ _ w)⟩
theorem PS.imp {X : Cx} {e : Stmt} {t t' : TS} (h : PS X e t) (k : ∀ De σ H, t' De σ H → t De σ H) : PS X e t' := ⟨fun pins s σ H De I w => h.run pins s σ H De I (k _ _ _ w)⟩
theorem PSs.imp {X : Cx} {e : List Stmt} {t t' : TS} (h : PSs X e t) (k : ∀ De σ H, t' De σ H → t De σ H) : PSs X e t' := ⟨fun pins s σ H De I w => h.run pins s σ H De I (k _ _ _ w)⟩
theorem PG.imp {X : Cx} {e : Expr} {t t' : TG} (h : PG X e t) (k : ∀ v σ H Q, t' v σ H Q → t v σ H Q) : PG X e t' := ⟨fun pins s σ H v u Q I r w => h.run pins s σ H v u Q I r (k _ _ _ _ w)⟩

structure Ext (Z H Z' H' : Hp) : Prop where
  hh : Same H H'
  zz : Same Z Z'
  zh : Same Z' H'
  nw : ∀ a o, Z' a = some o → Z a = none → H a = none
theorem Ext.refl {Z H : Hp} (k : Same Z H) : Ext Z H Z H := ⟨Same.refl _, Same.refl _, k, fun a o h h' => by rw [h] at h'; cases h'⟩
theorem Ext.new {Z H : Hp} {p : Addr} {o : HO} (k : Same Z H) (hp : H p = none) : Ext Z H (upd Z p o) (upd H p o) := by
  have zp := k.free hp
  refine ⟨same_upd hp, same_upd zp, fun a u e => ?_, fun a u e n => ?_⟩
  · by_cases h : a = p
    · subst h; rw [upd_same] at e ⊢; exact e
    · rw [upd_ne h] at e ⊢; exact k _ _ e
  · by_cases h : a = p
    · rw [h]; exact hp
    · rw [upd_ne h, n] at e; cases e
section
variable {G : GP γ} {F : Fra} {Z Z' : Hp} {s : S γ} {σ : St} {H H' : Hp}
theorem Rel.ext (r : Rel G F Z s σ H) (x : Ext Z H Z' H') : Rel G F Z' s σ H' := by
  have zn : ∀ {a : Addr}, Z a = none → (∃ o, H a = some o) → Z' a = none := fun {a} n ⟨o, e⟩ => by
    cases q : Z' a with
    | none => rfl
    | some u => have := x.nw a u q n; rw [e] at this; cases this
  refine ⟨x.zh, r.f.trans x.hh, fun a h => zn (r.zb a h) (let ⟨o, e⟩ := F.bf a h; ⟨o, r.f _ _ e⟩), r.len, fun i d h => ?_, fun i l h ol => ?_, r.injL, G.stay _ _ _ _ _ (r.grow x.hh).j x.zz fun _ _ => rfl, fun a h => zn (r.zf a h) (G.live _ _ _ _ r.j h), r.ff, r.fl.trans x.zz⟩
  · obtain ⟨v, h1, h2⟩ := r.loc i d h
    exact ⟨v, h1, At.mono x.zz _ _ h2⟩
  · obtain ⟨a, vs, h1, h2, h3, h4, h5⟩ := r.ownL i l h ol
    exact ⟨a, vs, h1, x.hh _ _ h2, Ats.mono x.zz _ _ h3, zn h4 ⟨_, h2⟩, h5⟩
end

def dOp2 (K : PySem.W.Frag) (p : D → D → DK → Prop) : R2 := fun x y H Q => ∃ Z d e R, Same Z H ∧ At K Z d x ∧ At K Z e y ∧ p d e R ∧ ∀ z Z' v H', R z → Ext Z H Z' H' → At K Z' z v → Q v H'
def dOp1 (K : PySem.W.Frag) (p : D → DK → Prop) : V → Hp → VK → Prop := fun x H Q => ∃ Z d R, Same Z H ∧ At K Z d x ∧ p d R ∧ ∀ z Z' v H', R z → Ext Z H Z' H' → At K Z' z v → Q v H'
def dCall (K : PySem.W.Frag) (p : List D → DK → Prop) : List V → Hp → VK → Prop := fun xs H Q => ∃ Z ds R, Same Z H ∧ Ats K Z ds xs ∧ p ds R ∧ ∀ z Z' v H', R z → Ext Z H Z' H' → At K Z' z v → Q v H'
def dCallF (K : PySem.W.Frag) (p : List D → (List D → Prop) → Prop) : List V → Hp → VK → Prop := fun xs H Q => ∃ Z ds R, Same Z H ∧ Ats K Z ds xs ∧ p ds R ∧ ∀ zs a vs H', R zs → Same H H' → H a = none → H' a = some (.lst vs) → Ats K Z zs vs → Q (.ref a) H'
def dOp2F (K : PySem.W.Frag) (p : D → D → (List D → Prop) → Prop) : R2 := fun x y H Q => ∃ Z d e R, Same Z H ∧ At K Z d x ∧ At K Z e y ∧ p d e R ∧ ∀ zs a vs H', R zs → Same H H' → H a = none → H' a = some (.lst vs) → Ats K Z zs vs → Q (.ref a) H'

section
variable {X : Cx} {G : GP γ} {a b c e : Expr} {pos : Pos}

def qC (d : D) : PEx γ := fun s R => R d s
theorem qe_of_C {v : V} {d : D} (h : PE X e (tC v)) (k : ∀ Z, At G.K Z d v) : QE X G e (qC d) :=
  PE.imp h fun σ H Q ⟨F, Z, s, R, r, t, q⟩ => q d s Z v H t (Same.refl _) r (k Z)
theorem qe_int {i j} : QE X G (.Constant (.int i) j pos) (qC (.int i)) := qe_of_C pe_int fun _ => rfl
theorem qe_bl {i j} : QE X G (.Constant (.bool i) j pos) (qC (.bl i)) := qe_of_C pe_bl fun _ => rfl
theorem qe_non {j} : QE X G (.Constant .none j pos) (qC .non) := qe_of_C pe_non fun _ => rfl
theorem qe_str {i j} : QE X G (.Constant (.str i) j pos) (qC (.str i)) := qe_of_C pe_str fun _ => rfl
def qVar (i : Nat) : PEx γ := fun s R => match s.ρ[i]? with
  | some (some (.val d)) => R d s
  | some (some (.own ds)) => R (.lst ds) ⟨s.ρ.set i (some (.val (.lst ds))), s.g⟩
  | some (some (.dic kds)) => R (.dct (kds.map (·.1)) (kds.map (·.2))) ⟨s.ρ.set i (some (.val (.dct (kds.map (·.1)) (kds.map (·.2))))), s.g⟩
  | _ => False
theorem qe_of_var {i : Nat} (h : PE X e (tVar i)) : QE X G e (qVar i) := by
  refine PE.imp h fun σ H Q ⟨F, Z, s, R, r, t, q⟩ => ?_
  unfold qVar at t
  split at t
  · rename_i d hd
    obtain ⟨v, h1, h2⟩ := r.loc i d hd
    exact ⟨v, h1, q d s Z v H t (Same.refl _) r h2⟩
  · rename_i ds hd
    obtain ⟨a, Z', k, h1, h2, r'⟩ := r.freeze hd
    exact ⟨.ref a, h1, q _ _ Z' _ H t k r' h2⟩
  · rename_i kds hd
    obtain ⟨a, Z', k, h1, h2, r'⟩ := r.freezeL hd rfl
    exact ⟨.ref a, h1, q _ _ Z' _ H t k r' h2⟩
  · exact t.elim
theorem qv (i : Nat) {x : Str} {pos : Pos} (hN : X.N[i]? = some x := by rfl) (hv : Vis X.env.scope x := by first | exact Or.inl rfl | exact Or.inr (Or.inl rfl) | exact Or.inr (Or.inr rfl)) (hd : (x == ("__debug__" : Str)) = false := by decide)
    (hcd : (x == ("__classdict__" : Str)) = false := by decide) : QE X G (.Name x pos) (qVar i) := qe_of_var (pe_var hN hv hd hcd)
theorem qe_glob {x : Str} {u : Value} {v : V} {d : D} (hg : Gl X x) (hm : X.mg x = some u) (r : RelV v u) (k : ∀ Z, At G.K Z d v) (hd : (x == ("__debug__" : Str)) = false := by decide) : QE X G (.Name x pos) (qC d) := qe_of_C (pe_glob hg hm r hd) k

def qBin (p : D → D → DK → Prop) (ta tb : PEx γ) : PEx γ := fun s R => ta s fun x s1 => tb s1 fun y s2 => p x y fun z => R z s2
theorem lbin {p : D → D → DK → Prop} {ta tb : PEx γ} {σ : St} {H : Hp} {Q : VK} (h : lE G (qBin p ta tb) σ H Q) : tOp (dOp2 G.K p) (lE G ta) (lE G tb) σ H Q := by
  obtain ⟨F, Z, s, R, r, t, q⟩ := h
  refine ⟨F, Z, s, _, r, t, fun x s1 Z1 v1 H1 t1 k1 r1 a1 => ⟨F, Z1, s1, _, r1, t1, fun y s2 Z2 v2 H2 t2 k2 r2 a2 => ?_⟩⟩
  exact ⟨Z2, x, y, _, r2.z, At.mono k2 _ _ a1, a2, t2, fun z Z3 v H3 t3 x3 a3 => q z s2 Z3 v H3 t3 ((k1.trans k2).trans x3.zz) (r2.ext x3) a3⟩
theorem qe_bin {op : Operator} {p : D → D → DK → Prop} {ta tb : PEx γ} (ho : OpR X (binaryOp op) (dOp2 G.K p)) (ha : QE X G a ta) (hb : QE X G b tb) : QE X G (.BinOp a op b pos) (qBin p ta tb) :=
  PE.imp (pe_op ho ha hb) fun _ _ _ h => lbin h
theorem qe_cmp {op : CmpOp} {p : D → D → DK → Prop} {ta tb : PEx γ} (ho : OpR X (compareOp op) (dOp2 G.K p)) (ha : QE X G a ta) (hb : QE X G b tb) (hm : behindInMarks op b = false) : QE X G (.Compare a [op] [b] pos) (qBin p ta tb) :=
  PE.imp (pe_cmpR ho ha hb hm) fun _ _ _ h => lbin h
def qB (t : PEx γ) : PTx γ := fun s R => t s fun x s1 => match x with | .bl b => R b s1 | _ => False
theorem lB {t : PEx γ} {te : TE} (k : ∀ σ H Q, lE G t σ H Q → te σ H Q) {σ : St} {H : Hp} {Q : Bool → Hp → Prop} (h : lT G (qB t) σ H Q) : te σ H fun x H1 => ∃ c, x = .bl c ∧ Q c H1 := by
  obtain ⟨F, Z, s, R, r, t, q⟩ := h
  refine k _ _ _ ⟨F, Z, s, _, r, t, fun d s1 Z1 v H1 t1 k1 r1 a1 => ?_⟩
  cases d with
  | bl b =>
    have e : v = .bl b := a1
    exact ⟨b, e, q b s1 Z1 H1 t1 k1 r1⟩
  | _ => exact t1.elim
theorem qt_cmp {op : CmpOp} {p : D → D → DK → Prop} {ta tb : PEx γ} (ho : OpR X (compareOp op) (dOp2 G.K p)) (ha : QE X G a ta) (hb : QE X G b tb) (hm : behindInMarks op b = false) : QT X G (.Compare a [op] [b] pos) (qB (qBin p ta tb)) :=
  PT.imp (pt_cmpR ho ha hb hm) fun _ _ _ h => lB (te := tOp (dOp2 G.K p) (lE G ta) (lE G tb)) (fun _ _ _ h => lbin h) h
theorem qt_val {t : PEx γ} (h : QE X G e t) (he : ∀ whole, isTrue e X.env whole = (do let v ← whole; standAt e.pos; holding [v] (truthy v)) := by intro _; rfl) : QT X G e (qB t) :=
  PT.imp (pt_val h he) fun _ _ _ h => lB (fun _ _ _ h => h) h
def qUn (p : D → DK → Prop) (ta : PEx γ) : PEx γ := fun s R => ta s fun x s1 => p x fun z => R z s1
theorem qe_un {op : UnaryOp} {p : D → DK → Prop} {ta : PEx γ} (ho : UnR X (unaryOp op) (dOp1 G.K p)) (ha : QE X G a ta) : QE X G (.UnaryOp op a pos) (qUn p ta) := by
  refine PE.imp (pe_un ho ha) fun σ H Q ⟨F, Z, s, R, r, t, q⟩ => ?_
  exact ⟨F, Z, s, _, r, t, fun x s1 Z1 v1 H1 t1 k1 r1 a1 => ⟨Z1, x, _, r1.z, a1, t1, fun z Z3 v H3 t3 x3 a3 => q z s1 Z3 v H3 t3 (k1.trans x3.zz) (r1.ext x3) a3⟩⟩

def Br (b : Bool) (A B : Prop) : Prop := (b = true → A) ∧ (b = false → B)
def qAndV (ta tb : PEx γ) : PEx γ := fun s R => qB ta s fun b s1 => Br b (tb s1 R) (R (.bl false) s1)
def qNotV (ta : PEx γ) : PEx γ := fun s R => qB ta s fun b s1 => R (.bl (!b)) s1
theorem lQB {ta : PEx γ} {σ : St} {H : Hp} {F : Fra} {Z : Hp} {s : S γ} {R : Bool → S γ → Prop} {Q : Bool → Hp → Prop} (r : Rel G F Z s σ H) (t : qB ta s R) (q : ∀ b s' Z' H', R b s' → Same Z Z' → Rel G F Z' s' σ H' → Q b H') :
    lE G ta σ H fun x H1 => ∃ c, x = .bl c ∧ Q c H1 := lB (fun _ _ _ h => h) ⟨F, Z, s, R, r, t, q⟩
theorem qe_one {op : BoolOp} {ta : PEx γ} (ha : QE X G a ta) : QE X G (.BoolOp op [a] pos) ta := pe_one ha
theorem qe_and {rest : List Expr} {ta tb : PEx γ} (ha : QE X G a ta) (hb : QE X G (.BoolOp .And (b :: rest) pos) tb) : QE X G (.BoolOp .And (a :: b :: rest) pos) (qAndV ta tb) := by
  refine PE.imp (pe_and ha hb) fun σ H Q ⟨F, Z, s, R, r, t, q⟩ => ?_
  refine lQB r t fun b s1 Z1 H1 t1 k1 r1 => ?_
  cases b with
  | true => rw [if_pos rfl]; exact ⟨F, Z1, s1, R, r1, t1.1 rfl, fun d s' Z' v H' t' k' => q d s' Z' v H' t' (k1.trans k')⟩
  | false => rw [if_neg Bool.false_ne_true]; exact q _ s1 Z1 _ H1 (t1.2 rfl) k1 r1 rfl
theorem qe_not {ta : PEx γ} (ha : QE X G a ta) : QE X G (.UnaryOp .Not a pos) (qNotV ta) := by
  refine PE.imp (pe_not ha) fun σ H Q ⟨F, Z, s, R, r, t, q⟩ => ?_
  exact lQB r t fun b s1 Z1 H1 t1 k1 r1 => q _ s1 Z1 _ H1 t1 k1 r1 rfl
def qAnd (ta tb : PTx γ) : PTx γ := fun s R => ta s fun b s1 => Br b (tb s1 R) (R false s1)
def qOr (ta tb : PTx γ) : PTx γ := fun s R => ta s fun b s1 => Br b (R true s1) (tb s1 R)
def qNot (ta : PTx γ) : PTx γ := fun s R => ta s fun b s1 => R (!b) s1
theorem qw_and1 {op : BoolOp} {ta : PTx γ} (ha : QT X G a ta) : QW X G (.BoolOp op [a] pos) ta := by
  first
    | exact pw_and1 ha
    | (cases op; exact pw_and1 ha; exact pw_or1 ha)
theorem qw_and {rest : List Expr} {ta tb : PTx γ} (ha : QT X G a ta) (hb : QW X G (.BoolOp .And (b :: rest) pos) tb) : QW X G (.BoolOp .And (a :: b :: rest) pos) (qAnd ta tb) := by
  refine PW.imp (pw_and ha hb) fun σ H Q ⟨F, Z, s, R, r, t, q⟩ => ?_
  refine ⟨F, Z, s, _, r, t, fun b s1 Z1 H1 t1 k1 r1 => ?_⟩
  cases b with
  | true => rw [if_pos rfl]; exact ⟨F, Z1, s1, R, r1, t1.1 rfl, fun b s' Z' H' t' k' => q b s' Z' H' t' (k1.trans k')⟩
  | false => rw [if_neg Bool.false_ne_true]; exact q _ s1 Z1 H1 (t1.2 rfl) k1 r1
theorem qw_or {rest : List Expr} {ta tb : PTx γ} (ha : QT X G a ta) (hb : QW X G (.BoolOp .Or (b :: rest) pos) tb) : QW X G (.BoolOp .Or (a :: b :: rest) pos) (qOr ta tb) := by
  refine PW.imp (pw_or ha hb) fun σ H Q ⟨F, Z, s, R, r, t, q⟩ => ?_
  refine ⟨F, Z, s, _, r, t, fun b s1 Z1 H1 t1 k1 r1 => ?_⟩
  cases b with
  | true => rw [if_pos rfl]; exact q _ s1 Z1 H1 (t1.1 rfl) k1 r1
  | false => rw [if_neg Bool.false_ne_true]; exact ⟨F, Z1, s1, R, r1, t1.2 rfl, fun b s' Z' H' t' k' => q b s' Z' H' t' (k1.trans k')⟩
theorem qt_not {ta : PTx γ} (ha : QT X G a ta) : QT X G (.UnaryOp .Not a pos) (qNot ta) := by
  refine PT.imp (pt_not ha) fun σ H Q ⟨F, Z, s, R, r, t, q⟩ => ?_
  exact ⟨F, Z, s, _, r, t, fun b s1 Z1 H1 t1 k1 r1 => q _ s1 Z1 H1 t1 k1 r1⟩
def qIfE (tc : PTx γ) (ta tb : PEx γ) : PEx γ := fun s R => tc s fun k s1 => Br k (ta s1 R) (tb s1 R)
theorem qe_if {tc : PTx γ} {ta tb : PEx γ} (hc : QT X G c tc) (ha : QE X G a ta) (hb : QE X G b tb) : QE X G (.IfExp c a b pos) (qIfE tc ta tb) := by
  refine PE.imp (pe_ifExp hc ha hb) fun σ H Q ⟨F, Z, s, R, r, t, q⟩ => ?_
  refine ⟨F, Z, s, _, r, t, fun k s1 Z1 H1 t1 k1 r1 => ?_⟩
  cases k with
  | true => rw [if_pos rfl]; exact ⟨F, Z1, s1, R, r1, t1.1 rfl, fun d s' Z' v H' t' k' => q d s' Z' v H' t' (k1.trans k')⟩
  | false => rw [if_neg Bool.false_ne_true]; exact ⟨F, Z1, s1, R, r1, t1.2 rfl, fun d s' Z' v H' t' k' => q d s' Z' v H' t' (k1.trans k')⟩

def qNil : PAx γ := fun s R => R [] s
def qCons (ta : PEx γ) (tr : PAx γ) : PAx γ := fun s R => ta s fun x s1 => tr s1 fun xs s2 => R (x :: xs) s2
theorem qa_nil : QA X G [] (qNil : PAx γ) := PA.imp pa_nil fun σ H Q ⟨F, Z, s, R, r, t, q⟩ => q [] s Z [] H t (Same.refl _) r rfl
theorem qa_cons {es : List Expr} {ta : PEx γ} {tr : PAx γ} (ha : QE X G e ta) (hr : QA X G es tr) (hs : starEach (e :: es) X.env = (false, eval e X.env) :: starEach es X.env := by rfl) : QA X G (e :: es) (qCons ta tr) := by
  refine PA.imp (pa_cons ha hr hs) fun σ H Q ⟨F, Z, s, R, r, t, q⟩ => ?_
  refine ⟨F, Z, s, _, r, t, fun x s1 Z1 v1 H1 t1 k1 r1 a1 => ⟨F, Z1, s1, _, r1, t1, fun xs s2 Z2 vs H2 t2 k2 r2 a2 => ?_⟩⟩
  exact q _ s2 Z2 _ H2 t2 (k1.trans k2) r2 ⟨v1, vs, rfl, At.mono k2 _ _ a1, a2⟩
def qTup (t : PAx γ) : PEx γ := fun s R => t s fun xs s1 => xs.length ≤ sizeLine ∧ R (.tup xs) s1
def qLst (t : PAx γ) : PAx γ := fun s R => t s fun xs s1 => xs.length ≤ sizeLine ∧ R xs s1
theorem qe_tup {es : List Expr} {t : PAx γ} {x1} (h : QA X G es t) : QE X G (.Tuple es x1 pos) (qTup t) := by
  refine PE.imp (pe_tup h) fun σ H Q ⟨F, Z, s, R, r, t, q⟩ => ?_
  refine ⟨F, Z, s, _, r, t, fun xs s1 Z1 vs H1 t1 k1 r1 a1 => ⟨by rw [a1.len]; exact t1.1, fun p hp => ?_⟩⟩
  have x := Ext.new (o := HO.tup vs) r1.z hp
  exact q _ s1 _ _ _ t1.2 (k1.trans x.zz) (r1.ext x) ⟨p, vs, rfl, .inl (.inl upd_same), Ats.mono x.zz _ _ a1⟩
theorem Rel.fresh {F : Fra} {Z : Hp} {s : S γ} {σ : St} {H : Hp} (r : Rel G F Z s σ H) {p : Addr} (hp : H p = none) : Z p = none ∧ F.F p = none ∧ ¬ G.foot s.g p ∧ Nob s σ p := by
  refine ⟨r.z.free hp, r.f.free hp, fun h => ?_, fun i l h ol e => ?_⟩
  · obtain ⟨o, e⟩ := G.live _ _ _ _ r.j h
    rw [hp] at e; cases e
  · obtain ⟨a, vs, h1, h2, _⟩ := r.ownL i l h ol
    rw [h1] at e; cases e
    rw [hp] at h2; cases h2
theorem qf_lst {es : List Expr} {t : PAx γ} (h : QA X G es t) : QF X G (.List es pos) (qLst t) := by
  refine PE.imp (pe_lst h) fun σ H Q ⟨F, Z, s, R, r, t, q⟩ => ?_
  refine ⟨F, Z, s, _, r, t, fun xs s1 Z1 vs H1 t1 k1 r1 a1 => ⟨by rw [a1.len]; exact t1.1, fun p hp => ?_⟩⟩
  obtain ⟨f1, f2, f3, f4⟩ := r1.fresh hp
  exact q _ s1 Z1 p vs _ t1.2 k1 (r1.grow (same_upd hp)) upd_same a1 f1 f2 f3 f4
def qSet (t : PAx γ) : PEx γ := fun s R => t s fun ds s1 => R (.lst ds) s1
theorem qe_set {t : PAx γ} (h : QF X G e t) : QE X G e (qSet t) := by
  refine PE.imp h fun σ H Q ⟨F, Z, s, R, r, t, q⟩ => ?_
  refine ⟨F, Z, s, _, r, t, fun ds s1 Z1 a vs H1 t1 k1 r1 ha a1 hz hf hg ho => ?_⟩
  have k := same_upd (o := HO.lst vs) hz
  exact q _ s1 (upd Z1 a (.lst vs)) _ H1 t1 (k1.trans k) (r1.settle ha hz hg (Fra.nb hf) ho) ⟨a, vs, rfl, upd_same, Ats.mono k _ _ a1⟩

def qCall (p : List D → DK → Prop) (t : PAx γ) : PEx γ := fun s R => t s fun xs s1 => p xs fun z => R z s1
def qCallF (p : List D → (List D → Prop) → Prop) (t : PAx γ) : PAx γ := fun s R => t s fun xs s1 => p xs fun z => R z s1
theorem lcall {p : List D → DK → Prop} {t : PAx γ} {σ : St} {H : Hp} {Q : VK} (h : lE G (qCall p t) σ H Q) : tCB (dCall G.K p) (lA G t) σ H Q := by
  obtain ⟨F, Z, s, R, r, t, q⟩ := h
  refine ⟨F, Z, s, _, r, t, fun xs s1 Z1 vs H1 t1 k1 r1 a1 => ?_⟩
  exact ⟨Z1, xs, _, r1.z, a1, t1, fun z Z3 v H3 t3 x3 a3 => q z s1 Z3 v H3 t3 (k1.trans x3.zz) (r1.ext x3) a3⟩
theorem lcallF {p : List D → (List D → Prop) → Prop} {t : PAx γ} {σ : St} {H : Hp} {Q : VK} (h : lF G (qCallF p t) σ H Q) : tCB (dCallF G.K p) (lA G t) σ H Q := by
  obtain ⟨F, Z, s, R, r, t, q⟩ := h
  refine ⟨F, Z, s, _, r, t, fun xs s1 Z1 vs H1 t1 k1 r1 a1 => ?_⟩
  refine ⟨Z1, xs, _, r1.z, a1, t1, fun zs a ws H3 t3 k3 hn ha a3 => ?_⟩
  obtain ⟨f1, f2, f3, f4⟩ := r1.fresh hn
  exact q zs s1 Z1 a ws H3 t3 k1 (r1.grow k3) ha a3 f1 f2 f3 f4
section
variable {x : Str} {p : Pos} {es : List Expr} {t : PAx γ} {id T : String}
theorem qe_callB {pr : List D → DK → Prop} (hc : CallR X (.builtin id) (dCall G.K pr)) (hg : Gl X x) (hm : X.mg x = none) (hv : bootBuiltins x = some (.builtin id)) (ha : QA X G (e :: es) t) (hn : x ≠ "__name__" := by decide) (hdb : (x == ("__debug__" : Str)) = false := by decide)
    (he : starEach (e :: es) X.env = (false, eval e X.env) :: starEach es X.env := by rfl) (hpl : (backTo pos (starEach es X.env)).any (·.1) = false := by rfl) : QE X G (.Call (.Name x p) (e :: es) [] pos) (qCall pr t) :=
  PE.imp (pe_callB hc hg hm hv ha hn hdb he hpl) fun _ _ _ h => lcall h
theorem qe_callTy {pr : List D → DK → Prop} (hc : CallR X (.type T) (dCall G.K pr)) (hg : Gl X x) (hm : X.mg x = none) (hv : bootBuiltins x = some (.type T)) (ha : QA X G (e :: es) t) (hn : x ≠ "__name__" := by decide) (hdb : (x == ("__debug__" : Str)) = false := by decide)
    (he : starEach (e :: es) X.env = (false, eval e X.env) :: starEach es X.env := by rfl) (hpl : (backTo pos (starEach es X.env)).any (·.1) = false := by rfl) : QE X G (.Call (.Name x p) (e :: es) [] pos) (qCall pr t) :=
  PE.imp (pe_callTy hc hg hm hv ha hn hdb he hpl) fun _ _ _ h => lcall h
theorem qf_callTy {pr : List D → (List D → Prop) → Prop} (hc : CallR X (.type T) (dCallF G.K pr)) (hg : Gl X x) (hm : X.mg x = none) (hv : bootBuiltins x = some (.type T)) (ha : QA X G (e :: es) t) (hn : x ≠ "__name__" := by decide) (hdb : (x == ("__debug__" : Str)) = false := by decide)
    (he : starEach (e :: es) X.env = (false, eval e X.env) :: starEach es X.env := by rfl) (hpl : (backTo pos (starEach es X.env)).any (·.1) = false := by rfl) : QF X G (.Call (.Name x p) (e :: es) [] pos) (qCallF pr t) :=
  PE.imp (pe_callTy hc hg hm hv ha hn hdb he hpl) fun _ _ _ h => lcallF h
end

abbrev Spec (γ : Type) := List D → γ → (D → γ → Prop) → Prop
def spG (G : GP γ) (f : Spec γ) : Sp := fun vs H Q _ => ∃ Z ds g R, Same Z H ∧ Ats G.K Z ds vs ∧ G.J g Z H ∧ (∀ a, G.foot g a → Z a = none) ∧ f ds g R ∧
  ∀ d g' Z' v H', R d g' → Same Z Z' → Same Z' H' → (∀ a o, H a = some o → ¬ G.foot g a → H' a = some o) → (∀ a o, Z' a = some o → Z a = none → H a = none) → G.J g' Z' H' → (∀ a, G.foot g' a → Z' a = none ∧ (G.foot g a ∨ H a = none)) → At G.K Z' d v → Q v H'
abbrev Spec0 := List D → DK → Prop
def spP (K : PySem.W.Frag) (f : Spec0) : Sp := fun vs H Q _ => ∃ Z ds R, Same Z H ∧ Ats K Z ds vs ∧ f ds R ∧ ∀ d Z' v H', R d → Same Z Z' → Same Z' H' → Same H H' → (∀ a o, Z' a = some o → Z a = none → H a = none) → At K Z' d v → Q v H'
structure Def (X : Cx) (x : Str) (n : Nat) (sp : Sp) : Prop where
  ex : ∃ f fd k ps, FnOk X.prog X.w X.K X.mg X.base CX0 k f fd ps sp ∧ Room k X.A ∧ X.mg x = some (.ref f) ∧ PySem.W.keepIn X.K (.ref f) = true ∧ Binds X.K fd ps [] ∧ ps.length = n
def qCallP (f : Spec0) (t : PAx γ) : PEx γ := fun s R => t s fun xs s1 => f xs fun z => R z s1
def qCallG (f : Spec γ) (t : PAx γ) : PEx γ := fun s R => t s fun xs s1 => f xs s1.g fun z g' => R z ⟨s1.ρ, g'⟩
section
variable {x : Str} {p : Pos} {es : List Expr} {t : PAx γ} {n : Nat}
theorem lcallP {f : Spec0} {σ : St} {H : Hp} {Q : VK} (h : lE G (qCallP f t) σ H Q) : tCall (spP G.K f) [] E0 (lA G t) σ H Q := by
  obtain ⟨F, Z, s, R, r, t, q⟩ := h
  refine ⟨F, Z, s, _, r, t, fun xs s1 Z1 vs H1 t1 k1 r1 a1 => ?_⟩
  refine ⟨Z1, xs, _, r1.z, by rw [List.append_nil]; exact a1, t1, fun z Z3 v H3 t3 k3 z3 h3 n3 a3 => ?_⟩
  exact q z s1 Z3 v H3 t3 (k1.trans k3) (r1.ext ⟨h3, k3, z3, n3⟩) a3
theorem qe_call {f : Spec0} (d : Def X x n (spP G.K f)) (hg : Gl X x) (ha : QA X G (e :: es) t) (hdb : (x == ("__debug__" : Str)) = false := by decide) (he : starEach (e :: es) X.env = (false, eval e X.env) :: starEach es X.env := by rfl) (hpl : (backTo pos (starEach es X.env)).any (·.1) = false := by rfl) :
    QE X G (.Call (.Name x p) (e :: es) [] pos) (qCallP f t) := by
  obtain ⟨fa, fd, k, ps, F, hr, hm, hk, hb, _⟩ := d.ex
  exact PE.imp (pe_call F hr hg hm hk hb .nil pass0 ha hdb he hpl) fun _ _ _ h => lcallP h
theorem Rel.after {F : Fra} {Z Z' : Hp} {s : S γ} {σ : St} {H H' : Hp} {g' : γ} (r : Rel G F Z s σ H) (zz : Same Z Z') (zh : Same Z' H') (keep : ∀ a o, H a = some o → ¬ G.foot s.g a → H' a = some o) (nw : ∀ a o, Z' a = some o → Z a = none → H a = none) (hj : G.J g' Z' H')
    (hf : ∀ a, G.foot g' a → Z' a = none ∧ (G.foot s.g a ∨ H a = none)) : Rel G F Z' ⟨s.ρ, g'⟩ σ H' := by
  refine ⟨zh, fun a o e => ?_, fun a h => ?_, r.len, fun i d h => ?_, fun i l h ol => ?_, r.injL, hj, fun a h => (hf a h).1, fun a h => ?_, r.fl.trans zz⟩
  · refine keep a o (r.f _ _ e) fun h => ?_
    have := r.ff a h; rw [e] at this; cases this
  · cases q : Z' a with
    | none => rfl
    | some o =>
      have h1 := nw a o q (r.zb a h)
      obtain ⟨o', e⟩ := F.bf a h
      rw [r.f _ _ e] at h1; cases h1
  · obtain ⟨v, h1, h2⟩ := r.loc i d h
    exact ⟨v, h1, At.mono zz _ _ h2⟩
  · obtain ⟨a, vs, h1, h2, h3, h4, h5, h6⟩ := r.ownL i l h ol
    refine ⟨a, vs, h1, keep _ _ h2 h6, Ats.mono zz _ _ h3, ?_, h5, fun h7 => ?_⟩
    · cases q : Z' a with
      | none => rfl
      | some o => have := nw a o q h4; rw [h2] at this; cases this
    · rcases (hf a h7).2 with h8 | h8
      · exact h6 h8
      · rw [h2] at h8; cases h8
  · rcases (hf a h).2 with h8 | h8
    · exact r.ff a h8
    · exact r.f.free h8
theorem lcallG {f : Spec γ} {σ : St} {H : Hp} {Q : VK} (h : lE G (qCallG f t) σ H Q) : tCall (spG G f) [] E0 (lA G t) σ H Q := by
  obtain ⟨F, Z, s, R, r, t, q⟩ := h
  refine ⟨F, Z, s, _, r, t, fun xs s1 Z1 vs H1 t1 k1 r1 a1 => ?_⟩
  refine ⟨Z1, xs, s1.g, _, r1.z, by rw [List.append_nil]; exact a1, r1.j, r1.zf, t1, fun z g' Z3 v H3 t3 k3 z3 h3 n3 j3 f3 a3 => ?_⟩
  exact q z _ Z3 v H3 t3 (k1.trans k3) (r1.after k3 z3 h3 n3 j3 f3) a3
theorem qe_callG {f : Spec γ} (d : Def X x n (spG G f)) (hg : Gl X x) (ha : QA X G (e :: es) t) (hdb : (x == ("__debug__" : Str)) = false := by decide) (he : starEach (e :: es) X.env = (false, eval e X.env) :: starEach es X.env := by rfl) (hpl : (backTo pos (starEach es X.env)).any (·.1) = false := by rfl) :
    QE X G (.Call (.Name x p) (e :: es) [] pos) (qCallG f t) := by
  obtain ⟨fa, fd, k, ps, F, hr, hm, hk, hb, _⟩ := d.ex
  exact PE.imp (pe_call F hr hg hm hk hb .nil pass0 ha hdb he hpl) fun _ _ _ h => lcallG h
end
end
end Pm
set_option Elab.async false
set_option linter.all false
set_option maxRecDepth 100000
set_option maxHeartbeats 1000000
set_option autoImplicit false
namespace Pm
open PySem PySem.Spec
open PyProof.Rows hiding St
open L2
variable {γ : Type}

section
variable {prog : Program} {w : World} {A : Around} {E : Value → Shared → Prop} {s : Shared}
theorem draw_list {it t : Addr} {items : Array Value} (hne : t ≠ it) : ∀ (n i : Nat) (s : Shared) (Q : List Value → Shared → Prop), s.heap.IsListIter it t i → s.heap.IsList t items → i + n ≤ items.size →
    (∀ h', h'.IsListIter it t (i + n) → Heap.SameBut it s.heap h' → Q ((items.toList.drop i).take n) { s with heap := h' }) → wpAny (model prog w) A (draw (.ref it) n) Q E s
  | 0, i, s, Q, hit, _, _, hQ => by
    show wpAny _ _ (pure []) Q E s
    exact wpAny_pure (by simpa using hQ s.heap hit (Heap.SameBut.refl ..))
  | n + 1, i, s, Q, hit, ht, hle, hQ => by
    have hlt : i < items.size := by omega
    show wpAny _ _ (pyNext (.ref it) >>= _) Q E s
    refine wpAny_bind (wpAny_pyNext_list_item hit ht (x := items[i]) (by simp [hlt]) fun h₁ hit₁ hs₁ => ?_)
    refine wpAny_bind (wpAny_holding (draw_list hne n (i + 1) _ _ hit₁ (ht.extBut hs₁.extBut hne) (by omega) fun h₂ hit₂ hs₂ => wpAny_pure ?_))
    have hd : items.toList.drop i = items[i] :: items.toList.drop (i + 1) := by simp [List.drop_eq_getElem_cons, hlt]
    have := hQ h₂ (by rw [show i + (n + 1) = i + 1 + n by omega]; exact hit₂) (hs₁.trans hs₂)
    rw [hd, List.take_succ_cons] at this
    exact this
theorem unpackItems_list {t : Addr} {items : Array Value} {Q : List Value → Shared → Prop} (hh : A.handled = none) (ht : s.heap.IsList t items)
    (hQ : ∀ h', Heap.ExtBut s.heap.objs.size s.heap h' → Q items.toList { s with heap := h' }) : wpAny (model prog w) A (unpackItems (.ref t) items.size none) Q E s := by
  have hlt : t ≠ s.heap.objs.size := by obtain ⟨o, ho, _⟩ := ht; exact Nat.ne_of_lt (Heap.lt_size ho)
  unfold unpackItems
  refine wpAny_bind ?_
  · unfold notIterableAtAll
    refine wpAny_bind (wpAny_specialOf ht.typeIs PySem.F.slot_list_iter.lookup ?_)
    refine wpAny_pure ?_
    simp only [Bool.false_eq_true, if_false]
    refine wpAny_bind (wpAny_holding (wpAny_pyIter_list ht ?_))
    refine wpAny_bind (wpAny_holding (draw_list hlt items.size 0 _ _ ⟨_, Heap.get?_push_size _ rfl, rfl, rfl⟩ (ht.at fun o e => Heap.get?_push_of_some _ e) (by omega) fun h₁ hit₁ hs₁ => ?_))
    have hall : List.take items.size (List.drop 0 items.toList) = items.toList := by
      rw [List.drop_zero]; exact List.take_of_length_le (by simp)
    rw [hall]
    rw [if_neg (by simp)]
    have ht₁ : h₁.IsList t items := (ht.at fun o e => Heap.get?_push_of_some _ e).extBut hs₁.extBut hlt
    refine wpAny_bind (wpAny_holding (wpAny_pyNext_list_end hh hit₁ ht₁ (by simp) fun h₂ he₂ => ?_))
    simp only [Option.isSome_none, Bool.false_eq_true, if_false]
    refine wpAny_pure (hQ h₂ fun b o hb e => he₂ b o hb (hs₁.extBut b o hb (Heap.get?_push_of_some _ e)))
theorem unpack_list {t : Addr} {items : Array Value} {targets : List (Bool × (Value → Sem Unit))} {Q : Unit → Shared → Prop} (hh : A.handled = none) (ht : s.heap.IsList t items)
    (hn : targets.length = items.size) (hstar : targets.findIdx? (·.1) = none)
    (h : ∀ h', Heap.ExtBut s.heap.objs.size s.heap h' → wpAny (model prog w) A (assignInOrder (targets.map (·.2)) items.toList) Q E { s with heap := h' }) :
    wpAny (model prog w) A (unpack (.ref t) targets) Q E s := by
  unfold unpack
  rw [hn, hstar]
  exact wpAny_bind (wpAny_holding (unpackItems_list hh ht h))
theorem assign_Tuple_list {env : Env} {elts : List Expr} {x1} {pos : Pos} {t : Addr} {items : Array Value} {Q : Unit → Shared → Prop} (hh : A.handled = none) (ht : s.heap.IsList t items)
    (hn : (assignEach elts env).length = items.size) (hstar : (assignEach elts env).findIdx? (·.1) = none)
    (h : ∀ h', Heap.ExtBut s.heap.objs.size s.heap h' → wpAny (model prog w) A (assignInOrder ((assignEach elts env).map (·.2)) items.toList) Q E { s with heap := h' }) :
    wpAny (model prog w) A (assign (.Tuple elts x1 pos) env (.ref t)) Q E s := by
  rw [assign_Tuple]
  exact wpAny_bind (wpAny_standAt (unpack_list hh ht hn hstar h))
end
section
variable {X : Cx} {pos : Pos}
def gLs (K : PySem.W.Frag) (n : Nat) (t : TGs) : TG := fun v σ H Q => ∃ a xs, v = .ref a ∧ SqL K H a xs ∧ xs.length = n ∧ t xs σ H Q
theorem pg_lst {es : List Expr} {k : Nat} {t : TGs} {n : Nat} (hc : X.calm = true) (h : PGs X es t)
    (hn : (assignEach es X.env).length = n := by rfl) (hst : (assignEach es X.env).findIdx? (·.1) = none := by rfl) : PG X (.Tuple es k pos) (gLs X.K n t) := by
  refine ⟨fun pins s σ H v u Q I r hw => ?_⟩
  obtain ⟨a, xs, e1, hq, hl, hw⟩ := hw
  subst e1
  cases r
  obtain ⟨its, rv, ht, hz⟩ := I.list hq
  refine assign_Tuple_list (I.ok.hd hc) ht.isList (by simp [hn, ← hl, rv.length]) hst fun h' hx => ?_
  have I1 : L2.Inv X pins σ H { s with heap := h' } := I.kept (t' := s.toks) fun b o e => hx b o (Nat.ne_of_lt (Heap.lt_size e)) e
  exact h.run pins _ σ H xs _ Q I1 (by simpa using rv) hw
end

end Pm
set_option Elab.async false
set_option linter.all false
set_option maxRecDepth 100000
set_option maxHeartbeats 1000000
set_option autoImplicit false
namespace Pm
open PySem PySem.Spec
open PyProof.Rows hiding St
open L2
variable {γ : Type}

section
variable {X : Cx} {G : GP γ} {a b c e : Expr} {pos : Pos}
def qNext : PSx γ := fun E s => E.nx s
def qSeq (t u : PSx γ) : PSx γ := fun E s => t { E with nx := u E } s
theorem lSeq {t u : PSx γ} {De : Ends} {σ : St} {H : Hp} (h : lS G (qSeq t u) De σ H) : tSeq (lS G t) (lS G u) De σ H := by
  obtain ⟨F, Z, s, E, r, t, n, rt, bk, ct⟩ := h
  refine ⟨F, Z, s, _, r, t, fun s' Z' σ' H' u' k r' => ?_, rt, bk, ct⟩
  exact ⟨F, Z', s', E, r', u', fun s2 Z2 σ2 H2 q k2 r2 => n s2 Z2 σ2 H2 q (k.trans k2) r2, fun d s2 Z2 σ2 v H2 q k2 r2 a2 => rt d s2 Z2 σ2 v H2 q (k.trans k2) r2 a2,
    fun s2 Z2 σ2 H2 q k2 r2 => bk s2 Z2 σ2 H2 q (k.trans k2) r2, fun s2 Z2 σ2 H2 q k2 r2 => ct s2 Z2 σ2 H2 q (k.trans k2) r2⟩
theorem qss_nil : QSs X G [] (qNext : PSx γ) := PSs.imp pss_nil fun De σ H ⟨F, Z, s, E, r, t, n, _⟩ => n s Z σ H t (Same.refl _) r
theorem qss_cons {st : Stmt} {rest : List Stmt} {t u : PSx γ} (h1 : QS X G st t) (h2 : QSs X G rest u) : QSs X G (st :: rest) (qSeq t u) := PSs.imp (pss_cons h1 h2) fun _ _ _ h => lSeq h
theorem qss_one {st : Stmt} {t : PSx γ} (h1 : QS X G st t) : QSs X G [st] t := pss_one h1
def qNever : PSx γ := fun _ _ => False
theorem qs_never {st : Stmt} : QS X G st (qNever : PSx γ) := PS.imp (t := tNever) ps_never fun De σ H ⟨F, Z, s, E, r, t, _⟩ => t.elim
theorem qss_never {st : List Stmt} : QSs X G st (qNever : PSx γ) := PSs.imp (t := tNever) pss_never fun De σ H ⟨F, Z, s, E, r, t, _⟩ => t.elim
def qDrop (te : PEx γ) : PSx γ := fun E s => te s fun _ s1 => E.nx s1
theorem qs_expr {te : PEx γ} (he : QE X G e te) (hs : swapsWith e none pos.line X.env = pure false := by rfl) : QS X G (.Expr e pos) (qDrop te) := by
  refine PS.imp (ps_expr he hs) fun De σ H ⟨F, Z, s, E, r, t, n, _⟩ => ?_
  exact ⟨F, Z, s, _, r, t, fun d s1 Z1 v H1 t1 k1 r1 a1 => n s1 Z1 σ H1 t1 k1 r1⟩
def qRet (te : PEx γ) : PSx γ := fun E s => te s fun d s1 => E.rt d s1.g
theorem qs_ret {te : PEx γ} (he : QE X G e te) : QS X G (.Return (some e) pos) (qRet te) := by
  refine PS.imp (ps_ret he) fun De σ H ⟨F, Z, s, E, r, t, _, rt, _⟩ => ?_
  exact ⟨F, Z, s, _, r, t, fun d s1 Z1 v H1 t1 k1 r1 a1 => rt d s1 Z1 σ v H1 t1 k1 r1 a1⟩
def qIf (c : PTx γ) (t u : PSx γ) : PSx γ := fun E s => c s fun b s1 => Br b (t E s1) (u E s1)
theorem qs_if {c : Expr} {a b : List Stmt} {tc : PTx γ} {t u : PSx γ} (hc : QT X G c tc) (ha : QSs X G a t) (hb : QSs X G b u) : QS X G (.If c a b pos) (qIf tc t u) := by
  refine PS.imp (ps_if hc ha hb) fun De σ H ⟨F, Z, s, E, r, t, n, rt, bk, ct⟩ => ?_
  refine ⟨F, Z, s, _, r, t, fun k s1 Z1 H1 t1 k1 r1 => ?_⟩
  have go : ∀ {t : PSx γ}, t E s1 → lS G t De σ H1 := fun {t} q => ⟨F, Z1, s1, E, r1, q, fun s2 Z2 σ2 H2 q k2 r2 => n s2 Z2 σ2 H2 q (k1.trans k2) r2, fun d s2 Z2 σ2 v H2 q k2 r2 a2 => rt d s2 Z2 σ2 v H2 q (k1.trans k2) r2 a2,
    fun s2 Z2 σ2 H2 q k2 r2 => bk s2 Z2 σ2 H2 q (k1.trans k2) r2, fun s2 Z2 σ2 H2 q k2 r2 => ct s2 Z2 σ2 H2 q (k1.trans k2) r2⟩
  cases k with
  | true => exact iteT (go (t1.1 rfl))
  | false => exact iteF (go (t1.2 rfl))

def qAsg (te : PEx γ) (i : Nat) : PSx γ := fun E s => te s fun d s1 => E.nx ⟨s1.ρ.set i (some (.val d)), s1.g⟩
theorem lasg {te : PEx γ} {i : Nat} {De : Ends} {σ : St} {H : Hp} (h : lS G (qAsg te i) De σ H) : tAsg (lE G te) (gName i) De σ H := by
  obtain ⟨F, Z, s, E, r, t, n, _⟩ := h
  exact ⟨F, Z, s, _, r, t, fun d s1 Z1 v H1 t1 k1 r1 a1 => n _ Z1 _ H1 t1 k1 (r1.put a1)⟩
def qAsgOwn (te : PAx γ) (i : Nat) : PSx γ := fun E s => te s fun ds s1 => E.nx ⟨s1.ρ.set i (some (.own ds)), s1.g⟩
theorem lasgOwn {te : PAx γ} {i : Nat} {De : Ends} {σ : St} {H : Hp} (h : lS G (qAsgOwn te i) De σ H) : tAsg (lF G te) (gName i) De σ H := by
  obtain ⟨F, Z, s, E, r, t, n, _⟩ := h
  exact ⟨F, Z, s, _, r, t, fun ds s1 Z1 a vs H1 t1 k1 r1 ha a1 hz hf hg ho => n _ Z1 _ H1 t1 k1 (r1.putOwn ha a1 hz hf hg ho)⟩
section
variable {i : Nat} {x : Str} {pos' : Pos}
theorem qs_set {te : PEx γ} (hN : X.N.Nodup) (hi : X.N[i]? = some x) (hx : Loc X.env.scope x) (he : QE X G e te) (hs : swapsWith e (some (.Name x pos')) pos.line X.env = pure false := by rfl) (hf : X.fn x = true ∨ X.env.scope.names.lookup x = some .local := by first | exact .inl rfl | exact .inr rfl | assumption) :
    QS X G (.Assign [.Name x pos'] e pos) (qAsg te i) := PS.imp (ps_set hN hi hx he hs hf) fun _ _ _ h => lasg h
theorem qs_setOwn {te : PAx γ} (hN : X.N.Nodup) (hi : X.N[i]? = some x) (hx : Loc X.env.scope x) (he : QF X G e te) (hs : swapsWith e (some (.Name x pos')) pos.line X.env = pure false := by rfl) (hf : X.fn x = true ∨ X.env.scope.names.lookup x = some .local := by first | exact .inl rfl | exact .inr rfl | assumption) :
    QS X G (.Assign [.Name x pos'] e pos) (qAsgOwn te i) := PS.imp (ps_set hN hi hx he hs hf) fun _ _ _ h => lasgOwn h
end
inductive Tg where | nm (i : Nat) | tp (ts : List Tg)
mutual
def Tg.put : Tg → D → List (Option L) → Option (List (Option L))
  | .nm i, d, ρ => some (ρ.set i (some (.val d)))
  | .tp ts, d, ρ => match d with
    | .tup ds => Tg.puts ts ds ρ
    | .lst ds => Tg.puts ts ds ρ
    | _ => none
def Tg.puts : List Tg → List D → List (Option L) → Option (List (Option L))
  | [], [], ρ => some ρ
  | t :: ts, d :: ds, ρ => (t.put d ρ).bind fun ρ' => Tg.puts ts ds ρ'
  | _, _, _ => none
end
mutual
def Tg.js : Tg → List Nat
  | .nm i => [i]
  | .tp ts => Tg.jss ts
def Tg.jss : List Tg → List Nat
  | [] => []
  | t :: ts => t.js ++ Tg.jss ts
end
def qPut (tg : Tg) : PGx γ := fun d s R => match tg.put d s.ρ with
  | some ρ' => R ⟨ρ', s.g⟩
  | none => False
def qPuts (ts : List Tg) : List D → S γ → (S γ → Prop) → Prop := fun ds s R => match Tg.puts ts ds s.ρ with
  | some ρ' => R ⟨ρ', s.g⟩
  | none => False
def lGs (G : GP γ) (js : List Nat) (t : List D → S γ → (S γ → Prop) → Prop) : TGs := fun vs σ H Q => ∃ F Z s ds R, Rel G F Z s σ H ∧ Ats G.K Z ds vs ∧ t ds s R ∧
  ∀ s' Z' σ' H', R s' → Same Z Z' → Rel G F Z' s' σ' H' → H' = H → (∀ j, j ∉ js → σ'[j]? = σ[j]?) → σ'.length = σ.length → Q σ' H'
theorem PGs.imp {es : List Expr} {t t' : TGs} (h : PGs X es t) (k : ∀ v σ H Q, t' v σ H Q → t v σ H Q) : PGs X es t' := ⟨fun pins s σ H v u Q I r w => h.run pins s σ H v u Q I r (k _ _ _ _ w)⟩
abbrev QG' (X : Cx) (G : GP γ) (tg : Expr) (t : Tg) : Prop := PG X tg (lG G t.js (qPut t))
abbrev QGs (X : Cx) (G : GP γ) (es : List Expr) (ts : List Tg) : Prop := PGs X es (lGs G (Tg.jss ts) (qPuts ts))
theorem qg_name {i : Nat} {x : Str} (hN : X.N.Nodup) (hi : X.N[i]? = some x) (hx : Loc X.env.scope x) (hf : X.fn x = true ∨ X.env.scope.names.lookup x = some .local := by first | exact .inl rfl | exact .inr rfl | assumption) : QG' X G (.Name x pos) (.nm i) := by
  refine PG.imp (pg_name hN hi hx hf) fun v σ H Q ⟨F, Z, s, d, R, r, a, t, q⟩ => ?_
  exact q _ Z _ H t (Same.refl _) (r.put a) rfl (fun j hj => List.getElem?_set_ne (by simpa [Tg.js, eq_comm] using hj)) (by simp)
theorem qgs_nil : QGs X G [] [] := by
  refine PGs.imp pgs_nil fun vs σ H Q ⟨F, Z, s, ds, R, r, a, t, q⟩ => ?_
  cases ds with
  | nil => exact ⟨a, q _ Z σ H t (Same.refl _) r rfl (fun _ _ => rfl) rfl⟩
  | cons d ds => exact t.elim
theorem qgs_cons {e : Expr} {es : List Expr} {t : Tg} {ts : List Tg} (h1 : QG' X G e t) (h2 : QGs X G es ts)
    (hs : (assignEach (e :: es) X.env).map (·.2) = assign e X.env :: (assignEach es X.env).map (·.2) := by rfl) : QGs X G (e :: es) (t :: ts) := by
  refine PGs.imp (pgs_cons h1 h2 hs) fun vs σ H Q ⟨F, Z, s, ds, R, r, a, w, q⟩ => ?_
  cases ds with
  | nil => exact w.elim
  | cons d ds =>
    simp only [Ats] at a
    obtain ⟨v, vr, e, a1, a2⟩ := a
    unfold qPuts at w
    simp only [Tg.puts] at w
    cases hp : t.put d s.ρ with
    | none => rw [hp] at w; exact w.elim
    | some ρ' =>
      rw [hp] at w
      simp only [Option.bind_some] at w
      refine ⟨v, vr, e, F, Z, s, d, fun s1 => qPuts ts ds s1 R, r, a1, ?_, fun s1 Z1 σ1 H1 w1 k1 r1 e1 o1 l1 => ?_⟩
      · unfold qPut; rw [hp]; exact w
      · refine ⟨F, Z1, s1, ds, R, r1, Ats.mono k1 _ _ a2, w1, fun s2 Z2 σ2 H2 w2 k2 r2 e2 o2 l2 => ?_⟩
        refine q s2 Z2 σ2 H2 w2 (k1.trans k2) r2 (e2.trans e1) (fun j hj => ?_) (l2.trans l1)
        simp only [Tg.jss, List.mem_append, not_or] at hj
        rw [o2 j hj.2, o1 j hj.1]
theorem Tg.puts_len : ∀ {ts : List Tg} {ds : List D} {ρ ρ' : List (Option L)}, Tg.puts ts ds ρ = some ρ' → ds.length = ts.length
  | [], [], _, _, _ => rfl
  | [], _ :: _, _, _, h => by simp [Tg.puts] at h
  | _ :: _, [], _, _, h => by simp [Tg.puts] at h
  | t :: ts, d :: ds, ρ, ρ', h => by
    simp only [Tg.puts] at h
    cases hp : t.put d ρ with
    | none => rw [hp] at h; simp at h
    | some ρ1 =>
      rw [hp] at h
      simp only [Option.bind_some] at h
      simp [Tg.puts_len h]
theorem qg_tup {es : List Expr} {k : Nat} {ts : List Tg} (hc : X.calm = true) (h : QGs X G es ts) (hK : X.K = G.K := by rfl)
    (hn : (assignEach es X.env).length = ts.length := by rfl) (hst : (assignEach es X.env).findIdx? (·.1) = none := by rfl) : QG' X G (.Tuple es k pos) (.tp ts) := by
  refine ⟨fun pins s0 σ H v u Q I rv hw => ?_⟩
  obtain ⟨F, Z, s, d, R, r, a, w, q⟩ := hw
  unfold qPut at w
  cases d with
  | tup ds =>
    simp only [Tg.put] at w
    simp only [At] at a
    obtain ⟨p, vs, e, hs, a⟩ := a
    have hl : ds.length = ts.length := by
      cases hp : Tg.puts ts ds s.ρ with
      | none => rw [hp] at w; exact w.elim
      | some ρ' => exact Tg.puts_len hp
    exact (pg_tup hc h hn hst).run pins s0 σ H v u Q I rv ⟨p, vs, e, by rw [hK]; exact seqT r.z hs, by rw [a.len]; exact hl, F, Z, s, ds, R, r, a, w, q⟩
  | lst ds =>
    simp only [Tg.put] at w
    simp only [At] at a
    obtain ⟨p, vs, e, hs, a⟩ := a
    have hl : ds.length = ts.length := by
      cases hp : Tg.puts ts ds s.ρ with
      | none => rw [hp] at w; exact w.elim
      | some ρ' => exact Tg.puts_len hp
    exact (pg_lst hc h hn hst).run pins s0 σ H v u Q I rv ⟨p, vs, e, .inl (.inl (r.z _ _ hs)), by rw [a.len]; exact hl, F, Z, s, ds, R, r, a, w, q⟩
  | _ => exact w.elim
def qPar (i j : Nat) (ta : PAx γ) : PSx γ := fun E s => ta s fun ds s1 => match ds with
  | [d, e] => E.nx ⟨(s1.ρ.set i (some (.val d))).set j (some (.val e)), s1.g⟩
  | _ => False
theorem qs_par {i j : Nat} {x y : Str} {a b : Expr} {ta : PAx γ} {px py pt : Pos} {kt k2 pt2} (hc : X.calm = true) (hN : X.N.Nodup) (hi : X.N[i]? = some x) (hj : X.N[j]? = some y) (hij : i ≠ j)
    (hx : X.env.scope.names.lookup x = some .local) (hy : X.env.scope.names.lookup y = some .local) (ha : QA X G [a, b] ta)
    (hw : swappedStores [.Tuple [.Name x px, .Name y py] kt pt] (.Tuple [a, b] k2 pt2) X.env = pure (some [x, y]))
    (hs : swapsWithSole [.Tuple [.Name x px, .Name y py] kt pt] (.Tuple [a, b] k2 pt2) pos.line X.env = pure false := by rfl) :
    QS X G (.Assign [.Tuple [.Name x px, .Name y py] kt pt] (.Tuple [a, b] k2 pt2) pos) (qPar i j ta) := by
  refine PS.imp (ps_par hc hN hi hj hij hx hy ha hw hs) fun De σ H ⟨F, Z, s, E, r, t, n, _⟩ => ?_
  refine ⟨F, Z, s, _, r, t, fun ds s1 Z1 vs H1 t1 k1 r1 a1 => ?_⟩
  match ds, t1 with
  | [d, e], t1 =>
    simp only [Ats] at a1
    obtain ⟨v, _, rfl, a2, w, _, rfl, a3, rfl⟩ := a1
    exact ⟨v, w, rfl, n _ Z1 _ H1 t1 k1 ((r1.put a2).put a3)⟩

def qWhile (c : PTx γ) (tb : PSx γ) : PSx γ := fun E s => ∃ W : Nat → S γ → Prop, (∃ m s0, Wk s s0 ∧ W m s0) ∧ ∀ m s, W m s → c s fun b s1 => Br b (tb { E with nx := fun s' => ∃ m' s'', m' < m ∧ Wk s' s'' ∧ W m' s'', ct := fun s' => ∃ m' s'', m' < m ∧ Wk s' s'' ∧ W m' s'', bk := E.nx } s1) (E.nx s1)
theorem qs_while {c : Expr} {body : List Stmt} {tc : PTx γ} {tb : PSx γ} (hp : PassesOwn (model X.prog X.w) X.A X.env X.xe) (hc : QT X G c tc) (hb : QSs X G body tb) : QS X G (.While c body [] pos) (qWhile tc tb) := by
  refine PS.imp (ps_while hp hc hb) fun De σ H ⟨F, Z, s, E, r, ⟨W, ⟨m0, s0, wk0, w0⟩, turn⟩, n, rt, bk, ct⟩ => ?_
  refine ⟨fun m σ H => ∃ Z' s', Same Z Z' ∧ Rel G F Z' s' σ H ∧ W m s', ⟨m0, Z, s0, Same.refl _, r.weak wk0, w0⟩, ?_⟩
  rintro m σ1 H1 ⟨Z1, s1, k1, r1, w1⟩
  refine ⟨F, Z1, s1, _, r1, turn m s1 w1, fun b s2 Z2 H2 t2 k2 r2 => ?_⟩
  cases b with
  | true =>
    refine iteT ?_
    refine ⟨fun σ' H' => ∃ m', m' < m ∧ ∃ Z' s', Same Z Z' ∧ Rel G F Z' s' σ' H' ∧ W m' s', fun σ' H' h => h, F, Z2, s2, _, r2, t2.1 rfl, ?_, ?_, ?_, ?_⟩
    · rintro s3 Z3 σ3 H3 ⟨m', s'', hm, wk, w'⟩ k3 r3
      exact ⟨m', hm, Z3, s'', (k1.trans k2).trans k3, r3.weak wk, w'⟩
    · intro d s3 Z3 σ3 v H3 q k3 r3 a3
      exact rt d s3 Z3 σ3 v H3 q ((k1.trans k2).trans k3) r3 a3
    · intro s3 Z3 σ3 H3 q k3 r3
      exact n s3 Z3 σ3 H3 q ((k1.trans k2).trans k3) r3
    · rintro s3 Z3 σ3 H3 ⟨m', s'', hm, wk, w'⟩ k3 r3
      exact ⟨m', hm, Z3, s'', (k1.trans k2).trans k3, r3.weak wk, w'⟩
  | false => exact iteF (n s2 Z2 σ1 H2 (t2.2 rfl) (k1.trans k2) r2)

def Walks (K : PySem.W.Frag) (J : It) (Z : Hp) (ds : List D) : Prop := ∀ (i : Nat) (Z1 H : Hp), Same Z Z1 → Same Z1 H →
  (∀ d, ds[i]? = some d → J.go i H ∧ ∀ x H', J.yld i H x H' → ∃ Z', Ext Z1 H Z' H' ∧ At K Z' d x) ∧ (i = ds.length → J.stop i H)
def lI (G : GP γ) (t : PAx γ) : TI := fun σ H R => ∃ F Z s Rp, Rel G F Z s σ H ∧ t s Rp ∧ ∀ ds s' Z' H' J, Rp ds s' → Same Z Z' → Rel G F Z' s' σ H' → Walks G.K J Z' ds → R J H'
abbrev QI (X : Cx) (G : GP γ) (tg iter : Expr) (t : PAx γ) : Prop := PI X tg iter (lI G t)
theorem PI.imp {tg iter : Expr} {t t' : TI} (h : PI X tg iter t) (k : ∀ σ H R, t' σ H R → t σ H R) : PI X tg iter t' := ⟨fun pins s σ H R I w => h.run pins s σ H R I (k _ _ _ w)⟩

def qFor (ti : PAx γ) (tg : Tg) (tb : PSx γ) : PSx γ := fun E s => ti s fun ds s1 => ∃ I : Nat → S γ → Prop, (∃ s0, Wk s1 s0 ∧ I 0 s0) ∧
  (∀ i d s, ds[i]? = some d → I i s → qPut tg d s fun s2 => tb { E with nx := fun s' => ∃ s'', Wk s' s'' ∧ I (i + 1) s'', ct := fun s' => ∃ s'', Wk s' s'' ∧ I (i + 1) s'', bk := E.nx } s2) ∧ ∀ s, I ds.length s → E.nx s
theorem qs_for {iter tg : Expr} {body : List Stmt} {ti : PAx γ} {t : Tg} {tb : PSx γ} (hp : PassesOwn (model X.prog X.w) X.A X.env X.xe) (hc : X.calm = true) (hi : QI X G tg iter ti) (hg : QG' X G tg t) (hb : QSs X G body tb)
    (hs : ∀ x, foldedSetIterable iter X.env x = pure x := by intro _; rfl) : QS X G (.For tg iter body [] pos) (qFor ti t tb) := by
  refine PS.imp (ps_for hp hc hi hg hb hs) fun De σ H ⟨F, Z, s, E, r, w, n, rt, bk, ct⟩ => ?_
  refine ⟨F, Z, s, _, r, w, fun ds s1 Z1 H1 J w1 k1 r1 wJ => ?_⟩
  obtain ⟨I, ⟨s0, wk0, i0⟩, turn, done⟩ := w1
  refine ⟨fun i m σ H => m = ds.length - i ∧ i ≤ ds.length ∧ ∃ Z' s', Same Z1 Z' ∧ Rel G F Z' s' σ H ∧ I i s', ⟨ds.length, rfl, Nat.zero_le _, Z1, s0, Same.refl _, r1.weak wk0, i0⟩, ?_⟩
  rintro i m σ2 H2 ⟨hm, hi, Z2, s2, k2, r2, i2⟩
  obtain ⟨go, stop⟩ := wJ i Z2 H2 k2 r2.z
  by_cases hlt : i < ds.length
  · obtain ⟨g1, y1⟩ := go ds[i] (List.getElem?_eq_getElem hlt)
    refine .inr ⟨g1, fun σ' H' => ∃ Z' s', Same Z1 Z' ∧ Rel G F Z' s' σ' H' ∧ I (i + 1) s', fun σ' H' h => ⟨ds.length - (i + 1), by omega, rfl, hlt, h⟩, fun x H3 y => ?_⟩
    obtain ⟨Z3, x3, a3⟩ := y1 x H3 y
    have r3 := r2.ext x3
    have k3 := k2.trans x3.zz
    refine ⟨F, Z3, s2, ds[i], _, r3, a3, turn i ds[i] s2 (List.getElem?_eq_getElem hlt) i2, fun s4 Z4 σ4 H4 w4 k4 r4 _ _ _ => ?_⟩
    refine ⟨F, Z4, s4, _, r4, w4, ?_, ?_, ?_, ?_⟩
    · rintro s5 Z5 σ5 H5 ⟨s'', wk, i5⟩ k5 r5
      exact ⟨Z5, s'', (k3.trans k4).trans k5, r5.weak wk, i5⟩
    · intro d s5 Z5 σ5 v H5 q k5 r5 a5
      exact rt d s5 Z5 σ5 v H5 q (((k1.trans k3).trans k4).trans k5) r5 a5
    · intro s5 Z5 σ5 H5 q k5 r5
      exact n s5 Z5 σ5 H5 q (((k1.trans k3).trans k4).trans k5) r5
    · rintro s5 Z5 σ5 H5 ⟨s'', wk, i5⟩ k5 r5
      exact ⟨Z5, s'', (k3.trans k4).trans k5, r5.weak wk, i5⟩
  · have e : i = ds.length := by omega
    subst e
    exact .inl ⟨stop rfl, n s2 Z2 σ2 H2 (done s2 i2) (k1.trans k2) r2⟩
end
end Pm
set_option Elab.async false
set_option linter.all false
set_option maxRecDepth 100000
set_option maxHeartbeats 1000000
set_option autoImplicit false
namespace Pm
open PySem PySem.Spec
open PyProof.Rows hiding St
open L2
variable {γ : Type}

def wipeL (ρ : List (Option L)) : List Nat → List (Option L)
  | [] => ρ
  | v :: vs => (wipeL ρ vs).set v none
def S.wipe (s : S γ) (vs : List Nat) : S γ := ⟨wipeL s.ρ vs, s.g⟩
theorem wipeL_length (ρ : List (Option L)) : ∀ vs : List Nat, (wipeL ρ vs).length = ρ.length
  | [] => rfl
  | v :: vs => by unfold wipeL; rw [List.length_set, wipeL_length ρ vs]
theorem wipeL_some {ρ : List (Option L)} {i : Nat} {x : L} : ∀ {vs : List Nat}, (wipeL ρ vs)[i]? = some (some x) → ρ[i]? = some (some x) ∧ i ∉ vs
  | [], h => ⟨h, by simp⟩
  | v :: vs, h => by
    unfold wipeL at h
    by_cases hi : v = i
    · subst hi
      by_cases hv : v < (wipeL ρ vs).length
      · rw [List.getElem?_set_self hv] at h; cases h
      · rw [List.getElem?_eq_none (by simpa using hv)] at h; cases h
    · rw [List.getElem?_set_ne hi] at h
      obtain ⟨h1, h2⟩ := wipeL_some h
      exact ⟨h1, by simp only [List.mem_cons, not_or]; exact ⟨fun e => hi e.symm, h2⟩⟩
def keepVal : Option (Option L) → Option L
  | some (some (.val d)) => some (.val d)
  | _ => none
def S.back (s1 : S γ) (vs : List Nat) (s : S γ) : S γ := ⟨s.ρ.mapIdx fun j l => if j ∈ vs then keepVal s1.ρ[j]? else l, s.g⟩

section
variable {G : GP γ} {F : Fra} {Z Z1 : Hp} {s s' s1 : S γ} {σ σ' : St} {H H1 : Hp}
theorem Rel.resl (r : Rel G F Z s σ H) (hg : s'.g = s.g) (hl : s'.ρ.length = σ'.length) (k : ∀ (i : Nat) l, s'.ρ[i]? = some (some l) → s.ρ[i]? = some (some l) ∧ σ'[i]? = σ[i]?) : Rel G F Z s' σ' H := by
  obtain ⟨ρ', g'⟩ := s'
  simp only at hg hl k
  subst hg
  refine ⟨r.z, r.f, r.zb, hl.symm, fun i d h => ?_, fun i l h ol => ?_, fun i j l m a n h1 ol h2 om h3 h4 => ?_, r.j, r.zf, r.ff, r.fl⟩
  · obtain ⟨h1, h2⟩ := k i _ h
    obtain ⟨v, h3, h4⟩ := r.loc i d h1
    exact ⟨v, h2.trans h3, h4⟩
  · obtain ⟨h1, h2⟩ := k i _ h
    obtain ⟨a, vs, h3, h4⟩ := r.ownL i l h1 ol
    exact ⟨a, vs, h2.trans h3, h4⟩
  · obtain ⟨k1, k2⟩ := k i _ h1
    obtain ⟨k3, k4⟩ := k j _ h2
    exact r.injL i j l m a n k1 ol k3 om (k2 ▸ h3) (k4 ▸ h4)
theorem Rel.wiped (r : Rel G F Z s σ H) (vs : List Nat) : Rel G F Z (s.wipe vs) (wipe σ vs) H :=
  r.resl rfl (by show (wipeL s.ρ vs).length = _; rw [wipeL_length, wipe_length, r.len]) fun i l h => by
    obtain ⟨h1, h2⟩ := wipeL_some (show (wipeL s.ρ vs)[i]? = some (some l) from h)
    exact ⟨h1, wipe_out h2⟩
theorem Rel.backed (r1 : Rel G F Z1 s1 σ H1) {vs : List Nat} (r : Rel G F Z s (wipe σ vs) H) (k : Same Z1 Z) : Rel G F Z (s1.back vs s) σ H := by
  have out : ∀ (i : Nat) l, (s1.back vs s).ρ[i]? = some (some l) → (i ∈ vs ∧ ∃ d, l = .val d ∧ s1.ρ[i]? = some (some (.val d))) ∨ (i ∉ vs ∧ s.ρ[i]? = some (some l)) := fun i l h => by
    simp only [S.back, List.getElem?_mapIdx] at h
    cases q : s.ρ[i]? with
    | none => rw [q] at h; cases h
    | some o =>
      rw [q] at h
      simp only [Option.map_some, Option.some.injEq] at h
      by_cases hi : i ∈ vs
      · rw [if_pos hi] at h
        left
        refine ⟨hi, ?_⟩
        unfold keepVal at h
        split at h
        · rename_i d hd; cases h; exact ⟨d, rfl, hd⟩
        · cases h
      · rw [if_neg hi] at h; subst h; exact .inr ⟨hi, rfl⟩
  have hl : σ.length = s.ρ.length := by rw [← r.len, wipe_length]
  refine ⟨r.z, r.f, r.zb, by simpa [S.back] using hl, fun i d h => ?_, fun i l h ol => ?_, fun i j l m a n h1 ol h2 om h3 h4 => ?_, r.j, r.zf, r.ff, r.fl⟩
  · rcases out i _ h with ⟨_, d', e, h1⟩ | ⟨hi, h1⟩
    · cases e
      obtain ⟨v, h2, h3⟩ := r1.loc i d h1
      exact ⟨v, h2, At.mono k _ _ h3⟩
    · obtain ⟨v, h2, h3⟩ := r.loc i d h1
      exact ⟨v, by rw [← wipe_out hi]; exact h2, h3⟩
  · rcases out i _ h with ⟨_, d', e, h1⟩ | ⟨hi, h1⟩
    · subst e; cases ol
    · obtain ⟨a, ws, h2, h3⟩ := r.ownL i l h1 ol
      exact ⟨a, ws, by rw [← wipe_out hi]; exact h2, h3⟩
  · rcases out i _ h1 with ⟨_, d', e, _⟩ | ⟨hi, k1⟩
    · subst e; cases ol
    · rcases out j _ h2 with ⟨_, d', e, _⟩ | ⟨hj, k2⟩
      · subst e; cases om
      · exact r.injL i j l m a n k1 ol k2 om (by rw [wipe_out hi]; exact h3) (by rw [wipe_out hj]; exact h4)
end

def qYes : PTx γ := fun s R => R true s
abbrev QTs (X : Cx) (G : GP γ) (ifs : List Expr) (t : PTx γ) : Prop := PTs X ifs (lT G t)
theorem PTs.imp {X : Cx} {ifs : List Expr} {t t' : TT} (h : PTs X ifs t) (k : ∀ σ H Q, t' σ H Q → t σ H Q) : PTs X ifs t' := ⟨fun pins s σ H Q I w => h.run pins s σ H Q I (k _ _ _ w)⟩
theorem qts_nil {X : Cx} {G : GP γ} : QTs X G [] (qYes : PTx γ) := PTs.imp pts_nil fun σ H Q ⟨F, Z, s, R, r, t, q⟩ => q true s Z H t (Same.refl _) r
theorem qts_one {X : Cx} {G : GP γ} {c : Expr} {t : PTx γ} (h : QT X G c t) : QTs X G [c] t := pts_one h

def lcB (tg : Tg) (vs : List Nat) (tt : PTx γ) (te : PEx γ) (R : List D → S γ → Prop) (ds : List D) (s1 : S γ) : Prop := ∃ I : Nat → List D → S γ → Prop, (∃ s0, Wk (s1.wipe vs) s0 ∧ I 0 [] s0) ∧
  (∀ i d acc s, ds[i]? = some d → I i acc s → qPut tg d s fun s2 => tt s2 fun b s3 => Br b (te s3 fun y s4 => acc.length < sizeLine ∧ ∃ s5, Wk (s4.wipe vs) s5 ∧ I (i + 1) (acc ++ [y]) s5) (∃ s5, Wk (s3.wipe vs) s5 ∧ I (i + 1) acc s5)) ∧
  ∀ acc s, I ds.length acc s → R acc (s1.back vs s)
def qLc (ti : PAx γ) (tg : Tg) (vs : List Nat) (tt : PTx γ) (te : PEx γ) : PAx γ := fun s R => ti s fun ds s1 => lcB tg vs tt te R ds s1

def Fra.bar (F : Fra) (D : Addr) (o : HO) : Fra := ⟨upd F.F D o, fun a => F.B a ∨ a = D, fun a h => by
  by_cases e : a = D
  · subst e; exact ⟨o, upd_same⟩
  · rw [upd_ne e]
    rcases h with h | h
    · exact F.bf a h
    · exact absurd h e⟩

section
variable {G : GP γ} {F : Fra} {Z : Hp} {s : S γ} {σ : St} {H : Hp}
theorem Rel.bar (r : Rel G F Z s σ H) {D : Addr} {o : HO} (hD : H D = some o) (hz : Z D = none) (hg : ¬ G.foot s.g D) (ho : Nob s σ D) : Rel G (F.bar D o) Z s σ H := by
  refine ⟨r.z, fun a u e => ?_, fun a h => ?_, r.len, r.loc, fun i l h ol => ?_, r.injL, r.j, r.zf, fun a h => ?_, r.fl⟩
  · by_cases hb : a = D
    · subst hb
      have e' : some o = some u := by rw [← e]; exact upd_same.symm
      rw [hD, e']
    · exact r.f a u (by rw [← e]; exact (upd_ne hb).symm)
  · rcases h with h | h
    · exact r.zb a h
    · rw [h]; exact hz
  · obtain ⟨a, vs, h1, h2, h3, h4, h5⟩ := r.ownL i l h ol
    have : a ≠ D := fun e => ho i l h ol (by rw [← e]; exact h1)
    exact ⟨a, vs, h1, h2, h3, h4, by show upd F.F D o a = none; rw [upd_ne this]; exact h5.1, h5.2⟩
  · have : a ≠ D := fun e => hg (by rw [← e]; exact h)
    show upd F.F D o a = none
    rw [upd_ne this]; exact r.ff a h
theorem Rel.unbar {D : Addr} {o o' : HO} (hF : F.F D = none) (r : Rel G (F.bar D o) Z s σ H) : H D = some o ∧ Z D = none ∧ ¬ G.foot s.g D ∧ Nob s σ D ∧ Rel G F Z s σ (upd H D o') := by
  have e1 : H D = some o := r.f D o upd_same
  have e2 : Z D = none := r.zb D (.inr rfl)
  have e3 : ¬ G.foot s.g D := fun h => by
    have z : upd F.F D o D = none := r.ff D h
    rw [upd_same] at z; cases z
  have e4 : Nob s σ D := fun i l h ol e => by
    obtain ⟨a, vs, h1, h2, h3, h4, h5, _⟩ := r.ownL i l h ol
    rw [h1] at e
    cases e
    have z : upd F.F D o D = none := h5
    rw [upd_same] at z; cases z
  refine ⟨e1, e2, e3, e4, fun a u e => ?_, fun a u e => ?_, fun a h => r.zb a (.inl h), r.len, r.loc, fun i l h ol => ?_, r.injL, G.stay _ _ _ _ _ r.j (Same.refl _) fun a h => ?_, r.zf, fun a h => ?_, r.fl⟩
  · rw [upd_ne (ne_of_none e e2)]; exact r.z a u e
  · have n : a ≠ D := ne_of_none e hF
    rw [upd_ne n]; exact r.f a u (by show upd F.F D o a = some u; rw [upd_ne n]; exact e)
  · obtain ⟨a, vs, h1, h2, h3, h4, h5⟩ := r.ownL i l h ol
    have n : a ≠ D := fun e => e4 i l h ol (by rw [← e]; exact h1)
    refine ⟨a, vs, h1, by rw [upd_ne n]; exact h2, h3, h4, ?_, h5.2⟩
    have z : upd F.F D o a = none := h5.1
    rw [upd_ne n] at z; exact z
  · exact upd_ne fun e => e3 (by rw [← e]; exact h)
  · have n : a ≠ D := fun e => e3 (by rw [← e]; exact h)
    have z : upd F.F D o a = none := r.ff a h
    rw [upd_ne n] at z; exact z
end

theorem llc {K : PySem.W.Frag} {G : GP γ} {ti : PAx γ} {tg : Tg} {vs : List Nat} {tt : PTx γ} {te : PEx γ} (hj : ∀ j ∈ tg.js, j ∈ vs) {σ : St} {H : Hp} {Q : VK} (h : lF G (qLc ti tg vs tt te) σ H Q) :
    tLc (lI G ti) (lG G tg.js (qPut tg)) (lT G tt) (lE G te) vs σ H Q := by
  obtain ⟨F, Z, s, R, r, t, q⟩ := h
  refine ⟨F, Z, s, _, r, t, fun ds s1 Z1 H1 J w1 k1 r1 wJ D hD => ?_⟩
  obtain ⟨I, ⟨s0, wk0, i0⟩, turn, done⟩ := w1
  have FD : F.F D = none := r1.f.free hD
  refine ⟨fun i m H => m = ds.length - i ∧ i ≤ ds.length ∧ ∃ Z' s' acc av, Same Z1 Z' ∧ Rel G (F.bar D (.lst av)) Z' s' (wipe σ vs) H ∧ Ats G.K Z' acc av ∧ I i acc s', ⟨ds.length, rfl, Nat.zero_le _, ?_⟩, ?_⟩
  · obtain ⟨f1, f2, f3, f4⟩ := r1.fresh hD
    have r2 := (r1.grow (same_upd (o := HO.lst []) hD)).bar upd_same f1 f3 f4
    exact ⟨Z1, s0, [], [], Same.refl _, (r2.wiped vs).weak wk0, rfl, i0⟩
  · rintro i m H2 ⟨hm, hi, Z2, s2, acc, av, k2, r2, a2, i2⟩
    obtain ⟨go, stop⟩ := wJ i Z2 H2 k2 r2.z
    by_cases hlt : i < ds.length
    · obtain ⟨g1, y1⟩ := go ds[i] (List.getElem?_eq_getElem hlt)
      refine .inr ⟨g1, fun H' => ∃ Z' s' acc av, Same Z1 Z' ∧ Rel G (F.bar D (.lst av)) Z' s' (wipe σ vs) H' ∧ Ats G.K Z' acc av ∧ I (i + 1) acc s', fun H' h => ⟨ds.length - (i + 1), by omega, rfl, hlt, h⟩, fun x H3 y => ?_⟩
      obtain ⟨Z3, x3, a3⟩ := y1 x H3 y
      have r3 := r2.ext x3
      have k3 := k2.trans x3.zz
      refine ⟨F.bar D (.lst av), Z3, s2, ds[i], _, r3, a3, turn i ds[i] acc s2 (List.getElem?_eq_getElem hlt) i2, fun s4 Z4 σ4 H4 w4 k4 r4 e4 o4 l4 => ?_⟩
      have we : wipe σ4 vs = wipe σ vs := by
        refine List.ext_getElem? fun j => ?_
        by_cases hjv : j ∈ vs
        · have n1 : ∀ (τ : St), τ.length = σ.length → (wipe τ vs)[j]? = if j < σ.length then some none else none := fun τ hl => by
            by_cases hlt : j < σ.length
            · rw [if_pos hlt]
              have hlt' : j < (wipe τ vs).length := by rw [wipe_length, hl]; exact hlt
              rw [List.getElem?_eq_getElem hlt']
              congr 1
              cases e : (wipe τ vs)[j] with
              | none => rfl
              | some v => exact absurd hjv (wipe_some (show (wipe τ vs)[j]? = some (some v) by rw [List.getElem?_eq_getElem hlt', e])).2
            · rw [if_neg hlt, List.getElem?_eq_none (by rw [wipe_length, hl]; omega)]
          rw [n1 σ4 (by rw [l4, wipe_length]), n1 σ rfl]
        · rw [wipe_out hjv, o4 j (fun h => hjv (hj j h))]
      refine ⟨we, F.bar D (.lst av), Z4, s4, _, r4, w4, fun b s5 Z5 H5 w5 k5 r5 => ?_⟩
      cases b with
      | true =>
        refine iteT ⟨F.bar D (.lst av), Z5, s5, _, r5, w5.1 rfl, fun y s6 Z6 v H6 w6 k6 r6 a6 => ?_⟩
        obtain ⟨w6, s7, wk7, i7⟩ := w6
        obtain ⟨e1, e2, e3, e4', r7⟩ := r6.unbar (o' := .lst (av ++ [v])) FD
        have kk := ((x3.zz.trans k4).trans k5).trans k6
        refine ⟨av, e1, by rw [a2.len]; exact w6, Z6, s7, acc ++ [y], av ++ [v], k2.trans kk, ?_, (Ats.mono kk _ _ a2).append ⟨v, [], rfl, a6, rfl⟩, i7⟩
        have r8 := r7.bar (o := .lst (av ++ [v])) upd_same e2 e3 e4'
        have r9 := r8.wiped vs
        rw [we] at r9
        exact r9.weak wk7
      | false =>
        refine iteF ?_
        obtain ⟨s7, wk7, i7⟩ := w5.2 rfl
        have kk := (x3.zz.trans k4).trans k5
        have r9 := r5.wiped vs
        rw [we] at r9
        exact ⟨Z5, s7, acc, av, k2.trans kk, r9.weak wk7, Ats.mono kk _ _ a2, i7⟩
    · have e : i = ds.length := by omega
      subst e
      obtain ⟨e1, e2, e3, e4, r7⟩ := r2.unbar (o' := .lst av) FD
      have hu : upd H2 D (.lst av) = H2 := by
        funext b
        by_cases hb : b = D
        · subst hb; rw [upd_same, e1]
        · rw [upd_ne hb]
      rw [hu] at r7
      refine .inl ⟨stop rfl, q acc _ Z2 D av H2 (done acc s2 i2) (k1.trans k2) (r1.backed r7 k2) e1 a2 e2 FD (by exact e3) fun j l h ol => ?_⟩
      -- no list of one's own is the new one
      intro e
      have r8 := r1.backed r7 k2
      obtain ⟨a, ws, h1, h2, h3, h4, h5, h6⟩ := r8.ownL j l h ol
      rw [h1] at e
      cases e
      simp only [S.back, List.getElem?_mapIdx] at h
      cases q' : s2.ρ[j]? with
      | none => rw [q'] at h; cases h
      | some o =>
        rw [q'] at h
        simp only [Option.map_some, Option.some.injEq] at h
        by_cases hjv : j ∈ vs
        · rw [if_pos hjv] at h
          unfold keepVal at h
          split at h
          · cases h; cases ol
          · cases h
        · rw [if_neg hjv] at h
          subst h
          exact e4 j l q' ol (by rw [wipe_out hjv]; exact h1)

section
variable {X : Cx} {G : GP γ} {elt tg iter : Expr} {ifs : List Expr} {scope : Scope} {own : List (Str × Nat)} {pos : Pos} {ti : PAx γ} {t : Tg} {tt : PTx γ} {te : PEx γ}
theorem qf_lc (hc : X.calm = true) (hN : X.N.Nodup) (hi : QI X G tg iter ti) (ok : BlkOk X.N X.env.scope scope own) (hj : ∀ j ∈ t.js, j ∈ own.map (·.2))
    (hg : ∀ (s : Shared) (H : Hp) (C : Addr) (cl : List (Str × Addr)) (fp : List Addr), QG' (X.blk s H scope (compEnvC scope cl C X.env) fp) G tg t)
    (ht : ∀ (s : Shared) (H : Hp) (C : Addr) (cl : List (Str × Addr)) (fp : List Addr), QTs (X.blk s H scope (compEnvC scope cl C X.env) fp) G ifs tt)
    (he : ∀ (s : Shared) (H : Hp) (C : Addr) (cl : List (Str × Addr)) (fp : List Addr), QE (X.blk s H scope (compEnvC scope cl C X.env) fp) G elt te) (hs : ∀ x, foldedSetIterable iter X.env x = pure x := by intro _; rfl) :
    QF X G (.ListComp elt [⟨tg, iter, ifs, 0⟩] scope pos) (qLc ti t (own.map (·.2)) tt te) :=
  PE.imp (pe_lc hc hN hi ok hg ht he hs) fun _ _ _ h => llc (K := X.K) hj h
theorem qs_lc {i : Nat} {y : Str} {py spos : Pos} (hc : X.calm = true) (hN : X.N.Nodup) (hy : X.N[i]? = some y) (hyl : X.env.scope.names.lookup y = some .local)
    (hsw : swapsWith (.ListComp elt [⟨tg, iter, ifs, 0⟩] scope pos) (some (.Name y py)) spos.line X.env = pure true) (hi : QI X G tg iter ti) (ok : BlkOk X.N X.env.scope scope own) (hj : ∀ j ∈ t.js, j ∈ own.map (·.2))
    (hg : ∀ (s : Shared) (H : Hp) (C : Addr) (cl : List (Str × Addr)) (fp : List Addr), QG' (X.blk s H scope (compEnvC scope cl C X.env) fp) G tg t)
    (ht : ∀ (s : Shared) (H : Hp) (C : Addr) (cl : List (Str × Addr)) (fp : List Addr), QTs (X.blk s H scope (compEnvC scope cl C X.env) fp) G ifs tt)
    (he : ∀ (s : Shared) (H : Hp) (C : Addr) (cl : List (Str × Addr)) (fp : List Addr), QE (X.blk s H scope (compEnvC scope cl C X.env) fp) G elt te) (hs : ∀ x, foldedSetIterable iter X.env x = pure x := by intro _; rfl) :
    QS X G (.Assign [.Name y py] (.ListComp elt [⟨tg, iter, ifs, 0⟩] scope pos) spos) (qAsg (qSet (qLc ti t (own.map (·.2)) tt te)) i) := by
  refine PS.imp (ps_setLc hc hN hy hyl hsw hi ok hg ht he hs) fun De σ H ⟨F, Z, s, E, r, w, n, _⟩ => ?_
  show tLc _ _ _ _ _ σ H _
  refine llc (K := X.K) hj ⟨F, Z, s, _, r, w, fun ds s1 Z1 a vs H1 t1 k1 r1 ha a1 hz hf hg ho => ?_⟩
  have k := same_upd (o := HO.lst vs) hz
  exact n _ (upd Z1 a (.lst vs)) _ H1 t1 (k1.trans k) ((r1.settle ha hz hg (Fra.nb hf) ho).put ⟨a, vs, rfl, upd_same, Ats.mono k _ _ a1⟩)
end

def startL (n : Nat) (ds : List D) : List (Option L) := ds.map (fun d => some (.val d)) ++ List.replicate (n - ds.length) none
theorem start_at {K : PySem.W.Frag} {Z : Hp} {N : List Str} {ds : List D} {vs : List V} (h : Ats K Z ds vs) {i : Nat} {l : L} (e : (startL N.length ds)[i]? = some (some l)) : ∃ d, l = .val d ∧ ∃ v, (L2.start N vs)[i]? = some (some v) ∧ At K Z d v := by
  unfold startL at e
  by_cases hi : i < ds.length
  · rw [List.getElem?_append_left (by simpa using hi), List.getElem?_map] at e
    cases q : ds[i]? with
    | none => rw [q] at e; cases e
    | some d =>
      rw [q] at e
      simp only [Option.map_some, Option.some.injEq] at e
      obtain ⟨v, h1, h2⟩ := h.get q
      refine ⟨d, e.symm, v, ?_, h2⟩
      unfold L2.start
      rw [List.getElem?_append_left (by rw [List.length_map, h.len]; exact hi), List.getElem?_map, h1]; rfl
  · rw [List.getElem?_append_right (by simpa using hi), List.getElem?_replicate] at e
    split at e <;> cases e
section
variable {P : Program} {w : World} {K : PySem.W.Frag} {mg : Str → Option Value} {base : Heap}
abbrev Fn (K : PySem.W.Frag) (x qual : Str) (st : Stmt) (f : Addr) (fd : FuncData) : Prop := FunD K x qual (defArgs st) (defBody st) (defScope st) [] [] f fd
theorem Fn.ok {x qual : Str} {st : Stmt} {f : Addr} {fd : FuncData} {N ps : List Str} {k : Nat} {sp : Sp} (F : Fn K x qual st f fd) (S : FnScope N ps (defScope st)) (len : ∀ vs H Q E, sp vs H Q E → vs.length = ps.length)
    (hbody : ∀ (cdv : Value) (A : Around) (outer : List Env) (s : Shared) (H : Hp) (vs : List V) (Q : VK) (E : XK), Room k (A.deeper (envOfC qual (defScope st) s.heap.objs.size f cdv)) → sp vs H Q E →
      ∃ t, PSs (cxOf CX0 P w K mg base N qual (defScope st) f cdv A outer s H E).nox (defBody st) t ∧ t { nx := fun _ H' => Q .non H', rt := Q } (L2.start N vs) H) : FnOk P w K mg base CX0 (k + 1) f fd ps sp :=
  FunD.ok F S len fun cdv A outer s H vs Q E hr h => by
    obtain ⟨t, h1, h2⟩ := hbody cdv A outer s H vs Q E hr h
    exact ⟨t, PSs.nox h1, h2⟩
theorem okP {x qual : Str} {st : Stmt} {f : Addr} {fd : FuncData} {N ps : List Str} {k : Nat} (F : Fn K x qual st f fd) (S : FnScope N ps (defScope st)) {fs : Spec0} (len : ∀ ds R, fs ds R → ds.length = ps.length)
    (body : ∃ t : PSx Unit, (∀ (cdv : Value) (A : Around) (outer : List Env) (s : Shared) (H : Hp) (E : XK), Room k (A.deeper (envOfC qual (defScope st) s.heap.objs.size f cdv)) →
      QSs (cxOf CX0 P w K mg base N qual (defScope st) f cdv A outer s H E).nox (none0 K) (defBody st) t) ∧ ∀ ds R, fs ds R → t { nx := fun _ => R .non, rt := fun d _ => R d } ⟨startL N.length ds, ()⟩) : FnOk P w K mg base CX0 (k + 1) f fd ps (spP K fs) := by
  refine F.ok S (fun vs H Q E h => ?_) (fun cdv A outer s H vs Q E hr h => ?_)
  · obtain ⟨Z, ds, R, _, a, h, _⟩ := h
    rw [a.len]; exact len _ _ h
  · obtain ⟨t, hb, hp⟩ := body
    refine ⟨_, hb cdv A outer s H E hr, ?_⟩
    obtain ⟨Z, ds, R, k, a, h, q⟩ := h
    have hl : ps.length ≤ N.length := by have := congrArg List.length S.pre; rw [List.length_take] at this; omega
    have hd := len _ _ h
    refine ⟨⟨H, fun b => H b ≠ none ∧ Z b = none, fun b hb => Option.ne_none_iff_exists'.mp hb.1⟩, Z, _, _, ?_, hp ds R h, ?_, ?_, ?_, ?_⟩
    · refine ⟨k, Same.refl _, fun b hb => hb.2, ?_, fun i d e => ?_, fun i l e ol => ?_, fun i j l m b n e1 o1 e2 => ?_, trivial, fun b z => False.elim z, fun b z => False.elim z, fun _ _ z => by cases z⟩
      · unfold L2.start startL
        simp only [List.length_append, List.length_map, List.length_replicate, a.len]
      · obtain ⟨d', e', v, h1, h2⟩ := start_at a e
        cases e'
        exact ⟨v, h1, h2⟩
      · obtain ⟨d', e', _⟩ := start_at a e
        subst e'; cases ol
      · obtain ⟨d', e', _⟩ := start_at a e1
        subst e'; cases o1
    · intro s' Z' σ' H' q' k' r'
      exact q .non Z' .non H' q' k' r'.z r'.f (fun b o e n => by
        cases hb : H b with
        | none => rfl
        | some u => have := r'.zb b ⟨by rw [hb]; simp, n⟩; rw [e] at this; cases this) rfl
    · intro d s' Z' σ' v H' q' k' r' a'
      exact q d Z' v H' q' k' r'.z r'.f (fun b o e n => by
        cases hb : H b with
        | none => rfl
        | some u => have := r'.zb b ⟨by rw [hb]; simp, n⟩; rw [e] at this; cases this) a'
    · intro s' Z' σ' H' q'; exact q'.elim
    · intro s' Z' σ' H' q'; exact q'.elim
theorem liftG {G : GP γ} {N ps : List Str} {fs : Spec γ} {t : PSx γ} (hl : ps.length ≤ N.length) (len : ∀ ds g R, fs ds g R → ds.length = ps.length) (hp : ∀ ds g R, fs ds g R → t { nx := fun s => R .non s.g, rt := R } ⟨startL N.length ds, g⟩)
    (grow : ∀ g g' : γ, ∀ a, G.foot g' a → G.foot g a) (hfl : ∀ a, G.fl a = none) {vs : List V} {H : Hp} {Q : VK} {E : XK} (h : spG G fs vs H Q E) : lS G t { nx := fun _ H' => Q .non H', rt := Q } (L2.start N vs) H := by
  obtain ⟨Z, ds, g, R, k, a, hj, hzf, h, q⟩ := h
  have hd := len _ _ _ h
  classical
  have hF : ∀ (b : Addr) (o : HO), (if G.foot g b then none else H b) = some o → H b = some o ∧ ¬ G.foot g b := fun b o e => by
    by_cases hb : G.foot g b
    · rw [if_pos hb] at e; cases e
    · rw [if_neg hb] at e; exact ⟨e, hb⟩
  refine ⟨⟨fun b => if G.foot g b then none else H b, fun b => H b ≠ none ∧ Z b = none ∧ ¬ G.foot g b, fun b hb => ?_⟩, Z, _, _, ?_, hp ds g R h, ?_, ?_, ?_, ?_⟩
  · simp only [if_neg hb.2.2]; exact Option.ne_none_iff_exists'.mp hb.1
  · refine ⟨k, fun b o e => (hF b o e).1, fun b hb => hb.2.1, ?_, fun i d e => ?_, fun i l e ol => ?_, fun i j l m b n e1 o1 e2 => ?_, hj, hzf, fun b z => if_pos z, fun b _ z => by rw [hfl b] at z; cases z⟩
    · unfold L2.start startL
      simp only [List.length_append, List.length_map, List.length_replicate, a.len]
    · obtain ⟨d', e', v, h1, h2⟩ := start_at a e
      cases e'
      exact ⟨v, h1, h2⟩
    · obtain ⟨d', e', _⟩ := start_at a e
      subst e'; cases ol
    · obtain ⟨d', e', _⟩ := start_at a e1
      subst e'; cases o1
  all_goals
    have fin : ∀ (d : D) (s' : Pm.S γ) (Z' : Hp) (σ' : St) (v : V) (H' : Hp), R d s'.g → Same Z Z' → Rel G ⟨fun b => if G.foot g b then none else H b, fun b => H b ≠ none ∧ Z b = none ∧ ¬ G.foot g b, fun b hb => by simp only [if_neg hb.2.2]; exact Option.ne_none_iff_exists'.mp hb.1⟩ Z' s' σ' H' → At G.K Z' d v → Q v H' :=
      fun d s' Z' σ' v H' q' k' r' a' => q d s'.g Z' v H' q' k' r'.z (fun b o e n => r'.f b o (by simp only [if_neg n]; exact e)) (fun b o e n => by
        cases hb : H b with
        | none => rfl
        | some u =>
          by_cases hf : G.foot g b
          · have := r'.zf b (by first | exact grow _ _ _ hf | exact hf); rw [e] at this; cases this
          · have := r'.zb b ⟨by rw [hb]; simp, n, hf⟩; rw [e] at this; cases this) r'.j (fun b hb => ⟨r'.zf b hb, .inl (grow _ _ b hb)⟩) a'
  · intro s' Z' σ' H' q' k' r'
    exact fin .non s' Z' σ' .non H' q' k' r' rfl
  · exact fin
  · intro s' Z' σ' H' q'; exact q'.elim
  · intro s' Z' σ' H' q'; exact q'.elim
theorem okG {G : GP γ} (hK : G.K = K) {x qual : Str} {st : Stmt} {f : Addr} {fd : FuncData} {N ps : List Str} {k : Nat} (F : Fn K x qual st f fd) (S : FnScope N ps (defScope st)) {fs : Spec γ} (len : ∀ ds g R, fs ds g R → ds.length = ps.length)
    (body : ∃ t : PSx γ, (∀ (cdv : Value) (A : Around) (outer : List Env) (s : Shared) (H : Hp) (E : XK), Room k (A.deeper (envOfC qual (defScope st) s.heap.objs.size f cdv)) →
      QSs (cxOf CX0 P w K mg base N qual (defScope st) f cdv A outer s H E).nox G (defBody st) t) ∧ ∀ ds g R, fs ds g R → t { nx := fun s => R .non s.g, rt := R } ⟨startL N.length ds, g⟩)
    (grow : ∀ g g' : γ, ∀ a, G.foot g' a → G.foot g a) (hfl : ∀ a, G.fl a = none := by intro _; rfl) : FnOk P w K mg base CX0 (k + 1) f fd ps (spG G fs) := by
  subst hK
  refine F.ok S (fun vs H Q E h => ?_) (fun cdv A outer s H vs Q E hr h => ?_)
  · obtain ⟨Z, ds, g, R, _, a, _, _, h, _⟩ := h
    rw [a.len]; exact len _ _ _ h
  · obtain ⟨t, hb, hp⟩ := body
    exact ⟨_, hb cdv A outer s H E hr, liftG (ps := ps) (by have := congrArg List.length S.pre; rw [List.length_take] at this; omega) len hp grow hfl h⟩
end
end Pm
set_option Elab.async false
set_option linter.all false
set_option maxRecDepth 100000
set_option maxHeartbeats 1000000
set_option autoImplicit false
namespace Pm
open PySem PySem.Spec
open PyProof.Rows hiding St
open L2
variable {γ : Type}

def keyPy : Key → PyData
  | .inl i => .int i
  | .inr x => .str x
mutual
def D.py : D → PyData
  | .non => .none
  | .bl b => .bool b
  | .int i => .int i
  | .str x => .str x
  | .lst xs => .list (D.pys xs)
  | .tup xs => .tuple (D.pys xs)
  | .dct ks xs => .dict ((ks.map keyPy).zip (D.pys xs))
  | .obj _ => .none
def D.pys : List D → List PyData
  | [] => []
  | d :: ds => d.py :: D.pys ds
end
mutual
def D.pln : D → Bool
  | .non => true
  | .bl _ => true
  | .int _ => true
  | .str x => PyData.strOk x
  | .lst xs => D.plns xs
  | .tup xs => D.plns xs
  | .dct _ _ => false
  | .obj _ => false
def D.plns : List D → Bool
  | [] => true
  | d :: ds => d.pln && D.plns ds
end
mutual
def D.dep : D → Nat
  | .lst xs => D.deps xs + 1
  | .tup xs => D.deps xs + 1
  | .dct _ xs => D.deps xs + 1
  | _ => 0
def D.deps : List D → Nat
  | [] => 0
  | d :: ds => max d.dep (D.deps ds)
end
mutual
def D.eqv : D → D → Bool
  | .non, .non => true
  | .bl a, .bl b => a == b
  | .bl a, .int j => (if a then 1 else 0) == j
  | .int i, .bl b => i == (if b then 1 else 0)
  | .int i, .int j => i == j
  | .str x, .str y => x == y
  | .lst xs, .lst ys => D.eqvs xs ys
  | .tup xs, .tup ys => D.eqvs xs ys
  | _, _ => false
def D.eqvs : List D → List D → Bool
  | [], [] => true
  | x :: xs, y :: ys => D.eqv x y && D.eqvs xs ys
  | _, _ => false
end
mutual
theorem eqv_py : ∀ (d e : D), d.pln = true → e.pln = true → PyData.eqv d.py e.py = D.eqv d e
  | .lst xs, e, h, h' => by
    cases e <;> simp_all only [D.pln, D.py, D.eqv, PyData.eqv, Bool.false_eq_true]
    exact eqvs_py xs _ h h'
  | .tup xs, e, h, h' => by
    cases e <;> simp_all only [D.pln, D.py, D.eqv, PyData.eqv, Bool.false_eq_true]
    exact eqvs_py xs _ h h'
  | .non, e, h, h' => by cases e <;> simp_all [D.pln, D.py, D.eqv, PyData.eqv]
  | .bl a, e, h, h' => by cases e <;> simp_all [D.pln, D.py, D.eqv, PyData.eqv]
  | .int a, e, h, h' => by cases e <;> simp_all [D.pln, D.py, D.eqv, PyData.eqv]
  | .str a, e, h, h' => by cases e <;> simp_all [D.pln, D.py, D.eqv, PyData.eqv]
  | .dct _ _, e, h, h' => by simp [D.pln] at h
  | .obj _, e, h, h' => by simp [D.pln] at h
theorem eqvs_py : ∀ (xs ys : List D), D.plns xs = true → D.plns ys = true → PyData.eqvAll (D.pys xs) (D.pys ys) = D.eqvs xs ys
  | [], [], _, _ => by simp [D.pys, D.eqvs, PyData.eqvAll]
  | [], _ :: _, _, _ => by simp [D.pys, D.eqvs, PyData.eqvAll]
  | _ :: _, [], _, _ => by simp [D.pys, D.eqvs, PyData.eqvAll]
  | x :: xs, y :: ys, h, h' => by
    simp only [D.plns, Bool.and_eq_true] at h h'
    simp only [D.pys, D.eqvs, PyData.eqvAll]
    rw [eqv_py x y h.1 h'.1, eqvs_py xs ys h.2 h'.2]
end
mutual
theorem canLay_py : ∀ (d : D), d.pln = true → d.py.canLay0 = true
  | .lst xs, h => by simp only [D.pln] at h; simp only [D.py, PyData.canLay0]; exact canLays_py xs h
  | .tup xs, h => by simp only [D.pln] at h; simp only [D.py, PyData.canLay0]; exact canLays_py xs h
  | .non, h => rfl
  | .bl _, h => rfl
  | .int _, h => rfl
  | .str _, h => by simp only [D.pln] at h; simp only [D.py, PyData.canLay0]; exact h
  | .dct _ _, h => by simp [D.pln] at h
  | .obj _, h => by simp [D.pln] at h
theorem canLays_py : ∀ (ds : List D), D.plns ds = true → PyData.canLayAll0 (D.pys ds) = true
  | [], _ => rfl
  | d :: ds, h => by
    simp only [D.plns, Bool.and_eq_true] at h
    simp only [D.pys, PyData.canLayAll0, Bool.and_eq_true]
    exact ⟨canLay_py d h.1, canLays_py ds h.2⟩
end
mutual
theorem dep_py : ∀ (d : D), d.pln = true → d.py.depth = d.dep
  | .lst xs, h => by simp only [D.pln] at h; simp only [D.py, PyData.depth, D.dep, deps_py xs h]
  | .tup xs, h => by simp only [D.pln] at h; simp only [D.py, PyData.depth, D.dep, deps_py xs h]
  | .non, h => by simp [D.py, PyData.depth, D.dep]
  | .bl _, h => by simp [D.py, PyData.depth, D.dep]
  | .int _, h => by simp [D.py, PyData.depth, D.dep]
  | .str _, h => by simp [D.py, PyData.depth, D.dep]
  | .dct _ _, h => by simp [D.pln] at h
  | .obj _, h => by simp [D.pln] at h
theorem deps_py : ∀ (ds : List D), D.plns ds = true → PyData.depthAll (D.pys ds) = D.deps ds
  | [], _ => by simp [D.pys, PyData.depthAll, D.deps]
  | d :: ds, h => by
    simp only [D.plns, Bool.and_eq_true] at h
    simp only [D.pys, PyData.depthAll, D.deps, dep_py d h.1, deps_py ds h.2]
end
section
variable {K : PySem.W.Frag} {Z H : Hp}
mutual
theorem At.dp (k : Same Z H) : ∀ (d : D) (v : V), At K Z d v → d.pln = true → Dp K H v d.py
  | .lst xs, v, h, p => by
    simp only [At] at h; simp only [D.pln] at p; simp only [D.py]
    obtain ⟨a, vs, rfl, h2, h3⟩ := h
    exact .lst (.inl (.inl (k _ _ h2))) (Ats.dp k xs vs h3 p)
  | .tup xs, v, h, p => by
    simp only [At] at h; simp only [D.pln] at p; simp only [D.py]
    obtain ⟨a, vs, rfl, h2, h3⟩ := h
    exact .tup (seqT k h2) (Ats.dp k xs vs h3 p)
  | .non, v, h, p => by simp only [At] at h; subst h; exact .non
  | .bl b, v, h, p => by simp only [At] at h; subst h; exact .bl b
  | .int i, v, h, p => by simp only [At] at h; subst h; exact .int i
  | .str x, v, h, p => by simp only [At] at h; subst h; exact .str x
  | .dct _ _, _, h, p => by simp [D.pln] at p
  | .obj _, _, h, p => by simp [D.pln] at p
theorem Ats.dp (k : Same Z H) : ∀ (ds : List D) (vs : List V), Ats K Z ds vs → D.plns ds = true → DpAll K H vs (D.pys ds)
  | [], vs, h, p => by simp only [Ats] at h; subst h; exact .nil
  | d :: ds, vs, h, p => by
    simp only [Ats] at h; simp only [D.plns, Bool.and_eq_true] at p; simp only [D.pys]
    obtain ⟨w, ws, rfl, h2, h3⟩ := h
    exact .cons (At.dp k d w h2 p.1) (Ats.dp k ds ws h3 p.2)
end
end

theorem dk {K : PySem.W.Frag} {Z H : Hp} {R : DK} {Q : VK} (q : ∀ z Z' v H', R z → Ext Z H Z' H' → At K Z' z v → Q v H') (k : Same Z H) {d : D} {v : V} (h : R d) (a : At K Z d v) : Q v H := q d Z v H h (Ext.refl k) a

section
variable {X : Cx}
def MulOk (i j : Int) : Prop := CMul i j ∨ CMulW i j
theorem MulOk.ok {i j : Int} (h : MulOk i j) : IntMulOk i j := by
  rcases h with h | h
  · exact h.ok
  · exact h.ok
theorem op_mulM : OpR X (binaryOp .Mult) (rI MulOk fun i j => .int (i * j)) := opI fun _ _ _ _ _ _ _ hc q => mul_int q hc.ok
def DivOk (i j : Int) : Prop := j ≠ 0 ∧ j.natAbs.log2 < 9000
theorem op_fdivM : OpR X (binaryOp .FloorDiv) (rI DivOk fun i j => .int (i.fdiv j)) := opI fun i j _ _ _ _ _ hc q => floordiv_int hc.1 q (.inl (PyProof.noPylong_of_log2 hc.2))
def rCatT' (K : PySem.W.Frag) : R2 := fun x y H Q => ∃ a b xs ys, x = .ref a ∧ y = .ref b ∧ SqT K H a xs ∧ SqT K H b ys ∧ xs.length + ys.length ≤ sizeLine ∧
  (ys = [] → Q (.ref a) H) ∧ (xs = [] → Q (.ref b) H) ∧ (∀ p, H p = none → Q (.ref p) (upd H p (.tup (xs ++ ys))))
theorem op_catT' : OpR X (binaryOp .Add) (rCatT' X.K) := by
  intro pins s σ H x y v u Q I rx ry h
  obtain ⟨a, b, xs, ys, rfl, rfl, ha, hb, hz, q1, q3, q2⟩ := h
  by_cases hx : xs = []
  · cases rx
    cases ry
    obtain ⟨its, r1, p1, _⟩ := I.tuple ha
    obtain ⟨its2, r2, p2, _⟩ := I.tuple hb
    subst hx
    cases r1
    obtain ⟨⟨cls, dd, data, sl⟩, ho, hc, n, hd⟩ := id p1
    obtain ⟨⟨cls2, dd2, data2, sl2⟩, ho2, hc2, n2, hd2⟩ := id p2
    simp only at hc hd hc2 hd2
    subst hc hd hc2 hd2
    exact concat_meets ⟨_, ho, rfl⟩ ⟨_, ho2, rfl⟩ noFill_tuple_add seq_tuple_add PySem.F.slot_tuple_add PySem.F.entry_tuple_add (PySem.F.args_tuple_add_2 _ _)
      (tuple_addW0 a b [].toArray its2.toArray n n2 dd dd2 sl sl2 rfl) ⟨ho, ho2, ⟨.ref b, H, I, rfl, q3 rfl⟩⟩
  · exact op_catT pins s σ H _ _ v u Q I rx ry ⟨a, b, xs, ys, rfl, rfl, ha, hb, hx, hz, q1, fun _ => q2⟩

def addD : D → D → DK → Prop
  | .int i, .int j, R => R (.int (i + j))
  | .str x, .str y, R => x.length + y.length ≤ sizeLine ∧ R (.str (x ++ y))
  | .tup xs, .tup ys, R => xs.length + ys.length ≤ sizeLine ∧ R (.tup (xs ++ ys))
  | .lst xs, .lst ys, R => xs.length + ys.length ≤ sizeLine ∧ R (.lst (xs ++ ys))
  | _, _, _ => False
theorem o_add : OpR X (binaryOp .Add) (dOp2 X.K addD) := by
  intro pins s σ H x y v u Q I rx ry ⟨Z, d, e, R, k, ad, ae, h, q⟩
  cases d <;> cases e <;> try exact h.elim
  · simp only [At] at ad ae
    subst ad; subst ae
    exact op_add pins s σ H _ _ v u Q I rx ry ⟨_, _, rfl, rfl, dk q k h rfl⟩
  · simp only [At] at ad ae
    subst ad; subst ae
    exact op_add_str pins s σ H _ _ v u Q I rx ry ⟨_, _, rfl, rfl, h.1, dk q k h.2 rfl⟩
  · simp only [At] at ad ae
    obtain ⟨a, vs, rfl, a2, a3⟩ := ad
    obtain ⟨b, ws, rfl, b2, b3⟩ := ae
    refine op_cat pins s σ H _ _ v u Q I rx ry ⟨a, b, vs, ws, rfl, rfl, k _ _ a2, k _ _ b2, by rw [a3.len, b3.len]; exact h.1, fun p hp => ?_⟩
    have x := Ext.new (o := HO.lst (vs ++ ws)) k hp
    exact q _ _ _ _ h.2 x ⟨p, _, rfl, upd_same, (Ats.mono x.zz _ _ a3).append (Ats.mono x.zz _ _ b3)⟩
  · simp only [At] at ad ae
    obtain ⟨a, vs, rfl, a2, a3⟩ := ad
    obtain ⟨b, ws, rfl, b2, b3⟩ := ae
    refine op_catT' pins s σ H _ _ v u Q I rx ry ⟨a, b, vs, ws, rfl, rfl, seqT k a2, seqT k b2, by rw [a3.len, b3.len]; exact h.1, fun e => ?_, fun e => ?_, fun p hp => ?_⟩
    · subst e
      have := b3.len
      rename_i ys
      cases ys with
      | nil => exact dk (d := .tup _) q k (by simpa using h.2) (show At X.K Z (.tup _) _ from ⟨a, vs, rfl, a2, a3⟩)
      | cons => simp at this
    · subst e
      have := a3.len
      rename_i xs ys
      cases xs with
      | nil => exact dk (d := .tup _) q k (by simpa using h.2) (show At X.K Z (.tup _) _ from ⟨b, ws, rfl, b2, b3⟩)
      | cons => simp at this
    · have x := Ext.new (o := HO.tup (vs ++ ws)) k hp
      exact q _ _ _ _ h.2 x ⟨p, _, rfl, .inl (.inl upd_same), (Ats.mono x.zz _ _ a3).append (Ats.mono x.zz _ _ b3)⟩
def addF : D → D → (List D → Prop) → Prop
  | .lst xs, .lst ys, R => xs.length + ys.length ≤ sizeLine ∧ R (xs ++ ys)
  | _, _, _ => False
theorem o_addF : OpR X (binaryOp .Add) (dOp2F X.K addF) := by
  intro pins s σ H x y v u Q I rx ry ⟨Z, d, e, R, k, ad, ae, h, q⟩
  cases d <;> cases e <;> try exact h.elim
  simp only [At] at ad ae
  obtain ⟨a, vs, rfl, a2, a3⟩ := ad
  obtain ⟨b, ws, rfl, b2, b3⟩ := ae
  refine op_cat pins s σ H _ _ v u Q I rx ry ⟨a, b, vs, ws, rfl, rfl, k _ _ a2, k _ _ b2, by rw [a3.len, b3.len]; exact h.1, fun p hp => ?_⟩
  exact q _ _ _ _ h.2 (same_upd hp) hp upd_same (a3.append b3)
def intD2 (C : Int → Int → Prop) (f : Int → Int → D) : D → D → DK → Prop
  | .int i, .int j, R => C i j ∧ R (f i j)
  | _, _, _ => False
theorem o_int {f : Value → Value → Sem Value} {C : Int → Int → Prop} {g : Int → Int → V} {g' : Int → Int → D} (ho : OpR X f (rI C g)) (hg : ∀ i j Z, At X.K Z (g' i j) (g i j)) : OpR X f (dOp2 X.K (intD2 C g')) := by
  intro pins s σ H x y v u Q I rx ry ⟨Z, d, e, R, k, ad, ae, h, q⟩
  cases d <;> cases e <;> try exact h.elim
  simp only [At] at ad ae
  subst ad; subst ae
  exact ho pins s σ H _ _ v u Q I rx ry ⟨_, _, rfl, rfl, h.1, dk q k h.2 (hg _ _ _)⟩
def intD0 (f : Int → Int → D) : D → D → DK → Prop
  | .int i, .int j, R => R (f i j)
  | _, _, _ => False
theorem o_int0 {f : Value → Value → Sem Value} {g : Int → Int → V} {g' : Int → Int → D} (ho : OpR X f (rI0 g)) (hg : ∀ i j Z, At X.K Z (g' i j) (g i j)) : OpR X f (dOp2 X.K (intD0 g')) := by
  intro pins s σ H x y v u Q I rx ry ⟨Z, d, e, R, k, ad, ae, h, q⟩
  cases d <;> cases e <;> try exact h.elim
  simp only [At] at ad ae
  subst ad; subst ae
  exact ho pins s σ H _ _ v u Q I rx ry ⟨_, _, rfl, rfl, dk q k h (hg _ _ _)⟩
abbrev subD := intD0 fun i j => .int (i - j)
theorem o_sub : OpR X (binaryOp .Sub) (dOp2 X.K subD) := o_int0 op_sub fun _ _ _ => rfl
abbrev fdivD := intD2 DivOk fun i j => .int (i.fdiv j)
theorem o_fdiv : OpR X (binaryOp .FloorDiv) (dOp2 X.K fdivD) := o_int op_fdivM fun _ _ _ => rfl
abbrev modD := intD2 (fun _ j => 0 < j) fun i j => .int (i % j)
theorem o_mod : OpR X (binaryOp .Mod) (dOp2 X.K modD) := o_int op_mod fun _ _ _ => rfl
abbrev powD := intD2 CPow fun i j => .int (i ^ j.toNat)
theorem o_pow : OpR X (binaryOp .Pow) (dOp2 X.K powD) := o_int op_pow fun _ _ _ => rfl
def mulD : D → D → DK → Prop
  | .int i, .int j, R => MulOk i j ∧ R (.int (i * j))
  | .lst xs, .int k, R => (-(2 ^ 63) ≤ k ∧ k < 2 ^ 63 ∧ xs.length * k.toNat ≤ sizeLine) ∧ R (.lst (List.replicate k.toNat xs).flatten)
  | _, _, _ => False
theorem Ats.rep {K : PySem.W.Frag} {Z : Hp} {ds : List D} {vs : List V} (h : Ats K Z ds vs) : ∀ n, Ats K Z (List.replicate n ds).flatten (List.replicate n vs).flatten
  | 0 => rfl
  | n + 1 => by
    rw [List.replicate_succ, List.replicate_succ, List.flatten_cons, List.flatten_cons]
    exact h.append (Ats.rep h n)
theorem o_mul : OpR X (binaryOp .Mult) (dOp2 X.K mulD) := by
  intro pins s σ H x y v u Q I rx ry ⟨Z, d, e, R, k, ad, ae, h, q⟩
  cases d <;> cases e <;> try exact h.elim
  · simp only [At] at ad ae
    subst ad; subst ae
    exact op_mulM pins s σ H _ _ v u Q I rx ry ⟨_, _, rfl, rfl, h.1, dk q k h.2 rfl⟩
  · simp only [At] at ad ae
    obtain ⟨a, vs, rfl, a2, a3⟩ := ad
    subst ae
    refine op_rep pins s σ H _ _ v u Q I rx ry ⟨a, _, vs, rfl, rfl, k _ _ a2, h.1.1, h.1.2.1, by rw [a3.len]; exact h.1.2.2, fun p hp => ?_⟩
    rename_i xs n
    have x := Ext.new (o := HO.lst (List.replicate n.toNat vs).flatten) k hp
    exact q _ _ _ _ h.2 x ⟨p, _, rfl, upd_same, Ats.rep (Ats.mono x.zz _ _ a3) _⟩
def negD : D → DK → Prop
  | .int i, R => R (.int (-i))
  | _, _ => False
theorem o_neg : UnR X (unaryOp .USub) (dOp1 X.K negD) := by
  intro pins s σ H x v Q I rx ⟨Z, d, R, k, ad, h, q⟩
  cases d <;> try exact h.elim
  simp only [At] at ad
  subst ad
  exact un_neg pins s σ H _ v Q I rx ⟨_, rfl, dk q k h rfl⟩

def EqOk : D → D → Prop
  | .str _, .str _ => True
  | d, e => d.pln = true ∧ e.pln = true ∧ d.dep ≤ 64 ∧ e.dep ≤ 64
theorem EqOk.two {d e : D} (h : EqOk d e) : (∃ x y, d = .str x ∧ e = .str y) ∨ (d.pln = true ∧ e.pln = true ∧ d.dep ≤ 64 ∧ e.dep ≤ 64) := by
  unfold EqOk at h
  split at h
  · exact .inl ⟨_, _, rfl, rfl⟩
  · exact .inr h
theorem EqOk.of {d e : D} (h : d.pln = true ∧ e.pln = true ∧ d.dep ≤ 64 ∧ e.dep ≤ 64) : EqOk d e := by
  unfold EqOk
  split
  · trivial
  · exact h
def eqD : D → D → DK → Prop := fun d e R => EqOk d e ∧ R (.bl (D.eqv d e))
def neD : D → D → DK → Prop := fun d e R => EqOk d e ∧ R (.bl (!D.eqv d e))
theorem shaped_py {d : D} (h : d.pln = true) (h' : d.dep ≤ 64) : SeqAt.shaped d.py = true := by
  unfold SeqAt.shaped
  rw [canLay_py d h, dep_py d h, decide_eq_true h']; rfl
theorem str_dec (x y : Str) : decide (V.str x = V.str y) = (x == y) := by
  rw [Bool.eq_iff_iff]; simp
theorem o_eq {k : Nat} (hr : Room k X.A) : OpR X (compareOp .Eq) (dOp2 X.K eqD) := by
  intro pins s σ H x y v u Q I rx ry ⟨Z, d, e, R, k, ad, ae, h, q⟩
  rcases h.1.two with ⟨z1, z2, rfl, rfl⟩ | h1
  · simp only [At] at ad ae
    subst ad; subst ae
    refine op_eq pins s σ H _ _ v u Q I rx ry ⟨rfl, ?_⟩
    rw [str_dec]
    exact dk q k h.2 rfl
  refine op_eqD hr.units pins s σ H _ _ v u Q I rx ry ⟨d.py, e.py, At.dp k d x ad h1.1, At.dp k e y ae h1.2.1, shaped_py h1.1 h1.2.2.1, shaped_py h1.2.1 h1.2.2.2, ?_⟩
  rw [eqv_py d e h1.1 h1.2.1]
  exact dk q k h.2 rfl
theorem o_ne {k : Nat} (hr : Room k X.A) : OpR X (compareOp .NotEq) (dOp2 X.K neD) := by
  intro pins s σ H x y v u Q I rx ry ⟨Z, d, e, R, k, ad, ae, h, q⟩
  rcases h.1.two with ⟨z1, z2, rfl, rfl⟩ | h1
  · simp only [At] at ad ae
    subst ad; subst ae
    refine op_ne pins s σ H _ _ v u Q I rx ry ⟨rfl, ?_⟩
    rw [str_dec]
    exact dk q k h.2 rfl
  refine op_neD hr.units pins s σ H _ _ v u Q I rx ry ⟨d.py, e.py, At.dp k d x ad h1.1, At.dp k e y ae h1.2.1, shaped_py h1.1 h1.2.2.1, shaped_py h1.2.1 h1.2.2.2, ?_⟩
  rw [eqv_py d e h1.1 h1.2.1]
  exact dk q k h.2 rfl
abbrev gtD := intD0 fun i j => .bl (decide (j < i))
abbrev geD := intD0 fun i j => .bl (decide (j ≤ i))
abbrev ltD := intD0 fun i j => .bl (decide (i < j))
theorem o_gt : OpR X (compareOp .Gt) (dOp2 X.K gtD) := o_int0 op_gt fun _ _ _ => rfl
theorem o_ge : OpR X (compareOp .GtE) (dOp2 X.K geD) := o_int0 op_ge fun _ _ _ => rfl
theorem o_lt : OpR X (compareOp .Lt) (dOp2 X.K ltD) := o_int0 op_lt fun _ _ _ => rfl
def isND : D → D → DK → Prop
  | .non, .non, R => R (.bl true)
  | .bl _, .non, R => R (.bl false)
  | .int _, .non, R => R (.bl false)
  | .str _, .non, R => R (.bl false)
  | .lst _, .non, R => R (.bl false)
  | .tup _, .non, R => R (.bl false)
  | .dct _ _, .non, R => R (.bl false)
  | .obj (.a _), .non, R => R (.bl false)
  | _, _, _ => False
theorem isND_at {K : PySem.W.Frag} {Z : Hp} {d e : D} {x y : V} {R : DK} (ad : At K Z d x) (ae : At K Z e y) (h : isND d e R) : y = .non ∧ R (.bl (decide (x = .non))) := by
  cases e <;> (cases d <;> try exact h.elim) <;> (try (rename_i p; cases p <;> try exact h.elim)) <;> simp only [At, Ad.at] at ad ae
  all_goals subst ae
  all_goals first
    | (subst ad; exact ⟨rfl, by simpa [isND] using h⟩)
    | (obtain ⟨a, vs, rfl, _⟩ := ad; exact ⟨rfl, by simpa [isND] using h⟩)
theorem o_isN : OpR X (compareOp .Is) (dOp2 X.K isND) := by
  intro pins s σ H x y v u Q I rx ry ⟨Z, d, e, R, k, ad, ae, h, q⟩
  obtain ⟨h1, h2⟩ := isND_at ad ae h
  exact op_isN pins s σ H _ _ v u Q I rx ry ⟨h1, dk q k h2 rfl⟩
def inW (neg : Bool) : D → D → DK → Prop := fun d e R => match e with
  | .lst xs => (d.pln = true ∧ D.plns xs = true ∧ d.dep ≤ 60) ∧ R (.bl (neg ^^ xs.any fun y => D.eqv y d))
  | .tup xs => (d.pln = true ∧ D.plns xs = true ∧ d.dep ≤ 60) ∧ R (.bl (neg ^^ xs.any fun y => D.eqv y d))
  | _ => False
abbrev inD := inW false
theorem any_py {xs : List D} {d : D} (h : D.plns xs = true) (hd : d.pln = true) : ((D.pys xs).any fun y => PyData.eqv y d.py) = xs.any fun y => D.eqv y d := by
  induction xs with
  | nil => rfl
  | cons y ys ih =>
    simp only [D.plns, Bool.and_eq_true] at h
    simp only [D.pys, List.any_cons]
    rw [eqv_py y d h.1 hd, ih h.2]
theorem room_in {A : Around} {k n m : Nat} (hr : Room k A) (h : m ≤ 60) : A.units + 1 + min n m < cLine := by
  have := hr.units
  have : min n m ≤ m := Nat.min_le_right _ _
  omega
theorem o_in {k : Nat} (hr : Room k X.A) : OpR X (compareOp .In) (dOp2 X.K inD) := by
  intro pins s σ H x y v u Q I rx ry ⟨Z, d, e, R, k, ad, ae, h, q⟩
  cases e <;> try exact h.elim
  · obtain ⟨⟨h1, h2, h3⟩, h4⟩ := h
    obtain ⟨as, r1⟩ := Dp.reads I _ y u (At.dp k _ y ae h2) ry
    obtain ⟨bs, r2⟩ := Dp.reads I _ x v (At.dp k _ x ad h1) rx
    exact SeqAt.in_list_reads r1 r2 (canLays_py _ h2) (canLay_py _ h1) (by rw [dep_py d h1]; exact room_in hr h3) ⟨.bl _, H, I, rfl, dk q k h4 (by simp [At, any_py h2 h1])⟩
  · obtain ⟨⟨h1, h2, h3⟩, h4⟩ := h
    obtain ⟨as, r1⟩ := Dp.reads I _ y u (At.dp k _ y ae h2) ry
    obtain ⟨bs, r2⟩ := Dp.reads I _ x v (At.dp k _ x ad h1) rx
    exact SeqAt.in_tuple_reads r1 r2 (canLays_py _ h2) (canLay_py _ h1) (by rw [dep_py d h1]; exact room_in hr h3) ⟨.bl _, H, I, rfl, dk q k h4 (by simp [At, any_py h2 h1])⟩
end
end Pm
set_option Elab.async false
set_option linter.all false
set_option maxRecDepth 100000
set_option maxHeartbeats 1000000
set_option autoImplicit false
namespace Pm
open PySem PySem.Spec
open PyProof.Rows hiding St
open L2
variable {γ : Type}

inductive Sk where | l (a : Addr) | t (a : Addr) | s (x : Str) (tk : Tok)
def Sk.it : Sk → Heap → Addr → Nat → Prop
  | .l a, h, it, i => h.IsListIter it a i
  | .t a, h, it, i => h.IsTupleIter it a i
  | .s x tk, h, it, i => h.IsStrIter it (strIterType x) x tk i
def Sk.fp : Sk → List Addr
  | .l a => [a]
  | .t a => [a]
  | .s _ _ => []
def Sk.src (K : PySem.W.Frag) (H : Hp) : Sk → List V → Prop
  | .l a, xs => SqL K H a xs
  | .t a, xs => SqT K H a xs
  | .s x _, xs => xs = x.cps.toList.map fun c => V.str ⟨#[c]⟩
def Sk.mem (h : Heap) : Sk → List Value → Prop
  | .l a, its => h.IsList a its.toArray
  | .t a, its => h.IsTuple a its.toArray
  | .s _ _, _ => True
def Sk.pr : Sk → List Value → Nat → Value → Prop
  | .s x _, _, i, v => ∃ c u, x.cps[i]? = some c ∧ v = .str ⟨#[c]⟩ u
  | _, its, i, v => its.toArray[i]? = some v
def Sk.val : Sk → Value
  | .l a => .ref a
  | .t a => .ref a
  | .s x tk => .str x tk
def Sk.ob : Sk → Obj
  | .l a => { cls := .type "list_iterator", data := .fields #[.ref a, .int 0 0] }
  | .t a => { cls := .type "tuple_iterator", data := .fields #[.ref a, .int 0 0] }
  | .s x tk => { cls := .type (strIterType x), data := .fields #[.str x tk, .int 0 0] }
section
variable {X : Cx} {pins : List (Addr × Obj)} {σ : St} {H : Hp} {s : Shared}
theorem Sk.read (I : L2.Inv X pins σ H s) {k : Sk} {xs : List V} (h : k.src X.K H xs) : ∃ its, k.mem s.heap its ∧ (∀ i v, k.pr its i v → ∃ x, xs[i]? = some x ∧ RelV x v) ∧ ∀ (A : Around), A.handled = none → ∀ it, it ∉ k.fp →
    Draws X.prog X.w A it (it :: k.fp) xs.length (k.pr its) (fun i h => k.it h it i ∧ k.mem h its) := by
  cases k with
  | l a =>
    obtain ⟨its, r, p, _⟩ := I.list h
    refine ⟨its, p.isList, fun i v e => ?_, fun A hA it hne => ?_⟩
    · have e' : its[i]? = some v := by simpa [Sk.pr] using e
      have hl := r.length
      have hi : i < xs.length := by rw [hl]; exact (List.getElem?_eq_some_iff.mp e').1
      obtain ⟨u, h1, h2⟩ := r.get (List.getElem?_eq_getElem hi)
      rw [e'] at h1; cases h1
      exact ⟨_, List.getElem?_eq_getElem hi, h2⟩
    · have := Draws.list (prog := X.prog) (w := X.w) hA it a (fun e => hne (by simp [Sk.fp, e])) its.toArray
      rw [List.size_toArray, ← r.length] at this
      exact this
  | t a =>
    obtain ⟨its, r, p, _⟩ := I.tuple h
    refine ⟨its, p, fun i v e => ?_, fun A hA it hne => ?_⟩
    · have e' : its[i]? = some v := by simpa [Sk.pr] using e
      have hl := r.length
      have hi : i < xs.length := by rw [hl]; exact (List.getElem?_eq_some_iff.mp e').1
      obtain ⟨u, h1, h2⟩ := r.get (List.getElem?_eq_getElem hi)
      rw [e'] at h1; cases h1
      exact ⟨_, List.getElem?_eq_getElem hi, h2⟩
    · have := Draws.tuple (prog := X.prog) (w := X.w) hA it a (fun e => hne (by simp [Sk.fp, e])) its.toArray
      rw [List.size_toArray, ← r.length] at this
      exact this
  | s x tk =>
    have hx : xs = x.cps.toList.map fun c => V.str ⟨#[c]⟩ := h
    refine ⟨[], trivial, fun i v e => ?_, fun A hA it hne => ?_⟩
    · obtain ⟨c, u, h1, rfl⟩ := e
      exact ⟨.str ⟨#[c]⟩, by rw [hx, List.getElem?_map, Array.getElem?_toList, h1]; rfl, ⟨u, rfl⟩⟩
    · have := Draws.text (prog := X.prog) (w := X.w) hA it x tk
      have hl : xs.length = x.cps.size := by rw [hx, List.length_map, Array.length_toList]
      rw [hl]
      exact ⟨fun i h st => this.live i h st.1, fun i h h' st k => ⟨this.frame i h h' st.1 k, trivial⟩, fun i s Q E hi st hQ => this.item i s Q E hi st.1 fun v h' tk p st' sb => hQ v h' tk p ⟨st', trivial⟩ sb,
        fun s Q E st hE => this.done s Q E st.1 hE⟩
theorem Sk.src_inj (I : L2.Inv X pins σ H s) {k : Sk} {xs ys : List V} (h : k.src X.K H xs) (h' : k.src X.K H ys) : xs = ys := by
  cases k with
  | l a => exact I.list_inj h h'
  | t a => exact I.tuple_inj h h'
  | s x tk => exact (show xs = _ from h).trans (show ys = _ from h').symm
theorem Sk.begins (k : Sk) (its : List Value) : Begins k.val k.ob (fun h => k.mem h its) := by
  cases k with
  | l a => exact begins_list a its.toArray
  | t a => exact begins_tuple a its.toArray
  | s x tk => exact begins_text x tk
theorem Sk.it0 {k : Sk} {h : Heap} {it : Addr} (e : h.get? it = some k.ob) : k.it h it 0 := by
  cases k with
  | l a => exact ⟨_, e, rfl, rfl⟩
  | t a => exact ⟨_, e, rfl, rfl⟩
  | s x tk => exact ⟨_, e, rfl, rfl⟩
theorem Sk.itAt {k : Sk} {h h' : Heap} {it : Addr} {i : Nat} (st : k.it h it i) (kp : ∀ o, h.get? it = some o → h'.get? it = some o) : k.it h' it i := by
  cases k with
  | l a => exact Heap.IsListIter.at st kp
  | t a => exact Heap.IsTupleIter.at st kp
  | s x tk => obtain ⟨o, ho, r⟩ := st; exact ⟨o, kp o ho, r⟩
theorem Sk.itOb {k : Sk} {h : Heap} {it : Addr} {i : Nat} (st : k.it h it i) : ∃ o, h.get? it = some o ∧ ∀ v, o.data ≠ .cell v := by
  cases k with
  | l a => obtain ⟨o, e, _, d⟩ := st; exact ⟨o, e, fun v q => by rw [d] at q; cases q⟩
  | t a => obtain ⟨o, e, _, d⟩ := st; exact ⟨o, e, fun v q => by rw [d] at q; cases q⟩
  | s x tk => obtain ⟨o, e, _, d⟩ := st; exact ⟨o, e, fun v q => by rw [d] at q; cases q⟩
end

theorem turnT {X : Cx} {pins : List (Addr × Obj)} {σ : St} {H : Hp} {s : Shared} {I : Addr} {fp wr cells : List Addr} {n i : Nat} {Pt : Nat → Array Value → Prop} {Stt : Nat → Heap → Prop} {Mid : Nat → Addr → Heap → Prop} {elts : List Expr} {kk : Nat} {tpos : Pos} {E : Value → Shared → Prop} {Good : List V → Prop}
    (W : WalksT X.prog X.w X.A I fp wr n Pt Stt Mid) (hi : i < n) (st : Stt i s.heap) (J : L2.Inv X pins σ H s) (hwr : ∀ b ∈ wr, b ∈ cells) (hf : ∀ b ∈ cells, FpOk X pins H b) (hcl : ∀ b ∈ cells, ∃ o, s.heap.get? b = some o)
    (hP : ∀ vals, Pt i vals → ∃ xs, Vals xs vals.toList ∧ xs.length ≤ sizeLine ∧ Good xs) :
    wpAny (model X.prog X.w) X.A (pyNext (.ref I)) (fun r s1 => ∃ u, r = some u ∧ wpAny (model X.prog X.w) X.A (letOwnedTupleGo (.Tuple elts kk tpos) (.ref I) u) (fun _ s2 => ∃ T xs, Good xs ∧ u = .ref T ∧ H T = none ∧
      L2.Inv X pins σ (upd H T (.tup xs)) s2 ∧ Stt (i + 1) s2.heap ∧ ∀ b ∈ cells, (upd H T (.tup xs)) b = none) E s1) E s := by
  refine W.item i s _ E hi st fun T vals h' tk hp hT hIs hMid hk => ⟨_, rfl, ?_⟩
  refine W.go elts kk tpos i T { s with heap := h', toks := tk } _ _ hMid fun h'' st'' hk'' => ?_
  obtain ⟨xs, rv, hz, hg⟩ := hP vals hp
  have hHT : H T = none := J.hok.fresh hT
  have keep : ∀ b o, b ∉ cells → s.heap.get? b = some o → h''.get? b = some o := fun b o hb e => hk'' b o (fun h => hb (hwr b h)) (hk b o (fun h => hb (hwr b h)) e)
  obtain ⟨oT, eT, cT, nT, dT⟩ := hIs
  have new : ObjOk X.prog X.w (upd H T (.tup xs)) h'' T (.tup xs) := ⟨hz, vals.toList, rv, ⟨oT, hk'' T oT (W.apart i T h' hMid) eT, cT, nT, by simpa using dT⟩⟩
  refine ⟨T, xs, hg, rfl, hHT, J.turnedNew (t' := tk) (ch := cells) keep hf hT new, st'', fun b hb => ?_⟩
  obtain ⟨o, e⟩ := hcl b hb
  rw [upd_ne (Nat.ne_of_lt (Nat.lt_of_lt_of_le (Heap.lt_size e) hT))]
  exact (hf b hb).1

def Jz (K : PySem.W.Frag) (k1 k2 : Sk) : It :=
  ⟨fun i H => ∃ (xs ys : List V) (x y : V), k1.src K H xs ∧ k2.src K H ys ∧ xs[i]? = some x ∧ ys[i]? = some y,
    fun i H v H' => ∃ T x y, v = .ref T ∧ H T = none ∧ H' = upd H T (.tup [x, y]) ∧ (∀ xs, k1.src K H xs → xs[i]? = some x) ∧ ∀ ys, k2.src K H ys → ys[i]? = some y,
    fun i H => ∃ xs ys : List V, k1.src K H xs ∧ k2.src K H ys ∧ i = min xs.length ys.length⟩
theorem turn_zipG {P : Program} {w : World} {K : PySem.W.Frag} {elts : List Expr} {kk : Nat} {tpos : Pos} {z TI TO i1 i2 : Addr} {k1 k2 : Sk} (Sp : ZipSep2 z TI TO i1 i2 (i1 :: k1.fp) (i2 :: k2.fp)) (n1 : i1 ∉ k1.fp) (n2 : i2 ∉ k2.fp) :
    Turn P w K (.Tuple elts kk tpos) (Jz K k1 k2) [z, TI, TO, i1, i2] z (fun i h => IsZip h z TI TO .none ∧ IsTupOf2 h TI (.ref i1) (.ref i2) ∧ (∃ a1 a2, IsTupOf2 h TO a1 a2) ∧ k1.it h i1 i ∧ k2.it h i2 i) where
  mem := by simp
  obj := fun i h st c hc => by
    obtain ⟨hz, hTI, ⟨x, y, hTO⟩, h1, h2⟩ := st
    have e' : c = z ∨ c = TI ∨ c = TO ∨ c = i1 ∨ c = i2 := by simpa using hc
    rcases e' with q | q | q | q | q
    · rw [q]; exact ⟨_, hz, fun v q => nomatch q⟩
    · rw [q]; exact ⟨_, hTI, fun v q => nomatch q⟩
    · rw [q]; exact ⟨_, hTO, fun v q => nomatch q⟩
    · rw [q]; exact Sk.itOb h1
    · rw [q]; exact Sk.itOb h2
  keep := fun i h h' st k => by
    obtain ⟨hz, hTI, ⟨x, y, hTO⟩, h1, h2⟩ := st
    exact ⟨k z (by simp) _ hz, k TI (by simp) _ hTI, ⟨x, y, k TO (by simp) _ hTO⟩, Sk.itAt h1 fun o q => k i1 (by simp) o q, Sk.itAt h2 fun o q => k i2 (by simp) o q⟩
  item := by
    intro X hP hw hK hc i pins s σ H E I hf st hg
    subst hP hw hK
    obtain ⟨hz, hTI, ⟨x0, y0, hTO⟩, h1, h2⟩ := st
    obtain ⟨xs, ys, x, y, hqx, hqy, hx, hy⟩ := hg
    obtain ⟨its, m1, p1, d1⟩ := Sk.read I hqx
    obtain ⟨its2, m2, p2, d2⟩ := Sk.read I hqy
    have hd := I.ok.hd hc
    have W := WalksT.zipD2 Sp (d1 X.A.in1 hd i1 n1) (d2 X.A.in1 hd i2 n2)
    have hi : i < min xs.length ys.length := by
      have a := (List.getElem?_eq_some_iff.mp hx).1
      have b := (List.getElem?_eq_some_iff.mp hy).1
      omega
    refine thn (turnT (Good := fun zs => zs = [x, y]) W hi ⟨hz, hTI, ⟨x0, y0, hTO⟩, ⟨h1, m1⟩, h2, m2⟩ I (cells := [z, TI, TO, i1, i2]) (fun b hb => ?_) hf (fun b hb => ?_) fun vals hv => ?_) fun r s1 ⟨u, hr, h⟩ => ⟨u, hr, thn h fun _ s2 ⟨T, zs, e1, e2, e3, e4, e5, e6⟩ => ?_⟩
    · have : b = z ∨ b = TO ∨ b = i1 ∨ b = i2 := by simpa using hb
      simp only [List.mem_cons, List.not_mem_nil, or_false]
      rcases this with h | h | h | h <;> simp [h]
    · have e' : b = z ∨ b = TI ∨ b = TO ∨ b = i1 ∨ b = i2 := by simpa using hb
      rcases e' with q | q | q | q | q
      · rw [q]; exact ⟨_, hz⟩
      · rw [q]; exact ⟨_, hTI⟩
      · rw [q]; exact ⟨_, hTO⟩
      · rw [q]; obtain ⟨o, e, _⟩ := Sk.itOb h1; exact ⟨o, e⟩
      · rw [q]; obtain ⟨o, e, _⟩ := Sk.itOb h2; exact ⟨o, e⟩
    · obtain ⟨x1, x2, q1, q2, rfl⟩ := hv
      obtain ⟨v1, f1, r1⟩ := p1 i x1 q1
      obtain ⟨v2, f2, r2⟩ := p2 i x2 q2
      rw [hx] at f1; rw [hy] at f2
      cases f1; cases f2
      exact ⟨[x, y], .cons r1 (.cons r2 .nil), by show 2 ≤ sizeLine; decide, rfl⟩
    · subst e1; subst e2
      obtain ⟨z', TI', TO', ⟨a1, _⟩, a2, _⟩ := e5
      exact ⟨.ref T, _, e4, rfl, ⟨T, x, y, rfl, e3, rfl, fun l hl => by rw [Sk.src_inj I hl hqx]; exact hx, fun l hl => by rw [Sk.src_inj I hl hqy]; exact hy⟩, ⟨z', TI', TO', a1, a2⟩, e6⟩
  done := by
    intro X hP hw hK hc i pins s σ H E I hf st hg
    subst hP hw hK
    obtain ⟨hz, hTI, ⟨x0, y0, hTO⟩, h1, h2⟩ := st
    obtain ⟨xs, ys, hqx, hqy, rfl⟩ := hg
    obtain ⟨its, m1, p1, d1⟩ := Sk.read I hqx
    obtain ⟨its2, m2, p2, d2⟩ := Sk.read I hqy
    have hd := I.ok.hd hc
    have W := WalksT.zipD2 Sp (d1 X.A.in1 hd i1 n1) (d2 X.A.in1 hd i2 n2)
    refine W.done s _ E ⟨hz, hTI, ⟨x0, y0, hTO⟩, ⟨h1, m1⟩, h2, m2⟩ fun h' tk hk => ⟨rfl, I.turnedL (t' := tk) (ch := [z, TI, TO, i1, i2]) (fun b o hb e => hk b o (fun q => hb ?_) e) hf⟩
    have : b = z ∨ b = TO ∨ b = i1 ∨ b = i2 := by simpa using q
    simp only [List.mem_cons, List.not_mem_nil, or_false]
    rcases this with h | h | h | h <;> simp [h]
  self := fun A i s Q E st h => wpAny_pyIter_zip st.1 h

def Je (K : PySem.W.Frag) (k1 : Sk) : It :=
  ⟨fun i H => ∃ (xs : List V) (x : V), k1.src K H xs ∧ xs[i]? = some x,
    fun i H v H' => ∃ T x, v = .ref T ∧ H T = none ∧ H' = upd H T (.tup [.int (i : Nat), x]) ∧ (∀ xs, k1.src K H xs → xs[i]? = some x),
    fun i H => ∃ xs : List V, k1.src K H xs ∧ i = xs.length⟩
theorem turn_enumG {P : Program} {w : World} {K : PySem.W.Frag} {elts : List Expr} {kk : Nat} {tpos : Pos} {e it : Addr} {k1 : Sk} (hei : e ≠ it) (hef : e ∉ it :: k1.fp) (n1 : it ∉ k1.fp) :
    Turn P w K (.Tuple elts kk tpos) (Je K k1) [e, it] e (fun i h => (∃ old, IsEnum h e it ((0 : Int) + (i : Int)) old) ∧ k1.it h it i) where
  mem := by simp
  obj := fun i h st c hc => by
    obtain ⟨⟨old, he⟩, h1⟩ := st
    have e' : c = e ∨ c = it := by simpa using hc
    rcases e' with q | q
    · rw [q]; exact ⟨_, he, fun v q => nomatch q⟩
    · rw [q]; exact Sk.itOb h1
  keep := fun i h h' st k => by
    obtain ⟨⟨old, he⟩, h1⟩ := st
    exact ⟨⟨old, k e (by simp) _ he⟩, Sk.itAt h1 fun o q => k it (by simp) o q⟩
  item := by
    intro X hP hw hK hc i pins s σ H E I hf st hg
    subst hP hw hK
    obtain ⟨⟨old, he⟩, h1⟩ := st
    obtain ⟨xs, x, hqx, hx⟩ := hg
    obtain ⟨its, m1, p1, d1⟩ := Sk.read I hqx
    have hd := I.ok.hd hc
    have W := WalksT.enumFrom 0 (d1 X.A.in1 hd it n1) e hei hef (by simp)
    have hi : i < xs.length := (List.getElem?_eq_some_iff.mp hx).1
    refine thn (turnT (Good := fun zs => zs = [.int (i : Nat), x]) W hi ⟨⟨old, he⟩, h1, m1⟩ I (cells := [e, it]) (fun b hb => hb) hf (fun b hb => ?_) fun vals hv => ?_) fun r s1 ⟨u, hr, h⟩ => ⟨u, hr, thn h fun _ s2 ⟨T, zs, e1, e2, e3, e4, e5, e6⟩ => ?_⟩
    · have e' : b = e ∨ b = it := by simpa using hb
      rcases e' with q | q
      · rw [q]; exact ⟨_, he⟩
      · rw [q]; obtain ⟨o, e, _⟩ := Sk.itOb h1; exact ⟨o, e⟩
    · obtain ⟨t, x1, q1, rfl⟩ := hv
      obtain ⟨v1, f1, r1⟩ := p1 i x1 q1
      rw [hx] at f1
      cases f1
      exact ⟨[.int (i : Nat), x], .cons ⟨t, by rw [Int.zero_add]⟩ (.cons r1 .nil), by show 2 ≤ sizeLine; decide, rfl⟩
    · subst e1; subst e2
      exact ⟨.ref T, _, e4, rfl, ⟨T, x, rfl, e3, rfl, fun l hl => by rw [Sk.src_inj I hl hqx]; exact hx⟩, ⟨e5.1, e5.2.1⟩, e6⟩
  done := by
    intro X hP hw hK hc i pins s σ H E I hf st hg
    subst hP hw hK
    obtain ⟨⟨old, he⟩, h1⟩ := st
    obtain ⟨xs, hqx, rfl⟩ := hg
    obtain ⟨its, m1, p1, d1⟩ := Sk.read I hqx
    have hd := I.ok.hd hc
    have W := WalksT.enumFrom 0 (d1 X.A.in1 hd it n1) e hei hef (by simp)
    exact W.done s _ E ⟨⟨old, he⟩, h1, m1⟩ fun h' tk hk => ⟨rfl, I.turnedL (t' := tk) (ch := [e, it]) (fun b o hb e => hk b o hb e) hf⟩
  self := fun A i s Q E st h => let ⟨⟨_, he⟩, _⟩ := st; wpAny_pyIter_enum he h

def itemsD : D → Option (List D)
  | .lst xs => some xs
  | .tup xs => some xs
  | .str x => some (x.cps.toList.map fun c => .str ⟨#[c]⟩)
  | _ => none
theorem src_of {K : PySem.W.Frag} {Z : Hp} {d : D} {v : V} {u : Value} {ds : List D} (a : At K Z d v) (r : RelV v u) (e : itemsD d = some ds) :
    ∃ k : Sk, k.val = u ∧ (∀ H, Same Z H → ∃ xs, k.src K H xs ∧ Ats K Z ds xs) := by
  cases d <;> simp only [itemsD, Option.some.injEq, reduceCtorEq] at e
  · simp only [At] at a
    subst a; subst e
    obtain ⟨t, rfl⟩ := r
    rename_i x
    refine ⟨.s x t, rfl, fun H _ => ⟨_, rfl, ?_⟩⟩
    generalize x.cps.toList = l
    induction l with
    | nil => rfl
    | cons c l ih => exact ⟨_, _, rfl, rfl, ih⟩
  · simp only [At] at a
    obtain ⟨p, vs, rfl, h1, h2⟩ := a
    subst e
    cases r
    exact ⟨.l p, rfl, fun H k => ⟨vs, .inl (.inl (k _ _ h1)), h2⟩⟩
  · simp only [At] at a
    obtain ⟨p, vs, rfl, h1, h2⟩ := a
    subst e
    cases r
    exact ⟨.t p, rfl, fun H k => ⟨vs, seqT k h1, h2⟩⟩
theorem Sk.fp_lt {X : Cx} {pins : List (Addr × Obj)} {σ : St} {H : Hp} {s : Shared} (I : L2.Inv X pins σ H s) {k : Sk} {xs : List V} (h : k.src X.K H xs) : ∀ b ∈ k.fp, b < s.heap.objs.size := by
  cases k with
  | l a =>
    intro b hb
    obtain ⟨its, r, p, _⟩ := I.list h
    rw [show b = a by simpa [Sk.fp] using hb]; exact p.lt
  | t a =>
    intro b hb
    obtain ⟨its, r, p, _⟩ := I.tuple h
    rw [show b = a by simpa [Sk.fp] using hb]; exact p.lt
  | s x tk => intro b hb; cases hb

def zipD : List D → List D → List D
  | x :: xs, y :: ys => .tup [x, y] :: zipD xs ys
  | _, _ => []
theorem zipD_len : ∀ xs ys : List D, (zipD xs ys).length = min xs.length ys.length
  | [], _ => by simp [zipD]
  | _ :: _, [] => by simp [zipD]
  | x :: xs, y :: ys => by simp only [zipD, List.length_cons, zipD_len xs ys]; omega
theorem zipD_get : ∀ {xs ys : List D} {i : Nat} {d : D}, (zipD xs ys)[i]? = some d → ∃ x y, xs[i]? = some x ∧ ys[i]? = some y ∧ d = .tup [x, y]
  | [], _, _, _, h => by simp [zipD] at h
  | _ :: _, [], _, _, h => by simp [zipD] at h
  | x :: xs, y :: ys, 0, d, h => by simp [zipD] at h; exact ⟨x, y, rfl, rfl, h.symm⟩
  | x :: xs, y :: ys, i + 1, d, h => zipD_get (xs := xs) (ys := ys) (i := i) (by simpa [zipD] using h)
def enumGo (i : Nat) : List D → List D
  | [] => []
  | d :: ds => .tup [.int (i : Nat), d] :: enumGo (i + 1) ds
def enumD (ds : List D) : List D := enumGo 0 ds
theorem enumGo_len : ∀ (ds : List D) (k : Nat), (enumGo k ds).length = ds.length
  | [], _ => rfl
  | d :: ds, k => by simp only [enumGo, List.length_cons, enumGo_len ds]
theorem enumGo_get : ∀ {ds : List D} {i k : Nat} {d : D}, (enumGo k ds)[i]? = some d → ∃ x, ds[i]? = some x ∧ d = .tup [.int ((k + i : Nat) : Int), x]
  | [], _, _, _, h => by simp [enumGo] at h
  | x :: xs, 0, k, d, h => by simp [enumGo] at h; exact ⟨x, rfl, by rw [Nat.add_zero]; exact h.symm⟩
  | x :: xs, i + 1, k, d, h => by
    obtain ⟨y, h1, h2⟩ := enumGo_get (ds := xs) (i := i) (k := k + 1) (by simpa [enumGo] using h)
    exact ⟨y, by simpa using h1, by rw [show k + (i + 1) = k + 1 + i by omega]; exact h2⟩

section
variable {X : Cx} {G : GP γ} {tg e e2 : Expr} {p pos tpos : Pos} {elts : List Expr} {kk : Nat}
def qItems (te : PEx γ) : PAx γ := fun s R => te s fun d s1 => match itemsD d with
  | some ds => R ds s1
  | none => False
theorem walks_list {K : PySem.W.Frag} {Z : Hp} {a : Addr} {vs : List V} {ds : List D} (h : Z a = some (.lst vs)) (h2 : Ats K Z ds vs) : Walks K (Itl K a) Z ds := by
  intro i Z1 H k1 k2
  have hs : SqL K H a vs := .inl (.inl (k2 _ _ (k1 _ _ h)))
  refine ⟨fun d hd => ?_, fun hl => ⟨vs, hs, by rw [h2.len]; exact Nat.le_of_eq hl.symm⟩⟩
  obtain ⟨v, hv, av⟩ := h2.get hd
  refine ⟨⟨vs, v, hs, hv⟩, fun x H' y => ?_⟩
  obtain ⟨e, y⟩ := y
  subst e
  have := y vs hs
  rw [hv] at this
  cases this
  exact ⟨Z1, Ext.refl k2, At.mono k1 _ _ av⟩
theorem walks_tup {K : PySem.W.Frag} {Z : Hp} {a : Addr} {vs : List V} {ds : List D} (h : SqT K Z a vs) (h2 : Ats K Z ds vs) : Walks K (Itt K a) Z ds := by
  intro i Z1 H k1 k2
  have hs : SqT K H a vs := seqT (k1.trans k2) h
  refine ⟨fun d hd => ?_, fun hl => ⟨vs, hs, by rw [h2.len]; exact Nat.le_of_eq hl.symm⟩⟩
  obtain ⟨v, hv, av⟩ := h2.get hd
  refine ⟨⟨vs, v, hs, hv⟩, fun x H' y => ?_⟩
  obtain ⟨e, y⟩ := y
  subst e
  have := y vs hs
  rw [hv] at this
  cases this
  exact ⟨Z1, Ext.refl k2, At.mono k1 _ _ av⟩
theorem walks_str {K : PySem.W.Frag} {Z : Hp} {x : Str} : Walks K (Its x) Z (x.cps.toList.map fun c => .str ⟨#[c]⟩) := by
  intro i Z1 H k1 k2
  refine ⟨fun d hd => ?_, fun hl => (by have : i = x.cps.size := by simpa using hl
                                        exact Nat.le_of_eq this.symm : x.cps.size ≤ i)⟩
  rw [List.getElem?_map, Array.getElem?_toList] at hd
  cases q : x.cps[i]? with
  | none => rw [q] at hd; cases hd
  | some c =>
    rw [q] at hd
    cases hd
    refine ⟨(Array.getElem?_eq_some_iff.mp q).1, fun v H' y => ?_⟩
    obtain ⟨e, c', h1, h2⟩ := y
    subst e; subst h2
    rw [q] at h1; cases h1
    exact ⟨Z1, Ext.refl k2, rfl⟩
theorem qi_seq {te : PEx γ} (h : QE X G e te) (hK : X.K = G.K := by rfl) : QI X G tg e (qItems te) := by
  refine ⟨fun pins s σ H R I w => ?_⟩
  obtain ⟨F, Z, sg, Rp, r, t, q⟩ := w
  refine thn (h.run pins s σ H (fun v H1 => ∃ d s1 Z1, Rel G F Z1 s1 σ H1 ∧ At G.K Z1 d v ∧ ∃ ds, itemsD d = some ds ∧ ∀ J, Walks G.K J Z1 ds → R J H1) I ⟨F, Z, sg, _, r, t, fun d s1 Z1 v H1 t1 k1 r1 a1 => ?_⟩) fun u s1 ⟨v, H1, I1, rv, d, sg1, Z1, r1, a1, ds, e1, q1⟩ => ?_
  · cases e1 : itemsD d with
    | none => rw [e1] at t1; exact t1.elim
    | some ds => rw [e1] at t1; exact ⟨d, s1, Z1, r1, a1, ds, e1, fun J hJ => q ds s1 Z1 H1 J t1 k1 r1 hJ⟩
  · have fresh : ∀ b ∈ [s1.heap.objs.size], FpOk X pins H1 b := fun b hb => by
      have e : b = s1.heap.objs.size := by simpa using hb
      subst e
      exact I1.fpOk (Nat.le_refl _) (I1.hok.fresh (Nat.le_refl _))
    cases d <;> simp only [itemsD, Option.some.injEq, reduceCtorEq] at e1
    · simp only [At] at a1
      subst a1; subst e1
      rename_i x
      obtain ⟨t, rfl⟩ := rv
      -- a text's iterator
      refine wpAny_pyIter_strU ?_
      have I2 : L2.Inv X pins σ H1 { s1 with heap := s1.heap.push { cls := .type (strIterType x), data := .fields #[.str x t, .int 0 0] } } := I1.kept (t' := s1.toks) fun b o e => Heap.get?_push_of_some _ e
      have st0 : ({ s1 with heap := s1.heap.push { cls := .type (strIterType x), data := .fields #[.str x t, .int 0 0] } } : Shared).heap.IsStrIter s1.heap.objs.size (strIterType x) x t 0 := ⟨_, Heap.get?_push_size _ rfl, rfl, rfl⟩
      first
        | exact ⟨s1.heap.objs.size, [s1.heap.objs.size], _, _, H1, rfl, I2, turn_str s1.heap.objs.size x t (strIterType x) (by unfold strIterType; split <;> simp), st0, fresh, q1 _ walks_str⟩
    · simp only [At] at a1
      obtain ⟨a, vs, rfl, h1, h2⟩ := a1
      subst e1
      cases rv
      obtain ⟨its, rv, p, hz⟩ := I1.list (xs := vs) (.inl (.inl (r1.z _ _ h1)))
      refine wpAny_pyIter_list p.isList ?_
      exact ⟨s1.heap.objs.size, [s1.heap.objs.size], _, _, H1, rfl, I1.kept (t' := s1.toks) fun b o e => Heap.get?_push_of_some _ e, turn_list a _, ⟨_, Heap.get?_push_size _ rfl, rfl, rfl⟩, fresh, q1 _ (by rw [hK]; exact walks_list h1 h2)⟩
    · simp only [At] at a1
      obtain ⟨a, vs, rfl, h1, h2⟩ := a1
      subst e1
      cases rv
      obtain ⟨its, rv, p, hz⟩ := I1.tuple (xs := vs) (by rw [hK]; exact seqT r1.z h1)
      refine wpAny_pyIter_tuple (show s1.heap.IsTuple a its.toArray from p) ?_
      exact ⟨s1.heap.objs.size, [s1.heap.objs.size], _, _, H1, rfl, I1.kept (t' := s1.toks) fun b o e => Heap.get?_push_of_some _ e, turn_tuple a _, ⟨_, Heap.get?_push_size _ rfl, rfl, rfl⟩, fresh, q1 _ (by rw [hK]; exact walks_tup h1 h2)⟩

def qZip (ta : PAx γ) : PAx γ := fun s R => ta s fun ds s1 => match ds with
  | [d1, d2] => match itemsD d1, itemsD d2 with
    | some xs, some ys => R (zipD xs ys) s1
    | _, _ => False
  | _ => False
theorem walks_zip {K : PySem.W.Frag} {Z : Hp} {k1 k2 : Sk} {xs ys : List D} (h1 : ∀ H, Same Z H → ∃ vs, k1.src K H vs ∧ Ats K Z xs vs) (h2 : ∀ H, Same Z H → ∃ vs, k2.src K H vs ∧ Ats K Z ys vs) : Walks K (Jz K k1 k2) Z (zipD xs ys) := by
  intro i Z1 H z1 z2
  obtain ⟨vs, a1, a2⟩ := h1 H (z1.trans z2)
  obtain ⟨ws, b1, b2⟩ := h2 H (z1.trans z2)
  refine ⟨fun d hd => ?_, fun hl => ⟨vs, ws, a1, b1, by rw [hl, zipD_len, a2.len, b2.len]⟩⟩
  obtain ⟨x, y, hx, hy, rfl⟩ := zipD_get hd
  obtain ⟨v, c1, c2⟩ := a2.get hx
  obtain ⟨w, d1, d2⟩ := b2.get hy
  refine ⟨⟨vs, ws, v, w, a1, b1, c1, d1⟩, fun u H' yl => ?_⟩
  obtain ⟨T, x', y', rfl, hT, rfl, f1, f2⟩ := yl
  have e1 := f1 vs a1
  have e2 := f2 ws b1
  rw [c1] at e1; rw [d1] at e2
  cases e1; cases e2
  have x := Ext.new (o := HO.tup [v, w]) z2 hT
  exact ⟨_, x, ⟨T, _, rfl, .inl (.inl upd_same), ⟨_, _, rfl, At.mono (z1.trans x.zz) _ _ c2, ⟨_, _, rfl, At.mono (z1.trans x.zz) _ _ d2, rfl⟩⟩⟩⟩
theorem qi_zip {ta : PAx γ} (hg : Gl X "zip") (hm : X.mg "zip" = none) (ha : QA X G [e, e2] ta) (hK : X.K = G.K := by rfl)
    (hs : starEach [e, e2] X.env = (false, eval e X.env) :: starEach [e2] X.env := by rfl) (hpl : (backTo pos (starEach [e2] X.env)).any (·.1) = false := by rfl) : QI X G (.Tuple elts kk tpos) (.Call (.Name "zip" p) [e, e2] [] pos) (qZip ta) := by
  refine ⟨fun pins s σ H R I w => ?_⟩
  obtain ⟨F, Z, sg, Rp, r, t, q⟩ := w
  refine Call_ (ld_blt I hg hm PyProof.Rows.boot_zip (PyProof.Rows.callWith_type1 (thn (ha.run pos pins s σ H (fun vs H1 => ∃ d1 d2 xs ys s1 Z1, Rel G F Z1 s1 σ H1 ∧ Ats G.K Z1 [d1, d2] vs ∧ itemsD d1 = some xs ∧ itemsD d2 = some ys ∧ ∀ J, Walks G.K J Z1 (zipD xs ys) → R J H1) I ⟨F, Z, sg, _, r, t, fun ds s1 Z1 vs H1 t1 k1 r1 a1 => ?_⟩) fun us s1 ⟨vs, H1, I1, rv, d1, d2, xs, ys, sg1, Z1, r1, a1, e1, e2', q1⟩ => ?_) hs hpl))
  · match ds, t1, a1 with
    | [d1, d2], t1, a1 =>
      cases e1 : itemsD d1 with
      | none => simp only [e1] at t1
      | some xs =>
        cases e2' : itemsD d2 with
        | none => simp only [e1, e2'] at t1
        | some ys =>
          simp only [e1, e2'] at t1
          exact ⟨d1, d2, xs, ys, s1, Z1, r1, a1, e1, e2', fun J hJ => q _ s1 Z1 H1 J t1 k1 r1 hJ⟩
  · simp only [Ats] at a1
    obtain ⟨v1, _, rfl, a1, v2, _, rfl, a2, rfl⟩ := a1
    obtain ⟨u1, u2, rfl, rv1, rv2⟩ := vals2 rv
    rw [← hK] at a1 a2
    obtain ⟨k1, rfl, c1⟩ := src_of a1 rv1 e1
    obtain ⟨k2, rfl, c2⟩ := src_of a2 rv2 e2'
    obtain ⟨ws1, g1, g1'⟩ := c1 H1 r1.z
    obtain ⟨ws2, g2, g2'⟩ := c2 H1 r1.z
    obtain ⟨its1, m1, _⟩ := Sk.read I1 g1
    obtain ⟨its2, m2, _⟩ := Sk.read I1 g2
    have l1 := Sk.fp_lt I1 g1
    have l2 := Sk.fp_lt I1 g2
    refine zip_begins2 (k1.begins its1) (k2.begins its2) m1 m2 fun h' hz hTI hTO o1 o2 hsz hk => wpAny_pyIter_zip hz ?_
    have I2 : L2.Inv X pins σ H1 { s1 with heap := h' } := I1.kept (t' := s1.toks) hk
    refine ⟨s1.heap.objs.size + 4, [s1.heap.objs.size + 4, s1.heap.objs.size + 2, s1.heap.objs.size + 3, s1.heap.objs.size, s1.heap.objs.size + 1], _, _, H1, rfl, I2,
      turn_zipG (k1 := k1) (k2 := k2) (zip_sep2 l1 l2) (fun h => absurd (l1 _ h) (Nat.lt_irrefl _)) (fun h => absurd (l2 _ h) (Nat.not_lt_of_le (Nat.le_succ _))), ⟨hz, hTI, ⟨_, _, hTO⟩, Sk.it0 o1, Sk.it0 o2⟩, fun c hcm => ?_, q1 _ (by rw [← hK]; exact walks_zip c1 c2)⟩
    have e' : c = s1.heap.objs.size + 4 ∨ c = s1.heap.objs.size + 2 ∨ c = s1.heap.objs.size + 3 ∨ c = s1.heap.objs.size ∨ c = s1.heap.objs.size + 1 := by simpa using hcm
    have hle : s1.heap.objs.size ≤ c := by
      rcases e' with z | z | z | z | z
      · rw [z]; exact Nat.le_add_right _ _
      · rw [z]; exact Nat.le_add_right _ _
      · rw [z]; exact Nat.le_add_right _ _
      · rw [z]; exact Nat.le_refl _
      · rw [z]; exact Nat.le_add_right _ _
    exact I1.fpOk hle (I1.hok.fresh hle)
def qEnum (ta : PAx γ) : PAx γ := fun s R => ta s fun ds s1 => match ds with
  | [d1] => match itemsD d1 with
    | some xs => R (enumD xs) s1
    | _ => False
  | _ => False
theorem meets_enumerate_new1 {v : Value} {o : Obj} {H : Heap → Prop} (B : Begins v o H) :
    Meets (Builtin.«enumerate.__new__» ⟨[.type "enumerate", v], []⟩) (fun _ R s => H s.heap ∧
      R (.ok (.ret (.ref (s.heap.push o).objs.size))) { s with heap := (s.heap.push o).push { cls := .type "enumerate", data := .fields #[.none, .bool false, .ref s.heap.objs.size, rawInt 0, .none, .none] } }) :=
  .of_wp fun prog w A R s h => by
    obtain ⟨hp, g, d, tk, os⟩ := s; obtain ⟨h1, h⟩ := h
    have hsub := sub_enumerate
    have q1 : ∀ {A' : Around} {E : Value → Shared → Prop} {Q : Value → Shared → Prop}, Q (.ref hp.objs.size) ⟨hp.push o, g, d, tk, os⟩ → wpAny (model prog w) A' (pyIter v) Q E ⟨hp, g, d, tk, os⟩ :=
      fun q => B.iter prog w _ _ ⟨hp, g, d, tk, os⟩ _ h1 q
    wp_walk using q1
    refine wpAny_stack_any fun st => wpAny_pure ?_
    split
    · rename_i c _ _ _ _ _
      cases (c == Value.type "enumerate")
      · wp_walk using q1
        exact ⟨_, rfl, h⟩
      · wp_walk using q1
        exact ⟨_, rfl, h⟩
    · wp_walk using q1
      exact ⟨_, rfl, h⟩
theorem enum_begins1 {prog : Program} {w : World} {A : Around} {E : Value → Shared → Prop} {s : Shared} {v : Value} {o : Obj} {H : Heap → Prop} {Q : Value → Shared → Prop} (B : Begins v o H) (h1 : H s.heap)
    (h : ∀ h', IsEnum h' (s.heap.objs.size + 1) s.heap.objs.size 0 .none → h'.get? s.heap.objs.size = some o → h'.objs.size = s.heap.objs.size + 2 →
      (∀ b o, s.heap.get? b = some o → h'.get? b = some o) → Q (.ref (s.heap.objs.size + 1)) { s with heap := h' }) :
    wpAny (model prog w) A (call (.type "enumerate") [v]) Q E s := by
  refine callType_new F.called_enumerate (by decide) (F.typeCall_enumerate_1 _) (F.newCall_enumerate_1 _) (fun obj => F.args_object_init_2 obj _) F.entry_enumerate_new
    (meets_enumerate_new1 B) ⟨h1, ?_⟩
  have hz : (s.heap.push o).objs.size = s.heap.objs.size + 1 := Heap.size_push ..
  show _ ∧ _
  rw [hz]
  have he : IsEnum ((s.heap.push o).push { cls := .type "enumerate", data := .fields #[.none, .bool false, .ref s.heap.objs.size, rawInt 0, .none, .none] }) (s.heap.objs.size + 1) s.heap.objs.size 0 .none := by
    have := Heap.get?_push_size (s.heap.push o) (o := { cls := .type "enumerate", data := .fields #[.none, .bool false, .ref s.heap.objs.size, rawInt 0, .none, .none] }) rfl
    rw [hz] at this; exact this
  refine ⟨⟨_, he, rfl⟩, h _ he (Heap.get?_push_of_some _ (Heap.get?_push_size _ B.free)) (by rw [Heap.size_push, hz]) fun b o x => Heap.get?_push_of_some _ (Heap.get?_push_of_some _ x)⟩
theorem walks_enum {K : PySem.W.Frag} {Z : Hp} {k1 : Sk} {xs : List D} (h1 : ∀ H, Same Z H → ∃ vs, k1.src K H vs ∧ Ats K Z xs vs) : Walks K (Je K k1) Z (enumD xs) := by
  intro i Z1 H z1 z2
  obtain ⟨vs, a1, a2⟩ := h1 H (z1.trans z2)
  refine ⟨fun d hd => ?_, fun hl => ⟨vs, a1, by rw [hl, enumD, enumGo_len, a2.len]⟩⟩
  obtain ⟨x, hx, rfl⟩ := enumGo_get hd
  obtain ⟨v, c1, c2⟩ := a2.get hx
  refine ⟨⟨vs, v, a1, c1⟩, fun u H' yl => ?_⟩
  obtain ⟨T, x', rfl, hT, rfl, f1⟩ := yl
  have e1 := f1 vs a1
  rw [c1] at e1
  cases e1
  have x := Ext.new (o := HO.tup [.int (i : Nat), v]) z2 hT
  exact ⟨_, x, ⟨T, _, rfl, .inl (.inl upd_same), ⟨_, _, rfl, by simp [At], ⟨_, _, rfl, At.mono (z1.trans x.zz) _ _ c2, rfl⟩⟩⟩⟩
theorem qi_enum {ta : PAx γ} (hg : Gl X "enumerate") (hm : X.mg "enumerate" = none) (ha : QA X G [e] ta) (hK : X.K = G.K := by rfl) (hs : starEach [e] X.env = [(false, eval e X.env)] := by rfl) :
    QI X G (.Tuple elts kk tpos) (.Call (.Name "enumerate" p) [e] [] pos) (qEnum ta) := by
  refine ⟨fun pins s σ H R I w => ?_⟩
  obtain ⟨F, Z, sg, Rp, r, t, q⟩ := w
  refine Call_ (ld_blt I hg hm PyProof.Rows.boot_enumerate (PyProof.Rows.callWith_type1 (thn (ha.run pos pins s σ H (fun vs H1 => ∃ d1 xs s1 Z1, Rel G F Z1 s1 σ H1 ∧ Ats G.K Z1 [d1] vs ∧ itemsD d1 = some xs ∧ ∀ J, Walks G.K J Z1 (enumD xs) → R J H1) I ⟨F, Z, sg, _, r, t, fun ds s1 Z1 vs H1 t1 k1 r1 a1 => ?_⟩) fun us s1 ⟨vs, H1, I1, rv, d1, xs, sg1, Z1, r1, a1, e1, q1⟩ => ?_) hs rfl))
  · match ds, t1, a1 with
    | [d1], t1, a1 =>
      cases e1 : itemsD d1 with
      | none => simp only [e1] at t1
      | some xs =>
        simp only [e1] at t1
        exact ⟨d1, xs, s1, Z1, r1, a1, e1, fun J hJ => q _ s1 Z1 H1 J t1 k1 r1 hJ⟩
  · simp only [Ats] at a1
    obtain ⟨v1, _, rfl, a1, rfl⟩ := a1
    obtain ⟨u1, rfl, rv1⟩ := vals1 rv
    rw [← hK] at a1
    obtain ⟨k1, rfl, c1⟩ := src_of a1 rv1 e1
    obtain ⟨ws1, g1, g1'⟩ := c1 H1 r1.z
    obtain ⟨its1, m1, _⟩ := Sk.read I1 g1
    have l1 := Sk.fp_lt I1 g1
    refine enum_begins1 (k1.begins its1) m1 fun h' he o1 hsz hk => wpAny_pyIter_enum he ?_
    have I2 : L2.Inv X pins σ H1 { s1 with heap := h' } := I1.kept (t' := s1.toks) hk
    have hn : s1.heap.objs.size + 1 ∉ s1.heap.objs.size :: k1.fp := fun h => by
      rcases List.mem_cons.mp h with h | h
      · exact absurd h (Nat.succ_ne_self _)
      · exact absurd (l1 _ h) (Nat.not_lt_of_le (Nat.le_succ _))
    refine ⟨s1.heap.objs.size + 1, [s1.heap.objs.size + 1, s1.heap.objs.size], _, _, H1, rfl, I2,
      turn_enumG (k1 := k1) (Nat.succ_ne_self _) hn (fun h => absurd (l1 _ h) (Nat.lt_irrefl _)), ⟨⟨.none, he⟩, Sk.it0 o1⟩, fun c hcm => ?_, q1 _ (by rw [← hK]; exact walks_enum c1)⟩
    have hle : s1.heap.objs.size ≤ c := by
      rcases (show c = s1.heap.objs.size + 1 ∨ c = s1.heap.objs.size by simpa using hcm) with z | z
      · rw [z]; exact Nat.le_add_right _ _
      · rw [z]; exact Nat.le_refl _
    exact I1.fpOk hle (I1.hok.fresh hle)
theorem walks_range {K : PySem.W.Frag} {Z : Hp} {lo : Int} {n : Nat} : Walks K (Itr lo n) Z ((List.range n).map fun k => .int (lo + (k : Nat))) := by
  intro i Z1 H z1 z2
  refine ⟨fun d hd => ?_, fun hl => (by simpa using Nat.le_of_eq hl.symm : n ≤ i)⟩
  rw [List.getElem?_map] at hd
  by_cases hi : i < n
  · rw [List.getElem?_range hi] at hd
    cases hd
    refine ⟨hi, fun v H' y => ?_⟩
    obtain ⟨e, h2⟩ := y
    subst e; subst h2
    exact ⟨Z1, Ext.refl z2, by simp [At]⟩
  · rw [List.getElem?_eq_none (by simpa using hi)] at hd
    cases hd
def qRange1 (ta : PAx γ) : PAx γ := fun s R => ta s fun ds s1 => match ds with
  | [.int n] => (-(2 ^ 62) ≤ n ∧ n < 2 ^ 62) ∧ R ((List.range n.toNat).map fun k => .int (k : Nat)) s1
  | _ => False
theorem qi_range1 {ta : PAx γ} (hg : Gl X "range") (hm : X.mg "range" = none) (ha : QA X G [e] ta) (hs : starEach [e] X.env = [(false, eval e X.env)] := by rfl) : QI X G tg (.Call (.Name "range" p) [e] [] pos) (qRange1 ta) := by
  refine PI.imp (pi_range1 hg hm ha hs) fun σ H R ⟨F, Z, s, Rp, r, t, q⟩ => ?_
  refine ⟨F, Z, s, _, r, t, fun ds s1 Z1 vs H1 t1 k1 r1 a1 => ?_⟩
  match ds, t1, a1 with
  | [.int n], t1, a1 =>
    simp only [Ats, At] at a1
    obtain ⟨v, _, rfl, rfl, rfl⟩ := a1
    refine ⟨n, rfl, t1.1.1, t1.1.2, q _ s1 Z1 H1 _ t1.2 k1 r1 ?_⟩
    have := walks_range (K := G.K) (Z := Z1) (lo := 0) (n := n.toNat)
    simpa using this
end
end Pm
set_option Elab.async false
set_option linter.all false
set_option maxRecDepth 100000
set_option maxHeartbeats 1000000
set_option autoImplicit false
namespace Pm
open PySem PySem.Spec
open PyProof.Rows hiding St
open L2
variable {γ : Type}

def idx {α : Type} (xs : List α) (i : Int) : Option α := if i < 0 then (if 0 ≤ i + xs.length then xs[(i + xs.length).toNat]? else none) else xs[i.toNat]?
theorem idx_at {α : Type} {xs : List α} {i : Int} {v : α} (h : idx xs i = some v) : atI xs i = some v := by
  unfold idx at h
  unfold atI ixN
  by_cases hi : i < 0
  · rw [if_pos hi] at h
    by_cases h2 : 0 ≤ i + xs.length
    · rw [if_pos h2] at h
      rw [if_neg (by omega), if_pos (by omega)]
      exact h
    · rw [if_neg h2] at h; cases h
  · rw [if_neg hi] at h
    have hl := (List.getElem?_eq_some_iff.mp h).1
    rw [if_pos (by omega), if_pos (by omega)]
    exact h
theorem Ats.idx {K : PySem.W.Frag} {Z : Hp} {ds : List D} {vs : List V} (h : Ats K Z ds vs) {i : Int} {d : D} (e : Pm.idx ds i = some d) : ∃ v, atI vs i = some v ∧ At K Z d v := by
  have hl := h.len
  unfold Pm.idx at e
  by_cases hi : i < 0
  · rw [if_pos hi] at e
    by_cases h2 : 0 ≤ i + ds.length
    · rw [if_pos h2] at e
      obtain ⟨v, h3, h4⟩ := h.get e
      refine ⟨v, idx_at ?_, h4⟩
      unfold Pm.idx
      rw [if_pos hi, hl, if_pos h2]; exact h3
    · rw [if_neg h2] at e; cases e
  · rw [if_neg hi] at e
    obtain ⟨v, h3, h4⟩ := h.get e
    refine ⟨v, idx_at ?_, h4⟩
    unfold Pm.idx
    rw [if_neg hi]; exact h3
def ixD : D → D → DK → Prop
  | .lst xs, .int i, R => ∃ d, idx xs i = some d ∧ R d
  | .tup xs, .int i, R => ∃ d, idx xs i = some d ∧ R d
  | .str z, .int i, R => z.length ≤ sizeLine ∧ ∃ c, idx z.cps.toList i = some c ∧ R (.str ⟨#[c]⟩)
  | _, _, _ => False
section
variable {X : Cx}
theorem x_ix : IxR X (dOp2 X.K ixD) := by
  intro value slice pins s σ H x y v u Q I rx ry ⟨Z, d, e, R, k, ad, ae, h, q⟩ hs
  cases d <;> cases e <;> try exact h.elim
  · simp only [At] at ad ae
    subst ad; subst ae
    obtain ⟨h1, c, h2, h3⟩ := h
    exact ix_str value slice pins s σ H _ _ v u Q I rx ry ⟨_, _, c, rfl, rfl, h1, idx_at h2, dk q k h3 rfl⟩ hs
  · simp only [At] at ad ae
    obtain ⟨a, vs, rfl, a2, a3⟩ := ad
    subst ae
    obtain ⟨d, h1, h2⟩ := h
    obtain ⟨w, h3, h4⟩ := a3.idx h1
    exact ix_list value slice pins s σ H _ _ v u Q I rx ry ⟨a, vs, _, w, rfl, rfl, .inl (.inl (k _ _ a2)), h3, dk q k h2 h4⟩ hs
  · simp only [At] at ad ae
    obtain ⟨a, vs, rfl, a2, a3⟩ := ad
    subst ae
    obtain ⟨d, h1, h2⟩ := h
    obtain ⟨w, h3, h4⟩ := a3.idx h1
    exact ix_tup value slice pins s σ H _ _ v u Q I rx ry ⟨a, vs, _, w, rfl, rfl, seqT k a2, h3, dk q k h2 h4⟩ hs
end
section
variable {X : Cx} {G : GP γ} {a b e : Expr} {pos : Pos}
theorem qe_ix {ta tb : PEx γ} (ha : QE X G a ta) (hb : QE X G b tb) (hs : PlainIx b := by intro _ _; rfl) (hK : X.K = G.K := by rfl) : QE X G (.Subscript a b pos) (qBin ixD ta tb) :=
  PE.imp (pe_ix x_ix ha hb hs) fun _ _ _ h => by rw [hK]; exact lbin h

end

section
variable {X : Cx} {G : GP γ} {a b e : Expr} {pos : Pos} {i : Nat} {x : Str} {xp : Pos}
def cut {α : Type} (xs : List α) (lo hi : Option Int) : List α := (xs.drop (HT.sIx xs.length 0 lo)).take (HT.sIx xs.length xs.length hi - HT.sIx xs.length 0 lo)
theorem cut_from {α : Type} (xs : List α) (k : Nat) : cut xs (some (k : Int)) none = xs.drop k := by
  unfold cut
  rw [HT.sIx_nat, HT.sIx_none]
  by_cases h : k ≤ xs.length
  · rw [Nat.min_eq_left h, List.take_of_length_le (by rw [List.length_drop]; omega)]
  · rw [Nat.min_eq_right (by omega), List.drop_eq_nil_of_le (Nat.le_refl _), List.drop_eq_nil_of_le (by omega)]; simp
theorem cut_to {α : Type} (xs : List α) (k : Nat) : cut xs none (some (k : Int)) = xs.take k := by
  unfold cut
  rw [HT.sIx_none, HT.sIx_nat, List.drop_zero, Nat.sub_zero]
  by_cases h : k ≤ xs.length
  · rw [Nat.min_eq_left h]
  · rw [Nat.min_eq_right (by omega), List.take_of_length_le (Nat.le_refl _), List.take_of_length_le (by omega)]
theorem cut_back {α : Type} (xs : List α) : cut xs none (some (-1)) = xs.dropLast := by
  unfold cut
  have : HT.sIx xs.length xs.length (some (-1)) = xs.length - 1 := by
    show (if (-1 : Int) < 0 then ((-1 : Int) + (xs.length : Int)).toNat else min (-1 : Int).toNat xs.length) = _
    rw [if_pos (by decide)]; omega
  rw [HT.sIx_none, this, List.drop_zero, Nat.sub_zero, List.dropLast_eq_take]
theorem Ats.cut {K : PySem.W.Frag} {Z : Hp} {ds : List D} {vs : List V} (h : Ats K Z ds vs) (lo hi : Option Int) : Ats K Z (Pm.cut ds lo hi) (cutV vs lo hi) := by
  unfold Pm.cut cutV
  rw [h.len]
  exact (h.drop _).take _
theorem getItem_tuple_whole {prog : Program} {w : World} {A : Around} {E : Value → Shared → Prop} {s : Shared} {t sl : Addr} {items : Array Value} {vl vu : Value} {lo hi : Option Int} {Q : Value → Shared → Prop} (ht : IsTup s.heap t items) (hs : s.heap.IsSliceOf sl vl vu .none) (pl : IsPart vl lo) (pu : IsPart vu hi)
    (hw : HT.sIx items.size 0 lo = 0 ∧ HT.sIx items.size items.size hi = items.size) (h : Q (.ref t) s) : wpAny (model prog w) A (getItem (.ref t) (.ref sl)) Q E s := by
  obtain ⟨os, hos, hcs, hds⟩ := id hs
  have hTs : s.TypeIs (.ref sl) "slice" := ⟨os, hos, hcs⟩
  unfold getItem
  try with_reducible refine wpAny_holding ?_
  first | refine wpAny_bind (wpAny_pure ?_) | skip
  refine wpAny_bind (wpAny_sequenceKey ht.typeIs (by decide) ?_)
  refine wpAny_bind (wpAny_callSpecial?_slot (name := Str.ofString "__getitem__") ht.typeIs PyProof.Rows.slot_tuple_getitem
    (wpAny_call_entry PyProof.Rows.slot_tuple_getitem ht.typeIs entry_tuple_getitem ?_ (args_tuple_getitem _ _)))
  show wpAny _ _ (Builtin.Tuple.tupleItemsOf (.ref t) >>= _) _ _ s
  refine wpAny_bind (tupleItemsOf_ ht ?_)
  refine wpAny_bind (wpAny_typeOf hTs ?_)
  rw [if_pos (by decide)]
  refine wpAny_bind (HT.sliceApplied_gen hs pl pu ?_)
  have hno : ((((HT.sIx items.size 0 lo : Nat) : Int) == 0 && (1 : Int) == 1 && (HT.sIx items.size items.size hi - HT.sIx items.size 0 lo) == items.size) = true) := by
    rw [hw.1, hw.2]; simp
  show wpAny _ _ (if (((HT.sIx items.size 0 lo : Nat) : Int) == 0 && (1 : Int) == 1 && (HT.sIx items.size items.size hi - HT.sIx items.size 0 lo) == items.size) = true then _ else _) _ _ s
  rw [if_pos hno]
  unfold Builtin.Tuple.tupleIsExact
  refine wpAny_bind (wpAny_bind (wpAny_typeOf ht.typeIs (wpAny_pure ?_)))
  rw [if_pos (by decide)]
  refine wpAny_bind (wpAny_rule ?_)
  exact wpAny_pure ⟨_, rfl, wpAny_pure h⟩
end
def sliceD (d : D) (lo hi : Option Int) (R : DK) : Prop := match d with
  | .lst xs => R (.lst (cut xs lo hi))
  | .tup xs => R (.tup (cut xs lo hi))
  | .str z => z.length ≤ sizeLine ∧ R (.str (cutS z lo hi))
  | _ => False
def dSl (K : PySem.W.Frag) (p : D → Option Int → Option Int → DK → Prop) : V → Option Int → Option Int → Hp → VK → Prop := fun x lo hi H Q => ∃ Z d R, Same Z H ∧ At K Z d x ∧ p d lo hi R ∧ ∀ z Z' v H', R z → Ext Z H Z' H' → At K Z' z v → Q v H'
section
variable {X : Cx}
theorem x_slice : SlR X (dSl X.K sliceD) := by
  intro pins s σ H x v vl vu lo hi sl Q I rx hs pl pu ⟨Z, d, R, k, ad, h, q⟩
  cases d <;> try exact h.elim
  · simp only [At] at ad
    subst ad
    exact sl_str pins s σ H _ v vl vu lo hi sl Q I rx hs pl pu ⟨_, rfl, h.1, dk q k h.2 rfl⟩
  · simp only [At] at ad
    obtain ⟨a, vs, rfl, a2, a3⟩ := ad
    refine sl_list pins s σ H _ v vl vu lo hi sl Q I rx hs pl pu ⟨a, vs, rfl, .inl (.inl (k _ _ a2)), fun p hp => ?_⟩
    have x := Ext.new (o := HO.lst (cutV vs lo hi)) k hp
    exact q _ _ _ _ h x ⟨p, _, rfl, upd_same, (Ats.mono x.zz _ _ a3).cut lo hi⟩
  · simp only [At] at ad
    obtain ⟨a, vs, rfl, a2, a3⟩ := ad
    by_cases hw : HT.sIx vs.length 0 lo = 0 ∧ HT.sIx vs.length vs.length hi = vs.length
    · cases rx
      obtain ⟨its, r, ht, hz⟩ := I.tuple (seqT k a2)
      have hlen : its.toArray.size = vs.length := by rw [List.size_toArray]; exact r.length.symm
      refine ⟨"tuple", _, PyProof.Rows.slot_tuple_getitem.lookup, ht.typeIs, ?_⟩
      refine getItem_tuple_whole ht hs pl pu (by rw [hlen]; exact hw) ⟨.ref a, H, I, rfl, ?_⟩
      refine dk (d := .tup _) q k h (show At X.K Z (.tup _) _ from ⟨a, vs, rfl, a2, ?_⟩)
      have e : cutV vs lo hi = vs := by
        unfold cutV
        rw [hw.1, hw.2, List.drop_zero, Nat.sub_zero, List.take_of_length_le (Nat.le_refl _)]
      have := a3.cut lo hi
      rw [e] at this; exact this
    · refine sl_tup pins s σ H _ v vl vu lo hi sl Q I rx hs pl pu ⟨a, vs, rfl, seqT k a2, hw, fun p hp => ?_⟩
      have x := Ext.new (o := HO.tup (cutV vs lo hi)) k hp
      exact q _ _ _ _ h x ⟨p, _, rfl, .inl (.inl upd_same), (Ats.mono x.zz _ _ a3).cut lo hi⟩
end
section
variable {X : Cx} {G : GP γ} {a b e : Expr} {pos p2 : Pos} {lo hi : Option Expr}
def qNoPart : POx γ := fun s R => R none s
def qPart (te : PEx γ) : POx γ := fun s R => te s fun d s1 => match d with
  | .int i => R (some i) s1
  | _ => False
theorem qo_none : QO X G none (qNoPart : POx γ) := PO.imp po_none fun σ H Q ⟨F, Z, s, R, r, t, q⟩ => q none s Z H t (Same.refl _) r
theorem qo_some {te : PEx γ} (h : QE X G e te) : QO X G (some e) (qPart te) := by
  refine PO.imp (po_some h) fun σ H Q ⟨F, Z, s, R, r, t, q⟩ => ?_
  refine ⟨F, Z, s, _, r, t, fun d s1 Z1 v H1 t1 k1 r1 a1 => ?_⟩
  cases d with
  | int i => exact ⟨i, a1, q _ s1 Z1 H1 t1 k1 r1⟩
  | _ => exact t1.elim
def qSl (te : PEx γ) (tl th : POx γ) : PEx γ := fun s R => te s fun d s1 => tl s1 fun l s2 => th s2 fun h s3 => sliceD d l h fun z => R z s3
theorem qe_slice {te : PEx γ} {tl th : POx γ} (he : QE X G e te) (hl : QO X G lo tl) (hu : QO X G hi th) (hK : X.K = G.K := by rfl) : QE X G (.Subscript e (.Slice lo hi none p2) pos) (qSl te tl th) := by
  refine PE.imp (pe_slice x_slice he hl hu) fun σ H Q ⟨F, Z, s, R, r, t, q⟩ => ?_
  refine ⟨F, Z, s, _, r, t, fun d s1 Z1 v1 H1 t1 k1 r1 a1 => ⟨F, Z1, s1, _, r1, t1, fun l s2 Z2 H2 t2 k2 r2 => ⟨F, Z2, s2, _, r2, t2, fun h s3 Z3 H3 t3 k3 r3 => ?_⟩⟩⟩
  refine ⟨Z3, d, _, r3.z, by rw [hK]; exact At.mono (k2.trans k3) _ _ a1, t3, fun z Z4 v H4 t4 x4 a4 => q z s3 Z4 v H4 t4 (((k1.trans k2).trans k3).trans x4.zz) (r3.ext x4) (by rw [hK] at a4; exact a4)⟩
end

section
variable {X : Cx}
theorem Ats.one {K : PySem.W.Frag} {Z : Hp} {d : D} {vs : List V} (h : Ats K Z [d] vs) : ∃ v, vs = [v] ∧ At K Z d v := by
  simp only [Ats] at h
  obtain ⟨v, _, rfl, h, rfl⟩ := h
  exact ⟨v, rfl, h⟩
theorem Ats.two {K : PySem.W.Frag} {Z : Hp} {d e : D} {vs : List V} (h : Ats K Z [d, e] vs) : ∃ v w, vs = [v, w] ∧ At K Z d v ∧ At K Z e w := by
  simp only [Ats] at h
  obtain ⟨v, _, rfl, h, w, _, rfl, h', rfl⟩ := h
  exact ⟨v, w, rfl, h, h'⟩
def fn1 (p : D → DK → Prop) : List D → DK → Prop
  | [d], R => p d R
  | _, _ => False
theorem c1 {f : Value} {p : D → DK → Prop} (h : ∀ (pins : List (Addr × Obj)) (s : Shared) (σ : St) (H Z : Hp) (d : D) (v : V) (us : List Value) (Q : VK) (R : DK), L2.Inv X pins σ H s → Vals [v] us → Same Z H → At X.K Z d v → p d R → (∀ z Z' v H', R z → Ext Z H Z' H' → At X.K Z' z v → Q v H') →
    wpAny (model X.prog X.w) X.A (call f us) (EP X pins σ Q) X.xe s) : CallR X f (dCall X.K (fn1 p)) := by
  intro pins s σ H xs us Q I r ⟨Z, ds, R, k, a, w, q⟩
  obtain ⟨d, rfl, w⟩ : ∃ d, ds = [d] ∧ p d R := by
    cases ds with
    | nil => exact w.elim
    | cons d ds => cases ds with
      | nil => exact ⟨d, rfl, w⟩
      | cons => exact w.elim
  obtain ⟨v, rfl, a1⟩ := Ats.one a
  exact h pins s σ H Z d v us Q R I r k a1 w q
def lenD : D → DK → Prop
  | .lst xs, R => R (.int xs.length)
  | .tup xs, R => R (.int xs.length)
  | .str x, R => x.length ≤ sizeLine ∧ R (.int x.length)
  | _, _ => False
theorem c_len : CallR X (.builtin "len") (dCall X.K (fn1 lenD)) := c1 fun pins s σ H Z d v us Q R I r k a w q => by
  cases d <;> try exact w.elim
  · simp only [At] at a; subst a
    exact call_len_str pins s σ H _ us Q I r ⟨_, rfl, w.1, dk q k w.2 rfl⟩
  · simp only [At] at a
    obtain ⟨p, vs, rfl, a2, a3⟩ := a
    exact call_len_seq pins s σ H _ us Q I r ⟨p, vs, rfl, .inl (.inl (.inl (k _ _ a2))), dk q k w (by simp [At, a3.len])⟩
  · simp only [At] at a
    obtain ⟨p, vs, rfl, a2, a3⟩ := a
    exact call_len_seq pins s σ H _ us Q I r ⟨p, vs, rfl, .inr (seqT k a2), dk q k w (by simp [At, a3.len])⟩
def absD : D → DK → Prop
  | .int i, R => R (.int i.natAbs)
  | _, _ => False
theorem c_abs : CallR X (.builtin "abs") (dCall X.K (fn1 absD)) := c1 fun pins s σ H Z d v us Q R I r k a w q => by
  cases d <;> try exact w.elim
  simp only [At] at a; subst a
  rename_i i
  refine call_abs pins s σ H _ us Q I r ⟨i, rfl, dk q k w ?_⟩
  have e : (i.natAbs : Int) = if i < 0 then -i else i := by split <;> omega
  rw [e]; rfl
def intD : D → DK → Prop
  | .int i, R => R (.int i)
  | .bl b, R => R (.int (if b = true then 1 else 0))
  | _, _ => False
theorem c_int : CallR X (.type "int") (dCall X.K (fn1 intD)) := c1 fun pins s σ H Z d v us Q R I r k a w q => by
  cases d <;> try exact w.elim
  · simp only [At] at a; subst a
    exact call_int1 pins s σ H _ us Q I r (.inr ⟨_, rfl, dk q k w rfl⟩)
  · simp only [At] at a; subst a
    exact call_int1 pins s σ H _ us Q I r (.inl ⟨_, rfl, dk q k w rfl⟩)
def tupleD : D → DK → Prop
  | .lst xs, R => R (.tup xs)
  | .tup xs, R => R (.tup xs)
  | _, _ => False
theorem c_tuple : CallR X (.type "tuple") (dCall X.K (fn1 tupleD)) := c1 fun pins s σ H Z d v us Q R I r k a w q => by
  cases d <;> try exact w.elim
  · simp only [At] at a
    obtain ⟨p, vs, rfl, a2, a3⟩ := a
    refine call_tuple_of pins s σ H _ us Q I r ⟨p, vs, rfl, .inl ⟨.inl (.inl (k _ _ a2)), fun l hl => ?_⟩⟩
    have x := Ext.new (o := HO.tup vs) k hl
    exact q _ _ _ _ w x ⟨l, _, rfl, .inl (.inl upd_same), Ats.mono x.zz _ _ a3⟩
  · simp only [At] at a
    obtain ⟨p, vs, rfl, a2, a3⟩ := a
    exact call_tuple_of pins s σ H _ us Q I r ⟨p, vs, rfl, .inr ⟨seqT k a2, dk q k w ⟨p, vs, rfl, a2, a3⟩⟩⟩
def listF : List D → (List D → Prop) → Prop
  | [.lst xs], R => R xs
  | [.tup xs], R => R xs
  | _, _ => False
theorem c_list : CallR X (.type "list") (dCallF X.K listF) := by
  intro pins s σ H xs us Q I r ⟨Z, ds, R, k, a, w, q⟩
  cases ds with
  | nil => exact w.elim
  | cons d ds =>
    cases ds with
    | cons e ds => cases d <;> exact w.elim
    | nil =>
      obtain ⟨v, rfl, a1⟩ := Ats.one a
      cases d <;> try exact w.elim
      · simp only [At] at a1
        obtain ⟨p, vs, rfl, a2, a3⟩ := a1
        exact call_list_of pins s σ H _ us Q I r ⟨p, vs, rfl, .inl (.inl (.inl (k _ _ a2))), fun l hl => q _ _ _ _ w (same_upd hl) hl upd_same a3⟩
      · simp only [At] at a1
        obtain ⟨p, vs, rfl, a2, a3⟩ := a1
        exact call_list_of pins s σ H _ us Q I r ⟨p, vs, rfl, .inr (seqT k a2), fun l hl => q _ _ _ _ w (same_upd hl) hl upd_same a3⟩
def asInts : List D → Option (List Int)
  | [] => some []
  | .int i :: ds => (asInts ds).map (i :: ·)
  | _ :: _ => none
theorem asInts_eq : ∀ {ds : List D} {ns : List Int}, asInts ds = some ns → ds = ns.map D.int
  | [], ns, h => by simp [asInts] at h; subst h; rfl
  | .int i :: ds, ns, h => by
    simp only [asInts, Option.map_eq_some_iff] at h
    obtain ⟨ms, h1, rfl⟩ := h
    rw [asInts_eq h1]; rfl
  | .non :: _, _, h => by simp [asInts] at h
  | .bl _ :: _, _, h => by simp [asInts] at h
  | .str _ :: _, _, h => by simp [asInts] at h
  | .lst _ :: _, _, h => by simp [asInts] at h
  | .tup _ :: _, _, h => by simp [asInts] at h
  | .dct _ _ :: _, _, h => by simp [asInts] at h
  | .obj _ :: _, _, h => by simp [asInts] at h
def asBls : List D → Option (List Bool)
  | [] => some []
  | .bl i :: ds => (asBls ds).map (i :: ·)
  | _ :: _ => none
theorem asBls_eq : ∀ {ds : List D} {ns : List Bool}, asBls ds = some ns → ds = ns.map D.bl
  | [], ns, h => by simp [asBls] at h; subst h; rfl
  | .bl i :: ds, ns, h => by
    simp only [asBls, Option.map_eq_some_iff] at h
    obtain ⟨ms, h1, rfl⟩ := h
    rw [asBls_eq h1]; rfl
  | .non :: _, _, h => by simp [asBls] at h
  | .int _ :: _, _, h => by simp [asBls] at h
  | .str _ :: _, _, h => by simp [asBls] at h
  | .lst _ :: _, _, h => by simp [asBls] at h
  | .tup _ :: _, _, h => by simp [asBls] at h
  | .dct _ _ :: _, _, h => by simp [asBls] at h
  | .obj _ :: _, _, h => by simp [asBls] at h
theorem asBls_map : ∀ ns : List Bool, asBls (ns.map D.bl) = some ns
  | [] => rfl
  | n :: ns => by simp [asBls, asBls_map ns]
def sumD : D → DK → Prop
  | .lst xs, R => ∃ ns, asInts xs = some ns ∧ R (.int ns.sum)
  | _, _ => False
def allD : D → DK → Prop
  | .lst xs, R => ∃ bs, asBls xs = some bs ∧ R (.bl (bs.all id))
  | _, _ => False
theorem c_all (hc : X.calm = true) : CallR X (.builtin "all") (dCall X.K (fn1 allD)) := c1 fun pins s σ H Z d v us Q R I r k a w q => by
  cases d <;> try exact w.elim
  obtain ⟨ns, e, w⟩ := w
  rw [asBls_eq e] at a
  simp only [At] at a
  obtain ⟨p, vs, rfl, a2, a3⟩ := a
  rw [a3.bls] at a2
  exact cr_all hc pins s σ H _ us Q I r ⟨p, ns, rfl, .inl (.inl (k _ _ a2)), dk q k w rfl⟩
def anyD : D → DK → Prop
  | .lst xs, R => ∃ bs, asBls xs = some bs ∧ R (.bl (bs.any id))
  | _, _ => False
theorem c_any (hc : X.calm = true) : CallR X (.builtin "any") (dCall X.K (fn1 anyD)) := c1 fun pins s σ H Z d v us Q R I r k a w q => by
  cases d <;> try exact w.elim
  obtain ⟨ns, e, w⟩ := w
  rw [asBls_eq e] at a
  simp only [At] at a
  obtain ⟨p, vs, rfl, a2, a3⟩ := a
  rw [a3.bls] at a2
  exact cr_any hc pins s σ H _ us Q I r ⟨p, ns, rfl, .inl (.inl (k _ _ a2)), dk q k w rfl⟩
def fn2 (p : D → D → DK → Prop) : List D → DK → Prop
  | [d, e], R => p d e R
  | _, _ => False
theorem c2 {f : Value} {p : D → D → DK → Prop} (h : ∀ (pins : List (Addr × Obj)) (s : Shared) (σ : St) (H Z : Hp) (d e : D) (v w : V) (us : List Value) (Q : VK) (R : DK), L2.Inv X pins σ H s → Vals [v, w] us → Same Z H → At X.K Z d v → At X.K Z e w → p d e R → (∀ z Z' v H', R z → Ext Z H Z' H' → At X.K Z' z v → Q v H') →
    wpAny (model X.prog X.w) X.A (call f us) (EP X pins σ Q) X.xe s) : CallR X f (dCall X.K (fn2 p)) := by
  intro pins s σ H xs us Q I r ⟨Z, ds, R, k, a, w, q⟩
  obtain ⟨d, e, rfl, w⟩ : ∃ d e, ds = [d, e] ∧ p d e R := by
    cases ds with
    | nil => exact w.elim
    | cons d ds => cases ds with
      | nil => exact w.elim
      | cons e ds => cases ds with
        | nil => exact ⟨d, e, rfl, w⟩
        | cons => exact w.elim
  obtain ⟨v, u, rfl, a1, a2⟩ := Ats.two a
  exact h pins s σ H Z d e v u us Q R I r k a1 a2 w q
abbrev max2 := intD0 fun i j => .int (max i j)
theorem c_max2 (hc : X.calm = true) : CallR X (.builtin "max") (dCall X.K (fn2 max2)) := c2 fun pins s σ H Z d e v u us Q R I r k a b w q => by
  cases d <;> cases e <;> try exact w.elim
  simp only [At] at a b; subst a; subst b
  rename_i i j
  refine call_max2 hc pins s σ H _ us Q I r ⟨i, j, rfl, dk q k w ?_⟩
  show V.int _ = V.int _
  congr 1
  split <;> omega
def isTy (T : String) : D → Bool
  | .non => T == "NoneType"
  | .bl _ => T == "bool" || T == "int"
  | .int _ => T == "int"
  | .str _ => T == "str"
  | .lst _ => T == "list"
  | .tup _ => T == "tuple"
  | .dct _ _ => T == "dict"
  | .obj _ => false
def tyOf : D → String
  | .non => "NoneType" | .bl _ => "bool" | .int _ => "int" | .str _ => "str" | .lst _ => "list" | .tup _ => "tuple" | .dct _ _ => "dict" | .obj _ => ""
theorem tyX_of {K : PySem.W.Frag} {Z H : Hp} (k : Same Z H) {d : D} {v : V} (a : At K Z d v) (ho : ∀ p, d ≠ .obj p) : TyX K H v (.type (tyOf d)) := by
  cases d <;> simp only [At] at a
  · subst a; exact .base .non
  · subst a; exact .base (.bl _)
  · subst a; exact .base (.int _)
  · subst a; exact .base (.str _)
  · obtain ⟨p, vs, rfl, a2, _⟩ := a; exact .base (.lst (k _ _ a2))
  · obtain ⟨p, vs, rfl, a2, _⟩ := a
    rcases a2 with (a2 | ⟨o, a2⟩) | ⟨o, its, n, a2, c, _⟩
    · exact .base (.tup (k _ _ a2))
    · exact .fTuple (k _ _ a2)
    · exact .kTuple a2 c
  · obtain ⟨p, vs, rfl, a2, _⟩ := a; exact .base (.dK (k _ _ a2))
  · exact absurd rfl (ho _)
end
section
variable {X : Cx} {G : GP γ} {e : Expr} {pos p p2 : Pos}
def qIsi (T : String) (te : PEx γ) : PEx γ := fun s R => te s fun d s1 => (∀ p, d ≠ .obj p) ∧ R (.bl (isTy T d)) s1
theorem kit_all (K : PySem.W.Frag) {T : String} (hT : T = "int" ∨ T = "bool" ∨ T = "str" ∨ T = "tuple" ∨ T = "list" ∨ T = "dict") (d : D) (ho : ∀ p, d ≠ .obj p) : PySem.W.kitOne K (.type (tyOf d)) (.type T) = some (isTy T d) := by
  cases d with
  | obj p => exact absurd rfl (ho p)
  | _ => rcases hT with rfl | rfl | rfl | rfl | rfl | rfl <;> exact kit_ty (by simp only [tyOf, isTy]; decide +kernel)
theorem qe_isi {T : Str} {T' : String} {te : PEx γ} (hT : T' = "int" ∨ T' = "bool" ∨ T' = "str" ∨ T' = "tuple" ∨ T' = "list" ∨ T' = "dict") (he : QE X G e te) (hg : Gl X "isinstance") (hm : X.mg "isinstance" = none) (hg2 : Gl X T) (hm2 : X.mg T = none) (hv2 : bootBuiltins T = some (.type T')) (hK : X.K = G.K := by rfl)
    (hn : T ≠ "__name__" := by decide) (hd : (T == ("__debug__" : Str)) = false := by decide)
    (hs : starEach [e, .Name T p2] X.env = (false, eval e X.env) :: starEach [.Name T p2] X.env := by rfl) (hs2 : starEach [.Name T p2] X.env = (false, eval (.Name T p2) X.env) :: starEach [] X.env := by rfl) (hpl : (backTo pos (starEach [.Name T p2] X.env)).any (·.1) = false := by rfl) :
    QE X G (.Call (.Name "isinstance" p) [e, .Name T p2] [] pos) (qIsi T' te) := by
  refine PE.imp (pe_callB call_isi hg hm (by decide +kernel) (pa_cons he (pa_cons (pe_bltn (v := .ty T') hg2 hm2 hv2 rfl hn hd) pa_nil hs2) hs) (by decide) (by decide) hs hpl) fun σ H Q ⟨F, Z, s, R, r, t, q⟩ => ?_
  refine ⟨F, Z, s, _, r, t, fun d s1 Z1 v H1 t1 k1 r1 a1 => ?_⟩
  exact ⟨v, .ty T', .type (tyOf d), .type T', isTy T' d, rfl, .ty _, by rw [hK]; exact tyX_of r1.z a1 t1.1, kit_all _ hT d t1.1, q _ s1 Z1 _ H1 t1.2 k1 r1 rfl⟩

variable {i : Nat} {o : Expr} {apos cpos : Pos}
theorem own_ty {K : PySem.W.Frag} {H : Hp} {a : Addr} {vs : List V} (h : H a = some (.lst vs)) : tyV K "list" (.ref a) H := .inl ⟨rfl, vs, .inl (.inl h)⟩
def qAppend (i : Nat) (te : PEx γ) : PEx γ := fun s R => (∃ es, s.ρ[i]? = some (some (.own es))) ∧ te s fun d s1 => ∃ ds, s1.ρ[i]? = some (some (.own ds)) ∧ ds.length < sizeLine ∧ R .non ⟨s1.ρ.set i (some (.own (ds ++ [d]))), s1.g⟩
theorem qe_append {te : PEx γ} (hn : PE X o (tVar i)) (he : QE X G e te)
    (hbase : attributeBase o "append" X.env (eval o X.env) = eval o X.env := by rfl)
    (hfew : ((backTo cpos (starEach [e] X.env)).all (fun x => !x.1) && (backToKw cpos (keywordEach [] X.env)).all (fun x => x.1.isSome)
      && decide (([e] : List Expr).length + ([] : List Keyword).length + (if ([] : List Keyword).isEmpty then 0 else 1) < 30)) = true := by rfl)
    (hline : (apos.endLine == cpos.line) = true := by rfl) (hs : starEach [e] X.env = (false, eval e X.env) :: starEach [] X.env := by rfl) (hplain : (backTo cpos (starEach [] X.env)).any (·.1) = false := by rfl) :
    QE X G (.Call (.Attribute o "append" apos) [e] [] cpos) (qAppend i te) := by
  refine PE.imp (pe_bm PySem.F.plainAttrs_list PySem.F.slot_list_append PySem.F.type_list_append mt_append hn (pa_cons he pa_nil hs) hbase hfew hline hs hplain) fun σ H Q ⟨F, Z, s, R, r, ⟨⟨es, t0⟩, t⟩, q⟩ => ?_
  obtain ⟨a, vs, h1, h2, _⟩ := r.own i es t0
  refine ⟨.ref a, h1, own_ty h2, F, Z, s, _, r, t, fun d s1 Z1 v H1 ⟨ds, t1, t2, t3⟩ k1 r1 a1 => ?_⟩
  obtain ⟨a', vs', g1, g2, g3, _⟩ := r1.own i ds t1
  rw [h1] at g1; cases g1
  have g4 : Ats G.K Z1 (ds ++ [d]) (vs' ++ [v]) := g3.append ⟨v, [], rfl, a1, rfl⟩
  exact ⟨a, vs', v, rfl, rfl, g2, by rw [g3.len]; exact t2, q _ _ Z1 _ _ t3 k1 (r1.write t1 h1 g4) rfl⟩
end
section
variable {X : Cx} {G : GP γ} {a b : Expr} {pos : Pos}
def qBinF (p : D → D → (List D → Prop) → Prop) (ta tb : PEx γ) : PAx γ := fun s R => ta s fun x s1 => tb s1 fun y s2 => p x y fun z => R z s2
theorem qf_bin {op : Operator} {p : D → D → (List D → Prop) → Prop} {ta tb : PEx γ} (ho : OpR X (binaryOp op) (dOp2F G.K p)) (ha : QE X G a ta) (hb : QE X G b tb) : QF X G (.BinOp a op b pos) (qBinF p ta tb) := by
  refine PE.imp (pe_op ho ha hb) fun σ H Q ⟨F, Z, s, R, r, t, q⟩ => ?_
  refine ⟨F, Z, s, _, r, t, fun x s1 Z1 v1 H1 t1 k1 r1 a1 => ⟨F, Z1, s1, _, r1, t1, fun y s2 Z2 v2 H2 t2 k2 r2 a2 => ?_⟩⟩
  refine ⟨Z2, x, y, _, r2.z, At.mono k2 _ _ a1, a2, t2, fun zs p vs H3 t3 k3 hn hp a3 => ?_⟩
  obtain ⟨f1, f2, f3, f4⟩ := r2.fresh hn
  exact q zs s2 Z2 p vs H3 t3 (k1.trans k2) (r2.grow k3) hp a3 f1 f2 f3 f4
end
end Pm
set_option Elab.async false
set_option linter.all false
set_option maxRecDepth 100000
set_option maxHeartbeats 1000000
set_option autoImplicit false
namespace Pm
open PySem PySem.Spec
open PyProof.Rows hiding St
open L2
variable {γ : Type}

abbrev drawLine : Nat := 2 ^ 24
structure Rng (r c q : Addr) (n : Nat) (H : Hp) : Prop where
  ex : ∃ cs rs : List Int, H r = some (.lst [.ref c, .int n, .ref q]) ∧ H c = some (.lst (cs.map V.int)) ∧ H q = some (.lst (rs.map V.int)) ∧ cs.length = rs.length ∧ 0 < cs.length
  rc : r ≠ c
  rq : r ≠ q
  cq : c ≠ q
def gr (K : PySem.W.Frag) (r c q : Addr) : GP Nat where
  K := K
  foot := fun _ a => a = r ∨ a = c ∨ a = q
  J := fun n _ H => Rng r c q n H
  stay := fun n _ _ H H' ⟨⟨cs, rs, h1, h2, h3, h4⟩, a, b, d⟩ _ k => ⟨⟨cs, rs, (k r (.inl rfl)).trans h1, (k c (.inr (.inl rfl))).trans h2, (k q (.inr (.inr rfl))).trans h3, h4⟩, a, b, d⟩
  live := fun n _ H a ⟨⟨cs, rs, h1, h2, h3, _⟩, _, _, _⟩ h => by
    rcases h with rfl | rfl | rfl
    · exact ⟨_, h1⟩
    · exact ⟨_, h2⟩
    · exact ⟨_, h3⟩
def nextS (r : Addr) : Spec Nat := fun ds g R => ∃ m : Int, ds = [.obj r, .int m] ∧ 0 < m ∧ m ≤ 10 ^ 60 ∧ g < drawLine ∧ ∀ k : Int, 0 ≤ k → k < m → R (.int k) (g + 1)
def tNextB (K : PySem.W.Frag) : TS :=
  tSeq (tAsg (tVar 0) (gLs K 3 (gCons (gName 2) (gCons (gName 3) (gCons (gName 4) gNil)))))
  (tSeq (tAsg (tOp (rI (fun _ j => 0 < j) fun i j => .int (i % j)) (tVar 3) (tCB (fun xs H Q => ∃ p ys, xs = [.ref p] ∧ (SqL K H p ys ∨ SqT K H p ys) ∧ Q (.int ys.length) H) (tCons (tVar 2) tNil))) (gName 5))
  (tSeq (tAsg (tOp (rI0 fun i j => .int (i + j)) (tVar 3) (tC (.int 1))) (gSub (tVar 0) (tC (.int 1)) rSetL))
  (tSeq (tIfS (tTest (tOp (rI0 fun i j => .bl (decide (j < i))) (tOp (rIxL K) (tVar 4) (tVar 5)) (tC (.int 0))))
      (tSeq (tAsg (tOp (rI (fun _ j => 0 < j) fun i j => .int (i % j)) (tOp (rIxL K) (tVar 4) (tVar 5)) (tVar 1)) (gName 6))
      (tSeq (tAsg (tOp (rI DivOk fun i j => .int (i.fdiv j)) (tOp (rIxL K) (tVar 4) (tVar 5)) (tVar 1)) (gSub (tVar 4) (tVar 5) rSetL))
      (tRet (tVar 6)))) tNext)
  (tSeq (tAsg (tOp (rI (fun _ j => 0 < j) fun i j => .int (i % j)) (tOp (rI CPow fun i j => .int (i ^ j.toNat)) (tOp (rI0 fun i j => .int (i + j)) (tOp (rI0 fun i j => .int (i + j)) (tOp (rI (fun _ j => 0 < j) fun i j => .int (i % j)) (tOp (rIxL K) (tVar 2) (tVar 5)) (tC (.int 2147483629))) (tOp (rI CMul fun i j => .int (i * j)) (tC (.int 39119)) (tVar 3))) (tC (.int 9901))) (tC (.int 3))) (tC (.int 2147483587))) (gName 7))
  (tSeq (tAsg (tOp (rI (fun _ j => 0 < j) fun i j => .int (i % j)) (tOp (rI CPow fun i j => .int (i ^ j.toNat)) (tOp (rI0 fun i j => .int (i + j)) (tOp (rI0 fun i j => .int (i + j)) (tVar 7) (tOp (rI CMul fun i j => .int (i * j)) (tOp (rI CMul fun i j => .int (i * j)) (tC (.int 7001)) (tVar 3)) (tVar 3))) (tC (.int 41))) (tC (.int 3))) (tC (.int 2147483563))) (gName 8))
  (tRet (tOp (rI (fun _ j => 0 < j) fun i j => .int (i % j)) (tOp (rI (fun _ j => 0 < j) fun i j => .int (i % j)) (tOp (rI0 fun i j => .int (i + j)) (tOp (rI CMul fun i j => .int (i * j)) (tVar 8) (tC (.int 2147483423))) (tVar 7)) (tC (.int 4611686018427387847))) (tVar 1))))))))
theorem divOk60 {i j : Int} (h : 0 < j) (h2 : j ≤ 10 ^ 60) : DivOk i j := by
  refine ⟨by omega, ?_⟩
  have h3 : j.natAbs < 2 ^ 200 := by
    have : (10 : Int) ^ 60 < 2 ^ 200 := by decide
    omega
  exact Nat.lt_of_lt_of_le (PySem.Flt.log2_lt_of (by decide) h3) (by decide)
theorem spot_get {ns : List Int} {t : Int} (hl : 0 < ns.length) : ∃ (j : Nat) (z : Int), t % (ns.length : Int) = (j : Int) ∧ j < ns.length ∧ ns[j]? = some z := by
  have h1 : 0 ≤ t % (ns.length : Int) := Int.emod_nonneg _ (by omega)
  have h2 : t % (ns.length : Int) < ns.length := Int.emod_lt_of_pos _ (by omega)
  refine ⟨(t % (ns.length : Int)).toNat, ns[(t % (ns.length : Int)).toNat]'(by omega), by omega, by omega, List.getElem?_eq_getElem _⟩
theorem mapV_get {ns : List Int} {j : Nat} {z : Int} (h : ns[j]? = some z) : (ns.map V.int)[j]? = some (.int z) := by
  rw [List.getElem?_map, h]; rfl
theorem mapV_set (ns : List Int) (j : Nat) (z : Int) : (ns.map V.int).set j (.int z) = (ns.set j z).map V.int := by
  rw [List.map_set]
theorem rSetL_at {H : Hp} {p : Addr} {xs : List V} {j : Nat} {v : V} {Q : Hp → Prop} (h : H p = some (.lst xs)) (hj : j < xs.length) (q : Q (upd H p (.lst (xs.set j v)))) : rSetL (.ref p) (.int (j : Nat)) v H Q :=
  ⟨p, xs, j, j, rfl, rfl, h, by unfold ixN; rw [if_pos (by omega), if_pos (by omega), Int.toNat_natCast], q⟩
theorem rIxL_at {K : PySem.W.Frag} {H : Hp} {p : Addr} {xs : List V} {j : Nat} {v : V} {Q : VK} (h : H p = some (.lst xs)) (hj : xs[j]? = some v) (q : Q v H) : rIxL K (.ref p) (.int (j : Nat)) H Q :=
  ⟨p, xs, j, v, rfl, rfl, .inl (.inl h), atI_nat hj, q⟩
theorem next_read {K : PySem.W.Frag} {r c q : Addr} {H : Hp} {many : Int} {n : Nat} {De : Ends} (J : Rng r c q n H) (hm : 0 < many) (hm2 : many ≤ 10 ^ 60) (hn : n < drawLine)
    (fin : ∀ (k : Int) (H' : Hp), 0 ≤ k → k < many → Rng r c q (n + 1) H' → (∀ a, a ≠ r → a ≠ c → a ≠ q → H' a = H a) → De.rt (.int k) H') :
    tNextB K De [some (.ref r), some (.int many), none, none, none, none, none, none, none] H := by
  obtain ⟨⟨cs, rs, h1, h2, h3, hl, hp⟩, rc, rq, cq⟩ := J
  have hd : (n : Int) < 16777216 := by have : drawLine = 16777216 := rfl; omega
  obtain ⟨j, z, hj, hjl, hz⟩ := spot_get (ns := cs) (t := (n : Int)) hp
  refine ⟨.ref r, rfl, r, _, rfl, .inl (.inl h1), rfl, .ref c, _, rfl, .int n, _, rfl, .ref q, _, rfl, rfl, ?_⟩
  refine ⟨.int n, rfl, .ref c, rfl, c, cs.map V.int, rfl, .inl (.inl (.inl h2)), (n : Int), ((cs.map V.int).length : Int), rfl, rfl, by rw [List.length_map]; omega, ?_⟩
  rw [List.length_map, show ((fun i j => V.int (i % j)) (n : Int) (cs.length : Int)) = V.int (j : Nat) from (by show V.int _ = _; rw [hj])]
  refine ⟨.int n, rfl, n, 1, rfl, rfl, .ref r, rfl, ?_⟩
  refine rSetL_at (j := 1) h1 (by simp) ?_
  show tSeq _ _ _ _ (upd H r (.lst [.ref c, .int ((n : Int) + 1), .ref q]))
  generalize hH1 : upd H r (.lst [.ref c, .int ((n : Int) + 1), .ref q]) = H1
  have e1 : H1 r = some (.lst [.ref c, .int ((n + 1 : Nat) : Int), .ref q]) := by rw [← hH1, upd_same]; rfl
  have e2 : H1 c = some (.lst (cs.map V.int)) := by rw [← hH1, upd_ne (Ne.symm rc)]; exact h2
  have e3 : H1 q = some (.lst (rs.map V.int)) := by rw [← hH1, upd_ne (Ne.symm rq)]; exact h3
  have eo : ∀ a, a ≠ r → a ≠ c → a ≠ q → H1 a = H a := fun a ha _ _ => by rw [← hH1, upd_ne ha]
  obtain ⟨zr, hzr⟩ : ∃ zr, rs[j]? = some zr := ⟨rs[j]'(by omega), List.getElem?_eq_getElem _⟩
  refine ⟨.ref q, rfl, .int (j : Nat), rfl, rIxL_at e3 (mapV_get hzr) ?_⟩
  refine ⟨zr, 0, rfl, rfl, decide (0 < zr), rfl, ?_⟩
  by_cases hz0 : 0 < zr
  · rw [decide_eq_true hz0]
    refine iteT ?_
    refine ⟨.ref q, rfl, .int (j : Nat), rfl, rIxL_at e3 (mapV_get hzr) ?_⟩
    refine ⟨.int many, rfl, zr, many, rfl, rfl, hm, ?_⟩
    refine ⟨.ref q, rfl, .int (j : Nat), rfl, rIxL_at e3 (mapV_get hzr) ?_⟩
    refine ⟨.int many, rfl, zr, many, rfl, rfl, divOk60 hm hm2, .ref q, rfl, .int (j : Nat), rfl, ?_⟩
    refine rSetL_at e3 (by rw [List.length_map]; omega) ?_
    refine ⟨.int (zr % many), rfl, fin _ _ (Int.emod_nonneg _ (by omega)) (Int.emod_lt_of_pos _ hm) ⟨⟨cs, rs.set j (zr.fdiv many), ?_, ?_, ?_, by rw [List.length_set]; exact hl, hp⟩, rc, rq, cq⟩ fun a a1 a2 a3 => ?_⟩
    · rw [upd_ne rq]; exact e1
    · rw [upd_ne cq]; exact e2
    · rw [upd_same, mapV_set]
    · rw [upd_ne a3]; exact eo a a1 a2 a3
  · rw [decide_eq_false hz0]
    refine iteF ?_
    have b1 : 0 ≤ z % 2147483629 := Int.emod_nonneg _ (by decide)
    have b2 : z % 2147483629 < 2147483629 := Int.emod_lt_of_pos _ (by decide)
    refine ⟨.ref c, rfl, .int (j : Nat), rfl, rIxL_at e2 (mapV_get hz) ?_⟩
    refine ⟨z, 2147483629, rfl, rfl, (by show (0 : Int) < 2147483629; decide), .int n, rfl, 39119, n, rfl, rfl, .inl ⟨by decide, by decide⟩, _, _, rfl, rfl, _, 9901, rfl, rfl, _, 3, rfl, rfl, ⟨by decide, by decide, by omega⟩, _, 2147483587, rfl, rfl, (by show (0 : Int) < 2147483587; decide), ?_⟩
    show gName 7 (V.int ((z % 2147483629 + 39119 * (n : Int) + 9901) ^ (3 : Int).toNat % 2147483587)) _ _ _
    generalize hmx : (z % 2147483629 + 39119 * (n : Int) + 9901) ^ (3 : Int).toNat % 2147483587 = mx
    have m1 : 0 ≤ mx := by rw [← hmx]; exact Int.emod_nonneg _ (by decide)
    have m2 : mx < 2147483587 := by rw [← hmx]; exact Int.emod_lt_of_pos _ (by decide)
    have n0 : 0 ≤ (n : Int) := Int.natCast_nonneg n
    have n2 : 7001 * (n : Int) * (n : Int) ≤ 7001 * 16777216 * 16777216 := Int.mul_le_mul (by omega) (by omega) n0 (by decide)
    have n3 : 0 ≤ 7001 * (n : Int) * (n : Int) := Int.mul_nonneg (by omega) n0
    refine ⟨.int mx, rfl, .int n, rfl, 7001, n, rfl, rfl, .inl ⟨by decide, by decide⟩, .int n, rfl, _, n, rfl, rfl, .inr ⟨by omega, by omega⟩, mx, _, rfl, rfl, _, 41, rfl, rfl, _, 3, rfl, rfl, ⟨by decide, by decide, by omega⟩, _, 2147483563, rfl, rfl, (by show (0 : Int) < 2147483563; decide), ?_⟩
    show gName 8 (V.int ((mx + 7001 * (n : Int) * (n : Int) + 41) ^ (3 : Int).toNat % 2147483563)) _ _ _
    generalize hag : (mx + 7001 * (n : Int) * (n : Int) + 41) ^ (3 : Int).toNat % 2147483563 = ag
    refine ⟨.int ag, rfl, ag, 2147483423, rfl, rfl, .inr ⟨by decide, by decide⟩, .int mx, rfl, _, mx, rfl, rfl, _, 4611686018427387847, rfl, rfl, (by show (0 : Int) < 4611686018427387847; decide), .int many, rfl, _, many, rfl, rfl, hm, ?_⟩
    exact fin _ _ (Int.emod_nonneg _ (by omega)) (Int.emod_lt_of_pos _ hm) ⟨⟨cs, rs, e1, e2, e3, hl, hp⟩, rc, rq, cq⟩ eo
section
variable {P : Program} {w : World} {K : PySem.W.Frag} {mg : Str → Option Value} {base : Heap}
theorem ok_next {x : Str} {st : Stmt} {f : Addr} {fd : FuncData} {N ps : List Str} {k : Nat} {r c q : Addr} (F : Fn K x x st f fd) (S : FnScope N ps (defScope st)) (hN : N.length = 9) (hp : ps.length = 2)
    (body : ∀ (cdv : Value) (A : Around) (outer : List Env) (s : Shared) (H : Hp) (E : XK), Room k (A.deeper (envOfC x (defScope st) s.heap.objs.size f cdv)) →
      PSs (cxOf CX0 P w K mg base N x (defScope st) f cdv A outer s H E).nox (defBody st) (tNextB K)) : FnOk P w K mg base CX0 (k + 1) f fd ps (spG (gr K r c q) (nextS r)) := by
  refine F.ok S (fun vs H Q E h => ?_) (fun cdv A outer s H vs Q E hr h => ⟨_, body cdv A outer s H E hr, ?_⟩)
  · obtain ⟨Z, ds, g, R, _, a, _, _, ⟨m, rfl, _⟩, _⟩ := h
    rw [a.len, hp]; rfl
  · obtain ⟨Z, ds, g, R, k, a, J, zf, ⟨m, rfl, m1, m2, m3, fin⟩, q'⟩ := h
    obtain ⟨v1, v2, rfl, a1, a2⟩ := Ats.two a
    simp only [At] at a1 a2
    subst a1; subst a2
    have e : L2.start N [V.ref r, V.int m] = [some (.ref r), some (.int m), none, none, none, none, none, none, none] := by
      unfold L2.start
      rw [hN]; rfl
    rw [e]
    refine next_read J m1 m2 m3 fun k0 H' h0 h1 J' keep => ?_
    refine q' (.int k0) (g + 1) Z _ H' (fin k0 h0 h1) (Same.refl _) (fun b o e => ?_) (fun b o e n => ?_) (fun b o e n => by rw [e] at n; cases n) J' (fun b hb => ⟨zf b hb, .inl hb⟩) rfl
    · have hn : ¬ (b = r ∨ b = c ∨ b = q) := fun hb => by rw [zf b hb] at e; cases e
      rw [keep b (fun z => hn (.inl z)) (fun z => hn (.inr (.inl z))) (fun z => hn (.inr (.inr z)))]
      exact k b o e
    · have hn : ¬ (b = r ∨ b = c ∨ b = q) := n
      rw [keep b (fun z => hn (.inl z)) (fun z => hn (.inr (.inl z))) (fun z => hn (.inr (.inr z)))]
      exact e
end

def spDraws (K : PySem.W.Frag) : Sp := fun vs H Q _ => ∃ (a : Addr) (ns : List Int), vs = [.ref a] ∧ SqL K H a (ns.map V.int) ∧ ns.length ≤ 63 ∧
  ∀ (r c q : Addr) H', Same H H' → H r = none → H c = none → H q = none → Rng r c q 0 H' → Q (.ref r) H'
def tDrawsB (K : PySem.W.Frag) (vs : List Nat) : TS :=
  tSeq (tAsg (tOp rCat (tCB (fun xs H Q => ∃ p ys, xs = [.ref p] ∧ (SqL K H p ys ∨ SqT K H p ys) ∧ ∀ l, H l = none → Q (.ref l) (upd H l (.lst ys))) (tCons (tSl (rSlL K) (tVar 0) tNoPart (tPart (tC (.int 63)))) tNil))
      (tOp rRep (tLst (tCons (tC (.int 0)) tNil)) (tCB (fun xs H Q => (∃ i, xs = [.int i] ∧ Q (.int i) H) ∨ ∃ k, xs = [.bl k] ∧ Q (.int (if k then 1 else 0)) H)
        (tCons (tOp rEq (tCB (fun xs H Q => ∃ p ys, xs = [.ref p] ∧ (SqL K H p ys ∨ SqT K H p ys) ∧ Q (.int ys.length) H) (tCons (tVar 0) tNil)) (tC (.int 0))) tNil)))) (gName 1))
  (tRet (tLst (tCons (tVar 1) (tCons (tC (.int 0)) (tCons (tLc (iList K (tVar 1)) (gName 2) tYes
    (tOp (rI CMul fun i j => .int (i * j)) (tVar 2) (tCB (fun xs H Q => (∃ i, xs = [.int i] ∧ Q (.int i) H) ∨ ∃ k, xs = [.bl k] ∧ Q (.int (if k then 1 else 0)) H)
      (tCons (tOp (rI0 fun i j => .bl (decide (j ≤ i))) (tVar 2) (tOp (rI CPow fun i j => .int (i ^ j.toNat)) (tC (.int 10)) (tC (.int 18)))) tNil))) vs) tNil)))))
theorem cut63 (ns : List Int) (h : ns.length ≤ 63) : cutV (ns.map V.int) none (some 63) = ns.map V.int := by
  have : cutV (ns.map V.int) none (some 63) = cut (ns.map V.int) none (some ((63 : Nat) : Int)) := rfl
  rw [this, cut_to, List.take_of_length_le (by rw [List.length_map]; exact h)]
theorem tYes_if {σ : List (Option V)} {H : Hp} {A B : Hp → Prop} (h : A H) : tYes σ H fun b H => if b = true then A H else B H := by
  show (if true = true then A H else B H)
  rw [if_pos rfl]; exact h
theorem draws_read {K : PySem.W.Frag} {a : Addr} {ns : List Int} {H : Hp} {De : Ends} (hs : SqL K H a (ns.map V.int)) (hl : ns.length ≤ 63)
    (fin : ∀ (r c q : Addr) H', Same H H' → H r = none → H c = none → H q = none → Rng r c q 0 H' → De.rt (.ref r) H') : tDrawsB K [2] De [some (.ref a), none, none] H := by
  have lim : (1000 : Nat) ≤ sizeLine := by decide
  refine ⟨.ref a, rfl, 63, rfl, a, ns.map V.int, rfl, hs, fun p1 np1 => ?_⟩
  rw [cut63 ns hl]
  have s1 := same_upd (o := HO.lst (ns.map V.int)) np1
  generalize hH1 : upd H p1 (.lst (ns.map V.int)) = H1 at s1
  have a1 : H1 p1 = some (.lst (ns.map V.int)) := by rw [← hH1, upd_same]
  refine ⟨p1, ns.map V.int, rfl, .inl (.inl (.inl a1)), fun p2 np2 => ?_⟩
  have s2 := s1.trans (same_upd (o := HO.lst (ns.map V.int)) np2)
  generalize hH2 : upd H1 p2 (.lst (ns.map V.int)) = H2 at s2
  have a2 : H2 p2 = some (.lst (ns.map V.int)) := by rw [← hH2, upd_same]
  refine ⟨(by show 1 ≤ sizeLine; decide), fun p3 np3 => ?_⟩
  have s3 := same_upd (o := HO.lst [V.int 0]) np3
  generalize hH3 : upd H2 p3 (.lst [V.int 0]) = H3 at s3
  have a3 : H3 p3 = some (.lst [V.int 0]) := by rw [← hH3, upd_same]
  have a23 : H3 p2 = some (.lst (ns.map V.int)) := s3 _ _ a2
  have sA : Same H H3 := s2.trans s3
  refine ⟨.ref a, rfl, a, ns.map V.int, rfl, .inl (sA.seq hs), rfl, .inr ⟨_, rfl, ?_⟩⟩
  generalize hk : decide (V.int (((ns.map V.int).length : Nat) : Int) = V.int 0) = kz
  have hkz : kz = decide (ns.length = 0) := by
    rw [← hk, Bool.eq_iff_iff, decide_eq_true_iff, decide_eq_true_iff, List.length_map]
    constructor
    · intro h; have := V.int.inj h; omega
    · intro h; rw [h]; rfl
  refine ⟨p3, if kz then 1 else 0, [V.int 0], rfl, rfl, a3, by split <;> decide, by split <;> decide, by split <;> decide, fun p4 np4 => ?_⟩
  generalize hz : (List.replicate (if kz = true then (1 : Int) else 0).toNat [V.int 0]).flatten = zs
  have s4 := same_upd (o := HO.lst zs) np4
  generalize hH4 : upd H3 p4 (.lst zs) = H4 at s4
  have a4 : H4 p4 = some (.lst zs) := by rw [← hH4, upd_same]
  obtain ⟨ms, hms, hmp, hml⟩ : ∃ ms : List Int, ns.map V.int ++ zs = ms.map V.int ∧ 0 < ms.length ∧ ms.length ≤ 64 := by
    by_cases h0 : ns.length = 0
    · have : ns = [] := List.length_eq_zero_iff.mp h0
      subst this
      refine ⟨[0], ?_, by simp, by simp⟩
      rw [← hz, hkz]; rfl
    · refine ⟨ns, ?_, by omega, by omega⟩
      have hf : kz = false := by rw [hkz]; exact decide_eq_false h0
      rw [← hz, hf]
      show ns.map V.int ++ [] = _
      rw [List.append_nil]
  have hlen : (ns.map V.int).length + zs.length ≤ sizeLine := by
    have := congrArg List.length hms
    rw [List.length_append, List.length_map] at this
    rw [List.length_map] at this ⊢
    omega
  refine ⟨p2, p4, ns.map V.int, zs, rfl, rfl, s4 _ _ a23, a4, hlen, fun c nc => ?_⟩
  rw [hms]
  have s5 := same_upd (o := HO.lst (ms.map V.int)) nc
  generalize hH5 : upd H4 c (.lst (ms.map V.int)) = H5 at s5
  have a5 : H5 c = some (.lst (ms.map V.int)) := by rw [← hH5, upd_same]
  have sB : Same H H4 := sA.trans s4
  have hc : H c = none := sB.free nc
  have sC : Same H H5 := sB.trans s5
  -- the list of three
  refine ⟨.ref c, rfl, .ref c, rfl, c, rfl, ⟨_, .inl (.inl a5)⟩, fun D nD => ?_⟩
  have hD : H D = none := sC.free nD
  have hDc : c ≠ D := ne_of_none a5 nD
  refine lc_list (K := K) (xs := ms.map V.int) (fun i H => ∃ rs : List Int, rs.length = i ∧ H D = some (.lst (rs.map V.int)) ∧ (∀ b, b ≠ D → H b = H5 b)) ?_ ?_ ?_ ?_
  · exact ⟨[], rfl, by rw [upd_same]; rfl, fun b hb => upd_ne hb⟩
  · rintro i H' - ⟨rs, _, _, ho⟩
    exact .inl (.inl (by rw [ho c hDc]; exact a5))
  · rintro i x H' hx ⟨rs, hrl, hrD, ho⟩
    rw [List.getElem?_map] at hx
    obtain ⟨z, hz1, hz2⟩ := Option.map_eq_some_iff.mp hx
    subst hz2
    refine ⟨rfl, ?_⟩
    refine tYes_if ?_
    refine ⟨.int z, rfl, .int z, rfl, 10, 18, rfl, rfl, ⟨by decide, by decide, by decide⟩, z, _, rfl, rfl, .inr ⟨_, rfl, z, _, rfl, rfl, .inr (by split <;> constructor <;> decide), rs.map V.int, hrD, ?_, ?_⟩⟩
    · have hi := (List.getElem?_eq_some_iff.mp hz1).1
      rw [List.length_map]
      omega
    · refine ⟨rs ++ [z * if decide (10 ^ (18 : Int).toNat ≤ z) = true then 1 else 0], by rw [List.length_append, hrl]; rfl, ?_, fun b hb => ?_⟩
      · rw [upd_same, List.map_append]; rfl
      · rw [upd_ne hb]; exact ho b hb
  · rintro H' ⟨rs, hrl, hrD, ho⟩
    refine ⟨(by show 3 ≤ sizeLine; decide), fun r nr => ?_⟩
    have e5 : H5 r = none := by
      have : r ≠ D := fun e => by rw [e, hrD] at nr; cases nr
      rw [← ho r this]; exact nr
    have hr : H r = none := sC.free e5
    have rc : r ≠ c := fun e => by rw [e, a5] at e5; cases e5
    have rD : r ≠ D := fun e => by rw [e, hrD] at nr; cases nr
    refine fin r c D _ (fun b o e => ?_) hr hc hD ⟨⟨ms, rs, by rw [upd_same]; rfl, ?_, ?_, ?_, hmp⟩, rc, rD, hDc⟩
    · have b1 : b ≠ r := ne_of_none e hr
      have b2 : b ≠ D := ne_of_none e hD
      rw [upd_ne b1, ho b b2]
      exact sC _ _ e
    · rw [upd_ne (Ne.symm rc), ho c hDc]; exact a5
    · rw [upd_ne (Ne.symm rD)]; exact hrD
    · rw [hrl, List.length_map]
section
variable {P : Program} {w : World} {K : PySem.W.Frag} {mg : Str → Option Value} {base : Heap}
theorem ok_draws {x : Str} {st : Stmt} {f : Addr} {fd : FuncData} {N ps : List Str} {k : Nat} (F : Fn K x x st f fd) (S : FnScope N ps (defScope st)) (hN : N.length = 3) (hp : ps.length = 1)
    (body : ∀ (cdv : Value) (A : Around) (outer : List Env) (s : Shared) (H : Hp) (E : XK), Room k (A.deeper (envOfC x (defScope st) s.heap.objs.size f cdv)) →
      PSs (cxOf CX0 P w K mg base N x (defScope st) f cdv A outer s H E).nox (defBody st) (tDrawsB K [2])) : FnOk P w K mg base CX0 (k + 1) f fd ps (spDraws K) := by
  refine F.ok S (fun vs H Q E h => ?_) (fun cdv A outer s H vs Q E hr h => ⟨_, body cdv A outer s H E hr, ?_⟩)
  · obtain ⟨a, ns, rfl, _⟩ := h
    rw [hp]; rfl
  · obtain ⟨a, ns, rfl, hs, hl, q⟩ := h
    have e : L2.start N [V.ref a] = [some (.ref a), none, none] := by
      unfold L2.start
      rw [hN]; rfl
    rw [e]
    exact draws_read hs hl fun r c q' H' h1 h2 h3 h4 h5 => q r c q' H' h1 h2 h3 h4 h5

def Glo (P : Program) (w : World) (K : PySem.W.Frag) (mg : Str → Option Value) (base : Heap) (x : Str) (n : Nat) (sp : Sp) (k : Nat) : Prop :=
  ∃ f fd ps, FnOk P w K mg base CX0 k f fd ps sp ∧ mg x = some (.ref f) ∧ PySem.W.keepIn K (.ref f) = true ∧ Binds K fd ps [] ∧ ps.length = n
theorem Glo.at {X : Cx} {x : Str} {n : Nat} {sp : Sp} {j k : Nat} (g : Glo X.prog X.w X.K X.mg X.base x n sp j) (hr : Room k X.A) (h : j ≤ k := by decide) : Def X x n sp := by
  obtain ⟨f, fd, ps, F, m, kp, b, e⟩ := g
  exact ⟨f, fd, k, ps, F.mono h, hr, m, kp, b, e⟩
end
end Pm
set_option Elab.async false
set_option linter.all false
set_option maxRecDepth 100000
set_option maxHeartbeats 1000000
set_option autoImplicit false
namespace Pm
open PySem PySem.Spec
open PyProof.Rows hiding St
open L2

def Sz (b : Nat) (i : Int) : Prop := i.natAbs < 2 ^ b
theorem Sz.le {a b : Nat} {i : Int} (h : Sz a i) (k : a ≤ b) : Sz b i := Nat.lt_of_lt_of_le h (Nat.pow_le_pow_right (by decide) k)
theorem Sz.mul {a b : Nat} {i j : Int} (h : Sz a i) (k : Sz b j) : Sz (a + b) (i * j) := by
  unfold Sz at *
  rw [Int.natAbs_mul, Nat.pow_add]
  exact Nat.mul_lt_mul'' h k
theorem Sz.add {a : Nat} {i j : Int} (h : Sz a i) (k : Sz a j) : Sz (a + 1) (i + j) := by
  unfold Sz at *
  rw [Nat.pow_succ]; omega
theorem Sz.log {b : Nat} {i : Int} (h : Sz b i) (k : 0 < b) : i.natAbs.log2 < b := PySem.Flt.log2_lt_of k h
theorem divOk_of {b : Nat} {i j : Int} (h : Sz b j) (h0 : j ≠ 0) (l : b ≤ 9000 := by omega) : DivOk i j := ⟨h0, (h.le l).log (by decide)⟩

def frD (x : Rat) : D := .tup [.int x.num, .int x.den]
def SzR (b : Nat) (x : Rat) : Prop := Sz b x.num ∧ Sz b x.den
theorem SzR.le {a b : Nat} {x : Rat} (h : SzR a x) (k : a ≤ b) : SzR b x := ⟨h.1.le k, h.2.le k⟩
theorem natAbs_div_le (a : Int) (b : Nat) : (a / (b : Int)).natAbs ≤ a.natAbs := by
  rcases Nat.eq_zero_or_pos b with rfl | h
  · simp
  · exact Int.natAbs_ediv_le_natAbs a b
theorem SzR.mk {b : Nat} {n : Int} {d : Nat} (hn : Sz b n) (hd : Sz b d) (h0 : d ≠ 0) : SzR b (mkRat n d) := by
  refine ⟨?_, ?_⟩
  · unfold Sz at *
    rw [Rat.num_mkRat, if_neg h0]
    exact Nat.lt_of_le_of_lt (natAbs_div_le _ _) hn
  · unfold Sz at *
    rw [Rat.den_mkRat, if_neg h0]
    refine Nat.lt_of_le_of_lt ?_ hd
    show d / d.gcd n.natAbs ≤ d
    exact Nat.div_le_self _ _
theorem SzR.divInt {b : Nat} {n d : Int} (hn : Sz b n) (hd : Sz b d) (h0 : d ≠ 0) : SzR b (Rat.divInt n d) := by
  rcases Int.lt_or_gt_of_ne h0 with h | h
  · have e : Rat.divInt n d = mkRat (-n) d.natAbs := by
      rw [← Rat.neg_divInt_neg, ← Rat.divInt_ofNat]
      congr 1; omega
    rw [e]
    exact SzR.mk (by unfold Sz at *; omega) (by unfold Sz at *; omega) (by omega)
  · have e : Rat.divInt n d = mkRat n d.natAbs := by
      rw [← Rat.divInt_ofNat]
      congr 1; omega
    rw [e]
    exact SzR.mk hn (by unfold Sz at *; omega) (by omega)
theorem SzR.add {a b : Nat} {x y : Rat} (h : SzR a x) (k : SzR b y) : SzR (a + b + 1) (x + y) := by
  rw [Rat.add_def']
  refine SzR.mk ((h.1.mul k.2).add ((k.1.mul h.2).le (by omega))) ?_ (Nat.mul_ne_zero x.den_nz y.den_nz)
  rw [Int.natCast_mul]
  exact (h.2.mul k.2).le (by omega)
theorem frD_pln (x : Rat) : (frD x).pln = true := rfl
theorem divInt_parts {n d : Int} (h0 : d ≠ 0) : (Rat.divInt n d).num = n.fdiv (if d < 0 then 0 - (n.natAbs.gcd d.natAbs : Nat) else (n.natAbs.gcd d.natAbs : Nat)) ∧ ((Rat.divInt n d).den : Int) = d.fdiv (if d < 0 then 0 - (n.natAbs.gcd d.natAbs : Nat) else (n.natAbs.gcd d.natAbs : Nat)) := by
  have hg : d.gcd n = n.natAbs.gcd d.natAbs := by show d.natAbs.gcd n.natAbs = _; rw [Nat.gcd_comm]
  have hgp : 0 < n.natAbs.gcd d.natAbs := Nat.gcd_pos_of_pos_right _ (by omega)
  have d1 : ((n.natAbs.gcd d.natAbs : Nat) : Int) ∣ n := Int.ofNat_dvd_left.mpr (Nat.gcd_dvd_left _ _)
  have d2 : ((n.natAbs.gcd d.natAbs : Nat) : Int) ∣ d := Int.ofNat_dvd_left.mpr (Nat.gcd_dvd_right _ _)
  rw [Rat.num_divInt, Rat.den_divInt, if_neg h0, hg]
  generalize n.natAbs.gcd d.natAbs = g at *
  obtain ⟨a, rfl⟩ := d1
  obtain ⟨b, rfl⟩ := d2
  have g0 : (g : Int) ≠ 0 := by omega
  by_cases hb : (g : Int) * b < 0
  · rw [if_pos hb, Int.sign_eq_neg_one_of_neg hb]
    have b0 : b < 0 := by
      rcases Int.lt_or_le b 0 with h | h
      · exact h
      · have := Int.mul_nonneg (show (0 : Int) ≤ g by omega) h; omega
    have e1 : ∀ c : Int, ((g : Int) * c).fdiv (0 - (g : Int)) = -c := fun c => by
      have e : (g : Int) * c = (0 - (g : Int)) * (-c) := by rw [Int.zero_sub, Int.neg_mul_neg]
      rw [e, Int.mul_fdiv_cancel_left _ (by omega)]
    rw [e1, e1]
    constructor
    · have e : -1 * ((g : Int) * a) = (g : Int) * (-a) := by rw [Int.mul_neg, Int.neg_one_mul]
      rw [e, Int.mul_ediv_cancel_left _ g0]
    · rw [Int.natAbs_mul, Int.natAbs_natCast, Nat.mul_div_cancel_left _ hgp]; omega
  · rw [if_neg hb]
    have b0 : 0 < b := by
      rcases Int.lt_or_le 0 b with h | h
      · exact h
      · have h2 : (g : Int) * b ≤ 0 := Int.mul_nonpos_of_nonneg_of_nonpos (by omega) h
        omega
    have hp : 0 < (g : Int) * b := by
      have : (g : Int) * b ≠ 0 := h0
      omega
    rw [Int.sign_eq_one_of_pos hp, Int.one_mul, Int.mul_fdiv_cancel_left _ g0, Int.mul_ediv_cancel_left _ g0, Int.mul_fdiv_cancel_left _ g0]
    refine ⟨rfl, ?_⟩
    rw [Int.natAbs_mul, Int.natAbs_natCast, Nat.mul_div_cancel_left _ hgp]; omega
theorem pe_callD {X : Cx} {x : Str} {n : Nat} {sp : Sp} {e : Expr} {es : List Expr} {ta : TA} {p pos : Pos} (d : Def X x n sp) (hg : Gl X x) (ha : PA X (e :: es) ta) (hdb : (x == ("__debug__" : Str)) = false := by decide) (he : starEach (e :: es) X.env = (false, eval e X.env) :: starEach es X.env := by rfl) (hpl : (backTo pos (starEach es X.env)).any (·.1) = false := by rfl) :
    PE X (.Call (.Name x p) (e :: es) [] pos) (tCall sp [] E0 ta) := by
  obtain ⟨fa, fd, k, ps, F, hr, hm, hk, hb, _⟩ := d.ex
  exact pe_call F hr hg hm hk hb .nil pass0 ha hdb he hpl
def wkL : List (Option L) → List (Option L) → Prop
  | [], [] => True
  | a :: as, b :: bs => (b = none ∨ b = a) ∧ wkL as bs
  | _, _ => False
theorem wkL_at : ∀ {ρ ρ' : List (Option L)}, wkL ρ ρ' → ρ'.length = ρ.length ∧ ∀ (i : Nat) l, ρ'[i]? = some (some l) → ρ[i]? = some (some l)
  | [], [], _ => ⟨rfl, fun _ _ h => h⟩
  | a :: as, b :: bs, h => by
    obtain ⟨h1, h2⟩ := wkL_at h.2
    refine ⟨by simp [h1], fun i l e => ?_⟩
    cases i with
    | zero =>
      simp only [List.getElem?_cons_zero, Option.some.injEq] at e ⊢
      rcases h.1 with h | h
      · rw [h] at e; cases e
      · rw [← h]; exact e
    | succ i => simp only [List.getElem?_cons_succ] at e ⊢; exact h2 i l e
  | [], _ :: _, h => h.elim
  | _ :: _, [], h => h.elim
section
variable {γ : Type}
theorem Wk.of {ρ ρ' : List (Option L)} {g : γ} (h : wkL ρ ρ') : Wk (⟨ρ, g⟩ : S γ) ⟨ρ', g⟩ := ⟨rfl, (wkL_at h).1, (wkL_at h).2⟩
theorem seq_mid {t U : PSx γ} {E : En γ} {s : S γ} (M : S γ → Prop) (hU : ∀ s', M s' → U E s') (h : ∀ N : S γ → Prop, (∀ s', M s' → N s') → t { E with nx := N } s) : qSeq t U E s := h _ hU
end
theorem bl_ne {x y : Bool} (hc : (!D.eqv (.bl x) (.bl y)) = true) (h : x = y) : False := by
  subst h; cases x <;> cases hc
end Pm
set_option Elab.async false
set_option linter.all false
set_option maxRecDepth 100000
set_option maxHeartbeats 1000000
set_option autoImplicit false
namespace Pm
open PySem PySem.Spec
open PyProof.Rows hiding St
open L2

structure FnG (P : Program) (w : World) (K : PySem.W.Frag) (mg : Str → Option Value) (base : Heap) (k : Nat) (f : Addr) (fd : FuncData) (ps : List Str) (sp : Sp) : Prop where
  len : ∀ vs H Q E, sp vs H Q E → vs.length = ps.length
  go : ∀ (A : Around), A.guards = some [] → Room k A → ∀ (outer : List Env) (s : Shared) (H : Hp) (args : Args) (us : List Value) (vs : List V) (Q : VK) (E : XK), Env0 P w K mg base A outer s H → BindsTo s fd args (ps.zip us) → Vals vs us → sp vs H Q E →
    codeAny (model P w) A (.call (.ref f) args) (CR CX0 outer P w H s Q E) s
end Pm
set_option Elab.async false
set_option linter.all false
set_option maxRecDepth 100000
set_option maxHeartbeats 1000000
set_option autoImplicit false
namespace Pm
open PySem PySem.Spec
open PyProof.Rows hiding St
open L2
mutual
def D.wid : D → Nat
  | .non => 8
  | .bl _ => 8
  | .int _ => 2000
  | .str x => 10 * x.length + 8
  | .lst xs => D.wids xs + 8
  | .tup xs => D.wids xs + 8
  | .dct _ _ => 8
  | .obj _ => 8
def D.wids : List D → Nat
  | [] => 0
  | d :: ds => d.wid + 8 + D.wids ds
end
theorem D.wid_pos (d : D) : 8 ≤ d.wid := by cases d <;> simp only [D.wid] <;> omega
theorem D.wids_len : ∀ ds : List D, 16 * ds.length ≤ D.wids ds
  | [] => Nat.zero_le _
  | d :: ds => by
    have h := D.wids_len ds
    have := d.wid_pos
    simp only [D.wids, List.length_cons]; omega
theorem D.wids_mem : ∀ {ds : List D} {d : D}, d ∈ ds → d.wid ≤ D.wids ds
  | e :: ds, d, h => by
    rcases List.mem_cons.mp h with rfl | h
    · simp only [D.wids]; omega
    · have := D.wids_mem h
      simp only [D.wids]; omega
theorem D.plns_mem : ∀ {ds : List D} {d : D}, D.plns ds = true → d ∈ ds → d.pln = true
  | e :: ds, d, k, h => by
    simp only [D.plns, Bool.and_eq_true] at k
    rcases List.mem_cons.mp h with rfl | h
    · exact k.1
    · exact D.plns_mem k.2 h
theorem D.deps_mem : ∀ {ds : List D} {d : D}, d ∈ ds → d.dep ≤ D.deps ds
  | e :: ds, d, h => by
    rcases List.mem_cons.mp h with rfl | h
    · simp only [D.deps]; omega
    · have := D.deps_mem h
      simp only [D.deps]; omega
mutual
theorem eqv_refl : ∀ d : D, d.pln = true → D.eqv d d = true
  | .non, _ => rfl
  | .bl b, _ => by simp [D.eqv]
  | .int i, _ => by simp [D.eqv]
  | .str x, _ => by simp [D.eqv]
  | .lst xs, h => by
    simp only [D.eqv]
    exact eqvs_refl xs (by simpa [D.pln] using h)
  | .tup xs, h => by
    simp only [D.eqv]
    exact eqvs_refl xs (by simpa [D.pln] using h)
  | .dct _ _, h => by simp [D.pln] at h
  | .obj _, h => by simp [D.pln] at h
theorem eqvs_refl : ∀ ds : List D, D.plns ds = true → D.eqvs ds ds = true
  | [], _ => rfl
  | d :: ds, h => by
    simp only [D.plns, Bool.and_eq_true] at h
    simp only [D.eqvs, eqv_refl d h.1, eqvs_refl ds h.2, Bool.and_self]
end
theorem pln_obj {d : D} (h : d.pln = true) : ∀ p, d ≠ .obj p := fun p e => by subst e; simp [D.pln] at h
theorem isTy_tup (d : D) : isTy "tuple" d = match d with | .tup _ => true | _ => false := by cases d <;> rfl
theorem isTy_bl (d : D) : isTy "bool" d = match d with | .bl _ => true | _ => false := by cases d <;> rfl
theorem zip_self {xs : List D} {i : Nat} {d : D} (h : (zipD xs xs)[i]? = some d) : ∃ x, xs[i]? = some x ∧ x ∈ xs ∧ d = .tup [x, x] := by
  obtain ⟨x, y, h1, h2, rfl⟩ := zipD_get h
  rw [h1] at h2; cases h2
  exact ⟨x, h1, List.mem_of_getElem? h1, rfl⟩
theorem all_trues (n : Nat) : ((List.replicate n true).all id) = true := by simp
theorem bls_trues (n : Nat) : asBls (List.replicate n (D.bl true)) = some (List.replicate n true) := by
  rw [← List.map_replicate]; exact asBls_map _
theorem eq_no {d : D} (p : d.pln = true) (hc : D.eqv d d = false) : False := by rw [eqv_refl d p] at hc; cases hc
theorem wipeL_get (ρ : List (Option L)) : ∀ (vs : List Nat) (i : Nat), (wipeL ρ vs)[i]? = if i ∈ vs ∧ i < ρ.length then some none else ρ[i]?
  | [], i => by simp [wipeL]
  | v :: vs, i => by
    unfold wipeL
    have ih := wipeL_get ρ vs i
    have ln := wipeL_length ρ vs
    rw [List.getElem?_set, ih, ln]
    by_cases h : v = i
    · subst h
      by_cases h2 : v < ρ.length
      · simp [h2]
      · simp [h2]
    · have : i ≠ v := fun e => h e.symm
      simp [h, this]
mutual
theorem put_out : ∀ {t : Tg} {d : D} {ρ ρ' : List (Option L)}, t.put d ρ = some ρ' → ρ'.length = ρ.length ∧ ∀ i, i ∉ t.js → ρ'[i]? = ρ[i]?
  | .nm j, d, ρ, ρ', h => by
    simp only [Tg.put, Option.some.injEq] at h
    subst h
    exact ⟨by simp, fun i hi => List.getElem?_set_ne (by simpa [Tg.js, eq_comm] using hi)⟩
  | .tp ts, d, ρ, ρ', h => by
    cases d with
    | tup ds =>
      simp only [Tg.put] at h
      exact puts_out h
    | lst ds =>
      simp only [Tg.put] at h
      exact puts_out h
    | _ => simp [Tg.put] at h
theorem puts_out : ∀ {ts : List Tg} {ds : List D} {ρ ρ' : List (Option L)}, Tg.puts ts ds ρ = some ρ' → ρ'.length = ρ.length ∧ ∀ i, i ∉ Tg.jss ts → ρ'[i]? = ρ[i]?
  | [], [], ρ, ρ', h => by
    simp only [Tg.puts, Option.some.injEq] at h
    subst h
    exact ⟨rfl, fun _ _ => rfl⟩
  | [], _ :: _, _, _, h => by simp [Tg.puts] at h
  | _ :: _, [], _, _, h => by simp [Tg.puts] at h
  | t :: ts, d :: ds, ρ, ρ', h => by
    simp only [Tg.puts] at h
    cases hp : t.put d ρ with
    | none => rw [hp] at h; simp at h
    | some ρ1 =>
      rw [hp] at h
      simp only [Option.bind_some] at h
      obtain ⟨a1, a2⟩ := put_out hp
      obtain ⟨b1, b2⟩ := puts_out h
      refine ⟨b1.trans a1, fun i hi => ?_⟩
      simp only [Tg.jss, List.mem_append, not_or] at hi
      rw [b2 i hi.2, a2 i hi.1]
end
theorem put_wipe {t : Tg} {d : D} {ρ ρ' : List (Option L)} {vs : List Nat} (h : t.put d (wipeL ρ vs) = some ρ') (hj : ∀ j ∈ t.js, j ∈ vs) : wipeL ρ' vs = wipeL ρ vs := by
  obtain ⟨a1, a2⟩ := put_out h
  rw [wipeL_length] at a1
  refine List.ext_getElem? fun i => ?_
  rw [wipeL_get, wipeL_get, a1]
  by_cases hi : i ∈ vs
  · by_cases hl : i < ρ.length
    · simp [hi, hl]
    · simp only [hl, and_false, if_false]
      rw [List.getElem?_eq_none (by omega), List.getElem?_eq_none (by omega)]
  · simp only [hi, false_and, if_false]
    rw [a2 i fun e => hi (hj i e), wipeL_get]
    simp [hi]
theorem listText_len (ts : List Str) : (listText ts).length ≤ piled ts + 2 := by
  cases ts with
  | nil => show 2 ≤ _; omega
  | cons t r =>
    have e1 := textFrom_length_pos r 1 (("[" : Str) ++ (if (0 : Nat) > 0 then ", " else "" : String) ++ t) (Nat.succ_pos 0)
    have e2 : ((("[" : Str) ++ (if (0 : Nat) > 0 then ", " else "" : String) ++ t)).length = 1 + t.length := by rw [strLen_append, strLen_append]; rfl
    have e3 : (listText (t :: r)).length = (textFrom 1 (("[" : Str) ++ (if (0 : Nat) > 0 then ", " else "" : String) ++ t) r).length + 1 := by
      show (textFrom 0 "[" (t :: r) ++ "]").length = _
      rw [strLen_append]; rfl
    rw [e3, e1, e2, piled_cons]; omega
theorem tupleText_len (ts : List Str) : (tupleText ts).length ≤ piled ts + 3 := by
  have e0 : (Str.join ", " ts).length ≤ piled ts := by
    by_cases h : ts = []
    · subst h; exact Nat.le_refl _
    · have := join_length_add ts h; omega
  have e1 : ((("(" : String) : Str)).length = 1 := rfl
  have e2 : (((if ts.length == 1 then ",)" else ")" : String) : Str)).length ≤ 2 := by split <;> decide
  unfold tupleText
  rw [strLen_append, strLen_append, e1]; omega
mutual
theorem shown_wid : ∀ d : D, d.pln = true → d.py.showable = true → d.py.shown.length ≤ d.wid
  | .non, _, _ => by show (4 : Nat) ≤ 8; decide
  | .bl b, _, _ => by cases b <;> (show (_ : Nat) ≤ 8; decide)
  | .int i, _, h => by
    have h' : i.natAbs.log2 < 1920 := of_decide_eq_true h
    have := int_text_length_le (k := 1920) (by decide) h'
    show (Str.ofString (toString i)).length ≤ 2000
    rw [PySem.ofString_length]; omega
  | .str x, h, _ => by
    have h' : PyData.strOk x = true := h
    show (reprText x).length ≤ 10 * x.length + 8
    have := StrLaws.reprText_len x fun c hc => by
      unfold PyData.strOk at h'
      have := Array.all_eq_true_iff_forall_mem.mp h' c (by simpa using hc)
      have := of_decide_eq_true this
      omega
    omega
  | .lst xs, h, k => by
    show (listText (PyData.shownAll (D.pys xs))).length ≤ D.wids xs + 8
    have h1 := listText_len (PyData.shownAll (D.pys xs))
    have h2 := showns_wid xs (by simpa [D.pln] using h) k
    omega
  | .tup xs, h, k => by
    show (tupleText (PyData.shownAll (D.pys xs))).length ≤ D.wids xs + 8
    have h1 := tupleText_len (PyData.shownAll (D.pys xs))
    have h2 := showns_wid xs (by simpa [D.pln] using h) k
    omega
  | .dct _ _, h, _ => by simp [D.pln] at h
  | .obj _, h, _ => by simp [D.pln] at h
theorem showns_wid : ∀ ds : List D, D.plns ds = true → PyData.showableAll (D.pys ds) = true → piled (PyData.shownAll (D.pys ds)) ≤ D.wids ds
  | [], _, _ => Nat.le_refl _
  | d :: ds, h, k => by
    simp only [D.plns, Bool.and_eq_true] at h
    have k' : (d.py.showable && PyData.showableAll (D.pys ds)) = true := k
    rw [Bool.and_eq_true] at k'
    have h1 := shown_wid d h.1 k'.1
    have h2 := showns_wid ds h.2 k'.2
    show piled (d.py.shown :: PyData.shownAll (D.pys ds)) ≤ d.wid + 8 + D.wids ds
    rw [piled_cons]; omega
end
theorem line_big : (10000000 : Nat) ≤ sizeLine := by rw [sizeLine_eq]; decide
theorem frD_show {x : Rat} {b : Nat} (h : SzR b x) (hb : b ≤ 1920 := by decide) (h0 : 0 < b := by decide) : (frD x).py.showable = true := by
  show (decide (x.num.natAbs.log2 < 1920) && (decide ((x.den : Int).natAbs.log2 < 1920) && true)) = true
  have h1 := (h.1.le hb).log (by decide)
  have h2 := (h.2.le hb).log (by decide)
  rw [decide_eq_true h1, decide_eq_true h2]; rfl
end Pm
set_option Elab.async false
set_option linter.all false
set_option maxRecDepth 100000
set_option maxHeartbeats 1000000
set_option autoImplicit false
namespace Pm
open PySem PySem.Spec
open PyProof.Rows hiding St
open L2
def itD (q : Int × Int) : D := .tup [.int q.1, .int q.2]
structure Pan where
  its : List (Int × Int)
  rus : List (Int × Int)
end Pm
set_option Elab.async false
set_option linter.all false
set_option maxRecDepth 100000
set_option maxHeartbeats 1000000
set_option autoImplicit false
namespace Pm
open PySem PySem.Spec
open PyProof.Rows hiding St
open L2
def natD (i : Nat) : D := .int i
end Pm
set_option Elab.async false
set_option linter.all false
set_option maxRecDepth 100000
set_option maxHeartbeats 1000000
set_option autoImplicit false
namespace Pm
def sm (f : Nat → Rat) : List Nat → Rat
  | [] => 0
  | i :: l => f i + sm f l
theorem sm_congr {f g : Nat → Rat} : ∀ {l : List Nat}, (∀ i ∈ l, f i = g i) → sm f l = sm g l
  | [], _ => rfl
  | i :: l, h => by simp only [sm, h i (by simp), sm_congr (l := l) fun j hj => h j (by simp [hj])]
theorem sm_split (f : Nat → Rat) (p : Nat → Bool) : ∀ l : List Nat, sm f (l.filter p) + sm f (l.filter fun i => !p i) = sm f l
  | [] => by simp only [List.filter_nil, sm]; grind
  | i :: l => by
    have := sm_split f p l
    cases h : p i <;> simp only [List.filter_cons, h, sm, Bool.not_true, Bool.not_false, if_true, if_false, Bool.false_eq_true] <;> grind
theorem sm_add (f g : Nat → Rat) : ∀ l : List Nat, sm (fun i => f i + g i) l = sm f l + sm g l
  | [] => by simp only [sm]; grind
  | i :: l => by simp only [sm, sm_add f g l]; grind
theorem sm_sub (f g : Nat → Rat) : ∀ l : List Nat, sm (fun i => f i - g i) l = sm f l - sm g l
  | [] => by simp only [sm]; grind
  | i :: l => by simp only [sm, sm_sub f g l]; grind
section
variable {E : Nat → Nat → Prop} {l : List Nat} {m w r s : Nat → Rat}
def UpS (E : Nat → Nat → Prop) (U : Nat → Bool) : Prop := ∀ a b, E a b → U a = true → U b = true
def RUp (r : Nat → Rat) (U : Nat → Bool) : Prop := ∀ i j, r i ≤ r j → U i = true → U j = true
end
end Pm
set_option Elab.async false
set_option linter.all false
set_option maxRecDepth 100000
set_option maxHeartbeats 1000000
set_option autoImplicit false
namespace Pm
open PySem PySem.Spec
open PyProof.Rows hiding St
open L2
variable {γ : Type}
def noOwn (ρ : List (Option L)) (vs : List Nat) : Bool := vs.all fun v => match ρ[v]? with
  | some (some (.own _)) => false
  | some (some (.dic _)) => false
  | _ => true
theorem back_wipe {s : S γ} {vs : List Nat} (h : noOwn s.ρ vs = true) : s.back vs (s.wipe vs) = s := by
  obtain ⟨ρ, g⟩ := s
  have e : (S.back (⟨ρ, g⟩ : S γ) vs (S.wipe (⟨ρ, g⟩ : S γ) vs)).ρ = ρ := by
    refine List.ext_getElem? fun i => ?_
    simp only [S.back, S.wipe, List.getElem?_mapIdx]
    rw [wipeL_get]
    by_cases hi : i ∈ vs
    · have h1 := List.all_eq_true.mp h i hi
      by_cases hl : i < ρ.length
      · rw [if_pos ⟨hi, hl⟩]
        simp only [Option.map_some, if_pos hi]
        rw [List.getElem?_eq_getElem hl] at h1 ⊢
        unfold keepVal
        cases q : ρ[i] with
        | none => simp [q]
        | some l => cases l with
          | val d => simp [q]
          | own ds => rw [q] at h1; simp at h1
          | dic ds => rw [q] at h1; simp at h1
      · rw [if_neg (fun z => hl z.2), List.getElem?_eq_none (by omega)]; rfl
    · rw [if_neg fun z => hi z.1]
      cases q : ρ[i]? with
      | none => rfl
      | some o => simp [hi]
  show (⟨_, _⟩ : S γ) = _
  exact congrArg (fun z => (⟨z, g⟩ : S γ)) e
theorem back_wipeG {s : S γ} {vs : List Nat} {g : γ} (h : noOwn s.ρ vs = true) : s.back vs ⟨wipeL s.ρ vs, g⟩ = ⟨s.ρ, g⟩ := by
  have e := congrArg S.ρ (back_wipe h)
  show (⟨_, g⟩ : S γ) = _
  exact congrArg (fun z => (⟨z, g⟩ : S γ)) e
theorem lc_runG {tg : Tg} {vs : List Nat} {tt : PTx γ} {te : PEx γ} {R : List D → S γ → Prop} {ds : List D} {s1 : S γ} (J : Nat → List D → γ → Prop) (h0 : J 0 [] s1.g)
    (step : ∀ i d acc g, ds[i]? = some d → J i acc g → ∃ ρ', tg.put d (wipeL s1.ρ vs) = some ρ' ∧ ((∀ g' : γ, Wk ((⟨ρ', g'⟩ : S γ).wipe vs) ⟨wipeL s1.ρ vs, g'⟩) →
      tt ⟨ρ', g⟩ fun b s3 => Br b (te s3 fun y s4 => acc.length + 1 ≤ sizeLine ∧ ∃ s5, Wk (s4.wipe vs) s5 ∧ ∃ g', s5 = ⟨wipeL s1.ρ vs, g'⟩ ∧ J (i + 1) (acc ++ [y]) g') (∃ s5, Wk (s3.wipe vs) s5 ∧ ∃ g', s5 = ⟨wipeL s1.ρ vs, g'⟩ ∧ J (i + 1) acc g')))
    (fin : ∀ acc g, J ds.length acc g → R acc ⟨s1.ρ, g⟩) (hj : ∀ j ∈ tg.js, j ∈ vs := by decide) (ho : noOwn s1.ρ vs = true := by rfl) : lcB tg vs tt te R ds s1 := by
  refine ⟨fun i acc s => ∃ g', s = ⟨wipeL s1.ρ vs, g'⟩ ∧ J i acc g', ⟨_, Wk.refl _, s1.g, rfl, h0⟩, ?_, ?_⟩
  · rintro i d acc s hd ⟨g, rfl, hJ⟩
    obtain ⟨ρ', h1, h2⟩ := step i d acc g hd hJ
    unfold qPut
    show match tg.put d (wipeL s1.ρ vs) with | some ρ' => _ | none => False
    rw [h1]
    refine h2 fun g' => ?_
    show Wk (⟨wipeL ρ' vs, g'⟩ : S γ) _
    rw [put_wipe h1 hj]
    exact Wk.refl _
  · rintro acc s ⟨g, rfl, hJ⟩
    rw [back_wipeG ho]
    exact fin acc g hJ
theorem lc_list {α : Type} {tg : Tg} {vs : List Nat} {tt : PTx γ} {te : PEx γ} {R : List D → S γ → Prop} {s1 : S γ} (l : List α) (e : α → D) (P : α → Bool) (g : α → D) (hn : l.length ≤ 1000000)
    (step : ∀ a ∈ l, ∃ ρ', tg.put (e a) (wipeL s1.ρ vs) = some ρ' ∧ (∀ T : Bool → S γ → Prop, T (P a) ⟨ρ', s1.g⟩ → tt ⟨ρ', s1.g⟩ T) ∧ (P a = true → ∀ T : D → S γ → Prop, T (g a) ⟨ρ', s1.g⟩ → te ⟨ρ', s1.g⟩ T))
    (fin : R ((l.filter P).map g) s1) (hj : ∀ j ∈ tg.js, j ∈ vs) (ho : noOwn s1.ρ vs = true) : lcB tg vs tt te R (l.map e) s1 := by
  have line := sizeLine_eq
  refine lc_runG (fun i acc g' => g' = s1.g ∧ acc = ((l.take i).filter P).map g) ⟨rfl, by simp⟩ ?_ ?_ hj ho
  · rintro i d acc g' hd ⟨rfl, rfl⟩
    rw [List.getElem?_map] at hd
    obtain ⟨a, ha, rfl⟩ := Option.map_eq_some_iff.mp hd
    obtain ⟨ρ', h1, h2, h3⟩ := step a (List.mem_of_getElem? ha)
    refine ⟨ρ', h1, fun W => h2 _ ⟨fun hb => h3 hb _ ⟨?_, _, W _, _, rfl, rfl, ?_⟩, fun hb => ⟨_, W _, _, rfl, rfl, ?_⟩⟩⟩
    · have h1 := List.length_filter_le P (l.take i)
      have h2 := List.length_take_le i l
      have h3 : (l.take i).length ≤ l.length := by rw [List.length_take]; omega
      rw [List.length_map]; omega
    · rw [List.take_add_one, ha, List.filter_append, List.map_append]
      simp [hb]
    · rw [List.take_add_one, ha, List.filter_append, List.map_append]
      simp [hb]
  · rintro acc g' ⟨rfl, rfl⟩
    rw [List.length_map, List.take_of_length_le (Nat.le_refl _)]
    exact fin
theorem lc_mapl {α : Type} {tg : Tg} {vs : List Nat} {te : PEx γ} {R : List D → S γ → Prop} {s1 : S γ} (l : List α) (e : α → D) (g : α → D) (hn : l.length ≤ 1000000)
    (step : ∀ a ∈ l, ∃ ρ', tg.put (e a) (wipeL s1.ρ vs) = some ρ' ∧ (∀ T : D → S γ → Prop, T (g a) ⟨ρ', s1.g⟩ → te ⟨ρ', s1.g⟩ T))
    (fin : R (l.map g) s1) (hj : ∀ j ∈ tg.js, j ∈ vs) (ho : noOwn s1.ρ vs = true) : lcB tg vs qYes te R (l.map e) s1 := by
  refine lc_list l e (fun _ => true) g hn (fun a ha => ?_) ?_ hj ho
  · obtain ⟨ρ', h1, h2⟩ := step a ha
    exact ⟨ρ', h1, fun T h => h, fun _ => h2⟩
  · rw [List.filter_eq_self.mpr fun _ _ => rfl]; exact fin
theorem put_nm {i : Nat} {d : D} {s : S γ} {R : S γ → Prop} (h : R ⟨s.ρ.set i (some (.val d)), s.g⟩) : qPut (.nm i) d s R := h
theorem put_tg {tg : Tg} {d : D} {s : S γ} {R : S γ → Prop} {ρ' : List (Option L)} (e : tg.put d s.ρ = some ρ') (h : R ⟨ρ', s.g⟩) : qPut tg d s R := by
  unfold qPut; rw [e]; exact h
end Pm
set_option Elab.async false
set_option linter.all false
set_option maxRecDepth 100000
set_option maxHeartbeats 1000000
set_option autoImplicit false
namespace Pm
open PySem PySem.Spec
open PyProof.Rows hiding St
open L2
theorem enumGo_map {α : Type} (f : α → D) : ∀ (xs : List α) (k : Nat), enumGo k (xs.map f) = (xs.zipIdx k).map fun p => .tup [.int (p.2 : Nat), f p.1]
  | [], _ => rfl
  | x :: xs, k => by simp only [List.map_cons, enumGo, List.zipIdx_cons, enumGo_map f xs (k + 1)]
end Pm
set_option Elab.async false
set_option linter.all false
set_option maxRecDepth 100000
set_option maxHeartbeats 1000000
set_option autoImplicit false
namespace Pm
open PySem PySem.Spec
open PyProof.Rows hiding St
open L2
def GlD (K : PySem.W.Frag) (mg : Str → Option Value) (x : Str) (d : D) : Prop := ∃ u v, mg x = some u ∧ RelV v u ∧ ∀ Z, At K Z d v
theorem gl_str {K : PySem.W.Frag} {mg : Str → Option Value} {h : Heap} (X : K.In h) (G : h.Ns mainGlobals mg) {x z : Str} (c : (He.Fa.str x z).ok K = true) : GlD K mg x (.str z) := by
  obtain ⟨t, e⟩ := He.str_ok X G c
  exact ⟨_, .str z, e, ⟨t, rfl⟩, fun Z => rfl⟩
theorem qe_gl {γ : Type} {X : Cx} {G : GP γ} {x : Str} {d : D} {pos : Pos} (hg : Gl X x) (h : GlD G.K X.mg x d) (hd : (x == ("__debug__" : Str)) = false := by decide) : QE X G (.Name x pos) (qC d) := by
  obtain ⟨u, v, e, r, k⟩ := h
  exact qe_glob hg e r k hd
end Pm
set_option Elab.async false
set_option linter.all false
set_option maxRecDepth 100000
set_option maxHeartbeats 1000000
set_option autoImplicit false
namespace Pm
open PySem PySem.Spec
open PyProof.Rows hiding St
open L2
def isI : D → Bool
  | .int _ => true
  | _ => false
def eE (p : Pan) (a b : Nat) : Prop := ((a : Int), (b : Int)) ∈ p.rus
end Pm
set_option Elab.async false
set_option linter.all false
set_option maxRecDepth 100000
set_option maxHeartbeats 1000000
set_option autoImplicit false
namespace Pm
open PySem PySem.Spec PySem.W
open PyProof.Rows hiding St
open L2
def frB : D → D → Bool
  | .int a, .int b => decide (1 ≤ b) && decide (((Nat.gcd a.natAbs b.natAbs : Nat) : Int) = 1)
  | _, _ => false
def isFr : D → Bool
  | .tup [x, y] => frB x y
  | _ => false
end Pm
set_option Elab.async false
set_option linter.all false
set_option maxRecDepth 100000
set_option maxHeartbeats 1000000
set_option autoImplicit false
namespace Pm
open PySem PySem.Spec PySem.W
open PyProof.Rows hiding St
open L2
theorem sm_ind {a : Nat} {d : Rat} : ∀ {l : List Nat}, l.Nodup → sm (fun x => if x = a then d else 0) l = if a ∈ l then d else 0
  | [], _ => by simp [sm]
  | b :: l, h => by
    rw [List.nodup_cons] at h
    simp only [sm]
    rw [sm_ind h.2]
    by_cases e : b = a
    · subst e
      simp [h.1]; grind
    · simp [e, fun z => e (Eq.symm z)]
      by_cases m : a ∈ l
      · simp [m]; grind
      · simp [m, fun z : a = b => e z.symm]; grind
structure Flow (n : Nat) (rus : List (Int × Int)) (L : Nat → Rat) (F : Nat → Int) : Prop where
  up : ∀ U, UpS (eE ⟨[], rus⟩) U → sm (fun x => (F x : Rat)) ((List.range n).filter U) ≤ 0
  lv : ∀ U, RUp L U → sm (fun x => (F x : Rat)) ((List.range n).filter U) = 0
theorem Flow.add {n : Nat} {rus : List (Int × Int)} {L : Nat → Rat} {F : Nat → Int} (h : Flow n rus L F) {a b : Nat} {d : Int} (d0 : 0 ≤ d) (hr : ((a : Int), (b : Int)) ∈ rus) (hab : a ≠ b) (ha : a < n) (hb : b < n) (hd : d = 0 ∨ L a = L b) : Flow n rus L fun x => if x = b then F x - d else if x = a then F x + d else F x := by
  have e : ∀ U : Nat → Bool, sm (fun x => ((if x = b then F x - d else if x = a then F x + d else F x : Int) : Rat)) ((List.range n).filter U) = sm (fun x => (F x : Rat)) ((List.range n).filter U) + (if U a = true then (d : Rat) else 0) - (if U b = true then (d : Rat) else 0) := fun U => by
    have i1 := sm_ind (a := a) (d := (d : Rat)) (l := (List.range n).filter U) (List.nodup_range.filter _)
    have i2 := sm_ind (a := b) (d := (d : Rat)) (l := (List.range n).filter U) (List.nodup_range.filter _)
    have m1 : (a ∈ (List.range n).filter U) = (U a = true) := by rw [List.mem_filter, List.mem_range]; simp [ha]
    have m2 : (b ∈ (List.range n).filter U) = (U b = true) := by rw [List.mem_filter, List.mem_range]; simp [hb]
    simp only [m1] at i1
    simp only [m2] at i2
    rw [← i1, ← i2, ← sm_add, ← sm_sub]
    refine sm_congr fun x _ => ?_
    by_cases xb : x = b
    · have xa : x ≠ a := fun z => hab (z.symm.trans xb)
      simp only [xb, if_true, if_neg (fun z : b = a => hab z.symm), Rat.intCast_sub]; grind
    · by_cases xa : x = a
      · simp only [xa, if_neg hab, if_true, Rat.intCast_add]; grind
      · simp only [if_neg xb, if_neg xa]; grind
  have dR : (0 : Rat) ≤ (d : Rat) := Rat.intCast_nonneg.mpr d0
  refine ⟨fun U hU => ?_, fun U hU => ?_⟩
  · rw [e]
    have := h.up U hU
    have k := hU a b hr
    by_cases ua : U a = true
    · rw [if_pos ua, if_pos (k ua)]; grind
    · rw [if_neg ua]; split <;> grind
  · rw [e, h.lv U hU]
    rcases hd with hd | hd
    · have z : (d : Rat) = 0 := by rw [hd]; rfl
      rw [z]; split <;> split <;> grind
    · have k1 := hU a b (by rw [hd]; exact Rat.le_refl)
      have k2 := hU b a (by rw [hd]; exact Rat.le_refl)
      by_cases ua : U a = true
      · rw [if_pos ua, if_pos (k1 ua)]; grind
      · rw [if_neg ua, if_neg (fun z => ua (k2 z))]; grind
end Pm
set_option Elab.async false
set_option linter.all false
set_option maxRecDepth 100000
set_option maxHeartbeats 1000000
set_option autoImplicit false
namespace Pm
open PySem PySem.Spec
open L2
theorem frs_ok {rs : List Rat} {b : Nat} (h : ∀ x ∈ rs, SzR b x) (hb : b ≤ 1920) (hn : rs.length ≤ 40) : D.plns (rs.map frD) = true ∧ PyData.showableAll (D.pys (rs.map frD)) = true ∧ D.deps (rs.map frD) ≤ 1 ∧ D.wids (rs.map frD) ≤ 5000 * rs.length := by
  induction rs with
  | nil => exact ⟨rfl, rfl, Nat.zero_le _, Nat.zero_le _⟩
  | cons x rs ih =>
    obtain ⟨a, c, d, e⟩ := ih (fun y hy => h y (by simp [hy])) (by simp at hn; omega)
    have hx := h x (by simp)
    refine ⟨?_, ?_, ?_, ?_⟩
    · simp only [List.map_cons, D.plns, a]; rfl
    · show ((frD x).py.showable && PyData.showableAll (D.pys (rs.map frD))) = true
      have s : (frD x).py.showable = true := frD_show (hx.le hb)
      rw [s, c]; rfl
    · simp only [List.map_cons, D.deps]
      have : (frD x).dep = 1 := by simp [frD, D.dep, D.deps]
      omega
    · simp only [List.map_cons, D.wids, List.length_cons]
      have : (frD x).wid = 4024 := by simp [frD, D.wid, D.wids]
      omega
end Pm
set_option Elab.async false
set_option linter.all false
set_option maxRecDepth 100000
set_option maxHeartbeats 1000000
set_option autoImplicit false
namespace Pm
open PySem PySem.Spec
open PyProof.Rows hiding St
open L2
mutual
def D.plz : D → Bool
  | .non => true
  | .bl _ => true
  | .int _ => true
  | .str x => PyData.strOk x
  | .lst xs => D.plzs xs
  | .tup xs => D.plzs xs
  | .dct ks xs => ks.isEmpty && xs.isEmpty
  | .obj _ => false
def D.plzs : List D → Bool
  | [] => true
  | d :: ds => d.plz && D.plzs ds
end
mutual
theorem plz_pln : ∀ d : D, d.pln = true → d.plz = true
  | .non, _ => rfl
  | .bl _, _ => rfl
  | .int _, _ => rfl
  | .str _, h => h
  | .lst xs, h => plzs_plns xs h
  | .tup xs, h => plzs_plns xs h
  | .dct _ _, h => by cases h
  | .obj _, h => by cases h
theorem plzs_plns : ∀ ds : List D, D.plns ds = true → D.plzs ds = true
  | [], _ => rfl
  | d :: ds, h => by
    simp only [D.plns, Bool.and_eq_true] at h
    simp only [D.plzs, Bool.and_eq_true]
    exact ⟨plz_pln d h.1, plzs_plns ds h.2⟩
end
mutual
theorem dep_pyZ : ∀ (d : D), d.plz = true → d.py.depth ≤ d.dep
  | .lst xs, h => by
    have := deps_pyZ xs h
    simp only [D.py, PyData.depth, D.dep]; omega
  | .tup xs, h => by
    have := deps_pyZ xs h
    simp only [D.py, PyData.depth, D.dep]; omega
  | .non, h => by simp [D.py, PyData.depth, D.dep]
  | .bl _, h => by simp [D.py, PyData.depth, D.dep]
  | .int _, h => by simp [D.py, PyData.depth, D.dep]
  | .str _, h => by simp [D.py, PyData.depth, D.dep]
  | .dct ks xs, h => by
    simp only [D.plz, Bool.and_eq_true, List.isEmpty_iff] at h
    obtain ⟨rfl, rfl⟩ := h
    simp [D.py, PyData.depth, D.dep, D.pys, D.deps, PyData.depthKv]
  | .obj _, h => by cases h
theorem deps_pyZ : ∀ (ds : List D), D.plzs ds = true → PyData.depthAll (D.pys ds) ≤ D.deps ds
  | [], _ => by simp [D.pys, PyData.depthAll, D.deps]
  | d :: ds, h => by
    simp only [D.plzs, Bool.and_eq_true] at h
    have h1 := dep_pyZ d h.1
    have h2 := deps_pyZ ds h.2
    simp only [D.pys, PyData.depthAll, D.deps]; omega
end
mutual
theorem shown_widZ : ∀ d : D, d.plz = true → d.py.showable = true → d.py.shown.length ≤ d.wid
  | .non, _, _ => by show (4 : Nat) ≤ 8; decide
  | .bl b, _, _ => by cases b <;> (show (_ : Nat) ≤ 8; decide)
  | .int i, h, k => shown_wid (.int i) rfl k
  | .str x, h, k => shown_wid (.str x) h k
  | .lst xs, h, k => by
    show (listText (PyData.shownAll (D.pys xs))).length ≤ D.wids xs + 8
    have h1 := listText_len (PyData.shownAll (D.pys xs))
    have h2 := showns_widZ xs h k
    omega
  | .tup xs, h, k => by
    show (tupleText (PyData.shownAll (D.pys xs))).length ≤ D.wids xs + 8
    have h1 := tupleText_len (PyData.shownAll (D.pys xs))
    have h2 := showns_widZ xs h k
    omega
  | .dct ks xs, h, _ => by
    simp only [D.plz, Bool.and_eq_true, List.isEmpty_iff] at h
    obtain ⟨rfl, rfl⟩ := h
    show (2 : Nat) ≤ 8
    decide
  | .obj _, h, _ => by cases h
theorem showns_widZ : ∀ ds : List D, D.plzs ds = true → PyData.showableAll (D.pys ds) = true → piled (PyData.shownAll (D.pys ds)) ≤ D.wids ds
  | [], _, _ => Nat.le_refl _
  | d :: ds, h, k => by
    simp only [D.plzs, Bool.and_eq_true] at h
    have k' : (d.py.showable && PyData.showableAll (D.pys ds)) = true := k
    rw [Bool.and_eq_true] at k'
    have h1 := shown_widZ d h.1 k'.1
    have h2 := showns_widZ ds h.2 k'.2
    show piled (d.py.shown :: PyData.shownAll (D.pys ds)) ≤ d.wid + 8 + D.wids ds
    rw [piled_cons]; omega
end
section
variable {X : Cx} {pins : List (Addr × Obj)} {σ : St} {Z H : Hp} {s : Shared}
theorem sys_ne {K : PySem.W.Frag} {h : Heap} (k : sysB K = true) (i : K.In h) {a : Addr} {o : Obj} {xs : Array Value} {n : Nat} (e : h.get? a = some o) (d : o.data = .seq xs n) : sysModules ≠ a := fun q => by
  unfold sysB at k
  cases z : K.lookup sysModules with
  | none => rw [z] at k; cases k
  | some u =>
    have e2 := i _ _ z
    rw [q, e] at e2
    cases e2
    rw [z] at k
    simp only [d] at k
    cases k
mutual
theorem At.readsZ (k0 : sysB X.K = true) (I : Inv X pins σ H s) (k : Same Z H) : ∀ (d : D) (v : V) (u : Value), At X.K Z d v → d.plz = true → RelV v u → ∃ as, Reads s.heap u d.py as ∧ sysModules ∉ as
  | .non, _, _, h, _, r => by
    simp only [At] at h; subst h; cases r
    exact ⟨_, Reads.none, by simp⟩
  | .bl b, _, _, h, _, r => by
    simp only [At] at h; subst h; cases r
    exact ⟨_, Reads.bool b, by simp⟩
  | .int i, _, _, h, _, r => by
    simp only [At] at h; subst h
    obtain ⟨t, rfl⟩ := r
    exact ⟨_, Reads.int i t, by simp⟩
  | .str x, _, _, h, _, r => by
    simp only [At] at h; subst h
    obtain ⟨t, rfl⟩ := r
    exact ⟨_, Reads.str x t, by simp⟩
  | .lst xs, v, u, h, p, r => by
    simp only [At] at h
    obtain ⟨a, vs, rfl, h2, h3⟩ := h
    cases r
    obtain ⟨its, rv, ⟨o, n, ho, hc, _, hd⟩, _⟩ := I.list (.inl (.inl (k _ _ h2)) : SqL X.K H a vs)
    obtain ⟨as, hr, hn⟩ := Ats.readsZ k0 I k xs vs its h3 p rv
    refine ⟨_, Reads.list ho hc hd hr, ?_⟩
    rw [List.mem_cons, not_or]
    exact ⟨sys_ne k0 I.kIn ho hd, hn⟩
  | .tup xs, v, u, h, p, r => by
    simp only [At] at h
    obtain ⟨a, vs, rfl, h2, h3⟩ := h
    cases r
    obtain ⟨its, rv, ⟨o, ho, hc, n, hd⟩, _⟩ := I.tuple (seqT k h2)
    obtain ⟨as, hr, hn⟩ := Ats.readsZ k0 I k xs vs its h3 p rv
    exact ⟨_, Reads.tuple ho hc hd hr, hn⟩
  | .dct ks xs, v, u, h, p, r => by
    simp only [D.plz, Bool.and_eq_true, List.isEmpty_iff] at p
    obtain ⟨rfl, rfl⟩ := p
    simp only [At] at h
    obtain ⟨a, kvs, rfl, h2, h3, _⟩ := h
    cases r
    have : kvs = [] := List.map_eq_nil_iff.mp h3
    subst this
    obtain ⟨_, hm, vs, rel, o, es, ep, ho, hx, hd, _, hp, _⟩ := dk_of I.hok (k _ _ h2)
    cases rel
    have he : es.toList = [] := by cases h : es.toList with
      | nil => rfl
      | cons _ _ => rw [h] at hp; cases hp
    refine ⟨_, Reads.dict (kvs := []) ho hx.1 hd (by rw [he]; exact ReadsAll.nil) (by rw [he]; exact ReadsAll.nil), ?_⟩
    simp only [List.append_nil, List.mem_cons, List.not_mem_nil, or_false]
    exact fun e => by rw [← e] at hm; simp at hm
  | .obj _, _, _, _, p, _ => by cases p
theorem Ats.readsZ (k0 : sysB X.K = true) (I : Inv X pins σ H s) (k : Same Z H) : ∀ (ds : List D) (vs : List V) (us : List Value), Ats X.K Z ds vs → D.plzs ds = true → Vals vs us → ∃ as, ReadsAll s.heap us (D.pys ds) as ∧ sysModules ∉ as
  | [], vs, us, h, _, r => by
    simp only [Ats] at h; subst h
    cases r
    exact ⟨_, ReadsAll.nil, by simp⟩
  | d :: ds, vs, us, h, p, r => by
    simp only [Ats] at h
    obtain ⟨w, ws, rfl, h2, h3⟩ := h
    simp only [D.plzs, Bool.and_eq_true] at p
    cases r with
    | cons r1 r2 =>
      obtain ⟨as, q1, n1⟩ := At.readsZ k0 I k d w _ h2 p.1 r1
      obtain ⟨bs, q2, n2⟩ := Ats.readsZ k0 I k ds ws _ h3 p.2 r2
      exact ⟨_, ReadsAll.cons q1 q2, by rw [List.mem_append, not_or]; exact ⟨n1, n2⟩⟩
end
end
def ShZ (d : D) : Prop := d.plz = true ∧ d.py.showable = true ∧ d.dep ≤ 60 ∧ d.wid ≤ 10000000
def rprZ : D → DK → Prop := fun d R => ShZ d ∧ R (.str d.py.shown)
theorem c_reprZ {X : Cx} {k : Nat} (k0 : sysB X.K = true) (hr : Room k X.A) (hg : X.A.guards = some []) : CallR X (.builtin "repr") (dCall X.K (fn1 rprZ)) := c1 fun pins s σ H Z d v us Q R I r q a w hq => by
  obtain ⟨⟨p1, p2, p3, p4⟩, w3⟩ := w
  obtain ⟨u, rfl, ru⟩ : ∃ u, us = [u] ∧ RelV v u := by
    cases r with
    | cons r1 r2 => cases r2; exact ⟨_, rfl, r1⟩
  have sz : d.py.shown.length ≤ sizeLine := Nat.le_trans (shown_widZ d p1 p2) (Nat.le_trans p4 line_big)
  have fin : ∀ tk t, ∃ v' H', Inv X pins σ H' { s with toks := tk } ∧ RelV v' (Value.str d.py.shown t) ∧ Q v' H' := fun tk t =>
    ⟨.str _, H, I.kept (h' := s.heap) (t' := tk) (fun _ _ e => e), ⟨t, rfl⟩, dk hq q w3 rfl⟩
  have big : ∀ b, u = .ref b → wpAny (model X.prog X.w) X.A (call (.builtin "repr") [u]) (fun r s' => ∃ v' H', Inv X pins σ H' s' ∧ RelV v' r ∧ Q v' H') X.xe s := fun b e => by
    subst e
    obtain ⟨as, rd, hn⟩ := At.readsZ k0 I q d v _ a p1 ru
    have un := hr.un
    have dp := dep_pyZ d p1
    refine repr_of_reads' rd p2 (fun _ => hn) hg (by omega) (fun _ _ z => z) (fun h' u tk kp => ?_) sz
    exact ⟨.str _, H, I.kept (t' := tk) kp, ⟨u, rfl⟩, dk hq q w3 rfl⟩
  cases d with
  | non => simp only [At] at a; subst a; cases ru; exact P.repr_of_none (fin _ _)
  | bl b => simp only [At] at a; subst a; cases ru; exact P.repr_of_bool (fin _ _)
  | int i =>
    simp only [At] at a; subst a
    obtain ⟨t, rfl⟩ := ru
    exact P.repr_of_int (of_decide_eq_true p2) (fin _ _)
  | str x =>
    simp only [At] at a; subst a
    obtain ⟨t, rfl⟩ := ru
    exact P.repr_of_str (fin _ _) sz
  | lst xs => simp only [At] at a; obtain ⟨b, vs, rfl, _⟩ := a; cases ru; exact big b rfl
  | tup xs => simp only [At] at a; obtain ⟨b, vs, rfl, _⟩ := a; cases ru; exact big b rfl
  | dct ks xs => simp only [At] at a; obtain ⟨b, vs, rfl, _⟩ := a; cases ru; exact big b rfl
  | obj _ => cases p1
section
variable {γ : Type} {X : Cx} {G : GP γ} {pos : Pos}
theorem qe_dict0 : QE X G (.Dict [] [] pos) (qC (.dct [] []) : PEx γ) := by
  refine PE.imp pe_dnewK fun σ H Q ⟨F, Z, s, R, r, t, q⟩ p hp => ?_
  have hz := (r.fresh hp).1
  have k := same_upd (o := HO.dK []) hz
  exact q _ s (upd Z p (.dK [])) _ _ t k (r.new hp) ⟨p, [], rfl, upd_same, rfl, rfl⟩
end
end Pm
set_option Elab.async false
set_option linter.all false
set_option maxRecDepth 100000
set_option maxHeartbeats 1000000
set_option autoImplicit false
namespace Pm
open PySem PySem.Spec
open PyProof.Rows hiding St
open L2
def oddL : List D := [.non, .bl true, .bl false, .int 0, .int (-1), .int 1, .int 2, .int (10 ^ 29), .str "", .str "a", .str "up", .tup [], .lst [], .dct [] [], .tup [.int 0], .lst [.int 0], .tup [.tup []], .tup [.int 1, .int 2], .tup [.int 0, .int 1], .tup [.int 2, .int 4]]
mutual
def D.fit (b : Nat) : D → Prop
  | .int i => Sz b i
  | .lst xs => D.fits b xs
  | .tup xs => D.fits b xs
  | _ => True
def D.fits (b : Nat) : List D → Prop
  | [] => True
  | d :: ds => d.fit b ∧ D.fits b ds
end
mutual
theorem fit_show {b : Nat} (hb : b ≤ 1920) (h0 : 0 < b) : ∀ d : D, d.fit b → d.plz = true → d.py.showable = true
  | .int i, h, _ => decide_eq_true (((show Sz b i from h).le hb).log (by decide))
  | .lst xs, h, p => fits_show hb h0 xs h p
  | .tup xs, h, p => fits_show hb h0 xs h p
  | .non, _, _ => rfl
  | .bl _, _, _ => rfl
  | .str _, _, _ => rfl
  | .dct ks xs, _, p => by
    simp only [D.plz, Bool.and_eq_true, List.isEmpty_iff] at p
    obtain ⟨rfl, rfl⟩ := p
    rfl
  | .obj _, _, p => by cases p
theorem fits_show {b : Nat} (hb : b ≤ 1920) (h0 : 0 < b) : ∀ ds : List D, D.fits b ds → D.plzs ds = true → PyData.showableAll (D.pys ds) = true
  | [], _, _ => rfl
  | d :: ds, h, p => by
    simp only [D.plzs, Bool.and_eq_true] at p
    show (d.py.showable && PyData.showableAll (D.pys ds)) = true
    rw [fit_show hb h0 d h.1 p.1, fits_show hb h0 ds h.2 p.2]; rfl
end
structure VOk (b w k : Nat) (d : D) : Prop where
  z : d.plz = true
  f : d.fit b
  w : d.wid ≤ w
  k : d.dep ≤ k
theorem VOk.sh {b w k : Nat} {d : D} (h : VOk b w k d) (hb : b ≤ 1920 := by decide) (h0 : 0 < b := by decide) (hw : w ≤ 10000000 := by decide) (hk : k ≤ 60 := by decide) : ShZ d := ⟨h.z, fit_show hb h0 d h.f h.z, Nat.le_trans h.k hk, Nat.le_trans h.w hw⟩
theorem odd_ok {d : D} (h : d ∈ oddL) : VOk 100 4024 2 d := by
  have h : d ∈ oddL := h
  have all : ∀ d ∈ oddL, d.plz = true ∧ d.wid ≤ 4024 ∧ d.dep ≤ 2 := by
    have e : oddL.all (fun d => d.plz && decide (d.wid ≤ 4024) && decide (d.dep ≤ 2)) = true := by decide +kernel
    intro d hd
    have := List.all_eq_true.mp e d hd
    simpa [Bool.and_eq_true, and_assoc] using this
  obtain ⟨h1, h2, h3⟩ := all d h
  refine ⟨h1, ?_, h2, h3⟩
  unfold oddL at h
  simp only [List.mem_cons, List.not_mem_nil, or_false] at h
  rcases h with rfl | rfl | rfl | rfl | rfl | rfl | rfl | rfl | rfl | rfl | rfl | rfl | rfl | rfl | rfl | rfl | rfl | rfl | rfl | rfl
  all_goals first | exact trivial | (show Sz 100 _; unfold Sz; decide) | (refine ⟨?_, trivial⟩; show Sz 100 _; unfold Sz; decide) | (refine ⟨?_, ?_, trivial⟩ <;> (show Sz 100 _; unfold Sz; decide)) | exact ⟨trivial, trivial⟩
def frOk (v : D) : Prop := (∀ p, v ≠ .obj p) ∧ ∀ xs, v = .tup xs → (∀ x ∈ xs, ∀ p, x ≠ .obj p) ∧ ∀ i, .int i ∈ xs → Sz 9000 i
def neLD : D → D → DK → Prop
  | .lst xs, .lst [], R => R (.bl (!xs.isEmpty))
  | _, _, _ => False
theorem o_neL {X : Cx} {k : Nat} (hr : Room k X.A) : OpR X (compareOp .NotEq) (dOp2 X.K neLD) := by
  intro pins s σ H x y v u Q I rx ry ⟨Z, d, e, R, k, ad, ae, h, q⟩
  cases d <;> try exact h.elim
  cases e <;> try exact h.elim
  rename_i xs ys
  cases ys with
  | cons _ _ => exact h.elim
  | nil =>
    simp only [At, Ats] at ad ae
    obtain ⟨a, vs, rfl, h2, h3⟩ := ad
    obtain ⟨b, ws, rfl, g2, rfl⟩ := ae
    cases rx
    cases ry
    obtain ⟨its, rv, it1, _⟩ := I.list (.inl (.inl (k _ _ h2)) : SqL X.K H a vs)
    obtain ⟨its2, rv2, it2, _⟩ := I.list (.inl (.inl (k _ _ g2)) : SqL X.K H b [])
    cases rv2
    have ln : its.length = xs.length := by rw [← rv.length, h3.len]
    have un := hr.un
    have fin : (∃ v' H', Inv X pins σ H' s ∧ RelV v' (Value.bool (!xs.isEmpty)) ∧ Q v' H') := ⟨.bl _, H, I, rfl, dk q k h rfl⟩
    cases xs with
    | nil =>
      have : its = [] := List.eq_nil_of_length_eq_zero ln
      subst this
      exact SeqAt.RcNeAt.lists (A := X.A) (e := fun _ => true) it1.isList it2.isList rfl (by omega) (fun j h1 h2 => by simp at h2) X.prog X.w X.xe _ fin
    | cons x xs =>
      exact SeqAt.RcNeAt.lists_lengths (A := X.A) it1.isList it2.isList (by simp [ln]) (by omega) X.prog X.w X.xe _ fin
end Pm
set_option Elab.async false
set_option linter.all false
set_option maxRecDepth 100000
set_option maxHeartbeats 1000000
set_option autoImplicit false
namespace Pm
open PySem PySem.Spec
open PyProof.Rows hiding St
open L2
theorem enum_get {xs : List D} {i : Nat} {d : D} (h : (enumD xs)[i]? = some d) : ∃ x, xs[i]? = some x ∧ d = .tup [.int (i : Int), x] := by
  obtain ⟨x, hx, e⟩ := enumGo_get h
  exact ⟨x, hx, by rw [e, Nat.zero_add]⟩
end Pm
set_option Elab.async false
set_option linter.all false
set_option maxRecDepth 100000
set_option maxHeartbeats 1000000
set_option autoImplicit false
namespace Pm
open PySem PySem.Spec
open PyProof.Rows hiding St
open L2
theorem lc_var {γ : Type} {i : Nat} {l : D} {ds : List D} {tg : Tg} {vs : List Nat} {tt : PTx γ} {te : PEx γ} {s : S γ} {R : List D → S γ → Prop} (h1 : s.ρ[i]? = some (some (.val l))) (h2 : itemsD l = some ds) (h : lcB tg vs tt te R ds s) : qLc (qItems (qVar i)) tg vs tt te s R := by
  unfold qLc qItems qVar
  rw [h1]
  show (match itemsD l with | some ds => lcB tg vs tt te R ds s | none => False)
  rw [h2]; exact h
end Pm
set_option Elab.async false
set_option linter.all false
set_option maxRecDepth 100000
set_option maxHeartbeats 1000000
set_option autoImplicit false
namespace Pm
open PySem PySem.Spec
open PyProof.Rows hiding St
open L2
theorem frs_plns (rs : List Rat) : D.plns (rs.map frD) = true ∧ D.deps (rs.map frD) ≤ 1 := by
  induction rs with
  | nil => exact ⟨rfl, Nat.zero_le _⟩
  | cons x rs ih =>
    refine ⟨by simp only [List.map_cons, D.plns, ih.1, frD_pln]; rfl, ?_⟩
    show max (frD x).dep _ ≤ 1
    exact Nat.max_le.mpr ⟨by show max 0 (max 0 0) + 1 ≤ 1; decide, ih.2⟩
end Pm
set_option Elab.async false
set_option linter.all false
set_option maxRecDepth 100000
set_option maxHeartbeats 1000000
set_option autoImplicit false
namespace Pm
open PySem PySem.Spec
open PyProof.Rows hiding St
open L2
structure Xc where
  c : Str
  f : Option (Str × D) := none
def XcAt (K : PySem.W.Frag) (mg : Str → Option Value) (Z : Hp) (x : Xc) (cls : Value) (d : Option Addr) : Prop :=
  mg x.c = some cls ∧ match x.f with
  | none => d = none
  | some (n, v) => ∃ a w, d = some a ∧ Z a = some (.xd [(n, w)]) ∧ At K Z v w
variable {γ : Type}
abbrev XW (γ : Type) := Xc → S γ → Prop
abbrev PSXx (γ : Type) := XW γ → PSx γ
abbrev PEXx (γ : Type) := XW γ → PEx γ
def lSX (G : GP γ) (mg : Str → Option Value) (W : WX) (t : PSXx γ) : TS := fun De σ H => ∃ F Z s E w, Rel G F Z s σ H ∧ t w E s ∧
  (∀ s' Z' σ' H', E.nx s' → Same Z Z' → Rel G F Z' s' σ' H' → De.nx σ' H') ∧
  (∀ d s' Z' σ' v H', E.rt d s'.g → Same Z Z' → Rel G F Z' s' σ' H' → At G.K Z' d v → De.rt v H') ∧
  (∀ s' Z' σ' H', E.bk s' → Same Z Z' → Rel G F Z' s' σ' H' → De.bk σ' H') ∧
  (∀ s' Z' σ' H', E.ct s' → Same Z Z' → Rel G F Z' s' σ' H' → De.ct σ' H') ∧
  (∀ x s' Z' σ' cls d H', w x s' → Same Z Z' → Rel G F Z' s' σ' H' → XcAt G.K mg Z' x cls d → W cls d σ' H')
def lEX (G : GP γ) (mg : Str → Option Value) (W : WX) (t : PEXx γ) : TE := fun σ H Q => ∃ F Z s R w, Rel G F Z s σ H ∧ t w s R ∧
  (∀ d s' Z' v H', R d s' → Same Z Z' → Rel G F Z' s' σ H' → At G.K Z' d v → Q v H') ∧
  (∀ x s' Z' cls d H', w x s' → Same Z Z' → Rel G F Z' s' σ H' → XcAt G.K mg Z' x cls d → W cls d σ H')
abbrev QSX (X : Cx) (G : GP γ) (W : WX) (st : Stmt) (t : PSXx γ) : Prop := PS X st (lSX G X.mg W t)
abbrev QSXs (X : Cx) (G : GP γ) (W : WX) (st : List Stmt) (t : PSXx γ) : Prop := PSs X st (lSX G X.mg W t)
abbrev QEX (X : Cx) (G : GP γ) (W : WX) (e : Expr) (t : PEXx γ) : Prop := PE X e (lEX G X.mg W t)
section
variable {X : Cx} {G : GP γ} {W : WX} {pos : Pos} {e : Expr}
def xs0 (t : PSx γ) : PSXx γ := fun _ => t
theorem qsx_of {st : Stmt} {t : PSx γ} (h : QS X G st t) : QSX X G W st (xs0 t) :=
  PS.imp h fun De σ H ⟨F, Z, s, E, w, r, t, n, rt, bk, ct, _⟩ => ⟨F, Z, s, E, r, t, n, rt, bk, ct⟩
theorem qssx_of {st : List Stmt} {t : PSx γ} (h : QSs X G st t) : QSXs X G W st (xs0 t) :=
  PSs.imp h fun De σ H ⟨F, Z, s, E, w, r, t, n, rt, bk, ct, _⟩ => ⟨F, Z, s, E, r, t, n, rt, bk, ct⟩
def xSeq (t u : PSXx γ) : PSXx γ := fun w => qSeq (t w) (u w)
theorem qssx_cons {st : Stmt} {rest : List Stmt} {t u : PSXx γ} (h1 : QSX X G W st t) (h2 : QSXs X G W rest u) : QSXs X G W (st :: rest) (xSeq t u) := by
  refine PSs.imp (pss_cons h1 h2) fun De σ H ⟨F, Z, s, E, w, r, t, n, rt, bk, ct, ex⟩ => ?_
  refine ⟨F, Z, s, _, w, r, t, fun s' Z' σ' H' u' k r' => ?_, rt, bk, ct, ex⟩
  exact ⟨F, Z', s', E, w, r', u', fun s2 Z2 σ2 H2 q k2 r2 => n s2 Z2 σ2 H2 q (k.trans k2) r2, fun d s2 Z2 σ2 v H2 q k2 r2 a2 => rt d s2 Z2 σ2 v H2 q (k.trans k2) r2 a2,
    fun s2 Z2 σ2 H2 q k2 r2 => bk s2 Z2 σ2 H2 q (k.trans k2) r2, fun s2 Z2 σ2 H2 q k2 r2 => ct s2 Z2 σ2 H2 q (k.trans k2) r2, fun x s2 Z2 σ2 c d H2 q k2 r2 a2 => ex x s2 Z2 σ2 c d H2 q (k.trans k2) r2 a2⟩
theorem qssx_one {st : Stmt} {t : PSXx γ} (h1 : QSX X G W st t) : QSXs X G W [st] t := pss_one h1
def xIf (c : PTx γ) (t u : PSXx γ) : PSXx γ := fun w => qIf c (t w) (u w)
theorem qsx_if {c : Expr} {a b : List Stmt} {tc : PTx γ} {t u : PSXx γ} (hc : QT X G c tc) (ha : QSXs X G W a t) (hb : QSXs X G W b u) : QSX X G W (.If c a b pos) (xIf tc t u) := by
  refine PS.imp (ps_if hc ha hb) fun De σ H ⟨F, Z, s, E, w, r, t, n, rt, bk, ct, ex⟩ => ?_
  refine ⟨F, Z, s, _, r, t, fun k s1 Z1 H1 t1 k1 r1 => ?_⟩
  have go : ∀ {t : PSXx γ}, t w E s1 → lSX G X.mg W t De σ H1 := fun {t} q => ⟨F, Z1, s1, E, w, r1, q, fun s2 Z2 σ2 H2 q k2 r2 => n s2 Z2 σ2 H2 q (k1.trans k2) r2, fun d s2 Z2 σ2 v H2 q k2 r2 a2 => rt d s2 Z2 σ2 v H2 q (k1.trans k2) r2 a2,
    fun s2 Z2 σ2 H2 q k2 r2 => bk s2 Z2 σ2 H2 q (k1.trans k2) r2, fun s2 Z2 σ2 H2 q k2 r2 => ct s2 Z2 σ2 H2 q (k1.trans k2) r2, fun x s2 Z2 σ2 c d H2 q k2 r2 a2 => ex x s2 Z2 σ2 c d H2 q (k1.trans k2) r2 a2⟩
  cases k with
  | true => exact iteT (go (t1.1 rfl))
  | false => exact iteF (go (t1.2 rfl))
structure Exq (K : PySem.W.Frag) (mg : Str → Option Value) (x : Str) : Prop where
  ex : ∃ C, mg x = some (.ref C) ∧ excAt K x = some C ∧ PySem.W.subIn K (.ref C) (.type "BaseException") = some true ∧ PySem.W.typeIn K (.ref C) = some (.type "type") ∧ ExcC K C
structure Exc0 (K : PySem.W.Frag) (mg : Str → Option Value) (x : Str) : Prop where
  ex : ∃ C, mg x = some (.ref C) ∧ excAt K x = some C ∧ PySem.W.excIn K C bVal "ValueError.__new__" = true ∧ PySem.W.keepIn K (.ref C) = true
structure Sub (K : PySem.W.Frag) (mg : Str → Option Value) (x y : Str) (b : Bool) : Prop where
  ex : ∃ C c, mg x = some (.ref C) ∧ clsV K y = some c ∧ ((∃ C', c = .ref C' ∧ mg y = some c) ∨ (∃ T, c = .type T ∧ mg y = none ∧ bootBuiltins y = some c)) ∧ PySem.W.kitOne K (.ref C) c = some b ∧ PySem.W.exmOne K (.ref C) c = some b
theorem excAt_mg {K : PySem.W.Frag} {mg : Str → Option Value} {h : Heap} (X : K.In h) (G : h.Ns mainGlobals mg) {x : Str} {C : Addr} (e : excAt K x = some C) : mg x = some (.ref C) := by
  unfold excAt at e
  split at e
  · rename_i C' e'
    cases e
    exact PySem.W.mg_of X G e'
  · cases e
theorem exq_ok {K : PySem.W.Frag} {mg : Str → Option Value} {h : Heap} (X : K.In h) (G : h.Ns mainGlobals mg) {x : Str} (c : excQB K x = true) : Exq K mg x := by
  unfold excQB at c
  cases e : excAt K x with
  | none => rw [e] at c; cases c
  | some C =>
    rw [e] at c
    simp only [Bool.and_eq_true, beq_iff_eq] at c
    obtain ⟨⟨⟨⟨⟨⟨⟨⟨c1, c2⟩, c3⟩, c4⟩, c5⟩, c6⟩, c7⟩, c8⟩, c9⟩ := c
    exact ⟨C, excAt_mg X G e, e, c1, c2, ⟨c3, c4, c1, c5, c6, c7, c8, c9⟩⟩
theorem exc0_ok {K : PySem.W.Frag} {mg : Str → Option Value} {h : Heap} (X : K.In h) (G : h.Ns mainGlobals mg) {x : Str} (c : exc0B K x = true) : Exc0 K mg x := by
  unfold exc0B at c
  cases e : excAt K x with
  | none => rw [e] at c; cases c
  | some C =>
    rw [e] at c
    simp only [Bool.and_eq_true] at c
    exact ⟨C, excAt_mg X G e, e, c.1, c.2⟩
theorem sub_ok {K : PySem.W.Frag} {mg : Str → Option Value} {h : Heap} (X : K.In h) (G : h.Ns mainGlobals mg) {x y : Str} {b : Bool} (c : subB K x y b = true) : Sub K mg x y b := by
  unfold subB at c
  cases e : excAt K x with
  | none => rw [e] at c; cases c
  | some C =>
    cases e2 : clsV K y with
    | none => rw [e, e2] at c; cases c
    | some v =>
      rw [e, e2] at c
      simp only [Bool.and_eq_true, beq_iff_eq] at c
      refine ⟨C, v, excAt_mg X G e, e2, ?_, c.1, c.2⟩
      unfold clsV at e2
      split at e2
      · rename_i C' e'
        cases e2
        exact .inl ⟨_, rfl, PySem.W.mg_of X G e'⟩
      · rename_i e'
        split at e2
        · rename_i T e3
          cases e2
          exact .inr ⟨_, rfl, PySem.W.mg_none_of X G e', e3⟩
        · cases e2
      · cases e2

abbrev SpecX := List D → DK → (Xc → Prop) → Prop
def spPX (K : PySem.W.Frag) (mg : Str → Option Value) (f : SpecX) : Sp := fun vs H Q E => ∃ Z ds R W, Same Z H ∧ Ats K Z ds vs ∧ f ds R W ∧
  (∀ d Z' v H', R d → Same Z Z' → Same Z' H' → Same H H' → (∀ a o, Z' a = some o → Z a = none → H a = none) → At K Z' d v → Q v H') ∧
  ∀ x Z' cls d H', W x → Same Z Z' → Same Z' H' → Same H H' → (∀ a o, Z' a = some o → Z a = none → H a = none) → XcAt K mg Z' x cls d → E cls d H'
structure DefX (X : Cx) (x : Str) (n : Nat) (sp : Sp) : Prop where
  ex : ∃ f fd k ps, FnOk X.prog X.w X.K X.mg X.base (L2.CX X.prog X.w) k f fd ps sp ∧ Room k X.A ∧ X.mg x = some (.ref f) ∧ PySem.W.keepIn X.K (.ref f) = true ∧ Binds X.K fd ps [] ∧ ps.length = n
def GloX (P : Program) (w : World) (K : PySem.W.Frag) (mg : Str → Option Value) (base : Heap) (x : Str) (n : Nat) (sp : Sp) (k : Nat) : Prop :=
  ∃ f fd ps, FnOk P w K mg base (L2.CX P w) k f fd ps sp ∧ mg x = some (.ref f) ∧ PySem.W.keepIn K (.ref f) = true ∧ Binds K fd ps [] ∧ ps.length = n
theorem GloX.at {X : Cx} {x : Str} {n : Nat} {sp : Sp} {j k : Nat} (g : GloX X.prog X.w X.K X.mg X.base x n sp j) (hr : Room k X.A) (h : j ≤ k := by decide) : DefX X x n sp := by
  obtain ⟨f, fd, ps, F, m, kp, b, e⟩ := g
  exact ⟨f, fd, j, ps, F, hr.mono h, m, kp, b, e⟩
def qCallX (f : SpecX) (t : PAx γ) : PEXx γ := fun w s R => t s fun xs s1 => f xs (fun z => R z s1) (fun x => w x s1)
theorem qex_call {x : Str} {n : Nat} {f : SpecX} {es : List Expr} {t : PAx γ} {p : Pos} (d : DefX X x n (spPX G.K X.mg f)) (tk : Takes X W) (hg : Gl X x) (ha : QA X G (e :: es) t) (hdb : (x == ("__debug__" : Str)) = false := by decide) (he : starEach (e :: es) X.env = (false, eval e X.env) :: starEach es X.env := by rfl) (hpl : (backTo pos (starEach es X.env)).any (·.1) = false := by rfl) :
    QEX X G W (.Call (.Name x p) (e :: es) [] pos) (qCallX f t) := by
  obtain ⟨fa, fd, k, ps, F, hr, hm, hk, hb, _⟩ := d.ex
  refine PE.imp (L2.pe_callS F hr hg hm hk hb (fun σ => passAt tk σ) ha hdb he hpl) fun σ H Q ⟨F, Z, s, R, w, r, t, q, ex⟩ => ?_
  refine ⟨F, Z, s, _, r, t, fun xs s1 Z1 vs H1 t1 k1 r1 a1 => ?_⟩
  refine ⟨Z1, xs, _, _, r1.z, a1, t1, fun z Z3 v H3 t3 k3 z3 h3 n3 a3 => ?_, fun x Z3 cls d H3 t3 k3 z3 h3 n3 a3 => ?_⟩
  · exact q z s1 Z3 v H3 t3 (k1.trans k3) (r1.ext ⟨h3, k3, z3, n3⟩) a3
  · exact ex x s1 Z3 cls d H3 t3 (k1.trans k3) (r1.ext ⟨h3, k3, z3, n3⟩) a3
def xAsg (t : PEXx γ) (i : Nat) : PSXx γ := fun w E s => t w s fun d s1 => E.nx ⟨s1.ρ.set i (some (.val d)), s1.g⟩
theorem qsx_set {t : PEXx γ} {i : Nat} {x : Str} {pos' : Pos} (hN : X.N.Nodup) (hi : X.N[i]? = some x) (hx : Loc X.env.scope x) (he : QEX X G W e t) (hs : swapsWith e (some (.Name x pos')) pos.line X.env = pure false := by rfl) (hf : X.fn x = true ∨ X.env.scope.names.lookup x = some .local := by first | exact .inl rfl | exact .inr rfl | assumption) :
    QSX X G W (.Assign [.Name x pos'] e pos) (xAsg t i) := by
  refine PS.imp (ps_set hN hi hx he hs hf) fun De σ H ⟨F, Z, s, E, w, r, t, n, _, _, _, ex⟩ => ?_
  exact ⟨F, Z, s, _, w, r, t, fun d s1 Z1 v H1 t1 k1 r1 a1 => n _ Z1 _ H1 t1 k1 (r1.put a1), fun x s1 Z1 cls d H1 t1 k1 r1 a1 => ex x s1 Z1 σ cls d H1 t1 k1 r1 a1⟩
end
section
variable {P : Program} {w : World} {K : PySem.W.Frag} {mg : Str → Option Value} {base : Heap}
theorem okPX {x qual : Str} {st : Stmt} {f : Addr} {fd : FuncData} {N ps : List Str} {k : Nat} (F : Fn K x qual st f fd) (S : FnScope N ps (defScope st)) {fs : SpecX} (len : ∀ ds R W, fs ds R W → ds.length = ps.length)
    (body : ∃ t : PSXx Unit, (∀ (cdv : Value) (A : Around) (outer : List Env) (s : Shared) (H : Hp) (E : XK), Room k (A.deeper (envOfC qual (defScope st) s.heap.objs.size f cdv)) →
      QSXs (cxOf (L2.CX P w) P w K mg base N qual (defScope st) f cdv A outer s H E) (none0 K) (fun cls d _ H => E cls d H) (defBody st) t) ∧ ∀ ds R W, fs ds R W → t (fun x _ => W x) { nx := fun _ => R .non, rt := fun d _ => R d } ⟨startL N.length ds, ()⟩) : FnOk P w K mg base (L2.CX P w) (k + 1) f fd ps (spPX K mg fs) := by
  refine FunD.ok F S (fun vs H Q E h => ?_) (fun cdv A outer s H vs Q E hr h => ?_)
  · obtain ⟨Z, ds, R, W, _, a, h, _⟩ := h
    rw [a.len]; exact len _ _ _ h
  · obtain ⟨t, hb, hp⟩ := body
    refine ⟨_, hb cdv A outer s H E hr, ?_⟩
    obtain ⟨Z, ds, R, W, k, a, h, q, ex⟩ := h
    have hl : ps.length ≤ N.length := by have := congrArg List.length S.pre; rw [List.length_take] at this; omega
    have hd := len _ _ _ h
    have nw : ∀ {Z' : Hp} {s' : Pm.S Unit} {σ' : St} {H' : Hp}, Rel (none0 K) ⟨H, fun b => H b ≠ none ∧ Z b = none, fun b hb => Option.ne_none_iff_exists'.mp hb.1⟩ Z' s' σ' H' → ∀ b o, Z' b = some o → Z b = none → H b = none := fun r' b o e n => by
      cases hb : H b with
      | none => rfl
      | some u => have := r'.zb b ⟨by rw [hb]; simp, n⟩; rw [e] at this; cases this
    refine ⟨⟨H, fun b => H b ≠ none ∧ Z b = none, fun b hb => Option.ne_none_iff_exists'.mp hb.1⟩, Z, _, _, _, ?_, hp ds R W h, ?_, ?_, ?_, ?_, ?_⟩
    · refine ⟨k, Same.refl _, fun b hb => hb.2, ?_, fun i d e => ?_, fun i l e ol => ?_, fun i j l m b n e1 o1 e2 => ?_, trivial, fun b z => False.elim z, fun b z => False.elim z, fun _ _ z => by cases z⟩
      · unfold L2.start startL
        simp only [List.length_append, List.length_map, List.length_replicate, a.len]
      · obtain ⟨d', e', v, h1, h2⟩ := start_at a e
        cases e'
        exact ⟨v, h1, h2⟩
      · obtain ⟨d', e', _⟩ := start_at a e
        subst e'; cases ol
      · obtain ⟨d', e', _⟩ := start_at a e1
        subst e'; cases o1
    · intro s' Z' σ' H' q' k' r'
      exact q .non Z' .non H' q' k' r'.z r'.f (nw r') rfl
    · intro d s' Z' σ' v H' q' k' r' a'
      exact q d Z' v H' q' k' r'.z r'.f (nw r') a'
    · intro s' Z' σ' H' q'; exact q'.elim
    · intro s' Z' σ' H' q'; exact q'.elim
    · intro x s' Z' σ' cls d H' q' k' r' a'
      exact ex x Z' cls d H' q' k' r'.z r'.f (nw r') a'
end
section
variable {X : Cx} {G : GP γ} {pos : Pos}
def GP.lo (G : GP γ) (Z : Hp) : GP γ := { G with fl := Z }
theorem Rel.lo {G : GP γ} {F : Fra} {Z : Hp} {s : S γ} {σ : St} {H : Hp} (r : Rel G F Z s σ H) : Rel (G.lo Z) F Z s σ H := ⟨r.z, r.f, r.zb, r.len, r.loc, r.ownL, r.injL, r.j, r.zf, r.ff, Same.refl _⟩
theorem Rel.hi {G : GP γ} {Z0 : Hp} (h0 : ∀ a, G.fl a = none) {F : Fra} {Z : Hp} {s : S γ} {σ : St} {H : Hp} (r : Rel (G.lo Z0) F Z s σ H) : Rel G F Z s σ H := ⟨r.z, r.f, r.zb, r.len, r.loc, r.ownL, r.injL, r.j, r.zf, r.ff, fun a o e => by rw [h0 a] at e; cases e⟩
abbrev clr (i : Nat) (s : S γ) : S γ := ⟨s.ρ.set i none, s.g⟩
theorem Rel.clr {G : GP γ} {F : Fra} {Z : Hp} {s : S γ} {σ : St} {H : Hp} (r : Rel G F Z s σ H) (i : Nat) : Rel G F Z (Pm.clr i s) (σ.set i none) H := by
  have get : ∀ {j : Nat} {l : L}, (s.ρ.set i none)[j]? = some (some l) → i ≠ j ∧ s.ρ[j]? = some (some l) := fun {j l} h => by
    by_cases e : i = j
    · subst e
      have hl : i < s.ρ.length := by
        have := (List.getElem?_eq_some_iff.mp h).1
        simpa using this
      rw [List.getElem?_set_self hl] at h; cases h
    · rw [List.getElem?_set_ne e] at h; exact ⟨e, h⟩
  refine ⟨r.z, r.f, r.zb, by simpa using r.len, fun j d h => ?_, fun j l h ol => ?_, fun j k l m a n h1 ol h2 om h3 h4 => ?_, r.j, r.zf, r.ff, r.fl⟩
  · obtain ⟨e, h⟩ := get h
    rw [List.getElem?_set_ne e]; exact r.loc j d h
  · obtain ⟨e, h⟩ := get h
    rw [List.getElem?_set_ne e]; exact r.ownL j l h ol
  · obtain ⟨e1, h1⟩ := get h1
    obtain ⟨e2, h2⟩ := get h2
    rw [List.getElem?_set_ne e1] at h3
    rw [List.getElem?_set_ne e2] at h4
    exact r.injL j k l m a n h1 ol h2 om h3 h4
structure Held (X : Cx) (K : PySem.W.Frag) (Z0 : Hp) (x : Xc) (a : Addr) (oe : Obj) (cls : Value) (d : Option Addr) : Prop where
  at_ : XcAt K X.mg Z0 x cls d
  z : Zc cls d oe
  f : ∃ vs, oe.data = .fields vs
def qTryAs (f : Str → Str → Option Bool) (y : Str) (i : Nat) (tb : PSXx γ) (ts : Xc → Addr → PSx γ) : PSx γ := fun E s =>
  tb (fun x s1 => f x.c y = some true ∧ ∀ a, ts x a { nx := fun s2 => E.nx (clr i s2), rt := E.rt, bk := fun s2 => E.bk (clr i s2), ct := fun s2 => E.ct (clr i s2) } ⟨s1.ρ.set i (some (.val (.obj a))), s1.g⟩) E s
theorem qs_tryAs {f : Str → Str → Option Bool} {y n : Str} {i : Nat} {body suite : List Stmt} {b₀ : Stmt} {np pos' : Pos} {tb : PSXx γ} {ts : Xc → Addr → PSx γ} (hs : X.stack = X.env :: X.outer) (hf : X.env.frame = some X.env.locals) (hN : X.N.Nodup) (hi : X.N[i]? = some n) (hln : X.env.kindOf n = some .local)
    (hfl : ∀ a, G.fl a = none) (hg : Gl X y) (tab : ∀ x y b, f x y = some b → Sub X.K X.mg x y b) (hy : ∃ x, f x y = some true)
    (hb : ∀ (W : WX) (pn : List (Addr × Obj)) (xe : Value → Shared → Prop), Takes (X.tr pn xe) W → PassesOwn (model X.prog X.w) X.A X.env xe → QSXs (X.tr pn xe) G W body tb)
    (hsu : ∀ (a : Addr) (oe : Obj) (cls : Value) (d : Option Addr) (pn : List (Addr × Obj)) (Z0 : Hp) (x : Xc), Held X G.K Z0 x a oe cls d → QSs (X.suite a ((a, oe) :: pn)) (G.lo Z0) (b₀ :: suite) (ts x a))
    (hdb : (y == ("__debug__" : Str)) = false := by decide) (hnn : y ≠ "__name__" := by decide) :
    QS X G (.Try body [.ExceptHandler (some (.Name y np)) (some n) (b₀ :: suite) pos'] [] [] pos) (qTryAs f y i tb ts) := by
  obtain ⟨x0, hx0⟩ := hy
  obtain ⟨C0, c, _, hcv, hc, _⟩ := (tab x0 y true hx0).ex
  have nm : Names X y c := ⟨hg, hdb, hc.imp (fun ⟨_, _, a⟩ => a) fun ⟨_, _, a, b⟩ => ⟨a, b, hnn⟩⟩
  refine PS.imp (ps_try_as hs hf hN hi hln nm takes0 (tb := fun W => lSX G X.mg W tb) (ts := fun a cls d De σ H => ∃ x Z0, XcAt G.K X.mg Z0 x cls d ∧ lS (G.lo Z0) (ts x a) De σ H) hb fun a oe cls d pn hz hfd => ?_) fun De σ H ⟨F, Z, s, E, r, t, n, rt, bk, ct⟩ => ?_
  · refine ⟨fun pins s σ H De I ⟨x, Z0, hx, w⟩ => ?_⟩
    exact (hsu a oe cls d pn Z0 x ⟨hx, hz, hfd⟩).run pins s σ H De I w
  · refine ⟨F, Z, s, E, _, r, t, n, rt, bk, ct, fun x s' Z' σ' cls d H' ⟨hx, w⟩ k' r' a' => ?_⟩
    obtain ⟨C, c', m1, cv', _, _, ex⟩ := (tab x.c y true hx).ex
    rw [hcv] at cv'
    cases cv'
    have ec : cls = .ref C := by have := a'.1; rw [m1] at this; cases this; rfl
    subst ec
    refine ⟨true, ex, fun _ a _ => ?_, fun q => (by cases q)⟩
    refine ⟨x, Z', a', F, Z', _, _, (r'.put (i := i) (d := .obj a) (v := .ref a) rfl).lo, w a, ?_, ?_, ?_, ?_⟩
    · intro s2 Z2 σ2 H2 q k2 r2
      exact n _ Z2 _ H2 q (k'.trans k2) ((r2.hi hfl).clr i)
    · intro d2 s2 Z2 σ2 v H2 q k2 r2 a2
      have r3 := (r2.hi hfl).clr i
      exact rt d2 (Pm.clr i s2) Z2 _ v H2 q (k'.trans k2) r3 a2
    · intro s2 Z2 σ2 H2 q k2 r2
      exact bk _ Z2 _ H2 q (k'.trans k2) ((r2.hi hfl).clr i)
    · intro s2 Z2 σ2 H2 q k2 r2
      exact ct _ Z2 _ H2 q (k'.trans k2) ((r2.hi hfl).clr i)
inductive ClsA (X : Cx) : List Str → List Expr → List V → List Value → Prop
  | nil : ClsA X [] [] [] []
  | cons {y : Str} {p : Pos} {v : V} {c : Value} {ys : List Str} {es : List Expr} {vs : List V} {us : List Value} (h : PE X (.Name y p) (tC v)) (k : ClsV v c) (hc : X.mg y = some c ∨ (X.mg y = none ∧ bootBuiltins y = some c)) (hs : starEach (.Name y p :: es) X.env = (false, eval (.Name y p) X.env) :: starEach es X.env) (r : ClsA X ys es vs us) : ClsA X (y :: ys) (.Name y p :: es) (v :: vs) (c :: us)
theorem ClsA.pa {X : Cx} {ys : List Str} {es : List Expr} {vs : List V} {us : List Value} (h : ClsA X ys es vs us) : PA X es (fun σ H Q => Q vs H) := by
  induction h with
  | nil => exact PA.imp pa_nil fun _ _ _ h => h
  | cons h k hc hs r ih => exact PA.imp (pa_cons h ih hs) fun _ _ _ h => h
theorem ClsA.pair {X : Cx} {ys : List Str} {es : List Expr} {vs : List V} {us : List Value} (h : ClsA X ys es vs us) : Paired ClsV vs us := by
  induction h with
  | nil => exact .nil
  | cons h k hc hs r ih => exact .cons k ih
theorem pe_cls {y : Str} {p : Pos} {c : Value} (hg : Gl X y) (h : (∃ C', c = .ref C' ∧ X.mg y = some c) ∨ (∃ T, c = .type T ∧ X.mg y = none ∧ bootBuiltins y = some c)) (hn : y ≠ "__name__" := by decide) (hd : (y == ("__debug__" : Str)) = false := by decide) :
    ∃ v, ClsV v c ∧ PE X (.Name y p) (tC v) := by
  rcases h with ⟨C, rfl, hm⟩ | ⟨T, rfl, hm, hv⟩
  · exact ⟨.ref C, .own C, pe_glob hg hm rfl hd⟩
  · exact ⟨.ty T, .ty T, pe_bltn hg hm hv rfl hn hd⟩
def isAny (f : Str → Str → Option Bool) (c : Str) : List Str → Option Bool
  | [] => some false
  | y :: ys => match f c y with
    | some true => some true
    | some false => isAny f c ys
    | none => none
theorem isAny_kit {X : Cx} {f : Str → Str → Option Bool} (tab : ∀ x y b, f x y = some b → Sub X.K X.mg x y b) {x : Str} {C : Addr} (hC : X.mg x = some (.ref C)) {ys : List Str} {es : List Expr} {vs : List V} {us : List Value} (h : ClsA X ys es vs us) : ∀ {b : Bool}, isAny f x ys = some b → PySem.W.kitAny X.K (.ref C) us = some b := by
  induction h with
  | nil => exact fun h => h
  | @cons y p v c ys es vs us h k hc hs r ih =>
    intro b hb
    unfold isAny at hb
    cases e : f x y with
    | none => rw [e] at hb; cases hb
    | some b' =>
      obtain ⟨C', c', m1, _, m2, k1, _⟩ := (tab x y b' e).ex
      rw [hC] at m1
      cases m1
      have ec : c' = c := by
        rcases m2 with ⟨_, _, m2⟩ | ⟨_, _, m2, m3⟩ <;> rcases hc with hc | ⟨hc, hb⟩
        · rw [m2] at hc; cases hc; rfl
        · rw [m2] at hc; cases hc
        · rw [m2] at hc; cases hc
        · rw [m3] at hb; cases hb; rfl
      subst ec
      rw [e] at hb
      cases b' with
      | true => exact kitAny_cons k1 (fun q => (by cases q)) (fun _ => by simpa using hb.symm)
      | false => exact kitAny_cons k1 (fun _ => ih hb) (fun q => (by cases q))
def rXis (K : PySem.W.Frag) (C a : Addr) (d : Option Addr) : List V → Hp → VK → Prop := fun xs H Q => ∃ (v : V) (b : Bool), xs = [.ref a, v] ∧
  ((∃ u, ClsV v u ∧ PySem.W.kitOne K (.ref C) u = some b) ∨ ∃ (tp : Addr) (cs : List V) (us : List Value), v = .ref tp ∧ H tp = some (.tup cs) ∧ Paired ClsV cs us ∧ PySem.W.kitAny K (.ref C) us = some b) ∧
  (d = none ∨ ∃ dd fs, d = some dd ∧ H dd = some (.xd fs)) ∧ Q (.bl b) H
theorem call_xis {X : Cx} {C a : Addr} {d : Option Addr} {oe : Obj} {pn : List (Addr × Obj)} (E : ExcC X.K C) (hz : Zc (.ref C) d oe) (hf : ∃ vs, oe.data = .fields vs) : CallR (X.suite a ((a, oe) :: pn)) (.builtin "isinstance") (rXis X.K C a d) := by
  intro pins s σ H xs us Q I r h
  obtain ⟨v, b, rfl, hv, hd, q⟩ := h
  obtain ⟨u1, u2, rfl, r1, r2⟩ : ∃ u1 u2, us = [u1, u2] ∧ RelV (.ref a) u1 ∧ RelV v u2 := by
    cases r with
    | cons r1 r => cases r with
      | cons r2 r => cases r; exact ⟨_, _, rfl, r1, r2⟩
  obtain rfl : u1 = .ref a := r1
  obtain ⟨hget, _⟩ := I.pin (a, oe) (List.mem_append.mpr (.inl List.mem_cons_self))
  obtain ⟨vs, hfv⟩ := hf
  obtain ⟨z1, z2⟩ := hz
  have J : ∃ od, PySem.W.InstAt s.heap a oe C od := by
    have nc : PySem.W.notCls oe := by unfold PySem.W.notCls; rw [hfv] <;> rfl
    rcases hd with rfl | ⟨dd, fs, rfl, ea⟩
    · exact ⟨none, hget, z1, nc, by rw [z2]; trivial⟩
    · obtain ⟨mA, hns, _⟩ := (show ObjOk X.prog X.w H s.heap dd (.xd fs) from I.hok dd _ ea)
      obtain ⟨od, ho, _⟩ := lookIn_ns hns
      exact ⟨some od, hget, z1, nc, by rw [z2]; exact ho⟩
  obtain ⟨od, J⟩ := J
  have Kx := fun {ox} => PySem.W.kitx_exc (x := a) (ox := ox) (od := od) (by obtain ⟨cd, hc, _⟩ := PySem.W.any_some E.hd; rw [hc]; rfl) E.hg E.hk E.hs E.ha E.hn E.ht E.hm
  rcases hv with ⟨u, ku, e⟩ | ⟨tp, cs, us, rfl, ht, kp, e⟩
  · have := ku.eq r2
    subst this
    exact PySem.W.kia_one Kx I.kIn J e (fun z => nomatch z) fun tk => ⟨.bl b, H, I.kept (t' := tk) fun _ _ z => z, rfl, q⟩
  · obtain rfl : u2 = .ref tp := r2
    obtain ⟨_, its, rv, o, h1, h2, n, h3⟩ := (show ObjOk X.prog X.w H s.heap tp (.tup cs) from I.hok tp _ ht)
    have e3 := ClsV.all kp rv
    subst e3
    obtain ⟨oc, od', dt, sl⟩ := o
    simp only at h2 h3
    subst h2 h3
    exact PySem.W.kia_tup Kx I.kIn J h1 e (fun z => nomatch z) fun tk => ⟨.bl b, H, I.kept (t' := tk) fun _ _ z => z, rfl, q⟩
def qIsE (f : Str → Str → Option Bool) (xq ys : List Str) (i : Nat) (x : Xc) (a : Addr) : PEx γ := fun s R => s.ρ[i]? = some (some (.val (.obj a))) ∧ x.c ∈ xq ∧ ∃ b, isAny f x.c ys = some b ∧ R (.bl b) s
section
variable {f : Str → Str → Option Bool} {xq : List Str} {i : Nat} {Z0 : Hp} {x : Xc} {a : Addr} {oe : Obj} {cls : Value} {d : Option Addr} {pn : List (Addr × Obj)} {n : Str} {p p1 p2 : Pos}
theorem Held.dd (h : Held X G.K Z0 x a oe cls d) {F : Fra} {Z : Hp} {s : S γ} {σ : St} {H : Hp} (r : Rel (G.lo Z0) F Z s σ H) : d = none ∨ ∃ dd fs, d = some dd ∧ H dd = some (.xd fs) := by
  obtain ⟨⟨_, h1⟩, _, _⟩ := h
  cases e : x.f with
  | none => rw [e] at h1; exact .inl h1
  | some q =>
    obtain ⟨n, v⟩ := q
    rw [e] at h1
    obtain ⟨b, w, rfl, h2, _⟩ := h1
    exact .inr ⟨b, _, rfl, r.z _ _ (r.fl _ _ h2)⟩
theorem qe_isE1 {y : Str} (h : Held X G.K Z0 x a oe cls d) (hq : ∀ z ∈ xq, Exq X.K X.mg z) (tab : ∀ x y b, f x y = some b → Sub X.K X.mg x y b) (hv : PE (X.suite a ((a, oe) :: pn)) (.Name n p1) (tVar i)) (hg : Gl (X.suite a ((a, oe) :: pn)) "isinstance") (hm : X.mg "isinstance" = none) (hb : ∃ z b, f z y = some b) (hgy : Gl (X.suite a ((a, oe) :: pn)) y)
    (hn : y ≠ "__name__" := by decide) (hd : (y == ("__debug__" : Str)) = false := by decide)
    (hs : starEach [.Name n p1, .Name y p2] (X.suite a ((a, oe) :: pn)).env = (false, eval (.Name n p1) (X.suite a ((a, oe) :: pn)).env) :: starEach [.Name y p2] (X.suite a ((a, oe) :: pn)).env := by rfl) (hs2 : starEach [.Name y p2] (X.suite a ((a, oe) :: pn)).env = (false, eval (.Name y p2) (X.suite a ((a, oe) :: pn)).env) :: starEach [] (X.suite a ((a, oe) :: pn)).env := by rfl) (hpl : (backTo pos (starEach [.Name y p2] (X.suite a ((a, oe) :: pn)).env)).any (·.1) = false := by rfl) :
    QE (X.suite a ((a, oe) :: pn)) (G.lo Z0) (.Call (.Name "isinstance" p) [.Name n p1, .Name y p2] [] pos) (qIsE f xq [y] i x a) := by
  by_cases hx : x.c ∈ xq
  · obtain ⟨C, m1, _, _, _, EC⟩ := (hq _ hx).ex
    have ec : cls = .ref C := by have := h.at_.1; rw [m1] at this; cases this; rfl
    obtain ⟨z, b, hzb⟩ := hb
    obtain ⟨_, c, _, _, hc, _⟩ := (tab z y b hzb).ex
    obtain ⟨v, kv, pv⟩ := pe_cls (p := p2) hgy hc hn hd
    have A : ClsA (X.suite a ((a, oe) :: pn)) [y] [.Name y p2] [v] [c] := .cons pv kv (hc.imp (fun ⟨_, _, a⟩ => a) fun ⟨_, _, a, b⟩ => ⟨a, b⟩) hs2 .nil
    have hz := h.z
    rw [ec] at hz
    refine PE.imp (pe_callB (call_xis EC hz h.f) hg hm (by decide +kernel) (pa_cons hv (pa_cons pv pa_nil hs2) hs) (by decide) (by decide) hs hpl) fun σ H Q ⟨F, Z, s, R, r, t, q⟩ => ?_
    obtain ⟨t1, _, b', t2, t3⟩ := t
    obtain ⟨w, h1, h2⟩ := r.loc i _ t1
    have h2 : w = .ref a := h2
    subst h2
    refine ⟨_, h1, v, b', rfl, .inl ⟨c, kv, ?_⟩, h.dd r, q _ s Z _ H t3 (Same.refl _) r rfl⟩
    have := isAny_kit (X := X.suite a ((a, oe) :: pn)) (fun x y b h => tab x y b h) m1 A t2
    unfold PySem.W.kitAny at this
    cases e : PySem.W.kitOne X.K (.ref C) c with
    | none => rw [show PySem.W.kitOne (X.suite a ((a, oe) :: pn)).K (.ref C) c = none from e] at this; cases this
    | some b2 =>
      rw [show PySem.W.kitOne (X.suite a ((a, oe) :: pn)).K (.ref C) c = some b2 from e] at this
      cases b2 with
      | true => exact this
      | false => exact this
  · obtain ⟨z, b, hzb⟩ := hb
    obtain ⟨_, c, _, _, hc, _⟩ := (tab z y b hzb).ex
    exact ⟨fun pins s σ H Q I ⟨F, Z, s', R, r, t, q⟩ => absurd t.2.1 hx⟩
theorem qe_isET {ys : List Str} {es : List Expr} {j : Nat} {p3 : Pos} (h : Held X G.K Z0 x a oe cls d) (hq : ∀ z ∈ xq, Exq X.K X.mg z) (tab : ∀ x y b, f x y = some b → Sub X.K X.mg x y b) (hv : PE (X.suite a ((a, oe) :: pn)) (.Name n p1) (tVar i)) (hg : Gl (X.suite a ((a, oe) :: pn)) "isinstance") (hm : X.mg "isinstance" = none)
    (A : ∃ vs us, ClsA (X.suite a ((a, oe) :: pn)) ys es vs us) (hl : ys.length ≤ 100)
    (hs : starEach [.Name n p1, .Tuple es j p3] (X.suite a ((a, oe) :: pn)).env = (false, eval (.Name n p1) (X.suite a ((a, oe) :: pn)).env) :: starEach [.Tuple es j p3] (X.suite a ((a, oe) :: pn)).env := by rfl) (hs2 : starEach [.Tuple es j p3] (X.suite a ((a, oe) :: pn)).env = (false, eval (.Tuple es j p3) (X.suite a ((a, oe) :: pn)).env) :: starEach [] (X.suite a ((a, oe) :: pn)).env := by rfl) (hpl : (backTo pos (starEach [.Tuple es j p3] (X.suite a ((a, oe) :: pn)).env)).any (·.1) = false := by rfl) :
    QE (X.suite a ((a, oe) :: pn)) (G.lo Z0) (.Call (.Name "isinstance" p) [.Name n p1, .Tuple es j p3] [] pos) (qIsE f xq ys i x a) := by
  by_cases hx : x.c ∈ xq
  · obtain ⟨C, m1, _, _, _, EC⟩ := (hq _ hx).ex
    have ec : cls = .ref C := by have := h.at_.1; rw [m1] at this; cases this; rfl
    obtain ⟨vs, us, A⟩ := A
    have vl : vs.length ≤ 100 := by
      have : ∀ {ys : List Str} {es : List Expr} {vs : List V} {us : List Value}, ClsA (X.suite a ((a, oe) :: pn)) ys es vs us → vs.length = ys.length := fun h => by
        induction h with
        | nil => rfl
        | cons _ _ _ _ _ ih => simp [ih]
      rw [this A]; exact hl
    have hz := h.z
    rw [ec] at hz
    refine PE.imp (pe_callB (call_xis EC hz h.f) hg hm (by decide +kernel) (pa_cons hv (pa_cons (pe_tup A.pa) pa_nil hs2) hs) (by decide) (by decide) hs hpl) fun σ H Q ⟨F, Z, s, R, r, t, q⟩ => ?_
    obtain ⟨t1, _, b', t2, t3⟩ := t
    obtain ⟨w, h1, h2⟩ := r.loc i _ t1
    have h2 : w = .ref a := h2
    subst h2
    refine ⟨_, h1, ⟨Nat.le_trans vl (by rw [sizeLine_eq]; omega), fun tp ht => ?_⟩⟩
    have x' := Ext.new (o := HO.tup vs) r.z ht
    have r' := r.ext x'
    exact ⟨.ref tp, b', rfl, .inr ⟨tp, vs, us, rfl, upd_same, A.pair, isAny_kit (X := X.suite a ((a, oe) :: pn)) (fun x y b h => tab x y b h) m1 A t2⟩, h.dd r', q _ s _ _ _ t3 x'.zz r' rfl⟩
  · exact ⟨fun pins s σ H Q I ⟨F, Z, s', R, r, t, q⟩ => absurd t.2.1 hx⟩
def qXf (n : Str) (xf : List (Str × Str)) (i : Nat) (x : Xc) (a : Addr) : PEx γ := fun s R => s.ρ[i]? = some (some (.val (.obj a))) ∧ (x.c, n) ∈ xf ∧ ∃ v, x.f = some (n, v) ∧ R v s
structure Xfl (K : PySem.W.Frag) (mg : Str → Option Value) (x n : Str) : Prop where
  ex : ∃ C, mg x = some (.ref C) ∧ XfC K C ∧ PySem.W.findIn K (.ref C) n = some none
theorem qe_xf {m : Str} {xf : List (Str × Str)} {e : Expr} (h : Held X G.K Z0 x a oe cls d) (hx : ∀ q ∈ xf, Xfl X.K X.mg q.1 q.2) (hv : PE (X.suite a ((a, oe) :: pn)) e (tVar i)) (hb : attributeBase e m (X.suite a ((a, oe) :: pn)).env (eval e (X.suite a ((a, oe) :: pn)).env) = eval e (X.suite a ((a, oe) :: pn)).env := by rfl) :
    QE (X.suite a ((a, oe) :: pn)) (G.lo Z0) (.Attribute e m pos) (qXf m xf i x a) := by
  by_cases hm : (x.c, m) ∈ xf
  · obtain ⟨C, m1, T, no⟩ := (hx _ hm).ex
    have ec : cls = .ref C := by have := h.at_.1; rw [m1] at this; cases this; rfl
    refine PE.imp (pe_xf T no h.z h.f hv hb) fun σ H Q ⟨F, Z, s, R, r, t, q⟩ => ?_
    obtain ⟨t1, _, v, t2, t3⟩ := t
    obtain ⟨w, h1, h2⟩ := r.loc i _ t1
    have h2 : w = .ref a := h2
    subst h2
    obtain ⟨_, h3⟩ := h.at_
    rw [t2] at h3
    obtain ⟨dd, w, rfl, h4, h5⟩ := h3
    have z1 := r.fl _ _ h4
    refine ⟨_, h1, rfl, ec, dd, [(m, w)], w, rfl, r.z _ _ z1, by simp, q v s Z w H t3 (Same.refl _) r (At.mono r.fl _ _ h5)⟩
  · exact ⟨fun pins s σ H Q I ⟨F, Z, s', R, r, t, q⟩ => absurd t.2.1 hm⟩
end
end
end Pm
namespace Pm
open PySem PySem.Spec
open PyProof.Rows hiding St
open L2
def lookT (l : List (Str × Str × Bool)) (x y : Str) : Option Bool := (l.find? fun q => q.1 == x && q.2.1 == y).map (·.2.2)
theorem lookT_ok {P : Str → Str → Bool → Prop} {L l : List (Str × Str × Bool)} (h : ∀ q ∈ L, P q.1 q.2.1 q.2.2) (c : l.all (fun q => L.contains q) = true) : ∀ x y b, lookT l x y = some b → P x y b := by
  intro x y b e
  unfold lookT at e
  obtain ⟨q, e1, rfl⟩ := Option.map_eq_some_iff.mp e
  have h1 := List.find?_some e1
  have h2 := List.mem_of_find?_eq_some e1
  simp only [Bool.and_eq_true, beq_iff_eq] at h1
  obtain ⟨rfl, rfl⟩ := h1
  have := List.all_eq_true.mp c q h2
  exact h q (List.contains_iff_mem.mp this)
theorem sub_all {α : Type} [BEq α] [LawfulBEq α] {P : α → Prop} {L l : List α} (h : ∀ q ∈ L, P q) (c : l.all (fun q => L.contains q) = true) : ∀ q ∈ l, P q := fun q hq =>
  h q (List.contains_iff_mem.mp (List.all_eq_true.mp c q hq))
theorem xfl_ok {K : PySem.W.Frag} {mg : Str → Option Value} {h : Heap} (X : K.In h) (G : h.Ns mainGlobals mg) {q : Str × Str} (c : xflB K q = true) : Xfl K mg q.1 q.2 := by
  unfold xflB at c
  cases e : excAt K q.1 with
  | none => rw [e] at c; cases c
  | some C =>
    rw [e] at c
    obtain ⟨c1, c2⟩ := Bool.and_eq_true_iff.mp c
    exact ⟨C, excAt_mg X G e, xfB_ok c1, of_decide_eq_true c2⟩
structure Excs (K : PySem.W.Frag) (mg : Str → Option Value) (x0 xq : List Str) (sub : List (Str × Str × Bool)) (xf : List (Str × Str)) : Prop where
  x0 : ∀ z ∈ x0, Exc0 K mg z
  xq : ∀ z ∈ xq, Exq K mg z
  sub : ∀ q ∈ sub, Sub K mg q.1 q.2.1 q.2.2
  xf : ∀ q ∈ xf, Xfl K mg q.1 q.2
theorem excs_ok {K : PySem.W.Frag} {mg : Str → Option Value} {h : Heap} (X : K.In h) (G : h.Ns mainGlobals mg) {x0 xq : List Str} {sub : List (Str × Str × Bool)} {xf : List (Str × Str)} (c : excsB K x0 xq sub xf = true) : Excs K mg x0 xq sub xf := by
  unfold excsB at c
  simp only [Bool.and_eq_true, List.all_eq_true] at c
  obtain ⟨c1, c2, c3, c4⟩ := c
  exact ⟨fun z hz => exc0_ok X G (c1 z hz), fun z hz => exq_ok X G (c2 z hz), fun q hq => sub_ok X G (c3 q hq), fun q hq => xfl_ok X G (c4 q hq)⟩
end Pm
namespace Pm
open PySem PySem.Spec
open PyProof.Rows hiding St
open L2
theorem clsA_cons {X : Cx} {f : Str → Str → Option Bool} {y : Str} {p : Pos} {ys : List Str} {es : List Expr} (hg : Gl X y) (tab : ∀ x y b, f x y = some b → Sub X.K X.mg x y b) (hb : ∃ z, ∃ b, f z y = some b) (h : ∃ vs us, ClsA X ys es vs us) (hn : y ≠ "__name__" := by decide) (hd : (y == ("__debug__" : Str)) = false := by decide)
    (hs : starEach (.Name y p :: es) X.env = (false, eval (.Name y p) X.env) :: starEach es X.env := by rfl) : ∃ vs us, ClsA X (y :: ys) (.Name y p :: es) vs us := by
  obtain ⟨z, b, e⟩ := hb
  obtain ⟨_, c, _, _, hc, _⟩ := (tab z y b e).ex
  obtain ⟨v, kv, pv⟩ := pe_cls (p := p) hg hc hn hd
  obtain ⟨vs, us, A⟩ := h
  exact ⟨_, _, .cons pv kv (hc.imp (fun ⟨_, _, a⟩ => a) fun ⟨_, _, a, b⟩ => ⟨a, b⟩) hs A⟩
theorem clsA_nil {X : Cx} : ∃ vs us, ClsA X [] [] vs us := ⟨_, _, .nil⟩
end Pm
namespace Pm
open PySem PySem.Spec
open PyProof.Rows hiding St
open L2
theorem oex_ok {K : PySem.W.Frag} {C : Addr} (c : oexB K C = true) : OexC K C := by
  unfold oexB at c
  simp only [Bool.and_eq_true, beq_iff_eq] at c
  obtain ⟨q, c2, c3, c4, c5⟩ := c
  refine ⟨?_, c2, c3, c4, c5⟩
  split at q
  · rename_i dd cd sl ho
    split at q
    · rename_i C' bm k0 k1 k2 k3 n k5 hm hs
      simp only [Bool.and_eq_true, beq_iff_eq, Bool.not_eq_true'] at q
      obtain ⟨rfl, rfl, hdel, hdict, hr⟩ := q
      obtain ⟨nm, bs, mro, ns, qn, hd, sn, sub, ab, col, del⟩ := cd
      dsimp only at hm hdel hdict
      subst hm hdel hdict
      obtain ⟨l⟩ := sl
      simp only at hs
      subst hs
      exact ⟨nm, qn, ns, bs, bm, sn, sub, ab, col, dd, k0, k1, k2, k3, k5, ho, hr⟩
    · cases q
  · cases q
def spInit (C : Addr) (n : Str) : Sp := fun vs H Q _ => ∃ (a : Addr) (v : V), vs = [.ref a, v] ∧ H a = some (exo a C none) ∧ ∀ dx, H dx = none → dx ≠ a → Q .non (upd (upd H dx (exd dx [(n, v)])) a (exo a C (some dx)))
theorem okInit {P : Program} {w : World} {K : PySem.W.Frag} {mg : Str → Option Value} {base : Heap} {x qual n : Str} {params : Arguments} {body : List Stmt} {scope : Scope} {f : Addr} {fd : FuncData} {N ps : List Str} {C : Addr} (F : FunD K x qual params body scope [] [] f fd) (S : FnScope N ps scope) (hp : ps.length = 2) (hN : 2 ≤ N.length) (T : OexC K C) (no : PySem.W.findIn K (.ref C) n = some none)
    (hb : ∀ (cdv : Value) (A : Around) (outer : List Env) (s : Shared) (H : Hp) (E : XK), PSs (cxOf CX0 P w K mg base N qual scope f cdv A outer s H E) body (tOst K n (tVar 0) (tVar 1))) : FnOk P w K mg base CX0 (0 + 1) f fd ps (spInit C n) := by
  refine FunD.ok F S (fun vs H Q E h => ?_) (fun cdv A outer s H vs Q E hr h => ?_)
  · obtain ⟨a, v, rfl, _⟩ := h
    rw [hp]; rfl
  · obtain ⟨a, v, rfl, ha, q⟩ := h
    refine ⟨_, hb cdv A outer s H E, ?_⟩
    exact ⟨v, rfl, .ref a, rfl, a, C, rfl, T, no, .inl ⟨ha, fun dx h1 h2 => q dx h1 h2⟩⟩
structure DefI (X : Cx) (x n : Str) : Prop where
  ex : ∃ C fI fd k ps, X.mg x = some (.ref C) ∧ OexC X.K C ∧ PySem.W.findIn X.K (.ref C) "__init__" = some (some (.ref fI)) ∧ PySem.W.typeIn X.K (.ref fI) = some (.type "function") ∧
    FnOk X.prog X.w X.K X.mg X.base CX0 k fI fd ps (spInit C n) ∧ Room (k + 1) X.A ∧ Binds X.K fd ps []
def GloI (P : Program) (w : World) (K : PySem.W.Frag) (mg : Str → Option Value) (base : Heap) (x n : Str) : Prop :=
  ∃ C fI fd ps, mg x = some (.ref C) ∧ OexC K C ∧ PySem.W.findIn K (.ref C) "__init__" = some (some (.ref fI)) ∧ PySem.W.typeIn K (.ref fI) = some (.type "function") ∧
    FnOk P w K mg base CX0 1 fI fd ps (spInit C n) ∧ Binds K fd ps []
theorem GloI.at {X : Cx} {x n : Str} {k : Nat} (g : GloI X.prog X.w X.K X.mg X.base x n) (hr : Room k X.A) (h : 2 ≤ k := by decide) : DefI X x n := by
  obtain ⟨C, fI, fd, ps, m, T, i, t, F, b⟩ := g
  exact ⟨C, fI, fd, 1, ps, m, T, i, t, F, hr.mono h, b⟩
variable {γ : Type}
def xRaiseF (x n : Str) (te : PEx γ) : PSXx γ := fun w _ s => te s fun d s1 => w ⟨x, some (n, d)⟩ s1
theorem qsx_raiseF {X : Cx} {G : GP γ} {W : WX} {x n : Str} {e : Expr} {te : PEx γ} {p p2 pos : Pos} (hc : X.calm = true) (tk : Takes X W) (I : DefI X x n) (hg : Gl X x) (he : QE X G e te) (hdb : (x == ("__debug__" : Str)) = false := by decide) (hs : starEach [e] X.env = (false, eval e X.env) :: starEach [] X.env := by rfl) (hpl : (backTo p2 (starEach [] X.env)).any (·.1) = false := by rfl) :
    QSX X G W (.Raise (some (.Call (.Name x p) [e] [] p2)) none pos) (xRaiseF x n te) := by
  obtain ⟨C, fI, fd, k, ps, m1, T, iC, tI, F1, hr, hb⟩ := I.ex
  refine PS.imp (ps_raise hc tk (pmk_oex T iC tI F1 hr hb .nil pass0 hg m1 (pa_cons he pa_nil hs) hdb hs hpl)) fun De σ H ⟨F, Z, s, E, w, r, t, _, _, _, _, ex⟩ => ?_
  refine ⟨F, Z, s, _, r, t, fun d s1 Z1 v H1 t1 k1 r1 a1 => ⟨by show 1 ≤ 1000; decide, fun a ha => ⟨a, v, rfl, upd_same, fun dx hx hne => ⟨rfl, dx, [(n, v)], upd_same, ?_, ?_, ?_⟩⟩⟩⟩
  · rw [upd_ne hne]; exact upd_same
  · rw [upd_ne hne] at hx; exact hx
  · have hx1 : H1 dx = none := by rw [upd_ne hne] at hx; exact hx
    have eq : upd (L2.del (upd (upd (upd H1 a (exo a C none)) dx (exd dx [(n, v)])) a (exo a C (some dx))) a) dx (.xd [(n, v)]) = upd H1 dx (.xd [(n, v)]) := by
      funext b
      by_cases hb1 : b = dx
      · rw [hb1, upd_same, upd_same]
      · rw [upd_ne hb1, upd_ne hb1]
        by_cases hb2 : b = a
        · rw [hb2, L2.del_same, ha]
        · rw [L2.del_ne hb2, upd_ne hb2, upd_ne hb1, upd_ne hb2]
    rw [eq]
    have kz := same_upd (o := HO.xd [(n, v)]) (r1.z.free hx1)
    exact ex ⟨x, some (n, d)⟩ s1 (upd Z1 dx (.xd [(n, v)])) σ _ _ _ t1 (k1.trans kz) (r1.new hx1) ⟨m1, dx, v, rfl, upd_same, At.mono kz _ _ a1⟩
end Pm
namespace Pm
open PySem PySem.Spec
open PyProof.Rows hiding St
open L2
theorem gloI_ok {P : Program} {w : World} {K : PySem.W.Frag} {mg : Str → Option Value} {base h : Heap} (X : K.In h) (G : h.Ns mainGlobals mg) {x n : Str} {fd : FuncData} {ps : List Str} (c : initB K (x, n) = true)
    (F : OexC K (He.ga K x) → PySem.W.findIn K (.ref (He.ga K x)) n = some none → FnOk P w K mg base CX0 (0 + 1) (He.fAd K (x, some "__init__")) fd ps (spInit (He.ga K x) n)) (b : Binds K fd ps []) : GloI P w K mg base x n := by
  unfold initB at c
  simp only [Bool.and_eq_true, beq_iff_eq] at c
  obtain ⟨c1, c2, c3, c4, c5⟩ := c
  exact ⟨He.ga K x, _, fd, ps, He.glo_ok X G c1, oex_ok c2, c3, c4, F (oex_ok c2) c5, b⟩
end Pm
set_option Elab.async false
set_option linter.all false
set_option maxRecDepth 100000
set_option maxHeartbeats 1000000
set_option autoImplicit false
namespace Pm
open PySem PySem.Spec
open L2
abbrev Arcs := List (Int × Int)
abbrev Path := List (Nat × Int)
def Res (arcs : Arcs) (fl : List Int) (c : Option Int) (u v : Int) (j : Nat) (s : Int) : Prop :=
  c ≠ some (j : Int) ∧ ((s = 1 ∧ arcs[j]? = some (u, v)) ∨ (s = -1 ∧ arcs[j]? = some (v, u) ∧ 0 < fl.getD j 0))
inductive PathR (arcs : Arcs) (fl : List Int) (c : Option Int) (a : Int) : Path → Int → Prop where
  | nil : PathR arcs fl c a [] a
  | snoc {p : Path} {u v : Int} {j : Nat} {s : Int} : PathR arcs fl c a p u → Res arcs fl c u v j s → PathR arcs fl c a (p ++ [(j, s)]) v
section
variable {arcs : Arcs} {fl fl' : List Int} {c : Option Int} {a g : Int} {p : Path} {U : Int → Prop}
theorem Res.ends {u v : Int} {j : Nat} {s : Int} (h : Res arcs fl c u v j s) : ∃ x y, arcs[j]? = some (x, y) ∧ ((x = u ∧ y = v) ∨ (x = v ∧ y = u)) := by
  rcases h.2 with ⟨_, e⟩ | ⟨_, e, _⟩
  · exact ⟨u, v, e, .inl ⟨rfl, rfl⟩⟩
  · exact ⟨v, u, e, .inr ⟨rfl, rfl⟩⟩
end

end Pm
set_option Elab.async false
set_option linter.all false
set_option maxRecDepth 100000
set_option maxHeartbeats 1000000
set_option autoImplicit false
namespace Pm
open PySem PySem.Spec
open L2
abbrev BS := List (Int × Path) × List Int
def lookO : List (Int × Path) → Int → Option Path
  | [], _ => none
  | (j, p) :: r, k => if j = k then some p else lookO r k
def look (kds : List (Int × Path)) (k : Int) : Path := (lookO kds k).getD []
theorem lookO_mem : ∀ {kds : List (Int × Path)} {k : Int} {p : Path}, lookO kds k = some p → (k, p) ∈ kds
  | [], _, _, h => by cases h
  | (j, q) :: r, k, p, h => by
    simp only [lookO] at h
    split at h
    · rename_i e; cases h; subst e; simp
    · exact List.mem_cons_of_mem _ (lookO_mem h)
theorem lookO_has : ∀ {kds : List (Int × Path)} {k : Int}, k ∈ kds.map (·.1) → ∃ p, lookO kds k = some p
  | [], _, h => by cases h
  | (j, q) :: r, k, h => by
    simp only [lookO]
    by_cases e : j = k
    · exact ⟨q, by rw [if_pos e]⟩
    · rw [if_neg e]
      exact lookO_has (by simp only [List.map_cons, List.mem_cons] at h; exact h.resolve_left fun z => e z.symm)
theorem look_mem {kds : List (Int × Path)} {k : Int} (h : k ∈ kds.map (·.1)) : lookO kds k = some (look kds k) ∧ (k, look kds k) ∈ kds := by
  obtain ⟨p, e⟩ := lookO_has h
  have : look kds k = p := by unfold look; rw [e]; rfl
  rw [this]; exact ⟨e, lookO_mem e⟩
def bfAdd (st : BS) (node v : Int) (j : Nat) (s : Int) : BS := (st.1 ++ [(v, look st.1 node ++ [(j, s)])], st.2 ++ [v])
structure BI (arcs : Arcs) (fl : List Int) (c : Option Int) (a : Int) (st : BS) : Prop where
  me : a ∈ st.1.map (·.1)
  nd : (st.1.map (·.1)).Nodup
  pt : ∀ q ∈ st.1, PathR arcs fl c a q.2 q.1 ∧ (q.2.map (·.1)).Nodup ∧ ∀ j ∈ q.2.map (·.1), ∃ x y, arcs[j]? = some (x, y) ∧ x ∈ st.1.map (·.1) ∧ y ∈ st.1.map (·.1)
  wk : ∀ v ∈ st.2, v ∈ st.1.map (·.1)
  ks : ∀ v ∈ st.1.map (·.1), v ∈ a :: (arcs.map (·.1) ++ arcs.map (·.2))
  wl : st.2.length ≤ st.1.length
theorem BI.add {arcs : Arcs} {fl : List Int} {c : Option Int} {a : Int} {st : BS} {node v : Int} {j : Nat} {s : Int} (h : BI arcs fl c a st) (hn : node ∈ st.1.map (·.1)) (r : Res arcs fl c node v j s) (hv : v ∉ st.1.map (·.1)) : BI arcs fl c a (bfAdd st node v j s) := by
  obtain ⟨_, hm⟩ := look_mem hn
  obtain ⟨h1, h2, h3⟩ := h.pt _ hm
  have eK : (bfAdd st node v j s).1.map (·.1) = st.1.map (·.1) ++ [v] := by simp [bfAdd]
  have sub : ∀ x, x ∈ st.1.map (·.1) → x ∈ (bfAdd st node v j s).1.map (·.1) := fun x hx => by rw [eK]; exact List.mem_append.mpr (.inl hx)
  have hv' : v ∈ (bfAdd st node v j s).1.map (·.1) := by rw [eK]; simp
  obtain ⟨x, y, e, k⟩ := r.ends
  refine ⟨sub _ h.me, ?_, fun q hq => ?_, fun u hu => ?_, fun u hu => ?_, ?_⟩
  · rw [eK]
    exact List.nodup_append.mpr ⟨h.nd, by simp, fun x hx y hy => by rw [List.mem_singleton.mp hy]; exact fun z => hv (z ▸ hx)⟩
  · rcases List.mem_append.mp hq with hq | hq
    · obtain ⟨g1, g2, g3⟩ := h.pt q hq
      refine ⟨g1, g2, fun i hi => ?_⟩
      obtain ⟨x, y, e, k1, k2⟩ := g3 i hi
      exact ⟨x, y, e, sub _ k1, sub _ k2⟩
    · rw [List.mem_singleton.mp hq]
      refine ⟨h1.snoc r, ?_, fun i hi => ?_⟩
      · rw [List.map_append]
        refine List.nodup_append.mpr ⟨h2, by simp, fun i hi i' hi' z => ?_⟩
        simp only [List.map_cons, List.map_nil, List.mem_singleton] at hi'
        subst z; subst hi'
        obtain ⟨x', y', e', k1, k2⟩ := h3 _ hi
        rw [e] at e'; cases e'
        rcases k with ⟨rfl, rfl⟩ | ⟨rfl, rfl⟩
        · exact hv k2
        · exact hv k1
      · rw [List.map_append, List.mem_append] at hi
        rcases hi with hi | hi
        · obtain ⟨x, y, e, k1, k2⟩ := h3 i hi
          exact ⟨x, y, e, sub _ k1, sub _ k2⟩
        · simp only [List.map_cons, List.map_nil, List.mem_singleton] at hi
          subst hi
          refine ⟨x, y, e, ?_⟩
          rcases k with ⟨rfl, rfl⟩ | ⟨rfl, rfl⟩
          · exact ⟨sub _ hn, hv'⟩
          · exact ⟨hv', sub _ hn⟩
  · rcases List.mem_append.mp hu with hu | hu
    · exact sub _ (h.wk u hu)
    · rw [List.mem_singleton.mp hu]; exact hv'
  · rw [eK, List.mem_append] at hu
    rcases hu with hu | hu
    · exact h.ks u hu
    · rw [List.mem_singleton.mp hu]
      have hma := List.mem_of_getElem? e
      refine List.mem_cons_of_mem _ (List.mem_append.mpr ?_)
      rcases k with ⟨rfl, rfl⟩ | ⟨rfl, rfl⟩
      · exact .inr (List.mem_map_of_mem (f := (·.2)) hma)
      · exact .inl (List.mem_map_of_mem (f := (·.1)) hma)
  · have := h.wl
    simp only [bfAdd, List.length_append, List.length_singleton]; omega
structure Grow (st st' : BS) : Prop where
  ln : st'.1.length + st.2.length = st.1.length + st'.2.length
  sb : ∀ v, v ∈ st.1.map (·.1) → v ∈ st'.1.map (·.1)
  nw : ∀ v, v ∈ st'.1.map (·.1) → v ∈ st.1.map (·.1) ∨ v ∈ st'.2
  sw : ∀ v, v ∈ st.2 → v ∈ st'.2
theorem Grow.add (st : BS) (node v : Int) (j : Nat) (s : Int) : Grow st (bfAdd st node v j s) := by
  refine ⟨by simp only [bfAdd, List.length_append, List.length_singleton]; omega, fun x hx => ?_, fun x hx => ?_, fun x hx => List.mem_append.mpr (.inl hx)⟩
  · simp only [bfAdd, List.map_append, List.mem_append]; exact .inl hx
  · simp only [bfAdd, List.map_append, List.map_cons, List.map_nil, List.mem_append, List.mem_singleton] at hx ⊢
    rcases hx with hx | hx
    · exact .inl hx
    · exact .inr (.inr hx)
end Pm
set_option Elab.async false
set_option linter.all false
set_option maxRecDepth 100000
set_option maxHeartbeats 1000000
set_option autoImplicit false
namespace Pm
open PySem PySem.Spec
open L2
def IntD (D : Nat) (x : Rat) : Prop := ∃ n : Int, (n : Rat) = x * ((D : Int) : Rat)
theorem IntD.add {D : Nat} {x y : Rat} (h : IntD D x) (k : IntD D y) : IntD D (x + y) := by
  obtain ⟨a, ha⟩ := h; obtain ⟨b, hb⟩ := k
  exact ⟨a + b, by rw [Rat.intCast_add, ha, hb]; grind⟩
end Pm
set_option Elab.async false
set_option linter.all false
set_option maxRecDepth 100000
set_option maxHeartbeats 1000000
set_option autoImplicit false
namespace Pm
open PySem PySem.Spec
open PyProof.Rows hiding St
open L2
section
variable {γ : Type} {G : GP γ} {F : Fra} {Z : Hp} {s : S γ} {σ : St} {H : Hp}
theorem Rel.writeB (r : Rel G F Z s σ H) {a : Addr} (ha : G.foot s.g a) (o : HO) {g' : γ} (j : G.J g' Z (upd H a o)) (hf : ∀ b, G.foot g' b → G.foot s.g b) : Rel G F Z ⟨s.ρ, g'⟩ σ (upd H a o) := by
  refine ⟨fun b u e => ?_, fun b u e => ?_, r.zb, r.len, r.loc, fun i l h ol => ?_, r.injL, j, fun b h => r.zf b (hf b h), fun b h => r.ff b (hf b h), r.fl⟩
  · have n : b ≠ a := fun z => by rw [z, r.zf a ha] at e; cases e
    rw [upd_ne n]; exact r.z _ _ e
  · have n : b ≠ a := fun z => by rw [z, r.ff a ha] at e; cases e
    rw [upd_ne n]; exact r.f _ _ e
  · obtain ⟨b, vs, h1, h2, h3, h4, h5, h6⟩ := r.ownL i l h ol
    have n : b ≠ a := fun z => h6 (by rw [z]; exact ha)
    exact ⟨b, vs, h1, by rw [upd_ne n]; exact h2, h3, h4, h5, fun h => h6 (hf b h)⟩
end
end Pm
set_option Elab.async false
set_option linter.all false
set_option maxRecDepth 100000
set_option maxHeartbeats 3200000
set_option autoImplicit false
namespace Pm
open PySem PySem.Spec PySem.W
open PyProof.Rows hiding St
open L2
abbrev K3 := Int × Int × Int
def nk (k : K3) : NestedKey := .tup [.num k.1, .tup [.num k.2.1, .num k.2.2]]
theorem nk_inj {k q : K3} (h : nk k = nk q) : k = q := by
  obtain ⟨a, b, c⟩ := k
  obtain ⟨a', b', c'⟩ := q
  unfold nk at h
  injection h with h
  injection h with h1 h2
  injection h1 with h1
  injection h2 with h2 _
  injection h2 with h2
  injection h2 with h2 h3
  injection h2 with h2
  injection h3 with h3 _
  injection h3 with h3
  simp only at h1 h2 h3
  rw [h1, h2, h3]
theorem nk_dec (k q : K3) : NestedKey.beq (nk k) (nk q) = decide (k = q) := by
  rw [← NestedKey.decide_eq]
  by_cases c : k = q
  · rw [decide_eq_true c, decide_eq_true (by rw [c])]
  · rw [decide_eq_false c, decide_eq_false fun e => c (nk_inj e)]
@[irreducible] def hk3 (w : World) (k : K3) : Int := (nk k).hash w
def Is3 (h : Heap) (k : K3) (a : Addr) : Prop := ∃ (b : Addr) (t t1 t2 : Tok), h.IsTuple a #[.int k.1 t, .ref b] ∧ h.IsTuple b #[.int k.2.1 t1, .int k.2.2 t2]
theorem Is3.nest {h : Heap} {k : K3} {a : Addr} (x : Is3 h k a) : NestedIs h (nk k) (.ref a) := by
  obtain ⟨b, t, t1, t2, ⟨o, g, c, n, d⟩, ⟨o', g', c', n', d'⟩⟩ := x
  exact .tup g c d (.cons (.int _ t) (.cons (.tup g' c' d' (.cons (.int _ t1) (.cons (.int _ t2) .nil))) .nil))
theorem tup_stay {h h' : Heap} {a : Addr} {vs : Array Value} (x : h.IsTuple a vs) (k : ∀ b o, h.get? b = some o → o.cls = .type "tuple" → h'.get? b = some o) : h'.IsTuple a vs := by
  obtain ⟨o, g, c, r⟩ := x
  exact ⟨o, k a o g c, c, r⟩
theorem Is3.stay {h h' : Heap} {k : K3} {a : Addr} (x : Is3 h k a) (kp : ∀ b o, h.get? b = some o → o.cls = .type "tuple" → h'.get? b = some o) : Is3 h' k a := by
  obtain ⟨b, t, t1, t2, x1, x2⟩ := x
  exact ⟨b, t, t1, t2, tup_stay x1 kp, tup_stay x2 kp⟩
section
variable {P : Program} {w : World} {A : Around} {E : Value → Shared → Prop} {s : Shared}
theorem Is3.eq {k q : K3} {a b : Addr} {Q : Bool → Shared → Prop} (x : Is3 s.heap k a) (y : Is3 s.heap q b) (hu : A.units + 8 < cLine) (h : Q (decide (k = q)) s) : wpAny (model P w) A (eqBool (.ref a) (.ref b)) Q E s :=
  eqAt_key (nk k) (nk q) A s _ _ x.nest y.nest (by simp only [nk, NestedKey.depth, NestedKey.depthAll]; omega) _ _ _ _ (by rw [nk_dec]; exact h)
theorem Is3.quiet {k : K3} {a : Addr} {Q : Bool → Shared → Prop} (x : Is3 s.heap k a) (h : Q true s) : wpAny (model P w) A (eqIsQuiet 8 (.ref a)) Q E s :=
  quiet_key (nk k) _ 8 s x.nest (by simp only [nk, NestedKey.depth, NestedKey.depthAll]; omega) A E Q h
theorem noCls_at {n : Nat} {a : Addr} {vs : Array Value} {Q : Bool → Shared → Prop} (x : s.heap.IsTuple a vs) (hv : ∀ v ∈ vs.toList, ∀ (A : Around) (E : Value → Shared → Prop) (Q : Bool → Shared → Prop), Q false s → wpAny (model P w) A (ofAClassStatement n v) Q E s) (h : Q false s) :
    wpAny (model P w) A (ofAClassStatement (n + 1) (.ref a)) Q E s := by
  obtain ⟨o, ho, hc, m, hd⟩ := x
  have hT : s.TypeIs (.ref a) "tuple" := ⟨o, ho, hc⟩
  unfold ofAClassStatement
  refine wpAny_bind (wpAny_typeOf hT ?_)
  dsimp only
  have e : (("tuple" : String) == "tuple") = true := by decide
  simp only [e, if_true, Bool.not_true, Bool.false_eq_true, if_false]
  try refine wpAny_bind (wpAny_pure ?_)
  try simp only [Bool.not_true, Bool.false_eq_true, if_false]
  show wpAny _ _ (seqItems? (.ref a) >>= _) _ _ s
  refine wpAny_bind (wpAny_seqItems ho hd ?_)
  dsimp only
  refine wpAny_bind ?_
  show wpAny _ _ (forIn vs _ _) _ _ s
  rw [← Array.forIn_toList]
  refine wpAny_forIn_list _ (fun rest r s' => r.1 = none ∧ s' = s ∧ ∀ v ∈ rest, v ∈ vs.toList) _ ?_ ?_ _ _ ⟨rfl, rfl, fun _ h => h⟩
  · rintro v rest r s' ⟨hr, rfl, hall⟩
    refine wpAny_bind (hv v (hall v (by simp)) _ _ _ ?_)
    simp only [Bool.false_eq_true, if_false]
    exact wpAny_pure ⟨rfl, rfl, fun u hu' => hall u (List.mem_cons_of_mem _ hu')⟩
  · rintro ⟨r1, r2⟩ s' ⟨hr, rfl, _⟩
    simp only at hr
    subst hr
    exact wpAny_pure h
theorem Is3.noCls {k : K3} {a : Addr} {Q : Bool → Shared → Prop} (x : Is3 s.heap k a) (h : Q false s) : wpAny (model P w) A (ofAClassStatement 8 (.ref a)) Q E s := by
  obtain ⟨b, t, t1, t2, x1, x2⟩ := x
  refine noCls_at x1 (fun v hv A E Q h => ?_) h
  simp only [List.mem_cons, List.not_mem_nil, or_false] at hv
  rcases hv with rfl | rfl
  · rw [ofAClass_int]; exact wpAny_pure h
  · refine noCls_at x2 (fun v hv A E Q h => ?_) h
    simp only [List.mem_cons, List.not_mem_nil, or_false] at hv
    rcases hv with rfl | rfl <;> (rw [ofAClass_int]; exact wpAny_pure h)
theorem byVal_at {n : Nat} {a : Addr} {vs : Array Value} {Q : Bool → Shared → Prop} (x : s.heap.IsTuple a vs) (hv : ∀ v ∈ vs.toList, ∀ (A : Around) (E : Value → Shared → Prop) (Q : Bool → Shared → Prop), Q true s → wpAny (model P w) A (hashByValue n v) Q E s) (h : Q true s) :
    wpAny (model P w) A (hashByValue (n + 1) (.ref a)) Q E s := by
  obtain ⟨o, ho, hc, m, hd⟩ := x
  have hT : s.TypeIs (.ref a) "tuple" := ⟨o, ho, hc⟩
  unfold hashByValue
  refine wpAny_bind (wpAny_specialOf hT F.slot_tuple_hash.lookup ?_)
  show wpAny _ _ (seqItems? (.ref a) >>= _) _ _ s
  refine wpAny_bind (wpAny_seqItems ho hd ?_)
  refine wpAny_bind ?_
  show wpAny _ _ (forIn vs _ _) _ _ s
  rw [← Array.forIn_toList]
  refine wpAny_forIn_list _ (fun rest r s' => r.1 = none ∧ s' = s ∧ ∀ v ∈ rest, v ∈ vs.toList) _ ?_ ?_ _ _ ⟨rfl, rfl, fun _ h => h⟩
  · rintro v rest r s' ⟨hr, rfl, hall⟩
    refine wpAny_bind (hv v (hall v (by simp)) _ _ _ ?_)
    simp only [Bool.not_true, Bool.false_eq_true, if_false]
    exact wpAny_pure ⟨rfl, rfl, fun u hu' => hall u (List.mem_cons_of_mem _ hu')⟩
  · rintro ⟨r1, r2⟩ s' ⟨hr, rfl, _⟩
    simp only at hr
    subst hr
    exact wpAny_pure h
theorem Is3.byVal {k : K3} {a : Addr} {Q : Bool → Shared → Prop} (x : Is3 s.heap k a) (h : Q true s) : wpAny (model P w) A (hashByValue 8 (.ref a)) Q E s := by
  obtain ⟨b, t, t1, t2, x1, x2⟩ := x
  refine byVal_at x1 (fun v hv A E Q h => ?_) h
  simp only [List.mem_cons, List.not_mem_nil, or_false] at hv
  rcases hv with rfl | rfl
  · rw [hashBy_int]; exact wpAny_pure h
  · refine byVal_at x2 (fun v hv A E Q h => ?_) h
    simp only [List.mem_cons, List.not_mem_nil, or_false] at hv
    rcases hv with rfl | rfl <;> (rw [hashBy_int]; exact wpAny_pure h)
theorem Is3.unseen {k : K3} {a : Addr} {Q : Bool → Shared → Prop} (x : Is3 s.heap k a) {ys : List Value} (hy : ∀ y ∈ ys, ∃ q c, y = Value.ref c ∧ Is3 s.heap q c) (h : Q false s) :
    wpAny (model P w) A (searchCouldBeSeen (.ref a) ys) Q E s := by
  unfold searchCouldBeSeen
  refine wpAny_bind ?_
  refine wpAny_forIn_list _ (fun rest r s' => r.1 = none ∧ s' = s ∧ ∀ y ∈ rest, ∃ q c, y = Value.ref c ∧ Is3 s.heap q c) _ ?_ ?_ _ _ ⟨rfl, rfl, hy⟩
  · rintro v rest r s' ⟨hr, rfl, hall⟩
    obtain ⟨q, c, rfl, hc⟩ := hall v List.mem_cons_self
    have go := fun u hu' => hall u (List.mem_cons_of_mem _ hu')
    dsimp only
    by_cases hv : (a == c || (carriedByValue (.ref a) && carriedByValue (.ref c))) = true
    · refine wp_if_pos hv (wpAny_pure ⟨rfl, rfl, go⟩)
    · refine wp_if_neg hv ?_
      refine wpAny_bind (x.quiet ?_)
      simp only [Bool.not_true, Bool.false_eq_true, if_false]
      refine wpAny_bind (hc.quiet ?_)
      simp only [Bool.not_true, Bool.false_eq_true, if_false]
      refine wpAny_bind (x.noCls ?_)
      simp only [Bool.false_eq_true, if_false]
      refine wpAny_bind (hc.noCls ?_)
      simp only [Bool.false_eq_true, if_false]
      exact wpAny_pure ⟨rfl, rfl, go⟩
  · rintro ⟨r1, r2⟩ s' ⟨hr, rfl, _⟩
    simp only at hr
    subst hr
    exact wpAny_pure h
end

def row3 (w : World) (p : Addr × K3) : Int × Value := (hk3 w p.2, .ref p.1)
structure Set3 (w : World) (h : Heap) (a : Addr) (L : List (Addr × K3)) (es : Array (Int × Value)) (ep : Nat) (t : SetTable) : Prop where
  ob : ∃ o, h.get? a = some o ∧ o.ExactSet ∧ o.data = .set es ep t
  rows : es.toList = L.map (row3 w)
  tab : TabOk t (L.map fun p => hk3 w p.2)
  nd : (L.map (·.2)).Nodup
  tup : ∀ p ∈ L, Is3 h p.2 p.1
  plain : t.plain = true
  led : w.params.followText "set-order" = true ∨ t.led = true
  room : L.length * 5 < t.mask * 3
  few : L.length < 64
theorem fits_of {t : SetTable} {hs : List Int} {n : Nat} (T : TabOk t hs) (hn : hs.length = n) (hm : n ≤ t.mask) : t.fits n = true := by
  have := T.sz
  unfold SetTable.fits SetTable.fill
  rw [T.dm, Bool.and_eq_true, beq_iff_eq, decide_eq_true_eq]
  show t.place.size = n ∧ t.place.size + 0 ≤ t.mask
  omega
section
variable {P : Program} {w : World} {A : Around} {E : Value → Shared → Prop} {s : Shared} {a : Addr} {L : List (Addr × K3)} {es : Array (Int × Value)} {ep : Nat} {t : SetTable}
theorem Set3.size (R : Set3 w s.heap a L es ep t) : es.size = L.length := by
  have h := congrArg List.length R.rows
  rwa [Array.length_toList, List.length_map] at h
theorem Set3.fits (R : Set3 w s.heap a L es ep t) : t.fits es.size = true := by
  have := R.room
  exact fits_of R.tab (by rw [List.length_map, R.size]) (by rw [R.size]; omega)
theorem Set3.entry (R : Set3 w s.heap a L es ep t) {i : Nat} {p : Addr × K3} (h : L[i]? = some p) : es[i]? = some (hk3 w p.2, Value.ref p.1) := by
  rw [← Array.getElem?_toList, R.rows, List.getElem?_map, h, Option.map_some, row3]
abbrev pth (m : Nat) (h : Int) : SetTable.Probe := runAt m (SetTable.bits h % (m + 1)) (SetTable.bits h)
theorem nth_dm (m : Nat) : ∀ (n : Nat) (p : SetTable.Probe), p.dummy = none → (nth m p n).dummy = none
  | 0, _, h => h
  | n + 1, p, h => nth_dm m n (adv m p) (by unfold adv; split <;> exact h)
theorem Set3.search (R : Set3 w s.heap a L es ep t) {x : Addr} {k : K3} (hx : Is3 s.heap k x) (hu : A.units + 8 < cLine) {K : Nat} (hKf : K < 10 * SetTable.turns t.mask)
    (hK : way t.mask (hk3 w k) K ∉ t.place.toList) (hb : ∀ c, c < K → way t.mask (hk3 w k) c ∈ t.place.toList) {Q : SetFound → Shared → Prop}
    (yes : k ∈ L.map (·.2) → Q (.there none) s) (no : k ∉ L.map (·.2) → Q (.free (way t.mask (hk3 w k) K) false) s) :
    ∀ (f c : Nat) (from_ : Option SetTable.Probe), from_.getD (t.probeStart (hk3 w k)) = nth t.mask (pth t.mask (hk3 w k)) c → c ≤ K → K - c < f →
      (∀ (i : Nat) p, L[i]? = some p → p.2 = k → ∃ c', c ≤ c' ∧ c' < K ∧ t.place.toList[i]? = some (way t.mask (hk3 w k) c')) →
      wpAny (model P w) A (setSearchFrom a (.ref x) (hk3 w k) true f from_) Q E s := by
  intro f
  induction f with
  | zero => intro c _ _ _ hf; exact absurd hf (Nat.not_lt_zero _)
  | succ f ih =>
    intro c from_ hst hc hf hre
    obtain ⟨o, ho, hex, hd⟩ := R.ob
    rw [setSearchFrom_succ]
    refine wpAny_bind (wpAny_setState_of ho hd R.fits ?_)
    dsimp only
    refine wp_if_neg (by unfold SetTable.gaveWay; rw [mask_odd R.tab.mok]; decide) ?_
    try refine wpAny_bind (wpAny_pure ?_)
    have sh : ∀ q, nth t.mask (nth t.mask (pth t.mask (hk3 w k)) c) q = nth t.mask (pth t.mask (hk3 w k)) (c + q) := fun q => (nth_add t.mask c _ q).symm
    have e1 : ∀ q, (nth t.mask (nth t.mask (pth t.mask (hk3 w k)) c) q).j = way t.mask (hk3 w k) (c + q) := fun q => congrArg SetTable.Probe.j (sh q)
    have hashAt : ∀ (i : Nat) p, L[i]? = some p → (es[i]?.map (·.1)).getD 0 = hk3 w p.2 := fun i p hp => by rw [R.entry hp, Option.map_some, Option.getD_some]
    have spec := go_spec t R.tab.ris R.tab.dm (fun i => (es[i]?.map (·.1)).getD 0) (hk3 w k) (10 * SetTable.turns t.mask) (K - c) _ (nth_dm t.mask c (pth t.mask (hk3 w k)) rfl) (by omega)
      (fun q hq => by rw [e1]; exact hb (c + q) (by omega)) (by rw [e1, show c + (K - c) = K by omega]; exact hK)
    rcases spec with ⟨q, i, hq, hi, hh, hno, hpr⟩ | ⟨hno, hpr⟩
    · have hpr' : t.probe (fun i => (es[i]?.map (·.1)).getD 0) (hk3 w k) (from_.getD (t.probeStart (hk3 w k))) = some (.candidate (way t.mask (hk3 w k) (c + q)) i (nth t.mask (pth t.mask (hk3 w k)) (c + (q + 1)))) := by
        rw [hst, ← e1, ← sh]; exact hpr
      rw [hpr']
      dsimp only
      rw [e1] at hi
      have hil : i < L.length := by
        have h1 : i < t.place.toList.length := (List.getElem?_eq_some_iff.mp hi).1
        have h2 := R.tab.sz
        rw [List.length_map] at h2
        rw [Array.length_toList] at h1
        omega
      have hp : L[i]? = some L[i] := List.getElem?_eq_getElem hil
      generalize L[i] = p at hp
      have hmem : p ∈ L := List.mem_of_getElem? hp
      have hsl : t.slot (way t.mask (hk3 w k) (c + q)) = .live i := slot_live R.tab.ris hi
      have rest : wpAny (model P w) A (searchRest a (.ref x) (hk3 w k) true f es t (way t.mask (hk3 w k) (c + q)) i (nth t.mask (pth t.mask (hk3 w k)) (c + (q + 1)))) Q E s := by
        unfold searchRest
        rw [R.entry hp]
        dsimp only
        refine wpAny_bind (wpAny_holding ((R.tup p hmem).eq hx hu ?_))
        refine wpAny_bind (wpAny_setState_of ho hd R.fits ?_)
        dsimp only
        by_cases hkk : p.2 = k
        · refine wp_if_pos (by simp [hkk]) ?_
          exact wpAny_pure (yes (List.mem_map.mpr ⟨p, hmem, hkk⟩))
        · refine wp_if_neg (by simp [hkk]) ?_
          try refine wpAny_bind (wpAny_pure ?_)
          rw [sameMem]
          dsimp only
          simp only [if_true, hsl, R.entry hp]
          refine wpAny_bind (wpAny_isSame_ref_self (wpAny_bind (wpAny_pure ?_)))
          simp only [if_true]
          refine wp_if_neg (by simp [hkk]) ?_
          refine ih (c + (q + 1)) _ rfl (by omega) (by omega) fun i0 p0 h0 hk0 => ?_
          obtain ⟨c', a1, a2, a3⟩ := hre i0 p0 h0 hk0
          refine ⟨c', ?_, a2, a3⟩
          rcases Nat.lt_trichotomy c' (c + q) with z | z | z
          · refine absurd ((hashAt i0 p0 h0).trans (congrArg (hk3 w) hk0)) (hno (c' - c) i0 (by omega) ?_)
            rw [e1, show c + (c' - c) = c' by omega]; exact a3
          · rw [z] at a3
            have s0 := slot_live R.tab.ris a3
            rw [hsl] at s0
            injection s0 with s0
            rw [← s0, hp] at h0
            exact absurd ((congrArg Prod.snd (Option.some.inj h0)).trans hk0) hkk
          · omega
      by_cases hl : t.led = true
      · refine wp_if_neg (by simp [hl]) ?_
        try refine wpAny_bind (wpAny_pure ?_)
        exact rest
      · refine wp_if_pos (by simp [hl]) ?_
        refine wpAny_bind (hx.unseen (fun y hy => ?_) ?_)
        · obtain ⟨e, he, ee⟩ := List.mem_map.mp hy
          have he1 : e ∈ es ∧ e.1 = hk3 w k := by simpa using he
          have he2 : e ∈ es.toList := by simpa using he1.1
          rw [R.rows] at he2
          obtain ⟨p2, hp2, e2⟩ := List.mem_map.mp he2
          exact ⟨p2.2, p2.1, by rw [← ee, ← e2]; rfl, R.tup p2 hp2⟩
        · refine wp_if_neg (by decide) ?_
          try refine wpAny_bind (wpAny_pure ?_)
          exact rest
    · have hpr' : t.probe (fun i => (es[i]?.map (·.1)).getD 0) (hk3 w k) (from_.getD (t.probeStart (hk3 w k))) = some (.empty (way t.mask (hk3 w k) K) none) := by
        have e2 : way t.mask (hk3 w k) K = (nth t.mask (nth t.mask (pth t.mask (hk3 w k)) c) (K - c)).j := by
          rw [e1, show c + (K - c) = K by omega]
        rw [hst, e2]; exact hpr
      rw [hpr']
      dsimp only
      refine wpAny_pure (no fun hm => ?_)
      obtain ⟨p0, h0, hk0⟩ := List.mem_map.mp hm
      obtain ⟨i0, hi0⟩ := List.mem_iff_getElem?.mp h0
      obtain ⟨c', a1, a2, a3⟩ := hre i0 p0 hi0 hk0
      refine absurd ((hashAt i0 p0 hi0).trans (congrArg (hk3 w) hk0)) (hno (c' - c) i0 (by omega) ?_)
      rw [e1, show c + (c' - c) = c' by omega]; exact a3
theorem Set3.find (R : Set3 w s.heap a L es ep t) {x : Addr} {k : K3} (hx : Is3 s.heap k x) (hu : A.units + 8 < cLine) {Q : SetFound → Shared → Prop}
    (yes : k ∈ L.map (·.2) → Q (.there none) s)
    (no : ∀ K, k ∉ L.map (·.2) → way t.mask (hk3 w k) K ∉ t.place.toList → (∀ c, c < K → way t.mask (hk3 w k) c ∈ t.place.toList) → Q (.free (way t.mask (hk3 w k) K) false) s) :
    wpAny (model P w) A (setSearch a (.ref x) (hk3 w k) true) Q E s := by
  have hroom := R.room
  obtain ⟨K, hKf, hK, hb⟩ := R.tab.first (by rw [List.length_map]; omega) (hk3 w k)
  have big : 10 * SetTable.turns t.mask ≤ 1420 := by
    unfold SetTable.turns
    rcases R.tab.mok with e | e | e <;> omega
  unfold setSearch
  refine R.search hx hu hKf hK hb yes (fun hn => no K hn hK hb) 100000 0 none rfl (Nat.zero_le _) (by omega) fun i p hp hk => ?_
  have hi : (L.map fun p => hk3 w p.2)[i]? = some (hk3 w k) := by rw [List.getElem?_map, hp, ← hk, Option.map_some]
  have hil : i < t.place.toList.length := by
    have h1 : i < L.length := (List.getElem?_eq_some_iff.mp hp).1
    have h2 := R.tab.sz
    rw [List.length_map] at h2
    rw [Array.length_toList]; omega
  have hj := List.getElem?_eq_getElem hil
  obtain ⟨c, hc, e⟩ := R.tab.before hK hi hj
  exact ⟨c, Nat.zero_le _, hc, by rw [hj, e]⟩
theorem Is3.but {h h' : Heap} {k : K3} {b : Addr} {o : Obj} (x : Is3 h k b) (ho : h.get? a = some o) (hc : o.ExactSet) (hs : Heap.SameBut a h h') : Is3 h' k b :=
  x.stay fun c o' g hc' => by
    refine (hs.2 c fun e => ?_).trans g
    subst e
    obtain rfl : o' = o := Option.some.inj (g.symm.trans ho)
    have e2 := hc.1
    rw [hc'] at e2
    injection e2 with e2
    exact absurd e2 (by decide)
theorem relay3 {o : Obj} (ho : s.heap.get? a = some o) (hex : o.ExactSet) (hd : o.data = .set es ep t) (hrows : es.toList = L.map (row3 w)) (T0 : TabOk t (L.map fun p => hk3 w p.2)) (hfl : L.length ≤ t.mask)
    (nd : (L.map (·.2)).Nodup) (tup : ∀ p ∈ L, Is3 s.heap p.2 p.1) (pl : t.plain = true) (ld : w.params.followText "set-order" = true ∨ t.led = true) (few : L.length < 64) {wanted M : Nat}
    (hw : SetTable.sizeAbove wanted - 1 = M) (hM : MaskOk M) (hw2 : SetTable.sizeAbove wanted ≤ 128) (hn : L.length * 5 < M * 3) {Q : Unit → Shared → Prop}
    (hQ : ∀ h' L' es' ep' t', Heap.SameBut a s.heap h' → Set3 w h' a L' es' ep' t' → L'.Perm L → Q () { s with heap := h' }) : wpAny (model P w) A (setRelay a wanted) Q E s := by
  have hsl : es.size = L.length := by
    have h := congrArg List.length hrows
    rwa [Array.length_toList, List.length_map] at h
  obtain ⟨t', order, e, hp, T, em, el, ep', ed⟩ := relaid_ok t (hs := es.map (·.1)) (wanted := wanted) hw hM (by rw [Array.size_map, hsl]; omega)
  rw [Array.size_map, hsl] at hp
  -- the rows in their new order
  obtain ⟨L2, e2⟩ : ∃ L2 : List (Addr × K3), L2 = order.toList.filterMap fun i => L[i]? := ⟨_, rfl⟩
  have ent : ∀ i, es[i]? = (L[i]?).map (row3 w) := fun i => by rw [← Array.getElem?_toList, hrows, List.getElem?_map]
  have r1 : (order.filterMap (es[·]?)).toList = L2.map (row3 w) := by
    have : order.toList.filterMap (fun i => es[i]?) = L2.map (row3 w) := by
      rw [e2, List.map_filterMap]
      exact congrArg (fun f => order.toList.filterMap f) (funext ent)
    first | (rw [Array.toList_filterMap]; exact this) | simpa using this
  have r2 : L2.Perm L := by
    have h1 : L2.Perm ((List.range L.length).filterMap fun i => L[i]?) := by rw [e2]; exact hp.filterMap _
    have key : ∀ n, n ≤ L.length → (List.range n).filterMap (fun i => L[i]?) = L.take n := by
      intro n
      induction n with
      | zero => intro _; rfl
      | succ n ih =>
        intro hn
        rw [List.range_succ, List.filterMap_append, ih (by omega), List.take_succ, List.getElem?_eq_getElem hn, List.filterMap_cons_some (List.getElem?_eq_getElem hn)]; rfl
    rwa [key L.length (Nat.le_refl _), List.take_length] at h1
  have r3 : (L2.map fun p => hk3 w p.2) = order.toList.map fun i => (es.map (·.1)).getD i 0 := by
    rw [e2]
    have key : ∀ l : List Nat, (∀ i ∈ l, i < L.length) → (l.filterMap fun i => L[i]?).map (fun p => hk3 w p.2) = l.map fun i => (es.map (·.1)).getD i 0 := by
      intro l
      induction l with
      | nil => intro _; rfl
      | cons i l ih =>
        intro hl
        have hi := hl i (by simp)
        rw [List.filterMap_cons_some (List.getElem?_eq_getElem hi), List.map_cons, List.map_cons, ih fun j hj => hl j (by simp [hj])]
        congr 1
        rw [Array.getD_eq_getD_getElem?, Array.getElem?_map, ent, List.getElem?_eq_getElem hi, Option.map_some, Option.map_some, Option.getD_some, row3]
    exact key _ fun i hi => List.mem_range.mp (hp.mem_iff.mp hi)
  rw [← r3] at T
  have hs2 : (order.filterMap (es[·]?)).size = es.size := by
    have h := congrArg List.length r1
    rw [Array.length_toList, List.length_map, r2.length_eq] at h
    rw [h, hsl]
  rw [setRelay_eq]
  refine wpAny_bind (wpAny_setState_of ho hd (fits_of T0 (by rw [List.length_map, hsl]) (by rw [hsl]; exact hfl)) ?_)
  dsimp only
  refine wp_if_neg (by rw [sizeLine_eq]; omega) ?_
  try refine wpAny_bind (wpAny_pure ?_)
  rw [e]
  dsimp only
  refine wpAny_bind ?_
  refine wp_if_neg (by rw [hs2]; simp) ?_
  try refine wpAny_bind (wpAny_pure ?_)
  refine wpAny_pure ?_
  dsimp only
  refine wpAny_storeSet_of ho hd ?_ (by rw [hs2, hsl, sizeLine_eq]; omega)
  have sb : Heap.SameBut a s.heap (s.heap.update a (Obj.putSet (order.filterMap (es[·]?)) t')) := Heap.SameBut.update ..
  refine hQ _ L2 (order.filterMap (es[·]?)) (ep + 1) t' sb ⟨⟨_, store_at ho hd, ⟨hex.1, hex.2.1, hex.2.2⟩, rfl⟩, r1, T, (r2.map (·.2)).nodup_iff.mpr nd, fun p hpm => (tup p (r2.mem_iff.mp hpm)).but ho hex sb, by rw [ep']; exact pl, by rw [el]; exact ld, by rw [r2.length_eq, em]; exact hn, by rw [r2.length_eq]; exact few⟩ r2
theorem Set3.add (R : Set3 w s.heap a L es ep t) {x : Addr} {k : K3} (hx : Is3 s.heap k x) (hu : A.units + 8 < cLine) (hfew : L.length + 1 < 64) {Q : Bool → Shared → Prop}
    (hQ : ∀ b h' L' es' ep' t', Heap.SameBut a s.heap h' → Set3 w h' a L' es' ep' t' → (k ∈ L.map (·.2) → L' = L) → (k ∉ L.map (·.2) → L'.Perm ((x, k) :: L)) → Q b { s with heap := h' }) :
    wpAny (model P w) A (setAddHashed a (.ref x) (hk3 w k)) Q E s := by
  obtain ⟨o, ho, hex, hd⟩ := R.ob
  have hsl := R.size
  have hroom := R.room
  unfold setAddHashed
  refine wpAny_holding ?_
  rw [show (100000 : Nat) = 99999 + 1 from rfl, setAddHashedIn_succ]
  refine wpAny_bind (wpAny_setState_of ho hd R.fits ?_)
  dsimp only
  refine wp_if_neg (by simp [byScan, Value.scannable]) ?_
  try refine wpAny_bind (wpAny_pure ?_)
  refine wpAny_bind (R.find hx hu (fun hm => ?_) fun K hm hK hb => ?_)
  · dsimp only
    exact wpAny_pure (hQ false s.heap L es ep t (Heap.SameBut.refl a s.heap) R (fun _ => rfl) fun z => absurd hm z)
  · dsimp only
    refine wpAny_bind (wpAny_setState_of ho hd R.fits ?_)
    dsimp only
    obtain ⟨q1, q2, q3, q4, q5, q6, q7, q8, q9⟩ := R.tab.put hK hb
    have hp1 : (t.put (way t.mask (hk3 w k) K)).1.plain = true := by rw [q6]; exact R.plain
    generalize t.put (way t.mask (hk3 w k) K) = pt at q1 q3 q4 q5 q6 q7 q8 q9 hp1 ⊢
    obtain ⟨t1, p⟩ := pt
    dsimp only at q1 q3 q4 q5 q6 q7 q8 q9 hp1 ⊢
    subst q1
    first
      | (refine wpAny_bind ?_; refine wp_if_pos hp1 ?_; refine hx.byVal ?_)
      | refine wp_if_pos hp1 (wpAny_bind (hx.byVal ?_))
    simp only [if_true]
    generalize SetTable.below t.place (way t.mask (hk3 w k) K) = p at q2 q3 ⊢
    have hin : (SetTable.insertAt es p (hk3 w k, Value.ref x)).toList = (L.take p ++ (x, k) :: L.drop p).map (row3 w) := by
      rw [SetTable.toList_insertAt, R.rows, List.map_append, List.map_cons, List.map_take, List.map_drop, row3]
    have pm : (L.take p ++ (x, k) :: L.drop p).Perm ((x, k) :: L) := put_perm L p (x, k)
    have hhs : (L.take p ++ (x, k) :: L.drop p).map (fun p => hk3 w p.2) = (L.map fun p => hk3 w p.2).take p ++ hk3 w k :: (L.map fun p => hk3 w p.2).drop p := by
      rw [List.map_append, List.map_cons, List.map_take, List.map_drop]
    rw [← hhs] at q3
    generalize L.take p ++ (x, k) :: L.drop p = L1 at pm q3 hin
    have hlen : L1.length = L.length + 1 := pm.length_eq
    have nd1 : (L1.map (·.2)).Nodup := by
      refine (pm.map (·.2)).nodup_iff.mpr ?_
      rw [List.map_cons]
      exact List.nodup_cons.mpr ⟨hm, R.nd⟩
    have hes : (SetTable.insertAt es p (hk3 w k, Value.ref x)).size = L.length + 1 := by
      have h := congrArg List.length hin
      rwa [Array.length_toList, List.length_map, hlen] at h
    generalize SetTable.insertAt es p (hk3 w k, Value.ref x) = es1 at hin hes ⊢
    refine wpAny_bind (wpAny_storeSet_of ho hd ?_ (by rw [hes, sizeLine_eq]; omega))
    have sb : Heap.SameBut a s.heap (s.heap.update a (Obj.putSet es1 t1)) := Heap.SameBut.update ..
    have ho1 := store_at (es' := es1) (t' := t1) ho hd
    generalize s.heap.update a (Obj.putSet es1 t1) = h1 at sb ho1 ⊢
    have tup1 : ∀ p ∈ L1, Is3 h1 p.2 p.1 := fun p hp => by
      rcases List.mem_cons.mp (pm.mem_iff.mp hp) with e | hp
      · rw [e]; exact hx.but ho hex sb
      · exact (R.tup p hp).but ho hex sb
    have ld1 : w.params.followText "set-order" = true ∨ t1.led = true := by rw [q5]; exact R.led
    by_cases hf : t1.tooFull = true
    · first
        | (refine wpAny_bind ?_; refine wp_if_pos (by simp [hf]) ?_)
        | (refine wp_if_pos (by simp [hf]) ?_; refine wpAny_bind ?_)
      have hfull : (L.length + 1) * 5 ≥ t1.mask * 3 := by
        have h := hf
        unfold SetTable.tooFull at h
        rw [decide_eq_true_eq, q9, List.length_map] at h
        exact h
      rw [hsl]
      have go : ∀ M, SetTable.sizeAbove (SetTable.grown (L.length + 1)) - 1 = M → MaskOk M → SetTable.sizeAbove (SetTable.grown (L.length + 1)) ≤ 128 → (L.length + 1) * 5 < M * 3 → L.length + 1 ≤ t1.mask →
          wpAny (model P w) A (setRelay a (SetTable.grown (L.length + 1))) (fun _ s' => wpAny (model P w) A (pure true) Q E s') E { s with heap := h1 } := fun M h1' h2' h3' h4' h5' => by
        refine relay3 (s := { s with heap := h1 }) ho1 ⟨hex.1, hex.2.1, hex.2.2⟩ rfl hin q3 (by rw [hlen]; exact h5') nd1 tup1 hp1 ld1 (by rw [hlen]; exact hfew) h1' h2' h3' (by rw [hlen]; exact h4') ?_
        intro h2 L2 es2 ep2 t2 sb2 R2 pm2
        exact wpAny_pure (hQ true h2 L2 es2 ep2 t2 (sb.trans sb2) R2 (fun z => absurd z hm) fun _ => pm2.trans pm)
      rcases R.tab.mok with e | e | e
      · have e2 : L.length = 4 := by rw [q4, e] at hfull; rw [e] at hroom; omega
        refine go 31 (by rw [e2, size_20]) (.inr (.inl rfl)) (by rw [e2, size_20]; decide) (by omega) (by rw [q4, e]; omega)
      · have e2 : L.length = 18 := by rw [q4, e] at hfull; rw [e] at hroom; omega
        refine go 127 (by rw [e2, size_76]) (.inr (.inr rfl)) (by rw [e2, size_76]; decide) (by omega) (by rw [q4, e]; omega)
      · exfalso; rw [q4, e] at hfull; omega
    · first
        | refine wp_if_neg (by simp [hf]) ?_
        | (refine wpAny_bind ?_; refine wp_if_neg (by simp [hf]) ?_; refine wpAny_pure ?_)
      refine wpAny_pure (hQ true h1 L1 es1 (ep + 1) t1 sb ⟨⟨_, ho1, ⟨hex.1, hex.2.1, hex.2.2⟩, rfl⟩, hin, q3, nd1, tup1, hp1, ld1, ?_, by rw [hlen]; exact hfew⟩ (fun z => absurd z hm) fun _ => pm)
      have h := hf
      unfold SetTable.tooFull at h
      rw [decide_eq_true_eq, q9, List.length_map] at h
      rw [hlen]; omega
end
end Pm
set_option Elab.async false
set_option linter.all false
set_option maxRecDepth 100000
set_option maxHeartbeats 1000000
set_option autoImplicit false
namespace Pm
open PySem PySem.Spec
open L2
theorem cut_mid {α : Type} (xs : List α) (a b : Nat) (h : b ≤ xs.length) : cut xs (some (a : Int)) (some (b : Int)) = (xs.drop a).take (b - a) := by
  unfold cut
  rw [HT.sIx_nat, HT.sIx_nat, Nat.min_eq_left h]
  by_cases c : a ≤ xs.length
  · rw [Nat.min_eq_left c]
  · rw [Nat.min_eq_right (by omega), List.drop_eq_nil_of_le (Nat.le_refl _), List.drop_eq_nil_of_le (by omega)]; simp
end Pm
set_option Elab.async false
set_option linter.all false
set_option maxRecDepth 100000
set_option maxHeartbeats 1000000
set_option autoImplicit false
namespace Pm
open PySem PySem.Spec
open L2
structure Stp where
  u : Int
  v : Int
  i : Nat
  up : Bool
abbrev Rb := List (Int × Option Stp)
structure BQ (S : List Stp) (n : Nat) (a : Int) (kds : Rb) (w : List Int) (d : Int → Nat) (L : Nat) : Prop where
  nd : (kds.map (·.1)).Nodup
  rg : ∀ k : Int, k ∈ kds.map (·.1) → 0 ≤ k ∧ k < (n : Int)
  a0 : (a, none) ∈ kds
  par : ∀ q ∈ kds, q = (a, none) ∨ ∃ s, q = (s.v, some s) ∧ s ∈ S ∧ s.u ∈ kds.map (·.1) ∧ d s.v = d s.u + 1
  wk : ∀ x ∈ w, x ∈ kds.map (·.1)
  wn : w.Nodup
  d0 : d a = 0
  so : w.Pairwise fun x y => d x ≤ d y
  lo : ∀ x ∈ w, L ≤ d x
  hi : ∀ x ∈ kds.map (·.1), d x ≤ L + 1
def ClX (S T : List Stp) (kds : Rb) (w : List Int) (d : Int → Nat) (here : Int) : Prop := ∀ u ∈ kds.map (·.1), u ∉ w → ∀ s ∈ S, s.u = u → (u = here → s ∈ T) → s.v ∈ kds.map (·.1) ∧ d s.v ≤ d u + 1
section
variable {S T : List Stp} {n L : Nat} {a here : Int} {kds : Rb} {w : List Int} {d : Int → Nat}
theorem BQ.add {s : Stp} (q : BQ S n a kds w d (d here)) (c : ClX S T kds w d here) (hh : here ∈ kds.map (·.1)) (hw : here ∉ w) (hs : s ∈ S) (hu : s.u = here) (hv : s.v ∉ kds.map (·.1)) (hr : 0 ≤ s.v ∧ s.v < n) :
    ∃ d' : Int → Nat, d' here = d here ∧ BQ S n a (kds ++ [(s.v, some s)]) (w ++ [s.v]) d' (d' here) ∧ ClX S (T ++ [s]) (kds ++ [(s.v, some s)]) (w ++ [s.v]) d' here := by
  have hne : here ≠ s.v := fun z => hv (by rw [← z]; exact hh)
  let d' : Int → Nat := fun x => if x = s.v then d here + 1 else d x
  have dk : ∀ x ∈ kds.map (·.1), d' x = d x := fun x hx => if_neg fun z : x = s.v => hv (by rw [← z]; exact hx)
  have dv : d' s.v = d here + 1 := if_pos rfl
  have dh : d' here = d here := dk here hh
  have mk : ∀ x, x ∈ (kds ++ [(s.v, some s)]).map (·.1) ↔ x ∈ kds.map (·.1) ∨ x = s.v := fun x => by rw [List.map_append, List.mem_append]; simp
  have wv : s.v ∉ w := fun z => hv (q.wk _ z)
  refine ⟨d', dh, ⟨?_, ?_, ?_, ?_, ?_, ?_, ?_, ?_, ?_, ?_⟩, ?_⟩
  · rw [List.map_append]
    exact List.nodup_append.mpr ⟨q.nd, by simp, fun x hx y hy z => hv (by rw [show s.v = y from (show y = s.v by simpa using hy).symm, ← z]; exact hx)⟩
  · intro k hk
    rcases (mk k).mp hk with h | h
    · exact q.rg k h
    · rw [h]; exact hr
  · exact List.mem_append.mpr (.inl q.a0)
  · intro x hx
    rcases List.mem_append.mp hx with hx | hx
    · rcases q.par x hx with h | ⟨y, h1, h2, h3, h4⟩
      · exact .inl h
      · refine .inr ⟨y, h1, h2, (mk _).mpr (.inl h3), ?_⟩
        have : y.v ∈ kds.map (·.1) := List.mem_map.mpr ⟨x, hx, by rw [h1]⟩
        rw [dk _ this, dk _ h3]; exact h4
    · refine .inr ⟨s, List.mem_singleton.mp hx, hs, (mk _).mpr (.inl (by rw [hu]; exact hh)), ?_⟩
      rw [dv, hu, dh]
  · intro x hx
    rcases List.mem_append.mp hx with hx | hx
    · exact (mk _).mpr (.inl (q.wk x hx))
    · exact (mk _).mpr (.inr (List.mem_singleton.mp hx))
  · exact List.nodup_append.mpr ⟨q.wn, by simp, fun x hx y hy z => wv (by rw [show s.v = y from (show y = s.v by simpa using hy).symm, ← z]; exact hx)⟩
  · have : a ∈ kds.map (·.1) := List.mem_map.mpr ⟨_, q.a0, rfl⟩
    rw [dk _ this]; exact q.d0
  · refine List.pairwise_append.mpr ⟨q.so.imp_of_mem fun {x y} hx hy h => ?_, by simp, fun x hx y hy => ?_⟩
    · rw [dk _ (q.wk x hx), dk _ (q.wk y hy)]; exact h
    · rw [show y = s.v from by simpa using hy, dv, dk _ (q.wk x hx)]
      exact q.hi x (q.wk x hx)
  · intro x hx
    rw [dh]
    rcases List.mem_append.mp hx with hx | hx
    · rw [dk _ (q.wk x hx)]; exact q.lo x hx
    · rw [show x = s.v from by simpa using hx, dv]; omega
  · intro x hx
    rw [dh]
    rcases (mk x).mp hx with h | h
    · rw [dk x h]; exact q.hi x h
    · rw [h, dv]; exact Nat.le_refl _
  · intro u h1 h2 x hx e h3
    have hu1 : u ∈ kds.map (·.1) := by
      rcases (mk u).mp h1 with h | h
      · exact h
      · exact absurd (List.mem_append.mpr (.inr (by simp [h]))) h2
    have hu2 : u ∉ w := fun z => h2 (List.mem_append.mpr (.inl z))
    have old : (u = here → x ∈ T) → x.v ∈ (kds ++ [(s.v, some s)]).map (·.1) ∧ d' x.v ≤ d' u + 1 := fun k => by
      obtain ⟨k1, k2⟩ := c u hu1 hu2 x hx e k
      exact ⟨(mk _).mpr (.inl k1), by rw [dk _ k1, dk _ hu1]; exact k2⟩
    by_cases hq : u = here
    · rcases List.mem_append.mp (h3 hq) with h4 | h4
      · exact old fun _ => h4
      · rw [List.mem_singleton.mp h4]
        refine ⟨(mk _).mpr (.inr rfl), ?_⟩
        rw [dv, hq, dh]; exact Nat.le_refl _
    · exact old fun z => absurd z hq
end
end Pm
set_option Elab.async false
set_option linter.all false
set_option maxRecDepth 100000
set_option maxHeartbeats 1000000
set_option autoImplicit false
namespace Pm
open PySem PySem.Spec
open L2
def CutG (p : Pan) (rs : List Rat) (k : Nat) (U : Nat → Bool) : Prop := U (p.rus.getD k (0, 0)).1.toNat = true ∧ U (p.rus.getD k (0, 0)).2.toNat = false ∧ ∀ j q, p.rus[j]? = some q → j ≠ k → rs.getD q.1.toNat 0 = rs.getD q.2.toNat 0 → U q.2.toNat = true → U q.1.toNat = true
end Pm
set_option Elab.async false
set_option linter.all false
set_option maxRecDepth 100000
set_option maxHeartbeats 1000000
set_option autoImplicit false
namespace Pm
open PySem PySem.Spec
open PyProof.Rows hiding St
open L2 TL
variable {γ : Type}
def strI (i : Int) : Str := Str.ofString (toString i)
def strD : D → DK → Prop
  | .int i, R => i.natAbs.log2 < 1920 ∧ R (.str (strI i))
  | .str x, R => R (.str x)
  | _, _ => False
theorem c_str {X : Cx} : CallR X (.type "str") (dCall X.K (fn1 strD)) := c1 fun pins s σ H Z d v us Q R I r k a w q => by
  cases d <;> try exact w.elim
  · simp only [At] at a; subst a
    exact call_str_int pins s σ H _ us Q I r ⟨_, rfl, w.1, dk q k w.2 rfl⟩
  · simp only [At] at a; subst a
    exact SkE.call_str_str pins s σ H _ us Q I r ⟨_, rfl, dk q k w rfl⟩
def intT : D → DK → Prop
  | .str x, R => ∃ n, PySem.intText? x = some n ∧ x.length ≤ 640 ∧ R (.int n)
  | .int i, R => R (.int i)
  | .bl b, R => R (.int (if b = true then 1 else 0))
  | _, _ => False
theorem c_intT {X : Cx} : CallR X (.type "int") (dCall X.K (fn1 intT)) := c1 fun pins s σ H Z d v us Q R I r k a w q => by
  cases d <;> try exact w.elim
  · simp only [At] at a; subst a
    exact call_int1 pins s σ H _ us Q I r (.inr ⟨_, rfl, dk q k w rfl⟩)
  · simp only [At] at a; subst a
    exact call_int1 pins s σ H _ us Q I r (.inl ⟨_, rfl, dk q k w rfl⟩)
  · simp only [At] at a; subst a
    obtain ⟨n, w1, w2, w3⟩ := w
    exact call_int_str pins s σ H _ us Q I r ⟨_, n, rfl, w1, w2, dk q k w3 rfl⟩
section
variable {X : Cx} {G : GP γ} {o e : Expr} {to te : PEx γ} {apos pos : Pos}
def qSplit (to te : PEx γ) : PAx γ := fun s R => to s fun d s1 => ∃ a, d = .str a ∧ te s1 fun e s2 => ∃ b, e = .str b ∧ (b.length == 0) = false ∧ a.length + 2 ≤ sizeLine ∧ R ((Txt.split a b).map .str) s2
theorem ats_strs {K : PySem.W.Frag} {Z : Hp} : ∀ ys : List Str, Ats K Z (ys.map .str) (ys.map V.str)
  | [] => rfl
  | y :: ys => ⟨_, _, rfl, rfl, ats_strs ys⟩
theorem qf_split (ho : QE X G o to) (he : QE X G e te) (hs : starEach [e] X.env = [(false, eval e X.env)] := by rfl) (hbase : attributeBase o "split" X.env (eval o X.env) = eval o X.env := by rfl) (hline : (apos.endLine == pos.line) = true := by rfl) :
    QF X G (.Call (.Attribute o "split" apos) [e] [] pos) (qSplit to te) := by
  refine PE.imp (pe_split ho he hs hbase hline) fun σ H Q ⟨F, Z, s, R, r, t, q⟩ => ?_
  refine ⟨F, Z, s, _, r, t, fun d s1 Z1 v H1 ⟨a, e1, t1⟩ k1 r1 a1 => ?_⟩
  subst e1
  obtain rfl : v = .str a := a1
  refine ⟨⟨a, rfl⟩, F, Z1, s1, _, r1, t1, fun d2 s2 Z2 v2 H2 ⟨b, e2, hb, hz, t2⟩ k2 r2 a2 => ?_⟩
  subst e2
  obtain rfl : v2 = .str b := a2
  refine ⟨a, b, rfl, rfl, hb, hz, fun p hp => ?_⟩
  obtain ⟨f1, f2, f3, f4⟩ := r2.fresh hp
  exact q _ s2 Z2 p _ _ t2 (k1.trans k2) (r2.grow (same_upd hp)) upd_same (ats_strs _) f1 f2 f3 f4
def qJoin (to te : PEx γ) : PEx γ := fun s R => to s fun d s1 => ∃ a, d = .str a ∧ te s1 fun e s2 => ∃ ys : List Str, (e = .lst (ys.map .str) ∨ e = .tup (ys.map .str)) ∧ (ys.map (·.length)).sum + ys.length * a.length ≤ 16777216 ∧ R (.str (Str.join a ys)) s2
theorem ats_strsE {K : PySem.W.Frag} {Z : Hp} {ys : List Str} {vs : List V} (h : Ats K Z (ys.map .str) vs) : vs = ys.map V.str := h.strs
theorem qe_join (ho : QE X G o to) (he : QE X G e te) (hK : X.K = G.K := by rfl) (hs : starEach [e] X.env = [(false, eval e X.env)] := by rfl) (hbase : attributeBase o "join" X.env (eval o X.env) = eval o X.env := by rfl) (hline : (apos.endLine == pos.line) = true := by rfl) :
    QE X G (.Call (.Attribute o "join" apos) [e] [] pos) (qJoin to te) := by
  refine PE.imp (pe_join ho he hs hbase hline) fun σ H Q ⟨F, Z, s, R, r, t, q⟩ => ?_
  refine ⟨F, Z, s, _, r, t, fun d s1 Z1 v H1 ⟨a, e1, t1⟩ k1 r1 a1 => ?_⟩
  subst e1
  obtain rfl : v = .str a := a1
  refine ⟨⟨a, rfl⟩, F, Z1, s1, _, r1, t1, fun d2 s2 Z2 v2 H2 ⟨ys, e2, hz, t2⟩ k2 r2 a2 => ?_⟩
  have fin : ∀ p, (SqL X.K H2 p (ys.map V.str) ∨ SqT X.K H2 p (ys.map V.str)) → v2 = .ref p → ∃ a' p, ∃ ys : List Str, V.str a = .str a' ∧ [v2] = [.ref p] ∧ (SqL X.K H2 p (ys.map V.str) ∨ SqT X.K H2 p (ys.map V.str)) ∧ (ys.map (·.length)).sum + ys.length * a'.length ≤ 16777216 ∧ Q (.str (Txt.join a' ys)) H2 := fun p hp e => by
    subst e
    exact ⟨a, p, ys, rfl, rfl, hp, hz, by rw [join_eq]; exact q _ s2 Z2 _ H2 t2 (k1.trans k2) r2 rfl⟩
  rcases e2 with rfl | rfl
  · simp only [At] at a2
    obtain ⟨p, vs, rfl, b2, b3⟩ := a2
    rw [ats_strsE b3] at b2
    exact fin p (.inl (.inl (.inl (r2.z _ _ b2)))) rfl
  · simp only [At] at a2
    obtain ⟨p, vs, rfl, b2, b3⟩ := a2
    rw [ats_strsE b3] at b2
    exact fin p (.inr (by rw [hK]; exact seqT r2.z b2)) rfl
def qTx1 (g : Str → Str → D) (to te : PEx γ) : PEx γ := fun s R => to s fun d s1 => ∃ a, d = .str a ∧ te s1 fun e s2 => ∃ b, e = .str b ∧ R (g a b) s2
theorem qe_tx1 {id : String} {name : Str} {g : Str → Str → V} {g' : Str → Str → D} (slot : Slot "str" name id) (ty : typeOf (.builtin id) = pure (.type "method_descriptor")) (rule : MtR X id (fun x xs H Q => ∃ a b, x = .str a ∧ xs = [.str b] ∧ Q (g a b) H)) (hg : ∀ a b Z, At G.K Z (g' a b) (g a b)) (ho : QE X G o to) (he : QE X G e te)
    (hs : starEach [e] X.env = [(false, eval e X.env)] := by rfl) (hbase : attributeBase o name X.env (eval o X.env) = eval o X.env := by rfl) (hline : (apos.endLine == pos.line) = true := by rfl) :
    QE X G (.Call (.Attribute o name apos) [e] [] pos) (qTx1 g' to te) := by
  refine PE.imp (pe_m1 slot ty rule ho he hs hbase hline) fun σ H Q ⟨F, Z, s, R, r, t, q⟩ => ?_
  refine ⟨F, Z, s, _, r, t, fun d s1 Z1 v H1 ⟨a, e1, t1⟩ k1 r1 a1 => ?_⟩
  subst e1
  obtain rfl : v = .str a := a1
  refine ⟨⟨a, rfl⟩, F, Z1, s1, _, r1, t1, fun d2 s2 Z2 v2 H2 ⟨b, e2, t2⟩ k2 r2 a2 => ?_⟩
  subst e2
  obtain rfl : v2 = .str b := a2
  exact ⟨a, b, rfl, rfl, q _ s2 Z2 _ H2 t2 (k1.trans k2) r2 (hg _ _ _)⟩
def swD (a b : Str) : D := .bl (Txt.startswith a b)
theorem qe_startswith (ho : QE X G o to) (he : QE X G e te) (hs : starEach [e] X.env = [(false, eval e X.env)] := by rfl) (hbase : attributeBase o "startswith" X.env (eval o X.env) = eval o X.env := by rfl) (hline : (apos.endLine == pos.line) = true := by rfl) :
    QE X G (.Call (.Attribute o "startswith" apos) [e] [] pos) (qTx1 swD to te) := qe_tx1 PySem.F.slot_str_startswith PySem.F.type_str_startswith mt_startswith (fun _ _ _ => rfl) ho he hs hbase hline
end
section
variable {X : Cx}
def inS (neg : Bool) : D → D → DK → Prop
  | .str x, .str z, R => ∃ c, x = ⟨#[c]⟩ ∧ R (.bl (neg ^^ decide (c ∈ z.cps.toList)))
  | _, _, _ => False
theorem o_notInS : OpR X (compareOp .NotIn) (dOp2 X.K (inS true)) := by
  intro pins s σ H x y v u Q I rx ry ⟨Z, d, e, R, k, ad, ae, h, q⟩
  cases d <;> cases e <;> try exact h.elim
  simp only [At] at ad ae
  subst ad; subst ae
  obtain ⟨c, rfl, h⟩ := h
  exact op_notIn_sign pins s σ H _ _ v u Q I rx ry ⟨c, _, rfl, rfl, dk q k h (by simp [At])⟩
def repS (x : Str) (n : Nat) : Str := ⟨(List.replicate n x.cps.toList).flatten.toArray⟩
def mulS : D → D → DK → Prop
  | .str x, .int k, R => 0 ≤ k ∧ k ≤ 1000 ∧ x.length ≤ 10000 ∧ R (.str (repS x k.toNat))
  | _, _, _ => False
theorem rep_fold (x : Array Nat) : ∀ (n : Nat) (acc : Array Nat), ((List.replicate n x).foldl (· ++ ·) acc).toList = acc.toList ++ (List.replicate n x.toList).flatten
  | 0, acc => by simp
  | n + 1, acc => by
    rw [List.replicate_succ, List.foldl_cons, rep_fold x n, Array.toList_append, List.replicate_succ, List.flatten_cons, List.append_assoc]
theorem rep_eq (x : Str) (n : Nat) : (⟨(List.replicate n x.cps).foldl (· ++ ·) #[]⟩ : Str) = repS x n := by
  refine ext_tl ?_
  show ((List.replicate n x.cps).foldl (· ++ ·) #[]).toList = _
  rw [rep_fold]
  simp [tl, repS]
theorem o_mulS : OpR X (binaryOp .Mult) (dOp2 X.K mulS) := by
  intro pins s σ H x y v u Q I rx ry ⟨Z, d, e, R, k, ad, ae, h, q⟩
  cases d <;> cases e <;> try exact h.elim
  simp only [At] at ad ae
  subst ad; subst ae
  rename_i x n
  obtain ⟨h0, h1, h2, h⟩ := h
  obtain ⟨t, rfl⟩ := rx
  obtain ⟨t', rfl⟩ := ry
  have hline : (16777216 : Nat) ≤ sizeLine := by rw [sizeLine_eq]; decide
  have hln : x.length * n.toNat ≤ 10000 * 1000 := Nat.mul_le_mul h2 (by omega)
  have lt : ∀ m : Nat, m ≤ 10000000 → PySem.Builtin.Str.tooLong m = false := fun m hm => by
    unfold PySem.Builtin.Str.tooLong
    first
      | exact decide_eq_false (by omega)
      | simp; omega
  have fin : ∀ z : Str, z = repS x n.toNat → ∀ (tk : Tok) (k' : Nat), EP X pins σ Q (.str z tk) { s with toks := k' } := fun z e tk k' => by
    subst e
    exact ⟨.str _, H, I.tok _, ⟨_, rfl⟩, dk q k h rfl⟩
  refine PySem.P.mul_str (by rw [decide_eq_false (by omega), decide_eq_false (by omega)]; rfl) (fun h3 _ => ?_) (fun _ _ => lt _ (by omega)) ?_
  · have : (1 : Int) ≤ n := by omega
    have h4 : (2 ^ 63 - 1 : Int) / 1000 ≤ (2 ^ 63 - 1) / n := by
      refine Int.le_ediv_of_mul_le (by omega) ?_
      have : (2 ^ 63 - 1 : Int) / 1000 * n ≤ (2 ^ 63 - 1) / 1000 * 1000 := Int.mul_le_mul_of_nonneg_left (by omega) (by decide)
      have h5 : ((2 ^ 63 - 1 : Int) / 1000 * 1000) ≤ 2 ^ 63 - 1 := by decide
      omega
    have h6 : (10000 : Int) ≤ (2 ^ 63 - 1) / 1000 := by decide
    omega
  · by_cases c1 : n < 1
    · rw [if_pos c1]
      have : n = 0 := by omega
      subst this
      exact ⟨by decide, fin _ (ext_tl (by simp [tl, repS]; rfl)) _ _⟩
    · rw [if_neg c1]
      by_cases c2 : (n == 1 || x.length == 0) = true
      · rw [if_pos c2]
        have e : x = repS x n.toNat := by
          refine ext_tl ?_
          rcases Bool.or_eq_true_iff.mp c2 with c | c
          · have : n = 1 := by simpa using c
            subst this
            simp [tl, repS]
          · have : tl x = [] := (len0_tl x).mp (by simpa using c)
            have e2 : x.cps.toList = [] := this
            simp only [tl, repS, e2]
            generalize n.toNat = m
            induction m with
            | zero => rfl
            | succ m ih => simpa [List.replicate_succ] using ih
        have := fin x e t s.toks
        exact this
      · rw [if_neg c2]
        refine ⟨?_, fin _ (rep_eq _ _) _ _⟩
        have hl : (⟨(List.replicate n.toNat x.cps).foldl (· ++ ·) #[]⟩ : Str).length = x.length * n.toNat := by
          rw [rep_eq, len_tl, len_tl]
          simp only [tl, repS, List.length_flatten, List.map_replicate, List.sum_replicate_nat]
          exact Nat.mul_comm _ _
        rw [hl]; omega
end
def xFor (ti : PAx γ) (tg : Tg) (tb : PSXx γ) : PSXx γ := fun w => qFor ti tg (tb w)
section
variable {X : Cx} {G : GP γ} {W : WX} {pos : Pos} {e : Expr}
theorem qsx_for {iter tg : Expr} {body : List Stmt} {ti : PAx γ} {t : Tg} {tb : PSXx γ} (hp : PassesOwn (model X.prog X.w) X.A X.env X.xe) (hc : X.calm = true) (hi : QI X G tg iter ti) (hg : QG' X G tg t) (hb : QSXs X G W body tb)
    (hs : ∀ x, foldedSetIterable iter X.env x = pure x := by intro _; rfl) : QSX X G W (.For tg iter body [] pos) (xFor ti t tb) := by
  refine PS.imp (ps_for hp hc hi hg hb hs) fun De σ H ⟨F, Z, s, E, w, r, ww, n, rt, bk, ct, ex⟩ => ?_
  refine ⟨F, Z, s, _, r, ww, fun ds s1 Z1 H1 J w1 k1 r1 wJ => ?_⟩
  obtain ⟨I, ⟨s0, wk0, i0⟩, turn, done⟩ := w1
  refine ⟨fun i m σ H => m = ds.length - i ∧ i ≤ ds.length ∧ ∃ Z' s', Same Z1 Z' ∧ Rel G F Z' s' σ H ∧ I i s', ⟨ds.length, rfl, Nat.zero_le _, Z1, s0, Same.refl _, r1.weak wk0, i0⟩, ?_⟩
  rintro i m σ2 H2 ⟨hm, hi, Z2, s2, k2, r2, i2⟩
  obtain ⟨go, stop⟩ := wJ i Z2 H2 k2 r2.z
  by_cases hlt : i < ds.length
  · obtain ⟨g1, y1⟩ := go ds[i] (List.getElem?_eq_getElem hlt)
    refine .inr ⟨g1, fun σ' H' => ∃ Z' s', Same Z1 Z' ∧ Rel G F Z' s' σ' H' ∧ I (i + 1) s', fun σ' H' h => ⟨ds.length - (i + 1), by omega, rfl, hlt, h⟩, fun x H3 y => ?_⟩
    obtain ⟨Z3, x3, a3⟩ := y1 x H3 y
    have r3 := r2.ext x3
    have k3 := k2.trans x3.zz
    refine ⟨F, Z3, s2, ds[i], _, r3, a3, turn i ds[i] s2 (List.getElem?_eq_getElem hlt) i2, fun s4 Z4 σ4 H4 w4 k4 r4 _ _ _ => ?_⟩
    refine ⟨F, Z4, s4, _, w, r4, w4, ?_, ?_, ?_, ?_, ?_⟩
    · rintro s5 Z5 σ5 H5 ⟨s'', wk, i5⟩ k5 r5
      exact ⟨Z5, s'', (k3.trans k4).trans k5, r5.weak wk, i5⟩
    · intro d s5 Z5 σ5 v H5 q k5 r5 a5
      exact rt d s5 Z5 σ5 v H5 q (((k1.trans k3).trans k4).trans k5) r5 a5
    · intro s5 Z5 σ5 H5 q k5 r5
      exact n s5 Z5 σ5 H5 q (((k1.trans k3).trans k4).trans k5) r5
    · rintro s5 Z5 σ5 H5 ⟨s'', wk, i5⟩ k5 r5
      exact ⟨Z5, s'', (k3.trans k4).trans k5, r5.weak wk, i5⟩
    · intro x s5 Z5 σ5 cls d H5 q k5 r5 a5
      exact ex x s5 Z5 σ5 cls d H5 q (((k1.trans k3).trans k4).trans k5) r5 a5
  · have e : i = ds.length := by omega
    subst e
    exact .inl ⟨stop rfl, n s2 Z2 σ2 H2 (done s2 i2) (k1.trans k2) r2⟩
end
end Pm
set_option Elab.async false
set_option linter.all false
set_option maxRecDepth 100000
set_option maxHeartbeats 1000000
set_option autoImplicit false
namespace Pm
open PySem PySem.Spec
open PyProof.Rows hiding St
open L2 TL
abbrev mkS (l : List Nat) : Str := ⟨l.toArray⟩
theorem tl_mkS (l : List Nat) : tl (mkS l) = l := rfl
theorem str_of {x : Str} {l : List Nat} (h : tl x = l) : x = mkS l := ext_tl (by rw [h])
def intL (i : Int) : List Nat := if i < 0 then 45 :: numL i.natAbs else numL i.natAbs
theorem tl_strI (i : Int) : tl (strI i) = intL i := by
  unfold strI intL
  by_cases h : i < 0
  · rw [if_pos h]
    obtain ⟨n, rfl⟩ : ∃ n : Nat, i = Int.negSucc n := ⟨i.natAbs - 1, by omega⟩
    rw [tl_ofString]
    have e : toString (Int.negSucc n) = "-" ++ Nat.repr (n + 1) := rfl
    rw [e, String.toList_append, List.map_append]
    show 45 :: _ = 45 :: _
    congr 1
    rw [Nat.toList_repr]
    rfl
  · rw [if_neg h]
    obtain ⟨n, rfl⟩ : ∃ n : Nat, i = (n : Int) := ⟨i.natAbs, by omega⟩
    exact tl_num n
theorem strI_eq (i : Int) : strI i = mkS (intL i) := str_of (tl_strI i)
theorem intL_mem {i : Int} {c : Nat} (h : c ∈ intL i) : c = 45 ∨ (48 ≤ c ∧ c ≤ 57) := by
  unfold intL at h
  split at h
  · rcases List.mem_cons.mp h with h | h
    · exact .inl h
    · exact .inr (numL_digits _ c h)
  · exact .inr (numL_digits _ c h)
theorem intL_len {i : Int} {k : Nat} (hk : 0 < k) (h : i.natAbs < 10 ^ k) : (intL i).length ≤ k + 1 := by
  have := numL_len hk h
  unfold intL
  split
  · simp only [List.length_cons]; omega
  · omega
def isDg (c : Nat) : Bool := decide (48 ≤ c) && decide (c ≤ 57)
theorem isDg_iff {c : Nat} : isDg c = true ↔ 48 ≤ c ∧ c ≤ 57 := by simp [isDg]
theorem isDg_all {l : List Nat} : l.all isDg = true ↔ NumText.AllDigits l := by
  rw [List.all_eq_true]
  exact ⟨fun h c hc => isDg_iff.mp (h c hc), fun h c hc => isDg_iff.mpr (h c hc)⟩
def bodyL : List Nat → List Nat
  | 45 :: r => r
  | l => l
theorem bodyL_neg (r : List Nat) : bodyL (45 :: r) = r := rfl
theorem bodyL_pos {l : List Nat} (h : l.head? ≠ some 45) : bodyL l = l := by
  unfold bodyL
  split
  · exact absurd rfl h
  · rfl
def valL (l : List Nat) : Int := if l.head? = some 45 then -(NumText.digitsVal (bodyL l) : Int) else (NumText.digitsVal (bodyL l) : Int)
def readI (l : List Nat) : Option Int :=
  if bodyL l = [] ∨ (bodyL l).all isDg = false then none else if (bodyL l).head? = some 48 ∧ l ≠ [48] then none else some (valL l)
theorem digitsVal_snoc' (l : List Nat) (c : Nat) : NumText.digitsVal (l ++ [c]) = NumText.digitsVal l * 10 + (c - 48) := by
  unfold NumText.digitsVal
  rw [List.foldl_append]; rfl
theorem numL_back : ∀ (n : Nat) (l : List Nat), l.length = n → l ≠ [] → NumText.AllDigits l → (l.head? = some 48 → l = [48]) → numL (NumText.digitsVal l) = l ∧ (l ≠ [48] → 0 < NumText.digitsVal l) := by
  intro n
  induction n with
  | zero => intro l h hn; exact absurd (List.length_eq_zero_iff.mp h) hn
  | succ n ih =>
    intro l h hn hd hz
    obtain ⟨m, c, rfl⟩ : ∃ m c, l = m ++ [c] := ⟨l.dropLast, l.getLast hn, (List.dropLast_concat_getLast hn).symm⟩
    have hc : 48 ≤ c ∧ c ≤ 57 := hd c (by simp)
    have hm : NumText.AllDigits m := fun x hx => hd x (by simp [hx])
    rw [digitsVal_snoc']
    by_cases m0 : m = []
    · subst m0
      have : NumText.digitsVal [] = 0 := rfl
      rw [this]
      refine ⟨?_, fun hne => ?_⟩
      · rw [numL_lt (by omega)]
        simp only [List.nil_append, List.cons.injEq, and_true]; omega
      · have : c ≠ 48 := fun e => hne (by rw [e]; rfl)
        omega
    · have hm1 : m ≠ [48] := fun e => by
        subst e
        have := hz rfl
        simp at this
      have hz' : m.head? = some 48 → m = [48] := fun e => by
        have : (m ++ [c]).head? = some 48 := by
          cases m with
          | nil => exact absurd rfl m0
          | cons a r => simpa using e
        have := hz this
        cases m with
        | nil => exact absurd rfl m0
        | cons a r => simp at this
      obtain ⟨i1, i2⟩ := ih m (by simp at h; exact h) m0 hm hz'
      have p := i2 hm1
      refine ⟨?_, fun _ => by omega⟩
      rw [numL_step (by omega)]
      have e1 : (NumText.digitsVal m * 10 + (c - 48)) / 10 = NumText.digitsVal m := by omega
      have e2 : (NumText.digitsVal m * 10 + (c - 48)) % 10 = c - 48 := by omega
      rw [e1, e2, i1]
      congr 2; omega
theorem readI_back {l : List Nat} {i : Int} (h : readI l = some i) : l = intL i := by
  unfold readI at h
  split at h
  · cases h
  rename_i h1
  split at h
  · cases h
  rename_i h2
  cases h
  have n1 : bodyL l ≠ [] := fun e => h1 (.inl e)
  have d1 : NumText.AllDigits (bodyL l) := isDg_all.mp (by
    cases e : (bodyL l).all isDg with
    | true => rfl
    | false => exact absurd (.inr e) h1)
  unfold valL intL
  by_cases hn : l.head? = some 45
  · obtain ⟨r, rfl⟩ : ∃ r, l = 45 :: r := by
      cases l with
      | nil => cases hn
      | cons a r => cases hn; exact ⟨r, rfl⟩
    rw [bodyL_neg] at *
    have hz : r.head? ≠ some 48 := fun e => h2 ⟨e, by simp⟩
    obtain ⟨b1, b2⟩ := numL_back _ r rfl n1 d1 (fun e => absurd e hz)
    have p := b2 (fun e => hz (by rw [e]; rfl))
    rw [if_pos hn, if_pos (by omega)]
    have : (-(NumText.digitsVal r : Int)).natAbs = NumText.digitsVal r := by omega
    rw [this, b1]
  · rw [if_neg hn, if_neg (by omega)]
    rw [bodyL_pos hn] at *
    obtain ⟨b1, _⟩ := numL_back _ l rfl n1 d1 (fun e => by
      by_cases z : l = [48]
      · exact z
      · exact absurd ⟨e, z⟩ h2)
    rw [show ((NumText.digitsVal l : Nat) : Int).natAbs = NumText.digitsVal l from by omega, b1]
def cuts (c : Nat) : List Nat → List (List Nat)
  | [] => [[]]
  | x :: l => if x = c then [] :: cuts c l else match cuts c l with
    | [] => [[x]]
    | w :: ws => (x :: w) :: ws
theorem cuts_ne (c : Nat) : ∀ l, cuts c l ≠ []
  | [] => by simp [cuts]
  | x :: l => by
    unfold cuts
    split
    · simp
    · split <;> simp
theorem cuts_cons {c x : Nat} {l : List Nat} (h : x ≠ c) : ∃ w ws, cuts c l = w :: ws ∧ cuts c (x :: l) = (x :: w) :: ws := by
  cases e : cuts c l with
  | nil => exact absurd e (cuts_ne c l)
  | cons w ws => exact ⟨w, ws, rfl, by rw [cuts, if_neg h, e]⟩
theorem spl_cuts (c : Nat) : ∀ (l acc : List Nat), ∃ w ws, cuts c l = w :: ws ∧ spl [c] 0 acc l = (acc ++ w) :: ws
  | [], acc => ⟨[], [], rfl, by rw [spl_nil, List.append_nil]⟩
  | x :: l, acc => by
    by_cases h : x = c
    · subst h
      obtain ⟨w, ws, e1, e2⟩ := spl_cuts x l []
      refine ⟨[], w :: ws, by rw [cuts, if_pos rfl, e1], ?_⟩
      rw [spl_hit (by show List.take 1 (x :: l) == [x]; simp), List.append_nil]
      show acc :: spl [x] 0 [] l = _
      rw [e2]; rfl
    · obtain ⟨w, ws, e1, e2⟩ := spl_cuts c l (acc ++ [x])
      obtain ⟨w', ws', f1, f2⟩ := cuts_cons (l := l) h
      rw [e1] at f1
      cases f1
      refine ⟨x :: w, ws, f2, ?_⟩
      rw [spl_miss (by show (List.take 1 (x :: l) == [c]) = false; simp [h]), e2, List.append_assoc]; rfl
theorem split_cuts {x y : Str} {c : Nat} (hy : tl y = [c]) (hc : c < 256) : (Txt.split x y).map tl = cuts c (tl x) := by
  have hk : y.cps.all (· < 256) = true := by
    have e : y.cps = #[c] := by
      have : y.cps.toList = [c] := hy
      exact Array.toList_inj.mp this
    rw [e]; simp [hc]
  rw [split_spl x y (by rw [hy]; simp) (kind_ok hk), hy]
  obtain ⟨w, ws, e1, e2⟩ := spl_cuts c (tl x) []
  rw [e2, e1]; rfl
theorem split_eq {x y : Str} {c : Nat} (hy : tl y = [c]) (hc : c < 256) : Txt.split x y = (cuts c (tl x)).map mkS :=
  map_tl_inj (by rw [split_cuts hy hc, List.map_map]; exact (List.map_id _).symm)
def glue (c : Nat) : List (List Nat) → List Nat
  | [] => []
  | [w] => w
  | w :: ws => w ++ c :: glue c ws
theorem glue_cons {c : Nat} {w : List Nat} {ws : List (List Nat)} (h : ws ≠ []) : glue c (w :: ws) = w ++ c :: glue c ws := by
  cases ws with
  | nil => exact absurd rfl h
  | cons v ws => rfl
theorem joinL_glue (c : Nat) : ∀ ws, joinL [c] ws = glue c ws
  | [] => rfl
  | [w] => rfl
  | w :: v :: ws => by
    show w ++ ([c] ++ joinL [c] (v :: ws)) = _
    rw [joinL_glue c (v :: ws)]
    simp [glue]
theorem join_glue {y : Str} {c : Nat} (hy : tl y = [c]) (ys : List (List Nat)) : Str.join y (ys.map mkS) = mkS (glue c ys) := by
  refine ext_tl ?_
  rw [tl_join, hy, joinL_glue, List.map_map]
  show glue c (ys.map fun l => tl (mkS l)) = glue c ys
  congr 1
  exact List.map_id _
theorem cuts_app (c : Nat) (b : List Nat) : ∀ a : List Nat, cuts c (a ++ c :: b) = cuts c a ++ cuts c b
  | [] => by simp [cuts]
  | x :: a => by
    have ih := cuts_app c b a
    by_cases h : x = c
    · subst h
      rw [List.cons_append, cuts, if_pos rfl, cuts, if_pos rfl, ih]; rfl
    · obtain ⟨w, ws, e1, e2⟩ := cuts_cons (l := a) h
      obtain ⟨w', ws', f1, f2⟩ := cuts_cons (l := a ++ c :: b) h
      rw [ih, e1] at f1
      cases f1
      rw [List.cons_append, f2, e2]; rfl
theorem cuts_free {c : Nat} : ∀ {a : List Nat}, c ∉ a → cuts c a = [a]
  | [], _ => rfl
  | x :: a, h => by
    have hx : x ≠ c := fun e => h (by simp [e])
    obtain ⟨w, ws, e1, e2⟩ := cuts_cons (l := a) hx
    rw [cuts_free (fun z => h (by simp [z]))] at e1
    cases e1
    exact e2
theorem cuts_glue {c : Nat} : ∀ {ws : List (List Nat)}, ws ≠ [] → (∀ w ∈ ws, c ∉ w) → cuts c (glue c ws) = ws
  | [], h, _ => absurd rfl h
  | [w], _, h => cuts_free (h w (by simp))
  | w :: v :: ws, _, h => by
    rw [glue_cons (by simp), cuts_app, cuts_free (h w (by simp)), cuts_glue (by simp) (fun x hx => h x (by simp at hx ⊢; exact .inr hx))]; rfl
theorem glue_cuts (c : Nat) : ∀ l : List Nat, glue c (cuts c l) = l
  | [] => rfl
  | x :: l => by
    by_cases h : x = c
    · subst h
      rw [cuts, if_pos rfl, glue_cons (cuts_ne x l), glue_cuts x l]; rfl
    · obtain ⟨w, ws, e1, e2⟩ := cuts_cons (l := l) h
      have ih := glue_cuts c l
      rw [e1] at ih
      rw [e2]
      cases ws with
      | nil => exact congrArg (x :: ·) ih
      | cons v ws => exact congrArg (x :: ·) ih
theorem cuts_mem {c : Nat} : ∀ {l : List Nat} {w : List Nat}, w ∈ cuts c l → c ∉ w ∧ ∃ a b, l = a ++ w ++ b
  | [], w, h => by
    rw [List.mem_singleton.mp (show w ∈ [[]] from h)]
    exact ⟨by simp, [], [], rfl⟩
  | x :: l, w, h => by
    by_cases hx : x = c
    · subst hx
      rw [cuts, if_pos rfl] at h
      rcases List.mem_cons.mp h with rfl | h
      · exact ⟨by simp, [], x :: l, rfl⟩
      · obtain ⟨h1, a, b, h2⟩ := cuts_mem h
        exact ⟨h1, x :: a, b, by rw [h2]; rfl⟩
    · obtain ⟨v, vs, e1, e2⟩ := cuts_cons (l := l) hx
      rw [e2] at h
      rcases List.mem_cons.mp h with rfl | h
      · obtain ⟨h1, _⟩ := cuts_mem (c := c) (l := l) (w := v) (by rw [e1]; simp)
        have g := glue_cuts c l
        rw [e1] at g
        refine ⟨by simp [Ne.symm hx, h1], [], ?_⟩
        cases vs with
        | nil => exact ⟨[], by rw [← g]; simp [glue]⟩
        | cons u vs => exact ⟨c :: glue c (u :: vs), by rw [← g, glue_cons (by simp)]; simp⟩
      · obtain ⟨h1, a, b, h2⟩ := cuts_mem (c := c) (l := l) (w := w) (by rw [e1]; simp [h])
        exact ⟨h1, x :: a, b, by rw [h2]; rfl⟩
theorem cuts_len {c : Nat} : ∀ l : List Nat, (cuts c l).length ≤ l.length + 1
  | [] => by simp [cuts]
  | x :: l => by
    have ih := cuts_len (c := c) l
    by_cases h : x = c
    · rw [cuts, if_pos h]; simp; omega
    · obtain ⟨w, ws, e1, e2⟩ := cuts_cons (l := l) h
      rw [e1] at ih
      rw [e2]; simp at ih ⊢; omega
def RunOk (m : Nat) (l : List Nat) : Prop := ∀ a b c, l = a ++ b ++ c → b.all isDg = true → b.length ≤ m
theorem RunOk.sub {m : Nat} {l w a b : List Nat} (h : RunOk m l) (e : l = a ++ w ++ b) : RunOk m w := fun a' b' c' e' d =>
  h (a ++ a') b' (c' ++ b) (by rw [e, e']; simp) d
theorem RunOk.mono {m k : Nat} {l : List Nat} (h : RunOk m l) (hk : m ≤ k) : RunOk k l := fun a b c e d => Nat.le_trans (h a b c e d) hk
theorem RunOk.len {m : Nat} {l : List Nat} (h : l.length ≤ m) : RunOk m l := fun a b c e _ => by
  rw [e] at h
  simp at h; omega
theorem app_split {α : Type} {x y a b c : List α} (e : x ++ y = a ++ b ++ c) : (∃ c', x = a ++ b ++ c') ∨ (∃ a', y = a' ++ b ++ c) ∨ ∃ b1 b2 a' c', b = b1 ++ b2 ∧ x = a' ++ b1 ∧ y = b2 ++ c' ∧ x = a ++ b1 ∧ y = b2 ++ c := by
  rw [List.append_assoc] at e
  rcases List.append_eq_append_iff.mp e with ⟨z, rfl, h⟩ | ⟨z, rfl, h⟩
  · -- a = x ++ z, y = z ++ (b ++ c)
    exact .inr (.inl ⟨z, by rw [h]; simp⟩)
  · -- x = a ++ z, b ++ c = z ++ y
    rcases List.append_eq_append_iff.mp h with ⟨w, rfl, h2⟩ | ⟨w, rfl, h2⟩
    · exact .inl ⟨w, by simp⟩
    · exact .inr (.inr ⟨z, w, a, c, rfl, rfl, h2, rfl, h2⟩)
theorem RunOk.app {m k : Nat} {x y : List Nat} (h1 : RunOk m x) (h2 : RunOk k y) : RunOk (m + k) (x ++ y) := fun a b c e d => by
  rcases app_split e with ⟨c', e1⟩ | ⟨a', e1⟩ | ⟨b1, b2, _, _, rfl, _, _, e1, e2⟩
  · have := h1 a b c' e1 d; omega
  · have := h2 a' b c e1 d; omega
  · rw [List.all_append, Bool.and_eq_true] at d
    have i1 := h1 a b1 [] (by simpa using e1) d.1
    have i2 := h2 [] b2 c (by simpa using e2) d.2
    simp; omega
theorem RunOk.part {m : Nat} {x y : List Nat} {s : Nat} (h1 : RunOk m x) (h2 : RunOk m y) (hs : isDg s = false) : RunOk m (x ++ s :: y) := fun a b c e d => by
  rcases app_split e with ⟨c', e1⟩ | ⟨a', e1⟩ | ⟨b1, b2, _, _, rfl, _, _, e1, e2⟩
  · exact h1 a b c' e1 d
  · cases a' with
    | nil =>
      cases b with
      | nil => simp
      | cons t b =>
        simp only [List.nil_append, List.cons_append, List.cons.injEq] at e1
        obtain ⟨rfl, _⟩ := e1
        simp [hs] at d
    | cons t a' =>
      simp only [List.cons_append, List.cons.injEq] at e1
      exact h2 a' b c e1.2 d
  · cases b2 with
    | nil =>
      rw [List.all_append, Bool.and_eq_true] at d
      have := h1 a b1 [] (by simpa using e1) d.1
      simpa using this
    | cons t b2 =>
      simp only [List.cons_append, List.cons.injEq] at e2
      obtain ⟨rfl, _⟩ := e2
      simp [hs] at d
theorem RunOk.nil {m : Nat} : RunOk m [] := RunOk.len (by simp)
theorem RunOk.glue {m c : Nat} (hc : isDg c = false) : ∀ {ws : List (List Nat)}, (∀ w ∈ ws, RunOk m w) → RunOk m (glue c ws)
  | [], _ => RunOk.nil
  | [w], h => h w (by simp)
  | w :: v :: ws, h => by
    rw [glue_cons (by simp)]
    exact RunOk.part (h w (by simp)) (RunOk.glue hc fun x hx => h x (by simp at hx ⊢; exact .inr hx)) hc
theorem RunOk.cut {m c : Nat} {l w : List Nat} (h : RunOk m l) (hw : w ∈ cuts c l) : RunOk m w := by
  obtain ⟨_, a, b, e⟩ := cuts_mem hw
  exact h.sub e
theorem readI_short {m : Nat} {l : List Nat} (h : RunOk m l) (d : (bodyL l).all isDg = true) : l.length ≤ m + 1 := by
  by_cases hn : l.head? = some 45
  · obtain ⟨r, rfl⟩ : ∃ r, l = 45 :: r := by
      cases l with
      | nil => cases hn
      | cons a r => cases hn; exact ⟨r, rfl⟩
    have := h [45] r [] (by simp) d
    simp; omega
  · rw [bodyL_pos hn] at d
    have := h [] l [] (by simp) d
    omega
theorem intText_read {x : Str} (n1 : bodyL (tl x) ≠ []) (d : (bodyL (tl x)).all isDg = true) (hl : x.length ≤ 640) : PySem.intText? x = some (valL (tl x)) := by
  unfold valL
  by_cases hn : (tl x).head? = some 45
  · rw [if_pos hn]
    obtain ⟨r, e⟩ : ∃ r, tl x = 45 :: r := by
      cases e : tl x with
      | nil => rw [e] at hn; cases hn
      | cons a r => rw [e] at hn; cases hn; exact ⟨r, rfl⟩
    have n1' : r ≠ [] := by rw [e, bodyL_neg] at n1; exact n1
    have d' : r.all isDg = true := by rw [e, bodyL_neg] at d; exact d
    rw [e, bodyL_neg]
    exact PySem.intText_neg e (isDg_all.mp d') n1' (by omega)
  · rw [if_neg hn]
    rw [bodyL_pos hn] at d n1 ⊢
    exact PySem.intText_digits (isDg_all.mp d) n1 (by omega)
theorem RunOk.intL {i : Int} {k : Nat} (hk : 0 < k) (h : i.natAbs < 10 ^ k) : RunOk (k + 1) (intL i) := RunOk.len (intL_len hk h)
end Pm
set_option Elab.async false
set_option linter.all false
set_option maxRecDepth 100000
set_option maxHeartbeats 1000000
set_option autoImplicit false
namespace Pm
open PySem PySem.Spec
open PyProof.Rows hiding St
open L2 TL
theorem mkS_app (a b : List Nat) : (mkS a ++ mkS b : Str) = mkS (a ++ b) := ext_tl (by rw [tl_append])
theorem mkS_len (l : List Nat) : (mkS l).length = l.length := by rw [len_tl]
theorem log2_sz {b : Nat} {i : Int} (h : Sz b i) (hb : b ≤ 1919) : i.natAbs.log2 < 1920 := by
  by_cases h0 : i.natAbs = 0
  · rw [h0]; decide
  · exact Nat.lt_of_lt_of_le ((Nat.log2_lt h0).mpr h) (by omega)
def Pl (l : List Nat) : Prop := ∀ c ∈ l, c < 128
theorem Pl.ok {l : List Nat} (h : Pl l) : PyData.strOk (mkS l) = true := by
  unfold PyData.strOk
  rw [Array.all_eq_true_iff_forall_mem] <;> first
    | (intro c hc
       have := h c (by simpa using hc)
       simp; omega)
    | skip
theorem Pl.app {a b : List Nat} (h : Pl a) (h' : Pl b) : Pl (a ++ b) := fun c hc => (List.mem_append.mp hc).elim (h c) (h' c)
theorem Pl.cons {a : Nat} {b : List Nat} (h : a < 128) (h' : Pl b) : Pl (a :: b) := fun c hc => (List.mem_cons.mp hc).elim (fun e => e ▸ h) (h' c)
theorem Pl.nil : Pl [] := fun _ h => by cases h
theorem Pl.intL (i : Int) : Pl (intL i) := fun c hc => by rcases intL_mem hc with h | h <;> omega
theorem Pl.sub {l a w b : List Nat} (h : Pl l) (e : l = a ++ w ++ b) : Pl w := fun c hc => h c (by rw [e]; simp [hc])
theorem Pl.cut {c : Nat} {l w : List Nat} (h : Pl l) (hw : w ∈ cuts c l) : Pl w := by
  obtain ⟨_, a, b, e⟩ := cuts_mem hw
  exact h.sub e
theorem Pl.glue {c : Nat} (hc : c < 128) : ∀ {ws : List (List Nat)}, (∀ w ∈ ws, Pl w) → Pl (glue c ws)
  | [], _ => Pl.nil
  | [w], h => h w (by simp)
  | w :: v :: ws, h => by
    rw [glue_cons (by simp)]
    exact (h w (by simp)).app (Pl.cons hc (Pl.glue hc fun x hx => h x (by simp at hx ⊢; exact .inr hx)))
def frL (x : Rat) : List Nat := if x.den = 1 then intL x.num else intL x.num ++ 47 :: intL x.den
def readF (l : List Nat) : Option (Int × Int) := match (cuts 47 l).map readI with
  | [some a] => some (a, 1)
  | [some a, some b] => if 1 < b ∧ Nat.gcd a.natAbs b.natAbs = 1 then some (a, b) else none
  | _ => none
theorem intL_free {i : Int} {c : Nat} (h : c ≠ 45) (h' : c < 48 ∨ 57 < c) : c ∉ intL i := fun hc => by
  rcases intL_mem hc with e | e <;> omega
theorem frL_pl (x : Rat) : Pl (frL x) := by
  unfold frL
  split
  · exact Pl.intL _
  · exact (Pl.intL _).app (Pl.cons (by decide) (Pl.intL _))
theorem frL_no {x : Rat} {c : Nat} (h : c ≠ 45 ∧ c ≠ 47) (h' : c < 48 ∨ 57 < c) : c ∉ frL x := by
  unfold frL
  split
  · exact intL_free h.1 h'
  · intro hc
    rcases List.mem_append.mp hc with hc | hc
    · exact intL_free h.1 h' hc
    · rcases List.mem_cons.mp hc with hc | hc
      · exact h.2 hc
      · exact intL_free h.1 h' hc
theorem sz_ten {b k : Nat} {i : Int} (h : Sz b i) (hk : 2 ^ b ≤ 10 ^ k) : i.natAbs < 10 ^ k := Nat.lt_of_lt_of_le h hk
theorem frL_len {b k : Nat} {x : Rat} (h : SzR b x) (hk : 0 < k) (hb : 2 ^ b ≤ 10 ^ k) : (frL x).length ≤ 2 * k + 3 := by
  have h1 := intL_len hk (sz_ten h.1 hb)
  have h2 := intL_len (i := (x.den : Int)) hk (sz_ten h.2 hb)
  unfold frL
  split
  · omega
  · simp only [List.length_append, List.length_cons]; omega
theorem frL_run {b k : Nat} {x : Rat} (h : SzR b x) (hk : 0 < k) (hb : 2 ^ b ≤ 10 ^ k) : RunOk (k + 1) (frL x) := by
  have h1 := RunOk.intL hk (sz_ten h.1 hb)
  have h2 := RunOk.intL (i := (x.den : Int)) hk (sz_ten h.2 hb)
  unfold frL
  split
  · exact h1
  · exact h1.part h2 (by decide)
theorem readF_back {l : List Nat} {q : Int × Int} (h : readF l = some q) : ∃ x : Rat, q = (x.num, (x.den : Int)) ∧ l = frL x := by
  unfold readF at h
  have g := glue_cuts 47 l
  split at h
  · rename_i a e
    cases h
    obtain ⟨w, e1⟩ : ∃ w, cuts 47 l = [w] := by
      have := congrArg List.length e
      match hc : cuts 47 l with
      | [w] => exact ⟨w, rfl⟩
      | [] => rw [hc] at this; simp at this
      | _ :: _ :: _ => rw [hc] at this; simp at this
    rw [e1] at e g
    have ew : w = l := g
    subst ew
    have := readI_back (by simpa using e)
    exact ⟨(a : Rat), by simp, by unfold frL; rw [if_pos (by simp), this]; simp⟩
  · rename_i a b e
    split at h
    · rename_i hb
      cases h
      obtain ⟨w, v, e1⟩ : ∃ w v, cuts 47 l = [w, v] := by
        have := congrArg List.length e
        match hc : cuts 47 l with
        | [w, v] => exact ⟨w, v, rfl⟩
        | [] => rw [hc] at this; simp at this
        | [_] => rw [hc] at this; simp at this
        | _ :: _ :: _ :: _ => rw [hc] at this; simp at this
      rw [e1] at e g
      simp only [List.map_cons, List.map_nil, List.cons.injEq, and_true] at e
      have ew := readI_back e.1
      have ev := readI_back e.2
      have g : w ++ 47 :: v = l := g
      have hb0 : b.natAbs ≠ 0 := by omega
      refine ⟨⟨a, b.natAbs, hb0, hb.2⟩, ?_, ?_⟩
      · have : ((b.natAbs : Nat) : Int) = b := by omega
        simp [this]
      · unfold frL
        rw [if_neg (by show b.natAbs ≠ 1; omega), ← g, ew, ev]
        have : ((b.natAbs : Nat) : Int) = b := by omega
        simp [this]
    · cases h
  · cases h
def parseGo (k : Nat) : List (List Nat) → Except Nat (List (Int × Int))
  | [] => .ok []
  | w :: ws => match readF w with
    | none => .error k
    | some q => match parseGo (k + 1) ws with
      | .ok qs => .ok (q :: qs)
      | .error e => .error e
def parseR (l : List Nat) : Except Nat (List (Int × Int)) := parseGo 0 (cuts 32 l)
def rqs (rs : List Rat) : List (Int × Int) := rs.map fun x => (x.num, (x.den : Int))
theorem rqs_itD (rs : List Rat) : (rqs rs).map itD = rs.map frD := by
  unfold rqs
  rw [List.map_map]; rfl
theorem sp_eq : (" " : Str) = mkS [32] := by decide +kernel
theorem nl_eq : ("\n" : Str) = mkS [10] := by decide +kernel
theorem sl_eq : ("/" : Str) = mkS [47] := by decide +kernel
theorem mi_eq : ("-" : Str) = mkS [45] := by decide +kernel
theorem ze_eq : ("0" : Str) = mkS [48] := by decide +kernel
theorem em_eq : ("" : Str) = mkS [] := by decide +kernel
theorem dg_eq : ("0123456789" : Str) = mkS [48, 49, 50, 51, 52, 53, 54, 55, 56, 57] := by decide +kernel
end Pm
namespace Pm
open PySem PySem.Spec
open PyProof.Rows hiding St
open L2 TL
theorem sum_len {ls : List (List Nat)} {k : Nat} (h : ∀ l ∈ ls, l.length ≤ k) : ((ls.map mkS).map (·.length)).sum ≤ ls.length * k := by
  induction ls with
  | nil => simp
  | cons l ls ih =>
    have h1 := h l (by simp)
    have h2 := ih fun x hx => h x (by simp [hx])
    have h3 := mkS_len l
    simp only [List.map_cons, List.sum_cons, List.length_cons, Nat.succ_mul]
    omega
end Pm
namespace Pm
open PySem PySem.Spec
open PyProof.Rows hiding St
open L2 TL
end Pm
namespace Pm
open PySem PySem.Spec
open PyProof.Rows hiding St
open L2 TL
theorem sw_one (l : List Nat) (c : Nat) : Txt.startswith (mkS l) (mkS [c]) = decide (l.head? = some c) := by
  have h := PySem.StrLaws.subAt_one (mkS l) c 0
  have e : (mkS l).cps.toList[0]? = l.head? := by show l[0]? = _; cases l <;> rfl
  rw [e] at h
  unfold Txt.startswith
  rw [Bool.eq_iff_iff, decide_eq_true_iff, Bool.and_eq_true, decide_eq_true_iff]
  exact h
theorem cutS_mk (l : List Nat) (lo hi : Option Int) : cutS (mkS l) lo hi = mkS (cut l lo hi) := by
  unfold cutS cut
  rw [mkS_len]
theorem cutS_from (l : List Nat) (k : Nat) : cutS (mkS l) (some (k : Int)) none = mkS (l.drop k) := by rw [cutS_mk, cut_from]
theorem cutS_to (l : List Nat) (k : Nat) : cutS (mkS l) none (some (k : Int)) = mkS (l.take k) := by rw [cutS_mk, cut_to]
theorem head_drop {l : List Nat} (h : l.head? = some 45) : l.drop 1 = bodyL l := by
  cases l with
  | nil => cases h
  | cons a r => cases h; rfl
def sgD (c : Nat) : D := .str (mkS [c])
theorem sign_in (c : Nat) : decide (c ∈ ("0123456789" : Str).cps.toList) = isDg c := by
  rw [dg_eq]
  show decide (c ∈ [48, 49, 50, 51, 52, 53, 54, 55, 56, 57]) = _
  rw [Bool.eq_iff_iff, decide_eq_true_iff, isDg_iff]
  simp; omega
theorem all_notIn (l : List Nat) : ((l.map fun c => true ^^ isDg c).any id) = !(l.all isDg) := by
  induction l with
  | nil => rfl
  | cons c l ih =>
    rw [List.map_cons, List.any_cons, ih, List.all_cons]
    cases isDg c <;> rfl
def optI : Option Int → D
  | none => .non
  | some i => .int i
theorem eqv_str (a b : List Nat) : D.eqv (.str (mkS a)) (.str (mkS b)) = decide (a = b) := by
  show ((mkS a : Str) == mkS b) = _
  rw [Bool.eq_iff_iff, beq_iff_eq, decide_eq_true_iff]
  exact ⟨fun h => congrArg tl h, fun h => by rw [h]⟩
end Pm
namespace Pm
open PySem PySem.Spec
open PyProof.Rows hiding St
open L2 TL
def txD (l : List Nat) : D := .str (mkS l)
theorem split_map {y : Str} {c : Nat} (hy : y = mkS [c]) (hc : c < 256) (l : List Nat) : (Txt.split (mkS l) y).map D.str = (cuts c l).map txD := by
  subst hy
  rw [split_eq (c := c) rfl hc, List.map_map]; rfl
def optF : Option (Int × Int) → D
  | none => .non
  | some q => itD q
theorem optI_pln (o : Option Int) : (optI o).pln = true := by cases o <;> rfl
theorem optI_dep (o : Option Int) : (optI o).dep = 0 := by cases o <;> rfl
theorem optI_non (o : Option Int) : D.eqv (optI o) .non = o.isNone := by cases o <;> rfl
theorem opts_pln (os : List (Option Int)) : D.plns (os.map optI) = true := by
  induction os with
  | nil => rfl
  | cons o os ih => simp only [List.map_cons, D.plns, optI_pln, ih]; rfl
theorem opts_dep (os : List (Option Int)) : D.deps (os.map optI) = 0 := by
  induction os with
  | nil => rfl
  | cons o os ih => simp only [List.map_cons, D.deps, optI_dep, ih]; rfl
theorem opts_any (os : List (Option Int)) : (os.map optI).any (fun y => D.eqv y .non) = os.any Option.isNone := by
  induction os with
  | nil => rfl
  | cons o os ih => rw [List.map_cons, List.any_cons, ih, optI_non]; rfl
def prtsI (l : List Nat) : List (Option Int) := (cuts 47 l).map readI
theorem prtsI_len (l : List Nat) : (prtsI l).length ≤ l.length + 1 := by unfold prtsI; rw [List.length_map]; exact cuts_len l
theorem prtsI_ne (l : List Nat) : prtsI l ≠ [] := by unfold prtsI; simp [cuts_ne]
def prtsF : List (Option Int) → Option (Int × Int)
  | [some a] => some (a, 1)
  | [some a, some b] => if 1 < b ∧ Nat.gcd a.natAbs b.natAbs = 1 then some (a, b) else none
  | _ => none
theorem prts_cases : ∀ os : List (Option Int), os ≠ [] → ((os.any Option.isNone = true ∨ 2 < os.length) ∧ prtsF os = none) ∨
    ((os.any Option.isNone = false ∧ os.length ≤ 2) ∧ ((∃ a, os = [some a]) ∨ ∃ a b, os = [some a, some b]))
  | [], h => absurd rfl h
  | [none], _ => .inl ⟨.inl rfl, rfl⟩
  | [some a], _ => .inr ⟨⟨rfl, by simp⟩, .inl ⟨a, rfl⟩⟩
  | [none, _], _ => .inl ⟨.inl rfl, rfl⟩
  | [some _, none], _ => .inl ⟨.inl rfl, rfl⟩
  | [some a, some b], _ => .inr ⟨⟨rfl, by simp⟩, .inr ⟨a, b, rfl⟩⟩
  | a :: b :: c :: r, _ => .inl ⟨.inr (by simp), by cases a <;> cases b <;> rfl⟩
theorem readF_parts (l : List Nat) : readF l = prtsF (prtsI l) := rfl
theorem digitsVal_lt : ∀ (n : Nat) (l : List Nat), l.length = n → NumText.AllDigits l → NumText.digitsVal l < 10 ^ n := by
  intro n
  induction n with
  | zero => intro l h _; rw [List.length_eq_zero_iff.mp h]; decide
  | succ n ih =>
    intro l h hd
    have hn : l ≠ [] := fun e => by rw [e] at h; cases h
    obtain ⟨m, c, rfl⟩ : ∃ m c, l = m ++ [c] := ⟨l.dropLast, l.getLast hn, (List.dropLast_concat_getLast hn).symm⟩
    have hc : 48 ≤ c ∧ c ≤ 57 := hd c (by simp)
    have := ih m (by simp at h; exact h) (fun x hx => hd x (by simp [hx]))
    rw [digitsVal_snoc', Nat.pow_succ]
    omega
theorem readI_sz {l : List Nat} {i : Int} (hr : RunOk 600 l) (h : readI l = some i) : Sz 2500 i := by
  unfold readI at h
  split at h
  · cases h
  rename_i h1
  split at h
  · cases h
  cases h
  have d1 : (bodyL l).all isDg = true := by
    cases e : (bodyL l).all isDg with
    | true => rfl
    | false => exact absurd (.inr e) h1
  have hw : (bodyL l).length ≤ 600 := by
    by_cases hn : l.head? = some 45
    · obtain ⟨r, rfl⟩ : ∃ r, l = 45 :: r := by
        cases l with
        | nil => cases hn
        | cons a r => cases hn; exact ⟨r, rfl⟩
      exact hr [45] r [] (by simp) d1
    · rw [bodyL_pos hn] at d1 ⊢
      exact hr [] l [] (by simp) d1
  have v := digitsVal_lt _ (bodyL l) rfl (isDg_all.mp d1)
  have e : (valL l).natAbs = NumText.digitsVal (bodyL l) := by unfold valL; split <;> omega
  unfold Sz
  rw [e]
  refine Nat.lt_of_lt_of_le v (Nat.le_trans (Nat.pow_le_pow_right (by decide) hw) ?_)
  refine Nat.le_trans (Nat.pow_le_pow_left (show 10 ≤ 2 ^ 4 by decide) 600) ?_
  rw [← Nat.pow_mul]
  exact Nat.pow_le_pow_right (by decide) (by decide)
end Pm
namespace Pm
open PySem PySem.Spec
open PyProof.Rows hiding St
open L2 TL
def peX (d : D) : Xc := ⟨"ParseError", some ("place", d)⟩
def aheadR (acc : List (Int × Int)) : Except Nat (List (Int × Int)) → Except Nat (List (Int × Int))
  | .ok qs => .ok (acc ++ qs)
  | .error k => .error k
theorem aheadR_nil (r : Except Nat (List (Int × Int))) : aheadR [] r = r := by cases r <;> rfl
theorem aheadR_step {acc : List (Int × Int)} {k : Nat} {w : List Nat} {ws : List (List Nat)} {q : Int × Int} (h : readF w = some q) : aheadR acc (parseGo k (w :: ws)) = aheadR (acc ++ [q]) (parseGo (k + 1) ws) := by
  simp only [parseGo, h]
  cases parseGo (k + 1) ws with
  | ok qs => simp [aheadR]
  | error e => rfl
theorem parseGo_bad {k : Nat} {w : List Nat} {ws : List (List Nat)} (h : readF w = none) : parseGo k (w :: ws) = .error k := by simp only [parseGo, h]
end Pm
namespace Pm
open PySem PySem.Spec
open PyProof.Rows hiding St
open L2 TL
end Pm
namespace Pm
open PySem PySem.Spec
open PyProof.Rows hiding St
open L2 TL
end Pm
namespace Pm
open PySem PySem.Spec
open PyProof.Rows hiding St
open L2 TL
end Pm
namespace Pm
open PySem PySem.Spec
open PyProof.Rows hiding St
open L2 TL
theorem glue_len {ws : List (List Nat)} {c k : Nat} (h : ∀ w ∈ ws, w.length ≤ k) : (glue c ws).length ≤ ws.length * (k + 1) := by
  induction ws with
  | nil => simp [glue]
  | cons w ws ih =>
    have h1 := h w (by simp)
    have h2 := ih fun x hx => h x (by simp [hx])
    cases ws with
    | nil => simp [glue]; omega
    | cons v ws =>
      rw [glue_cons (by simp)]
      simp only [List.length_append, List.length_cons, Nat.succ_mul] at h2 ⊢
      omega
theorem fr_line {x : Rat} (h : SzR 100 x) : (frL x).length ≤ 65 ∧ RunOk 32 (frL x) := by
  have hb : (2 : Nat) ^ 100 ≤ 10 ^ 31 := by decide
  exact ⟨frL_len h (by decide) hb, frL_run h (by decide) hb⟩
theorem rtL_ok {rs : List Rat} (h : ∀ x ∈ rs, SzR 100 x) : (glue 32 (rs.map frL)).length ≤ rs.length * 66 ∧ RunOk 32 (glue 32 (rs.map frL)) ∧ Pl (glue 32 (rs.map frL)) := by
  have e : (rs.map frL).length = rs.length := List.length_map _
  refine ⟨?_, RunOk.glue (by decide) fun w hw => ?_, Pl.glue (by decide) fun w hw => ?_⟩
  · have := glue_len (ws := rs.map frL) (c := 32) (k := 65) (fun w hw => by obtain ⟨x, hx, rfl⟩ := List.mem_map.mp hw; exact (fr_line (h x hx)).1)
    rw [e] at this; exact this
  · obtain ⟨x, hx, rfl⟩ := List.mem_map.mp hw; exact (fr_line (h x hx)).2
  · obtain ⟨x, hx, rfl⟩ := List.mem_map.mp hw; exact frL_pl x
end Pm
set_option Elab.async false
set_option linter.all false
set_option maxRecDepth 100000
set_option maxHeartbeats 2000000
set_option autoImplicit false
namespace Pm
open PySem PySem.Spec
open PyProof.Rows hiding St
open L2
variable {γ : Type}
section
variable {X : Cx} {pins : List (Addr × Obj)} {σ : L2.St} {H : Hp} {s : Shared}
abbrev lamQ (X : Cx) : Str := X.env.qual ++ "<lambda>"
abbrev lamO (X : Cx) (params : Arguments) (body : Expr) (scope : Scope) (pm ctv : Value) (c' : Addr) : Obj := PySem.W.kla_obj "<lambda>" (lamQ X) params body scope (cloFrom X.env.cells scope.names []) pm c' ctv
structure LamAt (X : Cx) (params : Arguments) (body : Expr) (scope : Scope) (f c' : Addr) (H : Hp) (s : Shared) : Prop where
  ex : ∃ pm ctv, s.heap.get? f = some (lamO X params body scope pm ctv c')
  new : H f = none
  out : f ∉ frs X.stack
def TabOk (Z : Hp) (q : Str) (ps : Array Value) : Prop := TriplesOk ps.toList ∧ ∀ (pos : Pos) (v : Value), codeAmong pos ps.toList = some v → ∃ c, v = .ref c ∧ Z c = some (LamX.CodeO c q)
theorem lam_made {c P : Addr} {ps : Array Value} {params : Arguments} {body : Expr} {scope : Scope} {pos : Pos} {E Q : Value → Shared → Prop} (I : L2.Inv X pins σ H s) (TB : LamX.TabB X.base X.mg c P) (hc : X.env.code = .ref c) {Z : Hp} (kz : Same Z H) (hP : H P = some (.tbl ps)) (tb : TabOk Z (lamQ X) ps)
    (hd : defaultsOf params X.env = ([], [])) (hf : ∀ y ∈ scope.names, y.2 = .free → ∃ c, X.env.cells.lookup y.1 = some c)
    (old : ∀ (f c' : Addr) (s' : Shared), Z c' = some (LamX.CodeO c' (lamQ X)) → L2.Inv X pins σ H s' → LamAt X params body scope f c' H s' → Q (.ref f) s')
    (new : ∀ (f c' : Addr) (s' : Shared), H c' = none → L2.Inv X pins σ (upd (upd H P (.tbl (ps ++ #[rawInt pos.line, rawInt pos.col, .ref c']))) c' (LamX.CodeO c' (lamQ X))) s' →
      LamAt X params body scope f c' (upd (upd H P (.tbl (ps ++ #[rawInt pos.line, rawInt pos.col, .ref c']))) c' (LamX.CodeO c' (lamQ X))) s' → Q (.ref f) s') :
    wpAny (model X.prog X.w) X.A (eval (.Lambda params body scope pos) X.env) Q E s := by
  obtain ⟨tr, am⟩ := tb
  have here : s.heap.get? P = some { cls := .none, data := .fields ps } := I.hok P _ hP
  have afar : ∀ {b : Addr}, s.heap.objs.size ≤ b → b ∉ frs X.stack := fun {b} hb z => by
    rcases List.mem_cons.mp (I.stkSub _ z) with e | e
    · have lt := I.lt
      rw [← e] at lt
      exact absurd (Nat.lt_of_lt_of_le lt hb) (Nat.lt_irrefl _)
    · exact I.nofs hb e
  refine PySem.W.kla_eval hd ?_
  cases q : codeAmong pos ps.toList with
  | some v =>
    obtain ⟨c', rfl, hc'⟩ := am pos v q
    exact PySem.W.kla_makeFunctionHit (mg := X.mg) (c := c) (P := P) (ps := ps) (closure_ok hf) I.ok.glob (I.mod.glob.keeps I.bk) hc (TB.code.keeps I.bk) here tr q (TB.bm.keeps I.bk)
      fun ctv h' tk kp hs => old h'.objs.size c' _ hc' (I.kept fun b o e => Heap.get?_push_of_some _ (kp b o e)) ⟨⟨_, ctv, Heap.get?_push_size _ rfl⟩, I.hok.fresh hs, afar hs⟩
  | none =>
    refine PySem.W.kla_makeFunction (mg := X.mg) (c := c) (P := P) (ps := ps) (closure_ok hf) I.ok.glob (I.mod.glob.keeps I.bk) hc (TB.code.keeps I.bk) here tr q TB.gP (TB.bm.keeps I.bk) fun c' ctv h' tk kp g1 g2 rec hp => ?_
    obtain ⟨c2, oc, vs, t, e2, r1, r2, r3⟩ := rec
    cases e2
    have hs : s.heap.objs.size ≤ h'.objs.size := Nat.le_trans g1 (Nat.le_of_lt g2)
    have n0 : H c' = none := I.hok.fresh g1
    refine new h'.objs.size c' _ n0 (LamX.inv_table (t' := tk) (more := #[rawInt pos.line, rawInt pos.col, .ref c']) (h' := h'.push (lamO X params body scope ((X.mg "__name__").getD .none) ctv c')) I hP (fun b o hb e => Heap.get?_push_of_some _ (kp b o hb e)) (Heap.get?_push_of_some _ hp) g1 ⟨oc, vs, t, Heap.get?_push_of_some _ r1, r2, r3⟩)
      ⟨⟨_, ctv, Heap.get?_push_size _ rfl⟩, ?_, afar hs⟩
    have lP := Heap.lt_size here
    have m1 : h'.objs.size ≠ c' := Nat.ne_of_gt g2
    have m2 : h'.objs.size ≠ P := Nat.ne_of_gt (Nat.lt_of_lt_of_le lP hs)
    rw [upd_ne m1, upd_ne m2]
    exact I.hok.fresh hs
theorem act_at {CXg : CXT} {Eg : XK} {Ng : List Str} {qg a : Str} {sg : Scope} {g f c' : Addr} {cdg : Value} {params : Arguments} {body : Expr} {scope : Scope} {k i : Nat} {pn : List (Addr × Obj)} {xe : Value → Shared → Prop} {W : WX} {tb : XK → TE} {p1 p2 : Pos}
    (I : L2.Inv X pins σ H s) (L : LamX.LamS X.env.scope scope) (at_ : LamAt X params body scope f c' H s) (bind : ∀ pm ctv, bindArgs (PySem.W.kla_fn "<lambda>" (lamQ X) params body scope (cloFrom X.env.cells scope.names []) pm (.ref c') ctv) ⟨[], []⟩ = pure [])
    (tk : Takes ((cxOf CXg X.prog X.w X.K X.mg X.base Ng qg sg g cdg X.A X.stack s H Eg).tr pn xe) W) (room : Room (k + 1) (X.A.deeper (envOfC qg sg s.heap.objs.size g cdg)))
    (run : ∀ (A : Around) (outer : List Env) (s : Shared) (H : Hp) (E : XK), Room k (A.deeper (LamX.lamEnv X scope s.heap.objs.size f c')) → PE (LamX.lamCx X A outer s H E scope f c') body (tb E))
    (hN : Ng[i]? = some a) (hv : Vis sg a) (hd : (a == ("__debug__" : Str)) = false := by decide) (hk : (a == ("__classdict__" : Str)) = false := by decide) :
    PE ((cxOf CXg X.prog X.w X.K X.mg X.base Ng qg sg g cdg X.A X.stack s H Eg).tr pn xe) (.Call (.Name a p1) [] [] p2) (fun τ HZ Q => τ[i]? = some (some (.ref f)) ∧ HZ c' = some (LamX.CodeO c' (lamQ X)) ∧ tb (fun cls d H' => W cls d τ H') σ HZ Q) := by
  obtain ⟨⟨pm, ctv, of⟩, nf, ns⟩ := at_
  refine ⟨fun pinsZ sZ τ HZ Q J ⟨h1, h2, h3⟩ => ?_⟩
  refine wpAny_Call_Name_kw (thn ((pe_var (pos := p1) (i := i) hN hv hd hk).run pinsZ sZ τ HZ (fun v H1 => v = .ref f ∧ H1 = HZ) J ⟨.ref f, h1, rfl, rfl⟩) fun u s1 ⟨v, H1, J1, rv, ev, eH⟩ => ?_)
  subst ev
  subst eH
  obtain rfl : u = Value.ref f := rv
  have there : s1.heap.get? f = some (lamO X params body scope pm ctv c') := J1.base.keep f _ of nf ns (by intro z; exact nomatch (show f ∈ ([] : List Addr) from z))
  obtain ⟨⟨oc, vs, t, c1, c2, c3⟩, _, _⟩ := J1.hok c' _ h2
  refine PySem.W.callWith_F0 ⟨_, _, _, _, there⟩ ?_
  have rc : codeAny (model X.prog X.w) (X.A.deeper (envOfC qg sg s.heap.objs.size g cdg)) (.call (.ref f) ⟨[], []⟩) (CR (L2.CX X.prog X.w) (envOfC qg sg s.heap.objs.size g cdg :: X.stack) X.prog X.w H1 s1 Q (fun cls d H' => W cls d τ H')) s1 := by
    refine PySem.W.kla_callFunE room.depth there rfl L.co L.gen rfl ⟨c', oc, vs, t, rfl, c1, c2, c3⟩ ?_
    rw [bind]
    refine wpAny_pure (wpAny_newFunctionEnv (fun y hy => (L.own y hy).2) (fun y hy => absurd hy (by simp)) (fun h₁ n1 n2 => ⟨J1.nolimit.fresh _ n2, ?_⟩) L.kind)
    have kp : ∀ b o, s1.heap.get? b = some o → h₁.get? b = some o := fun b o e => n2.extBut b o (Nat.ne_of_lt (Heap.lt_size e)) (Heap.get?_push_of_some _ e)
    have J2 := LamX.lam_start2 (E := fun cls d H' => W cls d τ H') (f := f) (c' := c') (tk := s1.toks + ([] : List (Str × Value)).length) I L J1.env0 room.hd J1.base n1 kp
    show codeAny (model X.prog X.w) _ (.expr body (LamX.lamEnv X scope s1.heap.objs.size f c')) _ _
    refine PySem.W.kla_codeExpr (wpAny_mono ((run _ _ s1 H1 (fun cls d H' => W cls d τ H') (room.deeper _)).run [] _ σ H1 Q J2 h3) (fun v s3 ⟨w', H', J3, rv, q⟩ => ?_) fun _ _ hq => hq)
    exact ⟨w', H', J3.os, J3.bare, J3.base, J3.hok, rv, q⟩
  refine wpAny_call (codeAny_mono rc fun r s2 hr => ?_)
  cases r with
  | error e => exact passAt tk τ pinsZ H1 s1 e s2 J1 hr
  | ok fl =>
    cases fl with
    | ret u => exact J1.after hr
    | next => exact hr.elim
    | brk => exact hr.elim
    | cont => exact hr.elim
end
abbrev Out := (D → Prop) → (Xc → Prop) → Prop
abbrev SpecL := Out → (D → Prop) → Prop
def MonoO (O : Out) : Prop := ∀ A A' B B', (∀ d, A d → A' d) → (∀ x, B x → B' x) → O A B → O A' B'
def upO (O : Out) : Out := fun Rn Rx => ∃ A B, O A B ∧ (∀ d, A d → Rn d) ∧ ∀ x, B x → Rx x
theorem upO_mono (O : Out) : MonoO (upO O) := fun _ _ _ _ h1 h2 ⟨A, B, o, a, b⟩ => ⟨A, B, o, fun d h => h1 d (a d h), fun x h => h2 x (b x h)⟩
theorem upO_of {O : Out} {A : D → Prop} {B : Xc → Prop} (h : O A B) : upO O A B := ⟨A, B, h, fun _ h => h, fun _ h => h⟩
def qAct (fl : Addr) (O : Out) : PEXx γ := fun w s R => s.ρ[0]? = some (some (.val (.obj fl))) ∧ O (fun d => R d s) fun x => w x s
def valsL (ρ : List (Option L)) : List (Option L) := ρ.map fun o => match o with | some (.val d) => some (.val d) | _ => none
theorem valsL_get {ρ : List (Option L)} {i : Nat} {l : L} (h : (valsL ρ)[i]? = some (some l)) : ∃ d, l = .val d ∧ ρ[i]? = some (some (.val d)) := by
  unfold valsL at h
  rw [List.getElem?_map] at h
  obtain ⟨o, h1, h2⟩ := Option.map_eq_some_iff.mp h
  cases o with
  | none => cases h2
  | some m =>
    cases m with
    | val d => cases h2; exact ⟨d, rfl, h1⟩
    | own ds => cases h2
    | dic ds => cases h2
theorem Rel.vals {G : GP γ} {F : Fra} {Z : Hp} {s : S γ} {σ : L2.St} {H : Hp} (r : Rel G F Z s σ H) {K : PySem.W.Frag} (hK : G.K = K) {Z' H' : Hp} (k : Same Z Z') (z : Same Z' H') :
    Rel (none0 K) ⟨H', fun b => H' b ≠ none ∧ Z' b = none, fun b hb => Option.ne_none_iff_exists'.mp hb.1⟩ Z' ⟨valsL s.ρ, ()⟩ σ H' := by
  subst hK
  refine ⟨z, Same.refl _, fun b hb => hb.2, by rw [r.len]; simp [valsL], fun i d e => ?_, fun i l e ol => ?_, fun i j l m a _ e ol _ _ => ?_, trivial, fun _ h => h.elim, fun _ h => h.elim, fun _ _ h => by cases h⟩
  · obtain ⟨d', e1, e2⟩ := valsL_get e
    cases e1
    obtain ⟨v, h1, h2⟩ := r.loc i d e2
    exact ⟨v, h1, At.mono k _ _ h2⟩
  · obtain ⟨d', e1, _⟩ := valsL_get e
    subst e1; cases ol
  · obtain ⟨d', e1, _⟩ := valsL_get e
    subst e1; cases ol
theorem vals_ext {K : PySem.W.Frag} {Z Z' H H' : Hp} {s' : S Unit} {σ' : L2.St} (r : Rel (none0 K) ⟨H, fun b => H b ≠ none ∧ Z b = none, fun b hb => Option.ne_none_iff_exists'.mp hb.1⟩ Z' s' σ' H') (k : Same Z Z') : Ext Z H Z' H' :=
  ⟨r.f, k, r.z, fun b o e n => by
    cases hb : H b with
    | none => rfl
    | some u =>
      have := r.zb b ⟨by rw [hb]; simp, n⟩
      rw [e] at this; cases this⟩
end Pm
namespace Pm
open PySem PySem.Spec
open PyProof.Rows hiding St
open L2
variable {γ : Type}
abbrev Tbs := List (Addr × Str)
theorem TabOk.mono {Z Z' : Hp} {q : Str} {ps : Array Value} (k : Same Z Z') (h : TabOk Z q ps) : TabOk Z' q ps := ⟨h.1, fun pos v e => let ⟨c, e1, e2⟩ := h.2 pos v e; ⟨c, e1, k _ _ e2⟩⟩
def gT (G : GP γ) (T : Tbs) : GP γ where
  K := G.K
  foot := fun g a => G.foot g a ∨ ∃ p ∈ T, a = p.1
  J := fun g Z H => G.J g Z H ∧ ∀ p ∈ T, (∃ ps, H p.1 = some (.tbl ps) ∧ TabOk Z p.2 ps) ∧ ¬ G.foot g p.1
  stay := fun g Z Z' H H' h k e => ⟨G.stay _ _ _ _ _ h.1 k fun a ha => e a (.inl ha), fun p hp => by
    obtain ⟨⟨ps, h1, h2⟩, n⟩ := h.2 p hp
    exact ⟨⟨ps, (e _ (.inr ⟨p, hp, rfl⟩)).trans h1, h2.mono k⟩, n⟩⟩
  live := fun g Z H a h f => by
    rcases f with f | ⟨p, hp, rfl⟩
    · exact G.live g Z H a h.1 f
    · obtain ⟨⟨ps, h1, _⟩, _⟩ := h.2 p hp
      exact ⟨_, h1⟩
  fl := G.fl
section
variable {G : GP γ} {T : Tbs} {F : Fra} {Z : Hp} {s : S γ} {σ : L2.St} {H : Hp}
theorem Rel.tabled (r : Rel (gT G T) F Z s σ H) {P c' : Addr} {q : Str} {ps : Array Value} {pos : Pos} (hT : (P, q) ∈ T) (hu : ∀ p ∈ T, p.1 = P → p.2 = q) (hP : H P = some (.tbl ps)) (tb : TabOk Z q ps) (hn : H c' = none) :
    Rel (gT G T) F (upd Z c' (LamX.CodeO c' q)) s σ (upd (upd H P (.tbl (ps ++ #[rawInt pos.line, rawInt pos.col, .ref c']))) c' (LamX.CodeO c' q)) := by
  have ne : P ≠ c' := ne_of_none hP hn
  have r1 := r.new (o := LamX.CodeO c' q) hn
  have k : Same Z (upd Z c' (LamX.CodeO c' q)) := same_upd (r.z.free hn)
  have sw : upd (upd H P (.tbl (ps ++ #[rawInt pos.line, rawInt pos.col, .ref c']))) c' (LamX.CodeO c' q) = upd (upd H c' (LamX.CodeO c' q)) P (.tbl (ps ++ #[rawInt pos.line, rawInt pos.col, .ref c'])) := by
    funext b
    by_cases h1 : b = P
    · subst h1; rw [upd_ne ne, upd_same, upd_same]
    · by_cases h2 : b = c'
      · subst h2; rw [upd_same, upd_ne h1, upd_same]
      · rw [upd_ne h2, upd_ne h1, upd_ne h1, upd_ne h2]
  rw [sw]
  refine r1.writeB (.inr ⟨_, hT, rfl⟩) _ ⟨G.stay _ _ _ _ _ r1.j.1 (Same.refl _) fun a ha => upd_ne fun e => (r1.j.2 _ hT).2 (by rw [← e]; exact ha), fun p hp => ⟨?_, (r1.j.2 p hp).2⟩⟩ fun _ h => h
  by_cases h1 : p.1 = P
  · rw [h1, upd_same, hu p hp h1]
    refine ⟨_, rfl, ?_⟩
    have eL : (ps ++ #[rawInt pos.line, rawInt pos.col, .ref c']).toList = ps.toList ++ [rawInt pos.line, rawInt pos.col, .ref c'] := by simp
    refine ⟨by rw [eL]; exact PySem.TriplesOk_snoc _ _ _ _ tb.1, fun p' v e => ?_⟩
    rw [eL] at e
    rcases LamX.among_app _ tb.1 e with e | e
    · obtain ⟨c, e1, e2⟩ := tb.2 p' v e
      exact ⟨c, e1, k _ _ e2⟩
    · exact ⟨c', e, upd_same⟩
  · rw [upd_ne h1]
    exact (r1.j.2 p hp).1
theorem Rel.afterT {Z' H' : Hp} {g' : γ} (r : Rel (gT G T) F Z s σ H) (zz : Same Z Z') (zh : Same Z' H') (keep : ∀ a o, H a = some o → ¬ G.foot s.g a → H' a = some o) (nw : ∀ a o, Z' a = some o → Z a = none → H a = none) (hj : G.J g' Z' H')
    (hf : ∀ a, G.foot g' a → Z' a = none ∧ (G.foot s.g a ∨ H a = none)) : Rel (gT G T) F Z' ⟨s.ρ, g'⟩ σ H' := by
  refine r.after zz zh (fun a o e n => keep a o e fun h => n (.inl h)) nw ⟨hj, fun p hp => ?_⟩ fun a h => ?_
  · obtain ⟨⟨ps, h1, h2⟩, n⟩ := r.j.2 p hp
    refine ⟨⟨ps, keep _ _ h1 n, h2.mono zz⟩, fun h => ?_⟩
    rcases (hf _ h).2 with h | h
    · exact n h
    · rw [h1] at h; cases h
  · rcases h with h | ⟨p, hp, rfl⟩
    · exact ⟨(hf a h).1, (hf a h).2.imp .inl id⟩
    · obtain ⟨⟨ps, h1, _⟩, _⟩ := r.j.2 p hp
      refine ⟨?_, .inl (.inr ⟨p, hp, rfl⟩)⟩
      cases e : Z' p.1 with
      | none => rfl
      | some o =>
        have := nw _ o e (r.zf _ (.inr ⟨p, hp, rfl⟩))
        rw [h1] at this; cases this
end
section
variable {X : Cx} {G : GP γ} {T : Tbs} {x : Str} {n : Nat} {f : Spec γ} {e : Expr} {es : List Expr} {t : PAx γ} {p pos : Pos}
theorem lcallGT {σ : L2.St} {H : Hp} {Q : VK} (h : lE (gT G T) (qCallG f t) σ H Q) : tCall (spG G f) [] E0 (lA (gT G T) t) σ H Q := by
  obtain ⟨F, Z, s, R, r, t, q⟩ := h
  refine ⟨F, Z, s, _, r, t, fun xs s1 Z1 vs H1 t1 k1 r1 a1 => ?_⟩
  refine ⟨Z1, xs, s1.g, _, r1.z, by rw [List.append_nil]; exact a1, r1.j.1, fun a h => r1.zf a (.inl h), t1, fun z g' Z3 v H3 t3 k3 z3 h3 n3 j3 f3 a3 => ?_⟩
  exact q z _ Z3 v H3 t3 (k1.trans k3) (r1.afterT k3 z3 h3 n3 j3 f3) a3
theorem qe_callGT (d : Def X x n (spG G f)) (hg : Gl X x) (ha : QA X (gT G T) (e :: es) t) (hdb : (x == ("__debug__" : Str)) = false := by decide) (he : starEach (e :: es) X.env = (false, eval e X.env) :: starEach es X.env := by rfl) (hpl : (backTo pos (starEach es X.env)).any (·.1) = false := by rfl) :
    QE X (gT G T) (.Call (.Name x p) (e :: es) [] pos) (qCallG f t) := by
  obtain ⟨fa, fd, k, ps, F, hr, hm, hk, hb, _⟩ := d.ex
  exact PE.imp (pe_call F hr hg hm hk hb .nil pass0 ha hdb he hpl) fun _ _ _ h => lcallGT h
end
def GivesL (P : Program) (w : World) (K : PySem.W.Frag) (mg : Str → Option Value) (base : Heap) (x a : Str) (Ng : List Str) (sg : Scope) (g : Addr) (cdg : Value) (bg : List Stmt) (f : SpecL) : Prop :=
  ∀ (A : Around) (outer : List Env) (s : Shared) (H : Hp) (fl : Addr) (Zc : Hp) (O : Out) (R : D → Prop), Room 0 (A.deeper (envOfC x sg s.heap.objs.size g cdg)) → MonoO O → f O R →
    (∀ (W : WX) (pn : List (Addr × Obj)) (xe : Value → Shared → Prop) (p1 p2 : Pos), Takes ((cxOf CX0 P w K mg base Ng x sg g cdg A outer s H E0).tr pn xe) W →
      QEX ((cxOf CX0 P w K mg base Ng x sg g cdg A outer s H E0).tr pn xe) ((none0 K).lo Zc) W (.Call (.Name a p1) [] [] p2) (qAct fl O)) →
    ∃ t : PSx Unit, QSs (cxOf CX0 P w K mg base Ng x sg g cdg A outer s H E0).nox ((none0 K).lo Zc) bg t ∧ t { nx := fun _ => R .non, rt := fun d _ => R d } ⟨startL Ng.length [.obj fl], ()⟩
def GloL (P : Program) (w : World) (K : PySem.W.Frag) (mg : Str → Option Value) (base : Heap) (x : Str) (f : SpecL) : Prop :=
  ∃ (a : Str) (Ng : List Str) (params : Arguments) (bg : List Stmt) (sg : Scope) (g : Addr) (fd : FuncData), FunD K x x params bg sg [] [] g fd ∧ mg x = some (.ref g) ∧ FnScope Ng [a] sg ∧ Ng[0]? = some a ∧ Vis sg a ∧ (a == ("__debug__" : Str)) = false ∧ (a == ("__classdict__" : Str)) = false ∧
    Binds K fd [a] [] ∧ ∀ cdg : Value, GivesL P w K mg base x a Ng sg g cdg bg f
def qLam (f : SpecL) (tb : PEXx Unit) : PEx γ := fun s R => f (upO fun Rn Rx => tb (fun x _ => Rx x) ⟨valsL s.ρ, ()⟩ fun d _ => Rn d) fun d => R d s
section
variable {X : Cx} {G : GP γ} {T : Tbs} {x : Str} {f : SpecL} {c P : Addr} {k : Nat} {params : Arguments} {body : Expr} {scope : Scope} {tb : PEXx Unit} {p lpos pos : Pos}
theorem qe_lam (Dl : GloL X.prog X.w X.K X.mg X.base x f) (hg : Gl X x) (TB : LamX.TabB X.base X.mg c P) (hc : X.env.code = .ref c) (hT : (P, lamQ X) ∈ T) (hu : ∀ p ∈ T, p.1 = P → p.2 = lamQ X) (hr : Room (k + 2) X.A) (L : LamX.LamS X.env.scope scope) (hdef : defaultsOf params X.env = ([], []))
    (hbind : ∀ (q : Str) (cl : List (Str × Addr)) (pm cv ctv : Value), bindArgs (PySem.W.kla_fn "<lambda>" q params body scope cl pm cv ctv) ⟨[], []⟩ = pure [])
    (hbody : ∀ (A : Around) (outer : List Env) (s : Shared) (H : Hp) (E : XK) (f c' : Addr), Room k (A.deeper (LamX.lamEnv X scope s.heap.objs.size f c')) → QEX (LamX.lamCx X A outer s H E scope f c') (none0 X.K) (fun cls d _ H => E cls d H) body tb)
    (hK : G.K = X.K := by rfl) (hdb : (x == ("__debug__" : Str)) = false := by decide) :
    QE X (gT G T) (.Call (.Name x p) [.Lambda params body scope lpos] [] pos) (qLam f tb) := by
  refine ⟨fun pins s σ H Q I ⟨F, Z, sg, R, r, t, q⟩ => ?_⟩
  obtain ⟨a, Ng, pg, bg, scg, g, fd, FD, hm, Sg, hN, hv, hd1, hd2, hb, gives⟩ := Dl
  obtain ⟨oc, od, dV, kV, doc, pm, an, cdv, ct, osl, rfl, lk, hcd, _, _⟩ := FD.ex
  obtain ⟨⟨ps, hP, tk⟩, _⟩ := r.j.2 _ hT
  refine wpAny_Call_Name_kw (ld_glob I hg hm ?_ hdb)
  refine PySem.W.callWith_K (h₀ := X.base) I.ok.mod.kin FD.kp ?_ (by rfl) (by rfl)
  have go : ∀ (fl c' : Addr) (s' : Shared) (Z1 H1 : Hp), Same Z Z1 → Rel (gT G T) F Z1 sg σ H1 → Z1 c' = some (LamX.CodeO c' (lamQ X)) → L2.Inv X pins σ H1 s' → LamAt X params body scope fl c' H1 s' →
      wpAny (model X.prog X.w) X.A (call (.ref g) [.ref fl]) (EP X pins σ Q) X.xe s' := by
    intro fl c' s' Z1 H1 kz r1 hc1 I1 at_
    have rc : codeAny (model X.prog X.w) X.A (.call (.ref g) ⟨[.ref fl], []⟩) (CR CX0 X.stack X.prog X.w H1 s' Q E0) s' := by
      refine LamX.run_ofS (N := Ng) (ps := [a]) (us := [.ref fl]) (vs := [.ref fl]) (k := k + 1) lk hcd Sg hr I1.env0 (hb s' [.ref fl] I1.kIn rfl) (.cons rfl .nil) rfl fun hr' => ?_
      obtain ⟨t', ht', hp'⟩ := gives cdv X.A X.stack s' H1 fl Z1 _ _ (hr'.mono (Nat.zero_le _)) (upO_mono _) t fun W pn xe p1 p2 tk2 => by
        refine PE.imp (act_at (W := W) (tb := fun E => lEX (none0 X.K) X.mg (fun cls d _ H => E cls d H) tb) I1 L at_ (fun pm ctv => hbind _ _ _ _ _) tk2 hr' (fun A outer s H E hr2 => hbody A outer s H E fl c' hr2) hN hv hd1 hd2) fun τ HZ Q' ⟨F2, Z2, s2, R2, w2, r2, ⟨e0, oA, oB, o, hA, hB⟩, q2, x2⟩ => ?_
        obtain ⟨v0, h1, h2⟩ := r2.loc 0 _ e0
        have h2 : v0 = .ref fl := h2
        subst h2
        refine ⟨h1, r2.z _ _ (r2.fl _ _ hc1), ?_⟩
        have rv := r1.vals (K := X.K) hK (r2.fl : Same Z1 Z2) r2.z
        refine ⟨_, Z2, _, _, _, rv, o, fun d s3 Z3 v H3 hd k3 r3 a3 => ?_, fun x s3 Z3 cls d H3 hx k3 r3 a3 => ?_⟩
        · exact q2 d s2 Z3 v H3 (hA d hd) k3 (r2.ext (vals_ext r3 k3)) a3
        · exact x2 x s2 Z3 cls d H3 (hB x hx) k3 (r2.ext (vals_ext r3 k3)) a3
      refine ⟨_, ht'.nox, ?_⟩
      have rs : Rel ((none0 X.K).lo Z1) ⟨H1, fun b => H1 b ≠ none ∧ Z1 b = none, fun b hb => Option.ne_none_iff_exists'.mp hb.1⟩ Z1 ⟨startL Ng.length [.obj fl], ()⟩ (L2.start Ng [.ref fl]) H1 := by
        have a1 : Ats X.K Z1 [.obj fl] [.ref fl] := ⟨_, _, rfl, rfl, rfl⟩
        refine ⟨r1.z, Same.refl _, fun b hb => hb.2, ?_, fun i d e => ?_, fun i l e ol => ?_, fun i j l m b _ e ol _ _ => ?_, trivial, fun b h => False.elim h, fun b h => False.elim h, Same.refl _⟩
        · unfold L2.start startL
          simp only [List.length_append, List.length_map, List.length_replicate, List.length_cons, List.length_nil]
        · obtain ⟨d', e', v, h1, h2⟩ := start_at a1 e
          cases e'
          exact ⟨v, h1, h2⟩
        · obtain ⟨d', e', _⟩ := start_at a1 e
          subst e'; cases ol
        · obtain ⟨d', e', _⟩ := start_at a1 e
          subst e'; cases ol
      have back : ∀ (d : D) (s3 : Pm.S Unit) (Z3 : Hp) (σ3 : L2.St) (v : V) (H3 : Hp), R d sg → Same Z1 Z3 → Rel ((none0 X.K).lo Z1) ⟨H1, fun b => H1 b ≠ none ∧ Z1 b = none, fun b hb => Option.ne_none_iff_exists'.mp hb.1⟩ Z3 s3 σ3 H3 → At X.K Z3 d v → Q v H3 := fun d s3 Z3 σ3 v H3 hR k3 r3 a3 =>
        q d sg Z3 v H3 hR (kz.trans k3) (r1.ext ⟨r3.f, k3, r3.z, fun b o e n => by
          cases hb : H1 b with
          | none => rfl
          | some u =>
            have := r3.zb b ⟨by rw [hb]; simp, n⟩
            rw [e] at this; cases this⟩) (by show At G.K Z3 d v; rw [hK]; exact a3)
      refine ⟨_, Z1, _, _, rs, hp', ?_, ?_, ?_, ?_⟩
      · intro s3 Z3 σ3 H3 hR k3 r3
        exact back .non s3 Z3 σ3 .non H3 hR k3 r3 rfl
      · intro d s3 Z3 σ3 v H3 hR k3 r3 a3
        exact back d s3 Z3 σ3 v H3 hR k3 r3 a3
      · intro s3 Z3 σ3 H3 hR; exact hR.elim
      · intro s3 Z3 σ3 H3 hR; exact hR.elim
    refine wpAny_call (codeAny_mono rc fun rr s2 hq => ?_)
    cases rr with
    | error e => exact (show False from hq).elim
    | ok fl =>
      cases fl with
      | ret u => exact I1.after hq
      | next => exact hq.elim
      | brk => exact hq.elim
      | cont => exact hq.elim
  show wpAny _ _ (spliced ((false, eval (.Lambda params body scope lpos) X.env) :: backTo pos (starEach [] X.env))) _ _ s
  refine Calls.spliced_cons (lam_made I TB hc r.z hP tk hdef (L.has I.ok) (fun fl c' s' h1 I1 at_ => ?_) fun fl c' s' h1 I1 at_ => ?_)
  · refine Calls.spliced_nil ⟨I1.kIn, ?_⟩
    exact go fl c' s' Z H (Same.refl _) r h1 I1 at_
  · refine Calls.spliced_nil ⟨I1.kIn, ?_⟩
    exact go fl c' s' _ _ (same_upd (r.z.free h1)) (r.tabled hT hu hP tk h1) upd_same I1 at_
end
section
variable {γ : Type} {X : Cx} {G : GP γ} {pos : Pos}
theorem Rel.hiL {Z0 : Hp} (h0 : Same G.fl Z0) {F : Fra} {Z : Hp} {s : Pm.S γ} {σ : L2.St} {H : Hp} (r : Rel (G.lo Z0) F Z s σ H) : Rel G F Z s σ H := ⟨r.z, r.f, r.zb, r.len, r.loc, r.ownL, r.injL, r.j, r.zf, r.ff, h0.trans r.fl⟩
theorem qs_tryAsL {f : Str → Str → Option Bool} {y n : Str} {i : Nat} {body suite : List Stmt} {b₀ : Stmt} {np pos' : Pos} {tb : PSXx γ} {ts : Xc → Addr → PSx γ} (hs : X.stack = X.env :: X.outer) (hf : X.env.frame = some X.env.locals) (hN : X.N.Nodup) (hi : X.N[i]? = some n) (hln : X.env.kindOf n = some .local)
    (hg : Gl X y) (tab : ∀ x y b, f x y = some b → Sub X.K X.mg x y b) (hy : ∃ x, f x y = some true)
    (hb : ∀ (W : WX) (pn : List (Addr × Obj)) (xe : Value → Shared → Prop), Takes (X.tr pn xe) W → PassesOwn (model X.prog X.w) X.A X.env xe → QSXs (X.tr pn xe) G W body tb)
    (hsu : ∀ (a : Addr) (oe : Obj) (cls : Value) (d : Option Addr) (pn : List (Addr × Obj)) (Z0 : Hp) (x : Xc), Held X G.K Z0 x a oe cls d → QSs (X.suite a ((a, oe) :: pn)) (G.lo Z0) (b₀ :: suite) (ts x a))
    (hdb : (y == ("__debug__" : Str)) = false := by decide) (hnn : y ≠ "__name__" := by decide) :
    QS X G (.Try body [.ExceptHandler (some (.Name y np)) (some n) (b₀ :: suite) pos'] [] [] pos) (qTryAs f y i tb ts) := by
  obtain ⟨x0, hx0⟩ := hy
  obtain ⟨C0, c, _, hcv, hc, _⟩ := (tab x0 y true hx0).ex
  have nm : Names X y c := ⟨hg, hdb, hc.imp (fun ⟨_, _, a⟩ => a) fun ⟨_, _, a, b⟩ => ⟨a, b, hnn⟩⟩
  have go := ps_try_as (pos := pos) (pos' := pos') (np := np) (suite := suite) (b₀ := b₀) hs hf hN hi hln nm takes0 (tb := fun W => lSX G X.mg W tb) (ts := fun a cls d De σ H => ∃ x Z0, XcAt G.K X.mg Z0 x cls d ∧ lS (G.lo Z0) (ts x a) De σ H) hb fun a oe cls d pn hz hfd => ⟨fun pins s σ H De I ⟨x, Z0, hx, w⟩ => (hsu a oe cls d pn Z0 x ⟨hx, hz, hfd⟩).run pins s σ H De I w⟩
  refine PS.imp go fun De σ H ⟨F, Z, s, E, r, t, n, rt, bk, ct⟩ => ⟨F, Z, s, E, _, r, t, n, rt, bk, ct, fun x s1 Z1 σ1 cls d H1 ⟨hx, w⟩ k1 r1 a1 => ?_⟩
  obtain ⟨C, c', m1, cv', _, _, ex⟩ := (tab x.c y true hx).ex
  rw [hcv] at cv'
  cases cv'
  have ec : cls = .ref C := by have := a1.1; rw [m1] at this; cases this; rfl
  subst ec
  have back : ∀ {Z2 : Hp} {s2 : Pm.S γ} {σ2 : L2.St} {H2 : Hp}, Rel (G.lo Z1) F Z2 s2 σ2 H2 → Rel G F Z2 (Pm.clr i s2) (σ2.set i none) H2 := fun r2 => (r2.hiL r1.fl).clr i
  refine ⟨true, ex, fun _ a _ => ⟨x, Z1, a1, F, Z1, _, _, (r1.put (i := i) (d := .obj a) (v := .ref a) rfl).lo, w a, fun s2 Z2 σ2 H2 q k2 r2 => ?_, fun d2 s2 Z2 σ2 v H2 q k2 r2 a2 => ?_, fun s2 Z2 σ2 H2 q k2 r2 => ?_, fun s2 Z2 σ2 H2 q k2 r2 => ?_⟩, fun q => (by cases q)⟩
  · exact n _ Z2 _ H2 q (k1.trans k2) (back r2)
  · exact rt d2 (Pm.clr i s2) Z2 _ v H2 q (k1.trans k2) (back r2) a2
  · exact bk _ Z2 _ H2 q (k1.trans k2) (back r2)
  · exact ct _ Z2 _ H2 q (k1.trans k2) (back r2)
end
end Pm
set_option Elab.async false
set_option linter.all false
set_option maxRecDepth 100000
set_option maxHeartbeats 2000000
set_option autoImplicit false
namespace Pm
open PySem PySem.Spec
open PyProof.Rows hiding St
open L2
def tabsT (K : PySem.W.Frag) (xs : List Str) : Tbs := xs.map fun x => (tabP K x, (x ++ ".<locals>.") ++ "<lambda>")
structure Tabs (K : PySem.W.Frag) (mg : Str → Option Value) (base : Heap) (xs : List Str) : Prop where
  apart : (xs.map (tabP K)).Nodup
  at_ : ∀ x ∈ xs, LamX.TabB base mg (codP K x) (tabP K x)
theorem tabsT_mem {K : PySem.W.Frag} {xs : List Str} {x : Str} (h : x ∈ xs) : (tabP K x, (x ++ ".<locals>.") ++ "<lambda>") ∈ tabsT K xs := List.mem_map.mpr ⟨x, h, rfl⟩
theorem tabsT_one {K : PySem.W.Frag} {xs : List Str} {x : Str} (h : x ∈ xs) (nd : (xs.map (tabP K)).Nodup) : ∀ p ∈ tabsT K xs, p.1 = tabP K x → p.2 = (x ++ ".<locals>.") ++ "<lambda>" := by
  intro p hp e
  obtain ⟨y, hy, rfl⟩ := List.mem_map.mp hp
  have e : tabP K y = tabP K x := e
  have : y = x := by
    clear hp
    induction xs with
    | nil => cases hy
    | cons z zs ih =>
      rw [List.map_cons, List.nodup_cons] at nd
      rcases List.mem_cons.mp hy with rfl | hy'
      · rcases List.mem_cons.mp h with rfl | h'
        · rfl
        · exact absurd (List.mem_map.mpr ⟨x, h', e.symm⟩) nd.1
      · rcases List.mem_cons.mp h with rfl | h'
        · exact absurd (List.mem_map.mpr ⟨y, hy', e⟩) nd.1
        · exact ih h' nd.2 hy'
  rw [this]
section
variable {P : Program} {w : World} {K : PySem.W.Frag} {mg : Str → Option Value} {base : Heap}
theorem Fn.code {x : Str} {st : Stmt} {fd : FuncData} (F : Fn K x x st (He.fAd K (x, none)) fd) : fd.code = .ref (codP K x) := by
  obtain ⟨oc, od, dV, kV, doc, pm, an, cdv, ct, osl, rfl, lk, hcd, _, _⟩ := F.ex
  obtain ⟨c, rfl⟩ := He.codeIn_ref hcd
  have e := He.codeOf_eq (p := (x, none)) (c := c) lk rfl
  show Value.ref c = Value.ref (He.codeOf K (x, none))
  rw [e]
theorem Fn.okGdC {x : Str} {st : Stmt} {fd : FuncData} {N ps : List Str} {k : Nat} {sp : Sp} (F : Fn K x x st (He.fAd K (x, none)) fd) (S : FnScope N ps (defScope st)) (len : ∀ vs H Q E, sp vs H Q E → vs.length = ps.length)
    (hbody : ∀ (A : Around) (outer : List Env) (s : Shared) (H : Hp) (vs : List V) (Q : VK) (E : XK), A.guards = some [] → Room k (A.deeper (envOfC x (defScope st) s.heap.objs.size (He.fAd K (x, none)) (.ref (codP K x)))) → sp vs H Q E →
      ∃ t, PSs (cxOf CX0 P w K mg base N x (defScope st) (He.fAd K (x, none)) (.ref (codP K x)) A outer s H E).nox (defBody st) t ∧ t { nx := fun _ H' => Q .non H', rt := Q } (L2.start N vs) H) : FnG P w K mg base (k + 1) (He.fAd K (x, none)) fd ps sp := by
  have hc := Fn.code F
  obtain ⟨oc, od, dV, kV, doc, pm, an, cdv, ct, osl, e, lk, hcd, z1, z2⟩ := F.ex
  have e1 : cdv = .ref (codP K x) := by rw [← hc, e]
  subst e1
  subst e
  refine ⟨len, fun A gd hr outer s H args us vs Q E e0 hb rv hq => ?_⟩
  have inH : K.In s.heap := e0.mod.kin.keeps fun b u z => (e0.bs b u z).1
  refine codeAny_call_function hr.depth (inH _ _ lk) rfl S.co S.gen rfl (PySem.W.codeRec_of inH hcd) (hb _ _ _ _ ?_)
  refine wpAny_newFunctionEnv_cells S.kind (fun y hy => ?_) fun env he s1 xx => ?_
  · rcases S.par y.1 (List.of_mem_zip (a := y.1) (b := y.2) hy).1 with z | z
    · exact Or.inl z
    · exact Or.inr ⟨z, PySem.W.cellsFrom_some _ _ _ (Or.inl z)⟩
  subst he
  have nol : s.heap.NoLimit := e0.mod.nolimit.keeps fun b u z => (e0.bs b u z).1
  refine ⟨nol.keeps xx.toInCall.keep, codeAny_func ?_⟩
  obtain ⟨t, ht, hw⟩ := hbody A outer s H vs Q E gd (hr.deeper _) hq
  have J0 := inv_start (CX := CX0) (E := E) S hr.hd e0 (len _ _ _ _ hq) rv xx
  refine wpAny_mono ((PSs.nox ht).run [] s1 (L2.start N vs) H _ J0 hw) (fun fl s' z => ?_) fun _ _ z => z
  cases fl with
  | brk => exact (let ⟨_, _, _, q1⟩ := z; q1.elim)
  | cont => exact (let ⟨_, _, _, q1⟩ := z; q1.elim)
  | next =>
    obtain ⟨_, H', J, q1⟩ := z
    exact ⟨.non, H', J.os, J.bare, J.base, J.hok, rfl, q1⟩
  | ret u =>
    obtain ⟨v, _, H', J, r1, q1⟩ := z
    exact ⟨v, H', J.os, J.bare, J.base, J.hok, r1, q1⟩
def spLawT (K : PySem.W.Frag) (T : Tbs) : Sp := fun vs H Q _ => (∀ p ∈ T, H p.1 = some (.tbl #[])) ∧ ∃ (a : Addr) (ns : List Int), vs = [.ref a] ∧ SqL K H a (ns.map V.int) ∧ ns.length ≤ 63 ∧ ∀ H', Q (.bl true) H'
theorem ok_lawGT {T : Tbs} {x : Str} {s0 : Stmt} {rest : List Stmt} {st : Stmt} {fd : FuncData} {N : List Str} {p : Str} {k i : Nat} (F : Fn K x x st (He.fAd K (x, none)) fd) (S : FnScope N [p] (defScope st)) (hi : 0 < i) (hb : defBody st = s0 :: rest)
    (body : ∃ t : Addr → PSx Nat, (∀ (A : Around) (outer : List Env) (s : Shared) (H : Hp) (E : XK), Room k (A.deeper (envOfC x (defScope st) s.heap.objs.size (He.fAd K (x, none)) (.ref (codP K x)))) → (A.deeper (envOfC x (defScope st) s.heap.objs.size (He.fAd K (x, none)) (.ref (codP K x)))).guards = some [] →
      PS (cxOf CX0 P w K mg base N x (defScope st) (He.fAd K (x, none)) (.ref (codP K x)) A outer s H E).nox s0 (tAsg (tCall (spDraws K) [] E0 (tCons (tVar 0) tNil)) (gName i)) ∧
      ∀ r c q, QSs (cxOf CX0 P w K mg base N x (defScope st) (He.fAd K (x, none)) (.ref (codP K x)) A outer s H E).nox (gT (gr K r c q) T) rest (t r)) ∧
      ∀ r, t r { nx := fun _ => False, rt := fun d _ => d = .bl true } ⟨(List.replicate N.length none).set i (some (.val (.obj r))), 0⟩) : FnG P w K mg base (k + 1) (He.fAd K (x, none)) fd [p] (spLawT K T) := by
  obtain ⟨t, hd, hp⟩ := body
  refine Fn.okGdC F S (fun vs H Q E h => ?_) (fun A outer s H vs Q E gd hr h => ?_)
  · obtain ⟨_, a, ns, rfl, _⟩ := h; rfl
  · obtain ⟨d0, d1⟩ := hd A outer s H E hr gd
    obtain ⟨hT, a, ns, rfl, hs, hl, q⟩ := h
    rw [hb]
    have dd : PSs (cxOf CX0 P w K mg base N x (defScope st) (He.fAd K (x, none)) (.ref (codP K x)) A outer s H E).nox rest (fun De σ H' => ∃ r c q', lS (gT (gr K r c q') T) (t r) De σ H') := ⟨fun pins s1 σ H1 De I ⟨r, c, q', h⟩ => (d1 r c q').run pins s1 σ H1 De I h⟩
    refine ⟨_, pss_cons d0 dd, ?_⟩
    have hN : 0 < N.length := by have := congrArg List.length S.pre; rw [List.length_take] at this; simp at this; omega
    refine ⟨.ref a, rfl, a, ns, rfl, hs, hl, fun r c q' H' k1 hr1 hc1 hq1 J => ?_⟩
    refine ⟨r, c, q', ⟨fun _ => none, fun _ => False, fun _ h => h.elim⟩, fun _ => none, _, _, ?_, hp r, fun s' Z' σ' H2 h => h.elim, fun d s' Z' σ' v H2 h _ _ a' => ?_, fun s' Z' σ' H2 h => h.elim, fun s' Z' σ' H2 h => h.elim⟩
    · have hlen : (L2.start N [V.ref a]).length = N.length := by unfold L2.start; simp; omega
      have at_i : ∀ (j : Nat) l, ((List.replicate N.length (none : Option L)).set i (some (.val (.obj r))))[j]? = some (some l) → j = i ∧ l = .val (.obj r) ∧ i < N.length := fun j l e => by
        by_cases hji : i = j
        · subst hji
          have hl' : i < (List.replicate N.length (none : Option L)).length := by
            have := (List.getElem?_eq_some_iff.mp e).1
            simpa using this
          rw [List.getElem?_set_self hl'] at e
          cases e
          exact ⟨rfl, rfl, by simpa using hl'⟩
        · rw [List.getElem?_set_ne hji, List.getElem?_replicate] at e
          split at e <;> cases e
      have jT : ∀ p ∈ T, (∃ ps, H' p.1 = some (.tbl ps) ∧ TabOk (fun _ => none) p.2 ps) ∧ ¬ (gr K r c q').foot (0 : Nat) p.1 := fun p hp => by
        refine ⟨⟨#[], k1 _ _ (hT p hp), ⟨?_, fun pos v e => ?_⟩⟩, fun z => ?_⟩
        · exact trivial
        · cases e
        · have e := hT p hp
          rcases z with z | z | z <;> rw [z] at e
          · rw [hr1] at e; cases e
          · rw [hc1] at e; cases e
          · rw [hq1] at e; cases e
      refine ⟨fun _ _ h => (by cases h), fun _ _ h => (by cases h), fun _ _ => rfl, by simp [hlen], fun j d e => ?_, fun j l e ol => ?_, fun j j2 l m b _ e ol _ _ => ?_, ⟨J, jT⟩, fun _ _ => rfl, fun _ _ => rfl, fun _ _ h => (by cases h)⟩
      · obtain ⟨rfl, e2, hl'⟩ := at_i j _ e
        cases e2
        exact ⟨.ref r, by rw [List.getElem?_set_self (by rw [hlen]; exact hl')], rfl⟩
      · obtain ⟨_, e2, _⟩ := at_i j _ e; subst e2; cases ol
      · obtain ⟨_, e2, _⟩ := at_i j _ e; subst e2; cases ol
    · have h' : d = .bl true := h
      subst h'
      have e : v = .bl true := a'
      rw [e]; exact q _
end
theorem law_callGT {P : Program} {w : World} {K : PySem.W.Frag} {mg mb : Str → Option Value} {k : Nat} {fa a : Addr} {ts : List (Addr × Addr)} {fd : FuncData} {x : Str} {sp : Sp} {s0 : Shared} {vs : List Value} {ns : List Int}
    (KX : K.In s0.heap) (hns : s0.heap.Ns mainGlobals mg) (hb : s0.heap.Ns builtinsNs mb) (hbb : ∀ y : Str, y ≠ "__name__" → mb y = bootBuiltins y) (hlim : s0.heap.NoLimit) (hg : s0.gens = #[])
    (tE : ∀ p ∈ ts, s0.heap.get? p.2 = some { cls := .none, data := .fields #[] }) (tK : ∀ p ∈ ts, K.lookup p.2 = none) (tC : ∀ p ∈ ts, PySem.W.CodeHd s0.heap p.1 p.2)
    (hbm : ∃ (bm : Addr) (ob : Obj), mg "__builtins__" = some (.ref bm) ∧ bm ≠ builtinsNs ∧ s0.heap.get? bm = some ob ∧ ob.cls = .type "module" ∧ ob.dict = some builtinsNs ∧ ob.data = .plain)
    (ha : s0.heap.get? a = some { cls := .type "list", data := .seq vs.toArray }) (hi : IntsAre vs ns) (hl : ns.length ≤ sizeLine) (hr : Room k callerA)
    (F : ∀ base : Heap, K.In base → base.Ns mainGlobals mg → (∀ p ∈ ts, LamX.TabB base mg p.1 p.2) → FnG P w K mg base k fa fd [x] sp) (hbind : ∀ (s : Shared) (u : Value), BindsTo s fd ⟨[u], []⟩ [(x, u)])
    (hsp : ∀ T : Hp, (∀ p ∈ ts, T p.2 = some (.tbl #[])) → SqL K T a (ns.map V.int) → sp [.ref a] T (fun v _ => v = .bl true) fun _ _ _ => False) :
    codeAny (model P w) callerA (.call (.ref fa) ⟨[.ref a], []⟩) (fun r z => r = .ok (.ret (.bool true)) ∧ OldK s0.heap z.heap ∧ z.os = s0.os ∧ AllBare z.gens) s0 := by
  have rel := L2.vals_ints hi
  have ln := hi.length
  let ps : List Addr := ts.map (·.2)
  have psE : ∀ b ∈ ps, s0.heap.get? b = some { cls := .none, data := .fields #[] } ∧ K.lookup b = none ∧ ∃ c, PySem.W.CodeHd s0.heap c b := fun b hb => by
    obtain ⟨p, hp, rfl⟩ := List.mem_map.mp hb
    exact ⟨tE p hp, tK p hp, _, tC p hp⟩
  have inP : ∀ p ∈ ts, p.2 ∈ ps := fun p hp => List.mem_map.mpr ⟨p, hp, rfl⟩
  have aP : a ∉ ps := fun z => by
    have e := (psE a z).1
    rw [ha] at e
    exact Data.noConfusion (congrArg Obj.data (Option.some.inj e))
  -- what is tracked: the tables, and the script if K does not hold it
  let scr : HO := .frz { cls := .type "list", data := .seq vs.toArray } (.lst (ns.map V.int))
  let T : Hp := fun b => if b ∈ ps then some (.tbl #[]) else if b = a ∧ K.lookup a = none then some scr else none
  have T1 : ∀ b ∈ ps, T b = some (.tbl #[]) := fun b hb => if_pos hb
  have T2 : ∀ b, b ∉ ps → ∀ o, T b = some o → b = a ∧ K.lookup a = none ∧ o = scr := fun b hb o e => by
    have e1 : (if b = a ∧ K.lookup a = none then some scr else none) = some o := (if_neg hb).symm.trans e
    by_cases hc : b = a ∧ K.lookup a = none
    · rw [if_pos hc] at e1; cases e1; exact ⟨hc.1, hc.2, rfl⟩
    · rw [if_neg hc] at e1; cases e1
  have Tof : ∀ b o, s0.heap.get? b = some o → o.data ≠ .fields #[] → (∀ xs n, o.data ≠ .seq xs n) → T b = none := fun b o e n1 n2 => by
    cases q : T b with
    | none => rfl
    | some y =>
      by_cases hb : b ∈ ps
      · rw [(psE b hb).1] at e; cases e; exact absurd rfl n1
      · obtain ⟨rfl, _, _⟩ := T2 b hb y q
        rw [ha] at e; cases e; exact absurd rfl (n2 _ _)
  have okT : HOk P w T s0.heap := fun b y e => by
    by_cases hb : b ∈ ps
    · have e2 := (T1 b hb).symm.trans e
      cases e2
      exact (psE b hb).1
    · obtain ⟨rfl, _, rfl⟩ := T2 b hb y e
      exact ⟨ha, by rw [List.length_map]; exact hl, vs, _, rel, ha⟩
  have sT : SqL K T a (ns.map V.int) := by
    cases hk : K.lookup a with
    | none => exact .inl (.inr ⟨_, (if_neg aP).trans (if_pos ⟨rfl, hk⟩)⟩)
    | some u =>
      have e := KX a u hk
      rw [ha] at e
      cases e
      exact .inr ⟨_, vs.toArray, _, hk, rfl, rfl, rfl, by rw [List.size_toArray, ln]; exact hl, by simpa using rel⟩
  have inT : K.In (hidT s0.heap T) := fun b u e => hidT_get (KX b u e) (by
    cases q : T b with
    | none => rfl
    | some y =>
      by_cases hb : b ∈ ps
      · rw [(psE b hb).2.1] at e; cases e
      · obtain ⟨rfl, h2, _⟩ := T2 b hb y q
        rw [h2] at e; cases e)
  have nsT : ∀ {b : Addr} {m : Str → Option Value}, s0.heap.Ns b m → (hidT s0.heap T).Ns b m := fun {b m} ⟨u, es, ep, e, d, r⟩ => ⟨u, es, ep, hidT_get e (Tof b u e (by rw [d]; exact fun z => nomatch z) (by rw [d]; exact fun _ _ z => nomatch z)), d, r⟩
  have md : Mod K mg (hidT s0.heap T) := ⟨inT, nsT hns, ⟨mb, nsT hb, hbb⟩, let ⟨mc, y1, y2⟩ := hlim; ⟨mc, nsT y1, y2⟩⟩
  have tB : ∀ p ∈ ts, LamX.TabB (hidT s0.heap T) mg p.1 p.2 := fun p hp => by
    refine ⟨?_, ?_, ?_⟩
    · obtain ⟨o, us, file, tf, flags, tg, inF, text, tt, e1, r1, r2, r3, r⟩ := tC p hp
      refine ⟨o, us, file, tf, flags, tg, inF, text, tt, hidT_get e1 (Tof _ _ e1 (fun z => ?_) fun xs n z => ?_), r1, r2, r3, r⟩
      · rw [r2] at z; cases z; simp at r3
      · rw [r2] at z; cases z
    · obtain ⟨bm, ob, b1, b2, b3, b4, b5, b6⟩ := hbm
      refine ⟨bm, ob, b1, b2, fun z => ?_, fun z => ?_, hidT_get b3 (Tof _ _ b3 (by rw [b6]; exact fun z => nomatch z) (by rw [b6]; exact fun _ _ z => nomatch z)), b4, b5, b6⟩
      · obtain ⟨u, es, ep, e, d, _⟩ := hns
        rw [← z, b3] at e; cases e; rw [b6] at d; cases d
      · have e := tE p hp
        rw [← z, b3] at e; cases e; cases b6
    · intro z
      obtain ⟨u, es, ep, e, d, _⟩ := hns
      rw [z, tE p hp] at e; cases e; cases d
  have env : Env0 P w K mg (hidT s0.heap T) callerA [] s0 T := ⟨rfl, md, fun c u e => of_hidT e, Nat.le_of_eq (hidT_size _ _), trivial, fun c hc => absurd (show c ∈ ([] : List Addr) from hc) (by simp), okT, .of_eq hg⟩
  refine codeAny_mono ((F _ inT (nsT hns) tB).go callerA rfl hr [] s0 T ⟨[.ref a], []⟩ [.ref a] [.ref a] _ _ env (hbind s0 (.ref a)) (.cons rfl .nil) (hsp T (fun p hp => T1 _ (inP p hp)) sT)) fun r z h => ?_
  cases r with
  | error e => exact h.elim
  | ok fl =>
    cases fl with
    | next => exact h.elim
    | brk => exact h.elim
    | cont => exact h.elim
    | ret u =>
      obtain ⟨v, T', os, bare, unt, okT', rv, q⟩ := h
      have qq : v = .bl true := q
      subst qq
      obtain rfl : u = Value.bool true := rv
      have stays : ∀ b o, b ∉ ps → s0.heap.get? b = some o → z.heap.get? b = some o := fun b o nb e => by
        cases q1 : T b with
        | none => exact unt.keep b o e q1 (fun z1 => absurd (show b ∈ ([] : List Addr) from z1) (by simp)) (by simp)
        | some y =>
          obtain ⟨_, _, rfl⟩ := T2 b nb y q1
          obtain ⟨w1, _⟩ := okT b _ q1
          obtain ⟨w2, _⟩ := okT' b _ (unt.frzs b _ _ q1)
          rw [e] at w1; cases w1
          exact w2
      have grown : ∀ b ∈ ps, ∃ more : Array Value, z.heap.get? b = some { cls := .none, data := .fields (#[] ++ more) } := fun b hb => by
        obtain ⟨more, z1⟩ := unt.tbls b #[] (T1 b hb)
        exact ⟨more, okT' b _ z1⟩
      refine ⟨rfl, ⟨fun b o e => ?_, fun b o e => ?_⟩, os, bare⟩ <;> by_cases hb : b ∈ ps
      · obtain ⟨more, hm⟩ := grown b hb
        obtain ⟨e1, _, c, hc⟩ := psE b hb
        rw [e1] at e; cases e
        exact .inr (.inl ⟨(hc.tab e1).isCodeTable, rfl, #[], more, rfl, hm⟩)
      · exact .inl (stays b o hb e)
      · obtain ⟨more, hm⟩ := grown b hb
        exact ⟨_, hm⟩
      · exact ⟨o, stays b o hb e⟩
theorem walk_ofGT {l : PySem.W.OpenLaw} {n k : Nat} {q : Program} {loose : List Str} {XP : (Str → Option Value) → Heap → Prop} {YP : World → Heap → Prop} {d : DefRec} {x : Str} {xs : List Str}
    (most : l.most = some n) (most2 : n ≤ 63) (dfl : d.params.defaults = []) (hr : Room k callerA)
    (F : ∀ (w : World) (mg : Str → Option Value) (fa : Addr) (h : Heap), YP w h → h.Ns mainGlobals mg → mg d.name = some (.ref fa) →
      ∃ (K : PySem.W.Frag) (fd : FuncData), K.In h ∧ (∀ (s : Shared) (u : Value), BindsTo s fd ⟨[u], []⟩ [(x, u)]) ∧
        (∀ y ∈ xs, h.get? (tabP K y) = some { cls := .none, data := .fields #[] } ∧ K.lookup (tabP K y) = none ∧ PySem.W.CodeHd h (codP K y) (tabP K y)) ∧ (xs.map (tabP K)).Nodup ∧
        ∀ base : Heap, K.In base → base.Ns mainGlobals mg → Tabs K mg base xs → FnG l.prog w K mg base k fa fd [x] (spLawT K (tabsT K xs))) : PySem.W.WalkO q loose XP YP l.row.toRowW d [] (fun f vs => PySem.call f vs) := by
  refine Att.attach_call most dfl fun w s₀ s₁ mg mb fa o pm cd doc a vs ns G Y ho hd hcd hmg hobj hints hlen hg => ?_
  obtain ⟨K, fd, KX, hb, hx, nd, hF⟩ := F w mg fa _ Y G.T.g hmg
  have mem : ∀ p ∈ xs.map (fun y => (codP K y, tabP K y)), ∃ y ∈ xs, p = (codP K y, tabP K y) := fun p hp => by
    obtain ⟨y, hy, rfl⟩ := List.mem_map.mp hp
    exact ⟨y, hy, rfl⟩
  refine law_callGT (ts := xs.map fun y => (codP K y, tabP K y)) KX G.T.g G.T.b G.T.builtins G.T.nolimit hg (fun p hp => ?_) (fun p hp => ?_) (fun p hp => ?_) G.T.bmain hobj hints (by have := hlen; unfold sizeLine; omega) hr (fun base h1 h2 h3 => hF base h1 h2 ⟨nd, fun y hy => h3 _ (List.mem_map.mpr ⟨y, hy, rfl⟩)⟩) hb fun T h1 h2 => ⟨fun p hp => ?_, a, ns, rfl, h2, by omega, fun _ => rfl⟩
  · obtain ⟨y, hy, rfl⟩ := mem p hp; exact (hx y hy).1
  · obtain ⟨y, hy, rfl⟩ := mem p hp; exact (hx y hy).2.1
  · obtain ⟨y, hy, rfl⟩ := mem p hp; exact (hx y hy).2.2
  · obtain ⟨y, hy, rfl⟩ := List.mem_map.mp hp
    exact h1 _ (List.mem_map.mpr ⟨y, hy, rfl⟩)
section
variable {fa : List He.Fa} {fn : List He.DefD} {ex : PySem.W.Frag → Bool} {xs : List Str}
theorem obsLG_eq {n : Nat} {g : Addr → Option Obj} {s : Shared} (h : ∀ a, g a = s.heap.get? a) : obsLG n fa fn ex xs g = (hookL n fa fn ex xs).obs s := by
  have e : g = s.heap.get? := funext h
  rw [e] <;> rfl
end
end Pm
set_option Elab.async false
set_option linter.all false
set_option maxRecDepth 100000
set_option maxHeartbeats 2000000
set_option autoImplicit false
namespace Pm
open PySem PySem.Spec
open PyProof.Rows hiding St
open L2 TL
theorem Pl.take {l : List Nat} (h : Pl l) (k : Nat) : Pl (l.take k) := fun c hc => h c (List.mem_of_mem_take hc)
theorem Pl.drop {l : List Nat} (h : Pl l) (k : Nat) : Pl (l.drop k) := fun c hc => h c (List.mem_of_mem_drop hc)
theorem RunOk.take {m : Nat} {l : List Nat} (h : RunOk m l) (k : Nat) : RunOk m (l.take k) := h.sub (a := []) (b := l.drop k) (by simp)
theorem RunOk.drop {m : Nat} {l : List Nat} (h : RunOk m l) (k : Nat) : RunOk m (l.drop k) := h.sub (a := l.take k) (b := []) (by simp)
theorem glue_sum {c : Nat} : ∀ ws : List (List Nat), (glue c ws).length ≤ (ws.map fun w => w.length + 1).sum
  | [] => by simp [glue]
  | [w] => by simp [glue]
  | w :: v :: ws => by
    have ih := glue_sum (c := c) (v :: ws)
    rw [glue_cons (by simp)]
    simp only [List.map_cons, List.sum_cons, List.length_append, List.length_cons] at ih ⊢
    omega
theorem cuts_sum {c : Nat} : ∀ l : List Nat, ((cuts c l).map fun w => w.length + 1).sum = l.length + 1
  | [] => rfl
  | x :: l => by
    have ih := cuts_sum (c := c) l
    by_cases h : x = c
    · rw [cuts, if_pos h, List.map_cons, List.sum_cons, ih]
      simp only [List.length_nil, List.length_cons]; omega
    · obtain ⟨w, ws, e1, e2⟩ := cuts_cons (l := l) h
      rw [e1] at ih
      rw [e2]
      simp only [List.map_cons, List.sum_cons, List.length_cons] at ih ⊢
      omega
theorem take_sum {α : Type} (f : α → Nat) (l : List α) (k : Nat) : ((l.take k).map f).sum + ((l.drop k).map f).sum = (l.map f).sum := by
  rw [← List.sum_append, ← List.map_append, List.take_append_drop]
theorem cuts_count {c : Nat} : ∀ l : List Nat, (cuts c l).length = l.count c + 1
  | [] => rfl
  | x :: l => by
    have ih := cuts_count (c := c) l
    by_cases h : x = c
    · subst h
      rw [cuts, if_pos rfl, List.length_cons, ih, List.count_cons_self]
    · obtain ⟨w, ws, e1, e2⟩ := cuts_cons (l := l) h
      rw [e1] at ih
      rw [e2, List.count_cons_of_ne (by simpa using h)]
      simpa using ih
theorem glue_count {c : Nat} : ∀ {ws : List (List Nat)}, (∀ w ∈ ws, c ∉ w) → (glue c ws).count c ≤ ws.length - 1
  | [], _ => by simp [glue]
  | [w], h => by
    show w.count c ≤ 0
    rw [List.count_eq_zero.mpr (h w (by simp))]; exact Nat.le_refl _
  | w :: v :: ws, h => by
    have ih := glue_count (c := c) (ws := v :: ws) fun x hx => h x (by simp at hx ⊢; exact .inr hx)
    rw [glue_cons (by simp), List.count_append, List.count_cons_self, List.count_eq_zero.mpr (h w (by simp))]
    simp only [List.length_cons] at ih ⊢
    omega
theorem txs_str (ls : List (List Nat)) : ls.map txD = (ls.map mkS).map D.str := by rw [List.map_map]; rfl
theorem parseGo_back : ∀ (ws : List (List Nat)) (k : Nat) (qs : List (Int × Int)), parseGo k ws = .ok qs → ∃ rs : List Rat, qs = rqs rs ∧ ws = rs.map frL
  | [], k, qs, h => by cases h; exact ⟨[], rfl, rfl⟩
  | w :: ws, k, qs, h => by
    unfold parseGo at h
    cases e : readF w with
    | none => rw [e] at h; cases h
    | some q =>
      rw [e] at h
      cases e2 : parseGo (k + 1) ws with
      | error j => rw [e2] at h; cases h
      | ok qs2 =>
        rw [e2] at h
        cases h
        obtain ⟨rs, rfl, rfl⟩ := parseGo_back ws (k + 1) qs2 e2
        obtain ⟨x, rfl, rfl⟩ := readF_back e
        exact ⟨x :: rs, rfl, rfl⟩
theorem parseR_back {l : List Nat} {qs : List (Int × Int)} (h : parseR l = .ok qs) : ∃ rs : List Rat, qs = rqs rs ∧ l = glue 32 (rs.map frL) ∧ rs.length = l.count 32 + 1 ∧ cuts 32 l = rs.map frL := by
  obtain ⟨rs, h1, h2⟩ := parseGo_back _ _ _ h
  refine ⟨rs, h1, ?_, ?_, h2⟩
  · rw [← h2]; exact (glue_cuts 32 l).symm
  · have := congrArg List.length h2
    rw [List.length_map] at this
    rw [← this, cuts_count]
theorem frs_eqOk {rs : List Rat} (h : rs.length ≤ 1000) : (D.tup (rs.map frD)).pln = true ∧ (D.tup (rs.map frD)).dep < 24 ∧ (D.tup (rs.map frD)).wid ≤ 10000000 := by
  obtain ⟨h1, h2⟩ := frs_plns rs
  have w : ∀ l : List Rat, D.wids (l.map frD) ≤ 5100 * l.length := fun l => by
    induction l with
    | nil => exact Nat.le_refl _
    | cons x l ih =>
      have : (frD x).wid ≤ 5000 := by simp [frD, D.wid, D.wids]
      simp only [List.map_cons, D.wids, List.length_cons]; omega
  refine ⟨h1, by simp only [D.dep]; omega, ?_⟩
  have := w rs
  simp only [D.wid]; omega
end Pm
set_option Elab.async false
set_option linter.all false
set_option maxRecDepth 100000
set_option maxHeartbeats 2000000
set_option autoImplicit false
namespace Pm
open PySem PySem.Spec
open PyProof.Rows hiding St
open L2
def dct1 (x : Str) (i : Int) : D := .dct [.inr x] [.int i]
def rprK : D → DK → Prop := fun d R => (ShZ d ∨ ∃ x i, d = dct1 x i ∧ d.py.showable = true ∧ d.py.depth ≤ 60 ∧ d.py.shown.length ≤ sizeLine) ∧ R (.str d.py.shown)
theorem dct1_reads {X : Cx} {pins : List (Addr × Obj)} {σ : L2.St} {Z H : Hp} {s : Shared} (I : L2.Inv X pins σ H s) (k : Same Z H) {x : Str} {i : Int} {v : V} (h : At X.K Z (dct1 x i) v) : ∃ b as, v = .ref b ∧ Reads s.heap (.ref b) (dct1 x i).py as ∧ sysModules ∉ as := by
  have h : ∃ a kvs, v = .ref a ∧ Z a = some (.dK kvs) ∧ kvs.map (·.1) = [.inr x] ∧ Ats X.K Z [.int i] (kvs.map (·.2)) := by
    simpa only [dct1, At] using h
  obtain ⟨a, kvs, rfl, h2, h3, h4⟩ := h
  obtain ⟨k0, v0, rfl⟩ : ∃ k0 v0, kvs = [(k0, v0)] := by
    match kvs, h3 with
    | [(k0, v0)], _ => exact ⟨k0, v0, rfl⟩
  cases h3
  obtain ⟨w, ws, e1, e2, e3⟩ := h4
  have e1 : [v0] = w :: ws := e1
  cases e1
  have e2 : v0 = .int i := e2
  subst e2
  obtain ⟨_, hm, vs, rel, o, es, ep, ho, hx, hd, _, hp, _⟩ := dk_of I.hok (k _ _ h2)
  obtain ⟨t, rfl⟩ : ∃ t, vs = [(.inr x, Value.int i t)] := by
    cases rel with
    | cons r1 r2 =>
      cases r2
      obtain ⟨q1, t, q2⟩ := r1
      exact ⟨t, by congr 1; exact Prod.ext q1.symm q2⟩
  cases he : es.toList with
  | nil => rw [he] at hp; cases hp
  | cons e rest =>
    rw [he] at hp
    cases hp with
    | cons p1 p2 p3 =>
      cases p3
      have ev : e.val = .int i t := p2
      obtain ⟨t', ek⟩ : ∃ t', e.key = .str x t' := by
        rcases keyIs_shape (show keyIs (.inr x) e.key = true from p1) with ⟨j, t', z, _⟩ | ⟨y, t', z, z2⟩
        · cases z
        · cases z; exact ⟨t', z2⟩
      refine ⟨a, _, rfl, Reads.dict (kvs := [(.str x, .int i)]) ho hx.1 hd (by rw [he]; show ReadsAll _ [e.key] [.str x] _; rw [ek]; exact ReadsAll.cons (Reads.str x t') ReadsAll.nil) (by rw [he]; show ReadsAll _ [e.val] [.int i] _; rw [ev]; exact ReadsAll.cons (Reads.int i t) ReadsAll.nil), ?_⟩
      simp only [List.append_nil, List.mem_cons, List.not_mem_nil, or_false]
      exact fun e => by rw [← e] at hm; simp at hm
theorem c_reprK {X : Cx} {k : Nat} (k0 : sysB X.K = true) (hr : Room k X.A) (hg : X.A.guards = some []) : CallR X (.builtin "repr") (dCall X.K (fn1 rprK)) := by
  intro pins s σ H xs us Q I r ⟨Z, ds, R, k1, a, w, q⟩
  obtain ⟨d, rfl, w⟩ : ∃ d, ds = [d] ∧ rprK d R := by
    cases ds with
    | nil => exact w.elim
    | cons d ds => cases ds with
      | nil => exact ⟨d, rfl, w⟩
      | cons _ _ => exact w.elim
  obtain ⟨h | ⟨x, i, rfl, p1, p2, p3⟩, w2⟩ := w
  · exact c_reprZ k0 hr hg pins s σ H xs us Q I r ⟨Z, [d], R, k1, a, ⟨h, w2⟩, q⟩
  · obtain ⟨v, vs, rfl, h1, h2⟩ := (show ∃ v vs, xs = v :: vs ∧ At X.K Z (dct1 x i) v ∧ vs = [] from a)
    subst h2
    obtain ⟨b, as, rfl, rd, hn⟩ := dct1_reads I k1 h1
    cases r with
    | cons r1 r2 =>
      cases r2
      cases r1
      have un := hr.un
      refine repr_of_reads' rd p1 (fun _ => hn) hg (by omega) (fun _ _ z => z) (fun h' u tk kp => ?_) p3
      exact ⟨.str _, H, I.kept (t' := tk) kp, ⟨u, rfl⟩, dk q k1 w2 rfl⟩
section
variable {γ : Type} {X : Cx} {G : GP γ} {pos p1 p2 : Pos} {j1 j2 : Nat}
theorem qe_dict1 {x : Str} {i : Int} {ek ev : Expr} (hk : PE X ek (tC (.str x))) (hv : PE X ev (tC (.int i))) : QE X G (.Dict [some ek] [ev] pos) (qC (dct1 x i) : PEx γ) := by
  refine PE.imp (pe_disp (pps_cons hk hv pps_nil) rfl rfl (by simp) (by show 1 ≤ 15; decide)) fun σ H Q ⟨F, Z, s, R, r, t, q⟩ => fun p hp => ?_
  have hz := (r.fresh hp).1
  refine ⟨upd_same, [(.inr x, .int i)], ?_, by show 1 ≤ 15; decide, ?_⟩
  · rfl
  · have e : upd (upd H p (HO.dK [])) p (HO.dK (mergeK [] [(Sum.inr x, V.int i)])) = upd H p (.dK [(.inr x, .int i)]) := by
      funext b
      by_cases hb : b = p
      · subst hb; rw [upd_same, upd_same]; rfl
      · rw [upd_ne hb, upd_ne hb, upd_ne hb]
    rw [e]
    have k := same_upd (o := HO.dK [(.inr x, V.int i)]) hz
    exact q _ s (upd Z p (.dK [(.inr x, .int i)])) _ _ t k (r.new hp) ⟨p, [(.inr x, .int i)], rfl, upd_same, rfl, .int i, [], rfl, rfl, rfl⟩
end
end Pm
set_option Elab.async false
set_option linter.all false
set_option maxRecDepth 100000
set_option maxHeartbeats 2000000
set_option autoImplicit false
namespace Pm
open PySem PySem.Spec
open PyProof.Rows hiding St
open L2 TL
def PE1 (X : Cx) (e : Expr) (t : TE) : Prop := ∀ (pins : List (Addr × Obj)) (s : Shared) (σ : L2.St) (H : Hp) (Q : VK), L2.Inv X pins σ H s → t σ H Q → wpAny (model X.prog X.w) X.A (eval e X.env) (fun v s1 => 1 ≤ s1.toks ∧ EP X pins σ Q v s1) X.xe s
section
variable {X : Cx} {e f : Expr} {es : List Expr} {te : TE} {ta : TA} {pos : Pos}
theorem pe1_opC {op : Operator} {r : R2} {c : Str} {j : Nat} {cp : Pos} {tf : TE} (ho : OpR X (binaryOp op) r) (ha : PE X e te) (hb : ∀ (σ : L2.St) (H : Hp) (Q : VK), tf σ H Q → Q (.str c) H) : PE1 X (.BinOp e op (.Constant (.str c) j cp) pos) (tOp r te tf) := by
  intro pins s σ H Q I h
  refine wpAny_BinOp (thn (ha.run pins s σ H _ I h) fun v s1 ⟨x, H1, I1, r1, q1⟩ => ?_)
  refine Calls.Constant_str ?_
  refine wpAny_mono (PySem.wpAny_toks (ho pins _ σ H1 x (.str c) v (.str c s1.toks) Q (I1.tok (s1.toks + 1)) r1 ⟨_, rfl⟩ (hb _ _ _ q1))) (fun u s2 q => ⟨?_, q.2⟩) fun _ _ z => z.2
  have := q.1
  show 1 ≤ s2.toks
  have h2 : s1.toks + 1 ≤ s2.toks := this
  omega
theorem pa_cons1 (ha : PE1 X e te) (hr : PAT X es ta) (hs : starEach (e :: es) X.env = (false, eval e X.env) :: starEach es X.env := by rfl) : PA X (e :: es) (tCons te ta) := by
  refine ⟨fun pos pins s σ H Q I h => ?_⟩
  rw [hs]
  show wpAny _ _ (spliced ((false, eval e X.env) :: backTo pos (starEach es X.env))) _ _ s
  refine Calls.spliced_cons (wpAny_mono (ha pins s σ H _ I h) (fun v s1 q => ?_) fun _ _ z => z)
  obtain ⟨hk, x, H1, I1, r1, q1⟩ := q
  exact thn (hr pos pins s1 σ H1 _ hk I1 q1) fun us s2 ⟨xs, H2, I2, r2, q2⟩ => ⟨x :: xs, H2, I2, .cons r1 r2, q2⟩
end
section
variable {γ : Type} {X : Cx} {G : GP γ} {e o : Expr} {es : List Expr} {pos apos : Pos}
abbrev QET (X : Cx) (G : GP γ) (e : Expr) (t : PEx γ) : Prop := PET X e (lE G t)
abbrev QE1 (X : Cx) (G : GP γ) (e : Expr) (t : PEx γ) : Prop := PE1 X e (lE G t)
abbrev QAT (X : Cx) (G : GP γ) (es : List Expr) (t : PAx γ) : Prop := PAT X es (lA G t)
theorem lcons {ta : PEx γ} {tr : PAx γ} {σ : L2.St} {H : Hp} {Q : List V → Hp → Prop} (h : lA G (qCons ta tr) σ H Q) : tCons (lE G ta) (lA G tr) σ H Q := by
  obtain ⟨F, Z, s, R, r, t, q⟩ := h
  refine ⟨F, Z, s, _, r, t, fun x s1 Z1 v1 H1 t1 k1 r1 a1 => ⟨F, Z1, s1, _, r1, t1, fun xs s2 Z2 vs H2 t2 k2 r2 a2 => ?_⟩⟩
  exact q _ s2 Z2 _ H2 t2 (k1.trans k2) r2 ⟨v1, vs, rfl, At.mono k2 _ _ a1, a2⟩
theorem qat_cons {ta : PEx γ} {tr : PAx γ} (ha : QET X G e ta) (hr : QAT X G es tr) (hs : starEach (e :: es) X.env = (false, eval e X.env) :: starEach es X.env := by rfl) : QAT X G (e :: es) (qCons ta tr) :=
  fun pos pins s σ H Q h0 I h => pat_cons ha hr hs pos pins s σ H Q h0 I (lcons h)
theorem qat_nil : QAT X G [] (qNil : PAx γ) := fun pos pins s σ H Q h0 I h => (qa_nil : QA X G [] qNil).run pos pins s σ H Q I h
theorem qet_of {t : PEx γ} (h : QE X G e t) : QET X G e t := CwR.PET.of h
theorem qa_cons1 {ta : PEx γ} {tr : PAx γ} (ha : QE1 X G e ta) (hr : QAT X G es tr) (hs : starEach (e :: es) X.env = (false, eval e X.env) :: starEach es X.env := by rfl) : QA X G (e :: es) (qCons ta tr) :=
  PA.imp (pa_cons1 ha hr hs) fun _ _ _ h => lcons h
theorem qe1_addC {te : PEx γ} {c : Str} {j : Nat} {cp : Pos} (ha : QE X G e te) (hK : X.K = G.K := by rfl) : QE1 X G (.BinOp e .Add (.Constant (.str c) j cp) pos) (qBin addD te (qC (.str c))) := by
  intro pins s σ H Q I h
  refine pe1_opC (r := dOp2 G.K addD) (tf := lE G (qC (.str c))) (by rw [← hK]; exact o_add) ha (fun σ H Q h => ?_) pins s σ H Q I (lbin h)
  obtain ⟨F, Z, sg, R, r, t, q⟩ := h
  exact q _ sg Z (.str c) H t (Same.refl _) r rfl
def qRepl (y z : Str) (to : PEx γ) : PEx γ := fun s R => to s fun d s1 => ∃ x, d = .str x ∧ x.length + (x.length + 1) * z.length ≤ 16777216 ∧ R (.str (Txt.replace x y z)) s1
theorem qet_repl {to : PEx γ} {y z : Str} {j k : Nat} {c0 c1 : Pos} (ho : QE X G o to) (hyz : (y == z) = false := by decide)
    (hst : starEach [.Constant (.str y) j c0, .Constant (.str z) k c1] X.env = [(false, eval (.Constant (.str y) j c0) X.env), (false, eval (.Constant (.str z) k c1) X.env)] := by rfl)
    (hbase : attributeBase o "replace" X.env (eval o X.env) = eval o X.env := by rfl) (hline : (apos.endLine == pos.line) = true := by rfl) :
    QET X G (.Call (.Attribute o "replace" apos) [.Constant (.str y) j c0, .Constant (.str z) k c1] [] pos) (qRepl y z to) := by
  intro pins s σ H Q h0 I h
  refine CwR.pet_replC ho hyz hst hbase hline pins s σ H Q h0 I ?_
  obtain ⟨F, Z, sg, R, r, t, q⟩ := h
  refine ⟨F, Z, sg, _, r, t, fun d s1 Z1 v H1 ⟨x, e1, hb, t1⟩ k1 r1 a1 => ?_⟩
  subst e1
  obtain rfl : v = .str x := a1
  exact ⟨x, rfl, hb, q _ s1 Z1 _ H1 t1 k1 r1 rfl⟩
end
def repL (c : Nat) (z : List Nat) (l : List Nat) : List Nat := l.flatMap fun x => if x = c then z else [x]
theorem replL_one (c : Nat) (z : List Nat) : ∀ l : List Nat, StrLaws.replL [c] z l = repL c z l
  | [] => StrLaws.replL_nil
  | x :: l => by
    by_cases h : x = c
    · rw [StrLaws.replL_hit (by simp) (by simp [h])]
      show z ++ StrLaws.replL [c] z l = _
      rw [replL_one c z l]
      simp [repL, h]
    · rw [StrLaws.replL_miss (by simp [h]), replL_one c z l]
      simp [repL, h]
theorem replace_rep {c : Nat} (y z : Str) (hy : tl y = [c]) (l : List Nat) : Txt.replace (mkS l) y z = mkS (repL c (tl z) l) := by
  refine ext_tl ?_
  have := StrLaws.replace_list (x := mkS l) (y := y) (z := z) (by rw [len_tl, hy]; exact Nat.le_refl _)
  have h2 : tl (Txt.replace (mkS l) y z) = StrLaws.replL (tl y) (tl z) l := this
  (rw [h2, hy, replL_one]) <;> rfl
theorem repL_len {c : Nat} {z : List Nat} (hz : z.length ≤ 2) (l : List Nat) : (repL c z l).length ≤ 2 * l.length := by
  induction l with
  | nil => exact Nat.le_refl _
  | cons x l ih =>
    show ((if x = c then z else [x]) ++ repL c z l).length ≤ _
    rw [List.length_append, List.length_cons]
    split
    · omega
    · show 1 + _ ≤ _; omega
theorem repL_pl {c : Nat} {z l : List Nat} (hz : Pl z) (hl : Pl l) : Pl (repL c z l) := fun x hx => by
  obtain ⟨y, hy, hx⟩ := List.mem_flatMap.mp hx
  split at hx
  · exact hz x hx
  · rw [List.mem_singleton.mp hx]; exact hl y hy
theorem repL_count {c : Nat} {z : List Nat} (hz : z.length ≤ 2) (k : Nat) (l : List Nat) : (repL c z l).count k ≤ 2 * l.count k + 2 * l.count c := by
  induction l with
  | nil => exact Nat.zero_le _
  | cons x l ih =>
    show ((if x = c then z else [x]) ++ repL c z l).count k ≤ _
    rw [List.count_append, List.count_cons, List.count_cons]
    split
    · rename_i h
      have := List.count_le_length (a := k) (l := z)
      simp only [h, beq_self_eq_true, if_true]
      omega
    · have : ([x] : List Nat).count k = if x == k then 1 else 0 := by rw [List.count_cons]; simp
      rw [this]
      omega
theorem repL_free {c : Nat} {z : List Nat} : ∀ {w : List Nat}, c ∉ w → repL c z w = w
  | [], _ => rfl
  | x :: w, h => by
    show (if x = c then z else [x]) ++ repL c z w = _
    rw [if_neg (fun e => h (by simp [e])), repL_free fun q => h (by simp [q])]; rfl
theorem repL_app (c : Nat) (z u v : List Nat) : repL c z (u ++ v) = repL c z u ++ repL c z v := by unfold repL; rw [List.flatMap_append]
theorem repL_run {c m : Nat} (hc : isDg c = false) (l : List Nat) (h : RunOk m l) : RunOk m (repL c [c, c] l) := by
  have go : ∀ ws : List (List Nat), (∀ w ∈ ws, c ∉ w ∧ RunOk m w) → RunOk m (repL c [c, c] (glue c ws)) := by
    intro ws
    induction ws with
    | nil => intro _; exact RunOk.nil
    | cons w ws ih =>
      intro h
      have hw := h w (by simp)
      cases ws with
      | nil =>
        show RunOk m (repL c [c, c] w)
        rw [repL_free hw.1]; exact hw.2
      | cons v ws =>
        have ih := ih fun x hx => h x (by simp at hx ⊢; exact .inr hx)
        rw [glue_cons (by simp), repL_app, repL_free hw.1]
        show RunOk m (w ++ ((if c = c then [c, c] else [c]) ++ repL c [c, c] (glue c (v :: ws))))
        rw [if_pos rfl]
        exact RunOk.part hw.2 (RunOk.part RunOk.nil ih hc) hc
  have := go (cuts c l) fun w hw => ⟨(cuts_mem hw).1, h.cut hw⟩
  rw [glue_cuts] at this
  exact this
end Pm
set_option Elab.async false
set_option linter.all false
set_option maxRecDepth 100000
set_option maxHeartbeats 0
set_option autoImplicit false
namespace Pm
open PySem PySem.Spec
open PyProof.Rows hiding St
open L2 TL
def t_lowest_ba06 : PSx Unit := (qSeq (qPar 2 3 (qCons (qCall (fn1 absD) (qCons (qVar 0) qNil)) (qCons (qVar 1) qNil))) (qSeq (qWhile (qB (qBin gtD (qVar 3) (qC (.int 0)))) (qPar 2 3 (qCons (qVar 3) (qCons (qBin modD (qVar 2) (qVar 3)) qNil)))) (qRet (qTup (qCons (qBin fdivD (qVar 0) (qVar 2)) (qCons (qBin fdivD (qVar 1) (qVar 2)) qNil))))))

def sp_lowest_ba06 : Spec0 := fun ds R => ∃ n d : Int, ds = [.int n, .int d] ∧ 0 < d ∧ Sz 9000 d ∧ R (frD (Rat.divInt n d))
theorem len_lowest_ba06 (ds : List D) (R : DK) (h : sp_lowest_ba06 ds R) : ds.length = 2 := by
  obtain ⟨a, b, rfl, _⟩ := h; rfl
theorem p_lowest_ba06 (ds : List D) (R : DK) (h : sp_lowest_ba06 ds R) : t_lowest_ba06 { nx := fun _ => R .non, rt := fun d _ => R d } ⟨startL 4 ds, ()⟩ := by
  obtain ⟨n, d, rfl, h0, hs, h⟩ := h
  refine ⟨fun m s => ∃ x y : Nat, s = ⟨[some (.val (.int n)), some (.val (.int d)), some (.val (.int x)), some (.val (.int y))], ()⟩ ∧ Nat.gcd x y = Nat.gcd n.natAbs d.natAbs ∧ m = y, ⟨d.natAbs, _, Wk.refl _, n.natAbs, d.natAbs, ?_, rfl, rfl⟩, ?_⟩
  · have e : ((d.natAbs : Nat) : Int) = d := by omega
    rw [e]; rfl
  rintro m s ⟨x, y, rfl, e, hm⟩
  refine ⟨fun hc => ?_, fun hc => ?_⟩
  · have hy : 0 < y := by have := of_decide_eq_true hc; omega
    refine ⟨by omega, x % y, _, by rw [hm]; exact Nat.mod_lt _ hy, Wk.refl _, y, x % y, rfl, ?_, rfl⟩
    rw [← e, Nat.gcd_comm x y, Nat.gcd_rec y x, Nat.gcd_comm]
  · have hy : y = 0 := by have := of_decide_eq_false hc; omega
    subst hy
    rw [Nat.gcd_zero_right] at e
    subst e
    have hgp : 0 < n.natAbs.gcd d.natAbs := Nat.gcd_pos_of_pos_right _ (by omega)
    have hgs : Sz 9000 (n.natAbs.gcd d.natAbs : Nat) := by
      unfold Sz at *
      exact Nat.lt_of_le_of_lt (Nat.gcd_le_right _ (by omega)) hs
    obtain ⟨e1, e2⟩ := divInt_parts (n := n) (d := d) (by omega)
    rw [if_neg (by omega)] at e1 e2
    have dk : ∀ i, DivOk i ((n.natAbs.gcd d.natAbs : Nat) : Int) := fun i => divOk_of (b := 9000) hgs (by omega)
    refine ⟨dk _, dk _, (by show 2 ≤ sizeLine; decide), ?_⟩
    unfold frD at h
    rw [e1, e2] at h; exact h

def t_fraction_6a64 (r : Addr) : PSx Nat := (qSeq (qAsg (qBin ixD (qSet (qLst (qCons (qC (.int 3)) (qCons (qC (.int 9)) (qCons (qBin powD (qC (.int 10)) (qC (.int 6))) (qCons (qBin powD (qC (.int 10)) (qC (.int 29))) qNil)))))) (qCallG (nextS r) (qCons (qVar 0) (qCons (qC (.int 4)) qNil)))) 1) (qRet (qCallP (sp_lowest_ba06) (qCons (qBin subD (qCallG (nextS r) (qCons (qVar 0) (qCons (qBin addD (qBin mulD (qC (.int 2)) (qVar 1)) (qC (.int 1))) qNil))) (qVar 1)) (qCons (qBin addD (qC (.int 1)) (qCallG (nextS r) (qCons (qVar 0) (qCons (qVar 1) qNil)))) qNil)))))

def sp_fraction_6a64 (r : Addr) : Spec Nat := fun ds g R => ds = [.obj r] ∧ g + 2 < drawLine ∧ ∀ x : Rat, SzR 100 x → R (frD x) (g + 3)
theorem len_fraction_6a64 (r : Addr) (ds : List D) (g : Nat) (R : D → Nat → Prop) (h : sp_fraction_6a64 r ds g R) : ds.length = 1 := by
  obtain ⟨rfl, _⟩ := h; rfl
theorem great_at {k : Int} (h0 : 0 ≤ k) (h1 : k < 4) : ∃ g : Int, idx [D.int 3, .int 9, .int (10 ^ (6 : Int).toNat), .int (10 ^ (29 : Int).toNat)] k = some (.int g) ∧ 3 ≤ g ∧ g ≤ 10 ^ 29 := by
  have h : k = 0 ∨ k = 1 ∨ k = 2 ∨ k = 3 := by omega
  rcases h with rfl | rfl | rfl | rfl
  · exact ⟨_, rfl, by decide, by decide⟩
  · exact ⟨_, rfl, by decide, by decide⟩
  · exact ⟨_, rfl, by decide, by decide⟩
  · exact ⟨_, rfl, by decide, by decide⟩
theorem p_fraction_6a64 (r : Addr) (ds : List D) (g : Nat) (R : D → Nat → Prop) (h : sp_fraction_6a64 r ds g R) : t_fraction_6a64 r { nx := fun s => R .non s.g, rt := R } ⟨startL 2 ds, g⟩ := by
  obtain ⟨rfl, hg, h⟩ := h
  refine ⟨⟨by decide, by decide, by decide⟩, ⟨by decide, by decide, by decide⟩, (by show 4 ≤ sizeLine; decide), ?_⟩
  refine ⟨4, rfl, by decide, by decide, (by show g < drawLine; omega), fun k k0 k1 => ?_⟩
  obtain ⟨m, e, m1, m2⟩ := great_at k0 k1
  refine ⟨.int m, e, ?_⟩
  refine ⟨.inl (.inl ⟨by decide, by decide⟩), ?_⟩
  refine ⟨2 * m + 1, rfl, by omega, ?_, (by show g + 1 < drawLine; omega), fun a a0 a1 => ?_⟩
  · have : (10 : Int) ^ 29 * 2 + 1 ≤ 10 ^ 60 := by decide
    omega
  refine ⟨m, rfl, by omega, ?_, (by show g + 2 < drawLine; omega), fun b b0 b1 => ?_⟩
  · have : (10 : Int) ^ 29 ≤ 10 ^ 60 := by decide
    omega
  have lim : (10 : Int) ^ 29 < 2 ^ 97 := by decide
  have s1 : Sz 100 (a - m) := by
    unfold Sz
    have : (2 : Int) ^ 97 < 2 ^ 100 := by decide
    have e : ((2 ^ 100 : Nat) : Int) = 2 ^ 100 := by decide
    omega
  have s2 : Sz 100 (1 + b) := by
    unfold Sz
    have : (2 : Int) ^ 97 < 2 ^ 100 := by decide
    have e : ((2 ^ 100 : Nat) : Int) = 2 ^ 100 := by decide
    omega
  exact ⟨a - m, 1 + b, rfl, by omega, s2.le (by decide), h _ (SzR.divInt s1 s2 (by omega))⟩

def t_written_5c80 (r : Addr) : PSx Nat := (qSeq (qAsg (qBin addD (qC (.int 1)) (qCallG (nextS r) (qCons (qVar 0) (qCons (qVar 1) qNil)))) 2) (qSeq (qIf (qB (qBin eqD (qCallG (nextS r) (qCons (qVar 0) (qCons (qC (.int 2)) qNil))) (qC (.int 0)))) (qRet (qCall (fn1 tupleD) (qCons (qSet (qLc (qRange1 (qCons (qVar 2) qNil)) (.nm 3) [3] qYes (qCallG (sp_fraction_6a64 r) (qCons (qVar 0) qNil)))) qNil))) qNext) (qRet (qCall (fn1 tupleD) (qCons (qSet (qLc (qRange1 (qCons (qBin mulD (qC (.int 4)) (qVar 2)) qNil)) (.nm 3) [3] qYes (qCallP (sp_lowest_ba06) (qCons (qBin subD (qCallG (nextS r) (qCons (qVar 0) (qCons (qC (.int 2001)) qNil))) (qC (.int 1000))) (qCons (qBin addD (qC (.int 1)) (qCallG (nextS r) (qCons (qVar 0) (qCons (qC (.int 99)) qNil)))) qNil))))) qNil)))))

def sp_written_5c80 (r : Addr) : Spec Nat := fun ds g R => ∃ m : Nat, ds = [.obj r, .int m] ∧ 1 ≤ m ∧ m ≤ 10 ∧ g + 1000 < drawLine ∧ ∀ (rs : List Rat) (g' : Nat), (∀ x ∈ rs, SzR 100 x) → 1 ≤ rs.length → rs.length ≤ 4 * m → g ≤ g' → g' ≤ g + 200 → R (.tup (rs.map frD)) g'
theorem len_written_5c80 (r : Addr) (ds : List D) (g : Nat) (R : D → Nat → Prop) (h : sp_written_5c80 r ds g R) : ds.length = 2 := by
  obtain ⟨_, rfl, _⟩ := h; rfl
theorem p_written_5c80 (r : Addr) (ds : List D) (g : Nat) (R : D → Nat → Prop) (h : sp_written_5c80 r ds g R) : t_written_5c80 r { nx := fun s => R .non s.g, rt := R } ⟨startL 4 ds, g⟩ := by
  obtain ⟨m, rfl, h1, h2, hg, h⟩ := h
  have line : (10000000 : Nat) ≤ sizeLine := line_big
  let O := some (L.val (.obj r))
  let M := some (L.val (.int (m : Int)))
  refine seq_mid (M := fun s' => ∃ n : Nat, 1 ≤ n ∧ n ≤ m ∧ s' = ⟨[O, M, some (.val (.int (n : Int))), none], g + 1⟩) ?_ ?_
  rotate_left
  · intro N hN
    refine ⟨m, rfl, by omega, by omega, (by show g < drawLine; omega), fun k k0 k1 => ?_⟩
    obtain ⟨k, rfl⟩ := Int.eq_ofNat_of_zero_le k0
    refine hN _ ⟨1 + k, by omega, by omega, ?_⟩
    rw [show (((1 + k : Nat) : Int)) = 1 + (k : Int) by omega]; rfl
  rintro _ ⟨n, n1, n2, rfl⟩
  let N1 := some (L.val (.int (n : Int)))
  refine seq_mid (M := fun s' => s' = ⟨[O, M, N1, none], g + 2⟩) ?_ ?_
  rotate_left
  · intro N hN
    refine ⟨2, rfl, by decide, by decide, (by show g + 1 < drawLine; omega), fun k k0 k1 => ⟨⟨rfl, rfl, Nat.zero_le _, Nat.zero_le _⟩, fun hc => ?_, fun _ => hN _ rfl⟩⟩
    refine ⟨⟨by omega, by omega⟩, ?_⟩
    refine ⟨fun i acc s => ∃ rs : List Rat, rs.length = i ∧ (∀ x ∈ rs, SzR 100 x) ∧ acc = rs.map frD ∧ s = ⟨[O, M, N1, none], g + 2 + 3 * i⟩, ⟨_, Wk.refl _, [], rfl, fun x hx => (nomatch hx), rfl, rfl⟩, ?_, ?_⟩
    · rintro i d acc s hd ⟨rs, hi, hs, rfl, rfl⟩
      have hi2 : i < n := by
        have := (List.getElem?_eq_some_iff.mp hd).1
        simpa using this
      refine put_nm ?_
      refine ⟨fun _ => ⟨rfl, (by show g + 2 + 3 * i + 2 < drawLine; omega), fun x hx => ?_⟩, fun z => (by cases z)⟩
      refine ⟨by rw [List.length_map]; omega, ⟨[O, M, N1, none], g + 2 + 3 * (i + 1)⟩, Wk.of (by repeat' first | exact trivial | exact .inr rfl | exact .inl rfl | refine ⟨?_, ?_⟩), rs ++ [x], by rw [List.length_append, hi]; rfl, fun y hy => ?_, ?_, rfl⟩
      · rcases List.mem_append.mp hy with z | z
        · exact hs y z
        · rw [List.mem_singleton.mp z]; exact hx
      · rw [List.map_append]; rfl
    · rintro acc s ⟨rs, hl, hs, rfl, rfl⟩
      have e : ((List.range ((n : Int)).toNat).map natD).length = n := by simp
      have hl : rs.length = n := hl.trans e
      refine h rs _ hs (by omega) (by omega) ?_ ?_
      · show g ≤ g + 2 + 3 * _; omega
      · show g + 2 + 3 * ((List.range ((n : Int)).toNat).map natD).length ≤ g + 200
        rw [e]; omega
  rintro _ rfl
  have c4 : ((4 : Int) * (n : Int)) = ((4 * n : Nat) : Int) := by omega
  refine ⟨.inl (.inl ⟨by decide, by decide⟩), ⟨by omega, by omega⟩, ?_⟩
  refine ⟨fun i acc s => ∃ rs : List Rat, rs.length = i ∧ (∀ x ∈ rs, SzR 100 x) ∧ acc = rs.map frD ∧ s = ⟨[O, M, N1, none], g + 2 + 2 * i⟩, ⟨_, Wk.refl _, [], rfl, fun x hx => (nomatch hx), rfl, rfl⟩, ?_, ?_⟩
  · rintro i d acc s hd ⟨rs, hi, hs, rfl, rfl⟩
    have hi2 : i < 4 * n := by
      have := (List.getElem?_eq_some_iff.mp hd).1
      rw [c4, List.length_map, List.length_range] at this
      exact this
    refine put_nm ?_
    refine ⟨fun _ => ⟨2001, rfl, by decide, by decide, (by show g + 2 + 2 * i < drawLine; omega), fun a a0 a1 => ⟨99, rfl, by decide, by decide, (by show g + 2 + 2 * i + 1 < drawLine; omega), fun b b0 b1 => ?_⟩⟩, fun z => (by cases z)⟩
    have sz : ∀ z : Int, -10000 ≤ z → z ≤ 10000 → Sz 20 z := fun z z0 z1 => by
      have e : (10000 : Nat) < 2 ^ 20 := by decide
      unfold Sz
      omega
    refine ⟨a - 1000, 1 + b, rfl, by omega, (sz _ (by omega) (by omega)).le (by decide), ?_⟩
    have hx : SzR 100 (Rat.divInt (a - 1000) (1 + b)) := by
      exact (SzR.divInt (sz _ (by omega) (by omega)) (sz _ (by omega) (by omega)) (by omega)).le (by decide)
    refine ⟨by rw [List.length_map]; omega, ⟨[O, M, N1, none], g + 2 + 2 * (i + 1)⟩, Wk.of (by repeat' first | exact trivial | exact .inr rfl | exact .inl rfl | refine ⟨?_, ?_⟩), rs ++ [Rat.divInt (a - 1000) (1 + b)], by rw [List.length_append, hi]; rfl, fun y hy => ?_, ?_, rfl⟩
    · rcases List.mem_append.mp hy with z | z
      · exact hs y z
      · rw [List.mem_singleton.mp z]; exact hx
    · rw [List.map_append]; rfl
  · rintro acc s ⟨rs, hl, hs, rfl, rfl⟩
    have e : ((List.range ((4 : Int) * (n : Int)).toNat).map natD).length = 4 * n := by rw [c4, List.length_map, List.length_range]; rfl
    have hl : rs.length = 4 * n := hl.trans e
    refine h rs _ hs (by omega) (by omega) ?_ ?_
    · show g ≤ g + 2 + 2 * _; omega
    · show g + 2 + 2 * ((List.range ((4 : Int) * (n : Int)).toNat).map natD).length ≤ g + 200
      rw [e]; omega

def t_one_be76 (r : Addr) : PSx Nat := (qRet (qBin ixD (qVar 1) (qCallG (nextS r) (qCons (qVar 0) (qCons (qCall (fn1 lenD) (qCons (qVar 1) qNil)) qNil)))))

def sp_one_be76 (r : Addr) : Spec Nat := fun ds g R => ∃ xs : List D, (ds = [.obj r, .lst xs] ∨ ds = [.obj r, .tup xs]) ∧ 1 ≤ xs.length ∧ xs.length ≤ 100000 ∧ g < drawLine ∧ ∀ d ∈ xs, R d (g + 1)
theorem len_one_be76 (r : Addr) (ds : List D) (g : Nat) (R : D → Nat → Prop) (h : sp_one_be76 r ds g R) : ds.length = 2 := by
  obtain ⟨xs, rfl | rfl, _⟩ := h <;> rfl
theorem idx_mem {xs : List D} {k : Int} (k0 : 0 ≤ k) (k1 : k < xs.length) : ∃ d, idx xs k = some d ∧ d ∈ xs := by
  have hk : k.toNat < xs.length := by omega
  refine ⟨xs[k.toNat], ?_, List.getElem_mem hk⟩
  unfold idx
  rw [if_neg (by omega)]
  exact List.getElem?_eq_getElem hk
theorem p_one_be76 (r : Addr) (ds : List D) (g : Nat) (R : D → Nat → Prop) (h : sp_one_be76 r ds g R) : t_one_be76 r { nx := fun s => R .non s.g, rt := R } ⟨startL 2 ds, g⟩ := by
  obtain ⟨xs, rfl | rfl, h1, h2, hg, h⟩ := h
  · refine ⟨xs.length, rfl, by omega, by omega, hg, fun k k0 k1 => ?_⟩
    obtain ⟨d, e, hd⟩ := idx_mem k0 k1
    exact ⟨d, e, h d hd⟩
  · refine ⟨xs.length, rfl, by omega, by omega, hg, fun k k0 k1 => ?_⟩
    obtain ⟨d, e, hd⟩ := idx_mem k0 k1
    exact ⟨d, e, h d hd⟩

def t_bent_word_0551 (r : Addr) : PSx Nat := (qSeq (qPar 2 3 (qCons (qSet (qSplit (qVar 1) (qC (.str " ")))) (qCons (qCallG (nextS r) (qCons (qVar 0) (qCons (qC (.int 6)) qNil))) qNil))) (qSeq (qPar 4 5 (qCons (qCallG (nextS r) (qCons (qVar 0) (qCons (qCall (fn1 lenD) (qCons (qVar 2) qNil)) qNil))) (qCons (qCallG (nextS r) (qCons (qVar 0) (qCons (qBin addD (qCall (fn1 lenD) (qCons (qVar 1) qNil)) (qC (.int 1))) qNil))) qNil))) (qSeq (qAsgOwn (qLst (qCons (qC (.str "")) (qCons (qC (.str "-")) (qCons (qC (.str "-0")) (qCons (qC (.str "0")) (qCons (qC (.str "00")) (qCons (qC (.str "01")) (qCons (qC (.str "1/1")) (qCons (qC (.str "2/4")) (qCons (qC (.str "0/3")) (qCons (qC (.str "1/-2")) (qCons (qC (.str "1/")) (qCons (qC (.str "/2")) (qCons (qC (.str "1/2/3")) (qCons (qC (.str "+1")) (qCons (qC (.str "1_0")) (qCons (qC (.str "1/2")) (qCons (qC (.str "x")) qNil)))))))))))))))))) 6) (qSeq (qAsgOwn (qBinF addF (qVar 6) (qSet (qLst (qCons (qC (.str "1.0")) (qCons (qC (.str "1000000000")) (qCons (qC (.str "1000000001")) (qCons (qC (.str "-1000000001")) (qCons (qC (.str "1000000")) (qCons (qC (.str "1000001")) (qCons (qC (.str "7")) (qCons (qC (.str "8")) (qCons (qC (.str "item")) (qCons (qC (.str "rule")) qNil))))))))))))) 6) (qSeq (qDrop (qAppend 6 (qBin mulS (qC (.str "9")) (qC (.int 40))))) (qSeq (qAsg (qBin ixD (qSet (qLst (qCons (qSet (qLst (qCons (qCallG (sp_one_be76 r) (qCons (qVar 0) (qCons (qVar 6) qNil))) qNil))) (qCons (qSet (qLst qNil)) (qCons (qBin mulD (qSl (qVar 2) (qPart (qVar 4)) (qPart (qBin addD (qVar 4) (qC (.int 1))))) (qC (.int 2))) qNil))))) (qBin modD (qVar 3) (qC (.int 3)))) 7) (qSeq (qIf (qB (qBin ltD (qVar 3) (qC (.int 4)))) (qRet (qJoin (qC (.str " ")) (qBin addD (qBin addD (qSl (qVar 2) qNoPart (qPart (qVar 4))) (qVar 7)) (qSl (qVar 2) (qPart (qBin addD (qVar 4) (qC (.int 1)))) qNoPart)))) qNext) (qSeq (qAsg (qCallG (sp_one_be76 r) (qCons (qVar 0) (qCons (qSet (qLst (qCons (qC (.str " ")) (qCons (qC (.str "\n")) (qCons (qC (.str "/")) (qCons (qC (.str "-")) (qCons (qC (.str "0")) (qCons (qC (.str "1")) (qCons (qC (.str "9")) (qCons (qC (.str "a")) (qCons (qC (.str ";")) qNil))))))))))) qNil))) 8) (qRet (qBin addD (qBin addD (qSl (qVar 1) qNoPart (qPart (qVar 5))) (qBin ixD (qSet (qLst (qCons (qC (.str "")) (qCons (qVar 8) qNil)))) (qCallG (nextS r) (qCons (qVar 0) (qCons (qC (.int 2)) qNil))))) (qSl (qVar 1) (qPart (qBin addD (qVar 5) (qCallG (nextS r) (qCons (qVar 0) (qCons (qC (.int 2)) qNil))))) qNoPart)))))))))))

def sp_bent_word_0551 (r : Addr) : Spec Nat := fun ds g R => ∃ (l : List Nat) (m : Nat), ds = [.obj r, .str (mkS l)] ∧ 20 ≤ m ∧ l.length ≤ 40000 ∧ RunOk m l ∧ Pl l ∧ g + 10 < drawLine ∧
  ∀ (l' : List Nat) (g' : Nat), RunOk (2 * m + 1) l' → Pl l' → l'.length ≤ 2 * l.length + 50 → l'.count 32 ≤ l.count 32 + 1 → g ≤ g' → g' ≤ g + 10 → R (.str (mkS l')) g'
theorem len_bent_word_0551 (r : Addr) (ds : List D) (g : Nat) (R : D → Nat → Prop) (h : sp_bent_word_0551 r ds g R) : ds.length = 2 := by
  obtain ⟨_, _, rfl, _⟩ := h; rfl
theorem p_bent_word_0551 (r : Addr) (ds : List D) (g : Nat) (R : D → Nat → Prop) (h : sp_bent_word_0551 r ds g R) : t_bent_word_0551 r { nx := fun s => R .non s.g, rt := R } ⟨startL 9 ds, g⟩ := by
  obtain ⟨l, m, rfl, hm, hl, hr, hp, hg, h⟩ := h
  have line : (10000000 : Nat) ≤ sizeLine := line_big
  have lim : drawLine = 16777216 := by decide
  let O := some (L.val (.obj r))
  let T := some (L.val (.str (mkS l)))
  let I (i : Int) := some (L.val (.int i))
  let ws := cuts 32 l
  have wl : ws.length ≤ l.length + 1 := cuts_len l
  have w1 : 1 ≤ ws.length := by
    have := cuts_ne 32 l
    have : ws ≠ [] := this
    cases e : ws with
    | nil => exact absurd e this
    | cons => simp
  have wm : ∀ w ∈ ws, RunOk m w ∧ Pl w ∧ w.length ≤ l.length := fun w hw => ⟨hr.cut hw, hp.cut hw, by
    obtain ⟨_, a, b, e⟩ := cuts_mem hw
    rw [e]; simp; omega⟩
  let W := some (L.val (.lst (ws.map txD)))
  refine seq_mid (M := fun s' => ∃ way : Int, 0 ≤ way ∧ way < 6 ∧ s' = ⟨[O, T, W, I way, none, none, none, none, none], g + 1⟩) ?_ ?_
  rotate_left
  · intro N hN
    refine ⟨_, rfl, _, rfl, by decide +kernel, by rw [mkS_len]; omega, ?_⟩
    rw [split_map sp_eq (by decide)]
    exact ⟨6, rfl, by decide, by decide, (by show g < drawLine; omega), fun k k0 k1 => hN _ ⟨k, k0, k1, rfl⟩⟩
  rintro _ ⟨way, y0, y6, rfl⟩
  have wml : (ws.map txD).length = ws.length := List.length_map ..
  refine seq_mid (M := fun s' => ∃ at_ spot : Nat, at_ < ws.length ∧ spot ≤ l.length ∧ s' = ⟨[O, T, W, I way, I at_, I spot, none, none, none], g + 3⟩) ?_ ?_
  rotate_left
  · intro N hN
    refine ⟨_, rfl, by rw [wml]; omega, by rw [wml]; omega, (by show g + 1 < drawLine; omega), fun a a0 a1 => ⟨by show (mkS l).length ≤ sizeLine; rw [mkS_len]; omega, _, rfl, by rw [mkS_len]; omega, by rw [mkS_len]; omega, (by show g + 2 < drawLine; omega), fun b b0 b1 => ?_⟩⟩
    obtain ⟨a, rfl⟩ := Int.eq_ofNat_of_zero_le a0
    obtain ⟨b, rfl⟩ := Int.eq_ofNat_of_zero_le b0
    rw [wml] at a1
    rw [mkS_len] at b1
    exact hN _ ⟨a, b, by omega, by omega, rfl⟩
  rintro _ ⟨a, b, ha, hb, rfl⟩
  let GoodW (w : List Nat) : Prop := w.length ≤ 40 ∧ Pl w ∧ 32 ∉ w
  refine seq_mid (M := fun s' => ∃ ls : List (List Nat), ls.length = 17 ∧ (∀ w ∈ ls, GoodW w) ∧ s' = ⟨[O, T, W, I way, I a, I b, some (.own (ls.map txD)), none, none], g + 3⟩) ?_ ?_
  rotate_left
  · intro N hN
    let L17 : List Str := ["", "-", "-0", "0", "00", "01", "1/1", "2/4", "0/3", "1/-2", "1/", "/2", "1/2/3", "+1", "1_0", "1/2", "x"]
    have g17 : L17.all (fun x => decide ((tl x).length ≤ 40) && (tl x).all fun c => decide (c < 128) && decide (c ≠ 32)) = true := by decide +kernel
    refine ⟨by show 17 ≤ sizeLine; omega, hN _ ⟨L17.map tl, rfl, fun w hw => ?_, ?_⟩⟩
    · obtain ⟨x, hx, rfl⟩ := List.mem_map.mp hw
      have := List.all_eq_true.mp g17 x hx
      simp only [Bool.and_eq_true, decide_eq_true_eq, List.all_eq_true] at this
      exact ⟨this.1, fun c hc => (this.2 c hc).1, fun hc => (this.2 32 hc).2 rfl⟩
    · rw [List.map_map]; rfl
  rintro _ ⟨ls, l17, lg, rfl⟩
  refine seq_mid (M := fun s' => ∃ ls : List (List Nat), ls.length = 27 ∧ (∀ w ∈ ls, GoodW w) ∧ s' = ⟨[O, T, W, I way, I a, I b, some (.own (ls.map txD)), none, none], g + 3⟩) ?_ ?_
  rotate_left
  · intro N hN
    let L10 : List Str := ["1.0", "1000000000", "1000000001", "-1000000001", "1000000", "1000001", "7", "8", "item", "rule"]
    have g17 : L10.all (fun x => decide ((tl x).length ≤ 40) && (tl x).all fun c => decide (c < 128) && decide (c ≠ 32)) = true := by decide +kernel
    have e : (ls ++ L10.map tl).map txD = ls.map txD ++ L10.map D.str := by rw [List.map_append, List.map_map]; rfl
    refine ⟨by show 10 ≤ sizeLine; omega, by show (ls.map txD).length + 10 ≤ sizeLine; rw [List.length_map]; omega, hN _ ⟨ls ++ L10.map tl, by rw [List.length_append, l17]; rfl, fun w hw => ?_, ?_⟩⟩
    · rcases List.mem_append.mp hw with z | z
      · exact lg w z
      obtain ⟨x, hx, rfl⟩ := List.mem_map.mp z
      have := List.all_eq_true.mp g17 x hx
      simp only [Bool.and_eq_true, decide_eq_true_eq, List.all_eq_true] at this
      exact ⟨this.1, fun c hc => (this.2 c hc).1, fun hc => (this.2 32 hc).2 rfl⟩
    · rw [e]; rfl
  clear ls l17 lg
  rintro _ ⟨ls, l27, lg, rfl⟩
  refine seq_mid (M := fun s' => ∃ ls : List (List Nat), ls.length = 28 ∧ (∀ w ∈ ls, GoodW w) ∧ s' = ⟨[O, T, W, I way, I a, I b, some (.own (ls.map txD)), none, none], g + 3⟩) ?_ ?_
  rotate_left
  · intro N hN
    refine ⟨⟨_, rfl⟩, by decide, by decide, by decide +kernel, _, rfl, by rw [List.length_map]; omega, hN _ ⟨ls ++ [List.replicate 40 57], by rw [List.length_append, l27]; rfl, fun w hw => ?_, ?_⟩⟩
    · rcases List.mem_append.mp hw with z | z
      · exact lg w z
      · rw [List.mem_singleton.mp z]
        exact ⟨by decide, fun c hc => by rw [(List.mem_replicate.mp hc).2]; decide, by decide⟩
    · rw [List.map_append]
      have : D.str (repS "9" (Int.toNat 40)) = txD (List.replicate 40 57) := congrArg D.str (ext_tl (by decide +kernel))
      show (⟨[O, T, W, I way, I a, I b, some (.own (ls.map txD ++ [D.str (repS "9" (Int.toNat 40))])), none, none], g + 3⟩ : S Nat) = _
      rw [this]; rfl
  clear ls l27 lg
  rintro _ ⟨ls, l28, lg, rfl⟩
  let f (w : List Nat) : Nat := w.length + 1
  let GoodN (nl : List (List Nat)) : Prop := ((ws.take a).map f).sum + (nl.map f).sum + ((ws.drop (a + 1)).map f).sum ≤ 2 * l.length + 45 ∧ (∀ w ∈ nl, RunOk (2 * m + 1) w ∧ Pl w ∧ 32 ∉ w) ∧ nl.length ≤ 2
  refine seq_mid (M := fun s' => ∃ (nl : List (List Nat)), GoodN nl ∧ s' = ⟨[O, T, W, I way, I a, I b, some (.val (.lst (ls.map txD))), some (.val (.lst (nl.map txD))), none], g + 4⟩) ?_ ?_
  rotate_left
  · intro N hN
    have e3 : ∃ k : Nat, (k = 0 ∨ k = 1 ∨ k = 2) ∧ way % 3 = (k : Int) := by
      refine ⟨(way % 3).toNat, ?_, ?_⟩ <;> omega
    obtain ⟨k, hk, ek⟩ := e3
    have sums : ((ws.take a).map f).sum + f ws[a] + ((ws.drop (a + 1)).map f).sum = l.length + 1 := by
      have h1 := take_sum f ws a
      rw [List.drop_eq_getElem_cons ha, List.map_cons, List.sum_cons] at h1
      have h2 := cuts_sum (c := 32) l
      have h2 : (ws.map f).sum = l.length + 1 := h2
      omega
    have fa : f ws[a] ≤ l.length + 1 := by
      have := (wm ws[a] (List.getElem_mem ha)).2.2
      show ws[a].length + 1 ≤ _
      omega
    have cm : cut (ws.map txD) (some (a : Int)) (some ((a : Int) + 1)) = [txD ws[a]] := by
      have := cut_mid (ws.map txD) a (a + 1) (by rw [wml]; omega)
      rw [show ((a + 1 : Nat) : Int) = (a : Int) + 1 by omega] at this
      rw [this, ← List.map_drop, ← List.map_take, List.drop_eq_getElem_cons ha, show a + 1 - a = 1 by omega]
      rfl
    refine ⟨ls.map txD, .inl rfl, by rw [List.length_map]; omega, by rw [List.length_map]; omega, (by show g + 3 < drawLine; omega), fun d hd => ?_⟩
    obtain ⟨w, hw, rfl⟩ := List.mem_map.mp hd
    refine ⟨by show 1 ≤ sizeLine; omega, by show 0 ≤ sizeLine; omega, ⟨by decide, by decide, ?_⟩, by show 3 ≤ sizeLine; omega, ?_⟩
    · rw [cm]; show 1 * 2 ≤ sizeLine; omega
    have nx : ∀ nl : List (List Nat), idx [D.lst [txD w], .lst [], .lst (List.replicate (Int.toNat 2) [txD ws[a]]).flatten] (k : Int) = some (.lst (nl.map txD)) → GoodN nl → ∃ d, idx [D.lst [txD w], .lst [], .lst (List.replicate (Int.toNat 2) [txD ws[a]]).flatten] (k : Int) = some d ∧ N ⟨[O, T, W, I way, I a, I b, some (.val (.lst (ls.map txD))), some (.val d), none], g + 4⟩ := fun nl e gn => ⟨_, e, hN _ ⟨nl, gn, rfl⟩⟩
    obtain ⟨w40, wp, w32⟩ := lg w hw
    refine ⟨by show (0 : Int) < 3; decide, ?_⟩
    show ∃ d, idx [D.lst [txD w], .lst [], .lst (List.replicate (Int.toNat 2) (cut (ws.map txD) (some (a : Int)) (some ((a : Int) + 1)))).flatten] (way % 3) = some d ∧ N ⟨[O, T, W, I way, I a, I b, some (.val (.lst (ls.map txD))), some (.val d), none], g + 4⟩
    rw [ek, cm]
    rcases hk with rfl | rfl | rfl
    · refine nx [w] rfl ⟨?_, fun x hx => ?_, by simp⟩
      · show _ + (w.length + 1) + _ ≤ _
        omega
      · rw [List.mem_singleton.mp hx]
        exact ⟨RunOk.len (by omega), wp, w32⟩
    · refine nx [] rfl ⟨?_, fun x hx => (nomatch hx), by decide⟩
      show _ + 0 + _ ≤ _
      omega
    · refine nx [ws[a], ws[a]] rfl ⟨?_, fun x hx => ?_, by simp⟩
      · show _ + (f ws[a] + (f ws[a] + 0)) + _ ≤ _
        omega
      · have : x = ws[a] := by simpa using hx
        rw [this]
        obtain ⟨q1, q2, _⟩ := wm ws[a] (List.getElem_mem ha)
        exact ⟨q1.mono (by omega), q2, (cuts_mem (List.getElem_mem ha)).1⟩
  rintro _ ⟨nl, ⟨nsum, nok, n2⟩, rfl⟩
  refine seq_mid (M := fun s' => s' = ⟨[O, T, W, I way, I a, I b, some (.val (.lst (ls.map txD))), some (.val (.lst (nl.map txD))), none], g + 4⟩) ?_ ?_
  rotate_left
  · intro N hN
    refine ⟨fun _ => ?_, fun _ => hN _ rfl⟩
    have c1 : cut (ws.map txD) none (some (a : Int)) = (ws.take a).map txD := by rw [cut_to, List.map_take]
    have c2 : cut (ws.map txD) (some ((a : Int) + 1)) none = (ws.drop (a + 1)).map txD := by
      rw [show ((a : Int) + 1) = ((a + 1 : Nat) : Int) by omega, cut_from, List.map_drop]
    let xs := ws.take a ++ nl ++ ws.drop (a + 1)
    have ex : (ws.take a).map txD ++ nl.map txD ++ (ws.drop (a + 1)).map txD = (xs.map mkS).map D.str := by rw [← txs_str, List.map_append, List.map_append]
    have lx : xs.length ≤ l.length + 3 := by
      show (ws.take a ++ nl ++ ws.drop (a + 1)).length ≤ _
      rw [List.length_append, List.length_append, List.length_take, List.length_drop]; omega
    have sx : (xs.map f).sum ≤ 2 * l.length + 45 := by
      show ((ws.take a ++ nl ++ ws.drop (a + 1)).map f).sum ≤ _
      rw [List.map_append, List.map_append, List.sum_append, List.sum_append]; exact nsum
    have sy : ∀ ys : List (List Nat), ((ys.map mkS).map (·.length)).sum ≤ (ys.map f).sum := fun ys => by
      induction ys with
      | nil => exact Nat.le_refl _
      | cons y ys ih =>
        simp only [List.map_cons, List.sum_cons]
        have : (mkS y).length = y.length := mkS_len y
        show (mkS y).length + _ ≤ (y.length + 1) + _
        omega
    have gs := glue_sum (c := 32) xs
    have gs : (glue 32 xs).length ≤ (xs.map f).sum := gs
    have sy := sy xs
    have lt1 : (cut (ws.map txD) none (some (a : Int))).length ≤ l.length + 1 := by rw [c1, List.length_map, List.length_take]; omega
    have lt2 : (cut (ws.map txD) (some ((a : Int) + 1)) none).length ≤ l.length + 1 := by rw [c2, List.length_map, List.length_drop]; omega
    have goL : ∀ w ∈ xs, RunOk (2 * m + 1) w ∧ Pl w ∧ 32 ∉ w := fun w hw => by
      rcases List.mem_append.mp hw with hw | hw
      · rcases List.mem_append.mp hw with hw | hw
        · obtain ⟨q1, q2, _⟩ := wm w (List.mem_of_mem_take hw)
          exact ⟨q1.mono (by omega), q2, (cuts_mem (List.mem_of_mem_take hw)).1⟩
        · exact nok w hw
      · obtain ⟨q1, q2, _⟩ := wm w (List.mem_of_mem_drop hw)
        exact ⟨q1.mono (by omega), q2, (cuts_mem (List.mem_of_mem_drop hw)).1⟩
    refine ⟨_, rfl, by show (cut (ws.map txD) none (some (a : Int))).length + (nl.map txD).length ≤ sizeLine; rw [List.length_map]; omega, by show (cut (ws.map txD) none (some (a : Int)) ++ nl.map txD).length + (cut (ws.map txD) (some ((a : Int) + 1)) none).length ≤ sizeLine; rw [List.length_append, List.length_map]; omega, xs.map mkS, .inl ?_, ?_, ?_⟩
    · rw [← ex, ← c1, ← c2]
    · have : (Str.ofString " ").length = 1 := by decide +kernel
      rw [this, List.length_map]; omega
    · show R (.str (Str.join " " (xs.map mkS))) (g + 4)
      rw [join_glue (c := 32) (by decide +kernel)]
      exact h _ _ (RunOk.glue (by decide) fun w hw => (goL w hw).1) (Pl.glue (by decide) fun w hw => (goL w hw).2.1) (by omega) (by have := glue_count (c := 32) (ws := xs) fun w hw => (goL w hw).2.2; have := cuts_count (c := 32) l; have : ws.length = l.count 32 + 1 := this; have : xs.length ≤ ws.length + 1 := (by show (ws.take a ++ nl ++ ws.drop (a + 1)).length ≤ _; rw [List.length_append, List.length_append, List.length_take, List.length_drop]; omega); omega) (by omega) (by omega)
  rintro _ rfl
  refine seq_mid (M := fun s' => ∃ c : Nat, c < 128 ∧ s' = ⟨[O, T, W, I way, I a, I b, some (.val (.lst (ls.map txD))), some (.val (.lst (nl.map txD))), some (.val (sgD c))], g + 5⟩) ?_ ?_
  rotate_left
  · intro N hN
    refine ⟨by show 9 ≤ sizeLine; omega, _, .inl rfl, by decide, by decide, (by show g + 4 < drawLine; omega), fun d hd => ?_⟩
    have : ∃ c : Nat, c < 128 ∧ d = sgD c := by
      have hd : d ∈ ([32, 10, 47, 45, 48, 49, 57, 97, 59] : List Nat).map sgD := hd
      obtain ⟨c, hc, rfl⟩ := List.mem_map.mp hd
      refine ⟨c, ?_, rfl⟩
      simp only [List.mem_cons, List.not_mem_nil, or_false] at hc
      omega
    obtain ⟨c, hc, rfl⟩ := this
    exact hN _ ⟨c, hc, rfl⟩
  rintro _ ⟨c, hc, rfl⟩
  refine ⟨by rw [mkS_len]; omega, by show 2 ≤ sizeLine; omega, 2, rfl, by decide, by decide, (by show g + 5 < drawLine; omega), fun k k0 k1 => ?_⟩
  have es : ∃ w : List Nat, idx [D.str "", sgD c] k = some (txD w) ∧ w.length ≤ 1 ∧ Pl w := by
    rcases (show k = 0 ∨ k = 1 by omega) with rfl | rfl
    · exact ⟨[], rfl, by decide, Pl.nil⟩
    · exact ⟨[c], rfl, Nat.le_refl _, Pl.cons hc Pl.nil⟩
  obtain ⟨w, ew, w1', wp⟩ := es
  have ct : cutS (mkS l) none (some (b : Int)) = mkS (l.take b) := cutS_to l b
  refine ⟨txD w, ew, ?_, 2, rfl, by decide, by decide, (by show g + 6 < drawLine; omega), fun k2 u0 u1 => ⟨by rw [mkS_len]; omega, ?_, ?_⟩⟩
  · rw [ct, mkS_len]
    show _ + (mkS w).length ≤ _
    rw [mkS_len, List.length_take]; omega
  · obtain ⟨k2, rfl⟩ := Int.eq_ofNat_of_zero_le u0
    have cf : cutS (mkS l) (some ((b : Int) + (k2 : Int))) none = mkS (l.drop (b + k2)) := by
      rw [show ((b : Int) + (k2 : Int)) = ((b + k2 : Nat) : Int) by omega, cutS_from]
    show (cutS (mkS l) none (some (b : Int)) ++ mkS w).length + (cutS (mkS l) (some ((b : Int) + (k2 : Int))) none).length ≤ sizeLine
    rw [ct, cf, mkS_app, mkS_len, mkS_len, List.length_append, List.length_take, List.length_drop]; omega
  · obtain ⟨k2, rfl⟩ := Int.eq_ofNat_of_zero_le u0
    have cf : cutS (mkS l) (some ((b : Int) + (k2 : Int))) none = mkS (l.drop (b + k2)) := by
      rw [show ((b : Int) + (k2 : Int)) = ((b + k2 : Nat) : Int) by omega, cutS_from]
    show R (.str (cutS (mkS l) none (some (b : Int)) ++ mkS w ++ cutS (mkS l) (some ((b : Int) + (k2 : Int))) none)) (g + 7)
    rw [ct, cf, mkS_app, mkS_app]
    refine h _ _ ?_ (((hp.take b).app wp).app (hp.drop _)) ?_ ?_ (by omega) (by omega)
    · have h1 := ((hr.take b).app (RunOk.len w1' : RunOk 1 w)).app (hr.drop (b + k2))
      exact h1.mono (by omega)
    · rw [List.length_append, List.length_append, List.length_take, List.length_drop]; omega
    · have e1 : l.count 32 = (l.take b).count 32 + (l.drop b).count 32 := by rw [← List.count_append, List.take_append_drop]
      have e2 : (l.drop (b + k2)).count 32 ≤ (l.drop b).count 32 := by
        rw [← List.drop_drop]
        exact List.Sublist.count_le _ (List.drop_sublist _ _)
      have e3 : w.count 32 ≤ w.length := List.count_le_length ..
      rw [List.count_append, List.count_append]; omega

def t_fraction_text_1128 : PSx Unit := (qRet (qBin addD (qCall (fn1 strD) (qCons (qBin ixD (qVar 0) (qC (.int 0))) qNil)) (qBin ixD (qSet (qLst (qCons (qBin addD (qC (.str "/")) (qCall (fn1 strD) (qCons (qBin ixD (qVar 0) (qC (.int 1))) qNil))) (qCons (qC (.str "")) qNil)))) (qCall (fn1 intD) (qCons (qBin eqD (qBin ixD (qVar 0) (qC (.int 1))) (qC (.int 1))) qNil)))))

def sp_fraction_text_1128 : Spec0 := fun ds R => ∃ x : Rat, ds = [frD x] ∧ SzR 1900 x ∧ R (.str (mkS (frL x)))
theorem len_fraction_text_1128 (ds : List D) (R : DK) (h : sp_fraction_text_1128 ds R) : ds.length = 1 := by
  obtain ⟨_, rfl, _⟩ := h; rfl
theorem p_fraction_text_1128 (ds : List D) (R : DK) (h : sp_fraction_text_1128 ds R) : t_fraction_text_1128 { nx := fun _ => R .non, rt := fun d _ => R d } ⟨startL 1 ds, ()⟩ := by
  obtain ⟨x, rfl, hs, h⟩ := h
  have line := line_big
  have l1 := log2_sz hs.1 (by decide)
  have l2 := log2_sz (i := (x.den : Int)) hs.2 (by decide)
  have n1 := intL_len (i := x.num) (k := 1900) (by decide) (Nat.lt_of_lt_of_le hs.1 (Nat.pow_le_pow_left (by decide) _))
  have n2 := intL_len (i := (x.den : Int)) (k := 1900) (by decide) (Nat.lt_of_lt_of_le hs.2 (Nat.pow_le_pow_left (by decide) _))
  have m1 : ((strI x.num).length) ≤ 1901 := by rw [len_tl, tl_strI]; exact n1
  have m2 : ((strI x.den).length) ≤ 1901 := by rw [len_tl, tl_strI]; exact n2
  have m3 : (("/" : Str)).length = 1 := by decide +kernel
  refine ⟨.int x.num, rfl, l1, .int x.den, rfl, l2, (by show ("/" : Str).length + _ ≤ _; omega), (by show 2 ≤ sizeLine; omega), .int x.den, rfl, ⟨rfl, rfl, Nat.zero_le 64, Nat.zero_le 64⟩, ?_⟩
  show ∃ d, idx [D.str (("/" : Str) ++ strI x.den), .str ("" : Str)] (if D.eqv (.int x.den) (.int 1) = true then 1 else 0) = some d ∧ _
  unfold frL at h
  by_cases e : x.den = 1
  · rw [if_pos e] at h
    have e1 : D.eqv (.int x.den) (.int 1) = true := by show ((x.den : Int) == 1) = true; rw [e]; rfl
    rw [if_pos e1]
    refine ⟨_, rfl, ?_⟩
    have e2 : (strI x.num ++ ("" : Str) : Str) = mkS (intL x.num) := str_of (by rw [em_eq, tl_append, tl_strI, tl_mkS, List.append_nil])
    refine ⟨(by rw [em_eq]; show (strI x.num).length + 0 ≤ sizeLine; omega), ?_⟩
    rw [e2]; exact h
  · rw [if_neg e] at h
    have e1 : ¬ D.eqv (.int x.den) (.int 1) = true := fun z => e (by have : ((x.den : Int) == 1) = true := z; have := beq_iff_eq.mp this; omega)
    rw [if_neg e1]
    refine ⟨_, rfl, ?_⟩
    have e2 : (strI x.num ++ (("/" : Str) ++ strI x.den) : Str) = mkS (intL x.num ++ 47 :: intL x.den) := str_of (by rw [sl_eq, tl_append, tl_append, tl_strI, tl_strI, tl_mkS]; rfl)
    refine ⟨?_, by rw [e2]; exact h⟩
    have : (("/" : Str) ++ strI x.den : Str).length = 1 + (strI x.den).length := by rw [len_tl, tl_append, List.length_append, ← len_tl, ← len_tl, m3]
    show (strI x.num).length + (("/" : Str) ++ strI x.den : Str).length ≤ sizeLine
    omega

def t_odd_a635 (r : Addr) : PSx Nat := (qSeq (qAsg (qSet (qLst (qCons (qC .non) (qCons (qC (.bl true)) (qCons (qC (.bl false)) (qCons (qC (.int 0)) (qCons (qUn negD (qC (.int 1))) (qCons (qC (.int 1)) (qCons (qC (.int 2)) (qCons (qBin powD (qC (.int 10)) (qC (.int 29))) (qCons (qC (.str "")) (qCons (qC (.str "a")) (qCons (qC (.str "up")) (qCons (qTup qNil) (qCons (qSet (qLst qNil)) (qCons (qC (.dct [] [])) (qCons (qTup (qCons (qC (.int 0)) qNil)) (qCons (qSet (qLst (qCons (qC (.int 0)) qNil))) (qCons (qTup (qCons (qTup qNil) qNil)) qNil))))))))))))))))))) 1) (qRet (qCallG (sp_one_be76 r) (qCons (qVar 0) (qCons (qBin addD (qVar 1) (qSet (qLst (qCons (qTup (qCons (qC (.int 1)) (qCons (qC (.int 2)) qNil))) (qCons (qTup (qCons (qC (.int 0)) (qCons (qC (.int 1)) qNil))) (qCons (qTup (qCons (qC (.int 2)) (qCons (qC (.int 4)) qNil))) qNil)))))) qNil)))))

def sp_odd_a635 (r : Addr) : Spec Nat := fun ds g R => ds = [.obj r] ∧ g < drawLine ∧ ∀ d ∈ oddL, R d (g + 1)
theorem len_odd_a635 (r : Addr) (ds : List D) (g : Nat) (R : D → Nat → Prop) (h : sp_odd_a635 r ds g R) : ds.length = 1 := by
  obtain ⟨rfl, _⟩ := h; rfl
theorem p_odd_a635 (r : Addr) (ds : List D) (g : Nat) (R : D → Nat → Prop) (h : sp_odd_a635 r ds g R) : t_odd_a635 r { nx := fun s => R .non s.g, rt := R } ⟨startL 2 ds, g⟩ := by
  obtain ⟨rfl, hg, h⟩ := h
  have line : (10000000 : Nat) ≤ sizeLine := line_big
  refine seq_mid (M := fun s' => s' = ⟨[some (.val (.obj r)), some (.val (.lst (oddL.take 17)))], g⟩) ?_ ?_
  rotate_left
  · intro N hN
    have z : (17 : Nat) ≤ sizeLine := by omega
    exact ⟨⟨by decide, by decide, by decide⟩, Nat.zero_le _, Nat.zero_le _, Nat.le_trans (by decide) z, Nat.le_trans (by decide) z, Nat.zero_le _, Nat.le_trans (by decide) z, z, hN _ rfl⟩
  rintro _ rfl
  have z : (17 : Nat) ≤ sizeLine := by omega
  exact ⟨Nat.le_trans (by decide) z, Nat.le_trans (by decide) z, Nat.le_trans (by decide) z, Nat.le_trans (by decide) z, (by show 20 ≤ sizeLine; omega), oddL, .inl rfl, by decide, by decide, hg, fun d hd => h d hd⟩

def t_values_a2af (r : Addr) : PSx Nat := (qSeq (qAsg (qSet (qCallF listF (qCons (qCallG (sp_written_5c80 r) (qCons (qVar 0) (qCons (qC (.int 3)) qNil))) qNil))) 1) (qSeq (qAsg (qJoin (qC (.str " ")) (qSet (qLc (qItems (qVar 1)) (.nm 7) [7] qYes (qCallP (sp_fraction_text_1128) (qCons (qVar 7) qNil))))) 2) (qSeq (qAsg (qSet (qLst (qCons (qVar 2) (qCons (qBin addD (qVar 2) (qC (.str " "))) (qCons (qBin addD (qC (.str " ")) (qVar 2)) (qCons (qBin addD (qVar 2) (qC (.str "\n"))) (qCons (qRepl " " "  " (qVar 2)) (qCons (qRepl "/" "//" (qVar 2)) qNil)))))))) 3) (qSeq (qAsg (qBin addD (qVar 3) (qSet (qLst (qCons (qC (.str "")) (qCons (qC (.str " ")) (qCons (qC (.str "0")) (qCons (qC (.str "-0")) (qCons (qC (.str "3/1")) (qCons (qC (.str "2/4")) (qCons (qC (.str "1/0")) qNil)))))))))) 3) (qSeq (qAsg (qSet (qLc (qRange1 (qCons (qC (.int 200)) qNil)) (.nm 8) [8] qYes (qCall (fn1 strD) (qCons (qCallG (nextS r) (qCons (qVar 0) (qCons (qC (.int 10)) qNil))) qNil)))) 4) (qSeq (qAsg (qBin addD (qVar 3) (qSet (qLst (qCons (qJoin (qC (.str " ")) (qVar 4)) (qCons (qJoin (qC (.str " ")) (qBin addD (qSl (qVar 4) qNoPart (qPart (qUn negD (qC (.int 1))))) (qSet (qLst (qCons (qC (.str "x")) qNil))))) (qCons (qJoin (qC (.str " ")) (qBin addD (qBin addD (qSl (qVar 4) qNoPart (qPart (qC (.int 150)))) (qSet (qLst (qCons (qC (.str "/")) qNil)))) (qSl (qVar 4) (qPart (qC (.int 151))) qNoPart))) qNil)))))) 3) (qSeq (qFor (qRange1 (qCons (qC (.int 12)) qNil)) (.nm 5) (qSeq (qAsg (qCallG (sp_bent_word_0551 r) (qCons (qVar 0) (qCons (qVar 2) qNil))) 6) (qAsg (qBin addD (qVar 3) (qSet (qLst (qCons (qVar 6) (qCons (qCallG (sp_bent_word_0551 r) (qCons (qVar 0) (qCons (qVar 6) qNil))) (qCons (qCallG (sp_bent_word_0551 r) (qCons (qVar 0) (qCons (qCallG (sp_bent_word_0551 r) (qCons (qVar 0) (qCons (qVar 6) qNil))) qNil))) qNil)))))) 3))) (qRet (qBin addD (qVar 3) (qSet (qLst (qCons (qC .non) (qCons (qC (.int 5)) (qCons (qCall (fn1 tupleD) (qCons (qVar 1) qNil)) (qCons (qSet (qCallF listF (qCons (qVar 1) qNil))) (qCons (qCallG (sp_odd_a635 r) (qCons (qVar 0) qNil)) (qCons (qC (dct1 "1" 2)) (qCons (qC (.bl true)) qNil))))))))))))))))))

theorem repL_count0 {c k : Nat} {z : List Nat} (hz : k ∉ z) (l : List Nat) : (repL c z l).count k ≤ l.count k := by
  induction l with
  | nil => exact Nat.le_refl _
  | cons x l ih =>
    show ((if x = c then z else [x]) ++ repL c z l).count k ≤ _
    rw [List.count_append, List.count_cons]
    split
    · rw [List.count_eq_zero.mpr hz]; omega
    · have : ([x] : List Nat).count k = if x == k then 1 else 0 := by rw [List.count_cons]; simp
      rw [this]; omega
structure GoodR (w : List Nat) : Prop where
  l : w.length ≤ 40000
  r : RunOk 600 w
  p : Pl w
  c : w.count 32 ≤ 900
def ValR (v : D) : Prop := (∀ p, v ≠ .obj p) ∧ (ShZ v ∨ ∃ x i, v = dct1 x i ∧ v.py.showable = true ∧ v.py.depth ≤ 60 ∧ v.py.shown.length ≤ sizeLine) ∧ (isTy "str" v = false ∨ ∃ w, v = txD w ∧ GoodR w)
theorem ValR.tx {w : List Nat} (g : GoodR w) : ValR (txD w) := by
  refine ⟨fun p z => (by cases z), .inl ⟨g.p.ok, rfl, by simp [txD, D.dep], ?_⟩, .inr ⟨w, rfl, g⟩⟩
  have := g.l
  show 10 * (mkS w).length + 8 ≤ 10000000
  rw [mkS_len]; omega
theorem ValR.cst (x : Str) (h : (decide ((tl x).length ≤ 200) && (tl x).all fun c => decide (c < 128)) = true := by decide +kernel) : ValR (.str x) := by
  simp only [Bool.and_eq_true, decide_eq_true_eq, List.all_eq_true] at h
  have := List.count_le_length (a := 32) (l := tl x)
  exact ValR.tx (w := tl x) ⟨by omega, (RunOk.len h.1).mono (by decide), h.2, by omega⟩
theorem oddR {d : D} (h : d ∈ oddL) : ValR d := by
  have all : ∀ d ∈ oddL, isTy "str" d = false ∨ d = .str "" ∨ d = .str "a" ∨ d = .str "up" := by
    intro d hd
    unfold oddL at hd
    simp only [List.mem_cons, List.not_mem_nil, or_false] at hd
    rcases hd with rfl | rfl | rfl | rfl | rfl | rfl | rfl | rfl | rfl | rfl | rfl | rfl | rfl | rfl | rfl | rfl | rfl | rfl | rfl | rfl <;> first | exact .inl rfl | exact .inr (.inl rfl) | exact .inr (.inr (.inl rfl)) | exact .inr (.inr (.inr rfl))
  rcases all d h with hs | rfl | rfl | rfl
  · refine ⟨fun p e => ?_, .inl (odd_ok h).sh, .inl hs⟩
    have := (odd_ok h).z
    rw [e] at this; cases this
  · exact ValR.cst ""
  · exact ValR.cst "a"
  · exact ValR.cst "up"
def AllV (ds : List D) : Prop := ∀ v ∈ ds, ValR v
theorem AllV.nil : AllV [] := fun v h => (nomatch h)
theorem AllV.cons {d : D} {ds : List D} (h : ValR d) (h' : AllV ds) : AllV (d :: ds) := fun v hv => by
  rcases List.mem_cons.mp hv with rfl | hv
  · exact h
  · exact h' v hv
theorem AllV.app {x y : List D} (h : AllV x) (h' : AllV y) : AllV (x ++ y) := fun v hv => (List.mem_append.mp hv).elim (h v) (h' v)
def sp_values_a2af (r : Addr) : Spec Nat := fun ds g R => ds = [.obj r] ∧ g + 5000 < drawLine ∧ ∀ (vs : List D) (g' : Nat), AllV vs → vs.length ≤ 1000 → g ≤ g' → g' ≤ g + 1500 → R (.lst vs) g'
theorem len_values_a2af (r : Addr) (ds : List D) (g : Nat) (R : D → Nat → Prop) (h : sp_values_a2af r ds g R) : ds.length = 1 := by
  obtain ⟨rfl, _⟩ := h; rfl
theorem p_values_a2af (r : Addr) (ds : List D) (g : Nat) (R : D → Nat → Prop) (h : sp_values_a2af r ds g R) : t_values_a2af r { nx := fun s => R .non s.g, rt := R } ⟨startL 9 ds, g⟩ := by
  obtain ⟨rfl, hg, h⟩ := h
  have line : (10000000 : Nat) ≤ sizeLine := line_big
  let O := some (L.val (.obj r))
  refine seq_mid (M := fun s' => ∃ (rs : List Rat) (g1 : Nat), (∀ x ∈ rs, SzR 100 x) ∧ 1 ≤ rs.length ∧ rs.length ≤ 12 ∧ g ≤ g1 ∧ g1 ≤ g + 200 ∧ s' = ⟨[O, some (.val (.lst (rs.map frD))), none, none, none, none, none, none, none], g1⟩) ?_ ?_
  rotate_left
  · intro N hN
    exact ⟨3, rfl, by decide, by decide, (by show g + 1000 < drawLine; omega), fun rs g1 a1 a2 a3 (a4 : g ≤ g1) (a5 : g1 ≤ g + 200) => hN _ ⟨rs, g1, a1, a2, a3, a4, a5, rfl⟩⟩
  rintro _ ⟨rs, g1, hs, r1, r12, g10, g11, rfl⟩
  let Rt := some (L.val (.lst (rs.map frD)))
  let l := glue 32 (rs.map frL)
  obtain ⟨u1, lr, lp⟩ := rtL_ok hs
  have lr : RunOk 32 l := lr
  have lp : Pl l := lp
  have ll : l.length ≤ 792 := by
    have u1 : l.length ≤ rs.length * 66 := u1
    omega
  have n0 : rs ≠ [] := fun z => by rw [z] at r1; simp at r1
  have lc : l.count 32 ≤ 11 := by
    have h1 := cuts_count (c := 32) l
    have h2 : cuts 32 l = rs.map frL := cuts_glue (by simpa using n0) fun w hw => by
      obtain ⟨x, _, rfl⟩ := List.mem_map.mp hw
      exact frL_no (by decide) (by decide)
    rw [h2, List.length_map] at h1
    omega
  let T := some (L.val (.str (mkS l)))
  have lsp : (Str.ofString " ").length = 1 := by decide +kernel
  refine seq_mid (M := fun s' => s' = ⟨[O, Rt, T, none, none, none, none, none, none], g1⟩) ?_ ?_
  rotate_left
  · intro N hN
    refine ⟨_, rfl, ?_⟩
    show lcB _ _ _ _ _ (rs.map frD) _
    refine lc_mapl rs frD (fun x => txD (frL x)) (by omega) (fun x hx => ⟨_, rfl, fun T hT => ⟨x, rfl, (hs x hx).le (by decide), hT⟩⟩) ?_ (by decide) rfl
    have sb := sum_len (ls := rs.map frL) (k := 66) fun w hw => by
      obtain ⟨x, hx, rfl⟩ := List.mem_map.mp hw
      have n1 := intL_len (i := x.num) (k := 31) (by decide) (Nat.lt_of_lt_of_le (hs x hx).1 (by decide))
      have n2 := intL_len (i := (x.den : Int)) (k := 31) (by decide) (Nat.lt_of_lt_of_le (hs x hx).2 (by decide))
      unfold frL
      split
      · omega
      · simp only [List.length_append, List.length_cons]; omega
    rw [List.length_map] at sb
    refine ⟨(rs.map frL).map mkS, .inl ?_, by rw [lsp, List.length_map, List.length_map]; omega, hN _ ?_⟩
    · rw [List.map_map, List.map_map]; rfl
    · have : Str.join (Str.ofString " ") ((rs.map frL).map mkS) = mkS l := join_glue (c := 32) (by decide +kernel) _
      rw [this]; rfl
  rintro _ rfl
  have good : ∀ w : List Nat, w.length ≤ 40000 → RunOk 600 w → Pl w → w.count 32 ≤ 900 → ValR (txD w) := fun w h1 h2 h3 h4 => ValR.tx ⟨h1, h2, h3, h4⟩
  have es : Str.ofString " " = mkS [32] := sp_eq
  have en : Str.ofString "\n" = mkS [10] := nl_eq
  have ln : (Str.ofString "\n").length = 1 := by decide +kernel
  have lt : (mkS l).length ≤ 792 := by rw [mkS_len]; exact ll
  refine seq_mid (M := fun s' => ∃ vs, AllV vs ∧ vs.length = 6 ∧ s' = ⟨[O, Rt, T, some (.val (.lst vs)), none, none, none, none, none], g1⟩) ?_ ?_
  rotate_left
  · intro N hN
    have e1 : D.str (mkS l ++ Str.ofString " ") = txD (l ++ [32]) := congrArg D.str (by rw [es, mkS_app])
    have e2 : D.str (Str.ofString " " ++ mkS l) = txD ([32] ++ l) := congrArg D.str (by rw [es, mkS_app])
    have e3 : D.str (mkS l ++ Str.ofString "\n") = txD (l ++ [10]) := congrArg D.str (by rw [en, mkS_app])
    have e4 : D.str (Txt.replace (mkS l) (Str.ofString " ") (Str.ofString "  ")) = txD (repL 32 [32, 32] l) := congrArg D.str (by rw [replace_rep (c := 32) _ _ (by decide +kernel), show tl (Str.ofString "  ") = [32, 32] by decide +kernel])
    have e5 : D.str (Txt.replace (mkS l) (Str.ofString "/") (Str.ofString "//")) = txD (repL 47 [47, 47] l) := congrArg D.str (by rw [replace_rep (c := 47) _ _ (by decide +kernel), show tl (Str.ofString "//") = [47, 47] by decide +kernel])
    have z2 : (Str.ofString "  ").length = 2 := by decide +kernel
    have z3 : (Str.ofString "//").length = 2 := by decide +kernel
    refine ⟨by omega, by omega, by omega, _, rfl, by rw [z2]; omega, _, rfl, by rw [z3]; omega, by show 6 ≤ sizeLine; omega, hN _ ⟨_, ?_, ?_, rfl⟩⟩
    · rw [e1, e2, e3, e4, e5]
      have w1 : ∀ c : Nat, c < 128 → Pl [c] := fun c hc x hx => by rw [List.mem_singleton.mp hx]; exact hc
      have o1 : ∀ c : Nat, RunOk 1 [c] := fun c => RunOk.len (Nat.le_refl 1)
      refine AllV.cons (good l (by omega) (lr.mono (by decide)) lp (by omega)) (AllV.cons (good _ ?_ ((lr.app (o1 32)).mono (by decide)) (lp.app (w1 32 (by decide))) ?_) (AllV.cons (good _ ?_ (((o1 32).app lr).mono (by decide)) ((w1 32 (by decide)).app lp) ?_) (AllV.cons (good _ ?_ ((lr.app (o1 10)).mono (by decide)) (lp.app (w1 10 (by decide))) ?_) (AllV.cons (good _ ?_ ((repL_run (by decide) l lr).mono (by decide)) (repL_pl (fun x hx => by simp at hx; omega) lp) ?_) (AllV.cons (good _ ?_ ((repL_run (by decide) l lr).mono (by decide)) (repL_pl (fun x hx => by simp at hx; omega) lp) ?_) AllV.nil)))))
      · rw [List.length_append]; show _ + 1 ≤ _; omega
      · rw [List.count_append]; have := List.count_le_length (a := 32) (l := [32]); have : ([32] : List Nat).length = 1 := rfl; omega
      · rw [List.length_append]; show 1 + _ ≤ _; omega
      · rw [List.count_append]; have := List.count_le_length (a := 32) (l := [32]); have : ([32] : List Nat).length = 1 := rfl; omega
      · rw [List.length_append]; show _ + 1 ≤ _; omega
      · rw [List.count_append]; have := List.count_le_length (a := 32) (l := [10]); have : ([10] : List Nat).length = 1 := rfl; omega
      · have := repL_len (c := 32) (z := [32, 32]) (Nat.le_refl 2) l; omega
      · have := repL_count (c := 32) (z := [32, 32]) (Nat.le_refl 2) 32 l; omega
      · have := repL_len (c := 47) (z := [47, 47]) (Nat.le_refl 2) l; omega
      · have := repL_count0 (c := 47) (k := 32) (z := [47, 47]) (by decide) l
        omega
    · rfl
  rintro _ ⟨vs1, v1, n1, rfl⟩
  refine seq_mid (M := fun s' => ∃ vs, AllV vs ∧ vs.length = 13 ∧ s' = ⟨[O, Rt, T, some (.val (.lst vs)), none, none, none, none, none], g1⟩) ?_ ?_
  rotate_left
  · intro N hN
    exact ⟨by show 7 ≤ sizeLine; omega, by rw [n1]; show 6 + 7 ≤ sizeLine; omega, hN _ ⟨_, v1.app (AllV.cons (ValR.cst _) (AllV.cons (ValR.cst _) (AllV.cons (ValR.cst _) (AllV.cons (ValR.cst _) (AllV.cons (ValR.cst _) (AllV.cons (ValR.cst _) (AllV.cons (ValR.cst _) AllV.nil))))))), by rw [List.length_append, n1]; rfl, rfl⟩⟩
  clear v1 n1 vs1
  rintro _ ⟨vs1, v1, n1, rfl⟩
  let Vs := some (L.val (.lst vs1))
  -- the row
  let GoodW (w : List Nat) : Prop := w.length ≤ 2 ∧ Pl w ∧ 32 ∉ w
  refine seq_mid (M := fun s' => ∃ ws : List (List Nat), ws.length = 200 ∧ (∀ w ∈ ws, GoodW w) ∧ s' = ⟨[O, Rt, T, Vs, some (.val (.lst (ws.map txD))), none, none, none, none], g1 + 200⟩) ?_ ?_
  rotate_left
  · intro N hN
    refine ⟨⟨by decide, by decide⟩, ?_⟩
    refine ⟨fun i acc s => ∃ ws : List (List Nat), ws.length = i ∧ (∀ w ∈ ws, GoodW w) ∧ acc = ws.map txD ∧ s = ⟨[O, Rt, T, Vs, none, none, none, none, none], g1 + i⟩, ⟨_, Wk.refl _, [], rfl, fun x hx => (nomatch hx), rfl, rfl⟩, ?_, ?_⟩
    · rintro i d acc s hd ⟨ws, hi, hw, rfl, rfl⟩
      have hi2 : i < 200 := (List.getElem?_eq_some_iff.mp hd).1
      refine put_nm ?_
      refine ⟨fun _ => ⟨10, rfl, by decide, by decide, (by show g1 + i < drawLine; omega), fun k k0 k1 => ?_⟩, fun z => (by cases z)⟩
      obtain ⟨k, rfl⟩ := Int.eq_ofNat_of_zero_le k0
      have kl : ((k : Int)).natAbs < 10 ^ 1 := by show k < 10; omega
      refine ⟨log2_sz (b := 64) (by unfold Sz; show k < 2 ^ 64; omega) (by decide), ?_⟩
      rw [strI_eq]
      refine ⟨by rw [List.length_map]; omega, ⟨[O, Rt, T, Vs, none, none, none, none, none], g1 + (i + 1)⟩, Wk.of (by repeat' first | exact trivial | exact .inr rfl | exact .inl rfl | refine ⟨?_, ?_⟩), ws ++ [intL (k : Int)], by rw [List.length_append, hi]; rfl, fun y hy => ?_, ?_, rfl⟩
      · rcases List.mem_append.mp hy with z | z
        · exact hw y z
        · rw [List.mem_singleton.mp z]
          exact ⟨intL_len (by decide) kl, Pl.intL _, intL_free (by decide) (by decide)⟩
      · rw [List.map_append]; rfl
    · rintro acc s ⟨ws, hl, hw, rfl, rfl⟩
      have hl : ws.length = 200 := hl
      exact hN _ ⟨ws, hl, hw, rfl⟩
  rintro _ ⟨ws, wn, wok, rfl⟩
  let Rw := some (L.val (.lst (ws.map txD)))
  have joined : ∀ ys : List (List Nat), (∀ w ∈ ys, GoodW w) → ys.length ≤ 300 → (((ys.map mkS).map (·.length)).sum + (ys.map mkS).length * (Str.ofString " ").length ≤ 16777216) ∧ D.str (Str.join (Str.ofString " ") (ys.map mkS)) = txD (glue 32 ys) ∧ ValR (txD (glue 32 ys)) := fun ys hy hn => by
    have sb := sum_len (ls := ys) (k := 2) fun w hw => (hy w hw).1
    have gl := glue_len (ws := ys) (c := 32) (k := 2) fun w hw => (hy w hw).1
    have gc := glue_count (c := 32) (ws := ys) fun w hw => (hy w hw).2.2
    refine ⟨by rw [lsp, List.length_map]; omega, congrArg D.str (join_glue (c := 32) (by decide +kernel) ys), good _ (by omega) ?_ ?_ (by omega)⟩
    · exact RunOk.glue (by decide) fun w hw => (RunOk.len (hy w hw).1).mono (by decide)
    · exact Pl.glue (by decide) fun w hw => (hy w hw).2.1
  refine seq_mid (M := fun s' => ∃ vs, AllV vs ∧ vs.length = 16 ∧ s' = ⟨[O, Rt, T, some (.val (.lst vs)), Rw, none, none, none, none], g1 + 200⟩) ?_ ?_
  rotate_left
  · intro N hN
    obtain ⟨a1, a2, a3⟩ := joined ws wok (by omega)
    let ya := ws.dropLast ++ [[120]]
    let yb := ws.take 150 ++ [[47]] ++ ws.drop 151
    have g1w : ∀ c : Nat, c < 128 → c ≠ 32 → GoodW [c] := fun c h1 h2 => ⟨by show 1 ≤ 2; decide, fun x hx => by rw [List.mem_singleton.mp hx]; exact h1, fun z => h2 (List.mem_singleton.mp z).symm⟩
    have ya1 : ∀ w ∈ ya, GoodW w := fun w hw => by
      rcases List.mem_append.mp hw with z | z
      · exact wok w (List.dropLast_subset _ z)
      · rw [List.mem_singleton.mp z]; exact g1w 120 (by decide) (by decide)
    have yb1 : ∀ w ∈ yb, GoodW w := fun w hw => by
      rcases List.mem_append.mp hw with z | z
      · rcases List.mem_append.mp z with z | z
        · exact wok w (List.mem_of_mem_take z)
        · rw [List.mem_singleton.mp z]; exact g1w 47 (by decide) (by decide)
      · exact wok w (List.mem_of_mem_drop z)
    have yal : ya.length ≤ 300 := by show (ws.dropLast ++ [[120]]).length ≤ 300; rw [List.length_append, List.length_dropLast]; show _ + 1 ≤ _; omega
    have ybl : yb.length ≤ 300 := by show (ws.take 150 ++ [[47]] ++ ws.drop 151).length ≤ 300; rw [List.length_append, List.length_append, List.length_take, List.length_drop]; show _ + 1 + _ ≤ _; omega
    obtain ⟨b1, b2, b3⟩ := joined ya ya1 yal
    obtain ⟨d1, d2, d3⟩ := joined yb yb1 ybl
    have cb : cut (ws.map txD) none (some (-1)) = ws.dropLast.map txD := by rw [cut_back, List.map_dropLast]
    have c1 : cut (ws.map txD) none (some ((150 : Nat) : Int)) = (ws.take 150).map txD := by rw [cut_to, List.map_take]
    have c2 : cut (ws.map txD) (some ((151 : Nat) : Int)) none = (ws.drop 151).map txD := by rw [cut_from, List.map_drop]
    have ex : D.str "x" = txD [120] := congrArg D.str (ext_tl (by decide +kernel))
    have esl : D.str "/" = txD [47] := congrArg D.str (ext_tl (by decide +kernel))
    have ea : cut (ws.map txD) none (some (-1)) ++ [D.str "x"] = (ya.map mkS).map .str := by
      rw [cb, ex, ← txs_str, List.map_append]; rfl
    have eb : cut (ws.map txD) none (some ((150 : Nat) : Int)) ++ [D.str "/"] ++ cut (ws.map txD) (some ((151 : Nat) : Int)) none = (yb.map mkS).map .str := by
      rw [c1, c2, esl, ← txs_str, List.map_append, List.map_append]; rfl
    refine ⟨_, rfl, ws.map mkS, .inl (by rw [txs_str]), a1, _, rfl, by show 1 ≤ sizeLine; omega, by rw [cb, List.length_map, List.length_dropLast]; show _ + 1 ≤ _; omega, ya.map mkS, .inl (congrArg D.lst ea), b1, _, rfl, by show 1 ≤ sizeLine; omega, by show (cut (ws.map txD) none (some ((150 : Nat) : Int))).length + 1 ≤ sizeLine; rw [c1, List.length_map, List.length_take]; omega, by show (cut (ws.map txD) none (some ((150 : Nat) : Int)) ++ [D.str "/"]).length + (cut (ws.map txD) (some ((151 : Nat) : Int)) none).length ≤ sizeLine; rw [c1, c2, List.length_append, List.length_map, List.length_map, List.length_take, List.length_drop]; show _ + 1 + _ ≤ _; omega, yb.map mkS, .inl (congrArg D.lst eb), d1, by show 3 ≤ sizeLine; omega, by rw [n1]; show 13 + 3 ≤ sizeLine; omega, hN _ ⟨_, v1.app (AllV.cons (by rw [a2]; exact a3) (AllV.cons (by rw [b2]; exact b3) (AllV.cons (by rw [d2]; exact d3) AllV.nil))), by rw [List.length_append, n1]; rfl, rfl⟩⟩
  clear v1 n1 Vs vs1
  rintro _ ⟨vs1, v1, n1, rfl⟩
  refine seq_mid (M := fun s' => ∃ vs g2, AllV vs ∧ vs.length ≤ 100 ∧ g1 ≤ g2 ∧ g2 ≤ g1 + 1000 ∧ s' = ⟨[O, Rt, T, some (.val (.lst vs)), Rw, none, none, none, none], g2⟩) ?_ ?_
  rotate_left
  · intro N hN
    refine ⟨⟨by decide, by decide⟩, fun j s => ∃ vs g2, AllV vs ∧ vs.length = 16 + 3 * j ∧ g1 ≤ g2 ∧ g2 ≤ g1 + 200 + 50 * j ∧ s = ⟨[O, Rt, T, some (.val (.lst vs)), Rw, none, none, none, none], g2⟩, ⟨_, Wk.refl _, vs1, g1 + 200, v1, n1, by omega, by omega, rfl⟩, ?_, ?_⟩
    · rintro j d s hd ⟨vs, g2, v2, n2, h0, h2, rfl⟩
      have hj : j < 12 := (List.getElem?_eq_some_iff.mp hd).1
      refine put_nm ?_
      refine seq_mid (M := fun s' => ∃ (b : List Nat) (g3 : Nat), RunOk 65 b ∧ Pl b ∧ b.length ≤ 1634 ∧ b.count 32 ≤ 12 ∧ g2 ≤ g3 ∧ g3 ≤ g2 + 10 ∧ s' = ⟨[O, Rt, T, some (.val (.lst vs)), Rw, some (.val d), some (.val (.str (mkS b))), none, none], g3⟩) ?_ ?_
      rotate_left
      · intro N2 hN2
        exact ⟨l, 32, rfl, by decide, by omega, lr, lp, (by show g2 + 10 < drawLine; omega), fun b g3 q1 q2 q3 q4 (q5 : g2 ≤ g3) (q6 : g3 ≤ g2 + 10) => hN2 _ ⟨b, g3, q1, q2, by omega, by omega, q5, q6, rfl⟩⟩
      rintro _ ⟨b, g3, b1, b2, b3, b4, h3, h4, rfl⟩
      refine ⟨b, 65, rfl, by decide, by omega, b1, b2, (by show g3 + 10 < drawLine; omega), fun y g4 y1 y2 y3 y4 (h5 : g3 ≤ g4) (h6 : g4 ≤ g3 + 10) => ?_⟩
      refine ⟨b, 65, rfl, by decide, by omega, b1, b2, (by show g4 + 10 < drawLine; omega), fun z g5 z1 z2 z3 z4 (h7 : g4 ≤ g5) (h8 : g5 ≤ g4 + 10) => ?_⟩
      refine ⟨z, 131, rfl, by decide, by omega, z1, z2, (by show g5 + 10 < drawLine; omega), fun w g6 w1 w2 w3 w4 (h9 : g5 ≤ g6) (h10 : g6 ≤ g5 + 10) => ?_⟩
      refine ⟨by show 3 ≤ sizeLine; omega, by rw [n2]; show _ + 3 ≤ sizeLine; omega, _, Wk.of (by repeat' first | exact trivial | exact .inr rfl | exact .inl rfl | refine ⟨?_, ?_⟩), vs ++ [txD b, txD y, txD w], g6, v2.app (AllV.cons (good b (by omega) (b1.mono (by decide)) b2 (by omega)) (AllV.cons (good y (by omega) (y1.mono (by decide)) y2 (by omega)) (AllV.cons (good w (by omega) (w1.mono (by decide)) w2 (by omega)) AllV.nil))), by rw [List.length_append, n2]; show 16 + 3 * j + 3 = _; omega, by omega, by omega, rfl⟩
    · rintro s ⟨vs, g2, v2, n2, h0, h2, rfl⟩
      have n2 : vs.length = 16 + 3 * 12 := n2
      have h2 : g2 ≤ g1 + 200 + 50 * 12 := h2
      exact hN _ ⟨vs, g2, v2, by omega, h0, by omega, rfl⟩
  rintro _ ⟨vs2, g2, v2, n2, g20, g21, rfl⟩
  obtain ⟨f1, f2, f3, f4⟩ := frs_ok hs (by decide) (by omega)
  have vt : ValR (.tup (rs.map frD)) := ⟨fun p z => (by cases z), .inl ⟨plz_pln (.tup (rs.map frD)) f1, f2, by simp only [D.dep]; omega, by simp only [D.wid]; omega⟩, .inl rfl⟩
  have vl : ValR (.lst (rs.map frD)) := ⟨fun p z => (by cases z), .inl ⟨plz_pln (.lst (rs.map frD)) f1, f2, by simp only [D.dep]; omega, by simp only [D.wid]; omega⟩, .inl rfl⟩
  refine ⟨rfl, (by show g2 < drawLine; omega), fun od hod => ⟨by show 7 ≤ sizeLine; omega, by show _ + 7 ≤ sizeLine; omega, h _ _ (v2.app (AllV.cons ?_ (AllV.cons ?_ (AllV.cons vt (AllV.cons vl (AllV.cons (oddR hod) (AllV.cons ?_ (AllV.cons ?_ AllV.nil)))))))) ?_ ?_ ?_⟩⟩
  · exact ⟨fun p z => (by cases z), .inl ⟨rfl, rfl, by decide, by decide⟩, .inl rfl⟩
  · exact ⟨fun p z => (by cases z), .inl ⟨rfl, by decide, by decide, by decide⟩, .inl rfl⟩
  · exact ⟨fun p z => (by cases z), .inr ⟨"1", 2, rfl, by decide +kernel, by decide +kernel, Nat.le_trans (by decide +kernel : _ ≤ 1000) (by omega)⟩, .inl rfl⟩
  · exact ⟨fun p z => (by cases z), .inl ⟨rfl, rfl, by decide, by decide⟩, .inl rfl⟩
  · rw [List.length_append]; show _ + 7 ≤ _; omega
  · show g ≤ g2 + 1; omega
  · show g2 + 1 ≤ g + 1500; omega

def t_read_integer_60bf : PSx Unit := (qSeq (qAsg (qSl (qVar 0) (qPart (qCall (fn1 intD) (qCons (qBin eqD (qSl (qVar 0) qNoPart (qPart (qC (.int 1)))) (qC (.str "-"))) qNil))) qNoPart) 1) (qSeq (qIf (qOr (qB (qBin eqD (qVar 1) (qC (.str "")))) (qB (qBin neLD (qSet (qLc (qItems (qVar 1)) (.nm 2) [2] (qB (qBin (inS true) (qVar 2) (qC (.str "0123456789")))) (qVar 2))) (qSet (qLst qNil))))) (qRet (qC .non)) qNext) (qRet (qIfE (qAnd (qB (qBin eqD (qBin ixD (qVar 1) (qC (.int 0))) (qC (.str "0")))) (qB (qBin neD (qVar 0) (qC (.str "0"))))) (qC .non) (qCall (fn1 intT) (qCons (qVar 0) qNil))))))

def sp_read_integer_60bf : Spec0 := fun ds R => ∃ l : List Nat, ds = [.str (mkS l)] ∧ l.length ≤ 100000 ∧ RunOk 600 l ∧ R (optI (readI l))
theorem len_read_integer_60bf (ds : List D) (R : DK) (h : sp_read_integer_60bf ds R) : ds.length = 1 := by
  obtain ⟨_, rfl, _⟩ := h; rfl
theorem p_read_integer_60bf (ds : List D) (R : DK) (h : sp_read_integer_60bf ds R) : t_read_integer_60bf { nx := fun _ => R .non, rt := fun d _ => R d } ⟨startL 3 ds, ()⟩ := by
  obtain ⟨l, rfl, hl, hr, h⟩ := h
  have line := line_big
  let V := some (L.val (.str (mkS l)))
  refine seq_mid (M := fun s' => s' = ⟨[V, some (.val (.str (mkS (bodyL l)))), none], ()⟩) ?_ ?_
  rotate_left
  · intro N hN
    have ct : cutS (mkS l) none (some ((1 : Nat) : Int)) = mkS (l.take 1) := cutS_to l 1
    refine ⟨by rw [mkS_len]; omega, trivial, ?_⟩
    have key : ∀ X : S Unit → Prop, X ⟨[V, some (.val (.str (mkS (bodyL l)))), none], ()⟩ → (mkS l).length ≤ sizeLine ∧ X ⟨[V, some (.val (.str (cutS (mkS l) (some (if D.eqv (.str (cutS (mkS l) none (some ((1 : Nat) : Int)))) (.str ("-" : Str)) = true then (1 : Int) else 0)) none))), none], ()⟩ := fun X hX => by
      refine ⟨by rw [mkS_len]; omega, ?_⟩
      rw [ct, mi_eq, eqv_str]
      by_cases hh : l.head? = some 45
      · have e1 : l.take 1 = [45] := by
          cases l with
          | nil => cases hh
          | cons c r => simp at hh; simp [hh]
        rw [decide_eq_true e1, if_pos rfl, show (1 : Int) = ((1 : Nat) : Int) from rfl, cutS_from, head_drop hh]; exact hX
      · have e1 : l.take 1 ≠ [45] := by
          cases l with
          | nil => simp
          | cons c r => simp at hh ⊢; exact hh
        rw [decide_eq_false e1, if_neg (by decide), show (0 : Int) = ((0 : Nat) : Int) from rfl, cutS_from, List.drop_zero]
        rw [bodyL_pos hh] at hX; exact hX
    exact key _ (hN _ rfl)
  rintro _ rfl
  have bl : (bodyL l).length ≤ 100000 := by
    unfold bodyL
    split
    · rename_i r; simp at hl; omega
    · exact hl
  have e1 : D.eqv (.str (mkS (bodyL l))) (.str ("" : Str)) = decide (bodyL l = []) := by rw [em_eq, eqv_str]
  refine seq_mid (M := fun s' => bodyL l ≠ [] ∧ (bodyL l).all isDg = true ∧ s' = ⟨[V, some (.val (.str (mkS (bodyL l)))), none], ()⟩) ?_ ?_
  rotate_left
  · intro N hN
    refine ⟨trivial, ?_⟩
    rw [e1]
    refine ⟨fun hc => ?_, fun hc => ?_⟩
    · refine ⟨fun _ => ?_, fun hc => (by cases hc)⟩
      have : readI l = none := by unfold readI; rw [if_pos (.inl (of_decide_eq_true hc))]
      rw [this] at h; exact h
    · have n1 := of_decide_eq_false hc
      show qLc (qItems (qVar 1)) (.nm 2) [2] (qB (qBin (inS true) (qVar 2) (qC (.str ("0123456789" : Str))))) (qVar 2) (⟨[V, some (.val (.str (mkS (bodyL l)))), none], ()⟩ : S Unit) _
      refine lc_var (l := .str (mkS (bodyL l))) (ds := (bodyL l).map sgD) rfl rfl ?_
      refine lc_list (bodyL l) sgD (fun c => true ^^ isDg c) sgD (by omega) (fun c hc => ⟨_, rfl, fun T hT => ⟨c, rfl, by rw [sign_in]; exact hT⟩, fun _ T hT => hT⟩) ?_ (by decide) rfl
      refine ⟨by show 0 ≤ sizeLine; omega, ?_⟩
      show Br (!(((bodyL l).filter fun c => true ^^ isDg c).map sgD).isEmpty) _ _
      cases ha : (bodyL l).all isDg with
      | true =>
        have : ((bodyL l).filter fun c => true ^^ isDg c) = [] := by
          rw [List.filter_eq_nil_iff]
          intro c hc
          have := List.all_eq_true.mp ha c hc
          rw [this]; decide
        rw [this]
        exact ⟨fun hc => (by cases hc), fun _ => hN _ ⟨n1, ha, rfl⟩⟩
      | false =>
        have : (((bodyL l).filter fun c => true ^^ isDg c).map sgD).isEmpty = false := by
          obtain ⟨c, hc, hd⟩ := List.all_eq_false.mp ha
          have hm : c ∈ (bodyL l).filter fun c => true ^^ isDg c := List.mem_filter.mpr ⟨hc, by cases e : isDg c <;> simp_all⟩
          cases e : (bodyL l).filter fun c => true ^^ isDg c with
          | nil => rw [e] at hm; cases hm
          | cons => rfl
        rw [this]
        refine ⟨fun _ => ?_, fun hc => (by cases hc)⟩
        have : readI l = none := by unfold readI; rw [if_pos (.inr ha)]
        rw [this] at h; exact h
  rintro _ ⟨n1, ha, rfl⟩
  have hw := readI_short hr ha
  have rd : readI l = if (bodyL l).head? = some 48 ∧ l ≠ [48] then none else some (valL l) := by
    unfold readI
    rw [if_neg (by rw [ha]; simp [n1])]
  have it := intText_read (x := mkS l) n1 ha (by rw [mkS_len]; omega)
  obtain ⟨c, r, ec⟩ : ∃ c r, bodyL l = c :: r := by
    cases e : bodyL l with
    | nil => exact absurd e n1
    | cons c r => exact ⟨c, r, rfl⟩
  have ret : ∀ T : D → S Unit → Prop, (∀ s d, R d → T d s) → readI l = some (valL l) → qCall (fn1 intT) (qCons (qVar 0) qNil) (⟨[V, some (.val (.str (mkS (bodyL l)))), none], ()⟩ : S Unit) T := fun T hT e => by
    rw [e] at h
    exact ⟨_, it, by rw [mkS_len]; omega, hT _ _ h⟩
  refine ⟨by rw [mkS_len]; omega, c, by rw [ec]; rfl, trivial, ?_⟩
  rw [ze_eq, eqv_str]
  refine ⟨fun hc => ?_, fun hc => ?_⟩
  · have hc : c = 48 := by simpa using of_decide_eq_true hc
    refine ⟨trivial, ?_⟩
    rw [eqv_str]
    by_cases hz : l = [48]
    · rw [decide_eq_true hz]
      exact ⟨fun hc => (by cases hc), fun _ => ret _ (fun _ _ h => h) (by rw [rd, if_neg (fun z => z.2 hz)])⟩
    · rw [decide_eq_false hz]
      refine ⟨fun _ => ?_, fun hc => (by cases hc)⟩
      rw [rd, if_pos ⟨by rw [ec, hc]; rfl, hz⟩] at h
      exact h
  · have hc : c ≠ 48 := by simpa using of_decide_eq_false hc
    refine ⟨fun hc => (by cases hc), fun _ => ret _ (fun _ _ h => h) (by rw [rd, if_neg (fun z => hc (by rw [ec] at z; simpa using z.1))])⟩

def t_read_fraction_659f : PSx Unit := (qSeq (qAsg (qSet (qLc (qItems (qSet (qSplit (qVar 0) (qC (.str "/"))))) (.nm 3) [3] qYes (qCallP (sp_read_integer_60bf) (qCons (qVar 3) qNil)))) 1) (qSeq (qIf (qOr (qB (qBin gtD (qCall (fn1 lenD) (qCons (qVar 1) qNil)) (qC (.int 2)))) (qB (qBin neLD (qSet (qLc (qItems (qVar 1)) (.nm 3) [3] (qB (qBin isND (qVar 3) (qC .non))) (qVar 3))) (qSet (qLst qNil))))) (qRet (qC .non)) qNext) (qSeq (qIf (qB (qBin eqD (qCall (fn1 lenD) (qCons (qVar 1) qNil)) (qC (.int 1)))) (qRet (qTup (qCons (qBin ixD (qVar 1) (qC (.int 0))) (qCons (qC (.int 1)) qNil)))) qNext) (qSeq (qAsg (qAndV (qBin gtD (qBin ixD (qVar 1) (qC (.int 1))) (qC (.int 1))) (qBin eqD (qCallP (sp_lowest_ba06) (qCons (qBin ixD (qVar 1) (qC (.int 0))) (qCons (qCall (fn2 max2) (qCons (qC (.int 1)) (qCons (qBin ixD (qVar 1) (qC (.int 1))) qNil))) qNil))) (qTup (qCons (qBin ixD (qVar 1) (qC (.int 0))) (qCons (qBin ixD (qVar 1) (qC (.int 1))) qNil))))) 2) (qRet (qIfE (qB (qVar 2)) (qTup (qCons (qBin ixD (qVar 1) (qC (.int 0))) (qCons (qBin ixD (qVar 1) (qC (.int 1))) qNil))) (qC .non)))))))

def sp_read_fraction_659f : Spec0 := fun ds R => ∃ l : List Nat, ds = [.str (mkS l)] ∧ l.length ≤ 100000 ∧ RunOk 600 l ∧ R (optF (readF l))
theorem len_read_fraction_659f (ds : List D) (R : DK) (h : sp_read_fraction_659f ds R) : ds.length = 1 := by
  obtain ⟨_, rfl, _⟩ := h; rfl
theorem div_low {a b : Int} (hb : 0 < b) : (decide ((Rat.divInt a b).num = a) && (decide (((Rat.divInt a b).den : Int) = b) && true)) = decide (Nat.gcd a.natAbs b.natAbs = 1) := by
  rw [Bool.and_true, Bool.eq_iff_iff, Bool.and_eq_true, decide_eq_true_iff, decide_eq_true_iff, decide_eq_true_iff]
  constructor
  · rintro ⟨h1, h2⟩
    have := (Rat.divInt a b).reduced
    rw [h1] at this
    have e : b.natAbs = (Rat.divInt a b).den := by omega
    rw [e]; exact this
  · intro h
    have e : b.natAbs ≠ 0 := by omega
    have x := Rat.num_divInt_den (Rat.mk' a b.natAbs e h)
    have x : Rat.divInt a ((b.natAbs : Nat) : Int) = Rat.mk' a b.natAbs e h := x
    rw [show ((b.natAbs : Nat) : Int) = b by omega] at x
    rw [x]
    exact ⟨rfl, by show ((b.natAbs : Nat) : Int) = b; omega⟩
theorem p_read_fraction_659f (ds : List D) (R : DK) (h : sp_read_fraction_659f ds R) : t_read_fraction_659f { nx := fun _ => R .non, rt := fun d _ => R d } ⟨startL 4 ds, ()⟩ := by
  obtain ⟨l, rfl, hl, hr, h⟩ := h
  have line := line_big
  let V := some (L.val (.str (mkS l)))
  have pl := prtsI_len l
  refine seq_mid (M := fun s' => s' = ⟨[V, some (.val (.lst ((prtsI l).map optI))), none, none], ()⟩) ?_ ?_
  rotate_left
  · intro N hN
    refine ⟨_, rfl, _, rfl, by decide +kernel, by rw [mkS_len]; omega, ?_⟩
    rw [split_map sl_eq (by decide)]
    show lcB _ _ _ _ _ ((cuts 47 l).map txD) _
    have cl := cuts_len (c := 47) l
    refine lc_mapl (cuts 47 l) txD (fun w => optI (readI w)) (by omega) (fun w hw => ⟨_, rfl, fun T hT => ⟨w, rfl, ?_, hr.cut hw, hT⟩⟩) ?_ (by decide) rfl
    · obtain ⟨_, a, b, e⟩ := cuts_mem hw
      rw [e] at hl
      simp at hl; omega
    · refine hN _ ?_
      unfold prtsI
      rw [List.map_map]; rfl
  rintro _ rfl
  rw [readF_parts] at h
  rcases prts_cases _ (prtsI_ne l) with ⟨hc, hn⟩ | ⟨⟨hc, hlen⟩, hp⟩
  · rw [hn] at h
    have fin : qRet (qC .non) ({ nx := fun _ => R .non, rt := fun d _ => R d } : En Unit) ⟨[V, some (.val (.lst ((prtsI l).map optI))), none, none], ()⟩ := h
    refine seq_mid (M := fun _ => False) (fun _ hf => hf.elim) ?_
    intro N hN
    refine ⟨fun hd => ⟨fun _ => fin, fun hc => (by cases hc)⟩, fun hd => ?_⟩
    have hd := of_decide_eq_false hd
    rw [List.length_map] at hd
    have hany := hc.resolve_right (by omega)
    refine lc_list (prtsI l) optI Option.isNone optI (by omega) (fun o ho => ⟨_, rfl, fun T hT => ?_, fun _ T hT => hT⟩) ?_ (by decide) rfl
    · cases o <;> exact hT
    · refine ⟨by show 0 ≤ sizeLine; omega, ?_⟩
      show Br (!(((prtsI l).filter Option.isNone).map optI).isEmpty) _ _
      obtain ⟨o, ho, hn⟩ := List.any_eq_true.mp hany
      have hm : o ∈ (prtsI l).filter Option.isNone := List.mem_filter.mpr ⟨ho, hn⟩
      have : (((prtsI l).filter Option.isNone).map optI).isEmpty = false := by
        cases e : (prtsI l).filter Option.isNone with
        | nil => rw [e] at hm; cases hm
        | cons => rfl
      rw [this]
      exact ⟨fun _ => fin, fun hc => (by cases hc)⟩
  · refine seq_mid (M := fun s' => s' = ⟨[V, some (.val (.lst ((prtsI l).map optI))), none, none], ()⟩) ?_ ?_
    rotate_left
    · intro N hN
      refine ⟨fun hd => ?_, fun hd => ?_⟩
      · have hd := of_decide_eq_true hd
        rw [List.length_map] at hd; omega
      refine lc_list (prtsI l) optI Option.isNone optI (by omega) (fun o ho => ⟨_, rfl, fun T hT => ?_, fun _ T hT => hT⟩) ?_ (by decide) rfl
      · cases o <;> exact hT
      · refine ⟨by show 0 ≤ sizeLine; omega, ?_⟩
        show Br (!(((prtsI l).filter Option.isNone).map optI).isEmpty) _ _
        have : (prtsI l).filter Option.isNone = [] := by
          rw [List.filter_eq_nil_iff]
          intro o ho hn
          have := List.any_eq_false.mp hc o ho
          exact this hn
        rw [this]
        exact ⟨fun hc => (by cases hc), fun _ => hN _ rfl⟩
    rintro _ rfl
    have hin : ∀ w ∈ cuts 47 l, RunOk 600 w := fun w hw => hr.cut hw
    rcases hp with ⟨a, ep⟩ | ⟨a, b, ep⟩
    · rw [ep] at h ⊢
      refine seq_mid (M := fun _ => False) (fun _ hf => hf.elim) ?_
      intro N hN
      refine ⟨⟨rfl, rfl, Nat.zero_le 64, Nat.zero_le 64⟩, ⟨fun _ => ?_, fun hc => (by cases hc)⟩⟩
      exact ⟨_, rfl, by show 2 ≤ sizeLine; omega, h⟩
    · have sz : Sz 2500 a ∧ Sz 2500 b := by
        obtain ⟨w, v, e1⟩ : ∃ w v, cuts 47 l = [w, v] := by
          have := congrArg List.length ep
          unfold prtsI at this
          match hc : cuts 47 l with
          | [w, v] => exact ⟨w, v, rfl⟩
          | [] => rw [hc] at this; simp at this
          | [_] => rw [hc] at this; simp at this
          | _ :: _ :: _ :: _ => rw [hc] at this; simp at this
        unfold prtsI at ep
        rw [e1] at ep hin
        simp only [List.map_cons, List.map_nil, List.cons.injEq, and_true] at ep
        exact ⟨readI_sz (hin w (by simp)) ep.1, readI_sz (hin v (by simp)) ep.2⟩
      rw [ep] at h ⊢
      refine seq_mid (M := fun s' => s' = ⟨[V, some (.val (.lst [.int a, .int b])), none, none], ()⟩) ?_ ?_
      rotate_left
      · intro N hN
        exact ⟨⟨rfl, rfl, Nat.zero_le 64, Nat.zero_le 64⟩, ⟨fun hc => (by cases hc), fun _ => hN _ rfl⟩⟩
      rintro _ rfl
      have e : prtsF [some a, some b] = if 1 < b ∧ Nat.gcd a.natAbs b.natAbs = 1 then some (a, b) else none := rfl
      rw [e] at h
      refine seq_mid (M := fun s' => s' = ⟨[V, some (.val (.lst [.int a, .int b])), some (.val (.bl (decide (1 < b ∧ Nat.gcd a.natAbs b.natAbs = 1)))), none], ()⟩) ?_ ?_
      rotate_left
      · intro N hN
        refine ⟨_, rfl, fun hc => ?_, fun hc => ?_⟩
        · have hc : 1 < b := of_decide_eq_true hc
          refine ⟨_, rfl, _, rfl, ?_⟩
          have mx : max (1 : Int) b = b := by omega
          refine ⟨a, b, congrArg (fun z : Int => [D.int a, .int z]) mx, by omega, sz.2.le (by decide), ?_⟩
          refine ⟨_, rfl, _, rfl, by show 2 ≤ sizeLine; omega, ⟨rfl, rfl, by simp [frD, D.dep, D.deps], by simp [D.dep, D.deps]⟩, hN _ ?_⟩
          have e1 : D.eqv (frD (Rat.divInt a b)) (.tup [.int a, .int b]) = decide (1 < b ∧ Nat.gcd a.natAbs b.natAbs = 1) := by
            have := div_low (a := a) (show 0 < b by omega)
            have e2 : decide (1 < b ∧ Nat.gcd a.natAbs b.natAbs = 1) = decide (Nat.gcd a.natAbs b.natAbs = 1) := by simp [hc]
            rw [e2]
            exact this
          rw [e1]; rfl
        · have hc : ¬ 1 < b := of_decide_eq_false hc
          refine hN _ ?_
          rw [decide_eq_false (fun z => hc z.1)]; rfl
      rintro _ rfl
      by_cases hg : 1 < b ∧ Nat.gcd a.natAbs b.natAbs = 1
      · rw [if_pos hg] at h
        rw [decide_eq_true hg]
        exact ⟨fun _ => ⟨_, rfl, _, rfl, by show 2 ≤ sizeLine; omega, h⟩, fun hc => (by cases hc)⟩
      · rw [if_neg hg] at h
        rw [decide_eq_false hg]
        exact ⟨fun hc => (by cases hc), fun _ => h⟩

def t_due_f7bc : PSx Unit := (qSeq (qIf (qNot (qB (qIsi "str" (qVar 0)))) (qRet (qSet (qLst (qCons (qC .non) qNil)))) qNext) (qSeq (qAsg (qSet (qLc (qItems (qSet (qSplit (qVar 0) (qC (.str " "))))) (.nm 3) [3] qYes (qCallP (sp_read_fraction_659f) (qCons (qVar 3) qNil)))) 1) (qSeq (qAsg (qSet (qLc (qEnum (qCons (qVar 1) qNil)) (.tp [(.nm 4), (.nm 5)]) [4, 5] (qB (qBin isND (qVar 5) (qC .non))) (qVar 4))) 2) (qRet (qIfE (qB (qBin neLD (qVar 2) (qSet (qLst qNil)))) (qSl (qVar 2) qNoPart (qPart (qC (.int 1)))) (qCall (fn1 tupleD) (qCons (qVar 1) qNil)))))))

def sp_due_f7bc : Spec0 := fun ds R => ∃ v : D, ds = [v] ∧ (((∀ p, v ≠ .obj p) ∧ isTy "str" v = false ∧ R (.lst [.non])) ∨
  ∃ l : List Nat, v = .str (mkS l) ∧ l.length ≤ 50000 ∧ RunOk 600 l ∧ (∀ qs, parseR l = .ok qs → R (.tup (qs.map itD))) ∧ ∀ k : Nat, parseR l = .error k → R (.lst [.int k]))
theorem len_due_f7bc (ds : List D) (R : DK) (h : sp_due_f7bc ds R) : ds.length = 1 := by
  obtain ⟨_, rfl, _⟩ := h; rfl
def badL (k : Nat) : List (Option (Int × Int)) → List Nat
  | [] => []
  | o :: os => if o.isNone then k :: badL (k + 1) os else badL (k + 1) os
theorem badL_zip : ∀ (os : List (Option (Int × Int))) (k : Nat), badL k os = ((os.zipIdx k).filter fun p => p.1.isNone).map (·.2)
  | [], _ => rfl
  | o :: os, k => by
    rw [List.zipIdx_cons, List.filter_cons]
    unfold badL
    rw [badL_zip os (k + 1)]
    split <;> rfl
theorem parseGo_bads : ∀ (ws : List (List Nat)) (k : Nat), (∃ qs, parseGo k ws = .ok qs ∧ badL k (ws.map readF) = [] ∧ ws.map (fun w => optF (readF w)) = qs.map itD) ∨ ∃ j r, parseGo k ws = .error j ∧ badL k (ws.map readF) = j :: r
  | [], k => .inl ⟨[], rfl, rfl, rfl⟩
  | w :: ws, k => by
    cases e : readF w with
    | none =>
      refine .inr ⟨k, badL (k + 1) (ws.map readF), ?_, ?_⟩
      · unfold parseGo; rw [e]
      · rw [List.map_cons, e]; rfl
    | some q =>
      rcases parseGo_bads ws (k + 1) with ⟨qs, h1, h2, h3⟩ | ⟨j, r, h1, h2⟩
      · refine .inl ⟨q :: qs, ?_, ?_, ?_⟩
        · unfold parseGo; rw [e, h1]
        · rw [List.map_cons, e]; exact h2
        · rw [List.map_cons, List.map_cons, h3, e]; rfl
      · refine .inr ⟨j, r, ?_, ?_⟩
        · unfold parseGo; rw [e, h1]
        · rw [List.map_cons, e]; exact h2
theorem p_due_f7bc (ds : List D) (R : DK) (h : sp_due_f7bc ds R) : t_due_f7bc { nx := fun _ => R .non, rt := fun d _ => R d } ⟨startL 6 ds, ()⟩ := by
  obtain ⟨v, rfl, h⟩ := h
  have line := line_big
  rcases h with ⟨ho, hb, hr⟩ | ⟨l, rfl, hl, hr, hok, her⟩
  · refine seq_mid (M := fun _ => False) (fun _ hf => hf.elim) ?_
    intro N hN
    refine ⟨ho, ?_⟩
    rw [hb]
    exact ⟨fun _ => ⟨by show 1 ≤ sizeLine; omega, hr⟩, fun hc => (by cases hc)⟩
  let V := some (L.val (.str (mkS l)))
  refine seq_mid (M := fun s' => s' = ⟨[V, none, none, none, none, none], ()⟩) ?_ ?_
  rotate_left
  · intro N hN
    exact ⟨fun p e => (by cases e), fun hc => (by cases hc), fun _ => hN _ rfl⟩
  rintro _ rfl
  have cl := cuts_len (c := 32) l
  let os := (cuts 32 l).map readF
  refine seq_mid (M := fun s' => s' = ⟨[V, some (.val (.lst (os.map optF))), none, none, none, none], ()⟩) ?_ ?_
  rotate_left
  · intro N hN
    refine ⟨_, rfl, _, rfl, by decide +kernel, by rw [mkS_len]; omega, ?_⟩
    rw [split_map sp_eq (by decide)]
    show lcB _ _ _ _ _ ((cuts 32 l).map txD) _
    refine lc_mapl (cuts 32 l) txD (fun w => optF (readF w)) (by omega) (fun w hw => ⟨_, rfl, fun T hT => ⟨w, rfl, ?_, hr.cut hw, hT⟩⟩) ?_ (by decide) rfl
    · obtain ⟨_, a, b, e⟩ := cuts_mem hw
      rw [e] at hl
      simp at hl; omega
    · refine hN _ ?_
      show (⟨[V, some (.val (.lst ((cuts 32 l).map fun w => optF (readF w)))), none, none, none, none], ()⟩ : S Unit) = _
      show _ = (⟨[V, some (.val (.lst (((cuts 32 l).map readF).map optF))), none, none, none, none], ()⟩ : S Unit)
      rw [List.map_map]; rfl
  rintro _ rfl
  refine seq_mid (M := fun s' => s' = ⟨[V, some (.val (.lst (os.map optF))), some (.val (.lst ((badL 0 os).map natD))), none, none, none], ()⟩) ?_ ?_
  rotate_left
  · intro N hN
    show lcB _ _ _ _ _ (enumD (os.map optF)) _
    rw [show enumD (os.map optF) = (os.zipIdx 0).map fun p => .tup [.int (p.2 : Nat), optF p.1] from enumGo_map optF os 0]
    have ol : os.length ≤ l.length + 1 := by show ((cuts 32 l).map readF).length ≤ _; rw [List.length_map]; exact cl
    refine lc_list (os.zipIdx 0) (fun p => D.tup [.int (p.2 : Nat), optF p.1]) (fun p => p.1.isNone) (fun p => natD p.2) (by rw [List.length_zipIdx]; omega) (fun p hp => ⟨_, rfl, fun T hT => ?_, fun _ T hT => hT⟩) ?_ (by decide) rfl
    · obtain ⟨o, j⟩ := p
      cases o <;> exact hT
    · refine hN _ ?_
      have e : (badL 0 os).map natD = ((os.zipIdx 0).filter fun p => p.1.isNone).map fun p => natD p.2 := by
        rw [badL_zip, List.map_map]; rfl
      rw [e]; rfl
  rintro _ rfl
  rcases parseGo_bads (cuts 32 l) 0 with ⟨qs, h1, h2, h3⟩ | ⟨j, r, h1, h2⟩
  · have h2 : badL 0 os = [] := h2
    rw [h2]
    refine ⟨by show 0 ≤ sizeLine; omega, ⟨fun hc => (by cases hc), fun _ => ?_⟩⟩
    have e : os.map optF = qs.map itD := by
      rw [← h3]
      show ((cuts 32 l).map readF).map optF = _
      rw [List.map_map]; rfl
    show R (.tup (os.map optF))
    rw [e]
    exact hok qs h1
  · have h2 : badL 0 os = j :: r := h2
    rw [h2]
    refine ⟨by show 0 ≤ sizeLine; omega, ⟨fun _ => ?_, fun hc => (by cases hc)⟩⟩
    have c1 : cut ((j :: r).map natD) none (some ((1 : Nat) : Int)) = [natD j] := by rw [cut_to]; rfl
    show R (.lst (cut ((j :: r).map natD) none (some ((1 : Nat) : Int))))
    rw [c1]
    exact her j h1

def t_equal_17a7 (s : Spec0) : PSx Unit := (qSeq (qIf (qAnd (qB (qIsi "tuple" (qVar 0))) (qB (qIsi "tuple" (qVar 1)))) (qRet (qAndV (qBin eqD (qCall (fn1 lenD) (qCons (qVar 0) qNil)) (qCall (fn1 lenD) (qCons (qVar 1) qNil))) (qCall (fn1 allD) (qCons (qSet (qLc (qZip (qCons (qVar 0) (qCons (qVar 1) qNil))) (.tp [(.nm 2), (.nm 3)]) [2, 3] qYes (qCallP s (qCons (qVar 2) (qCons (qVar 3) qNil))))) qNil)))) qNext) (qSeq (qIf (qOr (qB (qIsi "bool" (qVar 0))) (qB (qIsi "bool" (qVar 1)))) (qRet (qAndV (qIsi "bool" (qVar 0)) (qAndV (qIsi "bool" (qVar 1)) (qBin eqD (qVar 0) (qVar 1))))) qNext) (qSeq (qIf (qB (qBin neD (qIsi "tuple" (qVar 0)) (qIsi "tuple" (qVar 1)))) (qRet (qC (.bl false))) qNext) (qSeq (qIf (qB (qBin neD (qIsi "int" (qVar 0)) (qIsi "int" (qVar 1)))) (qRet (qC (.bl false))) qNext) (qRet (qAndV (qBin eqD (qIsi "str" (qVar 0)) (qIsi "str" (qVar 1))) (qBin eqD (qVar 0) (qVar 1))))))))

def sp_equal_17a7 (n : Nat) : Spec0 := fun ds R => ∃ d : D, ds = [d, d] ∧ d.pln = true ∧ d.dep < n ∧ n ≤ 60 ∧ d.wid ≤ 10000000 ∧ R (.bl true)
theorem len_equal_17a7 (n : Nat) (ds : List D) (R : DK) (h : sp_equal_17a7 n ds R) : ds.length = 2 := by
  obtain ⟨a, rfl, _⟩ := h; rfl
theorem z_equal_17a7 (ds : List D) (R : DK) (h : sp_equal_17a7 0 ds R) : False := by
  obtain ⟨a, rfl, _, h, _⟩ := h; omega
theorem p_equal_17a7 (n : Nat) (ds : List D) (R : DK) (h : sp_equal_17a7 (n + 1) ds R) : t_equal_17a7 (sp_equal_17a7 n) { nx := fun _ => R .non, rt := fun d _ => R d } ⟨startL 4 ds, ()⟩ := by
  obtain ⟨d, rfl, hp, hd, hn, hw, h⟩ := h
  have ho := pln_obj hp
  have tt := isTy_tup d
  have tb := isTy_bl d
  have line := line_big
  by_cases ht : isTy "tuple" d = true
  · cases d <;> simp only [ht] at tt <;> try cases tt
    rename_i xs
    refine ⟨ho, ⟨fun _ => ⟨ho, ⟨fun _ => ?_, fun hc => absurd (hc.symm.trans ht) (by decide)⟩⟩, fun hc => absurd (hc.symm.trans ht) (by decide)⟩⟩
    refine ⟨⟨rfl, rfl, Nat.zero_le 64, Nat.zero_le 64⟩, ⟨fun _ => ?_, fun hc => (eq_no (d := .int xs.length) rfl hc).elim⟩⟩
    have hps : D.plns xs = true := by simpa [D.pln] using hp
    simp only [D.dep] at hd
    simp only [D.wid] at hw
    have hl := D.wids_len xs
    have zl : (zipD xs xs).length = xs.length := by rw [zipD_len]; omega
    refine ⟨fun i acc s => i ≤ xs.length ∧ acc = List.replicate i (.bl true) ∧ s = ⟨[some (.val (.tup xs)), some (.val (.tup xs)), none, none], ()⟩, ⟨⟨[some (.val (.tup xs)), some (.val (.tup xs)), none, none], ()⟩, Wk.of ⟨.inr rfl, .inr rfl, .inl rfl, .inl rfl, trivial⟩, Nat.zero_le _, rfl, rfl⟩, ?_, ?_⟩
    · rintro i e acc s hi ⟨hle, rfl, rfl⟩
      have il : i < xs.length := by have := (List.getElem?_eq_some_iff.mp hi).1; omega
      obtain ⟨x, hx1, hx2, rfl⟩ := zip_self hi
      refine ⟨fun _ => ?_, fun hc => (by cases hc)⟩
      have dx := D.deps_mem hx2
      have wx := D.wids_mem hx2
      refine ⟨x, rfl, D.plns_mem hps hx2, by omega, by omega, by omega, by simp; omega, ⟨[some (.val (.tup xs)), some (.val (.tup xs)), none, none], ()⟩, Wk.of ⟨.inr rfl, .inr rfl, .inl rfl, .inl rfl, trivial⟩, by omega, ?_, rfl⟩
      rw [List.replicate_succ']
    · rintro acc s ⟨_, rfl, rfl⟩
      refine ⟨_, bls_trues _, ?_⟩
      rw [all_trues]; exact h
  · have ht0 : isTy "tuple" d = false := by simpa using ht
    refine ⟨ho, ⟨fun hc => absurd hc ht, fun _ => ⟨fun hc => (by cases hc), fun _ => ?_⟩⟩⟩
    have e64 : d.dep ≤ 64 := by omega
    refine ⟨ho, ⟨fun hb => ?_, fun hb => ⟨ho, ⟨fun hc => absurd (hc.symm.trans hb) (by decide), fun _ => ?_⟩⟩⟩⟩
    · refine ⟨fun _ => ?_, fun hc => (by cases hc)⟩
      refine ⟨ho, ⟨fun _ => ⟨ho, ⟨fun _ => ⟨.of ⟨hp, hp, e64, e64⟩, ?_⟩, fun hc => absurd (hc.symm.trans hb) (by decide)⟩⟩, fun hc => absurd (hc.symm.trans hb) (by decide)⟩⟩
      show R (.bl (D.eqv d d))
      rw [eqv_refl d hp]; exact h
    · refine ⟨ho, ho, ⟨rfl, rfl, Nat.zero_le 64, Nat.zero_le 64⟩, ⟨fun hc => (bl_ne hc rfl).elim, fun _ => ?_⟩⟩
      refine ⟨ho, ho, ⟨rfl, rfl, Nat.zero_le 64, Nat.zero_le 64⟩, ⟨fun hc => (bl_ne hc rfl).elim, fun _ => ?_⟩⟩
      refine ⟨ho, ho, ⟨rfl, rfl, Nat.zero_le 64, Nat.zero_le 64⟩, ⟨fun _ => ⟨.of ⟨hp, hp, e64, e64⟩, ?_⟩, fun hc => (eq_no (d := .bl _) rfl hc).elim⟩⟩
      show R (.bl (D.eqv d d))
      rw [eqv_refl d hp]; exact h

def t_same_outcome_0e16 : PSx Unit := (qSeq (qIf (qOr (qB (qIsi "list" (qVar 1))) (qB (qIsi "list" (qVar 0)))) (qRet (qAndV (qIsi "list" (qVar 1)) (qAndV (qIsi "list" (qVar 0)) (qCallP (sp_equal_17a7 24) (qCons (qCall (fn1 tupleD) (qCons (qVar 0) qNil)) (qCons (qCall (fn1 tupleD) (qCons (qVar 1) qNil)) qNil)))))) qNext) (qRet (qCallP (sp_equal_17a7 24) (qCons (qVar 0) (qCons (qVar 1) qNil)))))

def sp_same_outcome_0e16 : Spec0 := fun ds R => ∃ d : D, ds = [d, d] ∧ d.pln = true ∧ d.dep < 24 ∧ d.wid ≤ 10000000 ∧ R (.bl true)
theorem len_same_outcome_0e16 (ds : List D) (R : DK) (h : sp_same_outcome_0e16 ds R) : ds.length = 2 := by
  obtain ⟨_, rfl, _⟩ := h; rfl
theorem p_same_outcome_0e16 (ds : List D) (R : DK) (h : sp_same_outcome_0e16 ds R) : t_same_outcome_0e16 { nx := fun _ => R .non, rt := fun d _ => R d } ⟨startL 2 ds, ()⟩ := by
  obtain ⟨d, rfl, hp, hd, hw, h⟩ := h
  have ho := pln_obj hp
  cases hl : isTy "list" d with
  | true =>
    have : ∃ xs, d = .lst xs := by
      cases d <;> first | exact ⟨_, rfl⟩ | cases hl
    obtain ⟨xs, rfl⟩ := this
    refine seq_mid (M := fun _ => False) (fun _ hf => hf.elim) ?_
    intro N hN
    refine ⟨ho, fun _ => ?_, fun hc => (by cases hc)⟩
    refine ⟨fun _ => ?_, fun hc => (by cases hc)⟩
    exact ⟨ho, fun _ => ⟨ho, fun _ => ⟨.tup xs, rfl, hp, hd, by decide, hw, h⟩, fun hc => (by cases hc)⟩, fun hc => (by cases hc)⟩
  | false =>
    refine seq_mid (M := fun s' => s' = ⟨[some (.val d), some (.val d)], ()⟩) ?_ ?_
    rotate_left
    · intro N hN
      refine ⟨ho, fun hc => absurd (hc.symm.trans hl) (by decide), fun _ => ⟨ho, ?_⟩⟩
      show Br (isTy "list" d) _ _
      rw [hl]
      exact ⟨fun hc => (by cases hc), fun _ => hN _ rfl⟩
    rintro _ rfl
    exact ⟨d, rfl, hp, hd, by decide, hw, h⟩

def t_parsed_469d (O : Out) (fl : Addr) : PSx Unit := (qSeq (qAsg (qC .non) 1) (qSeq (qTryAs (lookT [("ParseError", "MarksError", true)]) "MarksError" 2 (xAsg (qAct fl O) 1) (fun x a => (qSeq (qAsg (qC (.str "other")) 1) (qSeq (qAsg (qIsE (lookT [("ParseError", "InvalidPanel", false), ("ParseError", "InvalidMark", false), ("ParseError", "InvalidWeight", false), ("ParseError", "ZeroDenominator", false)]) ["ParseError"] ["InvalidPanel", "InvalidMark", "InvalidWeight", "ZeroDenominator"] 2 x a) 3) (qIf (qAnd (qB (qIsE (lookT [("ParseError", "ParseError", true)]) ["ParseError"] ["ParseError"] 2 x a)) (qAnd (qB (qIsE (lookT [("ParseError", "ValueError", true)]) ["ParseError"] ["ValueError"] 2 x a)) (qNot (qB (qVar 3))))) (qAsg (qSet (qLst (qCons (qXf "place" [("ParseError", "place")] 2 x a) qNil))) 1) qNext))))) (qRet (qVar 1))))

def sp_parsed_469d : SpecL := fun O R => O R (fun x => ∃ d, x = peX d ∧ R (.lst [d]))
theorem p_parsed_469d (O : Out) (fl : Addr) (R : D → Prop) (mo : MonoO O) (h : sp_parsed_469d O R) : t_parsed_469d O fl { nx := fun _ => R .non, rt := fun d _ => R d } ⟨startL 4 [.obj fl], ()⟩ := by
  have line := line_big
  refine seq_mid (M := fun s' => s' = ⟨[some (.val (.obj fl)), some (.val .non), none, none], ()⟩) ?_ ?_
  rotate_left
  · intro N hN
    exact hN _ rfl
  rintro _ rfl
  refine seq_mid (M := fun s' => ∃ (d : D) (w : Option L), R d ∧ s' = ⟨[some (.val (.obj fl)), some (.val d), none, w], ()⟩) ?_ ?_
  rotate_left
  · intro N hN
    refine ⟨rfl, mo _ _ _ _ (fun d hd => hN _ ⟨d, none, hd, rfl⟩) (fun x hx => ?_) h⟩
    obtain ⟨d, rfl, hr⟩ := hx
    refine ⟨rfl, fun a => ?_⟩
    refine seq_mid (M := fun s' => s' = ⟨[some (.val (.obj fl)), some (.val (.str "other")), some (.val (.obj a)), none], ()⟩) ?_ ?_
    rotate_left
    · intro N2 hN2
      exact hN2 _ rfl
    rintro _ rfl
    refine seq_mid (M := fun s' => s' = ⟨[some (.val (.obj fl)), some (.val (.str "other")), some (.val (.obj a)), some (.val (.bl false))], ()⟩) ?_ ?_
    rotate_left
    · intro N2 hN2
      exact ⟨rfl, .head _, false, rfl, hN2 _ rfl⟩
    rintro _ rfl
    refine ⟨rfl, .head _, true, rfl, ⟨fun _ => ⟨rfl, .head _, true, rfl, ⟨fun _ => ⟨fun _ => ?_, fun z => (by cases z)⟩, fun z => (by cases z)⟩⟩, fun z => (by cases z)⟩⟩
    exact ⟨rfl, .head _, d, rfl, by show 1 ≤ sizeLine; omega, hN _ ⟨.lst [d], _, hr, rfl⟩⟩
  rintro _ ⟨d, w, hr, rfl⟩
  exact hr

def t_read_integer_d611 : PSx Unit := (qSeq (qAsg (qIfE (qB (qTx1 swD (qVar 0) (qC (.str "-")))) (qSl (qVar 0) (qPart (qC (.int 1))) qNoPart) (qVar 0)) 1) (qSeq (qIf (qOr (qB (qBin eqD (qVar 1) (qC (.str "")))) (qB (qCall (fn1 anyD) (qCons (qSet (qLc (qItems (qVar 1)) (.nm 2) [2] qYes (qBin (inS true) (qVar 2) (qC (.str "0123456789"))))) qNil)))) (qRet (qC .non)) qNext) (qSeq (qIf (qAnd (qB (qBin eqD (qBin ixD (qVar 1) (qC (.int 0))) (qC (.str "0")))) (qB (qBin neD (qVar 0) (qC (.str "0"))))) (qRet (qC .non)) qNext) (qRet (qCall (fn1 intT) (qCons (qVar 0) qNil))))))

def sp_read_integer_d611 : Spec0 := fun ds R => ∃ l : List Nat, ds = [.str (mkS l)] ∧ l.length ≤ 100000 ∧ RunOk 600 l ∧ R (optI (readI l))
theorem len_read_integer_d611 (ds : List D) (R : DK) (h : sp_read_integer_d611 ds R) : ds.length = 1 := by
  obtain ⟨_, rfl, _⟩ := h; rfl
theorem p_read_integer_d611 (ds : List D) (R : DK) (h : sp_read_integer_d611 ds R) : t_read_integer_d611 { nx := fun _ => R .non, rt := fun d _ => R d } ⟨startL 3 ds, ()⟩ := by
  obtain ⟨l, rfl, hl, hr, h⟩ := h
  have line := line_big
  let V := some (L.val (.str (mkS l)))
  refine seq_mid (M := fun s' => s' = ⟨[V, some (.val (.str (mkS (bodyL l)))), none], ()⟩) ?_ ?_
  rotate_left
  · intro N hN
    refine ⟨_, rfl, _, rfl, ?_⟩
    have e : swD (mkS l) ("-" : Str) = .bl (decide (l.head? = some 45)) := by unfold swD; rw [mi_eq, sw_one]
    rw [e]
    refine ⟨fun hc => ?_, fun hc => ?_⟩
    · have hc := of_decide_eq_true hc
      refine ⟨by rw [mkS_len]; omega, hN _ ?_⟩
      rw [← head_drop hc]
      show (⟨[V, some (.val (.str (cutS (mkS l) (some ((1 : Nat) : Int)) none))), none], ()⟩ : S Unit) = _
      rw [cutS_from]
    · have hc := of_decide_eq_false hc
      refine hN _ ?_
      rw [bodyL_pos hc]; rfl
  rintro _ rfl
  have bl : (bodyL l).length ≤ 100000 := by
    unfold bodyL
    split
    · rename_i r; simp at hl; omega
    · exact hl
  have e1 : D.eqv (.str (mkS (bodyL l))) (.str ("" : Str)) = decide (bodyL l = []) := by rw [em_eq, eqv_str]
  refine seq_mid (M := fun s' => bodyL l ≠ [] ∧ (bodyL l).all isDg = true ∧ s' = ⟨[V, some (.val (.str (mkS (bodyL l)))), none], ()⟩) ?_ ?_
  rotate_left
  · intro N hN
    refine ⟨trivial, ?_⟩
    rw [e1]
    refine ⟨fun hc => ?_, fun hc => ?_⟩
    · refine ⟨fun _ => ?_, fun hc => (by cases hc)⟩
      have : readI l = none := by unfold readI; rw [if_pos (.inl (of_decide_eq_true hc))]
      rw [this] at h; exact h
    · have n1 := of_decide_eq_false hc
      show qLc (qItems (qVar 1)) (.nm 2) [2] qYes (qBin (inS true) (qVar 2) (qC (.str ("0123456789" : Str)))) (⟨[V, some (.val (.str (mkS (bodyL l)))), none], ()⟩ : S Unit) _
      refine lc_var (l := .str (mkS (bodyL l))) (ds := (bodyL l).map sgD) rfl rfl ?_
      refine lc_mapl (bodyL l) sgD (fun c => .bl (true ^^ isDg c)) (by omega) (fun c hc => ⟨_, rfl, fun T hT => ⟨c, rfl, by rw [sign_in]; exact hT⟩⟩) ?_ (by decide) rfl
      refine ⟨(bodyL l).map fun c => true ^^ isDg c, by rw [← asBls_map, List.map_map]; rfl, ?_⟩
      rw [all_notIn]
      cases ha : (bodyL l).all isDg with
      | true => exact ⟨fun hc => (by cases hc), fun _ => hN _ ⟨n1, ha, rfl⟩⟩
      | false =>
        refine ⟨fun _ => ?_, fun hc => (by cases hc)⟩
        have : readI l = none := by unfold readI; rw [if_pos (.inr ha)]
        rw [this] at h; exact h
  rintro _ ⟨n1, ha, rfl⟩
  have hw := readI_short hr ha
  have rd : readI l = if (bodyL l).head? = some 48 ∧ l ≠ [48] then none else some (valL l) := by
    unfold readI
    rw [if_neg (by rw [ha]; simp [n1])]
  have it := intText_read (x := mkS l) n1 ha (by rw [mkS_len]; omega)
  have ret : readI l = some (valL l) → qRet (qCall (fn1 intT) (qCons (qVar 0) qNil)) ({ nx := fun _ => R .non, rt := fun d _ => R d } : En Unit) ⟨[V, some (.val (.str (mkS (bodyL l)))), none], ()⟩ := fun e => by
    rw [e] at h
    exact ⟨_, it, by rw [mkS_len]; omega, h⟩
  obtain ⟨c, r, ec⟩ : ∃ c r, bodyL l = c :: r := by
    cases e : bodyL l with
    | nil => exact absurd e n1
    | cons c r => exact ⟨c, r, rfl⟩
  refine seq_mid (M := fun s' => readI l = some (valL l) ∧ s' = ⟨[V, some (.val (.str (mkS (bodyL l)))), none], ()⟩) ?_ ?_
  rotate_left
  · intro N hN
    refine ⟨by rw [mkS_len]; omega, c, by rw [ec]; rfl, trivial, ?_⟩
    rw [ze_eq, eqv_str]
    refine ⟨fun hc => ?_, fun hc => ?_⟩
    · have hc : c = 48 := by simpa using of_decide_eq_true hc
      refine ⟨trivial, ?_⟩
      rw [eqv_str]
      by_cases hz : l = [48]
      · rw [decide_eq_true hz]
        exact ⟨fun hc => (by cases hc), fun _ => hN _ ⟨by rw [rd, if_neg (fun z => z.2 hz)], rfl⟩⟩
      · rw [decide_eq_false hz]
        refine ⟨fun _ => ?_, fun hc => (by cases hc)⟩
        rw [rd, if_pos ⟨by rw [ec, hc]; rfl, hz⟩] at h
        exact h
    · have hc : c ≠ 48 := by simpa using of_decide_eq_false hc
      refine ⟨fun hc => (by cases hc), fun _ => hN _ ⟨by rw [rd, if_neg (fun z => hc (by rw [ec] at z; simpa using z.1))], rfl⟩⟩
  rintro _ ⟨e, rfl⟩
  exact ret e

def t_is_integer_8a5f : PSx Unit := (qRet (qAndV (qIsi "int" (qVar 0)) (qNotV (qIsi "bool" (qVar 0)))))

def sp_is_integer_8a5f : Spec0 := fun ds R => ∃ d : D, ds = [d] ∧ (∀ p, d ≠ .obj p) ∧ R (.bl (isI d))
theorem len_is_integer_8a5f (ds : List D) (R : DK) (h : sp_is_integer_8a5f ds R) : ds.length = 1 := by
  obtain ⟨d, rfl, _⟩ := h; rfl
theorem p_is_integer_8a5f (ds : List D) (R : DK) (h : sp_is_integer_8a5f ds R) : t_is_integer_8a5f { nx := fun _ => R .non, rt := fun d _ => R d } ⟨startL 1 ds, ()⟩ := by
  obtain ⟨d, rfl, ho, h⟩ := h
  refine ⟨ho, ⟨fun hc => ⟨ho, ?_⟩, fun hc => ?_⟩⟩
  · cases d <;> first | exact h | cases hc
  · cases d <;> first | exact h | cases hc

def t_common_divisor_2932 : PSx Unit := (qSeq (qWhile (qB (qBin gtD (qVar 1) (qC (.int 0)))) (qPar 0 1 (qCons (qVar 1) (qCons (qBin modD (qVar 0) (qVar 1)) qNil)))) (qRet (qVar 0)))

def sp_common_divisor_2932 : Spec0 := fun ds R => ∃ a b : Nat, ds = [.int a, .int b] ∧ R (.int (Nat.gcd a b : Nat))
theorem len_common_divisor_2932 (ds : List D) (R : DK) (h : sp_common_divisor_2932 ds R) : ds.length = 2 := by
  obtain ⟨a, b, rfl, _⟩ := h; rfl
theorem p_common_divisor_2932 (ds : List D) (R : DK) (h : sp_common_divisor_2932 ds R) : t_common_divisor_2932 { nx := fun _ => R .non, rt := fun d _ => R d } ⟨startL 2 ds, ()⟩ := by
  obtain ⟨a, b, rfl, h⟩ := h
  refine ⟨fun m s => ∃ x y : Nat, s = ⟨[some (.val (.int x)), some (.val (.int y))], ()⟩ ∧ Nat.gcd x y = Nat.gcd a b ∧ m = y, ⟨b, _, Wk.refl _, a, b, rfl, rfl, rfl⟩, ?_⟩
  rintro m s ⟨x, y, rfl, e, hm⟩
  refine ⟨fun hc => ?_, fun hc => ?_⟩
  · have hy : 0 < y := by have := of_decide_eq_true hc; omega
    refine ⟨by omega, x % y, _, by rw [hm]; exact Nat.mod_lt _ hy, Wk.refl _, y, x % y, rfl, ?_, rfl⟩
    rw [← e, Nat.gcd_comm x y, Nat.gcd_rec y x, Nat.gcd_comm]
  · have hy : y = 0 := by have := of_decide_eq_false hc; omega
    subst hy
    rw [Nat.gcd_zero_right] at e
    show R (.int x)
    rw [e]; exact h

def t_is_fraction_c9ac : PSx Unit := (qSeq (qIf (qOr (qNot (qB (qIsi "tuple" (qVar 0)))) (qOr (qB (qBin neD (qCall (fn1 lenD) (qCons (qVar 0) qNil)) (qC (.int 2)))) (qOr (qNot (qB (qCallP (sp_is_integer_8a5f) (qCons (qBin ixD (qVar 0) (qC (.int 0))) qNil)))) (qNot (qB (qCallP (sp_is_integer_8a5f) (qCons (qBin ixD (qVar 0) (qC (.int 1))) qNil))))))) (qRet (qC (.bl false))) qNext) (qRet (qAndV (qBin geD (qBin ixD (qVar 0) (qC (.int 1))) (qC (.int 1))) (qBin eqD (qCallP (sp_common_divisor_2932) (qCons (qCall (fn1 absD) (qCons (qBin ixD (qVar 0) (qC (.int 0))) qNil)) (qCons (qBin ixD (qVar 0) (qC (.int 1))) qNil))) (qC (.int 1))))))

def sp_is_fraction_c9ac : Spec0 := fun ds R => ∃ v : D, ds = [v] ∧ frOk v ∧ R (.bl (isFr v))
theorem len_is_fraction_c9ac (ds : List D) (R : DK) (h : sp_is_fraction_c9ac ds R) : ds.length = 1 := by
  obtain ⟨_, rfl, _⟩ := h; rfl
theorem p_is_fraction_c9ac (ds : List D) (R : DK) (h : sp_is_fraction_c9ac ds R) : t_is_fraction_c9ac { nx := fun _ => R .non, rt := fun d _ => R d } ⟨startL 1 ds, ()⟩ := by
  obtain ⟨v, rfl, ⟨ho, hx⟩, h⟩ := h
  have no : isTy "tuple" v = false → isFr v = false := fun e => by cases v <;> first | rfl | (cases e)
  by_cases ht : isTy "tuple" v = true
  · cases v <;> first | (cases ht; done) | skip
    rename_i xs
    obtain ⟨hx1, hx2⟩ := hx xs rfl
    refine ⟨ho, ⟨fun hc => (by cases hc), fun _ => ?_⟩⟩
    refine ⟨⟨rfl, rfl, Nat.zero_le 64, Nat.zero_le 64⟩, ⟨fun hc => ?_, fun hc => ?_⟩⟩
    · have hc : (!decide ((xs.length : Int) = 2)) = true := hc
      have : isFr (.tup xs) = false := by
        match xs, hc with
        | [], _ => rfl
        | [_], _ => rfl
        | [_, _], hc => simp at hc
        | _ :: _ :: _ :: _, _ => rfl
      rw [this] at h; exact ⟨fun _ => h, fun hc => (by cases hc)⟩
    · have hc : (!decide ((xs.length : Int) = 2)) = false := hc
      have hl : xs.length = 2 := by simp at hc; omega
      match xs, hl, hx1, hx2, h with
      | [x, y], _, hx1, hx2, h =>
        refine ⟨x, rfl, x, rfl, hx1 x (by simp), ⟨fun hc => ?_, fun hc => ?_⟩⟩
        · have : isFr (.tup [x, y]) = false := by cases x <;> first | rfl | (cases hc)
          rw [this] at h; exact ⟨fun _ => h, fun hc => (by cases hc)⟩
        · obtain ⟨a, rfl⟩ : ∃ a, x = .int a := by cases x <;> first | exact ⟨_, rfl⟩ | cases hc
          refine ⟨y, rfl, y, rfl, hx1 y (by simp), ⟨fun hc => ?_, fun hc => ?_⟩⟩
          · have : isFr (.tup [.int a, y]) = false := by cases y <;> first | rfl | (cases hc)
            rw [this] at h; exact h
          · obtain ⟨b, rfl⟩ : ∃ b, y = .int b := by cases y <;> first | exact ⟨_, rfl⟩ | cases hc
            refine ⟨_, rfl, ⟨fun hc => ?_, fun hc => ?_⟩⟩
            · have hc : decide (1 ≤ b) = true := hc
              have hb := of_decide_eq_true hc
              have eb : b = ((b.natAbs : Nat) : Int) := by omega
              refine ⟨_, rfl, _, rfl, a.natAbs, b.natAbs, by rw [← eb], ⟨rfl, rfl, Nat.zero_le 64, Nat.zero_le 64⟩, ?_⟩
              have : isFr (.tup [.int a, .int b]) = D.eqv (.int (Nat.gcd a.natAbs b.natAbs : Nat)) (.int 1) := by
                show (decide (1 ≤ b) && _) = _
                rw [decide_eq_true (show 1 ≤ b from hb), Bool.true_and]
                rfl
              rw [this] at h
              exact h
            · have hc : decide (1 ≤ b) = false := hc
              have : isFr (.tup [.int a, .int b]) = false := by
                show (decide (1 ≤ b) && _) = _
                rw [show decide (1 ≤ b) = false from hc, Bool.false_and]
              rw [this] at h; exact h
  · have ht : isTy "tuple" v = false := by simpa using ht
    rw [no ht] at h
    refine ⟨ho, ⟨fun _ => ⟨fun _ => h, fun hc => (by cases hc)⟩, fun hc => ?_⟩⟩
    rw [ht] at hc; cases hc

def t_read_fraction_3da6 : PSx Unit := (qSeq (qAsg (qSet (qLc (qItems (qSet (qSplit (qVar 0) (qC (.str "/"))))) (.nm 3) [3] qYes (qCallP (sp_read_integer_d611) (qCons (qVar 3) qNil)))) 1) (qSeq (qIf (qOr (qB (qBin inD (qC .non) (qVar 1))) (qB (qBin gtD (qCall (fn1 lenD) (qCons (qVar 1) qNil)) (qC (.int 2))))) (qRet (qC .non)) qNext) (qSeq (qIf (qB (qBin eqD (qCall (fn1 lenD) (qCons (qVar 1) qNil)) (qC (.int 1)))) (qRet (qTup (qCons (qBin ixD (qVar 1) (qC (.int 0))) (qCons (qC (.int 1)) qNil)))) qNext) (qSeq (qAsg (qTup (qCons (qBin ixD (qVar 1) (qC (.int 0))) (qCons (qBin ixD (qVar 1) (qC (.int 1))) qNil))) 2) (qRet (qIfE (qAnd (qB (qBin neD (qBin ixD (qVar 1) (qC (.int 1))) (qC (.int 1)))) (qB (qCallP (sp_is_fraction_c9ac) (qCons (qVar 2) qNil)))) (qVar 2) (qC .non)))))))

def sp_read_fraction_3da6 : Spec0 := fun ds R => ∃ l : List Nat, ds = [.str (mkS l)] ∧ l.length ≤ 100000 ∧ RunOk 600 l ∧ R (optF (readF l))
theorem len_read_fraction_3da6 (ds : List D) (R : DK) (h : sp_read_fraction_3da6 ds R) : ds.length = 1 := by
  obtain ⟨_, rfl, _⟩ := h; rfl
theorem p_read_fraction_3da6 (ds : List D) (R : DK) (h : sp_read_fraction_3da6 ds R) : t_read_fraction_3da6 { nx := fun _ => R .non, rt := fun d _ => R d } ⟨startL 4 ds, ()⟩ := by
  obtain ⟨l, rfl, hl, hr, h⟩ := h
  have line := line_big
  let V := some (L.val (.str (mkS l)))
  have pl := prtsI_len l
  refine seq_mid (M := fun s' => s' = ⟨[V, some (.val (.lst ((prtsI l).map optI))), none, none], ()⟩) ?_ ?_
  rotate_left
  · intro N hN
    refine ⟨_, rfl, _, rfl, by decide +kernel, by rw [mkS_len]; omega, ?_⟩
    rw [split_map sl_eq (by decide)]
    show lcB _ _ _ _ _ ((cuts 47 l).map txD) _
    have cl := cuts_len (c := 47) l
    refine lc_mapl (cuts 47 l) txD (fun w => optI (readI w)) (by omega) (fun w hw => ⟨_, rfl, fun T hT => ⟨w, rfl, ?_, hr.cut hw, hT⟩⟩) ?_ (by decide) rfl
    · obtain ⟨_, a, b, e⟩ := cuts_mem hw
      rw [e] at hl
      simp at hl; omega
    · refine hN _ ?_
      unfold prtsI
      rw [List.map_map]; rfl
  rintro _ rfl
  rw [readF_parts] at h
  rcases prts_cases _ (prtsI_ne l) with ⟨hc, hn⟩ | ⟨⟨hc, hlen⟩, hp⟩
  · rw [hn] at h
    have fin : qRet (qC .non) ({ nx := fun _ => R .non, rt := fun d _ => R d } : En Unit) ⟨[V, some (.val (.lst ((prtsI l).map optI))), none, none], ()⟩ := h
    refine seq_mid (M := fun _ => False) (fun _ hf => hf.elim) ?_
    intro N hN
    refine ⟨⟨rfl, opts_pln _, by simp only [D.dep, opts_dep]; decide⟩, ?_⟩
    show Br (false ^^ ((prtsI l).map optI).any fun y => D.eqv y .non) _ _
    rw [opts_any]
    cases ha : (prtsI l).any Option.isNone with
    | true => exact ⟨fun _ => ⟨fun _ => fin, fun hc => (by cases hc)⟩, fun hc => (by cases hc)⟩
    | false =>
      refine ⟨fun hc => (by cases hc), fun _ => ?_⟩
      rw [ha] at hc
      have hc : 2 < (prtsI l).length := hc.resolve_left (by simp)
      refine ⟨fun _ => fin, fun hd => ?_⟩
      have := of_decide_eq_false hd
      rw [List.length_map] at this; omega
  · refine seq_mid (M := fun s' => s' = ⟨[V, some (.val (.lst ((prtsI l).map optI))), none, none], ()⟩) ?_ ?_
    rotate_left
    · intro N hN
      refine ⟨⟨rfl, opts_pln _, by simp only [D.dep, opts_dep]; decide⟩, ?_⟩
      show Br (false ^^ ((prtsI l).map optI).any fun y => D.eqv y .non) _ _
      rw [opts_any, hc]
      refine ⟨fun hc => (by cases hc), fun _ => ⟨fun hd => ?_, fun _ => hN _ rfl⟩⟩
      have := of_decide_eq_true hd
      rw [List.length_map] at this; omega
    rintro _ rfl
    have hin : ∀ w ∈ cuts 47 l, RunOk 600 w := fun w hw => hr.cut hw
    rcases hp with ⟨a, ep⟩ | ⟨a, b, ep⟩
    · rw [ep] at h ⊢
      refine seq_mid (M := fun _ => False) (fun _ hf => hf.elim) ?_
      intro N hN
      refine ⟨⟨rfl, rfl, Nat.zero_le 64, Nat.zero_le 64⟩, ⟨fun _ => ?_, fun hc => (by cases hc)⟩⟩
      exact ⟨_, rfl, by show 2 ≤ sizeLine; omega, h⟩
    · have sz : Sz 2500 a ∧ Sz 2500 b := by
        obtain ⟨w, v, e1⟩ : ∃ w v, cuts 47 l = [w, v] := by
          have := congrArg List.length ep
          unfold prtsI at this
          match hc : cuts 47 l with
          | [w, v] => exact ⟨w, v, rfl⟩
          | [] => rw [hc] at this; simp at this
          | [_] => rw [hc] at this; simp at this
          | _ :: _ :: _ :: _ => rw [hc] at this; simp at this
        unfold prtsI at ep
        rw [e1] at ep hin
        simp only [List.map_cons, List.map_nil, List.cons.injEq, and_true] at ep
        exact ⟨readI_sz (hin w (by simp)) ep.1, readI_sz (hin v (by simp)) ep.2⟩
      rw [ep] at h ⊢
      refine seq_mid (M := fun s' => s' = ⟨[V, some (.val (.lst [.int a, .int b])), none, none], ()⟩) ?_ ?_
      rotate_left
      · intro N hN
        exact ⟨⟨rfl, rfl, Nat.zero_le 64, Nat.zero_le 64⟩, ⟨fun hc => (by cases hc), fun _ => hN _ rfl⟩⟩
      rintro _ rfl
      refine seq_mid (M := fun s' => s' = ⟨[V, some (.val (.lst [.int a, .int b])), some (.val (itD (a, b))), none], ()⟩) ?_ ?_
      rotate_left
      · intro N hN
        exact ⟨_, rfl, _, rfl, by show 2 ≤ sizeLine; omega, hN _ rfl⟩
      rintro _ rfl
      refine ⟨_, rfl, ⟨rfl, rfl, Nat.zero_le 64, Nat.zero_le 64⟩, ?_⟩
      show Br (!(b == 1)) _ _
      have hf : isFr (itD (a, b)) = (decide (1 ≤ b) && decide (Nat.gcd a.natAbs b.natAbs = 1)) := by
        show frB (.int a) (.int b) = _
        rw [Bool.eq_iff_iff]
        simp [frB]
        try omega
      by_cases hb : b = 1
      · subst hb
        have : prtsF [some a, some 1] = none := by
          have hn : ¬ ((1 : Int) < 1 ∧ Nat.gcd a.natAbs (1 : Int).natAbs = 1) := fun z => absurd z.1 (by decide)
          show (if (1 : Int) < 1 ∧ Nat.gcd a.natAbs (1 : Int).natAbs = 1 then some (a, 1) else none) = none
          rw [if_neg hn]
        rw [this] at h
        exact ⟨fun hc => (by cases hc), fun _ => ⟨fun hc => (by cases hc), fun _ => h⟩⟩
      · refine ⟨fun _ => ?_, fun hc => ?_⟩
        · refine ⟨itD (a, b), rfl, ⟨fun p e => (by cases e), fun xs e => ?_⟩, ?_⟩
          · cases e
            refine ⟨fun y hy p e => ?_, fun i hi => ?_⟩
            · simp only [List.mem_cons, List.not_mem_nil, or_false] at hy
              rcases hy with rfl | rfl <;> cases e
            · simp only [List.mem_cons, List.not_mem_nil, or_false, D.int.injEq] at hi
              rcases hi with rfl | rfl
              · exact sz.1.le (by decide)
              · exact sz.2.le (by decide)
          · rw [hf]
            have e : prtsF [some a, some b] = if 1 < b ∧ Nat.gcd a.natAbs b.natAbs = 1 then some (a, b) else none := rfl
            rw [e] at h
            by_cases hg : 1 ≤ b ∧ Nat.gcd a.natAbs b.natAbs = 1
            · have hg' : 1 < b ∧ Nat.gcd a.natAbs b.natAbs = 1 := ⟨by omega, hg.2⟩
              rw [if_pos hg'] at h
              rw [decide_eq_true hg.1, decide_eq_true hg.2]
              exact ⟨fun _ => h, fun hc => (by cases hc)⟩
            · have hg' : ¬ (1 < b ∧ Nat.gcd a.natAbs b.natAbs = 1) := fun z => hg ⟨by omega, z.2⟩
              rw [if_neg hg'] at h
              have : (decide (1 ≤ b) && decide (Nat.gcd a.natAbs b.natAbs = 1)) = false := by
                rw [Bool.eq_false_iff]
                intro z
                rw [Bool.and_eq_true, decide_eq_true_iff, decide_eq_true_iff] at z
                exact hg z
              rw [this]
              exact ⟨fun hc => (by cases hc), fun _ => h⟩
        · have : (b == 1) = true := by simpa using hc
          exact absurd (beq_iff_eq.mp this) hb

def t_parse_rating_ac02x : PSXx Unit := (xSeq (xIf (qNot (qB (qIsi "str" (qVar 0)))) (xRaiseF "ParseError" "place" (qC .non)) (xs0 qNext)) (xSeq (xs0 (qAsgOwn (qLst qNil) 1)) (xSeq (xFor (qEnum (qCons (qSet (qSplit (qVar 0) (qC (.str " ")))) qNil)) (.tp [(.nm 2), (.nm 3)]) (xSeq (xs0 (qAsg (qCallP (sp_read_fraction_3da6) (qCons (qVar 3) qNil)) 4)) (xSeq (xIf (qB (qBin isND (qVar 4) (qC .non))) (xRaiseF "ParseError" "place" (qVar 2)) (xs0 qNext)) (xs0 (qDrop (qAppend 1 (qVar 4))))))) (xs0 (qRet (qCall (fn1 tupleD) (qCons (qVar 1) qNil)))))))

def sp_parse_rating_ac02x : SpecX := fun ds R W => ∃ v : D, ds = [v] ∧ (((∀ p, v ≠ .obj p) ∧ isTy "str" v = false ∧ W (peX .non)) ∨
  ∃ l : List Nat, v = .str (mkS l) ∧ l.length ≤ 50000 ∧ RunOk 600 l ∧ (∀ qs, parseR l = .ok qs → R (.tup (qs.map itD))) ∧ ∀ k : Nat, parseR l = .error k → W (peX (.int k)))
theorem len_parse_rating_ac02x (ds : List D) (R : DK) (W : Xc → Prop) (h : sp_parse_rating_ac02x ds R W) : ds.length = 1 := by
  obtain ⟨_, rfl, _⟩ := h; rfl
theorem p_parse_rating_ac02x (ds : List D) (R : DK) (W : Xc → Prop) (h : sp_parse_rating_ac02x ds R W) : t_parse_rating_ac02x (fun x _ => W x) { nx := fun _ => R .non, rt := fun d _ => R d } ⟨startL 5 ds, ()⟩ := by
  obtain ⟨v, rfl, h⟩ := h
  have line := line_big
  rcases h with ⟨ho, hb, hw⟩ | ⟨l, rfl, hl, hr, hok, her⟩
  · refine seq_mid (M := fun _ => False) (fun _ hf => hf.elim) ?_
    intro N hN
    refine ⟨ho, ?_⟩
    rw [hb]
    exact ⟨fun _ => hw, fun hc => (by cases hc)⟩
  let V := some (L.val (.str (mkS l)))
  refine seq_mid (M := fun s' => s' = ⟨[V, none, none, none, none], ()⟩) ?_ ?_
  rotate_left
  · intro N hN
    exact ⟨fun p e => (by cases e), fun hc => (by cases hc), fun _ => hN _ rfl⟩
  rintro _ rfl
  refine seq_mid (M := fun s' => s' = ⟨[V, some (.own []), none, none, none], ()⟩) ?_ ?_
  rotate_left
  · intro N hN
    exact ⟨by show 0 ≤ sizeLine; omega, hN _ rfl⟩
  rintro _ rfl
  have cl := cuts_len (c := 32) l
  refine seq_mid (M := fun s' => ∃ qs, parseR l = .ok qs ∧ qs.length ≤ 100000 ∧ s' = ⟨[V, some (.own (qs.map itD)), none, none, none], ()⟩) ?_ ?_
  rotate_left
  · intro N hN
    refine ⟨_, rfl, _, rfl, by decide +kernel, by rw [mkS_len]; omega, ?_⟩
    rw [split_map sp_eq (by decide)]
    refine ⟨fun i s => i ≤ (cuts 32 l).length ∧ ∃ acc : List (Int × Int), acc.length = i ∧ parseR l = aheadR acc (parseGo i ((cuts 32 l).drop i)) ∧ s = ⟨[V, some (.own (acc.map itD)), none, none, none], ()⟩, ⟨_, Wk.refl _, Nat.zero_le _, [], rfl, by rw [aheadR_nil]; rfl, rfl⟩, ?_, ?_⟩
    · rintro i d s hd ⟨_, acc, ha, hp, rfl⟩
      obtain ⟨x, hx, rfl⟩ := enum_get hd
      rw [List.getElem?_map] at hx
      obtain ⟨w, hw, rfl⟩ := Option.map_eq_some_iff.mp hx
      have hm := List.mem_of_getElem? hw
      have hil := (List.getElem?_eq_some_iff.mp hw).1
      have hwl : w.length ≤ 50000 := by
        obtain ⟨_, a, b, e⟩ := cuts_mem hm
        rw [e] at hl
        simp at hl; omega
      have ed : (cuts 32 l).drop i = w :: (cuts 32 l).drop (i + 1) := by
        obtain ⟨h1, rfl⟩ := List.getElem?_eq_some_iff.mp hw
        exact List.drop_eq_getElem_cons h1
      refine put_tg (ρ' := [V, some (.own (acc.map itD)), some (.val (.int (i : Int))), some (.val (.str (mkS w))), none]) rfl ?_
      refine seq_mid (M := fun s' => s' = ⟨[V, some (.own (acc.map itD)), some (.val (.int (i : Int))), some (.val (.str (mkS w))), some (.val (optF (readF w)))], ()⟩) ?_ ?_
      rotate_left
      · intro N hN
        exact ⟨w, rfl, by omega, hr.cut hm, hN _ rfl⟩
      rintro _ rfl
      cases hf : readF w with
      | none =>
        refine seq_mid (M := fun _ => False) (fun _ hf => hf.elim) ?_
        intro N hN
        refine ⟨fun _ => her i ?_, fun hc => (by cases hc)⟩
        rw [hp, ed, parseGo_bad hf]; rfl
      | some q =>
        refine seq_mid (M := fun s' => s' = ⟨[V, some (.own (acc.map itD)), some (.val (.int (i : Int))), some (.val (.str (mkS w))), some (.val (itD q))], ()⟩) ?_ ?_
        rotate_left
        · intro N hN
          exact ⟨fun hc => (by cases hc), fun _ => hN _ rfl⟩
        rintro _ rfl
        refine ⟨⟨_, rfl⟩, _, rfl, by rw [List.length_map]; omega, ?_⟩
        refine ⟨⟨[V, some (.own (acc.map itD ++ [itD q])), none, none, none], ()⟩, Wk.of (by repeat' first | exact trivial | exact .inr rfl | exact .inl rfl | refine ⟨?_, ?_⟩), hil, acc ++ [q], by simp [ha], ?_, by rw [List.map_append]; rfl⟩
        rw [hp, ed, aheadR_step hf]
    · rintro s ⟨hi, acc, ha, hp, rfl⟩
      have e : (enumD ((cuts 32 l).map txD)).length = (cuts 32 l).length := by rw [show (enumD ((cuts 32 l).map txD)).length = ((cuts 32 l).map txD).length from enumGo_len _ _, List.length_map]
      rw [e] at hp ha
      rw [List.drop_length] at hp
      refine hN _ ⟨acc, ?_, by omega, rfl⟩
      rw [hp]
      simp [aheadR, parseGo]
  rintro _ ⟨qs, hq, hlen, rfl⟩
  exact hok qs hq

def t_law_0e9c (r : Addr) : PSx Nat := (qSeq (qFor (qRange1 (qCons (qC (.int 3)) qNil)) (.nm 2) (qFor (qItems (qCallG (sp_values_a2af r) (qCons (qVar 1) qNil))) (.nm 3) (qSeq (qPar 4 5 (qCons (qCall (fn1 rprK) (qCons (qVar 3) qNil)) (qCons (qCallP (sp_due_f7bc) (qCons (qVar 3) qNil)) qNil))) (qIf (qOr (qNot (qB (qCallP (sp_same_outcome_0e16) (qCons (qLam sp_parsed_469d (qCallX (sp_parse_rating_ac02x) (qCons (qVar 3) qNil))) (qCons (qVar 5) qNil))))) (qB (qBin neD (qCall (fn1 rprK) (qCons (qVar 3) qNil)) (qVar 4)))) (qRet (qC (.bl false))) qNext)))) (qRet (qC (.bl true))))

abbrev s74 (r : Addr) (t v ke du : Option L) (g : Nat) : S Nat := ⟨[none, some (.val (.obj r)), t, v, ke, du], g⟩
def outV (l : List Nat) : D := match parseR l with | .ok qs => .tup (qs.map itD) | .error k => .lst [.int (k : Nat)]
theorem outV_ok (l : List Nat) (h : l.count 32 ≤ 900) : (outV l).pln = true ∧ (outV l).dep < 24 ∧ (outV l).wid ≤ 10000000 := by
  unfold outV
  cases e : parseR l with
  | ok qs =>
    obtain ⟨rs, rfl, _, rl, _⟩ := parseR_back e
    show (D.tup ((rqs rs).map itD)).pln = true ∧ (D.tup ((rqs rs).map itD)).dep < 24 ∧ (D.tup ((rqs rs).map itD)).wid ≤ 10000000
    rw [rqs_itD]
    have hn : rs.length ≤ 1000 := by omega
    exact frs_eqOk hn
  | error k => exact ⟨rfl, by simp [D.dep, D.deps], by simp [D.wid, D.wids]⟩
theorem p_law_0e9c (r : Addr) : t_law_0e9c r { nx := fun _ => False, rt := fun d _ => d = .bl true } ⟨(List.replicate 6 none).set 1 (some (.val (.obj r))), 0⟩ := by
  have lim : drawLine = 16777216 := by decide
  have line : (10000000 : Nat) ≤ sizeLine := line_big
  refine ⟨⟨by decide, by decide⟩, fun i s => ∃ g, g ≤ 2000 * i ∧ s = s74 r none none none none g, ⟨_, Wk.refl _, 0, by omega, rfl⟩, ?_, ?_⟩
  · rintro i d s hd ⟨g, hg, rfl⟩
    have hi : i < 3 := (List.getElem?_eq_some_iff.mp hd).1
    refine put_nm ?_
    let T := some (L.val d)
    refine ⟨rfl, (by show g + 5000 < drawLine; omega), fun vs g2 av vl (h0 : g ≤ g2) (h1 : g2 ≤ g + 1500) => ?_⟩
    show ∃ I : Nat → S Nat → Prop, _
    refine ⟨fun _ s => s = s74 r T none none none g2, ⟨_, Wk.refl _, rfl⟩, ?_, ?_⟩
    · rintro j v s hv rfl
      obtain ⟨vo, vs, vt⟩ := av v (List.mem_of_getElem? hv)
      refine put_nm ?_
      have eS : ∀ x : Str, (D.str x).eqv (.str x) = true := fun x => by
        show decide _ = true
        simp
      let Ke := some (L.val (.str v.py.shown))
      have fin : ∀ (E : En Nat) (du : Option L), E.nx (s74 r T (some (.val v)) Ke du g2) → Br (!(D.eqv (.str v.py.shown) (.str v.py.shown))) (qRet (qC (.bl false)) E (s74 r T (some (.val v)) Ke du g2)) (qNext E (s74 r T (some (.val v)) Ke du g2)) := fun E du h => by
        rw [eS]
        exact ⟨fun hc => (by cases hc), fun _ => h⟩
      rcases vt with hs | ⟨w, rfl, gw⟩
      · refine seq_mid (M := fun s' => s' = s74 r T (some (.val v)) Ke (some (.val (.lst [.non]))) g2) ?_ ?_
        rotate_left
        · intro N hN
          exact ⟨vs, v, rfl, .inl ⟨vo, hs, hN _ rfl⟩⟩
        rintro _ rfl
        refine upO_of ?_
        refine ⟨v, rfl, .inl ⟨vo, hs, .non, rfl, ?_⟩⟩
        refine ⟨.lst [.non], rfl, rfl, by simp [D.dep, D.deps], by simp [D.wid, D.wids], ⟨fun hc => (by cases hc), fun _ => ?_⟩⟩
        refine ⟨vs, trivial, ?_⟩
        refine fin _ _ ?_
        exact ⟨_, Wk.of (by repeat' first | exact trivial | exact .inr rfl | exact .inl rfl | refine ⟨?_, ?_⟩), rfl⟩
      · obtain ⟨o1, o2, o3⟩ := outV_ok w gw.c
        have wl := gw.l
        have w6 := gw.r
        refine seq_mid (M := fun s' => s' = s74 r T (some (.val (txD w))) Ke (some (.val (outV w))) g2) ?_ ?_
        rotate_left
        · intro N hN
          refine ⟨vs, _, rfl, .inr ⟨w, rfl, by omega, w6, fun q hq => hN _ ?_, fun k hk => hN _ ?_⟩⟩
          · have eo : outV w = .tup (q.map itD) := by unfold outV; rw [hq]
            rw [eo]; rfl
          · have eo : outV w = .lst [.int (k : Nat)] := by unfold outV; rw [hk]
            rw [eo]; rfl
        rintro _ rfl
        refine upO_of ?_
        have fin2 : ∀ (E : En Nat), E.nx (s74 r T (some (.val (txD w))) Ke (some (.val (outV w))) g2) → Br (!(D.eqv (.str (txD w).py.shown) (.str (txD w).py.shown))) (qRet (qC (.bl false)) E (s74 r T (some (.val (txD w))) Ke (some (.val (outV w))) g2)) (qNext E (s74 r T (some (.val (txD w))) Ke (some (.val (outV w))) g2)) := fun E h => fin E _ h
        refine ⟨_, rfl, .inr ⟨w, rfl, by omega, w6, fun q hq => ?_, fun k hk => ⟨_, rfl, ?_⟩⟩⟩
        · have eo : outV w = .tup (q.map itD) := by unfold outV; rw [hq]
          refine ⟨outV w, by rw [eo], o1, o2, o3, ⟨fun hc => (by cases hc), fun _ => ?_⟩⟩
          refine ⟨vs, trivial, ?_⟩
          refine fin2 _ ?_
          exact ⟨_, Wk.of (by repeat' first | exact trivial | exact .inr rfl | exact .inl rfl | refine ⟨?_, ?_⟩), rfl⟩
        · have eo : outV w = .lst [.int (k : Nat)] := by unfold outV; rw [hk]
          refine ⟨outV w, by rw [eo], o1, o2, o3, ⟨fun hc => (by cases hc), fun _ => ?_⟩⟩
          refine ⟨vs, trivial, ?_⟩
          refine fin2 _ ?_
          exact ⟨_, Wk.of (by repeat' first | exact trivial | exact .inr rfl | exact .inl rfl | refine ⟨?_, ?_⟩), rfl⟩
    · rintro s ⟨_, rfl⟩
      exact ⟨_, Wk.of (by repeat' first | exact trivial | exact .inr rfl | exact .inl rfl | refine ⟨?_, ?_⟩), g2, by omega, rfl⟩
  · rintro s ⟨g, _, rfl⟩
    exact rfl

end Pm
set_option Elab.async false
set_option linter.all false
set_option maxRecDepth 100000
set_option maxHeartbeats 0
set_option autoImplicit false
namespace Pm
open PySem PySem.Spec
open PyProof.Rows hiding St
open L2 TL
structure Bi (K : PySem.W.Frag) (mg : Str → Option Value) : Prop where
  f_abs : mg "abs" = none
  f_all : mg "all" = none
  f_any : mg "any" = none
  f_bool : mg "bool" = none
  f_enumerate : mg "enumerate" = none
  f_int : mg "int" = none
  f_isinstance : mg "isinstance" = none
  f_len : mg "len" = none
  f_list : mg "list" = none
  f_max : mg "max" = none
  f_range : mg "range" = none
  f_repr : mg "repr" = none
  f_str : mg "str" = none
  f_tuple : mg "tuple" = none
  f_zip : mg "zip" = none
  g_DIGITS : GlD K mg "DIGITS" (.str "0123456789")
  sys : sysB K = true
  exc : Excs K mg x0L xqL subL xfL
theorem bt_abs : bootBuiltins "abs" = some (.builtin "abs") := by decide +kernel
theorem bt_all : bootBuiltins "all" = some (.builtin "all") := by decide +kernel
theorem bt_any : bootBuiltins "any" = some (.builtin "any") := by decide +kernel
theorem bt_bool : bootBuiltins "bool" = some (.type "bool") := by decide +kernel
theorem bt_int : bootBuiltins "int" = some (.type "int") := by decide +kernel
theorem bt_len : bootBuiltins "len" = some (.builtin "len") := by decide +kernel
theorem bt_list : bootBuiltins "list" = some (.type "list") := by decide +kernel
theorem bt_max : bootBuiltins "max" = some (.builtin "max") := by decide +kernel
theorem bt_repr : bootBuiltins "repr" = some (.builtin "repr") := by decide +kernel
theorem bt_str : bootBuiltins "str" = some (.type "str") := by decide +kernel
theorem bt_tuple : bootBuiltins "tuple" = some (.type "tuple") := by decide +kernel
theorem sc_ParseError : FnScope ["self", "place"] ["self", "place"] (defScope st_ParseError) := ⟨rfl, rfl, rfl, by decide +kernel, rfl, by decide +kernel, by decide +kernel⟩
section
variable {P : Program} {w : World} {K : PySem.W.Frag} {mg : Str → Option Value} {base : Heap}
theorem sc_draws : FnScope ["_law_script", "_law_cells", "_law_cell"] ["_law_script"] (defScope st_draws) := ⟨rfl, rfl, rfl, by decide +kernel, rfl, by decide +kernel, by decide +kernel⟩
theorem ok_draws0 {f fd} (b : Bi K mg) (F : Fn K "_law_draws" "_law_draws" st_draws f fd) : FnOk P w K mg base CX0 1 f fd ["_law_script"] (spDraws K) := ok_draws F sc_draws rfl rfl fun cdv A outer s H E hr => by
  have nd := sc_draws.nd
  exact pss_cons (ps_set (i := 1) nd rfl (by first | exact Or.inl rfl | exact Or.inr rfl) (pe_op op_cat (pe_callTy call_list_of rfl b.f_list bt_list (pa_cons (pe_slice sl_list (pv 0) po_none (po_some pe_int)) pa_nil))
      (pe_op op_rep (pe_lst (pa_cons pe_int pa_nil)) (pe_callTy call_int1 rfl b.f_int bt_int (pa_cons (pe_cmpR op_eq (pe_callB call_len_seq rfl b.f_len bt_len (pa_cons (pv 0) pa_nil)) pe_int (nomark _)) pa_nil)))))
    (pss_one (ps_ret (pe_lst (pa_cons (pv 1) (pa_cons pe_int (pa_cons (pe_lc (own := [("_law_cell", 2)]) rfl nd (pi_list (pv 1)) (blkOk_by (by kernel_rfl)) (fun _ _ _ _ _ => pg_name nd rfl (by first | exact Or.inl rfl | exact Or.inr rfl)) (fun _ _ _ _ _ => pts_nil)
      (fun _ _ _ _ _ => pe_op op_mul (pv 2) (pe_callTy call_int1 rfl b.f_int bt_int (pa_cons (pe_cmpR op_ge (pv 2) (pe_op op_pow pe_int pe_int) (nomark _)) pa_nil)))) pa_nil))))))
theorem sc_next : FnScope ["_law_drawn", "_law_many", "_law_cells", "_law_turn", "_law_rests", "_law_spot", "_law_digit", "_law_mixed", "_law_again"] ["_law_drawn", "_law_many"] (defScope st_next) := ⟨rfl, rfl, rfl, by decide +kernel, rfl, by decide +kernel, by decide +kernel⟩
theorem ok_next0 {f fd} {r c q : Addr} (b : Bi K mg) (F : Fn K "_law_next" "_law_next" st_next f fd) : FnOk P w K mg base CX0 1 f fd ["_law_drawn", "_law_many"] (spG (gr K r c q) (nextS r)) := ok_next F sc_next rfl rfl fun cdv A outer s H E hr => by
  have nd := sc_next.nd
  exact pss_cons (ps_asg (pv 0) (pg_lst rfl (pgs_cons (pg_name nd rfl (.inl rfl)) (pgs_cons (pg_name nd rfl (.inl rfl)) (pgs_cons (pg_name nd rfl (.inl rfl)) pgs_nil)))))
    (pss_cons (ps_set (i := 5) nd rfl (.inl rfl) (pe_op op_mod (pv 3) (pe_callB call_len_seq rfl b.f_len bt_len (pa_cons (pv 2) pa_nil))))
    (pss_cons (ps_asg (pe_op op_add (pv 3) pe_int) (pg_sub (pv 0) pe_int set_list (fun _ => rfl)))
    (pss_cons (ps_if (pt_cmpR op_gt (pe_ix ix_list (pv 4) (pv 5) (fun _ _ => rfl)) pe_int (nomark _))
      (pss_cons (ps_set (i := 6) nd rfl (.inl rfl) (pe_op op_mod (pe_ix ix_list (pv 4) (pv 5) (fun _ _ => rfl)) (pv 1)))
      (pss_cons (ps_asg (pe_op op_fdivM (pe_ix ix_list (pv 4) (pv 5) (fun _ _ => rfl)) (pv 1)) (pg_sub (pv 4) (pv 5) set_list (fun _ => rfl)))
      (pss_one (ps_ret (pv 6))))) pss_nil)
    (pss_cons (ps_set (i := 7) nd rfl (.inl rfl) (pe_op op_mod (pe_op op_pow (pe_op op_add (pe_op op_add (pe_op op_mod (pe_ix ix_list (pv 2) (pv 5) (fun _ _ => rfl)) pe_int) (pe_op op_mul pe_int (pv 3))) pe_int) pe_int) pe_int))
    (pss_cons (ps_set (i := 8) nd rfl (.inl rfl) (pe_op op_mod (pe_op op_pow (pe_op op_add (pe_op op_add (pv 7) (pe_op op_mul (pe_op op_mul pe_int (pv 3)) (pv 3))) pe_int) pe_int) pe_int))
    (pss_one (ps_ret (pe_op op_mod (pe_op op_mod (pe_op op_add (pe_op op_mul (pv 8) pe_int) (pv 7)) pe_int) (pv 1)))))))))
theorem sc_lowest_ba06 : FnScope ["_law_numerator", "_law_denominator", "_law_one_here", "_law_other"] ["_law_numerator", "_law_denominator"] (defScope st_lowest_ba06) := ⟨rfl, rfl, rfl, by decide +kernel, rfl, by decide +kernel, by decide +kernel⟩
theorem ok_lowest_ba06 {f fd} (b : Bi K mg) (F : Fn K "_law_lowest" "_law_lowest" st_lowest_ba06 f fd) : FnOk P w K mg base CX0 1 f fd ["_law_numerator", "_law_denominator"] (spP K sp_lowest_ba06) :=
  okP F sc_lowest_ba06 len_lowest_ba06 ⟨t_lowest_ba06, fun cdv A outer s H E hr => by
    have nd := sc_lowest_ba06.nd
    exact (qss_cons (qs_par rfl nd rfl rfl (by decide) rfl rfl (qa_cons (qe_callB c_abs rfl b.f_abs bt_abs (qa_cons (qv 0) qa_nil)) (qa_cons (qv 1) qa_nil)) rfl)
    (qss_cons (qs_while PassesOwn.never (qt_cmp o_gt (qv 3) qe_int (nomark _)) (qss_one (qs_par rfl nd rfl rfl (by decide) rfl rfl (qa_cons (qv 3) (qa_cons (qe_bin o_mod (qv 2) (qv 3)) qa_nil)) rfl)))
    (qss_one (qs_ret (qe_tup (qa_cons (qe_bin o_fdiv (qv 0) (qv 2)) (qa_cons (qe_bin o_fdiv (qv 1) (qv 2)) qa_nil))))))), p_lowest_ba06⟩
theorem sc_fraction_6a64 : FnScope ["_law_drawn", "_law_great"] ["_law_drawn"] (defScope st_fraction_6a64) := ⟨rfl, rfl, rfl, by decide +kernel, rfl, by decide +kernel, by decide +kernel⟩
theorem ok_fraction_6a64 {f fd} {r c q : Addr} (b : Bi K mg) (g_lowest_ba06 : Glo P w K mg base "_law_lowest" 2 (spP K (sp_lowest_ba06)) 1) (g_next : ∀ r c q, Glo P w K mg base "_law_next" 2 (spG (gr K r c q) (nextS r)) 1) (F : Fn K "_law_fraction" "_law_fraction" st_fraction_6a64 f fd) : FnOk P w K mg base CX0 2 f fd ["_law_drawn"] (spG (gr K r c q) (sp_fraction_6a64 r)) :=
  okG (P := P) (w := w) (mg := mg) (base := base) (G := gr K r c q) (k := 1) rfl F sc_fraction_6a64 (len_fraction_6a64 r) ⟨t_fraction_6a64 r, fun cdv A outer s H E hr => by
    have nd := sc_fraction_6a64.nd
    exact (qss_cons (qs_set (i := 1) nd rfl (by first | exact Or.inl rfl | exact Or.inr rfl) (qe_ix (qe_set (qf_lst (qa_cons qe_int (qa_cons qe_int (qa_cons (qe_bin o_pow qe_int qe_int) (qa_cons (qe_bin o_pow qe_int qe_int) qa_nil)))))) (qe_callG ((g_next _ _ _).at hr (by decide)) rfl (qa_cons (qv 0) (qa_cons qe_int qa_nil)))))
    (qss_one (qs_ret (qe_call (g_lowest_ba06.at hr (by decide)) rfl (qa_cons (qe_bin o_sub (qe_callG ((g_next _ _ _).at hr (by decide)) rfl (qa_cons (qv 0) (qa_cons (qe_bin o_add (qe_bin o_mul qe_int (qv 1)) qe_int) qa_nil))) (qv 1)) (qa_cons (qe_bin o_add qe_int (qe_callG ((g_next _ _ _).at hr (by decide)) rfl (qa_cons (qv 0) (qa_cons (qv 1) qa_nil)))) qa_nil)))))), p_fraction_6a64 r⟩ (fun _ _ _ h => h)
theorem sc_written_5c80 : FnScope ["_law_drawn", "_law_most", "_law_many", "_law_k"] ["_law_drawn", "_law_most"] (defScope st_written_5c80) := ⟨rfl, rfl, rfl, by decide +kernel, rfl, by decide +kernel, by decide +kernel⟩
theorem ok_written_5c80 {f fd} {r c q : Addr} (b : Bi K mg) (g_next : ∀ r c q, Glo P w K mg base "_law_next" 2 (spG (gr K r c q) (nextS r)) 1) (g_lowest_ba06 : Glo P w K mg base "_law_lowest" 2 (spP K (sp_lowest_ba06)) 1) (g_fraction_6a64 : ∀ r c q, Glo P w K mg base "_law_fraction" 1 (spG (gr K r c q) (sp_fraction_6a64 r)) 2) (F : Fn K "_law_written" "_law_written" st_written_5c80 f fd) : FnOk P w K mg base CX0 3 f fd ["_law_drawn", "_law_most"] (spG (gr K r c q) (sp_written_5c80 r)) :=
  okG (P := P) (w := w) (mg := mg) (base := base) (G := gr K r c q) (k := 2) rfl F sc_written_5c80 (len_written_5c80 r) ⟨t_written_5c80 r, fun cdv A outer s H E hr => by
    have nd := sc_written_5c80.nd
    exact (qss_cons (qs_set (i := 2) nd rfl (by first | exact Or.inl rfl | exact Or.inr rfl) (qe_bin o_add qe_int (qe_callG ((g_next _ _ _).at hr (by decide)) rfl (qa_cons (qv 0) (qa_cons (qv 1) qa_nil)))))
    (qss_cons (qs_if (qt_cmp (o_eq hr) (qe_callG ((g_next _ _ _).at hr (by decide)) rfl (qa_cons (qv 0) (qa_cons qe_int qa_nil))) qe_int (nomark _)) (qss_one (qs_ret (qe_callTy c_tuple rfl b.f_tuple bt_tuple (qa_cons (qe_set (qf_lc rfl nd (qi_range1 rfl b.f_range (qa_cons (qv 2) qa_nil)) (own := [("_law_k", 3)]) (blkOk_by (by kernel_rfl)) (by decide) (fun _ _ _ _ _ => (qg_name nd rfl (by first | exact Or.inl rfl | exact Or.inr rfl))) (fun _ _ _ _ _ => qts_nil) (fun _ _ _ _ _ => (qe_callG ((g_fraction_6a64 _ _ _).at hr (by decide)) rfl (qa_cons (qv 0) qa_nil))))) qa_nil)))) qss_nil)
    (qss_one (qs_ret (qe_callTy c_tuple rfl b.f_tuple bt_tuple (qa_cons (qe_set (qf_lc rfl nd (qi_range1 rfl b.f_range (qa_cons (qe_bin o_mul qe_int (qv 2)) qa_nil)) (own := [("_law_k", 3)]) (blkOk_by (by kernel_rfl)) (by decide) (fun _ _ _ _ _ => (qg_name nd rfl (by first | exact Or.inl rfl | exact Or.inr rfl))) (fun _ _ _ _ _ => qts_nil) (fun _ _ _ _ _ => (qe_call (g_lowest_ba06.at hr (by decide)) rfl (qa_cons (qe_bin o_sub (qe_callG ((g_next _ _ _).at hr (by decide)) rfl (qa_cons (qv 0) (qa_cons qe_int qa_nil))) qe_int) (qa_cons (qe_bin o_add qe_int (qe_callG ((g_next _ _ _).at hr (by decide)) rfl (qa_cons (qv 0) (qa_cons qe_int qa_nil)))) qa_nil)))))) qa_nil)))))), p_written_5c80 r⟩ (fun _ _ _ h => h)
theorem sc_one_be76 : FnScope ["_law_drawn", "_law_items"] ["_law_drawn", "_law_items"] (defScope st_one_be76) := ⟨rfl, rfl, rfl, by decide +kernel, rfl, by decide +kernel, by decide +kernel⟩
theorem ok_one_be76 {f fd} {r c q : Addr} (b : Bi K mg) (g_next : ∀ r c q, Glo P w K mg base "_law_next" 2 (spG (gr K r c q) (nextS r)) 1) (F : Fn K "_law_one" "_law_one" st_one_be76 f fd) : FnOk P w K mg base CX0 2 f fd ["_law_drawn", "_law_items"] (spG (gr K r c q) (sp_one_be76 r)) :=
  okG (P := P) (w := w) (mg := mg) (base := base) (G := gr K r c q) (k := 1) rfl F sc_one_be76 (len_one_be76 r) ⟨t_one_be76 r, fun cdv A outer s H E hr => by
    have nd := sc_one_be76.nd
    exact (qss_one (qs_ret (qe_ix (qv 1) (qe_callG ((g_next _ _ _).at hr (by decide)) rfl (qa_cons (qv 0) (qa_cons (qe_callB c_len rfl b.f_len bt_len (qa_cons (qv 1) qa_nil)) qa_nil)))))), p_one_be76 r⟩ (fun _ _ _ h => h)
theorem sc_bent_word_0551 : FnScope ["_law_drawn", "_law_text", "_law_words", "_law_way", "_law_at", "_law_spot", "_law_some", "_law_new", "_law_sign"] ["_law_drawn", "_law_text"] (defScope st_bent_word_0551) := ⟨rfl, rfl, rfl, by decide +kernel, rfl, by decide +kernel, by decide +kernel⟩
theorem ok_bent_word_0551 {f fd} {r c q : Addr} (b : Bi K mg) (g_one_be76 : ∀ r c q, Glo P w K mg base "_law_one" 2 (spG (gr K r c q) (sp_one_be76 r)) 2) (g_next : ∀ r c q, Glo P w K mg base "_law_next" 2 (spG (gr K r c q) (nextS r)) 1) (F : Fn K "_law_bent_word" "_law_bent_word" st_bent_word_0551 f fd) : FnOk P w K mg base CX0 3 f fd ["_law_drawn", "_law_text"] (spG (gr K r c q) (sp_bent_word_0551 r)) :=
  okG (P := P) (w := w) (mg := mg) (base := base) (G := gr K r c q) (k := 2) rfl F sc_bent_word_0551 (len_bent_word_0551 r) ⟨t_bent_word_0551 r, fun cdv A outer s H E hr => by
    have nd := sc_bent_word_0551.nd
    exact (qss_cons (qs_par rfl nd rfl rfl (by decide) rfl rfl (qa_cons (qe_set (qf_split (qv 1) qe_str)) (qa_cons (qe_callG ((g_next _ _ _).at hr (by decide)) rfl (qa_cons (qv 0) (qa_cons qe_int qa_nil))) qa_nil)) rfl)
    (qss_cons (qs_par rfl nd rfl rfl (by decide) rfl rfl (qa_cons (qe_callG ((g_next _ _ _).at hr (by decide)) rfl (qa_cons (qv 0) (qa_cons (qe_callB c_len rfl b.f_len bt_len (qa_cons (qv 2) qa_nil)) qa_nil))) (qa_cons (qe_callG ((g_next _ _ _).at hr (by decide)) rfl (qa_cons (qv 0) (qa_cons (qe_bin o_add (qe_callB c_len rfl b.f_len bt_len (qa_cons (qv 1) qa_nil)) qe_int) qa_nil))) qa_nil)) rfl)
    (qss_cons (qs_setOwn (i := 6) nd rfl (by first | exact Or.inl rfl | exact Or.inr rfl) (qf_lst (qa_cons qe_str (qa_cons qe_str (qa_cons qe_str (qa_cons qe_str (qa_cons qe_str (qa_cons qe_str (qa_cons qe_str (qa_cons qe_str (qa_cons qe_str (qa_cons qe_str (qa_cons qe_str (qa_cons qe_str (qa_cons qe_str (qa_cons qe_str (qa_cons qe_str (qa_cons qe_str (qa_cons qe_str qa_nil)))))))))))))))))))
    (qss_cons (qs_setOwn (i := 6) nd rfl (by first | exact Or.inl rfl | exact Or.inr rfl) (qf_bin o_addF (qv 6) (qe_set (qf_lst (qa_cons qe_str (qa_cons qe_str (qa_cons qe_str (qa_cons qe_str (qa_cons qe_str (qa_cons qe_str (qa_cons qe_str (qa_cons qe_str (qa_cons qe_str (qa_cons qe_str qa_nil))))))))))))))
    (qss_cons (qs_expr (qe_append (pv 6) (qe_bin o_mulS qe_str qe_int)))
    (qss_cons (qs_set (i := 7) nd rfl (by first | exact Or.inl rfl | exact Or.inr rfl) (qe_ix (qe_set (qf_lst (qa_cons (qe_set (qf_lst (qa_cons (qe_callG ((g_one_be76 _ _ _).at hr (by decide)) rfl (qa_cons (qv 0) (qa_cons (qv 6) qa_nil))) qa_nil))) (qa_cons (qe_set (qf_lst qa_nil)) (qa_cons (qe_bin o_mul (qe_slice (qv 2) (qo_some (qv 4)) (qo_some (qe_bin o_add (qv 4) qe_int))) qe_int) qa_nil))))) (qe_bin o_mod (qv 3) qe_int)))
    (qss_cons (qs_if (qt_cmp o_lt (qv 3) qe_int (nomark _)) (qss_one (qs_ret (qe_join qe_str (qe_bin o_add (qe_bin o_add (qe_slice (qv 2) qo_none (qo_some (qv 4))) (qv 7)) (qe_slice (qv 2) (qo_some (qe_bin o_add (qv 4) qe_int)) qo_none))))) qss_nil)
    (qss_cons (qs_set (i := 8) nd rfl (by first | exact Or.inl rfl | exact Or.inr rfl) (qe_callG ((g_one_be76 _ _ _).at hr (by decide)) rfl (qa_cons (qv 0) (qa_cons (qe_set (qf_lst (qa_cons qe_str (qa_cons qe_str (qa_cons qe_str (qa_cons qe_str (qa_cons qe_str (qa_cons qe_str (qa_cons qe_str (qa_cons qe_str (qa_cons qe_str qa_nil))))))))))) qa_nil))))
    (qss_one (qs_ret (qe_bin o_add (qe_bin o_add (qe_slice (qv 1) qo_none (qo_some (qv 5))) (qe_ix (qe_set (qf_lst (qa_cons qe_str (qa_cons (qv 8) qa_nil)))) (qe_callG ((g_next _ _ _).at hr (by decide)) rfl (qa_cons (qv 0) (qa_cons qe_int qa_nil))))) (qe_slice (qv 1) (qo_some (qe_bin o_add (qv 5) (qe_callG ((g_next _ _ _).at hr (by decide)) rfl (qa_cons (qv 0) (qa_cons qe_int qa_nil))))) qo_none)))))))))))), p_bent_word_0551 r⟩ (fun _ _ _ h => h)
theorem sc_fraction_text_1128 : FnScope ["_law_fraction_here"] ["_law_fraction_here"] (defScope st_fraction_text_1128) := ⟨rfl, rfl, rfl, by decide +kernel, rfl, by decide +kernel, by decide +kernel⟩
theorem ok_fraction_text_1128 {f fd} (b : Bi K mg) (F : Fn K "_law_fraction_text" "_law_fraction_text" st_fraction_text_1128 f fd) : FnOk P w K mg base CX0 1 f fd ["_law_fraction_here"] (spP K sp_fraction_text_1128) :=
  okP F sc_fraction_text_1128 len_fraction_text_1128 ⟨t_fraction_text_1128, fun cdv A outer s H E hr => by
    have nd := sc_fraction_text_1128.nd
    exact (qss_one (qs_ret (qe_bin o_add (qe_callTy c_str rfl b.f_str bt_str (qa_cons (qe_ix (qv 0) qe_int) qa_nil)) (qe_ix (qe_set (qf_lst (qa_cons (qe_bin o_add qe_str (qe_callTy c_str rfl b.f_str bt_str (qa_cons (qe_ix (qv 0) qe_int) qa_nil))) (qa_cons qe_str qa_nil)))) (qe_callTy c_int rfl b.f_int bt_int (qa_cons (qe_cmp (o_eq hr) (qe_ix (qv 0) qe_int) qe_int (nomark _)) qa_nil)))))), p_fraction_text_1128⟩
theorem sc_odd_a635 : FnScope ["_law_drawn", "_law_some"] ["_law_drawn"] (defScope st_odd_a635) := ⟨rfl, rfl, rfl, by decide +kernel, rfl, by decide +kernel, by decide +kernel⟩
theorem ok_odd_a635 {f fd} {r c q : Addr} (b : Bi K mg) (g_one_be76 : ∀ r c q, Glo P w K mg base "_law_one" 2 (spG (gr K r c q) (sp_one_be76 r)) 2) (F : Fn K "_law_odd" "_law_odd" st_odd_a635 f fd) : FnOk P w K mg base CX0 3 f fd ["_law_drawn"] (spG (gr K r c q) (sp_odd_a635 r)) :=
  okG (P := P) (w := w) (mg := mg) (base := base) (G := gr K r c q) (k := 2) rfl F sc_odd_a635 (len_odd_a635 r) ⟨t_odd_a635 r, fun cdv A outer s H E hr => by
    have nd := sc_odd_a635.nd
    exact (qss_cons (qs_set (i := 1) nd rfl (by first | exact Or.inl rfl | exact Or.inr rfl) (qe_set (qf_lst (qa_cons qe_non (qa_cons qe_bl (qa_cons qe_bl (qa_cons qe_int (qa_cons (qe_un o_neg qe_int) (qa_cons qe_int (qa_cons qe_int (qa_cons (qe_bin o_pow qe_int qe_int) (qa_cons qe_str (qa_cons qe_str (qa_cons qe_str (qa_cons (qe_tup qa_nil) (qa_cons (qe_set (qf_lst qa_nil)) (qa_cons qe_dict0 (qa_cons (qe_tup (qa_cons qe_int qa_nil)) (qa_cons (qe_set (qf_lst (qa_cons qe_int qa_nil))) (qa_cons (qe_tup (qa_cons (qe_tup qa_nil) qa_nil)) qa_nil))))))))))))))))))))
    (qss_one (qs_ret (qe_callG ((g_one_be76 _ _ _).at hr (by decide)) rfl (qa_cons (qv 0) (qa_cons (qe_bin o_add (qv 1) (qe_set (qf_lst (qa_cons (qe_tup (qa_cons qe_int (qa_cons qe_int qa_nil))) (qa_cons (qe_tup (qa_cons qe_int (qa_cons qe_int qa_nil))) (qa_cons (qe_tup (qa_cons qe_int (qa_cons qe_int qa_nil))) qa_nil)))))) qa_nil)))))), p_odd_a635 r⟩ (fun _ _ _ h => h)
theorem sc_values_a2af : FnScope ["_law_drawn", "_law_rating", "_law_text", "_law_found", "_law_row", "_law_turn", "_law_bent", "_law_fraction_here", "_law_k"] ["_law_drawn"] (defScope st_values_a2af) := ⟨rfl, rfl, rfl, by decide +kernel, rfl, by decide +kernel, by decide +kernel⟩
theorem ok_values_a2af {f fd} {r c q : Addr} (b : Bi K mg) (g_written_5c80 : ∀ r c q, Glo P w K mg base "_law_written" 2 (spG (gr K r c q) (sp_written_5c80 r)) 3) (g_bent_word_0551 : ∀ r c q, Glo P w K mg base "_law_bent_word" 2 (spG (gr K r c q) (sp_bent_word_0551 r)) 3) (g_fraction_text_1128 : Glo P w K mg base "_law_fraction_text" 1 (spP K (sp_fraction_text_1128)) 1) (g_next : ∀ r c q, Glo P w K mg base "_law_next" 2 (spG (gr K r c q) (nextS r)) 1) (g_odd_a635 : ∀ r c q, Glo P w K mg base "_law_odd" 1 (spG (gr K r c q) (sp_odd_a635 r)) 3) (F : Fn K "_law_values" "_law_values" st_values_a2af f fd) : FnOk P w K mg base CX0 4 f fd ["_law_drawn"] (spG (gr K r c q) (sp_values_a2af r)) :=
  okG (P := P) (w := w) (mg := mg) (base := base) (G := gr K r c q) (k := 3) rfl F sc_values_a2af (len_values_a2af r) ⟨t_values_a2af r, fun cdv A outer s H E hr => by
    have nd := sc_values_a2af.nd
    exact (qss_cons (qs_set (i := 1) nd rfl (by first | exact Or.inl rfl | exact Or.inr rfl) (qe_set (qf_callTy c_list rfl b.f_list bt_list (qa_cons (qe_callG ((g_written_5c80 _ _ _).at hr (by decide)) rfl (qa_cons (qv 0) (qa_cons qe_int qa_nil))) qa_nil))))
    (qss_cons (qs_set (i := 2) nd rfl (by first | exact Or.inl rfl | exact Or.inr rfl) (qe_join qe_str (qe_set (qf_lc rfl nd (qi_seq (qv 1)) (own := [("_law_fraction_here", 7)]) (blkOk_by (by kernel_rfl)) (by decide) (fun _ _ _ _ _ => (qg_name nd rfl (by first | exact Or.inl rfl | exact Or.inr rfl))) (fun _ _ _ _ _ => qts_nil) (fun _ _ _ _ _ => (qe_call (g_fraction_text_1128.at hr (by decide)) rfl (qa_cons (qv 7) qa_nil)))))))
    (qss_cons (qs_set (i := 3) nd rfl (by first | exact Or.inl rfl | exact Or.inr rfl) (qe_set (qf_lst (qa_cons (qv 2) (qa_cons1 (qe1_addC (qv 2)) (qat_cons (qet_of (qe_bin o_add qe_str (qv 2))) (qat_cons (qet_of (qe_bin o_add (qv 2) qe_str)) (qat_cons (qet_repl (qv 2)) (qat_cons (qet_repl (qv 2)) qat_nil)))))))))
    (qss_cons (qs_set (i := 3) nd rfl (by first | exact Or.inl rfl | exact Or.inr rfl) (qe_bin o_add (qv 3) (qe_set (qf_lst (qa_cons qe_str (qa_cons qe_str (qa_cons qe_str (qa_cons qe_str (qa_cons qe_str (qa_cons qe_str (qa_cons qe_str qa_nil)))))))))))
    (qss_cons (qs_lc rfl nd rfl rfl rfl (qi_range1 rfl b.f_range (qa_cons qe_int qa_nil)) (own := [("_law_k", 8)]) (blkOk_by (by kernel_rfl)) (by decide) (fun _ _ _ _ _ => (qg_name nd rfl (by first | exact Or.inl rfl | exact Or.inr rfl))) (fun _ _ _ _ _ => qts_nil) (fun _ _ _ _ _ => (qe_callTy c_str rfl b.f_str bt_str (qa_cons (qe_callG ((g_next _ _ _).at hr (by decide)) rfl (qa_cons (qv 0) (qa_cons qe_int qa_nil))) qa_nil))))
    (qss_cons (qs_set (i := 3) nd rfl (by first | exact Or.inl rfl | exact Or.inr rfl) (qe_bin o_add (qv 3) (qe_set (qf_lst (qa_cons (qe_join qe_str (qv 4)) (qa_cons (qe_join qe_str (qe_bin o_add (qe_slice (qv 4) qo_none (qo_some (qe_un o_neg qe_int))) (qe_set (qf_lst (qa_cons qe_str qa_nil))))) (qa_cons (qe_join qe_str (qe_bin o_add (qe_bin o_add (qe_slice (qv 4) qo_none (qo_some qe_int)) (qe_set (qf_lst (qa_cons qe_str qa_nil)))) (qe_slice (qv 4) (qo_some qe_int) qo_none))) qa_nil)))))))
    (qss_cons (qs_for PassesOwn.never rfl (qi_range1 rfl b.f_range (qa_cons qe_int qa_nil)) (qg_name nd rfl (by first | exact Or.inl rfl | exact Or.inr rfl)) (qss_cons (qs_set (i := 6) nd rfl (by first | exact Or.inl rfl | exact Or.inr rfl) (qe_callG ((g_bent_word_0551 _ _ _).at hr (by decide)) rfl (qa_cons (qv 0) (qa_cons (qv 2) qa_nil))))
    (qss_one (qs_set (i := 3) nd rfl (by first | exact Or.inl rfl | exact Or.inr rfl) (qe_bin o_add (qv 3) (qe_set (qf_lst (qa_cons (qv 6) (qa_cons (qe_callG ((g_bent_word_0551 _ _ _).at hr (by decide)) rfl (qa_cons (qv 0) (qa_cons (qv 6) qa_nil))) (qa_cons (qe_callG ((g_bent_word_0551 _ _ _).at hr (by decide)) rfl (qa_cons (qv 0) (qa_cons (qe_callG ((g_bent_word_0551 _ _ _).at hr (by decide)) rfl (qa_cons (qv 0) (qa_cons (qv 6) qa_nil))) qa_nil))) qa_nil))))))))))
    (qss_one (qs_ret (qe_bin o_add (qv 3) (qe_set (qf_lst (qa_cons qe_non (qa_cons qe_int (qa_cons (qe_callTy c_tuple rfl b.f_tuple bt_tuple (qa_cons (qv 1) qa_nil)) (qa_cons (qe_set (qf_callTy c_list rfl b.f_list bt_list (qa_cons (qv 1) qa_nil))) (qa_cons (qe_callG ((g_odd_a635 _ _ _).at hr (by decide)) rfl (qa_cons (qv 0) qa_nil)) (qa_cons (qe_dict1 pe_str pe_int) (qa_cons qe_bl qa_nil))))))))))))))))))), p_values_a2af r⟩ (fun _ _ _ h => h)
theorem sc_read_integer_60bf : FnScope ["_law_word", "_law_digits", "_law_sign"] ["_law_word"] (defScope st_read_integer_60bf) := ⟨rfl, rfl, rfl, by decide +kernel, rfl, by decide +kernel, by decide +kernel⟩
theorem ok_read_integer_60bf {f fd} (b : Bi K mg) (F : Fn K "_law_read_integer" "_law_read_integer" st_read_integer_60bf f fd) : FnOk P w K mg base CX0 1 f fd ["_law_word"] (spP K sp_read_integer_60bf) :=
  okP F sc_read_integer_60bf len_read_integer_60bf ⟨t_read_integer_60bf, fun cdv A outer s H E hr => by
    have nd := sc_read_integer_60bf.nd
    exact (qss_cons (qs_set (i := 1) nd rfl (by first | exact Or.inl rfl | exact Or.inr rfl) (qe_slice (qv 0) (qo_some (qe_callTy c_int rfl b.f_int bt_int (qa_cons (qe_cmp (o_eq hr) (qe_slice (qv 0) qo_none (qo_some qe_int)) qe_str (nomark _)) qa_nil))) qo_none))
    (qss_cons (qs_if (PW.pt (qw_or (qt_cmp (o_eq hr) (qv 1) qe_str (nomark _)) (qw_and1 (qt_cmp (o_neL hr) (qe_set (qf_lc rfl nd (qi_seq (qv 1)) (own := [("_law_sign", 2)]) (blkOk_by (by kernel_rfl)) (by decide) (fun _ _ _ _ _ => (qg_name nd rfl (by first | exact Or.inl rfl | exact Or.inr rfl))) (fun _ _ _ _ _ => (qts_one (qt_cmp o_notInS (qv 2) qe_str (by rfl)))) (fun _ _ _ _ _ => (qv 2)))) (qe_set (qf_lst qa_nil)) (nomark _))))) (qss_one (qs_ret qe_non)) qss_nil)
    (qss_one (qs_ret (qe_if (PW.pt (qw_and (qt_cmp (o_eq hr) (qe_ix (qv 1) qe_int) qe_str (nomark _)) (qw_and1 (qt_cmp (o_ne hr) (qv 0) qe_str (nomark _))))) qe_non (qe_callTy c_intT rfl b.f_int bt_int (qa_cons (qv 0) qa_nil))))))), p_read_integer_60bf⟩
theorem sc_read_fraction_659f : FnScope ["_law_word", "_law_parts", "_law_is_right", "_law_part"] ["_law_word"] (defScope st_read_fraction_659f) := ⟨rfl, rfl, rfl, by decide +kernel, rfl, by decide +kernel, by decide +kernel⟩
theorem ok_read_fraction_659f {f fd} (b : Bi K mg) (g_read_integer_60bf : Glo P w K mg base "_law_read_integer" 1 (spP K (sp_read_integer_60bf)) 1) (g_lowest_ba06 : Glo P w K mg base "_law_lowest" 2 (spP K (sp_lowest_ba06)) 1) (F : Fn K "_law_read_fraction" "_law_read_fraction" st_read_fraction_659f f fd) : FnOk P w K mg base CX0 2 f fd ["_law_word"] (spP K sp_read_fraction_659f) :=
  okP F sc_read_fraction_659f len_read_fraction_659f ⟨t_read_fraction_659f, fun cdv A outer s H E hr => by
    have nd := sc_read_fraction_659f.nd
    exact (qss_cons (qs_lc rfl nd rfl rfl rfl (qi_seq (qe_set (qf_split (qv 0) qe_str))) (own := [("_law_part", 3)]) (blkOk_by (by kernel_rfl)) (by decide) (fun _ _ _ _ _ => (qg_name nd rfl (by first | exact Or.inl rfl | exact Or.inr rfl))) (fun _ _ _ _ _ => qts_nil) (fun _ _ _ _ _ => (qe_call (g_read_integer_60bf.at hr (by decide)) rfl (qa_cons (qv 3) qa_nil))))
    (qss_cons (qs_if (PW.pt (qw_or (qt_cmp o_gt (qe_callB c_len rfl b.f_len bt_len (qa_cons (qv 1) qa_nil)) qe_int (nomark _)) (qw_and1 (qt_cmp (o_neL hr) (qe_set (qf_lc rfl nd (qi_seq (qv 1)) (own := [("_law_part", 3)]) (blkOk_by (by kernel_rfl)) (by decide) (fun _ _ _ _ _ => (qg_name nd rfl (by first | exact Or.inl rfl | exact Or.inr rfl))) (fun _ _ _ _ _ => (qts_one (qt_cmp o_isN (qv 3) qe_non (nomark _)))) (fun _ _ _ _ _ => (qv 3)))) (qe_set (qf_lst qa_nil)) (nomark _))))) (qss_one (qs_ret qe_non)) qss_nil)
    (qss_cons (qs_if (qt_cmp (o_eq hr) (qe_callB c_len rfl b.f_len bt_len (qa_cons (qv 1) qa_nil)) qe_int (nomark _)) (qss_one (qs_ret (qe_tup (qa_cons (qe_ix (qv 1) qe_int) (qa_cons qe_int qa_nil))))) qss_nil)
    (qss_cons (qs_set (i := 2) nd rfl (by first | exact Or.inl rfl | exact Or.inr rfl) (qe_and (qe_cmp o_gt (qe_ix (qv 1) qe_int) qe_int (nomark _)) (qe_one (qe_cmp (o_eq hr) (qe_call (g_lowest_ba06.at hr (by decide)) rfl (qa_cons (qe_ix (qv 1) qe_int) (qa_cons (qe_callB (c_max2 rfl) rfl b.f_max bt_max (qa_cons qe_int (qa_cons (qe_ix (qv 1) qe_int) qa_nil))) qa_nil))) (qe_tup (qa_cons (qe_ix (qv 1) qe_int) (qa_cons (qe_ix (qv 1) qe_int) qa_nil))) (nomark _)))))
    (qss_one (qs_ret (qe_if (qt_val (qv 2)) (qe_tup (qa_cons (qe_ix (qv 1) qe_int) (qa_cons (qe_ix (qv 1) qe_int) qa_nil))) qe_non))))))), p_read_fraction_659f⟩
theorem sc_due_f7bc : FnScope ["_law_value", "_law_found", "_law_wrong", "_law_word", "_law_index", "_law_fraction_here"] ["_law_value"] (defScope st_due_f7bc) := ⟨rfl, rfl, rfl, by decide +kernel, rfl, by decide +kernel, by decide +kernel⟩
theorem ok_due_f7bc {f fd} (b : Bi K mg) (g_read_fraction_659f : Glo P w K mg base "_law_read_fraction" 1 (spP K (sp_read_fraction_659f)) 2) (F : Fn K "_law_due" "_law_due" st_due_f7bc f fd) : FnOk P w K mg base CX0 3 f fd ["_law_value"] (spP K sp_due_f7bc) :=
  okP F sc_due_f7bc len_due_f7bc ⟨t_due_f7bc, fun cdv A outer s H E hr => by
    have nd := sc_due_f7bc.nd
    exact (qss_cons (qs_if (qt_not (qt_val (qe_isi (by decide) (qv 0) rfl b.f_isinstance rfl b.f_str bt_str))) (qss_one (qs_ret (qe_set (qf_lst (qa_cons qe_non qa_nil))))) qss_nil)
    (qss_cons (qs_lc rfl nd rfl rfl rfl (qi_seq (qe_set (qf_split (qv 0) qe_str))) (own := [("_law_word", 3)]) (blkOk_by (by kernel_rfl)) (by decide) (fun _ _ _ _ _ => (qg_name nd rfl (by first | exact Or.inl rfl | exact Or.inr rfl))) (fun _ _ _ _ _ => qts_nil) (fun _ _ _ _ _ => (qe_call (g_read_fraction_659f.at hr (by decide)) rfl (qa_cons (qv 3) qa_nil))))
    (qss_cons (qs_lc rfl nd rfl rfl rfl (qi_enum rfl b.f_enumerate (qa_cons (qv 1) qa_nil)) (own := [("_law_index", 4), ("_law_fraction_here", 5)]) (blkOk_by (by kernel_rfl)) (by decide) (fun _ _ _ _ _ => (qg_tup rfl (qgs_cons (qg_name nd rfl (by first | exact Or.inl rfl | exact Or.inr rfl)) (qgs_cons (qg_name nd rfl (by first | exact Or.inl rfl | exact Or.inr rfl)) qgs_nil)))) (fun _ _ _ _ _ => (qts_one (qt_cmp o_isN (qv 5) qe_non (nomark _)))) (fun _ _ _ _ _ => (qv 4)))
    (qss_one (qs_ret (qe_if (qt_cmp (o_neL hr) (qv 2) (qe_set (qf_lst qa_nil)) (nomark _)) (qe_slice (qv 2) qo_none (qo_some qe_int)) (qe_callTy c_tuple rfl b.f_tuple bt_tuple (qa_cons (qv 1) qa_nil)))))))), p_due_f7bc⟩
theorem sc_equal_17a7 : FnScope ["_law_one_here", "_law_other", "_law_a", "_law_b"] ["_law_one_here", "_law_other"] (defScope st_equal_17a7) := ⟨rfl, rfl, rfl, by decide +kernel, rfl, by decide +kernel, by decide +kernel⟩
theorem ok_equal_17a7 {f fd} {k : Nat} {s s1 : Spec0} (hk : 1 ≤ k) (ln : ∀ ds R, s1 ds R → ds.length = 2) (pp : ∀ ds R, s1 ds R → t_equal_17a7 s { nx := fun _ => R .non, rt := fun d _ => R d } ⟨startL 4 ds, ()⟩) (g_self : Glo P w K mg base "_law_equal" 2 (spP K s) k) (b : Bi K mg) (F : Fn K "_law_equal" "_law_equal" st_equal_17a7 f fd) : FnOk P w K mg base CX0 (k + 1) f fd ["_law_one_here", "_law_other"] (spP K s1) :=
  okP F sc_equal_17a7 ln ⟨t_equal_17a7 s, fun cdv A outer s H E hr => by
    have nd := sc_equal_17a7.nd
    exact (qss_cons (qs_if (PW.pt (qw_and (qt_val (qe_isi (by decide) (qv 0) rfl b.f_isinstance rfl b.f_tuple bt_tuple)) (qw_and1 (qt_val (qe_isi (by decide) (qv 1) rfl b.f_isinstance rfl b.f_tuple bt_tuple))))) (qss_one (qs_ret (qe_and (qe_cmp (o_eq hr) (qe_callB c_len rfl b.f_len bt_len (qa_cons (qv 0) qa_nil)) (qe_callB c_len rfl b.f_len bt_len (qa_cons (qv 1) qa_nil)) (nomark _)) (qe_one (qe_callB (c_all rfl) rfl b.f_all bt_all (qa_cons (qe_set (qf_lc rfl nd (qi_zip rfl b.f_zip (qa_cons (qv 0) (qa_cons (qv 1) qa_nil))) (own := [("_law_a", 2), ("_law_b", 3)]) (blkOk_by (by kernel_rfl)) (by decide) (fun _ _ _ _ _ => (qg_tup rfl (qgs_cons (qg_name nd rfl (by first | exact Or.inl rfl | exact Or.inr rfl)) (qgs_cons (qg_name nd rfl (by first | exact Or.inl rfl | exact Or.inr rfl)) qgs_nil)))) (fun _ _ _ _ _ => qts_nil) (fun _ _ _ _ _ => (qe_call (g_self.at hr (Nat.le_refl _)) rfl (qa_cons (qv 2) (qa_cons (qv 3) qa_nil)))))) qa_nil)))))) qss_nil)
    (qss_cons (qs_if (PW.pt (qw_or (qt_val (qe_isi (by decide) (qv 0) rfl b.f_isinstance rfl b.f_bool bt_bool)) (qw_and1 (qt_val (qe_isi (by decide) (qv 1) rfl b.f_isinstance rfl b.f_bool bt_bool))))) (qss_one (qs_ret (qe_and (qe_isi (by decide) (qv 0) rfl b.f_isinstance rfl b.f_bool bt_bool) (qe_and (qe_isi (by decide) (qv 1) rfl b.f_isinstance rfl b.f_bool bt_bool) (qe_one (qe_cmp (o_eq hr) (qv 0) (qv 1) (nomark _))))))) qss_nil)
    (qss_cons (qs_if (qt_cmp (o_ne hr) (qe_isi (by decide) (qv 0) rfl b.f_isinstance rfl b.f_tuple bt_tuple) (qe_isi (by decide) (qv 1) rfl b.f_isinstance rfl b.f_tuple bt_tuple) (nomark _)) (qss_one (qs_ret qe_bl)) qss_nil)
    (qss_cons (qs_if (qt_cmp (o_ne hr) (qe_isi (by decide) (qv 0) rfl b.f_isinstance rfl b.f_int bt_int) (qe_isi (by decide) (qv 1) rfl b.f_isinstance rfl b.f_int bt_int) (nomark _)) (qss_one (qs_ret qe_bl)) qss_nil)
    (qss_one (qs_ret (qe_and (qe_cmp (o_eq hr) (qe_isi (by decide) (qv 0) rfl b.f_isinstance rfl b.f_str bt_str) (qe_isi (by decide) (qv 1) rfl b.f_isinstance rfl b.f_str bt_str) (nomark _)) (qe_one (qe_cmp (o_eq hr) (qv 0) (qv 1) (nomark _)))))))))), pp⟩
theorem sc_same_outcome_0e16 : FnScope ["_law_found", "_law_due_here"] ["_law_found", "_law_due_here"] (defScope st_same_outcome_0e16) := ⟨rfl, rfl, rfl, by decide +kernel, rfl, by decide +kernel, by decide +kernel⟩
theorem ok_same_outcome_0e16 {f fd} (b : Bi K mg) (g_equal_17a7 : Glo P w K mg base "_law_equal" 2 (spP K (sp_equal_17a7 24)) 25) (F : Fn K "_law_same_outcome" "_law_same_outcome" st_same_outcome_0e16 f fd) : FnOk P w K mg base CX0 26 f fd ["_law_found", "_law_due_here"] (spP K sp_same_outcome_0e16) :=
  okP F sc_same_outcome_0e16 len_same_outcome_0e16 ⟨t_same_outcome_0e16, fun cdv A outer s H E hr => by
    have nd := sc_same_outcome_0e16.nd
    exact (qss_cons (qs_if (PW.pt (qw_or (qt_val (qe_isi (by decide) (qv 1) rfl b.f_isinstance rfl b.f_list bt_list)) (qw_and1 (qt_val (qe_isi (by decide) (qv 0) rfl b.f_isinstance rfl b.f_list bt_list))))) (qss_one (qs_ret (qe_and (qe_isi (by decide) (qv 1) rfl b.f_isinstance rfl b.f_list bt_list) (qe_and (qe_isi (by decide) (qv 0) rfl b.f_isinstance rfl b.f_list bt_list) (qe_one (qe_call (g_equal_17a7.at hr (by decide)) rfl (qa_cons (qe_callTy c_tuple rfl b.f_tuple bt_tuple (qa_cons (qv 0) qa_nil)) (qa_cons (qe_callTy c_tuple rfl b.f_tuple bt_tuple (qa_cons (qv 1) qa_nil)) qa_nil)))))))) qss_nil)
    (qss_one (qs_ret (qe_call (g_equal_17a7.at hr (by decide)) rfl (qa_cons (qv 0) (qa_cons (qv 1) qa_nil)))))), p_same_outcome_0e16⟩
theorem sc_parsed_469d : FnScope ["_law_call", "_law_found", "error", "_law_others"] ["_law_call"] (defScope st_parsed_469d) := ⟨rfl, rfl, rfl, by decide +kernel, rfl, by decide +kernel, by decide +kernel⟩
theorem ok_parsed_469d (b : Bi K mg) (cdg : Value) (g : Addr) : GivesL P w K mg base "_law_parsed" "_law_call" ["_law_call", "_law_found", "error", "_law_others"] (defScope st_parsed_469d) g cdg (defBody st_parsed_469d) sp_parsed_469d := fun A outer s H fl Zc O R hr mo h act => ⟨t_parsed_469d O fl, by
    have nd := sc_parsed_469d.nd
    exact (qss_cons (qs_set (i := 1) nd rfl (by first | exact Or.inl rfl | exact Or.inr rfl) qe_non)
    (qss_cons (qs_tryAsL (f := lookT [("ParseError", "MarksError", true)]) rfl rfl nd rfl rfl rfl (lookT_ok b.exc.sub (by decide)) ⟨"ParseError", rfl⟩ (fun W pn xe tk po => (qssx_one (qsx_set (i := 1) nd rfl (by first | exact Or.inl rfl | exact Or.inr rfl) (act W pn xe _ _ tk)))) (fun a oe cls d pn Z0 x hx => (qss_cons (qs_set (i := 1) nd rfl (by first | exact Or.inl rfl | exact Or.inr rfl) qe_str)
    (qss_cons (qs_set (i := 3) nd rfl (by first | exact Or.inl rfl | exact Or.inr rfl) (qe_isET hx (sub_all b.exc.xq (by decide)) (lookT_ok b.exc.sub (by decide)) (pv 2) rfl b.f_isinstance (clsA_cons rfl (lookT_ok b.exc.sub (l := [("ParseError", "InvalidPanel", false), ("ParseError", "InvalidMark", false), ("ParseError", "InvalidWeight", false), ("ParseError", "ZeroDenominator", false)]) (by decide)) ⟨"ParseError", false, rfl⟩ (clsA_cons rfl (lookT_ok b.exc.sub (l := [("ParseError", "InvalidPanel", false), ("ParseError", "InvalidMark", false), ("ParseError", "InvalidWeight", false), ("ParseError", "ZeroDenominator", false)]) (by decide)) ⟨"ParseError", false, rfl⟩ (clsA_cons rfl (lookT_ok b.exc.sub (l := [("ParseError", "InvalidPanel", false), ("ParseError", "InvalidMark", false), ("ParseError", "InvalidWeight", false), ("ParseError", "ZeroDenominator", false)]) (by decide)) ⟨"ParseError", false, rfl⟩ (clsA_cons rfl (lookT_ok b.exc.sub (l := [("ParseError", "InvalidPanel", false), ("ParseError", "InvalidMark", false), ("ParseError", "InvalidWeight", false), ("ParseError", "ZeroDenominator", false)]) (by decide)) ⟨"ParseError", false, rfl⟩ (clsA_nil))))) (by decide)))
    (qss_one (qs_if (PW.pt (qw_and (qt_val (qe_isE1 hx (sub_all b.exc.xq (by decide)) (lookT_ok b.exc.sub (by decide)) (pv 2) rfl b.f_isinstance ⟨"ParseError", true, rfl⟩ rfl)) (qw_and (qt_val (qe_isE1 hx (sub_all b.exc.xq (by decide)) (lookT_ok b.exc.sub (by decide)) (pv 2) rfl b.f_isinstance ⟨"ParseError", true, rfl⟩ rfl)) (qw_and1 (qt_not (qt_val (qv 3))))))) (qss_one (qs_set (i := 1) nd rfl (by first | exact Or.inl rfl | exact Or.inr rfl) (qe_set (qf_lst (qa_cons (qe_xf hx (sub_all b.exc.xf (by decide)) (pv 2)) qa_nil))))) qss_nil))))))
    (qss_one (qs_ret (qv 1))))), p_parsed_469d O fl R mo h⟩
theorem sc_read_integer_d611 : FnScope ["word", "digits", "digit"] ["word"] (defScope st_read_integer_d611) := ⟨rfl, rfl, rfl, by decide +kernel, rfl, by decide +kernel, by decide +kernel⟩
theorem ok_read_integer_d611 {f fd} (b : Bi K mg) (F : Fn K "read_integer" "read_integer" st_read_integer_d611 f fd) : FnOk P w K mg base CX0 1 f fd ["word"] (spP K sp_read_integer_d611) :=
  okP F sc_read_integer_d611 len_read_integer_d611 ⟨t_read_integer_d611, fun cdv A outer s H E hr => by
    have nd := sc_read_integer_d611.nd
    exact (qss_cons (qs_set (i := 1) nd rfl (by first | exact Or.inl rfl | exact Or.inr rfl) (qe_if (qt_val (qe_startswith (qv 0) qe_str)) (qe_slice (qv 0) (qo_some qe_int) qo_none) (qv 0)))
    (qss_cons (qs_if (PW.pt (qw_or (qt_cmp (o_eq hr) (qv 1) qe_str (nomark _)) (qw_and1 (qt_val (qe_callB (c_any rfl) rfl b.f_any bt_any (qa_cons (qe_set (qf_lc rfl nd (qi_seq (qv 1)) (own := [("digit", 2)]) (blkOk_by (by kernel_rfl)) (by decide) (fun _ _ _ _ _ => (qg_name nd rfl (by first | exact Or.inl rfl | exact Or.inr rfl))) (fun _ _ _ _ _ => qts_nil) (fun _ _ _ _ _ => (qe_cmp o_notInS (qv 2) (qe_gl rfl b.g_DIGITS) (by rfl))))) qa_nil)))))) (qss_one (qs_ret qe_non)) qss_nil)
    (qss_cons (qs_if (PW.pt (qw_and (qt_cmp (o_eq hr) (qe_ix (qv 1) qe_int) qe_str (nomark _)) (qw_and1 (qt_cmp (o_ne hr) (qv 0) qe_str (nomark _))))) (qss_one (qs_ret qe_non)) qss_nil)
    (qss_one (qs_ret (qe_callTy c_intT rfl b.f_int bt_int (qa_cons (qv 0) qa_nil))))))), p_read_integer_d611⟩
theorem sc_is_integer_8a5f : FnScope ["value"] ["value"] (defScope st_is_integer_8a5f) := ⟨rfl, rfl, rfl, by decide +kernel, rfl, by decide +kernel, by decide +kernel⟩
theorem ok_is_integer_8a5f {f fd} (b : Bi K mg) (F : Fn K "is_integer" "is_integer" st_is_integer_8a5f f fd) : FnOk P w K mg base CX0 1 f fd ["value"] (spP K sp_is_integer_8a5f) :=
  okP F sc_is_integer_8a5f len_is_integer_8a5f ⟨t_is_integer_8a5f, fun cdv A outer s H E hr => by
    have nd := sc_is_integer_8a5f.nd
    exact (qss_one (qs_ret (qe_and (qe_isi (by decide) (qv 0) rfl b.f_isinstance rfl b.f_int bt_int) (qe_one (qe_not (qe_isi (by decide) (qv 0) rfl b.f_isinstance rfl b.f_bool bt_bool)))))), p_is_integer_8a5f⟩
theorem sc_common_divisor_2932 : FnScope ["one", "other"] ["one", "other"] (defScope st_common_divisor_2932) := ⟨rfl, rfl, rfl, by decide +kernel, rfl, by decide +kernel, by decide +kernel⟩
theorem ok_common_divisor_2932 {f fd} (b : Bi K mg) (F : Fn K "common_divisor" "common_divisor" st_common_divisor_2932 f fd) : FnOk P w K mg base CX0 1 f fd ["one", "other"] (spP K sp_common_divisor_2932) :=
  okP F sc_common_divisor_2932 len_common_divisor_2932 ⟨t_common_divisor_2932, fun cdv A outer s H E hr => by
    have nd := sc_common_divisor_2932.nd
    exact (qss_cons (qs_while PassesOwn.never (qt_cmp o_gt (qv 1) qe_int (nomark _)) (qss_one (qs_par rfl nd rfl rfl (by decide) rfl rfl (qa_cons (qv 1) (qa_cons (qe_bin o_mod (qv 0) (qv 1)) qa_nil)) rfl)))
    (qss_one (qs_ret (qv 0)))), p_common_divisor_2932⟩
theorem sc_is_fraction_c9ac : FnScope ["value"] ["value"] (defScope st_is_fraction_c9ac) := ⟨rfl, rfl, rfl, by decide +kernel, rfl, by decide +kernel, by decide +kernel⟩
theorem ok_is_fraction_c9ac {f fd} (b : Bi K mg) (g_is_integer_8a5f : Glo P w K mg base "is_integer" 1 (spP K (sp_is_integer_8a5f)) 1) (g_common_divisor_2932 : Glo P w K mg base "common_divisor" 2 (spP K (sp_common_divisor_2932)) 1) (F : Fn K "is_fraction" "is_fraction" st_is_fraction_c9ac f fd) : FnOk P w K mg base CX0 2 f fd ["value"] (spP K sp_is_fraction_c9ac) :=
  okP F sc_is_fraction_c9ac len_is_fraction_c9ac ⟨t_is_fraction_c9ac, fun cdv A outer s H E hr => by
    have nd := sc_is_fraction_c9ac.nd
    exact (qss_cons (qs_if (PW.pt (qw_or (qt_not (qt_val (qe_isi (by decide) (qv 0) rfl b.f_isinstance rfl b.f_tuple bt_tuple))) (qw_or (qt_cmp (o_ne hr) (qe_callB c_len rfl b.f_len bt_len (qa_cons (qv 0) qa_nil)) qe_int (nomark _)) (qw_or (qt_not (qt_val (qe_call (g_is_integer_8a5f.at hr (by decide)) rfl (qa_cons (qe_ix (qv 0) qe_int) qa_nil)))) (qw_and1 (qt_not (qt_val (qe_call (g_is_integer_8a5f.at hr (by decide)) rfl (qa_cons (qe_ix (qv 0) qe_int) qa_nil))))))))) (qss_one (qs_ret qe_bl)) qss_nil)
    (qss_one (qs_ret (qe_and (qe_cmp o_ge (qe_ix (qv 0) qe_int) qe_int (nomark _)) (qe_one (qe_cmp (o_eq hr) (qe_call (g_common_divisor_2932.at hr (by decide)) rfl (qa_cons (qe_callB c_abs rfl b.f_abs bt_abs (qa_cons (qe_ix (qv 0) qe_int) qa_nil)) (qa_cons (qe_ix (qv 0) qe_int) qa_nil))) qe_int (nomark _))))))), p_is_fraction_c9ac⟩
theorem sc_read_fraction_3da6 : FnScope ["word", "parts", "fraction", "part"] ["word"] (defScope st_read_fraction_3da6) := ⟨rfl, rfl, rfl, by decide +kernel, rfl, by decide +kernel, by decide +kernel⟩
theorem ok_read_fraction_3da6 {f fd} (b : Bi K mg) (g_read_integer_d611 : Glo P w K mg base "read_integer" 1 (spP K (sp_read_integer_d611)) 1) (g_is_fraction_c9ac : Glo P w K mg base "is_fraction" 1 (spP K (sp_is_fraction_c9ac)) 2) (F : Fn K "read_fraction" "read_fraction" st_read_fraction_3da6 f fd) : FnOk P w K mg base CX0 3 f fd ["word"] (spP K sp_read_fraction_3da6) :=
  okP F sc_read_fraction_3da6 len_read_fraction_3da6 ⟨t_read_fraction_3da6, fun cdv A outer s H E hr => by
    have nd := sc_read_fraction_3da6.nd
    exact (qss_cons (qs_lc rfl nd rfl rfl rfl (qi_seq (qe_set (qf_split (qv 0) qe_str))) (own := [("part", 3)]) (blkOk_by (by kernel_rfl)) (by decide) (fun _ _ _ _ _ => (qg_name nd rfl (by first | exact Or.inl rfl | exact Or.inr rfl))) (fun _ _ _ _ _ => qts_nil) (fun _ _ _ _ _ => (qe_call (g_read_integer_d611.at hr (by decide)) rfl (qa_cons (qv 3) qa_nil))))
    (qss_cons (qs_if (PW.pt (qw_or (qt_cmp (o_in hr) qe_non (qv 1) (by rfl)) (qw_and1 (qt_cmp o_gt (qe_callB c_len rfl b.f_len bt_len (qa_cons (qv 1) qa_nil)) qe_int (nomark _))))) (qss_one (qs_ret qe_non)) qss_nil)
    (qss_cons (qs_if (qt_cmp (o_eq hr) (qe_callB c_len rfl b.f_len bt_len (qa_cons (qv 1) qa_nil)) qe_int (nomark _)) (qss_one (qs_ret (qe_tup (qa_cons (qe_ix (qv 1) qe_int) (qa_cons qe_int qa_nil))))) qss_nil)
    (qss_cons (qs_set (i := 2) nd rfl (by first | exact Or.inl rfl | exact Or.inr rfl) (qe_tup (qa_cons (qe_ix (qv 1) qe_int) (qa_cons (qe_ix (qv 1) qe_int) qa_nil))))
    (qss_one (qs_ret (qe_if (PW.pt (qw_and (qt_cmp (o_ne hr) (qe_ix (qv 1) qe_int) qe_int (nomark _)) (qw_and1 (qt_val (qe_call (g_is_fraction_c9ac.at hr (by decide)) rfl (qa_cons (qv 2) qa_nil)))))) (qv 2) qe_non))))))), p_read_fraction_3da6⟩
theorem sc_parse_rating_ac02x : FnScope ["value", "found", "index", "word", "fraction"] ["value"] (defScope st_parse_rating_ac02x) := ⟨rfl, rfl, rfl, by decide +kernel, rfl, by decide +kernel, by decide +kernel⟩
theorem ok_parse_rating_ac02x {f fd} (b : Bi K mg) (g_read_fraction_3da6 : Glo P w K mg base "read_fraction" 1 (spP K (sp_read_fraction_3da6)) 3) (i_ParseError : GloI P w K mg base "ParseError" "place") (F : Fn K "parse_rating" "parse_rating" st_parse_rating_ac02x f fd) : FnOk P w K mg base (L2.CX P w) 4 f fd ["value"] (spPX K mg sp_parse_rating_ac02x) :=
  okPX F sc_parse_rating_ac02x len_parse_rating_ac02x ⟨t_parse_rating_ac02x, fun cdv A outer s H E hr => by
    have nd := sc_parse_rating_ac02x.nd
    exact (qssx_cons (qsx_if (qt_not (qt_val (qe_isi (by decide) (qv 0) rfl b.f_isinstance rfl b.f_str bt_str))) (qssx_one (qsx_raiseF rfl (takes_of rfl rfl rfl rfl) (i_ParseError.at hr (by decide)) rfl qe_non)) (qssx_of qss_nil))
    (qssx_cons (qsx_of (qs_setOwn (i := 1) nd rfl (by first | exact Or.inl rfl | exact Or.inr rfl) (qf_lst qa_nil)))
    (qssx_cons (qsx_for (passes_of rfl) rfl (qi_enum rfl b.f_enumerate (qa_cons (qe_set (qf_split (qv 0) qe_str)) qa_nil)) (qg_tup rfl (qgs_cons (qg_name nd rfl (by first | exact Or.inl rfl | exact Or.inr rfl)) (qgs_cons (qg_name nd rfl (by first | exact Or.inl rfl | exact Or.inr rfl)) qgs_nil))) (qssx_cons (qsx_of (qs_set (i := 4) nd rfl (by first | exact Or.inl rfl | exact Or.inr rfl) (qe_call (g_read_fraction_3da6.at hr (by decide)) rfl (qa_cons (qv 3) qa_nil))))
    (qssx_cons (qsx_if (qt_cmp o_isN (qv 4) qe_non (nomark _)) (qssx_one (qsx_raiseF rfl (takes_of rfl rfl rfl rfl) (i_ParseError.at hr (by decide)) rfl (qv 2))) (qssx_of qss_nil))
    (qssx_of (qss_one (qs_expr (qe_append (pv 1) (qv 4))))))))
    (qssx_of (qss_one (qs_ret (qe_callTy c_tuple rfl b.f_tuple bt_tuple (qa_cons (qv 1) qa_nil)))))))), p_parse_rating_ac02x⟩
theorem sc_law_0e9c : FnScope ["_law_script", "_law_drawn", "_law_turn", "_law_value", "_law_kept", "_law_due_here"] ["_law_script"] (defScope st_law_0e9c) := ⟨rfl, rfl, rfl, by decide +kernel, rfl, by decide +kernel, by decide +kernel⟩
theorem ok_law_0e9c {fd} (tb : Tabs K mg base tfl) (b : Bi K mg) (g_draws : Glo P w K mg base "_law_draws" 1 (spDraws K) 1) (g_values_a2af : ∀ r c q, Glo P w K mg base "_law_values" 1 (spG (gr K r c q) (sp_values_a2af r)) 4) (g_due_f7bc : Glo P w K mg base "_law_due" 1 (spP K (sp_due_f7bc)) 3) (g_same_outcome_0e16 : Glo P w K mg base "_law_same_outcome" 2 (spP K (sp_same_outcome_0e16)) 26) (g_parsed_469d : GloL P w K mg base "_law_parsed" sp_parsed_469d) (g_parse_rating_ac02x : GloX P w K mg base "parse_rating" 1 (spPX K mg (sp_parse_rating_ac02x)) 4) (F : Fn K "law" "law" st_law_0e9c (He.fAd K ("law", none)) fd) : FnG P w K mg base 27 (He.fAd K ("law", none)) fd ["_law_script"] (spLawT K (tabsT K tfl)) :=
  ok_lawGT F sc_law_0e9c (i := 1) (by decide) (by rfl) ⟨t_law_0e9c, fun A outer s H E hr gd => by
    have nd := sc_law_0e9c.nd
    exact ⟨ps_set nd rfl (by first | exact Or.inl rfl | exact Or.inr rfl) (pe_callD (g_draws.at hr (by decide)) rfl (pa_cons (pv 0) pa_nil)), fun r c q => (qss_cons (qs_for PassesOwn.never rfl (qi_range1 rfl b.f_range (qa_cons qe_int qa_nil)) (qg_name nd rfl (by first | exact Or.inl rfl | exact Or.inr rfl)) (qss_one (qs_for PassesOwn.never rfl (qi_seq (qe_callGT ((g_values_a2af _ _ _).at hr (by decide)) rfl (qa_cons (qv 1) qa_nil))) (qg_name nd rfl (by first | exact Or.inl rfl | exact Or.inr rfl)) (qss_cons (qs_par rfl nd rfl rfl (by decide) rfl rfl (qa_cons (qe_callB (c_reprK b.sys hr gd) rfl b.f_repr bt_repr (qa_cons (qv 3) qa_nil)) (qa_cons (qe_call (g_due_f7bc.at hr (by decide)) rfl (qa_cons (qv 3) qa_nil)) qa_nil)) rfl)
    (qss_one (qs_if (PW.pt (qw_or (qt_not (qt_val (qe_call (g_same_outcome_0e16.at hr (by decide)) rfl (qa_cons (qe_lam g_parsed_469d rfl (tb.at_ _ (List.Mem.head _)) rfl (tabsT_mem (List.Mem.head _)) (tabsT_one (List.Mem.head _) tb.apart) hr (LamX.lamS_by (sc := defScope st_law_0e9c) (by decide +kernel)) rfl (fun _ _ _ _ _ => rfl) (fun A outer s H E f c2 hr => (qex_call (g_parse_rating_ac02x.at hr (by decide)) (takes_of rfl rfl rfl rfl) rfl (qa_cons (qv 3) qa_nil)))) (qa_cons (qv 5) qa_nil))))) (qw_and1 (qt_cmp (o_ne hr) (qe_callB (c_reprK b.sys hr gd) rfl b.f_repr bt_repr (qa_cons (qv 3) qa_nil)) (qv 4) (nomark _))))) (qss_one (qs_ret qe_bl)) qss_nil))))))
    (qss_one (qs_ret qe_bl)))⟩, p_law_0e9c⟩
end
theorem ob_eq (s : PySem.W.SharedT) : ob s = hk.obs s.abs := obsLG_eq (HandSHeadRun.getT_eq s)
theorem facts {P : Program} {w : World} {K : PySem.W.Frag} {h : Heap} {mg : Str → Option Value} {f : Addr} (X : K.In h) (G : h.Ns mainGlobals mg) (hfa : mg ("law" : Str) = some (.ref f)) (c0 : SaysL fal fnl exl tfl h K) :
    ∃ fd : FuncData, (∀ (s : Shared) (v : Value), BindsTo s fd ⟨[v], []⟩ [("_law_script", v)]) ∧ ∀ base : Heap, K.In base → base.Ns mainGlobals mg → Tabs K mg base tfl → FnG P w K mg base 27 f fd ["_law_script"] (spLawT K (tabsT K tfl)) := by
  have c := c0.d
  have e_0 := c0.own
  have e_1 := (He.ba e_0).2
  have e_2 := (He.ba e_1).2
  have b : Bi K mg := ⟨He.free_ok X G (c.fact 23 (f := .free "abs") rfl), He.free_ok X G (c.fact 24 (f := .free "all") rfl), He.free_ok X G (c.fact 25 (f := .free "any") rfl), He.free_ok X G (c.fact 26 (f := .free "bool") rfl), He.free_ok X G (c.fact 27 (f := .free "enumerate") rfl), He.free_ok X G (c.fact 28 (f := .free "int") rfl), He.free_ok X G (c.fact 29 (f := .free "isinstance") rfl), He.free_ok X G (c.fact 30 (f := .free "len") rfl), He.free_ok X G (c.fact 31 (f := .free "list") rfl), He.free_ok X G (c.fact 32 (f := .free "max") rfl), He.free_ok X G (c.fact 33 (f := .free "range") rfl), He.free_ok X G (c.fact 34 (f := .free "repr") rfl), He.free_ok X G (c.fact 35 (f := .free "str") rfl), He.free_ok X G (c.fact 36 (f := .free "tuple") rfl), He.free_ok X G (c.fact 37 (f := .free "zip") rfl), gl_str X G (c.fact 38 (f := .str "DIGITS" "0123456789") rfl), (He.ba e_0).1, excs_ok X G (He.ba e_1).1⟩
  obtain ⟨fd_draws, F_draws⟩ := c.def_ 0 (d := d_draws) rfl
  have m_draws := He.glo_ok X G (c.fact 0 (f := .glo "_law_draws") rfl)
  obtain ⟨fd_next, F_next⟩ := c.def_ 1 (d := d_next) rfl
  have m_next := He.glo_ok X G (c.fact 1 (f := .glo "_law_next") rfl)
  obtain ⟨fd_lowest_ba06, F_lowest_ba06⟩ := c.def_ 2 (d := d_lowest_ba06) rfl
  have m_lowest_ba06 := He.glo_ok X G (c.fact 2 (f := .glo "_law_lowest") rfl)
  obtain ⟨fd_fraction_6a64, F_fraction_6a64⟩ := c.def_ 3 (d := d_fraction_6a64) rfl
  have m_fraction_6a64 := He.glo_ok X G (c.fact 3 (f := .glo "_law_fraction") rfl)
  obtain ⟨fd_written_5c80, F_written_5c80⟩ := c.def_ 4 (d := d_written_5c80) rfl
  have m_written_5c80 := He.glo_ok X G (c.fact 4 (f := .glo "_law_written") rfl)
  obtain ⟨fd_one_be76, F_one_be76⟩ := c.def_ 5 (d := d_one_be76) rfl
  have m_one_be76 := He.glo_ok X G (c.fact 5 (f := .glo "_law_one") rfl)
  obtain ⟨fd_bent_word_0551, F_bent_word_0551⟩ := c.def_ 6 (d := d_bent_word_0551) rfl
  have m_bent_word_0551 := He.glo_ok X G (c.fact 6 (f := .glo "_law_bent_word") rfl)
  obtain ⟨fd_fraction_text_1128, F_fraction_text_1128⟩ := c.def_ 7 (d := d_fraction_text_1128) rfl
  have m_fraction_text_1128 := He.glo_ok X G (c.fact 7 (f := .glo "_law_fraction_text") rfl)
  obtain ⟨fd_odd_a635, F_odd_a635⟩ := c.def_ 8 (d := d_odd_a635) rfl
  have m_odd_a635 := He.glo_ok X G (c.fact 8 (f := .glo "_law_odd") rfl)
  obtain ⟨fd_values_a2af, F_values_a2af⟩ := c.def_ 9 (d := d_values_a2af) rfl
  have m_values_a2af := He.glo_ok X G (c.fact 9 (f := .glo "_law_values") rfl)
  obtain ⟨fd_read_integer_60bf, F_read_integer_60bf⟩ := c.def_ 10 (d := d_read_integer_60bf) rfl
  have m_read_integer_60bf := He.glo_ok X G (c.fact 10 (f := .glo "_law_read_integer") rfl)
  obtain ⟨fd_read_fraction_659f, F_read_fraction_659f⟩ := c.def_ 11 (d := d_read_fraction_659f) rfl
  have m_read_fraction_659f := He.glo_ok X G (c.fact 11 (f := .glo "_law_read_fraction") rfl)
  obtain ⟨fd_due_f7bc, F_due_f7bc⟩ := c.def_ 12 (d := d_due_f7bc) rfl
  have m_due_f7bc := He.glo_ok X G (c.fact 12 (f := .glo "_law_due") rfl)
  obtain ⟨fd_equal_17a7, F_equal_17a7⟩ := c.def_ 13 (d := d_equal_17a7) rfl
  have m_equal_17a7 := He.glo_ok X G (c.fact 13 (f := .glo "_law_equal") rfl)
  obtain ⟨fd_same_outcome_0e16, F_same_outcome_0e16⟩ := c.def_ 14 (d := d_same_outcome_0e16) rfl
  have m_same_outcome_0e16 := He.glo_ok X G (c.fact 14 (f := .glo "_law_same_outcome") rfl)
  obtain ⟨fd_parsed_469d, F_parsed_469d⟩ := c.def_ 15 (d := d_parsed_469d) rfl
  have m_parsed_469d := He.glo_ok X G (c.fact 15 (f := .glo "_law_parsed") rfl)
  obtain ⟨fd_read_integer_d611, F_read_integer_d611⟩ := c.def_ 16 (d := d_read_integer_d611) rfl
  have m_read_integer_d611 := He.glo_ok X G (c.fact 16 (f := .glo "read_integer") rfl)
  obtain ⟨fd_is_integer_8a5f, F_is_integer_8a5f⟩ := c.def_ 17 (d := d_is_integer_8a5f) rfl
  have m_is_integer_8a5f := He.glo_ok X G (c.fact 17 (f := .glo "is_integer") rfl)
  obtain ⟨fd_common_divisor_2932, F_common_divisor_2932⟩ := c.def_ 18 (d := d_common_divisor_2932) rfl
  have m_common_divisor_2932 := He.glo_ok X G (c.fact 18 (f := .glo "common_divisor") rfl)
  obtain ⟨fd_is_fraction_c9ac, F_is_fraction_c9ac⟩ := c.def_ 19 (d := d_is_fraction_c9ac) rfl
  have m_is_fraction_c9ac := He.glo_ok X G (c.fact 19 (f := .glo "is_fraction") rfl)
  obtain ⟨fd_read_fraction_3da6, F_read_fraction_3da6⟩ := c.def_ 20 (d := d_read_fraction_3da6) rfl
  have m_read_fraction_3da6 := He.glo_ok X G (c.fact 20 (f := .glo "read_fraction") rfl)
  obtain ⟨fd_parse_rating_ac02x, F_parse_rating_ac02x⟩ := c.def_ 21 (d := d_parse_rating_ac02x) rfl
  have m_parse_rating_ac02x := He.glo_ok X G (c.fact 21 (f := .glo "parse_rating") rfl)
  obtain ⟨fd_law_0e9c, F_law_0e9c⟩ := c.def_ 22 (d := d_law_0e9c) rfl
  have e := hfa.symm.trans (He.glo_ok X G (c.fact 22 (f := .glo "law") rfl))
  cases e
  have bl := FunD.bindsA (ps := ["_law_script"]) F_law_0e9c fun _ _ _ _ _ _ us hl => match us, hl with | [_], _ => rfl
  refine ⟨fd_law_0e9c, fun s v => bl s [v] rfl, fun base _ _ tb => ?_⟩
  obtain ⟨fd_ParseError, F_ParseError⟩ := c.def_ 23 (d := d_ParseError) rfl
  have i_ParseError : GloI P w K mg base "ParseError" "place" := gloI_ok X G (fd := fd_ParseError) (ps := ["self", "place"]) (He.ba e_2).1 (fun T no => okInit F_ParseError sc_ParseError rfl (by decide) T no fun _ _ _ _ _ _ => pss_one (ps_ost (pv 0) (pv 1))) (FunD.bindsN F_ParseError fun _ _ _ _ _ _ us hl => match us, hl with | [_, _], _ => rfl)
  have g_draws : Glo P w K mg base "_law_draws" 1 (spDraws K) 1 := ⟨_, fd_draws, ["_law_script"], ok_draws0 b  F_draws, m_draws, FunD.kp F_draws, FunD.bindsN F_draws fun _ _ _ _ _ _ us hl => match us, hl with | [_], _ => rfl, rfl⟩
  have g_next : ∀ r c q, Glo P w K mg base "_law_next" 2 (spG (gr K r c q) (nextS r)) 1 := fun r c q => ⟨_, fd_next, ["_law_drawn", "_law_many"], ok_next0 b  F_next, m_next, FunD.kp F_next, FunD.bindsN F_next fun _ _ _ _ _ _ us hl => match us, hl with | [_, _], _ => rfl, rfl⟩
  have g_lowest_ba06 : Glo P w K mg base "_law_lowest" 2 (spP K (sp_lowest_ba06)) 1 := ⟨_, fd_lowest_ba06, ["_law_numerator", "_law_denominator"], ok_lowest_ba06 b  F_lowest_ba06, m_lowest_ba06, FunD.kp F_lowest_ba06, FunD.bindsN F_lowest_ba06 fun _ _ _ _ _ _ us hl => match us, hl with | [_, _], _ => rfl, rfl⟩
  have g_fraction_6a64 : ∀ r c q, Glo P w K mg base "_law_fraction" 1 (spG (gr K r c q) (sp_fraction_6a64 r)) 2 := fun r c q => ⟨_, fd_fraction_6a64, ["_law_drawn"], ok_fraction_6a64 b g_lowest_ba06 g_next F_fraction_6a64, m_fraction_6a64, FunD.kp F_fraction_6a64, FunD.bindsN F_fraction_6a64 fun _ _ _ _ _ _ us hl => match us, hl with | [_], _ => rfl, rfl⟩
  have g_written_5c80 : ∀ r c q, Glo P w K mg base "_law_written" 2 (spG (gr K r c q) (sp_written_5c80 r)) 3 := fun r c q => ⟨_, fd_written_5c80, ["_law_drawn", "_law_most"], ok_written_5c80 b g_next g_lowest_ba06 g_fraction_6a64 F_written_5c80, m_written_5c80, FunD.kp F_written_5c80, FunD.bindsN F_written_5c80 fun _ _ _ _ _ _ us hl => match us, hl with | [_, _], _ => rfl, rfl⟩
  have g_one_be76 : ∀ r c q, Glo P w K mg base "_law_one" 2 (spG (gr K r c q) (sp_one_be76 r)) 2 := fun r c q => ⟨_, fd_one_be76, ["_law_drawn", "_law_items"], ok_one_be76 b g_next F_one_be76, m_one_be76, FunD.kp F_one_be76, FunD.bindsN F_one_be76 fun _ _ _ _ _ _ us hl => match us, hl with | [_, _], _ => rfl, rfl⟩
  have g_bent_word_0551 : ∀ r c q, Glo P w K mg base "_law_bent_word" 2 (spG (gr K r c q) (sp_bent_word_0551 r)) 3 := fun r c q => ⟨_, fd_bent_word_0551, ["_law_drawn", "_law_text"], ok_bent_word_0551 b g_one_be76 g_next F_bent_word_0551, m_bent_word_0551, FunD.kp F_bent_word_0551, FunD.bindsN F_bent_word_0551 fun _ _ _ _ _ _ us hl => match us, hl with | [_, _], _ => rfl, rfl⟩
  have g_fraction_text_1128 : Glo P w K mg base "_law_fraction_text" 1 (spP K (sp_fraction_text_1128)) 1 := ⟨_, fd_fraction_text_1128, ["_law_fraction_here"], ok_fraction_text_1128 b  F_fraction_text_1128, m_fraction_text_1128, FunD.kp F_fraction_text_1128, FunD.bindsN F_fraction_text_1128 fun _ _ _ _ _ _ us hl => match us, hl with | [_], _ => rfl, rfl⟩
  have g_odd_a635 : ∀ r c q, Glo P w K mg base "_law_odd" 1 (spG (gr K r c q) (sp_odd_a635 r)) 3 := fun r c q => ⟨_, fd_odd_a635, ["_law_drawn"], ok_odd_a635 b g_one_be76 F_odd_a635, m_odd_a635, FunD.kp F_odd_a635, FunD.bindsN F_odd_a635 fun _ _ _ _ _ _ us hl => match us, hl with | [_], _ => rfl, rfl⟩
  have g_values_a2af : ∀ r c q, Glo P w K mg base "_law_values" 1 (spG (gr K r c q) (sp_values_a2af r)) 4 := fun r c q => ⟨_, fd_values_a2af, ["_law_drawn"], ok_values_a2af b g_written_5c80 g_bent_word_0551 g_fraction_text_1128 g_next g_odd_a635 F_values_a2af, m_values_a2af, FunD.kp F_values_a2af, FunD.bindsN F_values_a2af fun _ _ _ _ _ _ us hl => match us, hl with | [_], _ => rfl, rfl⟩
  have g_read_integer_60bf : Glo P w K mg base "_law_read_integer" 1 (spP K (sp_read_integer_60bf)) 1 := ⟨_, fd_read_integer_60bf, ["_law_word"], ok_read_integer_60bf b  F_read_integer_60bf, m_read_integer_60bf, FunD.kp F_read_integer_60bf, FunD.bindsN F_read_integer_60bf fun _ _ _ _ _ _ us hl => match us, hl with | [_], _ => rfl, rfl⟩
  have g_read_fraction_659f : Glo P w K mg base "_law_read_fraction" 1 (spP K (sp_read_fraction_659f)) 2 := ⟨_, fd_read_fraction_659f, ["_law_word"], ok_read_fraction_659f b g_read_integer_60bf g_lowest_ba06 F_read_fraction_659f, m_read_fraction_659f, FunD.kp F_read_fraction_659f, FunD.bindsN F_read_fraction_659f fun _ _ _ _ _ _ us hl => match us, hl with | [_], _ => rfl, rfl⟩
  have g_due_f7bc : Glo P w K mg base "_law_due" 1 (spP K (sp_due_f7bc)) 3 := ⟨_, fd_due_f7bc, ["_law_value"], ok_due_f7bc b g_read_fraction_659f F_due_f7bc, m_due_f7bc, FunD.kp F_due_f7bc, FunD.bindsN F_due_f7bc fun _ _ _ _ _ _ us hl => match us, hl with | [_], _ => rfl, rfl⟩
  have gn_equal_17a7 : ∀ (r c q : Addr) (n : Nat), Glo P w K mg base "_law_equal" 2 (spP K (sp_equal_17a7 n)) (1 + n) := fun r c q n => by
    induction n with
    | zero => exact ⟨_, fd_equal_17a7, ["_law_one_here", "_law_other"], okP (k := 0) F_equal_17a7 sc_equal_17a7 (len_equal_17a7 0) ⟨qNever, fun _ _ _ _ _ _ _ => qss_never, fun ds R h => (z_equal_17a7 ds R h).elim⟩, m_equal_17a7, FunD.kp F_equal_17a7, FunD.bindsN F_equal_17a7 fun _ _ _ _ _ _ us hl => match us, hl with | [_, _], _ => rfl, rfl⟩
    | succ n ih => exact ⟨_, fd_equal_17a7, ["_law_one_here", "_law_other"], ok_equal_17a7 (k := 1 + n) (by omega) (len_equal_17a7 (n + 1)) (p_equal_17a7 n) ih b  F_equal_17a7, m_equal_17a7, FunD.kp F_equal_17a7, FunD.bindsN F_equal_17a7 fun _ _ _ _ _ _ us hl => match us, hl with | [_, _], _ => rfl, rfl⟩
  have g_equal_17a7 : Glo P w K mg base "_law_equal" 2 (spP K (sp_equal_17a7 24)) 25 := gn_equal_17a7 0 0 0 24
  have g_same_outcome_0e16 : Glo P w K mg base "_law_same_outcome" 2 (spP K (sp_same_outcome_0e16)) 26 := ⟨_, fd_same_outcome_0e16, ["_law_found", "_law_due_here"], ok_same_outcome_0e16 b g_equal_17a7 F_same_outcome_0e16, m_same_outcome_0e16, FunD.kp F_same_outcome_0e16, FunD.bindsN F_same_outcome_0e16 fun _ _ _ _ _ _ us hl => match us, hl with | [_, _], _ => rfl, rfl⟩
  have g_parsed_469d : GloL P w K mg base "_law_parsed" sp_parsed_469d := ⟨"_law_call", ["_law_call", "_law_found", "error", "_law_others"], _, _, _, _, fd_parsed_469d, F_parsed_469d, m_parsed_469d, sc_parsed_469d, rfl, by first | exact Or.inl rfl | exact Or.inr (Or.inl rfl), rfl, rfl, FunD.bindsN F_parsed_469d fun _ _ _ _ _ _ us hl => match us, hl with | [_], _ => rfl, fun cdg => ok_parsed_469d b  cdg _⟩
  have g_read_integer_d611 : Glo P w K mg base "read_integer" 1 (spP K (sp_read_integer_d611)) 1 := ⟨_, fd_read_integer_d611, ["word"], ok_read_integer_d611 b  F_read_integer_d611, m_read_integer_d611, FunD.kp F_read_integer_d611, FunD.bindsN F_read_integer_d611 fun _ _ _ _ _ _ us hl => match us, hl with | [_], _ => rfl, rfl⟩
  have g_is_integer_8a5f : Glo P w K mg base "is_integer" 1 (spP K (sp_is_integer_8a5f)) 1 := ⟨_, fd_is_integer_8a5f, ["value"], ok_is_integer_8a5f b  F_is_integer_8a5f, m_is_integer_8a5f, FunD.kp F_is_integer_8a5f, FunD.bindsN F_is_integer_8a5f fun _ _ _ _ _ _ us hl => match us, hl with | [_], _ => rfl, rfl⟩
  have g_common_divisor_2932 : Glo P w K mg base "common_divisor" 2 (spP K (sp_common_divisor_2932)) 1 := ⟨_, fd_common_divisor_2932, ["one", "other"], ok_common_divisor_2932 b  F_common_divisor_2932, m_common_divisor_2932, FunD.kp F_common_divisor_2932, FunD.bindsN F_common_divisor_2932 fun _ _ _ _ _ _ us hl => match us, hl with | [_, _], _ => rfl, rfl⟩
  have g_is_fraction_c9ac : Glo P w K mg base "is_fraction" 1 (spP K (sp_is_fraction_c9ac)) 2 := ⟨_, fd_is_fraction_c9ac, ["value"], ok_is_fraction_c9ac b g_is_integer_8a5f g_common_divisor_2932 F_is_fraction_c9ac, m_is_fraction_c9ac, FunD.kp F_is_fraction_c9ac, FunD.bindsN F_is_fraction_c9ac fun _ _ _ _ _ _ us hl => match us, hl with | [_], _ => rfl, rfl⟩
  have g_read_fraction_3da6 : Glo P w K mg base "read_fraction" 1 (spP K (sp_read_fraction_3da6)) 3 := ⟨_, fd_read_fraction_3da6, ["word"], ok_read_fraction_3da6 b g_read_integer_d611 g_is_fraction_c9ac F_read_fraction_3da6, m_read_fraction_3da6, FunD.kp F_read_fraction_3da6, FunD.bindsN F_read_fraction_3da6 fun _ _ _ _ _ _ us hl => match us, hl with | [_], _ => rfl, rfl⟩
  have g_parse_rating_ac02x : GloX P w K mg base "parse_rating" 1 (spPX K mg (sp_parse_rating_ac02x)) 4 := ⟨_, fd_parse_rating_ac02x, ["value"], ok_parse_rating_ac02x b g_read_fraction_3da6 i_ParseError F_parse_rating_ac02x, m_parse_rating_ac02x, FunD.kp F_parse_rating_ac02x, FunD.bindsN F_parse_rating_ac02x fun _ _ _ _ _ _ us hl => match us, hl with | [_], _ => rfl, rfl⟩
  exact ok_law_0e9c tb b g_draws g_values_a2af g_due_f7bc g_same_outcome_0e16 g_parsed_469d g_parse_rating_ac02x F_law_0e9c
end Pm
open PySem PySem.W PySem.Calls PyProof.Rows
theorem PySem.Challenge.cw_poolmarks_k74_rating_texts_parsed_holds : PySem.Challenge.rw_poolmarks_k74_rating_texts_parsed.Holds := by
  w_on; o_law
  refine HandSHeadRun.head_any (r := OpenLaw.row PySem.Challenge.rw_poolmarks_k74_rating_texts_parsed) (q := view (OpenLaw.row PySem.Challenge.rw_poolmarks_k74_rating_texts_parsed).prog [33]) (H := Pm.hk) (ob := Pm.ob) (M := 4000) (loose := Pm.loose) (d := HandSHeadRun.topDef (OpenLaw.row PySem.Challenge.rw_poolmarks_k74_rating_texts_parsed).prog 33) (kwd := []) Pm.ob_eq
    (by kernel_rfl) (fun s => by kernel_rfl) Pm.run (by kernel_rfl) (by kernel_rfl) (by kernel_rfl) (by rfl) (by first | assumption | decide +kernel) (by decide +kernel) ⟨rfl, rfl, rfl, rfl, rfl, by decide +kernel⟩ ?hw ?hc
  case hw => w_witness2
  case hc =>
    refine Pm.walk_ofGT (l := PySem.Challenge.rw_poolmarks_k74_rating_texts_parsed) (n := 63) (k := 27) (x := "_law_script") (xs := Pm.tfl) rfl (by decide) (by kernel_rfl) ⟨rfl, by decide, by decide⟩ ?F
    intro w mg fa h Y G hmg0
    obtain ⟨K, KX, c⟩ := Y
    have hmg : mg ("law" : PySem.Str) = some (.ref fa) := by
      have e : (HandSHeadRun.topDef (OpenLaw.row PySem.Challenge.rw_poolmarks_k74_rating_texts_parsed).prog 33).name = ("law" : PySem.Str) := by kernel_rfl
      rw [← e]
      exact hmg0
    obtain ⟨fd, hb, hF⟩ := Pm.facts (P := (PySem.Challenge.rw_poolmarks_k74_rating_texts_parsed).prog) (w := w) KX G hmg c
    exact ⟨K, fd, KX, hb, fun y hy => ⟨(c.tab y hy).1, (c.tab y hy).2.1, PySem.W.codeHd_of_K KX (c.tab y hy).2.2⟩, c.apart, hF⟩

