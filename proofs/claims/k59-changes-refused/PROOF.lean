import PyProof.Rows.All
import HandS.ForMost
import HandS.ForExc
import HandS.IsInst
import HandS.Wide
import HandS.Flow
import HandS.Zip
import HandS.Rev
import HandS.Sort
import HandS.SortInts
import HandS.SortRule
import HandS.Defaults
import PyProof.Rows.SeqMore
import KE.GoesEnum
import HandS.RevRange
import HandS.Conv
import HandS.Ends
import HandS.HeadEnd
import HandS.Head0
import HandS.Head1
import HandS.Head2
import HandS.HeadHook1
import HandS.HeadHook2
import HandS.Style
import KE.KRevSl
import HandS.NamedTupSort
import HandS.TupSets
import HandS.SortOrd
import HandS.TupMul
import HandS.TupLe
import HandS.SetFor
import KE.KDictZip
import KE.DataMinKey
import KE.KMinBuiltin
import HandS.SortKw
import HandS.WordsExc
import HandS.TryOnly
import HandS.ExcIs
import HandS.ExcOwn
import HandS.ExcField
import KE.KExcIs
import HandS.ExcInit
import HandS.Dict
import KE.KDictCopyH
import KE.KeyNested
import KE.KIndexWalk
import HandS.FStr
import HandS.RaiseMore
import HandS.ReplaceLit
import KE.IntTextLaws
import HandS.Lambda
import HandS.CallSlots
import HandS.HeadHook4
import Wide.All
import OpenK.AllK
import Wide.FinOn
import KE.KStateDown
import Lean
import HandS.Base
import HandS.Call
import HandS.More
import HandS.Words
import PySem.Challenge.RW_poolmarks_k59_changes_refused
set_option Elab.async false
set_option linter.all false
set_option maxRecDepth 100000
set_option maxHeartbeats 1000000
namespace Pm
set_option autoImplicit false
open PySem PySem.Spec
open PyProof.Rows hiding St
open L2

inductive Ad where
  | a (x : Addr) | f (φ : Hp → V → Prop)
instance : Coe Addr Ad := ⟨.a⟩
structure GP (γ : Type) where
  K : PySem.W.Frag
  foot : γ → Addr → Prop
  J : γ → Hp → Hp → Prop
  stay : ∀ g Z Z' H H', J g Z H → Same Z Z' → (∀ a, foot g a → H' a = H a) → J g Z' H'
  live : ∀ g Z H a, J g Z H → foot g a → ∃ o, H a = some o
  /-- what is known to be settled -/
  fl : Hp := fun _ => none
end Pm
set_option Elab.async false
set_option linter.all false
set_option maxRecDepth 100000
set_option maxHeartbeats 1000000
set_option autoImplicit false
namespace Pm
open PySem PySem.Spec
open PyProof.Rows hiding St
open L2
def obsB (fa : List He.Fa) (fn : List He.DefD) (ex : PySem.W.Frag → Bool) (K : PySem.W.Frag) : He.AlD × Bool := (He.obsD fa fn K, ex K)
def valB (fn : List He.DefD) : He.AlD × Bool := (He.valD fn, true)
end Pm
set_option Elab.async false
set_option linter.all false
set_option maxRecDepth 100000
set_option maxHeartbeats 1000000
set_option autoImplicit false
namespace Pm
open PySem PySem.Spec PySem.W
open PyProof.Rows hiding St
open L2
def W (eds : List (Nat × Nat)) : Nat → Nat → Nat → Bool
  | 0, i, j => decide (i = j) || decide ((i, j) ∈ eds)
  | k + 1, i, j => W eds k i j || (W eds k i k && W eds k k j)
end Pm
set_option Elab.async false
set_option linter.all false
set_option maxRecDepth 100000
set_option maxHeartbeats 1000000
set_option autoImplicit false
namespace Pm
open PySem PySem.Spec
open PyProof.Rows hiding St
open L2
variable {γ : Type}
section
variable {X : Cx} {G : GP γ} {W : WX} {pos : Pos} {e : Expr}
def excAt (K : PySem.W.Frag) (x : Str) : Option Addr := match PySem.W.nsIn K mainGlobals x with
  | some (some (.ref C)) => some C
  | _ => none
def bVal : List Value := [.type "ValueError", .type "Exception", .type "BaseException", .type "object"]
def exc0B (K : PySem.W.Frag) (x : Str) : Bool := match excAt K x with
  | some C => PySem.W.excIn K C bVal "ValueError.__new__" && PySem.W.keepIn K (.ref C)
  | none => false
def excQB (K : PySem.W.Frag) (x : Str) : Bool := match excAt K x with
  | some C => (PySem.W.subIn K (.ref C) (.type "BaseException") == some true) && (PySem.W.typeIn K (.ref C) == some (.type "type")) && (PySem.W.findIn K (.ref C) "__getattribute__" == some (some (.builtin "BaseException.__getattribute__"))) && (PySem.W.findIn K (.ref C) "__getattr__" == some none)
      && PySem.W.hasDictIn K C && (PySem.W.findIn K (.ref C) "__class__" == some (some (.builtin "object.__class__"))) && (PySem.W.specialIn K (.builtin "object.__class__") "__get__" == some (some (.builtin "getset_descriptor.__get__"))) && (PySem.W.takesIn K (.builtin "object.__class__") == some true) && (PySem.W.mroIn K C (.type "object") == some true)
  | none => false
def clsV (K : PySem.W.Frag) (y : Str) : Option Value := match PySem.W.nsIn K mainGlobals y with
  | some (some (.ref C)) => some (.ref C)
  | some none => match bootBuiltins y with
    | some (.type T) => some (.type T)
    | _ => none
  | _ => none
def subB (K : PySem.W.Frag) (x y : Str) (b : Bool) : Bool := match excAt K x, clsV K y with
  | some C, some c => (PySem.W.kitOne K (.ref C) c == some b) && (PySem.W.exmOne K (.ref C) c == some b)
  | _, _ => false
end
end Pm
namespace Pm
open PySem PySem.Spec
open PyProof.Rows hiding St
open L2
def xflB (K : PySem.W.Frag) (q : Str × Str) : Bool := match excAt K q.1 with
  | some C => xfB K C && decide (PySem.W.findIn K (.ref C) q.2 = some none)
  | none => false
def excsB (K : PySem.W.Frag) (x0 xq : List Str) (sub : List (Str × Str × Bool)) (xf : List (Str × Str)) : Bool := x0.all (exc0B K) && (xq.all (excQB K) && (sub.all (fun q => subB K q.1 q.2.1 q.2.2) && xf.all (xflB K)))
end Pm
set_option Elab.async false
set_option linter.all false
set_option maxRecDepth 100000
set_option maxHeartbeats 2000000
set_option autoImplicit false
namespace Pm
open PySem PySem.Spec
open PyProof.Rows hiding St
open L2
abbrev tabP (K : PySem.W.Frag) (x : Str) : Addr := (He.cT K (x, none)).2
abbrev codP (K : PySem.W.Frag) (x : Str) : Addr := (He.cT K (x, none)).1
section
variable {fa : List He.Fa} {fn : List He.DefD} {ex : PySem.W.Frag → Bool} {xs : List Str}
def apartB (xs : List Str) (K : PySem.W.Frag) : Bool := decide (xs.map (tabP K)).Nodup
abbrev defsOf (xs : List Str) : List He.Defn := xs.map fun x => (x, none)
def obsLG (n : Nat) (fa : List He.Fa) (fn : List He.DefD) (ex : PySem.W.Frag → Bool) (xs : List Str) (g : Addr → Option Obj) : He.AlD × Bool :=
  let K := He.frT g (He.asD g n ++ [sysModules])
  obsB fa fn (fun K => ex K && (apartB xs K && He.tabsB g (defsOf xs) K)) K
structure SaysL (fa : List He.Fa) (fn : List He.DefD) (ex : PySem.W.Frag → Bool) (xs : List Str) (h : Heap) (K : PySem.W.Frag) : Prop where
  d : He.SaysD fa fn K
  own : ex K = true
  apart : (xs.map (tabP K)).Nodup
  tab : ∀ y ∈ xs, h.get? (tabP K y) = some { cls := .none, data := .fields #[] } ∧ K.lookup (tabP K y) = none ∧ PySem.W.codeHdIn K (codP K y) (tabP K y) = true
theorem saysL_of {n : Nat} {h : Heap} (e : obsLG n fa fn ex xs h.get? = valB fn) : SaysL fa fn ex xs h (He.frT h.get? (He.asD h.get? n ++ [sysModules])) := by
  have e1 := congrArg (fun z : He.AlD × Bool => z.1) e
  have e2 : (ex _ && (apartB xs _ && He.tabsB h.get? (defsOf xs) _)) = true := congrArg (fun z : He.AlD × Bool => z.2) e
  obtain ⟨h1, h2⟩ := He.ba e2
  obtain ⟨h3, h4⟩ := He.ba h2
  refine ⟨e1, h1, of_decide_eq_true h3, fun y hy => ?_⟩
  obtain ⟨h5, h6⟩ := He.ba (List.all_eq_true.mp h4 (y, none) (List.mem_map.mpr ⟨y, hy, rfl⟩))
  have h7 : ∃ o, h.get? (tabP (He.frT h.get? (He.asD h.get? n ++ [sysModules])) y) = some o ∧ He.emptyTab o = true := by
    cases q : h.get? (He.cT (He.frT h.get? (He.asD h.get? n ++ [sysModules])) (y, none)).2 with
    | none => rw [q] at h6; cases h6
    | some o => rw [q] at h6; exact ⟨o, rfl, h6⟩
  obtain ⟨o, q, z⟩ := h7
  exact ⟨by rw [q, He.emptyTab_eq z], He.frT_none q z, h5⟩
def hookL (n : Nat) (fa : List He.Fa) (fn : List He.DefD) (ex : PySem.W.Frag → Bool) (xs : List Str) : PySem.W.Hook where
  α := He.AlD × Bool
  obs := fun s => obsLG n fa fn ex xs s.heap.get?
  val := fun _ => valB fn
  says := fun _ h => ∃ K : PySem.W.Frag, K.In h ∧ SaysL fa fn ex xs h K
  of := fun _ _ e => ⟨_, He.frT_in, saysL_of e⟩
  keeps := fun _ _ _ ⟨K, hK, c⟩ k => ⟨K, PySem.W.Frag.In.keeps hK k, ⟨c.d, c.own, c.apart, fun y hy => ⟨k _ _ (c.tab y hy).1, (c.tab y hy).2⟩⟩⟩
end
end Pm
set_option Elab.async false
set_option linter.all false
set_option maxRecDepth 100000
set_option maxHeartbeats 0
set_option autoImplicit false
namespace Pm
open PySem PySem.Spec
open PyProof.Rows hiding St
open L2 TL
def top (i : Nat) : Stmt := PySem.Challenge.pw_poolmarks_k59_changes_refused.main.body.getD i (.Pass ⟨0, 0, 0, 0⟩)
def x0L : List Str := ["OutOfRange", "LastItem", "Full"]
def xqL : List Str := ["Full", "LastItem", "OutOfRange"]
def subL : List (Str × Str × Bool) := [("Full", "MarksError", true), ("LastItem", "MarksError", true), ("OutOfRange", "MarksError", true), ("Full", "Full", true), ("LastItem", "Full", false), ("OutOfRange", "Full", false), ("Full", "LastItem", false), ("LastItem", "LastItem", true), ("OutOfRange", "LastItem", false), ("Full", "OutOfRange", false), ("LastItem", "OutOfRange", false), ("OutOfRange", "OutOfRange", true), ("Full", "ValueError", true), ("LastItem", "ValueError", true), ("OutOfRange", "ValueError", true), ("Full", "InvalidMark", false), ("Full", "InvalidWeight", false), ("Full", "NotFalling", false), ("LastItem", "InvalidMark", false), ("LastItem", "InvalidWeight", false), ("LastItem", "NotFalling", false), ("OutOfRange", "InvalidMark", false), ("OutOfRange", "InvalidWeight", false), ("OutOfRange", "NotFalling", false)]
def xfL : List (Str × Str) := []
abbrev tfl : List Str := ["_law_amounts_right", "_law_pair_right", "law"]
section
variable {P : Program} {w : World} {K : PySem.W.Frag} {mg : Str → Option Value} {base : Heap}
abbrev st_draws : Stmt := top 26
abbrev st_next : Stmt := top 27
abbrev st_size_3de8 : Stmt := top 29
abbrev st_items_cafd : Stmt := top 30
abbrev st_rules_ccf3 : Stmt := top 31
abbrev st_panel_3836 : Stmt := top 32
abbrev st_room_5b7c : Stmt := top 33
abbrev st_refused_b2f4 : Stmt := top 34
abbrev st_is_integer_8a5f : Stmt := top 13
abbrev st_is_within_3133 : Stmt := top 15
abbrev st_is_mark_f168 : Stmt := top 16
abbrev st_is_weight_6941 : Stmt := top 17
abbrev st_checked_7d9fx : Stmt := top 19
abbrev st_shift_panel_0a39x : Stmt := top 20
abbrev st_scale_panel_72bax : Stmt := top 21
abbrev st_weigh_panel_fe94x : Stmt := top 22
abbrev st_amounts_right_aed0 : Stmt := top 35
abbrev st_without_item_d43ax : Stmt := top 24
abbrev st_combine_panels_586dx : Stmt := top 23
abbrev st_pair_right_2ac3 : Stmt := top 36
abbrev st_law_ed47 : Stmt := top 37
end
def d_draws : He.DefD := ⟨("_law_draws", none), "_law_draws", "_law_draws", defArgs st_draws, defBody st_draws, defScope st_draws, [], []⟩
def d_next : He.DefD := ⟨("_law_next", none), "_law_next", "_law_next", defArgs st_next, defBody st_next, defScope st_next, [], []⟩
def d_size_3de8 : He.DefD := ⟨("_law_size", none), "_law_size", "_law_size", defArgs st_size_3de8, defBody st_size_3de8, defScope st_size_3de8, [], []⟩
def d_items_cafd : He.DefD := ⟨("_law_items", none), "_law_items", "_law_items", defArgs st_items_cafd, defBody st_items_cafd, defScope st_items_cafd, [], []⟩
def d_rules_ccf3 : He.DefD := ⟨("_law_rules", none), "_law_rules", "_law_rules", defArgs st_rules_ccf3, defBody st_rules_ccf3, defScope st_rules_ccf3, [], []⟩
def d_panel_3836 : He.DefD := ⟨("_law_panel", none), "_law_panel", "_law_panel", defArgs st_panel_3836, defBody st_panel_3836, defScope st_panel_3836, [], []⟩
def d_room_5b7c : He.DefD := ⟨("_law_room", none), "_law_room", "_law_room", defArgs st_room_5b7c, defBody st_room_5b7c, defScope st_room_5b7c, [], []⟩
def d_refused_b2f4 : He.DefD := ⟨("_law_refused", none), "_law_refused", "_law_refused", defArgs st_refused_b2f4, defBody st_refused_b2f4, defScope st_refused_b2f4, [], []⟩
def d_is_integer_8a5f : He.DefD := ⟨("is_integer", none), "is_integer", "is_integer", defArgs st_is_integer_8a5f, defBody st_is_integer_8a5f, defScope st_is_integer_8a5f, [], []⟩
def d_is_within_3133 : He.DefD := ⟨("is_within", none), "is_within", "is_within", defArgs st_is_within_3133, defBody st_is_within_3133, defScope st_is_within_3133, [], []⟩
def d_is_mark_f168 : He.DefD := ⟨("is_mark", none), "is_mark", "is_mark", defArgs st_is_mark_f168, defBody st_is_mark_f168, defScope st_is_mark_f168, [], []⟩
def d_is_weight_6941 : He.DefD := ⟨("is_weight", none), "is_weight", "is_weight", defArgs st_is_weight_6941, defBody st_is_weight_6941, defScope st_is_weight_6941, [], []⟩
def d_checked_7d9fx : He.DefD := ⟨("checked", none), "checked", "checked", defArgs st_checked_7d9fx, defBody st_checked_7d9fx, defScope st_checked_7d9fx, [], []⟩
def d_shift_panel_0a39x : He.DefD := ⟨("shift_panel", none), "shift_panel", "shift_panel", defArgs st_shift_panel_0a39x, defBody st_shift_panel_0a39x, defScope st_shift_panel_0a39x, [], []⟩
def d_scale_panel_72bax : He.DefD := ⟨("scale_panel", none), "scale_panel", "scale_panel", defArgs st_scale_panel_72bax, defBody st_scale_panel_72bax, defScope st_scale_panel_72bax, [], []⟩
def d_weigh_panel_fe94x : He.DefD := ⟨("weigh_panel", none), "weigh_panel", "weigh_panel", defArgs st_weigh_panel_fe94x, defBody st_weigh_panel_fe94x, defScope st_weigh_panel_fe94x, [], []⟩
def d_amounts_right_aed0 : He.DefD := ⟨("_law_amounts_right", none), "_law_amounts_right", "_law_amounts_right", defArgs st_amounts_right_aed0, defBody st_amounts_right_aed0, defScope st_amounts_right_aed0, [], []⟩
def d_without_item_d43ax : He.DefD := ⟨("without_item", none), "without_item", "without_item", defArgs st_without_item_d43ax, defBody st_without_item_d43ax, defScope st_without_item_d43ax, [], []⟩
def d_combine_panels_586dx : He.DefD := ⟨("combine_panels", none), "combine_panels", "combine_panels", defArgs st_combine_panels_586dx, defBody st_combine_panels_586dx, defScope st_combine_panels_586dx, [], []⟩
def d_pair_right_2ac3 : He.DefD := ⟨("_law_pair_right", none), "_law_pair_right", "_law_pair_right", defArgs st_pair_right_2ac3, defBody st_pair_right_2ac3, defScope st_pair_right_2ac3, [], []⟩
def d_law_ed47 : He.DefD := ⟨("law", none), "law", "law", defArgs st_law_ed47, defBody st_law_ed47, defScope st_law_ed47, [], []⟩
def fnl : List He.DefD := [d_draws, d_next, d_size_3de8, d_items_cafd, d_rules_ccf3, d_panel_3836, d_room_5b7c, d_refused_b2f4, d_is_integer_8a5f, d_is_within_3133, d_is_mark_f168, d_is_weight_6941, d_checked_7d9fx, d_shift_panel_0a39x, d_scale_panel_72bax, d_weigh_panel_fe94x, d_amounts_right_aed0, d_without_item_d43ax, d_combine_panels_586dx, d_pair_right_2ac3, d_law_ed47]
def fal : List He.Fa := [.glo "_law_draws", .glo "_law_next", .glo "_law_size", .glo "_law_items", .glo "_law_rules", .glo "_law_panel", .glo "_law_room", .glo "_law_refused", .glo "is_integer", .glo "is_within", .glo "is_mark", .glo "is_weight", .glo "checked", .glo "shift_panel", .glo "scale_panel", .glo "weigh_panel", .glo "_law_amounts_right", .glo "without_item", .glo "combine_panels", .glo "_law_pair_right", .glo "law", .free "abs", .free "all", .free "bool", .free "int", .free "isinstance", .free "len", .free "list", .free "max", .free "min", .free "range", .free "repr", .free "tuple", .int "ITEMS" 8, .int "MARK" 1000000000, .int "RULES" 16, .int "WEIGHT" 1000000]
abbrev R : PySem.W.OpenRow := PySem.W.OpenLaw.row PySem.Challenge.rw_poolmarks_k59_changes_refused
def exl (K : PySem.W.Frag) : Bool := excsB K x0L xqL subL xfL && (true)
abbrev hk : PySem.W.Hook := hookL 5 fal fnl exl tfl
def ob (s : PySem.W.SharedT) : He.AlD × Bool := obsLG 5 fal fnl exl tfl (HandSHeadRun.getT s)
def loose : List PySem.Str := (["ITEMS", "RULES", "MARK", "WEIGHT", "MarksError", "Full", "LastItem", "NotFalling", "OutOfRange", "InvalidMark", "InvalidWeight", "is_integer", "is_within", "is_mark", "is_weight", "checked", "shift_panel", "scale_panel", "weigh_panel", "combine_panels", "without_item", "_law_draws", "_law_next", "_law_one", "_law_size", "_law_items", "_law_rules", "_law_panel", "_law_room", "_law_refused"] : List PySem.Str) ++ (["_law_amounts_right", "_law_pair_right"] : List PySem.Str)
theorem run (w : World) : HandSHeadRun.RunEq R (PySem.W.view R.prog [37]) hk ob 4000 loose w := by
  intro os
  kernel_rfl
end Pm
set_option Elab.async false
set_option linter.all false
set_option maxRecDepth 100000
set_option maxHeartbeats 1000000
namespace Pm
set_option autoImplicit false
open PySem PySem.Spec
open PyProof.Rows hiding St
open L2

instance : Coe Addr Ad := ⟨.a⟩
def Ad.at (Z : Hp) : Ad → V → Prop
  | .a x, v => v = .ref x
  | .f φ, v => ∀ Z', Same Z Z' → φ Z' v
theorem Ad.at.mono {Z Z' : Hp} (e : Same Z Z') : ∀ {p : Ad} {v : V}, p.at Z v → p.at Z' v
  | .a _, _, h => h
  | .f _, _, h => fun Z2 k => h Z2 fun a o x => k a o (e a o x)
inductive D where
  | non | bl (b : Bool) | int (i : Int) | str (x : Str)
  | lst (xs : List D) | tup (xs : List D) | dct (ks : List Key) (xs : List D) | obj (a : Ad)

mutual
def At (K : PySem.W.Frag) (Z : Hp) : D → V → Prop
  | .non, v => v = .non
  | .bl b, v => v = .bl b
  | .int i, v => v = .int i
  | .str x, v => v = .str x
  | .lst xs, v => ∃ a vs, v = .ref a ∧ Z a = some (.lst vs) ∧ Ats K Z xs vs
  | .tup xs, v => ∃ a vs, v = .ref a ∧ SqT K Z a vs ∧ Ats K Z xs vs
  | .dct ks xs, v => ∃ a kvs, v = .ref a ∧ Z a = some (.dK kvs) ∧ kvs.map (·.1) = ks ∧ Ats K Z xs (kvs.map (·.2))
  | .obj a, v => a.at Z v
def Ats (K : PySem.W.Frag) (Z : Hp) : List D → List V → Prop
  | [], vs => vs = []
  | d :: ds, vs => ∃ w ws, vs = w :: ws ∧ At K Z d w ∧ Ats K Z ds ws
end
theorem seqT {K : PySem.W.Frag} {H H' : Hp} {a : Addr} {xs : List V} (e : Same H H') (h : SqT K H a xs) : SqT K H' a xs := by
  rcases h with (h | ⟨o, h⟩) | h
  · exact .inl (.inl (e _ _ h))
  · exact .inl (.inr ⟨o, e _ _ h⟩)
  · exact .inr h
section
variable {K : PySem.W.Frag} {Z Z' : Hp}
mutual
theorem At.mono (e : Same Z Z') : ∀ (d : D) (v : V), At K Z d v → At K Z' d v
  | .non, _, h => h
  | .bl _, _, h => h
  | .int _, _, h => h
  | .str _, _, h => h
  | .lst xs, v, h => by
    simp only [At] at h ⊢
    obtain ⟨a, vs, h1, h2, h3⟩ := h
    exact ⟨a, vs, h1, e _ _ h2, Ats.mono e xs vs h3⟩
  | .tup xs, v, h => by
    simp only [At] at h ⊢
    obtain ⟨a, vs, h1, h2, h3⟩ := h
    exact ⟨a, vs, h1, seqT e h2, Ats.mono e xs vs h3⟩
  | .dct ks xs, v, h => by
    simp only [At] at h ⊢
    obtain ⟨a, vs, h1, h2, h3, h4⟩ := h
    exact ⟨a, vs, h1, e _ _ h2, h3, Ats.mono e xs _ h4⟩
  | .obj _, _, h => Ad.at.mono e h
theorem Ats.mono (e : Same Z Z') : ∀ (ds : List D) (vs : List V), Ats K Z ds vs → Ats K Z' ds vs
  | [], _, h => h
  | d :: ds, vs, h => by
    simp only [Ats] at h ⊢
    obtain ⟨w, ws, h1, h2, h3⟩ := h
    exact ⟨w, ws, h1, At.mono e d w h2, Ats.mono e ds ws h3⟩
end
theorem Ats.len : ∀ {ds : List D} {vs : List V}, Ats K Z ds vs → vs.length = ds.length
  | [], _, h => by simp only [Ats] at h; subst h; rfl
  | d :: ds, vs, h => by
    simp only [Ats] at h
    obtain ⟨w, ws, rfl, _, h3⟩ := h
    simp [Ats.len h3]
theorem Ats.get : ∀ {ds : List D} {vs : List V} {i : Nat} {d : D}, Ats K Z ds vs → ds[i]? = some d → ∃ v, vs[i]? = some v ∧ At K Z d v
  | [], _, _, _, _, e => by simp at e
  | d :: ds, vs, i, d', h, e => by
    simp only [Ats] at h
    obtain ⟨w, ws, rfl, h2, h3⟩ := h
    cases i with
    | zero => simp at e; subst e; exact ⟨w, rfl, h2⟩
    | succ i =>
      obtain ⟨v, h4, h5⟩ := Ats.get (i := i) h3 (by simpa using e)
      exact ⟨v, by simpa using h4, h5⟩
theorem Ats.append : ∀ {ds es : List D} {vs ws : List V}, Ats K Z ds vs → Ats K Z es ws → Ats K Z (ds ++ es) (vs ++ ws)
  | [], _, _, _, h, h' => by simp only [Ats] at h; subst h; exact h'
  | d :: ds, es, vs, ws, h, h' => by
    simp only [Ats] at h
    obtain ⟨w, vs, rfl, h2, h3⟩ := h
    exact ⟨w, vs ++ ws, rfl, h2, Ats.append h3 h'⟩
theorem Ats.take : ∀ {ds : List D} {vs : List V} (n : Nat), Ats K Z ds vs → Ats K Z (ds.take n) (vs.take n)
  | _, _, 0, _ => by simp [Ats]
  | [], _, n + 1, h => by simp only [Ats] at h; subst h; simp [Ats]
  | d :: ds, vs, n + 1, h => by
    simp only [Ats] at h
    obtain ⟨w, vs, rfl, h2, h3⟩ := h
    exact ⟨w, vs.take n, rfl, h2, Ats.take n h3⟩
theorem Ats.drop : ∀ {ds : List D} {vs : List V} (n : Nat), Ats K Z ds vs → Ats K Z (ds.drop n) (vs.drop n)
  | _, _, 0, h => h
  | [], _, n + 1, h => by simp only [Ats] at h; subst h; simp [Ats]
  | d :: ds, vs, n + 1, h => by
    simp only [Ats] at h
    obtain ⟨w, vs, rfl, h2, h3⟩ := h
    exact Ats.drop n h3
theorem Ats.ints : ∀ {ns : List Int} {vs : List V}, Ats K Z (ns.map D.int) vs → vs = ns.map V.int
  | [], _, h => h
  | n :: ns, vs, h => by
    simp only [List.map_cons, Ats] at h
    obtain ⟨w, ws, rfl, h2, h3⟩ := h
    simp only [At] at h2
    subst h2
    rw [Ats.ints h3]; rfl
theorem Ats.bls : ∀ {ns : List Bool} {vs : List V}, Ats K Z (ns.map D.bl) vs → vs = ns.map V.bl
  | [], _, h => h
  | n :: ns, vs, h => by
    simp only [List.map_cons, Ats] at h
    obtain ⟨w, ws, rfl, h2, h3⟩ := h
    simp only [At] at h2
    subst h2
    rw [Ats.bls h3]; rfl
end

inductive L where | val (d : D) | own (ds : List D) | dic (kds : List (Key × D))
def L.ow : L → Bool | .val _ => false | _ => true
def L.ds : L → List D | .val _ => [] | .own ds => ds | .dic kds => kds.map (·.2)
def L.ho : L → List V → HO | .dic kds, vs => .dK ((kds.map (·.1)).zip vs) | _, vs => .lst vs
structure S (γ : Type) where
  ρ : List (Option L)
  g : γ
def none0 (K : PySem.W.Frag) : GP Unit := ⟨K, fun _ _ => False, fun _ _ _ => True, fun _ _ _ _ _ _ _ _ => trivial, fun _ _ _ _ _ h => h.elim, fun _ => none⟩

structure Fra where
  F : Hp
  B : Addr → Prop
  bf : ∀ a, B a → ∃ o, F a = some o
variable {γ : Type}
structure Rel (G : GP γ) (F : Fra) (Z : Hp) (s : S γ) (σ : St) (H : Hp) : Prop where
  z : Same Z H
  f : Same F.F H
  zb : ∀ a, F.B a → Z a = none
  len : σ.length = s.ρ.length
  loc : ∀ (i : Nat) (d : D), s.ρ[i]? = some (some (.val d)) → ∃ v, σ[i]? = some (some v) ∧ At G.K Z d v
  ownL : ∀ (i : Nat) (l : L), s.ρ[i]? = some (some l) → l.ow = true → ∃ a vs, σ[i]? = some (some (.ref a)) ∧ H a = some (l.ho vs) ∧ Ats G.K Z l.ds vs ∧ Z a = none ∧ F.F a = none ∧ ¬ G.foot s.g a
  injL : ∀ (i j : Nat) (l m : L) (a : Addr), i ≠ j → s.ρ[i]? = some (some l) → l.ow = true → s.ρ[j]? = some (some m) → m.ow = true → σ[i]? = some (some (.ref a)) → σ[j]? = some (some (.ref a)) → False
  j : G.J s.g Z H
  zf : ∀ a, G.foot s.g a → Z a = none
  ff : ∀ a, G.foot s.g a → F.F a = none
  fl : Same G.fl Z
theorem Rel.own {G : GP γ} {F : Fra} {Z : Hp} {s : S γ} {σ : St} {H : Hp} (r : Rel G F Z s σ H) (i : Nat) (ds : List D) (h : s.ρ[i]? = some (some (.own ds))) : ∃ a vs, σ[i]? = some (some (.ref a)) ∧ H a = some (.lst vs) ∧ Ats G.K Z ds vs ∧ Z a = none ∧ F.F a = none ∧ ¬ G.foot s.g a := r.ownL i _ h rfl
abbrev Nob (s : S γ) (σ : St) (a : Addr) : Prop := ∀ (i : Nat) (l : L), s.ρ[i]? = some (some l) → l.ow = true → σ[i]? ≠ some (some (.ref a))
structure Wk (s s' : S γ) : Prop where
  g : s'.g = s.g
  len : s'.ρ.length = s.ρ.length
  le : ∀ (i : Nat) l, s'.ρ[i]? = some (some l) → s.ρ[i]? = some (some l)
theorem Wk.refl (s : S γ) : Wk s s := ⟨rfl, rfl, fun _ _ h => h⟩
section
variable {G : GP γ} {F : Fra} {Z : Hp} {s s' : S γ} {σ : St} {H H' : Hp}
theorem Fra.nb {F : Fra} {a : Addr} (h : F.F a = none) : ¬ F.B a := fun b => by
  obtain ⟨o, e⟩ := F.bf a b
  rw [h] at e; cases e
theorem Rel.weak (r : Rel G F Z s σ H) (w : Wk s s') : Rel G F Z s' σ H := by
  obtain ⟨g', ρ'⟩ := s'
  obtain ⟨hg, hl, he⟩ := w
  simp only at hg
  subst hg
  exact ⟨r.z, r.f, r.zb, r.len.trans hl.symm, fun i d h => r.loc i d (he _ _ h), fun i l h => r.ownL i l (he _ _ h), fun i j l m a n h1 o1 h2 => r.injL i j l m a n (he _ _ h1) o1 (he _ _ h2), r.j, r.zf, r.ff, r.fl⟩
theorem Rel.grow (r : Rel G F Z s σ H) (k : Same H H') : Rel G F Z s σ H' :=
  ⟨r.z.trans k, r.f.trans k, r.zb, r.len, r.loc, fun i l h o => let ⟨a, vs, h1, h2, h3⟩ := r.ownL i l h o; ⟨a, vs, h1, k _ _ h2, h3⟩, r.injL,
    G.stay _ _ _ _ _ r.j (Same.refl _) fun a h => by
      obtain ⟨o, e⟩ := G.live _ _ _ _ r.j h
      rw [e, k _ _ e], r.zf, r.ff, r.fl⟩
theorem same_upd {p : Addr} {o : HO} (h : H p = none) : Same H (upd H p o) := fun b x e => by
  rw [upd_ne (ne_of_none e h)]
  exact e
theorem same_upd2 {p : Addr} {o : HO} (k : Same Z H) (h : H p = some o) (hz : Z p = none) : Same (upd Z p o) H := fun b x e => by
  by_cases hb : b = p
  · subst hb; rw [upd_same] at e; rw [h, ← e]
  · rw [upd_ne hb] at e; exact k _ _ e
theorem Rel.settle (r : Rel G F Z s σ H) {p : Addr} {o : HO} (hp : H p = some o) (hz : Z p = none) (hf : ¬ G.foot s.g p) (hb : ¬ F.B p)
    (ho : Nob s σ p) : Rel G F (upd Z p o) s σ H := by
  have k := same_upd (o := o) hz
  refine ⟨same_upd2 r.z hp hz, r.f, fun a h => by rw [upd_ne (show a ≠ p from fun e => hb (by rw [← e]; exact h))]; exact r.zb a h, r.len, fun i d h => ?_, fun i l h o1 => ?_, r.injL, G.stay _ _ _ _ _ r.j k fun _ _ => rfl, fun a h => ?_, r.ff, r.fl.trans k⟩
  · obtain ⟨v, h1, h2⟩ := r.loc i d h
    exact ⟨v, h1, At.mono k _ _ h2⟩
  · obtain ⟨a, vs, h1, h2, h3, h4, h5⟩ := r.ownL i l h o1
    refine ⟨a, vs, h1, h2, Ats.mono k _ _ h3, ?_, h5⟩
    rw [upd_ne (show a ≠ p from fun e => ho i l h o1 (by rw [← e]; exact h1))]
    exact h4
  · rw [upd_ne (show a ≠ p from fun e => hf (by rw [← e]; exact h))]
    exact r.zf a h
theorem Rel.new (r : Rel G F Z s σ H) {p : Addr} {o : HO} (hp : H p = none) : Rel G F (upd Z p o) s σ (upd H p o) := by
  have k := same_upd (o := o) hp
  refine (r.grow k).settle upd_same (r.z.free hp) (fun h => ?_) (Fra.nb (r.f.free hp)) fun i l h o1 e => ?_
  · obtain ⟨o, e⟩ := G.live _ _ _ _ r.j h
    rw [hp] at e; cases e
  · obtain ⟨a, vs, h1, h2, _⟩ := r.ownL i l h o1
    rw [h1] at e
    cases e
    rw [hp] at h2; cases h2
theorem Rel.put (r : Rel G F Z s σ H) {i : Nat} {d : D} {v : V} (h : At G.K Z d v) : Rel G F Z ⟨s.ρ.set i (some (.val d)), s.g⟩ (σ.set i (some v)) H := by
  refine ⟨r.z, r.f, r.zb, by simpa using r.len, fun j e hj => ?_, fun j l hj o1 => ?_, fun j k l m a n h1 o1 h2 o2 h3 h4 => ?_, r.j, r.zf, r.ff, r.fl⟩
  · by_cases hij : i = j
    · subst hij
      have hl : i < s.ρ.length := by
        have := (List.getElem?_eq_some_iff.mp hj).1
        simpa using this
      rw [List.getElem?_set_self hl] at hj
      cases hj
      exact ⟨v, by rw [List.getElem?_set_self (by rw [r.len]; exact hl)], h⟩
    · rw [List.getElem?_set_ne hij] at hj
      rw [List.getElem?_set_ne hij]
      exact r.loc j e hj
  · have hij : i ≠ j := by
      intro e
      subst e
      have hl : i < s.ρ.length := by
        have := (List.getElem?_eq_some_iff.mp hj).1
        simpa using this
      rw [List.getElem?_set_self hl] at hj
      cases hj
      cases o1
    rw [List.getElem?_set_ne hij] at hj
    rw [List.getElem?_set_ne hij]
    exact r.ownL j l hj o1
  · have ne : ∀ {j : Nat} {l : L}, (s.ρ.set i (some (L.val d)))[j]? = some (some l) → l.ow = true → i ≠ j := fun {j l} hj o1 e => by
      subst e
      have hl : i < s.ρ.length := by
        have := (List.getElem?_eq_some_iff.mp hj).1
        simpa using this
      rw [List.getElem?_set_self hl] at hj
      cases hj
      cases o1
    have n1 := ne h1 o1
    have n2 := ne h2 o2
    rw [List.getElem?_set_ne n1] at h1 h3
    rw [List.getElem?_set_ne n2] at h2 h4
    exact r.injL j k l m a n h1 o1 h2 o2 h3 h4
theorem Rel.putW (r : Rel G F Z s σ H) {i : Nat} {l : L} (ol : l.ow = true) {a : Addr} {vs : List V} (ha : H a = some (l.ho vs)) (h : Ats G.K Z l.ds vs) (hz : Z a = none) (hF : F.F a = none) (hf : ¬ G.foot s.g a)
    (ho : Nob s σ a) : Rel G F Z ⟨s.ρ.set i (some l), s.g⟩ (σ.set i (some (.ref a))) H := by
  have at_i : ∀ {m : L}, (s.ρ.set i (some l))[i]? = some (some m) → i < s.ρ.length ∧ m = l := fun {m} hj => by
    have hl : i < s.ρ.length := by
      have := (List.getElem?_eq_some_iff.mp hj).1
      simpa using this
    rw [List.getElem?_set_self hl] at hj
    cases hj
    exact ⟨hl, rfl⟩
  have other : ∀ {j : Nat} {m : L}, i ≠ j → (s.ρ.set i (some l))[j]? = some (some m) → m.ow = true → (σ.set i (some (V.ref a)))[j]? ≠ some (some (.ref a)) := fun {j m} n h1 o1 => by
    rw [List.getElem?_set_ne n] at h1 ⊢
    exact ho j m h1 o1
  refine ⟨r.z, r.f, r.zb, by simpa using r.len, fun j e hj => ?_, fun j m hj o1 => ?_, fun j k m m' b n h1 o1 h2 o2 h3 h4 => ?_, r.j, r.zf, r.ff, r.fl⟩
  · have hij : i ≠ j := by
      intro e; subst e
      obtain ⟨_, e⟩ := at_i hj
      rw [← e] at ol; cases ol
    rw [List.getElem?_set_ne hij] at hj ⊢
    exact r.loc j e hj
  · by_cases hij : i = j
    · subst hij
      obtain ⟨hl, e⟩ := at_i hj
      subst e
      exact ⟨a, vs, List.getElem?_set_self (by rw [r.len]; exact hl), ha, h, hz, hF, hf⟩
    · rw [List.getElem?_set_ne hij] at hj ⊢
      exact r.ownL j m hj o1
  · by_cases hij : i = j
    · subst hij
      obtain ⟨hl, e⟩ := at_i h1
      rw [List.getElem?_set_self (by rw [r.len]; exact hl)] at h3
      cases h3
      exact other n h2 o2 h4
    · by_cases hik : i = k
      · subst hik
        obtain ⟨hl, e⟩ := at_i h2
        rw [List.getElem?_set_self (by rw [r.len]; exact hl)] at h4
        cases h4
        exact other (Ne.symm n) h1 o1 h3
      · rw [List.getElem?_set_ne hij] at h1 h3
        rw [List.getElem?_set_ne hik] at h2 h4
        exact r.injL j k m m' b n h1 o1 h2 o2 h3 h4
theorem Rel.putOwn (r : Rel G F Z s σ H) {i : Nat} {ds : List D} {a : Addr} {vs : List V} (ha : H a = some (.lst vs)) (h : Ats G.K Z ds vs) (hz : Z a = none) (hF : F.F a = none) (hf : ¬ G.foot s.g a)
    (ho : Nob s σ a) : Rel G F Z ⟨s.ρ.set i (some (.own ds)), s.g⟩ (σ.set i (some (.ref a))) H := r.putW (l := .own ds) rfl ha h hz hF hf ho
theorem Rel.writeL (r : Rel G F Z s σ H) {i : Nat} {l m : L} {a : Addr} {ws : List V} (hi : s.ρ[i]? = some (some l)) (ol : l.ow = true) (om : m.ow = true) (ha : σ[i]? = some (some (.ref a))) (h : Ats G.K Z m.ds ws) :
    Rel G F Z ⟨s.ρ.set i (some m), s.g⟩ σ (upd H a (m.ho ws)) := by
  obtain ⟨b, vs, h1, h2, h3, h4, h5, h6⟩ := r.ownL i l hi ol
  rw [ha] at h1
  cases h1
  have hl : i < s.ρ.length := (List.getElem?_eq_some_iff.mp hi).1
  have back : ∀ {j : Nat} {n : L}, (s.ρ.set i (some m))[j]? = some (some n) → n.ow = true → ∃ n', s.ρ[j]? = some (some n') ∧ n'.ow = true := fun {j n} hj o1 => by
    by_cases hij : i = j
    · subst hij; exact ⟨l, hi, ol⟩
    · rw [List.getElem?_set_ne hij] at hj; exact ⟨n, hj, o1⟩
  refine ⟨fun b o e => ?_, fun b o e => ?_, r.zb, by simpa using r.len, fun j e hj => ?_, fun j n hj o1 => ?_, fun j k p q b n h1 o1 h2 o2 h3 h4 => ?_, G.stay _ _ _ _ _ r.j (Same.refl _) fun b hb => ?_, r.zf, r.ff, r.fl⟩
  · rw [upd_ne (ne_of_none e h4)]; exact r.z _ _ e
  · rw [upd_ne (ne_of_none e h5)]; exact r.f _ _ e
  · have hij : i ≠ j := by
      intro e; subst e
      rw [List.getElem?_set_self hl] at hj
      cases hj
      cases om
    rw [List.getElem?_set_ne hij] at hj
    exact r.loc j e hj
  · by_cases hij : i = j
    · subst hij
      rw [List.getElem?_set_self hl] at hj
      cases hj
      exact ⟨a, ws, ha, upd_same, h, h4, h5, h6⟩
    · rw [List.getElem?_set_ne hij] at hj
      obtain ⟨c, us, k1, k2, k3⟩ := r.ownL j n hj o1
      refine ⟨c, us, k1, ?_, k3⟩
      rw [upd_ne]
      · exact k2
      · intro e; subst e
        exact r.injL i j l n c hij hi ol hj o1 ha k1
  · obtain ⟨p', e1, f1⟩ := back h1 o1
    obtain ⟨q', e2, f2⟩ := back h2 o2
    exact r.injL j k p' q' b n e1 f1 e2 f2 h3 h4
  · exact upd_ne fun e => h6 (e ▸ hb)
theorem Rel.write (r : Rel G F Z s σ H) {i : Nat} {ds es : List D} {a : Addr} {ws : List V} (hi : s.ρ[i]? = some (some (.own ds))) (ha : σ[i]? = some (some (.ref a))) (h : Ats G.K Z es ws) :
    Rel G F Z ⟨s.ρ.set i (some (.own es)), s.g⟩ σ (upd H a (.lst ws)) := r.writeL (l := .own ds) (m := .own es) hi rfl rfl ha h
theorem map_fst_zip' : ∀ {ks : List Key} {vs : List V}, ks.length = vs.length → (ks.zip vs).map (·.1) = ks
  | [], [], _ => rfl
  | k :: ks, v :: vs, h => by simp only [List.zip_cons_cons, List.map_cons, map_fst_zip' (ks := ks) (vs := vs) (by simpa using h)]
theorem map_snd_zip' : ∀ {ks : List Key} {vs : List V}, ks.length = vs.length → (ks.zip vs).map (·.2) = vs
  | [], [], _ => rfl
  | k :: ks, v :: vs, h => by simp only [List.zip_cons_cons, List.map_cons, map_snd_zip' (ks := ks) (vs := vs) (by simpa using h)]
def L.d : L → D | .val d => d | .own ds => .lst ds | .dic kds => .dct (kds.map (·.1)) (kds.map (·.2))
theorem At.ofL {K : PySem.W.Frag} {l : L} (ol : l.ow = true) {a : Addr} {vs : List V} (hz : Z a = some (l.ho vs)) (h : Ats K Z l.ds vs) : At K Z l.d (.ref a) := by
  cases l with
  | val d => cases ol
  | own ds => exact ⟨a, vs, rfl, hz, h⟩
  | dic kds =>
    have hl : (kds.map (·.1)).length = vs.length := by have := h.len; simp only [L.ds, List.length_map] at this ⊢; exact this.symm
    exact ⟨a, _, rfl, hz, map_fst_zip' hl, by rw [map_snd_zip' hl]; exact h⟩
theorem Rel.freezeL (r : Rel G F Z s σ H) {i : Nat} {l : L} (hi : s.ρ[i]? = some (some l)) (ol : l.ow = true) :
    ∃ a Z', Same Z Z' ∧ σ[i]? = some (some (.ref a)) ∧ At G.K Z' l.d (.ref a) ∧ Rel G F Z' ⟨s.ρ.set i (some (.val l.d)), s.g⟩ σ H := by
  obtain ⟨a, vs, h1, h2, h3, h4, h5, h6⟩ := r.ownL i l hi ol
  have hl : i < s.ρ.length := (List.getElem?_eq_some_iff.mp hi).1
  have k := same_upd (o := l.ho vs) h4
  have at' : At G.K (upd Z a (l.ho vs)) l.d (.ref a) := At.ofL ol upd_same (Ats.mono k _ _ h3)
  refine ⟨a, upd Z a (l.ho vs), k, h1, at', same_upd2 r.z h2 h4, r.f, fun b hb => by rw [upd_ne (show b ≠ a from fun e => Fra.nb h5 (by rw [← e]; exact hb))]; exact r.zb b hb, by simpa using r.len, fun j e hj => ?_, fun j m hj o1 => ?_, fun j k p q b n q1 o1 q2 o2 q3 q4 => ?_, G.stay _ _ _ _ _ r.j k fun _ _ => rfl, fun b hb => ?_, r.ff, r.fl.trans k⟩
  · by_cases hij : i = j
    · subst hij
      rw [List.getElem?_set_self hl] at hj
      cases hj
      exact ⟨_, h1, at'⟩
    · rw [List.getElem?_set_ne hij] at hj
      obtain ⟨v, k1, k2⟩ := r.loc j e hj
      exact ⟨v, k1, At.mono k _ _ k2⟩
  · have hij : i ≠ j := by
      intro e; subst e
      rw [List.getElem?_set_self hl] at hj
      cases hj
      cases o1
    rw [List.getElem?_set_ne hij] at hj
    obtain ⟨c, us, k1, k2, k3, k4, k5⟩ := r.ownL j m hj o1
    refine ⟨c, us, k1, k2, Ats.mono k _ _ k3, ?_, k5⟩
    rw [upd_ne]
    · exact k4
    · intro e; subst e
      exact r.injL i j l m c hij hi ol hj o1 h1 k1
  · have ne : ∀ {j : Nat} {m : L}, (s.ρ.set i (some (L.val l.d)))[j]? = some (some m) → m.ow = true → s.ρ[j]? = some (some m) := fun {j m} hj o1 => by
      by_cases hij : i = j
      · subst hij
        rw [List.getElem?_set_self hl] at hj
        cases hj
        cases o1
      · rw [List.getElem?_set_ne hij] at hj; exact hj
    exact r.injL j k p q b n (ne q1 o1) o1 (ne q2 o2) o2 q3 q4
  · rw [upd_ne (show b ≠ a from fun e => h6 (by rw [← e]; exact hb))]
    exact r.zf b hb
theorem Rel.freeze (r : Rel G F Z s σ H) {i : Nat} {ds : List D} (hi : s.ρ[i]? = some (some (.own ds))) :
    ∃ a Z', Same Z Z' ∧ σ[i]? = some (some (.ref a)) ∧ At G.K Z' (.lst ds) (.ref a) ∧ Rel G F Z' ⟨s.ρ.set i (some (.val (.lst ds))), s.g⟩ σ H := r.freezeL (l := .own ds) hi rfl
end
end Pm
set_option Elab.async false
set_option linter.all false
set_option maxRecDepth 100000
set_option maxHeartbeats 1000000
set_option autoImplicit false
namespace Pm
open PySem PySem.Spec
open PyProof.Rows hiding St
open L2
variable {γ : Type}

abbrev PEx (γ : Type) := S γ → (D → S γ → Prop) → Prop
abbrev PTx (γ : Type) := S γ → (Bool → S γ → Prop) → Prop
abbrev PAx (γ : Type) := S γ → (List D → S γ → Prop) → Prop
abbrev POx (γ : Type) := S γ → (Option Int → S γ → Prop) → Prop
structure En (γ : Type) where
  nx : S γ → Prop
  rt : D → γ → Prop
  bk : S γ → Prop := fun _ => False
  ct : S γ → Prop := fun _ => False
abbrev PSx (γ : Type) := En γ → S γ → Prop
abbrev PGx (γ : Type) := D → S γ → (S γ → Prop) → Prop
abbrev DK := D → Prop

def lE (G : GP γ) (t : PEx γ) : TE := fun σ H Q => ∃ F Z s R, Rel G F Z s σ H ∧ t s R ∧ ∀ d s' Z' v H', R d s' → Same Z Z' → Rel G F Z' s' σ H' → At G.K Z' d v → Q v H'
def lT (G : GP γ) (t : PTx γ) : TT := fun σ H Q => ∃ F Z s R, Rel G F Z s σ H ∧ t s R ∧ ∀ b s' Z' H', R b s' → Same Z Z' → Rel G F Z' s' σ H' → Q b H'
def lA (G : GP γ) (t : PAx γ) : TA := fun σ H Q => ∃ F Z s R, Rel G F Z s σ H ∧ t s R ∧ ∀ ds s' Z' vs H', R ds s' → Same Z Z' → Rel G F Z' s' σ H' → Ats G.K Z' ds vs → Q vs H'
def lO (G : GP γ) (t : POx γ) : TO := fun σ H Q => ∃ F Z s R, Rel G F Z s σ H ∧ t s R ∧ ∀ o s' Z' H', R o s' → Same Z Z' → Rel G F Z' s' σ H' → Q o H'
def lF (G : GP γ) (t : PAx γ) : TE := fun σ H Q => ∃ F Z s R, Rel G F Z s σ H ∧ t s R ∧ ∀ ds s' Z' a vs H', R ds s' → Same Z Z' → Rel G F Z' s' σ H' → H' a = some (.lst vs) → Ats G.K Z' ds vs → Z' a = none → F.F a = none → ¬ G.foot s'.g a →
  Nob s' σ a → Q (.ref a) H'
def lS (G : GP γ) (t : PSx γ) : TS := fun De σ H => ∃ F Z s E, Rel G F Z s σ H ∧ t E s ∧
  (∀ s' Z' σ' H', E.nx s' → Same Z Z' → Rel G F Z' s' σ' H' → De.nx σ' H') ∧
  (∀ d s' Z' σ' v H', E.rt d s'.g → Same Z Z' → Rel G F Z' s' σ' H' → At G.K Z' d v → De.rt v H') ∧
  (∀ s' Z' σ' H', E.bk s' → Same Z Z' → Rel G F Z' s' σ' H' → De.bk σ' H') ∧
  (∀ s' Z' σ' H', E.ct s' → Same Z Z' → Rel G F Z' s' σ' H' → De.ct σ' H')
def lG (G : GP γ) (js : List Nat) (t : PGx γ) : TG := fun v σ H Q => ∃ F Z s d R, Rel G F Z s σ H ∧ At G.K Z d v ∧ t d s R ∧
  ∀ s' Z' σ' H', R s' → Same Z Z' → Rel G F Z' s' σ' H' → H' = H → (∀ j, j ∉ js → σ'[j]? = σ[j]?) → σ'.length = σ.length → Q σ' H'

abbrev QE (X : Cx) (G : GP γ) (e : Expr) (t : PEx γ) : Prop := PE X e (lE G t)
abbrev QF (X : Cx) (G : GP γ) (e : Expr) (t : PAx γ) : Prop := PE X e (lF G t)
abbrev QT (X : Cx) (G : GP γ) (e : Expr) (t : PTx γ) : Prop := PT X e (lT G t)
abbrev QW (X : Cx) (G : GP γ) (e : Expr) (t : PTx γ) : Prop := PW X e (lT G t)
abbrev QA (X : Cx) (G : GP γ) (es : List Expr) (t : PAx γ) : Prop := PA X es (lA G t)
abbrev QO (X : Cx) (G : GP γ) (e : Option Expr) (t : POx γ) : Prop := PO X e (lO G t)
abbrev QS (X : Cx) (G : GP γ) (st : Stmt) (t : PSx γ) : Prop := PS X st (lS G t)
abbrev QSs (X : Cx) (G : GP γ) (st : List Stmt) (t : PSx γ) : Prop := PSs X st (lS G t)
theorem PE.imp {X : Cx} {e : Expr} {t t' : TE} (h : PE X e t) (k : ∀ σ H Q, t' σ H Q → t σ H Q) : PE X e t' := ⟨fun pins s σ H Q I w => h.run pins s σ H Q I (k _ _ _ w)⟩
theorem PT.imp {X : Cx} {e : Expr} {t t' : TT} (h : PT X e t) (k : ∀ σ H Q, t' σ H Q → t σ H Q) : PT X e t' := ⟨fun pins s σ H Q I w => h.run pins s σ H Q I (k _ _ _ w)⟩
theorem PW.imp {X : Cx} {e : Expr} {t t' : TT} (h : PW X e t) (k : ∀ σ H Q, t' σ H Q → t σ H Q) : PW X e t' := ⟨fun wh pins s σ H Q I w => h.run wh pins s σ H Q I (k _ _ _ w)⟩
theorem PA.imp {X : Cx} {e : List Expr} {t t' : TA} (h : PA X e t) (k : ∀ σ H Q, t' σ H Q → t σ H Q) : PA X e t' := ⟨fun pos pins s σ H Q I w => h.run pos pins s σ H Q I (k _ _ _ w)⟩
theorem PO.imp {X : Cx} {e : Option Expr} {t t' : TO} (h : PO X e t) (k : ∀ σ H Q, t' σ H Q → t σ H Q) : PO X e t' := ⟨fun pins s σ H Q I w => h.run pins s σ H Q I (k _ _ _ w)⟩
theorem PS.imp {X : Cx} {e : Stmt} {t t' : TS} (h : PS X e t) (k : ∀ De σ H, t' De σ H → t De σ H) : PS X e t' := ⟨fun pins s σ H De I w => h.run pins s σ H De I (k _ _ _ w)⟩
theorem PSs.imp {X : Cx} {e : List Stmt} {t t' : TS} (h : PSs X e t) (k : ∀ De σ H, t' De σ H → t De σ H) : PSs X e t' := ⟨fun pins s σ H De I w => h.run pins s σ H De I (k _ _ _ w)⟩
theorem PG.imp {X : Cx} {e : Expr} {t t' : TG} (h : PG X e t) (k : ∀ v σ H Q, t' v σ H Q → t v σ H Q) : PG X e t' := ⟨fun pins s σ H v u Q I r w => h.run pins s σ H v u Q I r (k _ _ _ _ w)⟩

structure Ext (Z H Z' H' : Hp) : Prop where
  hh : Same H H'
  zz : Same Z Z'
  zh : Same Z' H'
  nw : ∀ a o, Z' a = some o → Z a = none → H a = none
theorem Ext.refl {Z H : Hp} (k : Same Z H) : Ext Z H Z H := ⟨Same.refl _, Same.refl _, k, fun a o h h' => by rw [h] at h'; cases h'⟩
theorem Ext.new {Z H : Hp} {p : Addr} {o : HO} (k : Same Z H) (hp : H p = none) : Ext Z H (upd Z p o) (upd H p o) := by
  have zp := k.free hp
  refine ⟨same_upd hp, same_upd zp, fun a u e => ?_, fun a u e n => ?_⟩
  · by_cases h : a = p
    · subst h; rw [upd_same] at e ⊢; exact e
    · rw [upd_ne h] at e ⊢; exact k _ _ e
  · by_cases h : a = p
    · rw [h]; exact hp
    · rw [upd_ne h, n] at e; cases e
section
variable {G : GP γ} {F : Fra} {Z Z' : Hp} {s : S γ} {σ : St} {H H' : Hp}
theorem Rel.ext (r : Rel G F Z s σ H) (x : Ext Z H Z' H') : Rel G F Z' s σ H' := by
  have zn : ∀ {a : Addr}, Z a = none → (∃ o, H a = some o) → Z' a = none := fun {a} n ⟨o, e⟩ => by
    cases q : Z' a with
    | none => rfl
    | some u => have := x.nw a u q n; rw [e] at this; cases this
  refine ⟨x.zh, r.f.trans x.hh, fun a h => zn (r.zb a h) (let ⟨o, e⟩ := F.bf a h; ⟨o, r.f _ _ e⟩), r.len, fun i d h => ?_, fun i l h ol => ?_, r.injL, G.stay _ _ _ _ _ (r.grow x.hh).j x.zz fun _ _ => rfl, fun a h => zn (r.zf a h) (G.live _ _ _ _ r.j h), r.ff, r.fl.trans x.zz⟩
  · obtain ⟨v, h1, h2⟩ := r.loc i d h
    exact ⟨v, h1, At.mono x.zz _ _ h2⟩
  · obtain ⟨a, vs, h1, h2, h3, h4, h5⟩ := r.ownL i l h ol
    exact ⟨a, vs, h1, x.hh _ _ h2, Ats.mono x.zz _ _ h3, zn h4 ⟨_, h2⟩, h5⟩
end

def dOp2 (K : PySem.W.Frag) (p : D → D → DK → Prop) : R2 := fun x y H Q => ∃ Z d e R, Same Z H ∧ At K Z d x ∧ At K Z e y ∧ p d e R ∧ ∀ z Z' v H', R z → Ext Z H Z' H' → At K Z' z v → Q v H'
def dOp1 (K : PySem.W.Frag) (p : D → DK → Prop) : V → Hp → VK → Prop := fun x H Q => ∃ Z d R, Same Z H ∧ At K Z d x ∧ p d R ∧ ∀ z Z' v H', R z → Ext Z H Z' H' → At K Z' z v → Q v H'
def dCall (K : PySem.W.Frag) (p : List D → DK → Prop) : List V → Hp → VK → Prop := fun xs H Q => ∃ Z ds R, Same Z H ∧ Ats K Z ds xs ∧ p ds R ∧ ∀ z Z' v H', R z → Ext Z H Z' H' → At K Z' z v → Q v H'
section
variable {X : Cx} {G : GP γ} {a b c e : Expr} {pos : Pos}

def qC (d : D) : PEx γ := fun s R => R d s
theorem qe_of_C {v : V} {d : D} (h : PE X e (tC v)) (k : ∀ Z, At G.K Z d v) : QE X G e (qC d) :=
  PE.imp h fun σ H Q ⟨F, Z, s, R, r, t, q⟩ => q d s Z v H t (Same.refl _) r (k Z)
theorem qe_int {i j} : QE X G (.Constant (.int i) j pos) (qC (.int i)) := qe_of_C pe_int fun _ => rfl
theorem qe_bl {i j} : QE X G (.Constant (.bool i) j pos) (qC (.bl i)) := qe_of_C pe_bl fun _ => rfl
theorem qe_str {i j} : QE X G (.Constant (.str i) j pos) (qC (.str i)) := qe_of_C pe_str fun _ => rfl
def qVar (i : Nat) : PEx γ := fun s R => match s.ρ[i]? with
  | some (some (.val d)) => R d s
  | some (some (.own ds)) => R (.lst ds) ⟨s.ρ.set i (some (.val (.lst ds))), s.g⟩
  | some (some (.dic kds)) => R (.dct (kds.map (·.1)) (kds.map (·.2))) ⟨s.ρ.set i (some (.val (.dct (kds.map (·.1)) (kds.map (·.2))))), s.g⟩
  | _ => False
theorem qe_of_var {i : Nat} (h : PE X e (tVar i)) : QE X G e (qVar i) := by
  refine PE.imp h fun σ H Q ⟨F, Z, s, R, r, t, q⟩ => ?_
  unfold qVar at t
  split at t
  · rename_i d hd
    obtain ⟨v, h1, h2⟩ := r.loc i d hd
    exact ⟨v, h1, q d s Z v H t (Same.refl _) r h2⟩
  · rename_i ds hd
    obtain ⟨a, Z', k, h1, h2, r'⟩ := r.freeze hd
    exact ⟨.ref a, h1, q _ _ Z' _ H t k r' h2⟩
  · rename_i kds hd
    obtain ⟨a, Z', k, h1, h2, r'⟩ := r.freezeL hd rfl
    exact ⟨.ref a, h1, q _ _ Z' _ H t k r' h2⟩
  · exact t.elim
theorem qv (i : Nat) {x : Str} {pos : Pos} (hN : X.N[i]? = some x := by rfl) (hv : Vis X.env.scope x := by first | exact Or.inl rfl | exact Or.inr (Or.inl rfl) | exact Or.inr (Or.inr rfl)) (hd : (x == ("__debug__" : Str)) = false := by decide)
    (hcd : (x == ("__classdict__" : Str)) = false := by decide) : QE X G (.Name x pos) (qVar i) := qe_of_var (pe_var hN hv hd hcd)
theorem qe_glob {x : Str} {u : Value} {v : V} {d : D} (hg : Gl X x) (hm : X.mg x = some u) (r : RelV v u) (k : ∀ Z, At G.K Z d v) (hd : (x == ("__debug__" : Str)) = false := by decide) : QE X G (.Name x pos) (qC d) := qe_of_C (pe_glob hg hm r hd) k

def qBin (p : D → D → DK → Prop) (ta tb : PEx γ) : PEx γ := fun s R => ta s fun x s1 => tb s1 fun y s2 => p x y fun z => R z s2
theorem lbin {p : D → D → DK → Prop} {ta tb : PEx γ} {σ : St} {H : Hp} {Q : VK} (h : lE G (qBin p ta tb) σ H Q) : tOp (dOp2 G.K p) (lE G ta) (lE G tb) σ H Q := by
  obtain ⟨F, Z, s, R, r, t, q⟩ := h
  refine ⟨F, Z, s, _, r, t, fun x s1 Z1 v1 H1 t1 k1 r1 a1 => ⟨F, Z1, s1, _, r1, t1, fun y s2 Z2 v2 H2 t2 k2 r2 a2 => ?_⟩⟩
  exact ⟨Z2, x, y, _, r2.z, At.mono k2 _ _ a1, a2, t2, fun z Z3 v H3 t3 x3 a3 => q z s2 Z3 v H3 t3 ((k1.trans k2).trans x3.zz) (r2.ext x3) a3⟩
theorem qe_bin {op : Operator} {p : D → D → DK → Prop} {ta tb : PEx γ} (ho : OpR X (binaryOp op) (dOp2 G.K p)) (ha : QE X G a ta) (hb : QE X G b tb) : QE X G (.BinOp a op b pos) (qBin p ta tb) :=
  PE.imp (pe_op ho ha hb) fun _ _ _ h => lbin h
theorem qe_cmp {op : CmpOp} {p : D → D → DK → Prop} {ta tb : PEx γ} (ho : OpR X (compareOp op) (dOp2 G.K p)) (ha : QE X G a ta) (hb : QE X G b tb) (hm : behindInMarks op b = false) : QE X G (.Compare a [op] [b] pos) (qBin p ta tb) :=
  PE.imp (pe_cmpR ho ha hb hm) fun _ _ _ h => lbin h
def qB (t : PEx γ) : PTx γ := fun s R => t s fun x s1 => match x with | .bl b => R b s1 | _ => False
theorem lB {t : PEx γ} {te : TE} (k : ∀ σ H Q, lE G t σ H Q → te σ H Q) {σ : St} {H : Hp} {Q : Bool → Hp → Prop} (h : lT G (qB t) σ H Q) : te σ H fun x H1 => ∃ c, x = .bl c ∧ Q c H1 := by
  obtain ⟨F, Z, s, R, r, t, q⟩ := h
  refine k _ _ _ ⟨F, Z, s, _, r, t, fun d s1 Z1 v H1 t1 k1 r1 a1 => ?_⟩
  cases d with
  | bl b =>
    have e : v = .bl b := a1
    exact ⟨b, e, q b s1 Z1 H1 t1 k1 r1⟩
  | _ => exact t1.elim
theorem qt_cmp {op : CmpOp} {p : D → D → DK → Prop} {ta tb : PEx γ} (ho : OpR X (compareOp op) (dOp2 G.K p)) (ha : QE X G a ta) (hb : QE X G b tb) (hm : behindInMarks op b = false) : QT X G (.Compare a [op] [b] pos) (qB (qBin p ta tb)) :=
  PT.imp (pt_cmpR ho ha hb hm) fun _ _ _ h => lB (te := tOp (dOp2 G.K p) (lE G ta) (lE G tb)) (fun _ _ _ h => lbin h) h
theorem qt_val {t : PEx γ} (h : QE X G e t) (he : ∀ whole, isTrue e X.env whole = (do let v ← whole; standAt e.pos; holding [v] (truthy v)) := by intro _; rfl) : QT X G e (qB t) :=
  PT.imp (pt_val h he) fun _ _ _ h => lB (fun _ _ _ h => h) h
def qChain (p p' : D → D → DK → Prop) (ta tb tc : PEx γ) : PEx γ := fun s R => ta s fun x s1 => tb s1 fun y s2 => p x y fun z => match z with
  | .bl true => tc s2 fun w s3 => p' y w fun u => R u s3
  | .bl false => R (.bl false) s2
  | _ => False
theorem lchain {p p' : D → D → DK → Prop} {ta tb tc : PEx γ} {σ : St} {H : Hp} {Q : VK} (h : lE G (qChain p p' ta tb tc) σ H Q) : tChain (dOp2 G.K p) (dOp2 G.K p') (lE G ta) (lE G tb) (lE G tc) σ H Q := by
  obtain ⟨F, Z, s, R, r, t, q⟩ := h
  refine ⟨F, Z, s, _, r, t, fun x s1 Z1 v1 H1 t1 k1 r1 a1 => ⟨F, Z1, s1, _, r1, t1, fun y s2 Z2 v2 H2 t2 k2 r2 a2 => ?_⟩⟩
  refine ⟨Z2, x, y, _, r2.z, At.mono k2 _ _ a1, a2, t2, fun z Z3 v H3 t3 x3 a3 => ?_⟩
  have r3 := r2.ext x3
  cases z with
  | bl b =>
    have e : v = .bl b := a3
    refine ⟨b, e, ?_⟩
    cases b with
    | true =>
      rw [if_pos rfl]
      refine ⟨F, Z3, s2, _, r3, t3, fun w s4 Z4 v4 H4 t4 k4 r4 a4 => ?_⟩
      exact ⟨Z4, y, w, _, r4.z, At.mono (x3.zz.trans k4) _ _ a2, a4, t4, fun u Z5 v5 H5 t5 x5 a5 => q u s4 Z5 v5 H5 t5 ((((k1.trans k2).trans x3.zz).trans k4).trans x5.zz) (r4.ext x5) a5⟩
    | false =>
      rw [if_neg Bool.false_ne_true]
      exact q _ s2 Z3 _ H3 t3 ((k1.trans k2).trans x3.zz) r3 rfl
  | _ => exact t3.elim
theorem qe_chain {op op' : CmpOp} {p p' : D → D → DK → Prop} {ta tb tc : PEx γ} (ho : OpR X (compareOp op) (dOp2 G.K p)) (ho' : OpR X (compareOp op') (dOp2 G.K p')) (ha : QE X G a ta) (hb : QE X G b tb) (hc : QE X G c tc)
    (hm : lastMarks [op, op'] [b, c] = false := by rfl) : QE X G (.Compare a [op, op'] [b, c] pos) (qChain p p' ta tb tc) :=
  PE.imp (pe_chain ho ho' ha hb hc hm) fun _ _ _ h => lchain h
def qUn (p : D → DK → Prop) (ta : PEx γ) : PEx γ := fun s R => ta s fun x s1 => p x fun z => R z s1
theorem qe_un {op : UnaryOp} {p : D → DK → Prop} {ta : PEx γ} (ho : UnR X (unaryOp op) (dOp1 G.K p)) (ha : QE X G a ta) : QE X G (.UnaryOp op a pos) (qUn p ta) := by
  refine PE.imp (pe_un ho ha) fun σ H Q ⟨F, Z, s, R, r, t, q⟩ => ?_
  exact ⟨F, Z, s, _, r, t, fun x s1 Z1 v1 H1 t1 k1 r1 a1 => ⟨Z1, x, _, r1.z, a1, t1, fun z Z3 v H3 t3 x3 a3 => q z s1 Z3 v H3 t3 (k1.trans x3.zz) (r1.ext x3) a3⟩⟩

def Br (b : Bool) (A B : Prop) : Prop := (b = true → A) ∧ (b = false → B)
def qAndV (ta tb : PEx γ) : PEx γ := fun s R => qB ta s fun b s1 => Br b (tb s1 R) (R (.bl false) s1)
def qNotV (ta : PEx γ) : PEx γ := fun s R => qB ta s fun b s1 => R (.bl (!b)) s1
theorem lQB {ta : PEx γ} {σ : St} {H : Hp} {F : Fra} {Z : Hp} {s : S γ} {R : Bool → S γ → Prop} {Q : Bool → Hp → Prop} (r : Rel G F Z s σ H) (t : qB ta s R) (q : ∀ b s' Z' H', R b s' → Same Z Z' → Rel G F Z' s' σ H' → Q b H') :
    lE G ta σ H fun x H1 => ∃ c, x = .bl c ∧ Q c H1 := lB (fun _ _ _ h => h) ⟨F, Z, s, R, r, t, q⟩
theorem qe_one {op : BoolOp} {ta : PEx γ} (ha : QE X G a ta) : QE X G (.BoolOp op [a] pos) ta := pe_one ha
theorem qe_and {rest : List Expr} {ta tb : PEx γ} (ha : QE X G a ta) (hb : QE X G (.BoolOp .And (b :: rest) pos) tb) : QE X G (.BoolOp .And (a :: b :: rest) pos) (qAndV ta tb) := by
  refine PE.imp (pe_and ha hb) fun σ H Q ⟨F, Z, s, R, r, t, q⟩ => ?_
  refine lQB r t fun b s1 Z1 H1 t1 k1 r1 => ?_
  cases b with
  | true => rw [if_pos rfl]; exact ⟨F, Z1, s1, R, r1, t1.1 rfl, fun d s' Z' v H' t' k' => q d s' Z' v H' t' (k1.trans k')⟩
  | false => rw [if_neg Bool.false_ne_true]; exact q _ s1 Z1 _ H1 (t1.2 rfl) k1 r1 rfl
theorem qe_not {ta : PEx γ} (ha : QE X G a ta) : QE X G (.UnaryOp .Not a pos) (qNotV ta) := by
  refine PE.imp (pe_not ha) fun σ H Q ⟨F, Z, s, R, r, t, q⟩ => ?_
  exact lQB r t fun b s1 Z1 H1 t1 k1 r1 => q _ s1 Z1 _ H1 t1 k1 r1 rfl
def qAnd (ta tb : PTx γ) : PTx γ := fun s R => ta s fun b s1 => Br b (tb s1 R) (R false s1)
def qOr (ta tb : PTx γ) : PTx γ := fun s R => ta s fun b s1 => Br b (R true s1) (tb s1 R)
def qNot (ta : PTx γ) : PTx γ := fun s R => ta s fun b s1 => R (!b) s1
theorem qw_and1 {op : BoolOp} {ta : PTx γ} (ha : QT X G a ta) : QW X G (.BoolOp op [a] pos) ta := by
  first
    | exact pw_and1 ha
    | (cases op; exact pw_and1 ha; exact pw_or1 ha)
theorem qw_and {rest : List Expr} {ta tb : PTx γ} (ha : QT X G a ta) (hb : QW X G (.BoolOp .And (b :: rest) pos) tb) : QW X G (.BoolOp .And (a :: b :: rest) pos) (qAnd ta tb) := by
  refine PW.imp (pw_and ha hb) fun σ H Q ⟨F, Z, s, R, r, t, q⟩ => ?_
  refine ⟨F, Z, s, _, r, t, fun b s1 Z1 H1 t1 k1 r1 => ?_⟩
  cases b with
  | true => rw [if_pos rfl]; exact ⟨F, Z1, s1, R, r1, t1.1 rfl, fun b s' Z' H' t' k' => q b s' Z' H' t' (k1.trans k')⟩
  | false => rw [if_neg Bool.false_ne_true]; exact q _ s1 Z1 H1 (t1.2 rfl) k1 r1
theorem qw_or {rest : List Expr} {ta tb : PTx γ} (ha : QT X G a ta) (hb : QW X G (.BoolOp .Or (b :: rest) pos) tb) : QW X G (.BoolOp .Or (a :: b :: rest) pos) (qOr ta tb) := by
  refine PW.imp (pw_or ha hb) fun σ H Q ⟨F, Z, s, R, r, t, q⟩ => ?_
  refine ⟨F, Z, s, _, r, t, fun b s1 Z1 H1 t1 k1 r1 => ?_⟩
  cases b with
  | true => rw [if_pos rfl]; exact q _ s1 Z1 H1 (t1.1 rfl) k1 r1
  | false => rw [if_neg Bool.false_ne_true]; exact ⟨F, Z1, s1, R, r1, t1.2 rfl, fun b s' Z' H' t' k' => q b s' Z' H' t' (k1.trans k')⟩
theorem qt_not {ta : PTx γ} (ha : QT X G a ta) : QT X G (.UnaryOp .Not a pos) (qNot ta) := by
  refine PT.imp (pt_not ha) fun σ H Q ⟨F, Z, s, R, r, t, q⟩ => ?_
  exact ⟨F, Z, s, _, r, t, fun b s1 Z1 H1 t1 k1 r1 => q _ s1 Z1 H1 t1 k1 r1⟩
def qIfE (tc : PTx γ) (ta tb : PEx γ) : PEx γ := fun s R => tc s fun k s1 => Br k (ta s1 R) (tb s1 R)
theorem qe_if {tc : PTx γ} {ta tb : PEx γ} (hc : QT X G c tc) (ha : QE X G a ta) (hb : QE X G b tb) : QE X G (.IfExp c a b pos) (qIfE tc ta tb) := by
  refine PE.imp (pe_ifExp hc ha hb) fun σ H Q ⟨F, Z, s, R, r, t, q⟩ => ?_
  refine ⟨F, Z, s, _, r, t, fun k s1 Z1 H1 t1 k1 r1 => ?_⟩
  cases k with
  | true => rw [if_pos rfl]; exact ⟨F, Z1, s1, R, r1, t1.1 rfl, fun d s' Z' v H' t' k' => q d s' Z' v H' t' (k1.trans k')⟩
  | false => rw [if_neg Bool.false_ne_true]; exact ⟨F, Z1, s1, R, r1, t1.2 rfl, fun d s' Z' v H' t' k' => q d s' Z' v H' t' (k1.trans k')⟩

def qNil : PAx γ := fun s R => R [] s
def qCons (ta : PEx γ) (tr : PAx γ) : PAx γ := fun s R => ta s fun x s1 => tr s1 fun xs s2 => R (x :: xs) s2
theorem qa_nil : QA X G [] (qNil : PAx γ) := PA.imp pa_nil fun σ H Q ⟨F, Z, s, R, r, t, q⟩ => q [] s Z [] H t (Same.refl _) r rfl
theorem qa_cons {es : List Expr} {ta : PEx γ} {tr : PAx γ} (ha : QE X G e ta) (hr : QA X G es tr) (hs : starEach (e :: es) X.env = (false, eval e X.env) :: starEach es X.env := by rfl) : QA X G (e :: es) (qCons ta tr) := by
  refine PA.imp (pa_cons ha hr hs) fun σ H Q ⟨F, Z, s, R, r, t, q⟩ => ?_
  refine ⟨F, Z, s, _, r, t, fun x s1 Z1 v1 H1 t1 k1 r1 a1 => ⟨F, Z1, s1, _, r1, t1, fun xs s2 Z2 vs H2 t2 k2 r2 a2 => ?_⟩⟩
  exact q _ s2 Z2 _ H2 t2 (k1.trans k2) r2 ⟨v1, vs, rfl, At.mono k2 _ _ a1, a2⟩
def qTup (t : PAx γ) : PEx γ := fun s R => t s fun xs s1 => xs.length ≤ sizeLine ∧ R (.tup xs) s1
def qLst (t : PAx γ) : PAx γ := fun s R => t s fun xs s1 => xs.length ≤ sizeLine ∧ R xs s1
theorem qe_tup {es : List Expr} {t : PAx γ} {x1} (h : QA X G es t) : QE X G (.Tuple es x1 pos) (qTup t) := by
  refine PE.imp (pe_tup h) fun σ H Q ⟨F, Z, s, R, r, t, q⟩ => ?_
  refine ⟨F, Z, s, _, r, t, fun xs s1 Z1 vs H1 t1 k1 r1 a1 => ⟨by rw [a1.len]; exact t1.1, fun p hp => ?_⟩⟩
  have x := Ext.new (o := HO.tup vs) r1.z hp
  exact q _ s1 _ _ _ t1.2 (k1.trans x.zz) (r1.ext x) ⟨p, vs, rfl, .inl (.inl upd_same), Ats.mono x.zz _ _ a1⟩
theorem Rel.fresh {F : Fra} {Z : Hp} {s : S γ} {σ : St} {H : Hp} (r : Rel G F Z s σ H) {p : Addr} (hp : H p = none) : Z p = none ∧ F.F p = none ∧ ¬ G.foot s.g p ∧ Nob s σ p := by
  refine ⟨r.z.free hp, r.f.free hp, fun h => ?_, fun i l h ol e => ?_⟩
  · obtain ⟨o, e⟩ := G.live _ _ _ _ r.j h
    rw [hp] at e; cases e
  · obtain ⟨a, vs, h1, h2, _⟩ := r.ownL i l h ol
    rw [h1] at e; cases e
    rw [hp] at h2; cases h2
theorem qf_lst {es : List Expr} {t : PAx γ} (h : QA X G es t) : QF X G (.List es pos) (qLst t) := by
  refine PE.imp (pe_lst h) fun σ H Q ⟨F, Z, s, R, r, t, q⟩ => ?_
  refine ⟨F, Z, s, _, r, t, fun xs s1 Z1 vs H1 t1 k1 r1 a1 => ⟨by rw [a1.len]; exact t1.1, fun p hp => ?_⟩⟩
  obtain ⟨f1, f2, f3, f4⟩ := r1.fresh hp
  exact q _ s1 Z1 p vs _ t1.2 k1 (r1.grow (same_upd hp)) upd_same a1 f1 f2 f3 f4
def qSet (t : PAx γ) : PEx γ := fun s R => t s fun ds s1 => R (.lst ds) s1
theorem qe_set {t : PAx γ} (h : QF X G e t) : QE X G e (qSet t) := by
  refine PE.imp h fun σ H Q ⟨F, Z, s, R, r, t, q⟩ => ?_
  refine ⟨F, Z, s, _, r, t, fun ds s1 Z1 a vs H1 t1 k1 r1 ha a1 hz hf hg ho => ?_⟩
  have k := same_upd (o := HO.lst vs) hz
  exact q _ s1 (upd Z1 a (.lst vs)) _ H1 t1 (k1.trans k) (r1.settle ha hz hg (Fra.nb hf) ho) ⟨a, vs, rfl, upd_same, Ats.mono k _ _ a1⟩

def qCall (p : List D → DK → Prop) (t : PAx γ) : PEx γ := fun s R => t s fun xs s1 => p xs fun z => R z s1
theorem lcall {p : List D → DK → Prop} {t : PAx γ} {σ : St} {H : Hp} {Q : VK} (h : lE G (qCall p t) σ H Q) : tCB (dCall G.K p) (lA G t) σ H Q := by
  obtain ⟨F, Z, s, R, r, t, q⟩ := h
  refine ⟨F, Z, s, _, r, t, fun xs s1 Z1 vs H1 t1 k1 r1 a1 => ?_⟩
  exact ⟨Z1, xs, _, r1.z, a1, t1, fun z Z3 v H3 t3 x3 a3 => q z s1 Z3 v H3 t3 (k1.trans x3.zz) (r1.ext x3) a3⟩
section
variable {x : Str} {p : Pos} {es : List Expr} {t : PAx γ} {id T : String}
theorem qe_callB {pr : List D → DK → Prop} (hc : CallR X (.builtin id) (dCall G.K pr)) (hg : Gl X x) (hm : X.mg x = none) (hv : bootBuiltins x = some (.builtin id)) (ha : QA X G (e :: es) t) (hn : x ≠ "__name__" := by decide) (hdb : (x == ("__debug__" : Str)) = false := by decide)
    (he : starEach (e :: es) X.env = (false, eval e X.env) :: starEach es X.env := by rfl) (hpl : (backTo pos (starEach es X.env)).any (·.1) = false := by rfl) : QE X G (.Call (.Name x p) (e :: es) [] pos) (qCall pr t) :=
  PE.imp (pe_callB hc hg hm hv ha hn hdb he hpl) fun _ _ _ h => lcall h
theorem qe_callTy {pr : List D → DK → Prop} (hc : CallR X (.type T) (dCall G.K pr)) (hg : Gl X x) (hm : X.mg x = none) (hv : bootBuiltins x = some (.type T)) (ha : QA X G (e :: es) t) (hn : x ≠ "__name__" := by decide) (hdb : (x == ("__debug__" : Str)) = false := by decide)
    (he : starEach (e :: es) X.env = (false, eval e X.env) :: starEach es X.env := by rfl) (hpl : (backTo pos (starEach es X.env)).any (·.1) = false := by rfl) : QE X G (.Call (.Name x p) (e :: es) [] pos) (qCall pr t) :=
  PE.imp (pe_callTy hc hg hm hv ha hn hdb he hpl) fun _ _ _ h => lcall h
end

abbrev Spec (γ : Type) := List D → γ → (D → γ → Prop) → Prop
def spG (G : GP γ) (f : Spec γ) : Sp := fun vs H Q _ => ∃ Z ds g R, Same Z H ∧ Ats G.K Z ds vs ∧ G.J g Z H ∧ (∀ a, G.foot g a → Z a = none) ∧ f ds g R ∧
  ∀ d g' Z' v H', R d g' → Same Z Z' → Same Z' H' → (∀ a o, H a = some o → ¬ G.foot g a → H' a = some o) → (∀ a o, Z' a = some o → Z a = none → H a = none) → G.J g' Z' H' → (∀ a, G.foot g' a → Z' a = none ∧ (G.foot g a ∨ H a = none)) → At G.K Z' d v → Q v H'
abbrev Spec0 := List D → DK → Prop
def spP (K : PySem.W.Frag) (f : Spec0) : Sp := fun vs H Q _ => ∃ Z ds R, Same Z H ∧ Ats K Z ds vs ∧ f ds R ∧ ∀ d Z' v H', R d → Same Z Z' → Same Z' H' → Same H H' → (∀ a o, Z' a = some o → Z a = none → H a = none) → At K Z' d v → Q v H'
structure Def (X : Cx) (x : Str) (n : Nat) (sp : Sp) : Prop where
  ex : ∃ f fd k ps, FnOk X.prog X.w X.K X.mg X.base CX0 k f fd ps sp ∧ Room k X.A ∧ X.mg x = some (.ref f) ∧ PySem.W.keepIn X.K (.ref f) = true ∧ Binds X.K fd ps [] ∧ ps.length = n
def qCallP (f : Spec0) (t : PAx γ) : PEx γ := fun s R => t s fun xs s1 => f xs fun z => R z s1
def qCallG (f : Spec γ) (t : PAx γ) : PEx γ := fun s R => t s fun xs s1 => f xs s1.g fun z g' => R z ⟨s1.ρ, g'⟩
section
variable {x : Str} {p : Pos} {es : List Expr} {t : PAx γ} {n : Nat}
theorem lcallP {f : Spec0} {σ : St} {H : Hp} {Q : VK} (h : lE G (qCallP f t) σ H Q) : tCall (spP G.K f) [] E0 (lA G t) σ H Q := by
  obtain ⟨F, Z, s, R, r, t, q⟩ := h
  refine ⟨F, Z, s, _, r, t, fun xs s1 Z1 vs H1 t1 k1 r1 a1 => ?_⟩
  refine ⟨Z1, xs, _, r1.z, by rw [List.append_nil]; exact a1, t1, fun z Z3 v H3 t3 k3 z3 h3 n3 a3 => ?_⟩
  exact q z s1 Z3 v H3 t3 (k1.trans k3) (r1.ext ⟨h3, k3, z3, n3⟩) a3
theorem qe_call {f : Spec0} (d : Def X x n (spP G.K f)) (hg : Gl X x) (ha : QA X G (e :: es) t) (hdb : (x == ("__debug__" : Str)) = false := by decide) (he : starEach (e :: es) X.env = (false, eval e X.env) :: starEach es X.env := by rfl) (hpl : (backTo pos (starEach es X.env)).any (·.1) = false := by rfl) :
    QE X G (.Call (.Name x p) (e :: es) [] pos) (qCallP f t) := by
  obtain ⟨fa, fd, k, ps, F, hr, hm, hk, hb, _⟩ := d.ex
  exact PE.imp (pe_call F hr hg hm hk hb .nil pass0 ha hdb he hpl) fun _ _ _ h => lcallP h
theorem Rel.after {F : Fra} {Z Z' : Hp} {s : S γ} {σ : St} {H H' : Hp} {g' : γ} (r : Rel G F Z s σ H) (zz : Same Z Z') (zh : Same Z' H') (keep : ∀ a o, H a = some o → ¬ G.foot s.g a → H' a = some o) (nw : ∀ a o, Z' a = some o → Z a = none → H a = none) (hj : G.J g' Z' H')
    (hf : ∀ a, G.foot g' a → Z' a = none ∧ (G.foot s.g a ∨ H a = none)) : Rel G F Z' ⟨s.ρ, g'⟩ σ H' := by
  refine ⟨zh, fun a o e => ?_, fun a h => ?_, r.len, fun i d h => ?_, fun i l h ol => ?_, r.injL, hj, fun a h => (hf a h).1, fun a h => ?_, r.fl.trans zz⟩
  · refine keep a o (r.f _ _ e) fun h => ?_
    have := r.ff a h; rw [e] at this; cases this
  · cases q : Z' a with
    | none => rfl
    | some o =>
      have h1 := nw a o q (r.zb a h)
      obtain ⟨o', e⟩ := F.bf a h
      rw [r.f _ _ e] at h1; cases h1
  · obtain ⟨v, h1, h2⟩ := r.loc i d h
    exact ⟨v, h1, At.mono zz _ _ h2⟩
  · obtain ⟨a, vs, h1, h2, h3, h4, h5, h6⟩ := r.ownL i l h ol
    refine ⟨a, vs, h1, keep _ _ h2 h6, Ats.mono zz _ _ h3, ?_, h5, fun h7 => ?_⟩
    · cases q : Z' a with
      | none => rfl
      | some o => have := nw a o q h4; rw [h2] at this; cases this
    · rcases (hf a h7).2 with h8 | h8
      · exact h6 h8
      · rw [h2] at h8; cases h8
  · rcases (hf a h).2 with h8 | h8
    · exact r.ff a h8
    · exact r.f.free h8
theorem lcallG {f : Spec γ} {σ : St} {H : Hp} {Q : VK} (h : lE G (qCallG f t) σ H Q) : tCall (spG G f) [] E0 (lA G t) σ H Q := by
  obtain ⟨F, Z, s, R, r, t, q⟩ := h
  refine ⟨F, Z, s, _, r, t, fun xs s1 Z1 vs H1 t1 k1 r1 a1 => ?_⟩
  refine ⟨Z1, xs, s1.g, _, r1.z, by rw [List.append_nil]; exact a1, r1.j, r1.zf, t1, fun z g' Z3 v H3 t3 k3 z3 h3 n3 j3 f3 a3 => ?_⟩
  exact q z _ Z3 v H3 t3 (k1.trans k3) (r1.after k3 z3 h3 n3 j3 f3) a3
theorem qe_callG {f : Spec γ} (d : Def X x n (spG G f)) (hg : Gl X x) (ha : QA X G (e :: es) t) (hdb : (x == ("__debug__" : Str)) = false := by decide) (he : starEach (e :: es) X.env = (false, eval e X.env) :: starEach es X.env := by rfl) (hpl : (backTo pos (starEach es X.env)).any (·.1) = false := by rfl) :
    QE X G (.Call (.Name x p) (e :: es) [] pos) (qCallG f t) := by
  obtain ⟨fa, fd, k, ps, F, hr, hm, hk, hb, _⟩ := d.ex
  exact PE.imp (pe_call F hr hg hm hk hb .nil pass0 ha hdb he hpl) fun _ _ _ h => lcallG h
end
end
end Pm
set_option Elab.async false
set_option linter.all false
set_option maxRecDepth 100000
set_option maxHeartbeats 1000000
set_option autoImplicit false
namespace Pm
open PySem PySem.Spec
open PyProof.Rows hiding St
open L2
variable {γ : Type}

section
variable {prog : Program} {w : World} {A : Around} {E : Value → Shared → Prop} {s : Shared}
theorem draw_list {it t : Addr} {items : Array Value} (hne : t ≠ it) : ∀ (n i : Nat) (s : Shared) (Q : List Value → Shared → Prop), s.heap.IsListIter it t i → s.heap.IsList t items → i + n ≤ items.size →
    (∀ h', h'.IsListIter it t (i + n) → Heap.SameBut it s.heap h' → Q ((items.toList.drop i).take n) { s with heap := h' }) → wpAny (model prog w) A (draw (.ref it) n) Q E s
  | 0, i, s, Q, hit, _, _, hQ => by
    show wpAny _ _ (pure []) Q E s
    exact wpAny_pure (by simpa using hQ s.heap hit (Heap.SameBut.refl ..))
  | n + 1, i, s, Q, hit, ht, hle, hQ => by
    have hlt : i < items.size := by omega
    show wpAny _ _ (pyNext (.ref it) >>= _) Q E s
    refine wpAny_bind (wpAny_pyNext_list_item hit ht (x := items[i]) (by simp [hlt]) fun h₁ hit₁ hs₁ => ?_)
    refine wpAny_bind (wpAny_holding (draw_list hne n (i + 1) _ _ hit₁ (ht.extBut hs₁.extBut hne) (by omega) fun h₂ hit₂ hs₂ => wpAny_pure ?_))
    have hd : items.toList.drop i = items[i] :: items.toList.drop (i + 1) := by simp [List.drop_eq_getElem_cons, hlt]
    have := hQ h₂ (by rw [show i + (n + 1) = i + 1 + n by omega]; exact hit₂) (hs₁.trans hs₂)
    rw [hd, List.take_succ_cons] at this
    exact this
theorem unpackItems_list {t : Addr} {items : Array Value} {Q : List Value → Shared → Prop} (hh : A.handled = none) (ht : s.heap.IsList t items)
    (hQ : ∀ h', Heap.ExtBut s.heap.objs.size s.heap h' → Q items.toList { s with heap := h' }) : wpAny (model prog w) A (unpackItems (.ref t) items.size none) Q E s := by
  have hlt : t ≠ s.heap.objs.size := by obtain ⟨o, ho, _⟩ := ht; exact Nat.ne_of_lt (Heap.lt_size ho)
  unfold unpackItems
  refine wpAny_bind ?_
  · unfold notIterableAtAll
    refine wpAny_bind (wpAny_specialOf ht.typeIs PySem.F.slot_list_iter.lookup ?_)
    refine wpAny_pure ?_
    simp only [Bool.false_eq_true, if_false]
    refine wpAny_bind (wpAny_holding (wpAny_pyIter_list ht ?_))
    refine wpAny_bind (wpAny_holding (draw_list hlt items.size 0 _ _ ⟨_, Heap.get?_push_size _ rfl, rfl, rfl⟩ (ht.at fun o e => Heap.get?_push_of_some _ e) (by omega) fun h₁ hit₁ hs₁ => ?_))
    have hall : List.take items.size (List.drop 0 items.toList) = items.toList := by
      rw [List.drop_zero]; exact List.take_of_length_le (by simp)
    rw [hall]
    rw [if_neg (by simp)]
    have ht₁ : h₁.IsList t items := (ht.at fun o e => Heap.get?_push_of_some _ e).extBut hs₁.extBut hlt
    refine wpAny_bind (wpAny_holding (wpAny_pyNext_list_end hh hit₁ ht₁ (by simp) fun h₂ he₂ => ?_))
    simp only [Option.isSome_none, Bool.false_eq_true, if_false]
    refine wpAny_pure (hQ h₂ fun b o hb e => he₂ b o hb (hs₁.extBut b o hb (Heap.get?_push_of_some _ e)))
theorem unpack_list {t : Addr} {items : Array Value} {targets : List (Bool × (Value → Sem Unit))} {Q : Unit → Shared → Prop} (hh : A.handled = none) (ht : s.heap.IsList t items)
    (hn : targets.length = items.size) (hstar : targets.findIdx? (·.1) = none)
    (h : ∀ h', Heap.ExtBut s.heap.objs.size s.heap h' → wpAny (model prog w) A (assignInOrder (targets.map (·.2)) items.toList) Q E { s with heap := h' }) :
    wpAny (model prog w) A (unpack (.ref t) targets) Q E s := by
  unfold unpack
  rw [hn, hstar]
  exact wpAny_bind (wpAny_holding (unpackItems_list hh ht h))
theorem assign_Tuple_list {env : Env} {elts : List Expr} {x1} {pos : Pos} {t : Addr} {items : Array Value} {Q : Unit → Shared → Prop} (hh : A.handled = none) (ht : s.heap.IsList t items)
    (hn : (assignEach elts env).length = items.size) (hstar : (assignEach elts env).findIdx? (·.1) = none)
    (h : ∀ h', Heap.ExtBut s.heap.objs.size s.heap h' → wpAny (model prog w) A (assignInOrder ((assignEach elts env).map (·.2)) items.toList) Q E { s with heap := h' }) :
    wpAny (model prog w) A (assign (.Tuple elts x1 pos) env (.ref t)) Q E s := by
  rw [assign_Tuple]
  exact wpAny_bind (wpAny_standAt (unpack_list hh ht hn hstar h))
end
section
variable {X : Cx} {pos : Pos}
def gLs (K : PySem.W.Frag) (n : Nat) (t : TGs) : TG := fun v σ H Q => ∃ a xs, v = .ref a ∧ SqL K H a xs ∧ xs.length = n ∧ t xs σ H Q
theorem pg_lst {es : List Expr} {k : Nat} {t : TGs} {n : Nat} (hc : X.calm = true) (h : PGs X es t)
    (hn : (assignEach es X.env).length = n := by rfl) (hst : (assignEach es X.env).findIdx? (·.1) = none := by rfl) : PG X (.Tuple es k pos) (gLs X.K n t) := by
  refine ⟨fun pins s σ H v u Q I r hw => ?_⟩
  obtain ⟨a, xs, e1, hq, hl, hw⟩ := hw
  subst e1
  cases r
  obtain ⟨its, rv, ht, hz⟩ := I.list hq
  refine assign_Tuple_list (I.ok.hd hc) ht.isList (by simp [hn, ← hl, rv.length]) hst fun h' hx => ?_
  have I1 : L2.Inv X pins σ H { s with heap := h' } := I.kept (t' := s.toks) fun b o e => hx b o (Nat.ne_of_lt (Heap.lt_size e)) e
  exact h.run pins _ σ H xs _ Q I1 (by simpa using rv) hw
end

end Pm
set_option Elab.async false
set_option linter.all false
set_option maxRecDepth 100000
set_option maxHeartbeats 1000000
set_option autoImplicit false
namespace Pm
open PySem PySem.Spec
open PyProof.Rows hiding St
open L2
variable {γ : Type}

section
variable {X : Cx} {G : GP γ} {a b c e : Expr} {pos : Pos}
def qNext : PSx γ := fun E s => E.nx s
def qSeq (t u : PSx γ) : PSx γ := fun E s => t { E with nx := u E } s
theorem lSeq {t u : PSx γ} {De : Ends} {σ : St} {H : Hp} (h : lS G (qSeq t u) De σ H) : tSeq (lS G t) (lS G u) De σ H := by
  obtain ⟨F, Z, s, E, r, t, n, rt, bk, ct⟩ := h
  refine ⟨F, Z, s, _, r, t, fun s' Z' σ' H' u' k r' => ?_, rt, bk, ct⟩
  exact ⟨F, Z', s', E, r', u', fun s2 Z2 σ2 H2 q k2 r2 => n s2 Z2 σ2 H2 q (k.trans k2) r2, fun d s2 Z2 σ2 v H2 q k2 r2 a2 => rt d s2 Z2 σ2 v H2 q (k.trans k2) r2 a2,
    fun s2 Z2 σ2 H2 q k2 r2 => bk s2 Z2 σ2 H2 q (k.trans k2) r2, fun s2 Z2 σ2 H2 q k2 r2 => ct s2 Z2 σ2 H2 q (k.trans k2) r2⟩
theorem qss_nil : QSs X G [] (qNext : PSx γ) := PSs.imp pss_nil fun De σ H ⟨F, Z, s, E, r, t, n, _⟩ => n s Z σ H t (Same.refl _) r
theorem qss_cons {st : Stmt} {rest : List Stmt} {t u : PSx γ} (h1 : QS X G st t) (h2 : QSs X G rest u) : QSs X G (st :: rest) (qSeq t u) := PSs.imp (pss_cons h1 h2) fun _ _ _ h => lSeq h
theorem qss_one {st : Stmt} {t : PSx γ} (h1 : QS X G st t) : QSs X G [st] t := pss_one h1
def qDrop (te : PEx γ) : PSx γ := fun E s => te s fun _ s1 => E.nx s1
theorem qs_expr {te : PEx γ} (he : QE X G e te) (hs : swapsWith e none pos.line X.env = pure false := by rfl) : QS X G (.Expr e pos) (qDrop te) := by
  refine PS.imp (ps_expr he hs) fun De σ H ⟨F, Z, s, E, r, t, n, _⟩ => ?_
  exact ⟨F, Z, s, _, r, t, fun d s1 Z1 v H1 t1 k1 r1 a1 => n s1 Z1 σ H1 t1 k1 r1⟩
def qRet (te : PEx γ) : PSx γ := fun E s => te s fun d s1 => E.rt d s1.g
theorem qs_ret {te : PEx γ} (he : QE X G e te) : QS X G (.Return (some e) pos) (qRet te) := by
  refine PS.imp (ps_ret he) fun De σ H ⟨F, Z, s, E, r, t, _, rt, _⟩ => ?_
  exact ⟨F, Z, s, _, r, t, fun d s1 Z1 v H1 t1 k1 r1 a1 => rt d s1 Z1 σ v H1 t1 k1 r1 a1⟩
def qIf (c : PTx γ) (t u : PSx γ) : PSx γ := fun E s => c s fun b s1 => Br b (t E s1) (u E s1)
theorem qs_if {c : Expr} {a b : List Stmt} {tc : PTx γ} {t u : PSx γ} (hc : QT X G c tc) (ha : QSs X G a t) (hb : QSs X G b u) : QS X G (.If c a b pos) (qIf tc t u) := by
  refine PS.imp (ps_if hc ha hb) fun De σ H ⟨F, Z, s, E, r, t, n, rt, bk, ct⟩ => ?_
  refine ⟨F, Z, s, _, r, t, fun k s1 Z1 H1 t1 k1 r1 => ?_⟩
  have go : ∀ {t : PSx γ}, t E s1 → lS G t De σ H1 := fun {t} q => ⟨F, Z1, s1, E, r1, q, fun s2 Z2 σ2 H2 q k2 r2 => n s2 Z2 σ2 H2 q (k1.trans k2) r2, fun d s2 Z2 σ2 v H2 q k2 r2 a2 => rt d s2 Z2 σ2 v H2 q (k1.trans k2) r2 a2,
    fun s2 Z2 σ2 H2 q k2 r2 => bk s2 Z2 σ2 H2 q (k1.trans k2) r2, fun s2 Z2 σ2 H2 q k2 r2 => ct s2 Z2 σ2 H2 q (k1.trans k2) r2⟩
  cases k with
  | true => exact iteT (go (t1.1 rfl))
  | false => exact iteF (go (t1.2 rfl))

def qAsg (te : PEx γ) (i : Nat) : PSx γ := fun E s => te s fun d s1 => E.nx ⟨s1.ρ.set i (some (.val d)), s1.g⟩
theorem lasg {te : PEx γ} {i : Nat} {De : Ends} {σ : St} {H : Hp} (h : lS G (qAsg te i) De σ H) : tAsg (lE G te) (gName i) De σ H := by
  obtain ⟨F, Z, s, E, r, t, n, _⟩ := h
  exact ⟨F, Z, s, _, r, t, fun d s1 Z1 v H1 t1 k1 r1 a1 => n _ Z1 _ H1 t1 k1 (r1.put a1)⟩
def qAsgOwn (te : PAx γ) (i : Nat) : PSx γ := fun E s => te s fun ds s1 => E.nx ⟨s1.ρ.set i (some (.own ds)), s1.g⟩
theorem lasgOwn {te : PAx γ} {i : Nat} {De : Ends} {σ : St} {H : Hp} (h : lS G (qAsgOwn te i) De σ H) : tAsg (lF G te) (gName i) De σ H := by
  obtain ⟨F, Z, s, E, r, t, n, _⟩ := h
  exact ⟨F, Z, s, _, r, t, fun ds s1 Z1 a vs H1 t1 k1 r1 ha a1 hz hf hg ho => n _ Z1 _ H1 t1 k1 (r1.putOwn ha a1 hz hf hg ho)⟩
section
variable {i : Nat} {x : Str} {pos' : Pos}
theorem qs_set {te : PEx γ} (hN : X.N.Nodup) (hi : X.N[i]? = some x) (hx : Loc X.env.scope x) (he : QE X G e te) (hs : swapsWith e (some (.Name x pos')) pos.line X.env = pure false := by rfl) (hf : X.fn x = true ∨ X.env.scope.names.lookup x = some .local := by first | exact .inl rfl | exact .inr rfl | assumption) :
    QS X G (.Assign [.Name x pos'] e pos) (qAsg te i) := PS.imp (ps_set hN hi hx he hs hf) fun _ _ _ h => lasg h
theorem qs_setOwn {te : PAx γ} (hN : X.N.Nodup) (hi : X.N[i]? = some x) (hx : Loc X.env.scope x) (he : QF X G e te) (hs : swapsWith e (some (.Name x pos')) pos.line X.env = pure false := by rfl) (hf : X.fn x = true ∨ X.env.scope.names.lookup x = some .local := by first | exact .inl rfl | exact .inr rfl | assumption) :
    QS X G (.Assign [.Name x pos'] e pos) (qAsgOwn te i) := PS.imp (ps_set hN hi hx he hs hf) fun _ _ _ h => lasgOwn h
end
inductive Tg where | nm (i : Nat) | tp (ts : List Tg)
mutual
def Tg.put : Tg → D → List (Option L) → Option (List (Option L))
  | .nm i, d, ρ => some (ρ.set i (some (.val d)))
  | .tp ts, d, ρ => match d with
    | .tup ds => Tg.puts ts ds ρ
    | .lst ds => Tg.puts ts ds ρ
    | _ => none
def Tg.puts : List Tg → List D → List (Option L) → Option (List (Option L))
  | [], [], ρ => some ρ
  | t :: ts, d :: ds, ρ => (t.put d ρ).bind fun ρ' => Tg.puts ts ds ρ'
  | _, _, _ => none
end
mutual
def Tg.js : Tg → List Nat
  | .nm i => [i]
  | .tp ts => Tg.jss ts
def Tg.jss : List Tg → List Nat
  | [] => []
  | t :: ts => t.js ++ Tg.jss ts
end
def qPut (tg : Tg) : PGx γ := fun d s R => match tg.put d s.ρ with
  | some ρ' => R ⟨ρ', s.g⟩
  | none => False
def qPuts (ts : List Tg) : List D → S γ → (S γ → Prop) → Prop := fun ds s R => match Tg.puts ts ds s.ρ with
  | some ρ' => R ⟨ρ', s.g⟩
  | none => False
def lGs (G : GP γ) (js : List Nat) (t : List D → S γ → (S γ → Prop) → Prop) : TGs := fun vs σ H Q => ∃ F Z s ds R, Rel G F Z s σ H ∧ Ats G.K Z ds vs ∧ t ds s R ∧
  ∀ s' Z' σ' H', R s' → Same Z Z' → Rel G F Z' s' σ' H' → H' = H → (∀ j, j ∉ js → σ'[j]? = σ[j]?) → σ'.length = σ.length → Q σ' H'
theorem PGs.imp {es : List Expr} {t t' : TGs} (h : PGs X es t) (k : ∀ v σ H Q, t' v σ H Q → t v σ H Q) : PGs X es t' := ⟨fun pins s σ H v u Q I r w => h.run pins s σ H v u Q I r (k _ _ _ _ w)⟩
abbrev QG' (X : Cx) (G : GP γ) (tg : Expr) (t : Tg) : Prop := PG X tg (lG G t.js (qPut t))
abbrev QGs (X : Cx) (G : GP γ) (es : List Expr) (ts : List Tg) : Prop := PGs X es (lGs G (Tg.jss ts) (qPuts ts))
theorem qg_name {i : Nat} {x : Str} (hN : X.N.Nodup) (hi : X.N[i]? = some x) (hx : Loc X.env.scope x) (hf : X.fn x = true ∨ X.env.scope.names.lookup x = some .local := by first | exact .inl rfl | exact .inr rfl | assumption) : QG' X G (.Name x pos) (.nm i) := by
  refine PG.imp (pg_name hN hi hx hf) fun v σ H Q ⟨F, Z, s, d, R, r, a, t, q⟩ => ?_
  exact q _ Z _ H t (Same.refl _) (r.put a) rfl (fun j hj => List.getElem?_set_ne (by simpa [Tg.js, eq_comm] using hj)) (by simp)
theorem qgs_nil : QGs X G [] [] := by
  refine PGs.imp pgs_nil fun vs σ H Q ⟨F, Z, s, ds, R, r, a, t, q⟩ => ?_
  cases ds with
  | nil => exact ⟨a, q _ Z σ H t (Same.refl _) r rfl (fun _ _ => rfl) rfl⟩
  | cons d ds => exact t.elim
theorem qgs_cons {e : Expr} {es : List Expr} {t : Tg} {ts : List Tg} (h1 : QG' X G e t) (h2 : QGs X G es ts)
    (hs : (assignEach (e :: es) X.env).map (·.2) = assign e X.env :: (assignEach es X.env).map (·.2) := by rfl) : QGs X G (e :: es) (t :: ts) := by
  refine PGs.imp (pgs_cons h1 h2 hs) fun vs σ H Q ⟨F, Z, s, ds, R, r, a, w, q⟩ => ?_
  cases ds with
  | nil => exact w.elim
  | cons d ds =>
    simp only [Ats] at a
    obtain ⟨v, vr, e, a1, a2⟩ := a
    unfold qPuts at w
    simp only [Tg.puts] at w
    cases hp : t.put d s.ρ with
    | none => rw [hp] at w; exact w.elim
    | some ρ' =>
      rw [hp] at w
      simp only [Option.bind_some] at w
      refine ⟨v, vr, e, F, Z, s, d, fun s1 => qPuts ts ds s1 R, r, a1, ?_, fun s1 Z1 σ1 H1 w1 k1 r1 e1 o1 l1 => ?_⟩
      · unfold qPut; rw [hp]; exact w
      · refine ⟨F, Z1, s1, ds, R, r1, Ats.mono k1 _ _ a2, w1, fun s2 Z2 σ2 H2 w2 k2 r2 e2 o2 l2 => ?_⟩
        refine q s2 Z2 σ2 H2 w2 (k1.trans k2) r2 (e2.trans e1) (fun j hj => ?_) (l2.trans l1)
        simp only [Tg.jss, List.mem_append, not_or] at hj
        rw [o2 j hj.2, o1 j hj.1]
theorem Tg.puts_len : ∀ {ts : List Tg} {ds : List D} {ρ ρ' : List (Option L)}, Tg.puts ts ds ρ = some ρ' → ds.length = ts.length
  | [], [], _, _, _ => rfl
  | [], _ :: _, _, _, h => by simp [Tg.puts] at h
  | _ :: _, [], _, _, h => by simp [Tg.puts] at h
  | t :: ts, d :: ds, ρ, ρ', h => by
    simp only [Tg.puts] at h
    cases hp : t.put d ρ with
    | none => rw [hp] at h; simp at h
    | some ρ1 =>
      rw [hp] at h
      simp only [Option.bind_some] at h
      simp [Tg.puts_len h]
theorem qg_tup {es : List Expr} {k : Nat} {ts : List Tg} (hc : X.calm = true) (h : QGs X G es ts) (hK : X.K = G.K := by rfl)
    (hn : (assignEach es X.env).length = ts.length := by rfl) (hst : (assignEach es X.env).findIdx? (·.1) = none := by rfl) : QG' X G (.Tuple es k pos) (.tp ts) := by
  refine ⟨fun pins s0 σ H v u Q I rv hw => ?_⟩
  obtain ⟨F, Z, s, d, R, r, a, w, q⟩ := hw
  unfold qPut at w
  cases d with
  | tup ds =>
    simp only [Tg.put] at w
    simp only [At] at a
    obtain ⟨p, vs, e, hs, a⟩ := a
    have hl : ds.length = ts.length := by
      cases hp : Tg.puts ts ds s.ρ with
      | none => rw [hp] at w; exact w.elim
      | some ρ' => exact Tg.puts_len hp
    exact (pg_tup hc h hn hst).run pins s0 σ H v u Q I rv ⟨p, vs, e, by rw [hK]; exact seqT r.z hs, by rw [a.len]; exact hl, F, Z, s, ds, R, r, a, w, q⟩
  | lst ds =>
    simp only [Tg.put] at w
    simp only [At] at a
    obtain ⟨p, vs, e, hs, a⟩ := a
    have hl : ds.length = ts.length := by
      cases hp : Tg.puts ts ds s.ρ with
      | none => rw [hp] at w; exact w.elim
      | some ρ' => exact Tg.puts_len hp
    exact (pg_lst hc h hn hst).run pins s0 σ H v u Q I rv ⟨p, vs, e, .inl (.inl (r.z _ _ hs)), by rw [a.len]; exact hl, F, Z, s, ds, R, r, a, w, q⟩
  | _ => exact w.elim
def qAsgT (te : PEx γ) (tg : Tg) : PSx γ := fun E s => te s fun d s1 => qPut tg d s1 E.nx
theorem qs_setT {tg : Expr} {te : PEx γ} {t : Tg} (he : QE X G e te) (hg : QG' X G tg t) (hs : swapsWithSole [tg] e pos.line X.env = pure false := by rfl) (hw : swappedStores [tg] e X.env = pure none := by rfl)
    (h1 : (assignEach [tg] X.env).map (·.2) = [assign tg X.env] := by rfl) : QS X G (.Assign [tg] e pos) (qAsgT te t) := by
  refine PS.imp (ps_asg he hg hs hw h1) fun De σ H ⟨F, Z, s, E, r, t, n, _⟩ => ?_
  exact ⟨F, Z, s, _, r, t, fun d s1 Z1 v H1 t1 k1 r1 a1 => ⟨F, Z1, s1, d, E.nx, r1, a1, t1, fun s2 Z2 σ2 H2 q2 k2 r2 _ _ _ => n s2 Z2 σ2 H2 q2 (k1.trans k2) r2⟩⟩
def Walks (K : PySem.W.Frag) (J : It) (Z : Hp) (ds : List D) : Prop := ∀ (i : Nat) (Z1 H : Hp), Same Z Z1 → Same Z1 H →
  (∀ d, ds[i]? = some d → J.go i H ∧ ∀ x H', J.yld i H x H' → ∃ Z', Ext Z1 H Z' H' ∧ At K Z' d x) ∧ (i = ds.length → J.stop i H)
def lI (G : GP γ) (t : PAx γ) : TI := fun σ H R => ∃ F Z s Rp, Rel G F Z s σ H ∧ t s Rp ∧ ∀ ds s' Z' H' J, Rp ds s' → Same Z Z' → Rel G F Z' s' σ H' → Walks G.K J Z' ds → R J H'
abbrev QI (X : Cx) (G : GP γ) (tg iter : Expr) (t : PAx γ) : Prop := PI X tg iter (lI G t)
theorem PI.imp {tg iter : Expr} {t t' : TI} (h : PI X tg iter t) (k : ∀ σ H R, t' σ H R → t σ H R) : PI X tg iter t' := ⟨fun pins s σ H R I w => h.run pins s σ H R I (k _ _ _ w)⟩

def qFor (ti : PAx γ) (tg : Tg) (tb : PSx γ) : PSx γ := fun E s => ti s fun ds s1 => ∃ I : Nat → S γ → Prop, (∃ s0, Wk s1 s0 ∧ I 0 s0) ∧
  (∀ i d s, ds[i]? = some d → I i s → qPut tg d s fun s2 => tb { E with nx := fun s' => ∃ s'', Wk s' s'' ∧ I (i + 1) s'', ct := fun s' => ∃ s'', Wk s' s'' ∧ I (i + 1) s'', bk := E.nx } s2) ∧ ∀ s, I ds.length s → E.nx s
theorem qs_for {iter tg : Expr} {body : List Stmt} {ti : PAx γ} {t : Tg} {tb : PSx γ} (hp : PassesOwn (model X.prog X.w) X.A X.env X.xe) (hc : X.calm = true) (hi : QI X G tg iter ti) (hg : QG' X G tg t) (hb : QSs X G body tb)
    (hs : ∀ x, foldedSetIterable iter X.env x = pure x := by intro _; rfl) : QS X G (.For tg iter body [] pos) (qFor ti t tb) := by
  refine PS.imp (ps_for hp hc hi hg hb hs) fun De σ H ⟨F, Z, s, E, r, w, n, rt, bk, ct⟩ => ?_
  refine ⟨F, Z, s, _, r, w, fun ds s1 Z1 H1 J w1 k1 r1 wJ => ?_⟩
  obtain ⟨I, ⟨s0, wk0, i0⟩, turn, done⟩ := w1
  refine ⟨fun i m σ H => m = ds.length - i ∧ i ≤ ds.length ∧ ∃ Z' s', Same Z1 Z' ∧ Rel G F Z' s' σ H ∧ I i s', ⟨ds.length, rfl, Nat.zero_le _, Z1, s0, Same.refl _, r1.weak wk0, i0⟩, ?_⟩
  rintro i m σ2 H2 ⟨hm, hi, Z2, s2, k2, r2, i2⟩
  obtain ⟨go, stop⟩ := wJ i Z2 H2 k2 r2.z
  by_cases hlt : i < ds.length
  · obtain ⟨g1, y1⟩ := go ds[i] (List.getElem?_eq_getElem hlt)
    refine .inr ⟨g1, fun σ' H' => ∃ Z' s', Same Z1 Z' ∧ Rel G F Z' s' σ' H' ∧ I (i + 1) s', fun σ' H' h => ⟨ds.length - (i + 1), by omega, rfl, hlt, h⟩, fun x H3 y => ?_⟩
    obtain ⟨Z3, x3, a3⟩ := y1 x H3 y
    have r3 := r2.ext x3
    have k3 := k2.trans x3.zz
    refine ⟨F, Z3, s2, ds[i], _, r3, a3, turn i ds[i] s2 (List.getElem?_eq_getElem hlt) i2, fun s4 Z4 σ4 H4 w4 k4 r4 _ _ _ => ?_⟩
    refine ⟨F, Z4, s4, _, r4, w4, ?_, ?_, ?_, ?_⟩
    · rintro s5 Z5 σ5 H5 ⟨s'', wk, i5⟩ k5 r5
      exact ⟨Z5, s'', (k3.trans k4).trans k5, r5.weak wk, i5⟩
    · intro d s5 Z5 σ5 v H5 q k5 r5 a5
      exact rt d s5 Z5 σ5 v H5 q (((k1.trans k3).trans k4).trans k5) r5 a5
    · intro s5 Z5 σ5 H5 q k5 r5
      exact n s5 Z5 σ5 H5 q (((k1.trans k3).trans k4).trans k5) r5
    · rintro s5 Z5 σ5 H5 ⟨s'', wk, i5⟩ k5 r5
      exact ⟨Z5, s'', (k3.trans k4).trans k5, r5.weak wk, i5⟩
  · have e : i = ds.length := by omega
    subst e
    exact .inl ⟨stop rfl, n s2 Z2 σ2 H2 (done s2 i2) (k1.trans k2) r2⟩
end
end Pm
set_option Elab.async false
set_option linter.all false
set_option maxRecDepth 100000
set_option maxHeartbeats 1000000
set_option autoImplicit false
namespace Pm
open PySem PySem.Spec
open PyProof.Rows hiding St
open L2
variable {γ : Type}

def wipeL (ρ : List (Option L)) : List Nat → List (Option L)
  | [] => ρ
  | v :: vs => (wipeL ρ vs).set v none
def S.wipe (s : S γ) (vs : List Nat) : S γ := ⟨wipeL s.ρ vs, s.g⟩
theorem wipeL_length (ρ : List (Option L)) : ∀ vs : List Nat, (wipeL ρ vs).length = ρ.length
  | [] => rfl
  | v :: vs => by unfold wipeL; rw [List.length_set, wipeL_length ρ vs]
theorem wipeL_some {ρ : List (Option L)} {i : Nat} {x : L} : ∀ {vs : List Nat}, (wipeL ρ vs)[i]? = some (some x) → ρ[i]? = some (some x) ∧ i ∉ vs
  | [], h => ⟨h, by simp⟩
  | v :: vs, h => by
    unfold wipeL at h
    by_cases hi : v = i
    · subst hi
      by_cases hv : v < (wipeL ρ vs).length
      · rw [List.getElem?_set_self hv] at h; cases h
      · rw [List.getElem?_eq_none (by simpa using hv)] at h; cases h
    · rw [List.getElem?_set_ne hi] at h
      obtain ⟨h1, h2⟩ := wipeL_some h
      exact ⟨h1, by simp only [List.mem_cons, not_or]; exact ⟨fun e => hi e.symm, h2⟩⟩
def keepVal : Option (Option L) → Option L
  | some (some (.val d)) => some (.val d)
  | _ => none
def S.back (s1 : S γ) (vs : List Nat) (s : S γ) : S γ := ⟨s.ρ.mapIdx fun j l => if j ∈ vs then keepVal s1.ρ[j]? else l, s.g⟩

section
variable {G : GP γ} {F : Fra} {Z Z1 : Hp} {s s' s1 : S γ} {σ σ' : St} {H H1 : Hp}
theorem Rel.resl (r : Rel G F Z s σ H) (hg : s'.g = s.g) (hl : s'.ρ.length = σ'.length) (k : ∀ (i : Nat) l, s'.ρ[i]? = some (some l) → s.ρ[i]? = some (some l) ∧ σ'[i]? = σ[i]?) : Rel G F Z s' σ' H := by
  obtain ⟨ρ', g'⟩ := s'
  simp only at hg hl k
  subst hg
  refine ⟨r.z, r.f, r.zb, hl.symm, fun i d h => ?_, fun i l h ol => ?_, fun i j l m a n h1 ol h2 om h3 h4 => ?_, r.j, r.zf, r.ff, r.fl⟩
  · obtain ⟨h1, h2⟩ := k i _ h
    obtain ⟨v, h3, h4⟩ := r.loc i d h1
    exact ⟨v, h2.trans h3, h4⟩
  · obtain ⟨h1, h2⟩ := k i _ h
    obtain ⟨a, vs, h3, h4⟩ := r.ownL i l h1 ol
    exact ⟨a, vs, h2.trans h3, h4⟩
  · obtain ⟨k1, k2⟩ := k i _ h1
    obtain ⟨k3, k4⟩ := k j _ h2
    exact r.injL i j l m a n k1 ol k3 om (k2 ▸ h3) (k4 ▸ h4)
theorem Rel.wiped (r : Rel G F Z s σ H) (vs : List Nat) : Rel G F Z (s.wipe vs) (wipe σ vs) H :=
  r.resl rfl (by show (wipeL s.ρ vs).length = _; rw [wipeL_length, wipe_length, r.len]) fun i l h => by
    obtain ⟨h1, h2⟩ := wipeL_some (show (wipeL s.ρ vs)[i]? = some (some l) from h)
    exact ⟨h1, wipe_out h2⟩
theorem Rel.backed (r1 : Rel G F Z1 s1 σ H1) {vs : List Nat} (r : Rel G F Z s (wipe σ vs) H) (k : Same Z1 Z) : Rel G F Z (s1.back vs s) σ H := by
  have out : ∀ (i : Nat) l, (s1.back vs s).ρ[i]? = some (some l) → (i ∈ vs ∧ ∃ d, l = .val d ∧ s1.ρ[i]? = some (some (.val d))) ∨ (i ∉ vs ∧ s.ρ[i]? = some (some l)) := fun i l h => by
    simp only [S.back, List.getElem?_mapIdx] at h
    cases q : s.ρ[i]? with
    | none => rw [q] at h; cases h
    | some o =>
      rw [q] at h
      simp only [Option.map_some, Option.some.injEq] at h
      by_cases hi : i ∈ vs
      · rw [if_pos hi] at h
        left
        refine ⟨hi, ?_⟩
        unfold keepVal at h
        split at h
        · rename_i d hd; cases h; exact ⟨d, rfl, hd⟩
        · cases h
      · rw [if_neg hi] at h; subst h; exact .inr ⟨hi, rfl⟩
  have hl : σ.length = s.ρ.length := by rw [← r.len, wipe_length]
  refine ⟨r.z, r.f, r.zb, by simpa [S.back] using hl, fun i d h => ?_, fun i l h ol => ?_, fun i j l m a n h1 ol h2 om h3 h4 => ?_, r.j, r.zf, r.ff, r.fl⟩
  · rcases out i _ h with ⟨_, d', e, h1⟩ | ⟨hi, h1⟩
    · cases e
      obtain ⟨v, h2, h3⟩ := r1.loc i d h1
      exact ⟨v, h2, At.mono k _ _ h3⟩
    · obtain ⟨v, h2, h3⟩ := r.loc i d h1
      exact ⟨v, by rw [← wipe_out hi]; exact h2, h3⟩
  · rcases out i _ h with ⟨_, d', e, h1⟩ | ⟨hi, h1⟩
    · subst e; cases ol
    · obtain ⟨a, ws, h2, h3⟩ := r.ownL i l h1 ol
      exact ⟨a, ws, by rw [← wipe_out hi]; exact h2, h3⟩
  · rcases out i _ h1 with ⟨_, d', e, _⟩ | ⟨hi, k1⟩
    · subst e; cases ol
    · rcases out j _ h2 with ⟨_, d', e, _⟩ | ⟨hj, k2⟩
      · subst e; cases om
      · exact r.injL i j l m a n k1 ol k2 om (by rw [wipe_out hi]; exact h3) (by rw [wipe_out hj]; exact h4)
end

def qYes : PTx γ := fun s R => R true s
abbrev QTs (X : Cx) (G : GP γ) (ifs : List Expr) (t : PTx γ) : Prop := PTs X ifs (lT G t)
theorem PTs.imp {X : Cx} {ifs : List Expr} {t t' : TT} (h : PTs X ifs t) (k : ∀ σ H Q, t' σ H Q → t σ H Q) : PTs X ifs t' := ⟨fun pins s σ H Q I w => h.run pins s σ H Q I (k _ _ _ w)⟩
theorem qts_nil {X : Cx} {G : GP γ} : QTs X G [] (qYes : PTx γ) := PTs.imp pts_nil fun σ H Q ⟨F, Z, s, R, r, t, q⟩ => q true s Z H t (Same.refl _) r
theorem qts_one {X : Cx} {G : GP γ} {c : Expr} {t : PTx γ} (h : QT X G c t) : QTs X G [c] t := pts_one h

def lcB (tg : Tg) (vs : List Nat) (tt : PTx γ) (te : PEx γ) (R : List D → S γ → Prop) (ds : List D) (s1 : S γ) : Prop := ∃ I : Nat → List D → S γ → Prop, (∃ s0, Wk (s1.wipe vs) s0 ∧ I 0 [] s0) ∧
  (∀ i d acc s, ds[i]? = some d → I i acc s → qPut tg d s fun s2 => tt s2 fun b s3 => Br b (te s3 fun y s4 => acc.length < sizeLine ∧ ∃ s5, Wk (s4.wipe vs) s5 ∧ I (i + 1) (acc ++ [y]) s5) (∃ s5, Wk (s3.wipe vs) s5 ∧ I (i + 1) acc s5)) ∧
  ∀ acc s, I ds.length acc s → R acc (s1.back vs s)
def qLc (ti : PAx γ) (tg : Tg) (vs : List Nat) (tt : PTx γ) (te : PEx γ) : PAx γ := fun s R => ti s fun ds s1 => lcB tg vs tt te R ds s1

def Fra.bar (F : Fra) (D : Addr) (o : HO) : Fra := ⟨upd F.F D o, fun a => F.B a ∨ a = D, fun a h => by
  by_cases e : a = D
  · subst e; exact ⟨o, upd_same⟩
  · rw [upd_ne e]
    rcases h with h | h
    · exact F.bf a h
    · exact absurd h e⟩

section
variable {G : GP γ} {F : Fra} {Z : Hp} {s : S γ} {σ : St} {H : Hp}
theorem Rel.bar (r : Rel G F Z s σ H) {D : Addr} {o : HO} (hD : H D = some o) (hz : Z D = none) (hg : ¬ G.foot s.g D) (ho : Nob s σ D) : Rel G (F.bar D o) Z s σ H := by
  refine ⟨r.z, fun a u e => ?_, fun a h => ?_, r.len, r.loc, fun i l h ol => ?_, r.injL, r.j, r.zf, fun a h => ?_, r.fl⟩
  · by_cases hb : a = D
    · subst hb
      have e' : some o = some u := by rw [← e]; exact upd_same.symm
      rw [hD, e']
    · exact r.f a u (by rw [← e]; exact (upd_ne hb).symm)
  · rcases h with h | h
    · exact r.zb a h
    · rw [h]; exact hz
  · obtain ⟨a, vs, h1, h2, h3, h4, h5⟩ := r.ownL i l h ol
    have : a ≠ D := fun e => ho i l h ol (by rw [← e]; exact h1)
    exact ⟨a, vs, h1, h2, h3, h4, by show upd F.F D o a = none; rw [upd_ne this]; exact h5.1, h5.2⟩
  · have : a ≠ D := fun e => hg (by rw [← e]; exact h)
    show upd F.F D o a = none
    rw [upd_ne this]; exact r.ff a h
theorem Rel.unbar {D : Addr} {o o' : HO} (hF : F.F D = none) (r : Rel G (F.bar D o) Z s σ H) : H D = some o ∧ Z D = none ∧ ¬ G.foot s.g D ∧ Nob s σ D ∧ Rel G F Z s σ (upd H D o') := by
  have e1 : H D = some o := r.f D o upd_same
  have e2 : Z D = none := r.zb D (.inr rfl)
  have e3 : ¬ G.foot s.g D := fun h => by
    have z : upd F.F D o D = none := r.ff D h
    rw [upd_same] at z; cases z
  have e4 : Nob s σ D := fun i l h ol e => by
    obtain ⟨a, vs, h1, h2, h3, h4, h5, _⟩ := r.ownL i l h ol
    rw [h1] at e
    cases e
    have z : upd F.F D o D = none := h5
    rw [upd_same] at z; cases z
  refine ⟨e1, e2, e3, e4, fun a u e => ?_, fun a u e => ?_, fun a h => r.zb a (.inl h), r.len, r.loc, fun i l h ol => ?_, r.injL, G.stay _ _ _ _ _ r.j (Same.refl _) fun a h => ?_, r.zf, fun a h => ?_, r.fl⟩
  · rw [upd_ne (ne_of_none e e2)]; exact r.z a u e
  · have n : a ≠ D := ne_of_none e hF
    rw [upd_ne n]; exact r.f a u (by show upd F.F D o a = some u; rw [upd_ne n]; exact e)
  · obtain ⟨a, vs, h1, h2, h3, h4, h5⟩ := r.ownL i l h ol
    have n : a ≠ D := fun e => e4 i l h ol (by rw [← e]; exact h1)
    refine ⟨a, vs, h1, by rw [upd_ne n]; exact h2, h3, h4, ?_, h5.2⟩
    have z : upd F.F D o a = none := h5.1
    rw [upd_ne n] at z; exact z
  · exact upd_ne fun e => e3 (by rw [← e]; exact h)
  · have n : a ≠ D := fun e => e3 (by rw [← e]; exact h)
    have z : upd F.F D o a = none := r.ff a h
    rw [upd_ne n] at z; exact z
end

theorem llc {K : PySem.W.Frag} {G : GP γ} {ti : PAx γ} {tg : Tg} {vs : List Nat} {tt : PTx γ} {te : PEx γ} (hj : ∀ j ∈ tg.js, j ∈ vs) {σ : St} {H : Hp} {Q : VK} (h : lF G (qLc ti tg vs tt te) σ H Q) :
    tLc (lI G ti) (lG G tg.js (qPut tg)) (lT G tt) (lE G te) vs σ H Q := by
  obtain ⟨F, Z, s, R, r, t, q⟩ := h
  refine ⟨F, Z, s, _, r, t, fun ds s1 Z1 H1 J w1 k1 r1 wJ D hD => ?_⟩
  obtain ⟨I, ⟨s0, wk0, i0⟩, turn, done⟩ := w1
  have FD : F.F D = none := r1.f.free hD
  refine ⟨fun i m H => m = ds.length - i ∧ i ≤ ds.length ∧ ∃ Z' s' acc av, Same Z1 Z' ∧ Rel G (F.bar D (.lst av)) Z' s' (wipe σ vs) H ∧ Ats G.K Z' acc av ∧ I i acc s', ⟨ds.length, rfl, Nat.zero_le _, ?_⟩, ?_⟩
  · obtain ⟨f1, f2, f3, f4⟩ := r1.fresh hD
    have r2 := (r1.grow (same_upd (o := HO.lst []) hD)).bar upd_same f1 f3 f4
    exact ⟨Z1, s0, [], [], Same.refl _, (r2.wiped vs).weak wk0, rfl, i0⟩
  · rintro i m H2 ⟨hm, hi, Z2, s2, acc, av, k2, r2, a2, i2⟩
    obtain ⟨go, stop⟩ := wJ i Z2 H2 k2 r2.z
    by_cases hlt : i < ds.length
    · obtain ⟨g1, y1⟩ := go ds[i] (List.getElem?_eq_getElem hlt)
      refine .inr ⟨g1, fun H' => ∃ Z' s' acc av, Same Z1 Z' ∧ Rel G (F.bar D (.lst av)) Z' s' (wipe σ vs) H' ∧ Ats G.K Z' acc av ∧ I (i + 1) acc s', fun H' h => ⟨ds.length - (i + 1), by omega, rfl, hlt, h⟩, fun x H3 y => ?_⟩
      obtain ⟨Z3, x3, a3⟩ := y1 x H3 y
      have r3 := r2.ext x3
      have k3 := k2.trans x3.zz
      refine ⟨F.bar D (.lst av), Z3, s2, ds[i], _, r3, a3, turn i ds[i] acc s2 (List.getElem?_eq_getElem hlt) i2, fun s4 Z4 σ4 H4 w4 k4 r4 e4 o4 l4 => ?_⟩
      have we : wipe σ4 vs = wipe σ vs := by
        refine List.ext_getElem? fun j => ?_
        by_cases hjv : j ∈ vs
        · have n1 : ∀ (τ : St), τ.length = σ.length → (wipe τ vs)[j]? = if j < σ.length then some none else none := fun τ hl => by
            by_cases hlt : j < σ.length
            · rw [if_pos hlt]
              have hlt' : j < (wipe τ vs).length := by rw [wipe_length, hl]; exact hlt
              rw [List.getElem?_eq_getElem hlt']
              congr 1
              cases e : (wipe τ vs)[j] with
              | none => rfl
              | some v => exact absurd hjv (wipe_some (show (wipe τ vs)[j]? = some (some v) by rw [List.getElem?_eq_getElem hlt', e])).2
            · rw [if_neg hlt, List.getElem?_eq_none (by rw [wipe_length, hl]; omega)]
          rw [n1 σ4 (by rw [l4, wipe_length]), n1 σ rfl]
        · rw [wipe_out hjv, o4 j (fun h => hjv (hj j h))]
      refine ⟨we, F.bar D (.lst av), Z4, s4, _, r4, w4, fun b s5 Z5 H5 w5 k5 r5 => ?_⟩
      cases b with
      | true =>
        refine iteT ⟨F.bar D (.lst av), Z5, s5, _, r5, w5.1 rfl, fun y s6 Z6 v H6 w6 k6 r6 a6 => ?_⟩
        obtain ⟨w6, s7, wk7, i7⟩ := w6
        obtain ⟨e1, e2, e3, e4', r7⟩ := r6.unbar (o' := .lst (av ++ [v])) FD
        have kk := ((x3.zz.trans k4).trans k5).trans k6
        refine ⟨av, e1, by rw [a2.len]; exact w6, Z6, s7, acc ++ [y], av ++ [v], k2.trans kk, ?_, (Ats.mono kk _ _ a2).append ⟨v, [], rfl, a6, rfl⟩, i7⟩
        have r8 := r7.bar (o := .lst (av ++ [v])) upd_same e2 e3 e4'
        have r9 := r8.wiped vs
        rw [we] at r9
        exact r9.weak wk7
      | false =>
        refine iteF ?_
        obtain ⟨s7, wk7, i7⟩ := w5.2 rfl
        have kk := (x3.zz.trans k4).trans k5
        have r9 := r5.wiped vs
        rw [we] at r9
        exact ⟨Z5, s7, acc, av, k2.trans kk, r9.weak wk7, Ats.mono kk _ _ a2, i7⟩
    · have e : i = ds.length := by omega
      subst e
      obtain ⟨e1, e2, e3, e4, r7⟩ := r2.unbar (o' := .lst av) FD
      have hu : upd H2 D (.lst av) = H2 := by
        funext b
        by_cases hb : b = D
        · subst hb; rw [upd_same, e1]
        · rw [upd_ne hb]
      rw [hu] at r7
      refine .inl ⟨stop rfl, q acc _ Z2 D av H2 (done acc s2 i2) (k1.trans k2) (r1.backed r7 k2) e1 a2 e2 FD (by exact e3) fun j l h ol => ?_⟩
      -- no list of one's own is the new one
      intro e
      have r8 := r1.backed r7 k2
      obtain ⟨a, ws, h1, h2, h3, h4, h5, h6⟩ := r8.ownL j l h ol
      rw [h1] at e
      cases e
      simp only [S.back, List.getElem?_mapIdx] at h
      cases q' : s2.ρ[j]? with
      | none => rw [q'] at h; cases h
      | some o =>
        rw [q'] at h
        simp only [Option.map_some, Option.some.injEq] at h
        by_cases hjv : j ∈ vs
        · rw [if_pos hjv] at h
          unfold keepVal at h
          split at h
          · cases h; cases ol
          · cases h
        · rw [if_neg hjv] at h
          subst h
          exact e4 j l q' ol (by rw [wipe_out hjv]; exact h1)

section
variable {X : Cx} {G : GP γ} {elt tg iter : Expr} {ifs : List Expr} {scope : Scope} {own : List (Str × Nat)} {pos : Pos} {ti : PAx γ} {t : Tg} {tt : PTx γ} {te : PEx γ}
theorem qf_lc (hc : X.calm = true) (hN : X.N.Nodup) (hi : QI X G tg iter ti) (ok : BlkOk X.N X.env.scope scope own) (hj : ∀ j ∈ t.js, j ∈ own.map (·.2))
    (hg : ∀ (s : Shared) (H : Hp) (C : Addr) (cl : List (Str × Addr)) (fp : List Addr), QG' (X.blk s H scope (compEnvC scope cl C X.env) fp) G tg t)
    (ht : ∀ (s : Shared) (H : Hp) (C : Addr) (cl : List (Str × Addr)) (fp : List Addr), QTs (X.blk s H scope (compEnvC scope cl C X.env) fp) G ifs tt)
    (he : ∀ (s : Shared) (H : Hp) (C : Addr) (cl : List (Str × Addr)) (fp : List Addr), QE (X.blk s H scope (compEnvC scope cl C X.env) fp) G elt te) (hs : ∀ x, foldedSetIterable iter X.env x = pure x := by intro _; rfl) :
    QF X G (.ListComp elt [⟨tg, iter, ifs, 0⟩] scope pos) (qLc ti t (own.map (·.2)) tt te) :=
  PE.imp (pe_lc hc hN hi ok hg ht he hs) fun _ _ _ h => llc (K := X.K) hj h
theorem qs_lc {i : Nat} {y : Str} {py spos : Pos} (hc : X.calm = true) (hN : X.N.Nodup) (hy : X.N[i]? = some y) (hyl : X.env.scope.names.lookup y = some .local)
    (hsw : swapsWith (.ListComp elt [⟨tg, iter, ifs, 0⟩] scope pos) (some (.Name y py)) spos.line X.env = pure true) (hi : QI X G tg iter ti) (ok : BlkOk X.N X.env.scope scope own) (hj : ∀ j ∈ t.js, j ∈ own.map (·.2))
    (hg : ∀ (s : Shared) (H : Hp) (C : Addr) (cl : List (Str × Addr)) (fp : List Addr), QG' (X.blk s H scope (compEnvC scope cl C X.env) fp) G tg t)
    (ht : ∀ (s : Shared) (H : Hp) (C : Addr) (cl : List (Str × Addr)) (fp : List Addr), QTs (X.blk s H scope (compEnvC scope cl C X.env) fp) G ifs tt)
    (he : ∀ (s : Shared) (H : Hp) (C : Addr) (cl : List (Str × Addr)) (fp : List Addr), QE (X.blk s H scope (compEnvC scope cl C X.env) fp) G elt te) (hs : ∀ x, foldedSetIterable iter X.env x = pure x := by intro _; rfl) :
    QS X G (.Assign [.Name y py] (.ListComp elt [⟨tg, iter, ifs, 0⟩] scope pos) spos) (qAsg (qSet (qLc ti t (own.map (·.2)) tt te)) i) := by
  refine PS.imp (ps_setLc hc hN hy hyl hsw hi ok hg ht he hs) fun De σ H ⟨F, Z, s, E, r, w, n, _⟩ => ?_
  show tLc _ _ _ _ _ σ H _
  refine llc (K := X.K) hj ⟨F, Z, s, _, r, w, fun ds s1 Z1 a vs H1 t1 k1 r1 ha a1 hz hf hg ho => ?_⟩
  have k := same_upd (o := HO.lst vs) hz
  exact n _ (upd Z1 a (.lst vs)) _ H1 t1 (k1.trans k) ((r1.settle ha hz hg (Fra.nb hf) ho).put ⟨a, vs, rfl, upd_same, Ats.mono k _ _ a1⟩)
end

def startL (n : Nat) (ds : List D) : List (Option L) := ds.map (fun d => some (.val d)) ++ List.replicate (n - ds.length) none
theorem start_at {K : PySem.W.Frag} {Z : Hp} {N : List Str} {ds : List D} {vs : List V} (h : Ats K Z ds vs) {i : Nat} {l : L} (e : (startL N.length ds)[i]? = some (some l)) : ∃ d, l = .val d ∧ ∃ v, (L2.start N vs)[i]? = some (some v) ∧ At K Z d v := by
  unfold startL at e
  by_cases hi : i < ds.length
  · rw [List.getElem?_append_left (by simpa using hi), List.getElem?_map] at e
    cases q : ds[i]? with
    | none => rw [q] at e; cases e
    | some d =>
      rw [q] at e
      simp only [Option.map_some, Option.some.injEq] at e
      obtain ⟨v, h1, h2⟩ := h.get q
      refine ⟨d, e.symm, v, ?_, h2⟩
      unfold L2.start
      rw [List.getElem?_append_left (by rw [List.length_map, h.len]; exact hi), List.getElem?_map, h1]; rfl
  · rw [List.getElem?_append_right (by simpa using hi), List.getElem?_replicate] at e
    split at e <;> cases e
section
variable {P : Program} {w : World} {K : PySem.W.Frag} {mg : Str → Option Value} {base : Heap}
abbrev Fn (K : PySem.W.Frag) (x qual : Str) (st : Stmt) (f : Addr) (fd : FuncData) : Prop := FunD K x qual (defArgs st) (defBody st) (defScope st) [] [] f fd
theorem Fn.ok {x qual : Str} {st : Stmt} {f : Addr} {fd : FuncData} {N ps : List Str} {k : Nat} {sp : Sp} (F : Fn K x qual st f fd) (S : FnScope N ps (defScope st)) (len : ∀ vs H Q E, sp vs H Q E → vs.length = ps.length)
    (hbody : ∀ (cdv : Value) (A : Around) (outer : List Env) (s : Shared) (H : Hp) (vs : List V) (Q : VK) (E : XK), Room k (A.deeper (envOfC qual (defScope st) s.heap.objs.size f cdv)) → sp vs H Q E →
      ∃ t, PSs (cxOf CX0 P w K mg base N qual (defScope st) f cdv A outer s H E).nox (defBody st) t ∧ t { nx := fun _ H' => Q .non H', rt := Q } (L2.start N vs) H) : FnOk P w K mg base CX0 (k + 1) f fd ps sp :=
  FunD.ok F S len fun cdv A outer s H vs Q E hr h => by
    obtain ⟨t, h1, h2⟩ := hbody cdv A outer s H vs Q E hr h
    exact ⟨t, PSs.nox h1, h2⟩
theorem okP {x qual : Str} {st : Stmt} {f : Addr} {fd : FuncData} {N ps : List Str} {k : Nat} (F : Fn K x qual st f fd) (S : FnScope N ps (defScope st)) {fs : Spec0} (len : ∀ ds R, fs ds R → ds.length = ps.length)
    (body : ∃ t : PSx Unit, (∀ (cdv : Value) (A : Around) (outer : List Env) (s : Shared) (H : Hp) (E : XK), Room k (A.deeper (envOfC qual (defScope st) s.heap.objs.size f cdv)) →
      QSs (cxOf CX0 P w K mg base N qual (defScope st) f cdv A outer s H E).nox (none0 K) (defBody st) t) ∧ ∀ ds R, fs ds R → t { nx := fun _ => R .non, rt := fun d _ => R d } ⟨startL N.length ds, ()⟩) : FnOk P w K mg base CX0 (k + 1) f fd ps (spP K fs) := by
  refine F.ok S (fun vs H Q E h => ?_) (fun cdv A outer s H vs Q E hr h => ?_)
  · obtain ⟨Z, ds, R, _, a, h, _⟩ := h
    rw [a.len]; exact len _ _ h
  · obtain ⟨t, hb, hp⟩ := body
    refine ⟨_, hb cdv A outer s H E hr, ?_⟩
    obtain ⟨Z, ds, R, k, a, h, q⟩ := h
    have hl : ps.length ≤ N.length := by have := congrArg List.length S.pre; rw [List.length_take] at this; omega
    have hd := len _ _ h
    refine ⟨⟨H, fun b => H b ≠ none ∧ Z b = none, fun b hb => Option.ne_none_iff_exists'.mp hb.1⟩, Z, _, _, ?_, hp ds R h, ?_, ?_, ?_, ?_⟩
    · refine ⟨k, Same.refl _, fun b hb => hb.2, ?_, fun i d e => ?_, fun i l e ol => ?_, fun i j l m b n e1 o1 e2 => ?_, trivial, fun b z => False.elim z, fun b z => False.elim z, fun _ _ z => by cases z⟩
      · unfold L2.start startL
        simp only [List.length_append, List.length_map, List.length_replicate, a.len]
      · obtain ⟨d', e', v, h1, h2⟩ := start_at a e
        cases e'
        exact ⟨v, h1, h2⟩
      · obtain ⟨d', e', _⟩ := start_at a e
        subst e'; cases ol
      · obtain ⟨d', e', _⟩ := start_at a e1
        subst e'; cases o1
    · intro s' Z' σ' H' q' k' r'
      exact q .non Z' .non H' q' k' r'.z r'.f (fun b o e n => by
        cases hb : H b with
        | none => rfl
        | some u => have := r'.zb b ⟨by rw [hb]; simp, n⟩; rw [e] at this; cases this) rfl
    · intro d s' Z' σ' v H' q' k' r' a'
      exact q d Z' v H' q' k' r'.z r'.f (fun b o e n => by
        cases hb : H b with
        | none => rfl
        | some u => have := r'.zb b ⟨by rw [hb]; simp, n⟩; rw [e] at this; cases this) a'
    · intro s' Z' σ' H' q'; exact q'.elim
    · intro s' Z' σ' H' q'; exact q'.elim
theorem liftG {G : GP γ} {N ps : List Str} {fs : Spec γ} {t : PSx γ} (hl : ps.length ≤ N.length) (len : ∀ ds g R, fs ds g R → ds.length = ps.length) (hp : ∀ ds g R, fs ds g R → t { nx := fun s => R .non s.g, rt := R } ⟨startL N.length ds, g⟩)
    (grow : ∀ g g' : γ, ∀ a, G.foot g' a → G.foot g a) (hfl : ∀ a, G.fl a = none) {vs : List V} {H : Hp} {Q : VK} {E : XK} (h : spG G fs vs H Q E) : lS G t { nx := fun _ H' => Q .non H', rt := Q } (L2.start N vs) H := by
  obtain ⟨Z, ds, g, R, k, a, hj, hzf, h, q⟩ := h
  have hd := len _ _ _ h
  classical
  have hF : ∀ (b : Addr) (o : HO), (if G.foot g b then none else H b) = some o → H b = some o ∧ ¬ G.foot g b := fun b o e => by
    by_cases hb : G.foot g b
    · rw [if_pos hb] at e; cases e
    · rw [if_neg hb] at e; exact ⟨e, hb⟩
  refine ⟨⟨fun b => if G.foot g b then none else H b, fun b => H b ≠ none ∧ Z b = none ∧ ¬ G.foot g b, fun b hb => ?_⟩, Z, _, _, ?_, hp ds g R h, ?_, ?_, ?_, ?_⟩
  · simp only [if_neg hb.2.2]; exact Option.ne_none_iff_exists'.mp hb.1
  · refine ⟨k, fun b o e => (hF b o e).1, fun b hb => hb.2.1, ?_, fun i d e => ?_, fun i l e ol => ?_, fun i j l m b n e1 o1 e2 => ?_, hj, hzf, fun b z => if_pos z, fun b _ z => by rw [hfl b] at z; cases z⟩
    · unfold L2.start startL
      simp only [List.length_append, List.length_map, List.length_replicate, a.len]
    · obtain ⟨d', e', v, h1, h2⟩ := start_at a e
      cases e'
      exact ⟨v, h1, h2⟩
    · obtain ⟨d', e', _⟩ := start_at a e
      subst e'; cases ol
    · obtain ⟨d', e', _⟩ := start_at a e1
      subst e'; cases o1
  all_goals
    have fin : ∀ (d : D) (s' : Pm.S γ) (Z' : Hp) (σ' : St) (v : V) (H' : Hp), R d s'.g → Same Z Z' → Rel G ⟨fun b => if G.foot g b then none else H b, fun b => H b ≠ none ∧ Z b = none ∧ ¬ G.foot g b, fun b hb => by simp only [if_neg hb.2.2]; exact Option.ne_none_iff_exists'.mp hb.1⟩ Z' s' σ' H' → At G.K Z' d v → Q v H' :=
      fun d s' Z' σ' v H' q' k' r' a' => q d s'.g Z' v H' q' k' r'.z (fun b o e n => r'.f b o (by simp only [if_neg n]; exact e)) (fun b o e n => by
        cases hb : H b with
        | none => rfl
        | some u =>
          by_cases hf : G.foot g b
          · have := r'.zf b (by first | exact grow _ _ _ hf | exact hf); rw [e] at this; cases this
          · have := r'.zb b ⟨by rw [hb]; simp, n, hf⟩; rw [e] at this; cases this) r'.j (fun b hb => ⟨r'.zf b hb, .inl (grow _ _ b hb)⟩) a'
  · intro s' Z' σ' H' q' k' r'
    exact fin .non s' Z' σ' .non H' q' k' r' rfl
  · exact fin
  · intro s' Z' σ' H' q'; exact q'.elim
  · intro s' Z' σ' H' q'; exact q'.elim
theorem okG {G : GP γ} (hK : G.K = K) {x qual : Str} {st : Stmt} {f : Addr} {fd : FuncData} {N ps : List Str} {k : Nat} (F : Fn K x qual st f fd) (S : FnScope N ps (defScope st)) {fs : Spec γ} (len : ∀ ds g R, fs ds g R → ds.length = ps.length)
    (body : ∃ t : PSx γ, (∀ (cdv : Value) (A : Around) (outer : List Env) (s : Shared) (H : Hp) (E : XK), Room k (A.deeper (envOfC qual (defScope st) s.heap.objs.size f cdv)) →
      QSs (cxOf CX0 P w K mg base N qual (defScope st) f cdv A outer s H E).nox G (defBody st) t) ∧ ∀ ds g R, fs ds g R → t { nx := fun s => R .non s.g, rt := R } ⟨startL N.length ds, g⟩)
    (grow : ∀ g g' : γ, ∀ a, G.foot g' a → G.foot g a) (hfl : ∀ a, G.fl a = none := by intro _; rfl) : FnOk P w K mg base CX0 (k + 1) f fd ps (spG G fs) := by
  subst hK
  refine F.ok S (fun vs H Q E h => ?_) (fun cdv A outer s H vs Q E hr h => ?_)
  · obtain ⟨Z, ds, g, R, _, a, _, _, h, _⟩ := h
    rw [a.len]; exact len _ _ _ h
  · obtain ⟨t, hb, hp⟩ := body
    exact ⟨_, hb cdv A outer s H E hr, liftG (ps := ps) (by have := congrArg List.length S.pre; rw [List.length_take] at this; omega) len hp grow hfl h⟩
end
end Pm
set_option Elab.async false
set_option linter.all false
set_option maxRecDepth 100000
set_option maxHeartbeats 1000000
set_option autoImplicit false
namespace Pm
open PySem PySem.Spec
open PyProof.Rows hiding St
open L2
variable {γ : Type}

def keyPy : Key → PyData
  | .inl i => .int i
  | .inr x => .str x
mutual
def D.py : D → PyData
  | .non => .none
  | .bl b => .bool b
  | .int i => .int i
  | .str x => .str x
  | .lst xs => .list (D.pys xs)
  | .tup xs => .tuple (D.pys xs)
  | .dct ks xs => .dict ((ks.map keyPy).zip (D.pys xs))
  | .obj _ => .none
def D.pys : List D → List PyData
  | [] => []
  | d :: ds => d.py :: D.pys ds
end
mutual
def D.pln : D → Bool
  | .non => true
  | .bl _ => true
  | .int _ => true
  | .str x => PyData.strOk x
  | .lst xs => D.plns xs
  | .tup xs => D.plns xs
  | .dct _ _ => false
  | .obj _ => false
def D.plns : List D → Bool
  | [] => true
  | d :: ds => d.pln && D.plns ds
end
mutual
def D.dep : D → Nat
  | .lst xs => D.deps xs + 1
  | .tup xs => D.deps xs + 1
  | .dct _ xs => D.deps xs + 1
  | _ => 0
def D.deps : List D → Nat
  | [] => 0
  | d :: ds => max d.dep (D.deps ds)
end
mutual
def D.eqv : D → D → Bool
  | .non, .non => true
  | .bl a, .bl b => a == b
  | .bl a, .int j => (if a then 1 else 0) == j
  | .int i, .bl b => i == (if b then 1 else 0)
  | .int i, .int j => i == j
  | .str x, .str y => x == y
  | .lst xs, .lst ys => D.eqvs xs ys
  | .tup xs, .tup ys => D.eqvs xs ys
  | _, _ => false
def D.eqvs : List D → List D → Bool
  | [], [] => true
  | x :: xs, y :: ys => D.eqv x y && D.eqvs xs ys
  | _, _ => false
end
mutual
theorem eqv_py : ∀ (d e : D), d.pln = true → e.pln = true → PyData.eqv d.py e.py = D.eqv d e
  | .lst xs, e, h, h' => by
    cases e <;> simp_all only [D.pln, D.py, D.eqv, PyData.eqv, Bool.false_eq_true]
    exact eqvs_py xs _ h h'
  | .tup xs, e, h, h' => by
    cases e <;> simp_all only [D.pln, D.py, D.eqv, PyData.eqv, Bool.false_eq_true]
    exact eqvs_py xs _ h h'
  | .non, e, h, h' => by cases e <;> simp_all [D.pln, D.py, D.eqv, PyData.eqv]
  | .bl a, e, h, h' => by cases e <;> simp_all [D.pln, D.py, D.eqv, PyData.eqv]
  | .int a, e, h, h' => by cases e <;> simp_all [D.pln, D.py, D.eqv, PyData.eqv]
  | .str a, e, h, h' => by cases e <;> simp_all [D.pln, D.py, D.eqv, PyData.eqv]
  | .dct _ _, e, h, h' => by simp [D.pln] at h
  | .obj _, e, h, h' => by simp [D.pln] at h
theorem eqvs_py : ∀ (xs ys : List D), D.plns xs = true → D.plns ys = true → PyData.eqvAll (D.pys xs) (D.pys ys) = D.eqvs xs ys
  | [], [], _, _ => by simp [D.pys, D.eqvs, PyData.eqvAll]
  | [], _ :: _, _, _ => by simp [D.pys, D.eqvs, PyData.eqvAll]
  | _ :: _, [], _, _ => by simp [D.pys, D.eqvs, PyData.eqvAll]
  | x :: xs, y :: ys, h, h' => by
    simp only [D.plns, Bool.and_eq_true] at h h'
    simp only [D.pys, D.eqvs, PyData.eqvAll]
    rw [eqv_py x y h.1 h'.1, eqvs_py xs ys h.2 h'.2]
end
mutual
theorem canLay_py : ∀ (d : D), d.pln = true → d.py.canLay0 = true
  | .lst xs, h => by simp only [D.pln] at h; simp only [D.py, PyData.canLay0]; exact canLays_py xs h
  | .tup xs, h => by simp only [D.pln] at h; simp only [D.py, PyData.canLay0]; exact canLays_py xs h
  | .non, h => rfl
  | .bl _, h => rfl
  | .int _, h => rfl
  | .str _, h => by simp only [D.pln] at h; simp only [D.py, PyData.canLay0]; exact h
  | .dct _ _, h => by simp [D.pln] at h
  | .obj _, h => by simp [D.pln] at h
theorem canLays_py : ∀ (ds : List D), D.plns ds = true → PyData.canLayAll0 (D.pys ds) = true
  | [], _ => rfl
  | d :: ds, h => by
    simp only [D.plns, Bool.and_eq_true] at h
    simp only [D.pys, PyData.canLayAll0, Bool.and_eq_true]
    exact ⟨canLay_py d h.1, canLays_py ds h.2⟩
end
mutual
theorem dep_py : ∀ (d : D), d.pln = true → d.py.depth = d.dep
  | .lst xs, h => by simp only [D.pln] at h; simp only [D.py, PyData.depth, D.dep, deps_py xs h]
  | .tup xs, h => by simp only [D.pln] at h; simp only [D.py, PyData.depth, D.dep, deps_py xs h]
  | .non, h => by simp [D.py, PyData.depth, D.dep]
  | .bl _, h => by simp [D.py, PyData.depth, D.dep]
  | .int _, h => by simp [D.py, PyData.depth, D.dep]
  | .str _, h => by simp [D.py, PyData.depth, D.dep]
  | .dct _ _, h => by simp [D.pln] at h
  | .obj _, h => by simp [D.pln] at h
theorem deps_py : ∀ (ds : List D), D.plns ds = true → PyData.depthAll (D.pys ds) = D.deps ds
  | [], _ => by simp [D.pys, PyData.depthAll, D.deps]
  | d :: ds, h => by
    simp only [D.plns, Bool.and_eq_true] at h
    simp only [D.pys, PyData.depthAll, D.deps, dep_py d h.1, deps_py ds h.2]
end
section
variable {K : PySem.W.Frag} {Z H : Hp}
mutual
theorem At.dp (k : Same Z H) : ∀ (d : D) (v : V), At K Z d v → d.pln = true → Dp K H v d.py
  | .lst xs, v, h, p => by
    simp only [At] at h; simp only [D.pln] at p; simp only [D.py]
    obtain ⟨a, vs, rfl, h2, h3⟩ := h
    exact .lst (.inl (.inl (k _ _ h2))) (Ats.dp k xs vs h3 p)
  | .tup xs, v, h, p => by
    simp only [At] at h; simp only [D.pln] at p; simp only [D.py]
    obtain ⟨a, vs, rfl, h2, h3⟩ := h
    exact .tup (seqT k h2) (Ats.dp k xs vs h3 p)
  | .non, v, h, p => by simp only [At] at h; subst h; exact .non
  | .bl b, v, h, p => by simp only [At] at h; subst h; exact .bl b
  | .int i, v, h, p => by simp only [At] at h; subst h; exact .int i
  | .str x, v, h, p => by simp only [At] at h; subst h; exact .str x
  | .dct _ _, _, h, p => by simp [D.pln] at p
  | .obj _, _, h, p => by simp [D.pln] at p
theorem Ats.dp (k : Same Z H) : ∀ (ds : List D) (vs : List V), Ats K Z ds vs → D.plns ds = true → DpAll K H vs (D.pys ds)
  | [], vs, h, p => by simp only [Ats] at h; subst h; exact .nil
  | d :: ds, vs, h, p => by
    simp only [Ats] at h; simp only [D.plns, Bool.and_eq_true] at p; simp only [D.pys]
    obtain ⟨w, ws, rfl, h2, h3⟩ := h
    exact .cons (At.dp k d w h2 p.1) (Ats.dp k ds ws h3 p.2)
end
end

theorem dk {K : PySem.W.Frag} {Z H : Hp} {R : DK} {Q : VK} (q : ∀ z Z' v H', R z → Ext Z H Z' H' → At K Z' z v → Q v H') (k : Same Z H) {d : D} {v : V} (h : R d) (a : At K Z d v) : Q v H := q d Z v H h (Ext.refl k) a

section
variable {X : Cx}
def MulOk (i j : Int) : Prop := CMul i j ∨ CMulW i j
theorem MulOk.ok {i j : Int} (h : MulOk i j) : IntMulOk i j := by
  rcases h with h | h
  · exact h.ok
  · exact h.ok
theorem op_mulM : OpR X (binaryOp .Mult) (rI MulOk fun i j => .int (i * j)) := opI fun _ _ _ _ _ _ _ hc q => mul_int q hc.ok
def DivOk (i j : Int) : Prop := j ≠ 0 ∧ j.natAbs.log2 < 9000
theorem op_fdivM : OpR X (binaryOp .FloorDiv) (rI DivOk fun i j => .int (i.fdiv j)) := opI fun i j _ _ _ _ _ hc q => floordiv_int hc.1 q (.inl (PyProof.noPylong_of_log2 hc.2))
def rCatT' (K : PySem.W.Frag) : R2 := fun x y H Q => ∃ a b xs ys, x = .ref a ∧ y = .ref b ∧ SqT K H a xs ∧ SqT K H b ys ∧ xs.length + ys.length ≤ sizeLine ∧
  (ys = [] → Q (.ref a) H) ∧ (xs = [] → Q (.ref b) H) ∧ (∀ p, H p = none → Q (.ref p) (upd H p (.tup (xs ++ ys))))
theorem op_catT' : OpR X (binaryOp .Add) (rCatT' X.K) := by
  intro pins s σ H x y v u Q I rx ry h
  obtain ⟨a, b, xs, ys, rfl, rfl, ha, hb, hz, q1, q3, q2⟩ := h
  by_cases hx : xs = []
  · cases rx
    cases ry
    obtain ⟨its, r1, p1, _⟩ := I.tuple ha
    obtain ⟨its2, r2, p2, _⟩ := I.tuple hb
    subst hx
    cases r1
    obtain ⟨⟨cls, dd, data, sl⟩, ho, hc, n, hd⟩ := id p1
    obtain ⟨⟨cls2, dd2, data2, sl2⟩, ho2, hc2, n2, hd2⟩ := id p2
    simp only at hc hd hc2 hd2
    subst hc hd hc2 hd2
    exact concat_meets ⟨_, ho, rfl⟩ ⟨_, ho2, rfl⟩ noFill_tuple_add seq_tuple_add PySem.F.slot_tuple_add PySem.F.entry_tuple_add (PySem.F.args_tuple_add_2 _ _)
      (tuple_addW0 a b [].toArray its2.toArray n n2 dd dd2 sl sl2 rfl) ⟨ho, ho2, ⟨.ref b, H, I, rfl, q3 rfl⟩⟩
  · exact op_catT pins s σ H _ _ v u Q I rx ry ⟨a, b, xs, ys, rfl, rfl, ha, hb, hx, hz, q1, fun _ => q2⟩

def addD : D → D → DK → Prop
  | .int i, .int j, R => R (.int (i + j))
  | .str x, .str y, R => x.length + y.length ≤ sizeLine ∧ R (.str (x ++ y))
  | .tup xs, .tup ys, R => xs.length + ys.length ≤ sizeLine ∧ R (.tup (xs ++ ys))
  | .lst xs, .lst ys, R => xs.length + ys.length ≤ sizeLine ∧ R (.lst (xs ++ ys))
  | _, _, _ => False
theorem o_add : OpR X (binaryOp .Add) (dOp2 X.K addD) := by
  intro pins s σ H x y v u Q I rx ry ⟨Z, d, e, R, k, ad, ae, h, q⟩
  cases d <;> cases e <;> try exact h.elim
  · simp only [At] at ad ae
    subst ad; subst ae
    exact op_add pins s σ H _ _ v u Q I rx ry ⟨_, _, rfl, rfl, dk q k h rfl⟩
  · simp only [At] at ad ae
    subst ad; subst ae
    exact op_add_str pins s σ H _ _ v u Q I rx ry ⟨_, _, rfl, rfl, h.1, dk q k h.2 rfl⟩
  · simp only [At] at ad ae
    obtain ⟨a, vs, rfl, a2, a3⟩ := ad
    obtain ⟨b, ws, rfl, b2, b3⟩ := ae
    refine op_cat pins s σ H _ _ v u Q I rx ry ⟨a, b, vs, ws, rfl, rfl, k _ _ a2, k _ _ b2, by rw [a3.len, b3.len]; exact h.1, fun p hp => ?_⟩
    have x := Ext.new (o := HO.lst (vs ++ ws)) k hp
    exact q _ _ _ _ h.2 x ⟨p, _, rfl, upd_same, (Ats.mono x.zz _ _ a3).append (Ats.mono x.zz _ _ b3)⟩
  · simp only [At] at ad ae
    obtain ⟨a, vs, rfl, a2, a3⟩ := ad
    obtain ⟨b, ws, rfl, b2, b3⟩ := ae
    refine op_catT' pins s σ H _ _ v u Q I rx ry ⟨a, b, vs, ws, rfl, rfl, seqT k a2, seqT k b2, by rw [a3.len, b3.len]; exact h.1, fun e => ?_, fun e => ?_, fun p hp => ?_⟩
    · subst e
      have := b3.len
      rename_i ys
      cases ys with
      | nil => exact dk (d := .tup _) q k (by simpa using h.2) (show At X.K Z (.tup _) _ from ⟨a, vs, rfl, a2, a3⟩)
      | cons => simp at this
    · subst e
      have := a3.len
      rename_i xs ys
      cases xs with
      | nil => exact dk (d := .tup _) q k (by simpa using h.2) (show At X.K Z (.tup _) _ from ⟨b, ws, rfl, b2, b3⟩)
      | cons => simp at this
    · have x := Ext.new (o := HO.tup (vs ++ ws)) k hp
      exact q _ _ _ _ h.2 x ⟨p, _, rfl, .inl (.inl upd_same), (Ats.mono x.zz _ _ a3).append (Ats.mono x.zz _ _ b3)⟩
def intD2 (C : Int → Int → Prop) (f : Int → Int → D) : D → D → DK → Prop
  | .int i, .int j, R => C i j ∧ R (f i j)
  | _, _, _ => False
theorem o_int {f : Value → Value → Sem Value} {C : Int → Int → Prop} {g : Int → Int → V} {g' : Int → Int → D} (ho : OpR X f (rI C g)) (hg : ∀ i j Z, At X.K Z (g' i j) (g i j)) : OpR X f (dOp2 X.K (intD2 C g')) := by
  intro pins s σ H x y v u Q I rx ry ⟨Z, d, e, R, k, ad, ae, h, q⟩
  cases d <;> cases e <;> try exact h.elim
  simp only [At] at ad ae
  subst ad; subst ae
  exact ho pins s σ H _ _ v u Q I rx ry ⟨_, _, rfl, rfl, h.1, dk q k h.2 (hg _ _ _)⟩
def intD0 (f : Int → Int → D) : D → D → DK → Prop
  | .int i, .int j, R => R (f i j)
  | _, _, _ => False
theorem o_int0 {f : Value → Value → Sem Value} {g : Int → Int → V} {g' : Int → Int → D} (ho : OpR X f (rI0 g)) (hg : ∀ i j Z, At X.K Z (g' i j) (g i j)) : OpR X f (dOp2 X.K (intD0 g')) := by
  intro pins s σ H x y v u Q I rx ry ⟨Z, d, e, R, k, ad, ae, h, q⟩
  cases d <;> cases e <;> try exact h.elim
  simp only [At] at ad ae
  subst ad; subst ae
  exact ho pins s σ H _ _ v u Q I rx ry ⟨_, _, rfl, rfl, dk q k h (hg _ _ _)⟩
abbrev subD := intD0 fun i j => .int (i - j)
theorem o_sub : OpR X (binaryOp .Sub) (dOp2 X.K subD) := o_int0 op_sub fun _ _ _ => rfl
abbrev fdivD := intD2 DivOk fun i j => .int (i.fdiv j)
theorem o_fdiv : OpR X (binaryOp .FloorDiv) (dOp2 X.K fdivD) := o_int op_fdivM fun _ _ _ => rfl
abbrev modD := intD2 (fun _ j => 0 < j) fun i j => .int (i % j)
theorem o_mod : OpR X (binaryOp .Mod) (dOp2 X.K modD) := o_int op_mod fun _ _ _ => rfl
abbrev powD := intD2 CPow fun i j => .int (i ^ j.toNat)
theorem o_pow : OpR X (binaryOp .Pow) (dOp2 X.K powD) := o_int op_pow fun _ _ _ => rfl
def mulD : D → D → DK → Prop
  | .int i, .int j, R => MulOk i j ∧ R (.int (i * j))
  | .lst xs, .int k, R => (-(2 ^ 63) ≤ k ∧ k < 2 ^ 63 ∧ xs.length * k.toNat ≤ sizeLine) ∧ R (.lst (List.replicate k.toNat xs).flatten)
  | _, _, _ => False
theorem Ats.rep {K : PySem.W.Frag} {Z : Hp} {ds : List D} {vs : List V} (h : Ats K Z ds vs) : ∀ n, Ats K Z (List.replicate n ds).flatten (List.replicate n vs).flatten
  | 0 => rfl
  | n + 1 => by
    rw [List.replicate_succ, List.replicate_succ, List.flatten_cons, List.flatten_cons]
    exact h.append (Ats.rep h n)
theorem o_mul : OpR X (binaryOp .Mult) (dOp2 X.K mulD) := by
  intro pins s σ H x y v u Q I rx ry ⟨Z, d, e, R, k, ad, ae, h, q⟩
  cases d <;> cases e <;> try exact h.elim
  · simp only [At] at ad ae
    subst ad; subst ae
    exact op_mulM pins s σ H _ _ v u Q I rx ry ⟨_, _, rfl, rfl, h.1, dk q k h.2 rfl⟩
  · simp only [At] at ad ae
    obtain ⟨a, vs, rfl, a2, a3⟩ := ad
    subst ae
    refine op_rep pins s σ H _ _ v u Q I rx ry ⟨a, _, vs, rfl, rfl, k _ _ a2, h.1.1, h.1.2.1, by rw [a3.len]; exact h.1.2.2, fun p hp => ?_⟩
    rename_i xs n
    have x := Ext.new (o := HO.lst (List.replicate n.toNat vs).flatten) k hp
    exact q _ _ _ _ h.2 x ⟨p, _, rfl, upd_same, Ats.rep (Ats.mono x.zz _ _ a3) _⟩
def negD : D → DK → Prop
  | .int i, R => R (.int (-i))
  | _, _ => False
theorem o_neg : UnR X (unaryOp .USub) (dOp1 X.K negD) := by
  intro pins s σ H x v Q I rx ⟨Z, d, R, k, ad, h, q⟩
  cases d <;> try exact h.elim
  simp only [At] at ad
  subst ad
  exact un_neg pins s σ H _ v Q I rx ⟨_, rfl, dk q k h rfl⟩

def EqOk : D → D → Prop
  | .str _, .str _ => True
  | d, e => d.pln = true ∧ e.pln = true ∧ d.dep ≤ 64 ∧ e.dep ≤ 64
theorem EqOk.two {d e : D} (h : EqOk d e) : (∃ x y, d = .str x ∧ e = .str y) ∨ (d.pln = true ∧ e.pln = true ∧ d.dep ≤ 64 ∧ e.dep ≤ 64) := by
  unfold EqOk at h
  split at h
  · exact .inl ⟨_, _, rfl, rfl⟩
  · exact .inr h
def eqD : D → D → DK → Prop := fun d e R => EqOk d e ∧ R (.bl (D.eqv d e))
def neD : D → D → DK → Prop := fun d e R => EqOk d e ∧ R (.bl (!D.eqv d e))
theorem shaped_py {d : D} (h : d.pln = true) (h' : d.dep ≤ 64) : SeqAt.shaped d.py = true := by
  unfold SeqAt.shaped
  rw [canLay_py d h, dep_py d h, decide_eq_true h']; rfl
theorem str_dec (x y : Str) : decide (V.str x = V.str y) = (x == y) := by
  rw [Bool.eq_iff_iff]; simp
theorem o_eq {k : Nat} (hr : Room k X.A) : OpR X (compareOp .Eq) (dOp2 X.K eqD) := by
  intro pins s σ H x y v u Q I rx ry ⟨Z, d, e, R, k, ad, ae, h, q⟩
  rcases h.1.two with ⟨z1, z2, rfl, rfl⟩ | h1
  · simp only [At] at ad ae
    subst ad; subst ae
    refine op_eq pins s σ H _ _ v u Q I rx ry ⟨rfl, ?_⟩
    rw [str_dec]
    exact dk q k h.2 rfl
  refine op_eqD hr.units pins s σ H _ _ v u Q I rx ry ⟨d.py, e.py, At.dp k d x ad h1.1, At.dp k e y ae h1.2.1, shaped_py h1.1 h1.2.2.1, shaped_py h1.2.1 h1.2.2.2, ?_⟩
  rw [eqv_py d e h1.1 h1.2.1]
  exact dk q k h.2 rfl
theorem o_ne {k : Nat} (hr : Room k X.A) : OpR X (compareOp .NotEq) (dOp2 X.K neD) := by
  intro pins s σ H x y v u Q I rx ry ⟨Z, d, e, R, k, ad, ae, h, q⟩
  rcases h.1.two with ⟨z1, z2, rfl, rfl⟩ | h1
  · simp only [At] at ad ae
    subst ad; subst ae
    refine op_ne pins s σ H _ _ v u Q I rx ry ⟨rfl, ?_⟩
    rw [str_dec]
    exact dk q k h.2 rfl
  refine op_neD hr.units pins s σ H _ _ v u Q I rx ry ⟨d.py, e.py, At.dp k d x ad h1.1, At.dp k e y ae h1.2.1, shaped_py h1.1 h1.2.2.1, shaped_py h1.2.1 h1.2.2.2, ?_⟩
  rw [eqv_py d e h1.1 h1.2.1]
  exact dk q k h.2 rfl
abbrev leD := intD0 fun i j => .bl (decide (i ≤ j))
abbrev gtD := intD0 fun i j => .bl (decide (j < i))
abbrev ltD := intD0 fun i j => .bl (decide (i < j))
theorem o_le : OpR X (compareOp .LtE) (dOp2 X.K leD) := o_int0 op_le fun _ _ _ => rfl
theorem o_gt : OpR X (compareOp .Gt) (dOp2 X.K gtD) := o_int0 op_gt fun _ _ _ => rfl
theorem o_lt : OpR X (compareOp .Lt) (dOp2 X.K ltD) := o_int0 op_lt fun _ _ _ => rfl
def inW (neg : Bool) : D → D → DK → Prop := fun d e R => match e with
  | .lst xs => (d.pln = true ∧ D.plns xs = true ∧ d.dep ≤ 60) ∧ R (.bl (neg ^^ xs.any fun y => D.eqv y d))
  | .tup xs => (d.pln = true ∧ D.plns xs = true ∧ d.dep ≤ 60) ∧ R (.bl (neg ^^ xs.any fun y => D.eqv y d))
  | _ => False
abbrev notInD := inW true
theorem any_py {xs : List D} {d : D} (h : D.plns xs = true) (hd : d.pln = true) : ((D.pys xs).any fun y => PyData.eqv y d.py) = xs.any fun y => D.eqv y d := by
  induction xs with
  | nil => rfl
  | cons y ys ih =>
    simp only [D.plns, Bool.and_eq_true] at h
    simp only [D.pys, List.any_cons]
    rw [eqv_py y d h.1 hd, ih h.2]
theorem room_in {A : Around} {k n m : Nat} (hr : Room k A) (h : m ≤ 60) : A.units + 1 + min n m < cLine := by
  have := hr.units
  have : min n m ≤ m := Nat.min_le_right _ _
  omega
theorem o_notIn {k : Nat} (hr : Room k X.A) : OpR X (compareOp .NotIn) (dOp2 X.K notInD) := by
  intro pins s σ H x y v u Q I rx ry ⟨Z, d, e, R, k, ad, ae, h, q⟩
  cases e <;> try exact h.elim
  · obtain ⟨⟨h1, h2, h3⟩, h4⟩ := h
    obtain ⟨as, r1⟩ := Dp.reads I _ y u (At.dp k _ y ae h2) ry
    obtain ⟨bs, r2⟩ := Dp.reads I _ x v (At.dp k _ x ad h1) rx
    exact SeqAt.notIn_list_reads r1 r2 (canLays_py _ h2) (canLay_py _ h1) (by rw [dep_py d h1]; exact room_in hr h3) ⟨.bl _, H, I, rfl, dk q k h4 (by simp [At, any_py h2 h1])⟩
  · obtain ⟨⟨h1, h2, h3⟩, h4⟩ := h
    obtain ⟨as, r1⟩ := Dp.reads I _ y u (At.dp k _ y ae h2) ry
    obtain ⟨bs, r2⟩ := Dp.reads I _ x v (At.dp k _ x ad h1) rx
    exact SeqAt.notIn_tuple_reads r1 r2 (canLays_py _ h2) (canLay_py _ h1) (by rw [dep_py d h1]; exact room_in hr h3) ⟨.bl _, H, I, rfl, dk q k h4 (by simp [At, any_py h2 h1])⟩
end
end Pm
set_option Elab.async false
set_option linter.all false
set_option maxRecDepth 100000
set_option maxHeartbeats 1000000
set_option autoImplicit false
namespace Pm
open PySem PySem.Spec
open PyProof.Rows hiding St
open L2
variable {γ : Type}

def itemsD : D → Option (List D)
  | .lst xs => some xs
  | .tup xs => some xs
  | .str x => some (x.cps.toList.map fun c => .str ⟨#[c]⟩)
  | _ => none
def zipD : List D → List D → List D
  | x :: xs, y :: ys => .tup [x, y] :: zipD xs ys
  | _, _ => []
section
variable {X : Cx} {G : GP γ} {tg e e2 : Expr} {p pos tpos : Pos} {elts : List Expr} {kk : Nat}
def qItems (te : PEx γ) : PAx γ := fun s R => te s fun d s1 => match itemsD d with
  | some ds => R ds s1
  | none => False
theorem walks_list {K : PySem.W.Frag} {Z : Hp} {a : Addr} {vs : List V} {ds : List D} (h : Z a = some (.lst vs)) (h2 : Ats K Z ds vs) : Walks K (Itl K a) Z ds := by
  intro i Z1 H k1 k2
  have hs : SqL K H a vs := .inl (.inl (k2 _ _ (k1 _ _ h)))
  refine ⟨fun d hd => ?_, fun hl => ⟨vs, hs, by rw [h2.len]; exact Nat.le_of_eq hl.symm⟩⟩
  obtain ⟨v, hv, av⟩ := h2.get hd
  refine ⟨⟨vs, v, hs, hv⟩, fun x H' y => ?_⟩
  obtain ⟨e, y⟩ := y
  subst e
  have := y vs hs
  rw [hv] at this
  cases this
  exact ⟨Z1, Ext.refl k2, At.mono k1 _ _ av⟩
theorem walks_tup {K : PySem.W.Frag} {Z : Hp} {a : Addr} {vs : List V} {ds : List D} (h : SqT K Z a vs) (h2 : Ats K Z ds vs) : Walks K (Itt K a) Z ds := by
  intro i Z1 H k1 k2
  have hs : SqT K H a vs := seqT (k1.trans k2) h
  refine ⟨fun d hd => ?_, fun hl => ⟨vs, hs, by rw [h2.len]; exact Nat.le_of_eq hl.symm⟩⟩
  obtain ⟨v, hv, av⟩ := h2.get hd
  refine ⟨⟨vs, v, hs, hv⟩, fun x H' y => ?_⟩
  obtain ⟨e, y⟩ := y
  subst e
  have := y vs hs
  rw [hv] at this
  cases this
  exact ⟨Z1, Ext.refl k2, At.mono k1 _ _ av⟩
theorem walks_str {K : PySem.W.Frag} {Z : Hp} {x : Str} : Walks K (Its x) Z (x.cps.toList.map fun c => .str ⟨#[c]⟩) := by
  intro i Z1 H k1 k2
  refine ⟨fun d hd => ?_, fun hl => (by have : i = x.cps.size := by simpa using hl
                                        exact Nat.le_of_eq this.symm : x.cps.size ≤ i)⟩
  rw [List.getElem?_map, Array.getElem?_toList] at hd
  cases q : x.cps[i]? with
  | none => rw [q] at hd; cases hd
  | some c =>
    rw [q] at hd
    cases hd
    refine ⟨(Array.getElem?_eq_some_iff.mp q).1, fun v H' y => ?_⟩
    obtain ⟨e, c', h1, h2⟩ := y
    subst e; subst h2
    rw [q] at h1; cases h1
    exact ⟨Z1, Ext.refl k2, rfl⟩
theorem qi_seq {te : PEx γ} (h : QE X G e te) (hK : X.K = G.K := by rfl) : QI X G tg e (qItems te) := by
  refine ⟨fun pins s σ H R I w => ?_⟩
  obtain ⟨F, Z, sg, Rp, r, t, q⟩ := w
  refine thn (h.run pins s σ H (fun v H1 => ∃ d s1 Z1, Rel G F Z1 s1 σ H1 ∧ At G.K Z1 d v ∧ ∃ ds, itemsD d = some ds ∧ ∀ J, Walks G.K J Z1 ds → R J H1) I ⟨F, Z, sg, _, r, t, fun d s1 Z1 v H1 t1 k1 r1 a1 => ?_⟩) fun u s1 ⟨v, H1, I1, rv, d, sg1, Z1, r1, a1, ds, e1, q1⟩ => ?_
  · cases e1 : itemsD d with
    | none => rw [e1] at t1; exact t1.elim
    | some ds => rw [e1] at t1; exact ⟨d, s1, Z1, r1, a1, ds, e1, fun J hJ => q ds s1 Z1 H1 J t1 k1 r1 hJ⟩
  · have fresh : ∀ b ∈ [s1.heap.objs.size], FpOk X pins H1 b := fun b hb => by
      have e : b = s1.heap.objs.size := by simpa using hb
      subst e
      exact I1.fpOk (Nat.le_refl _) (I1.hok.fresh (Nat.le_refl _))
    cases d <;> simp only [itemsD, Option.some.injEq, reduceCtorEq] at e1
    · simp only [At] at a1
      subst a1; subst e1
      rename_i x
      obtain ⟨t, rfl⟩ := rv
      -- a text's iterator
      refine wpAny_pyIter_strU ?_
      have I2 : L2.Inv X pins σ H1 { s1 with heap := s1.heap.push { cls := .type (strIterType x), data := .fields #[.str x t, .int 0 0] } } := I1.kept (t' := s1.toks) fun b o e => Heap.get?_push_of_some _ e
      have st0 : ({ s1 with heap := s1.heap.push { cls := .type (strIterType x), data := .fields #[.str x t, .int 0 0] } } : Shared).heap.IsStrIter s1.heap.objs.size (strIterType x) x t 0 := ⟨_, Heap.get?_push_size _ rfl, rfl, rfl⟩
      first
        | exact ⟨s1.heap.objs.size, [s1.heap.objs.size], _, _, H1, rfl, I2, turn_str s1.heap.objs.size x t (strIterType x) (by unfold strIterType; split <;> simp), st0, fresh, q1 _ walks_str⟩
    · simp only [At] at a1
      obtain ⟨a, vs, rfl, h1, h2⟩ := a1
      subst e1
      cases rv
      obtain ⟨its, rv, p, hz⟩ := I1.list (xs := vs) (.inl (.inl (r1.z _ _ h1)))
      refine wpAny_pyIter_list p.isList ?_
      exact ⟨s1.heap.objs.size, [s1.heap.objs.size], _, _, H1, rfl, I1.kept (t' := s1.toks) fun b o e => Heap.get?_push_of_some _ e, turn_list a _, ⟨_, Heap.get?_push_size _ rfl, rfl, rfl⟩, fresh, q1 _ (by rw [hK]; exact walks_list h1 h2)⟩
    · simp only [At] at a1
      obtain ⟨a, vs, rfl, h1, h2⟩ := a1
      subst e1
      cases rv
      obtain ⟨its, rv, p, hz⟩ := I1.tuple (xs := vs) (by rw [hK]; exact seqT r1.z h1)
      refine wpAny_pyIter_tuple (show s1.heap.IsTuple a its.toArray from p) ?_
      exact ⟨s1.heap.objs.size, [s1.heap.objs.size], _, _, H1, rfl, I1.kept (t' := s1.toks) fun b o e => Heap.get?_push_of_some _ e, turn_tuple a _, ⟨_, Heap.get?_push_size _ rfl, rfl, rfl⟩, fresh, q1 _ (by rw [hK]; exact walks_tup h1 h2)⟩

def qZip (ta : PAx γ) : PAx γ := fun s R => ta s fun ds s1 => match ds with
  | [d1, d2] => match itemsD d1, itemsD d2 with
    | some xs, some ys => R (zipD xs ys) s1
    | _, _ => False
  | _ => False
theorem walks_range {K : PySem.W.Frag} {Z : Hp} {lo : Int} {n : Nat} : Walks K (Itr lo n) Z ((List.range n).map fun k => .int (lo + (k : Nat))) := by
  intro i Z1 H z1 z2
  refine ⟨fun d hd => ?_, fun hl => (by simpa using Nat.le_of_eq hl.symm : n ≤ i)⟩
  rw [List.getElem?_map] at hd
  by_cases hi : i < n
  · rw [List.getElem?_range hi] at hd
    cases hd
    refine ⟨hi, fun v H' y => ?_⟩
    obtain ⟨e, h2⟩ := y
    subst e; subst h2
    exact ⟨Z1, Ext.refl z2, by simp [At]⟩
  · rw [List.getElem?_eq_none (by simpa using hi)] at hd
    cases hd
def qRange1 (ta : PAx γ) : PAx γ := fun s R => ta s fun ds s1 => match ds with
  | [.int n] => (-(2 ^ 62) ≤ n ∧ n < 2 ^ 62) ∧ R ((List.range n.toNat).map fun k => .int (k : Nat)) s1
  | _ => False
theorem qi_range1 {ta : PAx γ} (hg : Gl X "range") (hm : X.mg "range" = none) (ha : QA X G [e] ta) (hs : starEach [e] X.env = [(false, eval e X.env)] := by rfl) : QI X G tg (.Call (.Name "range" p) [e] [] pos) (qRange1 ta) := by
  refine PI.imp (pi_range1 hg hm ha hs) fun σ H R ⟨F, Z, s, Rp, r, t, q⟩ => ?_
  refine ⟨F, Z, s, _, r, t, fun ds s1 Z1 vs H1 t1 k1 r1 a1 => ?_⟩
  match ds, t1, a1 with
  | [.int n], t1, a1 =>
    simp only [Ats, At] at a1
    obtain ⟨v, _, rfl, rfl, rfl⟩ := a1
    refine ⟨n, rfl, t1.1.1, t1.1.2, q _ s1 Z1 H1 _ t1.2 k1 r1 ?_⟩
    have := walks_range (K := G.K) (Z := Z1) (lo := 0) (n := n.toNat)
    simpa using this
end
end Pm
set_option Elab.async false
set_option linter.all false
set_option maxRecDepth 100000
set_option maxHeartbeats 1000000
set_option autoImplicit false
namespace Pm
open PySem PySem.Spec
open PyProof.Rows hiding St
open L2
variable {γ : Type}

def idx {α : Type} (xs : List α) (i : Int) : Option α := if i < 0 then (if 0 ≤ i + xs.length then xs[(i + xs.length).toNat]? else none) else xs[i.toNat]?
theorem idx_at {α : Type} {xs : List α} {i : Int} {v : α} (h : idx xs i = some v) : atI xs i = some v := by
  unfold idx at h
  unfold atI ixN
  by_cases hi : i < 0
  · rw [if_pos hi] at h
    by_cases h2 : 0 ≤ i + xs.length
    · rw [if_pos h2] at h
      rw [if_neg (by omega), if_pos (by omega)]
      exact h
    · rw [if_neg h2] at h; cases h
  · rw [if_neg hi] at h
    have hl := (List.getElem?_eq_some_iff.mp h).1
    rw [if_pos (by omega), if_pos (by omega)]
    exact h
theorem Ats.idx {K : PySem.W.Frag} {Z : Hp} {ds : List D} {vs : List V} (h : Ats K Z ds vs) {i : Int} {d : D} (e : Pm.idx ds i = some d) : ∃ v, atI vs i = some v ∧ At K Z d v := by
  have hl := h.len
  unfold Pm.idx at e
  by_cases hi : i < 0
  · rw [if_pos hi] at e
    by_cases h2 : 0 ≤ i + ds.length
    · rw [if_pos h2] at e
      obtain ⟨v, h3, h4⟩ := h.get e
      refine ⟨v, idx_at ?_, h4⟩
      unfold Pm.idx
      rw [if_pos hi, hl, if_pos h2]; exact h3
    · rw [if_neg h2] at e; cases e
  · rw [if_neg hi] at e
    obtain ⟨v, h3, h4⟩ := h.get e
    refine ⟨v, idx_at ?_, h4⟩
    unfold Pm.idx
    rw [if_neg hi]; exact h3
def ixD : D → D → DK → Prop
  | .lst xs, .int i, R => ∃ d, idx xs i = some d ∧ R d
  | .tup xs, .int i, R => ∃ d, idx xs i = some d ∧ R d
  | .str z, .int i, R => z.length ≤ sizeLine ∧ ∃ c, idx z.cps.toList i = some c ∧ R (.str ⟨#[c]⟩)
  | _, _, _ => False
section
variable {X : Cx}
theorem x_ix : IxR X (dOp2 X.K ixD) := by
  intro value slice pins s σ H x y v u Q I rx ry ⟨Z, d, e, R, k, ad, ae, h, q⟩ hs
  cases d <;> cases e <;> try exact h.elim
  · simp only [At] at ad ae
    subst ad; subst ae
    obtain ⟨h1, c, h2, h3⟩ := h
    exact ix_str value slice pins s σ H _ _ v u Q I rx ry ⟨_, _, c, rfl, rfl, h1, idx_at h2, dk q k h3 rfl⟩ hs
  · simp only [At] at ad ae
    obtain ⟨a, vs, rfl, a2, a3⟩ := ad
    subst ae
    obtain ⟨d, h1, h2⟩ := h
    obtain ⟨w, h3, h4⟩ := a3.idx h1
    exact ix_list value slice pins s σ H _ _ v u Q I rx ry ⟨a, vs, _, w, rfl, rfl, .inl (.inl (k _ _ a2)), h3, dk q k h2 h4⟩ hs
  · simp only [At] at ad ae
    obtain ⟨a, vs, rfl, a2, a3⟩ := ad
    subst ae
    obtain ⟨d, h1, h2⟩ := h
    obtain ⟨w, h3, h4⟩ := a3.idx h1
    exact ix_tup value slice pins s σ H _ _ v u Q I rx ry ⟨a, vs, _, w, rfl, rfl, seqT k a2, h3, dk q k h2 h4⟩ hs
end
section
variable {X : Cx} {G : GP γ} {a b e : Expr} {pos : Pos}
theorem qe_ix {ta tb : PEx γ} (ha : QE X G a ta) (hb : QE X G b tb) (hs : PlainIx b := by intro _ _; rfl) (hK : X.K = G.K := by rfl) : QE X G (.Subscript a b pos) (qBin ixD ta tb) :=
  PE.imp (pe_ix x_ix ha hb hs) fun _ _ _ h => by rw [hK]; exact lbin h

end

section
variable {X : Cx} {G : GP γ} {a b e : Expr} {pos : Pos} {i : Nat} {x : Str} {xp : Pos}
def cut {α : Type} (xs : List α) (lo hi : Option Int) : List α := (xs.drop (HT.sIx xs.length 0 lo)).take (HT.sIx xs.length xs.length hi - HT.sIx xs.length 0 lo)
theorem cut_from {α : Type} (xs : List α) (k : Nat) : cut xs (some (k : Int)) none = xs.drop k := by
  unfold cut
  rw [HT.sIx_nat, HT.sIx_none]
  by_cases h : k ≤ xs.length
  · rw [Nat.min_eq_left h, List.take_of_length_le (by rw [List.length_drop]; omega)]
  · rw [Nat.min_eq_right (by omega), List.drop_eq_nil_of_le (Nat.le_refl _), List.drop_eq_nil_of_le (by omega)]; simp
theorem cut_to {α : Type} (xs : List α) (k : Nat) : cut xs none (some (k : Int)) = xs.take k := by
  unfold cut
  rw [HT.sIx_none, HT.sIx_nat, List.drop_zero, Nat.sub_zero]
  by_cases h : k ≤ xs.length
  · rw [Nat.min_eq_left h]
  · rw [Nat.min_eq_right (by omega), List.take_of_length_le (Nat.le_refl _), List.take_of_length_le (by omega)]
theorem cut_length {α : Type} (xs : List α) (lo hi : Option Int) : (cut xs lo hi).length ≤ xs.length := by
  unfold cut
  rw [List.length_take, List.length_drop]; omega
theorem Ats.cut {K : PySem.W.Frag} {Z : Hp} {ds : List D} {vs : List V} (h : Ats K Z ds vs) (lo hi : Option Int) : Ats K Z (Pm.cut ds lo hi) (cutV vs lo hi) := by
  unfold Pm.cut cutV
  rw [h.len]
  exact (h.drop _).take _
theorem getItem_tuple_whole {prog : Program} {w : World} {A : Around} {E : Value → Shared → Prop} {s : Shared} {t sl : Addr} {items : Array Value} {vl vu : Value} {lo hi : Option Int} {Q : Value → Shared → Prop} (ht : IsTup s.heap t items) (hs : s.heap.IsSliceOf sl vl vu .none) (pl : IsPart vl lo) (pu : IsPart vu hi)
    (hw : HT.sIx items.size 0 lo = 0 ∧ HT.sIx items.size items.size hi = items.size) (h : Q (.ref t) s) : wpAny (model prog w) A (getItem (.ref t) (.ref sl)) Q E s := by
  obtain ⟨os, hos, hcs, hds⟩ := id hs
  have hTs : s.TypeIs (.ref sl) "slice" := ⟨os, hos, hcs⟩
  unfold getItem
  try with_reducible refine wpAny_holding ?_
  first | refine wpAny_bind (wpAny_pure ?_) | skip
  refine wpAny_bind (wpAny_sequenceKey ht.typeIs (by decide) ?_)
  refine wpAny_bind (wpAny_callSpecial?_slot (name := Str.ofString "__getitem__") ht.typeIs PyProof.Rows.slot_tuple_getitem
    (wpAny_call_entry PyProof.Rows.slot_tuple_getitem ht.typeIs entry_tuple_getitem ?_ (args_tuple_getitem _ _)))
  show wpAny _ _ (Builtin.Tuple.tupleItemsOf (.ref t) >>= _) _ _ s
  refine wpAny_bind (tupleItemsOf_ ht ?_)
  refine wpAny_bind (wpAny_typeOf hTs ?_)
  rw [if_pos (by decide)]
  refine wpAny_bind (HT.sliceApplied_gen hs pl pu ?_)
  have hno : ((((HT.sIx items.size 0 lo : Nat) : Int) == 0 && (1 : Int) == 1 && (HT.sIx items.size items.size hi - HT.sIx items.size 0 lo) == items.size) = true) := by
    rw [hw.1, hw.2]; simp
  show wpAny _ _ (if (((HT.sIx items.size 0 lo : Nat) : Int) == 0 && (1 : Int) == 1 && (HT.sIx items.size items.size hi - HT.sIx items.size 0 lo) == items.size) = true then _ else _) _ _ s
  rw [if_pos hno]
  unfold Builtin.Tuple.tupleIsExact
  refine wpAny_bind (wpAny_bind (wpAny_typeOf ht.typeIs (wpAny_pure ?_)))
  rw [if_pos (by decide)]
  refine wpAny_bind (wpAny_rule ?_)
  exact wpAny_pure ⟨_, rfl, wpAny_pure h⟩
end
def sliceD (d : D) (lo hi : Option Int) (R : DK) : Prop := match d with
  | .lst xs => R (.lst (cut xs lo hi))
  | .tup xs => R (.tup (cut xs lo hi))
  | .str z => z.length ≤ sizeLine ∧ R (.str (cutS z lo hi))
  | _ => False
def dSl (K : PySem.W.Frag) (p : D → Option Int → Option Int → DK → Prop) : V → Option Int → Option Int → Hp → VK → Prop := fun x lo hi H Q => ∃ Z d R, Same Z H ∧ At K Z d x ∧ p d lo hi R ∧ ∀ z Z' v H', R z → Ext Z H Z' H' → At K Z' z v → Q v H'
section
variable {X : Cx}
theorem x_slice : SlR X (dSl X.K sliceD) := by
  intro pins s σ H x v vl vu lo hi sl Q I rx hs pl pu ⟨Z, d, R, k, ad, h, q⟩
  cases d <;> try exact h.elim
  · simp only [At] at ad
    subst ad
    exact sl_str pins s σ H _ v vl vu lo hi sl Q I rx hs pl pu ⟨_, rfl, h.1, dk q k h.2 rfl⟩
  · simp only [At] at ad
    obtain ⟨a, vs, rfl, a2, a3⟩ := ad
    refine sl_list pins s σ H _ v vl vu lo hi sl Q I rx hs pl pu ⟨a, vs, rfl, .inl (.inl (k _ _ a2)), fun p hp => ?_⟩
    have x := Ext.new (o := HO.lst (cutV vs lo hi)) k hp
    exact q _ _ _ _ h x ⟨p, _, rfl, upd_same, (Ats.mono x.zz _ _ a3).cut lo hi⟩
  · simp only [At] at ad
    obtain ⟨a, vs, rfl, a2, a3⟩ := ad
    by_cases hw : HT.sIx vs.length 0 lo = 0 ∧ HT.sIx vs.length vs.length hi = vs.length
    · cases rx
      obtain ⟨its, r, ht, hz⟩ := I.tuple (seqT k a2)
      have hlen : its.toArray.size = vs.length := by rw [List.size_toArray]; exact r.length.symm
      refine ⟨"tuple", _, PyProof.Rows.slot_tuple_getitem.lookup, ht.typeIs, ?_⟩
      refine getItem_tuple_whole ht hs pl pu (by rw [hlen]; exact hw) ⟨.ref a, H, I, rfl, ?_⟩
      refine dk (d := .tup _) q k h (show At X.K Z (.tup _) _ from ⟨a, vs, rfl, a2, ?_⟩)
      have e : cutV vs lo hi = vs := by
        unfold cutV
        rw [hw.1, hw.2, List.drop_zero, Nat.sub_zero, List.take_of_length_le (Nat.le_refl _)]
      have := a3.cut lo hi
      rw [e] at this; exact this
    · refine sl_tup pins s σ H _ v vl vu lo hi sl Q I rx hs pl pu ⟨a, vs, rfl, seqT k a2, hw, fun p hp => ?_⟩
      have x := Ext.new (o := HO.tup (cutV vs lo hi)) k hp
      exact q _ _ _ _ h x ⟨p, _, rfl, .inl (.inl upd_same), (Ats.mono x.zz _ _ a3).cut lo hi⟩
end
section
variable {X : Cx} {G : GP γ} {a b e : Expr} {pos p2 : Pos} {lo hi : Option Expr}
def qNoPart : POx γ := fun s R => R none s
def qPart (te : PEx γ) : POx γ := fun s R => te s fun d s1 => match d with
  | .int i => R (some i) s1
  | _ => False
theorem qo_none : QO X G none (qNoPart : POx γ) := PO.imp po_none fun σ H Q ⟨F, Z, s, R, r, t, q⟩ => q none s Z H t (Same.refl _) r
theorem qo_some {te : PEx γ} (h : QE X G e te) : QO X G (some e) (qPart te) := by
  refine PO.imp (po_some h) fun σ H Q ⟨F, Z, s, R, r, t, q⟩ => ?_
  refine ⟨F, Z, s, _, r, t, fun d s1 Z1 v H1 t1 k1 r1 a1 => ?_⟩
  cases d with
  | int i => exact ⟨i, a1, q _ s1 Z1 H1 t1 k1 r1⟩
  | _ => exact t1.elim
def qSl (te : PEx γ) (tl th : POx γ) : PEx γ := fun s R => te s fun d s1 => tl s1 fun l s2 => th s2 fun h s3 => sliceD d l h fun z => R z s3
theorem qe_slice {te : PEx γ} {tl th : POx γ} (he : QE X G e te) (hl : QO X G lo tl) (hu : QO X G hi th) (hK : X.K = G.K := by rfl) : QE X G (.Subscript e (.Slice lo hi none p2) pos) (qSl te tl th) := by
  refine PE.imp (pe_slice x_slice he hl hu) fun σ H Q ⟨F, Z, s, R, r, t, q⟩ => ?_
  refine ⟨F, Z, s, _, r, t, fun d s1 Z1 v1 H1 t1 k1 r1 a1 => ⟨F, Z1, s1, _, r1, t1, fun l s2 Z2 H2 t2 k2 r2 => ⟨F, Z2, s2, _, r2, t2, fun h s3 Z3 H3 t3 k3 r3 => ?_⟩⟩⟩
  refine ⟨Z3, d, _, r3.z, by rw [hK]; exact At.mono (k2.trans k3) _ _ a1, t3, fun z Z4 v H4 t4 x4 a4 => q z s3 Z4 v H4 t4 (((k1.trans k2).trans k3).trans x4.zz) (r3.ext x4) (by rw [hK] at a4; exact a4)⟩
end

section
variable {X : Cx}
theorem Ats.one {K : PySem.W.Frag} {Z : Hp} {d : D} {vs : List V} (h : Ats K Z [d] vs) : ∃ v, vs = [v] ∧ At K Z d v := by
  simp only [Ats] at h
  obtain ⟨v, _, rfl, h, rfl⟩ := h
  exact ⟨v, rfl, h⟩
theorem Ats.two {K : PySem.W.Frag} {Z : Hp} {d e : D} {vs : List V} (h : Ats K Z [d, e] vs) : ∃ v w, vs = [v, w] ∧ At K Z d v ∧ At K Z e w := by
  simp only [Ats] at h
  obtain ⟨v, _, rfl, h, w, _, rfl, h', rfl⟩ := h
  exact ⟨v, w, rfl, h, h'⟩
def fn1 (p : D → DK → Prop) : List D → DK → Prop
  | [d], R => p d R
  | _, _ => False
theorem c1 {f : Value} {p : D → DK → Prop} (h : ∀ (pins : List (Addr × Obj)) (s : Shared) (σ : St) (H Z : Hp) (d : D) (v : V) (us : List Value) (Q : VK) (R : DK), L2.Inv X pins σ H s → Vals [v] us → Same Z H → At X.K Z d v → p d R → (∀ z Z' v H', R z → Ext Z H Z' H' → At X.K Z' z v → Q v H') →
    wpAny (model X.prog X.w) X.A (call f us) (EP X pins σ Q) X.xe s) : CallR X f (dCall X.K (fn1 p)) := by
  intro pins s σ H xs us Q I r ⟨Z, ds, R, k, a, w, q⟩
  obtain ⟨d, rfl, w⟩ : ∃ d, ds = [d] ∧ p d R := by
    cases ds with
    | nil => exact w.elim
    | cons d ds => cases ds with
      | nil => exact ⟨d, rfl, w⟩
      | cons => exact w.elim
  obtain ⟨v, rfl, a1⟩ := Ats.one a
  exact h pins s σ H Z d v us Q R I r k a1 w q
def lenD : D → DK → Prop
  | .lst xs, R => R (.int xs.length)
  | .tup xs, R => R (.int xs.length)
  | .str x, R => x.length ≤ sizeLine ∧ R (.int x.length)
  | _, _ => False
theorem c_len : CallR X (.builtin "len") (dCall X.K (fn1 lenD)) := c1 fun pins s σ H Z d v us Q R I r k a w q => by
  cases d <;> try exact w.elim
  · simp only [At] at a; subst a
    exact call_len_str pins s σ H _ us Q I r ⟨_, rfl, w.1, dk q k w.2 rfl⟩
  · simp only [At] at a
    obtain ⟨p, vs, rfl, a2, a3⟩ := a
    exact call_len_seq pins s σ H _ us Q I r ⟨p, vs, rfl, .inl (.inl (.inl (k _ _ a2))), dk q k w (by simp [At, a3.len])⟩
  · simp only [At] at a
    obtain ⟨p, vs, rfl, a2, a3⟩ := a
    exact call_len_seq pins s σ H _ us Q I r ⟨p, vs, rfl, .inr (seqT k a2), dk q k w (by simp [At, a3.len])⟩
def absD : D → DK → Prop
  | .int i, R => R (.int i.natAbs)
  | _, _ => False
theorem c_abs : CallR X (.builtin "abs") (dCall X.K (fn1 absD)) := c1 fun pins s σ H Z d v us Q R I r k a w q => by
  cases d <;> try exact w.elim
  simp only [At] at a; subst a
  rename_i i
  refine call_abs pins s σ H _ us Q I r ⟨i, rfl, dk q k w ?_⟩
  have e : (i.natAbs : Int) = if i < 0 then -i else i := by split <;> omega
  rw [e]; rfl
def intD : D → DK → Prop
  | .int i, R => R (.int i)
  | .bl b, R => R (.int (if b = true then 1 else 0))
  | _, _ => False
theorem c_int : CallR X (.type "int") (dCall X.K (fn1 intD)) := c1 fun pins s σ H Z d v us Q R I r k a w q => by
  cases d <;> try exact w.elim
  · simp only [At] at a; subst a
    exact call_int1 pins s σ H _ us Q I r (.inr ⟨_, rfl, dk q k w rfl⟩)
  · simp only [At] at a; subst a
    exact call_int1 pins s σ H _ us Q I r (.inl ⟨_, rfl, dk q k w rfl⟩)
def tupleD : D → DK → Prop
  | .lst xs, R => R (.tup xs)
  | .tup xs, R => R (.tup xs)
  | _, _ => False
theorem c_tuple : CallR X (.type "tuple") (dCall X.K (fn1 tupleD)) := c1 fun pins s σ H Z d v us Q R I r k a w q => by
  cases d <;> try exact w.elim
  · simp only [At] at a
    obtain ⟨p, vs, rfl, a2, a3⟩ := a
    refine call_tuple_of pins s σ H _ us Q I r ⟨p, vs, rfl, .inl ⟨.inl (.inl (k _ _ a2)), fun l hl => ?_⟩⟩
    have x := Ext.new (o := HO.tup vs) k hl
    exact q _ _ _ _ w x ⟨l, _, rfl, .inl (.inl upd_same), Ats.mono x.zz _ _ a3⟩
  · simp only [At] at a
    obtain ⟨p, vs, rfl, a2, a3⟩ := a
    exact call_tuple_of pins s σ H _ us Q I r ⟨p, vs, rfl, .inr ⟨seqT k a2, dk q k w ⟨p, vs, rfl, a2, a3⟩⟩⟩
def asInts : List D → Option (List Int)
  | [] => some []
  | .int i :: ds => (asInts ds).map (i :: ·)
  | _ :: _ => none
theorem asInts_eq : ∀ {ds : List D} {ns : List Int}, asInts ds = some ns → ds = ns.map D.int
  | [], ns, h => by simp [asInts] at h; subst h; rfl
  | .int i :: ds, ns, h => by
    simp only [asInts, Option.map_eq_some_iff] at h
    obtain ⟨ms, h1, rfl⟩ := h
    rw [asInts_eq h1]; rfl
  | .non :: _, _, h => by simp [asInts] at h
  | .bl _ :: _, _, h => by simp [asInts] at h
  | .str _ :: _, _, h => by simp [asInts] at h
  | .lst _ :: _, _, h => by simp [asInts] at h
  | .tup _ :: _, _, h => by simp [asInts] at h
  | .dct _ _ :: _, _, h => by simp [asInts] at h
  | .obj _ :: _, _, h => by simp [asInts] at h
theorem asInts_map : ∀ ns : List Int, asInts (ns.map D.int) = some ns
  | [] => rfl
  | n :: ns => by simp [asInts, asInts_map ns]
def asBls : List D → Option (List Bool)
  | [] => some []
  | .bl i :: ds => (asBls ds).map (i :: ·)
  | _ :: _ => none
theorem asBls_eq : ∀ {ds : List D} {ns : List Bool}, asBls ds = some ns → ds = ns.map D.bl
  | [], ns, h => by simp [asBls] at h; subst h; rfl
  | .bl i :: ds, ns, h => by
    simp only [asBls, Option.map_eq_some_iff] at h
    obtain ⟨ms, h1, rfl⟩ := h
    rw [asBls_eq h1]; rfl
  | .non :: _, _, h => by simp [asBls] at h
  | .int _ :: _, _, h => by simp [asBls] at h
  | .str _ :: _, _, h => by simp [asBls] at h
  | .lst _ :: _, _, h => by simp [asBls] at h
  | .tup _ :: _, _, h => by simp [asBls] at h
  | .dct _ _ :: _, _, h => by simp [asBls] at h
  | .obj _ :: _, _, h => by simp [asBls] at h
theorem asBls_map : ∀ ns : List Bool, asBls (ns.map D.bl) = some ns
  | [] => rfl
  | n :: ns => by simp [asBls, asBls_map ns]
def sumD : D → DK → Prop
  | .lst xs, R => ∃ ns, asInts xs = some ns ∧ R (.int ns.sum)
  | _, _ => False
def allD : D → DK → Prop
  | .lst xs, R => ∃ bs, asBls xs = some bs ∧ R (.bl (bs.all id))
  | _, _ => False
theorem c_all (hc : X.calm = true) : CallR X (.builtin "all") (dCall X.K (fn1 allD)) := c1 fun pins s σ H Z d v us Q R I r k a w q => by
  cases d <;> try exact w.elim
  obtain ⟨ns, e, w⟩ := w
  rw [asBls_eq e] at a
  simp only [At] at a
  obtain ⟨p, vs, rfl, a2, a3⟩ := a
  rw [a3.bls] at a2
  exact cr_all hc pins s σ H _ us Q I r ⟨p, ns, rfl, .inl (.inl (k _ _ a2)), dk q k w rfl⟩
def maxL : D → DK → Prop
  | .lst xs, R => ∃ ns, asInts xs = some ns ∧ 0 < ns.length ∧ ∀ m, m ∈ ns → (∀ y, y ∈ ns → y ≤ m) → R (.int m)
  | _, _ => False
def minL : D → DK → Prop
  | .lst xs, R => ∃ ns, asInts xs = some ns ∧ 0 < ns.length ∧ ∀ m, m ∈ ns → (∀ y, y ∈ ns → m ≤ y) → R (.int m)
  | _, _ => False
def fn2 (p : D → D → DK → Prop) : List D → DK → Prop
  | [d, e], R => p d e R
  | _, _ => False
theorem c2 {f : Value} {p : D → D → DK → Prop} (h : ∀ (pins : List (Addr × Obj)) (s : Shared) (σ : St) (H Z : Hp) (d e : D) (v w : V) (us : List Value) (Q : VK) (R : DK), L2.Inv X pins σ H s → Vals [v, w] us → Same Z H → At X.K Z d v → At X.K Z e w → p d e R → (∀ z Z' v H', R z → Ext Z H Z' H' → At X.K Z' z v → Q v H') →
    wpAny (model X.prog X.w) X.A (call f us) (EP X pins σ Q) X.xe s) : CallR X f (dCall X.K (fn2 p)) := by
  intro pins s σ H xs us Q I r ⟨Z, ds, R, k, a, w, q⟩
  obtain ⟨d, e, rfl, w⟩ : ∃ d e, ds = [d, e] ∧ p d e R := by
    cases ds with
    | nil => exact w.elim
    | cons d ds => cases ds with
      | nil => exact w.elim
      | cons e ds => cases ds with
        | nil => exact ⟨d, e, rfl, w⟩
        | cons => exact w.elim
  obtain ⟨v, u, rfl, a1, a2⟩ := Ats.two a
  exact h pins s σ H Z d e v u us Q R I r k a1 a2 w q
abbrev max2 := intD0 fun i j => .int (max i j)
abbrev min2 := intD0 fun i j => .int (min i j)
theorem c_max (hc : X.calm = true) : CallR X (.builtin "max") (dCall X.K (fn1 maxL)) := c1 fun pins s σ H Z d v us Q R I r k a w q => by
  cases d <;> try exact w.elim
  obtain ⟨ns, e, hl, w⟩ := w
  rw [asInts_eq e] at a
  simp only [At] at a
  obtain ⟨p, vs, rfl, a2, a3⟩ := a
  rw [a3.ints] at a2
  exact cr_max hc pins s σ H _ us Q I r ⟨p, ns, rfl, .inl (.inl (k _ _ a2)), hl, fun m h1 h2 => dk q k (w m h1 h2) rfl⟩
theorem c_min (hc : X.calm = true) : CallR X (.builtin "min") (dCall X.K (fn1 minL)) := c1 fun pins s σ H Z d v us Q R I r k a w q => by
  cases d <;> try exact w.elim
  obtain ⟨ns, e, hl, w⟩ := w
  rw [asInts_eq e] at a
  simp only [At] at a
  obtain ⟨p, vs, rfl, a2, a3⟩ := a
  rw [a3.ints] at a2
  exact cr_min hc pins s σ H _ us Q I r ⟨p, ns, rfl, .inl (.inl (k _ _ a2)), hl, fun m h1 h2 => dk q k (w m h1 h2) rfl⟩
theorem c_max2 (hc : X.calm = true) : CallR X (.builtin "max") (dCall X.K (fn2 max2)) := c2 fun pins s σ H Z d e v u us Q R I r k a b w q => by
  cases d <;> cases e <;> try exact w.elim
  simp only [At] at a b; subst a; subst b
  rename_i i j
  refine call_max2 hc pins s σ H _ us Q I r ⟨i, j, rfl, dk q k w ?_⟩
  show V.int _ = V.int _
  congr 1
  split <;> omega
theorem c_min2 (hc : X.calm = true) : CallR X (.builtin "min") (dCall X.K (fn2 min2)) := c2 fun pins s σ H Z d e v u us Q R I r k a b w q => by
  cases d <;> cases e <;> try exact w.elim
  simp only [At] at a b; subst a; subst b
  rename_i i j
  refine call_min2 hc pins s σ H _ us Q I r ⟨i, j, rfl, dk q k w ?_⟩
  show V.int _ = V.int _
  congr 1
  split <;> omega
def isTy (T : String) : D → Bool
  | .non => T == "NoneType"
  | .bl _ => T == "bool" || T == "int"
  | .int _ => T == "int"
  | .str _ => T == "str"
  | .lst _ => T == "list"
  | .tup _ => T == "tuple"
  | .dct _ _ => T == "dict"
  | .obj _ => false
def tyOf : D → String
  | .non => "NoneType" | .bl _ => "bool" | .int _ => "int" | .str _ => "str" | .lst _ => "list" | .tup _ => "tuple" | .dct _ _ => "dict" | .obj _ => ""
theorem tyX_of {K : PySem.W.Frag} {Z H : Hp} (k : Same Z H) {d : D} {v : V} (a : At K Z d v) (ho : ∀ p, d ≠ .obj p) : TyX K H v (.type (tyOf d)) := by
  cases d <;> simp only [At] at a
  · subst a; exact .base .non
  · subst a; exact .base (.bl _)
  · subst a; exact .base (.int _)
  · subst a; exact .base (.str _)
  · obtain ⟨p, vs, rfl, a2, _⟩ := a; exact .base (.lst (k _ _ a2))
  · obtain ⟨p, vs, rfl, a2, _⟩ := a
    rcases a2 with (a2 | ⟨o, a2⟩) | ⟨o, its, n, a2, c, _⟩
    · exact .base (.tup (k _ _ a2))
    · exact .fTuple (k _ _ a2)
    · exact .kTuple a2 c
  · obtain ⟨p, vs, rfl, a2, _⟩ := a; exact .base (.dK (k _ _ a2))
  · exact absurd rfl (ho _)
end
section
variable {X : Cx} {G : GP γ} {e : Expr} {pos p p2 : Pos}
def qIsi (T : String) (te : PEx γ) : PEx γ := fun s R => te s fun d s1 => (∀ p, d ≠ .obj p) ∧ R (.bl (isTy T d)) s1
theorem kit_all (K : PySem.W.Frag) {T : String} (hT : T = "int" ∨ T = "bool" ∨ T = "str" ∨ T = "tuple" ∨ T = "list" ∨ T = "dict") (d : D) (ho : ∀ p, d ≠ .obj p) : PySem.W.kitOne K (.type (tyOf d)) (.type T) = some (isTy T d) := by
  cases d with
  | obj p => exact absurd rfl (ho p)
  | _ => rcases hT with rfl | rfl | rfl | rfl | rfl | rfl <;> exact kit_ty (by simp only [tyOf, isTy]; decide +kernel)
theorem qe_isi {T : Str} {T' : String} {te : PEx γ} (hT : T' = "int" ∨ T' = "bool" ∨ T' = "str" ∨ T' = "tuple" ∨ T' = "list" ∨ T' = "dict") (he : QE X G e te) (hg : Gl X "isinstance") (hm : X.mg "isinstance" = none) (hg2 : Gl X T) (hm2 : X.mg T = none) (hv2 : bootBuiltins T = some (.type T')) (hK : X.K = G.K := by rfl)
    (hn : T ≠ "__name__" := by decide) (hd : (T == ("__debug__" : Str)) = false := by decide)
    (hs : starEach [e, .Name T p2] X.env = (false, eval e X.env) :: starEach [.Name T p2] X.env := by rfl) (hs2 : starEach [.Name T p2] X.env = (false, eval (.Name T p2) X.env) :: starEach [] X.env := by rfl) (hpl : (backTo pos (starEach [.Name T p2] X.env)).any (·.1) = false := by rfl) :
    QE X G (.Call (.Name "isinstance" p) [e, .Name T p2] [] pos) (qIsi T' te) := by
  refine PE.imp (pe_callB call_isi hg hm (by decide +kernel) (pa_cons he (pa_cons (pe_bltn (v := .ty T') hg2 hm2 hv2 rfl hn hd) pa_nil hs2) hs) (by decide) (by decide) hs hpl) fun σ H Q ⟨F, Z, s, R, r, t, q⟩ => ?_
  refine ⟨F, Z, s, _, r, t, fun d s1 Z1 v H1 t1 k1 r1 a1 => ?_⟩
  exact ⟨v, .ty T', .type (tyOf d), .type T', isTy T' d, rfl, .ty _, by rw [hK]; exact tyX_of r1.z a1 t1.1, kit_all _ hT d t1.1, q _ s1 Z1 _ H1 t1.2 k1 r1 rfl⟩

variable {i : Nat} {o : Expr} {apos cpos : Pos}
theorem own_ty {K : PySem.W.Frag} {H : Hp} {a : Addr} {vs : List V} (h : H a = some (.lst vs)) : tyV K "list" (.ref a) H := .inl ⟨rfl, vs, .inl (.inl h)⟩
def qAppend (i : Nat) (te : PEx γ) : PEx γ := fun s R => (∃ es, s.ρ[i]? = some (some (.own es))) ∧ te s fun d s1 => ∃ ds, s1.ρ[i]? = some (some (.own ds)) ∧ ds.length < sizeLine ∧ R .non ⟨s1.ρ.set i (some (.own (ds ++ [d]))), s1.g⟩
theorem qe_append {te : PEx γ} (hn : PE X o (tVar i)) (he : QE X G e te)
    (hbase : attributeBase o "append" X.env (eval o X.env) = eval o X.env := by rfl)
    (hfew : ((backTo cpos (starEach [e] X.env)).all (fun x => !x.1) && (backToKw cpos (keywordEach [] X.env)).all (fun x => x.1.isSome)
      && decide (([e] : List Expr).length + ([] : List Keyword).length + (if ([] : List Keyword).isEmpty then 0 else 1) < 30)) = true := by rfl)
    (hline : (apos.endLine == cpos.line) = true := by rfl) (hs : starEach [e] X.env = (false, eval e X.env) :: starEach [] X.env := by rfl) (hplain : (backTo cpos (starEach [] X.env)).any (·.1) = false := by rfl) :
    QE X G (.Call (.Attribute o "append" apos) [e] [] cpos) (qAppend i te) := by
  refine PE.imp (pe_bm PySem.F.plainAttrs_list PySem.F.slot_list_append PySem.F.type_list_append mt_append hn (pa_cons he pa_nil hs) hbase hfew hline hs hplain) fun σ H Q ⟨F, Z, s, R, r, ⟨⟨es, t0⟩, t⟩, q⟩ => ?_
  obtain ⟨a, vs, h1, h2, _⟩ := r.own i es t0
  refine ⟨.ref a, h1, own_ty h2, F, Z, s, _, r, t, fun d s1 Z1 v H1 ⟨ds, t1, t2, t3⟩ k1 r1 a1 => ?_⟩
  obtain ⟨a', vs', g1, g2, g3, _⟩ := r1.own i ds t1
  rw [h1] at g1; cases g1
  have g4 : Ats G.K Z1 (ds ++ [d]) (vs' ++ [v]) := g3.append ⟨v, [], rfl, a1, rfl⟩
  exact ⟨a, vs', v, rfl, rfl, g2, by rw [g3.len]; exact t2, q _ _ Z1 _ _ t3 k1 (r1.write t1 h1 g4) rfl⟩
end
end Pm
set_option Elab.async false
set_option linter.all false
set_option maxRecDepth 100000
set_option maxHeartbeats 1000000
set_option autoImplicit false
namespace Pm
open PySem PySem.Spec
open PyProof.Rows hiding St
open L2
variable {γ : Type}

abbrev drawLine : Nat := 2 ^ 24
structure Rng (r c q : Addr) (n : Nat) (H : Hp) : Prop where
  ex : ∃ cs rs : List Int, H r = some (.lst [.ref c, .int n, .ref q]) ∧ H c = some (.lst (cs.map V.int)) ∧ H q = some (.lst (rs.map V.int)) ∧ cs.length = rs.length ∧ 0 < cs.length
  rc : r ≠ c
  rq : r ≠ q
  cq : c ≠ q
def gr (K : PySem.W.Frag) (r c q : Addr) : GP Nat where
  K := K
  foot := fun _ a => a = r ∨ a = c ∨ a = q
  J := fun n _ H => Rng r c q n H
  stay := fun n _ _ H H' ⟨⟨cs, rs, h1, h2, h3, h4⟩, a, b, d⟩ _ k => ⟨⟨cs, rs, (k r (.inl rfl)).trans h1, (k c (.inr (.inl rfl))).trans h2, (k q (.inr (.inr rfl))).trans h3, h4⟩, a, b, d⟩
  live := fun n _ H a ⟨⟨cs, rs, h1, h2, h3, _⟩, _, _, _⟩ h => by
    rcases h with rfl | rfl | rfl
    · exact ⟨_, h1⟩
    · exact ⟨_, h2⟩
    · exact ⟨_, h3⟩
def nextS (r : Addr) : Spec Nat := fun ds g R => ∃ m : Int, ds = [.obj r, .int m] ∧ 0 < m ∧ m ≤ 10 ^ 60 ∧ g < drawLine ∧ ∀ k : Int, 0 ≤ k → k < m → R (.int k) (g + 1)
def tNextB (K : PySem.W.Frag) : TS :=
  tSeq (tAsg (tVar 0) (gLs K 3 (gCons (gName 2) (gCons (gName 3) (gCons (gName 4) gNil)))))
  (tSeq (tAsg (tOp (rI (fun _ j => 0 < j) fun i j => .int (i % j)) (tVar 3) (tCB (fun xs H Q => ∃ p ys, xs = [.ref p] ∧ (SqL K H p ys ∨ SqT K H p ys) ∧ Q (.int ys.length) H) (tCons (tVar 2) tNil))) (gName 5))
  (tSeq (tAsg (tOp (rI0 fun i j => .int (i + j)) (tVar 3) (tC (.int 1))) (gSub (tVar 0) (tC (.int 1)) rSetL))
  (tSeq (tIfS (tTest (tOp (rI0 fun i j => .bl (decide (j < i))) (tOp (rIxL K) (tVar 4) (tVar 5)) (tC (.int 0))))
      (tSeq (tAsg (tOp (rI (fun _ j => 0 < j) fun i j => .int (i % j)) (tOp (rIxL K) (tVar 4) (tVar 5)) (tVar 1)) (gName 6))
      (tSeq (tAsg (tOp (rI DivOk fun i j => .int (i.fdiv j)) (tOp (rIxL K) (tVar 4) (tVar 5)) (tVar 1)) (gSub (tVar 4) (tVar 5) rSetL))
      (tRet (tVar 6)))) tNext)
  (tSeq (tAsg (tOp (rI (fun _ j => 0 < j) fun i j => .int (i % j)) (tOp (rI CPow fun i j => .int (i ^ j.toNat)) (tOp (rI0 fun i j => .int (i + j)) (tOp (rI0 fun i j => .int (i + j)) (tOp (rI (fun _ j => 0 < j) fun i j => .int (i % j)) (tOp (rIxL K) (tVar 2) (tVar 5)) (tC (.int 2147483629))) (tOp (rI CMul fun i j => .int (i * j)) (tC (.int 39119)) (tVar 3))) (tC (.int 9901))) (tC (.int 3))) (tC (.int 2147483587))) (gName 7))
  (tSeq (tAsg (tOp (rI (fun _ j => 0 < j) fun i j => .int (i % j)) (tOp (rI CPow fun i j => .int (i ^ j.toNat)) (tOp (rI0 fun i j => .int (i + j)) (tOp (rI0 fun i j => .int (i + j)) (tVar 7) (tOp (rI CMul fun i j => .int (i * j)) (tOp (rI CMul fun i j => .int (i * j)) (tC (.int 7001)) (tVar 3)) (tVar 3))) (tC (.int 41))) (tC (.int 3))) (tC (.int 2147483563))) (gName 8))
  (tRet (tOp (rI (fun _ j => 0 < j) fun i j => .int (i % j)) (tOp (rI (fun _ j => 0 < j) fun i j => .int (i % j)) (tOp (rI0 fun i j => .int (i + j)) (tOp (rI CMul fun i j => .int (i * j)) (tVar 8) (tC (.int 2147483423))) (tVar 7)) (tC (.int 4611686018427387847))) (tVar 1))))))))
theorem divOk60 {i j : Int} (h : 0 < j) (h2 : j ≤ 10 ^ 60) : DivOk i j := by
  refine ⟨by omega, ?_⟩
  have h3 : j.natAbs < 2 ^ 200 := by
    have : (10 : Int) ^ 60 < 2 ^ 200 := by decide
    omega
  exact Nat.lt_of_lt_of_le (PySem.Flt.log2_lt_of (by decide) h3) (by decide)
theorem spot_get {ns : List Int} {t : Int} (hl : 0 < ns.length) : ∃ (j : Nat) (z : Int), t % (ns.length : Int) = (j : Int) ∧ j < ns.length ∧ ns[j]? = some z := by
  have h1 : 0 ≤ t % (ns.length : Int) := Int.emod_nonneg _ (by omega)
  have h2 : t % (ns.length : Int) < ns.length := Int.emod_lt_of_pos _ (by omega)
  refine ⟨(t % (ns.length : Int)).toNat, ns[(t % (ns.length : Int)).toNat]'(by omega), by omega, by omega, List.getElem?_eq_getElem _⟩
theorem mapV_get {ns : List Int} {j : Nat} {z : Int} (h : ns[j]? = some z) : (ns.map V.int)[j]? = some (.int z) := by
  rw [List.getElem?_map, h]; rfl
theorem mapV_set (ns : List Int) (j : Nat) (z : Int) : (ns.map V.int).set j (.int z) = (ns.set j z).map V.int := by
  rw [List.map_set]
theorem rSetL_at {H : Hp} {p : Addr} {xs : List V} {j : Nat} {v : V} {Q : Hp → Prop} (h : H p = some (.lst xs)) (hj : j < xs.length) (q : Q (upd H p (.lst (xs.set j v)))) : rSetL (.ref p) (.int (j : Nat)) v H Q :=
  ⟨p, xs, j, j, rfl, rfl, h, by unfold ixN; rw [if_pos (by omega), if_pos (by omega), Int.toNat_natCast], q⟩
theorem rIxL_at {K : PySem.W.Frag} {H : Hp} {p : Addr} {xs : List V} {j : Nat} {v : V} {Q : VK} (h : H p = some (.lst xs)) (hj : xs[j]? = some v) (q : Q v H) : rIxL K (.ref p) (.int (j : Nat)) H Q :=
  ⟨p, xs, j, v, rfl, rfl, .inl (.inl h), atI_nat hj, q⟩
theorem next_read {K : PySem.W.Frag} {r c q : Addr} {H : Hp} {many : Int} {n : Nat} {De : Ends} (J : Rng r c q n H) (hm : 0 < many) (hm2 : many ≤ 10 ^ 60) (hn : n < drawLine)
    (fin : ∀ (k : Int) (H' : Hp), 0 ≤ k → k < many → Rng r c q (n + 1) H' → (∀ a, a ≠ r → a ≠ c → a ≠ q → H' a = H a) → De.rt (.int k) H') :
    tNextB K De [some (.ref r), some (.int many), none, none, none, none, none, none, none] H := by
  obtain ⟨⟨cs, rs, h1, h2, h3, hl, hp⟩, rc, rq, cq⟩ := J
  have hd : (n : Int) < 16777216 := by have : drawLine = 16777216 := rfl; omega
  obtain ⟨j, z, hj, hjl, hz⟩ := spot_get (ns := cs) (t := (n : Int)) hp
  refine ⟨.ref r, rfl, r, _, rfl, .inl (.inl h1), rfl, .ref c, _, rfl, .int n, _, rfl, .ref q, _, rfl, rfl, ?_⟩
  refine ⟨.int n, rfl, .ref c, rfl, c, cs.map V.int, rfl, .inl (.inl (.inl h2)), (n : Int), ((cs.map V.int).length : Int), rfl, rfl, by rw [List.length_map]; omega, ?_⟩
  rw [List.length_map, show ((fun i j => V.int (i % j)) (n : Int) (cs.length : Int)) = V.int (j : Nat) from (by show V.int _ = _; rw [hj])]
  refine ⟨.int n, rfl, n, 1, rfl, rfl, .ref r, rfl, ?_⟩
  refine rSetL_at (j := 1) h1 (by simp) ?_
  show tSeq _ _ _ _ (upd H r (.lst [.ref c, .int ((n : Int) + 1), .ref q]))
  generalize hH1 : upd H r (.lst [.ref c, .int ((n : Int) + 1), .ref q]) = H1
  have e1 : H1 r = some (.lst [.ref c, .int ((n + 1 : Nat) : Int), .ref q]) := by rw [← hH1, upd_same]; rfl
  have e2 : H1 c = some (.lst (cs.map V.int)) := by rw [← hH1, upd_ne (Ne.symm rc)]; exact h2
  have e3 : H1 q = some (.lst (rs.map V.int)) := by rw [← hH1, upd_ne (Ne.symm rq)]; exact h3
  have eo : ∀ a, a ≠ r → a ≠ c → a ≠ q → H1 a = H a := fun a ha _ _ => by rw [← hH1, upd_ne ha]
  obtain ⟨zr, hzr⟩ : ∃ zr, rs[j]? = some zr := ⟨rs[j]'(by omega), List.getElem?_eq_getElem _⟩
  refine ⟨.ref q, rfl, .int (j : Nat), rfl, rIxL_at e3 (mapV_get hzr) ?_⟩
  refine ⟨zr, 0, rfl, rfl, decide (0 < zr), rfl, ?_⟩
  by_cases hz0 : 0 < zr
  · rw [decide_eq_true hz0]
    refine iteT ?_
    refine ⟨.ref q, rfl, .int (j : Nat), rfl, rIxL_at e3 (mapV_get hzr) ?_⟩
    refine ⟨.int many, rfl, zr, many, rfl, rfl, hm, ?_⟩
    refine ⟨.ref q, rfl, .int (j : Nat), rfl, rIxL_at e3 (mapV_get hzr) ?_⟩
    refine ⟨.int many, rfl, zr, many, rfl, rfl, divOk60 hm hm2, .ref q, rfl, .int (j : Nat), rfl, ?_⟩
    refine rSetL_at e3 (by rw [List.length_map]; omega) ?_
    refine ⟨.int (zr % many), rfl, fin _ _ (Int.emod_nonneg _ (by omega)) (Int.emod_lt_of_pos _ hm) ⟨⟨cs, rs.set j (zr.fdiv many), ?_, ?_, ?_, by rw [List.length_set]; exact hl, hp⟩, rc, rq, cq⟩ fun a a1 a2 a3 => ?_⟩
    · rw [upd_ne rq]; exact e1
    · rw [upd_ne cq]; exact e2
    · rw [upd_same, mapV_set]
    · rw [upd_ne a3]; exact eo a a1 a2 a3
  · rw [decide_eq_false hz0]
    refine iteF ?_
    have b1 : 0 ≤ z % 2147483629 := Int.emod_nonneg _ (by decide)
    have b2 : z % 2147483629 < 2147483629 := Int.emod_lt_of_pos _ (by decide)
    refine ⟨.ref c, rfl, .int (j : Nat), rfl, rIxL_at e2 (mapV_get hz) ?_⟩
    refine ⟨z, 2147483629, rfl, rfl, (by show (0 : Int) < 2147483629; decide), .int n, rfl, 39119, n, rfl, rfl, .inl ⟨by decide, by decide⟩, _, _, rfl, rfl, _, 9901, rfl, rfl, _, 3, rfl, rfl, ⟨by decide, by decide, by omega⟩, _, 2147483587, rfl, rfl, (by show (0 : Int) < 2147483587; decide), ?_⟩
    show gName 7 (V.int ((z % 2147483629 + 39119 * (n : Int) + 9901) ^ (3 : Int).toNat % 2147483587)) _ _ _
    generalize hmx : (z % 2147483629 + 39119 * (n : Int) + 9901) ^ (3 : Int).toNat % 2147483587 = mx
    have m1 : 0 ≤ mx := by rw [← hmx]; exact Int.emod_nonneg _ (by decide)
    have m2 : mx < 2147483587 := by rw [← hmx]; exact Int.emod_lt_of_pos _ (by decide)
    have n0 : 0 ≤ (n : Int) := Int.natCast_nonneg n
    have n2 : 7001 * (n : Int) * (n : Int) ≤ 7001 * 16777216 * 16777216 := Int.mul_le_mul (by omega) (by omega) n0 (by decide)
    have n3 : 0 ≤ 7001 * (n : Int) * (n : Int) := Int.mul_nonneg (by omega) n0
    refine ⟨.int mx, rfl, .int n, rfl, 7001, n, rfl, rfl, .inl ⟨by decide, by decide⟩, .int n, rfl, _, n, rfl, rfl, .inr ⟨by omega, by omega⟩, mx, _, rfl, rfl, _, 41, rfl, rfl, _, 3, rfl, rfl, ⟨by decide, by decide, by omega⟩, _, 2147483563, rfl, rfl, (by show (0 : Int) < 2147483563; decide), ?_⟩
    show gName 8 (V.int ((mx + 7001 * (n : Int) * (n : Int) + 41) ^ (3 : Int).toNat % 2147483563)) _ _ _
    generalize hag : (mx + 7001 * (n : Int) * (n : Int) + 41) ^ (3 : Int).toNat % 2147483563 = ag
    refine ⟨.int ag, rfl, ag, 2147483423, rfl, rfl, .inr ⟨by decide, by decide⟩, .int mx, rfl, _, mx, rfl, rfl, _, 4611686018427387847, rfl, rfl, (by show (0 : Int) < 4611686018427387847; decide), .int many, rfl, _, many, rfl, rfl, hm, ?_⟩
    exact fin _ _ (Int.emod_nonneg _ (by omega)) (Int.emod_lt_of_pos _ hm) ⟨⟨cs, rs, e1, e2, e3, hl, hp⟩, rc, rq, cq⟩ eo
section
variable {P : Program} {w : World} {K : PySem.W.Frag} {mg : Str → Option Value} {base : Heap}
theorem ok_next {x : Str} {st : Stmt} {f : Addr} {fd : FuncData} {N ps : List Str} {k : Nat} {r c q : Addr} (F : Fn K x x st f fd) (S : FnScope N ps (defScope st)) (hN : N.length = 9) (hp : ps.length = 2)
    (body : ∀ (cdv : Value) (A : Around) (outer : List Env) (s : Shared) (H : Hp) (E : XK), Room k (A.deeper (envOfC x (defScope st) s.heap.objs.size f cdv)) →
      PSs (cxOf CX0 P w K mg base N x (defScope st) f cdv A outer s H E).nox (defBody st) (tNextB K)) : FnOk P w K mg base CX0 (k + 1) f fd ps (spG (gr K r c q) (nextS r)) := by
  refine F.ok S (fun vs H Q E h => ?_) (fun cdv A outer s H vs Q E hr h => ⟨_, body cdv A outer s H E hr, ?_⟩)
  · obtain ⟨Z, ds, g, R, _, a, _, _, ⟨m, rfl, _⟩, _⟩ := h
    rw [a.len, hp]; rfl
  · obtain ⟨Z, ds, g, R, k, a, J, zf, ⟨m, rfl, m1, m2, m3, fin⟩, q'⟩ := h
    obtain ⟨v1, v2, rfl, a1, a2⟩ := Ats.two a
    simp only [At] at a1 a2
    subst a1; subst a2
    have e : L2.start N [V.ref r, V.int m] = [some (.ref r), some (.int m), none, none, none, none, none, none, none] := by
      unfold L2.start
      rw [hN]; rfl
    rw [e]
    refine next_read J m1 m2 m3 fun k0 H' h0 h1 J' keep => ?_
    refine q' (.int k0) (g + 1) Z _ H' (fin k0 h0 h1) (Same.refl _) (fun b o e => ?_) (fun b o e n => ?_) (fun b o e n => by rw [e] at n; cases n) J' (fun b hb => ⟨zf b hb, .inl hb⟩) rfl
    · have hn : ¬ (b = r ∨ b = c ∨ b = q) := fun hb => by rw [zf b hb] at e; cases e
      rw [keep b (fun z => hn (.inl z)) (fun z => hn (.inr (.inl z))) (fun z => hn (.inr (.inr z)))]
      exact k b o e
    · have hn : ¬ (b = r ∨ b = c ∨ b = q) := n
      rw [keep b (fun z => hn (.inl z)) (fun z => hn (.inr (.inl z))) (fun z => hn (.inr (.inr z)))]
      exact e
end

def spDraws (K : PySem.W.Frag) : Sp := fun vs H Q _ => ∃ (a : Addr) (ns : List Int), vs = [.ref a] ∧ SqL K H a (ns.map V.int) ∧ ns.length ≤ 63 ∧
  ∀ (r c q : Addr) H', Same H H' → H r = none → H c = none → H q = none → Rng r c q 0 H' → Q (.ref r) H'
def tDrawsB (K : PySem.W.Frag) (vs : List Nat) : TS :=
  tSeq (tAsg (tOp rCat (tCB (fun xs H Q => ∃ p ys, xs = [.ref p] ∧ (SqL K H p ys ∨ SqT K H p ys) ∧ ∀ l, H l = none → Q (.ref l) (upd H l (.lst ys))) (tCons (tSl (rSlL K) (tVar 0) tNoPart (tPart (tC (.int 63)))) tNil))
      (tOp rRep (tLst (tCons (tC (.int 0)) tNil)) (tCB (fun xs H Q => (∃ i, xs = [.int i] ∧ Q (.int i) H) ∨ ∃ k, xs = [.bl k] ∧ Q (.int (if k then 1 else 0)) H)
        (tCons (tOp rEq (tCB (fun xs H Q => ∃ p ys, xs = [.ref p] ∧ (SqL K H p ys ∨ SqT K H p ys) ∧ Q (.int ys.length) H) (tCons (tVar 0) tNil)) (tC (.int 0))) tNil)))) (gName 1))
  (tRet (tLst (tCons (tVar 1) (tCons (tC (.int 0)) (tCons (tLc (iList K (tVar 1)) (gName 2) tYes
    (tOp (rI CMul fun i j => .int (i * j)) (tVar 2) (tCB (fun xs H Q => (∃ i, xs = [.int i] ∧ Q (.int i) H) ∨ ∃ k, xs = [.bl k] ∧ Q (.int (if k then 1 else 0)) H)
      (tCons (tOp (rI0 fun i j => .bl (decide (j ≤ i))) (tVar 2) (tOp (rI CPow fun i j => .int (i ^ j.toNat)) (tC (.int 10)) (tC (.int 18)))) tNil))) vs) tNil)))))
theorem cut63 (ns : List Int) (h : ns.length ≤ 63) : cutV (ns.map V.int) none (some 63) = ns.map V.int := by
  have : cutV (ns.map V.int) none (some 63) = cut (ns.map V.int) none (some ((63 : Nat) : Int)) := rfl
  rw [this, cut_to, List.take_of_length_le (by rw [List.length_map]; exact h)]
theorem tYes_if {σ : List (Option V)} {H : Hp} {A B : Hp → Prop} (h : A H) : tYes σ H fun b H => if b = true then A H else B H := by
  show (if true = true then A H else B H)
  rw [if_pos rfl]; exact h
theorem draws_read {K : PySem.W.Frag} {a : Addr} {ns : List Int} {H : Hp} {De : Ends} (hs : SqL K H a (ns.map V.int)) (hl : ns.length ≤ 63)
    (fin : ∀ (r c q : Addr) H', Same H H' → H r = none → H c = none → H q = none → Rng r c q 0 H' → De.rt (.ref r) H') : tDrawsB K [2] De [some (.ref a), none, none] H := by
  have lim : (1000 : Nat) ≤ sizeLine := by decide
  refine ⟨.ref a, rfl, 63, rfl, a, ns.map V.int, rfl, hs, fun p1 np1 => ?_⟩
  rw [cut63 ns hl]
  have s1 := same_upd (o := HO.lst (ns.map V.int)) np1
  generalize hH1 : upd H p1 (.lst (ns.map V.int)) = H1 at s1
  have a1 : H1 p1 = some (.lst (ns.map V.int)) := by rw [← hH1, upd_same]
  refine ⟨p1, ns.map V.int, rfl, .inl (.inl (.inl a1)), fun p2 np2 => ?_⟩
  have s2 := s1.trans (same_upd (o := HO.lst (ns.map V.int)) np2)
  generalize hH2 : upd H1 p2 (.lst (ns.map V.int)) = H2 at s2
  have a2 : H2 p2 = some (.lst (ns.map V.int)) := by rw [← hH2, upd_same]
  refine ⟨(by show 1 ≤ sizeLine; decide), fun p3 np3 => ?_⟩
  have s3 := same_upd (o := HO.lst [V.int 0]) np3
  generalize hH3 : upd H2 p3 (.lst [V.int 0]) = H3 at s3
  have a3 : H3 p3 = some (.lst [V.int 0]) := by rw [← hH3, upd_same]
  have a23 : H3 p2 = some (.lst (ns.map V.int)) := s3 _ _ a2
  have sA : Same H H3 := s2.trans s3
  refine ⟨.ref a, rfl, a, ns.map V.int, rfl, .inl (sA.seq hs), rfl, .inr ⟨_, rfl, ?_⟩⟩
  generalize hk : decide (V.int (((ns.map V.int).length : Nat) : Int) = V.int 0) = kz
  have hkz : kz = decide (ns.length = 0) := by
    rw [← hk, Bool.eq_iff_iff, decide_eq_true_iff, decide_eq_true_iff, List.length_map]
    constructor
    · intro h; have := V.int.inj h; omega
    · intro h; rw [h]; rfl
  refine ⟨p3, if kz then 1 else 0, [V.int 0], rfl, rfl, a3, by split <;> decide, by split <;> decide, by split <;> decide, fun p4 np4 => ?_⟩
  generalize hz : (List.replicate (if kz = true then (1 : Int) else 0).toNat [V.int 0]).flatten = zs
  have s4 := same_upd (o := HO.lst zs) np4
  generalize hH4 : upd H3 p4 (.lst zs) = H4 at s4
  have a4 : H4 p4 = some (.lst zs) := by rw [← hH4, upd_same]
  obtain ⟨ms, hms, hmp, hml⟩ : ∃ ms : List Int, ns.map V.int ++ zs = ms.map V.int ∧ 0 < ms.length ∧ ms.length ≤ 64 := by
    by_cases h0 : ns.length = 0
    · have : ns = [] := List.length_eq_zero_iff.mp h0
      subst this
      refine ⟨[0], ?_, by simp, by simp⟩
      rw [← hz, hkz]; rfl
    · refine ⟨ns, ?_, by omega, by omega⟩
      have hf : kz = false := by rw [hkz]; exact decide_eq_false h0
      rw [← hz, hf]
      show ns.map V.int ++ [] = _
      rw [List.append_nil]
  have hlen : (ns.map V.int).length + zs.length ≤ sizeLine := by
    have := congrArg List.length hms
    rw [List.length_append, List.length_map] at this
    rw [List.length_map] at this ⊢
    omega
  refine ⟨p2, p4, ns.map V.int, zs, rfl, rfl, s4 _ _ a23, a4, hlen, fun c nc => ?_⟩
  rw [hms]
  have s5 := same_upd (o := HO.lst (ms.map V.int)) nc
  generalize hH5 : upd H4 c (.lst (ms.map V.int)) = H5 at s5
  have a5 : H5 c = some (.lst (ms.map V.int)) := by rw [← hH5, upd_same]
  have sB : Same H H4 := sA.trans s4
  have hc : H c = none := sB.free nc
  have sC : Same H H5 := sB.trans s5
  -- the list of three
  refine ⟨.ref c, rfl, .ref c, rfl, c, rfl, ⟨_, .inl (.inl a5)⟩, fun D nD => ?_⟩
  have hD : H D = none := sC.free nD
  have hDc : c ≠ D := ne_of_none a5 nD
  refine lc_list (K := K) (xs := ms.map V.int) (fun i H => ∃ rs : List Int, rs.length = i ∧ H D = some (.lst (rs.map V.int)) ∧ (∀ b, b ≠ D → H b = H5 b)) ?_ ?_ ?_ ?_
  · exact ⟨[], rfl, by rw [upd_same]; rfl, fun b hb => upd_ne hb⟩
  · rintro i H' - ⟨rs, _, _, ho⟩
    exact .inl (.inl (by rw [ho c hDc]; exact a5))
  · rintro i x H' hx ⟨rs, hrl, hrD, ho⟩
    rw [List.getElem?_map] at hx
    obtain ⟨z, hz1, hz2⟩ := Option.map_eq_some_iff.mp hx
    subst hz2
    refine ⟨rfl, ?_⟩
    refine tYes_if ?_
    refine ⟨.int z, rfl, .int z, rfl, 10, 18, rfl, rfl, ⟨by decide, by decide, by decide⟩, z, _, rfl, rfl, .inr ⟨_, rfl, z, _, rfl, rfl, .inr (by split <;> constructor <;> decide), rs.map V.int, hrD, ?_, ?_⟩⟩
    · have hi := (List.getElem?_eq_some_iff.mp hz1).1
      rw [List.length_map]
      omega
    · refine ⟨rs ++ [z * if decide (10 ^ (18 : Int).toNat ≤ z) = true then 1 else 0], by rw [List.length_append, hrl]; rfl, ?_, fun b hb => ?_⟩
      · rw [upd_same, List.map_append]; rfl
      · rw [upd_ne hb]; exact ho b hb
  · rintro H' ⟨rs, hrl, hrD, ho⟩
    refine ⟨(by show 3 ≤ sizeLine; decide), fun r nr => ?_⟩
    have e5 : H5 r = none := by
      have : r ≠ D := fun e => by rw [e, hrD] at nr; cases nr
      rw [← ho r this]; exact nr
    have hr : H r = none := sC.free e5
    have rc : r ≠ c := fun e => by rw [e, a5] at e5; cases e5
    have rD : r ≠ D := fun e => by rw [e, hrD] at nr; cases nr
    refine fin r c D _ (fun b o e => ?_) hr hc hD ⟨⟨ms, rs, by rw [upd_same]; rfl, ?_, ?_, ?_, hmp⟩, rc, rD, hDc⟩
    · have b1 : b ≠ r := ne_of_none e hr
      have b2 : b ≠ D := ne_of_none e hD
      rw [upd_ne b1, ho b b2]
      exact sC _ _ e
    · rw [upd_ne (Ne.symm rc), ho c hDc]; exact a5
    · rw [upd_ne (Ne.symm rD)]; exact hrD
    · rw [hrl, List.length_map]
section
variable {P : Program} {w : World} {K : PySem.W.Frag} {mg : Str → Option Value} {base : Heap}
theorem ok_draws {x : Str} {st : Stmt} {f : Addr} {fd : FuncData} {N ps : List Str} {k : Nat} (F : Fn K x x st f fd) (S : FnScope N ps (defScope st)) (hN : N.length = 3) (hp : ps.length = 1)
    (body : ∀ (cdv : Value) (A : Around) (outer : List Env) (s : Shared) (H : Hp) (E : XK), Room k (A.deeper (envOfC x (defScope st) s.heap.objs.size f cdv)) →
      PSs (cxOf CX0 P w K mg base N x (defScope st) f cdv A outer s H E).nox (defBody st) (tDrawsB K [2])) : FnOk P w K mg base CX0 (k + 1) f fd ps (spDraws K) := by
  refine F.ok S (fun vs H Q E h => ?_) (fun cdv A outer s H vs Q E hr h => ⟨_, body cdv A outer s H E hr, ?_⟩)
  · obtain ⟨a, ns, rfl, _⟩ := h
    rw [hp]; rfl
  · obtain ⟨a, ns, rfl, hs, hl, q⟩ := h
    have e : L2.start N [V.ref a] = [some (.ref a), none, none] := by
      unfold L2.start
      rw [hN]; rfl
    rw [e]
    exact draws_read hs hl fun r c q' H' h1 h2 h3 h4 h5 => q r c q' H' h1 h2 h3 h4 h5

def Glo (P : Program) (w : World) (K : PySem.W.Frag) (mg : Str → Option Value) (base : Heap) (x : Str) (n : Nat) (sp : Sp) (k : Nat) : Prop :=
  ∃ f fd ps, FnOk P w K mg base CX0 k f fd ps sp ∧ mg x = some (.ref f) ∧ PySem.W.keepIn K (.ref f) = true ∧ Binds K fd ps [] ∧ ps.length = n
theorem Glo.at {X : Cx} {x : Str} {n : Nat} {sp : Sp} {j k : Nat} (g : Glo X.prog X.w X.K X.mg X.base x n sp j) (hr : Room k X.A) (h : j ≤ k := by decide) : Def X x n sp := by
  obtain ⟨f, fd, ps, F, m, kp, b, e⟩ := g
  exact ⟨f, fd, k, ps, F.mono h, hr, m, kp, b, e⟩
end
end Pm
set_option Elab.async false
set_option linter.all false
set_option maxRecDepth 100000
set_option maxHeartbeats 1000000
set_option autoImplicit false
namespace Pm
open PySem PySem.Spec
open PyProof.Rows hiding St
open L2

def Sz (b : Nat) (i : Int) : Prop := i.natAbs < 2 ^ b
theorem Sz.le {a b : Nat} {i : Int} (h : Sz a i) (k : a ≤ b) : Sz b i := Nat.lt_of_lt_of_le h (Nat.pow_le_pow_right (by decide) k)
theorem Sz.mul {a b : Nat} {i j : Int} (h : Sz a i) (k : Sz b j) : Sz (a + b) (i * j) := by
  unfold Sz at *
  rw [Int.natAbs_mul, Nat.pow_add]
  exact Nat.mul_lt_mul'' h k
theorem Sz.add {a : Nat} {i j : Int} (h : Sz a i) (k : Sz a j) : Sz (a + 1) (i + j) := by
  unfold Sz at *
  rw [Nat.pow_succ]; omega
theorem Sz.log {b : Nat} {i : Int} (h : Sz b i) (k : 0 < b) : i.natAbs.log2 < b := PySem.Flt.log2_lt_of k h
theorem Sz.mulOk {a b : Nat} {i j : Int} (h : Sz a i) (k : Sz b j) (l : a + b < 900000 := by omega) : MulOk i j := by
  have h1 := (h.le (Nat.le_succ a)).log (Nat.succ_pos a)
  have h2 := (k.le (Nat.le_succ b)).log (Nat.succ_pos b)
  refine .inr ?_
  unfold CMulW
  omega
theorem divOk_of {b : Nat} {i j : Int} (h : Sz b j) (h0 : j ≠ 0) (l : b ≤ 9000 := by omega) : DivOk i j := ⟨h0, (h.le l).log (by decide)⟩

def frD (x : Rat) : D := .tup [.int x.num, .int x.den]
def SzR (b : Nat) (x : Rat) : Prop := Sz b x.num ∧ Sz b x.den
theorem natAbs_div_le (a : Int) (b : Nat) : (a / (b : Int)).natAbs ≤ a.natAbs := by
  rcases Nat.eq_zero_or_pos b with rfl | h
  · simp
  · exact Int.natAbs_ediv_le_natAbs a b
theorem SzR.mk {b : Nat} {n : Int} {d : Nat} (hn : Sz b n) (hd : Sz b d) (h0 : d ≠ 0) : SzR b (mkRat n d) := by
  refine ⟨?_, ?_⟩
  · unfold Sz at *
    rw [Rat.num_mkRat, if_neg h0]
    exact Nat.lt_of_le_of_lt (natAbs_div_le _ _) hn
  · unfold Sz at *
    rw [Rat.den_mkRat, if_neg h0]
    refine Nat.lt_of_le_of_lt ?_ hd
    show d / d.gcd n.natAbs ≤ d
    exact Nat.div_le_self _ _
theorem SzR.add {a b : Nat} {x y : Rat} (h : SzR a x) (k : SzR b y) : SzR (a + b + 1) (x + y) := by
  rw [Rat.add_def']
  refine SzR.mk ((h.1.mul k.2).add ((k.1.mul h.2).le (by omega))) ?_ (Nat.mul_ne_zero x.den_nz y.den_nz)
  rw [Int.natCast_mul]
  exact (h.2.mul k.2).le (by omega)
theorem frD_pln (x : Rat) : (frD x).pln = true := rfl
theorem pe_callD {X : Cx} {x : Str} {n : Nat} {sp : Sp} {e : Expr} {es : List Expr} {ta : TA} {p pos : Pos} (d : Def X x n sp) (hg : Gl X x) (ha : PA X (e :: es) ta) (hdb : (x == ("__debug__" : Str)) = false := by decide) (he : starEach (e :: es) X.env = (false, eval e X.env) :: starEach es X.env := by rfl) (hpl : (backTo pos (starEach es X.env)).any (·.1) = false := by rfl) :
    PE X (.Call (.Name x p) (e :: es) [] pos) (tCall sp [] E0 ta) := by
  obtain ⟨fa, fd, k, ps, F, hr, hm, hk, hb, _⟩ := d.ex
  exact pe_call F hr hg hm hk hb .nil pass0 ha hdb he hpl
def wkL : List (Option L) → List (Option L) → Prop
  | [], [] => True
  | a :: as, b :: bs => (b = none ∨ b = a) ∧ wkL as bs
  | _, _ => False
theorem wkL_at : ∀ {ρ ρ' : List (Option L)}, wkL ρ ρ' → ρ'.length = ρ.length ∧ ∀ (i : Nat) l, ρ'[i]? = some (some l) → ρ[i]? = some (some l)
  | [], [], _ => ⟨rfl, fun _ _ h => h⟩
  | a :: as, b :: bs, h => by
    obtain ⟨h1, h2⟩ := wkL_at h.2
    refine ⟨by simp [h1], fun i l e => ?_⟩
    cases i with
    | zero =>
      simp only [List.getElem?_cons_zero, Option.some.injEq] at e ⊢
      rcases h.1 with h | h
      · rw [h] at e; cases e
      · rw [← h]; exact e
    | succ i => simp only [List.getElem?_cons_succ] at e ⊢; exact h2 i l e
  | [], _ :: _, h => h.elim
  | _ :: _, [], h => h.elim
section
variable {γ : Type}
theorem Wk.of {ρ ρ' : List (Option L)} {g : γ} (h : wkL ρ ρ') : Wk (⟨ρ, g⟩ : S γ) ⟨ρ', g⟩ := ⟨rfl, (wkL_at h).1, (wkL_at h).2⟩
theorem seq_mid {t U : PSx γ} {E : En γ} {s : S γ} (M : S γ → Prop) (hU : ∀ s', M s' → U E s') (h : ∀ N : S γ → Prop, (∀ s', M s' → N s') → t { E with nx := N } s) : qSeq t U E s := h _ hU
end
end Pm
set_option Elab.async false
set_option linter.all false
set_option maxRecDepth 100000
set_option maxHeartbeats 1000000
set_option autoImplicit false
namespace Pm
open PySem PySem.Spec
open PyProof.Rows hiding St
open L2

structure FnG (P : Program) (w : World) (K : PySem.W.Frag) (mg : Str → Option Value) (base : Heap) (k : Nat) (f : Addr) (fd : FuncData) (ps : List Str) (sp : Sp) : Prop where
  len : ∀ vs H Q E, sp vs H Q E → vs.length = ps.length
  go : ∀ (A : Around), A.guards = some [] → Room k A → ∀ (outer : List Env) (s : Shared) (H : Hp) (args : Args) (us : List Value) (vs : List V) (Q : VK) (E : XK), Env0 P w K mg base A outer s H → BindsTo s fd args (ps.zip us) → Vals vs us → sp vs H Q E →
    codeAny (model P w) A (.call (.ref f) args) (CR CX0 outer P w H s Q E) s
section
variable {P : Program} {w : World} {K : PySem.W.Frag} {mg : Str → Option Value} {base : Heap} {k : Nat} {f : Addr} {fd : FuncData} {ps : List Str} {sp : Sp}
theorem FnG.mono {j : Nat} (F : FnG P w K mg base j f fd ps sp) (h : j ≤ k) : FnG P w K mg base k f fd ps sp := ⟨F.len, fun A g hr => F.go A g (hr.mono h)⟩
end
def rprD : D → DK → Prop := fun d R => (match d with | .lst _ => True | .tup _ => True | _ => False) ∧ (d.pln = true ∧ d.py.showable = true ∧ d.dep ≤ 60 ∧ d.py.hasDict = false ∧ d.py.shown.length ≤ sizeLine) ∧ R (.str d.py.shown)
theorem c_repr {X : Cx} {k : Nat} (hr : Room k X.A) (hg : X.A.guards = some []) : CallR X (.builtin "repr") (dCall X.K (fn1 rprD)) := c1 fun pins s σ H Z d v us Q R I r q a w hq => by
  obtain ⟨w1, ⟨p1, p2, p3, p4, p5⟩, w3⟩ := w
  obtain ⟨u, rfl, ru⟩ : ∃ u, us = [u] ∧ RelV v u := by
    cases r with
    | cons r1 r2 => cases r2; exact ⟨_, rfl, r1⟩
  obtain ⟨as, rd⟩ := Dp.reads I d.py v u (At.dp q d v a p1) ru
  have hv : ∃ b, u = .ref b := by
    cases d <;> first | exact w1.elim | (simp only [At] at a; obtain ⟨b, vs, rfl, _⟩ := a; cases ru; exact ⟨b, rfl⟩)
  obtain ⟨b, rfl⟩ := hv
  have un := hr.un
  refine repr_of_reads' rd p2 (fun z => by rw [p4] at z; cases z) hg (by rw [dep_py _ p1]; omega) (fun _ _ z => z) (fun h' u tk kp => ?_) p5
  exact ⟨.str _, H, I.kept (t' := tk) kp, ⟨u, rfl⟩, dk hq q w3 rfl⟩
section
variable {γ : Type} {P : Program} {w : World} {K : PySem.W.Frag} {mg : Str → Option Value} {base : Heap}
structure DefS (X : Cx) (x : Str) (n : Nat) (sp : Sp) : Prop where
  ex : ∃ f fd k ps, FnG X.prog X.w X.K X.mg X.base k f fd ps sp ∧ X.A.guards = some [] ∧ Room k X.A ∧ X.mg x = some (.ref f) ∧ PySem.W.keepIn X.K (.ref f) = true ∧ Binds X.K fd ps [] ∧ ps.length = n
def GloS (P : Program) (w : World) (K : PySem.W.Frag) (mg : Str → Option Value) (base : Heap) (x : Str) (n : Nat) (sp : Sp) (k : Nat) : Prop :=
  ∃ f fd ps, FnG P w K mg base k f fd ps sp ∧ mg x = some (.ref f) ∧ PySem.W.keepIn K (.ref f) = true ∧ Binds K fd ps [] ∧ ps.length = n
theorem GloS.at {X : Cx} {x : Str} {n : Nat} {sp : Sp} {j k : Nat} (g : GloS X.prog X.w X.K X.mg X.base x n sp j) (hr : Room k X.A) (gd : X.A.guards = some []) (h : j ≤ k := by decide) : DefS X x n sp := by
  obtain ⟨f, fd, ps, F, m, kp, b, e⟩ := g
  exact ⟨f, fd, k, ps, F.mono h, gd, hr, m, kp, b, e⟩
theorem pe_callS {X : Cx} {x : Str} {n : Nat} {sp : Sp} {e : Expr} {es : List Expr} {ta : TA} {p pos : Pos} (d : DefS X x n sp) (hg : Gl X x) (ha : PA X (e :: es) ta) (hdb : (x == ("__debug__" : Str)) = false := by decide) (he : starEach (e :: es) X.env = (false, eval e X.env) :: starEach es X.env := by rfl) (hpl : (backTo pos (starEach es X.env)).any (·.1) = false := by rfl) :
    PE X (.Call (.Name x p) (e :: es) [] pos) (tCall sp [] E0 ta) := by
  obtain ⟨f, fd, k, ps, F, gd, hr, hm, hk, hb, _⟩ := d.ex
  refine ⟨fun pins s σ H Q I hw => wpAny_Call_Name_kw (ld_glob I hg hm (PySem.W.callWith_K (h₀ := X.base) I.ok.mod.kin hk (thn (ha.run pos pins s σ H _ I hw) fun us s1 ⟨vs, H1, I1, rv, q⟩ => ⟨I1.kIn, ?_⟩) he hpl) hdb)⟩
  have q : sp vs H1 Q E0 := by
    have q' : sp (vs ++ []) H1 Q E0 := q
    rw [List.append_nil] at q'; exact q'
  have ln : us.length = ps.length := by rw [← rv.length]; exact F.len _ _ _ _ q
  have bd := hb s1 us I1.kIn (by rw [List.append_nil]; exact ln)
  rw [List.append_nil] at bd
  refine wpAny_call (codeAny_mono (F.go X.A gd hr X.stack s1 H1 ⟨us, []⟩ us vs Q E0 I1.env0 bd rv q) fun fl s2 z => ?_)
  cases fl with
  | error e => exact pass0 pins σ H1 s1 e s2 I1 z
  | ok fl =>
    cases fl with
    | ret u => exact I1.after z
    | next => exact z.elim
    | brk => exact z.elim
    | cont => exact z.elim
theorem qe_callGS {X : Cx} {G : GP γ} {x : Str} {n : Nat} {f : Spec γ} {e : Expr} {es : List Expr} {t : PAx γ} {p pos : Pos} (d : DefS X x n (spG G f)) (hg : Gl X x) (ha : QA X G (e :: es) t) (hdb : (x == ("__debug__" : Str)) = false := by decide) (he : starEach (e :: es) X.env = (false, eval e X.env) :: starEach es X.env := by rfl) (hpl : (backTo pos (starEach es X.env)).any (·.1) = false := by rfl) :
    QE X G (.Call (.Name x p) (e :: es) [] pos) (qCallG f t) := PE.imp (pe_callS d hg ha hdb he hpl) fun _ _ _ h => lcallG h
end
end Pm
set_option Elab.async false
set_option linter.all false
set_option maxRecDepth 100000
set_option maxHeartbeats 1000000
set_option autoImplicit false
namespace Pm
open PySem PySem.Spec
open PyProof.Rows hiding St
open L2
mutual
def D.wid : D → Nat
  | .non => 8
  | .bl _ => 8
  | .int _ => 2000
  | .str x => 10 * x.length + 8
  | .lst xs => D.wids xs + 8
  | .tup xs => D.wids xs + 8
  | .dct _ _ => 8
  | .obj _ => 8
def D.wids : List D → Nat
  | [] => 0
  | d :: ds => d.wid + 8 + D.wids ds
end
mutual
theorem eqv_refl : ∀ d : D, d.pln = true → D.eqv d d = true
  | .non, _ => rfl
  | .bl b, _ => by simp [D.eqv]
  | .int i, _ => by simp [D.eqv]
  | .str x, _ => by simp [D.eqv]
  | .lst xs, h => by
    simp only [D.eqv]
    exact eqvs_refl xs (by simpa [D.pln] using h)
  | .tup xs, h => by
    simp only [D.eqv]
    exact eqvs_refl xs (by simpa [D.pln] using h)
  | .dct _ _, h => by simp [D.pln] at h
  | .obj _, h => by simp [D.pln] at h
theorem eqvs_refl : ∀ ds : List D, D.plns ds = true → D.eqvs ds ds = true
  | [], _ => rfl
  | d :: ds, h => by
    simp only [D.plns, Bool.and_eq_true] at h
    simp only [D.eqvs, eqv_refl d h.1, eqvs_refl ds h.2, Bool.and_self]
end
theorem wipeL_get (ρ : List (Option L)) : ∀ (vs : List Nat) (i : Nat), (wipeL ρ vs)[i]? = if i ∈ vs ∧ i < ρ.length then some none else ρ[i]?
  | [], i => by simp [wipeL]
  | v :: vs, i => by
    unfold wipeL
    have ih := wipeL_get ρ vs i
    have ln := wipeL_length ρ vs
    rw [List.getElem?_set, ih, ln]
    by_cases h : v = i
    · subst h
      by_cases h2 : v < ρ.length
      · simp [h2]
      · simp [h2]
    · have : i ≠ v := fun e => h e.symm
      simp [h, this]
mutual
theorem put_out : ∀ {t : Tg} {d : D} {ρ ρ' : List (Option L)}, t.put d ρ = some ρ' → ρ'.length = ρ.length ∧ ∀ i, i ∉ t.js → ρ'[i]? = ρ[i]?
  | .nm j, d, ρ, ρ', h => by
    simp only [Tg.put, Option.some.injEq] at h
    subst h
    exact ⟨by simp, fun i hi => List.getElem?_set_ne (by simpa [Tg.js, eq_comm] using hi)⟩
  | .tp ts, d, ρ, ρ', h => by
    cases d with
    | tup ds =>
      simp only [Tg.put] at h
      exact puts_out h
    | lst ds =>
      simp only [Tg.put] at h
      exact puts_out h
    | _ => simp [Tg.put] at h
theorem puts_out : ∀ {ts : List Tg} {ds : List D} {ρ ρ' : List (Option L)}, Tg.puts ts ds ρ = some ρ' → ρ'.length = ρ.length ∧ ∀ i, i ∉ Tg.jss ts → ρ'[i]? = ρ[i]?
  | [], [], ρ, ρ', h => by
    simp only [Tg.puts, Option.some.injEq] at h
    subst h
    exact ⟨rfl, fun _ _ => rfl⟩
  | [], _ :: _, _, _, h => by simp [Tg.puts] at h
  | _ :: _, [], _, _, h => by simp [Tg.puts] at h
  | t :: ts, d :: ds, ρ, ρ', h => by
    simp only [Tg.puts] at h
    cases hp : t.put d ρ with
    | none => rw [hp] at h; simp at h
    | some ρ1 =>
      rw [hp] at h
      simp only [Option.bind_some] at h
      obtain ⟨a1, a2⟩ := put_out hp
      obtain ⟨b1, b2⟩ := puts_out h
      refine ⟨b1.trans a1, fun i hi => ?_⟩
      simp only [Tg.jss, List.mem_append, not_or] at hi
      rw [b2 i hi.2, a2 i hi.1]
end
theorem put_wipe {t : Tg} {d : D} {ρ ρ' : List (Option L)} {vs : List Nat} (h : t.put d (wipeL ρ vs) = some ρ') (hj : ∀ j ∈ t.js, j ∈ vs) : wipeL ρ' vs = wipeL ρ vs := by
  obtain ⟨a1, a2⟩ := put_out h
  rw [wipeL_length] at a1
  refine List.ext_getElem? fun i => ?_
  rw [wipeL_get, wipeL_get, a1]
  by_cases hi : i ∈ vs
  · by_cases hl : i < ρ.length
    · simp [hi, hl]
    · simp only [hl, and_false, if_false]
      rw [List.getElem?_eq_none (by omega), List.getElem?_eq_none (by omega)]
  · simp only [hi, false_and, if_false]
    rw [a2 i fun e => hi (hj i e), wipeL_get]
    simp [hi]
theorem listText_len (ts : List Str) : (listText ts).length ≤ piled ts + 2 := by
  cases ts with
  | nil => show 2 ≤ _; omega
  | cons t r =>
    have e1 := textFrom_length_pos r 1 (("[" : Str) ++ (if (0 : Nat) > 0 then ", " else "" : String) ++ t) (Nat.succ_pos 0)
    have e2 : ((("[" : Str) ++ (if (0 : Nat) > 0 then ", " else "" : String) ++ t)).length = 1 + t.length := by rw [strLen_append, strLen_append]; rfl
    have e3 : (listText (t :: r)).length = (textFrom 1 (("[" : Str) ++ (if (0 : Nat) > 0 then ", " else "" : String) ++ t) r).length + 1 := by
      show (textFrom 0 "[" (t :: r) ++ "]").length = _
      rw [strLen_append]; rfl
    rw [e3, e1, e2, piled_cons]; omega
theorem tupleText_len (ts : List Str) : (tupleText ts).length ≤ piled ts + 3 := by
  have e0 : (Str.join ", " ts).length ≤ piled ts := by
    by_cases h : ts = []
    · subst h; exact Nat.le_refl _
    · have := join_length_add ts h; omega
  have e1 : ((("(" : String) : Str)).length = 1 := rfl
  have e2 : (((if ts.length == 1 then ",)" else ")" : String) : Str)).length ≤ 2 := by split <;> decide
  unfold tupleText
  rw [strLen_append, strLen_append, e1]; omega
mutual
theorem shown_wid : ∀ d : D, d.pln = true → d.py.showable = true → d.py.shown.length ≤ d.wid
  | .non, _, _ => by show (4 : Nat) ≤ 8; decide
  | .bl b, _, _ => by cases b <;> (show (_ : Nat) ≤ 8; decide)
  | .int i, _, h => by
    have h' : i.natAbs.log2 < 1920 := of_decide_eq_true h
    have := int_text_length_le (k := 1920) (by decide) h'
    show (Str.ofString (toString i)).length ≤ 2000
    rw [PySem.ofString_length]; omega
  | .str x, h, _ => by
    have h' : PyData.strOk x = true := h
    show (reprText x).length ≤ 10 * x.length + 8
    have := StrLaws.reprText_len x fun c hc => by
      unfold PyData.strOk at h'
      have := Array.all_eq_true_iff_forall_mem.mp h' c (by simpa using hc)
      have := of_decide_eq_true this
      omega
    omega
  | .lst xs, h, k => by
    show (listText (PyData.shownAll (D.pys xs))).length ≤ D.wids xs + 8
    have h1 := listText_len (PyData.shownAll (D.pys xs))
    have h2 := showns_wid xs (by simpa [D.pln] using h) k
    omega
  | .tup xs, h, k => by
    show (tupleText (PyData.shownAll (D.pys xs))).length ≤ D.wids xs + 8
    have h1 := tupleText_len (PyData.shownAll (D.pys xs))
    have h2 := showns_wid xs (by simpa [D.pln] using h) k
    omega
  | .dct _ _, h, _ => by simp [D.pln] at h
  | .obj _, h, _ => by simp [D.pln] at h
theorem showns_wid : ∀ ds : List D, D.plns ds = true → PyData.showableAll (D.pys ds) = true → piled (PyData.shownAll (D.pys ds)) ≤ D.wids ds
  | [], _, _ => Nat.le_refl _
  | d :: ds, h, k => by
    simp only [D.plns, Bool.and_eq_true] at h
    have k' : (d.py.showable && PyData.showableAll (D.pys ds)) = true := k
    rw [Bool.and_eq_true] at k'
    have h1 := shown_wid d h.1 k'.1
    have h2 := showns_wid ds h.2 k'.2
    show piled (d.py.shown :: PyData.shownAll (D.pys ds)) ≤ d.wid + 8 + D.wids ds
    rw [piled_cons]; omega
end
mutual
theorem noDict : ∀ d : D, d.pln = true → d.py.hasDict = false
  | .non, _ => rfl
  | .bl _, _ => rfl
  | .int _, _ => rfl
  | .str _, _ => rfl
  | .lst xs, h => noDicts xs (by simpa [D.pln] using h)
  | .tup xs, h => noDicts xs (by simpa [D.pln] using h)
  | .dct _ _, h => by simp [D.pln] at h
  | .obj _, h => by simp [D.pln] at h
theorem noDicts : ∀ ds : List D, D.plns ds = true → PyData.hasDictAll (D.pys ds) = false
  | [], _ => rfl
  | d :: ds, h => by
    simp only [D.plns, Bool.and_eq_true] at h
    show (d.py.hasDict || PyData.hasDictAll (D.pys ds)) = false
    rw [noDict d h.1, noDicts ds h.2]; rfl
end
def ShOk (d : D) : Prop := d.pln = true ∧ d.py.showable = true ∧ d.dep ≤ 60 ∧ d.wid ≤ 10000000
theorem line_big : (10000000 : Nat) ≤ sizeLine := by rw [sizeLine_eq]; decide
theorem ShOk.go {d : D} (h : ShOk d) : d.pln = true ∧ d.py.showable = true ∧ d.dep ≤ 60 ∧ d.py.hasDict = false ∧ d.py.shown.length ≤ sizeLine :=
  ⟨h.1, h.2.1, h.2.2.1, noDict d h.1, Nat.le_trans (shown_wid d h.1 h.2.1) (Nat.le_trans h.2.2.2 line_big)⟩
end Pm
set_option Elab.async false
set_option linter.all false
set_option maxRecDepth 100000
set_option maxHeartbeats 1000000
set_option autoImplicit false
namespace Pm
open PySem PySem.Spec
open PyProof.Rows hiding St
open L2
def itD (q : Int × Int) : D := .tup [.int q.1, .int q.2]
structure Pan where
  its : List (Int × Int)
  rus : List (Int × Int)
def panD (p : Pan) : D := .tup [.tup (p.its.map itD), .tup (p.rus.map itD)]
def ItOk (q : Int × Int) : Prop := -(10 ^ 9) ≤ q.1 ∧ q.1 ≤ 10 ^ 9 ∧ 1 ≤ q.2 ∧ q.2 ≤ 10 ^ 6
def RuOk (n : Nat) (q : Int × Int) : Prop := 0 ≤ q.1 ∧ q.1 < n ∧ 0 ≤ q.2 ∧ q.2 < n ∧ q.1 ≠ q.2
structure PanOk (most : Nat) (p : Pan) : Prop where
  one : 1 ≤ p.its.length
  top : p.its.length ≤ most
  it : ∀ q ∈ p.its, ItOk q
  few : p.rus.length ≤ 16
  ru : ∀ q ∈ p.rus, RuOk p.its.length q
theorem its_pln (l : List (Int × Int)) : D.plns (l.map itD) = true := by
  induction l with
  | nil => rfl
  | cons q l ih => simp only [List.map_cons, D.plns, ih]; rfl
theorem its_dep (l : List (Int × Int)) : D.deps (l.map itD) ≤ 1 := by
  induction l with
  | nil => exact Nat.zero_le _
  | cons q l ih =>
    simp only [List.map_cons, D.deps]
    have : (itD q).dep = 1 := by simp [itD, D.dep, D.deps]
    omega
theorem its_wid (l : List (Int × Int)) : D.wids (l.map itD) = 4032 * l.length := by
  induction l with
  | nil => rfl
  | cons q l ih =>
    simp only [List.map_cons, D.wids, ih, List.length_cons]
    have : (itD q).wid = 4024 := by simp [itD, D.wid, D.wids]
    omega
theorem small_show {i : Int} (h1 : -(10 ^ 100) ≤ i) (h2 : i ≤ 10 ^ 100) : (D.int i).py.showable = true := by
  have h : i.natAbs < 2 ^ 400 := by
    have : (10 : Int) ^ 100 < 2 ^ 400 := by decide
    omega
  exact decide_eq_true (Nat.lt_trans (PySem.Flt.log2_lt_of (by decide) h) (by decide))
theorem its_show (l : List (Int × Int)) (h : ∀ q ∈ l, (-(10 ^ 9) ≤ q.1 ∧ q.1 ≤ 10 ^ 9) ∧ -(10 ^ 9) ≤ q.2 ∧ q.2 ≤ 10 ^ 9) : PyData.showableAll (D.pys (l.map itD)) = true := by
  induction l with
  | nil => rfl
  | cons q l ih =>
    have hq := h q (by simp)
    have a := small_show (i := q.1) (by omega) (by omega)
    have b := small_show (i := q.2) (by omega) (by omega)
    have c := ih fun z hz => h z (by simp [hz])
    show (((D.int q.1).py.showable && ((D.int q.2).py.showable && true)) && PyData.showableAll (D.pys (l.map itD))) = true
    rw [a, b, c]; rfl
theorem PanOk.its9 {m : Nat} {p : Pan} (h : PanOk m p) : ∀ q ∈ p.its, (-(10 ^ 9) ≤ q.1 ∧ q.1 ≤ 10 ^ 9) ∧ -(10 ^ 9) ≤ q.2 ∧ q.2 ≤ 10 ^ 9 := fun q hq => by
  obtain ⟨a, b, c, d⟩ := h.it q hq
  exact ⟨⟨a, b⟩, by omega, by omega⟩
theorem PanOk.rus9 {m : Nat} {p : Pan} (h : PanOk m p) (hm : m ≤ 100) : ∀ q ∈ p.rus, (-(10 ^ 9) ≤ q.1 ∧ q.1 ≤ 10 ^ 9) ∧ -(10 ^ 9) ≤ q.2 ∧ q.2 ≤ 10 ^ 9 := fun q hq => by
  obtain ⟨a, b, c, d, _⟩ := h.ru q hq
  have := h.top
  exact ⟨⟨by omega, by omega⟩, by omega, by omega⟩
theorem panD_ok {m : Nat} {p : Pan} (h : PanOk m p) (hm : m ≤ 100) : (panD p).pln = true ∧ (panD p).py.showable = true ∧ (panD p).dep ≤ 3 ∧ (panD p).wid ≤ 500000 := by
  refine ⟨?_, ?_, ?_, ?_⟩
  · simp [panD, D.pln, D.plns, its_pln]
  · show (PyData.showableAll (D.pys (p.its.map itD)) && (PyData.showableAll (D.pys (p.rus.map itD)) && true)) = true
    rw [its_show _ h.its9, its_show _ (h.rus9 hm)]; rfl
  · have h1 := its_dep p.its
    have h2 := its_dep p.rus
    simp only [panD, D.dep, D.deps]; omega
  · have h1 := h.top
    have h2 := h.few
    simp only [panD, D.wid, D.wids, its_wid]; omega
end Pm
set_option Elab.async false
set_option linter.all false
set_option maxRecDepth 100000
set_option maxHeartbeats 1000000
set_option autoImplicit false
namespace Pm
open PySem PySem.Spec
open PyProof.Rows hiding St
open L2
def natD (i : Nat) : D := .int i
end Pm
set_option Elab.async false
set_option linter.all false
set_option maxRecDepth 100000
set_option maxHeartbeats 1000000
set_option autoImplicit false
namespace Pm
def sm (f : Nat → Rat) : List Nat → Rat
  | [] => 0
  | i :: l => f i + sm f l
theorem sm_congr {f g : Nat → Rat} : ∀ {l : List Nat}, (∀ i ∈ l, f i = g i) → sm f l = sm g l
  | [], _ => rfl
  | i :: l, h => by simp only [sm, h i (by simp), sm_congr (l := l) fun j hj => h j (by simp [hj])]
theorem sm_split (f : Nat → Rat) (p : Nat → Bool) : ∀ l : List Nat, sm f (l.filter p) + sm f (l.filter fun i => !p i) = sm f l
  | [] => by simp only [List.filter_nil, sm]; grind
  | i :: l => by
    have := sm_split f p l
    cases h : p i <;> simp only [List.filter_cons, h, sm, Bool.not_true, Bool.not_false, if_true, if_false, Bool.false_eq_true] <;> grind
theorem sm_add (f g : Nat → Rat) : ∀ l : List Nat, sm (fun i => f i + g i) l = sm f l + sm g l
  | [] => by simp only [sm]; grind
  | i :: l => by simp only [sm, sm_add f g l]; grind
theorem sm_sub (f g : Nat → Rat) : ∀ l : List Nat, sm (fun i => f i - g i) l = sm f l - sm g l
  | [] => by simp only [sm]; grind
  | i :: l => by simp only [sm, sm_sub f g l]; grind
section
variable {E : Nat → Nat → Prop} {l : List Nat} {m w r s : Nat → Rat}
def UpS (E : Nat → Nat → Prop) (U : Nat → Bool) : Prop := ∀ a b, E a b → U a = true → U b = true
def RUp (r : Nat → Rat) (U : Nat → Bool) : Prop := ∀ i j, r i ≤ r j → U i = true → U j = true
end
end Pm
set_option Elab.async false
set_option linter.all false
set_option maxRecDepth 100000
set_option maxHeartbeats 1000000
set_option autoImplicit false
namespace Pm
open PySem PySem.Spec
open PyProof.Rows hiding St
open L2
variable {γ : Type}
def noOwn (ρ : List (Option L)) (vs : List Nat) : Bool := vs.all fun v => match ρ[v]? with
  | some (some (.own _)) => false
  | some (some (.dic _)) => false
  | _ => true
theorem back_wipe {s : S γ} {vs : List Nat} (h : noOwn s.ρ vs = true) : s.back vs (s.wipe vs) = s := by
  obtain ⟨ρ, g⟩ := s
  have e : (S.back (⟨ρ, g⟩ : S γ) vs (S.wipe (⟨ρ, g⟩ : S γ) vs)).ρ = ρ := by
    refine List.ext_getElem? fun i => ?_
    simp only [S.back, S.wipe, List.getElem?_mapIdx]
    rw [wipeL_get]
    by_cases hi : i ∈ vs
    · have h1 := List.all_eq_true.mp h i hi
      by_cases hl : i < ρ.length
      · rw [if_pos ⟨hi, hl⟩]
        simp only [Option.map_some, if_pos hi]
        rw [List.getElem?_eq_getElem hl] at h1 ⊢
        unfold keepVal
        cases q : ρ[i] with
        | none => simp [q]
        | some l => cases l with
          | val d => simp [q]
          | own ds => rw [q] at h1; simp at h1
          | dic ds => rw [q] at h1; simp at h1
      · rw [if_neg (fun z => hl z.2), List.getElem?_eq_none (by omega)]; rfl
    · rw [if_neg fun z => hi z.1]
      cases q : ρ[i]? with
      | none => rfl
      | some o => simp [hi]
  show (⟨_, _⟩ : S γ) = _
  exact congrArg (fun z => (⟨z, g⟩ : S γ)) e
theorem back_wipeG {s : S γ} {vs : List Nat} {g : γ} (h : noOwn s.ρ vs = true) : s.back vs ⟨wipeL s.ρ vs, g⟩ = ⟨s.ρ, g⟩ := by
  have e := congrArg S.ρ (back_wipe h)
  show (⟨_, g⟩ : S γ) = _
  exact congrArg (fun z => (⟨z, g⟩ : S γ)) e
theorem lc_runG {tg : Tg} {vs : List Nat} {tt : PTx γ} {te : PEx γ} {R : List D → S γ → Prop} {ds : List D} {s1 : S γ} (J : Nat → List D → γ → Prop) (h0 : J 0 [] s1.g)
    (step : ∀ i d acc g, ds[i]? = some d → J i acc g → ∃ ρ', tg.put d (wipeL s1.ρ vs) = some ρ' ∧ ((∀ g' : γ, Wk ((⟨ρ', g'⟩ : S γ).wipe vs) ⟨wipeL s1.ρ vs, g'⟩) →
      tt ⟨ρ', g⟩ fun b s3 => Br b (te s3 fun y s4 => acc.length + 1 ≤ sizeLine ∧ ∃ s5, Wk (s4.wipe vs) s5 ∧ ∃ g', s5 = ⟨wipeL s1.ρ vs, g'⟩ ∧ J (i + 1) (acc ++ [y]) g') (∃ s5, Wk (s3.wipe vs) s5 ∧ ∃ g', s5 = ⟨wipeL s1.ρ vs, g'⟩ ∧ J (i + 1) acc g')))
    (fin : ∀ acc g, J ds.length acc g → R acc ⟨s1.ρ, g⟩) (hj : ∀ j ∈ tg.js, j ∈ vs := by decide) (ho : noOwn s1.ρ vs = true := by rfl) : lcB tg vs tt te R ds s1 := by
  refine ⟨fun i acc s => ∃ g', s = ⟨wipeL s1.ρ vs, g'⟩ ∧ J i acc g', ⟨_, Wk.refl _, s1.g, rfl, h0⟩, ?_, ?_⟩
  · rintro i d acc s hd ⟨g, rfl, hJ⟩
    obtain ⟨ρ', h1, h2⟩ := step i d acc g hd hJ
    unfold qPut
    show match tg.put d (wipeL s1.ρ vs) with | some ρ' => _ | none => False
    rw [h1]
    refine h2 fun g' => ?_
    show Wk (⟨wipeL ρ' vs, g'⟩ : S γ) _
    rw [put_wipe h1 hj]
    exact Wk.refl _
  · rintro acc s ⟨g, rfl, hJ⟩
    rw [back_wipeG ho]
    exact fin acc g hJ
theorem lc_list {α : Type} {tg : Tg} {vs : List Nat} {tt : PTx γ} {te : PEx γ} {R : List D → S γ → Prop} {s1 : S γ} (l : List α) (e : α → D) (P : α → Bool) (g : α → D) (hn : l.length ≤ 1000000)
    (step : ∀ a ∈ l, ∃ ρ', tg.put (e a) (wipeL s1.ρ vs) = some ρ' ∧ (∀ T : Bool → S γ → Prop, T (P a) ⟨ρ', s1.g⟩ → tt ⟨ρ', s1.g⟩ T) ∧ (P a = true → ∀ T : D → S γ → Prop, T (g a) ⟨ρ', s1.g⟩ → te ⟨ρ', s1.g⟩ T))
    (fin : R ((l.filter P).map g) s1) (hj : ∀ j ∈ tg.js, j ∈ vs) (ho : noOwn s1.ρ vs = true) : lcB tg vs tt te R (l.map e) s1 := by
  have line := sizeLine_eq
  refine lc_runG (fun i acc g' => g' = s1.g ∧ acc = ((l.take i).filter P).map g) ⟨rfl, by simp⟩ ?_ ?_ hj ho
  · rintro i d acc g' hd ⟨rfl, rfl⟩
    rw [List.getElem?_map] at hd
    obtain ⟨a, ha, rfl⟩ := Option.map_eq_some_iff.mp hd
    obtain ⟨ρ', h1, h2, h3⟩ := step a (List.mem_of_getElem? ha)
    refine ⟨ρ', h1, fun W => h2 _ ⟨fun hb => h3 hb _ ⟨?_, _, W _, _, rfl, rfl, ?_⟩, fun hb => ⟨_, W _, _, rfl, rfl, ?_⟩⟩⟩
    · have h1 := List.length_filter_le P (l.take i)
      have h2 := List.length_take_le i l
      have h3 : (l.take i).length ≤ l.length := by rw [List.length_take]; omega
      rw [List.length_map]; omega
    · rw [List.take_add_one, ha, List.filter_append, List.map_append]
      simp [hb]
    · rw [List.take_add_one, ha, List.filter_append, List.map_append]
      simp [hb]
  · rintro acc g' ⟨rfl, rfl⟩
    rw [List.length_map, List.take_of_length_le (Nat.le_refl _)]
    exact fin
theorem lc_mapl {α : Type} {tg : Tg} {vs : List Nat} {te : PEx γ} {R : List D → S γ → Prop} {s1 : S γ} (l : List α) (e : α → D) (g : α → D) (hn : l.length ≤ 1000000)
    (step : ∀ a ∈ l, ∃ ρ', tg.put (e a) (wipeL s1.ρ vs) = some ρ' ∧ (∀ T : D → S γ → Prop, T (g a) ⟨ρ', s1.g⟩ → te ⟨ρ', s1.g⟩ T))
    (fin : R (l.map g) s1) (hj : ∀ j ∈ tg.js, j ∈ vs) (ho : noOwn s1.ρ vs = true) : lcB tg vs qYes te R (l.map e) s1 := by
  refine lc_list l e (fun _ => true) g hn (fun a ha => ?_) ?_ hj ho
  · obtain ⟨ρ', h1, h2⟩ := step a ha
    exact ⟨ρ', h1, fun T h => h, fun _ => h2⟩
  · rw [List.filter_eq_self.mpr fun _ _ => rfl]; exact fin
theorem put_nm {i : Nat} {d : D} {s : S γ} {R : S γ → Prop} (h : R ⟨s.ρ.set i (some (.val d)), s.g⟩) : qPut (.nm i) d s R := h
theorem put_tg {tg : Tg} {d : D} {s : S γ} {R : S γ → Prop} {ρ' : List (Option L)} (e : tg.put d s.ρ = some ρ') (h : R ⟨ρ', s.g⟩) : qPut tg d s R := by
  unfold qPut; rw [e]; exact h
end Pm
set_option Elab.async false
set_option linter.all false
set_option maxRecDepth 100000
set_option maxHeartbeats 1000000
set_option autoImplicit false
namespace Pm
open PySem PySem.Spec
open PyProof.Rows hiding St
open L2
def GlD (K : PySem.W.Frag) (mg : Str → Option Value) (x : Str) (d : D) : Prop := ∃ u v, mg x = some u ∧ RelV v u ∧ ∀ Z, At K Z d v
theorem gl_int {K : PySem.W.Frag} {mg : Str → Option Value} {h : Heap} (X : K.In h) (G : h.Ns mainGlobals mg) {x : Str} {i : Int} (c : (He.Fa.int x i).ok K = true) : GlD K mg x (.int i) := by
  obtain ⟨t, e⟩ := He.int_ok X G c
  exact ⟨_, .int i, e, ⟨t, rfl⟩, fun Z => rfl⟩
theorem qe_gl {γ : Type} {X : Cx} {G : GP γ} {x : Str} {d : D} {pos : Pos} (hg : Gl X x) (h : GlD G.K X.mg x d) (hd : (x == ("__debug__" : Str)) = false := by decide) : QE X G (.Name x pos) (qC d) := by
  obtain ⟨u, v, e, r, k⟩ := h
  exact qe_glob hg e r k hd
end Pm
set_option Elab.async false
set_option linter.all false
set_option maxRecDepth 100000
set_option maxHeartbeats 1000000
set_option autoImplicit false
namespace Pm
open PySem PySem.Spec
open PyProof.Rows hiding St
open L2
def isI : D → Bool
  | .int _ => true
  | _ => false
def inI (lo hi : Int) : D → Bool
  | .int i => decide (lo ≤ i) && decide (i ≤ hi)
  | _ => false
def eE (p : Pan) (a b : Nat) : Prop := ((a : Int), (b : Int)) ∈ p.rus
end Pm
set_option Elab.async false
set_option linter.all false
set_option maxRecDepth 100000
set_option maxHeartbeats 1000000
set_option autoImplicit false
namespace Pm
open PySem PySem.Spec PySem.W
open PyProof.Rows hiding St
open L2
def mulT : D → D → DK → Prop
  | .tup xs, .int k, R => (xs ≠ [] ∧ 2 ≤ k ∧ k ≤ 1000 ∧ xs.length ≤ 1000) ∧ R (.tup (List.replicate k.toNat xs).flatten)
  | _, _, _ => False
theorem o_mulT {X : Cx} : OpR X (binaryOp .Mult) (dOp2 X.K mulT) := by
  intro pins s σ H x y v u Q I rx ry ⟨Z, d, e, R, k, ad, ae, h, q⟩
  cases d <;> cases e <;> try exact h.elim
  simp only [At] at ad ae
  obtain ⟨a, vs, rfl, a2, a3⟩ := ad
  subst ae
  have hne : vs ≠ [] := fun z => h.1.1 (List.eq_nil_of_length_eq_zero (by have := a3.len; rw [z] at this; simpa using this.symm))
  refine op_repT pins s σ H _ _ v u Q I rx ry ⟨a, _, vs, rfl, rfl, seqT k a2, hne, h.1.2.1, h.1.2.2.1, by rw [a3.len]; exact h.1.2.2.2, fun p hp => ?_⟩
  rename_i xs n
  have x := Ext.new (o := HO.tup (List.replicate n.toNat vs).flatten) k hp
  exact q _ _ _ _ h.2 x ⟨p, _, rfl, .inl (.inl upd_same), Ats.rep (Ats.mono x.zz _ _ a3) _⟩
end Pm
set_option Elab.async false
set_option linter.all false
set_option maxRecDepth 100000
set_option maxHeartbeats 4000000
set_option autoImplicit false
namespace Pm
open PySem PySem.Spec PySem.W
open PyProof.Rows hiding St
open L2
theorem tuple_mul1W (l : Addr) (items : Array Value) (n : Nat) (dd : Option Addr) (sl : Array (Option Value)) (x : Int) (u : Tok) (c0 : (decide (x < -(2 ^ 63)) || decide (x ≥ 2 ^ 63)) = false) (c1 : (items.isEmpty || x == 1) = true) :
    Meets (Builtin.«tuple.__mul__» ⟨[.ref l, .int x u], []⟩) (fun _ R s => s.heap.get? l = some { cls := .type "tuple", dict := dd, data := .seq items n, slots := sl } ∧
      R (.ok (.ret (Value.ref l))) s) :=
  .of_wp fun prog w A R s h => by
    obtain ⟨hp, g, d, tk, os⟩ := s
    obtain ⟨hl, h⟩ := h
    have f1 := AutoSeq1.idx_int
    wp_walk using wpAny_loadPart' hl
    repeat (first
      | (refine wpAny_ite_false (decide_eq_false (by rw [c0]; exact Bool.false_ne_true)) ?_; wp_walk using wpAny_loadPart' hl)
      | (refine wpAny_ite_true (decide_eq_true c1) ?_; wp_walk using wpAny_loadPart' hl))
    exact ⟨_, rfl, h⟩
theorem tuple_mul0W (l : Addr) (items : Array Value) (n : Nat) (dd : Option Addr) (sl : Array (Option Value)) (x : Int) (u : Tok) (c0 : (decide (x < -(2 ^ 63)) || decide (x ≥ 2 ^ 63)) = false) (c1 : (items.isEmpty || x == 1) = false) (c2 : (decide (x ≤ 0) || items.isEmpty) = true) :
    Meets (Builtin.«tuple.__mul__» ⟨[.ref l, .int x u], []⟩) (fun _ R s => s.heap.get? l = some { cls := .type "tuple", dict := dd, data := .seq items n, slots := sl } ∧
      R (.ok (.ret (Value.ref s.heap.objs.size))) { s with heap := s.heap.push { cls := Value.type "tuple", data := Data.seq #[] }, toks := s.toks }) :=
  .of_wp fun prog w A R s h => by
    obtain ⟨hp, g, d, tk, os⟩ := s
    obtain ⟨hl, h⟩ := h
    have f1 := AutoSeq1.idx_int
    wp_walk using wpAny_loadPart' hl
    repeat (first
      | (refine wpAny_ite_false (decide_eq_false (by rw [c0]; exact Bool.false_ne_true)) ?_; wp_walk using wpAny_loadPart' hl)
      | (refine wpAny_ite_false (decide_eq_false (by rw [c1]; exact Bool.false_ne_true)) ?_; wp_walk using wpAny_loadPart' hl)
      | (refine wpAny_ite_true (decide_eq_true c2) ?_; wp_walk using wpAny_loadPart' hl))
    exact ⟨_, rfl, h⟩
def rRepT1 (K : PySem.W.Frag) : R2 := fun x y H Q => ∃ l k xs, x = .ref l ∧ y = .int k ∧ SqT K H l xs ∧ -(2 ^ 63) ≤ k ∧ k < 2 ^ 63 ∧ ((xs = [] ∨ k = 1) ∧ Q (.ref l) H ∨ xs ≠ [] ∧ k ≤ 0 ∧ ∀ p, H p = none → Q (.ref p) (upd H p (.tup [])))
theorem op_repT1 {X : Cx} : OpR X (binaryOp .Mult) (rRepT1 X.K) := by
  intro pins s σ H x y v u Q I rx ry h
  obtain ⟨l, k, xs, rfl, rfl, hT, h1, h2, q⟩ := h
  cases rx
  obtain ⟨t, rfl⟩ := ry
  obtain ⟨its, r, ⟨⟨cls, dd, data, sl⟩, ho, hc, n, hd⟩, hs⟩ := I.tuple hT
  simp only at hc hd
  subst hc hd
  have hle : its.length = xs.length := r.length.symm
  have c0 : (decide (k < -(2 ^ 63)) || decide (k ≥ 2 ^ 63)) = false := by
    rw [decide_eq_false (by omega), decide_eq_false (by omega)] <;> rfl
  rcases q with ⟨hx, q⟩ | ⟨hx, hk, q⟩
  · have c1 : (its.toArray.isEmpty || k == 1) = true := by
      rcases hx with rfl | rfl
      · have : its = [] := List.eq_nil_of_length_eq_zero hle
        subst this; rfl
      · simp
    refine wpAny_binaryOp_repeat_ref (T := "tuple") (U := "int") (by decide) ⟨_, ho, rfl⟩ (fun s' => typeIs_int s' k t) noFill_tuple_mul F.fills_int_mul F.slot_int_rmul repeat_tuple F.slot_int_index.lookup
      (call_meets F.slot_int_rmul (typeIs_int s k t) F.entry_int_rmul (F.args_int_rmul_2 _ _) (int_rmul_tuple k t l its.toArray n dd sl)
        ⟨ho, rfl, ⟨_, ho, rfl⟩, call_meets F.slot_tuple_mul ⟨_, ho, rfl⟩ F.entry_tuple_mul (F.args_tuple_mul_2 _ _) (tuple_mul1W l its.toArray n dd sl k t c0 c1) ⟨ho, ?_⟩⟩)
    exact ⟨.ref l, _, I, rfl, q⟩
  · have hn : its ≠ [] := fun e => hx (by
      rw [e] at hle
      exact List.eq_nil_of_length_eq_zero hle.symm)
    have hi : its.toArray.isEmpty = false := by
      cases its with
      | nil => exact absurd rfl hn
      | cons a b => rfl
    have c1 : (its.toArray.isEmpty || k == 1) = false := by
      rw [hi, Bool.false_or]
      exact beq_eq_false_iff_ne.mpr (by omega)
    have c2 : (decide (k ≤ 0) || its.toArray.isEmpty) = true := by
      rw [decide_eq_true hk]; rfl
    refine wpAny_binaryOp_repeat_ref (T := "tuple") (U := "int") (by decide) ⟨_, ho, rfl⟩ (fun s' => typeIs_int s' k t) noFill_tuple_mul F.fills_int_mul F.slot_int_rmul repeat_tuple F.slot_int_index.lookup
      (call_meets F.slot_int_rmul (typeIs_int s k t) F.entry_int_rmul (F.args_int_rmul_2 _ _) (int_rmul_tuple k t l its.toArray n dd sl)
        ⟨ho, rfl, ⟨_, ho, rfl⟩, call_meets F.slot_tuple_mul ⟨_, ho, rfl⟩ F.entry_tuple_mul (F.args_tuple_mul_2 _ _) (tuple_mul0W l its.toArray n dd sl k t c0 c1 c2) ⟨ho, ?_⟩⟩)
    refine ⟨.ref s.heap.objs.size, _, I.laid (t' := s.toks) (o := .tup []) (fun b ob q => Heap.get?_push_of_some _ q) (Nat.le_refl _) ?_, rfl, q _ (I.hok.fresh (Nat.le_refl _))⟩
    exact ⟨by show 0 ≤ sizeLine; omega, _, .nil, IsTup.new _ _⟩
def mulT2 : D → D → DK → Prop
  | .tup xs, .int k, R => (0 ≤ k ∧ k ≤ 1000 ∧ xs.length ≤ 1000) ∧ R (.tup (List.replicate k.toNat xs).flatten)
  | _, _, _ => False
theorem o_mulT2 {X : Cx} : OpR X (binaryOp .Mult) (dOp2 X.K mulT2) := by
  intro pins s σ H x y v u Q I rx ry ⟨Z, d, e, R, k, ad, ae, h, q⟩
  cases d <;> cases e <;> try exact h.elim
  have ad' := ad
  simp only [At] at ad ae
  obtain ⟨a, vs, rfl, a2, a3⟩ := ad
  subst ae
  rename_i xs n
  have h := h
  obtain ⟨⟨h1, h2, h3⟩, h⟩ := h
  by_cases c : xs ≠ [] ∧ 2 ≤ n
  · exact o_mulT pins s σ H _ _ v u Q I rx ry ⟨Z, .tup xs, .int n, R, k, ad', rfl, ⟨⟨c.1, c.2, h2, h3⟩, h⟩, q⟩
  · have hl := a3.len
    refine op_repT1 pins s σ H _ _ v u Q I rx ry ⟨a, _, vs, rfl, rfl, seqT k a2, by omega, by omega, ?_⟩
    by_cases c2 : xs = [] ∨ n = 1
    · refine .inl ⟨?_, ?_⟩
      · rcases c2 with rfl | c2
        · exact .inl (List.eq_nil_of_length_eq_zero hl)
        · exact .inr c2
      · have e : (List.replicate n.toNat xs).flatten = xs := by
          rcases c2 with rfl | rfl
          · simp
          · simp
        rw [e] at h
        exact dk q k h ad'
    · have hx : xs ≠ [] := fun z => c2 (.inl z)
      have hn : n ≤ 0 := by
        have : ¬ 2 ≤ n := fun z => c ⟨hx, z⟩
        have : n ≠ 1 := fun z => c2 (.inr z)
        omega
      refine .inr ⟨fun z => hx (List.eq_nil_of_length_eq_zero (by rw [← hl, z]; rfl)), hn, fun p hp => ?_⟩
      have x := Ext.new (o := HO.tup []) k hp
      have e : (List.replicate n.toNat xs).flatten = [] := by
        have : n.toNat = 0 := by omega
        rw [this]; rfl
      rw [e] at h
      exact q _ _ _ _ h x ⟨p, _, rfl, .inl (.inl upd_same), rfl⟩
end Pm
set_option Elab.async false
set_option linter.all false
set_option maxRecDepth 100000
set_option maxHeartbeats 1000000
set_option autoImplicit false
namespace Pm
open PySem PySem.Spec PySem.W
open PyProof.Rows hiding St
open L2
theorem ItOk.sz {q : Int × Int} (h : ItOk q) : Sz 30 q.1 ∧ Sz 20 q.2 := by
  obtain ⟨a, b, c, d⟩ := h
  have e1 : (10 : Int) ^ 9 < 2 ^ 30 := by decide
  have e2 : (10 : Int) ^ 6 < 2 ^ 20 := by decide
  have e3 : ((2 ^ 30 : Nat) : Int) = 2 ^ 30 := by decide
  have e4 : ((2 ^ 20 : Nat) : Int) = 2 ^ 20 := by decide
  unfold Sz
  exact ⟨by omega, by omega⟩
end Pm
set_option Elab.async false
set_option linter.all false
set_option maxRecDepth 100000
set_option maxHeartbeats 1000000
set_option autoImplicit false
namespace Pm
open PySem PySem.Spec PySem.W
open PyProof.Rows hiding St
open L2
theorem sm_ind {a : Nat} {d : Rat} : ∀ {l : List Nat}, l.Nodup → sm (fun x => if x = a then d else 0) l = if a ∈ l then d else 0
  | [], _ => by simp [sm]
  | b :: l, h => by
    rw [List.nodup_cons] at h
    simp only [sm]
    rw [sm_ind h.2]
    by_cases e : b = a
    · subst e
      simp [h.1]; grind
    · simp [e, fun z => e (Eq.symm z)]
      by_cases m : a ∈ l
      · simp [m]; grind
      · simp [m, fun z : a = b => e z.symm]; grind
structure Flow (n : Nat) (rus : List (Int × Int)) (L : Nat → Rat) (F : Nat → Int) : Prop where
  up : ∀ U, UpS (eE ⟨[], rus⟩) U → sm (fun x => (F x : Rat)) ((List.range n).filter U) ≤ 0
  lv : ∀ U, RUp L U → sm (fun x => (F x : Rat)) ((List.range n).filter U) = 0
theorem Flow.add {n : Nat} {rus : List (Int × Int)} {L : Nat → Rat} {F : Nat → Int} (h : Flow n rus L F) {a b : Nat} {d : Int} (d0 : 0 ≤ d) (hr : ((a : Int), (b : Int)) ∈ rus) (hab : a ≠ b) (ha : a < n) (hb : b < n) (hd : d = 0 ∨ L a = L b) : Flow n rus L fun x => if x = b then F x - d else if x = a then F x + d else F x := by
  have e : ∀ U : Nat → Bool, sm (fun x => ((if x = b then F x - d else if x = a then F x + d else F x : Int) : Rat)) ((List.range n).filter U) = sm (fun x => (F x : Rat)) ((List.range n).filter U) + (if U a = true then (d : Rat) else 0) - (if U b = true then (d : Rat) else 0) := fun U => by
    have i1 := sm_ind (a := a) (d := (d : Rat)) (l := (List.range n).filter U) (List.nodup_range.filter _)
    have i2 := sm_ind (a := b) (d := (d : Rat)) (l := (List.range n).filter U) (List.nodup_range.filter _)
    have m1 : (a ∈ (List.range n).filter U) = (U a = true) := by rw [List.mem_filter, List.mem_range]; simp [ha]
    have m2 : (b ∈ (List.range n).filter U) = (U b = true) := by rw [List.mem_filter, List.mem_range]; simp [hb]
    simp only [m1] at i1
    simp only [m2] at i2
    rw [← i1, ← i2, ← sm_add, ← sm_sub]
    refine sm_congr fun x _ => ?_
    by_cases xb : x = b
    · have xa : x ≠ a := fun z => hab (z.symm.trans xb)
      simp only [xb, if_true, if_neg (fun z : b = a => hab z.symm), Rat.intCast_sub]; grind
    · by_cases xa : x = a
      · simp only [xa, if_neg hab, if_true, Rat.intCast_add]; grind
      · simp only [if_neg xb, if_neg xa]; grind
  have dR : (0 : Rat) ≤ (d : Rat) := Rat.intCast_nonneg.mpr d0
  refine ⟨fun U hU => ?_, fun U hU => ?_⟩
  · rw [e]
    have := h.up U hU
    have k := hU a b hr
    by_cases ua : U a = true
    · rw [if_pos ua, if_pos (k ua)]; grind
    · rw [if_neg ua]; split <;> grind
  · rw [e, h.lv U hU]
    rcases hd with hd | hd
    · have z : (d : Rat) = 0 := by rw [hd]; rfl
      rw [z]; split <;> split <;> grind
    · have k1 := hU a b (by rw [hd]; exact Rat.le_refl)
      have k2 := hU b a (by rw [hd]; exact Rat.le_refl)
      by_cases ua : U a = true
      · rw [if_pos ua, if_pos (k1 ua)]; grind
      · rw [if_neg ua, if_neg (fun z => ua (k2 z))]; grind
end Pm
set_option Elab.async false
set_option linter.all false
set_option maxRecDepth 100000
set_option maxHeartbeats 1000000
set_option autoImplicit false
namespace Pm
open PySem PySem.Spec
open PyProof.Rows hiding St
open L2
mutual
def D.plz : D → Bool
  | .non => true
  | .bl _ => true
  | .int _ => true
  | .str x => PyData.strOk x
  | .lst xs => D.plzs xs
  | .tup xs => D.plzs xs
  | .dct ks xs => ks.isEmpty && xs.isEmpty
  | .obj _ => false
def D.plzs : List D → Bool
  | [] => true
  | d :: ds => d.plz && D.plzs ds
end
end Pm
set_option Elab.async false
set_option linter.all false
set_option maxRecDepth 100000
set_option maxHeartbeats 1000000
set_option autoImplicit false
namespace Pm
open PySem PySem.Spec
open PyProof.Rows hiding St
open L2
def oddL : List D := [.non, .bl true, .bl false, .int 0, .int (-1), .int 1, .int 2, .int (10 ^ 29), .str "", .str "a", .str "up", .tup [], .lst [], .dct [] [], .tup [.int 0], .lst [.int 0], .tup [.tup []], .tup [.int 1, .int 2], .tup [.int 0, .int 1], .tup [.int 2, .int 4]]
mutual
def D.fit (b : Nat) : D → Prop
  | .int i => Sz b i
  | .lst xs => D.fits b xs
  | .tup xs => D.fits b xs
  | _ => True
def D.fits (b : Nat) : List D → Prop
  | [] => True
  | d :: ds => d.fit b ∧ D.fits b ds
end
structure VOk (b w k : Nat) (d : D) : Prop where
  z : d.plz = true
  f : d.fit b
  w : d.wid ≤ w
  k : d.dep ≤ k
theorem odd_ok {d : D} (h : d ∈ oddL) : VOk 100 4024 2 d := by
  have h : d ∈ oddL := h
  have all : ∀ d ∈ oddL, d.plz = true ∧ d.wid ≤ 4024 ∧ d.dep ≤ 2 := by
    have e : oddL.all (fun d => d.plz && decide (d.wid ≤ 4024) && decide (d.dep ≤ 2)) = true := by decide +kernel
    intro d hd
    have := List.all_eq_true.mp e d hd
    simpa [Bool.and_eq_true, and_assoc] using this
  obtain ⟨h1, h2, h3⟩ := all d h
  refine ⟨h1, ?_, h2, h3⟩
  unfold oddL at h
  simp only [List.mem_cons, List.not_mem_nil, or_false] at h
  rcases h with rfl | rfl | rfl | rfl | rfl | rfl | rfl | rfl | rfl | rfl | rfl | rfl | rfl | rfl | rfl | rfl | rfl | rfl | rfl | rfl
  all_goals first | exact trivial | (show Sz 100 _; unfold Sz; decide) | (refine ⟨?_, trivial⟩; show Sz 100 _; unfold Sz; decide) | (refine ⟨?_, ?_, trivial⟩ <;> (show Sz 100 _; unfold Sz; decide)) | exact ⟨trivial, trivial⟩
theorem deps_le {xs : List D} {k : Nat} : D.deps xs ≤ k ↔ ∀ x ∈ xs, x.dep ≤ k := by
  induction xs with
  | nil => simp [D.deps]
  | cons x xs ih => simp only [D.deps, List.mem_cons, forall_eq_or_imp, ← ih]; omega
theorem deps_ints (is : List Int) : D.deps (is.map D.int) = 0 := Nat.le_zero.mp (deps_le.mpr fun x hx => by
  obtain ⟨i, _, rfl⟩ := List.mem_map.mp hx; exact Nat.le_refl 0)
end Pm
set_option Elab.async false
set_option linter.all false
set_option maxRecDepth 100000
set_option maxHeartbeats 1000000
set_option autoImplicit false
namespace Pm
open PySem PySem.Spec
open PyProof.Rows hiding St
open L2
theorem plns_ints : ∀ is : List Int, D.plns (is.map D.int) = true
  | [] => rfl
  | i :: is => by simp only [List.map_cons, D.plns, plns_ints is]; rfl
end Pm
set_option Elab.async false
set_option linter.all false
set_option maxRecDepth 100000
set_option maxHeartbeats 1000000
set_option autoImplicit false
namespace Pm
open PySem PySem.Spec
open PyProof.Rows hiding St
open L2
theorem pan_sh1 {m : Nat} {p : Pan} (hp : PanOk m p) (hm : m ≤ 100) : ShOk (panD p) := by
  obtain ⟨o1, o2, o3, o4⟩ := panD_ok hp hm
  exact ⟨o1, o2, by omega, by omega⟩
end Pm
set_option Elab.async false
set_option linter.all false
set_option maxRecDepth 100000
set_option maxHeartbeats 1000000
set_option autoImplicit false
namespace Pm
open PySem PySem.Spec
open PyProof.Rows hiding St
open L2
structure Xc where
  c : Str
  f : Option (Str × D) := none
def XcAt (K : PySem.W.Frag) (mg : Str → Option Value) (Z : Hp) (x : Xc) (cls : Value) (d : Option Addr) : Prop :=
  mg x.c = some cls ∧ match x.f with
  | none => d = none
  | some (n, v) => ∃ a w, d = some a ∧ Z a = some (.xd [(n, w)]) ∧ At K Z v w
variable {γ : Type}
abbrev XW (γ : Type) := Xc → S γ → Prop
abbrev PSXx (γ : Type) := XW γ → PSx γ
abbrev PEXx (γ : Type) := XW γ → PEx γ
def lSX (G : GP γ) (mg : Str → Option Value) (W : WX) (t : PSXx γ) : TS := fun De σ H => ∃ F Z s E w, Rel G F Z s σ H ∧ t w E s ∧
  (∀ s' Z' σ' H', E.nx s' → Same Z Z' → Rel G F Z' s' σ' H' → De.nx σ' H') ∧
  (∀ d s' Z' σ' v H', E.rt d s'.g → Same Z Z' → Rel G F Z' s' σ' H' → At G.K Z' d v → De.rt v H') ∧
  (∀ s' Z' σ' H', E.bk s' → Same Z Z' → Rel G F Z' s' σ' H' → De.bk σ' H') ∧
  (∀ s' Z' σ' H', E.ct s' → Same Z Z' → Rel G F Z' s' σ' H' → De.ct σ' H') ∧
  (∀ x s' Z' σ' cls d H', w x s' → Same Z Z' → Rel G F Z' s' σ' H' → XcAt G.K mg Z' x cls d → W cls d σ' H')
def lEX (G : GP γ) (mg : Str → Option Value) (W : WX) (t : PEXx γ) : TE := fun σ H Q => ∃ F Z s R w, Rel G F Z s σ H ∧ t w s R ∧
  (∀ d s' Z' v H', R d s' → Same Z Z' → Rel G F Z' s' σ H' → At G.K Z' d v → Q v H') ∧
  (∀ x s' Z' cls d H', w x s' → Same Z Z' → Rel G F Z' s' σ H' → XcAt G.K mg Z' x cls d → W cls d σ H')
abbrev QSX (X : Cx) (G : GP γ) (W : WX) (st : Stmt) (t : PSXx γ) : Prop := PS X st (lSX G X.mg W t)
abbrev QSXs (X : Cx) (G : GP γ) (W : WX) (st : List Stmt) (t : PSXx γ) : Prop := PSs X st (lSX G X.mg W t)
abbrev QEX (X : Cx) (G : GP γ) (W : WX) (e : Expr) (t : PEXx γ) : Prop := PE X e (lEX G X.mg W t)
section
variable {X : Cx} {G : GP γ} {W : WX} {pos : Pos} {e : Expr}
def xs0 (t : PSx γ) : PSXx γ := fun _ => t
theorem qsx_of {st : Stmt} {t : PSx γ} (h : QS X G st t) : QSX X G W st (xs0 t) :=
  PS.imp h fun De σ H ⟨F, Z, s, E, w, r, t, n, rt, bk, ct, _⟩ => ⟨F, Z, s, E, r, t, n, rt, bk, ct⟩
theorem qssx_of {st : List Stmt} {t : PSx γ} (h : QSs X G st t) : QSXs X G W st (xs0 t) :=
  PSs.imp h fun De σ H ⟨F, Z, s, E, w, r, t, n, rt, bk, ct, _⟩ => ⟨F, Z, s, E, r, t, n, rt, bk, ct⟩
def xSeq (t u : PSXx γ) : PSXx γ := fun w => qSeq (t w) (u w)
theorem qssx_cons {st : Stmt} {rest : List Stmt} {t u : PSXx γ} (h1 : QSX X G W st t) (h2 : QSXs X G W rest u) : QSXs X G W (st :: rest) (xSeq t u) := by
  refine PSs.imp (pss_cons h1 h2) fun De σ H ⟨F, Z, s, E, w, r, t, n, rt, bk, ct, ex⟩ => ?_
  refine ⟨F, Z, s, _, w, r, t, fun s' Z' σ' H' u' k r' => ?_, rt, bk, ct, ex⟩
  exact ⟨F, Z', s', E, w, r', u', fun s2 Z2 σ2 H2 q k2 r2 => n s2 Z2 σ2 H2 q (k.trans k2) r2, fun d s2 Z2 σ2 v H2 q k2 r2 a2 => rt d s2 Z2 σ2 v H2 q (k.trans k2) r2 a2,
    fun s2 Z2 σ2 H2 q k2 r2 => bk s2 Z2 σ2 H2 q (k.trans k2) r2, fun s2 Z2 σ2 H2 q k2 r2 => ct s2 Z2 σ2 H2 q (k.trans k2) r2, fun x s2 Z2 σ2 c d H2 q k2 r2 a2 => ex x s2 Z2 σ2 c d H2 q (k.trans k2) r2 a2⟩
theorem qssx_one {st : Stmt} {t : PSXx γ} (h1 : QSX X G W st t) : QSXs X G W [st] t := pss_one h1
def xIf (c : PTx γ) (t u : PSXx γ) : PSXx γ := fun w => qIf c (t w) (u w)
theorem qsx_if {c : Expr} {a b : List Stmt} {tc : PTx γ} {t u : PSXx γ} (hc : QT X G c tc) (ha : QSXs X G W a t) (hb : QSXs X G W b u) : QSX X G W (.If c a b pos) (xIf tc t u) := by
  refine PS.imp (ps_if hc ha hb) fun De σ H ⟨F, Z, s, E, w, r, t, n, rt, bk, ct, ex⟩ => ?_
  refine ⟨F, Z, s, _, r, t, fun k s1 Z1 H1 t1 k1 r1 => ?_⟩
  have go : ∀ {t : PSXx γ}, t w E s1 → lSX G X.mg W t De σ H1 := fun {t} q => ⟨F, Z1, s1, E, w, r1, q, fun s2 Z2 σ2 H2 q k2 r2 => n s2 Z2 σ2 H2 q (k1.trans k2) r2, fun d s2 Z2 σ2 v H2 q k2 r2 a2 => rt d s2 Z2 σ2 v H2 q (k1.trans k2) r2 a2,
    fun s2 Z2 σ2 H2 q k2 r2 => bk s2 Z2 σ2 H2 q (k1.trans k2) r2, fun s2 Z2 σ2 H2 q k2 r2 => ct s2 Z2 σ2 H2 q (k1.trans k2) r2, fun x s2 Z2 σ2 c d H2 q k2 r2 a2 => ex x s2 Z2 σ2 c d H2 q (k1.trans k2) r2 a2⟩
  cases k with
  | true => exact iteT (go (t1.1 rfl))
  | false => exact iteF (go (t1.2 rfl))
structure Exq (K : PySem.W.Frag) (mg : Str → Option Value) (x : Str) : Prop where
  ex : ∃ C, mg x = some (.ref C) ∧ excAt K x = some C ∧ PySem.W.subIn K (.ref C) (.type "BaseException") = some true ∧ PySem.W.typeIn K (.ref C) = some (.type "type") ∧ ExcC K C
structure Exc0 (K : PySem.W.Frag) (mg : Str → Option Value) (x : Str) : Prop where
  ex : ∃ C, mg x = some (.ref C) ∧ excAt K x = some C ∧ PySem.W.excIn K C bVal "ValueError.__new__" = true ∧ PySem.W.keepIn K (.ref C) = true
structure Sub (K : PySem.W.Frag) (mg : Str → Option Value) (x y : Str) (b : Bool) : Prop where
  ex : ∃ C c, mg x = some (.ref C) ∧ clsV K y = some c ∧ ((∃ C', c = .ref C' ∧ mg y = some c) ∨ (∃ T, c = .type T ∧ mg y = none ∧ bootBuiltins y = some c)) ∧ PySem.W.kitOne K (.ref C) c = some b ∧ PySem.W.exmOne K (.ref C) c = some b
theorem excAt_mg {K : PySem.W.Frag} {mg : Str → Option Value} {h : Heap} (X : K.In h) (G : h.Ns mainGlobals mg) {x : Str} {C : Addr} (e : excAt K x = some C) : mg x = some (.ref C) := by
  unfold excAt at e
  split at e
  · rename_i C' e'
    cases e
    exact PySem.W.mg_of X G e'
  · cases e
theorem exq_ok {K : PySem.W.Frag} {mg : Str → Option Value} {h : Heap} (X : K.In h) (G : h.Ns mainGlobals mg) {x : Str} (c : excQB K x = true) : Exq K mg x := by
  unfold excQB at c
  cases e : excAt K x with
  | none => rw [e] at c; cases c
  | some C =>
    rw [e] at c
    simp only [Bool.and_eq_true, beq_iff_eq] at c
    obtain ⟨⟨⟨⟨⟨⟨⟨⟨c1, c2⟩, c3⟩, c4⟩, c5⟩, c6⟩, c7⟩, c8⟩, c9⟩ := c
    exact ⟨C, excAt_mg X G e, e, c1, c2, ⟨c3, c4, c1, c5, c6, c7, c8, c9⟩⟩
theorem exc0_ok {K : PySem.W.Frag} {mg : Str → Option Value} {h : Heap} (X : K.In h) (G : h.Ns mainGlobals mg) {x : Str} (c : exc0B K x = true) : Exc0 K mg x := by
  unfold exc0B at c
  cases e : excAt K x with
  | none => rw [e] at c; cases c
  | some C =>
    rw [e] at c
    simp only [Bool.and_eq_true] at c
    exact ⟨C, excAt_mg X G e, e, c.1, c.2⟩
theorem sub_ok {K : PySem.W.Frag} {mg : Str → Option Value} {h : Heap} (X : K.In h) (G : h.Ns mainGlobals mg) {x y : Str} {b : Bool} (c : subB K x y b = true) : Sub K mg x y b := by
  unfold subB at c
  cases e : excAt K x with
  | none => rw [e] at c; cases c
  | some C =>
    cases e2 : clsV K y with
    | none => rw [e, e2] at c; cases c
    | some v =>
      rw [e, e2] at c
      simp only [Bool.and_eq_true, beq_iff_eq] at c
      refine ⟨C, v, excAt_mg X G e, e2, ?_, c.1, c.2⟩
      unfold clsV at e2
      split at e2
      · rename_i C' e'
        cases e2
        exact .inl ⟨_, rfl, PySem.W.mg_of X G e'⟩
      · rename_i e'
        split at e2
        · rename_i T e3
          cases e2
          exact .inr ⟨_, rfl, PySem.W.mg_none_of X G e', e3⟩
        · cases e2
      · cases e2

theorem pmk_own0 {C : Addr} {bmB : List Value} {B newId initId : String} {x : Str} {p : Pos} (F : ExcBaseFacts B newId initId bmB) (q : PySem.W.excIn X.K C bmB newId = true) (gC : X.mg x = some (.ref C)) (kC : PySem.W.keepIn X.K (.ref C) = true) (r : Raises X (.ref C)) (hg : Gl X x)
    (hdb : (x == ("__debug__" : Str)) = false := by decide) : PMk X (.Call (.Name x p) [] [] pos) (fun _ H Q => Q (.ref C) none H) := by
  intro pins s σ H Q I h
  refine wpAny_Call_Name_kw (ld_glob I hg gC ?_ hdb)
  refine PySem.W.callWith_K0 I.kIn kC ?_
  show wpAny _ _ (call (.ref C) []) _ _ _
  obtain ⟨bm, N, nm, qn, bs, hdct, sn, sub, ab, col, dd, k0, k1, k2, k3, k5, mN, hC, hN, hni, T⟩ := exc_obj I.kIn q
  refine wpAny_call_exc_subT F T hC hN hni (fun h' e hm => ?_) (Nat.zero_le _)
  exact mk_of I hm r h (I.hok.gone hm.new)
def xRaise (x : Str) : PSXx γ := fun w _ s => w ⟨x, none⟩ s
theorem qsx_raise0 {x : Str} {p p2 : Pos} (hc : X.calm = true) (tk : Takes X W) (E : Exc0 X.K X.mg x) (Q : Exq X.K X.mg x) (hg : Gl X x) (hdb : (x == ("__debug__" : Str)) = false := by decide) :
    QSX X G W (.Raise (some (.Call (.Name x p) [] [] p2)) none pos) (xRaise x) := by
  obtain ⟨C, m1, e1, q1, k1⟩ := E.ex
  obtain ⟨C', m2, e2, s2, t2, _⟩ := Q.ex
  rw [e1] at e2
  cases e2
  refine PS.imp (ps_raise hc tk (pmk_own0 (pos := p2) (p := p) PySem.F.excBase_ValueError q1 m1 k1 (raises_own s2 t2) hg hdb)) fun De σ H ⟨F, Z, s, E, w, r, t, n, rt, bk, ct, ex⟩ => ?_
  exact ex _ s Z σ _ _ H t (Same.refl _) r ⟨m1, rfl⟩
abbrev SpecX := List D → DK → (Xc → Prop) → Prop
def spPX (K : PySem.W.Frag) (mg : Str → Option Value) (f : SpecX) : Sp := fun vs H Q E => ∃ Z ds R W, Same Z H ∧ Ats K Z ds vs ∧ f ds R W ∧
  (∀ d Z' v H', R d → Same Z Z' → Same Z' H' → Same H H' → (∀ a o, Z' a = some o → Z a = none → H a = none) → At K Z' d v → Q v H') ∧
  ∀ x Z' cls d H', W x → Same Z Z' → Same Z' H' → Same H H' → (∀ a o, Z' a = some o → Z a = none → H a = none) → XcAt K mg Z' x cls d → E cls d H'
structure DefX (X : Cx) (x : Str) (n : Nat) (sp : Sp) : Prop where
  ex : ∃ f fd k ps, FnOk X.prog X.w X.K X.mg X.base (L2.CX X.prog X.w) k f fd ps sp ∧ Room k X.A ∧ X.mg x = some (.ref f) ∧ PySem.W.keepIn X.K (.ref f) = true ∧ Binds X.K fd ps [] ∧ ps.length = n
def GloX (P : Program) (w : World) (K : PySem.W.Frag) (mg : Str → Option Value) (base : Heap) (x : Str) (n : Nat) (sp : Sp) (k : Nat) : Prop :=
  ∃ f fd ps, FnOk P w K mg base (L2.CX P w) k f fd ps sp ∧ mg x = some (.ref f) ∧ PySem.W.keepIn K (.ref f) = true ∧ Binds K fd ps [] ∧ ps.length = n
theorem GloX.at {X : Cx} {x : Str} {n : Nat} {sp : Sp} {j k : Nat} (g : GloX X.prog X.w X.K X.mg X.base x n sp j) (hr : Room k X.A) (h : j ≤ k := by decide) : DefX X x n sp := by
  obtain ⟨f, fd, ps, F, m, kp, b, e⟩ := g
  exact ⟨f, fd, j, ps, F, hr.mono h, m, kp, b, e⟩
def qCallX (f : SpecX) (t : PAx γ) : PEXx γ := fun w s R => t s fun xs s1 => f xs (fun z => R z s1) (fun x => w x s1)
theorem qex_call {x : Str} {n : Nat} {f : SpecX} {es : List Expr} {t : PAx γ} {p : Pos} (d : DefX X x n (spPX G.K X.mg f)) (tk : Takes X W) (hg : Gl X x) (ha : QA X G (e :: es) t) (hdb : (x == ("__debug__" : Str)) = false := by decide) (he : starEach (e :: es) X.env = (false, eval e X.env) :: starEach es X.env := by rfl) (hpl : (backTo pos (starEach es X.env)).any (·.1) = false := by rfl) :
    QEX X G W (.Call (.Name x p) (e :: es) [] pos) (qCallX f t) := by
  obtain ⟨fa, fd, k, ps, F, hr, hm, hk, hb, _⟩ := d.ex
  refine PE.imp (L2.pe_callS F hr hg hm hk hb (fun σ => passAt tk σ) ha hdb he hpl) fun σ H Q ⟨F, Z, s, R, w, r, t, q, ex⟩ => ?_
  refine ⟨F, Z, s, _, r, t, fun xs s1 Z1 vs H1 t1 k1 r1 a1 => ?_⟩
  refine ⟨Z1, xs, _, _, r1.z, a1, t1, fun z Z3 v H3 t3 k3 z3 h3 n3 a3 => ?_, fun x Z3 cls d H3 t3 k3 z3 h3 n3 a3 => ?_⟩
  · exact q z s1 Z3 v H3 t3 (k1.trans k3) (r1.ext ⟨h3, k3, z3, n3⟩) a3
  · exact ex x s1 Z3 cls d H3 t3 (k1.trans k3) (r1.ext ⟨h3, k3, z3, n3⟩) a3
def xRet (t : PEXx γ) : PSXx γ := fun w E s => t w s fun d s1 => E.rt d s1.g
theorem qsx_ret {t : PEXx γ} (he : QEX X G W e t) : QSX X G W (.Return (some e) pos) (xRet t) := by
  refine PS.imp (ps_ret he) fun De σ H ⟨F, Z, s, E, w, r, t, _, rt, _, _, ex⟩ => ?_
  exact ⟨F, Z, s, _, w, r, t, fun d s1 Z1 v H1 t1 k1 r1 a1 => rt d s1 Z1 σ v H1 t1 k1 r1 a1, fun x s1 Z1 cls d H1 t1 k1 r1 a1 => ex x s1 Z1 σ cls d H1 t1 k1 r1 a1⟩
def xDrop (t : PEXx γ) : PSXx γ := fun w E s => t w s fun _ s1 => E.nx s1
theorem qsx_expr {t : PEXx γ} (he : QEX X G W e t) (hs : swapsWith e none pos.line X.env = pure false := by rfl) : QSX X G W (.Expr e pos) (xDrop t) := by
  refine PS.imp (ps_expr he hs) fun De σ H ⟨F, Z, s, E, w, r, t, n, _, _, _, ex⟩ => ?_
  exact ⟨F, Z, s, _, w, r, t, fun d s1 Z1 v H1 t1 k1 r1 a1 => n s1 Z1 σ H1 t1 k1 r1, fun x s1 Z1 cls d H1 t1 k1 r1 a1 => ex x s1 Z1 σ cls d H1 t1 k1 r1 a1⟩
end
section
variable {P : Program} {w : World} {K : PySem.W.Frag} {mg : Str → Option Value} {base : Heap}
theorem okPX {x qual : Str} {st : Stmt} {f : Addr} {fd : FuncData} {N ps : List Str} {k : Nat} (F : Fn K x qual st f fd) (S : FnScope N ps (defScope st)) {fs : SpecX} (len : ∀ ds R W, fs ds R W → ds.length = ps.length)
    (body : ∃ t : PSXx Unit, (∀ (cdv : Value) (A : Around) (outer : List Env) (s : Shared) (H : Hp) (E : XK), Room k (A.deeper (envOfC qual (defScope st) s.heap.objs.size f cdv)) →
      QSXs (cxOf (L2.CX P w) P w K mg base N qual (defScope st) f cdv A outer s H E) (none0 K) (fun cls d _ H => E cls d H) (defBody st) t) ∧ ∀ ds R W, fs ds R W → t (fun x _ => W x) { nx := fun _ => R .non, rt := fun d _ => R d } ⟨startL N.length ds, ()⟩) : FnOk P w K mg base (L2.CX P w) (k + 1) f fd ps (spPX K mg fs) := by
  refine FunD.ok F S (fun vs H Q E h => ?_) (fun cdv A outer s H vs Q E hr h => ?_)
  · obtain ⟨Z, ds, R, W, _, a, h, _⟩ := h
    rw [a.len]; exact len _ _ _ h
  · obtain ⟨t, hb, hp⟩ := body
    refine ⟨_, hb cdv A outer s H E hr, ?_⟩
    obtain ⟨Z, ds, R, W, k, a, h, q, ex⟩ := h
    have hl : ps.length ≤ N.length := by have := congrArg List.length S.pre; rw [List.length_take] at this; omega
    have hd := len _ _ _ h
    have nw : ∀ {Z' : Hp} {s' : Pm.S Unit} {σ' : St} {H' : Hp}, Rel (none0 K) ⟨H, fun b => H b ≠ none ∧ Z b = none, fun b hb => Option.ne_none_iff_exists'.mp hb.1⟩ Z' s' σ' H' → ∀ b o, Z' b = some o → Z b = none → H b = none := fun r' b o e n => by
      cases hb : H b with
      | none => rfl
      | some u => have := r'.zb b ⟨by rw [hb]; simp, n⟩; rw [e] at this; cases this
    refine ⟨⟨H, fun b => H b ≠ none ∧ Z b = none, fun b hb => Option.ne_none_iff_exists'.mp hb.1⟩, Z, _, _, _, ?_, hp ds R W h, ?_, ?_, ?_, ?_, ?_⟩
    · refine ⟨k, Same.refl _, fun b hb => hb.2, ?_, fun i d e => ?_, fun i l e ol => ?_, fun i j l m b n e1 o1 e2 => ?_, trivial, fun b z => False.elim z, fun b z => False.elim z, fun _ _ z => by cases z⟩
      · unfold L2.start startL
        simp only [List.length_append, List.length_map, List.length_replicate, a.len]
      · obtain ⟨d', e', v, h1, h2⟩ := start_at a e
        cases e'
        exact ⟨v, h1, h2⟩
      · obtain ⟨d', e', _⟩ := start_at a e
        subst e'; cases ol
      · obtain ⟨d', e', _⟩ := start_at a e1
        subst e'; cases o1
    · intro s' Z' σ' H' q' k' r'
      exact q .non Z' .non H' q' k' r'.z r'.f (nw r') rfl
    · intro d s' Z' σ' v H' q' k' r' a'
      exact q d Z' v H' q' k' r'.z r'.f (nw r') a'
    · intro s' Z' σ' H' q'; exact q'.elim
    · intro s' Z' σ' H' q'; exact q'.elim
    · intro x s' Z' σ' cls d H' q' k' r' a'
      exact ex x Z' cls d H' q' k' r'.z r'.f (nw r') a'
end
section
variable {X : Cx} {G : GP γ} {pos : Pos}
def GP.lo (G : GP γ) (Z : Hp) : GP γ := { G with fl := Z }
theorem Rel.lo {G : GP γ} {F : Fra} {Z : Hp} {s : S γ} {σ : St} {H : Hp} (r : Rel G F Z s σ H) : Rel (G.lo Z) F Z s σ H := ⟨r.z, r.f, r.zb, r.len, r.loc, r.ownL, r.injL, r.j, r.zf, r.ff, Same.refl _⟩
theorem Rel.hi {G : GP γ} {Z0 : Hp} (h0 : ∀ a, G.fl a = none) {F : Fra} {Z : Hp} {s : S γ} {σ : St} {H : Hp} (r : Rel (G.lo Z0) F Z s σ H) : Rel G F Z s σ H := ⟨r.z, r.f, r.zb, r.len, r.loc, r.ownL, r.injL, r.j, r.zf, r.ff, fun a o e => by rw [h0 a] at e; cases e⟩
abbrev clr (i : Nat) (s : S γ) : S γ := ⟨s.ρ.set i none, s.g⟩
theorem Rel.clr {G : GP γ} {F : Fra} {Z : Hp} {s : S γ} {σ : St} {H : Hp} (r : Rel G F Z s σ H) (i : Nat) : Rel G F Z (Pm.clr i s) (σ.set i none) H := by
  have get : ∀ {j : Nat} {l : L}, (s.ρ.set i none)[j]? = some (some l) → i ≠ j ∧ s.ρ[j]? = some (some l) := fun {j l} h => by
    by_cases e : i = j
    · subst e
      have hl : i < s.ρ.length := by
        have := (List.getElem?_eq_some_iff.mp h).1
        simpa using this
      rw [List.getElem?_set_self hl] at h; cases h
    · rw [List.getElem?_set_ne e] at h; exact ⟨e, h⟩
  refine ⟨r.z, r.f, r.zb, by simpa using r.len, fun j d h => ?_, fun j l h ol => ?_, fun j k l m a n h1 ol h2 om h3 h4 => ?_, r.j, r.zf, r.ff, r.fl⟩
  · obtain ⟨e, h⟩ := get h
    rw [List.getElem?_set_ne e]; exact r.loc j d h
  · obtain ⟨e, h⟩ := get h
    rw [List.getElem?_set_ne e]; exact r.ownL j l h ol
  · obtain ⟨e1, h1⟩ := get h1
    obtain ⟨e2, h2⟩ := get h2
    rw [List.getElem?_set_ne e1] at h3
    rw [List.getElem?_set_ne e2] at h4
    exact r.injL j k l m a n h1 ol h2 om h3 h4
structure Held (X : Cx) (K : PySem.W.Frag) (Z0 : Hp) (x : Xc) (a : Addr) (oe : Obj) (cls : Value) (d : Option Addr) : Prop where
  at_ : XcAt K X.mg Z0 x cls d
  z : Zc cls d oe
  f : ∃ vs, oe.data = .fields vs
def qTryAs (f : Str → Str → Option Bool) (y : Str) (i : Nat) (tb : PSXx γ) (ts : Xc → Addr → PSx γ) : PSx γ := fun E s =>
  tb (fun x s1 => f x.c y = some true ∧ ∀ a, ts x a { nx := fun s2 => E.nx (clr i s2), rt := E.rt, bk := fun s2 => E.bk (clr i s2), ct := fun s2 => E.ct (clr i s2) } ⟨s1.ρ.set i (some (.val (.obj a))), s1.g⟩) E s
theorem qs_tryAs {f : Str → Str → Option Bool} {y n : Str} {i : Nat} {body suite : List Stmt} {b₀ : Stmt} {np pos' : Pos} {tb : PSXx γ} {ts : Xc → Addr → PSx γ} (hs : X.stack = X.env :: X.outer) (hf : X.env.frame = some X.env.locals) (hN : X.N.Nodup) (hi : X.N[i]? = some n) (hln : X.env.kindOf n = some .local)
    (hfl : ∀ a, G.fl a = none) (hg : Gl X y) (tab : ∀ x y b, f x y = some b → Sub X.K X.mg x y b) (hy : ∃ x, f x y = some true)
    (hb : ∀ (W : WX) (pn : List (Addr × Obj)) (xe : Value → Shared → Prop), Takes (X.tr pn xe) W → PassesOwn (model X.prog X.w) X.A X.env xe → QSXs (X.tr pn xe) G W body tb)
    (hsu : ∀ (a : Addr) (oe : Obj) (cls : Value) (d : Option Addr) (pn : List (Addr × Obj)) (Z0 : Hp) (x : Xc), Held X G.K Z0 x a oe cls d → QSs (X.suite a ((a, oe) :: pn)) (G.lo Z0) (b₀ :: suite) (ts x a))
    (hdb : (y == ("__debug__" : Str)) = false := by decide) (hnn : y ≠ "__name__" := by decide) :
    QS X G (.Try body [.ExceptHandler (some (.Name y np)) (some n) (b₀ :: suite) pos'] [] [] pos) (qTryAs f y i tb ts) := by
  obtain ⟨x0, hx0⟩ := hy
  obtain ⟨C0, c, _, hcv, hc, _⟩ := (tab x0 y true hx0).ex
  have nm : Names X y c := ⟨hg, hdb, hc.imp (fun ⟨_, _, a⟩ => a) fun ⟨_, _, a, b⟩ => ⟨a, b, hnn⟩⟩
  refine PS.imp (ps_try_as hs hf hN hi hln nm takes0 (tb := fun W => lSX G X.mg W tb) (ts := fun a cls d De σ H => ∃ x Z0, XcAt G.K X.mg Z0 x cls d ∧ lS (G.lo Z0) (ts x a) De σ H) hb fun a oe cls d pn hz hfd => ?_) fun De σ H ⟨F, Z, s, E, r, t, n, rt, bk, ct⟩ => ?_
  · refine ⟨fun pins s σ H De I ⟨x, Z0, hx, w⟩ => ?_⟩
    exact (hsu a oe cls d pn Z0 x ⟨hx, hz, hfd⟩).run pins s σ H De I w
  · refine ⟨F, Z, s, E, _, r, t, n, rt, bk, ct, fun x s' Z' σ' cls d H' ⟨hx, w⟩ k' r' a' => ?_⟩
    obtain ⟨C, c', m1, cv', _, _, ex⟩ := (tab x.c y true hx).ex
    rw [hcv] at cv'
    cases cv'
    have ec : cls = .ref C := by have := a'.1; rw [m1] at this; cases this; rfl
    subst ec
    refine ⟨true, ex, fun _ a _ => ?_, fun q => (by cases q)⟩
    refine ⟨x, Z', a', F, Z', _, _, (r'.put (i := i) (d := .obj a) (v := .ref a) rfl).lo, w a, ?_, ?_, ?_, ?_⟩
    · intro s2 Z2 σ2 H2 q k2 r2
      exact n _ Z2 _ H2 q (k'.trans k2) ((r2.hi hfl).clr i)
    · intro d2 s2 Z2 σ2 v H2 q k2 r2 a2
      have r3 := (r2.hi hfl).clr i
      exact rt d2 (Pm.clr i s2) Z2 _ v H2 q (k'.trans k2) r3 a2
    · intro s2 Z2 σ2 H2 q k2 r2
      exact bk _ Z2 _ H2 q (k'.trans k2) ((r2.hi hfl).clr i)
    · intro s2 Z2 σ2 H2 q k2 r2
      exact ct _ Z2 _ H2 q (k'.trans k2) ((r2.hi hfl).clr i)
inductive ClsA (X : Cx) : List Str → List Expr → List V → List Value → Prop
  | nil : ClsA X [] [] [] []
  | cons {y : Str} {p : Pos} {v : V} {c : Value} {ys : List Str} {es : List Expr} {vs : List V} {us : List Value} (h : PE X (.Name y p) (tC v)) (k : ClsV v c) (hc : X.mg y = some c ∨ (X.mg y = none ∧ bootBuiltins y = some c)) (hs : starEach (.Name y p :: es) X.env = (false, eval (.Name y p) X.env) :: starEach es X.env) (r : ClsA X ys es vs us) : ClsA X (y :: ys) (.Name y p :: es) (v :: vs) (c :: us)
theorem ClsA.pa {X : Cx} {ys : List Str} {es : List Expr} {vs : List V} {us : List Value} (h : ClsA X ys es vs us) : PA X es (fun σ H Q => Q vs H) := by
  induction h with
  | nil => exact PA.imp pa_nil fun _ _ _ h => h
  | cons h k hc hs r ih => exact PA.imp (pa_cons h ih hs) fun _ _ _ h => h
theorem ClsA.pair {X : Cx} {ys : List Str} {es : List Expr} {vs : List V} {us : List Value} (h : ClsA X ys es vs us) : Paired ClsV vs us := by
  induction h with
  | nil => exact .nil
  | cons h k hc hs r ih => exact .cons k ih
theorem pe_cls {y : Str} {p : Pos} {c : Value} (hg : Gl X y) (h : (∃ C', c = .ref C' ∧ X.mg y = some c) ∨ (∃ T, c = .type T ∧ X.mg y = none ∧ bootBuiltins y = some c)) (hn : y ≠ "__name__" := by decide) (hd : (y == ("__debug__" : Str)) = false := by decide) :
    ∃ v, ClsV v c ∧ PE X (.Name y p) (tC v) := by
  rcases h with ⟨C, rfl, hm⟩ | ⟨T, rfl, hm, hv⟩
  · exact ⟨.ref C, .own C, pe_glob hg hm rfl hd⟩
  · exact ⟨.ty T, .ty T, pe_bltn hg hm hv rfl hn hd⟩
def isAny (f : Str → Str → Option Bool) (c : Str) : List Str → Option Bool
  | [] => some false
  | y :: ys => match f c y with
    | some true => some true
    | some false => isAny f c ys
    | none => none
theorem isAny_kit {X : Cx} {f : Str → Str → Option Bool} (tab : ∀ x y b, f x y = some b → Sub X.K X.mg x y b) {x : Str} {C : Addr} (hC : X.mg x = some (.ref C)) {ys : List Str} {es : List Expr} {vs : List V} {us : List Value} (h : ClsA X ys es vs us) : ∀ {b : Bool}, isAny f x ys = some b → PySem.W.kitAny X.K (.ref C) us = some b := by
  induction h with
  | nil => exact fun h => h
  | @cons y p v c ys es vs us h k hc hs r ih =>
    intro b hb
    unfold isAny at hb
    cases e : f x y with
    | none => rw [e] at hb; cases hb
    | some b' =>
      obtain ⟨C', c', m1, _, m2, k1, _⟩ := (tab x y b' e).ex
      rw [hC] at m1
      cases m1
      have ec : c' = c := by
        rcases m2 with ⟨_, _, m2⟩ | ⟨_, _, m2, m3⟩ <;> rcases hc with hc | ⟨hc, hb⟩
        · rw [m2] at hc; cases hc; rfl
        · rw [m2] at hc; cases hc
        · rw [m2] at hc; cases hc
        · rw [m3] at hb; cases hb; rfl
      subst ec
      rw [e] at hb
      cases b' with
      | true => exact kitAny_cons k1 (fun q => (by cases q)) (fun _ => by simpa using hb.symm)
      | false => exact kitAny_cons k1 (fun _ => ih hb) (fun q => (by cases q))
def rXis (K : PySem.W.Frag) (C a : Addr) (d : Option Addr) : List V → Hp → VK → Prop := fun xs H Q => ∃ (v : V) (b : Bool), xs = [.ref a, v] ∧
  ((∃ u, ClsV v u ∧ PySem.W.kitOne K (.ref C) u = some b) ∨ ∃ (tp : Addr) (cs : List V) (us : List Value), v = .ref tp ∧ H tp = some (.tup cs) ∧ Paired ClsV cs us ∧ PySem.W.kitAny K (.ref C) us = some b) ∧
  (d = none ∨ ∃ dd fs, d = some dd ∧ H dd = some (.xd fs)) ∧ Q (.bl b) H
theorem call_xis {X : Cx} {C a : Addr} {d : Option Addr} {oe : Obj} {pn : List (Addr × Obj)} (E : ExcC X.K C) (hz : Zc (.ref C) d oe) (hf : ∃ vs, oe.data = .fields vs) : CallR (X.suite a ((a, oe) :: pn)) (.builtin "isinstance") (rXis X.K C a d) := by
  intro pins s σ H xs us Q I r h
  obtain ⟨v, b, rfl, hv, hd, q⟩ := h
  obtain ⟨u1, u2, rfl, r1, r2⟩ : ∃ u1 u2, us = [u1, u2] ∧ RelV (.ref a) u1 ∧ RelV v u2 := by
    cases r with
    | cons r1 r => cases r with
      | cons r2 r => cases r; exact ⟨_, _, rfl, r1, r2⟩
  obtain rfl : u1 = .ref a := r1
  obtain ⟨hget, _⟩ := I.pin (a, oe) (List.mem_append.mpr (.inl List.mem_cons_self))
  obtain ⟨vs, hfv⟩ := hf
  obtain ⟨z1, z2⟩ := hz
  have J : ∃ od, PySem.W.InstAt s.heap a oe C od := by
    have nc : PySem.W.notCls oe := by unfold PySem.W.notCls; rw [hfv] <;> rfl
    rcases hd with rfl | ⟨dd, fs, rfl, ea⟩
    · exact ⟨none, hget, z1, nc, by rw [z2]; trivial⟩
    · obtain ⟨mA, hns, _⟩ := (show ObjOk X.prog X.w H s.heap dd (.xd fs) from I.hok dd _ ea)
      obtain ⟨od, ho, _⟩ := lookIn_ns hns
      exact ⟨some od, hget, z1, nc, by rw [z2]; exact ho⟩
  obtain ⟨od, J⟩ := J
  have Kx := fun {ox} => PySem.W.kitx_exc (x := a) (ox := ox) (od := od) (by obtain ⟨cd, hc, _⟩ := PySem.W.any_some E.hd; rw [hc]; rfl) E.hg E.hk E.hs E.ha E.hn E.ht E.hm
  rcases hv with ⟨u, ku, e⟩ | ⟨tp, cs, us, rfl, ht, kp, e⟩
  · have := ku.eq r2
    subst this
    exact PySem.W.kia_one Kx I.kIn J e (fun z => nomatch z) fun tk => ⟨.bl b, H, I.kept (t' := tk) fun _ _ z => z, rfl, q⟩
  · obtain rfl : u2 = .ref tp := r2
    obtain ⟨_, its, rv, o, h1, h2, n, h3⟩ := (show ObjOk X.prog X.w H s.heap tp (.tup cs) from I.hok tp _ ht)
    have e3 := ClsV.all kp rv
    subst e3
    obtain ⟨oc, od', dt, sl⟩ := o
    simp only at h2 h3
    subst h2 h3
    exact PySem.W.kia_tup Kx I.kIn J h1 e (fun z => nomatch z) fun tk => ⟨.bl b, H, I.kept (t' := tk) fun _ _ z => z, rfl, q⟩
def qIsE (f : Str → Str → Option Bool) (xq ys : List Str) (i : Nat) (x : Xc) (a : Addr) : PEx γ := fun s R => s.ρ[i]? = some (some (.val (.obj a))) ∧ x.c ∈ xq ∧ ∃ b, isAny f x.c ys = some b ∧ R (.bl b) s
section
variable {f : Str → Str → Option Bool} {xq : List Str} {i : Nat} {Z0 : Hp} {x : Xc} {a : Addr} {oe : Obj} {cls : Value} {d : Option Addr} {pn : List (Addr × Obj)} {n : Str} {p p1 p2 : Pos}
theorem Held.dd (h : Held X G.K Z0 x a oe cls d) {F : Fra} {Z : Hp} {s : S γ} {σ : St} {H : Hp} (r : Rel (G.lo Z0) F Z s σ H) : d = none ∨ ∃ dd fs, d = some dd ∧ H dd = some (.xd fs) := by
  obtain ⟨⟨_, h1⟩, _, _⟩ := h
  cases e : x.f with
  | none => rw [e] at h1; exact .inl h1
  | some q =>
    obtain ⟨n, v⟩ := q
    rw [e] at h1
    obtain ⟨b, w, rfl, h2, _⟩ := h1
    exact .inr ⟨b, _, rfl, r.z _ _ (r.fl _ _ h2)⟩
theorem qe_isE1 {y : Str} (h : Held X G.K Z0 x a oe cls d) (hq : ∀ z ∈ xq, Exq X.K X.mg z) (tab : ∀ x y b, f x y = some b → Sub X.K X.mg x y b) (hv : PE (X.suite a ((a, oe) :: pn)) (.Name n p1) (tVar i)) (hg : Gl (X.suite a ((a, oe) :: pn)) "isinstance") (hm : X.mg "isinstance" = none) (hb : ∃ z b, f z y = some b) (hgy : Gl (X.suite a ((a, oe) :: pn)) y)
    (hn : y ≠ "__name__" := by decide) (hd : (y == ("__debug__" : Str)) = false := by decide)
    (hs : starEach [.Name n p1, .Name y p2] (X.suite a ((a, oe) :: pn)).env = (false, eval (.Name n p1) (X.suite a ((a, oe) :: pn)).env) :: starEach [.Name y p2] (X.suite a ((a, oe) :: pn)).env := by rfl) (hs2 : starEach [.Name y p2] (X.suite a ((a, oe) :: pn)).env = (false, eval (.Name y p2) (X.suite a ((a, oe) :: pn)).env) :: starEach [] (X.suite a ((a, oe) :: pn)).env := by rfl) (hpl : (backTo pos (starEach [.Name y p2] (X.suite a ((a, oe) :: pn)).env)).any (·.1) = false := by rfl) :
    QE (X.suite a ((a, oe) :: pn)) (G.lo Z0) (.Call (.Name "isinstance" p) [.Name n p1, .Name y p2] [] pos) (qIsE f xq [y] i x a) := by
  by_cases hx : x.c ∈ xq
  · obtain ⟨C, m1, _, _, _, EC⟩ := (hq _ hx).ex
    have ec : cls = .ref C := by have := h.at_.1; rw [m1] at this; cases this; rfl
    obtain ⟨z, b, hzb⟩ := hb
    obtain ⟨_, c, _, _, hc, _⟩ := (tab z y b hzb).ex
    obtain ⟨v, kv, pv⟩ := pe_cls (p := p2) hgy hc hn hd
    have A : ClsA (X.suite a ((a, oe) :: pn)) [y] [.Name y p2] [v] [c] := .cons pv kv (hc.imp (fun ⟨_, _, a⟩ => a) fun ⟨_, _, a, b⟩ => ⟨a, b⟩) hs2 .nil
    have hz := h.z
    rw [ec] at hz
    refine PE.imp (pe_callB (call_xis EC hz h.f) hg hm (by decide +kernel) (pa_cons hv (pa_cons pv pa_nil hs2) hs) (by decide) (by decide) hs hpl) fun σ H Q ⟨F, Z, s, R, r, t, q⟩ => ?_
    obtain ⟨t1, _, b', t2, t3⟩ := t
    obtain ⟨w, h1, h2⟩ := r.loc i _ t1
    have h2 : w = .ref a := h2
    subst h2
    refine ⟨_, h1, v, b', rfl, .inl ⟨c, kv, ?_⟩, h.dd r, q _ s Z _ H t3 (Same.refl _) r rfl⟩
    have := isAny_kit (X := X.suite a ((a, oe) :: pn)) (fun x y b h => tab x y b h) m1 A t2
    unfold PySem.W.kitAny at this
    cases e : PySem.W.kitOne X.K (.ref C) c with
    | none => rw [show PySem.W.kitOne (X.suite a ((a, oe) :: pn)).K (.ref C) c = none from e] at this; cases this
    | some b2 =>
      rw [show PySem.W.kitOne (X.suite a ((a, oe) :: pn)).K (.ref C) c = some b2 from e] at this
      cases b2 with
      | true => exact this
      | false => exact this
  · obtain ⟨z, b, hzb⟩ := hb
    obtain ⟨_, c, _, _, hc, _⟩ := (tab z y b hzb).ex
    exact ⟨fun pins s σ H Q I ⟨F, Z, s', R, r, t, q⟩ => absurd t.2.1 hx⟩
theorem qe_isET {ys : List Str} {es : List Expr} {j : Nat} {p3 : Pos} (h : Held X G.K Z0 x a oe cls d) (hq : ∀ z ∈ xq, Exq X.K X.mg z) (tab : ∀ x y b, f x y = some b → Sub X.K X.mg x y b) (hv : PE (X.suite a ((a, oe) :: pn)) (.Name n p1) (tVar i)) (hg : Gl (X.suite a ((a, oe) :: pn)) "isinstance") (hm : X.mg "isinstance" = none)
    (A : ∃ vs us, ClsA (X.suite a ((a, oe) :: pn)) ys es vs us) (hl : ys.length ≤ 100)
    (hs : starEach [.Name n p1, .Tuple es j p3] (X.suite a ((a, oe) :: pn)).env = (false, eval (.Name n p1) (X.suite a ((a, oe) :: pn)).env) :: starEach [.Tuple es j p3] (X.suite a ((a, oe) :: pn)).env := by rfl) (hs2 : starEach [.Tuple es j p3] (X.suite a ((a, oe) :: pn)).env = (false, eval (.Tuple es j p3) (X.suite a ((a, oe) :: pn)).env) :: starEach [] (X.suite a ((a, oe) :: pn)).env := by rfl) (hpl : (backTo pos (starEach [.Tuple es j p3] (X.suite a ((a, oe) :: pn)).env)).any (·.1) = false := by rfl) :
    QE (X.suite a ((a, oe) :: pn)) (G.lo Z0) (.Call (.Name "isinstance" p) [.Name n p1, .Tuple es j p3] [] pos) (qIsE f xq ys i x a) := by
  by_cases hx : x.c ∈ xq
  · obtain ⟨C, m1, _, _, _, EC⟩ := (hq _ hx).ex
    have ec : cls = .ref C := by have := h.at_.1; rw [m1] at this; cases this; rfl
    obtain ⟨vs, us, A⟩ := A
    have vl : vs.length ≤ 100 := by
      have : ∀ {ys : List Str} {es : List Expr} {vs : List V} {us : List Value}, ClsA (X.suite a ((a, oe) :: pn)) ys es vs us → vs.length = ys.length := fun h => by
        induction h with
        | nil => rfl
        | cons _ _ _ _ _ ih => simp [ih]
      rw [this A]; exact hl
    have hz := h.z
    rw [ec] at hz
    refine PE.imp (pe_callB (call_xis EC hz h.f) hg hm (by decide +kernel) (pa_cons hv (pa_cons (pe_tup A.pa) pa_nil hs2) hs) (by decide) (by decide) hs hpl) fun σ H Q ⟨F, Z, s, R, r, t, q⟩ => ?_
    obtain ⟨t1, _, b', t2, t3⟩ := t
    obtain ⟨w, h1, h2⟩ := r.loc i _ t1
    have h2 : w = .ref a := h2
    subst h2
    refine ⟨_, h1, ⟨Nat.le_trans vl (by rw [sizeLine_eq]; omega), fun tp ht => ?_⟩⟩
    have x' := Ext.new (o := HO.tup vs) r.z ht
    have r' := r.ext x'
    exact ⟨.ref tp, b', rfl, .inr ⟨tp, vs, us, rfl, upd_same, A.pair, isAny_kit (X := X.suite a ((a, oe) :: pn)) (fun x y b h => tab x y b h) m1 A t2⟩, h.dd r', q _ s _ _ _ t3 x'.zz r' rfl⟩
  · exact ⟨fun pins s σ H Q I ⟨F, Z, s', R, r, t, q⟩ => absurd t.2.1 hx⟩
structure Xfl (K : PySem.W.Frag) (mg : Str → Option Value) (x n : Str) : Prop where
  ex : ∃ C, mg x = some (.ref C) ∧ XfC K C ∧ PySem.W.findIn K (.ref C) n = some none
end
end
end Pm
namespace Pm
open PySem PySem.Spec
open PyProof.Rows hiding St
open L2
def lookT (l : List (Str × Str × Bool)) (x y : Str) : Option Bool := (l.find? fun q => q.1 == x && q.2.1 == y).map (·.2.2)
theorem lookT_ok {P : Str → Str → Bool → Prop} {L l : List (Str × Str × Bool)} (h : ∀ q ∈ L, P q.1 q.2.1 q.2.2) (c : l.all (fun q => L.contains q) = true) : ∀ x y b, lookT l x y = some b → P x y b := by
  intro x y b e
  unfold lookT at e
  obtain ⟨q, e1, rfl⟩ := Option.map_eq_some_iff.mp e
  have h1 := List.find?_some e1
  have h2 := List.mem_of_find?_eq_some e1
  simp only [Bool.and_eq_true, beq_iff_eq] at h1
  obtain ⟨rfl, rfl⟩ := h1
  have := List.all_eq_true.mp c q h2
  exact h q (List.contains_iff_mem.mp this)
theorem sub_all {α : Type} [BEq α] [LawfulBEq α] {P : α → Prop} {L l : List α} (h : ∀ q ∈ L, P q) (c : l.all (fun q => L.contains q) = true) : ∀ q ∈ l, P q := fun q hq =>
  h q (List.contains_iff_mem.mp (List.all_eq_true.mp c q hq))
theorem xfl_ok {K : PySem.W.Frag} {mg : Str → Option Value} {h : Heap} (X : K.In h) (G : h.Ns mainGlobals mg) {q : Str × Str} (c : xflB K q = true) : Xfl K mg q.1 q.2 := by
  unfold xflB at c
  cases e : excAt K q.1 with
  | none => rw [e] at c; cases c
  | some C =>
    rw [e] at c
    obtain ⟨c1, c2⟩ := Bool.and_eq_true_iff.mp c
    exact ⟨C, excAt_mg X G e, xfB_ok c1, of_decide_eq_true c2⟩
structure Excs (K : PySem.W.Frag) (mg : Str → Option Value) (x0 xq : List Str) (sub : List (Str × Str × Bool)) (xf : List (Str × Str)) : Prop where
  x0 : ∀ z ∈ x0, Exc0 K mg z
  xq : ∀ z ∈ xq, Exq K mg z
  sub : ∀ q ∈ sub, Sub K mg q.1 q.2.1 q.2.2
  xf : ∀ q ∈ xf, Xfl K mg q.1 q.2
theorem excs_ok {K : PySem.W.Frag} {mg : Str → Option Value} {h : Heap} (X : K.In h) (G : h.Ns mainGlobals mg) {x0 xq : List Str} {sub : List (Str × Str × Bool)} {xf : List (Str × Str)} (c : excsB K x0 xq sub xf = true) : Excs K mg x0 xq sub xf := by
  unfold excsB at c
  simp only [Bool.and_eq_true, List.all_eq_true] at c
  obtain ⟨c1, c2, c3, c4⟩ := c
  exact ⟨fun z hz => exc0_ok X G (c1 z hz), fun z hz => exq_ok X G (c2 z hz), fun q hq => sub_ok X G (c3 q hq), fun q hq => xfl_ok X G (c4 q hq)⟩
end Pm
namespace Pm
open PySem PySem.Spec
open PyProof.Rows hiding St
open L2
theorem clsA_cons {X : Cx} {f : Str → Str → Option Bool} {y : Str} {p : Pos} {ys : List Str} {es : List Expr} (hg : Gl X y) (tab : ∀ x y b, f x y = some b → Sub X.K X.mg x y b) (hb : ∃ z, ∃ b, f z y = some b) (h : ∃ vs us, ClsA X ys es vs us) (hn : y ≠ "__name__" := by decide) (hd : (y == ("__debug__" : Str)) = false := by decide)
    (hs : starEach (.Name y p :: es) X.env = (false, eval (.Name y p) X.env) :: starEach es X.env := by rfl) : ∃ vs us, ClsA X (y :: ys) (.Name y p :: es) vs us := by
  obtain ⟨z, b, e⟩ := hb
  obtain ⟨_, c, _, _, hc, _⟩ := (tab z y b e).ex
  obtain ⟨v, kv, pv⟩ := pe_cls (p := p) hg hc hn hd
  obtain ⟨vs, us, A⟩ := h
  exact ⟨_, _, .cons pv kv (hc.imp (fun ⟨_, _, a⟩ => a) fun ⟨_, _, a, b⟩ => ⟨a, b⟩) hs A⟩
theorem clsA_nil {X : Cx} : ∃ vs us, ClsA X [] [] vs us := ⟨_, _, .nil⟩
end Pm
set_option Elab.async false
set_option linter.all false
set_option maxRecDepth 100000
set_option maxHeartbeats 1000000
set_option autoImplicit false
namespace Pm
open PySem PySem.Spec
open PyProof.Rows hiding St
open L2
theorem pick3 {a b c : Int} {lo hi : Int} {k : Int} (k0 : 0 ≤ k) (k1 : k < 3) (ha : lo ≤ a ∧ a ≤ hi) (hb : lo ≤ b ∧ b ≤ hi) (hc : lo ≤ c ∧ c ≤ hi) : ∃ m : Int, idx [D.int a, .int b, .int c] k = some (.int m) ∧ lo ≤ m ∧ m ≤ hi := by
  have hi : k = 0 ∨ k = 1 ∨ k = 2 := by omega
  rcases hi with rfl | rfl | rfl
  · exact ⟨a, rfl, ha⟩
  · exact ⟨b, rfl, hb⟩
  · exact ⟨c, rfl, hc⟩
end Pm
set_option Elab.async false
set_option linter.all false
set_option maxRecDepth 100000
set_option maxHeartbeats 1000000
set_option autoImplicit false
namespace Pm
open PySem PySem.Spec
open L2
abbrev Arcs := List (Int × Int)
abbrev Path := List (Nat × Int)
def Res (arcs : Arcs) (fl : List Int) (c : Option Int) (u v : Int) (j : Nat) (s : Int) : Prop :=
  c ≠ some (j : Int) ∧ ((s = 1 ∧ arcs[j]? = some (u, v)) ∨ (s = -1 ∧ arcs[j]? = some (v, u) ∧ 0 < fl.getD j 0))
inductive PathR (arcs : Arcs) (fl : List Int) (c : Option Int) (a : Int) : Path → Int → Prop where
  | nil : PathR arcs fl c a [] a
  | snoc {p : Path} {u v : Int} {j : Nat} {s : Int} : PathR arcs fl c a p u → Res arcs fl c u v j s → PathR arcs fl c a (p ++ [(j, s)]) v
section
variable {arcs : Arcs} {fl fl' : List Int} {c : Option Int} {a g : Int} {p : Path} {U : Int → Prop}
theorem Res.ends {u v : Int} {j : Nat} {s : Int} (h : Res arcs fl c u v j s) : ∃ x y, arcs[j]? = some (x, y) ∧ ((x = u ∧ y = v) ∨ (x = v ∧ y = u)) := by
  rcases h.2 with ⟨_, e⟩ | ⟨_, e, _⟩
  · exact ⟨u, v, e, .inl ⟨rfl, rfl⟩⟩
  · exact ⟨v, u, e, .inr ⟨rfl, rfl⟩⟩
end

end Pm
set_option Elab.async false
set_option linter.all false
set_option maxRecDepth 100000
set_option maxHeartbeats 1000000
set_option autoImplicit false
namespace Pm
open PySem PySem.Spec
open L2
abbrev BS := List (Int × Path) × List Int
def lookO : List (Int × Path) → Int → Option Path
  | [], _ => none
  | (j, p) :: r, k => if j = k then some p else lookO r k
def look (kds : List (Int × Path)) (k : Int) : Path := (lookO kds k).getD []
theorem lookO_mem : ∀ {kds : List (Int × Path)} {k : Int} {p : Path}, lookO kds k = some p → (k, p) ∈ kds
  | [], _, _, h => by cases h
  | (j, q) :: r, k, p, h => by
    simp only [lookO] at h
    split at h
    · rename_i e; cases h; subst e; simp
    · exact List.mem_cons_of_mem _ (lookO_mem h)
theorem lookO_has : ∀ {kds : List (Int × Path)} {k : Int}, k ∈ kds.map (·.1) → ∃ p, lookO kds k = some p
  | [], _, h => by cases h
  | (j, q) :: r, k, h => by
    simp only [lookO]
    by_cases e : j = k
    · exact ⟨q, by rw [if_pos e]⟩
    · rw [if_neg e]
      exact lookO_has (by simp only [List.map_cons, List.mem_cons] at h; exact h.resolve_left fun z => e z.symm)
theorem look_mem {kds : List (Int × Path)} {k : Int} (h : k ∈ kds.map (·.1)) : lookO kds k = some (look kds k) ∧ (k, look kds k) ∈ kds := by
  obtain ⟨p, e⟩ := lookO_has h
  have : look kds k = p := by unfold look; rw [e]; rfl
  rw [this]; exact ⟨e, lookO_mem e⟩
def bfAdd (st : BS) (node v : Int) (j : Nat) (s : Int) : BS := (st.1 ++ [(v, look st.1 node ++ [(j, s)])], st.2 ++ [v])
structure BI (arcs : Arcs) (fl : List Int) (c : Option Int) (a : Int) (st : BS) : Prop where
  me : a ∈ st.1.map (·.1)
  nd : (st.1.map (·.1)).Nodup
  pt : ∀ q ∈ st.1, PathR arcs fl c a q.2 q.1 ∧ (q.2.map (·.1)).Nodup ∧ ∀ j ∈ q.2.map (·.1), ∃ x y, arcs[j]? = some (x, y) ∧ x ∈ st.1.map (·.1) ∧ y ∈ st.1.map (·.1)
  wk : ∀ v ∈ st.2, v ∈ st.1.map (·.1)
  ks : ∀ v ∈ st.1.map (·.1), v ∈ a :: (arcs.map (·.1) ++ arcs.map (·.2))
  wl : st.2.length ≤ st.1.length
theorem BI.add {arcs : Arcs} {fl : List Int} {c : Option Int} {a : Int} {st : BS} {node v : Int} {j : Nat} {s : Int} (h : BI arcs fl c a st) (hn : node ∈ st.1.map (·.1)) (r : Res arcs fl c node v j s) (hv : v ∉ st.1.map (·.1)) : BI arcs fl c a (bfAdd st node v j s) := by
  obtain ⟨_, hm⟩ := look_mem hn
  obtain ⟨h1, h2, h3⟩ := h.pt _ hm
  have eK : (bfAdd st node v j s).1.map (·.1) = st.1.map (·.1) ++ [v] := by simp [bfAdd]
  have sub : ∀ x, x ∈ st.1.map (·.1) → x ∈ (bfAdd st node v j s).1.map (·.1) := fun x hx => by rw [eK]; exact List.mem_append.mpr (.inl hx)
  have hv' : v ∈ (bfAdd st node v j s).1.map (·.1) := by rw [eK]; simp
  obtain ⟨x, y, e, k⟩ := r.ends
  refine ⟨sub _ h.me, ?_, fun q hq => ?_, fun u hu => ?_, fun u hu => ?_, ?_⟩
  · rw [eK]
    exact List.nodup_append.mpr ⟨h.nd, by simp, fun x hx y hy => by rw [List.mem_singleton.mp hy]; exact fun z => hv (z ▸ hx)⟩
  · rcases List.mem_append.mp hq with hq | hq
    · obtain ⟨g1, g2, g3⟩ := h.pt q hq
      refine ⟨g1, g2, fun i hi => ?_⟩
      obtain ⟨x, y, e, k1, k2⟩ := g3 i hi
      exact ⟨x, y, e, sub _ k1, sub _ k2⟩
    · rw [List.mem_singleton.mp hq]
      refine ⟨h1.snoc r, ?_, fun i hi => ?_⟩
      · rw [List.map_append]
        refine List.nodup_append.mpr ⟨h2, by simp, fun i hi i' hi' z => ?_⟩
        simp only [List.map_cons, List.map_nil, List.mem_singleton] at hi'
        subst z; subst hi'
        obtain ⟨x', y', e', k1, k2⟩ := h3 _ hi
        rw [e] at e'; cases e'
        rcases k with ⟨rfl, rfl⟩ | ⟨rfl, rfl⟩
        · exact hv k2
        · exact hv k1
      · rw [List.map_append, List.mem_append] at hi
        rcases hi with hi | hi
        · obtain ⟨x, y, e, k1, k2⟩ := h3 i hi
          exact ⟨x, y, e, sub _ k1, sub _ k2⟩
        · simp only [List.map_cons, List.map_nil, List.mem_singleton] at hi
          subst hi
          refine ⟨x, y, e, ?_⟩
          rcases k with ⟨rfl, rfl⟩ | ⟨rfl, rfl⟩
          · exact ⟨sub _ hn, hv'⟩
          · exact ⟨hv', sub _ hn⟩
  · rcases List.mem_append.mp hu with hu | hu
    · exact sub _ (h.wk u hu)
    · rw [List.mem_singleton.mp hu]; exact hv'
  · rw [eK, List.mem_append] at hu
    rcases hu with hu | hu
    · exact h.ks u hu
    · rw [List.mem_singleton.mp hu]
      have hma := List.mem_of_getElem? e
      refine List.mem_cons_of_mem _ (List.mem_append.mpr ?_)
      rcases k with ⟨rfl, rfl⟩ | ⟨rfl, rfl⟩
      · exact .inr (List.mem_map_of_mem (f := (·.2)) hma)
      · exact .inl (List.mem_map_of_mem (f := (·.1)) hma)
  · have := h.wl
    simp only [bfAdd, List.length_append, List.length_singleton]; omega
structure Grow (st st' : BS) : Prop where
  ln : st'.1.length + st.2.length = st.1.length + st'.2.length
  sb : ∀ v, v ∈ st.1.map (·.1) → v ∈ st'.1.map (·.1)
  nw : ∀ v, v ∈ st'.1.map (·.1) → v ∈ st.1.map (·.1) ∨ v ∈ st'.2
  sw : ∀ v, v ∈ st.2 → v ∈ st'.2
theorem Grow.add (st : BS) (node v : Int) (j : Nat) (s : Int) : Grow st (bfAdd st node v j s) := by
  refine ⟨by simp only [bfAdd, List.length_append, List.length_singleton]; omega, fun x hx => ?_, fun x hx => ?_, fun x hx => List.mem_append.mpr (.inl hx)⟩
  · simp only [bfAdd, List.map_append, List.mem_append]; exact .inl hx
  · simp only [bfAdd, List.map_append, List.map_cons, List.map_nil, List.mem_append, List.mem_singleton] at hx ⊢
    rcases hx with hx | hx
    · exact .inl hx
    · exact .inr (.inr hx)
end Pm
set_option Elab.async false
set_option linter.all false
set_option maxRecDepth 100000
set_option maxHeartbeats 1000000
set_option autoImplicit false
namespace Pm
open PySem PySem.Spec
open L2
def IntD (D : Nat) (x : Rat) : Prop := ∃ n : Int, (n : Rat) = x * ((D : Int) : Rat)
theorem IntD.add {D : Nat} {x y : Rat} (h : IntD D x) (k : IntD D y) : IntD D (x + y) := by
  obtain ⟨a, ha⟩ := h; obtain ⟨b, hb⟩ := k
  exact ⟨a + b, by rw [Rat.intCast_add, ha, hb]; grind⟩
end Pm
set_option Elab.async false
set_option linter.all false
set_option maxRecDepth 100000
set_option maxHeartbeats 1000000
set_option autoImplicit false
namespace Pm
open PySem PySem.Spec
open PyProof.Rows hiding St
open L2
section
variable {γ : Type} {G : GP γ} {F : Fra} {Z : Hp} {s : S γ} {σ : St} {H : Hp}
theorem Rel.writeB (r : Rel G F Z s σ H) {a : Addr} (ha : G.foot s.g a) (o : HO) {g' : γ} (j : G.J g' Z (upd H a o)) (hf : ∀ b, G.foot g' b → G.foot s.g b) : Rel G F Z ⟨s.ρ, g'⟩ σ (upd H a o) := by
  refine ⟨fun b u e => ?_, fun b u e => ?_, r.zb, r.len, r.loc, fun i l h ol => ?_, r.injL, j, fun b h => r.zf b (hf b h), fun b h => r.ff b (hf b h), r.fl⟩
  · have n : b ≠ a := fun z => by rw [z, r.zf a ha] at e; cases e
    rw [upd_ne n]; exact r.z _ _ e
  · have n : b ≠ a := fun z => by rw [z, r.ff a ha] at e; cases e
    rw [upd_ne n]; exact r.f _ _ e
  · obtain ⟨b, vs, h1, h2, h3, h4, h5, h6⟩ := r.ownL i l h ol
    have n : b ≠ a := fun z => h6 (by rw [z]; exact ha)
    exact ⟨b, vs, h1, by rw [upd_ne n]; exact h2, h3, h4, h5, fun h => h6 (hf b h)⟩
end
end Pm
set_option Elab.async false
set_option linter.all false
set_option maxRecDepth 100000
set_option maxHeartbeats 3200000
set_option autoImplicit false
namespace Pm
open PySem PySem.Spec PySem.W
open PyProof.Rows hiding St
open L2
abbrev K3 := Int × Int × Int
def nk (k : K3) : NestedKey := .tup [.num k.1, .tup [.num k.2.1, .num k.2.2]]
theorem nk_inj {k q : K3} (h : nk k = nk q) : k = q := by
  obtain ⟨a, b, c⟩ := k
  obtain ⟨a', b', c'⟩ := q
  unfold nk at h
  injection h with h
  injection h with h1 h2
  injection h1 with h1
  injection h2 with h2 _
  injection h2 with h2
  injection h2 with h2 h3
  injection h2 with h2
  injection h3 with h3 _
  injection h3 with h3
  simp only at h1 h2 h3
  rw [h1, h2, h3]
theorem nk_dec (k q : K3) : NestedKey.beq (nk k) (nk q) = decide (k = q) := by
  rw [← NestedKey.decide_eq]
  by_cases c : k = q
  · rw [decide_eq_true c, decide_eq_true (by rw [c])]
  · rw [decide_eq_false c, decide_eq_false fun e => c (nk_inj e)]
@[irreducible] def hk3 (w : World) (k : K3) : Int := (nk k).hash w
def Is3 (h : Heap) (k : K3) (a : Addr) : Prop := ∃ (b : Addr) (t t1 t2 : Tok), h.IsTuple a #[.int k.1 t, .ref b] ∧ h.IsTuple b #[.int k.2.1 t1, .int k.2.2 t2]
theorem Is3.nest {h : Heap} {k : K3} {a : Addr} (x : Is3 h k a) : NestedIs h (nk k) (.ref a) := by
  obtain ⟨b, t, t1, t2, ⟨o, g, c, n, d⟩, ⟨o', g', c', n', d'⟩⟩ := x
  exact .tup g c d (.cons (.int _ t) (.cons (.tup g' c' d' (.cons (.int _ t1) (.cons (.int _ t2) .nil))) .nil))
theorem tup_stay {h h' : Heap} {a : Addr} {vs : Array Value} (x : h.IsTuple a vs) (k : ∀ b o, h.get? b = some o → o.cls = .type "tuple" → h'.get? b = some o) : h'.IsTuple a vs := by
  obtain ⟨o, g, c, r⟩ := x
  exact ⟨o, k a o g c, c, r⟩
theorem Is3.stay {h h' : Heap} {k : K3} {a : Addr} (x : Is3 h k a) (kp : ∀ b o, h.get? b = some o → o.cls = .type "tuple" → h'.get? b = some o) : Is3 h' k a := by
  obtain ⟨b, t, t1, t2, x1, x2⟩ := x
  exact ⟨b, t, t1, t2, tup_stay x1 kp, tup_stay x2 kp⟩
section
variable {P : Program} {w : World} {A : Around} {E : Value → Shared → Prop} {s : Shared}
theorem Is3.eq {k q : K3} {a b : Addr} {Q : Bool → Shared → Prop} (x : Is3 s.heap k a) (y : Is3 s.heap q b) (hu : A.units + 8 < cLine) (h : Q (decide (k = q)) s) : wpAny (model P w) A (eqBool (.ref a) (.ref b)) Q E s :=
  eqAt_key (nk k) (nk q) A s _ _ x.nest y.nest (by simp only [nk, NestedKey.depth, NestedKey.depthAll]; omega) _ _ _ _ (by rw [nk_dec]; exact h)
theorem Is3.quiet {k : K3} {a : Addr} {Q : Bool → Shared → Prop} (x : Is3 s.heap k a) (h : Q true s) : wpAny (model P w) A (eqIsQuiet 8 (.ref a)) Q E s :=
  quiet_key (nk k) _ 8 s x.nest (by simp only [nk, NestedKey.depth, NestedKey.depthAll]; omega) A E Q h
theorem noCls_at {n : Nat} {a : Addr} {vs : Array Value} {Q : Bool → Shared → Prop} (x : s.heap.IsTuple a vs) (hv : ∀ v ∈ vs.toList, ∀ (A : Around) (E : Value → Shared → Prop) (Q : Bool → Shared → Prop), Q false s → wpAny (model P w) A (ofAClassStatement n v) Q E s) (h : Q false s) :
    wpAny (model P w) A (ofAClassStatement (n + 1) (.ref a)) Q E s := by
  obtain ⟨o, ho, hc, m, hd⟩ := x
  have hT : s.TypeIs (.ref a) "tuple" := ⟨o, ho, hc⟩
  unfold ofAClassStatement
  refine wpAny_bind (wpAny_typeOf hT ?_)
  dsimp only
  have e : (("tuple" : String) == "tuple") = true := by decide
  simp only [e, if_true, Bool.not_true, Bool.false_eq_true, if_false]
  try refine wpAny_bind (wpAny_pure ?_)
  try simp only [Bool.not_true, Bool.false_eq_true, if_false]
  show wpAny _ _ (seqItems? (.ref a) >>= _) _ _ s
  refine wpAny_bind (wpAny_seqItems ho hd ?_)
  dsimp only
  refine wpAny_bind ?_
  show wpAny _ _ (forIn vs _ _) _ _ s
  rw [← Array.forIn_toList]
  refine wpAny_forIn_list _ (fun rest r s' => r.1 = none ∧ s' = s ∧ ∀ v ∈ rest, v ∈ vs.toList) _ ?_ ?_ _ _ ⟨rfl, rfl, fun _ h => h⟩
  · rintro v rest r s' ⟨hr, rfl, hall⟩
    refine wpAny_bind (hv v (hall v (by simp)) _ _ _ ?_)
    simp only [Bool.false_eq_true, if_false]
    exact wpAny_pure ⟨rfl, rfl, fun u hu' => hall u (List.mem_cons_of_mem _ hu')⟩
  · rintro ⟨r1, r2⟩ s' ⟨hr, rfl, _⟩
    simp only at hr
    subst hr
    exact wpAny_pure h
theorem Is3.noCls {k : K3} {a : Addr} {Q : Bool → Shared → Prop} (x : Is3 s.heap k a) (h : Q false s) : wpAny (model P w) A (ofAClassStatement 8 (.ref a)) Q E s := by
  obtain ⟨b, t, t1, t2, x1, x2⟩ := x
  refine noCls_at x1 (fun v hv A E Q h => ?_) h
  simp only [List.mem_cons, List.not_mem_nil, or_false] at hv
  rcases hv with rfl | rfl
  · rw [ofAClass_int]; exact wpAny_pure h
  · refine noCls_at x2 (fun v hv A E Q h => ?_) h
    simp only [List.mem_cons, List.not_mem_nil, or_false] at hv
    rcases hv with rfl | rfl <;> (rw [ofAClass_int]; exact wpAny_pure h)
theorem byVal_at {n : Nat} {a : Addr} {vs : Array Value} {Q : Bool → Shared → Prop} (x : s.heap.IsTuple a vs) (hv : ∀ v ∈ vs.toList, ∀ (A : Around) (E : Value → Shared → Prop) (Q : Bool → Shared → Prop), Q true s → wpAny (model P w) A (hashByValue n v) Q E s) (h : Q true s) :
    wpAny (model P w) A (hashByValue (n + 1) (.ref a)) Q E s := by
  obtain ⟨o, ho, hc, m, hd⟩ := x
  have hT : s.TypeIs (.ref a) "tuple" := ⟨o, ho, hc⟩
  unfold hashByValue
  refine wpAny_bind (wpAny_specialOf hT F.slot_tuple_hash.lookup ?_)
  show wpAny _ _ (seqItems? (.ref a) >>= _) _ _ s
  refine wpAny_bind (wpAny_seqItems ho hd ?_)
  refine wpAny_bind ?_
  show wpAny _ _ (forIn vs _ _) _ _ s
  rw [← Array.forIn_toList]
  refine wpAny_forIn_list _ (fun rest r s' => r.1 = none ∧ s' = s ∧ ∀ v ∈ rest, v ∈ vs.toList) _ ?_ ?_ _ _ ⟨rfl, rfl, fun _ h => h⟩
  · rintro v rest r s' ⟨hr, rfl, hall⟩
    refine wpAny_bind (hv v (hall v (by simp)) _ _ _ ?_)
    simp only [Bool.not_true, Bool.false_eq_true, if_false]
    exact wpAny_pure ⟨rfl, rfl, fun u hu' => hall u (List.mem_cons_of_mem _ hu')⟩
  · rintro ⟨r1, r2⟩ s' ⟨hr, rfl, _⟩
    simp only at hr
    subst hr
    exact wpAny_pure h
theorem Is3.byVal {k : K3} {a : Addr} {Q : Bool → Shared → Prop} (x : Is3 s.heap k a) (h : Q true s) : wpAny (model P w) A (hashByValue 8 (.ref a)) Q E s := by
  obtain ⟨b, t, t1, t2, x1, x2⟩ := x
  refine byVal_at x1 (fun v hv A E Q h => ?_) h
  simp only [List.mem_cons, List.not_mem_nil, or_false] at hv
  rcases hv with rfl | rfl
  · rw [hashBy_int]; exact wpAny_pure h
  · refine byVal_at x2 (fun v hv A E Q h => ?_) h
    simp only [List.mem_cons, List.not_mem_nil, or_false] at hv
    rcases hv with rfl | rfl <;> (rw [hashBy_int]; exact wpAny_pure h)
theorem Is3.unseen {k : K3} {a : Addr} {Q : Bool → Shared → Prop} (x : Is3 s.heap k a) {ys : List Value} (hy : ∀ y ∈ ys, ∃ q c, y = Value.ref c ∧ Is3 s.heap q c) (h : Q false s) :
    wpAny (model P w) A (searchCouldBeSeen (.ref a) ys) Q E s := by
  unfold searchCouldBeSeen
  refine wpAny_bind ?_
  refine wpAny_forIn_list _ (fun rest r s' => r.1 = none ∧ s' = s ∧ ∀ y ∈ rest, ∃ q c, y = Value.ref c ∧ Is3 s.heap q c) _ ?_ ?_ _ _ ⟨rfl, rfl, hy⟩
  · rintro v rest r s' ⟨hr, rfl, hall⟩
    obtain ⟨q, c, rfl, hc⟩ := hall v List.mem_cons_self
    have go := fun u hu' => hall u (List.mem_cons_of_mem _ hu')
    dsimp only
    by_cases hv : (a == c || (carriedByValue (.ref a) && carriedByValue (.ref c))) = true
    · refine wp_if_pos hv (wpAny_pure ⟨rfl, rfl, go⟩)
    · refine wp_if_neg hv ?_
      refine wpAny_bind (x.quiet ?_)
      simp only [Bool.not_true, Bool.false_eq_true, if_false]
      refine wpAny_bind (hc.quiet ?_)
      simp only [Bool.not_true, Bool.false_eq_true, if_false]
      refine wpAny_bind (x.noCls ?_)
      simp only [Bool.false_eq_true, if_false]
      refine wpAny_bind (hc.noCls ?_)
      simp only [Bool.false_eq_true, if_false]
      exact wpAny_pure ⟨rfl, rfl, go⟩
  · rintro ⟨r1, r2⟩ s' ⟨hr, rfl, _⟩
    simp only at hr
    subst hr
    exact wpAny_pure h
end

def row3 (w : World) (p : Addr × K3) : Int × Value := (hk3 w p.2, .ref p.1)
structure Set3 (w : World) (h : Heap) (a : Addr) (L : List (Addr × K3)) (es : Array (Int × Value)) (ep : Nat) (t : SetTable) : Prop where
  ob : ∃ o, h.get? a = some o ∧ o.ExactSet ∧ o.data = .set es ep t
  rows : es.toList = L.map (row3 w)
  tab : TabOk t (L.map fun p => hk3 w p.2)
  nd : (L.map (·.2)).Nodup
  tup : ∀ p ∈ L, Is3 h p.2 p.1
  plain : t.plain = true
  led : w.params.followText "set-order" = true ∨ t.led = true
  room : L.length * 5 < t.mask * 3
  few : L.length < 64
theorem fits_of {t : SetTable} {hs : List Int} {n : Nat} (T : TabOk t hs) (hn : hs.length = n) (hm : n ≤ t.mask) : t.fits n = true := by
  have := T.sz
  unfold SetTable.fits SetTable.fill
  rw [T.dm, Bool.and_eq_true, beq_iff_eq, decide_eq_true_eq]
  show t.place.size = n ∧ t.place.size + 0 ≤ t.mask
  omega
section
variable {P : Program} {w : World} {A : Around} {E : Value → Shared → Prop} {s : Shared} {a : Addr} {L : List (Addr × K3)} {es : Array (Int × Value)} {ep : Nat} {t : SetTable}
theorem Set3.size (R : Set3 w s.heap a L es ep t) : es.size = L.length := by
  have h := congrArg List.length R.rows
  rwa [Array.length_toList, List.length_map] at h
theorem Set3.fits (R : Set3 w s.heap a L es ep t) : t.fits es.size = true := by
  have := R.room
  exact fits_of R.tab (by rw [List.length_map, R.size]) (by rw [R.size]; omega)
theorem Set3.entry (R : Set3 w s.heap a L es ep t) {i : Nat} {p : Addr × K3} (h : L[i]? = some p) : es[i]? = some (hk3 w p.2, Value.ref p.1) := by
  rw [← Array.getElem?_toList, R.rows, List.getElem?_map, h, Option.map_some, row3]
abbrev pth (m : Nat) (h : Int) : SetTable.Probe := runAt m (SetTable.bits h % (m + 1)) (SetTable.bits h)
theorem nth_dm (m : Nat) : ∀ (n : Nat) (p : SetTable.Probe), p.dummy = none → (nth m p n).dummy = none
  | 0, _, h => h
  | n + 1, p, h => nth_dm m n (adv m p) (by unfold adv; split <;> exact h)
theorem Set3.search (R : Set3 w s.heap a L es ep t) {x : Addr} {k : K3} (hx : Is3 s.heap k x) (hu : A.units + 8 < cLine) {K : Nat} (hKf : K < 10 * SetTable.turns t.mask)
    (hK : way t.mask (hk3 w k) K ∉ t.place.toList) (hb : ∀ c, c < K → way t.mask (hk3 w k) c ∈ t.place.toList) {Q : SetFound → Shared → Prop}
    (yes : k ∈ L.map (·.2) → Q (.there none) s) (no : k ∉ L.map (·.2) → Q (.free (way t.mask (hk3 w k) K) false) s) :
    ∀ (f c : Nat) (from_ : Option SetTable.Probe), from_.getD (t.probeStart (hk3 w k)) = nth t.mask (pth t.mask (hk3 w k)) c → c ≤ K → K - c < f →
      (∀ (i : Nat) p, L[i]? = some p → p.2 = k → ∃ c', c ≤ c' ∧ c' < K ∧ t.place.toList[i]? = some (way t.mask (hk3 w k) c')) →
      wpAny (model P w) A (setSearchFrom a (.ref x) (hk3 w k) true f from_) Q E s := by
  intro f
  induction f with
  | zero => intro c _ _ _ hf; exact absurd hf (Nat.not_lt_zero _)
  | succ f ih =>
    intro c from_ hst hc hf hre
    obtain ⟨o, ho, hex, hd⟩ := R.ob
    rw [setSearchFrom_succ]
    refine wpAny_bind (wpAny_setState_of ho hd R.fits ?_)
    dsimp only
    refine wp_if_neg (by unfold SetTable.gaveWay; rw [mask_odd R.tab.mok]; decide) ?_
    try refine wpAny_bind (wpAny_pure ?_)
    have sh : ∀ q, nth t.mask (nth t.mask (pth t.mask (hk3 w k)) c) q = nth t.mask (pth t.mask (hk3 w k)) (c + q) := fun q => (nth_add t.mask c _ q).symm
    have e1 : ∀ q, (nth t.mask (nth t.mask (pth t.mask (hk3 w k)) c) q).j = way t.mask (hk3 w k) (c + q) := fun q => congrArg SetTable.Probe.j (sh q)
    have hashAt : ∀ (i : Nat) p, L[i]? = some p → (es[i]?.map (·.1)).getD 0 = hk3 w p.2 := fun i p hp => by rw [R.entry hp, Option.map_some, Option.getD_some]
    have spec := go_spec t R.tab.ris R.tab.dm (fun i => (es[i]?.map (·.1)).getD 0) (hk3 w k) (10 * SetTable.turns t.mask) (K - c) _ (nth_dm t.mask c (pth t.mask (hk3 w k)) rfl) (by omega)
      (fun q hq => by rw [e1]; exact hb (c + q) (by omega)) (by rw [e1, show c + (K - c) = K by omega]; exact hK)
    rcases spec with ⟨q, i, hq, hi, hh, hno, hpr⟩ | ⟨hno, hpr⟩
    · have hpr' : t.probe (fun i => (es[i]?.map (·.1)).getD 0) (hk3 w k) (from_.getD (t.probeStart (hk3 w k))) = some (.candidate (way t.mask (hk3 w k) (c + q)) i (nth t.mask (pth t.mask (hk3 w k)) (c + (q + 1)))) := by
        rw [hst, ← e1, ← sh]; exact hpr
      rw [hpr']
      dsimp only
      rw [e1] at hi
      have hil : i < L.length := by
        have h1 : i < t.place.toList.length := (List.getElem?_eq_some_iff.mp hi).1
        have h2 := R.tab.sz
        rw [List.length_map] at h2
        rw [Array.length_toList] at h1
        omega
      have hp : L[i]? = some L[i] := List.getElem?_eq_getElem hil
      generalize L[i] = p at hp
      have hmem : p ∈ L := List.mem_of_getElem? hp
      have hsl : t.slot (way t.mask (hk3 w k) (c + q)) = .live i := slot_live R.tab.ris hi
      have rest : wpAny (model P w) A (searchRest a (.ref x) (hk3 w k) true f es t (way t.mask (hk3 w k) (c + q)) i (nth t.mask (pth t.mask (hk3 w k)) (c + (q + 1)))) Q E s := by
        unfold searchRest
        rw [R.entry hp]
        dsimp only
        refine wpAny_bind (wpAny_holding ((R.tup p hmem).eq hx hu ?_))
        refine wpAny_bind (wpAny_setState_of ho hd R.fits ?_)
        dsimp only
        by_cases hkk : p.2 = k
        · refine wp_if_pos (by simp [hkk]) ?_
          exact wpAny_pure (yes (List.mem_map.mpr ⟨p, hmem, hkk⟩))
        · refine wp_if_neg (by simp [hkk]) ?_
          try refine wpAny_bind (wpAny_pure ?_)
          rw [sameMem]
          dsimp only
          simp only [if_true, hsl, R.entry hp]
          refine wpAny_bind (wpAny_isSame_ref_self (wpAny_bind (wpAny_pure ?_)))
          simp only [if_true]
          refine wp_if_neg (by simp [hkk]) ?_
          refine ih (c + (q + 1)) _ rfl (by omega) (by omega) fun i0 p0 h0 hk0 => ?_
          obtain ⟨c', a1, a2, a3⟩ := hre i0 p0 h0 hk0
          refine ⟨c', ?_, a2, a3⟩
          rcases Nat.lt_trichotomy c' (c + q) with z | z | z
          · refine absurd ((hashAt i0 p0 h0).trans (congrArg (hk3 w) hk0)) (hno (c' - c) i0 (by omega) ?_)
            rw [e1, show c + (c' - c) = c' by omega]; exact a3
          · rw [z] at a3
            have s0 := slot_live R.tab.ris a3
            rw [hsl] at s0
            injection s0 with s0
            rw [← s0, hp] at h0
            exact absurd ((congrArg Prod.snd (Option.some.inj h0)).trans hk0) hkk
          · omega
      by_cases hl : t.led = true
      · refine wp_if_neg (by simp [hl]) ?_
        try refine wpAny_bind (wpAny_pure ?_)
        exact rest
      · refine wp_if_pos (by simp [hl]) ?_
        refine wpAny_bind (hx.unseen (fun y hy => ?_) ?_)
        · obtain ⟨e, he, ee⟩ := List.mem_map.mp hy
          have he1 : e ∈ es ∧ e.1 = hk3 w k := by simpa using he
          have he2 : e ∈ es.toList := by simpa using he1.1
          rw [R.rows] at he2
          obtain ⟨p2, hp2, e2⟩ := List.mem_map.mp he2
          exact ⟨p2.2, p2.1, by rw [← ee, ← e2]; rfl, R.tup p2 hp2⟩
        · refine wp_if_neg (by decide) ?_
          try refine wpAny_bind (wpAny_pure ?_)
          exact rest
    · have hpr' : t.probe (fun i => (es[i]?.map (·.1)).getD 0) (hk3 w k) (from_.getD (t.probeStart (hk3 w k))) = some (.empty (way t.mask (hk3 w k) K) none) := by
        have e2 : way t.mask (hk3 w k) K = (nth t.mask (nth t.mask (pth t.mask (hk3 w k)) c) (K - c)).j := by
          rw [e1, show c + (K - c) = K by omega]
        rw [hst, e2]; exact hpr
      rw [hpr']
      dsimp only
      refine wpAny_pure (no fun hm => ?_)
      obtain ⟨p0, h0, hk0⟩ := List.mem_map.mp hm
      obtain ⟨i0, hi0⟩ := List.mem_iff_getElem?.mp h0
      obtain ⟨c', a1, a2, a3⟩ := hre i0 p0 hi0 hk0
      refine absurd ((hashAt i0 p0 hi0).trans (congrArg (hk3 w) hk0)) (hno (c' - c) i0 (by omega) ?_)
      rw [e1, show c + (c' - c) = c' by omega]; exact a3
theorem Set3.find (R : Set3 w s.heap a L es ep t) {x : Addr} {k : K3} (hx : Is3 s.heap k x) (hu : A.units + 8 < cLine) {Q : SetFound → Shared → Prop}
    (yes : k ∈ L.map (·.2) → Q (.there none) s)
    (no : ∀ K, k ∉ L.map (·.2) → way t.mask (hk3 w k) K ∉ t.place.toList → (∀ c, c < K → way t.mask (hk3 w k) c ∈ t.place.toList) → Q (.free (way t.mask (hk3 w k) K) false) s) :
    wpAny (model P w) A (setSearch a (.ref x) (hk3 w k) true) Q E s := by
  have hroom := R.room
  obtain ⟨K, hKf, hK, hb⟩ := R.tab.first (by rw [List.length_map]; omega) (hk3 w k)
  have big : 10 * SetTable.turns t.mask ≤ 1420 := by
    unfold SetTable.turns
    rcases R.tab.mok with e | e | e <;> omega
  unfold setSearch
  refine R.search hx hu hKf hK hb yes (fun hn => no K hn hK hb) 100000 0 none rfl (Nat.zero_le _) (by omega) fun i p hp hk => ?_
  have hi : (L.map fun p => hk3 w p.2)[i]? = some (hk3 w k) := by rw [List.getElem?_map, hp, ← hk, Option.map_some]
  have hil : i < t.place.toList.length := by
    have h1 : i < L.length := (List.getElem?_eq_some_iff.mp hp).1
    have h2 := R.tab.sz
    rw [List.length_map] at h2
    rw [Array.length_toList]; omega
  have hj := List.getElem?_eq_getElem hil
  obtain ⟨c, hc, e⟩ := R.tab.before hK hi hj
  exact ⟨c, Nat.zero_le _, hc, by rw [hj, e]⟩
theorem Is3.but {h h' : Heap} {k : K3} {b : Addr} {o : Obj} (x : Is3 h k b) (ho : h.get? a = some o) (hc : o.ExactSet) (hs : Heap.SameBut a h h') : Is3 h' k b :=
  x.stay fun c o' g hc' => by
    refine (hs.2 c fun e => ?_).trans g
    subst e
    obtain rfl : o' = o := Option.some.inj (g.symm.trans ho)
    have e2 := hc.1
    rw [hc'] at e2
    injection e2 with e2
    exact absurd e2 (by decide)
theorem relay3 {o : Obj} (ho : s.heap.get? a = some o) (hex : o.ExactSet) (hd : o.data = .set es ep t) (hrows : es.toList = L.map (row3 w)) (T0 : TabOk t (L.map fun p => hk3 w p.2)) (hfl : L.length ≤ t.mask)
    (nd : (L.map (·.2)).Nodup) (tup : ∀ p ∈ L, Is3 s.heap p.2 p.1) (pl : t.plain = true) (ld : w.params.followText "set-order" = true ∨ t.led = true) (few : L.length < 64) {wanted M : Nat}
    (hw : SetTable.sizeAbove wanted - 1 = M) (hM : MaskOk M) (hw2 : SetTable.sizeAbove wanted ≤ 128) (hn : L.length * 5 < M * 3) {Q : Unit → Shared → Prop}
    (hQ : ∀ h' L' es' ep' t', Heap.SameBut a s.heap h' → Set3 w h' a L' es' ep' t' → L'.Perm L → Q () { s with heap := h' }) : wpAny (model P w) A (setRelay a wanted) Q E s := by
  have hsl : es.size = L.length := by
    have h := congrArg List.length hrows
    rwa [Array.length_toList, List.length_map] at h
  obtain ⟨t', order, e, hp, T, em, el, ep', ed⟩ := relaid_ok t (hs := es.map (·.1)) (wanted := wanted) hw hM (by rw [Array.size_map, hsl]; omega)
  rw [Array.size_map, hsl] at hp
  -- the rows in their new order
  obtain ⟨L2, e2⟩ : ∃ L2 : List (Addr × K3), L2 = order.toList.filterMap fun i => L[i]? := ⟨_, rfl⟩
  have ent : ∀ i, es[i]? = (L[i]?).map (row3 w) := fun i => by rw [← Array.getElem?_toList, hrows, List.getElem?_map]
  have r1 : (order.filterMap (es[·]?)).toList = L2.map (row3 w) := by
    have : order.toList.filterMap (fun i => es[i]?) = L2.map (row3 w) := by
      rw [e2, List.map_filterMap]
      exact congrArg (fun f => order.toList.filterMap f) (funext ent)
    first | (rw [Array.toList_filterMap]; exact this) | simpa using this
  have r2 : L2.Perm L := by
    have h1 : L2.Perm ((List.range L.length).filterMap fun i => L[i]?) := by rw [e2]; exact hp.filterMap _
    have key : ∀ n, n ≤ L.length → (List.range n).filterMap (fun i => L[i]?) = L.take n := by
      intro n
      induction n with
      | zero => intro _; rfl
      | succ n ih =>
        intro hn
        rw [List.range_succ, List.filterMap_append, ih (by omega), List.take_succ, List.getElem?_eq_getElem hn, List.filterMap_cons_some (List.getElem?_eq_getElem hn)]; rfl
    rwa [key L.length (Nat.le_refl _), List.take_length] at h1
  have r3 : (L2.map fun p => hk3 w p.2) = order.toList.map fun i => (es.map (·.1)).getD i 0 := by
    rw [e2]
    have key : ∀ l : List Nat, (∀ i ∈ l, i < L.length) → (l.filterMap fun i => L[i]?).map (fun p => hk3 w p.2) = l.map fun i => (es.map (·.1)).getD i 0 := by
      intro l
      induction l with
      | nil => intro _; rfl
      | cons i l ih =>
        intro hl
        have hi := hl i (by simp)
        rw [List.filterMap_cons_some (List.getElem?_eq_getElem hi), List.map_cons, List.map_cons, ih fun j hj => hl j (by simp [hj])]
        congr 1
        rw [Array.getD_eq_getD_getElem?, Array.getElem?_map, ent, List.getElem?_eq_getElem hi, Option.map_some, Option.map_some, Option.getD_some, row3]
    exact key _ fun i hi => List.mem_range.mp (hp.mem_iff.mp hi)
  rw [← r3] at T
  have hs2 : (order.filterMap (es[·]?)).size = es.size := by
    have h := congrArg List.length r1
    rw [Array.length_toList, List.length_map, r2.length_eq] at h
    rw [h, hsl]
  rw [setRelay_eq]
  refine wpAny_bind (wpAny_setState_of ho hd (fits_of T0 (by rw [List.length_map, hsl]) (by rw [hsl]; exact hfl)) ?_)
  dsimp only
  refine wp_if_neg (by rw [sizeLine_eq]; omega) ?_
  try refine wpAny_bind (wpAny_pure ?_)
  rw [e]
  dsimp only
  refine wpAny_bind ?_
  refine wp_if_neg (by rw [hs2]; simp) ?_
  try refine wpAny_bind (wpAny_pure ?_)
  refine wpAny_pure ?_
  dsimp only
  refine wpAny_storeSet_of ho hd ?_ (by rw [hs2, hsl, sizeLine_eq]; omega)
  have sb : Heap.SameBut a s.heap (s.heap.update a (Obj.putSet (order.filterMap (es[·]?)) t')) := Heap.SameBut.update ..
  refine hQ _ L2 (order.filterMap (es[·]?)) (ep + 1) t' sb ⟨⟨_, store_at ho hd, ⟨hex.1, hex.2.1, hex.2.2⟩, rfl⟩, r1, T, (r2.map (·.2)).nodup_iff.mpr nd, fun p hpm => (tup p (r2.mem_iff.mp hpm)).but ho hex sb, by rw [ep']; exact pl, by rw [el]; exact ld, by rw [r2.length_eq, em]; exact hn, by rw [r2.length_eq]; exact few⟩ r2
theorem Set3.add (R : Set3 w s.heap a L es ep t) {x : Addr} {k : K3} (hx : Is3 s.heap k x) (hu : A.units + 8 < cLine) (hfew : L.length + 1 < 64) {Q : Bool → Shared → Prop}
    (hQ : ∀ b h' L' es' ep' t', Heap.SameBut a s.heap h' → Set3 w h' a L' es' ep' t' → (k ∈ L.map (·.2) → L' = L) → (k ∉ L.map (·.2) → L'.Perm ((x, k) :: L)) → Q b { s with heap := h' }) :
    wpAny (model P w) A (setAddHashed a (.ref x) (hk3 w k)) Q E s := by
  obtain ⟨o, ho, hex, hd⟩ := R.ob
  have hsl := R.size
  have hroom := R.room
  unfold setAddHashed
  refine wpAny_holding ?_
  rw [show (100000 : Nat) = 99999 + 1 from rfl, setAddHashedIn_succ]
  refine wpAny_bind (wpAny_setState_of ho hd R.fits ?_)
  dsimp only
  refine wp_if_neg (by simp [byScan, Value.scannable]) ?_
  try refine wpAny_bind (wpAny_pure ?_)
  refine wpAny_bind (R.find hx hu (fun hm => ?_) fun K hm hK hb => ?_)
  · dsimp only
    exact wpAny_pure (hQ false s.heap L es ep t (Heap.SameBut.refl a s.heap) R (fun _ => rfl) fun z => absurd hm z)
  · dsimp only
    refine wpAny_bind (wpAny_setState_of ho hd R.fits ?_)
    dsimp only
    obtain ⟨q1, q2, q3, q4, q5, q6, q7, q8, q9⟩ := R.tab.put hK hb
    have hp1 : (t.put (way t.mask (hk3 w k) K)).1.plain = true := by rw [q6]; exact R.plain
    generalize t.put (way t.mask (hk3 w k) K) = pt at q1 q3 q4 q5 q6 q7 q8 q9 hp1 ⊢
    obtain ⟨t1, p⟩ := pt
    dsimp only at q1 q3 q4 q5 q6 q7 q8 q9 hp1 ⊢
    subst q1
    first
      | (refine wpAny_bind ?_; refine wp_if_pos hp1 ?_; refine hx.byVal ?_)
      | refine wp_if_pos hp1 (wpAny_bind (hx.byVal ?_))
    simp only [if_true]
    generalize SetTable.below t.place (way t.mask (hk3 w k) K) = p at q2 q3 ⊢
    have hin : (SetTable.insertAt es p (hk3 w k, Value.ref x)).toList = (L.take p ++ (x, k) :: L.drop p).map (row3 w) := by
      rw [SetTable.toList_insertAt, R.rows, List.map_append, List.map_cons, List.map_take, List.map_drop, row3]
    have pm : (L.take p ++ (x, k) :: L.drop p).Perm ((x, k) :: L) := put_perm L p (x, k)
    have hhs : (L.take p ++ (x, k) :: L.drop p).map (fun p => hk3 w p.2) = (L.map fun p => hk3 w p.2).take p ++ hk3 w k :: (L.map fun p => hk3 w p.2).drop p := by
      rw [List.map_append, List.map_cons, List.map_take, List.map_drop]
    rw [← hhs] at q3
    generalize L.take p ++ (x, k) :: L.drop p = L1 at pm q3 hin
    have hlen : L1.length = L.length + 1 := pm.length_eq
    have nd1 : (L1.map (·.2)).Nodup := by
      refine (pm.map (·.2)).nodup_iff.mpr ?_
      rw [List.map_cons]
      exact List.nodup_cons.mpr ⟨hm, R.nd⟩
    have hes : (SetTable.insertAt es p (hk3 w k, Value.ref x)).size = L.length + 1 := by
      have h := congrArg List.length hin
      rwa [Array.length_toList, List.length_map, hlen] at h
    generalize SetTable.insertAt es p (hk3 w k, Value.ref x) = es1 at hin hes ⊢
    refine wpAny_bind (wpAny_storeSet_of ho hd ?_ (by rw [hes, sizeLine_eq]; omega))
    have sb : Heap.SameBut a s.heap (s.heap.update a (Obj.putSet es1 t1)) := Heap.SameBut.update ..
    have ho1 := store_at (es' := es1) (t' := t1) ho hd
    generalize s.heap.update a (Obj.putSet es1 t1) = h1 at sb ho1 ⊢
    have tup1 : ∀ p ∈ L1, Is3 h1 p.2 p.1 := fun p hp => by
      rcases List.mem_cons.mp (pm.mem_iff.mp hp) with e | hp
      · rw [e]; exact hx.but ho hex sb
      · exact (R.tup p hp).but ho hex sb
    have ld1 : w.params.followText "set-order" = true ∨ t1.led = true := by rw [q5]; exact R.led
    by_cases hf : t1.tooFull = true
    · first
        | (refine wpAny_bind ?_; refine wp_if_pos (by simp [hf]) ?_)
        | (refine wp_if_pos (by simp [hf]) ?_; refine wpAny_bind ?_)
      have hfull : (L.length + 1) * 5 ≥ t1.mask * 3 := by
        have h := hf
        unfold SetTable.tooFull at h
        rw [decide_eq_true_eq, q9, List.length_map] at h
        exact h
      rw [hsl]
      have go : ∀ M, SetTable.sizeAbove (SetTable.grown (L.length + 1)) - 1 = M → MaskOk M → SetTable.sizeAbove (SetTable.grown (L.length + 1)) ≤ 128 → (L.length + 1) * 5 < M * 3 → L.length + 1 ≤ t1.mask →
          wpAny (model P w) A (setRelay a (SetTable.grown (L.length + 1))) (fun _ s' => wpAny (model P w) A (pure true) Q E s') E { s with heap := h1 } := fun M h1' h2' h3' h4' h5' => by
        refine relay3 (s := { s with heap := h1 }) ho1 ⟨hex.1, hex.2.1, hex.2.2⟩ rfl hin q3 (by rw [hlen]; exact h5') nd1 tup1 hp1 ld1 (by rw [hlen]; exact hfew) h1' h2' h3' (by rw [hlen]; exact h4') ?_
        intro h2 L2 es2 ep2 t2 sb2 R2 pm2
        exact wpAny_pure (hQ true h2 L2 es2 ep2 t2 (sb.trans sb2) R2 (fun z => absurd z hm) fun _ => pm2.trans pm)
      rcases R.tab.mok with e | e | e
      · have e2 : L.length = 4 := by rw [q4, e] at hfull; rw [e] at hroom; omega
        refine go 31 (by rw [e2, size_20]) (.inr (.inl rfl)) (by rw [e2, size_20]; decide) (by omega) (by rw [q4, e]; omega)
      · have e2 : L.length = 18 := by rw [q4, e] at hfull; rw [e] at hroom; omega
        refine go 127 (by rw [e2, size_76]) (.inr (.inr rfl)) (by rw [e2, size_76]; decide) (by omega) (by rw [q4, e]; omega)
      · exfalso; rw [q4, e] at hfull; omega
    · first
        | refine wp_if_neg (by simp [hf]) ?_
        | (refine wpAny_bind ?_; refine wp_if_neg (by simp [hf]) ?_; refine wpAny_pure ?_)
      refine wpAny_pure (hQ true h1 L1 es1 (ep + 1) t1 sb ⟨⟨_, ho1, ⟨hex.1, hex.2.1, hex.2.2⟩, rfl⟩, hin, q3, nd1, tup1, hp1, ld1, ?_, by rw [hlen]; exact hfew⟩ (fun z => absurd z hm) fun _ => pm)
      have h := hf
      unfold SetTable.tooFull at h
      rw [decide_eq_true_eq, q9, List.length_map] at h
      rw [hlen]; omega
end
end Pm
set_option Elab.async false
set_option linter.all false
set_option maxRecDepth 100000
set_option maxHeartbeats 1000000
set_option autoImplicit false
namespace Pm
open PySem PySem.Spec
open L2
def shPn (p : Pan) (a : Int) : Pan := ⟨p.its.map fun q => (q.1 + a, q.2), p.rus⟩
def scPn (p : Pan) (k : Int) : Pan := ⟨p.its.map fun q => (q.1 * k, q.2), p.rus⟩
def wgPn (p : Pan) (h : Int) : Pan := ⟨p.its.map fun q => (q.1, q.2 * h), p.rus⟩
end Pm
set_option Elab.async false
set_option linter.all false
set_option maxRecDepth 100000
set_option maxHeartbeats 1000000
set_option autoImplicit false
namespace Pm
open PySem PySem.Spec
open L2
structure Stp where
  u : Int
  v : Int
  i : Nat
  up : Bool
abbrev Rb := List (Int × Option Stp)
structure BQ (S : List Stp) (n : Nat) (a : Int) (kds : Rb) (w : List Int) (d : Int → Nat) (L : Nat) : Prop where
  nd : (kds.map (·.1)).Nodup
  rg : ∀ k : Int, k ∈ kds.map (·.1) → 0 ≤ k ∧ k < (n : Int)
  a0 : (a, none) ∈ kds
  par : ∀ q ∈ kds, q = (a, none) ∨ ∃ s, q = (s.v, some s) ∧ s ∈ S ∧ s.u ∈ kds.map (·.1) ∧ d s.v = d s.u + 1
  wk : ∀ x ∈ w, x ∈ kds.map (·.1)
  wn : w.Nodup
  d0 : d a = 0
  so : w.Pairwise fun x y => d x ≤ d y
  lo : ∀ x ∈ w, L ≤ d x
  hi : ∀ x ∈ kds.map (·.1), d x ≤ L + 1
def ClX (S T : List Stp) (kds : Rb) (w : List Int) (d : Int → Nat) (here : Int) : Prop := ∀ u ∈ kds.map (·.1), u ∉ w → ∀ s ∈ S, s.u = u → (u = here → s ∈ T) → s.v ∈ kds.map (·.1) ∧ d s.v ≤ d u + 1
section
variable {S T : List Stp} {n L : Nat} {a here : Int} {kds : Rb} {w : List Int} {d : Int → Nat}
theorem BQ.add {s : Stp} (q : BQ S n a kds w d (d here)) (c : ClX S T kds w d here) (hh : here ∈ kds.map (·.1)) (hw : here ∉ w) (hs : s ∈ S) (hu : s.u = here) (hv : s.v ∉ kds.map (·.1)) (hr : 0 ≤ s.v ∧ s.v < n) :
    ∃ d' : Int → Nat, d' here = d here ∧ BQ S n a (kds ++ [(s.v, some s)]) (w ++ [s.v]) d' (d' here) ∧ ClX S (T ++ [s]) (kds ++ [(s.v, some s)]) (w ++ [s.v]) d' here := by
  have hne : here ≠ s.v := fun z => hv (by rw [← z]; exact hh)
  let d' : Int → Nat := fun x => if x = s.v then d here + 1 else d x
  have dk : ∀ x ∈ kds.map (·.1), d' x = d x := fun x hx => if_neg fun z : x = s.v => hv (by rw [← z]; exact hx)
  have dv : d' s.v = d here + 1 := if_pos rfl
  have dh : d' here = d here := dk here hh
  have mk : ∀ x, x ∈ (kds ++ [(s.v, some s)]).map (·.1) ↔ x ∈ kds.map (·.1) ∨ x = s.v := fun x => by rw [List.map_append, List.mem_append]; simp
  have wv : s.v ∉ w := fun z => hv (q.wk _ z)
  refine ⟨d', dh, ⟨?_, ?_, ?_, ?_, ?_, ?_, ?_, ?_, ?_, ?_⟩, ?_⟩
  · rw [List.map_append]
    exact List.nodup_append.mpr ⟨q.nd, by simp, fun x hx y hy z => hv (by rw [show s.v = y from (show y = s.v by simpa using hy).symm, ← z]; exact hx)⟩
  · intro k hk
    rcases (mk k).mp hk with h | h
    · exact q.rg k h
    · rw [h]; exact hr
  · exact List.mem_append.mpr (.inl q.a0)
  · intro x hx
    rcases List.mem_append.mp hx with hx | hx
    · rcases q.par x hx with h | ⟨y, h1, h2, h3, h4⟩
      · exact .inl h
      · refine .inr ⟨y, h1, h2, (mk _).mpr (.inl h3), ?_⟩
        have : y.v ∈ kds.map (·.1) := List.mem_map.mpr ⟨x, hx, by rw [h1]⟩
        rw [dk _ this, dk _ h3]; exact h4
    · refine .inr ⟨s, List.mem_singleton.mp hx, hs, (mk _).mpr (.inl (by rw [hu]; exact hh)), ?_⟩
      rw [dv, hu, dh]
  · intro x hx
    rcases List.mem_append.mp hx with hx | hx
    · exact (mk _).mpr (.inl (q.wk x hx))
    · exact (mk _).mpr (.inr (List.mem_singleton.mp hx))
  · exact List.nodup_append.mpr ⟨q.wn, by simp, fun x hx y hy z => wv (by rw [show s.v = y from (show y = s.v by simpa using hy).symm, ← z]; exact hx)⟩
  · have : a ∈ kds.map (·.1) := List.mem_map.mpr ⟨_, q.a0, rfl⟩
    rw [dk _ this]; exact q.d0
  · refine List.pairwise_append.mpr ⟨q.so.imp_of_mem fun {x y} hx hy h => ?_, by simp, fun x hx y hy => ?_⟩
    · rw [dk _ (q.wk x hx), dk _ (q.wk y hy)]; exact h
    · rw [show y = s.v from by simpa using hy, dv, dk _ (q.wk x hx)]
      exact q.hi x (q.wk x hx)
  · intro x hx
    rw [dh]
    rcases List.mem_append.mp hx with hx | hx
    · rw [dk _ (q.wk x hx)]; exact q.lo x hx
    · rw [show x = s.v from by simpa using hx, dv]; omega
  · intro x hx
    rw [dh]
    rcases (mk x).mp hx with h | h
    · rw [dk x h]; exact q.hi x h
    · rw [h, dv]; exact Nat.le_refl _
  · intro u h1 h2 x hx e h3
    have hu1 : u ∈ kds.map (·.1) := by
      rcases (mk u).mp h1 with h | h
      · exact h
      · exact absurd (List.mem_append.mpr (.inr (by simp [h]))) h2
    have hu2 : u ∉ w := fun z => h2 (List.mem_append.mpr (.inl z))
    have old : (u = here → x ∈ T) → x.v ∈ (kds ++ [(s.v, some s)]).map (·.1) ∧ d' x.v ≤ d' u + 1 := fun k => by
      obtain ⟨k1, k2⟩ := c u hu1 hu2 x hx e k
      exact ⟨(mk _).mpr (.inl k1), by rw [dk _ k1, dk _ hu1]; exact k2⟩
    by_cases hq : u = here
    · rcases List.mem_append.mp (h3 hq) with h4 | h4
      · exact old fun _ => h4
      · rw [List.mem_singleton.mp h4]
        refine ⟨(mk _).mpr (.inr rfl), ?_⟩
        rw [dv, hq, dh]; exact Nat.le_refl _
    · exact old fun z => absurd z hq
end
end Pm
set_option Elab.async false
set_option linter.all false
set_option maxRecDepth 100000
set_option maxHeartbeats 1000000
set_option autoImplicit false
namespace Pm
open PySem PySem.Spec
open L2
def CutG (p : Pan) (rs : List Rat) (k : Nat) (U : Nat → Bool) : Prop := U (p.rus.getD k (0, 0)).1.toNat = true ∧ U (p.rus.getD k (0, 0)).2.toNat = false ∧ ∀ j q, p.rus[j]? = some q → j ≠ k → rs.getD q.1.toNat 0 = rs.getD q.2.toNat 0 → U q.2.toNat = true → U q.1.toNat = true
end Pm
set_option Elab.async false
set_option linter.all false
set_option maxRecDepth 100000
set_option maxHeartbeats 2000000
set_option autoImplicit false
namespace Pm
open PySem PySem.Spec
open PyProof.Rows hiding St
open L2
variable {γ : Type}
section
variable {X : Cx} {pins : List (Addr × Obj)} {σ : L2.St} {H : Hp} {s : Shared}
abbrev lamQ (X : Cx) : Str := X.env.qual ++ "<lambda>"
abbrev lamO (X : Cx) (params : Arguments) (body : Expr) (scope : Scope) (pm ctv : Value) (c' : Addr) : Obj := PySem.W.kla_obj "<lambda>" (lamQ X) params body scope (cloFrom X.env.cells scope.names []) pm c' ctv
structure LamAt (X : Cx) (params : Arguments) (body : Expr) (scope : Scope) (f c' : Addr) (H : Hp) (s : Shared) : Prop where
  ex : ∃ pm ctv, s.heap.get? f = some (lamO X params body scope pm ctv c')
  new : H f = none
  out : f ∉ frs X.stack
def TabOk (Z : Hp) (q : Str) (ps : Array Value) : Prop := TriplesOk ps.toList ∧ ∀ (pos : Pos) (v : Value), codeAmong pos ps.toList = some v → ∃ c, v = .ref c ∧ Z c = some (LamX.CodeO c q)
theorem lam_made {c P : Addr} {ps : Array Value} {params : Arguments} {body : Expr} {scope : Scope} {pos : Pos} {E Q : Value → Shared → Prop} (I : L2.Inv X pins σ H s) (TB : LamX.TabB X.base X.mg c P) (hc : X.env.code = .ref c) {Z : Hp} (kz : Same Z H) (hP : H P = some (.tbl ps)) (tb : TabOk Z (lamQ X) ps)
    (hd : defaultsOf params X.env = ([], [])) (hf : ∀ y ∈ scope.names, y.2 = .free → ∃ c, X.env.cells.lookup y.1 = some c)
    (old : ∀ (f c' : Addr) (s' : Shared), Z c' = some (LamX.CodeO c' (lamQ X)) → L2.Inv X pins σ H s' → LamAt X params body scope f c' H s' → Q (.ref f) s')
    (new : ∀ (f c' : Addr) (s' : Shared), H c' = none → L2.Inv X pins σ (upd (upd H P (.tbl (ps ++ #[rawInt pos.line, rawInt pos.col, .ref c']))) c' (LamX.CodeO c' (lamQ X))) s' →
      LamAt X params body scope f c' (upd (upd H P (.tbl (ps ++ #[rawInt pos.line, rawInt pos.col, .ref c']))) c' (LamX.CodeO c' (lamQ X))) s' → Q (.ref f) s') :
    wpAny (model X.prog X.w) X.A (eval (.Lambda params body scope pos) X.env) Q E s := by
  obtain ⟨tr, am⟩ := tb
  have here : s.heap.get? P = some { cls := .none, data := .fields ps } := I.hok P _ hP
  have afar : ∀ {b : Addr}, s.heap.objs.size ≤ b → b ∉ frs X.stack := fun {b} hb z => by
    rcases List.mem_cons.mp (I.stkSub _ z) with e | e
    · have lt := I.lt
      rw [← e] at lt
      exact absurd (Nat.lt_of_lt_of_le lt hb) (Nat.lt_irrefl _)
    · exact I.nofs hb e
  refine PySem.W.kla_eval hd ?_
  cases q : codeAmong pos ps.toList with
  | some v =>
    obtain ⟨c', rfl, hc'⟩ := am pos v q
    exact PySem.W.kla_makeFunctionHit (mg := X.mg) (c := c) (P := P) (ps := ps) (closure_ok hf) I.ok.glob (I.mod.glob.keeps I.bk) hc (TB.code.keeps I.bk) here tr q (TB.bm.keeps I.bk)
      fun ctv h' tk kp hs => old h'.objs.size c' _ hc' (I.kept fun b o e => Heap.get?_push_of_some _ (kp b o e)) ⟨⟨_, ctv, Heap.get?_push_size _ rfl⟩, I.hok.fresh hs, afar hs⟩
  | none =>
    refine PySem.W.kla_makeFunction (mg := X.mg) (c := c) (P := P) (ps := ps) (closure_ok hf) I.ok.glob (I.mod.glob.keeps I.bk) hc (TB.code.keeps I.bk) here tr q TB.gP (TB.bm.keeps I.bk) fun c' ctv h' tk kp g1 g2 rec hp => ?_
    obtain ⟨c2, oc, vs, t, e2, r1, r2, r3⟩ := rec
    cases e2
    have hs : s.heap.objs.size ≤ h'.objs.size := Nat.le_trans g1 (Nat.le_of_lt g2)
    have n0 : H c' = none := I.hok.fresh g1
    refine new h'.objs.size c' _ n0 (LamX.inv_table (t' := tk) (more := #[rawInt pos.line, rawInt pos.col, .ref c']) (h' := h'.push (lamO X params body scope ((X.mg "__name__").getD .none) ctv c')) I hP (fun b o hb e => Heap.get?_push_of_some _ (kp b o hb e)) (Heap.get?_push_of_some _ hp) g1 ⟨oc, vs, t, Heap.get?_push_of_some _ r1, r2, r3⟩)
      ⟨⟨_, ctv, Heap.get?_push_size _ rfl⟩, ?_, afar hs⟩
    have lP := Heap.lt_size here
    have m1 : h'.objs.size ≠ c' := Nat.ne_of_gt g2
    have m2 : h'.objs.size ≠ P := Nat.ne_of_gt (Nat.lt_of_lt_of_le lP hs)
    rw [upd_ne m1, upd_ne m2]
    exact I.hok.fresh hs
theorem act_at {CXg : CXT} {Eg : XK} {Ng : List Str} {qg a : Str} {sg : Scope} {g f c' : Addr} {cdg : Value} {params : Arguments} {body : Expr} {scope : Scope} {k i : Nat} {pn : List (Addr × Obj)} {xe : Value → Shared → Prop} {W : WX} {tb : XK → TE} {p1 p2 : Pos}
    (I : L2.Inv X pins σ H s) (L : LamX.LamS X.env.scope scope) (at_ : LamAt X params body scope f c' H s) (bind : ∀ pm ctv, bindArgs (PySem.W.kla_fn "<lambda>" (lamQ X) params body scope (cloFrom X.env.cells scope.names []) pm (.ref c') ctv) ⟨[], []⟩ = pure [])
    (tk : Takes ((cxOf CXg X.prog X.w X.K X.mg X.base Ng qg sg g cdg X.A X.stack s H Eg).tr pn xe) W) (room : Room (k + 1) (X.A.deeper (envOfC qg sg s.heap.objs.size g cdg)))
    (run : ∀ (A : Around) (outer : List Env) (s : Shared) (H : Hp) (E : XK), Room k (A.deeper (LamX.lamEnv X scope s.heap.objs.size f c')) → PE (LamX.lamCx X A outer s H E scope f c') body (tb E))
    (hN : Ng[i]? = some a) (hv : Vis sg a) (hd : (a == ("__debug__" : Str)) = false := by decide) (hk : (a == ("__classdict__" : Str)) = false := by decide) :
    PE ((cxOf CXg X.prog X.w X.K X.mg X.base Ng qg sg g cdg X.A X.stack s H Eg).tr pn xe) (.Call (.Name a p1) [] [] p2) (fun τ HZ Q => τ[i]? = some (some (.ref f)) ∧ HZ c' = some (LamX.CodeO c' (lamQ X)) ∧ tb (fun cls d H' => W cls d τ H') σ HZ Q) := by
  obtain ⟨⟨pm, ctv, of⟩, nf, ns⟩ := at_
  refine ⟨fun pinsZ sZ τ HZ Q J ⟨h1, h2, h3⟩ => ?_⟩
  refine wpAny_Call_Name_kw (thn ((pe_var (pos := p1) (i := i) hN hv hd hk).run pinsZ sZ τ HZ (fun v H1 => v = .ref f ∧ H1 = HZ) J ⟨.ref f, h1, rfl, rfl⟩) fun u s1 ⟨v, H1, J1, rv, ev, eH⟩ => ?_)
  subst ev
  subst eH
  obtain rfl : u = Value.ref f := rv
  have there : s1.heap.get? f = some (lamO X params body scope pm ctv c') := J1.base.keep f _ of nf ns (by intro z; exact nomatch (show f ∈ ([] : List Addr) from z))
  obtain ⟨⟨oc, vs, t, c1, c2, c3⟩, _, _⟩ := J1.hok c' _ h2
  refine PySem.W.callWith_F0 ⟨_, _, _, _, there⟩ ?_
  have rc : codeAny (model X.prog X.w) (X.A.deeper (envOfC qg sg s.heap.objs.size g cdg)) (.call (.ref f) ⟨[], []⟩) (CR (L2.CX X.prog X.w) (envOfC qg sg s.heap.objs.size g cdg :: X.stack) X.prog X.w H1 s1 Q (fun cls d H' => W cls d τ H')) s1 := by
    refine PySem.W.kla_callFunE room.depth there rfl L.co L.gen rfl ⟨c', oc, vs, t, rfl, c1, c2, c3⟩ ?_
    rw [bind]
    refine wpAny_pure (wpAny_newFunctionEnv (fun y hy => (L.own y hy).2) (fun y hy => absurd hy (by simp)) (fun h₁ n1 n2 => ⟨J1.nolimit.fresh _ n2, ?_⟩) L.kind)
    have kp : ∀ b o, s1.heap.get? b = some o → h₁.get? b = some o := fun b o e => n2.extBut b o (Nat.ne_of_lt (Heap.lt_size e)) (Heap.get?_push_of_some _ e)
    have J2 := LamX.lam_start2 (E := fun cls d H' => W cls d τ H') (f := f) (c' := c') (tk := s1.toks + ([] : List (Str × Value)).length) I L J1.env0 room.hd J1.base n1 kp
    show codeAny (model X.prog X.w) _ (.expr body (LamX.lamEnv X scope s1.heap.objs.size f c')) _ _
    refine PySem.W.kla_codeExpr (wpAny_mono ((run _ _ s1 H1 (fun cls d H' => W cls d τ H') (room.deeper _)).run [] _ σ H1 Q J2 h3) (fun v s3 ⟨w', H', J3, rv, q⟩ => ?_) fun _ _ hq => hq)
    exact ⟨w', H', J3.os, J3.bare, J3.base, J3.hok, rv, q⟩
  refine wpAny_call (codeAny_mono rc fun r s2 hr => ?_)
  cases r with
  | error e => exact passAt tk τ pinsZ H1 s1 e s2 J1 hr
  | ok fl =>
    cases fl with
    | ret u => exact J1.after hr
    | next => exact hr.elim
    | brk => exact hr.elim
    | cont => exact hr.elim
end
abbrev Out := (D → Prop) → (Xc → Prop) → Prop
abbrev SpecL := Out → (D → Prop) → Prop
def MonoO (O : Out) : Prop := ∀ A A' B B', (∀ d, A d → A' d) → (∀ x, B x → B' x) → O A B → O A' B'
def upO (O : Out) : Out := fun Rn Rx => ∃ A B, O A B ∧ (∀ d, A d → Rn d) ∧ ∀ x, B x → Rx x
theorem upO_mono (O : Out) : MonoO (upO O) := fun _ _ _ _ h1 h2 ⟨A, B, o, a, b⟩ => ⟨A, B, o, fun d h => h1 d (a d h), fun x h => h2 x (b x h)⟩
theorem upO_of {O : Out} {A : D → Prop} {B : Xc → Prop} (h : O A B) : upO O A B := ⟨A, B, h, fun _ h => h, fun _ h => h⟩
def qAct (fl : Addr) (O : Out) : PEXx γ := fun w s R => s.ρ[0]? = some (some (.val (.obj fl))) ∧ O (fun d => R d s) fun x => w x s
def valsL (ρ : List (Option L)) : List (Option L) := ρ.map fun o => match o with | some (.val d) => some (.val d) | _ => none
theorem valsL_get {ρ : List (Option L)} {i : Nat} {l : L} (h : (valsL ρ)[i]? = some (some l)) : ∃ d, l = .val d ∧ ρ[i]? = some (some (.val d)) := by
  unfold valsL at h
  rw [List.getElem?_map] at h
  obtain ⟨o, h1, h2⟩ := Option.map_eq_some_iff.mp h
  cases o with
  | none => cases h2
  | some m =>
    cases m with
    | val d => cases h2; exact ⟨d, rfl, h1⟩
    | own ds => cases h2
    | dic ds => cases h2
theorem Rel.vals {G : GP γ} {F : Fra} {Z : Hp} {s : S γ} {σ : L2.St} {H : Hp} (r : Rel G F Z s σ H) {K : PySem.W.Frag} (hK : G.K = K) {Z' H' : Hp} (k : Same Z Z') (z : Same Z' H') :
    Rel (none0 K) ⟨H', fun b => H' b ≠ none ∧ Z' b = none, fun b hb => Option.ne_none_iff_exists'.mp hb.1⟩ Z' ⟨valsL s.ρ, ()⟩ σ H' := by
  subst hK
  refine ⟨z, Same.refl _, fun b hb => hb.2, by rw [r.len]; simp [valsL], fun i d e => ?_, fun i l e ol => ?_, fun i j l m a _ e ol _ _ => ?_, trivial, fun _ h => h.elim, fun _ h => h.elim, fun _ _ h => by cases h⟩
  · obtain ⟨d', e1, e2⟩ := valsL_get e
    cases e1
    obtain ⟨v, h1, h2⟩ := r.loc i d e2
    exact ⟨v, h1, At.mono k _ _ h2⟩
  · obtain ⟨d', e1, _⟩ := valsL_get e
    subst e1; cases ol
  · obtain ⟨d', e1, _⟩ := valsL_get e
    subst e1; cases ol
theorem vals_ext {K : PySem.W.Frag} {Z Z' H H' : Hp} {s' : S Unit} {σ' : L2.St} (r : Rel (none0 K) ⟨H, fun b => H b ≠ none ∧ Z b = none, fun b hb => Option.ne_none_iff_exists'.mp hb.1⟩ Z' s' σ' H') (k : Same Z Z') : Ext Z H Z' H' :=
  ⟨r.f, k, r.z, fun b o e n => by
    cases hb : H b with
    | none => rfl
    | some u =>
      have := r.zb b ⟨by rw [hb]; simp, n⟩
      rw [e] at this; cases this⟩
end Pm
namespace Pm
open PySem PySem.Spec
open PyProof.Rows hiding St
open L2
variable {γ : Type}
abbrev Tbs := List (Addr × Str)
theorem TabOk.mono {Z Z' : Hp} {q : Str} {ps : Array Value} (k : Same Z Z') (h : TabOk Z q ps) : TabOk Z' q ps := ⟨h.1, fun pos v e => let ⟨c, e1, e2⟩ := h.2 pos v e; ⟨c, e1, k _ _ e2⟩⟩
def gT (G : GP γ) (T : Tbs) : GP γ where
  K := G.K
  foot := fun g a => G.foot g a ∨ ∃ p ∈ T, a = p.1
  J := fun g Z H => G.J g Z H ∧ ∀ p ∈ T, (∃ ps, H p.1 = some (.tbl ps) ∧ TabOk Z p.2 ps) ∧ ¬ G.foot g p.1
  stay := fun g Z Z' H H' h k e => ⟨G.stay _ _ _ _ _ h.1 k fun a ha => e a (.inl ha), fun p hp => by
    obtain ⟨⟨ps, h1, h2⟩, n⟩ := h.2 p hp
    exact ⟨⟨ps, (e _ (.inr ⟨p, hp, rfl⟩)).trans h1, h2.mono k⟩, n⟩⟩
  live := fun g Z H a h f => by
    rcases f with f | ⟨p, hp, rfl⟩
    · exact G.live g Z H a h.1 f
    · obtain ⟨⟨ps, h1, _⟩, _⟩ := h.2 p hp
      exact ⟨_, h1⟩
  fl := G.fl
section
variable {G : GP γ} {T : Tbs} {F : Fra} {Z : Hp} {s : S γ} {σ : L2.St} {H : Hp}
theorem Rel.tabled (r : Rel (gT G T) F Z s σ H) {P c' : Addr} {q : Str} {ps : Array Value} {pos : Pos} (hT : (P, q) ∈ T) (hu : ∀ p ∈ T, p.1 = P → p.2 = q) (hP : H P = some (.tbl ps)) (tb : TabOk Z q ps) (hn : H c' = none) :
    Rel (gT G T) F (upd Z c' (LamX.CodeO c' q)) s σ (upd (upd H P (.tbl (ps ++ #[rawInt pos.line, rawInt pos.col, .ref c']))) c' (LamX.CodeO c' q)) := by
  have ne : P ≠ c' := ne_of_none hP hn
  have r1 := r.new (o := LamX.CodeO c' q) hn
  have k : Same Z (upd Z c' (LamX.CodeO c' q)) := same_upd (r.z.free hn)
  have sw : upd (upd H P (.tbl (ps ++ #[rawInt pos.line, rawInt pos.col, .ref c']))) c' (LamX.CodeO c' q) = upd (upd H c' (LamX.CodeO c' q)) P (.tbl (ps ++ #[rawInt pos.line, rawInt pos.col, .ref c'])) := by
    funext b
    by_cases h1 : b = P
    · subst h1; rw [upd_ne ne, upd_same, upd_same]
    · by_cases h2 : b = c'
      · subst h2; rw [upd_same, upd_ne h1, upd_same]
      · rw [upd_ne h2, upd_ne h1, upd_ne h1, upd_ne h2]
  rw [sw]
  refine r1.writeB (.inr ⟨_, hT, rfl⟩) _ ⟨G.stay _ _ _ _ _ r1.j.1 (Same.refl _) fun a ha => upd_ne fun e => (r1.j.2 _ hT).2 (by rw [← e]; exact ha), fun p hp => ⟨?_, (r1.j.2 p hp).2⟩⟩ fun _ h => h
  by_cases h1 : p.1 = P
  · rw [h1, upd_same, hu p hp h1]
    refine ⟨_, rfl, ?_⟩
    have eL : (ps ++ #[rawInt pos.line, rawInt pos.col, .ref c']).toList = ps.toList ++ [rawInt pos.line, rawInt pos.col, .ref c'] := by simp
    refine ⟨by rw [eL]; exact PySem.TriplesOk_snoc _ _ _ _ tb.1, fun p' v e => ?_⟩
    rw [eL] at e
    rcases LamX.among_app _ tb.1 e with e | e
    · obtain ⟨c, e1, e2⟩ := tb.2 p' v e
      exact ⟨c, e1, k _ _ e2⟩
    · exact ⟨c', e, upd_same⟩
  · rw [upd_ne h1]
    exact (r1.j.2 p hp).1
theorem Rel.afterT {Z' H' : Hp} {g' : γ} (r : Rel (gT G T) F Z s σ H) (zz : Same Z Z') (zh : Same Z' H') (keep : ∀ a o, H a = some o → ¬ G.foot s.g a → H' a = some o) (nw : ∀ a o, Z' a = some o → Z a = none → H a = none) (hj : G.J g' Z' H')
    (hf : ∀ a, G.foot g' a → Z' a = none ∧ (G.foot s.g a ∨ H a = none)) : Rel (gT G T) F Z' ⟨s.ρ, g'⟩ σ H' := by
  refine r.after zz zh (fun a o e n => keep a o e fun h => n (.inl h)) nw ⟨hj, fun p hp => ?_⟩ fun a h => ?_
  · obtain ⟨⟨ps, h1, h2⟩, n⟩ := r.j.2 p hp
    refine ⟨⟨ps, keep _ _ h1 n, h2.mono zz⟩, fun h => ?_⟩
    rcases (hf _ h).2 with h | h
    · exact n h
    · rw [h1] at h; cases h
  · rcases h with h | ⟨p, hp, rfl⟩
    · exact ⟨(hf a h).1, (hf a h).2.imp .inl id⟩
    · obtain ⟨⟨ps, h1, _⟩, _⟩ := r.j.2 p hp
      refine ⟨?_, .inl (.inr ⟨p, hp, rfl⟩)⟩
      cases e : Z' p.1 with
      | none => rfl
      | some o =>
        have := nw _ o e (r.zf _ (.inr ⟨p, hp, rfl⟩))
        rw [h1] at this; cases this
end
section
variable {X : Cx} {G : GP γ} {T : Tbs} {x : Str} {n : Nat} {f : Spec γ} {e : Expr} {es : List Expr} {t : PAx γ} {p pos : Pos}
theorem lcallGT {σ : L2.St} {H : Hp} {Q : VK} (h : lE (gT G T) (qCallG f t) σ H Q) : tCall (spG G f) [] E0 (lA (gT G T) t) σ H Q := by
  obtain ⟨F, Z, s, R, r, t, q⟩ := h
  refine ⟨F, Z, s, _, r, t, fun xs s1 Z1 vs H1 t1 k1 r1 a1 => ?_⟩
  refine ⟨Z1, xs, s1.g, _, r1.z, by rw [List.append_nil]; exact a1, r1.j.1, fun a h => r1.zf a (.inl h), t1, fun z g' Z3 v H3 t3 k3 z3 h3 n3 j3 f3 a3 => ?_⟩
  exact q z _ Z3 v H3 t3 (k1.trans k3) (r1.afterT k3 z3 h3 n3 j3 f3) a3
theorem qe_callGT (d : Def X x n (spG G f)) (hg : Gl X x) (ha : QA X (gT G T) (e :: es) t) (hdb : (x == ("__debug__" : Str)) = false := by decide) (he : starEach (e :: es) X.env = (false, eval e X.env) :: starEach es X.env := by rfl) (hpl : (backTo pos (starEach es X.env)).any (·.1) = false := by rfl) :
    QE X (gT G T) (.Call (.Name x p) (e :: es) [] pos) (qCallG f t) := by
  obtain ⟨fa, fd, k, ps, F, hr, hm, hk, hb, _⟩ := d.ex
  exact PE.imp (pe_call F hr hg hm hk hb .nil pass0 ha hdb he hpl) fun _ _ _ h => lcallGT h
end
def GivesL (P : Program) (w : World) (K : PySem.W.Frag) (mg : Str → Option Value) (base : Heap) (x a : Str) (Ng : List Str) (sg : Scope) (g : Addr) (cdg : Value) (bg : List Stmt) (f : SpecL) : Prop :=
  ∀ (A : Around) (outer : List Env) (s : Shared) (H : Hp) (fl : Addr) (Zc : Hp) (O : Out) (R : D → Prop), Room 0 (A.deeper (envOfC x sg s.heap.objs.size g cdg)) → MonoO O → f O R →
    (∀ (W : WX) (pn : List (Addr × Obj)) (xe : Value → Shared → Prop) (p1 p2 : Pos), Takes ((cxOf CX0 P w K mg base Ng x sg g cdg A outer s H E0).tr pn xe) W →
      QEX ((cxOf CX0 P w K mg base Ng x sg g cdg A outer s H E0).tr pn xe) ((none0 K).lo Zc) W (.Call (.Name a p1) [] [] p2) (qAct fl O)) →
    ∃ t : PSx Unit, QSs (cxOf CX0 P w K mg base Ng x sg g cdg A outer s H E0).nox ((none0 K).lo Zc) bg t ∧ t { nx := fun _ => R .non, rt := fun d _ => R d } ⟨startL Ng.length [.obj fl], ()⟩
def GloL (P : Program) (w : World) (K : PySem.W.Frag) (mg : Str → Option Value) (base : Heap) (x : Str) (f : SpecL) : Prop :=
  ∃ (a : Str) (Ng : List Str) (params : Arguments) (bg : List Stmt) (sg : Scope) (g : Addr) (fd : FuncData), FunD K x x params bg sg [] [] g fd ∧ mg x = some (.ref g) ∧ FnScope Ng [a] sg ∧ Ng[0]? = some a ∧ Vis sg a ∧ (a == ("__debug__" : Str)) = false ∧ (a == ("__classdict__" : Str)) = false ∧
    Binds K fd [a] [] ∧ ∀ cdg : Value, GivesL P w K mg base x a Ng sg g cdg bg f
def qLam (f : SpecL) (tb : PEXx Unit) : PEx γ := fun s R => f (upO fun Rn Rx => tb (fun x _ => Rx x) ⟨valsL s.ρ, ()⟩ fun d _ => Rn d) fun d => R d s
section
variable {X : Cx} {G : GP γ} {T : Tbs} {x : Str} {f : SpecL} {c P : Addr} {k : Nat} {params : Arguments} {body : Expr} {scope : Scope} {tb : PEXx Unit} {p lpos pos : Pos}
theorem qe_lam (Dl : GloL X.prog X.w X.K X.mg X.base x f) (hg : Gl X x) (TB : LamX.TabB X.base X.mg c P) (hc : X.env.code = .ref c) (hT : (P, lamQ X) ∈ T) (hu : ∀ p ∈ T, p.1 = P → p.2 = lamQ X) (hr : Room (k + 2) X.A) (L : LamX.LamS X.env.scope scope) (hdef : defaultsOf params X.env = ([], []))
    (hbind : ∀ (q : Str) (cl : List (Str × Addr)) (pm cv ctv : Value), bindArgs (PySem.W.kla_fn "<lambda>" q params body scope cl pm cv ctv) ⟨[], []⟩ = pure [])
    (hbody : ∀ (A : Around) (outer : List Env) (s : Shared) (H : Hp) (E : XK) (f c' : Addr), Room k (A.deeper (LamX.lamEnv X scope s.heap.objs.size f c')) → QEX (LamX.lamCx X A outer s H E scope f c') (none0 X.K) (fun cls d _ H => E cls d H) body tb)
    (hK : G.K = X.K := by rfl) (hdb : (x == ("__debug__" : Str)) = false := by decide) :
    QE X (gT G T) (.Call (.Name x p) [.Lambda params body scope lpos] [] pos) (qLam f tb) := by
  refine ⟨fun pins s σ H Q I ⟨F, Z, sg, R, r, t, q⟩ => ?_⟩
  obtain ⟨a, Ng, pg, bg, scg, g, fd, FD, hm, Sg, hN, hv, hd1, hd2, hb, gives⟩ := Dl
  obtain ⟨oc, od, dV, kV, doc, pm, an, cdv, ct, osl, rfl, lk, hcd, _, _⟩ := FD.ex
  obtain ⟨⟨ps, hP, tk⟩, _⟩ := r.j.2 _ hT
  refine wpAny_Call_Name_kw (ld_glob I hg hm ?_ hdb)
  refine PySem.W.callWith_K (h₀ := X.base) I.ok.mod.kin FD.kp ?_ (by rfl) (by rfl)
  have go : ∀ (fl c' : Addr) (s' : Shared) (Z1 H1 : Hp), Same Z Z1 → Rel (gT G T) F Z1 sg σ H1 → Z1 c' = some (LamX.CodeO c' (lamQ X)) → L2.Inv X pins σ H1 s' → LamAt X params body scope fl c' H1 s' →
      wpAny (model X.prog X.w) X.A (call (.ref g) [.ref fl]) (EP X pins σ Q) X.xe s' := by
    intro fl c' s' Z1 H1 kz r1 hc1 I1 at_
    have rc : codeAny (model X.prog X.w) X.A (.call (.ref g) ⟨[.ref fl], []⟩) (CR CX0 X.stack X.prog X.w H1 s' Q E0) s' := by
      refine LamX.run_ofS (N := Ng) (ps := [a]) (us := [.ref fl]) (vs := [.ref fl]) (k := k + 1) lk hcd Sg hr I1.env0 (hb s' [.ref fl] I1.kIn rfl) (.cons rfl .nil) rfl fun hr' => ?_
      obtain ⟨t', ht', hp'⟩ := gives cdv X.A X.stack s' H1 fl Z1 _ _ (hr'.mono (Nat.zero_le _)) (upO_mono _) t fun W pn xe p1 p2 tk2 => by
        refine PE.imp (act_at (W := W) (tb := fun E => lEX (none0 X.K) X.mg (fun cls d _ H => E cls d H) tb) I1 L at_ (fun pm ctv => hbind _ _ _ _ _) tk2 hr' (fun A outer s H E hr2 => hbody A outer s H E fl c' hr2) hN hv hd1 hd2) fun τ HZ Q' ⟨F2, Z2, s2, R2, w2, r2, ⟨e0, oA, oB, o, hA, hB⟩, q2, x2⟩ => ?_
        obtain ⟨v0, h1, h2⟩ := r2.loc 0 _ e0
        have h2 : v0 = .ref fl := h2
        subst h2
        refine ⟨h1, r2.z _ _ (r2.fl _ _ hc1), ?_⟩
        have rv := r1.vals (K := X.K) hK (r2.fl : Same Z1 Z2) r2.z
        refine ⟨_, Z2, _, _, _, rv, o, fun d s3 Z3 v H3 hd k3 r3 a3 => ?_, fun x s3 Z3 cls d H3 hx k3 r3 a3 => ?_⟩
        · exact q2 d s2 Z3 v H3 (hA d hd) k3 (r2.ext (vals_ext r3 k3)) a3
        · exact x2 x s2 Z3 cls d H3 (hB x hx) k3 (r2.ext (vals_ext r3 k3)) a3
      refine ⟨_, ht'.nox, ?_⟩
      have rs : Rel ((none0 X.K).lo Z1) ⟨H1, fun b => H1 b ≠ none ∧ Z1 b = none, fun b hb => Option.ne_none_iff_exists'.mp hb.1⟩ Z1 ⟨startL Ng.length [.obj fl], ()⟩ (L2.start Ng [.ref fl]) H1 := by
        have a1 : Ats X.K Z1 [.obj fl] [.ref fl] := ⟨_, _, rfl, rfl, rfl⟩
        refine ⟨r1.z, Same.refl _, fun b hb => hb.2, ?_, fun i d e => ?_, fun i l e ol => ?_, fun i j l m b _ e ol _ _ => ?_, trivial, fun b h => False.elim h, fun b h => False.elim h, Same.refl _⟩
        · unfold L2.start startL
          simp only [List.length_append, List.length_map, List.length_replicate, List.length_cons, List.length_nil]
        · obtain ⟨d', e', v, h1, h2⟩ := start_at a1 e
          cases e'
          exact ⟨v, h1, h2⟩
        · obtain ⟨d', e', _⟩ := start_at a1 e
          subst e'; cases ol
        · obtain ⟨d', e', _⟩ := start_at a1 e
          subst e'; cases ol
      have back : ∀ (d : D) (s3 : Pm.S Unit) (Z3 : Hp) (σ3 : L2.St) (v : V) (H3 : Hp), R d sg → Same Z1 Z3 → Rel ((none0 X.K).lo Z1) ⟨H1, fun b => H1 b ≠ none ∧ Z1 b = none, fun b hb => Option.ne_none_iff_exists'.mp hb.1⟩ Z3 s3 σ3 H3 → At X.K Z3 d v → Q v H3 := fun d s3 Z3 σ3 v H3 hR k3 r3 a3 =>
        q d sg Z3 v H3 hR (kz.trans k3) (r1.ext ⟨r3.f, k3, r3.z, fun b o e n => by
          cases hb : H1 b with
          | none => rfl
          | some u =>
            have := r3.zb b ⟨by rw [hb]; simp, n⟩
            rw [e] at this; cases this⟩) (by show At G.K Z3 d v; rw [hK]; exact a3)
      refine ⟨_, Z1, _, _, rs, hp', ?_, ?_, ?_, ?_⟩
      · intro s3 Z3 σ3 H3 hR k3 r3
        exact back .non s3 Z3 σ3 .non H3 hR k3 r3 rfl
      · intro d s3 Z3 σ3 v H3 hR k3 r3 a3
        exact back d s3 Z3 σ3 v H3 hR k3 r3 a3
      · intro s3 Z3 σ3 H3 hR; exact hR.elim
      · intro s3 Z3 σ3 H3 hR; exact hR.elim
    refine wpAny_call (codeAny_mono rc fun rr s2 hq => ?_)
    cases rr with
    | error e => exact (show False from hq).elim
    | ok fl =>
      cases fl with
      | ret u => exact I1.after hq
      | next => exact hq.elim
      | brk => exact hq.elim
      | cont => exact hq.elim
  show wpAny _ _ (spliced ((false, eval (.Lambda params body scope lpos) X.env) :: backTo pos (starEach [] X.env))) _ _ s
  refine Calls.spliced_cons (lam_made I TB hc r.z hP tk hdef (L.has I.ok) (fun fl c' s' h1 I1 at_ => ?_) fun fl c' s' h1 I1 at_ => ?_)
  · refine Calls.spliced_nil ⟨I1.kIn, ?_⟩
    exact go fl c' s' Z H (Same.refl _) r h1 I1 at_
  · refine Calls.spliced_nil ⟨I1.kIn, ?_⟩
    exact go fl c' s' _ _ (same_upd (r.z.free h1)) (r.tabled hT hu hP tk h1) upd_same I1 at_
end
section
variable {γ : Type} {X : Cx} {G : GP γ} {pos : Pos}
theorem Rel.hiL {Z0 : Hp} (h0 : Same G.fl Z0) {F : Fra} {Z : Hp} {s : Pm.S γ} {σ : L2.St} {H : Hp} (r : Rel (G.lo Z0) F Z s σ H) : Rel G F Z s σ H := ⟨r.z, r.f, r.zb, r.len, r.loc, r.ownL, r.injL, r.j, r.zf, r.ff, h0.trans r.fl⟩
theorem qs_tryAsL {f : Str → Str → Option Bool} {y n : Str} {i : Nat} {body suite : List Stmt} {b₀ : Stmt} {np pos' : Pos} {tb : PSXx γ} {ts : Xc → Addr → PSx γ} (hs : X.stack = X.env :: X.outer) (hf : X.env.frame = some X.env.locals) (hN : X.N.Nodup) (hi : X.N[i]? = some n) (hln : X.env.kindOf n = some .local)
    (hg : Gl X y) (tab : ∀ x y b, f x y = some b → Sub X.K X.mg x y b) (hy : ∃ x, f x y = some true)
    (hb : ∀ (W : WX) (pn : List (Addr × Obj)) (xe : Value → Shared → Prop), Takes (X.tr pn xe) W → PassesOwn (model X.prog X.w) X.A X.env xe → QSXs (X.tr pn xe) G W body tb)
    (hsu : ∀ (a : Addr) (oe : Obj) (cls : Value) (d : Option Addr) (pn : List (Addr × Obj)) (Z0 : Hp) (x : Xc), Held X G.K Z0 x a oe cls d → QSs (X.suite a ((a, oe) :: pn)) (G.lo Z0) (b₀ :: suite) (ts x a))
    (hdb : (y == ("__debug__" : Str)) = false := by decide) (hnn : y ≠ "__name__" := by decide) :
    QS X G (.Try body [.ExceptHandler (some (.Name y np)) (some n) (b₀ :: suite) pos'] [] [] pos) (qTryAs f y i tb ts) := by
  obtain ⟨x0, hx0⟩ := hy
  obtain ⟨C0, c, _, hcv, hc, _⟩ := (tab x0 y true hx0).ex
  have nm : Names X y c := ⟨hg, hdb, hc.imp (fun ⟨_, _, a⟩ => a) fun ⟨_, _, a, b⟩ => ⟨a, b, hnn⟩⟩
  have go := ps_try_as (pos := pos) (pos' := pos') (np := np) (suite := suite) (b₀ := b₀) hs hf hN hi hln nm takes0 (tb := fun W => lSX G X.mg W tb) (ts := fun a cls d De σ H => ∃ x Z0, XcAt G.K X.mg Z0 x cls d ∧ lS (G.lo Z0) (ts x a) De σ H) hb fun a oe cls d pn hz hfd => ⟨fun pins s σ H De I ⟨x, Z0, hx, w⟩ => (hsu a oe cls d pn Z0 x ⟨hx, hz, hfd⟩).run pins s σ H De I w⟩
  refine PS.imp go fun De σ H ⟨F, Z, s, E, r, t, n, rt, bk, ct⟩ => ⟨F, Z, s, E, _, r, t, n, rt, bk, ct, fun x s1 Z1 σ1 cls d H1 ⟨hx, w⟩ k1 r1 a1 => ?_⟩
  obtain ⟨C, c', m1, cv', _, _, ex⟩ := (tab x.c y true hx).ex
  rw [hcv] at cv'
  cases cv'
  have ec : cls = .ref C := by have := a1.1; rw [m1] at this; cases this; rfl
  subst ec
  have back : ∀ {Z2 : Hp} {s2 : Pm.S γ} {σ2 : L2.St} {H2 : Hp}, Rel (G.lo Z1) F Z2 s2 σ2 H2 → Rel G F Z2 (Pm.clr i s2) (σ2.set i none) H2 := fun r2 => (r2.hiL r1.fl).clr i
  refine ⟨true, ex, fun _ a _ => ⟨x, Z1, a1, F, Z1, _, _, (r1.put (i := i) (d := .obj a) (v := .ref a) rfl).lo, w a, fun s2 Z2 σ2 H2 q k2 r2 => ?_, fun d2 s2 Z2 σ2 v H2 q k2 r2 a2 => ?_, fun s2 Z2 σ2 H2 q k2 r2 => ?_, fun s2 Z2 σ2 H2 q k2 r2 => ?_⟩, fun q => (by cases q)⟩
  · exact n _ Z2 _ H2 q (k1.trans k2) (back r2)
  · exact rt d2 (Pm.clr i s2) Z2 _ v H2 q (k1.trans k2) (back r2) a2
  · exact bk _ Z2 _ H2 q (k1.trans k2) (back r2)
  · exact ct _ Z2 _ H2 q (k1.trans k2) (back r2)
end
end Pm
set_option Elab.async false
set_option linter.all false
set_option maxRecDepth 100000
set_option maxHeartbeats 2000000
set_option autoImplicit false
namespace Pm
open PySem PySem.Spec
open PyProof.Rows hiding St
open L2
def tabsT (K : PySem.W.Frag) (xs : List Str) : Tbs := xs.map fun x => (tabP K x, (x ++ ".<locals>.") ++ "<lambda>")
structure Tabs (K : PySem.W.Frag) (mg : Str → Option Value) (base : Heap) (xs : List Str) : Prop where
  apart : (xs.map (tabP K)).Nodup
  at_ : ∀ x ∈ xs, LamX.TabB base mg (codP K x) (tabP K x)
theorem tabsT_mem {K : PySem.W.Frag} {xs : List Str} {x : Str} (h : x ∈ xs) : (tabP K x, (x ++ ".<locals>.") ++ "<lambda>") ∈ tabsT K xs := List.mem_map.mpr ⟨x, h, rfl⟩
theorem tabsT_one {K : PySem.W.Frag} {xs : List Str} {x : Str} (h : x ∈ xs) (nd : (xs.map (tabP K)).Nodup) : ∀ p ∈ tabsT K xs, p.1 = tabP K x → p.2 = (x ++ ".<locals>.") ++ "<lambda>" := by
  intro p hp e
  obtain ⟨y, hy, rfl⟩ := List.mem_map.mp hp
  have e : tabP K y = tabP K x := e
  have : y = x := by
    clear hp
    induction xs with
    | nil => cases hy
    | cons z zs ih =>
      rw [List.map_cons, List.nodup_cons] at nd
      rcases List.mem_cons.mp hy with rfl | hy'
      · rcases List.mem_cons.mp h with rfl | h'
        · rfl
        · exact absurd (List.mem_map.mpr ⟨x, h', e.symm⟩) nd.1
      · rcases List.mem_cons.mp h with rfl | h'
        · exact absurd (List.mem_map.mpr ⟨y, hy', e⟩) nd.1
        · exact ih h' nd.2 hy'
  rw [this]
section
variable {P : Program} {w : World} {K : PySem.W.Frag} {mg : Str → Option Value} {base : Heap}
theorem Fn.code {x : Str} {st : Stmt} {fd : FuncData} (F : Fn K x x st (He.fAd K (x, none)) fd) : fd.code = .ref (codP K x) := by
  obtain ⟨oc, od, dV, kV, doc, pm, an, cdv, ct, osl, rfl, lk, hcd, _, _⟩ := F.ex
  obtain ⟨c, rfl⟩ := He.codeIn_ref hcd
  have e := He.codeOf_eq (p := (x, none)) (c := c) lk rfl
  show Value.ref c = Value.ref (He.codeOf K (x, none))
  rw [e]
theorem Fn.okGdC {x : Str} {st : Stmt} {fd : FuncData} {N ps : List Str} {k : Nat} {sp : Sp} (F : Fn K x x st (He.fAd K (x, none)) fd) (S : FnScope N ps (defScope st)) (len : ∀ vs H Q E, sp vs H Q E → vs.length = ps.length)
    (hbody : ∀ (A : Around) (outer : List Env) (s : Shared) (H : Hp) (vs : List V) (Q : VK) (E : XK), A.guards = some [] → Room k (A.deeper (envOfC x (defScope st) s.heap.objs.size (He.fAd K (x, none)) (.ref (codP K x)))) → sp vs H Q E →
      ∃ t, PSs (cxOf CX0 P w K mg base N x (defScope st) (He.fAd K (x, none)) (.ref (codP K x)) A outer s H E).nox (defBody st) t ∧ t { nx := fun _ H' => Q .non H', rt := Q } (L2.start N vs) H) : FnG P w K mg base (k + 1) (He.fAd K (x, none)) fd ps sp := by
  have hc := Fn.code F
  obtain ⟨oc, od, dV, kV, doc, pm, an, cdv, ct, osl, e, lk, hcd, z1, z2⟩ := F.ex
  have e1 : cdv = .ref (codP K x) := by rw [← hc, e]
  subst e1
  subst e
  refine ⟨len, fun A gd hr outer s H args us vs Q E e0 hb rv hq => ?_⟩
  have inH : K.In s.heap := e0.mod.kin.keeps fun b u z => (e0.bs b u z).1
  refine codeAny_call_function hr.depth (inH _ _ lk) rfl S.co S.gen rfl (PySem.W.codeRec_of inH hcd) (hb _ _ _ _ ?_)
  refine wpAny_newFunctionEnv_cells S.kind (fun y hy => ?_) fun env he s1 xx => ?_
  · rcases S.par y.1 (List.of_mem_zip (a := y.1) (b := y.2) hy).1 with z | z
    · exact Or.inl z
    · exact Or.inr ⟨z, PySem.W.cellsFrom_some _ _ _ (Or.inl z)⟩
  subst he
  have nol : s.heap.NoLimit := e0.mod.nolimit.keeps fun b u z => (e0.bs b u z).1
  refine ⟨nol.keeps xx.toInCall.keep, codeAny_func ?_⟩
  obtain ⟨t, ht, hw⟩ := hbody A outer s H vs Q E gd (hr.deeper _) hq
  have J0 := inv_start (CX := CX0) (E := E) S hr.hd e0 (len _ _ _ _ hq) rv xx
  refine wpAny_mono ((PSs.nox ht).run [] s1 (L2.start N vs) H _ J0 hw) (fun fl s' z => ?_) fun _ _ z => z
  cases fl with
  | brk => exact (let ⟨_, _, _, q1⟩ := z; q1.elim)
  | cont => exact (let ⟨_, _, _, q1⟩ := z; q1.elim)
  | next =>
    obtain ⟨_, H', J, q1⟩ := z
    exact ⟨.non, H', J.os, J.bare, J.base, J.hok, rfl, q1⟩
  | ret u =>
    obtain ⟨v, _, H', J, r1, q1⟩ := z
    exact ⟨v, H', J.os, J.bare, J.base, J.hok, r1, q1⟩
theorem okGC {γ : Type} {G : GP γ} (hK : G.K = K) {x : Str} {st : Stmt} {fd : FuncData} {N ps : List Str} {k : Nat} (F : Fn K x x st (He.fAd K (x, none)) fd) (S : FnScope N ps (defScope st)) {fs : Spec γ} (len : ∀ ds g R, fs ds g R → ds.length = ps.length)
    (body : ∃ t : PSx γ, (∀ (A : Around) (outer : List Env) (s : Shared) (H : Hp) (E : XK), Room k (A.deeper (envOfC x (defScope st) s.heap.objs.size (He.fAd K (x, none)) (.ref (codP K x)))) → (A.deeper (envOfC x (defScope st) s.heap.objs.size (He.fAd K (x, none)) (.ref (codP K x)))).guards = some [] →
      QSs (cxOf CX0 P w K mg base N x (defScope st) (He.fAd K (x, none)) (.ref (codP K x)) A outer s H E).nox G (defBody st) t) ∧ ∀ ds g R, fs ds g R → t { nx := fun s => R .non s.g, rt := R } ⟨startL N.length ds, g⟩)
    (grow : ∀ g g' : γ, ∀ a, G.foot g' a → G.foot g a) (hfl : ∀ a, G.fl a = none := by intro _; rfl) : FnG P w K mg base (k + 1) (He.fAd K (x, none)) fd ps (spG G fs) := by
  subst hK
  refine Fn.okGdC F S (fun vs H Q E h => ?_) (fun A outer s H vs Q E gd hr h => ?_)
  · obtain ⟨Z, ds, g, R, _, a, _, _, h, _⟩ := h
    rw [a.len]; exact len _ _ _ h
  · obtain ⟨t, hb, hp⟩ := body
    exact ⟨_, hb A outer s H E hr gd, liftG (ps := ps) (by have := congrArg List.length S.pre; rw [List.length_take] at this; omega) len hp grow hfl h⟩
def spLawT (K : PySem.W.Frag) (T : Tbs) : Sp := fun vs H Q _ => (∀ p ∈ T, H p.1 = some (.tbl #[])) ∧ ∃ (a : Addr) (ns : List Int), vs = [.ref a] ∧ SqL K H a (ns.map V.int) ∧ ns.length ≤ 63 ∧ ∀ H', Q (.bl true) H'
theorem ok_lawGT {T : Tbs} {x : Str} {s0 : Stmt} {rest : List Stmt} {st : Stmt} {fd : FuncData} {N : List Str} {p : Str} {k i : Nat} (F : Fn K x x st (He.fAd K (x, none)) fd) (S : FnScope N [p] (defScope st)) (hi : 0 < i) (hb : defBody st = s0 :: rest)
    (body : ∃ t : Addr → PSx Nat, (∀ (A : Around) (outer : List Env) (s : Shared) (H : Hp) (E : XK), Room k (A.deeper (envOfC x (defScope st) s.heap.objs.size (He.fAd K (x, none)) (.ref (codP K x)))) → (A.deeper (envOfC x (defScope st) s.heap.objs.size (He.fAd K (x, none)) (.ref (codP K x)))).guards = some [] →
      PS (cxOf CX0 P w K mg base N x (defScope st) (He.fAd K (x, none)) (.ref (codP K x)) A outer s H E).nox s0 (tAsg (tCall (spDraws K) [] E0 (tCons (tVar 0) tNil)) (gName i)) ∧
      ∀ r c q, QSs (cxOf CX0 P w K mg base N x (defScope st) (He.fAd K (x, none)) (.ref (codP K x)) A outer s H E).nox (gT (gr K r c q) T) rest (t r)) ∧
      ∀ r, t r { nx := fun _ => False, rt := fun d _ => d = .bl true } ⟨(List.replicate N.length none).set i (some (.val (.obj r))), 0⟩) : FnG P w K mg base (k + 1) (He.fAd K (x, none)) fd [p] (spLawT K T) := by
  obtain ⟨t, hd, hp⟩ := body
  refine Fn.okGdC F S (fun vs H Q E h => ?_) (fun A outer s H vs Q E gd hr h => ?_)
  · obtain ⟨_, a, ns, rfl, _⟩ := h; rfl
  · obtain ⟨d0, d1⟩ := hd A outer s H E hr gd
    obtain ⟨hT, a, ns, rfl, hs, hl, q⟩ := h
    rw [hb]
    have dd : PSs (cxOf CX0 P w K mg base N x (defScope st) (He.fAd K (x, none)) (.ref (codP K x)) A outer s H E).nox rest (fun De σ H' => ∃ r c q', lS (gT (gr K r c q') T) (t r) De σ H') := ⟨fun pins s1 σ H1 De I ⟨r, c, q', h⟩ => (d1 r c q').run pins s1 σ H1 De I h⟩
    refine ⟨_, pss_cons d0 dd, ?_⟩
    have hN : 0 < N.length := by have := congrArg List.length S.pre; rw [List.length_take] at this; simp at this; omega
    refine ⟨.ref a, rfl, a, ns, rfl, hs, hl, fun r c q' H' k1 hr1 hc1 hq1 J => ?_⟩
    refine ⟨r, c, q', ⟨fun _ => none, fun _ => False, fun _ h => h.elim⟩, fun _ => none, _, _, ?_, hp r, fun s' Z' σ' H2 h => h.elim, fun d s' Z' σ' v H2 h _ _ a' => ?_, fun s' Z' σ' H2 h => h.elim, fun s' Z' σ' H2 h => h.elim⟩
    · have hlen : (L2.start N [V.ref a]).length = N.length := by unfold L2.start; simp; omega
      have at_i : ∀ (j : Nat) l, ((List.replicate N.length (none : Option L)).set i (some (.val (.obj r))))[j]? = some (some l) → j = i ∧ l = .val (.obj r) ∧ i < N.length := fun j l e => by
        by_cases hji : i = j
        · subst hji
          have hl' : i < (List.replicate N.length (none : Option L)).length := by
            have := (List.getElem?_eq_some_iff.mp e).1
            simpa using this
          rw [List.getElem?_set_self hl'] at e
          cases e
          exact ⟨rfl, rfl, by simpa using hl'⟩
        · rw [List.getElem?_set_ne hji, List.getElem?_replicate] at e
          split at e <;> cases e
      have jT : ∀ p ∈ T, (∃ ps, H' p.1 = some (.tbl ps) ∧ TabOk (fun _ => none) p.2 ps) ∧ ¬ (gr K r c q').foot (0 : Nat) p.1 := fun p hp => by
        refine ⟨⟨#[], k1 _ _ (hT p hp), ⟨?_, fun pos v e => ?_⟩⟩, fun z => ?_⟩
        · exact trivial
        · cases e
        · have e := hT p hp
          rcases z with z | z | z <;> rw [z] at e
          · rw [hr1] at e; cases e
          · rw [hc1] at e; cases e
          · rw [hq1] at e; cases e
      refine ⟨fun _ _ h => (by cases h), fun _ _ h => (by cases h), fun _ _ => rfl, by simp [hlen], fun j d e => ?_, fun j l e ol => ?_, fun j j2 l m b _ e ol _ _ => ?_, ⟨J, jT⟩, fun _ _ => rfl, fun _ _ => rfl, fun _ _ h => (by cases h)⟩
      · obtain ⟨rfl, e2, hl'⟩ := at_i j _ e
        cases e2
        exact ⟨.ref r, by rw [List.getElem?_set_self (by rw [hlen]; exact hl')], rfl⟩
      · obtain ⟨_, e2, _⟩ := at_i j _ e; subst e2; cases ol
      · obtain ⟨_, e2, _⟩ := at_i j _ e; subst e2; cases ol
    · have h' : d = .bl true := h
      subst h'
      have e : v = .bl true := a'
      rw [e]; exact q _
end
theorem law_callGT {P : Program} {w : World} {K : PySem.W.Frag} {mg mb : Str → Option Value} {k : Nat} {fa a : Addr} {ts : List (Addr × Addr)} {fd : FuncData} {x : Str} {sp : Sp} {s0 : Shared} {vs : List Value} {ns : List Int}
    (KX : K.In s0.heap) (hns : s0.heap.Ns mainGlobals mg) (hb : s0.heap.Ns builtinsNs mb) (hbb : ∀ y : Str, y ≠ "__name__" → mb y = bootBuiltins y) (hlim : s0.heap.NoLimit) (hg : s0.gens = #[])
    (tE : ∀ p ∈ ts, s0.heap.get? p.2 = some { cls := .none, data := .fields #[] }) (tK : ∀ p ∈ ts, K.lookup p.2 = none) (tC : ∀ p ∈ ts, PySem.W.CodeHd s0.heap p.1 p.2)
    (hbm : ∃ (bm : Addr) (ob : Obj), mg "__builtins__" = some (.ref bm) ∧ bm ≠ builtinsNs ∧ s0.heap.get? bm = some ob ∧ ob.cls = .type "module" ∧ ob.dict = some builtinsNs ∧ ob.data = .plain)
    (ha : s0.heap.get? a = some { cls := .type "list", data := .seq vs.toArray }) (hi : IntsAre vs ns) (hl : ns.length ≤ sizeLine) (hr : Room k callerA)
    (F : ∀ base : Heap, K.In base → base.Ns mainGlobals mg → (∀ p ∈ ts, LamX.TabB base mg p.1 p.2) → FnG P w K mg base k fa fd [x] sp) (hbind : ∀ (s : Shared) (u : Value), BindsTo s fd ⟨[u], []⟩ [(x, u)])
    (hsp : ∀ T : Hp, (∀ p ∈ ts, T p.2 = some (.tbl #[])) → SqL K T a (ns.map V.int) → sp [.ref a] T (fun v _ => v = .bl true) fun _ _ _ => False) :
    codeAny (model P w) callerA (.call (.ref fa) ⟨[.ref a], []⟩) (fun r z => r = .ok (.ret (.bool true)) ∧ OldK s0.heap z.heap ∧ z.os = s0.os ∧ AllBare z.gens) s0 := by
  have rel := L2.vals_ints hi
  have ln := hi.length
  let ps : List Addr := ts.map (·.2)
  have psE : ∀ b ∈ ps, s0.heap.get? b = some { cls := .none, data := .fields #[] } ∧ K.lookup b = none ∧ ∃ c, PySem.W.CodeHd s0.heap c b := fun b hb => by
    obtain ⟨p, hp, rfl⟩ := List.mem_map.mp hb
    exact ⟨tE p hp, tK p hp, _, tC p hp⟩
  have inP : ∀ p ∈ ts, p.2 ∈ ps := fun p hp => List.mem_map.mpr ⟨p, hp, rfl⟩
  have aP : a ∉ ps := fun z => by
    have e := (psE a z).1
    rw [ha] at e
    exact Data.noConfusion (congrArg Obj.data (Option.some.inj e))
  -- what is tracked: the tables, and the script if K does not hold it
  let scr : HO := .frz { cls := .type "list", data := .seq vs.toArray } (.lst (ns.map V.int))
  let T : Hp := fun b => if b ∈ ps then some (.tbl #[]) else if b = a ∧ K.lookup a = none then some scr else none
  have T1 : ∀ b ∈ ps, T b = some (.tbl #[]) := fun b hb => if_pos hb
  have T2 : ∀ b, b ∉ ps → ∀ o, T b = some o → b = a ∧ K.lookup a = none ∧ o = scr := fun b hb o e => by
    have e1 : (if b = a ∧ K.lookup a = none then some scr else none) = some o := (if_neg hb).symm.trans e
    by_cases hc : b = a ∧ K.lookup a = none
    · rw [if_pos hc] at e1; cases e1; exact ⟨hc.1, hc.2, rfl⟩
    · rw [if_neg hc] at e1; cases e1
  have Tof : ∀ b o, s0.heap.get? b = some o → o.data ≠ .fields #[] → (∀ xs n, o.data ≠ .seq xs n) → T b = none := fun b o e n1 n2 => by
    cases q : T b with
    | none => rfl
    | some y =>
      by_cases hb : b ∈ ps
      · rw [(psE b hb).1] at e; cases e; exact absurd rfl n1
      · obtain ⟨rfl, _, _⟩ := T2 b hb y q
        rw [ha] at e; cases e; exact absurd rfl (n2 _ _)
  have okT : HOk P w T s0.heap := fun b y e => by
    by_cases hb : b ∈ ps
    · have e2 := (T1 b hb).symm.trans e
      cases e2
      exact (psE b hb).1
    · obtain ⟨rfl, _, rfl⟩ := T2 b hb y e
      exact ⟨ha, by rw [List.length_map]; exact hl, vs, _, rel, ha⟩
  have sT : SqL K T a (ns.map V.int) := by
    cases hk : K.lookup a with
    | none => exact .inl (.inr ⟨_, (if_neg aP).trans (if_pos ⟨rfl, hk⟩)⟩)
    | some u =>
      have e := KX a u hk
      rw [ha] at e
      cases e
      exact .inr ⟨_, vs.toArray, _, hk, rfl, rfl, rfl, by rw [List.size_toArray, ln]; exact hl, by simpa using rel⟩
  have inT : K.In (hidT s0.heap T) := fun b u e => hidT_get (KX b u e) (by
    cases q : T b with
    | none => rfl
    | some y =>
      by_cases hb : b ∈ ps
      · rw [(psE b hb).2.1] at e; cases e
      · obtain ⟨rfl, h2, _⟩ := T2 b hb y q
        rw [h2] at e; cases e)
  have nsT : ∀ {b : Addr} {m : Str → Option Value}, s0.heap.Ns b m → (hidT s0.heap T).Ns b m := fun {b m} ⟨u, es, ep, e, d, r⟩ => ⟨u, es, ep, hidT_get e (Tof b u e (by rw [d]; exact fun z => nomatch z) (by rw [d]; exact fun _ _ z => nomatch z)), d, r⟩
  have md : Mod K mg (hidT s0.heap T) := ⟨inT, nsT hns, ⟨mb, nsT hb, hbb⟩, let ⟨mc, y1, y2⟩ := hlim; ⟨mc, nsT y1, y2⟩⟩
  have tB : ∀ p ∈ ts, LamX.TabB (hidT s0.heap T) mg p.1 p.2 := fun p hp => by
    refine ⟨?_, ?_, ?_⟩
    · obtain ⟨o, us, file, tf, flags, tg, inF, text, tt, e1, r1, r2, r3, r⟩ := tC p hp
      refine ⟨o, us, file, tf, flags, tg, inF, text, tt, hidT_get e1 (Tof _ _ e1 (fun z => ?_) fun xs n z => ?_), r1, r2, r3, r⟩
      · rw [r2] at z; cases z; simp at r3
      · rw [r2] at z; cases z
    · obtain ⟨bm, ob, b1, b2, b3, b4, b5, b6⟩ := hbm
      refine ⟨bm, ob, b1, b2, fun z => ?_, fun z => ?_, hidT_get b3 (Tof _ _ b3 (by rw [b6]; exact fun z => nomatch z) (by rw [b6]; exact fun _ _ z => nomatch z)), b4, b5, b6⟩
      · obtain ⟨u, es, ep, e, d, _⟩ := hns
        rw [← z, b3] at e; cases e; rw [b6] at d; cases d
      · have e := tE p hp
        rw [← z, b3] at e; cases e; cases b6
    · intro z
      obtain ⟨u, es, ep, e, d, _⟩ := hns
      rw [z, tE p hp] at e; cases e; cases d
  have env : Env0 P w K mg (hidT s0.heap T) callerA [] s0 T := ⟨rfl, md, fun c u e => of_hidT e, Nat.le_of_eq (hidT_size _ _), trivial, fun c hc => absurd (show c ∈ ([] : List Addr) from hc) (by simp), okT, .of_eq hg⟩
  refine codeAny_mono ((F _ inT (nsT hns) tB).go callerA rfl hr [] s0 T ⟨[.ref a], []⟩ [.ref a] [.ref a] _ _ env (hbind s0 (.ref a)) (.cons rfl .nil) (hsp T (fun p hp => T1 _ (inP p hp)) sT)) fun r z h => ?_
  cases r with
  | error e => exact h.elim
  | ok fl =>
    cases fl with
    | next => exact h.elim
    | brk => exact h.elim
    | cont => exact h.elim
    | ret u =>
      obtain ⟨v, T', os, bare, unt, okT', rv, q⟩ := h
      have qq : v = .bl true := q
      subst qq
      obtain rfl : u = Value.bool true := rv
      have stays : ∀ b o, b ∉ ps → s0.heap.get? b = some o → z.heap.get? b = some o := fun b o nb e => by
        cases q1 : T b with
        | none => exact unt.keep b o e q1 (fun z1 => absurd (show b ∈ ([] : List Addr) from z1) (by simp)) (by simp)
        | some y =>
          obtain ⟨_, _, rfl⟩ := T2 b nb y q1
          obtain ⟨w1, _⟩ := okT b _ q1
          obtain ⟨w2, _⟩ := okT' b _ (unt.frzs b _ _ q1)
          rw [e] at w1; cases w1
          exact w2
      have grown : ∀ b ∈ ps, ∃ more : Array Value, z.heap.get? b = some { cls := .none, data := .fields (#[] ++ more) } := fun b hb => by
        obtain ⟨more, z1⟩ := unt.tbls b #[] (T1 b hb)
        exact ⟨more, okT' b _ z1⟩
      refine ⟨rfl, ⟨fun b o e => ?_, fun b o e => ?_⟩, os, bare⟩ <;> by_cases hb : b ∈ ps
      · obtain ⟨more, hm⟩ := grown b hb
        obtain ⟨e1, _, c, hc⟩ := psE b hb
        rw [e1] at e; cases e
        exact .inr (.inl ⟨(hc.tab e1).isCodeTable, rfl, #[], more, rfl, hm⟩)
      · exact .inl (stays b o hb e)
      · obtain ⟨more, hm⟩ := grown b hb
        exact ⟨_, hm⟩
      · exact ⟨o, stays b o hb e⟩
theorem walk_ofGT {l : PySem.W.OpenLaw} {n k : Nat} {q : Program} {loose : List Str} {XP : (Str → Option Value) → Heap → Prop} {YP : World → Heap → Prop} {d : DefRec} {x : Str} {xs : List Str}
    (most : l.most = some n) (most2 : n ≤ 63) (dfl : d.params.defaults = []) (hr : Room k callerA)
    (F : ∀ (w : World) (mg : Str → Option Value) (fa : Addr) (h : Heap), YP w h → h.Ns mainGlobals mg → mg d.name = some (.ref fa) →
      ∃ (K : PySem.W.Frag) (fd : FuncData), K.In h ∧ (∀ (s : Shared) (u : Value), BindsTo s fd ⟨[u], []⟩ [(x, u)]) ∧
        (∀ y ∈ xs, h.get? (tabP K y) = some { cls := .none, data := .fields #[] } ∧ K.lookup (tabP K y) = none ∧ PySem.W.CodeHd h (codP K y) (tabP K y)) ∧ (xs.map (tabP K)).Nodup ∧
        ∀ base : Heap, K.In base → base.Ns mainGlobals mg → Tabs K mg base xs → FnG l.prog w K mg base k fa fd [x] (spLawT K (tabsT K xs))) : PySem.W.WalkO q loose XP YP l.row.toRowW d [] (fun f vs => PySem.call f vs) := by
  refine Att.attach_call most dfl fun w s₀ s₁ mg mb fa o pm cd doc a vs ns G Y ho hd hcd hmg hobj hints hlen hg => ?_
  obtain ⟨K, fd, KX, hb, hx, nd, hF⟩ := F w mg fa _ Y G.T.g hmg
  have mem : ∀ p ∈ xs.map (fun y => (codP K y, tabP K y)), ∃ y ∈ xs, p = (codP K y, tabP K y) := fun p hp => by
    obtain ⟨y, hy, rfl⟩ := List.mem_map.mp hp
    exact ⟨y, hy, rfl⟩
  refine law_callGT (ts := xs.map fun y => (codP K y, tabP K y)) KX G.T.g G.T.b G.T.builtins G.T.nolimit hg (fun p hp => ?_) (fun p hp => ?_) (fun p hp => ?_) G.T.bmain hobj hints (by have := hlen; unfold sizeLine; omega) hr (fun base h1 h2 h3 => hF base h1 h2 ⟨nd, fun y hy => h3 _ (List.mem_map.mpr ⟨y, hy, rfl⟩)⟩) hb fun T h1 h2 => ⟨fun p hp => ?_, a, ns, rfl, h2, by omega, fun _ => rfl⟩
  · obtain ⟨y, hy, rfl⟩ := mem p hp; exact (hx y hy).1
  · obtain ⟨y, hy, rfl⟩ := mem p hp; exact (hx y hy).2.1
  · obtain ⟨y, hy, rfl⟩ := mem p hp; exact (hx y hy).2.2
  · obtain ⟨y, hy, rfl⟩ := List.mem_map.mp hp
    exact h1 _ (List.mem_map.mpr ⟨y, hy, rfl⟩)
section
variable {fa : List He.Fa} {fn : List He.DefD} {ex : PySem.W.Frag → Bool} {xs : List Str}
theorem obsLG_eq {n : Nat} {g : Addr → Option Obj} {s : Shared} (h : ∀ a, g a = s.heap.get? a) : obsLG n fa fn ex xs g = (hookL n fa fn ex xs).obs s := by
  have e : g = s.heap.get? := funext h
  rw [e] <;> rfl
end
end Pm
set_option Elab.async false
set_option linter.all false
set_option maxRecDepth 100000
set_option maxHeartbeats 2000000
set_option autoImplicit false
namespace Pm
open PySem PySem.Spec
open PyProof.Rows hiding St
open L2
theorem count_eqU {x : V} : ∀ {xs : List V} {us : List Value}, Vals xs us → xs.all flatV = true → us.countP (eqU x) = xs.countP fun y => eqV y x
  | _, _, .nil, _ => rfl
  | _, _, .cons (a := y) (l₁ := ys) r h, f => by
    have f2 : flatV y = true ∧ ys.all flatV = true := by simpa using f
    rw [List.countP_cons, List.countP_cons, count_eqU h f2.2, eqU_of r f2.1]
def rCntF (K : PySem.W.Frag) : V → List V → Hp → VK → Prop := fun x xs H Q => ∃ (p : Addr) (ys : List V) (y : V), x = .ref p ∧ xs = [y] ∧ SqL K H p ys ∧ flatV y = true ∧ ys.all flatV = true ∧ Q (.int (ys.countP (fun z => eqV z y) : Nat)) H
theorem mt_countF {X : Cx} : MtR X "list.count" (rCntF X.K) := by
  intro pins s σ H x xs v us Q I rx rxs h
  obtain ⟨p, ys, y, rfl, rfl, hs, fy, fys, q⟩ := h
  cases rx
  obtain ⟨u, rfl, ru⟩ := rxs.one
  obtain ⟨its, rv, ⟨⟨cls, dd, data, sl⟩, n, ho, hc, hdn, hd⟩, hlen⟩ := I.list hs
  simp only at hc hd
  subst hc hd
  refine call_meets PySem.F.slot_list_count ⟨_, ho, rfl⟩ PySem.F.entry_list_count (PySem.F.args_list_count_2 _ _) (SeqAt.list_countAt p its.toArray n dd sl u (eqU y))
    ⟨ho, fun z hz => mem_eqAt ru fy rv fys z (by simpa using hz), ?_⟩
  refine ⟨.int (ys.countP (fun z => eqV z y) : Nat), H, I.tok _, ⟨s.toks, ?_⟩, q⟩
  show Value.int ((its.toArray.toList.countP (eqU y) : Nat) : Int) s.toks = Value.int ((ys.countP fun z => eqV z y : Nat) : Int) s.toks
  rw [show its.toArray.toList = its from rfl, count_eqU rv fys]
section
variable {γ : Type} {X : Cx} {G : GP γ} {e o : Expr} {pos apos cpos : Pos}
theorem ats_bools {K : PySem.W.Frag} {Z : Hp} : ∀ {ns : List Bool} {vs : List V}, Ats K Z (ns.map D.bl) vs → vs = ns.map V.bl
  | [], vs, h => h
  | n :: ns, vs, ⟨w, ws, e, h1, h2⟩ => by
    subst e
    rw [show w = .bl n from h1, ats_bools h2]; rfl
theorem bools_flat (ns : List Bool) : (ns.map V.bl).all flatV = true := List.all_eq_true.mpr fun w hw => by obtain ⟨_, _, rfl⟩ := List.mem_map.mp hw; rfl
theorem bools_count (ns : List Bool) (k : Bool) : (ns.map V.bl).countP (fun z => eqV z (.bl k)) = ns.count k := by
  induction ns with
  | nil => rfl
  | cons n ns ih =>
    rw [List.map_cons, List.countP_cons, List.count_cons, ih]
    rfl
def qCntB (to te : PEx γ) : PEx γ := fun s R => to s fun d s1 => ∃ ns : List Bool, d = .lst (ns.map .bl) ∧ te s1 fun e s2 => ∃ k : Bool, e = .bl k ∧ R (.int (ns.count k : Nat)) s2
theorem qe_cntB {to te : PEx γ} (hn : QE X G o to) (he : QE X G e te) (hbase : attributeBase o "count" X.env (eval o X.env) = eval o X.env := by rfl)
    (hfew : ((backTo cpos (starEach [e] X.env)).all (fun x => !x.1) && (backToKw cpos (keywordEach [] X.env)).all (fun x => x.1.isSome)
      && decide (([e] : List Expr).length + ([] : List Keyword).length + (if ([] : List Keyword).isEmpty then 0 else 1) < 30)) = true := by rfl)
    (hline : (apos.endLine == cpos.line) = true := by rfl) (hs : starEach [e] X.env = (false, eval e X.env) :: starEach [] X.env := by rfl) (hplain : (backTo cpos (starEach [] X.env)).any (·.1) = false := by rfl) :
    QE X G (.Call (.Attribute o "count" apos) [e] [] cpos) (qCntB to te) := by
  refine PE.imp (pe_bm PySem.F.plainAttrs_list PySem.F.slot_list_count PySem.F.type_list_count mt_countF hn (pa_cons he pa_nil hs) hbase hfew hline hs hplain) fun σ H Q ⟨F, Z, s, R, r, t, q⟩ => ?_
  refine ⟨F, Z, s, _, r, t, fun d s1 Z1 v H1 ⟨ns, e1, t1⟩ k1 r1 a1 => ?_⟩
  subst e1
  obtain ⟨a, vs, rfl, h2, h3⟩ := (show ∃ a vs, v = V.ref a ∧ Z1 a = some (.lst vs) ∧ Ats G.K Z1 (ns.map .bl) vs by simpa only [At] using a1)
  obtain rfl := ats_bools h3
  refine ⟨own_ty (r1.z _ _ h2), F, Z1, s1, _, r1, t1, fun y s2 Z2 vy H2 ⟨k, e2, t2⟩ k2 r2 a2 => ?_⟩
  subst e2
  obtain rfl : vy = .bl k := a2
  refine ⟨a, ns.map V.bl, .bl k, rfl, rfl, SqL.of (r2.z _ _ (k2 _ _ h2)), rfl, bools_flat ns, ?_⟩
  rw [bools_count]
  exact q _ s2 Z2 _ H2 t2 (fun b c x => k2 _ _ (k1 _ _ x)) r2 rfl
def qIndexB (to te : PEx γ) : PEx γ := fun s R => to s fun d s1 => ∃ ns : List Bool, d = .lst (ns.map .bl) ∧ te s1 fun e s2 => ∃ (k : Bool) (j : Nat), e = .bl k ∧ ns[j]? = some k ∧ (∀ m : Nat, m < j → ns[m]? ≠ some k) ∧ R (.int (j : Nat)) s2
theorem qe_indexB {to te : PEx γ} (hn : QE X G o to) (he : QE X G e te) (hbase : attributeBase o "index" X.env (eval o X.env) = eval o X.env := by rfl)
    (hfew : ((backTo cpos (starEach [e] X.env)).all (fun x => !x.1) && (backToKw cpos (keywordEach [] X.env)).all (fun x => x.1.isSome)
      && decide (([e] : List Expr).length + ([] : List Keyword).length + (if ([] : List Keyword).isEmpty then 0 else 1) < 30)) = true := by rfl)
    (hline : (apos.endLine == cpos.line) = true := by rfl) (hs : starEach [e] X.env = (false, eval e X.env) :: starEach [] X.env := by rfl) (hplain : (backTo cpos (starEach [] X.env)).any (·.1) = false := by rfl) :
    QE X G (.Call (.Attribute o "index" apos) [e] [] cpos) (qIndexB to te) := by
  refine PE.imp (pe_bm PySem.F.plainAttrs_list PySem.F.slot_list_index PySem.F.type_list_index mt_index hn (pa_cons he pa_nil hs) hbase hfew hline hs hplain) fun σ H Q ⟨F, Z, s, R, r, t, q⟩ => ?_
  refine ⟨F, Z, s, _, r, t, fun d s1 Z1 v H1 ⟨ns, e1, t1⟩ k1 r1 a1 => ?_⟩
  subst e1
  obtain ⟨a, vs, rfl, h2, h3⟩ := (show ∃ a vs, v = V.ref a ∧ Z1 a = some (.lst vs) ∧ Ats G.K Z1 (ns.map .bl) vs by simpa only [At] using a1)
  obtain rfl := ats_bools h3
  refine ⟨own_ty (r1.z _ _ h2), F, Z1, s1, _, r1, t1, fun y s2 Z2 vy H2 ⟨k, j, e2, e3, e4, t2⟩ k2 r2 a2 => ?_⟩
  subst e2
  obtain rfl : vy = .bl k := a2
  refine ⟨a, ns.map V.bl, .bl k, j, .bl k, rfl, rfl, SqL.of (r2.z _ _ (k2 _ _ h2)), rfl, bools_flat ns, ?_, ?_, fun m z hm hz => ?_, q _ s2 Z2 _ H2 t2 (fun b c x => k2 _ _ (k1 _ _ x)) r2 rfl⟩
  · rw [List.getElem?_map, e3]; rfl
  · show (k == k) = true
    simp
  · rw [List.getElem?_map] at hz
    obtain ⟨n, hn, rfl⟩ := Option.map_eq_some_iff.mp hz
    show (n == k) = false
    rw [beq_eq_false_iff_ne]
    rintro rfl
    exact e4 m hm hn
end
theorem o_neH {X : Cx} (hu : X.A.units + 64 < cLine) : OpR X (compareOp .NotEq) (dOp2 X.K neD) := by
  intro pins s σ H x y v u Q I rx ry ⟨Z, d, e, R, k, ad, ae, h, q⟩
  rcases h.1.two with ⟨z1, z2, rfl, rfl⟩ | ⟨h1, h2, h3, h4⟩
  · simp only [At] at ad ae
    subst ad; subst ae
    refine op_ne pins s σ H _ _ v u Q I rx ry ⟨rfl, ?_⟩
    rw [str_dec]
    exact dk q k h.2 rfl
  · refine op_neD hu pins s σ H _ _ v u Q I rx ry ⟨d.py, e.py, At.dp k d x ad h1, At.dp k e y ae h2, shaped_py h1 h3, shaped_py h2 h4, ?_⟩
    rw [eqv_py d e h1 h2]
    exact dk q k h.2 rfl
end Pm
set_option Elab.async false
set_option linter.all false
set_option maxRecDepth 100000
set_option maxHeartbeats 0
set_option autoImplicit false
namespace Pm
open PySem PySem.Spec
open PyProof.Rows hiding St
open L2 TL
def t_size_3de8 (r : Addr) : PSx Nat := (qSeq (qAsg (qCallG (nextS r) (qCons (qVar 0) (qCons (qBin addD (qCall (fn2 min2) (qCons (qVar 1) (qCons (qC (.int 3)) qNil))) (qC (.int 1))) qNil))) 2) (qRet (qBin ixD (qSet (qLst (qCons (qVar 2) (qCons (qBin subD (qVar 1) (qVar 2)) (qCons (qCallG (nextS r) (qCons (qVar 0) (qCons (qBin addD (qVar 1) (qC (.int 1))) qNil))) qNil))))) (qCallG (nextS r) (qCons (qVar 0) (qCons (qC (.int 3)) qNil))))))

def sp_size_3de8 (r : Addr) : Spec Nat := fun ds g R => ∃ m : Int, ds = [.obj r, .int m] ∧ 0 ≤ m ∧ m ≤ 10 ^ 50 ∧ g + 2 < drawLine ∧ ∀ v : Int, 0 ≤ v → v ≤ m → R (.int v) (g + 3)
theorem len_size_3de8 (r : Addr) (ds : List D) (g : Nat) (R : D → Nat → Prop) (h : sp_size_3de8 r ds g R) : ds.length = 2 := by
  obtain ⟨m, rfl, _⟩ := h; rfl
theorem p_size_3de8 (r : Addr) (ds : List D) (g : Nat) (R : D → Nat → Prop) (h : sp_size_3de8 r ds g R) : t_size_3de8 r { nx := fun s => R .non s.g, rt := R } ⟨startL 3 ds, g⟩ := by
  obtain ⟨m, rfl, h0, h1, hg, h⟩ := h
  have big : (10 : Int) ^ 50 + 4 ≤ 10 ^ 60 := by decide
  refine ⟨min m 3 + 1, rfl, by omega, by omega, (by show g < drawLine; omega), fun k k0 k1 => ?_⟩
  refine ⟨m + 1, rfl, by omega, by omega, (by show g + 1 < drawLine; omega), fun j j0 j1 => ?_⟩
  refine ⟨(by show 3 ≤ sizeLine; decide), 3, rfl, by decide, by decide, (by show g + 2 < drawLine; omega), fun i i0 i1 => ?_⟩
  have hi : i = 0 ∨ i = 1 ∨ i = 2 := by omega
  rcases hi with rfl | rfl | rfl
  · exact ⟨_, rfl, h k (by omega) (by omega)⟩
  · exact ⟨_, rfl, h (m - k) (by omega) (by omega)⟩
  · exact ⟨_, rfl, h j (by omega) (by omega)⟩

def t_items_cafd (r : Addr) : PSx Nat := (qSeq (qAsg (qBin ixD (qSet (qLst (qCons (qC (.int 2)) (qCons (qC (.int 9)) (qCons (qBin powD (qC (.int 10)) (qC (.int 9))) qNil))))) (qCallG (nextS r) (qCons (qVar 0) (qCons (qC (.int 3)) qNil)))) 2) (qSeq (qAsg (qBin ixD (qSet (qLst (qCons (qC (.int 1)) (qCons (qC (.int 3)) (qCons (qBin powD (qC (.int 10)) (qC (.int 6))) qNil))))) (qCallG (nextS r) (qCons (qVar 0) (qCons (qC (.int 3)) qNil)))) 3) (qSeq (qAsgOwn (qLst qNil) 4) (qSeq (qFor (qRange1 (qCons (qVar 1) qNil)) (.nm 5) (qDrop (qAppend 4 (qTup (qCons (qBin subD (qCallG (sp_size_3de8 r) (qCons (qVar 0) (qCons (qBin mulD (qC (.int 2)) (qVar 2)) qNil))) (qVar 2)) (qCons (qBin addD (qC (.int 1)) (qCallG (sp_size_3de8 r) (qCons (qVar 0) (qCons (qBin subD (qVar 3) (qC (.int 1))) qNil)))) qNil)))))) (qRet (qCall (fn1 tupleD) (qCons (qVar 4) qNil)))))))

def sp_items_cafd (r : Addr) : Spec Nat := fun ds g R => ∃ n : Nat, ds = [.obj r, .int n] ∧ n ≤ 60 ∧ g + 500 < drawLine ∧ ∀ l : List (Int × Int), l.length = n → (∀ q ∈ l, ItOk q) → R (.tup (l.map itD)) (g + 2 + 6 * n)
theorem len_items_cafd (r : Addr) (ds : List D) (g : Nat) (R : D → Nat → Prop) (h : sp_items_cafd r ds g R) : ds.length = 2 := by
  obtain ⟨m, rfl, _⟩ := h; rfl
theorem p_items_cafd (r : Addr) (ds : List D) (g : Nat) (R : D → Nat → Prop) (h : sp_items_cafd r ds g R) : t_items_cafd r { nx := fun s => R .non s.g, rt := R } ⟨startL 6 ds, g⟩ := by
  obtain ⟨n, rfl, hn, hg, h⟩ := h
  have line : (10000000 : Nat) ≤ sizeLine := line_big
  refine ⟨⟨by decide, by decide, by decide⟩, (by show 3 ≤ sizeLine; decide), 3, rfl, by decide, by decide, (by show g < drawLine; omega), fun k k0 k1 => ?_⟩
  obtain ⟨m, e, m0, m1⟩ := pick3 (lo := 2) (hi := 10 ^ 9) (a := 2) (b := 9) (c := 10 ^ (9 : Int).toNat) k0 k1 (by decide) (by decide) (by decide)
  refine ⟨_, e, ?_⟩
  refine ⟨⟨by decide, by decide, by decide⟩, (by show 3 ≤ sizeLine; decide), 3, rfl, by decide, by decide, (by show g + 1 < drawLine; omega), fun k k0 k1 => ?_⟩
  obtain ⟨w, e2, w0, w1⟩ := pick3 (lo := 1) (hi := 10 ^ 6) (a := 1) (b := 3) (c := 10 ^ (6 : Int).toNat) k0 k1 (by decide) (by decide) (by decide)
  refine ⟨_, e2, (by show 0 ≤ sizeLine; omega), ⟨by omega, by omega⟩, ?_⟩
  refine ⟨fun j s => ∃ l : List (Int × Int), l.length = j ∧ (∀ q ∈ l, ItOk q) ∧ s = ⟨[some (.val (.obj r)), some (.val (.int n)), some (.val (.int m)), some (.val (.int w)), some (.own (l.map itD)), none], g + 2 + 6 * j⟩, ⟨_, Wk.refl _, [], rfl, by simp, rfl⟩, ?_, ?_⟩
  · rintro j d s hd ⟨l, hl, hq, rfl⟩
    have hj : j < n := by
      have := (List.getElem?_eq_some_iff.mp hd).1
      simpa using this
    refine ⟨⟨_, rfl⟩, .inl (.inl ⟨by decide, by decide⟩), 2 * m, rfl, by omega, by omega, (by show g + 2 + 6 * j + 2 < drawLine; omega), fun v v0 v1 => ?_⟩
    refine ⟨w - 1, rfl, by omega, by omega, (by show g + 2 + 6 * j + 3 + 2 < drawLine; omega), fun u u0 u1 => ?_⟩
    refine ⟨(by show 2 ≤ sizeLine; omega), l.map itD, rfl, by simp; omega, ?_⟩
    refine ⟨⟨[some (.val (.obj r)), some (.val (.int n)), some (.val (.int m)), some (.val (.int w)), some (.own ((l ++ [(v - m, 1 + u)]).map itD)), none], g + 2 + 6 * j + 3 + 3⟩, ?_, l ++ [(v - m, 1 + u)], by simp [hl], ?_, rfl⟩
    · rw [List.map_append]
      exact Wk.of ⟨.inr rfl, .inr rfl, .inr rfl, .inr rfl, .inr rfl, .inl rfl, trivial⟩
    · intro q hm
      rcases List.mem_append.mp hm with hm | hm
      · exact hq q hm
      · rw [List.mem_singleton] at hm
        subst hm
        exact ⟨by show -(10 ^ 9) ≤ v - m; omega, by show v - m ≤ 10 ^ 9; omega, by show 1 ≤ 1 + u; omega, by show 1 + u ≤ 10 ^ 6; omega⟩
  · rintro s ⟨l, hl, hq, rfl⟩
    have hl' : l.length = n := by simpa using hl
    have e3 : ((List.range (n : Int).toNat).map fun k => D.int (k : Nat)).length = n := by simp
    show R (.tup (l.map itD)) (g + 2 + 6 * _)
    rw [e3]
    exact h l hl' hq

def t_rules_ccf3 (r : Addr) : PSx Nat := (qSeq (qAsgOwn (qLst qNil) 2) (qSeq (qAsg (qCallG (nextS r) (qCons (qVar 0) (qCons (qC (.int 3)) qNil))) 3) (qSeq (qFor (qRange1 (qCons (qBin mulD (qBin ixD (qSet (qLst (qCons (qC (.int 0)) (qCons (qC (.int 1)) (qCons (qC (.int 2)) (qCons (qC (.int 4)) (qCons (qC (.int 7)) (qCons (qC (.int 16)) qNil)))))))) (qCallG (nextS r) (qCons (qVar 0) (qCons (qC (.int 6)) qNil)))) (qCall (fn1 intD) (qCons (qBin gtD (qVar 1) (qC (.int 1))) qNil))) qNil)) (.nm 4) (qSeq (qAsg (qCallG (nextS r) (qCons (qVar 0) (qCons (qVar 1) qNil))) 5) (qSeq (qAsg (qBin modD (qBin addD (qBin addD (qVar 5) (qC (.int 1))) (qCallG (nextS r) (qCons (qVar 0) (qCons (qBin subD (qVar 1) (qC (.int 1))) qNil)))) (qVar 1)) 6) (qDrop (qAppend 2 (qIfE (qB (qBin eqD (qVar 3) (qC (.int 0)))) (qTup (qCons (qVar 5) (qCons (qVar 6) qNil))) (qTup (qCons (qCall (fn2 min2) (qCons (qVar 5) (qCons (qVar 6) qNil))) (qCons (qCall (fn2 max2) (qCons (qVar 5) (qCons (qVar 6) qNil))) qNil))))))))) (qRet (qCall (fn1 tupleD) (qCons (qVar 2) qNil))))))

def sp_rules_ccf3 (r : Addr) : Spec Nat := fun ds g R => ∃ n : Nat, ds = [.obj r, .int n] ∧ 1 ≤ n ∧ n ≤ 60 ∧ g + 500 < drawLine ∧ ∀ (l : List (Int × Int)) (g' : Nat), l.length ≤ 16 → (∀ q ∈ l, RuOk n q) → g ≤ g' → g' ≤ g + 34 → R (.tup (l.map itD)) g'
theorem len_rules_ccf3 (r : Addr) (ds : List D) (g : Nat) (R : D → Nat → Prop) (h : sp_rules_ccf3 r ds g R) : ds.length = 2 := by
  obtain ⟨m, rfl, _⟩ := h; rfl
theorem pick6 {k : Int} (k0 : 0 ≤ k) (k1 : k < 6) : ∃ m : Int, idx [D.int 0, .int 1, .int 2, .int 4, .int 7, .int 16] k = some (.int m) ∧ 0 ≤ m ∧ m ≤ 16 := by
  have hi : k = 0 ∨ k = 1 ∨ k = 2 ∨ k = 3 ∨ k = 4 ∨ k = 5 := by omega
  rcases hi with rfl | rfl | rfl | rfl | rfl | rfl
  · exact ⟨0, rfl, by decide, by decide⟩
  · exact ⟨1, rfl, by decide, by decide⟩
  · exact ⟨2, rfl, by decide, by decide⟩
  · exact ⟨4, rfl, by decide, by decide⟩
  · exact ⟨7, rfl, by decide, by decide⟩
  · exact ⟨16, rfl, by decide, by decide⟩
theorem far_mod {n a b : Int} (a0 : 0 ≤ a) (a1 : a < n) (b0 : 0 ≤ b) (b1 : b < n - 1) : a ≠ (a + 1 + b) % n ∧ 0 ≤ (a + 1 + b) % n ∧ (a + 1 + b) % n < n := by
  have hn : 0 < n := by omega
  refine ⟨?_, Int.emod_nonneg _ (by omega), Int.emod_lt_of_pos _ hn⟩
  by_cases h : a + 1 + b < n
  · rw [Int.emod_eq_of_lt (by omega) h]; omega
  · have e : (a + 1 + b) % n = a + 1 + b - n := by
      rw [← Int.sub_emod_right]
      exact Int.emod_eq_of_lt (by omega) (by omega)
    rw [e]; omega
theorem mm {n : Nat} {a : Int} (z : Int) (a0 : 0 ≤ a) (a1 : a < n) (f2 : 0 ≤ z) (f3 : z < n) (f1 : a ≠ z) : RuOk n (min a z, max a z) :=
  ⟨by show 0 ≤ min a z; omega, by show min a z < n; omega, by show 0 ≤ max a z; omega, by show max a z < n; omega, by show min a z ≠ max a z; omega⟩
theorem p_rules_ccf3 (r : Addr) (ds : List D) (g : Nat) (R : D → Nat → Prop) (h : sp_rules_ccf3 r ds g R) : t_rules_ccf3 r { nx := fun s => R .non s.g, rt := R } ⟨startL 7 ds, g⟩ := by
  obtain ⟨n, rfl, hn0, hn, hg, h⟩ := h
  have line : (10000000 : Nat) ≤ sizeLine := line_big
  refine ⟨(by show 0 ≤ sizeLine; omega), 3, rfl, by decide, by decide, (by show g < drawLine; omega), fun way w0 w1 => ?_⟩
  refine ⟨(by show 6 ≤ sizeLine; omega), 6, rfl, by decide, by decide, (by show g + 1 < drawLine; omega), fun k k0 k1 => ?_⟩
  obtain ⟨m, e, m0, m1⟩ := pick6 k0 k1
  refine ⟨_, e, .inl (.inr ⟨by split <;> decide, by split <;> decide⟩), ?_⟩
  generalize hc : m * (if decide ((1 : Int) < n) = true then 1 else 0) = c
  have c0 : 0 ≤ c ∧ c ≤ 16 ∧ (0 < c → 1 < n) := by
    by_cases h1 : (1 : Int) < n
    · rw [decide_eq_true h1] at hc; simp at hc; omega
    · rw [decide_eq_false h1] at hc; simp at hc; omega
  refine ⟨⟨by omega, by omega⟩, ?_⟩
  refine ⟨fun j s => ∃ l : List (Int × Int), l.length = j ∧ (∀ q ∈ l, RuOk n q) ∧ s = ⟨[some (.val (.obj r)), some (.val (.int n)), some (.own (l.map itD)), some (.val (.int way)), none, none, none], g + 2 + 2 * j⟩, ⟨_, Wk.refl _, [], rfl, by simp, rfl⟩, ?_, ?_⟩
  · rintro j d s hd ⟨l, hl, hq, rfl⟩
    have hj : j < c.toNat := by
      have := (List.getElem?_eq_some_iff.mp hd).1
      simpa using this
    have n1 : 1 < n := c0.2.2 (by omega)
    refine ⟨n, rfl, by omega, by omega, (by show g + 2 + 2 * j < drawLine; omega), fun a a0 a1 => ?_⟩
    refine ⟨(n : Int) - 1, rfl, by omega, by omega, (by show g + 2 + 2 * j + 1 < drawLine; omega), fun b b0 b1 => ?_⟩
    refine ⟨by omega, ⟨_, rfl⟩, ⟨rfl, rfl, Nat.zero_le 64, Nat.zero_le 64⟩, ?_⟩
    obtain ⟨f1, f2, f3⟩ := far_mod a0 a1 b0 b1
    have fin : ∀ q : Int × Int, RuOk n q → ∃ s'' : S Nat, Wk (⟨[some (.val (.obj r)), some (.val (.int n)), some (.own (l.map itD ++ [itD q])), some (.val (.int way)), some (.val d), some (.val (.int a)), some (.val (.int ((a + 1 + b) % (n : Int))))], g + 2 + 2 * j + 1 + 1⟩ : S Nat) s'' ∧ ∃ l : List (Int × Int), l.length = j + 1 ∧ (∀ q ∈ l, RuOk n q) ∧ s'' = ⟨[some (.val (.obj r)), some (.val (.int n)), some (.own (l.map itD)), some (.val (.int way)), none, none, none], g + 2 + 2 * (j + 1)⟩ := fun q hk => by
      refine ⟨⟨[some (.val (.obj r)), some (.val (.int n)), some (.own ((l ++ [q]).map itD)), some (.val (.int way)), none, none, none], g + 2 + 2 * j + 1 + 1⟩, ?_, l ++ [q], by simp [hl], ?_, rfl⟩
      · rw [List.map_append]
        exact Wk.of ⟨.inr rfl, .inr rfl, .inr rfl, .inr rfl, .inl rfl, .inl rfl, .inl rfl, trivial⟩
      · intro p hm
        rcases List.mem_append.mp hm with hm | hm
        · exact hq p hm
        · rw [List.mem_singleton] at hm
          rw [hm]; exact hk
    refine ⟨fun _ => ?_, fun _ => ?_⟩
    · exact ⟨(by show 2 ≤ sizeLine; omega), l.map itD, rfl, by simp; omega, fin (a, (a + 1 + b) % (n : Int)) ⟨a0, a1, f2, f3, f1⟩⟩
    · exact ⟨(by show 2 ≤ sizeLine; omega), l.map itD, rfl, by simp; omega, fin (min a ((a + 1 + b) % (n : Int)), max a ((a + 1 + b) % (n : Int))) (mm _ a0 a1 f2 f3 f1)⟩
  · rintro s ⟨l, hl, hq, rfl⟩
    have hl' : l.length = c.toNat := by simpa using hl
    have e3 : ((List.range c.toNat).map fun k => D.int (k : Nat)).length = c.toNat := by simp
    show R (.tup (l.map itD)) (g + 2 + 2 * _)
    rw [e3]
    exact h l _ (by omega) hq (by omega) (by omega)

def t_panel_3836 (r : Addr) : PSx Nat := (qSeq (qAsg (qBin addD (qC (.int 1)) (qCallG (nextS r) (qCons (qVar 0) (qCons (qVar 1) qNil)))) 2) (qRet (qTup (qCons (qCallG (sp_items_cafd r) (qCons (qVar 0) (qCons (qVar 2) qNil))) (qCons (qCallG (sp_rules_ccf3 r) (qCons (qVar 0) (qCons (qVar 2) qNil))) qNil)))))

def sp_panel_3836 (r : Addr) : Spec Nat := fun ds g R => ∃ n : Nat, ds = [.obj r, .int n] ∧ 1 ≤ n ∧ n ≤ 60 ∧ g + 1000 < drawLine ∧ ∀ (p : Pan) (g' : Nat), PanOk n p → g ≤ g' → g' ≤ g + 400 → R (panD p) g'
theorem len_panel_3836 (r : Addr) (ds : List D) (g : Nat) (R : D → Nat → Prop) (h : sp_panel_3836 r ds g R) : ds.length = 2 := by
  obtain ⟨m, rfl, _⟩ := h; rfl
theorem p_panel_3836 (r : Addr) (ds : List D) (g : Nat) (R : D → Nat → Prop) (h : sp_panel_3836 r ds g R) : t_panel_3836 r { nx := fun s => R .non s.g, rt := R } ⟨startL 3 ds, g⟩ := by
  obtain ⟨n, rfl, hn0, hn, hg, h⟩ := h
  refine ⟨n, rfl, by omega, by omega, (by show g < drawLine; omega), fun k k0 k1 => ?_⟩
  have e : (1 : Int) + k = ((1 + k.toNat : Nat) : Int) := by omega
  refine ⟨1 + k.toNat, ?_, by omega, (by show g + 1 + 500 < drawLine; omega), fun its h1 h2 => ?_⟩
  · rw [← e]
  refine ⟨1 + k.toNat, ?_, by omega, by omega, (by show g + 1 + 2 + 6 * (1 + k.toNat) + 500 < drawLine; omega), fun rus g' h3 h4 h5 h6 => ?_⟩
  · rw [← e]
  have h5' : g + 1 + 2 + 6 * (1 + k.toNat) ≤ g' := h5
  have h6' : g' ≤ g + 1 + 2 + 6 * (1 + k.toNat) + 34 := h6
  exact ⟨(by show 2 ≤ sizeLine; decide), h ⟨its, rus⟩ g' ⟨by show 1 ≤ its.length; omega, by show its.length ≤ n; omega, h2, h3, by show ∀ q ∈ rus, RuOk its.length q; rw [h1]; exact h4⟩ (by omega) (by omega)⟩

def t_room_5b7c : PSx Unit := (qSeq (qAsg (qSet (qLc (qItems (qBin ixD (qVar 0) (qC (.int 0)))) (.tp [(.nm 4), (.nm 5)]) [4, 5] qYes (qVar 4))) 1) (qSeq (qAsg (qCall (fn1 maxL) (qCons (qBin addD (qSet (qLst (qCons (qC (.int 1)) qNil))) (qSet (qLc (qItems (qVar 1)) (.nm 4) [4] qYes (qCall (fn1 absD) (qCons (qVar 4) qNil))))) qNil)) 2) (qSeq (qAsg (qCall (fn1 maxL) (qCons (qSet (qLc (qItems (qBin ixD (qVar 0) (qC (.int 0)))) (.tp [(.nm 4), (.nm 5)]) [4, 5] qYes (qVar 5))) qNil)) 3) (qRet (qSet (qLst (qCons (qBin subD (qUn negD (qBin powD (qC (.int 10)) (qC (.int 9)))) (qCall (fn1 minL) (qCons (qVar 1) qNil))) (qCons (qBin subD (qBin powD (qC (.int 10)) (qC (.int 9))) (qCall (fn1 maxL) (qCons (qVar 1) qNil))) (qCons (qBin fdivD (qBin powD (qC (.int 10)) (qC (.int 9))) (qVar 2)) (qCons (qBin fdivD (qBin powD (qC (.int 10)) (qC (.int 6))) (qVar 3)) qNil))))))))))

structure RoomX (p : Pan) (lo hi mo he : Int) : Prop where
  le : lo ≤ hi
  b : -(2 * 10 ^ 9) ≤ lo ∧ hi ≤ 2 * 10 ^ 9
  sh : ∀ x, (lo ≤ x ∧ x ≤ hi) ↔ ∀ q ∈ p.its, -(10 ^ 9) ≤ q.1 + x ∧ q.1 + x ≤ 10 ^ 9
  m1 : 1 ≤ mo ∧ mo ≤ 10 ^ 9
  sc : (∃ q ∈ p.its, q.1 ≠ 0) → ∀ x, 1 ≤ x → (x ≤ mo ↔ ∀ q ∈ p.its, -(10 ^ 9) ≤ q.1 * x ∧ q.1 * x ≤ 10 ^ 9)
  h1 : 1 ≤ he ∧ he ≤ 10 ^ 6
  wg : ∀ x, 1 ≤ x → (x ≤ he ↔ ∀ q ∈ p.its, 1 ≤ q.2 * x ∧ q.2 * x ≤ 10 ^ 6)
def sp_room_5b7c : Spec0 := fun ds R => ∃ p : Pan, ds = [panD p] ∧ PanOk 8 p ∧ ∀ lo hi mo he, RoomX p lo hi mo he → R (.lst [.int lo, .int hi, .int mo, .int he])
theorem len_room_5b7c (ds : List D) (R : DK) (h : sp_room_5b7c ds R) : ds.length = 1 := by
  obtain ⟨_, rfl, _⟩ := h; rfl
theorem p_room_5b7c (ds : List D) (R : DK) (h : sp_room_5b7c ds R) : t_room_5b7c { nx := fun _ => R .non, rt := fun d _ => R d } ⟨startL 6 ds, ()⟩ := by
  obtain ⟨p, rfl, hp, h⟩ := h
  have line : (10000000 : Nat) ≤ sizeLine := line_big
  have h8 := hp.top
  have h1 := hp.one
  have c9 : CPow 10 9 := ⟨by decide, by decide, by decide⟩
  have c6 : CPow 10 6 := ⟨by decide, by decide, by decide⟩
  let P := some (L.val (panD p))
  let ms := p.its.map fun q => q.1
  have ml : ms.length = p.its.length := by simp [ms]
  let M := some (L.val (.lst (ms.map D.int)))
  refine seq_mid (M := fun s' => s' = ⟨[P, M, none, none, none, none], ()⟩) ?_ ?_; rotate_left
  · intro N hN
    refine ⟨_, rfl, ?_⟩
    refine lc_mapl p.its itD (fun q => D.int q.1) (by omega) (fun q hq => ⟨_, rfl, fun T h => h⟩) ?_ (by decide) (by rfl)
    have e : (p.its.map fun q => D.int q.1) = ms.map D.int := by show _ = List.map D.int (List.map _ _); rw [List.map_map]; rfl
    rw [e]; exact hN _ rfl
  rintro _ rfl
  refine seq_mid (M := fun s' => ∃ G : Int, 1 ≤ G ∧ G ≤ 10 ^ 9 ∧ (∀ q ∈ p.its, -G ≤ q.1 ∧ q.1 ≤ G) ∧ ((∃ q ∈ p.its, q.1 ≠ 0) → ∃ q ∈ p.its, ((q.1.natAbs : Nat) : Int) = G) ∧ s' = ⟨[P, M, some (.val (.int G)), none, none, none], ()⟩) ?_ ?_; rotate_left
  · intro N hN
    refine ⟨by show 1 ≤ sizeLine; omega, ?_⟩
    show lcB _ _ _ _ _ (ms.map D.int) _
    refine lc_mapl ms D.int (fun k => D.int (k.natAbs : Nat)) (by omega) (fun k hk => ⟨_, rfl, fun T h => h⟩) ?_ (by decide) (by rfl)
    refine ⟨by show 1 + (List.map _ _).length ≤ sizeLine; rw [List.length_map]; omega, ?_⟩
    have e : ∀ l : List Int, [D.int 1] ++ (l.map fun k => D.int (k.natAbs : Nat)) = ((1 : Int) :: l.map fun k => ((k.natAbs : Nat) : Int)).map D.int := fun l => by
      rw [List.map_cons, List.map_map]; rfl
    rw [e ms]
    refine ⟨_, asInts_map _, by simp, fun G hG hM => ?_⟩
    have g1 := hM 1 List.mem_cons_self
    have ga : ∀ q ∈ p.its, ((q.1.natAbs : Nat) : Int) ≤ G := fun q hq => hM _ (List.mem_cons_of_mem _ (List.mem_map.mpr ⟨q.1, List.mem_map.mpr ⟨q, hq, rfl⟩, rfl⟩))
    refine hN _ ⟨G, g1, ?_, fun q hq => ?_, ?_, rfl⟩
    · rcases List.mem_cons.mp hG with z | z
      · rw [z]; decide
      · obtain ⟨k, hk, rfl⟩ := List.mem_map.mp z
        obtain ⟨q, hq, rfl⟩ := List.mem_map.mp hk
        have := hp.it q hq
        have a1 := this.1
        have a2 := this.2.1
        omega
    · have := ga q hq
      constructor <;> omega
    · rintro ⟨q, hq, hn⟩
      rcases List.mem_cons.mp hG with z | z
      · exact ⟨q, hq, by have := ga q hq; omega⟩
      · obtain ⟨k, hk, rfl⟩ := List.mem_map.mp z
        obtain ⟨q, hq, rfl⟩ := List.mem_map.mp hk
        exact ⟨q, hq, rfl⟩
  rintro _ ⟨G, G1, G9, Gb, Gx, rfl⟩
  let Gr := some (L.val (.int G))
  refine seq_mid (M := fun s' => ∃ w0 : Int, 1 ≤ w0 ∧ w0 ≤ 10 ^ 6 ∧ (∀ q ∈ p.its, q.2 ≤ w0) ∧ (∃ q ∈ p.its, q.2 = w0) ∧ s' = ⟨[P, M, Gr, some (.val (.int w0)), none, none], ()⟩) ?_ ?_; rotate_left
  · intro N hN
    refine ⟨_, rfl, ?_⟩
    refine lc_mapl p.its itD (fun q => D.int q.2) (by omega) (fun q hq => ⟨_, rfl, fun T h => h⟩) ?_ (by decide) (by rfl)
    have e : (p.its.map fun q => D.int q.2) = (p.its.map fun q => q.2).map .int := by rw [List.map_map]; rfl
    rw [e]
    refine ⟨_, asInts_map _, by rw [List.length_map]; omega, fun w hw' hM => ?_⟩
    obtain ⟨q0, hq0, rfl⟩ := List.mem_map.mp hw'
    have z0 := hp.it q0 hq0
    exact hN _ ⟨_, z0.2.2.1, z0.2.2.2, fun q hq => hM _ (List.mem_map.mpr ⟨q, hq, rfl⟩), ⟨q0, hq0, rfl⟩, rfl⟩
  rintro _ ⟨w0, w1, w6, wb, ⟨qw, hqw, ew⟩, rfl⟩
  refine ⟨c9, _, asInts_map ms, by omega, fun mn hmn hMn => ⟨c9, _, asInts_map ms, by omega, fun mx hmx hMx => ⟨c9, divOk_of (b := 40) (by unfold Sz; omega) (by omega) (by decide), c6, divOk_of (b := 40) (by unfold Sz; omega) (by omega) (by decide), by show 4 ≤ sizeLine; omega, ?_⟩⟩⟩
  obtain ⟨qn, hqn, rfl⟩ := List.mem_map.mp hmn
  obtain ⟨qx, hqx, rfl⟩ := List.mem_map.mp hmx
  have bn := hp.it qn hqn
  have bx := hp.it qx hqx
  have lo_le : ∀ q ∈ p.its, qn.1 ≤ q.1 ∧ q.1 ≤ qx.1 := fun q hq => ⟨hMn _ (List.mem_map.mpr ⟨q, hq, rfl⟩), hMx _ (List.mem_map.mpr ⟨q, hq, rfl⟩)⟩
  have nx := lo_le qx hqx
  obtain ⟨bn1, bn2, _⟩ := bn
  obtain ⟨bx1, bx2, _⟩ := bx
  have d9 : ((10 : Int) ^ 9).fdiv G = 10 ^ 9 / G := Int.fdiv_eq_ediv_of_nonneg _ (by omega)
  have d6 : ((10 : Int) ^ 6).fdiv w0 = 10 ^ 6 / w0 := Int.fdiv_eq_ediv_of_nonneg _ (by omega)
  have m1 : G * ((10 : Int) ^ 9 / G) ≤ 10 ^ 9 := Int.mul_ediv_self_le (by omega)
  have m6 : w0 * ((10 : Int) ^ 6 / w0) ≤ 10 ^ 6 := Int.mul_ediv_self_le (by omega)
  have g1 : 1 ≤ (10 : Int) ^ 9 / G := (Int.le_ediv_iff_mul_le (by omega)).mpr (by omega)
  have g6 : 1 ≤ (10 : Int) ^ 6 / w0 := (Int.le_ediv_iff_mul_le (by omega)).mpr (by omega)
  have g9 : (10 : Int) ^ 9 / G ≤ 10 ^ 9 := Int.ediv_le_self _ (by decide)
  have g66 : (10 : Int) ^ 6 / w0 ≤ 10 ^ 6 := Int.ediv_le_self _ (by decide)
  refine h (-10 ^ 9 - qn.1) (10 ^ 9 - qx.1) (((10 : Int) ^ 9).fdiv G) (((10 : Int) ^ 6).fdiv w0) ?_
  rw [d9, d6]
  refine ⟨by omega, ⟨by omega, by omega⟩, fun x => ⟨fun ⟨x0, x1⟩ q hq => ?_, fun hx => ?_⟩, ⟨g1, g9⟩, fun hne x x0 => ⟨fun x1 q hq => ?_, fun hx => ?_⟩, ⟨g6, g66⟩, fun x x0 => ⟨fun x1 q hq => ?_, fun hx => ?_⟩⟩
  · have := lo_le q hq
    constructor <;> omega
  · have a1 := hx qn hqn
    have a2 := hx qx hqx
    constructor <;> omega
  · obtain ⟨a, b⟩ := Gb q hq
    have u0 := Int.mul_le_mul_of_nonneg_left x1 (show 0 ≤ G by omega)
    have u1 := Int.mul_le_mul_of_nonneg_right b (show 0 ≤ x by omega)
    have u2 := Int.mul_le_mul_of_nonneg_right a (show 0 ≤ x by omega)
    have e : -G * x = -(G * x) := Int.neg_mul ..
    rw [e] at u2
    constructor <;> omega
  · obtain ⟨q0, hq0, e0⟩ := Gx hne
    obtain ⟨a, b⟩ := hx q0 hq0
    refine (Int.le_ediv_iff_mul_le (by omega)).mpr ?_
    rw [← e0]
    rcases (show ((q0.1.natAbs : Nat) : Int) = q0.1 ∨ ((q0.1.natAbs : Nat) : Int) = -q0.1 by omega) with z | z
    · rw [z, Int.mul_comm]; exact b
    · rw [z, Int.mul_comm, Int.neg_mul]; omega
  · have q2 := (hp.it q hq).2.2.1
    have u0 := Int.mul_le_mul_of_nonneg_left x1 (show 0 ≤ w0 by omega)
    have u1 := Int.mul_le_mul_of_nonneg_right (wb q hq) (show 0 ≤ x by omega)
    have u2 := Int.mul_le_mul_of_nonneg_right q2 (show 0 ≤ x by omega)
    constructor <;> omega
  · obtain ⟨a, b⟩ := hx qw hqw
    refine (Int.le_ediv_iff_mul_le (by omega)).mpr ?_
    rw [← ew, Int.mul_comm]; exact b

def t_refused_b2f4 (O : Out) (fl : Addr) : PSx Unit := (qSeq (qTryAs (lookT [("Full", "MarksError", true), ("LastItem", "MarksError", true), ("OutOfRange", "MarksError", true)]) "MarksError" 1 (xDrop (qAct fl O)) (fun x a => (qSeq (qAsg (qSet (qLst (qCons (qIsE (lookT [("Full", "Full", true), ("LastItem", "Full", false), ("OutOfRange", "Full", false)]) ["Full", "LastItem", "OutOfRange"] ["Full"] 1 x a) (qCons (qIsE (lookT [("Full", "LastItem", false), ("LastItem", "LastItem", true), ("OutOfRange", "LastItem", false)]) ["Full", "LastItem", "OutOfRange"] ["LastItem"] 1 x a) (qCons (qIsE (lookT [("Full", "OutOfRange", false), ("LastItem", "OutOfRange", false), ("OutOfRange", "OutOfRange", true)]) ["Full", "LastItem", "OutOfRange"] ["OutOfRange"] 1 x a) qNil))))) 2) (qSeq (qIf (qOr (qB (qBin neD (qCntB (qVar 2) (qC (.bl true))) (qC (.int 1)))) (qNot (qB (qIsE (lookT [("Full", "ValueError", true), ("LastItem", "ValueError", true), ("OutOfRange", "ValueError", true)]) ["Full", "LastItem", "OutOfRange"] ["ValueError"] 1 x a)))) (qRet (qC (.str "other"))) qNext) (qSeq (qIf (qB (qIsE (lookT [("Full", "InvalidMark", false), ("Full", "InvalidWeight", false), ("Full", "NotFalling", false), ("LastItem", "InvalidMark", false), ("LastItem", "InvalidWeight", false), ("LastItem", "NotFalling", false), ("OutOfRange", "InvalidMark", false), ("OutOfRange", "InvalidWeight", false), ("OutOfRange", "NotFalling", false)]) ["Full", "LastItem", "OutOfRange"] ["InvalidMark", "InvalidWeight", "NotFalling"] 1 x a)) (qRet (qC (.str "other"))) qNext) (qRet (qBin ixD (qSet (qLst (qCons (qC (.str "Full")) (qCons (qC (.str "LastItem")) (qCons (qC (.str "OutOfRange")) qNil))))) (qIndexB (qVar 2) (qC (.bl true)))))))))) (qRet (qC (.str "ok"))))

def sp_refused_b2f4 : SpecL := fun O R => O (fun _ => R (.str "ok")) (fun x => (x.c = "Full" ∨ x.c = "LastItem" ∨ x.c = "OutOfRange") ∧ R (.str x.c))
theorem p_refused_b2f4 (O : Out) (fl : Addr) (R : D → Prop) (mo : MonoO O) (h : sp_refused_b2f4 O R) : t_refused_b2f4 O fl { nx := fun _ => R .non, rt := fun d _ => R d } ⟨startL 3 [.obj fl], ()⟩ := by
  have line := line_big
  refine seq_mid (M := fun s' => R (.str "ok")) (fun s' hs => hs) ?_
  intro N hN
  refine ⟨rfl, mo _ _ _ _ (fun d hd => hN _ hd) (fun x hx => ?_) h⟩
  obtain ⟨hx, hr⟩ := hx
  obtain ⟨c, f⟩ := x
  rcases hx with hx | hx | hx
  · have hx : c = "Full" := hx
    subst hx
    refine ⟨rfl, fun a => ?_⟩
    refine seq_mid (M := fun s' => s' = ⟨[some (.val (.obj fl)), some (.val (.obj a)), some (.val (.lst ([true, false, false].map .bl)))], ()⟩) ?_ ?_
    rotate_left
    · intro N2 hN2
      exact ⟨rfl, (.head _), _, rfl, rfl, (.head _), _, rfl, rfl, (.head _), _, rfl, by show 3 ≤ sizeLine; omega, hN2 _ rfl⟩
    rintro _ rfl
    refine seq_mid (M := fun s' => s' = ⟨[some (.val (.obj fl)), some (.val (.obj a)), some (.val (.lst ([true, false, false].map .bl)))], ()⟩) ?_ ?_
    rotate_left
    · intro N2 hN2
      refine ⟨[true, false, false], rfl, true, rfl, ⟨rfl, rfl, Nat.zero_le _, Nat.zero_le _⟩, fun hc => (by cases hc), fun _ => ⟨rfl, (.head _), true, rfl, ⟨fun hc => (by cases hc), fun _ => hN2 _ rfl⟩⟩⟩
    rintro _ rfl
    refine seq_mid (M := fun s' => s' = ⟨[some (.val (.obj fl)), some (.val (.obj a)), some (.val (.lst ([true, false, false].map .bl)))], ()⟩) ?_ ?_
    rotate_left
    · intro N2 hN2
      exact ⟨rfl, (.head _), false, rfl, ⟨fun hc => (by cases hc), fun _ => hN2 _ rfl⟩⟩
    rintro _ rfl
    refine ⟨by show 3 ≤ sizeLine; omega, [true, false, false], rfl, true, 0, rfl, rfl, ?_, _, rfl, hr⟩
    intro m hm
    omega
  · have hx : c = "LastItem" := hx
    subst hx
    refine ⟨rfl, fun a => ?_⟩
    refine seq_mid (M := fun s' => s' = ⟨[some (.val (.obj fl)), some (.val (.obj a)), some (.val (.lst ([false, true, false].map .bl)))], ()⟩) ?_ ?_
    rotate_left
    · intro N2 hN2
      exact ⟨rfl, (.tail _ (.head _)), _, rfl, rfl, (.tail _ (.head _)), _, rfl, rfl, (.tail _ (.head _)), _, rfl, by show 3 ≤ sizeLine; omega, hN2 _ rfl⟩
    rintro _ rfl
    refine seq_mid (M := fun s' => s' = ⟨[some (.val (.obj fl)), some (.val (.obj a)), some (.val (.lst ([false, true, false].map .bl)))], ()⟩) ?_ ?_
    rotate_left
    · intro N2 hN2
      refine ⟨[false, true, false], rfl, true, rfl, ⟨rfl, rfl, Nat.zero_le _, Nat.zero_le _⟩, fun hc => (by cases hc), fun _ => ⟨rfl, (.tail _ (.head _)), true, rfl, ⟨fun hc => (by cases hc), fun _ => hN2 _ rfl⟩⟩⟩
    rintro _ rfl
    refine seq_mid (M := fun s' => s' = ⟨[some (.val (.obj fl)), some (.val (.obj a)), some (.val (.lst ([false, true, false].map .bl)))], ()⟩) ?_ ?_
    rotate_left
    · intro N2 hN2
      exact ⟨rfl, (.tail _ (.head _)), false, rfl, ⟨fun hc => (by cases hc), fun _ => hN2 _ rfl⟩⟩
    rintro _ rfl
    refine ⟨by show 3 ≤ sizeLine; omega, [false, true, false], rfl, true, 1, rfl, rfl, ?_, _, rfl, hr⟩
    intro m hm
    obtain rfl : m = 0 := by omega
    simp
  · have hx : c = "OutOfRange" := hx
    subst hx
    refine ⟨rfl, fun a => ?_⟩
    refine seq_mid (M := fun s' => s' = ⟨[some (.val (.obj fl)), some (.val (.obj a)), some (.val (.lst ([false, false, true].map .bl)))], ()⟩) ?_ ?_
    rotate_left
    · intro N2 hN2
      exact ⟨rfl, (.tail _ (.tail _ (.head _))), _, rfl, rfl, (.tail _ (.tail _ (.head _))), _, rfl, rfl, (.tail _ (.tail _ (.head _))), _, rfl, by show 3 ≤ sizeLine; omega, hN2 _ rfl⟩
    rintro _ rfl
    refine seq_mid (M := fun s' => s' = ⟨[some (.val (.obj fl)), some (.val (.obj a)), some (.val (.lst ([false, false, true].map .bl)))], ()⟩) ?_ ?_
    rotate_left
    · intro N2 hN2
      refine ⟨[false, false, true], rfl, true, rfl, ⟨rfl, rfl, Nat.zero_le _, Nat.zero_le _⟩, fun hc => (by cases hc), fun _ => ⟨rfl, (.tail _ (.tail _ (.head _))), true, rfl, ⟨fun hc => (by cases hc), fun _ => hN2 _ rfl⟩⟩⟩
    rintro _ rfl
    refine seq_mid (M := fun s' => s' = ⟨[some (.val (.obj fl)), some (.val (.obj a)), some (.val (.lst ([false, false, true].map .bl)))], ()⟩) ?_ ?_
    rotate_left
    · intro N2 hN2
      exact ⟨rfl, (.tail _ (.tail _ (.head _))), false, rfl, ⟨fun hc => (by cases hc), fun _ => hN2 _ rfl⟩⟩
    rintro _ rfl
    refine ⟨by show 3 ≤ sizeLine; omega, [false, false, true], rfl, true, 2, rfl, rfl, ?_, _, rfl, hr⟩
    intro m hm
    rcases (show m = 0 ∨ m = 1 by omega) with rfl | rfl <;> simp

def t_is_integer_8a5f : PSx Unit := (qRet (qAndV (qIsi "int" (qVar 0)) (qNotV (qIsi "bool" (qVar 0)))))

def sp_is_integer_8a5f : Spec0 := fun ds R => ∃ d : D, ds = [d] ∧ (∀ p, d ≠ .obj p) ∧ R (.bl (isI d))
theorem len_is_integer_8a5f (ds : List D) (R : DK) (h : sp_is_integer_8a5f ds R) : ds.length = 1 := by
  obtain ⟨d, rfl, _⟩ := h; rfl
theorem p_is_integer_8a5f (ds : List D) (R : DK) (h : sp_is_integer_8a5f ds R) : t_is_integer_8a5f { nx := fun _ => R .non, rt := fun d _ => R d } ⟨startL 1 ds, ()⟩ := by
  obtain ⟨d, rfl, ho, h⟩ := h
  refine ⟨ho, ⟨fun hc => ⟨ho, ?_⟩, fun hc => ?_⟩⟩
  · cases d <;> first | exact h | cases hc
  · cases d <;> first | exact h | cases hc

def t_is_within_3133 : PSx Unit := (qRet (qAndV (qCallP (sp_is_integer_8a5f) (qCons (qVar 0) qNil)) (qChain leD leD (qVar 1) (qVar 0) (qVar 2))))

def sp_is_within_3133 : Spec0 := fun ds R => ∃ (d : D) (lo hi : Int), ds = [d, .int lo, .int hi] ∧ (∀ p, d ≠ .obj p) ∧ R (.bl (inI lo hi d))
theorem len_is_within_3133 (ds : List D) (R : DK) (h : sp_is_within_3133 ds R) : ds.length = 3 := by
  obtain ⟨d, _, _, rfl, _⟩ := h; rfl
theorem p_is_within_3133 (ds : List D) (R : DK) (h : sp_is_within_3133 ds R) : t_is_within_3133 { nx := fun _ => R .non, rt := fun d _ => R d } ⟨startL 3 ds, ()⟩ := by
  obtain ⟨d, lo, hi, rfl, ho, h⟩ := h
  refine ⟨d, rfl, ho, ⟨fun hc => ?_, fun hc => ?_⟩⟩
  · cases d with
    | int i =>
      by_cases h1 : lo ≤ i
      · show match D.bl (decide (lo ≤ i)) with | .bl true => _ | .bl false => _ | _ => False
        have e : inI lo hi (.int i) = decide (i ≤ hi) := by simp [inI, h1]
        rw [e] at h
        rw [decide_eq_true h1]; exact h
      · show match D.bl (decide (lo ≤ i)) with | .bl true => _ | .bl false => _ | _ => False
        have e : inI lo hi (.int i) = false := by simp [inI, h1]
        rw [e] at h
        rw [decide_eq_false h1]; exact h
    | _ => cases hc
  · cases d <;> first | exact h | cases hc

def t_is_mark_f168 : PSx Unit := (qRet (qCallP (sp_is_within_3133) (qCons (qVar 0) (qCons (qBin subD (qC (.int 0)) (qC (.int 1000000000))) (qCons (qC (.int 1000000000)) qNil)))))

def sp_is_mark_f168 : Spec0 := fun ds R => ∃ d : D, ds = [d] ∧ (∀ p, d ≠ .obj p) ∧ R (.bl (inI (-(10 ^ 9)) (10 ^ 9) d))
theorem len_is_mark_f168 (ds : List D) (R : DK) (h : sp_is_mark_f168 ds R) : ds.length = 1 := by
  obtain ⟨d, rfl, _⟩ := h; rfl
theorem p_is_mark_f168 (ds : List D) (R : DK) (h : sp_is_mark_f168 ds R) : t_is_mark_f168 { nx := fun _ => R .non, rt := fun d _ => R d } ⟨startL 1 ds, ()⟩ := by
  obtain ⟨d, rfl, ho, h⟩ := h
  exact ⟨d, -(10 ^ 9), 10 ^ 9, rfl, ho, h⟩

def t_is_weight_6941 : PSx Unit := (qRet (qCallP (sp_is_within_3133) (qCons (qVar 0) (qCons (qC (.int 1)) (qCons (qC (.int 1000000)) qNil)))))

def sp_is_weight_6941 : Spec0 := fun ds R => ∃ d : D, ds = [d] ∧ (∀ p, d ≠ .obj p) ∧ R (.bl (inI 1 (10 ^ 6) d))
theorem len_is_weight_6941 (ds : List D) (R : DK) (h : sp_is_weight_6941 ds R) : ds.length = 1 := by
  obtain ⟨d, rfl, _⟩ := h; rfl
theorem p_is_weight_6941 (ds : List D) (R : DK) (h : sp_is_weight_6941 ds R) : t_is_weight_6941 { nx := fun _ => R .non, rt := fun d _ => R d } ⟨startL 1 ds, ()⟩ := by
  obtain ⟨d, rfl, ho, h⟩ := h
  exact ⟨d, 1, 10 ^ 6, rfl, ho, h⟩

def t_checked_7d9fx : PSXx Unit := (xSeq (xIf (qNot (qB (qCall (fn1 allD) (qCons (qSet (qLc (qItems (qVar 0)) (.tp [(.nm 2), (.nm 3)]) [2, 3] qYes (qAndV (qCallP (sp_is_mark_f168) (qCons (qVar 2) qNil)) (qCallP (sp_is_weight_6941) (qCons (qVar 3) qNil))))) qNil)))) (xRaise "OutOfRange") (xs0 qNext)) (xs0 (qRet (qTup (qCons (qVar 0) (qCons (qVar 1) qNil))))))

def itOB (q : Int × Int) : Bool := inI (-(10 ^ 9)) (10 ^ 9) (.int q.1) && inI 1 (10 ^ 6) (.int q.2)
theorem itOB_iff (q : Int × Int) : itOB q = true ↔ ItOk q := by
  show ((decide (-(10 ^ 9) ≤ q.1) && decide (q.1 ≤ 10 ^ 9)) && (decide (1 ≤ q.2) && decide (q.2 ≤ 10 ^ 6))) = true ↔ _
  simp only [Bool.and_eq_true, decide_eq_true_eq]
  constructor
  · rintro ⟨⟨a, b⟩, c, d⟩; exact ⟨a, b, c, d⟩
  · rintro ⟨a, b, c, d⟩; exact ⟨⟨a, b⟩, c, d⟩
def sp_checked_7d9fx : SpecX := fun ds R W => ∃ p : Pan, ds = [.tup (p.its.map itD), .tup (p.rus.map itD)] ∧ p.its.length ≤ 1000 ∧ ((∀ q ∈ p.its, ItOk q) → R (panD p)) ∧ ((¬ ∀ q ∈ p.its, ItOk q) → W ⟨"OutOfRange", none⟩)
theorem len_checked_7d9fx (ds : List D) (R : DK) (W : Xc → Prop) (h : sp_checked_7d9fx ds R W) : ds.length = 2 := by
  obtain ⟨_, rfl, _⟩ := h; rfl
theorem p_checked_7d9fx (ds : List D) (R : DK) (W : Xc → Prop) (h : sp_checked_7d9fx ds R W) : t_checked_7d9fx (fun x _ => W x) { nx := fun _ => R .non, rt := fun d _ => R d } ⟨startL 4 ds, ()⟩ := by
  obtain ⟨p, rfl, hn, h, hw⟩ := h
  have line : (10000000 : Nat) ≤ sizeLine := line_big
  have nx : ∀ i : Int, ∀ p, D.int i ≠ .obj p := fun _ _ h => by cases h
  refine lc_mapl p.its itD (fun q => D.bl (itOB q)) (by omega) (fun q hm => ⟨_, rfl, fun T hT => ?_⟩) ?_ (by decide) (by rfl)
  · refine ⟨.int q.1, rfl, nx _, ?_⟩
    have hT : T (.bl (inI (-(10 ^ 9)) (10 ^ 9) (.int q.1) && inI 1 (10 ^ 6) (.int q.2))) _ := hT
    cases e : inI (-(10 ^ 9)) (10 ^ 9) (.int q.1) with
    | true =>
      rw [e] at hT
      exact ⟨fun _ => ⟨.int q.2, rfl, nx _, hT⟩, fun z => (by cases z)⟩
    | false =>
      rw [e] at hT
      exact ⟨fun z => (by cases z), fun _ => hT⟩
  · have e : (p.its.map fun q => D.bl (itOB q)) = (p.its.map itOB).map D.bl := by rw [List.map_map]; rfl
    rw [e]
    refine ⟨_, asBls_map _, ?_⟩
    cases e2 : (p.its.map itOB).all id with
    | true =>
      refine ⟨fun z => (by cases z), fun _ => ⟨by show 2 ≤ sizeLine; omega, h fun q hq => (itOB_iff q).mp ?_⟩⟩
      exact (List.all_eq_true.mp e2) _ (List.mem_map.mpr ⟨q, hq, rfl⟩)
    | false =>
      refine ⟨fun _ => hw fun hq => ?_, fun z => (by cases z)⟩
      have : (p.its.map itOB).all id = true := by
        rw [List.all_eq_true]
        intro b hb
        obtain ⟨q, hq', rfl⟩ := List.mem_map.mp hb
        exact (itOB_iff q).mpr (hq q hq')
      rw [e2] at this; cases this

def t_shift_panel_0a39x : PSXx Unit := (xSeq (xs0 (qAsgT (qVar 0) (.tp [(.nm 2), (.nm 3)]))) (xRet (qCallX (sp_checked_7d9fx) (qCons (qCall (fn1 tupleD) (qCons (qSet (qLc (qItems (qVar 2)) (.tp [(.nm 4), (.nm 5)]) [4, 5] qYes (qTup (qCons (qBin addD (qVar 4) (qVar 1)) (qCons (qVar 5) qNil))))) qNil)) (qCons (qVar 3) qNil)))))

def sp_shift_panel_0a39x : SpecX := fun ds R W => ∃ (p : Pan) (a : Int), ds = [panD p, .int a] ∧ p.its.length ≤ 1000 ∧ ((∀ q ∈ (shPn p a).its, ItOk q) → R (panD (shPn p a))) ∧ ((¬ ∀ q ∈ (shPn p a).its, ItOk q) → W ⟨"OutOfRange", none⟩)
theorem len_shift_panel_0a39x (ds : List D) (R : DK) (W : Xc → Prop) (h : sp_shift_panel_0a39x ds R W) : ds.length = 2 := by
  obtain ⟨_, _, rfl, _⟩ := h; rfl
theorem p_shift_panel_0a39x (ds : List D) (R : DK) (W : Xc → Prop) (h : sp_shift_panel_0a39x ds R W) : t_shift_panel_0a39x (fun x _ => W x) { nx := fun _ => R .non, rt := fun d _ => R d } ⟨startL 6 ds, ()⟩ := by
  obtain ⟨p, a, rfl, hn, h, hw⟩ := h
  have line : (10000000 : Nat) ≤ sizeLine := line_big
  refine seq_mid (M := fun s' => s' = ⟨[some (.val (panD p)), some (.val (.int a)), some (.val (.tup (p.its.map itD))), some (.val (.tup (p.rus.map itD))), none, none], ()⟩) ?_ ?_
  rotate_left
  · intro N hN; exact put_tg (tg := .tp [.nm 2, .nm 3]) (d := .tup [.tup (p.its.map itD), .tup (p.rus.map itD)]) rfl (hN _ rfl)
  rintro _ rfl
  refine lc_mapl p.its itD (fun q => itD (q.1 + a, q.2)) (by omega) (fun q hm => ⟨_, rfl, fun T hT => ⟨by show 2 ≤ sizeLine; omega, hT⟩⟩) ?_ (by decide) (by rfl)
  have e : p.its.map (fun q => itD (q.1 + a, q.2)) = (shPn p a).its.map itD := by unfold shPn; rw [List.map_map]; rfl
  rw [e]
  exact ⟨shPn p a, rfl, by show (p.its.map _).length ≤ 1000; rw [List.length_map]; exact hn, h, hw⟩

def t_scale_panel_72bax : PSXx Unit := (xSeq (xs0 (qAsgT (qVar 0) (.tp [(.nm 2), (.nm 3)]))) (xRet (qCallX (sp_checked_7d9fx) (qCons (qCall (fn1 tupleD) (qCons (qSet (qLc (qItems (qVar 2)) (.tp [(.nm 4), (.nm 5)]) [4, 5] qYes (qTup (qCons (qBin mulD (qVar 4) (qVar 1)) (qCons (qVar 5) qNil))))) qNil)) (qCons (qVar 3) qNil)))))

def sp_scale_panel_72bax : SpecX := fun ds R W => ∃ (p : Pan) (a : Int), ds = [panD p, .int a] ∧ p.its.length ≤ 1000 ∧ Sz 1000 a ∧ (∀ q ∈ p.its, ItOk q) ∧ ((∀ q ∈ (scPn p a).its, ItOk q) → R (panD (scPn p a))) ∧ ((¬ ∀ q ∈ (scPn p a).its, ItOk q) → W ⟨"OutOfRange", none⟩)
theorem len_scale_panel_72bax (ds : List D) (R : DK) (W : Xc → Prop) (h : sp_scale_panel_72bax ds R W) : ds.length = 2 := by
  obtain ⟨_, _, rfl, _⟩ := h; rfl
theorem p_scale_panel_72bax (ds : List D) (R : DK) (W : Xc → Prop) (h : sp_scale_panel_72bax ds R W) : t_scale_panel_72bax (fun x _ => W x) { nx := fun _ => R .non, rt := fun d _ => R d } ⟨startL 6 ds, ()⟩ := by
  obtain ⟨p, a, rfl, hn, hk, hq, h, hw⟩ := h
  have line : (10000000 : Nat) ≤ sizeLine := line_big
  refine seq_mid (M := fun s' => s' = ⟨[some (.val (panD p)), some (.val (.int a)), some (.val (.tup (p.its.map itD))), some (.val (.tup (p.rus.map itD))), none, none], ()⟩) ?_ ?_
  rotate_left
  · intro N hN; exact put_tg (tg := .tp [.nm 2, .nm 3]) (d := .tup [.tup (p.its.map itD), .tup (p.rus.map itD)]) rfl (hN _ rfl)
  rintro _ rfl
  refine lc_mapl p.its itD (fun q => itD (q.1 * a, q.2)) (by omega) (fun q hm => ⟨_, rfl, fun T hT => ⟨(ItOk.sz (hq q hm)).1.mulOk hk, by show 2 ≤ sizeLine; omega, hT⟩⟩) ?_ (by decide) (by rfl)
  have e : p.its.map (fun q => itD (q.1 * a, q.2)) = (scPn p a).its.map itD := by unfold scPn; rw [List.map_map]; rfl
  rw [e]
  exact ⟨scPn p a, rfl, by show (p.its.map _).length ≤ 1000; rw [List.length_map]; exact hn, h, hw⟩

def t_weigh_panel_fe94x : PSXx Unit := (xSeq (xs0 (qAsgT (qVar 0) (.tp [(.nm 2), (.nm 3)]))) (xRet (qCallX (sp_checked_7d9fx) (qCons (qCall (fn1 tupleD) (qCons (qSet (qLc (qItems (qVar 2)) (.tp [(.nm 4), (.nm 5)]) [4, 5] qYes (qTup (qCons (qVar 4) (qCons (qBin mulD (qVar 5) (qVar 1)) qNil))))) qNil)) (qCons (qVar 3) qNil)))))

def sp_weigh_panel_fe94x : SpecX := fun ds R W => ∃ (p : Pan) (a : Int), ds = [panD p, .int a] ∧ p.its.length ≤ 1000 ∧ Sz 1000 a ∧ (∀ q ∈ p.its, ItOk q) ∧ ((∀ q ∈ (wgPn p a).its, ItOk q) → R (panD (wgPn p a))) ∧ ((¬ ∀ q ∈ (wgPn p a).its, ItOk q) → W ⟨"OutOfRange", none⟩)
theorem len_weigh_panel_fe94x (ds : List D) (R : DK) (W : Xc → Prop) (h : sp_weigh_panel_fe94x ds R W) : ds.length = 2 := by
  obtain ⟨_, _, rfl, _⟩ := h; rfl
theorem p_weigh_panel_fe94x (ds : List D) (R : DK) (W : Xc → Prop) (h : sp_weigh_panel_fe94x ds R W) : t_weigh_panel_fe94x (fun x _ => W x) { nx := fun _ => R .non, rt := fun d _ => R d } ⟨startL 6 ds, ()⟩ := by
  obtain ⟨p, a, rfl, hn, hk, hq, h, hw⟩ := h
  have line : (10000000 : Nat) ≤ sizeLine := line_big
  refine seq_mid (M := fun s' => s' = ⟨[some (.val (panD p)), some (.val (.int a)), some (.val (.tup (p.its.map itD))), some (.val (.tup (p.rus.map itD))), none, none], ()⟩) ?_ ?_
  rotate_left
  · intro N hN; exact put_tg (tg := .tp [.nm 2, .nm 3]) (d := .tup [.tup (p.its.map itD), .tup (p.rus.map itD)]) rfl (hN _ rfl)
  rintro _ rfl
  refine lc_mapl p.its itD (fun q => itD (q.1, q.2 * a)) (by omega) (fun q hm => ⟨_, rfl, fun T hT => ⟨(ItOk.sz (hq q hm)).2.mulOk hk, by show 2 ≤ sizeLine; omega, hT⟩⟩) ?_ (by decide) (by rfl)
  have e : p.its.map (fun q => itD (q.1, q.2 * a)) = (wgPn p a).its.map itD := by unfold wgPn; rw [List.map_map]; rfl
  rw [e]
  exact ⟨wgPn p a, rfl, by show (p.its.map _).length ≤ 1000; rw [List.length_map]; exact hn, h, hw⟩

def t_amounts_right_aed0 (r : Addr) : PSx Nat := (qSeq (qAsgT (qCallP (sp_room_5b7c) (qCons (qVar 1) qNil)) (.tp [(.nm 2), (.nm 3), (.nm 4), (.nm 5)])) (qSeq (qIf (qB (qBin eqD (qSet (qLc (qItems (qBin ixD (qVar 1) (qC (.int 0)))) (.tp [(.nm 10), (.nm 11)]) [10, 11] (qB (qBin neD (qVar 10) (qC (.int 0)))) (qVar 10))) (qSet (qLst qNil)))) (qAsg (qBin powD (qC (.int 10)) (qC (.int 30))) 4) qNext) (qSeq (qAsg (qSet (qLst (qCons (qBin subD (qVar 2) (qC (.int 1))) (qCons (qVar 2) (qCons (qC (.int 0)) (qCons (qVar 3) (qCons (qBin addD (qVar 3) (qC (.int 1))) (qCons (qBin powD (qC (.int 10)) (qC (.int 29))) (qCons (qUn negD (qBin powD (qC (.int 10)) (qC (.int 29)))) (qCons (qBin mulD (qC (.int 2)) (qBin powD (qC (.int 10)) (qC (.int 9)))) (qCons (qBin addD (qVar 2) (qCallG (sp_size_3de8 r) (qCons (qVar 0) (qCons (qBin subD (qVar 3) (qVar 2)) qNil)))) qNil))))))))))) 6) (qSeq (qFor (qItems (qVar 6)) (.nm 7) (qSeq (qAsg (qBin ixD (qSet (qLst (qCons (qC (.str "OutOfRange")) (qCons (qC (.str "ok")) qNil)))) (qCall (fn1 intD) (qCons (qChain leD leD (qVar 2) (qVar 7) (qVar 3)) qNil))) 8) (qIf (qB (qBin neD (qLam sp_refused_b2f4 (qCallX (sp_shift_panel_0a39x) (qCons (qVar 1) (qCons (qVar 7) qNil)))) (qVar 8))) (qRet (qC (.bl false))) qNext))) (qSeq (qFor (qItems (qSet (qLst (qCons (qC (.int 1)) (qCons (qVar 4) (qCons (qBin addD (qVar 4) (qC (.int 1))) (qCons (qVar 5) (qCons (qBin addD (qVar 5) (qC (.int 1))) (qCons (qBin powD (qC (.int 10)) (qC (.int 29))) (qCons (qC (.int 2)) (qCons (qBin powD (qC (.int 10)) (qC (.int 6))) qNil))))))))))) (.nm 9) (qIf (qB (qBin ltD (qVar 9) (qBin powD (qC (.int 10)) (qC (.int 30))))) (qSeq (qAsg (qBin ixD (qSet (qLst (qCons (qC (.str "OutOfRange")) (qCons (qC (.str "ok")) qNil)))) (qCall (fn1 intD) (qCons (qBin leD (qVar 9) (qVar 4)) qNil))) 8) (qSeq (qIf (qB (qBin neD (qLam sp_refused_b2f4 (qCallX (sp_scale_panel_72bax) (qCons (qVar 1) (qCons (qVar 9) qNil)))) (qVar 8))) (qRet (qC (.bl false))) qNext) (qSeq (qAsg (qBin ixD (qSet (qLst (qCons (qC (.str "OutOfRange")) (qCons (qC (.str "ok")) qNil)))) (qCall (fn1 intD) (qCons (qBin leD (qVar 9) (qVar 5)) qNil))) 8) (qIf (qB (qBin neD (qLam sp_refused_b2f4 (qCallX (sp_weigh_panel_fe94x) (qCons (qVar 1) (qCons (qVar 9) qNil)))) (qVar 8))) (qRet (qC (.bl false))) qNext)))) qNext)) (qRet (qC (.bl true))))))))

theorem chain_le {γ : Type} {i j k : Nat} {x y w : Int} {s : S γ} {R : D → S γ → Prop} (hi : s.ρ[i]? = some (some (.val (.int x)))) (hj : s.ρ[j]? = some (some (.val (.int y)))) (hk : s.ρ[k]? = some (some (.val (.int w)))) (h : R (.bl (decide (x ≤ y ∧ y ≤ w))) s) : qChain leD leD (qVar i) (qVar j) (qVar k) s R := by
  have qv : ∀ (i : Nat) (d : D), s.ρ[i]? = some (some (.val d)) → ∀ T : D → S γ → Prop, T d s → qVar i s T := fun i d e T h => by unfold qVar; rw [e]; exact h
  refine qv i _ hi _ ?_
  refine qv j _ hj _ ?_
  have e : (leD (.int x) (.int y)) = fun K : DK => K (.bl (decide (x ≤ y))) := rfl
  rw [e]
  by_cases h1 : x ≤ y
  · rw [decide_eq_true h1]
    refine qv k _ hk _ ?_
    have e2 : decide (x ≤ y ∧ y ≤ w) = decide (y ≤ w) := by simp [h1]
    rw [e2] at h
    exact h
  · rw [decide_eq_false h1]
    have e2 : decide (x ≤ y ∧ y ≤ w) = false := by simp [h1]
    rw [e2] at h
    exact h
def sp_amounts_right_aed0 (r : Addr) : Spec Nat := fun ds g R => ∃ p : Pan, ds = [.obj r, panD p] ∧ PanOk 8 p ∧ g + 2 < drawLine ∧ R (.bl true) (g + 3)
theorem len_amounts_right_aed0 (r : Addr) (ds : List D) (g : Nat) (R : D → Nat → Prop) (h : sp_amounts_right_aed0 r ds g R) : ds.length = 2 := by
  obtain ⟨_, rfl, _⟩ := h; rfl
theorem p_amounts_right_aed0 (r : Addr) (ds : List D) (g : Nat) (R : D → Nat → Prop) (h : sp_amounts_right_aed0 r ds g R) : t_amounts_right_aed0 r { nx := fun s => R .non s.g, rt := R } ⟨startL 12 ds, g⟩ := by
  obtain ⟨p, rfl, hp, hg, h⟩ := h
  have line : (10000000 : Nat) ≤ sizeLine := line_big
  have h8 := hp.top
  have c9 : CPow 10 9 := ⟨by decide, by decide, by decide⟩
  have c6 : CPow 10 6 := ⟨by decide, by decide, by decide⟩
  have c29 : CPow 10 29 := ⟨by decide, by decide, by decide⟩
  have c30 : CPow 10 30 := ⟨by decide, by decide, by decide⟩
  let O := some (L.val (.obj r))
  let P := some (L.val (panD p))
  let I (i : Int) := some (L.val (.int i))
  have szB : ∀ a : Int, -(10 ^ 31) ≤ a → a ≤ 10 ^ 31 → Sz 1000 a := fun a a1 a2 => by
    have : Sz 200 a := by
      unfold Sz
      have e : (10 : Nat) ^ 31 < 2 ^ 200 := by decide
      omega
    exact this.le (by decide)
  refine seq_mid (M := fun s' => ∃ lo hi mo he, RoomX p lo hi mo he ∧ s' = ⟨[O, P, I lo, I hi, I mo, I he, none, none, none, none, none, none], g⟩) ?_ ?_
  rotate_left
  · intro N hN
    exact ⟨p, rfl, hp, fun lo hi mo he hr => put_tg (tg := .tp [.nm 2, .nm 3, .nm 4, .nm 5]) rfl (hN _ ⟨lo, hi, mo, he, hr, rfl⟩)⟩
  rintro _ ⟨lo, hi, mo, he, hr, rfl⟩
  obtain ⟨hle, ⟨b1, b2⟩, sh, ⟨m1, m2⟩, sc, ⟨e1, e2⟩, wg⟩ := hr
  refine seq_mid (M := fun s' => ∃ m : Int, (1 ≤ m ∧ m ≤ 10 ^ 30) ∧ (∀ x, 1 ≤ x → x < 10 ^ 30 → (x ≤ m ↔ ∀ q ∈ p.its, -(10 ^ 9) ≤ q.1 * x ∧ q.1 * x ≤ 10 ^ 9)) ∧ s' = ⟨[O, P, I lo, I hi, I m, I he, none, none, none, none, none, none], g⟩) ?_ ?_
  rotate_left
  · intro N hN
    refine ⟨_, rfl, ?_⟩
    refine lc_list p.its itD (fun q => decide (q.1 ≠ 0)) (fun q => D.int q.1) (by omega) (fun q hq => ⟨_, rfl, fun T h => ⟨⟨rfl, rfl, Nat.zero_le _, Nat.zero_le _⟩, ?_⟩, fun _ T h => h⟩) ?_ (by decide) (by rfl)
    · have e : (!decide (q.1 = 0)) = decide (q.1 ≠ 0) := by simp
      show T (!decide (q.1 = 0)) _
      rw [e]; exact h
    · refine ⟨by show 0 ≤ sizeLine; omega, ?_⟩
      have pl : ∀ l : List (Int × Int), (D.lst (l.map fun q => D.int q.1)).pln = true ∧ (D.lst (l.map fun q => D.int q.1)).dep ≤ 64 := fun l => by
        have e : (l.map fun q => D.int q.1) = (l.map fun q => q.1).map D.int := by rw [List.map_map]; rfl
        rw [e]
        exact ⟨plns_ints _, by show D.deps _ + 1 ≤ 64; rw [deps_ints]; decide⟩
      cases ef : p.its.filter (fun q => decide (q.1 ≠ 0)) with
      | nil =>
        refine ⟨⟨rfl, rfl, by decide, by decide⟩, fun _ => ⟨c30, hN _ ⟨10 ^ 30, ⟨by decide, by decide⟩, fun x x0 x1 => ⟨fun _ q hq => ?_, fun _ => by omega⟩, rfl⟩⟩, fun z => (by cases z)⟩
        have hz : q.1 = 0 := by
          apply Classical.byContradiction
          intro hz
          have : q ∈ p.its.filter (fun q => decide (q.1 ≠ 0)) := List.mem_filter.mpr ⟨hq, decide_eq_true hz⟩
          rw [ef] at this; cases this
        rw [hz, Int.zero_mul]; decide
      | cons q0 l =>
        obtain ⟨hq0, hz0⟩ := List.mem_filter.mp (show q0 ∈ p.its.filter (fun q => decide (q.1 ≠ 0)) by rw [ef]; exact List.mem_cons_self)
        refine ⟨⟨(pl _).1, rfl, (pl _).2, by decide⟩, fun z => (by cases z), fun _ => hN _ ⟨mo, ⟨m1, by omega⟩, fun x x0 _ => sc ⟨q0, hq0, of_decide_eq_true hz0⟩ x x0, rfl⟩⟩
  rintro _ ⟨m, ⟨n1, n2⟩, sc2, rfl⟩
  let DU (b : Bool) : D := if b then .str "ok" else .str "OutOfRange"
  refine seq_mid (M := fun s' => ∃ as : List Int, (∀ a ∈ as, Sz 1000 a) ∧ s' = ⟨[O, P, I lo, I hi, I m, I he, some (.val (.lst (as.map D.int))), none, none, none, none, none], g + 3⟩) ?_ ?_
  rotate_left
  · intro N hN
    refine ⟨c29, c29, c9, .inl (.inl ⟨by decide, by decide⟩), hi - lo, rfl, by omega, by omega, hg, fun v v0 v1 => ⟨by show 9 ≤ sizeLine; omega, hN _ ⟨[lo - 1, lo, 0, hi, hi + 1, 10 ^ 29, -10 ^ 29, 2 * 10 ^ 9, lo + v], fun a ha => ?_, rfl⟩⟩⟩
    simp only [List.mem_cons, List.not_mem_nil, or_false] at ha
    rcases ha with rfl | rfl | rfl | rfl | rfl | rfl | rfl | rfl | rfl <;> apply szB <;> omega
  rintro _ ⟨as, has, rfl⟩
  let A := some (L.val (.lst (as.map D.int)))
  refine seq_mid (M := fun s' => s' = ⟨[O, P, I lo, I hi, I m, I he, A, none, none, none, none, none], g + 3⟩) ?_ ?_
  rotate_left
  · intro N hN
    show ∃ I : Nat → S Nat → Prop, _
    refine ⟨fun k s => s = ⟨[O, P, I lo, I hi, I m, I he, A, none, none, none, none, none], g + 3⟩, ⟨_, Wk.refl _, rfl⟩, ?_, ?_⟩
    · rintro k d s hd rfl
      rw [List.getElem?_map] at hd
      obtain ⟨a, ha, rfl⟩ := Option.map_eq_some_iff.mp hd
      refine put_nm ?_
      refine seq_mid (M := fun s' => ∃ b : Bool, (b = true ↔ (lo ≤ a ∧ a ≤ hi)) ∧ s' = ⟨[O, P, I lo, I hi, I m, I he, A, I a, some (.val (DU b)), none, none, none], g + 3⟩) ?_ ?_
      rotate_left
      · intro N2 hN2
        refine ⟨by show 2 ≤ sizeLine; omega, ?_⟩
        refine chain_le (i := 2) (j := 7) (k := 3) (x := lo) (y := a) (w := hi) (s := ⟨[O, P, I lo, I hi, I m, I he, A, I a, none, none, none, none], g + 3⟩) rfl rfl rfl ?_
        cases hc : decide (lo ≤ a ∧ a ≤ hi) with
        | true => exact ⟨.str "ok", rfl, hN2 _ ⟨true, ⟨fun _ => of_decide_eq_true hc, fun _ => rfl⟩, rfl⟩⟩
        | false => exact ⟨.str "OutOfRange", rfl, hN2 _ ⟨false, ⟨fun z => (by cases z), fun z => absurd z (of_decide_eq_false hc)⟩, rfl⟩⟩
      rintro _ ⟨b, hb, rfl⟩
      have hb2 : b = true ↔ ∀ q ∈ (shPn p a).its, ItOk q := by
        rw [hb, sh]
        constructor
        · intro z q hq
          obtain ⟨q0, hq0, rfl⟩ := List.mem_map.mp hq
          have := hp.it q0 hq0
          exact ⟨(z q0 hq0).1, (z q0 hq0).2, this.2.2⟩
        · intro z q hq
          have := z _ (List.mem_map.mpr ⟨q, hq, rfl⟩)
          exact ⟨this.1, this.2.1⟩
      have fin : ∀ N3 : S Nat → Prop, N3 ⟨[O, P, I lo, I hi, I m, I he, A, I a, some (.val (DU b)), none, none, none], g + 3⟩ → qIf (qB (qBin neD (qLam sp_refused_b2f4 (qCallX (sp_shift_panel_0a39x) (qCons (qVar 1) (qCons (qVar 7) qNil)))) (qVar 8))) (qRet (qC (.bl false))) qNext { nx := N3, rt := R } ⟨[O, P, I lo, I hi, I m, I he, A, I a, some (.val (DU b)), none, none, none], g + 3⟩ := fun N3 h3 => by
        refine upO_of ?_
        refine ⟨p, a, rfl, by omega, fun hB => ?_, fun hB => ⟨.inr (.inr rfl), ?_⟩⟩
        · obtain rfl : b = true := hb2.mpr hB
          exact ⟨trivial, fun z => (by cases z), fun _ => h3⟩
        · obtain rfl : b = false := by
            cases b with
            | false => rfl
            | true => exact absurd (hb2.mp rfl) hB
          exact ⟨trivial, fun z => (by cases z), fun _ => h3⟩
      refine fin _ ?_
      exact ⟨_, Wk.of (by repeat' first | exact trivial | exact .inr rfl | exact .inl rfl | refine ⟨?_, ?_⟩), rfl⟩
    · rintro s ⟨_, rfl⟩
      exact hN _ rfl
  rintro _ rfl
  refine seq_mid (M := fun s' => s' = ⟨[O, P, I lo, I hi, I m, I he, A, none, none, none, none, none], g + 3⟩) ?_ ?_
  rotate_left
  · intro N hN
    let fs : List Int := [1, m, m + 1, he, he + 1, 10 ^ 29, 2, 10 ^ 6]
    have hfs : ∀ f ∈ fs, 1 ≤ f ∧ Sz 1000 f := fun f hf => by
      simp only [fs, List.mem_cons, List.not_mem_nil, or_false] at hf
      rcases hf with rfl | rfl | rfl | rfl | rfl | rfl | rfl | rfl <;> refine ⟨by omega, szB _ ?_ ?_⟩ <;> omega
    refine ⟨c29, c6, by show 8 ≤ sizeLine; omega, ?_⟩
    show ∃ I : Nat → S Nat → Prop, _
    refine ⟨fun k s => s = ⟨[O, P, I lo, I hi, I m, I he, A, none, none, none, none, none], g + 3⟩, ⟨_, Wk.refl _, rfl⟩, ?_, ?_⟩
    · rintro k d s hd rfl
      have hd : (fs.map D.int)[k]? = some d := hd
      rw [List.getElem?_map] at hd
      obtain ⟨f, hf, rfl⟩ := Option.map_eq_some_iff.mp hd
      obtain ⟨f1, fz⟩ := hfs f (List.mem_of_getElem? hf)
      refine put_nm ?_
      refine ⟨c30, fun hc => ?_, fun _ => ⟨_, Wk.of (by repeat' first | exact trivial | exact .inr rfl | exact .inl rfl | refine ⟨?_, ?_⟩), rfl⟩⟩
      have hc : decide (f < 10 ^ 30) = true := hc
      rw [decide_eq_true_eq] at hc
      let St (b : Bool) : S Nat := ⟨[O, P, I lo, I hi, I m, I he, A, none, some (.val (DU b)), I f, none, none], g + 3⟩
      refine seq_mid (M := fun s' => ∃ b : Bool, (b = true ↔ f ≤ m) ∧ s' = St b) ?_ ?_
      rotate_left
      · intro N2 hN2
        refine ⟨by show 2 ≤ sizeLine; omega, ?_⟩
        by_cases h2 : f ≤ m
        · refine ⟨.str "ok", ?_, hN2 _ ⟨true, ⟨fun _ => h2, fun _ => rfl⟩, rfl⟩⟩
          rw [decide_eq_true h2]; rfl
        · refine ⟨.str "OutOfRange", ?_, hN2 _ ⟨false, ⟨fun z => (by cases z), fun z => absurd z h2⟩, rfl⟩⟩
          rw [decide_eq_false h2]; rfl
      rintro _ ⟨b, hb, rfl⟩
      have hb2 : b = true ↔ ∀ q ∈ (scPn p f).its, ItOk q := by
        rw [hb, sc2 f f1 hc]
        constructor
        · intro z q hq
          obtain ⟨q0, hq0, rfl⟩ := List.mem_map.mp hq
          have := hp.it q0 hq0
          exact ⟨(z q0 hq0).1, (z q0 hq0).2, this.2.2⟩
        · intro z q hq
          have := z _ (List.mem_map.mpr ⟨q, hq, rfl⟩)
          exact ⟨this.1, this.2.1⟩
      refine seq_mid (M := fun s' => s' = St b) ?_ ?_
      rotate_left
      · intro N2 hN2
        refine upO_of ?_
        refine ⟨p, f, rfl, by omega, fz, fun q hq => hp.it q hq, fun hB => ?_, fun hB => ⟨.inr (.inr rfl), ?_⟩⟩
        · obtain rfl : b = true := hb2.mpr hB
          exact ⟨trivial, fun z => (by cases z), fun _ => hN2 _ rfl⟩
        · obtain rfl : b = false := by
            cases b with
            | false => rfl
            | true => exact absurd (hb2.mp rfl) hB
          exact ⟨trivial, fun z => (by cases z), fun _ => hN2 _ rfl⟩
      rintro _ rfl
      refine seq_mid (M := fun s' => ∃ b : Bool, (b = true ↔ f ≤ he) ∧ s' = St b) ?_ ?_
      rotate_left
      · intro N2 hN2
        refine ⟨by show 2 ≤ sizeLine; omega, ?_⟩
        by_cases h2 : f ≤ he
        · refine ⟨.str "ok", ?_, hN2 _ ⟨true, ⟨fun _ => h2, fun _ => rfl⟩, rfl⟩⟩
          rw [decide_eq_true h2]; rfl
        · refine ⟨.str "OutOfRange", ?_, hN2 _ ⟨false, ⟨fun z => (by cases z), fun z => absurd z h2⟩, rfl⟩⟩
          rw [decide_eq_false h2]; rfl
      rintro _ ⟨b, hb, rfl⟩
      have hb2 : b = true ↔ ∀ q ∈ (wgPn p f).its, ItOk q := by
        rw [hb, wg f f1]
        constructor
        · intro z q hq
          obtain ⟨q0, hq0, rfl⟩ := List.mem_map.mp hq
          have := hp.it q0 hq0
          exact ⟨this.1, this.2.1, z q0 hq0⟩
        · intro z q hq
          exact (z _ (List.mem_map.mpr ⟨q, hq, rfl⟩)).2.2
      refine upO_of ?_
      refine ⟨p, f, rfl, by omega, fz, fun q hq => hp.it q hq, fun hB => ?_, fun hB => ⟨.inr (.inr rfl), ?_⟩⟩
      · obtain rfl : b = true := hb2.mpr hB
        exact ⟨trivial, fun z => (by cases z), fun _ => ⟨_, Wk.of (by repeat' first | exact trivial | exact .inr rfl | exact .inl rfl | refine ⟨?_, ?_⟩), rfl⟩⟩
      · obtain rfl : b = false := by
          cases b with
          | false => rfl
          | true => exact absurd (hb2.mp rfl) hB
        exact ⟨trivial, fun z => (by cases z), fun _ => ⟨_, Wk.of (by repeat' first | exact trivial | exact .inr rfl | exact .inl rfl | refine ⟨?_, ?_⟩), rfl⟩⟩
    · rintro s ⟨_, rfl⟩
      exact hN _ rfl
  rintro _ rfl
  exact h

def t_without_item_d43ax : PSXx Unit := (xSeq (xs0 (qAsgT (qVar 0) (.tp [(.nm 2), (.nm 3)]))) (xSeq (xIf (qB (qBin eqD (qCall (fn1 lenD) (qCons (qVar 2) qNil)) (qC (.int 1)))) (xRaise "LastItem") (xs0 qNext)) (xs0 (qSeq (qAsg (qSet (qLc (qItems (qVar 3)) (.tp [(.nm 5), (.nm 6)]) [5, 6] (qB (qBin notInD (qVar 1) (qTup (qCons (qVar 5) (qCons (qVar 6) qNil))))) (qTup (qCons (qVar 5) (qCons (qVar 6) qNil))))) 4) (qSeq (qAsg (qSet (qLc (qItems (qVar 4)) (.tp [(.nm 5), (.nm 6)]) [5, 6] qYes (qTup (qCons (qBin subD (qVar 5) (qCall (fn1 intD) (qCons (qBin gtD (qVar 5) (qVar 1)) qNil))) (qCons (qBin subD (qVar 6) (qCall (fn1 intD) (qCons (qBin gtD (qVar 6) (qVar 1)) qNil))) qNil))))) 4) (qRet (qTup (qCons (qBin addD (qSl (qVar 2) qNoPart (qPart (qVar 1))) (qSl (qVar 2) (qPart (qBin addD (qVar 1) (qC (.int 1)))) qNoPart)) (qCons (qCall (fn1 tupleD) (qCons (qVar 4) qNil)) qNil)))))))))

def woP (p : Pan) (k : Nat) : Pan := ⟨p.its.take k ++ p.its.drop (k + 1), (p.rus.filter fun q => decide ((k : Int) ≠ q.1) && decide ((k : Int) ≠ q.2)).map fun q => (q.1 - (if (k : Int) < q.1 then 1 else 0), q.2 - (if (k : Int) < q.2 then 1 else 0))⟩
def sp_without_item_d43ax : SpecX := fun ds R W => ∃ (m : Nat) (p : Pan) (k : Nat), ds = [panD p, natD k] ∧ PanOk m p ∧ m ≤ 1000 ∧ (2 ≤ p.its.length → R (panD (woP p k))) ∧ (p.its.length = 1 → W ⟨"LastItem", none⟩)
theorem len_without_item_d43ax (ds : List D) (R : DK) (W : Xc → Prop) (h : sp_without_item_d43ax ds R W) : ds.length = 2 := by
  obtain ⟨_, _, _, rfl, _⟩ := h; rfl
theorem p_without_item_d43ax (ds : List D) (R : DK) (W : Xc → Prop) (h : sp_without_item_d43ax ds R W) : t_without_item_d43ax (fun x _ => W x) { nx := fun _ => R .non, rt := fun d _ => R d } ⟨startL 7 ds, ()⟩ := by
  obtain ⟨m, p, k, rfl, hp, hm, h, hw⟩ := h
  have line : (10000000 : Nat) ≤ sizeLine := line_big
  have ht := hp.top
  have hf := hp.few
  let P := some (L.val (panD p))
  let K := some (L.val (natD k))
  let I := some (L.val (.tup (p.its.map itD)))
  let U := some (L.val (.tup (p.rus.map itD)))
  refine seq_mid (M := fun s' => s' = ⟨[P, K, I, U, none, none, none], ()⟩) ?_ ?_
  rotate_left
  · intro N hN
    exact put_tg (tg := .tp [(.nm 2), (.nm 3)]) (d := panD p) rfl (hN _ rfl)
  rintro _ rfl
  refine seq_mid (M := fun s' => 2 ≤ p.its.length ∧ s' = ⟨[P, K, I, U, none, none, none], ()⟩) ?_ ?_
  rotate_left
  · intro N hN
    refine ⟨⟨rfl, rfl, Nat.zero_le _, Nat.zero_le _⟩, fun hc => ?_, fun hc => ?_⟩
    · have hc : decide (((p.its.map itD).length : Int) = 1) = true := hc
      rw [List.length_map, decide_eq_true_eq] at hc
      exact hw (by omega)
    · have hc : decide (((p.its.map itD).length : Int) = 1) = false := hc
      rw [List.length_map, decide_eq_false_iff_not] at hc
      have := hp.one
      exact hN _ ⟨by omega, rfl⟩
  rintro _ ⟨h2, rfl⟩
  have h := h h2
  let rs1 := p.rus.filter fun q => decide ((k : Int) ≠ q.1) && decide ((k : Int) ≠ q.2)
  have r1l : rs1.length ≤ 16 := Nat.le_trans (List.length_filter_le _ _) hf
  refine seq_mid (M := fun s' => s' = ⟨[P, K, I, U, some (.val (.lst (rs1.map itD))), none, none], ()⟩) ?_ ?_
  rotate_left
  · intro N hN
    refine lc_list p.rus itD (fun q => decide ((k : Int) ≠ q.1) && decide ((k : Int) ≠ q.2)) itD (by omega) (fun q hq => ⟨_, rfl, fun T h => ⟨by show 2 ≤ sizeLine; omega, ⟨rfl, rfl, Nat.zero_le 60⟩, ?_⟩, fun _ T h => ⟨by show 2 ≤ sizeLine; omega, h⟩⟩) (hN _ rfl) (by decide) (by rfl)
    have e : (true ^^ ([D.int q.1, .int q.2].any fun y => D.eqv y (natD k))) = (decide ((k : Int) ≠ q.1) && decide ((k : Int) ≠ q.2)) := by
      show (true ^^ (decide (q.1 = (k : Int)) || (decide (q.2 = (k : Int)) || false))) = _
      by_cases a : q.1 = (k : Int) <;> by_cases b : q.2 = (k : Int) <;> simp [a, b, eq_comm]
    rw [← e] at h
    exact h
  rintro _ rfl
  refine seq_mid (M := fun s' => s' = ⟨[P, K, I, U, some (.val (.lst ((woP p k).rus.map itD))), none, none], ()⟩) ?_ ?_
  rotate_left
  · intro N hN
    refine lc_mapl rs1 itD (fun q => itD (q.1 - (if (k : Int) < q.1 then 1 else 0), q.2 - (if (k : Int) < q.2 then 1 else 0))) (by omega) (fun q hq => ⟨_, rfl, fun T h => ?_⟩) ?_ (by decide) (by rfl)
    · have e : ∀ a : Int, (if decide ((k : Int) < a) = true then (1 : Int) else 0) = if (k : Int) < a then 1 else 0 := fun a => by simp
      rw [← e q.1, ← e q.2] at h
      exact ⟨by show 2 ≤ sizeLine; omega, h⟩
    · have e : rs1.map (fun q => itD (q.1 - (if (k : Int) < q.1 then 1 else 0), q.2 - (if (k : Int) < q.2 then 1 else 0))) = (woP p k).rus.map itD := by
        show _ = (rs1.map fun q => (q.1 - (if (k : Int) < q.1 then 1 else 0), q.2 - (if (k : Int) < q.2 then 1 else 0))).map itD
        rw [List.map_map]; rfl
      rw [e]
      exact hN _ rfl
  rintro _ rfl
  have c1 : cut (p.its.map itD) none (some ((k : Nat) : Int)) = (p.its.map itD).take k := cut_to _ _
  have c2 : cut (p.its.map itD) (some ((k : Int) + 1)) none = (p.its.map itD).drop (k + 1) := cut_from _ (k + 1)
  refine ⟨?_, ?_⟩
  · have := cut_length (p.its.map itD) none (some ((k : Nat) : Int))
    have := cut_length (p.its.map itD) (some ((k : Int) + 1)) none
    rw [List.length_map] at *
    omega
  · rw [c1, c2, ← List.map_take, ← List.map_drop, ← List.map_append]
    exact ⟨by show 2 ≤ sizeLine; omega, h⟩

def t_combine_panels_586dx : PSXx Unit := (xSeq (xs0 (qAsg (qCall (fn1 lenD) (qCons (qBin ixD (qVar 0) (qC (.int 0))) qNil)) 2)) (xSeq (xs0 (qAsg (qBin addD (qBin ixD (qVar 0) (qC (.int 0))) (qBin ixD (qVar 1) (qC (.int 0)))) 3)) (xSeq (xs0 (qAsg (qBin addD (qBin ixD (qVar 0) (qC (.int 1))) (qCall (fn1 tupleD) (qCons (qSet (qLc (qItems (qBin ixD (qVar 1) (qC (.int 1)))) (.tp [(.nm 5), (.nm 6)]) [5, 6] qYes (qTup (qCons (qBin addD (qVar 2) (qVar 5)) (qCons (qBin addD (qVar 2) (qVar 6)) qNil))))) qNil))) 4)) (xSeq (xIf (qOr (qB (qBin gtD (qCall (fn1 lenD) (qCons (qVar 3) qNil)) (qC (.int 8)))) (qB (qBin gtD (qCall (fn1 lenD) (qCons (qVar 4) qNil)) (qC (.int 16))))) (xRaise "Full") (xs0 qNext)) (xs0 (qRet (qTup (qCons (qVar 3) (qCons (qVar 4) qNil)))))))))

def cbP (p q : Pan) : Pan := ⟨p.its ++ q.its, p.rus ++ q.rus.map fun x => ((p.its.length : Int) + x.1, (p.its.length : Int) + x.2)⟩
def sp_combine_panels_586dx : SpecX := fun ds R W => ∃ p q : Pan, ds = [panD p, panD q] ∧ p.its.length + q.its.length ≤ 1000 ∧ p.rus.length + q.rus.length ≤ 1000 ∧ (p.its.length + q.its.length ≤ 8 ∧ p.rus.length + q.rus.length ≤ 16 → R (panD (cbP p q))) ∧ (¬ (p.its.length + q.its.length ≤ 8 ∧ p.rus.length + q.rus.length ≤ 16) → W ⟨"Full", none⟩)
theorem len_combine_panels_586dx (ds : List D) (R : DK) (W : Xc → Prop) (h : sp_combine_panels_586dx ds R W) : ds.length = 2 := by
  obtain ⟨_, _, rfl, _⟩ := h; rfl
theorem p_combine_panels_586dx (ds : List D) (R : DK) (W : Xc → Prop) (h : sp_combine_panels_586dx ds R W) : t_combine_panels_586dx (fun x _ => W x) { nx := fun _ => R .non, rt := fun d _ => R d } ⟨startL 7 ds, ()⟩ := by
  obtain ⟨p, q, rfl, h8, h16, h, hw⟩ := h
  have line : (10000000 : Nat) ≤ sizeLine := line_big
  let P := some (L.val (panD p))
  let Q := some (L.val (panD q))
  let F := some (L.val (natD p.its.length))
  refine seq_mid (M := fun s' => s' = ⟨[P, Q, F, none, none, none, none], ()⟩) ?_ ?_
  rotate_left
  · intro N hN
    refine ⟨_, rfl, hN _ ?_⟩
    show (⟨[P, Q, some (.val (.int ((p.its.map itD).length : Nat))), none, none, none, none], ()⟩ : S Unit) = _
    rw [List.length_map]; rfl
  rintro _ rfl
  let I := some (L.val (.tup ((cbP p q).its.map itD)))
  let U := some (L.val (.tup ((cbP p q).rus.map itD)))
  have ei : (cbP p q).its.map itD = p.its.map itD ++ q.its.map itD := List.map_append
  refine seq_mid (M := fun s' => s' = ⟨[P, Q, F, I, none, none, none], ()⟩) ?_ ?_
  rotate_left
  · intro N hN
    refine ⟨_, rfl, _, rfl, by show (p.its.map itD).length + (q.its.map itD).length ≤ sizeLine; rw [List.length_map, List.length_map]; omega, hN _ ?_⟩
    show (⟨[P, Q, F, some (.val (.tup (p.its.map itD ++ q.its.map itD))), none, none, none], ()⟩ : S Unit) = _
    rw [← ei]
  rintro _ rfl
  refine seq_mid (M := fun s' => s' = ⟨[P, Q, F, I, U, none, none], ()⟩) ?_ ?_
  rotate_left
  · intro N hN
    refine ⟨_, rfl, _, rfl, ?_⟩
    refine lc_mapl q.rus itD (fun x => itD ((p.its.length : Int) + x.1, (p.its.length : Int) + x.2)) (by omega) (fun x hx => ⟨_, rfl, fun T hT => ⟨by show 2 ≤ sizeLine; omega, hT⟩⟩) ?_ (by decide) (by rfl)
    have er : (cbP p q).rus.map itD = p.rus.map itD ++ q.rus.map fun x => itD ((p.its.length : Int) + x.1, (p.its.length : Int) + x.2) := by
      show (p.rus ++ q.rus.map fun x => ((p.its.length : Int) + x.1, (p.its.length : Int) + x.2)).map itD = _
      rw [List.map_append, List.map_map]; rfl
    refine ⟨by show (p.rus.map itD).length + (q.rus.map _).length ≤ sizeLine; rw [List.length_map, List.length_map]; omega, hN _ ?_⟩
    show (⟨[P, Q, F, I, some (.val (.tup (p.rus.map itD ++ q.rus.map fun x => itD ((p.its.length : Int) + x.1, (p.its.length : Int) + x.2)))), none, none], ()⟩ : S Unit) = _
    rw [← er]
  rintro _ rfl
  have l1 : ((cbP p q).its.map itD).length = p.its.length + q.its.length := by rw [ei, List.length_append, List.length_map, List.length_map]
  have l2 : ((cbP p q).rus.map itD).length = p.rus.length + q.rus.length := by
    rw [List.length_map]
    show (p.rus ++ q.rus.map _).length = _
    rw [List.length_append, List.length_map]
  refine seq_mid (M := fun s' => (p.its.length + q.its.length ≤ 8 ∧ p.rus.length + q.rus.length ≤ 16) ∧ s' = ⟨[P, Q, F, I, U, none, none], ()⟩) ?_ ?_
  rotate_left
  · intro N hN
    refine ⟨fun hc => ?_, fun hc1 => ⟨fun hc => ?_, fun hc2 => hN _ ⟨?_, rfl⟩⟩⟩
    · have hc : decide ((8 : Int) < (((cbP p q).its.map itD).length : Nat)) = true := hc
      rw [decide_eq_true_eq, l1] at hc
      exact ⟨fun _ => hw (by omega), fun z => (by cases z)⟩
    · have hc : decide ((16 : Int) < (((cbP p q).rus.map itD).length : Nat)) = true := hc
      rw [decide_eq_true_eq, l2] at hc
      exact hw (by omega)
    · have hc1 : decide ((8 : Int) < (((cbP p q).its.map itD).length : Nat)) = false := hc1
      have hc2 : decide ((16 : Int) < (((cbP p q).rus.map itD).length : Nat)) = false := hc2
      rw [decide_eq_false_iff_not, l1] at hc1
      rw [decide_eq_false_iff_not, l2] at hc2
      omega
  rintro _ ⟨hf, rfl⟩
  exact ⟨by show 2 ≤ sizeLine; omega, h hf⟩

def t_pair_right_2ac3 (r : Addr) : PSx Nat := (qSeq (qAsg (qAndV (qBin ltD (qBin addD (qCall (fn1 lenD) (qCons (qBin ixD (qVar 0) (qC (.int 0))) qNil)) (qCall (fn1 lenD) (qCons (qBin ixD (qVar 1) (qC (.int 0))) qNil))) (qC (.int 9))) (qBin ltD (qBin addD (qCall (fn1 lenD) (qCons (qBin ixD (qVar 0) (qC (.int 1))) qNil)) (qCall (fn1 lenD) (qCons (qBin ixD (qVar 1) (qC (.int 1))) qNil))) (qC (.int 17)))) 2) (qRet (qBin eqD (qLam sp_refused_b2f4 (qCallX (sp_combine_panels_586dx) (qCons (qVar 0) (qCons (qVar 1) qNil)))) (qBin ixD (qSet (qLst (qCons (qC (.str "Full")) (qCons (qC (.str "ok")) qNil)))) (qCall (fn1 intD) (qCons (qVar 2) qNil))))))

def sp_pair_right_2ac3 (r : Addr) : Spec Nat := fun ds g R => ∃ p q : Pan, ds = [panD p, panD q] ∧ p.its.length + q.its.length ≤ 1000 ∧ p.rus.length + q.rus.length ≤ 1000 ∧ R (.bl true) g
theorem len_pair_right_2ac3 (r : Addr) (ds : List D) (g : Nat) (R : D → Nat → Prop) (h : sp_pair_right_2ac3 r ds g R) : ds.length = 2 := by
  obtain ⟨_, _, rfl, _⟩ := h; rfl
theorem p_pair_right_2ac3 (r : Addr) (ds : List D) (g : Nat) (R : D → Nat → Prop) (h : sp_pair_right_2ac3 r ds g R) : t_pair_right_2ac3 r { nx := fun s => R .non s.g, rt := R } ⟨startL 3 ds, g⟩ := by
  obtain ⟨p, q, rfl, h1, h2, h⟩ := h
  have line : (10000000 : Nat) ≤ sizeLine := line_big
  let P := some (L.val (panD p))
  let Q := some (L.val (panD q))
  let B : Prop := p.its.length + q.its.length ≤ 8 ∧ p.rus.length + q.rus.length ≤ 16
  refine seq_mid (M := fun s' => ∃ b : Bool, (b = true ↔ B) ∧ s' = ⟨[P, Q, some (.val (.bl b))], g⟩) ?_ ?_
  rotate_left
  · intro N hN
    have l1 : ((p.its.map itD).length : Int) + ((q.its.map itD).length : Int) = ((p.its.length + q.its.length : Nat) : Int) := by rw [List.length_map, List.length_map]; omega
    have l2 : ((p.rus.map itD).length : Int) + ((q.rus.map itD).length : Int) = ((p.rus.length + q.rus.length : Nat) : Int) := by rw [List.length_map, List.length_map]; omega
    refine ⟨_, rfl, _, rfl, fun hc => ⟨_, rfl, _, rfl, hN _ ⟨_, ?_, rfl⟩⟩, fun hc => hN _ ⟨_, ?_, rfl⟩⟩
    · have hc : decide (((p.its.map itD).length : Int) + ((q.its.map itD).length : Int) < 9) = true := hc
      rw [l1, decide_eq_true_eq] at hc
      show decide (((p.rus.map itD).length : Int) + ((q.rus.map itD).length : Int) < 17) = true ↔ _
      rw [l2, decide_eq_true_eq]
      show _ ↔ (_ ∧ _)
      omega
    · have hc : decide (((p.its.map itD).length : Int) + ((q.its.map itD).length : Int) < 9) = false := hc
      rw [l1, decide_eq_false_iff_not] at hc
      show (false = true) ↔ (_ ∧ _)
      constructor
      · intro z; cases z
      · intro z; omega
  rintro _ ⟨b, hb, rfl⟩
  refine upO_of ?_
  refine ⟨p, q, rfl, h1, h2, fun hB => ?_, fun hB => ⟨.inl rfl, ?_⟩⟩
  · obtain rfl : b = true := hb.mpr hB
    exact ⟨by show 2 ≤ sizeLine; omega, _, rfl, trivial, h⟩
  · obtain rfl : b = false := by
      cases b with
      | false => rfl
      | true => exact absurd (hb.mp rfl) hB
    exact ⟨by show 2 ≤ sizeLine; omega, _, rfl, trivial, h⟩

def t_law_ed47 (r : Addr) : PSx Nat := (qSeq (qFor (qRange1 (qCons (qC (.int 4)) qNil)) (.nm 2) (qSeq (qAsgT (qTup (qCons (qCallG (sp_panel_3836 r) (qCons (qVar 1) (qCons (qC (.int 8)) qNil))) (qCons (qCallG (sp_panel_3836 r) (qCons (qVar 1) (qCons (qC (.int 8)) qNil))) qNil))) (.tp [(.nm 3), (.nm 4)])) (qSeq (qAsgOwn (qLst (qCons (qTup (qCons (qVar 3) (qCons (qVar 4) qNil))) (qCons (qTup (qCons (qVar 4) (qCons (qVar 3) qNil))) (qCons (qTup (qCons (qVar 3) (qCons (qTup (qCons (qBin ixD (qVar 4) (qC (.int 0))) (qCons (qSl (qBin ixD (qVar 4) (qC (.int 1))) qNoPart (qPart (qC (.int 3)))) qNil))) qNil))) qNil)))) 5) (qSeq (qDrop (qAppend 5 (qTup (qCons (qVar 3) (qCons (qTup (qCons (qSl (qBin mulT (qBin ixD (qVar 3) (qC (.int 0))) (qC (.int 8))) qNoPart (qPart (qBin subD (qC (.int 8)) (qCall (fn1 lenD) (qCons (qBin ixD (qVar 3) (qC (.int 0))) qNil))))) (qCons (qTup qNil) qNil))) qNil))))) (qSeq (qDrop (qAppend 5 (qTup (qCons (qTup (qCons (qSl (qBin ixD (qVar 3) (qC (.int 0))) qNoPart (qPart (qC (.int 2)))) (qCons (qBin mulT2 (qBin mulT (qTup (qCons (qTup (qCons (qC (.int 0)) (qCons (qC (.int 1)) qNil))) qNil)) (qC (.int 9))) (qCall (fn1 intD) (qCons (qBin gtD (qCall (fn1 lenD) (qCons (qBin ixD (qVar 3) (qC (.int 0))) qNil)) (qC (.int 1))) qNil))) qNil))) (qCons (qTup (qCons (qSl (qBin mulT (qBin ixD (qVar 4) (qC (.int 0))) (qC (.int 2))) qNoPart (qPart (qC (.int 2)))) (qCons (qBin mulT (qTup (qCons (qTup (qCons (qC (.int 1)) (qCons (qC (.int 0)) qNil))) qNil)) (qC (.int 8))) qNil))) qNil))))) (qSeq (qDrop (qAppend 5 (qTup (qCons (qVar 3) (qCons (qTup (qCons (qSl (qBin ixD (qVar 3) (qC (.int 0))) qNoPart (qPart (qC (.int 1)))) (qCons (qTup qNil) qNil))) qNil))))) (qSeq (qFor (qItems (qVar 5)) (.tp [(.nm 6), (.nm 7)]) (qSeq (qAsg (qCall (fn1 rprD) (qCons (qSet (qLst (qCons (qVar 6) (qCons (qVar 7) qNil)))) qNil)) 8) (qIf (qOr (qAnd (qB (qBin gtD (qCall (fn1 lenD) (qCons (qBin ixD (qVar 7) (qC (.int 0))) qNil)) (qC (.int 0)))) (qNot (qB (qCallG (sp_pair_right_2ac3 r) (qCons (qVar 6) (qCons (qVar 7) qNil)))))) (qB (qBin neD (qCall (fn1 rprD) (qCons (qSet (qLst (qCons (qVar 6) (qCons (qVar 7) qNil)))) qNil)) (qVar 8)))) (qRet (qC (.bl false))) qNext))) (qSeq (qAsg (qCall (fn1 rprD) (qCons (qVar 3) qNil)) 8) (qSeq (qIf (qNot (qB (qCallG (sp_amounts_right_aed0 r) (qCons (qVar 1) (qCons (qVar 3) qNil))))) (qRet (qC (.bl false))) qNext) (qSeq (qAsg (qBin ixD (qSet (qLst (qCons (qC (.str "ok")) (qCons (qC (.str "LastItem")) qNil)))) (qCall (fn1 intD) (qCons (qBin eqD (qCall (fn1 lenD) (qCons (qBin ixD (qVar 3) (qC (.int 0))) qNil)) (qC (.int 1))) qNil))) 9) (qSeq (qIf (qOr (qB (qBin neD (qLam sp_refused_b2f4 (qCallX (sp_without_item_d43ax) (qCons (qVar 3) (qCons (qBin subD (qCall (fn1 lenD) (qCons (qBin ixD (qVar 3) (qC (.int 0))) qNil)) (qC (.int 1))) qNil)))) (qVar 9))) (qB (qBin neD (qCall (fn1 rprD) (qCons (qVar 3) qNil)) (qVar 8)))) (qRet (qC (.bl false))) qNext) (qIf (qB (qBin neD (qLam sp_refused_b2f4 (qCallX (sp_without_item_d43ax) (qCons (qTup (qCons (qSl (qBin ixD (qVar 4) (qC (.int 0))) qNoPart (qPart (qC (.int 1)))) (qCons (qTup qNil) qNil))) (qCons (qC (.int 0)) qNil)))) (qC (.str "LastItem")))) (qRet (qC (.bl false))) qNext)))))))))))) (qRet (qC (.bl true))))

structure Shp (p : Pan) : Prop where
  it : ∀ q ∈ p.its, ItOk q
  il : p.its.length ≤ 100
  ru : ∀ q ∈ p.rus, (-(10 ^ 9) ≤ q.1 ∧ q.1 ≤ 10 ^ 9) ∧ -(10 ^ 9) ≤ q.2 ∧ q.2 ≤ 10 ^ 9
  rl : p.rus.length ≤ 100
theorem Shp.two {p q : Pan} (hp : Shp p) (hq : Shp q) : ShOk (.lst [panD p, panD q]) := by
  have i1 := its_show p.its fun z hz => by have := hp.it z hz; unfold ItOk at this; omega
  have i2 := its_show q.its fun z hz => by have := hq.it z hz; unfold ItOk at this; omega
  have r1 := its_show p.rus hp.ru
  have r2 := its_show q.rus hq.ru
  refine ⟨?_, ?_, ?_, ?_⟩
  · show ((D.plns (p.its.map itD) && (D.plns (p.rus.map itD) && true)) && (((D.plns (q.its.map itD) && (D.plns (q.rus.map itD) && true))) && true)) = true
    rw [its_pln, its_pln, its_pln, its_pln]; rfl
  · show ((PyData.showableAll (D.pys (p.its.map itD)) && (PyData.showableAll (D.pys (p.rus.map itD)) && true)) && ((PyData.showableAll (D.pys (q.its.map itD)) && (PyData.showableAll (D.pys (q.rus.map itD)) && true)) && true)) = true
    rw [i1, i2, r1, r2]; rfl
  · have a := its_dep p.its; have b := its_dep p.rus; have c := its_dep q.its; have d := its_dep q.rus
    simp only [panD, D.dep, D.deps]; omega
  · have a := its_wid p.its; have b := its_wid p.rus; have c := its_wid q.its; have d := its_wid q.rus
    have := hp.il; have := hp.rl; have := hq.il; have := hq.rl
    simp only [panD, D.wid, D.wids]; omega
theorem PanOk.shp {m : Nat} {p : Pan} (h : PanOk m p) (hm : m ≤ 100) : Shp p := ⟨h.it, Nat.le_trans h.top hm, fun q hq => by
  obtain ⟨a, b, c, d, _⟩ := h.ru q hq
  have := h.top
  omega, by have := h.few; omega⟩
theorem flat_in {α : Type} {l : List α} {k : Nat} {x : α} (h : x ∈ (List.replicate k l).flatten) : x ∈ l := by
  obtain ⟨z, hz, hx⟩ := List.mem_flatten.mp h
  obtain ⟨_, rfl⟩ := List.mem_replicate.mp hz
  exact hx
theorem flat_map {α β : Type} (f : α → β) (l : List α) (k : Nat) : (List.replicate k (l.map f)).flatten = ((List.replicate k l).flatten).map f := by
  induction k with
  | zero => rfl
  | succ k ih => rw [List.replicate_succ, List.replicate_succ, List.flatten_cons, List.flatten_cons, List.map_append, ih]
abbrev s59 (r : Addr) (t a b ps x y k u : Option L) (g : Nat) : S Nat := ⟨[none, some (.val (.obj r)), t, a, b, ps, x, y, k, u], g⟩
abbrev prD (x : Pan × Pan) : D := .tup [panD x.1, panD x.2]
theorem p_law_ed47 (r : Addr) : t_law_ed47 r { nx := fun _ => False, rt := fun d _ => d = .bl true } ⟨(List.replicate 10 none).set 1 (some (.val (.obj r))), 0⟩ := by
  have lim : drawLine = 16777216 := by decide
  have line : (10000000 : Nat) ≤ sizeLine := line_big
  refine ⟨⟨by decide, by decide⟩, fun i s => ∃ g, g ≤ 2000 * i ∧ s = s59 r none none none none none none none none g, ⟨_, Wk.refl _, 0, by omega, rfl⟩, ?_, ?_⟩
  · rintro i d s hd ⟨g, hg, rfl⟩
    have hi : i < 4 := (List.getElem?_eq_some_iff.mp hd).1
    refine put_nm ?_
    let T := some (L.val d)
    refine seq_mid (M := fun s' => ∃ (p q : Pan) (g1 : Nat), PanOk 8 p ∧ PanOk 8 q ∧ g1 ≤ g + 800 ∧ s' = s59 r T (some (.val (panD p))) (some (.val (panD q))) none none none none none g1) ?_ ?_
    rotate_left
    · intro N hN
      refine ⟨8, rfl, by decide, by decide, (by show g + 1000 < drawLine; omega), fun p g1 hp (g2 : g ≤ g1) (g3 : g1 ≤ g + 400) => ⟨8, rfl, by decide, by decide, (by show g1 + 1000 < drawLine; omega), fun q g4 hq (g5 : g1 ≤ g4) (g6 : g4 ≤ g1 + 400) => ?_⟩⟩
      exact ⟨by show 2 ≤ sizeLine; omega, put_tg (tg := .tp [.nm 3, .nm 4]) rfl (hN _ ⟨p, q, g4, hp, hq, by omega, rfl⟩)⟩
    rintro _ ⟨p, q, g1, hp, hq, hg1, rfl⟩
    let P := some (L.val (panD p))
    let Q := some (L.val (panD q))
    have p8 := hp.top
    have q8 := hq.top
    have p1 := hp.one
    have pf := hp.few
    have qf := hq.few
    have sp := hp.shp (by decide)
    have sq := hq.shp (by decide)
    let GoodP (x : Pan × Pan) : Prop := Shp x.1 ∧ Shp x.2
    let Ps (ps : List (Pan × Pan)) : S Nat := s59 r T P Q (some (.own (ps.map prD))) none none none none g1
    have grow : ∀ (ps : List (Pan × Pan)) (x : Pan × Pan), ps.map prD ++ [prD x] = (ps ++ [x]).map prD := fun ps x => by rw [List.map_append]; rfl
    refine seq_mid (M := fun s' => ∃ ps : List (Pan × Pan), ps.length ≤ 3 ∧ (∀ x ∈ ps, GoodP x) ∧ s' = Ps ps) ?_ ?_
    rotate_left
    · intro N hN
      have c3 : cut (q.rus.map itD) none (some ((3 : Nat) : Int)) = (q.rus.take 3).map itD := by rw [cut_to, List.map_take]
      refine ⟨by show 2 ≤ sizeLine; omega, by show 2 ≤ sizeLine; omega, _, rfl, _, rfl, by show 2 ≤ sizeLine; omega, by show 2 ≤ sizeLine; omega, by show 3 ≤ sizeLine; omega, hN _ ⟨[(p, q), (q, p), (p, ⟨q.its, q.rus.take 3⟩)], by simp, fun x hx => ?_, ?_⟩⟩
      · simp only [List.mem_cons, List.not_mem_nil, or_false] at hx
        rcases hx with rfl | rfl | rfl
        · exact ⟨sp, sq⟩
        · exact ⟨sq, sp⟩
        · exact ⟨sp, sq.it, sq.il, fun z hz => sq.ru z (List.mem_of_mem_take hz), by show (q.rus.take 3).length ≤ 100; rw [List.length_take]; omega⟩
      · show s59 r T P Q (some (.own [.tup [panD p, panD q], .tup [panD q, panD p], .tup [panD p, .tup [.tup (q.its.map itD), .tup (cut (q.rus.map itD) none (some ((3 : Nat) : Int)))]]])) none none none none g1 = _
        rw [c3]; rfl
    rintro _ ⟨ps1, l1, ok1, rfl⟩
    have more : ∀ {ps : List (Pan × Pan)} {x : Pan × Pan}, (∀ x ∈ ps, GoodP x) → GoodP x → ∀ y ∈ ps ++ [x], GoodP y := fun h1 h2 y hy => by
      rcases List.mem_append.mp hy with z | z
      · exact h1 y z
      · rw [List.mem_singleton.mp z]; exact h2
    refine seq_mid (M := fun s' => ∃ ps : List (Pan × Pan), ps.length ≤ 4 ∧ (∀ x ∈ ps, GoodP x) ∧ s' = Ps ps) ?_ ?_
    rotate_left
    · intro N hN
      have e8 : ((8 : Int) - ((p.its.map itD).length : Nat)) = ((8 - p.its.length : Nat) : Int) := by rw [List.length_map]; omega
      have c8 : cut (List.replicate 8 (p.its.map itD)).flatten none (some ((8 : Int) - ((p.its.map itD).length : Nat))) = ((List.replicate 8 p.its).flatten.take (8 - p.its.length)).map itD := by rw [e8, cut_to, flat_map, List.map_take]
      have ne : p.its.map itD ≠ [] := fun z => by
        have : p.its.length = 0 := by simpa using congrArg List.length z
        omega
      refine ⟨⟨_, rfl⟩, _, rfl, ⟨ne, by decide, by decide, by rw [List.length_map]; omega⟩, _, rfl, ?_⟩
      let x : Pan × Pan := (p, ⟨(List.replicate 8 p.its).flatten.take (8 - p.its.length), []⟩)
      refine ⟨by show 0 ≤ sizeLine; omega, by show 2 ≤ sizeLine; omega, by show 2 ≤ sizeLine; omega, _, rfl, by rw [List.length_map]; omega, hN _ ⟨ps1 ++ [x], by rw [List.length_append]; show _ + 1 ≤ 4; omega, more ok1 ⟨sp, fun z hz => sp.it z (flat_in (List.mem_of_mem_take hz)), ?_, fun z hz => (nomatch hz), Nat.zero_le _⟩, ?_⟩⟩
      · show ((List.replicate 8 p.its).flatten.take (8 - p.its.length)).length ≤ 100
        rw [List.length_take]; omega
      · show s59 r T P Q (some (.own (ps1.map prD ++ [.tup [panD p, .tup [.tup (cut (List.replicate 8 (p.its.map itD)).flatten none (some ((8 : Int) - ((p.its.map itD).length : Nat)))), .tup []]]]))) none none none none g1 = _
        rw [c8]
        show s59 r T P Q (some (.own (ps1.map prD ++ [prD x]))) none none none none g1 = _
        rw [grow]
    rintro _ ⟨ps2, l2, ok2, rfl⟩
    refine seq_mid (M := fun s' => ∃ ps : List (Pan × Pan), ps.length ≤ 5 ∧ (∀ x ∈ ps, GoodP x) ∧ s' = Ps ps) ?_ ?_
    rotate_left
    · intro N hN
      have c2 : cut (p.its.map itD) none (some ((2 : Nat) : Int)) = (p.its.take 2).map itD := by rw [cut_to, List.map_take]
      have c3 : cut (List.replicate 2 (q.its.map itD)).flatten none (some ((2 : Nat) : Int)) = ((List.replicate 2 q.its).flatten.take 2).map itD := by rw [cut_to, flat_map, List.map_take]
      have ne : q.its.map itD ≠ [] := fun z => by
        have : q.its.length = 0 := by simpa using congrArg List.length z
        have := hq.one
        omega
      refine ⟨⟨_, rfl⟩, _, rfl, by show 2 ≤ sizeLine; omega, by show 1 ≤ sizeLine; omega, ⟨by decide, by decide, by decide⟩, _, rfl, ?_⟩
      have go : ∀ (b : Bool), (if b then (1 : Int) else 0) = ((if b then 1 else 0 : Nat) : Int) := fun b => by cases b <;> rfl
      let k : Nat := if decide (((p.its.map itD).length : Int) > 1) then 1 else 0
      have ek : (if decide (((p.its.map itD).length : Int) > 1) = true then (1 : Int) else 0) = (k : Int) := by
        show (if decide (((p.its.map itD).length : Int) > 1) = true then (1 : Int) else 0) = ((if decide (((p.its.map itD).length : Int) > 1) then 1 else 0 : Nat) : Int)
        split <;> rfl
      have k1 : k ≤ 1 := by show (if _ then 1 else 0) ≤ 1; split <;> omega
      let u9 : List (Int × Int) := (List.replicate 9 [((0 : Int), (1 : Int))]).flatten
      let us : List (Int × Int) := (List.replicate k u9).flatten
      have eu : (List.replicate k (List.replicate 9 [D.tup [.int 0, .int 1]]).flatten).flatten = us.map itD := by
        show (List.replicate k (u9.map itD)).flatten = _
        rw [flat_map]
      have uk : us.length ≤ 9 := by
        rcases (show k = 0 ∨ k = 1 by omega) with z | z <;> (show (List.replicate k u9).flatten.length ≤ 9; rw [z]; decide)
      have um : ∀ z ∈ us, z = (0, 1) := fun z hz => by
        have := flat_in (flat_in hz)
        exact List.mem_singleton.mp this
      let x : Pan × Pan := (⟨p.its.take 2, us⟩, ⟨(List.replicate 2 q.its).flatten.take 2, (List.replicate 8 [((1 : Int), (0 : Int))]).flatten⟩)
      refine ⟨⟨by show (0 : Int) ≤ (if decide (((p.its.map itD).length : Int) > 1) = true then (1 : Int) else 0); rw [ek]; omega, by show (if decide (((p.its.map itD).length : Int) > 1) = true then (1 : Int) else 0) ≤ 1000; rw [ek]; omega, by decide⟩, by show 2 ≤ sizeLine; omega, _, rfl, ⟨ne, by decide, by decide, by rw [List.length_map]; omega⟩, by show 2 ≤ sizeLine; omega, by show 1 ≤ sizeLine; omega, ⟨by decide, by decide, by decide, by decide⟩, by show 2 ≤ sizeLine; omega, by show 2 ≤ sizeLine; omega, _, rfl, by rw [List.length_map]; omega, hN _ ⟨ps2 ++ [x], by rw [List.length_append]; show _ + 1 ≤ 5; omega, more ok2 ⟨⟨fun z hz => sp.it z (List.mem_of_mem_take hz), ?_, fun z hz => by rw [um z hz]; decide, by show us.length ≤ 100; omega⟩, fun z hz => sq.it z (flat_in (List.mem_of_mem_take hz)), ?_, fun z hz => by rw [List.mem_singleton.mp (flat_in hz)]; decide, by show ((List.replicate 8 [((1 : Int), (0 : Int))]).flatten).length ≤ 100; decide⟩, ?_⟩⟩
      · show (p.its.take 2).length ≤ 100
        rw [List.length_take]; omega
      · show ((List.replicate 2 q.its).flatten.take 2).length ≤ 100
        rw [List.length_take]; omega
      · show s59 r T P Q (some (.own (ps2.map prD ++ [.tup [.tup [.tup (cut (p.its.map itD) none (some ((2 : Nat) : Int))), .tup (List.replicate (if decide (((p.its.map itD).length : Int) > 1) = true then (1 : Int) else 0).toNat (List.replicate 9 [D.tup [.int 0, .int 1]]).flatten).flatten], .tup [.tup (cut (List.replicate 2 (q.its.map itD)).flatten none (some ((2 : Nat) : Int))), .tup (List.replicate 8 [D.tup [.int 1, .int 0]]).flatten]]]))) none none none none g1 = _
        rw [ek, show (k : Int).toNat = k from rfl, eu, c2, c3]
        show s59 r T P Q (some (.own (ps2.map prD ++ [prD x]))) none none none none g1 = _
        rw [grow]
    rintro _ ⟨ps3, l3, ok3, rfl⟩
    refine seq_mid (M := fun s' => ∃ ps : List (Pan × Pan), ps.length ≤ 6 ∧ (∀ x ∈ ps, GoodP x) ∧ s' = Ps ps) ?_ ?_
    rotate_left
    · intro N hN
      have c1 : cut (p.its.map itD) none (some ((1 : Nat) : Int)) = (p.its.take 1).map itD := by rw [cut_to, List.map_take]
      let x : Pan × Pan := (p, ⟨p.its.take 1, []⟩)
      refine ⟨⟨_, rfl⟩, _, rfl, by show 0 ≤ sizeLine; omega, by show 2 ≤ sizeLine; omega, by show 2 ≤ sizeLine; omega, _, rfl, by rw [List.length_map]; omega, hN _ ⟨ps3 ++ [x], by rw [List.length_append]; show _ + 1 ≤ 6; omega, more ok3 ⟨sp, fun z hz => sp.it z (List.mem_of_mem_take hz), ?_, fun z hz => (nomatch hz), Nat.zero_le _⟩, ?_⟩⟩
      · show (p.its.take 1).length ≤ 100
        rw [List.length_take]; omega
      · show s59 r T P Q (some (.own (ps3.map prD ++ [.tup [panD p, .tup [.tup (cut (p.its.map itD) none (some ((1 : Nat) : Int))), .tup []]]]))) none none none none g1 = _
        rw [c1]
        show s59 r T P Q (some (.own (ps3.map prD ++ [prD x]))) none none none none g1 = _
        rw [grow]
    rintro _ ⟨ps, l4, ok, rfl⟩
    refine seq_mid (M := fun s' => s' = s59 r T P Q (some (.val (.lst (ps.map prD)))) none none none none g1) ?_ ?_
    rotate_left
    · intro N hN
      show ∃ I : Nat → S Nat → Prop, _
      refine ⟨fun _ s => s = s59 r T P Q (some (.val (.lst (ps.map prD)))) none none none none g1, ⟨_, Wk.refl _, rfl⟩, ?_, ?_⟩
      · rintro j d' s hd' rfl
        rw [List.getElem?_map] at hd'
        obtain ⟨x, hx, rfl⟩ := Option.map_eq_some_iff.mp hd'
        obtain ⟨gx, gy⟩ := ok x (List.mem_of_getElem? hx)
        have sh := (gx.two gy).go
        refine put_tg (tg := .tp [.nm 6, .nm 7]) (d := prD x) rfl ?_
        refine seq_mid (M := fun s' => s' = s59 r T P Q (some (.val (.lst (ps.map prD)))) (some (.val (panD x.1))) (some (.val (panD x.2))) (some (.val (.str (D.lst [panD x.1, panD x.2]).py.shown))) none g1) ?_ ?_
        rotate_left
        · intro N2 hN2
          exact ⟨by show 2 ≤ sizeLine; omega, trivial, sh, hN2 _ rfl⟩
        rintro _ rfl
        have eS : ∀ w : Str, (D.str w).eqv (.str w) = true := fun w => by
          show decide _ = true
          simp
        have fin : ∀ N2 : S Nat → Prop, N2 (s59 r T P Q (some (.val (.lst (ps.map prD)))) (some (.val (panD x.1))) (some (.val (panD x.2))) (some (.val (.str (D.lst [panD x.1, panD x.2]).py.shown))) none g1) → qIf (qB (qBin neD (qCall (fn1 rprD) (qCons (qSet (qLst (qCons (qVar 6) (qCons (qVar 7) qNil)))) qNil)) (qVar 8))) (qRet (qC (.bl false))) qNext { nx := N2, rt := fun d _ => d = .bl true } (s59 r T P Q (some (.val (.lst (ps.map prD)))) (some (.val (panD x.1))) (some (.val (panD x.2))) (some (.val (.str (D.lst [panD x.1, panD x.2]).py.shown))) none g1) := fun N2 h2 => by
          refine ⟨by show 2 ≤ sizeLine; omega, trivial, sh, trivial, ?_⟩
          show Br (!(D.eqv (.str (D.lst [panD x.1, panD x.2]).py.shown) (.str (D.lst [panD x.1, panD x.2]).py.shown))) _ _
          rw [eS _]
          exact ⟨fun z => (by cases z), fun _ => h2⟩
        have l1 := gx.il
        have l2 := gy.il
        have l3 := gx.rl
        have l4 := gy.rl
        refine ⟨_, rfl, fun hc => ?_, fun hc => ?_⟩
        · refine ⟨x.1, x.2, rfl, by omega, by omega, ⟨fun z => (by cases z), fun _ => ?_⟩⟩
          refine fin _ ?_
          exact ⟨_, Wk.of (by repeat' first | exact trivial | exact .inr rfl | exact .inl rfl | refine ⟨?_, ?_⟩), rfl⟩
        · refine ⟨fun z => (by cases z), fun _ => ?_⟩
          refine fin _ ?_
          exact ⟨_, Wk.of (by repeat' first | exact trivial | exact .inr rfl | exact .inl rfl | refine ⟨?_, ?_⟩), rfl⟩
      · rintro s ⟨_, rfl⟩
        exact hN _ rfl
    rintro _ rfl
    let L5 := some (L.val (.lst (ps.map prD)))
    let K8 := some (L.val (.str (panD p).py.shown))
    have sh1 := (pan_sh1 hp (by decide)).go
    refine seq_mid (M := fun s' => s' = s59 r T P Q L5 none none K8 none g1) ?_ ?_
    rotate_left
    · intro N hN
      exact ⟨trivial, sh1, hN _ rfl⟩
    rintro _ rfl
    refine seq_mid (M := fun s' => s' = s59 r T P Q L5 none none K8 none (g1 + 3)) ?_ ?_
    rotate_left
    · intro N hN
      exact ⟨p, rfl, hp, (by show g1 + 2 < drawLine; omega), ⟨fun z => (by cases z), fun _ => hN _ rfl⟩⟩
    rintro _ rfl
    let DL (b : Bool) : D := if b then .str "LastItem" else .str "ok"
    have pl : (p.its.map itD).length = p.its.length := List.length_map ..
    refine seq_mid (M := fun s' => ∃ b : Bool, (b = true ↔ p.its.length = 1) ∧ s' = s59 r T P Q L5 none none K8 (some (.val (DL b))) (g1 + 3)) ?_ ?_
    rotate_left
    · intro N hN
      refine ⟨by show 2 ≤ sizeLine; omega, _, rfl, ⟨rfl, rfl, Nat.zero_le _, Nat.zero_le _⟩, ?_⟩
      by_cases h2 : p.its.length = 1
      · refine ⟨.str "LastItem", ?_, hN _ ⟨true, ⟨fun _ => h2, fun _ => rfl⟩, rfl⟩⟩
        rw [pl, h2]; rfl
      · refine ⟨.str "ok", ?_, hN _ ⟨false, ⟨fun z => (by cases z), fun z => absurd z h2⟩, rfl⟩⟩
        have e : D.eqv (.int (p.its.length : Nat)) (.int 1) = false := decide_eq_false (by omega)
        rw [pl, e]; rfl
    rintro _ ⟨b, hb, rfl⟩
    have eS : ∀ w : Str, (D.str w).eqv (.str w) = true := fun w => by
      show decide _ = true
      simp
    refine seq_mid (M := fun s' => s' = s59 r T P Q L5 none none K8 (some (.val (DL b))) (g1 + 3)) ?_ ?_
    rotate_left
    · intro N hN
      have ek : (((p.its.map itD).length : Nat) : Int) - 1 = ((p.its.length - 1 : Nat) : Int) := by rw [pl]; omega
      refine upO_of ?_
      refine ⟨_, rfl, 8, p, p.its.length - 1, ?_, hp, by decide, fun h2 => ?_, fun h2 => ⟨.inr (.inl rfl), ?_⟩⟩
      · show [panD p, D.int ((((p.its.map itD).length : Nat) : Int) - 1)] = _
        rw [ek]; rfl
      · obtain rfl : b = false := by
          cases b with
          | false => rfl
          | true => exact absurd (hb.mp rfl) (by omega)
        refine ⟨trivial, fun z => (by cases z), fun _ => ⟨trivial, sh1, trivial, ?_⟩⟩
        show Br (!(D.eqv (.str (panD p).py.shown) (.str (panD p).py.shown))) _ _
        rw [eS _]
        exact ⟨fun z => (by cases z), fun _ => hN _ rfl⟩
      · obtain rfl : b = true := hb.mpr h2
        refine ⟨trivial, fun z => (by cases z), fun _ => ⟨trivial, sh1, trivial, ?_⟩⟩
        show Br (!(D.eqv (.str (panD p).py.shown) (.str (panD p).py.shown))) _ _
        rw [eS _]
        exact ⟨fun z => (by cases z), fun _ => hN _ rfl⟩
    rintro _ rfl
    have c1 : cut (q.its.map itD) none (some ((1 : Nat) : Int)) = (q.its.take 1).map itD := by rw [cut_to, List.map_take]
    have q1 := hq.one
    have t1 : (q.its.take 1).length = 1 := by rw [List.length_take]; omega
    refine upO_of ?_
    refine ⟨_, rfl, by show 0 ≤ sizeLine; omega, by show 2 ≤ sizeLine; omega, 8, ⟨q.its.take 1, []⟩, 0, ?_, ⟨by show 1 ≤ (q.its.take 1).length; omega, by show (q.its.take 1).length ≤ 8; omega, fun z hz => sq.it z (List.mem_of_mem_take hz), Nat.zero_le _, fun z hz => (nomatch hz)⟩, by decide, fun h2 => ?_, fun h2 => ⟨.inr (.inl rfl), ?_⟩⟩
    · show [D.tup [.tup (cut (q.its.map itD) none (some ((1 : Nat) : Int))), .tup []], .int 0] = _
      rw [c1]; rfl
    · have h2 : 2 ≤ (q.its.take 1).length := h2
      omega
    · refine ⟨trivial, fun z => (by cases z), fun _ => ?_⟩
      exact ⟨_, Wk.of (by repeat' first | exact trivial | exact .inr rfl | exact .inl rfl | refine ⟨?_, ?_⟩), g1 + 3, by omega, rfl⟩
  · rintro s ⟨g, _, rfl⟩
    exact rfl

end Pm
set_option Elab.async false
set_option linter.all false
set_option maxRecDepth 100000
set_option maxHeartbeats 0
set_option autoImplicit false
namespace Pm
open PySem PySem.Spec
open PyProof.Rows hiding St
open L2 TL
structure Bi (K : PySem.W.Frag) (mg : Str → Option Value) : Prop where
  f_abs : mg "abs" = none
  f_all : mg "all" = none
  f_bool : mg "bool" = none
  f_int : mg "int" = none
  f_isinstance : mg "isinstance" = none
  f_len : mg "len" = none
  f_list : mg "list" = none
  f_max : mg "max" = none
  f_min : mg "min" = none
  f_range : mg "range" = none
  f_repr : mg "repr" = none
  f_tuple : mg "tuple" = none
  g_ITEMS : GlD K mg "ITEMS" (.int 8)
  g_MARK : GlD K mg "MARK" (.int 1000000000)
  g_RULES : GlD K mg "RULES" (.int 16)
  g_WEIGHT : GlD K mg "WEIGHT" (.int 1000000)
  exc : Excs K mg x0L xqL subL xfL
theorem bt_abs : bootBuiltins "abs" = some (.builtin "abs") := by decide +kernel
theorem bt_all : bootBuiltins "all" = some (.builtin "all") := by decide +kernel
theorem bt_bool : bootBuiltins "bool" = some (.type "bool") := by decide +kernel
theorem bt_int : bootBuiltins "int" = some (.type "int") := by decide +kernel
theorem bt_len : bootBuiltins "len" = some (.builtin "len") := by decide +kernel
theorem bt_list : bootBuiltins "list" = some (.type "list") := by decide +kernel
theorem bt_max : bootBuiltins "max" = some (.builtin "max") := by decide +kernel
theorem bt_min : bootBuiltins "min" = some (.builtin "min") := by decide +kernel
theorem bt_repr : bootBuiltins "repr" = some (.builtin "repr") := by decide +kernel
theorem bt_tuple : bootBuiltins "tuple" = some (.type "tuple") := by decide +kernel
section
variable {P : Program} {w : World} {K : PySem.W.Frag} {mg : Str → Option Value} {base : Heap}
theorem sc_draws : FnScope ["_law_script", "_law_cells", "_law_cell"] ["_law_script"] (defScope st_draws) := ⟨rfl, rfl, rfl, by decide +kernel, rfl, by decide +kernel, by decide +kernel⟩
theorem ok_draws0 {f fd} (b : Bi K mg) (F : Fn K "_law_draws" "_law_draws" st_draws f fd) : FnOk P w K mg base CX0 1 f fd ["_law_script"] (spDraws K) := ok_draws F sc_draws rfl rfl fun cdv A outer s H E hr => by
  have nd := sc_draws.nd
  exact pss_cons (ps_set (i := 1) nd rfl (by first | exact Or.inl rfl | exact Or.inr rfl) (pe_op op_cat (pe_callTy call_list_of rfl b.f_list bt_list (pa_cons (pe_slice sl_list (pv 0) po_none (po_some pe_int)) pa_nil))
      (pe_op op_rep (pe_lst (pa_cons pe_int pa_nil)) (pe_callTy call_int1 rfl b.f_int bt_int (pa_cons (pe_cmpR op_eq (pe_callB call_len_seq rfl b.f_len bt_len (pa_cons (pv 0) pa_nil)) pe_int (nomark _)) pa_nil)))))
    (pss_one (ps_ret (pe_lst (pa_cons (pv 1) (pa_cons pe_int (pa_cons (pe_lc (own := [("_law_cell", 2)]) rfl nd (pi_list (pv 1)) (blkOk_by (by kernel_rfl)) (fun _ _ _ _ _ => pg_name nd rfl (by first | exact Or.inl rfl | exact Or.inr rfl)) (fun _ _ _ _ _ => pts_nil)
      (fun _ _ _ _ _ => pe_op op_mul (pv 2) (pe_callTy call_int1 rfl b.f_int bt_int (pa_cons (pe_cmpR op_ge (pv 2) (pe_op op_pow pe_int pe_int) (nomark _)) pa_nil)))) pa_nil))))))
theorem sc_next : FnScope ["_law_drawn", "_law_many", "_law_cells", "_law_turn", "_law_rests", "_law_spot", "_law_digit", "_law_mixed", "_law_again"] ["_law_drawn", "_law_many"] (defScope st_next) := ⟨rfl, rfl, rfl, by decide +kernel, rfl, by decide +kernel, by decide +kernel⟩
theorem ok_next0 {f fd} {r c q : Addr} (b : Bi K mg) (F : Fn K "_law_next" "_law_next" st_next f fd) : FnOk P w K mg base CX0 1 f fd ["_law_drawn", "_law_many"] (spG (gr K r c q) (nextS r)) := ok_next F sc_next rfl rfl fun cdv A outer s H E hr => by
  have nd := sc_next.nd
  exact pss_cons (ps_asg (pv 0) (pg_lst rfl (pgs_cons (pg_name nd rfl (.inl rfl)) (pgs_cons (pg_name nd rfl (.inl rfl)) (pgs_cons (pg_name nd rfl (.inl rfl)) pgs_nil)))))
    (pss_cons (ps_set (i := 5) nd rfl (.inl rfl) (pe_op op_mod (pv 3) (pe_callB call_len_seq rfl b.f_len bt_len (pa_cons (pv 2) pa_nil))))
    (pss_cons (ps_asg (pe_op op_add (pv 3) pe_int) (pg_sub (pv 0) pe_int set_list (fun _ => rfl)))
    (pss_cons (ps_if (pt_cmpR op_gt (pe_ix ix_list (pv 4) (pv 5) (fun _ _ => rfl)) pe_int (nomark _))
      (pss_cons (ps_set (i := 6) nd rfl (.inl rfl) (pe_op op_mod (pe_ix ix_list (pv 4) (pv 5) (fun _ _ => rfl)) (pv 1)))
      (pss_cons (ps_asg (pe_op op_fdivM (pe_ix ix_list (pv 4) (pv 5) (fun _ _ => rfl)) (pv 1)) (pg_sub (pv 4) (pv 5) set_list (fun _ => rfl)))
      (pss_one (ps_ret (pv 6))))) pss_nil)
    (pss_cons (ps_set (i := 7) nd rfl (.inl rfl) (pe_op op_mod (pe_op op_pow (pe_op op_add (pe_op op_add (pe_op op_mod (pe_ix ix_list (pv 2) (pv 5) (fun _ _ => rfl)) pe_int) (pe_op op_mul pe_int (pv 3))) pe_int) pe_int) pe_int))
    (pss_cons (ps_set (i := 8) nd rfl (.inl rfl) (pe_op op_mod (pe_op op_pow (pe_op op_add (pe_op op_add (pv 7) (pe_op op_mul (pe_op op_mul pe_int (pv 3)) (pv 3))) pe_int) pe_int) pe_int))
    (pss_one (ps_ret (pe_op op_mod (pe_op op_mod (pe_op op_add (pe_op op_mul (pv 8) pe_int) (pv 7)) pe_int) (pv 1)))))))))
theorem sc_size_3de8 : FnScope ["_law_drawn", "_law_great", "_law_few"] ["_law_drawn", "_law_great"] (defScope st_size_3de8) := ⟨rfl, rfl, rfl, by decide +kernel, rfl, by decide +kernel, by decide +kernel⟩
theorem ok_size_3de8 {f fd} {r c q : Addr} (b : Bi K mg) (g_next : ∀ r c q, Glo P w K mg base "_law_next" 2 (spG (gr K r c q) (nextS r)) 1) (F : Fn K "_law_size" "_law_size" st_size_3de8 f fd) : FnOk P w K mg base CX0 2 f fd ["_law_drawn", "_law_great"] (spG (gr K r c q) (sp_size_3de8 r)) :=
  okG (P := P) (w := w) (mg := mg) (base := base) (G := gr K r c q) (k := 1) rfl F sc_size_3de8 (len_size_3de8 r) ⟨t_size_3de8 r, fun cdv A outer s H E hr => by
    have nd := sc_size_3de8.nd
    exact (qss_cons (qs_set (i := 2) nd rfl (by first | exact Or.inl rfl | exact Or.inr rfl) (qe_callG ((g_next _ _ _).at hr (by decide)) rfl (qa_cons (qv 0) (qa_cons (qe_bin o_add (qe_callB (c_min2 rfl) rfl b.f_min bt_min (qa_cons (qv 1) (qa_cons qe_int qa_nil))) qe_int) qa_nil))))
    (qss_one (qs_ret (qe_ix (qe_set (qf_lst (qa_cons (qv 2) (qa_cons (qe_bin o_sub (qv 1) (qv 2)) (qa_cons (qe_callG ((g_next _ _ _).at hr (by decide)) rfl (qa_cons (qv 0) (qa_cons (qe_bin o_add (qv 1) qe_int) qa_nil))) qa_nil))))) (qe_callG ((g_next _ _ _).at hr (by decide)) rfl (qa_cons (qv 0) (qa_cons qe_int qa_nil))))))), p_size_3de8 r⟩ (fun _ _ _ h => h)
theorem sc_items_cafd : FnScope ["_law_drawn", "_law_count", "_law_great", "_law_heavy", "_law_found", "_law_k"] ["_law_drawn", "_law_count"] (defScope st_items_cafd) := ⟨rfl, rfl, rfl, by decide +kernel, rfl, by decide +kernel, by decide +kernel⟩
theorem ok_items_cafd {f fd} {r c q : Addr} (b : Bi K mg) (g_next : ∀ r c q, Glo P w K mg base "_law_next" 2 (spG (gr K r c q) (nextS r)) 1) (g_size_3de8 : ∀ r c q, Glo P w K mg base "_law_size" 2 (spG (gr K r c q) (sp_size_3de8 r)) 2) (F : Fn K "_law_items" "_law_items" st_items_cafd f fd) : FnOk P w K mg base CX0 3 f fd ["_law_drawn", "_law_count"] (spG (gr K r c q) (sp_items_cafd r)) :=
  okG (P := P) (w := w) (mg := mg) (base := base) (G := gr K r c q) (k := 2) rfl F sc_items_cafd (len_items_cafd r) ⟨t_items_cafd r, fun cdv A outer s H E hr => by
    have nd := sc_items_cafd.nd
    exact (qss_cons (qs_set (i := 2) nd rfl (by first | exact Or.inl rfl | exact Or.inr rfl) (qe_ix (qe_set (qf_lst (qa_cons qe_int (qa_cons qe_int (qa_cons (qe_bin o_pow qe_int qe_int) qa_nil))))) (qe_callG ((g_next _ _ _).at hr (by decide)) rfl (qa_cons (qv 0) (qa_cons qe_int qa_nil)))))
    (qss_cons (qs_set (i := 3) nd rfl (by first | exact Or.inl rfl | exact Or.inr rfl) (qe_ix (qe_set (qf_lst (qa_cons qe_int (qa_cons qe_int (qa_cons (qe_bin o_pow qe_int qe_int) qa_nil))))) (qe_callG ((g_next _ _ _).at hr (by decide)) rfl (qa_cons (qv 0) (qa_cons qe_int qa_nil)))))
    (qss_cons (qs_setOwn (i := 4) nd rfl (by first | exact Or.inl rfl | exact Or.inr rfl) (qf_lst qa_nil))
    (qss_cons (qs_for PassesOwn.never rfl (qi_range1 rfl b.f_range (qa_cons (qv 1) qa_nil)) (qg_name nd rfl (by first | exact Or.inl rfl | exact Or.inr rfl)) (qss_one (qs_expr (qe_append (pv 4) (qe_tup (qa_cons (qe_bin o_sub (qe_callG ((g_size_3de8 _ _ _).at hr (by decide)) rfl (qa_cons (qv 0) (qa_cons (qe_bin o_mul qe_int (qv 2)) qa_nil))) (qv 2)) (qa_cons (qe_bin o_add qe_int (qe_callG ((g_size_3de8 _ _ _).at hr (by decide)) rfl (qa_cons (qv 0) (qa_cons (qe_bin o_sub (qv 3) qe_int) qa_nil)))) qa_nil)))))))
    (qss_one (qs_ret (qe_callTy c_tuple rfl b.f_tuple bt_tuple (qa_cons (qv 4) qa_nil)))))))), p_items_cafd r⟩ (fun _ _ _ h => h)
theorem sc_rules_ccf3 : FnScope ["_law_drawn", "_law_count", "_law_found", "_law_way", "_law_k", "_law_one_here", "_law_other"] ["_law_drawn", "_law_count"] (defScope st_rules_ccf3) := ⟨rfl, rfl, rfl, by decide +kernel, rfl, by decide +kernel, by decide +kernel⟩
theorem ok_rules_ccf3 {f fd} {r c q : Addr} (b : Bi K mg) (g_next : ∀ r c q, Glo P w K mg base "_law_next" 2 (spG (gr K r c q) (nextS r)) 1) (F : Fn K "_law_rules" "_law_rules" st_rules_ccf3 f fd) : FnOk P w K mg base CX0 2 f fd ["_law_drawn", "_law_count"] (spG (gr K r c q) (sp_rules_ccf3 r)) :=
  okG (P := P) (w := w) (mg := mg) (base := base) (G := gr K r c q) (k := 1) rfl F sc_rules_ccf3 (len_rules_ccf3 r) ⟨t_rules_ccf3 r, fun cdv A outer s H E hr => by
    have nd := sc_rules_ccf3.nd
    exact (qss_cons (qs_setOwn (i := 2) nd rfl (by first | exact Or.inl rfl | exact Or.inr rfl) (qf_lst qa_nil))
    (qss_cons (qs_set (i := 3) nd rfl (by first | exact Or.inl rfl | exact Or.inr rfl) (qe_callG ((g_next _ _ _).at hr (by decide)) rfl (qa_cons (qv 0) (qa_cons qe_int qa_nil))))
    (qss_cons (qs_for PassesOwn.never rfl (qi_range1 rfl b.f_range (qa_cons (qe_bin o_mul (qe_ix (qe_set (qf_lst (qa_cons qe_int (qa_cons qe_int (qa_cons qe_int (qa_cons qe_int (qa_cons qe_int (qa_cons qe_int qa_nil)))))))) (qe_callG ((g_next _ _ _).at hr (by decide)) rfl (qa_cons (qv 0) (qa_cons qe_int qa_nil)))) (qe_callTy c_int rfl b.f_int bt_int (qa_cons (qe_cmp o_gt (qv 1) qe_int (nomark _)) qa_nil))) qa_nil)) (qg_name nd rfl (by first | exact Or.inl rfl | exact Or.inr rfl)) (qss_cons (qs_set (i := 5) nd rfl (by first | exact Or.inl rfl | exact Or.inr rfl) (qe_callG ((g_next _ _ _).at hr (by decide)) rfl (qa_cons (qv 0) (qa_cons (qv 1) qa_nil))))
    (qss_cons (qs_set (i := 6) nd rfl (by first | exact Or.inl rfl | exact Or.inr rfl) (qe_bin o_mod (qe_bin o_add (qe_bin o_add (qv 5) qe_int) (qe_callG ((g_next _ _ _).at hr (by decide)) rfl (qa_cons (qv 0) (qa_cons (qe_bin o_sub (qv 1) qe_int) qa_nil)))) (qv 1)))
    (qss_one (qs_expr (qe_append (pv 2) (qe_if (qt_cmp (o_eq hr) (qv 3) qe_int (nomark _)) (qe_tup (qa_cons (qv 5) (qa_cons (qv 6) qa_nil))) (qe_tup (qa_cons (qe_callB (c_min2 rfl) rfl b.f_min bt_min (qa_cons (qv 5) (qa_cons (qv 6) qa_nil))) (qa_cons (qe_callB (c_max2 rfl) rfl b.f_max bt_max (qa_cons (qv 5) (qa_cons (qv 6) qa_nil))) qa_nil))))))))))
    (qss_one (qs_ret (qe_callTy c_tuple rfl b.f_tuple bt_tuple (qa_cons (qv 2) qa_nil))))))), p_rules_ccf3 r⟩ (fun _ _ _ h => h)
theorem sc_panel_3836 : FnScope ["_law_drawn", "_law_most", "_law_count"] ["_law_drawn", "_law_most"] (defScope st_panel_3836) := ⟨rfl, rfl, rfl, by decide +kernel, rfl, by decide +kernel, by decide +kernel⟩
theorem ok_panel_3836 {f fd} {r c q : Addr} (b : Bi K mg) (g_next : ∀ r c q, Glo P w K mg base "_law_next" 2 (spG (gr K r c q) (nextS r)) 1) (g_items_cafd : ∀ r c q, Glo P w K mg base "_law_items" 2 (spG (gr K r c q) (sp_items_cafd r)) 3) (g_rules_ccf3 : ∀ r c q, Glo P w K mg base "_law_rules" 2 (spG (gr K r c q) (sp_rules_ccf3 r)) 2) (F : Fn K "_law_panel" "_law_panel" st_panel_3836 f fd) : FnOk P w K mg base CX0 4 f fd ["_law_drawn", "_law_most"] (spG (gr K r c q) (sp_panel_3836 r)) :=
  okG (P := P) (w := w) (mg := mg) (base := base) (G := gr K r c q) (k := 3) rfl F sc_panel_3836 (len_panel_3836 r) ⟨t_panel_3836 r, fun cdv A outer s H E hr => by
    have nd := sc_panel_3836.nd
    exact (qss_cons (qs_set (i := 2) nd rfl (by first | exact Or.inl rfl | exact Or.inr rfl) (qe_bin o_add qe_int (qe_callG ((g_next _ _ _).at hr (by decide)) rfl (qa_cons (qv 0) (qa_cons (qv 1) qa_nil)))))
    (qss_one (qs_ret (qe_tup (qa_cons (qe_callG ((g_items_cafd _ _ _).at hr (by decide)) rfl (qa_cons (qv 0) (qa_cons (qv 2) qa_nil))) (qa_cons (qe_callG ((g_rules_ccf3 _ _ _).at hr (by decide)) rfl (qa_cons (qv 0) (qa_cons (qv 2) qa_nil))) qa_nil)))))), p_panel_3836 r⟩ (fun _ _ _ h => h)
theorem sc_room_5b7c : FnScope ["_law_panel_here", "_law_marks", "_law_most", "_law_heavy", "_law_mark", "_law_weight"] ["_law_panel_here"] (defScope st_room_5b7c) := ⟨rfl, rfl, rfl, by decide +kernel, rfl, by decide +kernel, by decide +kernel⟩
theorem ok_room_5b7c {f fd} (b : Bi K mg) (F : Fn K "_law_room" "_law_room" st_room_5b7c f fd) : FnOk P w K mg base CX0 1 f fd ["_law_panel_here"] (spP K sp_room_5b7c) :=
  okP F sc_room_5b7c len_room_5b7c ⟨t_room_5b7c, fun cdv A outer s H E hr => by
    have nd := sc_room_5b7c.nd
    exact (qss_cons (qs_lc rfl nd rfl rfl rfl (qi_seq (qe_ix (qv 0) qe_int)) (own := [("_law_mark", 4), ("_law_weight", 5)]) (blkOk_by (by kernel_rfl)) (by decide) (fun _ _ _ _ _ => (qg_tup rfl (qgs_cons (qg_name nd rfl (by first | exact Or.inl rfl | exact Or.inr rfl)) (qgs_cons (qg_name nd rfl (by first | exact Or.inl rfl | exact Or.inr rfl)) qgs_nil)))) (fun _ _ _ _ _ => qts_nil) (fun _ _ _ _ _ => (qv 4)))
    (qss_cons (qs_set (i := 2) nd rfl (by first | exact Or.inl rfl | exact Or.inr rfl) (qe_callB (c_max rfl) rfl b.f_max bt_max (qa_cons (qe_bin o_add (qe_set (qf_lst (qa_cons qe_int qa_nil))) (qe_set (qf_lc rfl nd (qi_seq (qv 1)) (own := [("_law_mark", 4)]) (blkOk_by (by kernel_rfl)) (by decide) (fun _ _ _ _ _ => (qg_name nd rfl (by first | exact Or.inl rfl | exact Or.inr rfl))) (fun _ _ _ _ _ => qts_nil) (fun _ _ _ _ _ => (qe_callB c_abs rfl b.f_abs bt_abs (qa_cons (qv 4) qa_nil)))))) qa_nil)))
    (qss_cons (qs_set (i := 3) nd rfl (by first | exact Or.inl rfl | exact Or.inr rfl) (qe_callB (c_max rfl) rfl b.f_max bt_max (qa_cons (qe_set (qf_lc rfl nd (qi_seq (qe_ix (qv 0) qe_int)) (own := [("_law_mark", 4), ("_law_weight", 5)]) (blkOk_by (by kernel_rfl)) (by decide) (fun _ _ _ _ _ => (qg_tup rfl (qgs_cons (qg_name nd rfl (by first | exact Or.inl rfl | exact Or.inr rfl)) (qgs_cons (qg_name nd rfl (by first | exact Or.inl rfl | exact Or.inr rfl)) qgs_nil)))) (fun _ _ _ _ _ => qts_nil) (fun _ _ _ _ _ => (qv 5)))) qa_nil)))
    (qss_one (qs_ret (qe_set (qf_lst (qa_cons (qe_bin o_sub (qe_un o_neg (qe_bin o_pow qe_int qe_int)) (qe_callB (c_min rfl) rfl b.f_min bt_min (qa_cons (qv 1) qa_nil))) (qa_cons (qe_bin o_sub (qe_bin o_pow qe_int qe_int) (qe_callB (c_max rfl) rfl b.f_max bt_max (qa_cons (qv 1) qa_nil))) (qa_cons (qe_bin o_fdiv (qe_bin o_pow qe_int qe_int) (qv 2)) (qa_cons (qe_bin o_fdiv (qe_bin o_pow qe_int qe_int) (qv 3)) qa_nil))))))))))), p_room_5b7c⟩
theorem sc_refused_b2f4 : FnScope ["_law_call", "error", "_law_flags"] ["_law_call"] (defScope st_refused_b2f4) := ⟨rfl, rfl, rfl, by decide +kernel, rfl, by decide +kernel, by decide +kernel⟩
theorem ok_refused_b2f4 (b : Bi K mg) (cdg : Value) (g : Addr) : GivesL P w K mg base "_law_refused" "_law_call" ["_law_call", "error", "_law_flags"] (defScope st_refused_b2f4) g cdg (defBody st_refused_b2f4) sp_refused_b2f4 := fun A outer s H fl Zc O R hr mo h act => ⟨t_refused_b2f4 O fl, by
    have nd := sc_refused_b2f4.nd
    exact (qss_cons (qs_tryAsL (f := lookT [("Full", "MarksError", true), ("LastItem", "MarksError", true), ("OutOfRange", "MarksError", true)]) rfl rfl nd rfl rfl rfl (lookT_ok b.exc.sub (by decide)) ⟨"Full", rfl⟩ (fun W pn xe tk po => (qssx_one (qsx_expr (act W pn xe _ _ tk)))) (fun a oe cls d pn Z0 x hx => (qss_cons (qs_set (i := 2) nd rfl (by first | exact Or.inl rfl | exact Or.inr rfl) (qe_set (qf_lst (qa_cons (qe_isE1 hx (sub_all b.exc.xq (by decide)) (lookT_ok b.exc.sub (by decide)) (pv 1) rfl b.f_isinstance ⟨"Full", true, rfl⟩ rfl) (qa_cons (qe_isE1 hx (sub_all b.exc.xq (by decide)) (lookT_ok b.exc.sub (by decide)) (pv 1) rfl b.f_isinstance ⟨"Full", false, rfl⟩ rfl) (qa_cons (qe_isE1 hx (sub_all b.exc.xq (by decide)) (lookT_ok b.exc.sub (by decide)) (pv 1) rfl b.f_isinstance ⟨"Full", false, rfl⟩ rfl) qa_nil))))))
    (qss_cons (qs_if (PW.pt (qw_or (qt_cmp (o_neH hr.units) (qe_cntB (qv 2) qe_bl) qe_int (nomark _)) (qw_and1 (qt_not (qt_val (qe_isE1 hx (sub_all b.exc.xq (by decide)) (lookT_ok b.exc.sub (by decide)) (pv 1) rfl b.f_isinstance ⟨"Full", true, rfl⟩ rfl)))))) (qss_one (qs_ret qe_str)) qss_nil)
    (qss_cons (qs_if (qt_val (qe_isET hx (sub_all b.exc.xq (by decide)) (lookT_ok b.exc.sub (by decide)) (pv 1) rfl b.f_isinstance (clsA_cons rfl (lookT_ok b.exc.sub (l := [("Full", "InvalidMark", false), ("Full", "InvalidWeight", false), ("Full", "NotFalling", false), ("LastItem", "InvalidMark", false), ("LastItem", "InvalidWeight", false), ("LastItem", "NotFalling", false), ("OutOfRange", "InvalidMark", false), ("OutOfRange", "InvalidWeight", false), ("OutOfRange", "NotFalling", false)]) (by decide)) ⟨"Full", false, rfl⟩ (clsA_cons rfl (lookT_ok b.exc.sub (l := [("Full", "InvalidMark", false), ("Full", "InvalidWeight", false), ("Full", "NotFalling", false), ("LastItem", "InvalidMark", false), ("LastItem", "InvalidWeight", false), ("LastItem", "NotFalling", false), ("OutOfRange", "InvalidMark", false), ("OutOfRange", "InvalidWeight", false), ("OutOfRange", "NotFalling", false)]) (by decide)) ⟨"Full", false, rfl⟩ (clsA_cons rfl (lookT_ok b.exc.sub (l := [("Full", "InvalidMark", false), ("Full", "InvalidWeight", false), ("Full", "NotFalling", false), ("LastItem", "InvalidMark", false), ("LastItem", "InvalidWeight", false), ("LastItem", "NotFalling", false), ("OutOfRange", "InvalidMark", false), ("OutOfRange", "InvalidWeight", false), ("OutOfRange", "NotFalling", false)]) (by decide)) ⟨"Full", false, rfl⟩ (clsA_nil)))) (by decide))) (qss_one (qs_ret qe_str)) qss_nil)
    (qss_one (qs_ret (qe_ix (qe_set (qf_lst (qa_cons qe_str (qa_cons qe_str (qa_cons qe_str qa_nil))))) (qe_indexB (qv 2) qe_bl)))))))))
    (qss_one (qs_ret qe_str))), p_refused_b2f4 O fl R mo h⟩
theorem sc_is_integer_8a5f : FnScope ["value"] ["value"] (defScope st_is_integer_8a5f) := ⟨rfl, rfl, rfl, by decide +kernel, rfl, by decide +kernel, by decide +kernel⟩
theorem ok_is_integer_8a5f {f fd} (b : Bi K mg) (F : Fn K "is_integer" "is_integer" st_is_integer_8a5f f fd) : FnOk P w K mg base CX0 1 f fd ["value"] (spP K sp_is_integer_8a5f) :=
  okP F sc_is_integer_8a5f len_is_integer_8a5f ⟨t_is_integer_8a5f, fun cdv A outer s H E hr => by
    have nd := sc_is_integer_8a5f.nd
    exact (qss_one (qs_ret (qe_and (qe_isi (by decide) (qv 0) rfl b.f_isinstance rfl b.f_int bt_int) (qe_one (qe_not (qe_isi (by decide) (qv 0) rfl b.f_isinstance rfl b.f_bool bt_bool)))))), p_is_integer_8a5f⟩
theorem sc_is_within_3133 : FnScope ["value", "low", "high"] ["value", "low", "high"] (defScope st_is_within_3133) := ⟨rfl, rfl, rfl, by decide +kernel, rfl, by decide +kernel, by decide +kernel⟩
theorem ok_is_within_3133 {f fd} (b : Bi K mg) (g_is_integer_8a5f : Glo P w K mg base "is_integer" 1 (spP K (sp_is_integer_8a5f)) 1) (F : Fn K "is_within" "is_within" st_is_within_3133 f fd) : FnOk P w K mg base CX0 2 f fd ["value", "low", "high"] (spP K sp_is_within_3133) :=
  okP F sc_is_within_3133 len_is_within_3133 ⟨t_is_within_3133, fun cdv A outer s H E hr => by
    have nd := sc_is_within_3133.nd
    exact (qss_one (qs_ret (qe_and (qe_call (g_is_integer_8a5f.at hr (by decide)) rfl (qa_cons (qv 0) qa_nil)) (qe_one (qe_chain o_le o_le (qv 1) (qv 0) (qv 2)))))), p_is_within_3133⟩
theorem sc_is_mark_f168 : FnScope ["value"] ["value"] (defScope st_is_mark_f168) := ⟨rfl, rfl, rfl, by decide +kernel, rfl, by decide +kernel, by decide +kernel⟩
theorem ok_is_mark_f168 {f fd} (b : Bi K mg) (g_is_within_3133 : Glo P w K mg base "is_within" 3 (spP K (sp_is_within_3133)) 2) (F : Fn K "is_mark" "is_mark" st_is_mark_f168 f fd) : FnOk P w K mg base CX0 3 f fd ["value"] (spP K sp_is_mark_f168) :=
  okP F sc_is_mark_f168 len_is_mark_f168 ⟨t_is_mark_f168, fun cdv A outer s H E hr => by
    have nd := sc_is_mark_f168.nd
    exact (qss_one (qs_ret (qe_call (g_is_within_3133.at hr (by decide)) rfl (qa_cons (qv 0) (qa_cons (qe_bin o_sub qe_int (qe_gl rfl b.g_MARK)) (qa_cons (qe_gl rfl b.g_MARK) qa_nil)))))), p_is_mark_f168⟩
theorem sc_is_weight_6941 : FnScope ["value"] ["value"] (defScope st_is_weight_6941) := ⟨rfl, rfl, rfl, by decide +kernel, rfl, by decide +kernel, by decide +kernel⟩
theorem ok_is_weight_6941 {f fd} (b : Bi K mg) (g_is_within_3133 : Glo P w K mg base "is_within" 3 (spP K (sp_is_within_3133)) 2) (F : Fn K "is_weight" "is_weight" st_is_weight_6941 f fd) : FnOk P w K mg base CX0 3 f fd ["value"] (spP K sp_is_weight_6941) :=
  okP F sc_is_weight_6941 len_is_weight_6941 ⟨t_is_weight_6941, fun cdv A outer s H E hr => by
    have nd := sc_is_weight_6941.nd
    exact (qss_one (qs_ret (qe_call (g_is_within_3133.at hr (by decide)) rfl (qa_cons (qv 0) (qa_cons qe_int (qa_cons (qe_gl rfl b.g_WEIGHT) qa_nil)))))), p_is_weight_6941⟩
theorem sc_checked_7d9fx : FnScope ["items", "rules", "mark", "weight"] ["items", "rules"] (defScope st_checked_7d9fx) := ⟨rfl, rfl, rfl, by decide +kernel, rfl, by decide +kernel, by decide +kernel⟩
theorem ok_checked_7d9fx {f fd} (b : Bi K mg) (g_is_mark_f168 : Glo P w K mg base "is_mark" 1 (spP K (sp_is_mark_f168)) 3) (g_is_weight_6941 : Glo P w K mg base "is_weight" 1 (spP K (sp_is_weight_6941)) 3) (F : Fn K "checked" "checked" st_checked_7d9fx f fd) : FnOk P w K mg base (L2.CX P w) 4 f fd ["items", "rules"] (spPX K mg sp_checked_7d9fx) :=
  okPX F sc_checked_7d9fx len_checked_7d9fx ⟨t_checked_7d9fx, fun cdv A outer s H E hr => by
    have nd := sc_checked_7d9fx.nd
    exact (qssx_cons (qsx_if (qt_not (qt_val (qe_callB (c_all rfl) rfl b.f_all bt_all (qa_cons (qe_set (qf_lc rfl nd (qi_seq (qv 0)) (own := [("mark", 2), ("weight", 3)]) (blkOk_by (by kernel_rfl)) (by decide) (fun _ _ _ _ _ => (qg_tup rfl (qgs_cons (qg_name nd rfl (by first | exact Or.inl rfl | exact Or.inr rfl)) (qgs_cons (qg_name nd rfl (by first | exact Or.inl rfl | exact Or.inr rfl)) qgs_nil)))) (fun _ _ _ _ _ => qts_nil) (fun _ _ _ _ _ => (qe_and (qe_call (g_is_mark_f168.at hr (by decide)) rfl (qa_cons (qv 2) qa_nil)) (qe_one (qe_call (g_is_weight_6941.at hr (by decide)) rfl (qa_cons (qv 3) qa_nil))))))) qa_nil)))) (qssx_one (qsx_raise0 rfl (takes_of rfl rfl rfl rfl) (b.exc.x0 _ (by decide)) (b.exc.xq _ (by decide)) rfl)) (qssx_of qss_nil))
    (qssx_of (qss_one (qs_ret (qe_tup (qa_cons (qv 0) (qa_cons (qv 1) qa_nil))))))), p_checked_7d9fx⟩
theorem sc_shift_panel_0a39x : FnScope ["panel", "amount", "items", "rules", "mark", "weight"] ["panel", "amount"] (defScope st_shift_panel_0a39x) := ⟨rfl, rfl, rfl, by decide +kernel, rfl, by decide +kernel, by decide +kernel⟩
theorem ok_shift_panel_0a39x {f fd} (b : Bi K mg) (g_checked_7d9fx : GloX P w K mg base "checked" 2 (spPX K mg (sp_checked_7d9fx)) 4) (F : Fn K "shift_panel" "shift_panel" st_shift_panel_0a39x f fd) : FnOk P w K mg base (L2.CX P w) 5 f fd ["panel", "amount"] (spPX K mg sp_shift_panel_0a39x) :=
  okPX F sc_shift_panel_0a39x len_shift_panel_0a39x ⟨t_shift_panel_0a39x, fun cdv A outer s H E hr => by
    have nd := sc_shift_panel_0a39x.nd
    exact (qssx_cons (qsx_of (qs_setT (qv 0) (qg_tup rfl (qgs_cons (qg_name nd rfl (by first | exact Or.inl rfl | exact Or.inr rfl)) (qgs_cons (qg_name nd rfl (by first | exact Or.inl rfl | exact Or.inr rfl)) qgs_nil)))))
    (qssx_one (qsx_ret (qex_call (g_checked_7d9fx.at hr (by decide)) (takes_of rfl rfl rfl rfl) rfl (qa_cons (qe_callTy c_tuple rfl b.f_tuple bt_tuple (qa_cons (qe_set (qf_lc rfl nd (qi_seq (qv 2)) (own := [("mark", 4), ("weight", 5)]) (blkOk_by (by kernel_rfl)) (by decide) (fun _ _ _ _ _ => (qg_tup rfl (qgs_cons (qg_name nd rfl (by first | exact Or.inl rfl | exact Or.inr rfl)) (qgs_cons (qg_name nd rfl (by first | exact Or.inl rfl | exact Or.inr rfl)) qgs_nil)))) (fun _ _ _ _ _ => qts_nil) (fun _ _ _ _ _ => (qe_tup (qa_cons (qe_bin o_add (qv 4) (qv 1)) (qa_cons (qv 5) qa_nil)))))) qa_nil)) (qa_cons (qv 3) qa_nil)))))), p_shift_panel_0a39x⟩
theorem sc_scale_panel_72bax : FnScope ["panel", "factor", "items", "rules", "mark", "weight"] ["panel", "factor"] (defScope st_scale_panel_72bax) := ⟨rfl, rfl, rfl, by decide +kernel, rfl, by decide +kernel, by decide +kernel⟩
theorem ok_scale_panel_72bax {f fd} (b : Bi K mg) (g_checked_7d9fx : GloX P w K mg base "checked" 2 (spPX K mg (sp_checked_7d9fx)) 4) (F : Fn K "scale_panel" "scale_panel" st_scale_panel_72bax f fd) : FnOk P w K mg base (L2.CX P w) 5 f fd ["panel", "factor"] (spPX K mg sp_scale_panel_72bax) :=
  okPX F sc_scale_panel_72bax len_scale_panel_72bax ⟨t_scale_panel_72bax, fun cdv A outer s H E hr => by
    have nd := sc_scale_panel_72bax.nd
    exact (qssx_cons (qsx_of (qs_setT (qv 0) (qg_tup rfl (qgs_cons (qg_name nd rfl (by first | exact Or.inl rfl | exact Or.inr rfl)) (qgs_cons (qg_name nd rfl (by first | exact Or.inl rfl | exact Or.inr rfl)) qgs_nil)))))
    (qssx_one (qsx_ret (qex_call (g_checked_7d9fx.at hr (by decide)) (takes_of rfl rfl rfl rfl) rfl (qa_cons (qe_callTy c_tuple rfl b.f_tuple bt_tuple (qa_cons (qe_set (qf_lc rfl nd (qi_seq (qv 2)) (own := [("mark", 4), ("weight", 5)]) (blkOk_by (by kernel_rfl)) (by decide) (fun _ _ _ _ _ => (qg_tup rfl (qgs_cons (qg_name nd rfl (by first | exact Or.inl rfl | exact Or.inr rfl)) (qgs_cons (qg_name nd rfl (by first | exact Or.inl rfl | exact Or.inr rfl)) qgs_nil)))) (fun _ _ _ _ _ => qts_nil) (fun _ _ _ _ _ => (qe_tup (qa_cons (qe_bin o_mul (qv 4) (qv 1)) (qa_cons (qv 5) qa_nil)))))) qa_nil)) (qa_cons (qv 3) qa_nil)))))), p_scale_panel_72bax⟩
theorem sc_weigh_panel_fe94x : FnScope ["panel", "factor", "items", "rules", "mark", "weight"] ["panel", "factor"] (defScope st_weigh_panel_fe94x) := ⟨rfl, rfl, rfl, by decide +kernel, rfl, by decide +kernel, by decide +kernel⟩
theorem ok_weigh_panel_fe94x {f fd} (b : Bi K mg) (g_checked_7d9fx : GloX P w K mg base "checked" 2 (spPX K mg (sp_checked_7d9fx)) 4) (F : Fn K "weigh_panel" "weigh_panel" st_weigh_panel_fe94x f fd) : FnOk P w K mg base (L2.CX P w) 5 f fd ["panel", "factor"] (spPX K mg sp_weigh_panel_fe94x) :=
  okPX F sc_weigh_panel_fe94x len_weigh_panel_fe94x ⟨t_weigh_panel_fe94x, fun cdv A outer s H E hr => by
    have nd := sc_weigh_panel_fe94x.nd
    exact (qssx_cons (qsx_of (qs_setT (qv 0) (qg_tup rfl (qgs_cons (qg_name nd rfl (by first | exact Or.inl rfl | exact Or.inr rfl)) (qgs_cons (qg_name nd rfl (by first | exact Or.inl rfl | exact Or.inr rfl)) qgs_nil)))))
    (qssx_one (qsx_ret (qex_call (g_checked_7d9fx.at hr (by decide)) (takes_of rfl rfl rfl rfl) rfl (qa_cons (qe_callTy c_tuple rfl b.f_tuple bt_tuple (qa_cons (qe_set (qf_lc rfl nd (qi_seq (qv 2)) (own := [("mark", 4), ("weight", 5)]) (blkOk_by (by kernel_rfl)) (by decide) (fun _ _ _ _ _ => (qg_tup rfl (qgs_cons (qg_name nd rfl (by first | exact Or.inl rfl | exact Or.inr rfl)) (qgs_cons (qg_name nd rfl (by first | exact Or.inl rfl | exact Or.inr rfl)) qgs_nil)))) (fun _ _ _ _ _ => qts_nil) (fun _ _ _ _ _ => (qe_tup (qa_cons (qv 4) (qa_cons (qe_bin o_mul (qv 5) (qv 1)) qa_nil)))))) qa_nil)) (qa_cons (qv 3) qa_nil)))))), p_weigh_panel_fe94x⟩
theorem sc_amounts_right_aed0 : FnScope ["_law_drawn", "_law_panel_here", "_law_low", "_law_high", "_law_most", "_law_heavy", "_law_some", "_law_amount", "_law_due", "_law_factor", "_law_mark", "_law_weight"] ["_law_drawn", "_law_panel_here"] (defScope st_amounts_right_aed0) := ⟨rfl, rfl, rfl, by decide +kernel, rfl, by decide +kernel, by decide +kernel⟩
theorem ok_amounts_right_aed0 {fd} {r c q : Addr} (tb : Tabs K mg base tfl) (b : Bi K mg) (g_room_5b7c : Glo P w K mg base "_law_room" 1 (spP K (sp_room_5b7c)) 1) (g_size_3de8 : ∀ r c q, Glo P w K mg base "_law_size" 2 (spG (gr K r c q) (sp_size_3de8 r)) 2) (g_refused_b2f4 : GloL P w K mg base "_law_refused" sp_refused_b2f4) (g_shift_panel_0a39x : GloX P w K mg base "shift_panel" 2 (spPX K mg (sp_shift_panel_0a39x)) 5) (g_scale_panel_72bax : GloX P w K mg base "scale_panel" 2 (spPX K mg (sp_scale_panel_72bax)) 5) (g_weigh_panel_fe94x : GloX P w K mg base "weigh_panel" 2 (spPX K mg (sp_weigh_panel_fe94x)) 5) (F : Fn K "_law_amounts_right" "_law_amounts_right" st_amounts_right_aed0 (He.fAd K ("_law_amounts_right", none)) fd) : FnG P w K mg base 9 (He.fAd K ("_law_amounts_right", none)) fd ["_law_drawn", "_law_panel_here"] (spG (gT (gr K r c q) (tabsT K tfl)) (sp_amounts_right_aed0 r)) :=
  okGC (P := P) (w := w) (mg := mg) (base := base) (G := gT (gr K r c q) (tabsT K tfl)) (k := 8) rfl F sc_amounts_right_aed0 (len_amounts_right_aed0 r) ⟨t_amounts_right_aed0 r, fun A outer s H E hr gd => by
    have nd := sc_amounts_right_aed0.nd
    exact (qss_cons (qs_setT (qe_call (g_room_5b7c.at hr (by decide)) rfl (qa_cons (qv 1) qa_nil)) (qg_tup rfl (qgs_cons (qg_name nd rfl (by first | exact Or.inl rfl | exact Or.inr rfl)) (qgs_cons (qg_name nd rfl (by first | exact Or.inl rfl | exact Or.inr rfl)) (qgs_cons (qg_name nd rfl (by first | exact Or.inl rfl | exact Or.inr rfl)) (qgs_cons (qg_name nd rfl (by first | exact Or.inl rfl | exact Or.inr rfl)) qgs_nil))))))
    (qss_cons (qs_if (qt_cmp (o_eq hr) (qe_set (qf_lc rfl nd (qi_seq (qe_ix (qv 1) qe_int)) (own := [("_law_mark", 10), ("_law_weight", 11)]) (blkOk_by (by kernel_rfl)) (by decide) (fun _ _ _ _ _ => (qg_tup rfl (qgs_cons (qg_name nd rfl (by first | exact Or.inl rfl | exact Or.inr rfl)) (qgs_cons (qg_name nd rfl (by first | exact Or.inl rfl | exact Or.inr rfl)) qgs_nil)))) (fun _ _ _ _ _ => (qts_one (qt_cmp (o_ne hr) (qv 10) qe_int (nomark _)))) (fun _ _ _ _ _ => (qv 10)))) (qe_set (qf_lst qa_nil)) (nomark _)) (qss_one (qs_set (i := 4) nd rfl (by first | exact Or.inl rfl | exact Or.inr rfl) (qe_bin o_pow qe_int qe_int))) qss_nil)
    (qss_cons (qs_set (i := 6) nd rfl (by first | exact Or.inl rfl | exact Or.inr rfl) (qe_set (qf_lst (qa_cons (qe_bin o_sub (qv 2) qe_int) (qa_cons (qv 2) (qa_cons qe_int (qa_cons (qv 3) (qa_cons (qe_bin o_add (qv 3) qe_int) (qa_cons (qe_bin o_pow qe_int qe_int) (qa_cons (qe_un o_neg (qe_bin o_pow qe_int qe_int)) (qa_cons (qe_bin o_mul qe_int (qe_bin o_pow qe_int qe_int)) (qa_cons (qe_bin o_add (qv 2) (qe_callGT ((g_size_3de8 _ _ _).at hr (by decide)) rfl (qa_cons (qv 0) (qa_cons (qe_bin o_sub (qv 3) (qv 2)) qa_nil)))) qa_nil))))))))))))
    (qss_cons (qs_for PassesOwn.never rfl (qi_seq (qv 6)) (qg_name nd rfl (by first | exact Or.inl rfl | exact Or.inr rfl)) (qss_cons (qs_set (i := 8) nd rfl (by first | exact Or.inl rfl | exact Or.inr rfl) (qe_ix (qe_set (qf_lst (qa_cons qe_str (qa_cons qe_str qa_nil)))) (qe_callTy c_int rfl b.f_int bt_int (qa_cons (qe_chain o_le o_le (qv 2) (qv 7) (qv 3)) qa_nil))))
    (qss_one (qs_if (qt_cmp (o_ne hr) (qe_lam g_refused_b2f4 rfl (tb.at_ _ (List.Mem.head _)) rfl (tabsT_mem (List.Mem.head _)) (tabsT_one (List.Mem.head _) tb.apart) hr (LamX.lamS_by (sc := defScope st_amounts_right_aed0) (by decide +kernel)) rfl (fun _ _ _ _ _ => rfl) (fun A outer s H E f c2 hr => (qex_call (g_shift_panel_0a39x.at hr (by decide)) (takes_of rfl rfl rfl rfl) rfl (qa_cons (qv 1) (qa_cons (qv 7) qa_nil))))) (qv 8) (nomark _)) (qss_one (qs_ret qe_bl)) qss_nil))))
    (qss_cons (qs_for PassesOwn.never rfl (qi_seq (qe_set (qf_lst (qa_cons qe_int (qa_cons (qv 4) (qa_cons (qe_bin o_add (qv 4) qe_int) (qa_cons (qv 5) (qa_cons (qe_bin o_add (qv 5) qe_int) (qa_cons (qe_bin o_pow qe_int qe_int) (qa_cons qe_int (qa_cons (qe_bin o_pow qe_int qe_int) qa_nil))))))))))) (qg_name nd rfl (by first | exact Or.inl rfl | exact Or.inr rfl)) (qss_one (qs_if (qt_cmp o_lt (qv 9) (qe_bin o_pow qe_int qe_int) (nomark _)) (qss_cons (qs_set (i := 8) nd rfl (by first | exact Or.inl rfl | exact Or.inr rfl) (qe_ix (qe_set (qf_lst (qa_cons qe_str (qa_cons qe_str qa_nil)))) (qe_callTy c_int rfl b.f_int bt_int (qa_cons (qe_cmp o_le (qv 9) (qv 4) (nomark _)) qa_nil))))
    (qss_cons (qs_if (qt_cmp (o_ne hr) (qe_lam g_refused_b2f4 rfl (tb.at_ _ (List.Mem.head _)) rfl (tabsT_mem (List.Mem.head _)) (tabsT_one (List.Mem.head _) tb.apart) hr (LamX.lamS_by (sc := defScope st_amounts_right_aed0) (by decide +kernel)) rfl (fun _ _ _ _ _ => rfl) (fun A outer s H E f c2 hr => (qex_call (g_scale_panel_72bax.at hr (by decide)) (takes_of rfl rfl rfl rfl) rfl (qa_cons (qv 1) (qa_cons (qv 9) qa_nil))))) (qv 8) (nomark _)) (qss_one (qs_ret qe_bl)) qss_nil)
    (qss_cons (qs_set (i := 8) nd rfl (by first | exact Or.inl rfl | exact Or.inr rfl) (qe_ix (qe_set (qf_lst (qa_cons qe_str (qa_cons qe_str qa_nil)))) (qe_callTy c_int rfl b.f_int bt_int (qa_cons (qe_cmp o_le (qv 9) (qv 5) (nomark _)) qa_nil))))
    (qss_one (qs_if (qt_cmp (o_ne hr) (qe_lam g_refused_b2f4 rfl (tb.at_ _ (List.Mem.head _)) rfl (tabsT_mem (List.Mem.head _)) (tabsT_one (List.Mem.head _) tb.apart) hr (LamX.lamS_by (sc := defScope st_amounts_right_aed0) (by decide +kernel)) rfl (fun _ _ _ _ _ => rfl) (fun A outer s H E f c2 hr => (qex_call (g_weigh_panel_fe94x.at hr (by decide)) (takes_of rfl rfl rfl rfl) rfl (qa_cons (qv 1) (qa_cons (qv 9) qa_nil))))) (qv 8) (nomark _)) (qss_one (qs_ret qe_bl)) qss_nil))))) qss_nil)))
    (qss_one (qs_ret qe_bl))))))), p_amounts_right_aed0 r⟩ (fun _ _ _ h => h)
theorem sc_without_item_d43ax : FnScope ["panel", "item", "items", "rules", "rest", "low", "high"] ["panel", "item"] (defScope st_without_item_d43ax) := ⟨rfl, rfl, rfl, by decide +kernel, rfl, by decide +kernel, by decide +kernel⟩
theorem ok_without_item_d43ax {f fd} (b : Bi K mg) (F : Fn K "without_item" "without_item" st_without_item_d43ax f fd) : FnOk P w K mg base (L2.CX P w) 1 f fd ["panel", "item"] (spPX K mg sp_without_item_d43ax) :=
  okPX F sc_without_item_d43ax len_without_item_d43ax ⟨t_without_item_d43ax, fun cdv A outer s H E hr => by
    have nd := sc_without_item_d43ax.nd
    exact (qssx_cons (qsx_of (qs_setT (qv 0) (qg_tup rfl (qgs_cons (qg_name nd rfl (by first | exact Or.inl rfl | exact Or.inr rfl)) (qgs_cons (qg_name nd rfl (by first | exact Or.inl rfl | exact Or.inr rfl)) qgs_nil)))))
    (qssx_cons (qsx_if (qt_cmp (o_eq hr) (qe_callB c_len rfl b.f_len bt_len (qa_cons (qv 2) qa_nil)) qe_int (nomark _)) (qssx_one (qsx_raise0 rfl (takes_of rfl rfl rfl rfl) (b.exc.x0 _ (by decide)) (b.exc.xq _ (by decide)) rfl)) (qssx_of qss_nil))
    (qssx_of (qss_cons (qs_lc rfl nd rfl rfl rfl (qi_seq (qv 3)) (own := [("low", 5), ("high", 6)]) (blkOk_by (by kernel_rfl)) (by decide) (fun _ _ _ _ _ => (qg_tup rfl (qgs_cons (qg_name nd rfl (by first | exact Or.inl rfl | exact Or.inr rfl)) (qgs_cons (qg_name nd rfl (by first | exact Or.inl rfl | exact Or.inr rfl)) qgs_nil)))) (fun _ _ _ _ _ => (qts_one (qt_cmp (o_notIn hr) (qv 1) (qe_tup (qa_cons (qv 5) (qa_cons (qv 6) qa_nil))) (by rfl)))) (fun _ _ _ _ _ => (qe_tup (qa_cons (qv 5) (qa_cons (qv 6) qa_nil)))))
    (qss_cons (qs_lc rfl nd rfl rfl rfl (qi_seq (qv 4)) (own := [("low", 5), ("high", 6)]) (blkOk_by (by kernel_rfl)) (by decide) (fun _ _ _ _ _ => (qg_tup rfl (qgs_cons (qg_name nd rfl (by first | exact Or.inl rfl | exact Or.inr rfl)) (qgs_cons (qg_name nd rfl (by first | exact Or.inl rfl | exact Or.inr rfl)) qgs_nil)))) (fun _ _ _ _ _ => qts_nil) (fun _ _ _ _ _ => (qe_tup (qa_cons (qe_bin o_sub (qv 5) (qe_callTy c_int rfl b.f_int bt_int (qa_cons (qe_cmp o_gt (qv 5) (qv 1) (nomark _)) qa_nil))) (qa_cons (qe_bin o_sub (qv 6) (qe_callTy c_int rfl b.f_int bt_int (qa_cons (qe_cmp o_gt (qv 6) (qv 1) (nomark _)) qa_nil))) qa_nil)))))
    (qss_one (qs_ret (qe_tup (qa_cons (qe_bin o_add (qe_slice (qv 2) qo_none (qo_some (qv 1))) (qe_slice (qv 2) (qo_some (qe_bin o_add (qv 1) qe_int)) qo_none)) (qa_cons (qe_callTy c_tuple rfl b.f_tuple bt_tuple (qa_cons (qv 4) qa_nil)) qa_nil)))))))))), p_without_item_d43ax⟩
theorem sc_combine_panels_586dx : FnScope ["one", "other", "first", "items", "rules", "low", "high"] ["one", "other"] (defScope st_combine_panels_586dx) := ⟨rfl, rfl, rfl, by decide +kernel, rfl, by decide +kernel, by decide +kernel⟩
theorem ok_combine_panels_586dx {f fd} (b : Bi K mg) (F : Fn K "combine_panels" "combine_panels" st_combine_panels_586dx f fd) : FnOk P w K mg base (L2.CX P w) 1 f fd ["one", "other"] (spPX K mg sp_combine_panels_586dx) :=
  okPX F sc_combine_panels_586dx len_combine_panels_586dx ⟨t_combine_panels_586dx, fun cdv A outer s H E hr => by
    have nd := sc_combine_panels_586dx.nd
    exact (qssx_cons (qsx_of (qs_set (i := 2) nd rfl (by first | exact Or.inl rfl | exact Or.inr rfl) (qe_callB c_len rfl b.f_len bt_len (qa_cons (qe_ix (qv 0) qe_int) qa_nil))))
    (qssx_cons (qsx_of (qs_set (i := 3) nd rfl (by first | exact Or.inl rfl | exact Or.inr rfl) (qe_bin o_add (qe_ix (qv 0) qe_int) (qe_ix (qv 1) qe_int))))
    (qssx_cons (qsx_of (qs_set (i := 4) nd rfl (by first | exact Or.inl rfl | exact Or.inr rfl) (qe_bin o_add (qe_ix (qv 0) qe_int) (qe_callTy c_tuple rfl b.f_tuple bt_tuple (qa_cons (qe_set (qf_lc rfl nd (qi_seq (qe_ix (qv 1) qe_int)) (own := [("low", 5), ("high", 6)]) (blkOk_by (by kernel_rfl)) (by decide) (fun _ _ _ _ _ => (qg_tup rfl (qgs_cons (qg_name nd rfl (by first | exact Or.inl rfl | exact Or.inr rfl)) (qgs_cons (qg_name nd rfl (by first | exact Or.inl rfl | exact Or.inr rfl)) qgs_nil)))) (fun _ _ _ _ _ => qts_nil) (fun _ _ _ _ _ => (qe_tup (qa_cons (qe_bin o_add (qv 2) (qv 5)) (qa_cons (qe_bin o_add (qv 2) (qv 6)) qa_nil)))))) qa_nil)))))
    (qssx_cons (qsx_if (PW.pt (qw_or (qt_cmp o_gt (qe_callB c_len rfl b.f_len bt_len (qa_cons (qv 3) qa_nil)) (qe_gl rfl b.g_ITEMS) (nomark _)) (qw_and1 (qt_cmp o_gt (qe_callB c_len rfl b.f_len bt_len (qa_cons (qv 4) qa_nil)) (qe_gl rfl b.g_RULES) (nomark _))))) (qssx_one (qsx_raise0 rfl (takes_of rfl rfl rfl rfl) (b.exc.x0 _ (by decide)) (b.exc.xq _ (by decide)) rfl)) (qssx_of qss_nil))
    (qssx_of (qss_one (qs_ret (qe_tup (qa_cons (qv 3) (qa_cons (qv 4) qa_nil)))))))))), p_combine_panels_586dx⟩
theorem sc_pair_right_2ac3 : FnScope ["_law_one_here", "_law_other", "_law_fits"] ["_law_one_here", "_law_other"] (defScope st_pair_right_2ac3) := ⟨rfl, rfl, rfl, by decide +kernel, rfl, by decide +kernel, by decide +kernel⟩
theorem ok_pair_right_2ac3 {fd} {r c q : Addr} (tb : Tabs K mg base tfl) (b : Bi K mg) (g_refused_b2f4 : GloL P w K mg base "_law_refused" sp_refused_b2f4) (g_combine_panels_586dx : GloX P w K mg base "combine_panels" 2 (spPX K mg (sp_combine_panels_586dx)) 1) (F : Fn K "_law_pair_right" "_law_pair_right" st_pair_right_2ac3 (He.fAd K ("_law_pair_right", none)) fd) : FnG P w K mg base 5 (He.fAd K ("_law_pair_right", none)) fd ["_law_one_here", "_law_other"] (spG (gT (gr K r c q) (tabsT K tfl)) (sp_pair_right_2ac3 r)) :=
  okGC (P := P) (w := w) (mg := mg) (base := base) (G := gT (gr K r c q) (tabsT K tfl)) (k := 4) rfl F sc_pair_right_2ac3 (len_pair_right_2ac3 r) ⟨t_pair_right_2ac3 r, fun A outer s H E hr gd => by
    have nd := sc_pair_right_2ac3.nd
    exact (qss_cons (qs_set (i := 2) nd rfl (by first | exact Or.inl rfl | exact Or.inr rfl) (qe_and (qe_cmp o_lt (qe_bin o_add (qe_callB c_len rfl b.f_len bt_len (qa_cons (qe_ix (qv 0) qe_int) qa_nil)) (qe_callB c_len rfl b.f_len bt_len (qa_cons (qe_ix (qv 1) qe_int) qa_nil))) qe_int (nomark _)) (qe_one (qe_cmp o_lt (qe_bin o_add (qe_callB c_len rfl b.f_len bt_len (qa_cons (qe_ix (qv 0) qe_int) qa_nil)) (qe_callB c_len rfl b.f_len bt_len (qa_cons (qe_ix (qv 1) qe_int) qa_nil))) qe_int (nomark _)))))
    (qss_one (qs_ret (qe_cmp (o_eq hr) (qe_lam g_refused_b2f4 rfl (tb.at_ _ (List.Mem.tail _ (List.Mem.head _))) rfl (tabsT_mem (List.Mem.tail _ (List.Mem.head _))) (tabsT_one (List.Mem.tail _ (List.Mem.head _)) tb.apart) hr (LamX.lamS_by (sc := defScope st_pair_right_2ac3) (by decide +kernel)) rfl (fun _ _ _ _ _ => rfl) (fun A outer s H E f c2 hr => (qex_call (g_combine_panels_586dx.at hr (by decide)) (takes_of rfl rfl rfl rfl) rfl (qa_cons (qv 0) (qa_cons (qv 1) qa_nil))))) (qe_ix (qe_set (qf_lst (qa_cons qe_str (qa_cons qe_str qa_nil)))) (qe_callTy c_int rfl b.f_int bt_int (qa_cons (qv 2) qa_nil))) (nomark _))))), p_pair_right_2ac3 r⟩ (fun _ _ _ h => h)
theorem sc_law_ed47 : FnScope ["_law_script", "_law_drawn", "_law_turn", "_law_one_here", "_law_other", "_law_pairs", "_law_first", "_law_second", "_law_kept", "_law_due"] ["_law_script"] (defScope st_law_ed47) := ⟨rfl, rfl, rfl, by decide +kernel, rfl, by decide +kernel, by decide +kernel⟩
theorem ok_law_ed47 {fd} (tb : Tabs K mg base tfl) (b : Bi K mg) (g_draws : Glo P w K mg base "_law_draws" 1 (spDraws K) 1) (g_panel_3836 : ∀ r c q, Glo P w K mg base "_law_panel" 2 (spG (gr K r c q) (sp_panel_3836 r)) 4) (g_amounts_right_aed0 : ∀ r c q, GloS P w K mg base "_law_amounts_right" 2 (spG (gT (gr K r c q) (tabsT K tfl)) (sp_amounts_right_aed0 r)) 9) (g_refused_b2f4 : GloL P w K mg base "_law_refused" sp_refused_b2f4) (g_without_item_d43ax : GloX P w K mg base "without_item" 2 (spPX K mg (sp_without_item_d43ax)) 1) (g_pair_right_2ac3 : ∀ r c q, GloS P w K mg base "_law_pair_right" 2 (spG (gT (gr K r c q) (tabsT K tfl)) (sp_pair_right_2ac3 r)) 5) (F : Fn K "law" "law" st_law_ed47 (He.fAd K ("law", none)) fd) : FnG P w K mg base 10 (He.fAd K ("law", none)) fd ["_law_script"] (spLawT K (tabsT K tfl)) :=
  ok_lawGT F sc_law_ed47 (i := 1) (by decide) (by rfl) ⟨t_law_ed47, fun A outer s H E hr gd => by
    have nd := sc_law_ed47.nd
    exact ⟨ps_set nd rfl (by first | exact Or.inl rfl | exact Or.inr rfl) (pe_callD (g_draws.at hr (by decide)) rfl (pa_cons (pv 0) pa_nil)), fun r c q => (qss_cons (qs_for PassesOwn.never rfl (qi_range1 rfl b.f_range (qa_cons qe_int qa_nil)) (qg_name nd rfl (by first | exact Or.inl rfl | exact Or.inr rfl)) (qss_cons (qs_setT (qe_tup (qa_cons (qe_callGT ((g_panel_3836 _ _ _).at hr (by decide)) rfl (qa_cons (qv 1) (qa_cons qe_int qa_nil))) (qa_cons (qe_callGT ((g_panel_3836 _ _ _).at hr (by decide)) rfl (qa_cons (qv 1) (qa_cons qe_int qa_nil))) qa_nil))) (qg_tup rfl (qgs_cons (qg_name nd rfl (by first | exact Or.inl rfl | exact Or.inr rfl)) (qgs_cons (qg_name nd rfl (by first | exact Or.inl rfl | exact Or.inr rfl)) qgs_nil))))
    (qss_cons (qs_setOwn (i := 5) nd rfl (by first | exact Or.inl rfl | exact Or.inr rfl) (qf_lst (qa_cons (qe_tup (qa_cons (qv 3) (qa_cons (qv 4) qa_nil))) (qa_cons (qe_tup (qa_cons (qv 4) (qa_cons (qv 3) qa_nil))) (qa_cons (qe_tup (qa_cons (qv 3) (qa_cons (qe_tup (qa_cons (qe_ix (qv 4) qe_int) (qa_cons (qe_slice (qe_ix (qv 4) qe_int) qo_none (qo_some qe_int)) qa_nil))) qa_nil))) qa_nil)))))
    (qss_cons (qs_expr (qe_append (pv 5) (qe_tup (qa_cons (qv 3) (qa_cons (qe_tup (qa_cons (qe_slice (qe_bin o_mulT (qe_ix (qv 3) qe_int) qe_int) qo_none (qo_some (qe_bin o_sub qe_int (qe_callB c_len rfl b.f_len bt_len (qa_cons (qe_ix (qv 3) qe_int) qa_nil))))) (qa_cons (qe_tup qa_nil) qa_nil))) qa_nil)))))
    (qss_cons (qs_expr (qe_append (pv 5) (qe_tup (qa_cons (qe_tup (qa_cons (qe_slice (qe_ix (qv 3) qe_int) qo_none (qo_some qe_int)) (qa_cons (qe_bin o_mulT2 (qe_bin o_mulT (qe_tup (qa_cons (qe_tup (qa_cons qe_int (qa_cons qe_int qa_nil))) qa_nil)) qe_int) (qe_callTy c_int rfl b.f_int bt_int (qa_cons (qe_cmp o_gt (qe_callB c_len rfl b.f_len bt_len (qa_cons (qe_ix (qv 3) qe_int) qa_nil)) qe_int (nomark _)) qa_nil))) qa_nil))) (qa_cons (qe_tup (qa_cons (qe_slice (qe_bin o_mulT (qe_ix (qv 4) qe_int) qe_int) qo_none (qo_some qe_int)) (qa_cons (qe_bin o_mulT (qe_tup (qa_cons (qe_tup (qa_cons qe_int (qa_cons qe_int qa_nil))) qa_nil)) qe_int) qa_nil))) qa_nil)))))
    (qss_cons (qs_expr (qe_append (pv 5) (qe_tup (qa_cons (qv 3) (qa_cons (qe_tup (qa_cons (qe_slice (qe_ix (qv 3) qe_int) qo_none (qo_some qe_int)) (qa_cons (qe_tup qa_nil) qa_nil))) qa_nil)))))
    (qss_cons (qs_for PassesOwn.never rfl (qi_seq (qv 5)) (qg_tup rfl (qgs_cons (qg_name nd rfl (by first | exact Or.inl rfl | exact Or.inr rfl)) (qgs_cons (qg_name nd rfl (by first | exact Or.inl rfl | exact Or.inr rfl)) qgs_nil))) (qss_cons (qs_set (i := 8) nd rfl (by first | exact Or.inl rfl | exact Or.inr rfl) (qe_callB (c_repr hr gd) rfl b.f_repr bt_repr (qa_cons (qe_set (qf_lst (qa_cons (qv 6) (qa_cons (qv 7) qa_nil)))) qa_nil)))
    (qss_one (qs_if (PW.pt (qw_or (PW.pt (qw_and (qt_cmp o_gt (qe_callB c_len rfl b.f_len bt_len (qa_cons (qe_ix (qv 7) qe_int) qa_nil)) qe_int (nomark _)) (qw_and1 (qt_not (qt_val (qe_callGS ((g_pair_right_2ac3 _ _ _).at hr gd (by decide)) rfl (qa_cons (qv 6) (qa_cons (qv 7) qa_nil)))))))) (qw_and1 (qt_cmp (o_ne hr) (qe_callB (c_repr hr gd) rfl b.f_repr bt_repr (qa_cons (qe_set (qf_lst (qa_cons (qv 6) (qa_cons (qv 7) qa_nil)))) qa_nil)) (qv 8) (nomark _))))) (qss_one (qs_ret qe_bl)) qss_nil))))
    (qss_cons (qs_set (i := 8) nd rfl (by first | exact Or.inl rfl | exact Or.inr rfl) (qe_callB (c_repr hr gd) rfl b.f_repr bt_repr (qa_cons (qv 3) qa_nil)))
    (qss_cons (qs_if (qt_not (qt_val (qe_callGS ((g_amounts_right_aed0 _ _ _).at hr gd (by decide)) rfl (qa_cons (qv 1) (qa_cons (qv 3) qa_nil))))) (qss_one (qs_ret qe_bl)) qss_nil)
    (qss_cons (qs_set (i := 9) nd rfl (by first | exact Or.inl rfl | exact Or.inr rfl) (qe_ix (qe_set (qf_lst (qa_cons qe_str (qa_cons qe_str qa_nil)))) (qe_callTy c_int rfl b.f_int bt_int (qa_cons (qe_cmp (o_eq hr) (qe_callB c_len rfl b.f_len bt_len (qa_cons (qe_ix (qv 3) qe_int) qa_nil)) qe_int (nomark _)) qa_nil))))
    (qss_cons (qs_if (PW.pt (qw_or (qt_cmp (o_ne hr) (qe_lam g_refused_b2f4 rfl (tb.at_ _ (List.Mem.tail _ (List.Mem.tail _ (List.Mem.head _)))) rfl (tabsT_mem (List.Mem.tail _ (List.Mem.tail _ (List.Mem.head _)))) (tabsT_one (List.Mem.tail _ (List.Mem.tail _ (List.Mem.head _))) tb.apart) hr (LamX.lamS_by (sc := defScope st_law_ed47) (by decide +kernel)) rfl (fun _ _ _ _ _ => rfl) (fun A outer s H E f c2 hr => (qex_call (g_without_item_d43ax.at hr (by decide)) (takes_of rfl rfl rfl rfl) rfl (qa_cons (qv 3) (qa_cons (qe_bin o_sub (qe_callB c_len rfl b.f_len bt_len (qa_cons (qe_ix (qv 3) qe_int) qa_nil)) qe_int) qa_nil))))) (qv 9) (nomark _)) (qw_and1 (qt_cmp (o_ne hr) (qe_callB (c_repr hr gd) rfl b.f_repr bt_repr (qa_cons (qv 3) qa_nil)) (qv 8) (nomark _))))) (qss_one (qs_ret qe_bl)) qss_nil)
    (qss_one (qs_if (qt_cmp (o_ne hr) (qe_lam g_refused_b2f4 rfl (tb.at_ _ (List.Mem.tail _ (List.Mem.tail _ (List.Mem.head _)))) rfl (tabsT_mem (List.Mem.tail _ (List.Mem.tail _ (List.Mem.head _)))) (tabsT_one (List.Mem.tail _ (List.Mem.tail _ (List.Mem.head _))) tb.apart) hr (LamX.lamS_by (sc := defScope st_law_ed47) (by decide +kernel)) rfl (fun _ _ _ _ _ => rfl) (fun A outer s H E f c2 hr => (qex_call (g_without_item_d43ax.at hr (by decide)) (takes_of rfl rfl rfl rfl) rfl (qa_cons (qe_tup (qa_cons (qe_slice (qe_ix (qv 4) qe_int) qo_none (qo_some qe_int)) (qa_cons (qe_tup qa_nil) qa_nil))) (qa_cons qe_int qa_nil))))) qe_str (nomark _)) (qss_one (qs_ret qe_bl)) qss_nil)))))))))))))
    (qss_one (qs_ret qe_bl)))⟩, p_law_ed47⟩
end
theorem ob_eq (s : PySem.W.SharedT) : ob s = hk.obs s.abs := obsLG_eq (HandSHeadRun.getT_eq s)
theorem facts {P : Program} {w : World} {K : PySem.W.Frag} {h : Heap} {mg : Str → Option Value} {f : Addr} (X : K.In h) (G : h.Ns mainGlobals mg) (hfa : mg ("law" : Str) = some (.ref f)) (c0 : SaysL fal fnl exl tfl h K) :
    ∃ fd : FuncData, (∀ (s : Shared) (v : Value), BindsTo s fd ⟨[v], []⟩ [("_law_script", v)]) ∧ ∀ base : Heap, K.In base → base.Ns mainGlobals mg → Tabs K mg base tfl → FnG P w K mg base 10 f fd ["_law_script"] (spLawT K (tabsT K tfl)) := by
  have c := c0.d
  have e_0 := c0.own
  have b : Bi K mg := ⟨He.free_ok X G (c.fact 21 (f := .free "abs") rfl), He.free_ok X G (c.fact 22 (f := .free "all") rfl), He.free_ok X G (c.fact 23 (f := .free "bool") rfl), He.free_ok X G (c.fact 24 (f := .free "int") rfl), He.free_ok X G (c.fact 25 (f := .free "isinstance") rfl), He.free_ok X G (c.fact 26 (f := .free "len") rfl), He.free_ok X G (c.fact 27 (f := .free "list") rfl), He.free_ok X G (c.fact 28 (f := .free "max") rfl), He.free_ok X G (c.fact 29 (f := .free "min") rfl), He.free_ok X G (c.fact 30 (f := .free "range") rfl), He.free_ok X G (c.fact 31 (f := .free "repr") rfl), He.free_ok X G (c.fact 32 (f := .free "tuple") rfl), gl_int X G (c.fact 33 (f := .int "ITEMS" 8) rfl), gl_int X G (c.fact 34 (f := .int "MARK" 1000000000) rfl), gl_int X G (c.fact 35 (f := .int "RULES" 16) rfl), gl_int X G (c.fact 36 (f := .int "WEIGHT" 1000000) rfl), excs_ok X G (He.ba e_0).1⟩
  obtain ⟨fd_draws, F_draws⟩ := c.def_ 0 (d := d_draws) rfl
  have m_draws := He.glo_ok X G (c.fact 0 (f := .glo "_law_draws") rfl)
  obtain ⟨fd_next, F_next⟩ := c.def_ 1 (d := d_next) rfl
  have m_next := He.glo_ok X G (c.fact 1 (f := .glo "_law_next") rfl)
  obtain ⟨fd_size_3de8, F_size_3de8⟩ := c.def_ 2 (d := d_size_3de8) rfl
  have m_size_3de8 := He.glo_ok X G (c.fact 2 (f := .glo "_law_size") rfl)
  obtain ⟨fd_items_cafd, F_items_cafd⟩ := c.def_ 3 (d := d_items_cafd) rfl
  have m_items_cafd := He.glo_ok X G (c.fact 3 (f := .glo "_law_items") rfl)
  obtain ⟨fd_rules_ccf3, F_rules_ccf3⟩ := c.def_ 4 (d := d_rules_ccf3) rfl
  have m_rules_ccf3 := He.glo_ok X G (c.fact 4 (f := .glo "_law_rules") rfl)
  obtain ⟨fd_panel_3836, F_panel_3836⟩ := c.def_ 5 (d := d_panel_3836) rfl
  have m_panel_3836 := He.glo_ok X G (c.fact 5 (f := .glo "_law_panel") rfl)
  obtain ⟨fd_room_5b7c, F_room_5b7c⟩ := c.def_ 6 (d := d_room_5b7c) rfl
  have m_room_5b7c := He.glo_ok X G (c.fact 6 (f := .glo "_law_room") rfl)
  obtain ⟨fd_refused_b2f4, F_refused_b2f4⟩ := c.def_ 7 (d := d_refused_b2f4) rfl
  have m_refused_b2f4 := He.glo_ok X G (c.fact 7 (f := .glo "_law_refused") rfl)
  obtain ⟨fd_is_integer_8a5f, F_is_integer_8a5f⟩ := c.def_ 8 (d := d_is_integer_8a5f) rfl
  have m_is_integer_8a5f := He.glo_ok X G (c.fact 8 (f := .glo "is_integer") rfl)
  obtain ⟨fd_is_within_3133, F_is_within_3133⟩ := c.def_ 9 (d := d_is_within_3133) rfl
  have m_is_within_3133 := He.glo_ok X G (c.fact 9 (f := .glo "is_within") rfl)
  obtain ⟨fd_is_mark_f168, F_is_mark_f168⟩ := c.def_ 10 (d := d_is_mark_f168) rfl
  have m_is_mark_f168 := He.glo_ok X G (c.fact 10 (f := .glo "is_mark") rfl)
  obtain ⟨fd_is_weight_6941, F_is_weight_6941⟩ := c.def_ 11 (d := d_is_weight_6941) rfl
  have m_is_weight_6941 := He.glo_ok X G (c.fact 11 (f := .glo "is_weight") rfl)
  obtain ⟨fd_checked_7d9fx, F_checked_7d9fx⟩ := c.def_ 12 (d := d_checked_7d9fx) rfl
  have m_checked_7d9fx := He.glo_ok X G (c.fact 12 (f := .glo "checked") rfl)
  obtain ⟨fd_shift_panel_0a39x, F_shift_panel_0a39x⟩ := c.def_ 13 (d := d_shift_panel_0a39x) rfl
  have m_shift_panel_0a39x := He.glo_ok X G (c.fact 13 (f := .glo "shift_panel") rfl)
  obtain ⟨fd_scale_panel_72bax, F_scale_panel_72bax⟩ := c.def_ 14 (d := d_scale_panel_72bax) rfl
  have m_scale_panel_72bax := He.glo_ok X G (c.fact 14 (f := .glo "scale_panel") rfl)
  obtain ⟨fd_weigh_panel_fe94x, F_weigh_panel_fe94x⟩ := c.def_ 15 (d := d_weigh_panel_fe94x) rfl
  have m_weigh_panel_fe94x := He.glo_ok X G (c.fact 15 (f := .glo "weigh_panel") rfl)
  obtain ⟨fd_amounts_right_aed0, F_amounts_right_aed0⟩ := c.def_ 16 (d := d_amounts_right_aed0) rfl
  have m_amounts_right_aed0 := He.glo_ok X G (c.fact 16 (f := .glo "_law_amounts_right") rfl)
  obtain ⟨fd_without_item_d43ax, F_without_item_d43ax⟩ := c.def_ 17 (d := d_without_item_d43ax) rfl
  have m_without_item_d43ax := He.glo_ok X G (c.fact 17 (f := .glo "without_item") rfl)
  obtain ⟨fd_combine_panels_586dx, F_combine_panels_586dx⟩ := c.def_ 18 (d := d_combine_panels_586dx) rfl
  have m_combine_panels_586dx := He.glo_ok X G (c.fact 18 (f := .glo "combine_panels") rfl)
  obtain ⟨fd_pair_right_2ac3, F_pair_right_2ac3⟩ := c.def_ 19 (d := d_pair_right_2ac3) rfl
  have m_pair_right_2ac3 := He.glo_ok X G (c.fact 19 (f := .glo "_law_pair_right") rfl)
  obtain ⟨fd_law_ed47, F_law_ed47⟩ := c.def_ 20 (d := d_law_ed47) rfl
  have e := hfa.symm.trans (He.glo_ok X G (c.fact 20 (f := .glo "law") rfl))
  cases e
  have bl := FunD.bindsA (ps := ["_law_script"]) F_law_ed47 fun _ _ _ _ _ _ us hl => match us, hl with | [_], _ => rfl
  refine ⟨fd_law_ed47, fun s v => bl s [v] rfl, fun base _ _ tb => ?_⟩
  have g_draws : Glo P w K mg base "_law_draws" 1 (spDraws K) 1 := ⟨_, fd_draws, ["_law_script"], ok_draws0 b  F_draws, m_draws, FunD.kp F_draws, FunD.bindsN F_draws fun _ _ _ _ _ _ us hl => match us, hl with | [_], _ => rfl, rfl⟩
  have g_next : ∀ r c q, Glo P w K mg base "_law_next" 2 (spG (gr K r c q) (nextS r)) 1 := fun r c q => ⟨_, fd_next, ["_law_drawn", "_law_many"], ok_next0 b  F_next, m_next, FunD.kp F_next, FunD.bindsN F_next fun _ _ _ _ _ _ us hl => match us, hl with | [_, _], _ => rfl, rfl⟩
  have g_size_3de8 : ∀ r c q, Glo P w K mg base "_law_size" 2 (spG (gr K r c q) (sp_size_3de8 r)) 2 := fun r c q => ⟨_, fd_size_3de8, ["_law_drawn", "_law_great"], ok_size_3de8 b g_next F_size_3de8, m_size_3de8, FunD.kp F_size_3de8, FunD.bindsN F_size_3de8 fun _ _ _ _ _ _ us hl => match us, hl with | [_, _], _ => rfl, rfl⟩
  have g_items_cafd : ∀ r c q, Glo P w K mg base "_law_items" 2 (spG (gr K r c q) (sp_items_cafd r)) 3 := fun r c q => ⟨_, fd_items_cafd, ["_law_drawn", "_law_count"], ok_items_cafd b g_next g_size_3de8 F_items_cafd, m_items_cafd, FunD.kp F_items_cafd, FunD.bindsN F_items_cafd fun _ _ _ _ _ _ us hl => match us, hl with | [_, _], _ => rfl, rfl⟩
  have g_rules_ccf3 : ∀ r c q, Glo P w K mg base "_law_rules" 2 (spG (gr K r c q) (sp_rules_ccf3 r)) 2 := fun r c q => ⟨_, fd_rules_ccf3, ["_law_drawn", "_law_count"], ok_rules_ccf3 b g_next F_rules_ccf3, m_rules_ccf3, FunD.kp F_rules_ccf3, FunD.bindsN F_rules_ccf3 fun _ _ _ _ _ _ us hl => match us, hl with | [_, _], _ => rfl, rfl⟩
  have g_panel_3836 : ∀ r c q, Glo P w K mg base "_law_panel" 2 (spG (gr K r c q) (sp_panel_3836 r)) 4 := fun r c q => ⟨_, fd_panel_3836, ["_law_drawn", "_law_most"], ok_panel_3836 b g_next g_items_cafd g_rules_ccf3 F_panel_3836, m_panel_3836, FunD.kp F_panel_3836, FunD.bindsN F_panel_3836 fun _ _ _ _ _ _ us hl => match us, hl with | [_, _], _ => rfl, rfl⟩
  have g_room_5b7c : Glo P w K mg base "_law_room" 1 (spP K (sp_room_5b7c)) 1 := ⟨_, fd_room_5b7c, ["_law_panel_here"], ok_room_5b7c b  F_room_5b7c, m_room_5b7c, FunD.kp F_room_5b7c, FunD.bindsN F_room_5b7c fun _ _ _ _ _ _ us hl => match us, hl with | [_], _ => rfl, rfl⟩
  have g_refused_b2f4 : GloL P w K mg base "_law_refused" sp_refused_b2f4 := ⟨"_law_call", ["_law_call", "error", "_law_flags"], _, _, _, _, fd_refused_b2f4, F_refused_b2f4, m_refused_b2f4, sc_refused_b2f4, rfl, by first | exact Or.inl rfl | exact Or.inr (Or.inl rfl), rfl, rfl, FunD.bindsN F_refused_b2f4 fun _ _ _ _ _ _ us hl => match us, hl with | [_], _ => rfl, fun cdg => ok_refused_b2f4 b  cdg _⟩
  have g_is_integer_8a5f : Glo P w K mg base "is_integer" 1 (spP K (sp_is_integer_8a5f)) 1 := ⟨_, fd_is_integer_8a5f, ["value"], ok_is_integer_8a5f b  F_is_integer_8a5f, m_is_integer_8a5f, FunD.kp F_is_integer_8a5f, FunD.bindsN F_is_integer_8a5f fun _ _ _ _ _ _ us hl => match us, hl with | [_], _ => rfl, rfl⟩
  have g_is_within_3133 : Glo P w K mg base "is_within" 3 (spP K (sp_is_within_3133)) 2 := ⟨_, fd_is_within_3133, ["value", "low", "high"], ok_is_within_3133 b g_is_integer_8a5f F_is_within_3133, m_is_within_3133, FunD.kp F_is_within_3133, FunD.bindsN F_is_within_3133 fun _ _ _ _ _ _ us hl => match us, hl with | [_, _, _], _ => rfl, rfl⟩
  have g_is_mark_f168 : Glo P w K mg base "is_mark" 1 (spP K (sp_is_mark_f168)) 3 := ⟨_, fd_is_mark_f168, ["value"], ok_is_mark_f168 b g_is_within_3133 F_is_mark_f168, m_is_mark_f168, FunD.kp F_is_mark_f168, FunD.bindsN F_is_mark_f168 fun _ _ _ _ _ _ us hl => match us, hl with | [_], _ => rfl, rfl⟩
  have g_is_weight_6941 : Glo P w K mg base "is_weight" 1 (spP K (sp_is_weight_6941)) 3 := ⟨_, fd_is_weight_6941, ["value"], ok_is_weight_6941 b g_is_within_3133 F_is_weight_6941, m_is_weight_6941, FunD.kp F_is_weight_6941, FunD.bindsN F_is_weight_6941 fun _ _ _ _ _ _ us hl => match us, hl with | [_], _ => rfl, rfl⟩
  have g_checked_7d9fx : GloX P w K mg base "checked" 2 (spPX K mg (sp_checked_7d9fx)) 4 := ⟨_, fd_checked_7d9fx, ["items", "rules"], ok_checked_7d9fx b g_is_mark_f168 g_is_weight_6941 F_checked_7d9fx, m_checked_7d9fx, FunD.kp F_checked_7d9fx, FunD.bindsN F_checked_7d9fx fun _ _ _ _ _ _ us hl => match us, hl with | [_, _], _ => rfl, rfl⟩
  have g_shift_panel_0a39x : GloX P w K mg base "shift_panel" 2 (spPX K mg (sp_shift_panel_0a39x)) 5 := ⟨_, fd_shift_panel_0a39x, ["panel", "amount"], ok_shift_panel_0a39x b g_checked_7d9fx F_shift_panel_0a39x, m_shift_panel_0a39x, FunD.kp F_shift_panel_0a39x, FunD.bindsN F_shift_panel_0a39x fun _ _ _ _ _ _ us hl => match us, hl with | [_, _], _ => rfl, rfl⟩
  have g_scale_panel_72bax : GloX P w K mg base "scale_panel" 2 (spPX K mg (sp_scale_panel_72bax)) 5 := ⟨_, fd_scale_panel_72bax, ["panel", "factor"], ok_scale_panel_72bax b g_checked_7d9fx F_scale_panel_72bax, m_scale_panel_72bax, FunD.kp F_scale_panel_72bax, FunD.bindsN F_scale_panel_72bax fun _ _ _ _ _ _ us hl => match us, hl with | [_, _], _ => rfl, rfl⟩
  have g_weigh_panel_fe94x : GloX P w K mg base "weigh_panel" 2 (spPX K mg (sp_weigh_panel_fe94x)) 5 := ⟨_, fd_weigh_panel_fe94x, ["panel", "factor"], ok_weigh_panel_fe94x b g_checked_7d9fx F_weigh_panel_fe94x, m_weigh_panel_fe94x, FunD.kp F_weigh_panel_fe94x, FunD.bindsN F_weigh_panel_fe94x fun _ _ _ _ _ _ us hl => match us, hl with | [_, _], _ => rfl, rfl⟩
  have g_amounts_right_aed0 : ∀ r c q, GloS P w K mg base "_law_amounts_right" 2 (spG (gT (gr K r c q) (tabsT K tfl)) (sp_amounts_right_aed0 r)) 9 := fun r c q => ⟨_, fd_amounts_right_aed0, ["_law_drawn", "_law_panel_here"], ok_amounts_right_aed0 tb b g_room_5b7c g_size_3de8 g_refused_b2f4 g_shift_panel_0a39x g_scale_panel_72bax g_weigh_panel_fe94x F_amounts_right_aed0, m_amounts_right_aed0, FunD.kp F_amounts_right_aed0, FunD.bindsN F_amounts_right_aed0 fun _ _ _ _ _ _ us hl => match us, hl with | [_, _], _ => rfl, rfl⟩
  have g_without_item_d43ax : GloX P w K mg base "without_item" 2 (spPX K mg (sp_without_item_d43ax)) 1 := ⟨_, fd_without_item_d43ax, ["panel", "item"], ok_without_item_d43ax b  F_without_item_d43ax, m_without_item_d43ax, FunD.kp F_without_item_d43ax, FunD.bindsN F_without_item_d43ax fun _ _ _ _ _ _ us hl => match us, hl with | [_, _], _ => rfl, rfl⟩
  have g_combine_panels_586dx : GloX P w K mg base "combine_panels" 2 (spPX K mg (sp_combine_panels_586dx)) 1 := ⟨_, fd_combine_panels_586dx, ["one", "other"], ok_combine_panels_586dx b  F_combine_panels_586dx, m_combine_panels_586dx, FunD.kp F_combine_panels_586dx, FunD.bindsN F_combine_panels_586dx fun _ _ _ _ _ _ us hl => match us, hl with | [_, _], _ => rfl, rfl⟩
  have g_pair_right_2ac3 : ∀ r c q, GloS P w K mg base "_law_pair_right" 2 (spG (gT (gr K r c q) (tabsT K tfl)) (sp_pair_right_2ac3 r)) 5 := fun r c q => ⟨_, fd_pair_right_2ac3, ["_law_one_here", "_law_other"], ok_pair_right_2ac3 tb b g_refused_b2f4 g_combine_panels_586dx F_pair_right_2ac3, m_pair_right_2ac3, FunD.kp F_pair_right_2ac3, FunD.bindsN F_pair_right_2ac3 fun _ _ _ _ _ _ us hl => match us, hl with | [_, _], _ => rfl, rfl⟩
  exact ok_law_ed47 tb b g_draws g_panel_3836 g_amounts_right_aed0 g_refused_b2f4 g_without_item_d43ax g_pair_right_2ac3 F_law_ed47
end Pm
open PySem PySem.W PySem.Calls PyProof.Rows
theorem PySem.Challenge.cw_poolmarks_k59_changes_refused_holds : PySem.Challenge.rw_poolmarks_k59_changes_refused.Holds := by
  w_on; o_law
  refine HandSHeadRun.head_any (r := OpenLaw.row PySem.Challenge.rw_poolmarks_k59_changes_refused) (q := view (OpenLaw.row PySem.Challenge.rw_poolmarks_k59_changes_refused).prog [37]) (H := Pm.hk) (ob := Pm.ob) (M := 4000) (loose := Pm.loose) (d := HandSHeadRun.topDef (OpenLaw.row PySem.Challenge.rw_poolmarks_k59_changes_refused).prog 37) (kwd := []) Pm.ob_eq
    (by kernel_rfl) (fun s => by kernel_rfl) Pm.run (by kernel_rfl) (by kernel_rfl) (by kernel_rfl) (by rfl) (by first | assumption | decide +kernel) (by decide +kernel) ⟨rfl, rfl, rfl, rfl, rfl, by decide +kernel⟩ ?hw ?hc
  case hw => w_witness2
  case hc =>
    refine Pm.walk_ofGT (l := PySem.Challenge.rw_poolmarks_k59_changes_refused) (n := 63) (k := 10) (x := "_law_script") (xs := Pm.tfl) rfl (by decide) (by kernel_rfl) ⟨rfl, by decide, by decide⟩ ?F
    intro w mg fa h Y G hmg0
    obtain ⟨K, KX, c⟩ := Y
    have hmg : mg ("law" : PySem.Str) = some (.ref fa) := by
      have e : (HandSHeadRun.topDef (OpenLaw.row PySem.Challenge.rw_poolmarks_k59_changes_refused).prog 37).name = ("law" : PySem.Str) := by kernel_rfl
      rw [← e]
      exact hmg0
    obtain ⟨fd, hb, hF⟩ := Pm.facts (P := (PySem.Challenge.rw_poolmarks_k59_changes_refused).prog) (w := w) KX G hmg c
    exact ⟨K, fd, KX, hb, fun y hy => ⟨(c.tab y hy).1, (c.tab y hy).2.1, PySem.W.codeHd_of_K KX (c.tab y hy).2.2⟩, c.apart, hF⟩

