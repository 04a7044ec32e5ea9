import PyProof.Rows.All
import HandS.ForMost
import HandS.ForExc
import HandS.IsInst
import HandS.Wide
import HandS.Flow
import HandS.Zip
import HandS.Rev
import HandS.Sort
import HandS.SortInts
import HandS.SortRule
import HandS.Defaults
import PyProof.Rows.SeqMore
import KE.GoesEnum
import HandS.RevRange
import HandS.Conv
import HandS.Ends
import HandS.HeadEnd
import HandS.Head0
import HandS.Head1
import HandS.Head2
import HandS.HeadHook1
import HandS.HeadHook2
import HandS.Style
import KE.KRevSl
import HandS.NamedTupSort
import HandS.TupSets
import HandS.SortOrd
import HandS.TupMul
import HandS.TupLe
import HandS.SetFor
import KE.KDictZip
import KE.DataMinKey
import KE.KMinBuiltin
import HandS.SortKw
import HandS.WordsExc
import HandS.TryOnly
import HandS.ExcIs
import HandS.ExcOwn
import HandS.ExcField
import KE.KExcIs
import HandS.ExcInit
import HandS.Dict
import KE.KDictCopyH
import KE.KeyNested
import Wide.All
import OpenK.AllK
import Wide.FinOn
import KE.KStateDown
import Lean
import HandS.Base
import HandS.Call
import HandS.More
import HandS.Words
import PySem.Challenge.RW_poolmarks_k52_whole_medians_depend_on_or
set_option Elab.async false
set_option linter.all false
set_option maxRecDepth 100000
set_option maxHeartbeats 1000000
set_option autoImplicit false
namespace Pm
open PySem PySem.Spec
open PyProof.Rows hiding St
open L2
def obsB (fa : List He.Fa) (fn : List He.DefD) (ex : PySem.W.Frag → Bool) (K : PySem.W.Frag) : He.AlD × Bool := (He.obsD fa fn K, ex K)
def valB (fn : List He.DefD) : He.AlD × Bool := (He.valD fn, true)
def SaysB (fa : List He.Fa) (fn : List He.DefD) (ex : PySem.W.Frag → Bool) (K : PySem.W.Frag) : Prop := obsB fa fn ex K = valB fn
def obsBG (n : Nat) (fa : List He.Fa) (fn : List He.DefD) (ex : PySem.W.Frag → Bool) (g : Addr → Option Obj) : He.AlD × Bool := obsB fa fn ex (He.frG g (He.asD g n))
def hookB (n : Nat) (fa : List He.Fa) (fn : List He.DefD) (ex : PySem.W.Frag → Bool) : PySem.W.Hook where
  α := He.AlD × Bool
  obs := fun s => obsBG n fa fn ex s.heap.get?
  val := fun _ => valB fn
  says := fun _ h => ∃ K : PySem.W.Frag, K.In h ∧ SaysB fa fn ex K
  of := fun _ _ e => ⟨_, He.frG_in, e⟩
  keeps := fun _ _ _ ⟨K, hK, c⟩ k => ⟨K, PySem.W.Frag.In.keeps hK k, c⟩
end Pm
set_option Elab.async false
set_option linter.all false
set_option maxRecDepth 100000
set_option maxHeartbeats 0
set_option autoImplicit false
namespace Pm
open PySem PySem.Spec
open PyProof.Rows hiding St
open L2
def top (i : Nat) : Stmt := PySem.Challenge.pw_poolmarks_k52_whole_medians_depend_on_or.main.body.getD i (.Pass ⟨0, 0, 0, 0⟩)
section
variable {P : Program} {w : World} {K : PySem.W.Frag} {mg : Str → Option Value} {base : Heap}
abbrev st_draws : Stmt := top 18
abbrev st_next : Stmt := top 19
abbrev st_size_3de8 : Stmt := top 22
abbrev st_items_cafd : Stmt := top 23
abbrev st_rules_ccf3 : Stmt := top 24
abbrev st_panel_3836 : Stmt := top 25
abbrev st_all_groups_7d0b : Stmt := top 7
abbrev st_is_integer_8a5f : Stmt := top 1
abbrev st_is_within_3133 : Stmt := top 3
abbrev st_is_group_a50b : Stmt := top 5
abbrev st_is_upward_11cd : Stmt := top 6
abbrev st_upward_sets_3622 : Stmt := top 8
abbrev st_gain_of_56ca : Stmt := top 11
abbrev st_greatest_groups_403e : Stmt := top 12
abbrev st_extreme_median_a062 : Stmt := top 13
abbrev st_lowest_median_cc3e : Stmt := top 14
abbrev st_highest_median_e9e9 : Stmt := top 15
abbrev st_both_dcd2 : Stmt := top 26
abbrev st_one_be76 : Stmt := top 20
abbrev st_equal_17a7 : Stmt := top 21
abbrev st_replaced_right_5eb3 : Stmt := top 27
abbrev st_spread_of_61bf : Stmt := top 10
abbrev st_least_spread_c534 : Stmt := top 16
abbrev st_turned_right_3b73 : Stmt := top 28
abbrev st_raised_right_513c : Stmt := top 29
abbrev st_order_right_b5e6 : Stmt := top 30
abbrev st_law_8c4c : Stmt := top 31
end
def d_draws : He.DefD := ⟨("_law_draws", none), "_law_draws", "_law_draws", defArgs st_draws, defBody st_draws, defScope st_draws, [], []⟩
def d_next : He.DefD := ⟨("_law_next", none), "_law_next", "_law_next", defArgs st_next, defBody st_next, defScope st_next, [], []⟩
def d_size_3de8 : He.DefD := ⟨("_law_size", none), "_law_size", "_law_size", defArgs st_size_3de8, defBody st_size_3de8, defScope st_size_3de8, [], []⟩
def d_items_cafd : He.DefD := ⟨("_law_items", none), "_law_items", "_law_items", defArgs st_items_cafd, defBody st_items_cafd, defScope st_items_cafd, [], []⟩
def d_rules_ccf3 : He.DefD := ⟨("_law_rules", none), "_law_rules", "_law_rules", defArgs st_rules_ccf3, defBody st_rules_ccf3, defScope st_rules_ccf3, [], []⟩
def d_panel_3836 : He.DefD := ⟨("_law_panel", none), "_law_panel", "_law_panel", defArgs st_panel_3836, defBody st_panel_3836, defScope st_panel_3836, [], []⟩
def d_all_groups_7d0b : He.DefD := ⟨("all_groups", none), "all_groups", "all_groups", defArgs st_all_groups_7d0b, defBody st_all_groups_7d0b, defScope st_all_groups_7d0b, [], []⟩
def d_is_integer_8a5f : He.DefD := ⟨("is_integer", none), "is_integer", "is_integer", defArgs st_is_integer_8a5f, defBody st_is_integer_8a5f, defScope st_is_integer_8a5f, [], []⟩
def d_is_within_3133 : He.DefD := ⟨("is_within", none), "is_within", "is_within", defArgs st_is_within_3133, defBody st_is_within_3133, defScope st_is_within_3133, [], []⟩
def d_is_group_a50b : He.DefD := ⟨("is_group", none), "is_group", "is_group", defArgs st_is_group_a50b, defBody st_is_group_a50b, defScope st_is_group_a50b, [], []⟩
def d_is_upward_11cd : He.DefD := ⟨("is_upward", none), "is_upward", "is_upward", defArgs st_is_upward_11cd, defBody st_is_upward_11cd, defScope st_is_upward_11cd, [], []⟩
def d_upward_sets_3622 : He.DefD := ⟨("upward_sets", none), "upward_sets", "upward_sets", defArgs st_upward_sets_3622, defBody st_upward_sets_3622, defScope st_upward_sets_3622, [], []⟩
def d_gain_of_56ca : He.DefD := ⟨("gain_of", none), "gain_of", "gain_of", defArgs st_gain_of_56ca, defBody st_gain_of_56ca, defScope st_gain_of_56ca, [], []⟩
def d_greatest_groups_403e : He.DefD := ⟨("greatest_groups", none), "greatest_groups", "greatest_groups", defArgs st_greatest_groups_403e, defBody st_greatest_groups_403e, defScope st_greatest_groups_403e, [], []⟩
def d_extreme_median_a062 : He.DefD := ⟨("extreme_median", none), "extreme_median", "extreme_median", defArgs st_extreme_median_a062, defBody st_extreme_median_a062, defScope st_extreme_median_a062, [], []⟩
def d_lowest_median_cc3e : He.DefD := ⟨("lowest_median", none), "lowest_median", "lowest_median", defArgs st_lowest_median_cc3e, defBody st_lowest_median_cc3e, defScope st_lowest_median_cc3e, [], []⟩
def d_highest_median_e9e9 : He.DefD := ⟨("highest_median", none), "highest_median", "highest_median", defArgs st_highest_median_e9e9, defBody st_highest_median_e9e9, defScope st_highest_median_e9e9, [], []⟩
def d_both_dcd2 : He.DefD := ⟨("_law_both", none), "_law_both", "_law_both", defArgs st_both_dcd2, defBody st_both_dcd2, defScope st_both_dcd2, [], []⟩
def d_one_be76 : He.DefD := ⟨("_law_one", none), "_law_one", "_law_one", defArgs st_one_be76, defBody st_one_be76, defScope st_one_be76, [], []⟩
def d_equal_17a7 : He.DefD := ⟨("_law_equal", none), "_law_equal", "_law_equal", defArgs st_equal_17a7, defBody st_equal_17a7, defScope st_equal_17a7, [], []⟩
def d_replaced_right_5eb3 : He.DefD := ⟨("_law_replaced_right", none), "_law_replaced_right", "_law_replaced_right", defArgs st_replaced_right_5eb3, defBody st_replaced_right_5eb3, defScope st_replaced_right_5eb3, [], []⟩
def d_spread_of_61bf : He.DefD := ⟨("spread_of", none), "spread_of", "spread_of", defArgs st_spread_of_61bf, defBody st_spread_of_61bf, defScope st_spread_of_61bf, [], []⟩
def d_least_spread_c534 : He.DefD := ⟨("least_spread", none), "least_spread", "least_spread", defArgs st_least_spread_c534, defBody st_least_spread_c534, defScope st_least_spread_c534, [], []⟩
def d_turned_right_3b73 : He.DefD := ⟨("_law_turned_right", none), "_law_turned_right", "_law_turned_right", defArgs st_turned_right_3b73, defBody st_turned_right_3b73, defScope st_turned_right_3b73, [], []⟩
def d_raised_right_513c : He.DefD := ⟨("_law_raised_right", none), "_law_raised_right", "_law_raised_right", defArgs st_raised_right_513c, defBody st_raised_right_513c, defScope st_raised_right_513c, [], []⟩
def d_order_right_b5e6 : He.DefD := ⟨("_law_order_right", none), "_law_order_right", "_law_order_right", defArgs st_order_right_b5e6, defBody st_order_right_b5e6, defScope st_order_right_b5e6, [], []⟩
def d_law_8c4c : He.DefD := ⟨("law", none), "law", "law", defArgs st_law_8c4c, defBody st_law_8c4c, defScope st_law_8c4c, [], []⟩
def fnl : List He.DefD := [d_draws, d_next, d_size_3de8, d_items_cafd, d_rules_ccf3, d_panel_3836, d_all_groups_7d0b, d_is_integer_8a5f, d_is_within_3133, d_is_group_a50b, d_is_upward_11cd, d_upward_sets_3622, d_gain_of_56ca, d_greatest_groups_403e, d_extreme_median_a062, d_lowest_median_cc3e, d_highest_median_e9e9, d_both_dcd2, d_one_be76, d_equal_17a7, d_replaced_right_5eb3, d_spread_of_61bf, d_least_spread_c534, d_turned_right_3b73, d_raised_right_513c, d_order_right_b5e6, d_law_8c4c]
def fal : List He.Fa := [.glo "_law_draws", .glo "_law_next", .glo "_law_size", .glo "_law_items", .glo "_law_rules", .glo "_law_panel", .glo "all_groups", .glo "is_integer", .glo "is_within", .glo "is_group", .glo "is_upward", .glo "upward_sets", .glo "gain_of", .glo "greatest_groups", .glo "extreme_median", .glo "lowest_median", .glo "highest_median", .glo "_law_both", .glo "_law_one", .glo "_law_equal", .glo "_law_replaced_right", .glo "spread_of", .glo "least_spread", .glo "_law_turned_right", .glo "_law_raised_right", .glo "_law_order_right", .glo "law", .free "abs", .free "all", .free "bool", .free "int", .free "isinstance", .free "len", .free "list", .free "max", .free "min", .free "range", .free "set", .free "sorted", .free "str", .free "sum", .free "tuple", .free "zip"]
abbrev R : PySem.W.OpenRow := PySem.W.OpenLaw.row PySem.Challenge.rw_poolmarks_k52_whole_medians_depend_on_or
def exl (K : PySem.W.Frag) : Bool := true
abbrev hk : PySem.W.Hook := hookB 4 fal fnl exl
def ob (s : PySem.W.SharedT) : He.AlD × Bool := obsBG 4 fal fnl exl (HandSHeadRun.getT s)
def loose : List PySem.Str := (["is_integer", "is_within", "is_group", "is_upward", "all_groups", "upward_sets", "spread_of", "gain_of", "greatest_groups", "extreme_median", "lowest_median", "highest_median", "least_spread", "_law_draws", "_law_next", "_law_one", "_law_equal", "_law_size", "_law_items", "_law_rules", "_law_panel", "_law_both", "_law_replaced_right", "_law_turned_right", "_law_raised_right", "_law_order_right"] : List PySem.Str)
theorem run (w : World) : HandSHeadRun.RunEq R (PySem.W.view R.prog [31]) hk ob 4000 loose w := by
  intro os
  kernel_rfl
end Pm
set_option Elab.async false
set_option linter.all false
set_option maxRecDepth 100000
set_option maxHeartbeats 1000000
namespace Pm
set_option autoImplicit false
open PySem PySem.Spec
open PyProof.Rows hiding St
open L2

inductive D where
  | non | bl (b : Bool) | int (i : Int) | str (x : Str)
  | lst (xs : List D) | tup (xs : List D) | dct (ks : List Key) (xs : List D) | obj (a : Addr)

mutual
def At (K : PySem.W.Frag) (Z : Hp) : D → V → Prop
  | .non, v => v = .non
  | .bl b, v => v = .bl b
  | .int i, v => v = .int i
  | .str x, v => v = .str x
  | .lst xs, v => ∃ a vs, v = .ref a ∧ Z a = some (.lst vs) ∧ Ats K Z xs vs
  | .tup xs, v => ∃ a vs, v = .ref a ∧ SqT K Z a vs ∧ Ats K Z xs vs
  | .dct ks xs, v => ∃ a kvs, v = .ref a ∧ Z a = some (.dK kvs) ∧ kvs.map (·.1) = ks ∧ Ats K Z xs (kvs.map (·.2))
  | .obj a, v => v = .ref a
def Ats (K : PySem.W.Frag) (Z : Hp) : List D → List V → Prop
  | [], vs => vs = []
  | d :: ds, vs => ∃ w ws, vs = w :: ws ∧ At K Z d w ∧ Ats K Z ds ws
end
theorem seqT {K : PySem.W.Frag} {H H' : Hp} {a : Addr} {xs : List V} (e : Same H H') (h : SqT K H a xs) : SqT K H' a xs := by
  rcases h with (h | ⟨o, h⟩) | h
  · exact .inl (.inl (e _ _ h))
  · exact .inl (.inr ⟨o, e _ _ h⟩)
  · exact .inr h
section
variable {K : PySem.W.Frag} {Z Z' : Hp}
mutual
theorem At.mono (e : Same Z Z') : ∀ (d : D) (v : V), At K Z d v → At K Z' d v
  | .non, _, h => h
  | .bl _, _, h => h
  | .int _, _, h => h
  | .str _, _, h => h
  | .lst xs, v, h => by
    simp only [At] at h ⊢
    obtain ⟨a, vs, h1, h2, h3⟩ := h
    exact ⟨a, vs, h1, e _ _ h2, Ats.mono e xs vs h3⟩
  | .tup xs, v, h => by
    simp only [At] at h ⊢
    obtain ⟨a, vs, h1, h2, h3⟩ := h
    exact ⟨a, vs, h1, seqT e h2, Ats.mono e xs vs h3⟩
  | .dct ks xs, v, h => by
    simp only [At] at h ⊢
    obtain ⟨a, vs, h1, h2, h3, h4⟩ := h
    exact ⟨a, vs, h1, e _ _ h2, h3, Ats.mono e xs _ h4⟩
  | .obj _, _, h => h
theorem Ats.mono (e : Same Z Z') : ∀ (ds : List D) (vs : List V), Ats K Z ds vs → Ats K Z' ds vs
  | [], _, h => h
  | d :: ds, vs, h => by
    simp only [Ats] at h ⊢
    obtain ⟨w, ws, h1, h2, h3⟩ := h
    exact ⟨w, ws, h1, At.mono e d w h2, Ats.mono e ds ws h3⟩
end
theorem Ats.len : ∀ {ds : List D} {vs : List V}, Ats K Z ds vs → vs.length = ds.length
  | [], _, h => by simp only [Ats] at h; subst h; rfl
  | d :: ds, vs, h => by
    simp only [Ats] at h
    obtain ⟨w, ws, rfl, _, h3⟩ := h
    simp [Ats.len h3]
theorem Ats.get : ∀ {ds : List D} {vs : List V} {i : Nat} {d : D}, Ats K Z ds vs → ds[i]? = some d → ∃ v, vs[i]? = some v ∧ At K Z d v
  | [], _, _, _, _, e => by simp at e
  | d :: ds, vs, i, d', h, e => by
    simp only [Ats] at h
    obtain ⟨w, ws, rfl, h2, h3⟩ := h
    cases i with
    | zero => simp at e; subst e; exact ⟨w, rfl, h2⟩
    | succ i =>
      obtain ⟨v, h4, h5⟩ := Ats.get (i := i) h3 (by simpa using e)
      exact ⟨v, by simpa using h4, h5⟩
theorem Ats.append : ∀ {ds es : List D} {vs ws : List V}, Ats K Z ds vs → Ats K Z es ws → Ats K Z (ds ++ es) (vs ++ ws)
  | [], _, _, _, h, h' => by simp only [Ats] at h; subst h; exact h'
  | d :: ds, es, vs, ws, h, h' => by
    simp only [Ats] at h
    obtain ⟨w, vs, rfl, h2, h3⟩ := h
    exact ⟨w, vs ++ ws, rfl, h2, Ats.append h3 h'⟩
theorem Ats.take : ∀ {ds : List D} {vs : List V} (n : Nat), Ats K Z ds vs → Ats K Z (ds.take n) (vs.take n)
  | _, _, 0, _ => by simp [Ats]
  | [], _, n + 1, h => by simp only [Ats] at h; subst h; simp [Ats]
  | d :: ds, vs, n + 1, h => by
    simp only [Ats] at h
    obtain ⟨w, vs, rfl, h2, h3⟩ := h
    exact ⟨w, vs.take n, rfl, h2, Ats.take n h3⟩
theorem Ats.drop : ∀ {ds : List D} {vs : List V} (n : Nat), Ats K Z ds vs → Ats K Z (ds.drop n) (vs.drop n)
  | _, _, 0, h => h
  | [], _, n + 1, h => by simp only [Ats] at h; subst h; simp [Ats]
  | d :: ds, vs, n + 1, h => by
    simp only [Ats] at h
    obtain ⟨w, vs, rfl, h2, h3⟩ := h
    exact Ats.drop n h3
theorem Ats.set : ∀ {ds : List D} {vs : List V} (n : Nat) {d : D} {v : V}, Ats K Z ds vs → At K Z d v → Ats K Z (ds.set n d) (vs.set n v)
  | [], _, _, _, _, h, _ => by simp only [Ats] at h; subst h; simp [Ats]
  | d :: ds, vs, 0, _, _, h, h' => by
    simp only [Ats] at h
    obtain ⟨w, vs, rfl, h2, h3⟩ := h
    exact ⟨_, vs, rfl, h', h3⟩
  | d :: ds, vs, n + 1, d', v', h, h' => by
    simp only [Ats] at h
    obtain ⟨w, vs, rfl, h2, h3⟩ := h
    exact ⟨w, vs.set n v', rfl, h2, Ats.set n h3 h'⟩
theorem Ats.ints : ∀ {ns : List Int} {vs : List V}, Ats K Z (ns.map D.int) vs → vs = ns.map V.int
  | [], _, h => h
  | n :: ns, vs, h => by
    simp only [List.map_cons, Ats] at h
    obtain ⟨w, ws, rfl, h2, h3⟩ := h
    simp only [At] at h2
    subst h2
    rw [Ats.ints h3]; rfl
theorem Ats.of_ints : ∀ (ns : List Int), Ats K Z (ns.map D.int) (ns.map V.int)
  | [] => rfl
  | n :: ns => ⟨_, _, rfl, rfl, Ats.of_ints ns⟩
theorem Ats.bls : ∀ {ns : List Bool} {vs : List V}, Ats K Z (ns.map D.bl) vs → vs = ns.map V.bl
  | [], _, h => h
  | n :: ns, vs, h => by
    simp only [List.map_cons, Ats] at h
    obtain ⟨w, ws, rfl, h2, h3⟩ := h
    simp only [At] at h2
    subst h2
    rw [Ats.bls h3]; rfl
end

inductive L where | val (d : D) | own (ds : List D) | dic (kds : List (Key × D))
def L.ow : L → Bool | .val _ => false | _ => true
def L.ds : L → List D | .val _ => [] | .own ds => ds | .dic kds => kds.map (·.2)
def L.ho : L → List V → HO | .dic kds, vs => .dK ((kds.map (·.1)).zip vs) | _, vs => .lst vs
structure S (γ : Type) where
  ρ : List (Option L)
  g : γ
structure GP (γ : Type) where
  K : PySem.W.Frag
  foot : γ → Addr → Prop
  J : γ → Hp → Prop
  stay : ∀ g H H', J g H → (∀ a, foot g a → H' a = H a) → J g H'
  live : ∀ g H a, J g H → foot g a → ∃ o, H a = some o
  /-- what is known to be settled -/
  fl : Hp := fun _ => none
def none0 (K : PySem.W.Frag) : GP Unit := ⟨K, fun _ _ => False, fun _ _ => True, fun _ _ _ _ _ => trivial, fun _ _ _ _ h => h.elim, fun _ => none⟩

structure Fra where
  F : Hp
  B : Addr → Prop
  bf : ∀ a, B a → ∃ o, F a = some o
variable {γ : Type}
structure Rel (G : GP γ) (F : Fra) (Z : Hp) (s : S γ) (σ : St) (H : Hp) : Prop where
  z : Same Z H
  f : Same F.F H
  zb : ∀ a, F.B a → Z a = none
  len : σ.length = s.ρ.length
  loc : ∀ (i : Nat) (d : D), s.ρ[i]? = some (some (.val d)) → ∃ v, σ[i]? = some (some v) ∧ At G.K Z d v
  ownL : ∀ (i : Nat) (l : L), s.ρ[i]? = some (some l) → l.ow = true → ∃ a vs, σ[i]? = some (some (.ref a)) ∧ H a = some (l.ho vs) ∧ Ats G.K Z l.ds vs ∧ Z a = none ∧ F.F a = none ∧ ¬ G.foot s.g a
  injL : ∀ (i j : Nat) (l m : L) (a : Addr), i ≠ j → s.ρ[i]? = some (some l) → l.ow = true → s.ρ[j]? = some (some m) → m.ow = true → σ[i]? = some (some (.ref a)) → σ[j]? = some (some (.ref a)) → False
  j : G.J s.g H
  zf : ∀ a, G.foot s.g a → Z a = none
  ff : ∀ a, G.foot s.g a → F.F a = none
  fl : Same G.fl Z
theorem Rel.own {G : GP γ} {F : Fra} {Z : Hp} {s : S γ} {σ : St} {H : Hp} (r : Rel G F Z s σ H) (i : Nat) (ds : List D) (h : s.ρ[i]? = some (some (.own ds))) : ∃ a vs, σ[i]? = some (some (.ref a)) ∧ H a = some (.lst vs) ∧ Ats G.K Z ds vs ∧ Z a = none ∧ F.F a = none ∧ ¬ G.foot s.g a := r.ownL i _ h rfl
theorem Rel.dic {G : GP γ} {F : Fra} {Z : Hp} {s : S γ} {σ : St} {H : Hp} (r : Rel G F Z s σ H) (i : Nat) (kds : List (Key × D)) (h : s.ρ[i]? = some (some (.dic kds))) : ∃ a vs, σ[i]? = some (some (.ref a)) ∧ H a = some (.dK ((kds.map (·.1)).zip vs)) ∧ Ats G.K Z (kds.map (·.2)) vs ∧ Z a = none ∧ F.F a = none ∧ ¬ G.foot s.g a := r.ownL i _ h rfl
abbrev Nob (s : S γ) (σ : St) (a : Addr) : Prop := ∀ (i : Nat) (l : L), s.ρ[i]? = some (some l) → l.ow = true → σ[i]? ≠ some (some (.ref a))
structure Wk (s s' : S γ) : Prop where
  g : s'.g = s.g
  len : s'.ρ.length = s.ρ.length
  le : ∀ (i : Nat) l, s'.ρ[i]? = some (some l) → s.ρ[i]? = some (some l)
theorem Wk.refl (s : S γ) : Wk s s := ⟨rfl, rfl, fun _ _ h => h⟩
section
variable {G : GP γ} {F : Fra} {Z : Hp} {s s' : S γ} {σ : St} {H H' : Hp}
theorem Fra.nb {F : Fra} {a : Addr} (h : F.F a = none) : ¬ F.B a := fun b => by
  obtain ⟨o, e⟩ := F.bf a b
  rw [h] at e; cases e
theorem Rel.weak (r : Rel G F Z s σ H) (w : Wk s s') : Rel G F Z s' σ H := by
  obtain ⟨g', ρ'⟩ := s'
  obtain ⟨hg, hl, he⟩ := w
  simp only at hg
  subst hg
  exact ⟨r.z, r.f, r.zb, r.len.trans hl.symm, fun i d h => r.loc i d (he _ _ h), fun i l h => r.ownL i l (he _ _ h), fun i j l m a n h1 o1 h2 => r.injL i j l m a n (he _ _ h1) o1 (he _ _ h2), r.j, r.zf, r.ff, r.fl⟩
theorem Rel.grow (r : Rel G F Z s σ H) (k : Same H H') : Rel G F Z s σ H' :=
  ⟨r.z.trans k, r.f.trans k, r.zb, r.len, r.loc, fun i l h o => let ⟨a, vs, h1, h2, h3⟩ := r.ownL i l h o; ⟨a, vs, h1, k _ _ h2, h3⟩, r.injL,
    G.stay _ _ _ r.j fun a h => by
      obtain ⟨o, e⟩ := G.live _ _ _ r.j h
      rw [e, k _ _ e], r.zf, r.ff, r.fl⟩
theorem same_upd {p : Addr} {o : HO} (h : H p = none) : Same H (upd H p o) := fun b x e => by
  rw [upd_ne (ne_of_none e h)]
  exact e
theorem same_upd2 {p : Addr} {o : HO} (k : Same Z H) (h : H p = some o) (hz : Z p = none) : Same (upd Z p o) H := fun b x e => by
  by_cases hb : b = p
  · subst hb; rw [upd_same] at e; rw [h, ← e]
  · rw [upd_ne hb] at e; exact k _ _ e
theorem Rel.settle (r : Rel G F Z s σ H) {p : Addr} {o : HO} (hp : H p = some o) (hz : Z p = none) (hf : ¬ G.foot s.g p) (hb : ¬ F.B p)
    (ho : Nob s σ p) : Rel G F (upd Z p o) s σ H := by
  have k := same_upd (o := o) hz
  refine ⟨same_upd2 r.z hp hz, r.f, fun a h => by rw [upd_ne (show a ≠ p from fun e => hb (by rw [← e]; exact h))]; exact r.zb a h, r.len, fun i d h => ?_, fun i l h o1 => ?_, r.injL, r.j, fun a h => ?_, r.ff, r.fl.trans k⟩
  · obtain ⟨v, h1, h2⟩ := r.loc i d h
    exact ⟨v, h1, At.mono k _ _ h2⟩
  · obtain ⟨a, vs, h1, h2, h3, h4, h5⟩ := r.ownL i l h o1
    refine ⟨a, vs, h1, h2, Ats.mono k _ _ h3, ?_, h5⟩
    rw [upd_ne (show a ≠ p from fun e => ho i l h o1 (by rw [← e]; exact h1))]
    exact h4
  · rw [upd_ne (show a ≠ p from fun e => hf (by rw [← e]; exact h))]
    exact r.zf a h
theorem Rel.put (r : Rel G F Z s σ H) {i : Nat} {d : D} {v : V} (h : At G.K Z d v) : Rel G F Z ⟨s.ρ.set i (some (.val d)), s.g⟩ (σ.set i (some v)) H := by
  refine ⟨r.z, r.f, r.zb, by simpa using r.len, fun j e hj => ?_, fun j l hj o1 => ?_, fun j k l m a n h1 o1 h2 o2 h3 h4 => ?_, r.j, r.zf, r.ff, r.fl⟩
  · by_cases hij : i = j
    · subst hij
      have hl : i < s.ρ.length := by
        have := (List.getElem?_eq_some_iff.mp hj).1
        simpa using this
      rw [List.getElem?_set_self hl] at hj
      cases hj
      exact ⟨v, by rw [List.getElem?_set_self (by rw [r.len]; exact hl)], h⟩
    · rw [List.getElem?_set_ne hij] at hj
      rw [List.getElem?_set_ne hij]
      exact r.loc j e hj
  · have hij : i ≠ j := by
      intro e
      subst e
      have hl : i < s.ρ.length := by
        have := (List.getElem?_eq_some_iff.mp hj).1
        simpa using this
      rw [List.getElem?_set_self hl] at hj
      cases hj
      cases o1
    rw [List.getElem?_set_ne hij] at hj
    rw [List.getElem?_set_ne hij]
    exact r.ownL j l hj o1
  · have ne : ∀ {j : Nat} {l : L}, (s.ρ.set i (some (L.val d)))[j]? = some (some l) → l.ow = true → i ≠ j := fun {j l} hj o1 e => by
      subst e
      have hl : i < s.ρ.length := by
        have := (List.getElem?_eq_some_iff.mp hj).1
        simpa using this
      rw [List.getElem?_set_self hl] at hj
      cases hj
      cases o1
    have n1 := ne h1 o1
    have n2 := ne h2 o2
    rw [List.getElem?_set_ne n1] at h1 h3
    rw [List.getElem?_set_ne n2] at h2 h4
    exact r.injL j k l m a n h1 o1 h2 o2 h3 h4
theorem Rel.putW (r : Rel G F Z s σ H) {i : Nat} {l : L} (ol : l.ow = true) {a : Addr} {vs : List V} (ha : H a = some (l.ho vs)) (h : Ats G.K Z l.ds vs) (hz : Z a = none) (hF : F.F a = none) (hf : ¬ G.foot s.g a)
    (ho : Nob s σ a) : Rel G F Z ⟨s.ρ.set i (some l), s.g⟩ (σ.set i (some (.ref a))) H := by
  have at_i : ∀ {m : L}, (s.ρ.set i (some l))[i]? = some (some m) → i < s.ρ.length ∧ m = l := fun {m} hj => by
    have hl : i < s.ρ.length := by
      have := (List.getElem?_eq_some_iff.mp hj).1
      simpa using this
    rw [List.getElem?_set_self hl] at hj
    cases hj
    exact ⟨hl, rfl⟩
  have other : ∀ {j : Nat} {m : L}, i ≠ j → (s.ρ.set i (some l))[j]? = some (some m) → m.ow = true → (σ.set i (some (V.ref a)))[j]? ≠ some (some (.ref a)) := fun {j m} n h1 o1 => by
    rw [List.getElem?_set_ne n] at h1 ⊢
    exact ho j m h1 o1
  refine ⟨r.z, r.f, r.zb, by simpa using r.len, fun j e hj => ?_, fun j m hj o1 => ?_, fun j k m m' b n h1 o1 h2 o2 h3 h4 => ?_, r.j, r.zf, r.ff, r.fl⟩
  · have hij : i ≠ j := by
      intro e; subst e
      obtain ⟨_, e⟩ := at_i hj
      rw [← e] at ol; cases ol
    rw [List.getElem?_set_ne hij] at hj ⊢
    exact r.loc j e hj
  · by_cases hij : i = j
    · subst hij
      obtain ⟨hl, e⟩ := at_i hj
      subst e
      exact ⟨a, vs, List.getElem?_set_self (by rw [r.len]; exact hl), ha, h, hz, hF, hf⟩
    · rw [List.getElem?_set_ne hij] at hj ⊢
      exact r.ownL j m hj o1
  · by_cases hij : i = j
    · subst hij
      obtain ⟨hl, e⟩ := at_i h1
      rw [List.getElem?_set_self (by rw [r.len]; exact hl)] at h3
      cases h3
      exact other n h2 o2 h4
    · by_cases hik : i = k
      · subst hik
        obtain ⟨hl, e⟩ := at_i h2
        rw [List.getElem?_set_self (by rw [r.len]; exact hl)] at h4
        cases h4
        exact other (Ne.symm n) h1 o1 h3
      · rw [List.getElem?_set_ne hij] at h1 h3
        rw [List.getElem?_set_ne hik] at h2 h4
        exact r.injL j k m m' b n h1 o1 h2 o2 h3 h4
theorem Rel.putOwn (r : Rel G F Z s σ H) {i : Nat} {ds : List D} {a : Addr} {vs : List V} (ha : H a = some (.lst vs)) (h : Ats G.K Z ds vs) (hz : Z a = none) (hF : F.F a = none) (hf : ¬ G.foot s.g a)
    (ho : Nob s σ a) : Rel G F Z ⟨s.ρ.set i (some (.own ds)), s.g⟩ (σ.set i (some (.ref a))) H := r.putW (l := .own ds) rfl ha h hz hF hf ho
theorem Rel.writeL (r : Rel G F Z s σ H) {i : Nat} {l m : L} {a : Addr} {ws : List V} (hi : s.ρ[i]? = some (some l)) (ol : l.ow = true) (om : m.ow = true) (ha : σ[i]? = some (some (.ref a))) (h : Ats G.K Z m.ds ws) :
    Rel G F Z ⟨s.ρ.set i (some m), s.g⟩ σ (upd H a (m.ho ws)) := by
  obtain ⟨b, vs, h1, h2, h3, h4, h5, h6⟩ := r.ownL i l hi ol
  rw [ha] at h1
  cases h1
  have hl : i < s.ρ.length := (List.getElem?_eq_some_iff.mp hi).1
  have back : ∀ {j : Nat} {n : L}, (s.ρ.set i (some m))[j]? = some (some n) → n.ow = true → ∃ n', s.ρ[j]? = some (some n') ∧ n'.ow = true := fun {j n} hj o1 => by
    by_cases hij : i = j
    · subst hij; exact ⟨l, hi, ol⟩
    · rw [List.getElem?_set_ne hij] at hj; exact ⟨n, hj, o1⟩
  refine ⟨fun b o e => ?_, fun b o e => ?_, r.zb, by simpa using r.len, fun j e hj => ?_, fun j n hj o1 => ?_, fun j k p q b n h1 o1 h2 o2 h3 h4 => ?_, G.stay _ _ _ r.j fun b hb => ?_, r.zf, r.ff, r.fl⟩
  · rw [upd_ne (ne_of_none e h4)]; exact r.z _ _ e
  · rw [upd_ne (ne_of_none e h5)]; exact r.f _ _ e
  · have hij : i ≠ j := by
      intro e; subst e
      rw [List.getElem?_set_self hl] at hj
      cases hj
      cases om
    rw [List.getElem?_set_ne hij] at hj
    exact r.loc j e hj
  · by_cases hij : i = j
    · subst hij
      rw [List.getElem?_set_self hl] at hj
      cases hj
      exact ⟨a, ws, ha, upd_same, h, h4, h5, h6⟩
    · rw [List.getElem?_set_ne hij] at hj
      obtain ⟨c, us, k1, k2, k3⟩ := r.ownL j n hj o1
      refine ⟨c, us, k1, ?_, k3⟩
      rw [upd_ne]
      · exact k2
      · intro e; subst e
        exact r.injL i j l n c hij hi ol hj o1 ha k1
  · obtain ⟨p', e1, f1⟩ := back h1 o1
    obtain ⟨q', e2, f2⟩ := back h2 o2
    exact r.injL j k p' q' b n e1 f1 e2 f2 h3 h4
  · exact upd_ne fun e => h6 (e ▸ hb)
theorem Rel.write (r : Rel G F Z s σ H) {i : Nat} {ds es : List D} {a : Addr} {ws : List V} (hi : s.ρ[i]? = some (some (.own ds))) (ha : σ[i]? = some (some (.ref a))) (h : Ats G.K Z es ws) :
    Rel G F Z ⟨s.ρ.set i (some (.own es)), s.g⟩ σ (upd H a (.lst ws)) := r.writeL (l := .own ds) (m := .own es) hi rfl rfl ha h
theorem map_fst_zip' : ∀ {ks : List Key} {vs : List V}, ks.length = vs.length → (ks.zip vs).map (·.1) = ks
  | [], [], _ => rfl
  | k :: ks, v :: vs, h => by simp only [List.zip_cons_cons, List.map_cons, map_fst_zip' (ks := ks) (vs := vs) (by simpa using h)]
theorem map_snd_zip' : ∀ {ks : List Key} {vs : List V}, ks.length = vs.length → (ks.zip vs).map (·.2) = vs
  | [], [], _ => rfl
  | k :: ks, v :: vs, h => by simp only [List.zip_cons_cons, List.map_cons, map_snd_zip' (ks := ks) (vs := vs) (by simpa using h)]
def L.d : L → D | .val d => d | .own ds => .lst ds | .dic kds => .dct (kds.map (·.1)) (kds.map (·.2))
theorem At.ofL {K : PySem.W.Frag} {l : L} (ol : l.ow = true) {a : Addr} {vs : List V} (hz : Z a = some (l.ho vs)) (h : Ats K Z l.ds vs) : At K Z l.d (.ref a) := by
  cases l with
  | val d => cases ol
  | own ds => exact ⟨a, vs, rfl, hz, h⟩
  | dic kds =>
    have hl : (kds.map (·.1)).length = vs.length := by have := h.len; simp only [L.ds, List.length_map] at this ⊢; exact this.symm
    exact ⟨a, _, rfl, hz, map_fst_zip' hl, by rw [map_snd_zip' hl]; exact h⟩
theorem Rel.freezeL (r : Rel G F Z s σ H) {i : Nat} {l : L} (hi : s.ρ[i]? = some (some l)) (ol : l.ow = true) :
    ∃ a Z', Same Z Z' ∧ σ[i]? = some (some (.ref a)) ∧ At G.K Z' l.d (.ref a) ∧ Rel G F Z' ⟨s.ρ.set i (some (.val l.d)), s.g⟩ σ H := by
  obtain ⟨a, vs, h1, h2, h3, h4, h5, h6⟩ := r.ownL i l hi ol
  have hl : i < s.ρ.length := (List.getElem?_eq_some_iff.mp hi).1
  have k := same_upd (o := l.ho vs) h4
  have at' : At G.K (upd Z a (l.ho vs)) l.d (.ref a) := At.ofL ol upd_same (Ats.mono k _ _ h3)
  refine ⟨a, upd Z a (l.ho vs), k, h1, at', same_upd2 r.z h2 h4, r.f, fun b hb => by rw [upd_ne (show b ≠ a from fun e => Fra.nb h5 (by rw [← e]; exact hb))]; exact r.zb b hb, by simpa using r.len, fun j e hj => ?_, fun j m hj o1 => ?_, fun j k p q b n q1 o1 q2 o2 q3 q4 => ?_, r.j, fun b hb => ?_, r.ff, r.fl.trans k⟩
  · by_cases hij : i = j
    · subst hij
      rw [List.getElem?_set_self hl] at hj
      cases hj
      exact ⟨_, h1, at'⟩
    · rw [List.getElem?_set_ne hij] at hj
      obtain ⟨v, k1, k2⟩ := r.loc j e hj
      exact ⟨v, k1, At.mono k _ _ k2⟩
  · have hij : i ≠ j := by
      intro e; subst e
      rw [List.getElem?_set_self hl] at hj
      cases hj
      cases o1
    rw [List.getElem?_set_ne hij] at hj
    obtain ⟨c, us, k1, k2, k3, k4, k5⟩ := r.ownL j m hj o1
    refine ⟨c, us, k1, k2, Ats.mono k _ _ k3, ?_, k5⟩
    rw [upd_ne]
    · exact k4
    · intro e; subst e
      exact r.injL i j l m c hij hi ol hj o1 h1 k1
  · have ne : ∀ {j : Nat} {m : L}, (s.ρ.set i (some (L.val l.d)))[j]? = some (some m) → m.ow = true → s.ρ[j]? = some (some m) := fun {j m} hj o1 => by
      by_cases hij : i = j
      · subst hij
        rw [List.getElem?_set_self hl] at hj
        cases hj
        cases o1
      · rw [List.getElem?_set_ne hij] at hj; exact hj
    exact r.injL j k p q b n (ne q1 o1) o1 (ne q2 o2) o2 q3 q4
  · rw [upd_ne (show b ≠ a from fun e => h6 (by rw [← e]; exact hb))]
    exact r.zf b hb
theorem Rel.freeze (r : Rel G F Z s σ H) {i : Nat} {ds : List D} (hi : s.ρ[i]? = some (some (.own ds))) :
    ∃ a Z', Same Z Z' ∧ σ[i]? = some (some (.ref a)) ∧ At G.K Z' (.lst ds) (.ref a) ∧ Rel G F Z' ⟨s.ρ.set i (some (.val (.lst ds))), s.g⟩ σ H := r.freezeL (l := .own ds) hi rfl
end
end Pm
set_option Elab.async false
set_option linter.all false
set_option maxRecDepth 100000
set_option maxHeartbeats 1000000
set_option autoImplicit false
namespace Pm
open PySem PySem.Spec
open PyProof.Rows hiding St
open L2
variable {γ : Type}

abbrev PEx (γ : Type) := S γ → (D → S γ → Prop) → Prop
abbrev PTx (γ : Type) := S γ → (Bool → S γ → Prop) → Prop
abbrev PAx (γ : Type) := S γ → (List D → S γ → Prop) → Prop
abbrev POx (γ : Type) := S γ → (Option Int → S γ → Prop) → Prop
structure En (γ : Type) where
  nx : S γ → Prop
  rt : D → γ → Prop
  bk : S γ → Prop := fun _ => False
  ct : S γ → Prop := fun _ => False
abbrev PSx (γ : Type) := En γ → S γ → Prop
abbrev PGx (γ : Type) := D → S γ → (S γ → Prop) → Prop
abbrev DK := D → Prop

def lE (G : GP γ) (t : PEx γ) : TE := fun σ H Q => ∃ F Z s R, Rel G F Z s σ H ∧ t s R ∧ ∀ d s' Z' v H', R d s' → Same Z Z' → Rel G F Z' s' σ H' → At G.K Z' d v → Q v H'
def lT (G : GP γ) (t : PTx γ) : TT := fun σ H Q => ∃ F Z s R, Rel G F Z s σ H ∧ t s R ∧ ∀ b s' Z' H', R b s' → Same Z Z' → Rel G F Z' s' σ H' → Q b H'
def lA (G : GP γ) (t : PAx γ) : TA := fun σ H Q => ∃ F Z s R, Rel G F Z s σ H ∧ t s R ∧ ∀ ds s' Z' vs H', R ds s' → Same Z Z' → Rel G F Z' s' σ H' → Ats G.K Z' ds vs → Q vs H'
def lO (G : GP γ) (t : POx γ) : TO := fun σ H Q => ∃ F Z s R, Rel G F Z s σ H ∧ t s R ∧ ∀ o s' Z' H', R o s' → Same Z Z' → Rel G F Z' s' σ H' → Q o H'
def lF (G : GP γ) (t : PAx γ) : TE := fun σ H Q => ∃ F Z s R, Rel G F Z s σ H ∧ t s R ∧ ∀ ds s' Z' a vs H', R ds s' → Same Z Z' → Rel G F Z' s' σ H' → H' a = some (.lst vs) → Ats G.K Z' ds vs → Z' a = none → F.F a = none → ¬ G.foot s'.g a →
  Nob s' σ a → Q (.ref a) H'
def lS (G : GP γ) (t : PSx γ) : TS := fun De σ H => ∃ F Z s E, Rel G F Z s σ H ∧ t E s ∧
  (∀ s' Z' σ' H', E.nx s' → Same Z Z' → Rel G F Z' s' σ' H' → De.nx σ' H') ∧
  (∀ d s' Z' σ' v H', E.rt d s'.g → Same Z Z' → Rel G F Z' s' σ' H' → At G.K Z' d v → De.rt v H') ∧
  (∀ s' Z' σ' H', E.bk s' → Same Z Z' → Rel G F Z' s' σ' H' → De.bk σ' H') ∧
  (∀ s' Z' σ' H', E.ct s' → Same Z Z' → Rel G F Z' s' σ' H' → De.ct σ' H')
def lG (G : GP γ) (js : List Nat) (t : PGx γ) : TG := fun v σ H Q => ∃ F Z s d R, Rel G F Z s σ H ∧ At G.K Z d v ∧ t d s R ∧
  ∀ s' Z' σ' H', R s' → Same Z Z' → Rel G F Z' s' σ' H' → H' = H → (∀ j, j ∉ js → σ'[j]? = σ[j]?) → σ'.length = σ.length → Q σ' H'

abbrev QE (X : Cx) (G : GP γ) (e : Expr) (t : PEx γ) : Prop := PE X e (lE G t)
abbrev QF (X : Cx) (G : GP γ) (e : Expr) (t : PAx γ) : Prop := PE X e (lF G t)
abbrev QT (X : Cx) (G : GP γ) (e : Expr) (t : PTx γ) : Prop := PT X e (lT G t)
abbrev QW (X : Cx) (G : GP γ) (e : Expr) (t : PTx γ) : Prop := PW X e (lT G t)
abbrev QA (X : Cx) (G : GP γ) (es : List Expr) (t : PAx γ) : Prop := PA X es (lA G t)
abbrev QO (X : Cx) (G : GP γ) (e : Option Expr) (t : POx γ) : Prop := PO X e (lO G t)
abbrev QS (X : Cx) (G : GP γ) (st : Stmt) (t : PSx γ) : Prop := PS X st (lS G t)
abbrev QSs (X : Cx) (G : GP γ) (st : List Stmt) (t : PSx γ) : Prop := PSs X st (lS G t)
theorem PE.imp {X : Cx} {e : Expr} {t t' : TE} (h : PE X e t) (k : ∀ σ H Q, t' σ H Q → t σ H Q) : PE X e t' := ⟨fun pins s σ H Q I w => h.run pins s σ H Q I (k _ _ _ w)⟩
theorem PT.imp {X : Cx} {e : Expr} {t t' : TT} (h : PT X e t) (k : ∀ σ H Q, t' σ H Q → t σ H Q) : PT X e t' := ⟨fun pins s σ H Q I w => h.run pins s σ H Q I (k _ _ _ w)⟩
theorem PW.imp {X : Cx} {e : Expr} {t t' : TT} (h : PW X e t) (k : ∀ σ H Q, t' σ H Q → t σ H Q) : PW X e t' := ⟨fun wh pins s σ H Q I w => h.run wh pins s σ H Q I (k _ _ _ w)⟩
theorem PA.imp {X : Cx} {e : List Expr} {t t' : TA} (h : PA X e t) (k : ∀ σ H Q, t' σ H Q → t σ H Q) : PA X e t' := ⟨fun pos pins s σ H Q I w => h.run pos pins s σ H Q I (k _ _ _ w)⟩
theorem PO.imp {X : Cx} {e : Option Expr} {t t' : TO} (h : PO X e t) (k : ∀ σ H Q, t' σ H Q → t σ H Q) : PO X e t' := ⟨fun pins s σ H Q I w => h.run pins s σ H Q I (k _ _ _ w)⟩
theorem PS.imp {X : Cx} {e : Stmt} {t t' : TS} (h : PS X e t) (k : ∀ De σ H, t' De σ H → t De σ H) : PS X e t' := ⟨fun pins s σ H De I w => h.run pins s σ H De I (k _ _ _ w)⟩
theorem PSs.imp {X : Cx} {e : List Stmt} {t t' : TS} (h : PSs X e t) (k : ∀ De σ H, t' De σ H → t De σ H) : PSs X e t' := ⟨fun pins s σ H De I w => h.run pins s σ H De I (k _ _ _ w)⟩
theorem PG.imp {X : Cx} {e : Expr} {t t' : TG} (h : PG X e t) (k : ∀ v σ H Q, t' v σ H Q → t v σ H Q) : PG X e t' := ⟨fun pins s σ H v u Q I r w => h.run pins s σ H v u Q I r (k _ _ _ _ w)⟩

structure Ext (Z H Z' H' : Hp) : Prop where
  hh : Same H H'
  zz : Same Z Z'
  zh : Same Z' H'
  nw : ∀ a o, Z' a = some o → Z a = none → H a = none
theorem Ext.refl {Z H : Hp} (k : Same Z H) : Ext Z H Z H := ⟨Same.refl _, Same.refl _, k, fun a o h h' => by rw [h] at h'; cases h'⟩
theorem Ext.new {Z H : Hp} {p : Addr} {o : HO} (k : Same Z H) (hp : H p = none) : Ext Z H (upd Z p o) (upd H p o) := by
  have zp := k.free hp
  refine ⟨same_upd hp, same_upd zp, fun a u e => ?_, fun a u e n => ?_⟩
  · by_cases h : a = p
    · subst h; rw [upd_same] at e ⊢; exact e
    · rw [upd_ne h] at e ⊢; exact k _ _ e
  · by_cases h : a = p
    · rw [h]; exact hp
    · rw [upd_ne h, n] at e; cases e
section
variable {G : GP γ} {F : Fra} {Z Z' : Hp} {s : S γ} {σ : St} {H H' : Hp}
theorem Rel.ext (r : Rel G F Z s σ H) (x : Ext Z H Z' H') : Rel G F Z' s σ H' := by
  have zn : ∀ {a : Addr}, Z a = none → (∃ o, H a = some o) → Z' a = none := fun {a} n ⟨o, e⟩ => by
    cases q : Z' a with
    | none => rfl
    | some u => have := x.nw a u q n; rw [e] at this; cases this
  refine ⟨x.zh, r.f.trans x.hh, fun a h => zn (r.zb a h) (let ⟨o, e⟩ := F.bf a h; ⟨o, r.f _ _ e⟩), r.len, fun i d h => ?_, fun i l h ol => ?_, r.injL, (r.grow x.hh).j, fun a h => zn (r.zf a h) (G.live _ _ _ r.j h), r.ff, r.fl.trans x.zz⟩
  · obtain ⟨v, h1, h2⟩ := r.loc i d h
    exact ⟨v, h1, At.mono x.zz _ _ h2⟩
  · obtain ⟨a, vs, h1, h2, h3, h4, h5⟩ := r.ownL i l h ol
    exact ⟨a, vs, h1, x.hh _ _ h2, Ats.mono x.zz _ _ h3, zn h4 ⟨_, h2⟩, h5⟩
end

def dOp2 (K : PySem.W.Frag) (p : D → D → DK → Prop) : R2 := fun x y H Q => ∃ Z d e R, Same Z H ∧ At K Z d x ∧ At K Z e y ∧ p d e R ∧ ∀ z Z' v H', R z → Ext Z H Z' H' → At K Z' z v → Q v H'
def dCall (K : PySem.W.Frag) (p : List D → DK → Prop) : List V → Hp → VK → Prop := fun xs H Q => ∃ Z ds R, Same Z H ∧ Ats K Z ds xs ∧ p ds R ∧ ∀ z Z' v H', R z → Ext Z H Z' H' → At K Z' z v → Q v H'
def dCallF (K : PySem.W.Frag) (p : List D → (List D → Prop) → Prop) : List V → Hp → VK → Prop := fun xs H Q => ∃ Z ds R, Same Z H ∧ Ats K Z ds xs ∧ p ds R ∧ ∀ zs a vs H', R zs → Same H H' → H a = none → H' a = some (.lst vs) → Ats K Z zs vs → Q (.ref a) H'
def dOp2F (K : PySem.W.Frag) (p : D → D → (List D → Prop) → Prop) : R2 := fun x y H Q => ∃ Z d e R, Same Z H ∧ At K Z d x ∧ At K Z e y ∧ p d e R ∧ ∀ zs a vs H', R zs → Same H H' → H a = none → H' a = some (.lst vs) → Ats K Z zs vs → Q (.ref a) H'

section
variable {X : Cx} {G : GP γ} {a b c e : Expr} {pos : Pos}

def qC (d : D) : PEx γ := fun s R => R d s
theorem qe_of_C {v : V} {d : D} (h : PE X e (tC v)) (k : ∀ Z, At G.K Z d v) : QE X G e (qC d) :=
  PE.imp h fun σ H Q ⟨F, Z, s, R, r, t, q⟩ => q d s Z v H t (Same.refl _) r (k Z)
theorem qe_int {i j} : QE X G (.Constant (.int i) j pos) (qC (.int i)) := qe_of_C pe_int fun _ => rfl
theorem qe_bl {i j} : QE X G (.Constant (.bool i) j pos) (qC (.bl i)) := qe_of_C pe_bl fun _ => rfl
def qVar (i : Nat) : PEx γ := fun s R => match s.ρ[i]? with
  | some (some (.val d)) => R d s
  | some (some (.own ds)) => R (.lst ds) ⟨s.ρ.set i (some (.val (.lst ds))), s.g⟩
  | some (some (.dic kds)) => R (.dct (kds.map (·.1)) (kds.map (·.2))) ⟨s.ρ.set i (some (.val (.dct (kds.map (·.1)) (kds.map (·.2))))), s.g⟩
  | _ => False
theorem qe_of_var {i : Nat} (h : PE X e (tVar i)) : QE X G e (qVar i) := by
  refine PE.imp h fun σ H Q ⟨F, Z, s, R, r, t, q⟩ => ?_
  unfold qVar at t
  split at t
  · rename_i d hd
    obtain ⟨v, h1, h2⟩ := r.loc i d hd
    exact ⟨v, h1, q d s Z v H t (Same.refl _) r h2⟩
  · rename_i ds hd
    obtain ⟨a, Z', k, h1, h2, r'⟩ := r.freeze hd
    exact ⟨.ref a, h1, q _ _ Z' _ H t k r' h2⟩
  · rename_i kds hd
    obtain ⟨a, Z', k, h1, h2, r'⟩ := r.freezeL hd rfl
    exact ⟨.ref a, h1, q _ _ Z' _ H t k r' h2⟩
  · exact t.elim
theorem qv (i : Nat) {x : Str} {pos : Pos} (hN : X.N[i]? = some x := by rfl) (hv : Vis X.env.scope x := by first | exact Or.inl rfl | exact Or.inr (Or.inl rfl) | exact Or.inr (Or.inr rfl)) (hd : (x == ("__debug__" : Str)) = false := by decide)
    (hcd : (x == ("__classdict__" : Str)) = false := by decide) : QE X G (.Name x pos) (qVar i) := qe_of_var (pe_var hN hv hd hcd)
def qBin (p : D → D → DK → Prop) (ta tb : PEx γ) : PEx γ := fun s R => ta s fun x s1 => tb s1 fun y s2 => p x y fun z => R z s2
theorem lbin {p : D → D → DK → Prop} {ta tb : PEx γ} {σ : St} {H : Hp} {Q : VK} (h : lE G (qBin p ta tb) σ H Q) : tOp (dOp2 G.K p) (lE G ta) (lE G tb) σ H Q := by
  obtain ⟨F, Z, s, R, r, t, q⟩ := h
  refine ⟨F, Z, s, _, r, t, fun x s1 Z1 v1 H1 t1 k1 r1 a1 => ⟨F, Z1, s1, _, r1, t1, fun y s2 Z2 v2 H2 t2 k2 r2 a2 => ?_⟩⟩
  exact ⟨Z2, x, y, _, r2.z, At.mono k2 _ _ a1, a2, t2, fun z Z3 v H3 t3 x3 a3 => q z s2 Z3 v H3 t3 ((k1.trans k2).trans x3.zz) (r2.ext x3) a3⟩
theorem qe_bin {op : Operator} {p : D → D → DK → Prop} {ta tb : PEx γ} (ho : OpR X (binaryOp op) (dOp2 G.K p)) (ha : QE X G a ta) (hb : QE X G b tb) : QE X G (.BinOp a op b pos) (qBin p ta tb) :=
  PE.imp (pe_op ho ha hb) fun _ _ _ h => lbin h
theorem qe_cmp {op : CmpOp} {p : D → D → DK → Prop} {ta tb : PEx γ} (ho : OpR X (compareOp op) (dOp2 G.K p)) (ha : QE X G a ta) (hb : QE X G b tb) (hm : behindInMarks op b = false) : QE X G (.Compare a [op] [b] pos) (qBin p ta tb) :=
  PE.imp (pe_cmpR ho ha hb hm) fun _ _ _ h => lbin h
def qB (t : PEx γ) : PTx γ := fun s R => t s fun x s1 => match x with | .bl b => R b s1 | _ => False
theorem lB {t : PEx γ} {te : TE} (k : ∀ σ H Q, lE G t σ H Q → te σ H Q) {σ : St} {H : Hp} {Q : Bool → Hp → Prop} (h : lT G (qB t) σ H Q) : te σ H fun x H1 => ∃ c, x = .bl c ∧ Q c H1 := by
  obtain ⟨F, Z, s, R, r, t, q⟩ := h
  refine k _ _ _ ⟨F, Z, s, _, r, t, fun d s1 Z1 v H1 t1 k1 r1 a1 => ?_⟩
  cases d with
  | bl b =>
    have e : v = .bl b := a1
    exact ⟨b, e, q b s1 Z1 H1 t1 k1 r1⟩
  | _ => exact t1.elim
theorem qt_cmp {op : CmpOp} {p : D → D → DK → Prop} {ta tb : PEx γ} (ho : OpR X (compareOp op) (dOp2 G.K p)) (ha : QE X G a ta) (hb : QE X G b tb) (hm : behindInMarks op b = false) : QT X G (.Compare a [op] [b] pos) (qB (qBin p ta tb)) :=
  PT.imp (pt_cmpR ho ha hb hm) fun _ _ _ h => lB (te := tOp (dOp2 G.K p) (lE G ta) (lE G tb)) (fun _ _ _ h => lbin h) h
theorem qt_val {t : PEx γ} (h : QE X G e t) (he : ∀ whole, isTrue e X.env whole = (do let v ← whole; standAt e.pos; holding [v] (truthy v)) := by intro _; rfl) : QT X G e (qB t) :=
  PT.imp (pt_val h he) fun _ _ _ h => lB (fun _ _ _ h => h) h
def qChain (p p' : D → D → DK → Prop) (ta tb tc : PEx γ) : PEx γ := fun s R => ta s fun x s1 => tb s1 fun y s2 => p x y fun z => match z with
  | .bl true => tc s2 fun w s3 => p' y w fun u => R u s3
  | .bl false => R (.bl false) s2
  | _ => False
theorem lchain {p p' : D → D → DK → Prop} {ta tb tc : PEx γ} {σ : St} {H : Hp} {Q : VK} (h : lE G (qChain p p' ta tb tc) σ H Q) : tChain (dOp2 G.K p) (dOp2 G.K p') (lE G ta) (lE G tb) (lE G tc) σ H Q := by
  obtain ⟨F, Z, s, R, r, t, q⟩ := h
  refine ⟨F, Z, s, _, r, t, fun x s1 Z1 v1 H1 t1 k1 r1 a1 => ⟨F, Z1, s1, _, r1, t1, fun y s2 Z2 v2 H2 t2 k2 r2 a2 => ?_⟩⟩
  refine ⟨Z2, x, y, _, r2.z, At.mono k2 _ _ a1, a2, t2, fun z Z3 v H3 t3 x3 a3 => ?_⟩
  have r3 := r2.ext x3
  cases z with
  | bl b =>
    have e : v = .bl b := a3
    refine ⟨b, e, ?_⟩
    cases b with
    | true =>
      rw [if_pos rfl]
      refine ⟨F, Z3, s2, _, r3, t3, fun w s4 Z4 v4 H4 t4 k4 r4 a4 => ?_⟩
      exact ⟨Z4, y, w, _, r4.z, At.mono (x3.zz.trans k4) _ _ a2, a4, t4, fun u Z5 v5 H5 t5 x5 a5 => q u s4 Z5 v5 H5 t5 ((((k1.trans k2).trans x3.zz).trans k4).trans x5.zz) (r4.ext x5) a5⟩
    | false =>
      rw [if_neg Bool.false_ne_true]
      exact q _ s2 Z3 _ H3 t3 ((k1.trans k2).trans x3.zz) r3 rfl
  | _ => exact t3.elim
theorem qe_chain {op op' : CmpOp} {p p' : D → D → DK → Prop} {ta tb tc : PEx γ} (ho : OpR X (compareOp op) (dOp2 G.K p)) (ho' : OpR X (compareOp op') (dOp2 G.K p')) (ha : QE X G a ta) (hb : QE X G b tb) (hc : QE X G c tc)
    (hm : lastMarks [op, op'] [b, c] = false := by rfl) : QE X G (.Compare a [op, op'] [b, c] pos) (qChain p p' ta tb tc) :=
  PE.imp (pe_chain ho ho' ha hb hc hm) fun _ _ _ h => lchain h
def Br (b : Bool) (A B : Prop) : Prop := (b = true → A) ∧ (b = false → B)
def qAndV (ta tb : PEx γ) : PEx γ := fun s R => qB ta s fun b s1 => Br b (tb s1 R) (R (.bl false) s1)
def qOrV (ta tb : PEx γ) : PEx γ := fun s R => qB ta s fun b s1 => Br b (R (.bl true) s1) (tb s1 R)
def qNotV (ta : PEx γ) : PEx γ := fun s R => qB ta s fun b s1 => R (.bl (!b)) s1
theorem lQB {ta : PEx γ} {σ : St} {H : Hp} {F : Fra} {Z : Hp} {s : S γ} {R : Bool → S γ → Prop} {Q : Bool → Hp → Prop} (r : Rel G F Z s σ H) (t : qB ta s R) (q : ∀ b s' Z' H', R b s' → Same Z Z' → Rel G F Z' s' σ H' → Q b H') :
    lE G ta σ H fun x H1 => ∃ c, x = .bl c ∧ Q c H1 := lB (fun _ _ _ h => h) ⟨F, Z, s, R, r, t, q⟩
theorem qe_one {op : BoolOp} {ta : PEx γ} (ha : QE X G a ta) : QE X G (.BoolOp op [a] pos) ta := pe_one ha
theorem qe_and {rest : List Expr} {ta tb : PEx γ} (ha : QE X G a ta) (hb : QE X G (.BoolOp .And (b :: rest) pos) tb) : QE X G (.BoolOp .And (a :: b :: rest) pos) (qAndV ta tb) := by
  refine PE.imp (pe_and ha hb) fun σ H Q ⟨F, Z, s, R, r, t, q⟩ => ?_
  refine lQB r t fun b s1 Z1 H1 t1 k1 r1 => ?_
  cases b with
  | true => rw [if_pos rfl]; exact ⟨F, Z1, s1, R, r1, t1.1 rfl, fun d s' Z' v H' t' k' => q d s' Z' v H' t' (k1.trans k')⟩
  | false => rw [if_neg Bool.false_ne_true]; exact q _ s1 Z1 _ H1 (t1.2 rfl) k1 r1 rfl
theorem qe_or {rest : List Expr} {ta tb : PEx γ} (ha : QE X G a ta) (hb : QE X G (.BoolOp .Or (b :: rest) pos) tb) : QE X G (.BoolOp .Or (a :: b :: rest) pos) (qOrV ta tb) := by
  refine PE.imp (pe_or ha hb) fun σ H Q ⟨F, Z, s, R, r, t, q⟩ => ?_
  refine lQB r t fun b s1 Z1 H1 t1 k1 r1 => ?_
  cases b with
  | true => rw [if_pos rfl]; exact q _ s1 Z1 _ H1 (t1.1 rfl) k1 r1 rfl
  | false => rw [if_neg Bool.false_ne_true]; exact ⟨F, Z1, s1, R, r1, t1.2 rfl, fun d s' Z' v H' t' k' => q d s' Z' v H' t' (k1.trans k')⟩
theorem qe_not {ta : PEx γ} (ha : QE X G a ta) : QE X G (.UnaryOp .Not a pos) (qNotV ta) := by
  refine PE.imp (pe_not ha) fun σ H Q ⟨F, Z, s, R, r, t, q⟩ => ?_
  exact lQB r t fun b s1 Z1 H1 t1 k1 r1 => q _ s1 Z1 _ H1 t1 k1 r1 rfl
def qAnd (ta tb : PTx γ) : PTx γ := fun s R => ta s fun b s1 => Br b (tb s1 R) (R false s1)
def qOr (ta tb : PTx γ) : PTx γ := fun s R => ta s fun b s1 => Br b (R true s1) (tb s1 R)
def qNot (ta : PTx γ) : PTx γ := fun s R => ta s fun b s1 => R (!b) s1
theorem qw_and1 {op : BoolOp} {ta : PTx γ} (ha : QT X G a ta) : QW X G (.BoolOp op [a] pos) ta := by
  first
    | exact pw_and1 ha
    | (cases op; exact pw_and1 ha; exact pw_or1 ha)
theorem qw_and {rest : List Expr} {ta tb : PTx γ} (ha : QT X G a ta) (hb : QW X G (.BoolOp .And (b :: rest) pos) tb) : QW X G (.BoolOp .And (a :: b :: rest) pos) (qAnd ta tb) := by
  refine PW.imp (pw_and ha hb) fun σ H Q ⟨F, Z, s, R, r, t, q⟩ => ?_
  refine ⟨F, Z, s, _, r, t, fun b s1 Z1 H1 t1 k1 r1 => ?_⟩
  cases b with
  | true => rw [if_pos rfl]; exact ⟨F, Z1, s1, R, r1, t1.1 rfl, fun b s' Z' H' t' k' => q b s' Z' H' t' (k1.trans k')⟩
  | false => rw [if_neg Bool.false_ne_true]; exact q _ s1 Z1 H1 (t1.2 rfl) k1 r1
theorem qw_or {rest : List Expr} {ta tb : PTx γ} (ha : QT X G a ta) (hb : QW X G (.BoolOp .Or (b :: rest) pos) tb) : QW X G (.BoolOp .Or (a :: b :: rest) pos) (qOr ta tb) := by
  refine PW.imp (pw_or ha hb) fun σ H Q ⟨F, Z, s, R, r, t, q⟩ => ?_
  refine ⟨F, Z, s, _, r, t, fun b s1 Z1 H1 t1 k1 r1 => ?_⟩
  cases b with
  | true => rw [if_pos rfl]; exact q _ s1 Z1 H1 (t1.1 rfl) k1 r1
  | false => rw [if_neg Bool.false_ne_true]; exact ⟨F, Z1, s1, R, r1, t1.2 rfl, fun b s' Z' H' t' k' => q b s' Z' H' t' (k1.trans k')⟩
theorem qt_not {ta : PTx γ} (ha : QT X G a ta) : QT X G (.UnaryOp .Not a pos) (qNot ta) := by
  refine PT.imp (pt_not ha) fun σ H Q ⟨F, Z, s, R, r, t, q⟩ => ?_
  exact ⟨F, Z, s, _, r, t, fun b s1 Z1 H1 t1 k1 r1 => q _ s1 Z1 H1 t1 k1 r1⟩
def qIfE (tc : PTx γ) (ta tb : PEx γ) : PEx γ := fun s R => tc s fun k s1 => Br k (ta s1 R) (tb s1 R)
theorem qe_if {tc : PTx γ} {ta tb : PEx γ} (hc : QT X G c tc) (ha : QE X G a ta) (hb : QE X G b tb) : QE X G (.IfExp c a b pos) (qIfE tc ta tb) := by
  refine PE.imp (pe_ifExp hc ha hb) fun σ H Q ⟨F, Z, s, R, r, t, q⟩ => ?_
  refine ⟨F, Z, s, _, r, t, fun k s1 Z1 H1 t1 k1 r1 => ?_⟩
  cases k with
  | true => rw [if_pos rfl]; exact ⟨F, Z1, s1, R, r1, t1.1 rfl, fun d s' Z' v H' t' k' => q d s' Z' v H' t' (k1.trans k')⟩
  | false => rw [if_neg Bool.false_ne_true]; exact ⟨F, Z1, s1, R, r1, t1.2 rfl, fun d s' Z' v H' t' k' => q d s' Z' v H' t' (k1.trans k')⟩

def qNil : PAx γ := fun s R => R [] s
def qCons (ta : PEx γ) (tr : PAx γ) : PAx γ := fun s R => ta s fun x s1 => tr s1 fun xs s2 => R (x :: xs) s2
theorem qa_nil : QA X G [] (qNil : PAx γ) := PA.imp pa_nil fun σ H Q ⟨F, Z, s, R, r, t, q⟩ => q [] s Z [] H t (Same.refl _) r rfl
theorem qa_cons {es : List Expr} {ta : PEx γ} {tr : PAx γ} (ha : QE X G e ta) (hr : QA X G es tr) (hs : starEach (e :: es) X.env = (false, eval e X.env) :: starEach es X.env := by rfl) : QA X G (e :: es) (qCons ta tr) := by
  refine PA.imp (pa_cons ha hr hs) fun σ H Q ⟨F, Z, s, R, r, t, q⟩ => ?_
  refine ⟨F, Z, s, _, r, t, fun x s1 Z1 v1 H1 t1 k1 r1 a1 => ⟨F, Z1, s1, _, r1, t1, fun xs s2 Z2 vs H2 t2 k2 r2 a2 => ?_⟩⟩
  exact q _ s2 Z2 _ H2 t2 (k1.trans k2) r2 ⟨v1, vs, rfl, At.mono k2 _ _ a1, a2⟩
def qTup (t : PAx γ) : PEx γ := fun s R => t s fun xs s1 => xs.length ≤ sizeLine ∧ R (.tup xs) s1
def qLst (t : PAx γ) : PAx γ := fun s R => t s fun xs s1 => xs.length ≤ sizeLine ∧ R xs s1
theorem qe_tup {es : List Expr} {t : PAx γ} {x1} (h : QA X G es t) : QE X G (.Tuple es x1 pos) (qTup t) := by
  refine PE.imp (pe_tup h) fun σ H Q ⟨F, Z, s, R, r, t, q⟩ => ?_
  refine ⟨F, Z, s, _, r, t, fun xs s1 Z1 vs H1 t1 k1 r1 a1 => ⟨by rw [a1.len]; exact t1.1, fun p hp => ?_⟩⟩
  have x := Ext.new (o := HO.tup vs) r1.z hp
  exact q _ s1 _ _ _ t1.2 (k1.trans x.zz) (r1.ext x) ⟨p, vs, rfl, .inl (.inl upd_same), Ats.mono x.zz _ _ a1⟩
theorem Rel.fresh {F : Fra} {Z : Hp} {s : S γ} {σ : St} {H : Hp} (r : Rel G F Z s σ H) {p : Addr} (hp : H p = none) : Z p = none ∧ F.F p = none ∧ ¬ G.foot s.g p ∧ Nob s σ p := by
  refine ⟨r.z.free hp, r.f.free hp, fun h => ?_, fun i l h ol e => ?_⟩
  · obtain ⟨o, e⟩ := G.live _ _ _ r.j h
    rw [hp] at e; cases e
  · obtain ⟨a, vs, h1, h2, _⟩ := r.ownL i l h ol
    rw [h1] at e; cases e
    rw [hp] at h2; cases h2
theorem qf_lst {es : List Expr} {t : PAx γ} (h : QA X G es t) : QF X G (.List es pos) (qLst t) := by
  refine PE.imp (pe_lst h) fun σ H Q ⟨F, Z, s, R, r, t, q⟩ => ?_
  refine ⟨F, Z, s, _, r, t, fun xs s1 Z1 vs H1 t1 k1 r1 a1 => ⟨by rw [a1.len]; exact t1.1, fun p hp => ?_⟩⟩
  obtain ⟨f1, f2, f3, f4⟩ := r1.fresh hp
  exact q _ s1 Z1 p vs _ t1.2 k1 (r1.grow (same_upd hp)) upd_same a1 f1 f2 f3 f4
def qSet (t : PAx γ) : PEx γ := fun s R => t s fun ds s1 => R (.lst ds) s1
theorem qe_set {t : PAx γ} (h : QF X G e t) : QE X G e (qSet t) := by
  refine PE.imp h fun σ H Q ⟨F, Z, s, R, r, t, q⟩ => ?_
  refine ⟨F, Z, s, _, r, t, fun ds s1 Z1 a vs H1 t1 k1 r1 ha a1 hz hf hg ho => ?_⟩
  have k := same_upd (o := HO.lst vs) hz
  exact q _ s1 (upd Z1 a (.lst vs)) _ H1 t1 (k1.trans k) (r1.settle ha hz hg (Fra.nb hf) ho) ⟨a, vs, rfl, upd_same, Ats.mono k _ _ a1⟩

def qCall (p : List D → DK → Prop) (t : PAx γ) : PEx γ := fun s R => t s fun xs s1 => p xs fun z => R z s1
def qCallF (p : List D → (List D → Prop) → Prop) (t : PAx γ) : PAx γ := fun s R => t s fun xs s1 => p xs fun z => R z s1
theorem lcall {p : List D → DK → Prop} {t : PAx γ} {σ : St} {H : Hp} {Q : VK} (h : lE G (qCall p t) σ H Q) : tCB (dCall G.K p) (lA G t) σ H Q := by
  obtain ⟨F, Z, s, R, r, t, q⟩ := h
  refine ⟨F, Z, s, _, r, t, fun xs s1 Z1 vs H1 t1 k1 r1 a1 => ?_⟩
  exact ⟨Z1, xs, _, r1.z, a1, t1, fun z Z3 v H3 t3 x3 a3 => q z s1 Z3 v H3 t3 (k1.trans x3.zz) (r1.ext x3) a3⟩
theorem lcallF {p : List D → (List D → Prop) → Prop} {t : PAx γ} {σ : St} {H : Hp} {Q : VK} (h : lF G (qCallF p t) σ H Q) : tCB (dCallF G.K p) (lA G t) σ H Q := by
  obtain ⟨F, Z, s, R, r, t, q⟩ := h
  refine ⟨F, Z, s, _, r, t, fun xs s1 Z1 vs H1 t1 k1 r1 a1 => ?_⟩
  refine ⟨Z1, xs, _, r1.z, a1, t1, fun zs a ws H3 t3 k3 hn ha a3 => ?_⟩
  obtain ⟨f1, f2, f3, f4⟩ := r1.fresh hn
  exact q zs s1 Z1 a ws H3 t3 k1 (r1.grow k3) ha a3 f1 f2 f3 f4
section
variable {x : Str} {p : Pos} {es : List Expr} {t : PAx γ} {id T : String}
theorem qe_callB {pr : List D → DK → Prop} (hc : CallR X (.builtin id) (dCall G.K pr)) (hg : Gl X x) (hm : X.mg x = none) (hv : bootBuiltins x = some (.builtin id)) (ha : QA X G (e :: es) t) (hn : x ≠ "__name__" := by decide) (hdb : (x == ("__debug__" : Str)) = false := by decide)
    (he : starEach (e :: es) X.env = (false, eval e X.env) :: starEach es X.env := by rfl) (hpl : (backTo pos (starEach es X.env)).any (·.1) = false := by rfl) : QE X G (.Call (.Name x p) (e :: es) [] pos) (qCall pr t) :=
  PE.imp (pe_callB hc hg hm hv ha hn hdb he hpl) fun _ _ _ h => lcall h
theorem qe_callTy {pr : List D → DK → Prop} (hc : CallR X (.type T) (dCall G.K pr)) (hg : Gl X x) (hm : X.mg x = none) (hv : bootBuiltins x = some (.type T)) (ha : QA X G (e :: es) t) (hn : x ≠ "__name__" := by decide) (hdb : (x == ("__debug__" : Str)) = false := by decide)
    (he : starEach (e :: es) X.env = (false, eval e X.env) :: starEach es X.env := by rfl) (hpl : (backTo pos (starEach es X.env)).any (·.1) = false := by rfl) : QE X G (.Call (.Name x p) (e :: es) [] pos) (qCall pr t) :=
  PE.imp (pe_callTy hc hg hm hv ha hn hdb he hpl) fun _ _ _ h => lcall h
theorem qf_callB {pr : List D → (List D → Prop) → Prop} (hc : CallR X (.builtin id) (dCallF G.K pr)) (hg : Gl X x) (hm : X.mg x = none) (hv : bootBuiltins x = some (.builtin id)) (ha : QA X G (e :: es) t) (hn : x ≠ "__name__" := by decide) (hdb : (x == ("__debug__" : Str)) = false := by decide)
    (he : starEach (e :: es) X.env = (false, eval e X.env) :: starEach es X.env := by rfl) (hpl : (backTo pos (starEach es X.env)).any (·.1) = false := by rfl) : QF X G (.Call (.Name x p) (e :: es) [] pos) (qCallF pr t) :=
  PE.imp (pe_callB hc hg hm hv ha hn hdb he hpl) fun _ _ _ h => lcallF h
end

abbrev Spec (γ : Type) := List D → γ → (D → γ → Prop) → Prop
def spG (G : GP γ) (f : Spec γ) : Sp := fun vs H Q _ => ∃ Z ds g R, Same Z H ∧ Ats G.K Z ds vs ∧ G.J g H ∧ (∀ a, G.foot g a → Z a = none) ∧ f ds g R ∧
  ∀ d g' Z' v H', R d g' → Same Z Z' → Same Z' H' → (∀ a o, H a = some o → ¬ G.foot g a → H' a = some o) → (∀ a o, Z' a = some o → Z a = none → H a = none) → G.J g' H' → (∀ a, G.foot g' a → Z' a = none ∧ (G.foot g a ∨ H a = none)) → At G.K Z' d v → Q v H'
abbrev Spec0 := List D → DK → Prop
def spP (K : PySem.W.Frag) (f : Spec0) : Sp := fun vs H Q _ => ∃ Z ds R, Same Z H ∧ Ats K Z ds vs ∧ f ds R ∧ ∀ d Z' v H', R d → Same Z Z' → Same Z' H' → Same H H' → (∀ a o, Z' a = some o → Z a = none → H a = none) → At K Z' d v → Q v H'
structure Def (X : Cx) (x : Str) (n : Nat) (sp : Sp) : Prop where
  ex : ∃ f fd k ps, FnOk X.prog X.w X.K X.mg X.base CX0 k f fd ps sp ∧ Room k X.A ∧ X.mg x = some (.ref f) ∧ PySem.W.keepIn X.K (.ref f) = true ∧ Binds X.K fd ps [] ∧ ps.length = n
def qCallP (f : Spec0) (t : PAx γ) : PEx γ := fun s R => t s fun xs s1 => f xs fun z => R z s1
def qCallG (f : Spec γ) (t : PAx γ) : PEx γ := fun s R => t s fun xs s1 => f xs s1.g fun z g' => R z ⟨s1.ρ, g'⟩
section
variable {x : Str} {p : Pos} {es : List Expr} {t : PAx γ} {n : Nat}
theorem lcallP {f : Spec0} {σ : St} {H : Hp} {Q : VK} (h : lE G (qCallP f t) σ H Q) : tCall (spP G.K f) [] E0 (lA G t) σ H Q := by
  obtain ⟨F, Z, s, R, r, t, q⟩ := h
  refine ⟨F, Z, s, _, r, t, fun xs s1 Z1 vs H1 t1 k1 r1 a1 => ?_⟩
  refine ⟨Z1, xs, _, r1.z, by rw [List.append_nil]; exact a1, t1, fun z Z3 v H3 t3 k3 z3 h3 n3 a3 => ?_⟩
  exact q z s1 Z3 v H3 t3 (k1.trans k3) (r1.ext ⟨h3, k3, z3, n3⟩) a3
theorem qe_call {f : Spec0} (d : Def X x n (spP G.K f)) (hg : Gl X x) (ha : QA X G (e :: es) t) (hdb : (x == ("__debug__" : Str)) = false := by decide) (he : starEach (e :: es) X.env = (false, eval e X.env) :: starEach es X.env := by rfl) (hpl : (backTo pos (starEach es X.env)).any (·.1) = false := by rfl) :
    QE X G (.Call (.Name x p) (e :: es) [] pos) (qCallP f t) := by
  obtain ⟨fa, fd, k, ps, F, hr, hm, hk, hb, _⟩ := d.ex
  exact PE.imp (pe_call F hr hg hm hk hb .nil pass0 ha hdb he hpl) fun _ _ _ h => lcallP h
theorem Rel.after {F : Fra} {Z Z' : Hp} {s : S γ} {σ : St} {H H' : Hp} {g' : γ} (r : Rel G F Z s σ H) (zz : Same Z Z') (zh : Same Z' H') (keep : ∀ a o, H a = some o → ¬ G.foot s.g a → H' a = some o) (nw : ∀ a o, Z' a = some o → Z a = none → H a = none) (hj : G.J g' H')
    (hf : ∀ a, G.foot g' a → Z' a = none ∧ (G.foot s.g a ∨ H a = none)) : Rel G F Z' ⟨s.ρ, g'⟩ σ H' := by
  refine ⟨zh, fun a o e => ?_, fun a h => ?_, r.len, fun i d h => ?_, fun i l h ol => ?_, r.injL, hj, fun a h => (hf a h).1, fun a h => ?_, r.fl.trans zz⟩
  · refine keep a o (r.f _ _ e) fun h => ?_
    have := r.ff a h; rw [e] at this; cases this
  · cases q : Z' a with
    | none => rfl
    | some o =>
      have h1 := nw a o q (r.zb a h)
      obtain ⟨o', e⟩ := F.bf a h
      rw [r.f _ _ e] at h1; cases h1
  · obtain ⟨v, h1, h2⟩ := r.loc i d h
    exact ⟨v, h1, At.mono zz _ _ h2⟩
  · obtain ⟨a, vs, h1, h2, h3, h4, h5, h6⟩ := r.ownL i l h ol
    refine ⟨a, vs, h1, keep _ _ h2 h6, Ats.mono zz _ _ h3, ?_, h5, fun h7 => ?_⟩
    · cases q : Z' a with
      | none => rfl
      | some o => have := nw a o q h4; rw [h2] at this; cases this
    · rcases (hf a h7).2 with h8 | h8
      · exact h6 h8
      · rw [h2] at h8; cases h8
  · rcases (hf a h).2 with h8 | h8
    · exact r.ff a h8
    · exact r.f.free h8
theorem lcallG {f : Spec γ} {σ : St} {H : Hp} {Q : VK} (h : lE G (qCallG f t) σ H Q) : tCall (spG G f) [] E0 (lA G t) σ H Q := by
  obtain ⟨F, Z, s, R, r, t, q⟩ := h
  refine ⟨F, Z, s, _, r, t, fun xs s1 Z1 vs H1 t1 k1 r1 a1 => ?_⟩
  refine ⟨Z1, xs, s1.g, _, r1.z, by rw [List.append_nil]; exact a1, r1.j, r1.zf, t1, fun z g' Z3 v H3 t3 k3 z3 h3 n3 j3 f3 a3 => ?_⟩
  exact q z _ Z3 v H3 t3 (k1.trans k3) (r1.after k3 z3 h3 n3 j3 f3) a3
theorem qe_callG {f : Spec γ} (d : Def X x n (spG G f)) (hg : Gl X x) (ha : QA X G (e :: es) t) (hdb : (x == ("__debug__" : Str)) = false := by decide) (he : starEach (e :: es) X.env = (false, eval e X.env) :: starEach es X.env := by rfl) (hpl : (backTo pos (starEach es X.env)).any (·.1) = false := by rfl) :
    QE X G (.Call (.Name x p) (e :: es) [] pos) (qCallG f t) := by
  obtain ⟨fa, fd, k, ps, F, hr, hm, hk, hb, _⟩ := d.ex
  exact PE.imp (pe_call F hr hg hm hk hb .nil pass0 ha hdb he hpl) fun _ _ _ h => lcallG h
end
end
end Pm
set_option Elab.async false
set_option linter.all false
set_option maxRecDepth 100000
set_option maxHeartbeats 1000000
set_option autoImplicit false
namespace Pm
open PySem PySem.Spec
open PyProof.Rows hiding St
open L2
variable {γ : Type}

section
variable {prog : Program} {w : World} {A : Around} {E : Value → Shared → Prop} {s : Shared}
theorem draw_list {it t : Addr} {items : Array Value} (hne : t ≠ it) : ∀ (n i : Nat) (s : Shared) (Q : List Value → Shared → Prop), s.heap.IsListIter it t i → s.heap.IsList t items → i + n ≤ items.size →
    (∀ h', h'.IsListIter it t (i + n) → Heap.SameBut it s.heap h' → Q ((items.toList.drop i).take n) { s with heap := h' }) → wpAny (model prog w) A (draw (.ref it) n) Q E s
  | 0, i, s, Q, hit, _, _, hQ => by
    show wpAny _ _ (pure []) Q E s
    exact wpAny_pure (by simpa using hQ s.heap hit (Heap.SameBut.refl ..))
  | n + 1, i, s, Q, hit, ht, hle, hQ => by
    have hlt : i < items.size := by omega
    show wpAny _ _ (pyNext (.ref it) >>= _) Q E s
    refine wpAny_bind (wpAny_pyNext_list_item hit ht (x := items[i]) (by simp [hlt]) fun h₁ hit₁ hs₁ => ?_)
    refine wpAny_bind (wpAny_holding (draw_list hne n (i + 1) _ _ hit₁ (ht.extBut hs₁.extBut hne) (by omega) fun h₂ hit₂ hs₂ => wpAny_pure ?_))
    have hd : items.toList.drop i = items[i] :: items.toList.drop (i + 1) := by simp [List.drop_eq_getElem_cons, hlt]
    have := hQ h₂ (by rw [show i + (n + 1) = i + 1 + n by omega]; exact hit₂) (hs₁.trans hs₂)
    rw [hd, List.take_succ_cons] at this
    exact this
theorem unpackItems_list {t : Addr} {items : Array Value} {Q : List Value → Shared → Prop} (hh : A.handled = none) (ht : s.heap.IsList t items)
    (hQ : ∀ h', Heap.ExtBut s.heap.objs.size s.heap h' → Q items.toList { s with heap := h' }) : wpAny (model prog w) A (unpackItems (.ref t) items.size none) Q E s := by
  have hlt : t ≠ s.heap.objs.size := by obtain ⟨o, ho, _⟩ := ht; exact Nat.ne_of_lt (Heap.lt_size ho)
  unfold unpackItems
  refine wpAny_bind ?_
  · unfold notIterableAtAll
    refine wpAny_bind (wpAny_specialOf ht.typeIs PySem.F.slot_list_iter.lookup ?_)
    refine wpAny_pure ?_
    simp only [Bool.false_eq_true, if_false]
    refine wpAny_bind (wpAny_holding (wpAny_pyIter_list ht ?_))
    refine wpAny_bind (wpAny_holding (draw_list hlt items.size 0 _ _ ⟨_, Heap.get?_push_size _ rfl, rfl, rfl⟩ (ht.at fun o e => Heap.get?_push_of_some _ e) (by omega) fun h₁ hit₁ hs₁ => ?_))
    have hall : List.take items.size (List.drop 0 items.toList) = items.toList := by
      rw [List.drop_zero]; exact List.take_of_length_le (by simp)
    rw [hall]
    rw [if_neg (by simp)]
    have ht₁ : h₁.IsList t items := (ht.at fun o e => Heap.get?_push_of_some _ e).extBut hs₁.extBut hlt
    refine wpAny_bind (wpAny_holding (wpAny_pyNext_list_end hh hit₁ ht₁ (by simp) fun h₂ he₂ => ?_))
    simp only [Option.isSome_none, Bool.false_eq_true, if_false]
    refine wpAny_pure (hQ h₂ fun b o hb e => he₂ b o hb (hs₁.extBut b o hb (Heap.get?_push_of_some _ e)))
theorem unpack_list {t : Addr} {items : Array Value} {targets : List (Bool × (Value → Sem Unit))} {Q : Unit → Shared → Prop} (hh : A.handled = none) (ht : s.heap.IsList t items)
    (hn : targets.length = items.size) (hstar : targets.findIdx? (·.1) = none)
    (h : ∀ h', Heap.ExtBut s.heap.objs.size s.heap h' → wpAny (model prog w) A (assignInOrder (targets.map (·.2)) items.toList) Q E { s with heap := h' }) :
    wpAny (model prog w) A (unpack (.ref t) targets) Q E s := by
  unfold unpack
  rw [hn, hstar]
  exact wpAny_bind (wpAny_holding (unpackItems_list hh ht h))
theorem assign_Tuple_list {env : Env} {elts : List Expr} {x1} {pos : Pos} {t : Addr} {items : Array Value} {Q : Unit → Shared → Prop} (hh : A.handled = none) (ht : s.heap.IsList t items)
    (hn : (assignEach elts env).length = items.size) (hstar : (assignEach elts env).findIdx? (·.1) = none)
    (h : ∀ h', Heap.ExtBut s.heap.objs.size s.heap h' → wpAny (model prog w) A (assignInOrder ((assignEach elts env).map (·.2)) items.toList) Q E { s with heap := h' }) :
    wpAny (model prog w) A (assign (.Tuple elts x1 pos) env (.ref t)) Q E s := by
  rw [assign_Tuple]
  exact wpAny_bind (wpAny_standAt (unpack_list hh ht hn hstar h))
end
section
variable {X : Cx} {pos : Pos}
def gLs (K : PySem.W.Frag) (n : Nat) (t : TGs) : TG := fun v σ H Q => ∃ a xs, v = .ref a ∧ SqL K H a xs ∧ xs.length = n ∧ t xs σ H Q
theorem pg_lst {es : List Expr} {k : Nat} {t : TGs} {n : Nat} (hc : X.calm = true) (h : PGs X es t)
    (hn : (assignEach es X.env).length = n := by rfl) (hst : (assignEach es X.env).findIdx? (·.1) = none := by rfl) : PG X (.Tuple es k pos) (gLs X.K n t) := by
  refine ⟨fun pins s σ H v u Q I r hw => ?_⟩
  obtain ⟨a, xs, e1, hq, hl, hw⟩ := hw
  subst e1
  cases r
  obtain ⟨its, rv, ht, hz⟩ := I.list hq
  refine assign_Tuple_list (I.ok.hd hc) ht.isList (by simp [hn, ← hl, rv.length]) hst fun h' hx => ?_
  have I1 : L2.Inv X pins σ H { s with heap := h' } := I.kept (t' := s.toks) fun b o e => hx b o (Nat.ne_of_lt (Heap.lt_size e)) e
  exact h.run pins _ σ H xs _ Q I1 (by simpa using rv) hw
end

end Pm
set_option Elab.async false
set_option linter.all false
set_option maxRecDepth 100000
set_option maxHeartbeats 1000000
set_option autoImplicit false
namespace Pm
open PySem PySem.Spec
open PyProof.Rows hiding St
open L2
variable {γ : Type}

section
variable {X : Cx} {G : GP γ} {a b c e : Expr} {pos : Pos}
def qNext : PSx γ := fun E s => E.nx s
def qSeq (t u : PSx γ) : PSx γ := fun E s => t { E with nx := u E } s
theorem lSeq {t u : PSx γ} {De : Ends} {σ : St} {H : Hp} (h : lS G (qSeq t u) De σ H) : tSeq (lS G t) (lS G u) De σ H := by
  obtain ⟨F, Z, s, E, r, t, n, rt, bk, ct⟩ := h
  refine ⟨F, Z, s, _, r, t, fun s' Z' σ' H' u' k r' => ?_, rt, bk, ct⟩
  exact ⟨F, Z', s', E, r', u', fun s2 Z2 σ2 H2 q k2 r2 => n s2 Z2 σ2 H2 q (k.trans k2) r2, fun d s2 Z2 σ2 v H2 q k2 r2 a2 => rt d s2 Z2 σ2 v H2 q (k.trans k2) r2 a2,
    fun s2 Z2 σ2 H2 q k2 r2 => bk s2 Z2 σ2 H2 q (k.trans k2) r2, fun s2 Z2 σ2 H2 q k2 r2 => ct s2 Z2 σ2 H2 q (k.trans k2) r2⟩
theorem qss_nil : QSs X G [] (qNext : PSx γ) := PSs.imp pss_nil fun De σ H ⟨F, Z, s, E, r, t, n, _⟩ => n s Z σ H t (Same.refl _) r
theorem qss_cons {st : Stmt} {rest : List Stmt} {t u : PSx γ} (h1 : QS X G st t) (h2 : QSs X G rest u) : QSs X G (st :: rest) (qSeq t u) := PSs.imp (pss_cons h1 h2) fun _ _ _ h => lSeq h
theorem qss_one {st : Stmt} {t : PSx γ} (h1 : QS X G st t) : QSs X G [st] t := pss_one h1
def qNever : PSx γ := fun _ _ => False
theorem qs_never {st : Stmt} : QS X G st (qNever : PSx γ) := PS.imp (t := tNever) ps_never fun De σ H ⟨F, Z, s, E, r, t, _⟩ => t.elim
theorem qss_never {st : List Stmt} : QSs X G st (qNever : PSx γ) := PSs.imp (t := tNever) pss_never fun De σ H ⟨F, Z, s, E, r, t, _⟩ => t.elim
def qDrop (te : PEx γ) : PSx γ := fun E s => te s fun _ s1 => E.nx s1
theorem qs_expr {te : PEx γ} (he : QE X G e te) (hs : swapsWith e none pos.line X.env = pure false := by rfl) : QS X G (.Expr e pos) (qDrop te) := by
  refine PS.imp (ps_expr he hs) fun De σ H ⟨F, Z, s, E, r, t, n, _⟩ => ?_
  exact ⟨F, Z, s, _, r, t, fun d s1 Z1 v H1 t1 k1 r1 a1 => n s1 Z1 σ H1 t1 k1 r1⟩
def qRet (te : PEx γ) : PSx γ := fun E s => te s fun d s1 => E.rt d s1.g
theorem qs_ret {te : PEx γ} (he : QE X G e te) : QS X G (.Return (some e) pos) (qRet te) := by
  refine PS.imp (ps_ret he) fun De σ H ⟨F, Z, s, E, r, t, _, rt, _⟩ => ?_
  exact ⟨F, Z, s, _, r, t, fun d s1 Z1 v H1 t1 k1 r1 a1 => rt d s1 Z1 σ v H1 t1 k1 r1 a1⟩
def qIf (c : PTx γ) (t u : PSx γ) : PSx γ := fun E s => c s fun b s1 => Br b (t E s1) (u E s1)
theorem qs_if {c : Expr} {a b : List Stmt} {tc : PTx γ} {t u : PSx γ} (hc : QT X G c tc) (ha : QSs X G a t) (hb : QSs X G b u) : QS X G (.If c a b pos) (qIf tc t u) := by
  refine PS.imp (ps_if hc ha hb) fun De σ H ⟨F, Z, s, E, r, t, n, rt, bk, ct⟩ => ?_
  refine ⟨F, Z, s, _, r, t, fun k s1 Z1 H1 t1 k1 r1 => ?_⟩
  have go : ∀ {t : PSx γ}, t E s1 → lS G t De σ H1 := fun {t} q => ⟨F, Z1, s1, E, r1, q, fun s2 Z2 σ2 H2 q k2 r2 => n s2 Z2 σ2 H2 q (k1.trans k2) r2, fun d s2 Z2 σ2 v H2 q k2 r2 a2 => rt d s2 Z2 σ2 v H2 q (k1.trans k2) r2 a2,
    fun s2 Z2 σ2 H2 q k2 r2 => bk s2 Z2 σ2 H2 q (k1.trans k2) r2, fun s2 Z2 σ2 H2 q k2 r2 => ct s2 Z2 σ2 H2 q (k1.trans k2) r2⟩
  cases k with
  | true => exact iteT (go (t1.1 rfl))
  | false => exact iteF (go (t1.2 rfl))

def qAsg (te : PEx γ) (i : Nat) : PSx γ := fun E s => te s fun d s1 => E.nx ⟨s1.ρ.set i (some (.val d)), s1.g⟩
theorem lasg {te : PEx γ} {i : Nat} {De : Ends} {σ : St} {H : Hp} (h : lS G (qAsg te i) De σ H) : tAsg (lE G te) (gName i) De σ H := by
  obtain ⟨F, Z, s, E, r, t, n, _⟩ := h
  exact ⟨F, Z, s, _, r, t, fun d s1 Z1 v H1 t1 k1 r1 a1 => n _ Z1 _ H1 t1 k1 (r1.put a1)⟩
def qAsgOwn (te : PAx γ) (i : Nat) : PSx γ := fun E s => te s fun ds s1 => E.nx ⟨s1.ρ.set i (some (.own ds)), s1.g⟩
theorem lasgOwn {te : PAx γ} {i : Nat} {De : Ends} {σ : St} {H : Hp} (h : lS G (qAsgOwn te i) De σ H) : tAsg (lF G te) (gName i) De σ H := by
  obtain ⟨F, Z, s, E, r, t, n, _⟩ := h
  exact ⟨F, Z, s, _, r, t, fun ds s1 Z1 a vs H1 t1 k1 r1 ha a1 hz hf hg ho => n _ Z1 _ H1 t1 k1 (r1.putOwn ha a1 hz hf hg ho)⟩
section
variable {i : Nat} {x : Str} {pos' : Pos}
theorem qs_set {te : PEx γ} (hN : X.N.Nodup) (hi : X.N[i]? = some x) (hx : Loc X.env.scope x) (he : QE X G e te) (hs : swapsWith e (some (.Name x pos')) pos.line X.env = pure false := by rfl) (hf : X.fn x = true ∨ X.env.scope.names.lookup x = some .local := by first | exact .inl rfl | exact .inr rfl | assumption) :
    QS X G (.Assign [.Name x pos'] e pos) (qAsg te i) := PS.imp (ps_set hN hi hx he hs hf) fun _ _ _ h => lasg h
theorem qs_setOwn {te : PAx γ} (hN : X.N.Nodup) (hi : X.N[i]? = some x) (hx : Loc X.env.scope x) (he : QF X G e te) (hs : swapsWith e (some (.Name x pos')) pos.line X.env = pure false := by rfl) (hf : X.fn x = true ∨ X.env.scope.names.lookup x = some .local := by first | exact .inl rfl | exact .inr rfl | assumption) :
    QS X G (.Assign [.Name x pos'] e pos) (qAsgOwn te i) := PS.imp (ps_set hN hi hx he hs hf) fun _ _ _ h => lasgOwn h
end
inductive Tg where | nm (i : Nat) | tp (ts : List Tg)
mutual
def Tg.put : Tg → D → List (Option L) → Option (List (Option L))
  | .nm i, d, ρ => some (ρ.set i (some (.val d)))
  | .tp ts, d, ρ => match d with
    | .tup ds => Tg.puts ts ds ρ
    | .lst ds => Tg.puts ts ds ρ
    | _ => none
def Tg.puts : List Tg → List D → List (Option L) → Option (List (Option L))
  | [], [], ρ => some ρ
  | t :: ts, d :: ds, ρ => (t.put d ρ).bind fun ρ' => Tg.puts ts ds ρ'
  | _, _, _ => none
end
mutual
def Tg.js : Tg → List Nat
  | .nm i => [i]
  | .tp ts => Tg.jss ts
def Tg.jss : List Tg → List Nat
  | [] => []
  | t :: ts => t.js ++ Tg.jss ts
end
def qPut (tg : Tg) : PGx γ := fun d s R => match tg.put d s.ρ with
  | some ρ' => R ⟨ρ', s.g⟩
  | none => False
def qPuts (ts : List Tg) : List D → S γ → (S γ → Prop) → Prop := fun ds s R => match Tg.puts ts ds s.ρ with
  | some ρ' => R ⟨ρ', s.g⟩
  | none => False
def lGs (G : GP γ) (js : List Nat) (t : List D → S γ → (S γ → Prop) → Prop) : TGs := fun vs σ H Q => ∃ F Z s ds R, Rel G F Z s σ H ∧ Ats G.K Z ds vs ∧ t ds s R ∧
  ∀ s' Z' σ' H', R s' → Same Z Z' → Rel G F Z' s' σ' H' → H' = H → (∀ j, j ∉ js → σ'[j]? = σ[j]?) → σ'.length = σ.length → Q σ' H'
theorem PGs.imp {es : List Expr} {t t' : TGs} (h : PGs X es t) (k : ∀ v σ H Q, t' v σ H Q → t v σ H Q) : PGs X es t' := ⟨fun pins s σ H v u Q I r w => h.run pins s σ H v u Q I r (k _ _ _ _ w)⟩
abbrev QG' (X : Cx) (G : GP γ) (tg : Expr) (t : Tg) : Prop := PG X tg (lG G t.js (qPut t))
abbrev QGs (X : Cx) (G : GP γ) (es : List Expr) (ts : List Tg) : Prop := PGs X es (lGs G (Tg.jss ts) (qPuts ts))
theorem qg_name {i : Nat} {x : Str} (hN : X.N.Nodup) (hi : X.N[i]? = some x) (hx : Loc X.env.scope x) (hf : X.fn x = true ∨ X.env.scope.names.lookup x = some .local := by first | exact .inl rfl | exact .inr rfl | assumption) : QG' X G (.Name x pos) (.nm i) := by
  refine PG.imp (pg_name hN hi hx hf) fun v σ H Q ⟨F, Z, s, d, R, r, a, t, q⟩ => ?_
  exact q _ Z _ H t (Same.refl _) (r.put a) rfl (fun j hj => List.getElem?_set_ne (by simpa [Tg.js, eq_comm] using hj)) (by simp)
theorem qgs_nil : QGs X G [] [] := by
  refine PGs.imp pgs_nil fun vs σ H Q ⟨F, Z, s, ds, R, r, a, t, q⟩ => ?_
  cases ds with
  | nil => exact ⟨a, q _ Z σ H t (Same.refl _) r rfl (fun _ _ => rfl) rfl⟩
  | cons d ds => exact t.elim
theorem qgs_cons {e : Expr} {es : List Expr} {t : Tg} {ts : List Tg} (h1 : QG' X G e t) (h2 : QGs X G es ts)
    (hs : (assignEach (e :: es) X.env).map (·.2) = assign e X.env :: (assignEach es X.env).map (·.2) := by rfl) : QGs X G (e :: es) (t :: ts) := by
  refine PGs.imp (pgs_cons h1 h2 hs) fun vs σ H Q ⟨F, Z, s, ds, R, r, a, w, q⟩ => ?_
  cases ds with
  | nil => exact w.elim
  | cons d ds =>
    simp only [Ats] at a
    obtain ⟨v, vr, e, a1, a2⟩ := a
    unfold qPuts at w
    simp only [Tg.puts] at w
    cases hp : t.put d s.ρ with
    | none => rw [hp] at w; exact w.elim
    | some ρ' =>
      rw [hp] at w
      simp only [Option.bind_some] at w
      refine ⟨v, vr, e, F, Z, s, d, fun s1 => qPuts ts ds s1 R, r, a1, ?_, fun s1 Z1 σ1 H1 w1 k1 r1 e1 o1 l1 => ?_⟩
      · unfold qPut; rw [hp]; exact w
      · refine ⟨F, Z1, s1, ds, R, r1, Ats.mono k1 _ _ a2, w1, fun s2 Z2 σ2 H2 w2 k2 r2 e2 o2 l2 => ?_⟩
        refine q s2 Z2 σ2 H2 w2 (k1.trans k2) r2 (e2.trans e1) (fun j hj => ?_) (l2.trans l1)
        simp only [Tg.jss, List.mem_append, not_or] at hj
        rw [o2 j hj.2, o1 j hj.1]
theorem Tg.puts_len : ∀ {ts : List Tg} {ds : List D} {ρ ρ' : List (Option L)}, Tg.puts ts ds ρ = some ρ' → ds.length = ts.length
  | [], [], _, _, _ => rfl
  | [], _ :: _, _, _, h => by simp [Tg.puts] at h
  | _ :: _, [], _, _, h => by simp [Tg.puts] at h
  | t :: ts, d :: ds, ρ, ρ', h => by
    simp only [Tg.puts] at h
    cases hp : t.put d ρ with
    | none => rw [hp] at h; simp at h
    | some ρ1 =>
      rw [hp] at h
      simp only [Option.bind_some] at h
      simp [Tg.puts_len h]
theorem qg_tup {es : List Expr} {k : Nat} {ts : List Tg} (hc : X.calm = true) (h : QGs X G es ts) (hK : X.K = G.K := by rfl)
    (hn : (assignEach es X.env).length = ts.length := by rfl) (hst : (assignEach es X.env).findIdx? (·.1) = none := by rfl) : QG' X G (.Tuple es k pos) (.tp ts) := by
  refine ⟨fun pins s0 σ H v u Q I rv hw => ?_⟩
  obtain ⟨F, Z, s, d, R, r, a, w, q⟩ := hw
  unfold qPut at w
  cases d with
  | tup ds =>
    simp only [Tg.put] at w
    simp only [At] at a
    obtain ⟨p, vs, e, hs, a⟩ := a
    have hl : ds.length = ts.length := by
      cases hp : Tg.puts ts ds s.ρ with
      | none => rw [hp] at w; exact w.elim
      | some ρ' => exact Tg.puts_len hp
    exact (pg_tup hc h hn hst).run pins s0 σ H v u Q I rv ⟨p, vs, e, by rw [hK]; exact seqT r.z hs, by rw [a.len]; exact hl, F, Z, s, ds, R, r, a, w, q⟩
  | lst ds =>
    simp only [Tg.put] at w
    simp only [At] at a
    obtain ⟨p, vs, e, hs, a⟩ := a
    have hl : ds.length = ts.length := by
      cases hp : Tg.puts ts ds s.ρ with
      | none => rw [hp] at w; exact w.elim
      | some ρ' => exact Tg.puts_len hp
    exact (pg_lst hc h hn hst).run pins s0 σ H v u Q I rv ⟨p, vs, e, .inl (.inl (r.z _ _ hs)), by rw [a.len]; exact hl, F, Z, s, ds, R, r, a, w, q⟩
  | _ => exact w.elim
def qAsgT (te : PEx γ) (tg : Tg) : PSx γ := fun E s => te s fun d s1 => qPut tg d s1 E.nx
theorem qs_setT {tg : Expr} {te : PEx γ} {t : Tg} (he : QE X G e te) (hg : QG' X G tg t) (hs : swapsWithSole [tg] e pos.line X.env = pure false := by rfl) (hw : swappedStores [tg] e X.env = pure none := by rfl)
    (h1 : (assignEach [tg] X.env).map (·.2) = [assign tg X.env] := by rfl) : QS X G (.Assign [tg] e pos) (qAsgT te t) := by
  refine PS.imp (ps_asg he hg hs hw h1) fun De σ H ⟨F, Z, s, E, r, t, n, _⟩ => ?_
  exact ⟨F, Z, s, _, r, t, fun d s1 Z1 v H1 t1 k1 r1 a1 => ⟨F, Z1, s1, d, E.nx, r1, a1, t1, fun s2 Z2 σ2 H2 q2 k2 r2 _ _ _ => n s2 Z2 σ2 H2 q2 (k1.trans k2) r2⟩⟩
def qWhile (c : PTx γ) (tb : PSx γ) : PSx γ := fun E s => ∃ W : Nat → S γ → Prop, (∃ m s0, Wk s s0 ∧ W m s0) ∧ ∀ m s, W m s → c s fun b s1 => Br b (tb { E with nx := fun s' => ∃ m' s'', m' < m ∧ Wk s' s'' ∧ W m' s'', ct := fun s' => ∃ m' s'', m' < m ∧ Wk s' s'' ∧ W m' s'', bk := E.nx } s1) (E.nx s1)
theorem qs_while {c : Expr} {body : List Stmt} {tc : PTx γ} {tb : PSx γ} (hp : PassesOwn (model X.prog X.w) X.A X.env X.xe) (hc : QT X G c tc) (hb : QSs X G body tb) : QS X G (.While c body [] pos) (qWhile tc tb) := by
  refine PS.imp (ps_while hp hc hb) fun De σ H ⟨F, Z, s, E, r, ⟨W, ⟨m0, s0, wk0, w0⟩, turn⟩, n, rt, bk, ct⟩ => ?_
  refine ⟨fun m σ H => ∃ Z' s', Same Z Z' ∧ Rel G F Z' s' σ H ∧ W m s', ⟨m0, Z, s0, Same.refl _, r.weak wk0, w0⟩, ?_⟩
  rintro m σ1 H1 ⟨Z1, s1, k1, r1, w1⟩
  refine ⟨F, Z1, s1, _, r1, turn m s1 w1, fun b s2 Z2 H2 t2 k2 r2 => ?_⟩
  cases b with
  | true =>
    refine iteT ?_
    refine ⟨fun σ' H' => ∃ m', m' < m ∧ ∃ Z' s', Same Z Z' ∧ Rel G F Z' s' σ' H' ∧ W m' s', fun σ' H' h => h, F, Z2, s2, _, r2, t2.1 rfl, ?_, ?_, ?_, ?_⟩
    · rintro s3 Z3 σ3 H3 ⟨m', s'', hm, wk, w'⟩ k3 r3
      exact ⟨m', hm, Z3, s'', (k1.trans k2).trans k3, r3.weak wk, w'⟩
    · intro d s3 Z3 σ3 v H3 q k3 r3 a3
      exact rt d s3 Z3 σ3 v H3 q ((k1.trans k2).trans k3) r3 a3
    · intro s3 Z3 σ3 H3 q k3 r3
      exact n s3 Z3 σ3 H3 q ((k1.trans k2).trans k3) r3
    · rintro s3 Z3 σ3 H3 ⟨m', s'', hm, wk, w'⟩ k3 r3
      exact ⟨m', hm, Z3, s'', (k1.trans k2).trans k3, r3.weak wk, w'⟩
  | false => exact iteF (n s2 Z2 σ1 H2 (t2.2 rfl) (k1.trans k2) r2)

def Walks (K : PySem.W.Frag) (J : It) (Z : Hp) (ds : List D) : Prop := ∀ (i : Nat) (Z1 H : Hp), Same Z Z1 → Same Z1 H →
  (∀ d, ds[i]? = some d → J.go i H ∧ ∀ x H', J.yld i H x H' → ∃ Z', Ext Z1 H Z' H' ∧ At K Z' d x) ∧ (i = ds.length → J.stop i H)
def lI (G : GP γ) (t : PAx γ) : TI := fun σ H R => ∃ F Z s Rp, Rel G F Z s σ H ∧ t s Rp ∧ ∀ ds s' Z' H' J, Rp ds s' → Same Z Z' → Rel G F Z' s' σ H' → Walks G.K J Z' ds → R J H'
abbrev QI (X : Cx) (G : GP γ) (tg iter : Expr) (t : PAx γ) : Prop := PI X tg iter (lI G t)
theorem PI.imp {tg iter : Expr} {t t' : TI} (h : PI X tg iter t) (k : ∀ σ H R, t' σ H R → t σ H R) : PI X tg iter t' := ⟨fun pins s σ H R I w => h.run pins s σ H R I (k _ _ _ w)⟩

def qFor (ti : PAx γ) (tg : Tg) (tb : PSx γ) : PSx γ := fun E s => ti s fun ds s1 => ∃ I : Nat → S γ → Prop, (∃ s0, Wk s1 s0 ∧ I 0 s0) ∧
  (∀ i d s, ds[i]? = some d → I i s → qPut tg d s fun s2 => tb { E with nx := fun s' => ∃ s'', Wk s' s'' ∧ I (i + 1) s'', ct := fun s' => ∃ s'', Wk s' s'' ∧ I (i + 1) s'', bk := E.nx } s2) ∧ ∀ s, I ds.length s → E.nx s
theorem qs_for {iter tg : Expr} {body : List Stmt} {ti : PAx γ} {t : Tg} {tb : PSx γ} (hp : PassesOwn (model X.prog X.w) X.A X.env X.xe) (hc : X.calm = true) (hi : QI X G tg iter ti) (hg : QG' X G tg t) (hb : QSs X G body tb)
    (hs : ∀ x, foldedSetIterable iter X.env x = pure x := by intro _; rfl) : QS X G (.For tg iter body [] pos) (qFor ti t tb) := by
  refine PS.imp (ps_for hp hc hi hg hb hs) fun De σ H ⟨F, Z, s, E, r, w, n, rt, bk, ct⟩ => ?_
  refine ⟨F, Z, s, _, r, w, fun ds s1 Z1 H1 J w1 k1 r1 wJ => ?_⟩
  obtain ⟨I, ⟨s0, wk0, i0⟩, turn, done⟩ := w1
  refine ⟨fun i m σ H => m = ds.length - i ∧ i ≤ ds.length ∧ ∃ Z' s', Same Z1 Z' ∧ Rel G F Z' s' σ H ∧ I i s', ⟨ds.length, rfl, Nat.zero_le _, Z1, s0, Same.refl _, r1.weak wk0, i0⟩, ?_⟩
  rintro i m σ2 H2 ⟨hm, hi, Z2, s2, k2, r2, i2⟩
  obtain ⟨go, stop⟩ := wJ i Z2 H2 k2 r2.z
  by_cases hlt : i < ds.length
  · obtain ⟨g1, y1⟩ := go ds[i] (List.getElem?_eq_getElem hlt)
    refine .inr ⟨g1, fun σ' H' => ∃ Z' s', Same Z1 Z' ∧ Rel G F Z' s' σ' H' ∧ I (i + 1) s', fun σ' H' h => ⟨ds.length - (i + 1), by omega, rfl, hlt, h⟩, fun x H3 y => ?_⟩
    obtain ⟨Z3, x3, a3⟩ := y1 x H3 y
    have r3 := r2.ext x3
    have k3 := k2.trans x3.zz
    refine ⟨F, Z3, s2, ds[i], _, r3, a3, turn i ds[i] s2 (List.getElem?_eq_getElem hlt) i2, fun s4 Z4 σ4 H4 w4 k4 r4 _ _ _ => ?_⟩
    refine ⟨F, Z4, s4, _, r4, w4, ?_, ?_, ?_, ?_⟩
    · rintro s5 Z5 σ5 H5 ⟨s'', wk, i5⟩ k5 r5
      exact ⟨Z5, s'', (k3.trans k4).trans k5, r5.weak wk, i5⟩
    · intro d s5 Z5 σ5 v H5 q k5 r5 a5
      exact rt d s5 Z5 σ5 v H5 q (((k1.trans k3).trans k4).trans k5) r5 a5
    · intro s5 Z5 σ5 H5 q k5 r5
      exact n s5 Z5 σ5 H5 q (((k1.trans k3).trans k4).trans k5) r5
    · rintro s5 Z5 σ5 H5 ⟨s'', wk, i5⟩ k5 r5
      exact ⟨Z5, s'', (k3.trans k4).trans k5, r5.weak wk, i5⟩
  · have e : i = ds.length := by omega
    subst e
    exact .inl ⟨stop rfl, n s2 Z2 σ2 H2 (done s2 i2) (k1.trans k2) r2⟩
end
end Pm
set_option Elab.async false
set_option linter.all false
set_option maxRecDepth 100000
set_option maxHeartbeats 1000000
set_option autoImplicit false
namespace Pm
open PySem PySem.Spec
open PyProof.Rows hiding St
open L2
variable {γ : Type}

def wipeL (ρ : List (Option L)) : List Nat → List (Option L)
  | [] => ρ
  | v :: vs => (wipeL ρ vs).set v none
def S.wipe (s : S γ) (vs : List Nat) : S γ := ⟨wipeL s.ρ vs, s.g⟩
theorem wipeL_length (ρ : List (Option L)) : ∀ vs : List Nat, (wipeL ρ vs).length = ρ.length
  | [] => rfl
  | v :: vs => by unfold wipeL; rw [List.length_set, wipeL_length ρ vs]
theorem wipeL_some {ρ : List (Option L)} {i : Nat} {x : L} : ∀ {vs : List Nat}, (wipeL ρ vs)[i]? = some (some x) → ρ[i]? = some (some x) ∧ i ∉ vs
  | [], h => ⟨h, by simp⟩
  | v :: vs, h => by
    unfold wipeL at h
    by_cases hi : v = i
    · subst hi
      by_cases hv : v < (wipeL ρ vs).length
      · rw [List.getElem?_set_self hv] at h; cases h
      · rw [List.getElem?_eq_none (by simpa using hv)] at h; cases h
    · rw [List.getElem?_set_ne hi] at h
      obtain ⟨h1, h2⟩ := wipeL_some h
      exact ⟨h1, by simp only [List.mem_cons, not_or]; exact ⟨fun e => hi e.symm, h2⟩⟩
def keepVal : Option (Option L) → Option L
  | some (some (.val d)) => some (.val d)
  | _ => none
def S.back (s1 : S γ) (vs : List Nat) (s : S γ) : S γ := ⟨s.ρ.mapIdx fun j l => if j ∈ vs then keepVal s1.ρ[j]? else l, s.g⟩

section
variable {G : GP γ} {F : Fra} {Z Z1 : Hp} {s s' s1 : S γ} {σ σ' : St} {H H1 : Hp}
theorem Rel.resl (r : Rel G F Z s σ H) (hg : s'.g = s.g) (hl : s'.ρ.length = σ'.length) (k : ∀ (i : Nat) l, s'.ρ[i]? = some (some l) → s.ρ[i]? = some (some l) ∧ σ'[i]? = σ[i]?) : Rel G F Z s' σ' H := by
  obtain ⟨ρ', g'⟩ := s'
  simp only at hg hl k
  subst hg
  refine ⟨r.z, r.f, r.zb, hl.symm, fun i d h => ?_, fun i l h ol => ?_, fun i j l m a n h1 ol h2 om h3 h4 => ?_, r.j, r.zf, r.ff, r.fl⟩
  · obtain ⟨h1, h2⟩ := k i _ h
    obtain ⟨v, h3, h4⟩ := r.loc i d h1
    exact ⟨v, h2.trans h3, h4⟩
  · obtain ⟨h1, h2⟩ := k i _ h
    obtain ⟨a, vs, h3, h4⟩ := r.ownL i l h1 ol
    exact ⟨a, vs, h2.trans h3, h4⟩
  · obtain ⟨k1, k2⟩ := k i _ h1
    obtain ⟨k3, k4⟩ := k j _ h2
    exact r.injL i j l m a n k1 ol k3 om (k2 ▸ h3) (k4 ▸ h4)
theorem Rel.wiped (r : Rel G F Z s σ H) (vs : List Nat) : Rel G F Z (s.wipe vs) (wipe σ vs) H :=
  r.resl rfl (by show (wipeL s.ρ vs).length = _; rw [wipeL_length, wipe_length, r.len]) fun i l h => by
    obtain ⟨h1, h2⟩ := wipeL_some (show (wipeL s.ρ vs)[i]? = some (some l) from h)
    exact ⟨h1, wipe_out h2⟩
theorem Rel.backed (r1 : Rel G F Z1 s1 σ H1) {vs : List Nat} (r : Rel G F Z s (wipe σ vs) H) (k : Same Z1 Z) : Rel G F Z (s1.back vs s) σ H := by
  have out : ∀ (i : Nat) l, (s1.back vs s).ρ[i]? = some (some l) → (i ∈ vs ∧ ∃ d, l = .val d ∧ s1.ρ[i]? = some (some (.val d))) ∨ (i ∉ vs ∧ s.ρ[i]? = some (some l)) := fun i l h => by
    simp only [S.back, List.getElem?_mapIdx] at h
    cases q : s.ρ[i]? with
    | none => rw [q] at h; cases h
    | some o =>
      rw [q] at h
      simp only [Option.map_some, Option.some.injEq] at h
      by_cases hi : i ∈ vs
      · rw [if_pos hi] at h
        left
        refine ⟨hi, ?_⟩
        unfold keepVal at h
        split at h
        · rename_i d hd; cases h; exact ⟨d, rfl, hd⟩
        · cases h
      · rw [if_neg hi] at h; subst h; exact .inr ⟨hi, rfl⟩
  have hl : σ.length = s.ρ.length := by rw [← r.len, wipe_length]
  refine ⟨r.z, r.f, r.zb, by simpa [S.back] using hl, fun i d h => ?_, fun i l h ol => ?_, fun i j l m a n h1 ol h2 om h3 h4 => ?_, r.j, r.zf, r.ff, r.fl⟩
  · rcases out i _ h with ⟨_, d', e, h1⟩ | ⟨hi, h1⟩
    · cases e
      obtain ⟨v, h2, h3⟩ := r1.loc i d h1
      exact ⟨v, h2, At.mono k _ _ h3⟩
    · obtain ⟨v, h2, h3⟩ := r.loc i d h1
      exact ⟨v, by rw [← wipe_out hi]; exact h2, h3⟩
  · rcases out i _ h with ⟨_, d', e, h1⟩ | ⟨hi, h1⟩
    · subst e; cases ol
    · obtain ⟨a, ws, h2, h3⟩ := r.ownL i l h1 ol
      exact ⟨a, ws, by rw [← wipe_out hi]; exact h2, h3⟩
  · rcases out i _ h1 with ⟨_, d', e, _⟩ | ⟨hi, k1⟩
    · subst e; cases ol
    · rcases out j _ h2 with ⟨_, d', e, _⟩ | ⟨hj, k2⟩
      · subst e; cases om
      · exact r.injL i j l m a n k1 ol k2 om (by rw [wipe_out hi]; exact h3) (by rw [wipe_out hj]; exact h4)
end

def qYes : PTx γ := fun s R => R true s
abbrev QTs (X : Cx) (G : GP γ) (ifs : List Expr) (t : PTx γ) : Prop := PTs X ifs (lT G t)
theorem PTs.imp {X : Cx} {ifs : List Expr} {t t' : TT} (h : PTs X ifs t) (k : ∀ σ H Q, t' σ H Q → t σ H Q) : PTs X ifs t' := ⟨fun pins s σ H Q I w => h.run pins s σ H Q I (k _ _ _ w)⟩
theorem qts_nil {X : Cx} {G : GP γ} : QTs X G [] (qYes : PTx γ) := PTs.imp pts_nil fun σ H Q ⟨F, Z, s, R, r, t, q⟩ => q true s Z H t (Same.refl _) r
theorem qts_one {X : Cx} {G : GP γ} {c : Expr} {t : PTx γ} (h : QT X G c t) : QTs X G [c] t := pts_one h

def lcB (tg : Tg) (vs : List Nat) (tt : PTx γ) (te : PEx γ) (R : List D → S γ → Prop) (ds : List D) (s1 : S γ) : Prop := ∃ I : Nat → List D → S γ → Prop, (∃ s0, Wk (s1.wipe vs) s0 ∧ I 0 [] s0) ∧
  (∀ i d acc s, ds[i]? = some d → I i acc s → qPut tg d s fun s2 => tt s2 fun b s3 => Br b (te s3 fun y s4 => acc.length < sizeLine ∧ ∃ s5, Wk (s4.wipe vs) s5 ∧ I (i + 1) (acc ++ [y]) s5) (∃ s5, Wk (s3.wipe vs) s5 ∧ I (i + 1) acc s5)) ∧
  ∀ acc s, I ds.length acc s → R acc (s1.back vs s)
def qLc (ti : PAx γ) (tg : Tg) (vs : List Nat) (tt : PTx γ) (te : PEx γ) : PAx γ := fun s R => ti s fun ds s1 => lcB tg vs tt te R ds s1

def Fra.bar (F : Fra) (D : Addr) (o : HO) : Fra := ⟨upd F.F D o, fun a => F.B a ∨ a = D, fun a h => by
  by_cases e : a = D
  · subst e; exact ⟨o, upd_same⟩
  · rw [upd_ne e]
    rcases h with h | h
    · exact F.bf a h
    · exact absurd h e⟩

section
variable {G : GP γ} {F : Fra} {Z : Hp} {s : S γ} {σ : St} {H : Hp}
theorem Rel.bar (r : Rel G F Z s σ H) {D : Addr} {o : HO} (hD : H D = some o) (hz : Z D = none) (hg : ¬ G.foot s.g D) (ho : Nob s σ D) : Rel G (F.bar D o) Z s σ H := by
  refine ⟨r.z, fun a u e => ?_, fun a h => ?_, r.len, r.loc, fun i l h ol => ?_, r.injL, r.j, r.zf, fun a h => ?_, r.fl⟩
  · by_cases hb : a = D
    · subst hb
      have e' : some o = some u := by rw [← e]; exact upd_same.symm
      rw [hD, e']
    · exact r.f a u (by rw [← e]; exact (upd_ne hb).symm)
  · rcases h with h | h
    · exact r.zb a h
    · rw [h]; exact hz
  · obtain ⟨a, vs, h1, h2, h3, h4, h5⟩ := r.ownL i l h ol
    have : a ≠ D := fun e => ho i l h ol (by rw [← e]; exact h1)
    exact ⟨a, vs, h1, h2, h3, h4, by show upd F.F D o a = none; rw [upd_ne this]; exact h5.1, h5.2⟩
  · have : a ≠ D := fun e => hg (by rw [← e]; exact h)
    show upd F.F D o a = none
    rw [upd_ne this]; exact r.ff a h
theorem Rel.unbar {D : Addr} {o o' : HO} (hF : F.F D = none) (r : Rel G (F.bar D o) Z s σ H) : H D = some o ∧ Z D = none ∧ ¬ G.foot s.g D ∧ Nob s σ D ∧ Rel G F Z s σ (upd H D o') := by
  have e1 : H D = some o := r.f D o upd_same
  have e2 : Z D = none := r.zb D (.inr rfl)
  have e3 : ¬ G.foot s.g D := fun h => by
    have z : upd F.F D o D = none := r.ff D h
    rw [upd_same] at z; cases z
  have e4 : Nob s σ D := fun i l h ol e => by
    obtain ⟨a, vs, h1, h2, h3, h4, h5, _⟩ := r.ownL i l h ol
    rw [h1] at e
    cases e
    have z : upd F.F D o D = none := h5
    rw [upd_same] at z; cases z
  refine ⟨e1, e2, e3, e4, fun a u e => ?_, fun a u e => ?_, fun a h => r.zb a (.inl h), r.len, r.loc, fun i l h ol => ?_, r.injL, G.stay _ _ _ r.j fun a h => ?_, r.zf, fun a h => ?_, r.fl⟩
  · rw [upd_ne (ne_of_none e e2)]; exact r.z a u e
  · have n : a ≠ D := ne_of_none e hF
    rw [upd_ne n]; exact r.f a u (by show upd F.F D o a = some u; rw [upd_ne n]; exact e)
  · obtain ⟨a, vs, h1, h2, h3, h4, h5⟩ := r.ownL i l h ol
    have n : a ≠ D := fun e => e4 i l h ol (by rw [← e]; exact h1)
    refine ⟨a, vs, h1, by rw [upd_ne n]; exact h2, h3, h4, ?_, h5.2⟩
    have z : upd F.F D o a = none := h5.1
    rw [upd_ne n] at z; exact z
  · exact upd_ne fun e => e3 (by rw [← e]; exact h)
  · have n : a ≠ D := fun e => e3 (by rw [← e]; exact h)
    have z : upd F.F D o a = none := r.ff a h
    rw [upd_ne n] at z; exact z
end

theorem llc {K : PySem.W.Frag} {G : GP γ} {ti : PAx γ} {tg : Tg} {vs : List Nat} {tt : PTx γ} {te : PEx γ} (hj : ∀ j ∈ tg.js, j ∈ vs) {σ : St} {H : Hp} {Q : VK} (h : lF G (qLc ti tg vs tt te) σ H Q) :
    tLc (lI G ti) (lG G tg.js (qPut tg)) (lT G tt) (lE G te) vs σ H Q := by
  obtain ⟨F, Z, s, R, r, t, q⟩ := h
  refine ⟨F, Z, s, _, r, t, fun ds s1 Z1 H1 J w1 k1 r1 wJ D hD => ?_⟩
  obtain ⟨I, ⟨s0, wk0, i0⟩, turn, done⟩ := w1
  have FD : F.F D = none := r1.f.free hD
  refine ⟨fun i m H => m = ds.length - i ∧ i ≤ ds.length ∧ ∃ Z' s' acc av, Same Z1 Z' ∧ Rel G (F.bar D (.lst av)) Z' s' (wipe σ vs) H ∧ Ats G.K Z' acc av ∧ I i acc s', ⟨ds.length, rfl, Nat.zero_le _, ?_⟩, ?_⟩
  · obtain ⟨f1, f2, f3, f4⟩ := r1.fresh hD
    have r2 := (r1.grow (same_upd (o := HO.lst []) hD)).bar upd_same f1 f3 f4
    exact ⟨Z1, s0, [], [], Same.refl _, (r2.wiped vs).weak wk0, rfl, i0⟩
  · rintro i m H2 ⟨hm, hi, Z2, s2, acc, av, k2, r2, a2, i2⟩
    obtain ⟨go, stop⟩ := wJ i Z2 H2 k2 r2.z
    by_cases hlt : i < ds.length
    · obtain ⟨g1, y1⟩ := go ds[i] (List.getElem?_eq_getElem hlt)
      refine .inr ⟨g1, fun H' => ∃ Z' s' acc av, Same Z1 Z' ∧ Rel G (F.bar D (.lst av)) Z' s' (wipe σ vs) H' ∧ Ats G.K Z' acc av ∧ I (i + 1) acc s', fun H' h => ⟨ds.length - (i + 1), by omega, rfl, hlt, h⟩, fun x H3 y => ?_⟩
      obtain ⟨Z3, x3, a3⟩ := y1 x H3 y
      have r3 := r2.ext x3
      have k3 := k2.trans x3.zz
      refine ⟨F.bar D (.lst av), Z3, s2, ds[i], _, r3, a3, turn i ds[i] acc s2 (List.getElem?_eq_getElem hlt) i2, fun s4 Z4 σ4 H4 w4 k4 r4 e4 o4 l4 => ?_⟩
      have we : wipe σ4 vs = wipe σ vs := by
        refine List.ext_getElem? fun j => ?_
        by_cases hjv : j ∈ vs
        · have n1 : ∀ (τ : St), τ.length = σ.length → (wipe τ vs)[j]? = if j < σ.length then some none else none := fun τ hl => by
            by_cases hlt : j < σ.length
            · rw [if_pos hlt]
              have hlt' : j < (wipe τ vs).length := by rw [wipe_length, hl]; exact hlt
              rw [List.getElem?_eq_getElem hlt']
              congr 1
              cases e : (wipe τ vs)[j] with
              | none => rfl
              | some v => exact absurd hjv (wipe_some (show (wipe τ vs)[j]? = some (some v) by rw [List.getElem?_eq_getElem hlt', e])).2
            · rw [if_neg hlt, List.getElem?_eq_none (by rw [wipe_length, hl]; omega)]
          rw [n1 σ4 (by rw [l4, wipe_length]), n1 σ rfl]
        · rw [wipe_out hjv, o4 j (fun h => hjv (hj j h))]
      refine ⟨we, F.bar D (.lst av), Z4, s4, _, r4, w4, fun b s5 Z5 H5 w5 k5 r5 => ?_⟩
      cases b with
      | true =>
        refine iteT ⟨F.bar D (.lst av), Z5, s5, _, r5, w5.1 rfl, fun y s6 Z6 v H6 w6 k6 r6 a6 => ?_⟩
        obtain ⟨w6, s7, wk7, i7⟩ := w6
        obtain ⟨e1, e2, e3, e4', r7⟩ := r6.unbar (o' := .lst (av ++ [v])) FD
        have kk := ((x3.zz.trans k4).trans k5).trans k6
        refine ⟨av, e1, by rw [a2.len]; exact w6, Z6, s7, acc ++ [y], av ++ [v], k2.trans kk, ?_, (Ats.mono kk _ _ a2).append ⟨v, [], rfl, a6, rfl⟩, i7⟩
        have r8 := r7.bar (o := .lst (av ++ [v])) upd_same e2 e3 e4'
        have r9 := r8.wiped vs
        rw [we] at r9
        exact r9.weak wk7
      | false =>
        refine iteF ?_
        obtain ⟨s7, wk7, i7⟩ := w5.2 rfl
        have kk := (x3.zz.trans k4).trans k5
        have r9 := r5.wiped vs
        rw [we] at r9
        exact ⟨Z5, s7, acc, av, k2.trans kk, r9.weak wk7, Ats.mono kk _ _ a2, i7⟩
    · have e : i = ds.length := by omega
      subst e
      obtain ⟨e1, e2, e3, e4, r7⟩ := r2.unbar (o' := .lst av) FD
      have hu : upd H2 D (.lst av) = H2 := by
        funext b
        by_cases hb : b = D
        · subst hb; rw [upd_same, e1]
        · rw [upd_ne hb]
      rw [hu] at r7
      refine .inl ⟨stop rfl, q acc _ Z2 D av H2 (done acc s2 i2) (k1.trans k2) (r1.backed r7 k2) e1 a2 e2 FD (by exact e3) fun j l h ol => ?_⟩
      -- no list of one's own is the new one
      intro e
      have r8 := r1.backed r7 k2
      obtain ⟨a, ws, h1, h2, h3, h4, h5, h6⟩ := r8.ownL j l h ol
      rw [h1] at e
      cases e
      simp only [S.back, List.getElem?_mapIdx] at h
      cases q' : s2.ρ[j]? with
      | none => rw [q'] at h; cases h
      | some o =>
        rw [q'] at h
        simp only [Option.map_some, Option.some.injEq] at h
        by_cases hjv : j ∈ vs
        · rw [if_pos hjv] at h
          unfold keepVal at h
          split at h
          · cases h; cases ol
          · cases h
        · rw [if_neg hjv] at h
          subst h
          exact e4 j l q' ol (by rw [wipe_out hjv]; exact h1)

section
variable {X : Cx} {G : GP γ} {elt tg iter : Expr} {ifs : List Expr} {scope : Scope} {own : List (Str × Nat)} {pos : Pos} {ti : PAx γ} {t : Tg} {tt : PTx γ} {te : PEx γ}
theorem qf_lc (hc : X.calm = true) (hN : X.N.Nodup) (hi : QI X G tg iter ti) (ok : BlkOk X.N X.env.scope scope own) (hj : ∀ j ∈ t.js, j ∈ own.map (·.2))
    (hg : ∀ (s : Shared) (H : Hp) (C : Addr) (cl : List (Str × Addr)) (fp : List Addr), QG' (X.blk s H scope (compEnvC scope cl C X.env) fp) G tg t)
    (ht : ∀ (s : Shared) (H : Hp) (C : Addr) (cl : List (Str × Addr)) (fp : List Addr), QTs (X.blk s H scope (compEnvC scope cl C X.env) fp) G ifs tt)
    (he : ∀ (s : Shared) (H : Hp) (C : Addr) (cl : List (Str × Addr)) (fp : List Addr), QE (X.blk s H scope (compEnvC scope cl C X.env) fp) G elt te) (hs : ∀ x, foldedSetIterable iter X.env x = pure x := by intro _; rfl) :
    QF X G (.ListComp elt [⟨tg, iter, ifs, 0⟩] scope pos) (qLc ti t (own.map (·.2)) tt te) :=
  PE.imp (pe_lc hc hN hi ok hg ht he hs) fun _ _ _ h => llc (K := X.K) hj h
theorem qs_lc {i : Nat} {y : Str} {py spos : Pos} (hc : X.calm = true) (hN : X.N.Nodup) (hy : X.N[i]? = some y) (hyl : X.env.scope.names.lookup y = some .local)
    (hsw : swapsWith (.ListComp elt [⟨tg, iter, ifs, 0⟩] scope pos) (some (.Name y py)) spos.line X.env = pure true) (hi : QI X G tg iter ti) (ok : BlkOk X.N X.env.scope scope own) (hj : ∀ j ∈ t.js, j ∈ own.map (·.2))
    (hg : ∀ (s : Shared) (H : Hp) (C : Addr) (cl : List (Str × Addr)) (fp : List Addr), QG' (X.blk s H scope (compEnvC scope cl C X.env) fp) G tg t)
    (ht : ∀ (s : Shared) (H : Hp) (C : Addr) (cl : List (Str × Addr)) (fp : List Addr), QTs (X.blk s H scope (compEnvC scope cl C X.env) fp) G ifs tt)
    (he : ∀ (s : Shared) (H : Hp) (C : Addr) (cl : List (Str × Addr)) (fp : List Addr), QE (X.blk s H scope (compEnvC scope cl C X.env) fp) G elt te) (hs : ∀ x, foldedSetIterable iter X.env x = pure x := by intro _; rfl) :
    QS X G (.Assign [.Name y py] (.ListComp elt [⟨tg, iter, ifs, 0⟩] scope pos) spos) (qAsg (qSet (qLc ti t (own.map (·.2)) tt te)) i) := by
  refine PS.imp (ps_setLc hc hN hy hyl hsw hi ok hg ht he hs) fun De σ H ⟨F, Z, s, E, r, w, n, _⟩ => ?_
  show tLc _ _ _ _ _ σ H _
  refine llc (K := X.K) hj ⟨F, Z, s, _, r, w, fun ds s1 Z1 a vs H1 t1 k1 r1 ha a1 hz hf hg ho => ?_⟩
  have k := same_upd (o := HO.lst vs) hz
  exact n _ (upd Z1 a (.lst vs)) _ H1 t1 (k1.trans k) ((r1.settle ha hz hg (Fra.nb hf) ho).put ⟨a, vs, rfl, upd_same, Ats.mono k _ _ a1⟩)
end

def startL (n : Nat) (ds : List D) : List (Option L) := ds.map (fun d => some (.val d)) ++ List.replicate (n - ds.length) none
theorem start_at {K : PySem.W.Frag} {Z : Hp} {N : List Str} {ds : List D} {vs : List V} (h : Ats K Z ds vs) {i : Nat} {l : L} (e : (startL N.length ds)[i]? = some (some l)) : ∃ d, l = .val d ∧ ∃ v, (L2.start N vs)[i]? = some (some v) ∧ At K Z d v := by
  unfold startL at e
  by_cases hi : i < ds.length
  · rw [List.getElem?_append_left (by simpa using hi), List.getElem?_map] at e
    cases q : ds[i]? with
    | none => rw [q] at e; cases e
    | some d =>
      rw [q] at e
      simp only [Option.map_some, Option.some.injEq] at e
      obtain ⟨v, h1, h2⟩ := h.get q
      refine ⟨d, e.symm, v, ?_, h2⟩
      unfold L2.start
      rw [List.getElem?_append_left (by rw [List.length_map, h.len]; exact hi), List.getElem?_map, h1]; rfl
  · rw [List.getElem?_append_right (by simpa using hi), List.getElem?_replicate] at e
    split at e <;> cases e
section
variable {P : Program} {w : World} {K : PySem.W.Frag} {mg : Str → Option Value} {base : Heap}
abbrev Fn (K : PySem.W.Frag) (x qual : Str) (st : Stmt) (f : Addr) (fd : FuncData) : Prop := FunD K x qual (defArgs st) (defBody st) (defScope st) [] [] f fd
theorem Fn.ok {x qual : Str} {st : Stmt} {f : Addr} {fd : FuncData} {N ps : List Str} {k : Nat} {sp : Sp} (F : Fn K x qual st f fd) (S : FnScope N ps (defScope st)) (len : ∀ vs H Q E, sp vs H Q E → vs.length = ps.length)
    (hbody : ∀ (cdv : Value) (A : Around) (outer : List Env) (s : Shared) (H : Hp) (vs : List V) (Q : VK) (E : XK), Room k (A.deeper (envOfC qual (defScope st) s.heap.objs.size f cdv)) → sp vs H Q E →
      ∃ t, PSs (cxOf CX0 P w K mg base N qual (defScope st) f cdv A outer s H E).nox (defBody st) t ∧ t { nx := fun _ H' => Q .non H', rt := Q } (L2.start N vs) H) : FnOk P w K mg base CX0 (k + 1) f fd ps sp :=
  FunD.ok F S len fun cdv A outer s H vs Q E hr h => by
    obtain ⟨t, h1, h2⟩ := hbody cdv A outer s H vs Q E hr h
    exact ⟨t, PSs.nox h1, h2⟩
theorem okP {x qual : Str} {st : Stmt} {f : Addr} {fd : FuncData} {N ps : List Str} {k : Nat} (F : Fn K x qual st f fd) (S : FnScope N ps (defScope st)) {fs : Spec0} (len : ∀ ds R, fs ds R → ds.length = ps.length)
    (body : ∃ t : PSx Unit, (∀ (cdv : Value) (A : Around) (outer : List Env) (s : Shared) (H : Hp) (E : XK), Room k (A.deeper (envOfC qual (defScope st) s.heap.objs.size f cdv)) →
      QSs (cxOf CX0 P w K mg base N qual (defScope st) f cdv A outer s H E).nox (none0 K) (defBody st) t) ∧ ∀ ds R, fs ds R → t { nx := fun _ => R .non, rt := fun d _ => R d } ⟨startL N.length ds, ()⟩) : FnOk P w K mg base CX0 (k + 1) f fd ps (spP K fs) := by
  refine F.ok S (fun vs H Q E h => ?_) (fun cdv A outer s H vs Q E hr h => ?_)
  · obtain ⟨Z, ds, R, _, a, h, _⟩ := h
    rw [a.len]; exact len _ _ h
  · obtain ⟨t, hb, hp⟩ := body
    refine ⟨_, hb cdv A outer s H E hr, ?_⟩
    obtain ⟨Z, ds, R, k, a, h, q⟩ := h
    have hl : ps.length ≤ N.length := by have := congrArg List.length S.pre; rw [List.length_take] at this; omega
    have hd := len _ _ h
    refine ⟨⟨H, fun b => H b ≠ none ∧ Z b = none, fun b hb => Option.ne_none_iff_exists'.mp hb.1⟩, Z, _, _, ?_, hp ds R h, ?_, ?_, ?_, ?_⟩
    · refine ⟨k, Same.refl _, fun b hb => hb.2, ?_, fun i d e => ?_, fun i l e ol => ?_, fun i j l m b n e1 o1 e2 => ?_, trivial, fun b z => False.elim z, fun b z => False.elim z, fun _ _ z => by cases z⟩
      · unfold L2.start startL
        simp only [List.length_append, List.length_map, List.length_replicate, a.len]
      · obtain ⟨d', e', v, h1, h2⟩ := start_at a e
        cases e'
        exact ⟨v, h1, h2⟩
      · obtain ⟨d', e', _⟩ := start_at a e
        subst e'; cases ol
      · obtain ⟨d', e', _⟩ := start_at a e1
        subst e'; cases o1
    · intro s' Z' σ' H' q' k' r'
      exact q .non Z' .non H' q' k' r'.z r'.f (fun b o e n => by
        cases hb : H b with
        | none => rfl
        | some u => have := r'.zb b ⟨by rw [hb]; simp, n⟩; rw [e] at this; cases this) rfl
    · intro d s' Z' σ' v H' q' k' r' a'
      exact q d Z' v H' q' k' r'.z r'.f (fun b o e n => by
        cases hb : H b with
        | none => rfl
        | some u => have := r'.zb b ⟨by rw [hb]; simp, n⟩; rw [e] at this; cases this) a'
    · intro s' Z' σ' H' q'; exact q'.elim
    · intro s' Z' σ' H' q'; exact q'.elim
theorem liftG {G : GP γ} {N ps : List Str} {fs : Spec γ} {t : PSx γ} (hl : ps.length ≤ N.length) (len : ∀ ds g R, fs ds g R → ds.length = ps.length) (hp : ∀ ds g R, fs ds g R → t { nx := fun s => R .non s.g, rt := R } ⟨startL N.length ds, g⟩)
    (grow : ∀ g g' : γ, ∀ a, G.foot g' a → G.foot g a) (hfl : ∀ a, G.fl a = none) {vs : List V} {H : Hp} {Q : VK} {E : XK} (h : spG G fs vs H Q E) : lS G t { nx := fun _ H' => Q .non H', rt := Q } (L2.start N vs) H := by
  obtain ⟨Z, ds, g, R, k, a, hj, hzf, h, q⟩ := h
  have hd := len _ _ _ h
  classical
  have hF : ∀ (b : Addr) (o : HO), (if G.foot g b then none else H b) = some o → H b = some o ∧ ¬ G.foot g b := fun b o e => by
    by_cases hb : G.foot g b
    · rw [if_pos hb] at e; cases e
    · rw [if_neg hb] at e; exact ⟨e, hb⟩
  refine ⟨⟨fun b => if G.foot g b then none else H b, fun b => H b ≠ none ∧ Z b = none ∧ ¬ G.foot g b, fun b hb => ?_⟩, Z, _, _, ?_, hp ds g R h, ?_, ?_, ?_, ?_⟩
  · simp only [if_neg hb.2.2]; exact Option.ne_none_iff_exists'.mp hb.1
  · refine ⟨k, fun b o e => (hF b o e).1, fun b hb => hb.2.1, ?_, fun i d e => ?_, fun i l e ol => ?_, fun i j l m b n e1 o1 e2 => ?_, hj, hzf, fun b z => if_pos z, fun b _ z => by rw [hfl b] at z; cases z⟩
    · unfold L2.start startL
      simp only [List.length_append, List.length_map, List.length_replicate, a.len]
    · obtain ⟨d', e', v, h1, h2⟩ := start_at a e
      cases e'
      exact ⟨v, h1, h2⟩
    · obtain ⟨d', e', _⟩ := start_at a e
      subst e'; cases ol
    · obtain ⟨d', e', _⟩ := start_at a e1
      subst e'; cases o1
  all_goals
    have fin : ∀ (d : D) (s' : Pm.S γ) (Z' : Hp) (σ' : St) (v : V) (H' : Hp), R d s'.g → Same Z Z' → Rel G ⟨fun b => if G.foot g b then none else H b, fun b => H b ≠ none ∧ Z b = none ∧ ¬ G.foot g b, fun b hb => by simp only [if_neg hb.2.2]; exact Option.ne_none_iff_exists'.mp hb.1⟩ Z' s' σ' H' → At G.K Z' d v → Q v H' :=
      fun d s' Z' σ' v H' q' k' r' a' => q d s'.g Z' v H' q' k' r'.z (fun b o e n => r'.f b o (by simp only [if_neg n]; exact e)) (fun b o e n => by
        cases hb : H b with
        | none => rfl
        | some u =>
          by_cases hf : G.foot g b
          · have := r'.zf b (by first | exact grow _ _ _ hf | exact hf); rw [e] at this; cases this
          · have := r'.zb b ⟨by rw [hb]; simp, n, hf⟩; rw [e] at this; cases this) r'.j (fun b hb => ⟨r'.zf b hb, .inl (grow _ _ b hb)⟩) a'
  · intro s' Z' σ' H' q' k' r'
    exact fin .non s' Z' σ' .non H' q' k' r' rfl
  · exact fin
  · intro s' Z' σ' H' q'; exact q'.elim
  · intro s' Z' σ' H' q'; exact q'.elim
theorem okG {G : GP γ} (hK : G.K = K) {x qual : Str} {st : Stmt} {f : Addr} {fd : FuncData} {N ps : List Str} {k : Nat} (F : Fn K x qual st f fd) (S : FnScope N ps (defScope st)) {fs : Spec γ} (len : ∀ ds g R, fs ds g R → ds.length = ps.length)
    (body : ∃ t : PSx γ, (∀ (cdv : Value) (A : Around) (outer : List Env) (s : Shared) (H : Hp) (E : XK), Room k (A.deeper (envOfC qual (defScope st) s.heap.objs.size f cdv)) →
      QSs (cxOf CX0 P w K mg base N qual (defScope st) f cdv A outer s H E).nox G (defBody st) t) ∧ ∀ ds g R, fs ds g R → t { nx := fun s => R .non s.g, rt := R } ⟨startL N.length ds, g⟩)
    (grow : ∀ g g' : γ, ∀ a, G.foot g' a → G.foot g a) (hfl : ∀ a, G.fl a = none := by intro _; rfl) : FnOk P w K mg base CX0 (k + 1) f fd ps (spG G fs) := by
  subst hK
  refine F.ok S (fun vs H Q E h => ?_) (fun cdv A outer s H vs Q E hr h => ?_)
  · obtain ⟨Z, ds, g, R, _, a, _, _, h, _⟩ := h
    rw [a.len]; exact len _ _ _ h
  · obtain ⟨t, hb, hp⟩ := body
    exact ⟨_, hb cdv A outer s H E hr, liftG (ps := ps) (by have := congrArg List.length S.pre; rw [List.length_take] at this; omega) len hp grow hfl h⟩
end
end Pm
set_option Elab.async false
set_option linter.all false
set_option maxRecDepth 100000
set_option maxHeartbeats 1000000
set_option autoImplicit false
namespace Pm
open PySem PySem.Spec
open PyProof.Rows hiding St
open L2
variable {γ : Type}

def keyPy : Key → PyData
  | .inl i => .int i
  | .inr x => .str x
mutual
def D.py : D → PyData
  | .non => .none
  | .bl b => .bool b
  | .int i => .int i
  | .str x => .str x
  | .lst xs => .list (D.pys xs)
  | .tup xs => .tuple (D.pys xs)
  | .dct ks xs => .dict ((ks.map keyPy).zip (D.pys xs))
  | .obj _ => .none
def D.pys : List D → List PyData
  | [] => []
  | d :: ds => d.py :: D.pys ds
end
mutual
def D.pln : D → Bool
  | .non => true
  | .bl _ => true
  | .int _ => true
  | .str x => PyData.strOk x
  | .lst xs => D.plns xs
  | .tup xs => D.plns xs
  | .dct _ _ => false
  | .obj _ => false
def D.plns : List D → Bool
  | [] => true
  | d :: ds => d.pln && D.plns ds
end
mutual
def D.dep : D → Nat
  | .lst xs => D.deps xs + 1
  | .tup xs => D.deps xs + 1
  | .dct _ xs => D.deps xs + 1
  | _ => 0
def D.deps : List D → Nat
  | [] => 0
  | d :: ds => max d.dep (D.deps ds)
end
mutual
def D.eqv : D → D → Bool
  | .non, .non => true
  | .bl a, .bl b => a == b
  | .bl a, .int j => (if a then 1 else 0) == j
  | .int i, .bl b => i == (if b then 1 else 0)
  | .int i, .int j => i == j
  | .str x, .str y => x == y
  | .lst xs, .lst ys => D.eqvs xs ys
  | .tup xs, .tup ys => D.eqvs xs ys
  | _, _ => false
def D.eqvs : List D → List D → Bool
  | [], [] => true
  | x :: xs, y :: ys => D.eqv x y && D.eqvs xs ys
  | _, _ => false
end
mutual
theorem eqv_py : ∀ (d e : D), d.pln = true → e.pln = true → PyData.eqv d.py e.py = D.eqv d e
  | .lst xs, e, h, h' => by
    cases e <;> simp_all only [D.pln, D.py, D.eqv, PyData.eqv, Bool.false_eq_true]
    exact eqvs_py xs _ h h'
  | .tup xs, e, h, h' => by
    cases e <;> simp_all only [D.pln, D.py, D.eqv, PyData.eqv, Bool.false_eq_true]
    exact eqvs_py xs _ h h'
  | .non, e, h, h' => by cases e <;> simp_all [D.pln, D.py, D.eqv, PyData.eqv]
  | .bl a, e, h, h' => by cases e <;> simp_all [D.pln, D.py, D.eqv, PyData.eqv]
  | .int a, e, h, h' => by cases e <;> simp_all [D.pln, D.py, D.eqv, PyData.eqv]
  | .str a, e, h, h' => by cases e <;> simp_all [D.pln, D.py, D.eqv, PyData.eqv]
  | .dct _ _, e, h, h' => by simp [D.pln] at h
  | .obj _, e, h, h' => by simp [D.pln] at h
theorem eqvs_py : ∀ (xs ys : List D), D.plns xs = true → D.plns ys = true → PyData.eqvAll (D.pys xs) (D.pys ys) = D.eqvs xs ys
  | [], [], _, _ => by simp [D.pys, D.eqvs, PyData.eqvAll]
  | [], _ :: _, _, _ => by simp [D.pys, D.eqvs, PyData.eqvAll]
  | _ :: _, [], _, _ => by simp [D.pys, D.eqvs, PyData.eqvAll]
  | x :: xs, y :: ys, h, h' => by
    simp only [D.plns, Bool.and_eq_true] at h h'
    simp only [D.pys, D.eqvs, PyData.eqvAll]
    rw [eqv_py x y h.1 h'.1, eqvs_py xs ys h.2 h'.2]
end
mutual
theorem canLay_py : ∀ (d : D), d.pln = true → d.py.canLay0 = true
  | .lst xs, h => by simp only [D.pln] at h; simp only [D.py, PyData.canLay0]; exact canLays_py xs h
  | .tup xs, h => by simp only [D.pln] at h; simp only [D.py, PyData.canLay0]; exact canLays_py xs h
  | .non, h => rfl
  | .bl _, h => rfl
  | .int _, h => rfl
  | .str _, h => by simp only [D.pln] at h; simp only [D.py, PyData.canLay0]; exact h
  | .dct _ _, h => by simp [D.pln] at h
  | .obj _, h => by simp [D.pln] at h
theorem canLays_py : ∀ (ds : List D), D.plns ds = true → PyData.canLayAll0 (D.pys ds) = true
  | [], _ => rfl
  | d :: ds, h => by
    simp only [D.plns, Bool.and_eq_true] at h
    simp only [D.pys, PyData.canLayAll0, Bool.and_eq_true]
    exact ⟨canLay_py d h.1, canLays_py ds h.2⟩
end
mutual
theorem dep_py : ∀ (d : D), d.pln = true → d.py.depth = d.dep
  | .lst xs, h => by simp only [D.pln] at h; simp only [D.py, PyData.depth, D.dep, deps_py xs h]
  | .tup xs, h => by simp only [D.pln] at h; simp only [D.py, PyData.depth, D.dep, deps_py xs h]
  | .non, h => by simp [D.py, PyData.depth, D.dep]
  | .bl _, h => by simp [D.py, PyData.depth, D.dep]
  | .int _, h => by simp [D.py, PyData.depth, D.dep]
  | .str _, h => by simp [D.py, PyData.depth, D.dep]
  | .dct _ _, h => by simp [D.pln] at h
  | .obj _, h => by simp [D.pln] at h
theorem deps_py : ∀ (ds : List D), D.plns ds = true → PyData.depthAll (D.pys ds) = D.deps ds
  | [], _ => by simp [D.pys, PyData.depthAll, D.deps]
  | d :: ds, h => by
    simp only [D.plns, Bool.and_eq_true] at h
    simp only [D.pys, PyData.depthAll, D.deps, dep_py d h.1, deps_py ds h.2]
end
section
variable {K : PySem.W.Frag} {Z H : Hp}
mutual
theorem At.dp (k : Same Z H) : ∀ (d : D) (v : V), At K Z d v → d.pln = true → Dp K H v d.py
  | .lst xs, v, h, p => by
    simp only [At] at h; simp only [D.pln] at p; simp only [D.py]
    obtain ⟨a, vs, rfl, h2, h3⟩ := h
    exact .lst (.inl (.inl (k _ _ h2))) (Ats.dp k xs vs h3 p)
  | .tup xs, v, h, p => by
    simp only [At] at h; simp only [D.pln] at p; simp only [D.py]
    obtain ⟨a, vs, rfl, h2, h3⟩ := h
    exact .tup (seqT k h2) (Ats.dp k xs vs h3 p)
  | .non, v, h, p => by simp only [At] at h; subst h; exact .non
  | .bl b, v, h, p => by simp only [At] at h; subst h; exact .bl b
  | .int i, v, h, p => by simp only [At] at h; subst h; exact .int i
  | .str x, v, h, p => by simp only [At] at h; subst h; exact .str x
  | .dct _ _, _, h, p => by simp [D.pln] at p
  | .obj _, _, h, p => by simp [D.pln] at p
theorem Ats.dp (k : Same Z H) : ∀ (ds : List D) (vs : List V), Ats K Z ds vs → D.plns ds = true → DpAll K H vs (D.pys ds)
  | [], vs, h, p => by simp only [Ats] at h; subst h; exact .nil
  | d :: ds, vs, h, p => by
    simp only [Ats] at h; simp only [D.plns, Bool.and_eq_true] at p; simp only [D.pys]
    obtain ⟨w, ws, rfl, h2, h3⟩ := h
    exact .cons (At.dp k d w h2 p.1) (Ats.dp k ds ws h3 p.2)
end
end

theorem dk {K : PySem.W.Frag} {Z H : Hp} {R : DK} {Q : VK} (q : ∀ z Z' v H', R z → Ext Z H Z' H' → At K Z' z v → Q v H') (k : Same Z H) {d : D} {v : V} (h : R d) (a : At K Z d v) : Q v H := q d Z v H h (Ext.refl k) a

section
variable {X : Cx}
def MulOk (i j : Int) : Prop := CMul i j ∨ CMulW i j
theorem MulOk.ok {i j : Int} (h : MulOk i j) : IntMulOk i j := by
  rcases h with h | h
  · exact h.ok
  · exact h.ok
theorem op_mulM : OpR X (binaryOp .Mult) (rI MulOk fun i j => .int (i * j)) := opI fun _ _ _ _ _ _ _ hc q => mul_int q hc.ok
def DivOk (i j : Int) : Prop := j ≠ 0 ∧ j.natAbs.log2 < 9000
theorem op_fdivM : OpR X (binaryOp .FloorDiv) (rI DivOk fun i j => .int (i.fdiv j)) := opI fun i j _ _ _ _ _ hc q => floordiv_int hc.1 q (.inl (PyProof.noPylong_of_log2 hc.2))
def rCatT' (K : PySem.W.Frag) : R2 := fun x y H Q => ∃ a b xs ys, x = .ref a ∧ y = .ref b ∧ SqT K H a xs ∧ SqT K H b ys ∧ xs.length + ys.length ≤ sizeLine ∧
  (ys = [] → Q (.ref a) H) ∧ (xs = [] → Q (.ref b) H) ∧ (∀ p, H p = none → Q (.ref p) (upd H p (.tup (xs ++ ys))))
theorem op_catT' : OpR X (binaryOp .Add) (rCatT' X.K) := by
  intro pins s σ H x y v u Q I rx ry h
  obtain ⟨a, b, xs, ys, rfl, rfl, ha, hb, hz, q1, q3, q2⟩ := h
  by_cases hx : xs = []
  · cases rx
    cases ry
    obtain ⟨its, r1, p1, _⟩ := I.tuple ha
    obtain ⟨its2, r2, p2, _⟩ := I.tuple hb
    subst hx
    cases r1
    obtain ⟨⟨cls, dd, data, sl⟩, ho, hc, n, hd⟩ := id p1
    obtain ⟨⟨cls2, dd2, data2, sl2⟩, ho2, hc2, n2, hd2⟩ := id p2
    simp only at hc hd hc2 hd2
    subst hc hd hc2 hd2
    exact concat_meets ⟨_, ho, rfl⟩ ⟨_, ho2, rfl⟩ noFill_tuple_add seq_tuple_add PySem.F.slot_tuple_add PySem.F.entry_tuple_add (PySem.F.args_tuple_add_2 _ _)
      (tuple_addW0 a b [].toArray its2.toArray n n2 dd dd2 sl sl2 rfl) ⟨ho, ho2, ⟨.ref b, H, I, rfl, q3 rfl⟩⟩
  · exact op_catT pins s σ H _ _ v u Q I rx ry ⟨a, b, xs, ys, rfl, rfl, ha, hb, hx, hz, q1, fun _ => q2⟩

def addD : D → D → DK → Prop
  | .int i, .int j, R => R (.int (i + j))
  | .str x, .str y, R => x.length + y.length ≤ sizeLine ∧ R (.str (x ++ y))
  | .tup xs, .tup ys, R => xs.length + ys.length ≤ sizeLine ∧ R (.tup (xs ++ ys))
  | .lst xs, .lst ys, R => xs.length + ys.length ≤ sizeLine ∧ R (.lst (xs ++ ys))
  | _, _, _ => False
theorem o_add : OpR X (binaryOp .Add) (dOp2 X.K addD) := by
  intro pins s σ H x y v u Q I rx ry ⟨Z, d, e, R, k, ad, ae, h, q⟩
  cases d <;> cases e <;> try exact h.elim
  · simp only [At] at ad ae
    subst ad; subst ae
    exact op_add pins s σ H _ _ v u Q I rx ry ⟨_, _, rfl, rfl, dk q k h rfl⟩
  · simp only [At] at ad ae
    subst ad; subst ae
    exact op_add_str pins s σ H _ _ v u Q I rx ry ⟨_, _, rfl, rfl, h.1, dk q k h.2 rfl⟩
  · simp only [At] at ad ae
    obtain ⟨a, vs, rfl, a2, a3⟩ := ad
    obtain ⟨b, ws, rfl, b2, b3⟩ := ae
    refine op_cat pins s σ H _ _ v u Q I rx ry ⟨a, b, vs, ws, rfl, rfl, k _ _ a2, k _ _ b2, by rw [a3.len, b3.len]; exact h.1, fun p hp => ?_⟩
    have x := Ext.new (o := HO.lst (vs ++ ws)) k hp
    exact q _ _ _ _ h.2 x ⟨p, _, rfl, upd_same, (Ats.mono x.zz _ _ a3).append (Ats.mono x.zz _ _ b3)⟩
  · simp only [At] at ad ae
    obtain ⟨a, vs, rfl, a2, a3⟩ := ad
    obtain ⟨b, ws, rfl, b2, b3⟩ := ae
    refine op_catT' pins s σ H _ _ v u Q I rx ry ⟨a, b, vs, ws, rfl, rfl, seqT k a2, seqT k b2, by rw [a3.len, b3.len]; exact h.1, fun e => ?_, fun e => ?_, fun p hp => ?_⟩
    · subst e
      have := b3.len
      rename_i ys
      cases ys with
      | nil => exact dk (d := .tup _) q k (by simpa using h.2) (show At X.K Z (.tup _) _ from ⟨a, vs, rfl, a2, a3⟩)
      | cons => simp at this
    · subst e
      have := a3.len
      rename_i xs ys
      cases xs with
      | nil => exact dk (d := .tup _) q k (by simpa using h.2) (show At X.K Z (.tup _) _ from ⟨b, ws, rfl, b2, b3⟩)
      | cons => simp at this
    · have x := Ext.new (o := HO.tup (vs ++ ws)) k hp
      exact q _ _ _ _ h.2 x ⟨p, _, rfl, .inl (.inl upd_same), (Ats.mono x.zz _ _ a3).append (Ats.mono x.zz _ _ b3)⟩
def intD2 (C : Int → Int → Prop) (f : Int → Int → D) : D → D → DK → Prop
  | .int i, .int j, R => C i j ∧ R (f i j)
  | _, _, _ => False
theorem o_int {f : Value → Value → Sem Value} {C : Int → Int → Prop} {g : Int → Int → V} {g' : Int → Int → D} (ho : OpR X f (rI C g)) (hg : ∀ i j Z, At X.K Z (g' i j) (g i j)) : OpR X f (dOp2 X.K (intD2 C g')) := by
  intro pins s σ H x y v u Q I rx ry ⟨Z, d, e, R, k, ad, ae, h, q⟩
  cases d <;> cases e <;> try exact h.elim
  simp only [At] at ad ae
  subst ad; subst ae
  exact ho pins s σ H _ _ v u Q I rx ry ⟨_, _, rfl, rfl, h.1, dk q k h.2 (hg _ _ _)⟩
def intD0 (f : Int → Int → D) : D → D → DK → Prop
  | .int i, .int j, R => R (f i j)
  | _, _, _ => False
theorem o_int0 {f : Value → Value → Sem Value} {g : Int → Int → V} {g' : Int → Int → D} (ho : OpR X f (rI0 g)) (hg : ∀ i j Z, At X.K Z (g' i j) (g i j)) : OpR X f (dOp2 X.K (intD0 g')) := by
  intro pins s σ H x y v u Q I rx ry ⟨Z, d, e, R, k, ad, ae, h, q⟩
  cases d <;> cases e <;> try exact h.elim
  simp only [At] at ad ae
  subst ad; subst ae
  exact ho pins s σ H _ _ v u Q I rx ry ⟨_, _, rfl, rfl, dk q k h (hg _ _ _)⟩
abbrev subD := intD0 fun i j => .int (i - j)
theorem o_sub : OpR X (binaryOp .Sub) (dOp2 X.K subD) := o_int0 op_sub fun _ _ _ => rfl
abbrev fdivD := intD2 DivOk fun i j => .int (i.fdiv j)
theorem o_fdiv : OpR X (binaryOp .FloorDiv) (dOp2 X.K fdivD) := o_int op_fdivM fun _ _ _ => rfl
abbrev modD := intD2 (fun _ j => 0 < j) fun i j => .int (i % j)
theorem o_mod : OpR X (binaryOp .Mod) (dOp2 X.K modD) := o_int op_mod fun _ _ _ => rfl
abbrev powD := intD2 CPow fun i j => .int (i ^ j.toNat)
theorem o_pow : OpR X (binaryOp .Pow) (dOp2 X.K powD) := o_int op_pow fun _ _ _ => rfl
def mulD : D → D → DK → Prop
  | .int i, .int j, R => MulOk i j ∧ R (.int (i * j))
  | .lst xs, .int k, R => (-(2 ^ 63) ≤ k ∧ k < 2 ^ 63 ∧ xs.length * k.toNat ≤ sizeLine) ∧ R (.lst (List.replicate k.toNat xs).flatten)
  | _, _, _ => False
theorem Ats.rep {K : PySem.W.Frag} {Z : Hp} {ds : List D} {vs : List V} (h : Ats K Z ds vs) : ∀ n, Ats K Z (List.replicate n ds).flatten (List.replicate n vs).flatten
  | 0 => rfl
  | n + 1 => by
    rw [List.replicate_succ, List.replicate_succ, List.flatten_cons, List.flatten_cons]
    exact h.append (Ats.rep h n)
theorem o_mul : OpR X (binaryOp .Mult) (dOp2 X.K mulD) := by
  intro pins s σ H x y v u Q I rx ry ⟨Z, d, e, R, k, ad, ae, h, q⟩
  cases d <;> cases e <;> try exact h.elim
  · simp only [At] at ad ae
    subst ad; subst ae
    exact op_mulM pins s σ H _ _ v u Q I rx ry ⟨_, _, rfl, rfl, h.1, dk q k h.2 rfl⟩
  · simp only [At] at ad ae
    obtain ⟨a, vs, rfl, a2, a3⟩ := ad
    subst ae
    refine op_rep pins s σ H _ _ v u Q I rx ry ⟨a, _, vs, rfl, rfl, k _ _ a2, h.1.1, h.1.2.1, by rw [a3.len]; exact h.1.2.2, fun p hp => ?_⟩
    rename_i xs n
    have x := Ext.new (o := HO.lst (List.replicate n.toNat vs).flatten) k hp
    exact q _ _ _ _ h.2 x ⟨p, _, rfl, upd_same, Ats.rep (Ats.mono x.zz _ _ a3) _⟩
def mulF : D → D → (List D → Prop) → Prop
  | .lst xs, .int k, R => (-(2 ^ 63) ≤ k ∧ k < 2 ^ 63 ∧ xs.length * k.toNat ≤ sizeLine) ∧ R (List.replicate k.toNat xs).flatten
  | _, _, _ => False
theorem o_mulF : OpR X (binaryOp .Mult) (dOp2F X.K mulF) := by
  intro pins s σ H x y v u Q I rx ry ⟨Z, d, e, R, k, ad, ae, h, q⟩
  cases d <;> cases e <;> try exact h.elim
  simp only [At] at ad ae
  obtain ⟨a, vs, rfl, a2, a3⟩ := ad
  subst ae
  refine op_rep pins s σ H _ _ v u Q I rx ry ⟨a, _, vs, rfl, rfl, k _ _ a2, h.1.1, h.1.2.1, by rw [a3.len]; exact h.1.2.2, fun p hp => ?_⟩
  exact q _ _ _ _ h.2 (same_upd hp) hp upd_same (Ats.rep a3 _)
def EqOk : D → D → Prop
  | .str _, .str _ => True
  | d, e => d.pln = true ∧ e.pln = true ∧ d.dep ≤ 64 ∧ e.dep ≤ 64
theorem EqOk.two {d e : D} (h : EqOk d e) : (∃ x y, d = .str x ∧ e = .str y) ∨ (d.pln = true ∧ e.pln = true ∧ d.dep ≤ 64 ∧ e.dep ≤ 64) := by
  unfold EqOk at h
  split at h
  · exact .inl ⟨_, _, rfl, rfl⟩
  · exact .inr h
theorem EqOk.of {d e : D} (h : d.pln = true ∧ e.pln = true ∧ d.dep ≤ 64 ∧ e.dep ≤ 64) : EqOk d e := by
  unfold EqOk
  split
  · trivial
  · exact h
def eqD : D → D → DK → Prop := fun d e R => EqOk d e ∧ R (.bl (D.eqv d e))
def neD : D → D → DK → Prop := fun d e R => EqOk d e ∧ R (.bl (!D.eqv d e))
theorem shaped_py {d : D} (h : d.pln = true) (h' : d.dep ≤ 64) : SeqAt.shaped d.py = true := by
  unfold SeqAt.shaped
  rw [canLay_py d h, dep_py d h, decide_eq_true h']; rfl
theorem str_dec (x y : Str) : decide (V.str x = V.str y) = (x == y) := by
  rw [Bool.eq_iff_iff]; simp
theorem o_eq {k : Nat} (hr : Room k X.A) : OpR X (compareOp .Eq) (dOp2 X.K eqD) := by
  intro pins s σ H x y v u Q I rx ry ⟨Z, d, e, R, k, ad, ae, h, q⟩
  rcases h.1.two with ⟨z1, z2, rfl, rfl⟩ | h1
  · simp only [At] at ad ae
    subst ad; subst ae
    refine op_eq pins s σ H _ _ v u Q I rx ry ⟨rfl, ?_⟩
    rw [str_dec]
    exact dk q k h.2 rfl
  refine op_eqD hr.units pins s σ H _ _ v u Q I rx ry ⟨d.py, e.py, At.dp k d x ad h1.1, At.dp k e y ae h1.2.1, shaped_py h1.1 h1.2.2.1, shaped_py h1.2.1 h1.2.2.2, ?_⟩
  rw [eqv_py d e h1.1 h1.2.1]
  exact dk q k h.2 rfl
theorem o_ne {k : Nat} (hr : Room k X.A) : OpR X (compareOp .NotEq) (dOp2 X.K neD) := by
  intro pins s σ H x y v u Q I rx ry ⟨Z, d, e, R, k, ad, ae, h, q⟩
  rcases h.1.two with ⟨z1, z2, rfl, rfl⟩ | h1
  · simp only [At] at ad ae
    subst ad; subst ae
    refine op_ne pins s σ H _ _ v u Q I rx ry ⟨rfl, ?_⟩
    rw [str_dec]
    exact dk q k h.2 rfl
  refine op_neD hr.units pins s σ H _ _ v u Q I rx ry ⟨d.py, e.py, At.dp k d x ad h1.1, At.dp k e y ae h1.2.1, shaped_py h1.1 h1.2.2.1, shaped_py h1.2.1 h1.2.2.2, ?_⟩
  rw [eqv_py d e h1.1 h1.2.1]
  exact dk q k h.2 rfl
abbrev leD := intD0 fun i j => .bl (decide (i ≤ j))
abbrev gtD := intD0 fun i j => .bl (decide (j < i))
abbrev geD := intD0 fun i j => .bl (decide (j ≤ i))
abbrev ltD := intD0 fun i j => .bl (decide (i < j))
theorem o_le : OpR X (compareOp .LtE) (dOp2 X.K leD) := o_int0 op_le fun _ _ _ => rfl
theorem o_gt : OpR X (compareOp .Gt) (dOp2 X.K gtD) := o_int0 op_gt fun _ _ _ => rfl
theorem o_ge : OpR X (compareOp .GtE) (dOp2 X.K geD) := o_int0 op_ge fun _ _ _ => rfl
theorem o_lt : OpR X (compareOp .Lt) (dOp2 X.K ltD) := o_int0 op_lt fun _ _ _ => rfl
def inW (neg : Bool) : D → D → DK → Prop := fun d e R => match e with
  | .lst xs => (d.pln = true ∧ D.plns xs = true ∧ d.dep ≤ 60) ∧ R (.bl (neg ^^ xs.any fun y => D.eqv y d))
  | .tup xs => (d.pln = true ∧ D.plns xs = true ∧ d.dep ≤ 60) ∧ R (.bl (neg ^^ xs.any fun y => D.eqv y d))
  | _ => False
abbrev inD := inW false
abbrev notInD := inW true
theorem any_py {xs : List D} {d : D} (h : D.plns xs = true) (hd : d.pln = true) : ((D.pys xs).any fun y => PyData.eqv y d.py) = xs.any fun y => D.eqv y d := by
  induction xs with
  | nil => rfl
  | cons y ys ih =>
    simp only [D.plns, Bool.and_eq_true] at h
    simp only [D.pys, List.any_cons]
    rw [eqv_py y d h.1 hd, ih h.2]
theorem room_in {A : Around} {k n m : Nat} (hr : Room k A) (h : m ≤ 60) : A.units + 1 + min n m < cLine := by
  have := hr.units
  have : min n m ≤ m := Nat.min_le_right _ _
  omega
theorem o_in {k : Nat} (hr : Room k X.A) : OpR X (compareOp .In) (dOp2 X.K inD) := by
  intro pins s σ H x y v u Q I rx ry ⟨Z, d, e, R, k, ad, ae, h, q⟩
  cases e <;> try exact h.elim
  · obtain ⟨⟨h1, h2, h3⟩, h4⟩ := h
    obtain ⟨as, r1⟩ := Dp.reads I _ y u (At.dp k _ y ae h2) ry
    obtain ⟨bs, r2⟩ := Dp.reads I _ x v (At.dp k _ x ad h1) rx
    exact SeqAt.in_list_reads r1 r2 (canLays_py _ h2) (canLay_py _ h1) (by rw [dep_py d h1]; exact room_in hr h3) ⟨.bl _, H, I, rfl, dk q k h4 (by simp [At, any_py h2 h1])⟩
  · obtain ⟨⟨h1, h2, h3⟩, h4⟩ := h
    obtain ⟨as, r1⟩ := Dp.reads I _ y u (At.dp k _ y ae h2) ry
    obtain ⟨bs, r2⟩ := Dp.reads I _ x v (At.dp k _ x ad h1) rx
    exact SeqAt.in_tuple_reads r1 r2 (canLays_py _ h2) (canLay_py _ h1) (by rw [dep_py d h1]; exact room_in hr h3) ⟨.bl _, H, I, rfl, dk q k h4 (by simp [At, any_py h2 h1])⟩
theorem o_notIn {k : Nat} (hr : Room k X.A) : OpR X (compareOp .NotIn) (dOp2 X.K notInD) := by
  intro pins s σ H x y v u Q I rx ry ⟨Z, d, e, R, k, ad, ae, h, q⟩
  cases e <;> try exact h.elim
  · obtain ⟨⟨h1, h2, h3⟩, h4⟩ := h
    obtain ⟨as, r1⟩ := Dp.reads I _ y u (At.dp k _ y ae h2) ry
    obtain ⟨bs, r2⟩ := Dp.reads I _ x v (At.dp k _ x ad h1) rx
    exact SeqAt.notIn_list_reads r1 r2 (canLays_py _ h2) (canLay_py _ h1) (by rw [dep_py d h1]; exact room_in hr h3) ⟨.bl _, H, I, rfl, dk q k h4 (by simp [At, any_py h2 h1])⟩
  · obtain ⟨⟨h1, h2, h3⟩, h4⟩ := h
    obtain ⟨as, r1⟩ := Dp.reads I _ y u (At.dp k _ y ae h2) ry
    obtain ⟨bs, r2⟩ := Dp.reads I _ x v (At.dp k _ x ad h1) rx
    exact SeqAt.notIn_tuple_reads r1 r2 (canLays_py _ h2) (canLay_py _ h1) (by rw [dep_py d h1]; exact room_in hr h3) ⟨.bl _, H, I, rfl, dk q k h4 (by simp [At, any_py h2 h1])⟩
end
end Pm
set_option Elab.async false
set_option linter.all false
set_option maxRecDepth 100000
set_option maxHeartbeats 1000000
set_option autoImplicit false
namespace Pm
open PySem PySem.Spec
open PyProof.Rows hiding St
open L2
variable {γ : Type}

inductive Sk where | l (a : Addr) | t (a : Addr) | s (x : Str) (tk : Tok)
def Sk.it : Sk → Heap → Addr → Nat → Prop
  | .l a, h, it, i => h.IsListIter it a i
  | .t a, h, it, i => h.IsTupleIter it a i
  | .s x tk, h, it, i => h.IsStrIter it (strIterType x) x tk i
def Sk.fp : Sk → List Addr
  | .l a => [a]
  | .t a => [a]
  | .s _ _ => []
def Sk.src (K : PySem.W.Frag) (H : Hp) : Sk → List V → Prop
  | .l a, xs => SqL K H a xs
  | .t a, xs => SqT K H a xs
  | .s x _, xs => xs = x.cps.toList.map fun c => V.str ⟨#[c]⟩
def Sk.mem (h : Heap) : Sk → List Value → Prop
  | .l a, its => h.IsList a its.toArray
  | .t a, its => h.IsTuple a its.toArray
  | .s _ _, _ => True
def Sk.pr : Sk → List Value → Nat → Value → Prop
  | .s x _, _, i, v => ∃ c u, x.cps[i]? = some c ∧ v = .str ⟨#[c]⟩ u
  | _, its, i, v => its.toArray[i]? = some v
def Sk.val : Sk → Value
  | .l a => .ref a
  | .t a => .ref a
  | .s x tk => .str x tk
def Sk.ob : Sk → Obj
  | .l a => { cls := .type "list_iterator", data := .fields #[.ref a, .int 0 0] }
  | .t a => { cls := .type "tuple_iterator", data := .fields #[.ref a, .int 0 0] }
  | .s x tk => { cls := .type (strIterType x), data := .fields #[.str x tk, .int 0 0] }
section
variable {X : Cx} {pins : List (Addr × Obj)} {σ : St} {H : Hp} {s : Shared}
theorem Sk.read (I : L2.Inv X pins σ H s) {k : Sk} {xs : List V} (h : k.src X.K H xs) : ∃ its, k.mem s.heap its ∧ (∀ i v, k.pr its i v → ∃ x, xs[i]? = some x ∧ RelV x v) ∧ ∀ (A : Around), A.handled = none → ∀ it, it ∉ k.fp →
    Draws X.prog X.w A it (it :: k.fp) xs.length (k.pr its) (fun i h => k.it h it i ∧ k.mem h its) := by
  cases k with
  | l a =>
    obtain ⟨its, r, p, _⟩ := I.list h
    refine ⟨its, p.isList, fun i v e => ?_, fun A hA it hne => ?_⟩
    · have e' : its[i]? = some v := by simpa [Sk.pr] using e
      have hl := r.length
      have hi : i < xs.length := by rw [hl]; exact (List.getElem?_eq_some_iff.mp e').1
      obtain ⟨u, h1, h2⟩ := r.get (List.getElem?_eq_getElem hi)
      rw [e'] at h1; cases h1
      exact ⟨_, List.getElem?_eq_getElem hi, h2⟩
    · have := Draws.list (prog := X.prog) (w := X.w) hA it a (fun e => hne (by simp [Sk.fp, e])) its.toArray
      rw [List.size_toArray, ← r.length] at this
      exact this
  | t a =>
    obtain ⟨its, r, p, _⟩ := I.tuple h
    refine ⟨its, p, fun i v e => ?_, fun A hA it hne => ?_⟩
    · have e' : its[i]? = some v := by simpa [Sk.pr] using e
      have hl := r.length
      have hi : i < xs.length := by rw [hl]; exact (List.getElem?_eq_some_iff.mp e').1
      obtain ⟨u, h1, h2⟩ := r.get (List.getElem?_eq_getElem hi)
      rw [e'] at h1; cases h1
      exact ⟨_, List.getElem?_eq_getElem hi, h2⟩
    · have := Draws.tuple (prog := X.prog) (w := X.w) hA it a (fun e => hne (by simp [Sk.fp, e])) its.toArray
      rw [List.size_toArray, ← r.length] at this
      exact this
  | s x tk =>
    have hx : xs = x.cps.toList.map fun c => V.str ⟨#[c]⟩ := h
    refine ⟨[], trivial, fun i v e => ?_, fun A hA it hne => ?_⟩
    · obtain ⟨c, u, h1, rfl⟩ := e
      exact ⟨.str ⟨#[c]⟩, by rw [hx, List.getElem?_map, Array.getElem?_toList, h1]; rfl, ⟨u, rfl⟩⟩
    · have := Draws.text (prog := X.prog) (w := X.w) hA it x tk
      have hl : xs.length = x.cps.size := by rw [hx, List.length_map, Array.length_toList]
      rw [hl]
      exact ⟨fun i h st => this.live i h st.1, fun i h h' st k => ⟨this.frame i h h' st.1 k, trivial⟩, fun i s Q E hi st hQ => this.item i s Q E hi st.1 fun v h' tk p st' sb => hQ v h' tk p ⟨st', trivial⟩ sb,
        fun s Q E st hE => this.done s Q E st.1 hE⟩
theorem Sk.src_inj (I : L2.Inv X pins σ H s) {k : Sk} {xs ys : List V} (h : k.src X.K H xs) (h' : k.src X.K H ys) : xs = ys := by
  cases k with
  | l a => exact I.list_inj h h'
  | t a => exact I.tuple_inj h h'
  | s x tk => exact (show xs = _ from h).trans (show ys = _ from h').symm
theorem Sk.begins (k : Sk) (its : List Value) : Begins k.val k.ob (fun h => k.mem h its) := by
  cases k with
  | l a => exact begins_list a its.toArray
  | t a => exact begins_tuple a its.toArray
  | s x tk => exact begins_text x tk
theorem Sk.it0 {k : Sk} {h : Heap} {it : Addr} (e : h.get? it = some k.ob) : k.it h it 0 := by
  cases k with
  | l a => exact ⟨_, e, rfl, rfl⟩
  | t a => exact ⟨_, e, rfl, rfl⟩
  | s x tk => exact ⟨_, e, rfl, rfl⟩
theorem Sk.itAt {k : Sk} {h h' : Heap} {it : Addr} {i : Nat} (st : k.it h it i) (kp : ∀ o, h.get? it = some o → h'.get? it = some o) : k.it h' it i := by
  cases k with
  | l a => exact Heap.IsListIter.at st kp
  | t a => exact Heap.IsTupleIter.at st kp
  | s x tk => obtain ⟨o, ho, r⟩ := st; exact ⟨o, kp o ho, r⟩
theorem Sk.itOb {k : Sk} {h : Heap} {it : Addr} {i : Nat} (st : k.it h it i) : ∃ o, h.get? it = some o ∧ ∀ v, o.data ≠ .cell v := by
  cases k with
  | l a => obtain ⟨o, e, _, d⟩ := st; exact ⟨o, e, fun v q => by rw [d] at q; cases q⟩
  | t a => obtain ⟨o, e, _, d⟩ := st; exact ⟨o, e, fun v q => by rw [d] at q; cases q⟩
  | s x tk => obtain ⟨o, e, _, d⟩ := st; exact ⟨o, e, fun v q => by rw [d] at q; cases q⟩
end

theorem turnT {X : Cx} {pins : List (Addr × Obj)} {σ : St} {H : Hp} {s : Shared} {I : Addr} {fp wr cells : List Addr} {n i : Nat} {Pt : Nat → Array Value → Prop} {Stt : Nat → Heap → Prop} {Mid : Nat → Addr → Heap → Prop} {elts : List Expr} {kk : Nat} {tpos : Pos} {E : Value → Shared → Prop} {Good : List V → Prop}
    (W : WalksT X.prog X.w X.A I fp wr n Pt Stt Mid) (hi : i < n) (st : Stt i s.heap) (J : L2.Inv X pins σ H s) (hwr : ∀ b ∈ wr, b ∈ cells) (hf : ∀ b ∈ cells, FpOk X pins H b) (hcl : ∀ b ∈ cells, ∃ o, s.heap.get? b = some o)
    (hP : ∀ vals, Pt i vals → ∃ xs, Vals xs vals.toList ∧ xs.length ≤ sizeLine ∧ Good xs) :
    wpAny (model X.prog X.w) X.A (pyNext (.ref I)) (fun r s1 => ∃ u, r = some u ∧ wpAny (model X.prog X.w) X.A (letOwnedTupleGo (.Tuple elts kk tpos) (.ref I) u) (fun _ s2 => ∃ T xs, Good xs ∧ u = .ref T ∧ H T = none ∧
      L2.Inv X pins σ (upd H T (.tup xs)) s2 ∧ Stt (i + 1) s2.heap ∧ ∀ b ∈ cells, (upd H T (.tup xs)) b = none) E s1) E s := by
  refine W.item i s _ E hi st fun T vals h' tk hp hT hIs hMid hk => ⟨_, rfl, ?_⟩
  refine W.go elts kk tpos i T { s with heap := h', toks := tk } _ _ hMid fun h'' st'' hk'' => ?_
  obtain ⟨xs, rv, hz, hg⟩ := hP vals hp
  have hHT : H T = none := J.hok.fresh hT
  have keep : ∀ b o, b ∉ cells → s.heap.get? b = some o → h''.get? b = some o := fun b o hb e => hk'' b o (fun h => hb (hwr b h)) (hk b o (fun h => hb (hwr b h)) e)
  obtain ⟨oT, eT, cT, nT, dT⟩ := hIs
  have new : ObjOk X.prog X.w (upd H T (.tup xs)) h'' T (.tup xs) := ⟨hz, vals.toList, rv, ⟨oT, hk'' T oT (W.apart i T h' hMid) eT, cT, nT, by simpa using dT⟩⟩
  refine ⟨T, xs, hg, rfl, hHT, J.turnedNew (t' := tk) (ch := cells) keep hf hT new, st'', fun b hb => ?_⟩
  obtain ⟨o, e⟩ := hcl b hb
  rw [upd_ne (Nat.ne_of_lt (Nat.lt_of_lt_of_le (Heap.lt_size e) hT))]
  exact (hf b hb).1

def Jz (K : PySem.W.Frag) (k1 k2 : Sk) : It :=
  ⟨fun i H => ∃ (xs ys : List V) (x y : V), k1.src K H xs ∧ k2.src K H ys ∧ xs[i]? = some x ∧ ys[i]? = some y,
    fun i H v H' => ∃ T x y, v = .ref T ∧ H T = none ∧ H' = upd H T (.tup [x, y]) ∧ (∀ xs, k1.src K H xs → xs[i]? = some x) ∧ ∀ ys, k2.src K H ys → ys[i]? = some y,
    fun i H => ∃ xs ys : List V, k1.src K H xs ∧ k2.src K H ys ∧ i = min xs.length ys.length⟩
theorem turn_zipG {P : Program} {w : World} {K : PySem.W.Frag} {elts : List Expr} {kk : Nat} {tpos : Pos} {z TI TO i1 i2 : Addr} {k1 k2 : Sk} (Sp : ZipSep2 z TI TO i1 i2 (i1 :: k1.fp) (i2 :: k2.fp)) (n1 : i1 ∉ k1.fp) (n2 : i2 ∉ k2.fp) :
    Turn P w K (.Tuple elts kk tpos) (Jz K k1 k2) [z, TI, TO, i1, i2] z (fun i h => IsZip h z TI TO .none ∧ IsTupOf2 h TI (.ref i1) (.ref i2) ∧ (∃ a1 a2, IsTupOf2 h TO a1 a2) ∧ k1.it h i1 i ∧ k2.it h i2 i) where
  mem := by simp
  obj := fun i h st c hc => by
    obtain ⟨hz, hTI, ⟨x, y, hTO⟩, h1, h2⟩ := st
    have e' : c = z ∨ c = TI ∨ c = TO ∨ c = i1 ∨ c = i2 := by simpa using hc
    rcases e' with q | q | q | q | q
    · rw [q]; exact ⟨_, hz, fun v q => nomatch q⟩
    · rw [q]; exact ⟨_, hTI, fun v q => nomatch q⟩
    · rw [q]; exact ⟨_, hTO, fun v q => nomatch q⟩
    · rw [q]; exact Sk.itOb h1
    · rw [q]; exact Sk.itOb h2
  keep := fun i h h' st k => by
    obtain ⟨hz, hTI, ⟨x, y, hTO⟩, h1, h2⟩ := st
    exact ⟨k z (by simp) _ hz, k TI (by simp) _ hTI, ⟨x, y, k TO (by simp) _ hTO⟩, Sk.itAt h1 fun o q => k i1 (by simp) o q, Sk.itAt h2 fun o q => k i2 (by simp) o q⟩
  item := by
    intro X hP hw hK hc i pins s σ H E I hf st hg
    subst hP hw hK
    obtain ⟨hz, hTI, ⟨x0, y0, hTO⟩, h1, h2⟩ := st
    obtain ⟨xs, ys, x, y, hqx, hqy, hx, hy⟩ := hg
    obtain ⟨its, m1, p1, d1⟩ := Sk.read I hqx
    obtain ⟨its2, m2, p2, d2⟩ := Sk.read I hqy
    have hd := I.ok.hd hc
    have W := WalksT.zipD2 Sp (d1 X.A.in1 hd i1 n1) (d2 X.A.in1 hd i2 n2)
    have hi : i < min xs.length ys.length := by
      have a := (List.getElem?_eq_some_iff.mp hx).1
      have b := (List.getElem?_eq_some_iff.mp hy).1
      omega
    refine thn (turnT (Good := fun zs => zs = [x, y]) W hi ⟨hz, hTI, ⟨x0, y0, hTO⟩, ⟨h1, m1⟩, h2, m2⟩ I (cells := [z, TI, TO, i1, i2]) (fun b hb => ?_) hf (fun b hb => ?_) fun vals hv => ?_) fun r s1 ⟨u, hr, h⟩ => ⟨u, hr, thn h fun _ s2 ⟨T, zs, e1, e2, e3, e4, e5, e6⟩ => ?_⟩
    · have : b = z ∨ b = TO ∨ b = i1 ∨ b = i2 := by simpa using hb
      simp only [List.mem_cons, List.not_mem_nil, or_false]
      rcases this with h | h | h | h <;> simp [h]
    · have e' : b = z ∨ b = TI ∨ b = TO ∨ b = i1 ∨ b = i2 := by simpa using hb
      rcases e' with q | q | q | q | q
      · rw [q]; exact ⟨_, hz⟩
      · rw [q]; exact ⟨_, hTI⟩
      · rw [q]; exact ⟨_, hTO⟩
      · rw [q]; obtain ⟨o, e, _⟩ := Sk.itOb h1; exact ⟨o, e⟩
      · rw [q]; obtain ⟨o, e, _⟩ := Sk.itOb h2; exact ⟨o, e⟩
    · obtain ⟨x1, x2, q1, q2, rfl⟩ := hv
      obtain ⟨v1, f1, r1⟩ := p1 i x1 q1
      obtain ⟨v2, f2, r2⟩ := p2 i x2 q2
      rw [hx] at f1; rw [hy] at f2
      cases f1; cases f2
      exact ⟨[x, y], .cons r1 (.cons r2 .nil), by show 2 ≤ sizeLine; decide, rfl⟩
    · subst e1; subst e2
      obtain ⟨z', TI', TO', ⟨a1, _⟩, a2, _⟩ := e5
      exact ⟨.ref T, _, e4, rfl, ⟨T, x, y, rfl, e3, rfl, fun l hl => by rw [Sk.src_inj I hl hqx]; exact hx, fun l hl => by rw [Sk.src_inj I hl hqy]; exact hy⟩, ⟨z', TI', TO', a1, a2⟩, e6⟩
  done := by
    intro X hP hw hK hc i pins s σ H E I hf st hg
    subst hP hw hK
    obtain ⟨hz, hTI, ⟨x0, y0, hTO⟩, h1, h2⟩ := st
    obtain ⟨xs, ys, hqx, hqy, rfl⟩ := hg
    obtain ⟨its, m1, p1, d1⟩ := Sk.read I hqx
    obtain ⟨its2, m2, p2, d2⟩ := Sk.read I hqy
    have hd := I.ok.hd hc
    have W := WalksT.zipD2 Sp (d1 X.A.in1 hd i1 n1) (d2 X.A.in1 hd i2 n2)
    refine W.done s _ E ⟨hz, hTI, ⟨x0, y0, hTO⟩, ⟨h1, m1⟩, h2, m2⟩ fun h' tk hk => ⟨rfl, I.turnedL (t' := tk) (ch := [z, TI, TO, i1, i2]) (fun b o hb e => hk b o (fun q => hb ?_) e) hf⟩
    have : b = z ∨ b = TO ∨ b = i1 ∨ b = i2 := by simpa using q
    simp only [List.mem_cons, List.not_mem_nil, or_false]
    rcases this with h | h | h | h <;> simp [h]
  self := fun A i s Q E st h => wpAny_pyIter_zip st.1 h

def itemsD : D → Option (List D)
  | .lst xs => some xs
  | .tup xs => some xs
  | .str x => some (x.cps.toList.map fun c => .str ⟨#[c]⟩)
  | _ => none
theorem src_of {K : PySem.W.Frag} {Z : Hp} {d : D} {v : V} {u : Value} {ds : List D} (a : At K Z d v) (r : RelV v u) (e : itemsD d = some ds) :
    ∃ k : Sk, k.val = u ∧ (∀ H, Same Z H → ∃ xs, k.src K H xs ∧ Ats K Z ds xs) := by
  cases d <;> simp only [itemsD, Option.some.injEq, reduceCtorEq] at e
  · simp only [At] at a
    subst a; subst e
    obtain ⟨t, rfl⟩ := r
    rename_i x
    refine ⟨.s x t, rfl, fun H _ => ⟨_, rfl, ?_⟩⟩
    generalize x.cps.toList = l
    induction l with
    | nil => rfl
    | cons c l ih => exact ⟨_, _, rfl, rfl, ih⟩
  · simp only [At] at a
    obtain ⟨p, vs, rfl, h1, h2⟩ := a
    subst e
    cases r
    exact ⟨.l p, rfl, fun H k => ⟨vs, .inl (.inl (k _ _ h1)), h2⟩⟩
  · simp only [At] at a
    obtain ⟨p, vs, rfl, h1, h2⟩ := a
    subst e
    cases r
    exact ⟨.t p, rfl, fun H k => ⟨vs, seqT k h1, h2⟩⟩
theorem Sk.fp_lt {X : Cx} {pins : List (Addr × Obj)} {σ : St} {H : Hp} {s : Shared} (I : L2.Inv X pins σ H s) {k : Sk} {xs : List V} (h : k.src X.K H xs) : ∀ b ∈ k.fp, b < s.heap.objs.size := by
  cases k with
  | l a =>
    intro b hb
    obtain ⟨its, r, p, _⟩ := I.list h
    rw [show b = a by simpa [Sk.fp] using hb]; exact p.lt
  | t a =>
    intro b hb
    obtain ⟨its, r, p, _⟩ := I.tuple h
    rw [show b = a by simpa [Sk.fp] using hb]; exact p.lt
  | s x tk => intro b hb; cases hb

def zipD : List D → List D → List D
  | x :: xs, y :: ys => .tup [x, y] :: zipD xs ys
  | _, _ => []
theorem zipD_len : ∀ xs ys : List D, (zipD xs ys).length = min xs.length ys.length
  | [], _ => by simp [zipD]
  | _ :: _, [] => by simp [zipD]
  | x :: xs, y :: ys => by simp only [zipD, List.length_cons, zipD_len xs ys]; omega
theorem zipD_get : ∀ {xs ys : List D} {i : Nat} {d : D}, (zipD xs ys)[i]? = some d → ∃ x y, xs[i]? = some x ∧ ys[i]? = some y ∧ d = .tup [x, y]
  | [], _, _, _, h => by simp [zipD] at h
  | _ :: _, [], _, _, h => by simp [zipD] at h
  | x :: xs, y :: ys, 0, d, h => by simp [zipD] at h; exact ⟨x, y, rfl, rfl, h.symm⟩
  | x :: xs, y :: ys, i + 1, d, h => zipD_get (xs := xs) (ys := ys) (i := i) (by simpa [zipD] using h)
section
variable {X : Cx} {G : GP γ} {tg e e2 : Expr} {p pos tpos : Pos} {elts : List Expr} {kk : Nat}
def qItems (te : PEx γ) : PAx γ := fun s R => te s fun d s1 => match itemsD d with
  | some ds => R ds s1
  | none => False
theorem walks_list {K : PySem.W.Frag} {Z : Hp} {a : Addr} {vs : List V} {ds : List D} (h : Z a = some (.lst vs)) (h2 : Ats K Z ds vs) : Walks K (Itl K a) Z ds := by
  intro i Z1 H k1 k2
  have hs : SqL K H a vs := .inl (.inl (k2 _ _ (k1 _ _ h)))
  refine ⟨fun d hd => ?_, fun hl => ⟨vs, hs, by rw [h2.len]; exact Nat.le_of_eq hl.symm⟩⟩
  obtain ⟨v, hv, av⟩ := h2.get hd
  refine ⟨⟨vs, v, hs, hv⟩, fun x H' y => ?_⟩
  obtain ⟨e, y⟩ := y
  subst e
  have := y vs hs
  rw [hv] at this
  cases this
  exact ⟨Z1, Ext.refl k2, At.mono k1 _ _ av⟩
theorem walks_tup {K : PySem.W.Frag} {Z : Hp} {a : Addr} {vs : List V} {ds : List D} (h : SqT K Z a vs) (h2 : Ats K Z ds vs) : Walks K (Itt K a) Z ds := by
  intro i Z1 H k1 k2
  have hs : SqT K H a vs := seqT (k1.trans k2) h
  refine ⟨fun d hd => ?_, fun hl => ⟨vs, hs, by rw [h2.len]; exact Nat.le_of_eq hl.symm⟩⟩
  obtain ⟨v, hv, av⟩ := h2.get hd
  refine ⟨⟨vs, v, hs, hv⟩, fun x H' y => ?_⟩
  obtain ⟨e, y⟩ := y
  subst e
  have := y vs hs
  rw [hv] at this
  cases this
  exact ⟨Z1, Ext.refl k2, At.mono k1 _ _ av⟩
theorem walks_str {K : PySem.W.Frag} {Z : Hp} {x : Str} : Walks K (Its x) Z (x.cps.toList.map fun c => .str ⟨#[c]⟩) := by
  intro i Z1 H k1 k2
  refine ⟨fun d hd => ?_, fun hl => (by have : i = x.cps.size := by simpa using hl
                                        exact Nat.le_of_eq this.symm : x.cps.size ≤ i)⟩
  rw [List.getElem?_map, Array.getElem?_toList] at hd
  cases q : x.cps[i]? with
  | none => rw [q] at hd; cases hd
  | some c =>
    rw [q] at hd
    cases hd
    refine ⟨(Array.getElem?_eq_some_iff.mp q).1, fun v H' y => ?_⟩
    obtain ⟨e, c', h1, h2⟩ := y
    subst e; subst h2
    rw [q] at h1; cases h1
    exact ⟨Z1, Ext.refl k2, rfl⟩
theorem qi_seq {te : PEx γ} (h : QE X G e te) (hK : X.K = G.K := by rfl) : QI X G tg e (qItems te) := by
  refine ⟨fun pins s σ H R I w => ?_⟩
  obtain ⟨F, Z, sg, Rp, r, t, q⟩ := w
  refine thn (h.run pins s σ H (fun v H1 => ∃ d s1 Z1, Rel G F Z1 s1 σ H1 ∧ At G.K Z1 d v ∧ ∃ ds, itemsD d = some ds ∧ ∀ J, Walks G.K J Z1 ds → R J H1) I ⟨F, Z, sg, _, r, t, fun d s1 Z1 v H1 t1 k1 r1 a1 => ?_⟩) fun u s1 ⟨v, H1, I1, rv, d, sg1, Z1, r1, a1, ds, e1, q1⟩ => ?_
  · cases e1 : itemsD d with
    | none => rw [e1] at t1; exact t1.elim
    | some ds => rw [e1] at t1; exact ⟨d, s1, Z1, r1, a1, ds, e1, fun J hJ => q ds s1 Z1 H1 J t1 k1 r1 hJ⟩
  · have fresh : ∀ b ∈ [s1.heap.objs.size], FpOk X pins H1 b := fun b hb => by
      have e : b = s1.heap.objs.size := by simpa using hb
      subst e
      exact I1.fpOk (Nat.le_refl _) (I1.hok.fresh (Nat.le_refl _))
    cases d <;> simp only [itemsD, Option.some.injEq, reduceCtorEq] at e1
    · simp only [At] at a1
      subst a1; subst e1
      rename_i x
      obtain ⟨t, rfl⟩ := rv
      -- a text's iterator
      refine wpAny_pyIter_strU ?_
      have I2 : L2.Inv X pins σ H1 { s1 with heap := s1.heap.push { cls := .type (strIterType x), data := .fields #[.str x t, .int 0 0] } } := I1.kept (t' := s1.toks) fun b o e => Heap.get?_push_of_some _ e
      have st0 : ({ s1 with heap := s1.heap.push { cls := .type (strIterType x), data := .fields #[.str x t, .int 0 0] } } : Shared).heap.IsStrIter s1.heap.objs.size (strIterType x) x t 0 := ⟨_, Heap.get?_push_size _ rfl, rfl, rfl⟩
      first
        | exact ⟨s1.heap.objs.size, [s1.heap.objs.size], _, _, H1, rfl, I2, turn_str s1.heap.objs.size x t (strIterType x) (by unfold strIterType; split <;> simp), st0, fresh, q1 _ walks_str⟩
    · simp only [At] at a1
      obtain ⟨a, vs, rfl, h1, h2⟩ := a1
      subst e1
      cases rv
      obtain ⟨its, rv, p, hz⟩ := I1.list (xs := vs) (.inl (.inl (r1.z _ _ h1)))
      refine wpAny_pyIter_list p.isList ?_
      exact ⟨s1.heap.objs.size, [s1.heap.objs.size], _, _, H1, rfl, I1.kept (t' := s1.toks) fun b o e => Heap.get?_push_of_some _ e, turn_list a _, ⟨_, Heap.get?_push_size _ rfl, rfl, rfl⟩, fresh, q1 _ (by rw [hK]; exact walks_list h1 h2)⟩
    · simp only [At] at a1
      obtain ⟨a, vs, rfl, h1, h2⟩ := a1
      subst e1
      cases rv
      obtain ⟨its, rv, p, hz⟩ := I1.tuple (xs := vs) (by rw [hK]; exact seqT r1.z h1)
      refine wpAny_pyIter_tuple (show s1.heap.IsTuple a its.toArray from p) ?_
      exact ⟨s1.heap.objs.size, [s1.heap.objs.size], _, _, H1, rfl, I1.kept (t' := s1.toks) fun b o e => Heap.get?_push_of_some _ e, turn_tuple a _, ⟨_, Heap.get?_push_size _ rfl, rfl, rfl⟩, fresh, q1 _ (by rw [hK]; exact walks_tup h1 h2)⟩

def qZip (ta : PAx γ) : PAx γ := fun s R => ta s fun ds s1 => match ds with
  | [d1, d2] => match itemsD d1, itemsD d2 with
    | some xs, some ys => R (zipD xs ys) s1
    | _, _ => False
  | _ => False
theorem walks_zip {K : PySem.W.Frag} {Z : Hp} {k1 k2 : Sk} {xs ys : List D} (h1 : ∀ H, Same Z H → ∃ vs, k1.src K H vs ∧ Ats K Z xs vs) (h2 : ∀ H, Same Z H → ∃ vs, k2.src K H vs ∧ Ats K Z ys vs) : Walks K (Jz K k1 k2) Z (zipD xs ys) := by
  intro i Z1 H z1 z2
  obtain ⟨vs, a1, a2⟩ := h1 H (z1.trans z2)
  obtain ⟨ws, b1, b2⟩ := h2 H (z1.trans z2)
  refine ⟨fun d hd => ?_, fun hl => ⟨vs, ws, a1, b1, by rw [hl, zipD_len, a2.len, b2.len]⟩⟩
  obtain ⟨x, y, hx, hy, rfl⟩ := zipD_get hd
  obtain ⟨v, c1, c2⟩ := a2.get hx
  obtain ⟨w, d1, d2⟩ := b2.get hy
  refine ⟨⟨vs, ws, v, w, a1, b1, c1, d1⟩, fun u H' yl => ?_⟩
  obtain ⟨T, x', y', rfl, hT, rfl, f1, f2⟩ := yl
  have e1 := f1 vs a1
  have e2 := f2 ws b1
  rw [c1] at e1; rw [d1] at e2
  cases e1; cases e2
  have x := Ext.new (o := HO.tup [v, w]) z2 hT
  exact ⟨_, x, ⟨T, _, rfl, .inl (.inl upd_same), ⟨_, _, rfl, At.mono (z1.trans x.zz) _ _ c2, ⟨_, _, rfl, At.mono (z1.trans x.zz) _ _ d2, rfl⟩⟩⟩⟩
theorem qi_zip {ta : PAx γ} (hg : Gl X "zip") (hm : X.mg "zip" = none) (ha : QA X G [e, e2] ta) (hK : X.K = G.K := by rfl)
    (hs : starEach [e, e2] X.env = (false, eval e X.env) :: starEach [e2] X.env := by rfl) (hpl : (backTo pos (starEach [e2] X.env)).any (·.1) = false := by rfl) : QI X G (.Tuple elts kk tpos) (.Call (.Name "zip" p) [e, e2] [] pos) (qZip ta) := by
  refine ⟨fun pins s σ H R I w => ?_⟩
  obtain ⟨F, Z, sg, Rp, r, t, q⟩ := w
  refine Call_ (ld_blt I hg hm PyProof.Rows.boot_zip (PyProof.Rows.callWith_type1 (thn (ha.run pos pins s σ H (fun vs H1 => ∃ d1 d2 xs ys s1 Z1, Rel G F Z1 s1 σ H1 ∧ Ats G.K Z1 [d1, d2] vs ∧ itemsD d1 = some xs ∧ itemsD d2 = some ys ∧ ∀ J, Walks G.K J Z1 (zipD xs ys) → R J H1) I ⟨F, Z, sg, _, r, t, fun ds s1 Z1 vs H1 t1 k1 r1 a1 => ?_⟩) fun us s1 ⟨vs, H1, I1, rv, d1, d2, xs, ys, sg1, Z1, r1, a1, e1, e2', q1⟩ => ?_) hs hpl))
  · match ds, t1, a1 with
    | [d1, d2], t1, a1 =>
      cases e1 : itemsD d1 with
      | none => simp only [e1] at t1
      | some xs =>
        cases e2' : itemsD d2 with
        | none => simp only [e1, e2'] at t1
        | some ys =>
          simp only [e1, e2'] at t1
          exact ⟨d1, d2, xs, ys, s1, Z1, r1, a1, e1, e2', fun J hJ => q _ s1 Z1 H1 J t1 k1 r1 hJ⟩
  · simp only [Ats] at a1
    obtain ⟨v1, _, rfl, a1, v2, _, rfl, a2, rfl⟩ := a1
    obtain ⟨u1, u2, rfl, rv1, rv2⟩ := vals2 rv
    rw [← hK] at a1 a2
    obtain ⟨k1, rfl, c1⟩ := src_of a1 rv1 e1
    obtain ⟨k2, rfl, c2⟩ := src_of a2 rv2 e2'
    obtain ⟨ws1, g1, g1'⟩ := c1 H1 r1.z
    obtain ⟨ws2, g2, g2'⟩ := c2 H1 r1.z
    obtain ⟨its1, m1, _⟩ := Sk.read I1 g1
    obtain ⟨its2, m2, _⟩ := Sk.read I1 g2
    have l1 := Sk.fp_lt I1 g1
    have l2 := Sk.fp_lt I1 g2
    refine zip_begins2 (k1.begins its1) (k2.begins its2) m1 m2 fun h' hz hTI hTO o1 o2 hsz hk => wpAny_pyIter_zip hz ?_
    have I2 : L2.Inv X pins σ H1 { s1 with heap := h' } := I1.kept (t' := s1.toks) hk
    refine ⟨s1.heap.objs.size + 4, [s1.heap.objs.size + 4, s1.heap.objs.size + 2, s1.heap.objs.size + 3, s1.heap.objs.size, s1.heap.objs.size + 1], _, _, H1, rfl, I2,
      turn_zipG (k1 := k1) (k2 := k2) (zip_sep2 l1 l2) (fun h => absurd (l1 _ h) (Nat.lt_irrefl _)) (fun h => absurd (l2 _ h) (Nat.not_lt_of_le (Nat.le_succ _))), ⟨hz, hTI, ⟨_, _, hTO⟩, Sk.it0 o1, Sk.it0 o2⟩, fun c hcm => ?_, q1 _ (by rw [← hK]; exact walks_zip c1 c2)⟩
    have e' : c = s1.heap.objs.size + 4 ∨ c = s1.heap.objs.size + 2 ∨ c = s1.heap.objs.size + 3 ∨ c = s1.heap.objs.size ∨ c = s1.heap.objs.size + 1 := by simpa using hcm
    have hle : s1.heap.objs.size ≤ c := by
      rcases e' with z | z | z | z | z
      · rw [z]; exact Nat.le_add_right _ _
      · rw [z]; exact Nat.le_add_right _ _
      · rw [z]; exact Nat.le_add_right _ _
      · rw [z]; exact Nat.le_refl _
      · rw [z]; exact Nat.le_add_right _ _
    exact I1.fpOk hle (I1.hok.fresh hle)
theorem walks_range {K : PySem.W.Frag} {Z : Hp} {lo : Int} {n : Nat} : Walks K (Itr lo n) Z ((List.range n).map fun k => .int (lo + (k : Nat))) := by
  intro i Z1 H z1 z2
  refine ⟨fun d hd => ?_, fun hl => (by simpa using Nat.le_of_eq hl.symm : n ≤ i)⟩
  rw [List.getElem?_map] at hd
  by_cases hi : i < n
  · rw [List.getElem?_range hi] at hd
    cases hd
    refine ⟨hi, fun v H' y => ?_⟩
    obtain ⟨e, h2⟩ := y
    subst e; subst h2
    exact ⟨Z1, Ext.refl z2, by simp [At]⟩
  · rw [List.getElem?_eq_none (by simpa using hi)] at hd
    cases hd
def qRange1 (ta : PAx γ) : PAx γ := fun s R => ta s fun ds s1 => match ds with
  | [.int n] => (-(2 ^ 62) ≤ n ∧ n < 2 ^ 62) ∧ R ((List.range n.toNat).map fun k => .int (k : Nat)) s1
  | _ => False
theorem qi_range1 {ta : PAx γ} (hg : Gl X "range") (hm : X.mg "range" = none) (ha : QA X G [e] ta) (hs : starEach [e] X.env = [(false, eval e X.env)] := by rfl) : QI X G tg (.Call (.Name "range" p) [e] [] pos) (qRange1 ta) := by
  refine PI.imp (pi_range1 hg hm ha hs) fun σ H R ⟨F, Z, s, Rp, r, t, q⟩ => ?_
  refine ⟨F, Z, s, _, r, t, fun ds s1 Z1 vs H1 t1 k1 r1 a1 => ?_⟩
  match ds, t1, a1 with
  | [.int n], t1, a1 =>
    simp only [Ats, At] at a1
    obtain ⟨v, _, rfl, rfl, rfl⟩ := a1
    refine ⟨n, rfl, t1.1.1, t1.1.2, q _ s1 Z1 H1 _ t1.2 k1 r1 ?_⟩
    have := walks_range (K := G.K) (Z := Z1) (lo := 0) (n := n.toNat)
    simpa using this
end
end Pm
set_option Elab.async false
set_option linter.all false
set_option maxRecDepth 100000
set_option maxHeartbeats 1000000
set_option autoImplicit false
namespace Pm
open PySem PySem.Spec
open PyProof.Rows hiding St
open L2
variable {γ : Type}

def idx {α : Type} (xs : List α) (i : Int) : Option α := if i < 0 then (if 0 ≤ i + xs.length then xs[(i + xs.length).toNat]? else none) else xs[i.toNat]?
theorem idx_at {α : Type} {xs : List α} {i : Int} {v : α} (h : idx xs i = some v) : atI xs i = some v := by
  unfold idx at h
  unfold atI ixN
  by_cases hi : i < 0
  · rw [if_pos hi] at h
    by_cases h2 : 0 ≤ i + xs.length
    · rw [if_pos h2] at h
      rw [if_neg (by omega), if_pos (by omega)]
      exact h
    · rw [if_neg h2] at h; cases h
  · rw [if_neg hi] at h
    have hl := (List.getElem?_eq_some_iff.mp h).1
    rw [if_pos (by omega), if_pos (by omega)]
    exact h
theorem idx_nat {α : Type} {xs : List α} {i : Nat} {v : α} (h : xs[i]? = some v) : idx xs (i : Int) = some v := by
  unfold idx
  rw [if_neg (by omega), Int.toNat_natCast]; exact h
theorem idx_nat' {α : Type} {xs : List α} {i : Nat} : idx xs (i : Int) = xs[i]? := by
  unfold idx
  rw [if_neg (by omega), Int.toNat_natCast]
theorem Ats.idx {K : PySem.W.Frag} {Z : Hp} {ds : List D} {vs : List V} (h : Ats K Z ds vs) {i : Int} {d : D} (e : Pm.idx ds i = some d) : ∃ v, atI vs i = some v ∧ At K Z d v := by
  have hl := h.len
  unfold Pm.idx at e
  by_cases hi : i < 0
  · rw [if_pos hi] at e
    by_cases h2 : 0 ≤ i + ds.length
    · rw [if_pos h2] at e
      obtain ⟨v, h3, h4⟩ := h.get e
      refine ⟨v, idx_at ?_, h4⟩
      unfold Pm.idx
      rw [if_pos hi, hl, if_pos h2]; exact h3
    · rw [if_neg h2] at e; cases e
  · rw [if_neg hi] at e
    obtain ⟨v, h3, h4⟩ := h.get e
    refine ⟨v, idx_at ?_, h4⟩
    unfold Pm.idx
    rw [if_neg hi]; exact h3
def ixD : D → D → DK → Prop
  | .lst xs, .int i, R => ∃ d, idx xs i = some d ∧ R d
  | .tup xs, .int i, R => ∃ d, idx xs i = some d ∧ R d
  | .str z, .int i, R => z.length ≤ sizeLine ∧ ∃ c, idx z.cps.toList i = some c ∧ R (.str ⟨#[c]⟩)
  | _, _, _ => False
section
variable {X : Cx}
theorem x_ix : IxR X (dOp2 X.K ixD) := by
  intro value slice pins s σ H x y v u Q I rx ry ⟨Z, d, e, R, k, ad, ae, h, q⟩ hs
  cases d <;> cases e <;> try exact h.elim
  · simp only [At] at ad ae
    subst ad; subst ae
    obtain ⟨h1, c, h2, h3⟩ := h
    exact ix_str value slice pins s σ H _ _ v u Q I rx ry ⟨_, _, c, rfl, rfl, h1, idx_at h2, dk q k h3 rfl⟩ hs
  · simp only [At] at ad ae
    obtain ⟨a, vs, rfl, a2, a3⟩ := ad
    subst ae
    obtain ⟨d, h1, h2⟩ := h
    obtain ⟨w, h3, h4⟩ := a3.idx h1
    exact ix_list value slice pins s σ H _ _ v u Q I rx ry ⟨a, vs, _, w, rfl, rfl, .inl (.inl (k _ _ a2)), h3, dk q k h2 h4⟩ hs
  · simp only [At] at ad ae
    obtain ⟨a, vs, rfl, a2, a3⟩ := ad
    subst ae
    obtain ⟨d, h1, h2⟩ := h
    obtain ⟨w, h3, h4⟩ := a3.idx h1
    exact ix_tup value slice pins s σ H _ _ v u Q I rx ry ⟨a, vs, _, w, rfl, rfl, seqT k a2, h3, dk q k h2 h4⟩ hs
end
section
variable {X : Cx} {G : GP γ} {a b e : Expr} {pos : Pos}
theorem qe_ix {ta tb : PEx γ} (ha : QE X G a ta) (hb : QE X G b tb) (hs : PlainIx b := by intro _ _; rfl) (hK : X.K = G.K := by rfl) : QE X G (.Subscript a b pos) (qBin ixD ta tb) :=
  PE.imp (pe_ix x_ix ha hb hs) fun _ _ _ h => by rw [hK]; exact lbin h

end

def BAt (K : PySem.W.Frag) (Z H : Hp) (d : D) (v : V) : Prop := At K Z d v ∨ ∃ ds a vs, d = .lst ds ∧ v = .ref a ∧ H a = some (.lst vs) ∧ Ats K Z ds vs
theorem BAt.dp {K : PySem.W.Frag} {Z H : Hp} (k : Same Z H) {d : D} {v : V} (h : BAt K Z H d v) (p : d.pln = true) : Dp K H v d.py := by
  rcases h with h | ⟨ds, a, vs, rfl, rfl, h1, h2⟩
  · exact At.dp k d v h p
  · simp only [D.pln] at p; simp only [D.py]
    exact .lst (.inl (.inl h1)) (Ats.dp k ds vs h2 p)
def slotD (s : S γ) (i : Nat) : Option D := match s.ρ[i]? with
  | some (some (.val d)) => some d
  | some (some (.own ds)) => some (.lst ds)
  | _ => none
theorem Rel.slot {G : GP γ} {F : Fra} {Z : Hp} {s : S γ} {σ : St} {H : Hp} (r : Rel G F Z s σ H) {i : Nat} {d : D} (h : slotD s i = some d) : ∃ v, σ[i]? = some (some v) ∧ BAt G.K Z H d v := by
  unfold slotD at h
  split at h
  · rename_i d' hd
    cases h
    obtain ⟨v, h1, h2⟩ := r.loc i _ hd
    exact ⟨v, h1, .inl h2⟩
  · rename_i ds hd
    cases h
    obtain ⟨a, vs, h1, h2, h3, _⟩ := r.own i _ hd
    exact ⟨_, h1, .inr ⟨ds, a, vs, rfl, rfl, h2, h3⟩⟩
  · cases h
def dOp2B (K : PySem.W.Frag) (p : D → D → DK → Prop) : R2 := fun x y H Q => ∃ Z d e R, Same Z H ∧ BAt K Z H d x ∧ BAt K Z H e y ∧ p d e R ∧ ∀ z Z' v H', R z → Ext Z H Z' H' → At K Z' z v → Q v H'
section
variable {X : Cx}
theorem b_ne {k : Nat} (hr : Room k X.A) : OpR X (compareOp .NotEq) (dOp2B X.K neD) := by
  intro pins s σ H x y v u Q I rx ry ⟨Z, d, e, R, k, ad, ae, h, q⟩
  rcases h.1.two with ⟨z1, z2, rfl, rfl⟩ | h1
  · have e1 : x = .str z1 := by
      rcases ad with ad | ⟨_, _, _, z, _⟩
      · simpa only [At] using ad
      · cases z
    have e2 : y = .str z2 := by
      rcases ae with ae | ⟨_, _, _, z, _⟩
      · simpa only [At] using ae
      · cases z
    subst e1; subst e2
    refine op_ne pins s σ H _ _ v u Q I rx ry ⟨rfl, ?_⟩
    rw [str_dec]
    exact dk q k h.2 rfl
  refine op_neD hr.units pins s σ H _ _ v u Q I rx ry ⟨d.py, e.py, ad.dp k h1.1, ae.dp k h1.2.1, shaped_py h1.1 h1.2.2.1, shaped_py h1.2.1 h1.2.2.2, ?_⟩
  rw [eqv_py d e h1.1 h1.2.1]
  exact dk q k h.2 rfl
end
section
variable {X : Cx} {G : GP γ} {a b e : Expr} {pos : Pos} {i : Nat} {x : Str} {xp : Pos}
def qBinN1 (p : D → D → DK → Prop) (i : Nat) (tb : PEx γ) : PEx γ := fun s R => (slotD s i).isSome = true ∧ tb s fun y s1 => ∃ d, slotD s1 i = some d ∧ p d y fun z => R z s1
theorem lbinN1 {p : D → D → DK → Prop} {tb : PEx γ} {σ : St} {H : Hp} {Q : VK} (h : lE G (qBinN1 p i tb) σ H Q) : tOp (dOp2B G.K p) (tVar i) (lE G tb) σ H Q := by
  obtain ⟨F, Z, s, R, r, ⟨t0, t⟩, q⟩ := h
  obtain ⟨d0, hd0⟩ := Option.isSome_iff_exists.mp t0
  obtain ⟨v, hv, _⟩ := r.slot hd0
  refine ⟨v, hv, F, Z, s, _, r, t, fun y s1 Z1 vy H1 t1 k1 r1 a1 => ?_⟩
  obtain ⟨d, hd, t1⟩ := t1
  obtain ⟨v', hv', bd⟩ := r1.slot hd
  rw [hv] at hv'; cases hv'
  exact ⟨Z1, d, y, _, r1.z, bd, .inl a1, t1, fun z Z3 v3 H3 t3 x3 a3 => q z s1 Z3 v3 H3 t3 (k1.trans x3.zz) (r1.ext x3) a3⟩
theorem qt_cmpN1 {op : CmpOp} {p : D → D → DK → Prop} {tb : PEx γ} (ho : OpR X (compareOp op) (dOp2B G.K p)) (hn : PE X a (tVar i)) (hb : QE X G b tb) (hm : behindInMarks op b = false) : QT X G (.Compare a [op] [b] pos) (qB (qBinN1 p i tb)) :=
  PT.imp (pt_cmpR ho hn hb hm) fun _ _ _ h => lB (te := tOp (dOp2B G.K p) (tVar i) (lE G tb)) (fun _ _ _ h => lbinN1 h) h
def cut {α : Type} (xs : List α) (lo hi : Option Int) : List α := (xs.drop (HT.sIx xs.length 0 lo)).take (HT.sIx xs.length xs.length hi - HT.sIx xs.length 0 lo)
theorem cut_from {α : Type} (xs : List α) (k : Nat) : cut xs (some (k : Int)) none = xs.drop k := by
  unfold cut
  rw [HT.sIx_nat, HT.sIx_none]
  by_cases h : k ≤ xs.length
  · rw [Nat.min_eq_left h, List.take_of_length_le (by rw [List.length_drop]; omega)]
  · rw [Nat.min_eq_right (by omega), List.drop_eq_nil_of_le (Nat.le_refl _), List.drop_eq_nil_of_le (by omega)]; simp
theorem cut_to {α : Type} (xs : List α) (k : Nat) : cut xs none (some (k : Int)) = xs.take k := by
  unfold cut
  rw [HT.sIx_none, HT.sIx_nat, List.drop_zero, Nat.sub_zero]
  by_cases h : k ≤ xs.length
  · rw [Nat.min_eq_left h]
  · rw [Nat.min_eq_right (by omega), List.take_of_length_le (Nat.le_refl _), List.take_of_length_le (by omega)]
theorem Ats.cut {K : PySem.W.Frag} {Z : Hp} {ds : List D} {vs : List V} (h : Ats K Z ds vs) (lo hi : Option Int) : Ats K Z (Pm.cut ds lo hi) (cutV vs lo hi) := by
  unfold Pm.cut cutV
  rw [h.len]
  exact (h.drop _).take _
theorem getItem_tuple_whole {prog : Program} {w : World} {A : Around} {E : Value → Shared → Prop} {s : Shared} {t sl : Addr} {items : Array Value} {vl vu : Value} {lo hi : Option Int} {Q : Value → Shared → Prop} (ht : IsTup s.heap t items) (hs : s.heap.IsSliceOf sl vl vu .none) (pl : IsPart vl lo) (pu : IsPart vu hi)
    (hw : HT.sIx items.size 0 lo = 0 ∧ HT.sIx items.size items.size hi = items.size) (h : Q (.ref t) s) : wpAny (model prog w) A (getItem (.ref t) (.ref sl)) Q E s := by
  obtain ⟨os, hos, hcs, hds⟩ := id hs
  have hTs : s.TypeIs (.ref sl) "slice" := ⟨os, hos, hcs⟩
  unfold getItem
  try with_reducible refine wpAny_holding ?_
  first | refine wpAny_bind (wpAny_pure ?_) | skip
  refine wpAny_bind (wpAny_sequenceKey ht.typeIs (by decide) ?_)
  refine wpAny_bind (wpAny_callSpecial?_slot (name := Str.ofString "__getitem__") ht.typeIs PyProof.Rows.slot_tuple_getitem
    (wpAny_call_entry PyProof.Rows.slot_tuple_getitem ht.typeIs entry_tuple_getitem ?_ (args_tuple_getitem _ _)))
  show wpAny _ _ (Builtin.Tuple.tupleItemsOf (.ref t) >>= _) _ _ s
  refine wpAny_bind (tupleItemsOf_ ht ?_)
  refine wpAny_bind (wpAny_typeOf hTs ?_)
  rw [if_pos (by decide)]
  refine wpAny_bind (HT.sliceApplied_gen hs pl pu ?_)
  have hno : ((((HT.sIx items.size 0 lo : Nat) : Int) == 0 && (1 : Int) == 1 && (HT.sIx items.size items.size hi - HT.sIx items.size 0 lo) == items.size) = true) := by
    rw [hw.1, hw.2]; simp
  show wpAny _ _ (if (((HT.sIx items.size 0 lo : Nat) : Int) == 0 && (1 : Int) == 1 && (HT.sIx items.size items.size hi - HT.sIx items.size 0 lo) == items.size) = true then _ else _) _ _ s
  rw [if_pos hno]
  unfold Builtin.Tuple.tupleIsExact
  refine wpAny_bind (wpAny_bind (wpAny_typeOf ht.typeIs (wpAny_pure ?_)))
  rw [if_pos (by decide)]
  refine wpAny_bind (wpAny_rule ?_)
  exact wpAny_pure ⟨_, rfl, wpAny_pure h⟩
end
def sliceD (d : D) (lo hi : Option Int) (R : DK) : Prop := match d with
  | .lst xs => R (.lst (cut xs lo hi))
  | .tup xs => R (.tup (cut xs lo hi))
  | .str z => z.length ≤ sizeLine ∧ R (.str (cutS z lo hi))
  | _ => False
def dSl (K : PySem.W.Frag) (p : D → Option Int → Option Int → DK → Prop) : V → Option Int → Option Int → Hp → VK → Prop := fun x lo hi H Q => ∃ Z d R, Same Z H ∧ At K Z d x ∧ p d lo hi R ∧ ∀ z Z' v H', R z → Ext Z H Z' H' → At K Z' z v → Q v H'
section
variable {X : Cx}
theorem x_slice : SlR X (dSl X.K sliceD) := by
  intro pins s σ H x v vl vu lo hi sl Q I rx hs pl pu ⟨Z, d, R, k, ad, h, q⟩
  cases d <;> try exact h.elim
  · simp only [At] at ad
    subst ad
    exact sl_str pins s σ H _ v vl vu lo hi sl Q I rx hs pl pu ⟨_, rfl, h.1, dk q k h.2 rfl⟩
  · simp only [At] at ad
    obtain ⟨a, vs, rfl, a2, a3⟩ := ad
    refine sl_list pins s σ H _ v vl vu lo hi sl Q I rx hs pl pu ⟨a, vs, rfl, .inl (.inl (k _ _ a2)), fun p hp => ?_⟩
    have x := Ext.new (o := HO.lst (cutV vs lo hi)) k hp
    exact q _ _ _ _ h x ⟨p, _, rfl, upd_same, (Ats.mono x.zz _ _ a3).cut lo hi⟩
  · simp only [At] at ad
    obtain ⟨a, vs, rfl, a2, a3⟩ := ad
    by_cases hw : HT.sIx vs.length 0 lo = 0 ∧ HT.sIx vs.length vs.length hi = vs.length
    · cases rx
      obtain ⟨its, r, ht, hz⟩ := I.tuple (seqT k a2)
      have hlen : its.toArray.size = vs.length := by rw [List.size_toArray]; exact r.length.symm
      refine ⟨"tuple", _, PyProof.Rows.slot_tuple_getitem.lookup, ht.typeIs, ?_⟩
      refine getItem_tuple_whole ht hs pl pu (by rw [hlen]; exact hw) ⟨.ref a, H, I, rfl, ?_⟩
      refine dk (d := .tup _) q k h (show At X.K Z (.tup _) _ from ⟨a, vs, rfl, a2, ?_⟩)
      have e : cutV vs lo hi = vs := by
        unfold cutV
        rw [hw.1, hw.2, List.drop_zero, Nat.sub_zero, List.take_of_length_le (Nat.le_refl _)]
      have := a3.cut lo hi
      rw [e] at this; exact this
    · refine sl_tup pins s σ H _ v vl vu lo hi sl Q I rx hs pl pu ⟨a, vs, rfl, seqT k a2, hw, fun p hp => ?_⟩
      have x := Ext.new (o := HO.tup (cutV vs lo hi)) k hp
      exact q _ _ _ _ h x ⟨p, _, rfl, .inl (.inl upd_same), (Ats.mono x.zz _ _ a3).cut lo hi⟩
end
section
variable {X : Cx} {G : GP γ} {a b e : Expr} {pos p2 : Pos} {lo hi : Option Expr}
def qNoPart : POx γ := fun s R => R none s
def qPart (te : PEx γ) : POx γ := fun s R => te s fun d s1 => match d with
  | .int i => R (some i) s1
  | _ => False
theorem qo_none : QO X G none (qNoPart : POx γ) := PO.imp po_none fun σ H Q ⟨F, Z, s, R, r, t, q⟩ => q none s Z H t (Same.refl _) r
theorem qo_some {te : PEx γ} (h : QE X G e te) : QO X G (some e) (qPart te) := by
  refine PO.imp (po_some h) fun σ H Q ⟨F, Z, s, R, r, t, q⟩ => ?_
  refine ⟨F, Z, s, _, r, t, fun d s1 Z1 v H1 t1 k1 r1 a1 => ?_⟩
  cases d with
  | int i => exact ⟨i, a1, q _ s1 Z1 H1 t1 k1 r1⟩
  | _ => exact t1.elim
def qSl (te : PEx γ) (tl th : POx γ) : PEx γ := fun s R => te s fun d s1 => tl s1 fun l s2 => th s2 fun h s3 => sliceD d l h fun z => R z s3
theorem qe_slice {te : PEx γ} {tl th : POx γ} (he : QE X G e te) (hl : QO X G lo tl) (hu : QO X G hi th) (hK : X.K = G.K := by rfl) : QE X G (.Subscript e (.Slice lo hi none p2) pos) (qSl te tl th) := by
  refine PE.imp (pe_slice x_slice he hl hu) fun σ H Q ⟨F, Z, s, R, r, t, q⟩ => ?_
  refine ⟨F, Z, s, _, r, t, fun d s1 Z1 v1 H1 t1 k1 r1 a1 => ⟨F, Z1, s1, _, r1, t1, fun l s2 Z2 H2 t2 k2 r2 => ⟨F, Z2, s2, _, r2, t2, fun h s3 Z3 H3 t3 k3 r3 => ?_⟩⟩⟩
  refine ⟨Z3, d, _, r3.z, by rw [hK]; exact At.mono (k2.trans k3) _ _ a1, t3, fun z Z4 v H4 t4 x4 a4 => q z s3 Z4 v H4 t4 (((k1.trans k2).trans k3).trans x4.zz) (r3.ext x4) (by rw [hK] at a4; exact a4)⟩
end

section
variable {X : Cx}
theorem Ats.one {K : PySem.W.Frag} {Z : Hp} {d : D} {vs : List V} (h : Ats K Z [d] vs) : ∃ v, vs = [v] ∧ At K Z d v := by
  simp only [Ats] at h
  obtain ⟨v, _, rfl, h, rfl⟩ := h
  exact ⟨v, rfl, h⟩
theorem Ats.two {K : PySem.W.Frag} {Z : Hp} {d e : D} {vs : List V} (h : Ats K Z [d, e] vs) : ∃ v w, vs = [v, w] ∧ At K Z d v ∧ At K Z e w := by
  simp only [Ats] at h
  obtain ⟨v, _, rfl, h, w, _, rfl, h', rfl⟩ := h
  exact ⟨v, w, rfl, h, h'⟩
def fn1 (p : D → DK → Prop) : List D → DK → Prop
  | [d], R => p d R
  | _, _ => False
theorem c1 {f : Value} {p : D → DK → Prop} (h : ∀ (pins : List (Addr × Obj)) (s : Shared) (σ : St) (H Z : Hp) (d : D) (v : V) (us : List Value) (Q : VK) (R : DK), L2.Inv X pins σ H s → Vals [v] us → Same Z H → At X.K Z d v → p d R → (∀ z Z' v H', R z → Ext Z H Z' H' → At X.K Z' z v → Q v H') →
    wpAny (model X.prog X.w) X.A (call f us) (EP X pins σ Q) X.xe s) : CallR X f (dCall X.K (fn1 p)) := by
  intro pins s σ H xs us Q I r ⟨Z, ds, R, k, a, w, q⟩
  obtain ⟨d, rfl, w⟩ : ∃ d, ds = [d] ∧ p d R := by
    cases ds with
    | nil => exact w.elim
    | cons d ds => cases ds with
      | nil => exact ⟨d, rfl, w⟩
      | cons => exact w.elim
  obtain ⟨v, rfl, a1⟩ := Ats.one a
  exact h pins s σ H Z d v us Q R I r k a1 w q
def lenD : D → DK → Prop
  | .lst xs, R => R (.int xs.length)
  | .tup xs, R => R (.int xs.length)
  | .str x, R => x.length ≤ sizeLine ∧ R (.int x.length)
  | _, _ => False
theorem c_len : CallR X (.builtin "len") (dCall X.K (fn1 lenD)) := c1 fun pins s σ H Z d v us Q R I r k a w q => by
  cases d <;> try exact w.elim
  · simp only [At] at a; subst a
    exact call_len_str pins s σ H _ us Q I r ⟨_, rfl, w.1, dk q k w.2 rfl⟩
  · simp only [At] at a
    obtain ⟨p, vs, rfl, a2, a3⟩ := a
    exact call_len_seq pins s σ H _ us Q I r ⟨p, vs, rfl, .inl (.inl (.inl (k _ _ a2))), dk q k w (by simp [At, a3.len])⟩
  · simp only [At] at a
    obtain ⟨p, vs, rfl, a2, a3⟩ := a
    exact call_len_seq pins s σ H _ us Q I r ⟨p, vs, rfl, .inr (seqT k a2), dk q k w (by simp [At, a3.len])⟩
def absD : D → DK → Prop
  | .int i, R => R (.int i.natAbs)
  | _, _ => False
theorem c_abs : CallR X (.builtin "abs") (dCall X.K (fn1 absD)) := c1 fun pins s σ H Z d v us Q R I r k a w q => by
  cases d <;> try exact w.elim
  simp only [At] at a; subst a
  rename_i i
  refine call_abs pins s σ H _ us Q I r ⟨i, rfl, dk q k w ?_⟩
  have e : (i.natAbs : Int) = if i < 0 then -i else i := by split <;> omega
  rw [e]; rfl
def intD : D → DK → Prop
  | .int i, R => R (.int i)
  | .bl b, R => R (.int (if b = true then 1 else 0))
  | _, _ => False
theorem c_int : CallR X (.type "int") (dCall X.K (fn1 intD)) := c1 fun pins s σ H Z d v us Q R I r k a w q => by
  cases d <;> try exact w.elim
  · simp only [At] at a; subst a
    exact call_int1 pins s σ H _ us Q I r (.inr ⟨_, rfl, dk q k w rfl⟩)
  · simp only [At] at a; subst a
    exact call_int1 pins s σ H _ us Q I r (.inl ⟨_, rfl, dk q k w rfl⟩)
def tupleD : D → DK → Prop
  | .lst xs, R => R (.tup xs)
  | .tup xs, R => R (.tup xs)
  | _, _ => False
theorem c_tuple : CallR X (.type "tuple") (dCall X.K (fn1 tupleD)) := c1 fun pins s σ H Z d v us Q R I r k a w q => by
  cases d <;> try exact w.elim
  · simp only [At] at a
    obtain ⟨p, vs, rfl, a2, a3⟩ := a
    refine call_tuple_of pins s σ H _ us Q I r ⟨p, vs, rfl, .inl ⟨.inl (.inl (k _ _ a2)), fun l hl => ?_⟩⟩
    have x := Ext.new (o := HO.tup vs) k hl
    exact q _ _ _ _ w x ⟨l, _, rfl, .inl (.inl upd_same), Ats.mono x.zz _ _ a3⟩
  · simp only [At] at a
    obtain ⟨p, vs, rfl, a2, a3⟩ := a
    exact call_tuple_of pins s σ H _ us Q I r ⟨p, vs, rfl, .inr ⟨seqT k a2, dk q k w ⟨p, vs, rfl, a2, a3⟩⟩⟩
def asInts : List D → Option (List Int)
  | [] => some []
  | .int i :: ds => (asInts ds).map (i :: ·)
  | _ :: _ => none
theorem asInts_eq : ∀ {ds : List D} {ns : List Int}, asInts ds = some ns → ds = ns.map D.int
  | [], ns, h => by simp [asInts] at h; subst h; rfl
  | .int i :: ds, ns, h => by
    simp only [asInts, Option.map_eq_some_iff] at h
    obtain ⟨ms, h1, rfl⟩ := h
    rw [asInts_eq h1]; rfl
  | .non :: _, _, h => by simp [asInts] at h
  | .bl _ :: _, _, h => by simp [asInts] at h
  | .str _ :: _, _, h => by simp [asInts] at h
  | .lst _ :: _, _, h => by simp [asInts] at h
  | .tup _ :: _, _, h => by simp [asInts] at h
  | .dct _ _ :: _, _, h => by simp [asInts] at h
  | .obj _ :: _, _, h => by simp [asInts] at h
theorem asInts_map : ∀ ns : List Int, asInts (ns.map D.int) = some ns
  | [] => rfl
  | n :: ns => by simp [asInts, asInts_map ns]
def asBls : List D → Option (List Bool)
  | [] => some []
  | .bl i :: ds => (asBls ds).map (i :: ·)
  | _ :: _ => none
theorem asBls_eq : ∀ {ds : List D} {ns : List Bool}, asBls ds = some ns → ds = ns.map D.bl
  | [], ns, h => by simp [asBls] at h; subst h; rfl
  | .bl i :: ds, ns, h => by
    simp only [asBls, Option.map_eq_some_iff] at h
    obtain ⟨ms, h1, rfl⟩ := h
    rw [asBls_eq h1]; rfl
  | .non :: _, _, h => by simp [asBls] at h
  | .int _ :: _, _, h => by simp [asBls] at h
  | .str _ :: _, _, h => by simp [asBls] at h
  | .lst _ :: _, _, h => by simp [asBls] at h
  | .tup _ :: _, _, h => by simp [asBls] at h
  | .dct _ _ :: _, _, h => by simp [asBls] at h
  | .obj _ :: _, _, h => by simp [asBls] at h
theorem asBls_map : ∀ ns : List Bool, asBls (ns.map D.bl) = some ns
  | [] => rfl
  | n :: ns => by simp [asBls, asBls_map ns]
def sumD : D → DK → Prop
  | .lst xs, R => ∃ ns, asInts xs = some ns ∧ R (.int ns.sum)
  | _, _ => False
theorem c_sum (hc : X.calm = true) : CallR X (.builtin "sum") (dCall X.K (fn1 sumD)) := c1 fun pins s σ H Z d v us Q R I r k a w q => by
  cases d <;> try exact w.elim
  obtain ⟨ns, e, w⟩ := w
  rw [asInts_eq e] at a
  simp only [At] at a
  obtain ⟨p, vs, rfl, a2, a3⟩ := a
  rw [a3.ints] at a2
  exact cr_sum hc pins s σ H _ us Q I r ⟨p, ns, rfl, .inl (.inl (k _ _ a2)), dk q k w rfl⟩
def allD : D → DK → Prop
  | .lst xs, R => ∃ bs, asBls xs = some bs ∧ R (.bl (bs.all id))
  | _, _ => False
theorem c_all (hc : X.calm = true) : CallR X (.builtin "all") (dCall X.K (fn1 allD)) := c1 fun pins s σ H Z d v us Q R I r k a w q => by
  cases d <;> try exact w.elim
  obtain ⟨ns, e, w⟩ := w
  rw [asBls_eq e] at a
  simp only [At] at a
  obtain ⟨p, vs, rfl, a2, a3⟩ := a
  rw [a3.bls] at a2
  exact cr_all hc pins s σ H _ us Q I r ⟨p, ns, rfl, .inl (.inl (k _ _ a2)), dk q k w rfl⟩
def maxL : D → DK → Prop
  | .lst xs, R => ∃ ns, asInts xs = some ns ∧ 0 < ns.length ∧ ∀ m, m ∈ ns → (∀ y, y ∈ ns → y ≤ m) → R (.int m)
  | _, _ => False
def fn2 (p : D → D → DK → Prop) : List D → DK → Prop
  | [d, e], R => p d e R
  | _, _ => False
theorem c2 {f : Value} {p : D → D → DK → Prop} (h : ∀ (pins : List (Addr × Obj)) (s : Shared) (σ : St) (H Z : Hp) (d e : D) (v w : V) (us : List Value) (Q : VK) (R : DK), L2.Inv X pins σ H s → Vals [v, w] us → Same Z H → At X.K Z d v → At X.K Z e w → p d e R → (∀ z Z' v H', R z → Ext Z H Z' H' → At X.K Z' z v → Q v H') →
    wpAny (model X.prog X.w) X.A (call f us) (EP X pins σ Q) X.xe s) : CallR X f (dCall X.K (fn2 p)) := by
  intro pins s σ H xs us Q I r ⟨Z, ds, R, k, a, w, q⟩
  obtain ⟨d, e, rfl, w⟩ : ∃ d e, ds = [d, e] ∧ p d e R := by
    cases ds with
    | nil => exact w.elim
    | cons d ds => cases ds with
      | nil => exact w.elim
      | cons e ds => cases ds with
        | nil => exact ⟨d, e, rfl, w⟩
        | cons => exact w.elim
  obtain ⟨v, u, rfl, a1, a2⟩ := Ats.two a
  exact h pins s σ H Z d e v u us Q R I r k a1 a2 w q
abbrev max2 := intD0 fun i j => .int (max i j)
abbrev min2 := intD0 fun i j => .int (min i j)
theorem c_max (hc : X.calm = true) : CallR X (.builtin "max") (dCall X.K (fn1 maxL)) := c1 fun pins s σ H Z d v us Q R I r k a w q => by
  cases d <;> try exact w.elim
  obtain ⟨ns, e, hl, w⟩ := w
  rw [asInts_eq e] at a
  simp only [At] at a
  obtain ⟨p, vs, rfl, a2, a3⟩ := a
  rw [a3.ints] at a2
  exact cr_max hc pins s σ H _ us Q I r ⟨p, ns, rfl, .inl (.inl (k _ _ a2)), hl, fun m h1 h2 => dk q k (w m h1 h2) rfl⟩
theorem c_max2 (hc : X.calm = true) : CallR X (.builtin "max") (dCall X.K (fn2 max2)) := c2 fun pins s σ H Z d e v u us Q R I r k a b w q => by
  cases d <;> cases e <;> try exact w.elim
  simp only [At] at a b; subst a; subst b
  rename_i i j
  refine call_max2 hc pins s σ H _ us Q I r ⟨i, j, rfl, dk q k w ?_⟩
  show V.int _ = V.int _
  congr 1
  split <;> omega
theorem c_min2 (hc : X.calm = true) : CallR X (.builtin "min") (dCall X.K (fn2 min2)) := c2 fun pins s σ H Z d e v u us Q R I r k a b w q => by
  cases d <;> cases e <;> try exact w.elim
  simp only [At] at a b; subst a; subst b
  rename_i i j
  refine call_min2 hc pins s σ H _ us Q I r ⟨i, j, rfl, dk q k w ?_⟩
  show V.int _ = V.int _
  congr 1
  split <;> omega
def isTy (T : String) : D → Bool
  | .non => T == "NoneType"
  | .bl _ => T == "bool" || T == "int"
  | .int _ => T == "int"
  | .str _ => T == "str"
  | .lst _ => T == "list"
  | .tup _ => T == "tuple"
  | .dct _ _ => T == "dict"
  | .obj _ => false
def tyOf : D → String
  | .non => "NoneType" | .bl _ => "bool" | .int _ => "int" | .str _ => "str" | .lst _ => "list" | .tup _ => "tuple" | .dct _ _ => "dict" | .obj _ => ""
theorem tyX_of {K : PySem.W.Frag} {Z H : Hp} (k : Same Z H) {d : D} {v : V} (a : At K Z d v) (ho : ∀ p, d ≠ .obj p) : TyX K H v (.type (tyOf d)) := by
  cases d <;> simp only [At] at a
  · subst a; exact .base .non
  · subst a; exact .base (.bl _)
  · subst a; exact .base (.int _)
  · subst a; exact .base (.str _)
  · obtain ⟨p, vs, rfl, a2, _⟩ := a; exact .base (.lst (k _ _ a2))
  · obtain ⟨p, vs, rfl, a2, _⟩ := a
    rcases a2 with (a2 | ⟨o, a2⟩) | ⟨o, its, n, a2, c, _⟩
    · exact .base (.tup (k _ _ a2))
    · exact .fTuple (k _ _ a2)
    · exact .kTuple a2 c
  · obtain ⟨p, vs, rfl, a2, _⟩ := a; exact .base (.dK (k _ _ a2))
  · exact absurd rfl (ho _)
end
section
variable {X : Cx} {G : GP γ} {e : Expr} {pos p p2 : Pos}
def qIsi (T : String) (te : PEx γ) : PEx γ := fun s R => te s fun d s1 => (∀ p, d ≠ .obj p) ∧ R (.bl (isTy T d)) s1
theorem kit_all (K : PySem.W.Frag) {T : String} (hT : T = "int" ∨ T = "bool" ∨ T = "str" ∨ T = "tuple" ∨ T = "list" ∨ T = "dict") (d : D) (ho : ∀ p, d ≠ .obj p) : PySem.W.kitOne K (.type (tyOf d)) (.type T) = some (isTy T d) := by
  cases d with
  | obj p => exact absurd rfl (ho p)
  | _ => rcases hT with rfl | rfl | rfl | rfl | rfl | rfl <;> exact kit_ty (by simp only [tyOf, isTy]; decide +kernel)
theorem qe_isi {T : Str} {T' : String} {te : PEx γ} (hT : T' = "int" ∨ T' = "bool" ∨ T' = "str" ∨ T' = "tuple" ∨ T' = "list" ∨ T' = "dict") (he : QE X G e te) (hg : Gl X "isinstance") (hm : X.mg "isinstance" = none) (hg2 : Gl X T) (hm2 : X.mg T = none) (hv2 : bootBuiltins T = some (.type T')) (hK : X.K = G.K := by rfl)
    (hn : T ≠ "__name__" := by decide) (hd : (T == ("__debug__" : Str)) = false := by decide)
    (hs : starEach [e, .Name T p2] X.env = (false, eval e X.env) :: starEach [.Name T p2] X.env := by rfl) (hs2 : starEach [.Name T p2] X.env = (false, eval (.Name T p2) X.env) :: starEach [] X.env := by rfl) (hpl : (backTo pos (starEach [.Name T p2] X.env)).any (·.1) = false := by rfl) :
    QE X G (.Call (.Name "isinstance" p) [e, .Name T p2] [] pos) (qIsi T' te) := by
  refine PE.imp (pe_callB call_isi hg hm (by decide +kernel) (pa_cons he (pa_cons (pe_bltn (v := .ty T') hg2 hm2 hv2 rfl hn hd) pa_nil hs2) hs) (by decide) (by decide) hs hpl) fun σ H Q ⟨F, Z, s, R, r, t, q⟩ => ?_
  refine ⟨F, Z, s, _, r, t, fun d s1 Z1 v H1 t1 k1 r1 a1 => ?_⟩
  exact ⟨v, .ty T', .type (tyOf d), .type T', isTy T' d, rfl, .ty _, by rw [hK]; exact tyX_of r1.z a1 t1.1, kit_all _ hT d t1.1, q _ s1 Z1 _ H1 t1.2 k1 r1 rfl⟩

variable {i : Nat} {o : Expr} {apos cpos : Pos}
theorem own_ty {K : PySem.W.Frag} {H : Hp} {a : Addr} {vs : List V} (h : H a = some (.lst vs)) : tyV K "list" (.ref a) H := .inl ⟨rfl, vs, .inl (.inl h)⟩
def qAppend (i : Nat) (te : PEx γ) : PEx γ := fun s R => (∃ es, s.ρ[i]? = some (some (.own es))) ∧ te s fun d s1 => ∃ ds, s1.ρ[i]? = some (some (.own ds)) ∧ ds.length < sizeLine ∧ R .non ⟨s1.ρ.set i (some (.own (ds ++ [d]))), s1.g⟩
theorem qe_append {te : PEx γ} (hn : PE X o (tVar i)) (he : QE X G e te)
    (hbase : attributeBase o "append" X.env (eval o X.env) = eval o X.env := by rfl)
    (hfew : ((backTo cpos (starEach [e] X.env)).all (fun x => !x.1) && (backToKw cpos (keywordEach [] X.env)).all (fun x => x.1.isSome)
      && decide (([e] : List Expr).length + ([] : List Keyword).length + (if ([] : List Keyword).isEmpty then 0 else 1) < 30)) = true := by rfl)
    (hline : (apos.endLine == cpos.line) = true := by rfl) (hs : starEach [e] X.env = (false, eval e X.env) :: starEach [] X.env := by rfl) (hplain : (backTo cpos (starEach [] X.env)).any (·.1) = false := by rfl) :
    QE X G (.Call (.Attribute o "append" apos) [e] [] cpos) (qAppend i te) := by
  refine PE.imp (pe_bm PySem.F.plainAttrs_list PySem.F.slot_list_append PySem.F.type_list_append mt_append hn (pa_cons he pa_nil hs) hbase hfew hline hs hplain) fun σ H Q ⟨F, Z, s, R, r, ⟨⟨es, t0⟩, t⟩, q⟩ => ?_
  obtain ⟨a, vs, h1, h2, _⟩ := r.own i es t0
  refine ⟨.ref a, h1, own_ty h2, F, Z, s, _, r, t, fun d s1 Z1 v H1 ⟨ds, t1, t2, t3⟩ k1 r1 a1 => ?_⟩
  obtain ⟨a', vs', g1, g2, g3, _⟩ := r1.own i ds t1
  rw [h1] at g1; cases g1
  have g4 : Ats G.K Z1 (ds ++ [d]) (vs' ++ [v]) := g3.append ⟨v, [], rfl, a1, rfl⟩
  exact ⟨a, vs', v, rfl, rfl, g2, by rw [g3.len]; exact t2, q _ _ Z1 _ _ t3 k1 (r1.write t1 h1 g4) rfl⟩
def qSetItem (tv : PEx γ) (i : Nat) (te : PEx γ) : PSx γ := fun E s => tv s fun d s1 => (∃ es, s1.ρ[i]? = some (some (.own es))) ∧ te s1 fun y s2 => match y with
  | .int k => ∃ ds j, s2.ρ[i]? = some (some (.own ds)) ∧ ixN ds.length k = some j ∧ E.nx ⟨s2.ρ.set i (some (.own (ds.set j d))), s2.g⟩
  | _ => False
theorem qs_setItem {v b : Expr} {tv tb : PEx γ} {tpos : Pos} (hv : QE X G v tv) (hn : PE X o (tVar i)) (hb : QE X G b tb) (hs : swapsWithSole [.Subscript o b tpos] v pos.line X.env = pure false := by rfl) (hw : swappedStores [.Subscript o b tpos] v X.env = pure none := by rfl)
    (h1 : (assignEach [.Subscript o b tpos] X.env).map (·.2) = [assign (.Subscript o b tpos) X.env] := by rfl)
    (ha : ∀ v, assign (.Subscript o b tpos) X.env v = (do
      let ov ← holding [v] (eval o X.env)
      let iv ← holding [v, ov] (eval b X.env)
      standAt tpos
      holding [v, ov, iv] (setItem ov iv v)
      release [v, ov, iv] []) := by intro _; rfl) : QS X G (.Assign [.Subscript o b tpos] v pos) (qSetItem tv i tb) := by
  refine PS.imp (ps_asg hv (pg_sub hn hb set_list ha) hs hw h1) fun De σ H ⟨F, Z, s, E, r, t, n, _⟩ => ?_
  refine ⟨F, Z, s, _, r, t, fun d s1 Z1 v1 H1 ⟨⟨es, t0⟩, t1⟩ k1 r1 a1 => ?_⟩
  obtain ⟨a, vs, g1, g2, _⟩ := r1.own i es t0
  refine ⟨.ref a, g1, F, Z1, s1, _, r1, t1, fun y s2 Z2 v2 H2 t2 k2 r2 a2 => ?_⟩
  cases y with
  | int k =>
    obtain ⟨ds, j, e1, e2, e3⟩ := t2
    have a2' : v2 = .int k := a2
    obtain ⟨a', vs', f1, f2, f3, _⟩ := r2.own i ds e1
    rw [g1] at f1; cases f1
    refine ⟨a, vs', k, j, rfl, a2', f2, by rw [f3.len]; exact e2, n _ Z2 _ _ e3 (k1.trans k2) (r2.write e1 g1 (f3.set j (At.mono k2 _ _ a1)))⟩
  | _ => exact t2.elim
end
section
variable {X : Cx} {G : GP γ} {a b : Expr} {pos : Pos}
def qBinF (p : D → D → (List D → Prop) → Prop) (ta tb : PEx γ) : PAx γ := fun s R => ta s fun x s1 => tb s1 fun y s2 => p x y fun z => R z s2
theorem qf_bin {op : Operator} {p : D → D → (List D → Prop) → Prop} {ta tb : PEx γ} (ho : OpR X (binaryOp op) (dOp2F G.K p)) (ha : QE X G a ta) (hb : QE X G b tb) : QF X G (.BinOp a op b pos) (qBinF p ta tb) := by
  refine PE.imp (pe_op ho ha hb) fun σ H Q ⟨F, Z, s, R, r, t, q⟩ => ?_
  refine ⟨F, Z, s, _, r, t, fun x s1 Z1 v1 H1 t1 k1 r1 a1 => ⟨F, Z1, s1, _, r1, t1, fun y s2 Z2 v2 H2 t2 k2 r2 a2 => ?_⟩⟩
  refine ⟨Z2, x, y, _, r2.z, At.mono k2 _ _ a1, a2, t2, fun zs p vs H3 t3 k3 hn hp a3 => ?_⟩
  obtain ⟨f1, f2, f3, f4⟩ := r2.fresh hn
  exact q zs s2 Z2 p vs H3 t3 (k1.trans k2) (r2.grow k3) hp a3 f1 f2 f3 f4
end
end Pm
set_option Elab.async false
set_option linter.all false
set_option maxRecDepth 100000
set_option maxHeartbeats 1000000
set_option autoImplicit false
namespace Pm
open PySem PySem.Spec
open PyProof.Rows hiding St
open L2
variable {γ : Type}
section
variable {X : Cx} {G : GP γ} {e tg : Expr} {p p2 pos pos2 : Pos}
def qRevR (ta : PEx γ) : PAx γ := fun s R => ta s fun d s1 => match d with
  | .int n => (-(2 ^ 62) ≤ n ∧ n < 2 ^ 62) ∧ R ((List.range n.toNat).map fun k => .int ((n.toNat : Int) - 1 - (k : Nat))) s1
  | _ => False
def rgD (a b : Int) : List D := (List.range (b - a).toNat).map fun k => .int (a + (k : Nat))
theorem rg_ats {K : PySem.W.Frag} {Z : Hp} (a b : Int) : Ats K Z (rgD a b) (rgV a b) := by
  have e1 : rgD a b = ((List.range (b - a).toNat).map fun k : Nat => a + (k : Int)).map D.int := by unfold rgD; rw [List.map_map]; rfl
  have e2 : rgV a b = ((List.range (b - a).toNat).map fun k : Nat => a + (k : Int)).map V.int := by unfold rgV; rw [List.map_map]; rfl
  rw [e1, e2]
  exact Ats.of_ints _
def qLstRg1 (ta : PEx γ) : PAx γ := fun s R => ta s fun d s1 => match d with
  | .int n => (-(2 ^ 62) ≤ n ∧ n ≤ 2 ^ 24) ∧ R (rgD 0 n) s1
  | _ => False
theorem qf_lstRg1 {ta : PEx γ} (hc : X.calm = true) (hg : Gl X "list") (hm : X.mg "list" = none) (hg2 : Gl X "range") (hm2 : X.mg "range" = none) (ha : QE X G e ta) (na : starEach [e] X.env = (false, eval e X.env) :: starEach [] X.env := by rfl)
    (hs : starEach [.Call (.Name "range" p2) [e] [] pos2] X.env = (false, eval (.Call (.Name "range" p2) [e] [] pos2) X.env) :: starEach [] X.env := by rfl) :
    QF X G (.Call (.Name "list" p) [.Call (.Name "range" p2) [e] [] pos2] [] pos) (qLstRg1 ta) := by
  refine PE.imp (pe_listRg hc hg hm (prg_1 hg2 hm2 ha na) hs) fun σ H Q ⟨F, Z, s, R, r, t, q⟩ => ?_
  refine ⟨F, Z, s, _, r, t, fun d s1 Z1 v H1 t1 k1 r1 a1 => ?_⟩
  match d, t1, a1 with
  | .int n, t1, a1 =>
    simp only [At] at a1
    subst a1
    refine ⟨n, rfl, ⟨by decide, by decide, t1.1.1, by omega, by omega⟩, fun p hp => ?_⟩
    obtain ⟨f1, f2, f3, f4⟩ := r1.fresh hp
    exact q _ s1 Z1 p _ _ t1.2 k1 (r1.grow (same_upd hp)) upd_same (rg_ats 0 n) f1 f2 f3 f4
end
end Pm
set_option Elab.async false
set_option linter.all false
set_option maxRecDepth 100000
set_option maxHeartbeats 1000000
set_option autoImplicit false
namespace Pm
open PySem PySem.Spec
open PyProof.Rows hiding St
open L2
variable {γ : Type}

abbrev drawLine : Nat := 2 ^ 24
structure Rng (r c q : Addr) (n : Nat) (H : Hp) : Prop where
  ex : ∃ cs rs : List Int, H r = some (.lst [.ref c, .int n, .ref q]) ∧ H c = some (.lst (cs.map V.int)) ∧ H q = some (.lst (rs.map V.int)) ∧ cs.length = rs.length ∧ 0 < cs.length
  rc : r ≠ c
  rq : r ≠ q
  cq : c ≠ q
def gr (K : PySem.W.Frag) (r c q : Addr) : GP Nat where
  K := K
  foot := fun _ a => a = r ∨ a = c ∨ a = q
  J := fun n H => Rng r c q n H
  stay := fun n H H' ⟨⟨cs, rs, h1, h2, h3, h4⟩, a, b, d⟩ k => ⟨⟨cs, rs, (k r (.inl rfl)).trans h1, (k c (.inr (.inl rfl))).trans h2, (k q (.inr (.inr rfl))).trans h3, h4⟩, a, b, d⟩
  live := fun n H a ⟨⟨cs, rs, h1, h2, h3, _⟩, _, _, _⟩ h => by
    rcases h with rfl | rfl | rfl
    · exact ⟨_, h1⟩
    · exact ⟨_, h2⟩
    · exact ⟨_, h3⟩
def nextS (r : Addr) : Spec Nat := fun ds g R => ∃ m : Int, ds = [.obj r, .int m] ∧ 0 < m ∧ m ≤ 10 ^ 60 ∧ g < drawLine ∧ ∀ k : Int, 0 ≤ k → k < m → R (.int k) (g + 1)
def tNextB (K : PySem.W.Frag) : TS :=
  tSeq (tAsg (tVar 0) (gLs K 3 (gCons (gName 2) (gCons (gName 3) (gCons (gName 4) gNil)))))
  (tSeq (tAsg (tOp (rI (fun _ j => 0 < j) fun i j => .int (i % j)) (tVar 3) (tCB (fun xs H Q => ∃ p ys, xs = [.ref p] ∧ (SqL K H p ys ∨ SqT K H p ys) ∧ Q (.int ys.length) H) (tCons (tVar 2) tNil))) (gName 5))
  (tSeq (tAsg (tOp (rI0 fun i j => .int (i + j)) (tVar 3) (tC (.int 1))) (gSub (tVar 0) (tC (.int 1)) rSetL))
  (tSeq (tIfS (tTest (tOp (rI0 fun i j => .bl (decide (j < i))) (tOp (rIxL K) (tVar 4) (tVar 5)) (tC (.int 0))))
      (tSeq (tAsg (tOp (rI (fun _ j => 0 < j) fun i j => .int (i % j)) (tOp (rIxL K) (tVar 4) (tVar 5)) (tVar 1)) (gName 6))
      (tSeq (tAsg (tOp (rI DivOk fun i j => .int (i.fdiv j)) (tOp (rIxL K) (tVar 4) (tVar 5)) (tVar 1)) (gSub (tVar 4) (tVar 5) rSetL))
      (tRet (tVar 6)))) tNext)
  (tSeq (tAsg (tOp (rI (fun _ j => 0 < j) fun i j => .int (i % j)) (tOp (rI CPow fun i j => .int (i ^ j.toNat)) (tOp (rI0 fun i j => .int (i + j)) (tOp (rI0 fun i j => .int (i + j)) (tOp (rI (fun _ j => 0 < j) fun i j => .int (i % j)) (tOp (rIxL K) (tVar 2) (tVar 5)) (tC (.int 2147483629))) (tOp (rI CMul fun i j => .int (i * j)) (tC (.int 39119)) (tVar 3))) (tC (.int 9901))) (tC (.int 3))) (tC (.int 2147483587))) (gName 7))
  (tSeq (tAsg (tOp (rI (fun _ j => 0 < j) fun i j => .int (i % j)) (tOp (rI CPow fun i j => .int (i ^ j.toNat)) (tOp (rI0 fun i j => .int (i + j)) (tOp (rI0 fun i j => .int (i + j)) (tVar 7) (tOp (rI CMul fun i j => .int (i * j)) (tOp (rI CMul fun i j => .int (i * j)) (tC (.int 7001)) (tVar 3)) (tVar 3))) (tC (.int 41))) (tC (.int 3))) (tC (.int 2147483563))) (gName 8))
  (tRet (tOp (rI (fun _ j => 0 < j) fun i j => .int (i % j)) (tOp (rI (fun _ j => 0 < j) fun i j => .int (i % j)) (tOp (rI0 fun i j => .int (i + j)) (tOp (rI CMul fun i j => .int (i * j)) (tVar 8) (tC (.int 2147483423))) (tVar 7)) (tC (.int 4611686018427387847))) (tVar 1))))))))
theorem divOk60 {i j : Int} (h : 0 < j) (h2 : j ≤ 10 ^ 60) : DivOk i j := by
  refine ⟨by omega, ?_⟩
  have h3 : j.natAbs < 2 ^ 200 := by
    have : (10 : Int) ^ 60 < 2 ^ 200 := by decide
    omega
  exact Nat.lt_of_lt_of_le (PySem.Flt.log2_lt_of (by decide) h3) (by decide)
theorem spot_get {ns : List Int} {t : Int} (hl : 0 < ns.length) : ∃ (j : Nat) (z : Int), t % (ns.length : Int) = (j : Int) ∧ j < ns.length ∧ ns[j]? = some z := by
  have h1 : 0 ≤ t % (ns.length : Int) := Int.emod_nonneg _ (by omega)
  have h2 : t % (ns.length : Int) < ns.length := Int.emod_lt_of_pos _ (by omega)
  refine ⟨(t % (ns.length : Int)).toNat, ns[(t % (ns.length : Int)).toNat]'(by omega), by omega, by omega, List.getElem?_eq_getElem _⟩
theorem mapV_get {ns : List Int} {j : Nat} {z : Int} (h : ns[j]? = some z) : (ns.map V.int)[j]? = some (.int z) := by
  rw [List.getElem?_map, h]; rfl
theorem mapV_set (ns : List Int) (j : Nat) (z : Int) : (ns.map V.int).set j (.int z) = (ns.set j z).map V.int := by
  rw [List.map_set]
theorem rSetL_at {H : Hp} {p : Addr} {xs : List V} {j : Nat} {v : V} {Q : Hp → Prop} (h : H p = some (.lst xs)) (hj : j < xs.length) (q : Q (upd H p (.lst (xs.set j v)))) : rSetL (.ref p) (.int (j : Nat)) v H Q :=
  ⟨p, xs, j, j, rfl, rfl, h, by unfold ixN; rw [if_pos (by omega), if_pos (by omega), Int.toNat_natCast], q⟩
theorem rIxL_at {K : PySem.W.Frag} {H : Hp} {p : Addr} {xs : List V} {j : Nat} {v : V} {Q : VK} (h : H p = some (.lst xs)) (hj : xs[j]? = some v) (q : Q v H) : rIxL K (.ref p) (.int (j : Nat)) H Q :=
  ⟨p, xs, j, v, rfl, rfl, .inl (.inl h), atI_nat hj, q⟩
theorem next_read {K : PySem.W.Frag} {r c q : Addr} {H : Hp} {many : Int} {n : Nat} {De : Ends} (J : Rng r c q n H) (hm : 0 < many) (hm2 : many ≤ 10 ^ 60) (hn : n < drawLine)
    (fin : ∀ (k : Int) (H' : Hp), 0 ≤ k → k < many → Rng r c q (n + 1) H' → (∀ a, a ≠ r → a ≠ c → a ≠ q → H' a = H a) → De.rt (.int k) H') :
    tNextB K De [some (.ref r), some (.int many), none, none, none, none, none, none, none] H := by
  obtain ⟨⟨cs, rs, h1, h2, h3, hl, hp⟩, rc, rq, cq⟩ := J
  have hd : (n : Int) < 16777216 := by have : drawLine = 16777216 := rfl; omega
  obtain ⟨j, z, hj, hjl, hz⟩ := spot_get (ns := cs) (t := (n : Int)) hp
  refine ⟨.ref r, rfl, r, _, rfl, .inl (.inl h1), rfl, .ref c, _, rfl, .int n, _, rfl, .ref q, _, rfl, rfl, ?_⟩
  refine ⟨.int n, rfl, .ref c, rfl, c, cs.map V.int, rfl, .inl (.inl (.inl h2)), (n : Int), ((cs.map V.int).length : Int), rfl, rfl, by rw [List.length_map]; omega, ?_⟩
  rw [List.length_map, show ((fun i j => V.int (i % j)) (n : Int) (cs.length : Int)) = V.int (j : Nat) from (by show V.int _ = _; rw [hj])]
  refine ⟨.int n, rfl, n, 1, rfl, rfl, .ref r, rfl, ?_⟩
  refine rSetL_at (j := 1) h1 (by simp) ?_
  show tSeq _ _ _ _ (upd H r (.lst [.ref c, .int ((n : Int) + 1), .ref q]))
  generalize hH1 : upd H r (.lst [.ref c, .int ((n : Int) + 1), .ref q]) = H1
  have e1 : H1 r = some (.lst [.ref c, .int ((n + 1 : Nat) : Int), .ref q]) := by rw [← hH1, upd_same]; rfl
  have e2 : H1 c = some (.lst (cs.map V.int)) := by rw [← hH1, upd_ne (Ne.symm rc)]; exact h2
  have e3 : H1 q = some (.lst (rs.map V.int)) := by rw [← hH1, upd_ne (Ne.symm rq)]; exact h3
  have eo : ∀ a, a ≠ r → a ≠ c → a ≠ q → H1 a = H a := fun a ha _ _ => by rw [← hH1, upd_ne ha]
  obtain ⟨zr, hzr⟩ : ∃ zr, rs[j]? = some zr := ⟨rs[j]'(by omega), List.getElem?_eq_getElem _⟩
  refine ⟨.ref q, rfl, .int (j : Nat), rfl, rIxL_at e3 (mapV_get hzr) ?_⟩
  refine ⟨zr, 0, rfl, rfl, decide (0 < zr), rfl, ?_⟩
  by_cases hz0 : 0 < zr
  · rw [decide_eq_true hz0]
    refine iteT ?_
    refine ⟨.ref q, rfl, .int (j : Nat), rfl, rIxL_at e3 (mapV_get hzr) ?_⟩
    refine ⟨.int many, rfl, zr, many, rfl, rfl, hm, ?_⟩
    refine ⟨.ref q, rfl, .int (j : Nat), rfl, rIxL_at e3 (mapV_get hzr) ?_⟩
    refine ⟨.int many, rfl, zr, many, rfl, rfl, divOk60 hm hm2, .ref q, rfl, .int (j : Nat), rfl, ?_⟩
    refine rSetL_at e3 (by rw [List.length_map]; omega) ?_
    refine ⟨.int (zr % many), rfl, fin _ _ (Int.emod_nonneg _ (by omega)) (Int.emod_lt_of_pos _ hm) ⟨⟨cs, rs.set j (zr.fdiv many), ?_, ?_, ?_, by rw [List.length_set]; exact hl, hp⟩, rc, rq, cq⟩ fun a a1 a2 a3 => ?_⟩
    · rw [upd_ne rq]; exact e1
    · rw [upd_ne cq]; exact e2
    · rw [upd_same, mapV_set]
    · rw [upd_ne a3]; exact eo a a1 a2 a3
  · rw [decide_eq_false hz0]
    refine iteF ?_
    have b1 : 0 ≤ z % 2147483629 := Int.emod_nonneg _ (by decide)
    have b2 : z % 2147483629 < 2147483629 := Int.emod_lt_of_pos _ (by decide)
    refine ⟨.ref c, rfl, .int (j : Nat), rfl, rIxL_at e2 (mapV_get hz) ?_⟩
    refine ⟨z, 2147483629, rfl, rfl, (by show (0 : Int) < 2147483629; decide), .int n, rfl, 39119, n, rfl, rfl, .inl ⟨by decide, by decide⟩, _, _, rfl, rfl, _, 9901, rfl, rfl, _, 3, rfl, rfl, ⟨by decide, by decide, by omega⟩, _, 2147483587, rfl, rfl, (by show (0 : Int) < 2147483587; decide), ?_⟩
    show gName 7 (V.int ((z % 2147483629 + 39119 * (n : Int) + 9901) ^ (3 : Int).toNat % 2147483587)) _ _ _
    generalize hmx : (z % 2147483629 + 39119 * (n : Int) + 9901) ^ (3 : Int).toNat % 2147483587 = mx
    have m1 : 0 ≤ mx := by rw [← hmx]; exact Int.emod_nonneg _ (by decide)
    have m2 : mx < 2147483587 := by rw [← hmx]; exact Int.emod_lt_of_pos _ (by decide)
    have n0 : 0 ≤ (n : Int) := Int.natCast_nonneg n
    have n2 : 7001 * (n : Int) * (n : Int) ≤ 7001 * 16777216 * 16777216 := Int.mul_le_mul (by omega) (by omega) n0 (by decide)
    have n3 : 0 ≤ 7001 * (n : Int) * (n : Int) := Int.mul_nonneg (by omega) n0
    refine ⟨.int mx, rfl, .int n, rfl, 7001, n, rfl, rfl, .inl ⟨by decide, by decide⟩, .int n, rfl, _, n, rfl, rfl, .inr ⟨by omega, by omega⟩, mx, _, rfl, rfl, _, 41, rfl, rfl, _, 3, rfl, rfl, ⟨by decide, by decide, by omega⟩, _, 2147483563, rfl, rfl, (by show (0 : Int) < 2147483563; decide), ?_⟩
    show gName 8 (V.int ((mx + 7001 * (n : Int) * (n : Int) + 41) ^ (3 : Int).toNat % 2147483563)) _ _ _
    generalize hag : (mx + 7001 * (n : Int) * (n : Int) + 41) ^ (3 : Int).toNat % 2147483563 = ag
    refine ⟨.int ag, rfl, ag, 2147483423, rfl, rfl, .inr ⟨by decide, by decide⟩, .int mx, rfl, _, mx, rfl, rfl, _, 4611686018427387847, rfl, rfl, (by show (0 : Int) < 4611686018427387847; decide), .int many, rfl, _, many, rfl, rfl, hm, ?_⟩
    exact fin _ _ (Int.emod_nonneg _ (by omega)) (Int.emod_lt_of_pos _ hm) ⟨⟨cs, rs, e1, e2, e3, hl, hp⟩, rc, rq, cq⟩ eo
section
variable {P : Program} {w : World} {K : PySem.W.Frag} {mg : Str → Option Value} {base : Heap}
theorem ok_next {x : Str} {st : Stmt} {f : Addr} {fd : FuncData} {N ps : List Str} {k : Nat} {r c q : Addr} (F : Fn K x x st f fd) (S : FnScope N ps (defScope st)) (hN : N.length = 9) (hp : ps.length = 2)
    (body : ∀ (cdv : Value) (A : Around) (outer : List Env) (s : Shared) (H : Hp) (E : XK), Room k (A.deeper (envOfC x (defScope st) s.heap.objs.size f cdv)) →
      PSs (cxOf CX0 P w K mg base N x (defScope st) f cdv A outer s H E).nox (defBody st) (tNextB K)) : FnOk P w K mg base CX0 (k + 1) f fd ps (spG (gr K r c q) (nextS r)) := by
  refine F.ok S (fun vs H Q E h => ?_) (fun cdv A outer s H vs Q E hr h => ⟨_, body cdv A outer s H E hr, ?_⟩)
  · obtain ⟨Z, ds, g, R, _, a, _, _, ⟨m, rfl, _⟩, _⟩ := h
    rw [a.len, hp]; rfl
  · obtain ⟨Z, ds, g, R, k, a, J, zf, ⟨m, rfl, m1, m2, m3, fin⟩, q'⟩ := h
    obtain ⟨v1, v2, rfl, a1, a2⟩ := Ats.two a
    simp only [At] at a1 a2
    subst a1; subst a2
    have e : L2.start N [V.ref r, V.int m] = [some (.ref r), some (.int m), none, none, none, none, none, none, none] := by
      unfold L2.start
      rw [hN]; rfl
    rw [e]
    refine next_read J m1 m2 m3 fun k0 H' h0 h1 J' keep => ?_
    refine q' (.int k0) (g + 1) Z _ H' (fin k0 h0 h1) (Same.refl _) (fun b o e => ?_) (fun b o e n => ?_) (fun b o e n => by rw [e] at n; cases n) J' (fun b hb => ⟨zf b hb, .inl hb⟩) rfl
    · have hn : ¬ (b = r ∨ b = c ∨ b = q) := fun hb => by rw [zf b hb] at e; cases e
      rw [keep b (fun z => hn (.inl z)) (fun z => hn (.inr (.inl z))) (fun z => hn (.inr (.inr z)))]
      exact k b o e
    · have hn : ¬ (b = r ∨ b = c ∨ b = q) := n
      rw [keep b (fun z => hn (.inl z)) (fun z => hn (.inr (.inl z))) (fun z => hn (.inr (.inr z)))]
      exact e
end

def spDraws (K : PySem.W.Frag) : Sp := fun vs H Q _ => ∃ (a : Addr) (ns : List Int), vs = [.ref a] ∧ SqL K H a (ns.map V.int) ∧ ns.length ≤ 63 ∧
  ∀ (r c q : Addr) H', Same H H' → H r = none → H c = none → H q = none → Rng r c q 0 H' → Q (.ref r) H'
def tDrawsB (K : PySem.W.Frag) (vs : List Nat) : TS :=
  tSeq (tAsg (tOp rCat (tCB (fun xs H Q => ∃ p ys, xs = [.ref p] ∧ (SqL K H p ys ∨ SqT K H p ys) ∧ ∀ l, H l = none → Q (.ref l) (upd H l (.lst ys))) (tCons (tSl (rSlL K) (tVar 0) tNoPart (tPart (tC (.int 63)))) tNil))
      (tOp rRep (tLst (tCons (tC (.int 0)) tNil)) (tCB (fun xs H Q => (∃ i, xs = [.int i] ∧ Q (.int i) H) ∨ ∃ k, xs = [.bl k] ∧ Q (.int (if k then 1 else 0)) H)
        (tCons (tOp rEq (tCB (fun xs H Q => ∃ p ys, xs = [.ref p] ∧ (SqL K H p ys ∨ SqT K H p ys) ∧ Q (.int ys.length) H) (tCons (tVar 0) tNil)) (tC (.int 0))) tNil)))) (gName 1))
  (tRet (tLst (tCons (tVar 1) (tCons (tC (.int 0)) (tCons (tLc (iList K (tVar 1)) (gName 2) tYes
    (tOp (rI CMul fun i j => .int (i * j)) (tVar 2) (tCB (fun xs H Q => (∃ i, xs = [.int i] ∧ Q (.int i) H) ∨ ∃ k, xs = [.bl k] ∧ Q (.int (if k then 1 else 0)) H)
      (tCons (tOp (rI0 fun i j => .bl (decide (j ≤ i))) (tVar 2) (tOp (rI CPow fun i j => .int (i ^ j.toNat)) (tC (.int 10)) (tC (.int 18)))) tNil))) vs) tNil)))))
theorem cut63 (ns : List Int) (h : ns.length ≤ 63) : cutV (ns.map V.int) none (some 63) = ns.map V.int := by
  have : cutV (ns.map V.int) none (some 63) = cut (ns.map V.int) none (some ((63 : Nat) : Int)) := rfl
  rw [this, cut_to, List.take_of_length_le (by rw [List.length_map]; exact h)]
theorem tYes_if {σ : List (Option V)} {H : Hp} {A B : Hp → Prop} (h : A H) : tYes σ H fun b H => if b = true then A H else B H := by
  show (if true = true then A H else B H)
  rw [if_pos rfl]; exact h
theorem draws_read {K : PySem.W.Frag} {a : Addr} {ns : List Int} {H : Hp} {De : Ends} (hs : SqL K H a (ns.map V.int)) (hl : ns.length ≤ 63)
    (fin : ∀ (r c q : Addr) H', Same H H' → H r = none → H c = none → H q = none → Rng r c q 0 H' → De.rt (.ref r) H') : tDrawsB K [2] De [some (.ref a), none, none] H := by
  have lim : (1000 : Nat) ≤ sizeLine := by decide
  refine ⟨.ref a, rfl, 63, rfl, a, ns.map V.int, rfl, hs, fun p1 np1 => ?_⟩
  rw [cut63 ns hl]
  have s1 := same_upd (o := HO.lst (ns.map V.int)) np1
  generalize hH1 : upd H p1 (.lst (ns.map V.int)) = H1 at s1
  have a1 : H1 p1 = some (.lst (ns.map V.int)) := by rw [← hH1, upd_same]
  refine ⟨p1, ns.map V.int, rfl, .inl (.inl (.inl a1)), fun p2 np2 => ?_⟩
  have s2 := s1.trans (same_upd (o := HO.lst (ns.map V.int)) np2)
  generalize hH2 : upd H1 p2 (.lst (ns.map V.int)) = H2 at s2
  have a2 : H2 p2 = some (.lst (ns.map V.int)) := by rw [← hH2, upd_same]
  refine ⟨(by show 1 ≤ sizeLine; decide), fun p3 np3 => ?_⟩
  have s3 := same_upd (o := HO.lst [V.int 0]) np3
  generalize hH3 : upd H2 p3 (.lst [V.int 0]) = H3 at s3
  have a3 : H3 p3 = some (.lst [V.int 0]) := by rw [← hH3, upd_same]
  have a23 : H3 p2 = some (.lst (ns.map V.int)) := s3 _ _ a2
  have sA : Same H H3 := s2.trans s3
  refine ⟨.ref a, rfl, a, ns.map V.int, rfl, .inl (sA.seq hs), rfl, .inr ⟨_, rfl, ?_⟩⟩
  generalize hk : decide (V.int (((ns.map V.int).length : Nat) : Int) = V.int 0) = kz
  have hkz : kz = decide (ns.length = 0) := by
    rw [← hk, Bool.eq_iff_iff, decide_eq_true_iff, decide_eq_true_iff, List.length_map]
    constructor
    · intro h; have := V.int.inj h; omega
    · intro h; rw [h]; rfl
  refine ⟨p3, if kz then 1 else 0, [V.int 0], rfl, rfl, a3, by split <;> decide, by split <;> decide, by split <;> decide, fun p4 np4 => ?_⟩
  generalize hz : (List.replicate (if kz = true then (1 : Int) else 0).toNat [V.int 0]).flatten = zs
  have s4 := same_upd (o := HO.lst zs) np4
  generalize hH4 : upd H3 p4 (.lst zs) = H4 at s4
  have a4 : H4 p4 = some (.lst zs) := by rw [← hH4, upd_same]
  obtain ⟨ms, hms, hmp, hml⟩ : ∃ ms : List Int, ns.map V.int ++ zs = ms.map V.int ∧ 0 < ms.length ∧ ms.length ≤ 64 := by
    by_cases h0 : ns.length = 0
    · have : ns = [] := List.length_eq_zero_iff.mp h0
      subst this
      refine ⟨[0], ?_, by simp, by simp⟩
      rw [← hz, hkz]; rfl
    · refine ⟨ns, ?_, by omega, by omega⟩
      have hf : kz = false := by rw [hkz]; exact decide_eq_false h0
      rw [← hz, hf]
      show ns.map V.int ++ [] = _
      rw [List.append_nil]
  have hlen : (ns.map V.int).length + zs.length ≤ sizeLine := by
    have := congrArg List.length hms
    rw [List.length_append, List.length_map] at this
    rw [List.length_map] at this ⊢
    omega
  refine ⟨p2, p4, ns.map V.int, zs, rfl, rfl, s4 _ _ a23, a4, hlen, fun c nc => ?_⟩
  rw [hms]
  have s5 := same_upd (o := HO.lst (ms.map V.int)) nc
  generalize hH5 : upd H4 c (.lst (ms.map V.int)) = H5 at s5
  have a5 : H5 c = some (.lst (ms.map V.int)) := by rw [← hH5, upd_same]
  have sB : Same H H4 := sA.trans s4
  have hc : H c = none := sB.free nc
  have sC : Same H H5 := sB.trans s5
  -- the list of three
  refine ⟨.ref c, rfl, .ref c, rfl, c, rfl, ⟨_, .inl (.inl a5)⟩, fun D nD => ?_⟩
  have hD : H D = none := sC.free nD
  have hDc : c ≠ D := ne_of_none a5 nD
  refine lc_list (K := K) (xs := ms.map V.int) (fun i H => ∃ rs : List Int, rs.length = i ∧ H D = some (.lst (rs.map V.int)) ∧ (∀ b, b ≠ D → H b = H5 b)) ?_ ?_ ?_ ?_
  · exact ⟨[], rfl, by rw [upd_same]; rfl, fun b hb => upd_ne hb⟩
  · rintro i H' - ⟨rs, _, _, ho⟩
    exact .inl (.inl (by rw [ho c hDc]; exact a5))
  · rintro i x H' hx ⟨rs, hrl, hrD, ho⟩
    rw [List.getElem?_map] at hx
    obtain ⟨z, hz1, hz2⟩ := Option.map_eq_some_iff.mp hx
    subst hz2
    refine ⟨rfl, ?_⟩
    refine tYes_if ?_
    refine ⟨.int z, rfl, .int z, rfl, 10, 18, rfl, rfl, ⟨by decide, by decide, by decide⟩, z, _, rfl, rfl, .inr ⟨_, rfl, z, _, rfl, rfl, .inr (by split <;> constructor <;> decide), rs.map V.int, hrD, ?_, ?_⟩⟩
    · have hi := (List.getElem?_eq_some_iff.mp hz1).1
      rw [List.length_map]
      omega
    · refine ⟨rs ++ [z * if decide (10 ^ (18 : Int).toNat ≤ z) = true then 1 else 0], by rw [List.length_append, hrl]; rfl, ?_, fun b hb => ?_⟩
      · rw [upd_same, List.map_append]; rfl
      · rw [upd_ne hb]; exact ho b hb
  · rintro H' ⟨rs, hrl, hrD, ho⟩
    refine ⟨(by show 3 ≤ sizeLine; decide), fun r nr => ?_⟩
    have e5 : H5 r = none := by
      have : r ≠ D := fun e => by rw [e, hrD] at nr; cases nr
      rw [← ho r this]; exact nr
    have hr : H r = none := sC.free e5
    have rc : r ≠ c := fun e => by rw [e, a5] at e5; cases e5
    have rD : r ≠ D := fun e => by rw [e, hrD] at nr; cases nr
    refine fin r c D _ (fun b o e => ?_) hr hc hD ⟨⟨ms, rs, by rw [upd_same]; rfl, ?_, ?_, ?_, hmp⟩, rc, rD, hDc⟩
    · have b1 : b ≠ r := ne_of_none e hr
      have b2 : b ≠ D := ne_of_none e hD
      rw [upd_ne b1, ho b b2]
      exact sC _ _ e
    · rw [upd_ne (Ne.symm rc), ho c hDc]; exact a5
    · rw [upd_ne (Ne.symm rD)]; exact hrD
    · rw [hrl, List.length_map]
section
variable {P : Program} {w : World} {K : PySem.W.Frag} {mg : Str → Option Value} {base : Heap}
theorem ok_draws {x : Str} {st : Stmt} {f : Addr} {fd : FuncData} {N ps : List Str} {k : Nat} (F : Fn K x x st f fd) (S : FnScope N ps (defScope st)) (hN : N.length = 3) (hp : ps.length = 1)
    (body : ∀ (cdv : Value) (A : Around) (outer : List Env) (s : Shared) (H : Hp) (E : XK), Room k (A.deeper (envOfC x (defScope st) s.heap.objs.size f cdv)) →
      PSs (cxOf CX0 P w K mg base N x (defScope st) f cdv A outer s H E).nox (defBody st) (tDrawsB K [2])) : FnOk P w K mg base CX0 (k + 1) f fd ps (spDraws K) := by
  refine F.ok S (fun vs H Q E h => ?_) (fun cdv A outer s H vs Q E hr h => ⟨_, body cdv A outer s H E hr, ?_⟩)
  · obtain ⟨a, ns, rfl, _⟩ := h
    rw [hp]; rfl
  · obtain ⟨a, ns, rfl, hs, hl, q⟩ := h
    have e : L2.start N [V.ref a] = [some (.ref a), none, none] := by
      unfold L2.start
      rw [hN]; rfl
    rw [e]
    exact draws_read hs hl fun r c q' H' h1 h2 h3 h4 h5 => q r c q' H' h1 h2 h3 h4 h5

def Glo (P : Program) (w : World) (K : PySem.W.Frag) (mg : Str → Option Value) (base : Heap) (x : Str) (n : Nat) (sp : Sp) (k : Nat) : Prop :=
  ∃ f fd ps, FnOk P w K mg base CX0 k f fd ps sp ∧ mg x = some (.ref f) ∧ PySem.W.keepIn K (.ref f) = true ∧ Binds K fd ps [] ∧ ps.length = n
theorem Glo.at {X : Cx} {x : Str} {n : Nat} {sp : Sp} {j k : Nat} (g : Glo X.prog X.w X.K X.mg X.base x n sp j) (hr : Room k X.A) (h : j ≤ k := by decide) : Def X x n sp := by
  obtain ⟨f, fd, ps, F, m, kp, b, e⟩ := g
  exact ⟨f, fd, k, ps, F.mono h, hr, m, kp, b, e⟩
def spLaw (K : PySem.W.Frag) : Sp := fun vs H Q _ => ∃ (a : Addr) (ns : List Int), vs = [.ref a] ∧ SqL K H a (ns.map V.int) ∧ ns.length ≤ 63 ∧ ∀ H', Q (.bl true) H'
theorem ok_law {x : Str} {s0 : Stmt} {rest : List Stmt} {st : Stmt} {f : Addr} {fd : FuncData} {N : List Str} {p : Str} {k i : Nat} (F : Fn K x x st f fd) (S : FnScope N [p] (defScope st)) (hi : 0 < i) (hb : defBody st = s0 :: rest)
    (body : ∃ t : Addr → PSx Nat, (∀ (cdv : Value) (A : Around) (outer : List Env) (s : Shared) (H : Hp) (E : XK), Room k (A.deeper (envOfC x (defScope st) s.heap.objs.size f cdv)) →
      PS (cxOf CX0 P w K mg base N x (defScope st) f cdv A outer s H E).nox s0 (tAsg (tCall (spDraws K) [] E0 (tCons (tVar 0) tNil)) (gName i)) ∧
      ∀ r c q, QSs (cxOf CX0 P w K mg base N x (defScope st) f cdv A outer s H E).nox (gr K r c q) rest (t r)) ∧
      ∀ r, t r { nx := fun _ => False, rt := fun d _ => d = .bl true } ⟨(List.replicate N.length none).set i (some (.val (.obj r))), 0⟩) : FnOk P w K mg base CX0 (k + 1) f fd [p] (spLaw K) := by
  obtain ⟨t, hd, hp⟩ := body
  refine F.ok S (fun vs H Q E h => ?_) (fun cdv A outer s H vs Q E hr h => ?_)
  · obtain ⟨a, ns, rfl, _⟩ := h; rfl
  · obtain ⟨d0, d1⟩ := hd cdv A outer s H E hr
    obtain ⟨a, ns, rfl, hs, hl, q⟩ := h
    rw [hb]
    have dd : PSs (cxOf CX0 P w K mg base N x (defScope st) f cdv A outer s H E).nox rest (fun De σ H' => ∃ r c q', lS (gr K r c q') (t r) De σ H') := ⟨fun pins s1 σ H1 De I ⟨r, c, q', h⟩ => (d1 r c q').run pins s1 σ H1 De I h⟩
    refine ⟨_, pss_cons d0 dd, ?_⟩
    have hN : 0 < N.length := by have := congrArg List.length S.pre; rw [List.length_take] at this; simp at this; omega
    refine ⟨.ref a, ?_, a, ns, rfl, hs, hl, fun r c q' H' k1 hr1 hc1 hq1 J => ?_⟩
    · show (L2.start N [V.ref a])[0]? = _
      rfl
    · refine ⟨r, c, q', ⟨fun _ => none, fun _ => False, fun _ h => h.elim⟩, fun _ => none, _, _, ?_, hp r, ?_, ?_, ?_, ?_⟩
      · have hlen : (L2.start N [V.ref a]).length = N.length := by unfold L2.start; simp; omega
        have at_i : ∀ (j : Nat) l, ((List.replicate N.length (none : Option L)).set i (some (.val (.obj r))))[j]? = some (some l) → j = i ∧ l = .val (.obj r) ∧ i < N.length := fun j l e => by
          by_cases hji : i = j
          · subst hji
            have hl' : i < (List.replicate N.length (none : Option L)).length := by
              have := (List.getElem?_eq_some_iff.mp e).1
              simpa using this
            rw [List.getElem?_set_self hl'] at e
            cases e
            exact ⟨rfl, rfl, by simpa using hl'⟩
          · rw [List.getElem?_set_ne hji, List.getElem?_replicate] at e
            split at e <;> cases e
        refine ⟨fun _ _ h => (by cases h), fun _ _ h => (by cases h), fun _ _ => rfl, by simp [hlen], fun j d e => ?_, fun j l e ol => ?_, fun j j2 l m b _ e ol _ _ => ?_, J, fun _ _ => rfl, fun _ _ => rfl, fun _ _ h => (by cases h)⟩
        · obtain ⟨rfl, e2, hl'⟩ := at_i j _ e
          cases e2
          exact ⟨.ref r, by rw [List.getElem?_set_self (by rw [hlen]; exact hl')], rfl⟩
        · obtain ⟨_, e2, _⟩ := at_i j _ e; subst e2; cases ol
        · obtain ⟨_, e2, _⟩ := at_i j _ e; subst e2; cases ol
      · intro s' Z' σ' H2 h; exact h.elim
      · intro d s' Z' σ' v H2 h _ _ a'
        have h' : d = .bl true := h
        subst h'
        have e : v = .bl true := a'
        rw [e]; exact q _
      · intro s' Z' σ' H2 h; exact h.elim
      · intro s' Z' σ' H2 h; exact h.elim
end
end Pm
set_option Elab.async false
set_option linter.all false
set_option maxRecDepth 100000
set_option maxHeartbeats 1000000
set_option autoImplicit false
namespace Pm
open PySem PySem.Spec
open PyProof.Rows hiding St
open L2

def Sz (b : Nat) (i : Int) : Prop := i.natAbs < 2 ^ b
theorem Sz.le {a b : Nat} {i : Int} (h : Sz a i) (k : a ≤ b) : Sz b i := Nat.lt_of_lt_of_le h (Nat.pow_le_pow_right (by decide) k)
theorem Sz.mul {a b : Nat} {i j : Int} (h : Sz a i) (k : Sz b j) : Sz (a + b) (i * j) := by
  unfold Sz at *
  rw [Int.natAbs_mul, Nat.pow_add]
  exact Nat.mul_lt_mul'' h k
theorem Sz.log {b : Nat} {i : Int} (h : Sz b i) (k : 0 < b) : i.natAbs.log2 < b := PySem.Flt.log2_lt_of k h
theorem Sz.mulOk {a b : Nat} {i j : Int} (h : Sz a i) (k : Sz b j) (l : a + b < 900000 := by omega) : MulOk i j := by
  have h1 := (h.le (Nat.le_succ a)).log (Nat.succ_pos a)
  have h2 := (k.le (Nat.le_succ b)).log (Nat.succ_pos b)
  refine .inr ?_
  unfold CMulW
  omega
theorem divOk_of {b : Nat} {i j : Int} (h : Sz b j) (h0 : j ≠ 0) (l : b ≤ 9000 := by omega) : DivOk i j := ⟨h0, (h.le l).log (by decide)⟩

def SzR (b : Nat) (x : Rat) : Prop := Sz b x.num ∧ Sz b x.den
theorem natAbs_div_le (a : Int) (b : Nat) : (a / (b : Int)).natAbs ≤ a.natAbs := by
  rcases Nat.eq_zero_or_pos b with rfl | h
  · simp
  · exact Int.natAbs_ediv_le_natAbs a b
theorem SzR.mk {b : Nat} {n : Int} {d : Nat} (hn : Sz b n) (hd : Sz b d) (h0 : d ≠ 0) : SzR b (mkRat n d) := by
  refine ⟨?_, ?_⟩
  · unfold Sz at *
    rw [Rat.num_mkRat, if_neg h0]
    exact Nat.lt_of_le_of_lt (natAbs_div_le _ _) hn
  · unfold Sz at *
    rw [Rat.den_mkRat, if_neg h0]
    refine Nat.lt_of_le_of_lt ?_ hd
    show d / d.gcd n.natAbs ≤ d
    exact Nat.div_le_self _ _
theorem SzR.divInt {b : Nat} {n d : Int} (hn : Sz b n) (hd : Sz b d) (h0 : d ≠ 0) : SzR b (Rat.divInt n d) := by
  rcases Int.lt_or_gt_of_ne h0 with h | h
  · have e : Rat.divInt n d = mkRat (-n) d.natAbs := by
      rw [← Rat.neg_divInt_neg, ← Rat.divInt_ofNat]
      congr 1; omega
    rw [e]
    exact SzR.mk (by unfold Sz at *; omega) (by unfold Sz at *; omega) (by omega)
  · have e : Rat.divInt n d = mkRat n d.natAbs := by
      rw [← Rat.divInt_ofNat]
      congr 1; omega
    rw [e]
    exact SzR.mk hn (by unfold Sz at *; omega) (by omega)
theorem pe_callD {X : Cx} {x : Str} {n : Nat} {sp : Sp} {e : Expr} {es : List Expr} {ta : TA} {p pos : Pos} (d : Def X x n sp) (hg : Gl X x) (ha : PA X (e :: es) ta) (hdb : (x == ("__debug__" : Str)) = false := by decide) (he : starEach (e :: es) X.env = (false, eval e X.env) :: starEach es X.env := by rfl) (hpl : (backTo pos (starEach es X.env)).any (·.1) = false := by rfl) :
    PE X (.Call (.Name x p) (e :: es) [] pos) (tCall sp [] E0 ta) := by
  obtain ⟨fa, fd, k, ps, F, hr, hm, hk, hb, _⟩ := d.ex
  exact pe_call F hr hg hm hk hb .nil pass0 ha hdb he hpl
def wkL : List (Option L) → List (Option L) → Prop
  | [], [] => True
  | a :: as, b :: bs => (b = none ∨ b = a) ∧ wkL as bs
  | _, _ => False
theorem wkL_at : ∀ {ρ ρ' : List (Option L)}, wkL ρ ρ' → ρ'.length = ρ.length ∧ ∀ (i : Nat) l, ρ'[i]? = some (some l) → ρ[i]? = some (some l)
  | [], [], _ => ⟨rfl, fun _ _ h => h⟩
  | a :: as, b :: bs, h => by
    obtain ⟨h1, h2⟩ := wkL_at h.2
    refine ⟨by simp [h1], fun i l e => ?_⟩
    cases i with
    | zero =>
      simp only [List.getElem?_cons_zero, Option.some.injEq] at e ⊢
      rcases h.1 with h | h
      · rw [h] at e; cases e
      · rw [← h]; exact e
    | succ i => simp only [List.getElem?_cons_succ] at e ⊢; exact h2 i l e
  | [], _ :: _, h => h.elim
  | _ :: _, [], h => h.elim
section
variable {γ : Type}
theorem Wk.of {ρ ρ' : List (Option L)} {g : γ} (h : wkL ρ ρ') : Wk (⟨ρ, g⟩ : S γ) ⟨ρ', g⟩ := ⟨rfl, (wkL_at h).1, (wkL_at h).2⟩
theorem seq_mid {t U : PSx γ} {E : En γ} {s : S γ} (M : S γ → Prop) (hU : ∀ s', M s' → U E s') (h : ∀ N : S γ → Prop, (∀ s', M s' → N s') → t { E with nx := N } s) : qSeq t U E s := h _ hU
end
theorem int_ne {x y : Int} (hc : (!D.eqv (.int x) (.int y)) = true) (h : x = y) : False := by
  rw [show D.eqv (.int x) (.int y) = decide (x = y) from rfl, decide_eq_true h] at hc; cases hc
theorem bl_ne {x y : Bool} (hc : (!D.eqv (.bl x) (.bl y)) = true) (h : x = y) : False := by
  subst h; cases x <;> cases hc
end Pm
set_option Elab.async false
set_option linter.all false
set_option maxRecDepth 100000
set_option maxHeartbeats 1000000
set_option autoImplicit false
namespace Pm
open PySem PySem.Spec
open PyProof.Rows hiding St
open L2
mutual
def D.wid : D → Nat
  | .non => 8
  | .bl _ => 8
  | .int _ => 2000
  | .str x => 10 * x.length + 8
  | .lst xs => D.wids xs + 8
  | .tup xs => D.wids xs + 8
  | .dct _ _ => 8
  | .obj _ => 8
def D.wids : List D → Nat
  | [] => 0
  | d :: ds => d.wid + 8 + D.wids ds
end
theorem D.wid_pos (d : D) : 8 ≤ d.wid := by cases d <;> simp only [D.wid] <;> omega
theorem D.wids_len : ∀ ds : List D, 16 * ds.length ≤ D.wids ds
  | [] => Nat.zero_le _
  | d :: ds => by
    have h := D.wids_len ds
    have := d.wid_pos
    simp only [D.wids, List.length_cons]; omega
theorem D.wids_mem : ∀ {ds : List D} {d : D}, d ∈ ds → d.wid ≤ D.wids ds
  | e :: ds, d, h => by
    rcases List.mem_cons.mp h with rfl | h
    · simp only [D.wids]; omega
    · have := D.wids_mem h
      simp only [D.wids]; omega
theorem D.plns_mem : ∀ {ds : List D} {d : D}, D.plns ds = true → d ∈ ds → d.pln = true
  | e :: ds, d, k, h => by
    simp only [D.plns, Bool.and_eq_true] at k
    rcases List.mem_cons.mp h with rfl | h
    · exact k.1
    · exact D.plns_mem k.2 h
theorem D.deps_mem : ∀ {ds : List D} {d : D}, d ∈ ds → d.dep ≤ D.deps ds
  | e :: ds, d, h => by
    rcases List.mem_cons.mp h with rfl | h
    · simp only [D.deps]; omega
    · have := D.deps_mem h
      simp only [D.deps]; omega
mutual
theorem eqv_refl : ∀ d : D, d.pln = true → D.eqv d d = true
  | .non, _ => rfl
  | .bl b, _ => by simp [D.eqv]
  | .int i, _ => by simp [D.eqv]
  | .str x, _ => by simp [D.eqv]
  | .lst xs, h => by
    simp only [D.eqv]
    exact eqvs_refl xs (by simpa [D.pln] using h)
  | .tup xs, h => by
    simp only [D.eqv]
    exact eqvs_refl xs (by simpa [D.pln] using h)
  | .dct _ _, h => by simp [D.pln] at h
  | .obj _, h => by simp [D.pln] at h
theorem eqvs_refl : ∀ ds : List D, D.plns ds = true → D.eqvs ds ds = true
  | [], _ => rfl
  | d :: ds, h => by
    simp only [D.plns, Bool.and_eq_true] at h
    simp only [D.eqvs, eqv_refl d h.1, eqvs_refl ds h.2, Bool.and_self]
end
theorem pln_obj {d : D} (h : d.pln = true) : ∀ p, d ≠ .obj p := fun p e => by subst e; simp [D.pln] at h
theorem isTy_tup (d : D) : isTy "tuple" d = match d with | .tup _ => true | _ => false := by cases d <;> rfl
theorem isTy_bl (d : D) : isTy "bool" d = match d with | .bl _ => true | _ => false := by cases d <;> rfl
theorem zip_self {xs : List D} {i : Nat} {d : D} (h : (zipD xs xs)[i]? = some d) : ∃ x, xs[i]? = some x ∧ x ∈ xs ∧ d = .tup [x, x] := by
  obtain ⟨x, y, h1, h2, rfl⟩ := zipD_get h
  rw [h1] at h2; cases h2
  exact ⟨x, h1, List.mem_of_getElem? h1, rfl⟩
theorem all_trues (n : Nat) : ((List.replicate n true).all id) = true := by simp
theorem bls_trues (n : Nat) : asBls (List.replicate n (D.bl true)) = some (List.replicate n true) := by
  rw [← List.map_replicate]; exact asBls_map _
theorem eq_no {d : D} (p : d.pln = true) (hc : D.eqv d d = false) : False := by rw [eqv_refl d p] at hc; cases hc
theorem wipeL_get (ρ : List (Option L)) : ∀ (vs : List Nat) (i : Nat), (wipeL ρ vs)[i]? = if i ∈ vs ∧ i < ρ.length then some none else ρ[i]?
  | [], i => by simp [wipeL]
  | v :: vs, i => by
    unfold wipeL
    have ih := wipeL_get ρ vs i
    have ln := wipeL_length ρ vs
    rw [List.getElem?_set, ih, ln]
    by_cases h : v = i
    · subst h
      by_cases h2 : v < ρ.length
      · simp [h2]
      · simp [h2]
    · have : i ≠ v := fun e => h e.symm
      simp [h, this]
mutual
theorem put_out : ∀ {t : Tg} {d : D} {ρ ρ' : List (Option L)}, t.put d ρ = some ρ' → ρ'.length = ρ.length ∧ ∀ i, i ∉ t.js → ρ'[i]? = ρ[i]?
  | .nm j, d, ρ, ρ', h => by
    simp only [Tg.put, Option.some.injEq] at h
    subst h
    exact ⟨by simp, fun i hi => List.getElem?_set_ne (by simpa [Tg.js, eq_comm] using hi)⟩
  | .tp ts, d, ρ, ρ', h => by
    cases d with
    | tup ds =>
      simp only [Tg.put] at h
      exact puts_out h
    | lst ds =>
      simp only [Tg.put] at h
      exact puts_out h
    | _ => simp [Tg.put] at h
theorem puts_out : ∀ {ts : List Tg} {ds : List D} {ρ ρ' : List (Option L)}, Tg.puts ts ds ρ = some ρ' → ρ'.length = ρ.length ∧ ∀ i, i ∉ Tg.jss ts → ρ'[i]? = ρ[i]?
  | [], [], ρ, ρ', h => by
    simp only [Tg.puts, Option.some.injEq] at h
    subst h
    exact ⟨rfl, fun _ _ => rfl⟩
  | [], _ :: _, _, _, h => by simp [Tg.puts] at h
  | _ :: _, [], _, _, h => by simp [Tg.puts] at h
  | t :: ts, d :: ds, ρ, ρ', h => by
    simp only [Tg.puts] at h
    cases hp : t.put d ρ with
    | none => rw [hp] at h; simp at h
    | some ρ1 =>
      rw [hp] at h
      simp only [Option.bind_some] at h
      obtain ⟨a1, a2⟩ := put_out hp
      obtain ⟨b1, b2⟩ := puts_out h
      refine ⟨b1.trans a1, fun i hi => ?_⟩
      simp only [Tg.jss, List.mem_append, not_or] at hi
      rw [b2 i hi.2, a2 i hi.1]
end
theorem put_wipe {t : Tg} {d : D} {ρ ρ' : List (Option L)} {vs : List Nat} (h : t.put d (wipeL ρ vs) = some ρ') (hj : ∀ j ∈ t.js, j ∈ vs) : wipeL ρ' vs = wipeL ρ vs := by
  obtain ⟨a1, a2⟩ := put_out h
  rw [wipeL_length] at a1
  refine List.ext_getElem? fun i => ?_
  rw [wipeL_get, wipeL_get, a1]
  by_cases hi : i ∈ vs
  · by_cases hl : i < ρ.length
    · simp [hi, hl]
    · simp only [hl, and_false, if_false]
      rw [List.getElem?_eq_none (by omega), List.getElem?_eq_none (by omega)]
  · simp only [hi, false_and, if_false]
    rw [a2 i fun e => hi (hj i e), wipeL_get]
    simp [hi]
theorem line_big : (10000000 : Nat) ≤ sizeLine := by rw [sizeLine_eq]; decide
end Pm
set_option Elab.async false
set_option linter.all false
set_option maxRecDepth 100000
set_option maxHeartbeats 1000000
set_option autoImplicit false
namespace Pm
open PySem PySem.Spec
open PyProof.Rows hiding St
open L2
def itD (q : Int × Int) : D := .tup [.int q.1, .int q.2]
structure Pan where
  its : List (Int × Int)
  rus : List (Int × Int)
def panD (p : Pan) : D := .tup [.tup (p.its.map itD), .tup (p.rus.map itD)]
def ItOk (q : Int × Int) : Prop := -(10 ^ 9) ≤ q.1 ∧ q.1 ≤ 10 ^ 9 ∧ 1 ≤ q.2 ∧ q.2 ≤ 10 ^ 6
def RuOk (n : Nat) (q : Int × Int) : Prop := 0 ≤ q.1 ∧ q.1 < n ∧ 0 ≤ q.2 ∧ q.2 < n ∧ q.1 ≠ q.2
structure PanOk (most : Nat) (p : Pan) : Prop where
  one : 1 ≤ p.its.length
  top : p.its.length ≤ most
  it : ∀ q ∈ p.its, ItOk q
  few : p.rus.length ≤ 16
  ru : ∀ q ∈ p.rus, RuOk p.its.length q
end Pm
set_option Elab.async false
set_option linter.all false
set_option maxRecDepth 100000
set_option maxHeartbeats 1000000
set_option autoImplicit false
namespace Pm
open PySem PySem.Spec
open PyProof.Rows hiding St
open L2
theorem divInt_mul {M W : Int} (h : 0 < W) : Rat.divInt M W * (W : Rat) = (M : Rat) := by
  rw [Rat.divInt_eq_div]
  exact Rat.div_mul_cancel (by
    intro e
    have := Rat.intCast_pos.mpr h
    rw [e] at this
    exact Rat.lt_irrefl this)
def selI (its : List (Int × Int)) (gs : List Nat) : List (Int × Int) := gs.map fun i => its.getD i (0, 1)
def sM (l : List (Int × Int)) : Int := (l.map fun q => q.1 * q.2).sum
def sW (l : List (Int × Int)) : Int := (l.map fun q => q.2).sum
def avg (l : List (Int × Int)) : Rat := Rat.divInt (sM l) (sW l)
theorem sM_cons (q : Int × Int) (l : List (Int × Int)) : sM (q :: l) = q.1 * q.2 + sM l := by simp [sM]
theorem sW_cons (q : Int × Int) (l : List (Int × Int)) : sW (q :: l) = q.2 + sW l := by simp [sW]
def ItB (q : Int × Int) : Prop := Sz 70 q.1 ∧ Sz 70 q.2 ∧ 1 ≤ q.2
theorem ItOk.b {q : Int × Int} (h : ItOk q) : ItB q := by
  obtain ⟨a, b, c, d⟩ := h
  have : (10 : Int) ^ 9 < 2 ^ 70 := by decide
  have : (10 : Int) ^ 6 < 2 ^ 70 := by decide
  have e : ((2 ^ 70 : Nat) : Int) = 2 ^ 70 := by decide
  exact ⟨by unfold Sz; omega, by unfold Sz; omega, c⟩
theorem sW_ge {l : List (Int × Int)} (h : ∀ q ∈ l, ItB q) : (l.length : Int) ≤ sW l := by
  induction l with
  | nil => simp [sW]
  | cons q l ih =>
    have := ih fun z hz => h z (by simp [hz])
    have := (h q (by simp)).2.2
    rw [sW_cons, List.length_cons]; omega
theorem sW_le {l : List (Int × Int)} (h : ∀ q ∈ l, ItB q) : (sW l).natAbs ≤ l.length * 2 ^ 70 := by
  induction l with
  | nil => simp [sW]
  | cons q l ih =>
    have h1 := ih fun z hz => h z (by simp [hz])
    have h2 := (h q (by simp)).2.1
    unfold Sz at h2
    rw [sW_cons, List.length_cons, Nat.add_mul]; omega
theorem sM_le {l : List (Int × Int)} (h : ∀ q ∈ l, ItB q) : (sM l).natAbs ≤ l.length * 2 ^ 140 := by
  induction l with
  | nil => simp [sM]
  | cons q l ih =>
    have h1 := ih fun z hz => h z (by simp [hz])
    have h2 := (h q (by simp)).1.mul (h q (by simp)).2.1
    unfold Sz at h2
    rw [sM_cons, List.length_cons, Nat.add_mul]; omega
theorem sz_sums {l : List (Int × Int)} (h : ∀ q ∈ l, ItB q) (hn : l.length ≤ 1000) : Sz 150 (sM l) ∧ Sz 150 (sW l) := by
  have h1 := sM_le h
  have h2 := sW_le h
  unfold Sz
  have e1 : l.length * 2 ^ 140 ≤ 1000 * 2 ^ 140 := Nat.mul_le_mul_right _ hn
  have e2 : l.length * 2 ^ 70 ≤ 1000 * 2 ^ 70 := Nat.mul_le_mul_right _ hn
  have e3 : 1000 * 2 ^ 140 < 2 ^ 150 := by decide
  have e4 : 1000 * 2 ^ 70 < 2 ^ 150 := by decide
  omega
theorem avg_sz {l : List (Int × Int)} (h : ∀ q ∈ l, ItB q) (hn : l.length ≤ 1000) (h0 : l ≠ []) : SzR 150 (avg l) := by
  obtain ⟨a, b⟩ := sz_sums h hn
  have h1 := sW_ge h
  have h2 : 0 < l.length := List.length_pos_iff.mpr h0
  exact SzR.divInt a b (by omega)
def pD (its : List (Int × Int)) (rd : D) : D := .tup [.tup (its.map itD), rd]
def natD (i : Nat) : D := .int i
def grD (gs : List Nat) : D := .tup (gs.map natD)
theorem sel_mem {its : List (Int × Int)} {gs : List Nat} (h : ∀ i ∈ gs, i < its.length) {q : Int × Int} (hq : q ∈ selI its gs) : q ∈ its := by
  obtain ⟨i, hi, rfl⟩ := List.mem_map.mp hq
  have hl := h i hi
  rw [List.getD_eq_getElem?_getD, List.getElem?_eq_getElem hl]
  exact List.getElem_mem hl
theorem getD_at {its : List (Int × Int)} {i : Nat} (h : i < its.length) : its[i]? = some (its.getD i (0, 1)) := by
  rw [List.getD_eq_getElem?_getD, List.getElem?_eq_getElem h]; rfl
theorem idx_it {its : List (Int × Int)} {i : Nat} (h : i < its.length) : idx (its.map itD) (i : Int) = some (itD (its.getD i (0, 1))) := by
  rw [idx_nat', List.getElem?_map, getD_at h]; rfl
theorem sel_ne {its : List (Int × Int)} {gs : List Nat} (h : gs ≠ []) : selI its gs ≠ [] := by
  unfold selI
  intro e
  exact h (List.map_eq_nil_iff.mp e)
end Pm
set_option Elab.async false
set_option linter.all false
set_option maxRecDepth 100000
set_option maxHeartbeats 1000000
set_option autoImplicit false
namespace Pm
open PySem PySem.Spec
open PyProof.Rows hiding St
open L2
theorem nats_pln (gs : List Nat) : D.plns (gs.map natD) = true := by
  induction gs with
  | nil => rfl
  | cons q l ih => simp only [List.map_cons, D.plns, ih]; rfl
theorem in_nats {gs : List Nat} {k : Nat} : (gs.map natD).any (fun y => D.eqv y (.int k)) = decide (k ∈ gs) := by
  rw [Bool.eq_iff_iff, decide_eq_true_iff, List.any_eq_true]
  constructor
  · rintro ⟨y, hy, e⟩
    obtain ⟨i, hi, rfl⟩ := List.mem_map.mp hy
    have : (i : Int) = k := by simpa [natD, D.eqv] using e
    have : i = k := by omega
    rw [← this]; exact hi
  · intro h
    exact ⟨natD k, List.mem_map.mpr ⟨k, h, rfl⟩, by simp [natD, D.eqv]⟩
theorem notin_nats {gs : List Nat} {k : Nat} : (true ^^ (gs.map natD).any fun y => D.eqv y (.int k)) = !decide (k ∈ gs) := by rw [in_nats]; simp
theorem isin_nats {gs : List Nat} {k : Nat} : (false ^^ (gs.map natD).any fun y => D.eqv y (.int k)) = decide (k ∈ gs) := by rw [in_nats]; simp
theorem sz_of {b : Nat} {n : Int} (hb : 50 ≤ b) (h1 : -(10 ^ 12) ≤ n) (h2 : n ≤ 10 ^ 12) : Sz b n := by
  have : Sz 50 n := by
    unfold Sz
    have e : (10 : Int) ^ 12 < 2 ^ 50 := by decide
    have e2 : ((2 ^ 50 : Nat) : Int) = 2 ^ 50 := by decide
    omega
  exact this.le hb
def grpS : List Nat → List (List Nat)
  | [] => [[]]
  | i :: l => [] :: ((grpS l).map (i :: ·) ++ (grpS l).tail)
theorem grpS_length : ∀ l : List Nat, (grpS l).length = 2 ^ l.length
  | [] => rfl
  | i :: l => by
    have ih := grpS_length l
    have hp : 0 < 2 ^ l.length := Nat.pow_pos (by decide)
    simp only [grpS, List.length_cons, List.length_append, List.length_map, List.length_tail, ih, Nat.pow_succ]
    omega
theorem grpS_sub : ∀ {l gs : List Nat}, gs ∈ grpS l → gs.Sublist l
  | [], gs, h => by
    have : gs = [] := by simpa [grpS] using h
    rw [this]; exact List.Sublist.refl _
  | i :: l, gs, h => by
    simp only [grpS, List.mem_cons, List.mem_append, List.mem_map] at h
    rcases h with rfl | ⟨k, hk, rfl⟩ | h
    · exact List.nil_sublist _
    · exact (grpS_sub hk).cons_cons i
    · exact (grpS_sub (List.mem_of_mem_tail h)).cons i
theorem grpS_cons_ne : ∀ l : List Nat, ∃ r, grpS l = [] :: r
  | [] => ⟨[], rfl⟩
  | i :: l => ⟨_, rfl⟩
theorem sub_grpS : ∀ {l gs : List Nat}, gs.Sublist l → gs ∈ grpS l
  | [], gs, h => by
    rw [List.sublist_nil.mp h]; simp [grpS]
  | i :: l, gs, h => by
    simp only [grpS, List.mem_cons, List.mem_append, List.mem_map]
    cases h with
    | cons _ h =>
      have := sub_grpS h
      obtain ⟨r, e⟩ := grpS_cons_ne l
      rw [e] at this ⊢
      rcases List.mem_cons.mp this with rfl | h2
      · exact .inl rfl
      · exact .inr (.inr h2)
    | cons_cons _ h => exact .inr (.inl ⟨_, sub_grpS h, rfl⟩)
end Pm
set_option Elab.async false
set_option linter.all false
set_option maxRecDepth 100000
set_option maxHeartbeats 1000000
set_option autoImplicit false
namespace Pm
def sm (f : Nat → Rat) : List Nat → Rat
  | [] => 0
  | i :: l => f i + sm f l
theorem sm_append (f : Nat → Rat) : ∀ l k : List Nat, sm f (l ++ k) = sm f l + sm f k
  | [], k => by simp only [List.nil_append, sm]; grind
  | i :: l, k => by simp only [List.cons_append, sm, sm_append f l k]; grind
theorem sm_perm {f : Nat → Rat} {l k : List Nat} (h : l.Perm k) : sm f l = sm f k := by
  induction h with
  | nil => rfl
  | cons q _ ih => simp only [sm, ih]
  | swap a b l => simp only [sm]; grind
  | trans _ _ a b => exact a.trans b
theorem sm_congr {f g : Nat → Rat} : ∀ {l : List Nat}, (∀ i ∈ l, f i = g i) → sm f l = sm g l
  | [], _ => rfl
  | i :: l, h => by simp only [sm, h i (by simp), sm_congr (l := l) fun j hj => h j (by simp [hj])]
theorem sm_split (f : Nat → Rat) (p : Nat → Bool) : ∀ l : List Nat, sm f (l.filter p) + sm f (l.filter fun i => !p i) = sm f l
  | [] => by simp only [List.filter_nil, sm]; grind
  | i :: l => by
    have := sm_split f p l
    cases h : p i <;> simp only [List.filter_cons, h, sm, Bool.not_true, Bool.not_false, if_true, if_false, Bool.false_eq_true] <;> grind
theorem sm_le {f g : Nat → Rat} : ∀ {l : List Nat}, (∀ i ∈ l, f i ≤ g i) → sm f l ≤ sm g l
  | [], _ => Rat.le_refl
  | i :: l, h => by
    have h1 := h i (by simp)
    have h2 := sm_le (l := l) fun j hj => h j (by simp [hj])
    simp only [sm]; grind
theorem sm_nonneg {f : Nat → Rat} {l : List Nat} (h : ∀ i ∈ l, 0 ≤ f i) : 0 ≤ sm f l := by
  induction l with
  | nil => exact Rat.le_refl
  | cons i l ih =>
    have h1 := h i (by simp)
    have h2 := ih fun j hj => h j (by simp [hj])
    simp only [sm]; grind
theorem sm_pos {f : Nat → Rat} {l : List Nat} (h : ∀ i ∈ l, 0 < f i) (h0 : l ≠ []) : 0 < sm f l := by
  cases l with
  | nil => exact absurd rfl h0
  | cons i l =>
    have h1 := h i (by simp)
    have h2 := sm_nonneg (f := f) (l := l) fun j hj => Rat.le_of_lt (h j (by simp [hj]))
    simp only [sm]; grind
theorem sm_add (f g : Nat → Rat) : ∀ l : List Nat, sm (fun i => f i + g i) l = sm f l + sm g l
  | [] => by simp only [sm]; grind
  | i :: l => by simp only [sm, sm_add f g l]; grind
theorem sm_sub (f g : Nat → Rat) : ∀ l : List Nat, sm (fun i => f i - g i) l = sm f l - sm g l
  | [] => by simp only [sm]; grind
  | i :: l => by simp only [sm, sm_sub f g l]; grind
theorem sm_mul (c : Rat) (f : Nat → Rat) : ∀ l : List Nat, sm (fun i => c * f i) l = c * sm f l
  | [] => by simp only [sm]; grind
  | i :: l => by simp only [sm, sm_mul c f l]; grind
theorem sm_flat (f : Nat → Rat) : ∀ ps : List (List Nat), sm f ps.flatten = (ps.map (sm f)).sum
  | [] => rfl
  | p :: ps => by rw [List.flatten_cons, sm_append, sm_flat f ps, List.map_cons, List.sum_cons]
theorem exists_min {α : Type} (f : α → Rat) : ∀ {l : List α}, l ≠ [] → ∃ i ∈ l, ∀ j ∈ l, f i ≤ f j
  | [], h => absurd rfl h
  | [i], _ => ⟨i, by simp, fun j hj => by simp at hj; subst hj; exact Rat.le_refl⟩
  | i :: k :: l, _ => by
    obtain ⟨x, h1, h2⟩ := exists_min f (l := k :: l) (by simp)
    by_cases h : f i ≤ f x
    · refine ⟨i, by simp, fun j hj => ?_⟩
      rcases List.mem_cons.mp hj with rfl | hj
      · exact Rat.le_refl
      · exact Rat.le_trans h (h2 j hj)
    · refine ⟨x, by simp [List.mem_cons.mp h1], fun j hj => ?_⟩
      rcases List.mem_cons.mp hj with rfl | hj
      · grind
      · exact h2 j hj
theorem mul_nonneg' {a b : Rat} (h : 0 ≤ a) (k : 0 ≤ b) : 0 ≤ a * b := Rat.mul_nonneg h k

section
variable {E : Nat → Nat → Prop} {l : List Nat} {m w r s : Nat → Rat}
def UpS (E : Nat → Nat → Prop) (U : Nat → Bool) : Prop := ∀ a b, E a b → U a = true → U b = true
def Obey (E : Nat → Nat → Prop) (r : Nat → Rat) : Prop := ∀ a b, E a b → r a ≤ r b
def fw (m w r : Nat → Rat) (i : Nat) : Rat := w i * (m i - r i)
def RUp (r : Nat → Rat) (U : Nat → Bool) : Prop := ∀ i j, r i ≤ r j → U i = true → U j = true
structure Best (l : List Nat) (E : Nat → Nat → Prop) (m w r : Nat → Rat) : Prop where
  ob : Obey E r
  up : ∀ U, UpS E U → sm (fw m w r) (l.filter U) ≤ 0
  lv : ∀ U, RUp r U → sm (fw m w r) (l.filter U) = 0
theorem RUp.up {U : Nat → Bool} (o : Obey E r) (h : RUp r U) : UpS E U := fun a b e k => h a b (o a b e) k
theorem rup_ge (v : Rat) : RUp r fun i => decide (v ≤ r i) := fun i j h k => by
  simp only [decide_eq_true_eq] at k ⊢; exact Rat.le_trans k h
theorem rup_gt (v : Rat) : RUp r fun i => decide (v < r i) := fun i j h k => by
  simp only [decide_eq_true_eq] at k ⊢; grind
theorem layer {g : Nat → Rat} : ∀ (n : Nat) (l : List Nat), l.length ≤ n → (∀ U, RUp s U → sm g (l.filter U) ≤ 0) → ∀ c, (∀ i ∈ l, c ≤ s i) → sm (fun i => g i * s i) l ≤ c * sm g l
  | n, [], _, _, c, _ => by simp only [sm]; grind
  | 0, i :: l, h, _, _, _ => by simp at h
  | n + 1, i :: t, hn, h, c, hc => by
    obtain ⟨x, hx, hm⟩ := exists_min s (l := i :: t) (by simp)
    generalize hl : i :: t = l at *
    have h1 := sm_split g (fun j => decide (s x < s j)) l
    have h2 := sm_split (fun j => g j * s j) (fun j => decide (s x < s j)) l
    have lt : (l.filter fun j => decide (s x < s j)).length ≤ n := by
      have : (l.filter fun j => decide (s x < s j)).length < l.length := by
        have e : (l.filter fun j => decide (s x < s j)).length ≤ l.length := List.length_filter_le _ _
        rcases Nat.lt_or_eq_of_le e with e | e
        · exact e
        · have := List.length_filter_eq_length_iff.mp e x hx
          simp at this
      omega
    have ih := layer (g := g) n (l.filter fun j => decide (s x < s j)) lt (fun U hU => ?_) (s x) (fun j hj => by
      have := (List.mem_filter.mp hj).2
      simp only [decide_eq_true_eq] at this
      exact Rat.le_of_lt this)
    · have e3 : sm (fun j => g j * s j) (l.filter fun j => !decide (s x < s j)) = s x * sm g (l.filter fun j => !decide (s x < s j)) := by
        rw [← sm_mul]
        refine sm_congr fun j hj => ?_
        obtain ⟨a, b⟩ := List.mem_filter.mp hj
        have b' : ¬ s x < s j := by simpa using b
        have := hm j a
        have e : s j = s x := by grind
        rw [e]; exact Rat.mul_comm _ _
      have all : sm g l ≤ 0 := by
        have := h (fun _ => true) fun _ _ _ _ => rfl
        rwa [List.filter_eq_self.mpr fun _ _ => rfl] at this
      have cx : c ≤ s x := hc x hx
      have h3 : 0 ≤ (s x - c) * (0 - sm g l) := Rat.mul_nonneg (by grind) (by grind)
      have h4 : s x * sm g (l.filter fun j => decide (s x < s j)) + s x * sm g (l.filter fun j => !decide (s x < s j)) = s x * sm g l := by rw [← Rat.mul_add, h1]
      have h5 : (s x - c) * (0 - sm g l) = c * sm g l - s x * sm g l := by clear h hc hx hm h1 h2 lt ih e3 all cx h3 h4; grind
      rw [← h2, e3]
      rw [h5] at h3
      generalize s x * sm g l = A at *
      generalize c * sm g l = B at *
      generalize s x * sm g (l.filter fun j => decide (s x < s j)) = C at *
      generalize s x * sm g (l.filter fun j => !decide (s x < s j)) = D at *
      generalize sm (fun i => g i * s i) (l.filter fun j => decide (s x < s j)) = F at *
      clear h1 h2 h hc hm lt hx all e3 h5
      grind
    · rw [List.filter_filter]
      exact h _ fun a b hab hk => by
        simp only [Bool.and_eq_true, decide_eq_true_eq] at hk ⊢
        exact ⟨hU a b hab hk.1, by grind⟩
theorem Best.all (b : Best l E m w r) : sm (fw m w r) l = 0 := by
  have := b.lv (fun _ => true) fun _ _ _ _ => rfl
  rwa [List.filter_eq_self.mpr fun _ _ => rfl] at this
theorem exists_le (f : Nat → Rat) (l : List Nat) : ∃ c, ∀ i ∈ l, c ≤ f i := by
  cases l with
  | nil => exact ⟨0, fun i h => absurd h (by simp)⟩
  | cons a t => obtain ⟨x, _, h⟩ := exists_min f (l := a :: t) (by simp); exact ⟨f x, h⟩
theorem Best.dot_self (b : Best l E m w r) : sm (fun i => fw m w r i * r i) l = 0 := by
  obtain ⟨c, hc⟩ := exists_le r l
  have h1 := layer (s := r) (g := fw m w r) l.length l (Nat.le_refl _) (fun U h => by rw [b.lv U h]; exact Rat.le_refl) c hc
  have e : ∀ k : List Nat, sm (fun i => -1 * fw m w r i) k = -1 * sm (fw m w r) k := sm_mul (-1) (fw m w r)
  have h2 := layer (s := r) (g := fun i => -1 * fw m w r i) l.length l (Nat.le_refl _) (fun U h => by rw [e, b.lv U h]; grind) c hc
  have e2 : sm (fun i => -1 * fw m w r i * r i) l = -1 * sm (fun i => fw m w r i * r i) l := by
    rw [← sm_mul]; exact sm_congr fun i _ => by grind
  rw [e, b.all, e2] at h2
  rw [b.all] at h1
  grind
theorem Best.dot (b : Best l E m w r) (hs : Obey E s) : sm (fun i => fw m w r i * s i) l ≤ 0 := by
  obtain ⟨c, hc⟩ := exists_le s l
  have h1 := layer (s := s) (g := fw m w r) l.length l (Nat.le_refl _) (fun U h => b.up U (h.up hs)) c hc
  rw [b.all] at h1; grind
def costS (l : List Nat) (m w r : Nat → Rat) : Rat := sm (fun i => w i * ((r i - m i) * (r i - m i))) l
theorem Best.cost (b : Best l E m w r) (hs : Obey E s) : costS l m w r + sm (fun i => w i * ((s i - r i) * (s i - r i))) l ≤ costS l m w s := by
  have h1 := b.dot hs
  have h2 := b.dot_self
  have e : costS l m w s = costS l m w r + sm (fun i => w i * ((s i - r i) * (s i - r i))) l + (-2) * (sm (fun i => fw m w r i * s i) l - sm (fun i => fw m w r i * r i) l) := by
    unfold costS
    rw [← sm_sub, ← sm_mul, ← sm_add, ← sm_add]
    exact sm_congr fun i _ => by simp only [fw]; grind
  rw [e, h2]; grind
theorem Best.unique (b : Best l E m w r) (b' : Best l E m w s) (hw : ∀ i ∈ l, 0 < w i) : ∀ i ∈ l, r i = s i := by
  have h1 := b.cost b'.ob
  have h2 := b'.cost b.ob
  have e : sm (fun i => w i * ((r i - s i) * (r i - s i))) l = sm (fun i => w i * ((s i - r i) * (s i - r i))) l := sm_congr fun i _ => by grind
  rw [e] at h2
  have h3 : sm (fun i => w i * ((s i - r i) * (s i - r i))) l ≤ 0 := by grind
  intro i hi
  have sq : ∀ j ∈ l, 0 ≤ w j * ((s j - r j) * (s j - r j)) := fun j hj => Rat.mul_nonneg (Rat.le_of_lt (hw j hj)) (by
    rcases (show 0 ≤ s j - r j ∨ 0 ≤ r j - s j by grind) with h | h
    · exact Rat.mul_nonneg h h
    · have := Rat.mul_nonneg h h; grind)
  by_cases hne : r i = s i
  · exact hne
  exfalso
  have p1 : 0 < (s i - r i) * (s i - r i) := by
    rcases (show 0 < s i - r i ∨ 0 < r i - s i by grind) with h | h
    · exact Rat.mul_pos h h
    · have := Rat.mul_pos h h; grind
  have p2 := Rat.mul_pos (hw i hi) p1
  obtain ⟨a, c, rfl⟩ := List.append_of_mem hi
  rw [sm_append] at h3
  simp only [sm] at h3
  have n1 := sm_nonneg (l := a) fun j hj => sq j (by simp [hj])
  have n2 := sm_nonneg (l := c) fun j hj => sq j (by simp [hj])
  grind
end
section
variable {E : Nat → Nat → Prop} {l : List Nat} {m w : Nat → Rat}
def ex (m w : Nat → Rat) (a : Rat) (k : List Nat) : Rat := sm (fun i => w i * (m i - a)) k
def avS (m w : Nat → Rat) (k : List Nat) : Rat := sm (fun i => w i * m i) k / sm w k
theorem ex_eq (m w : Nat → Rat) (a : Rat) (k : List Nat) : ex m w a k = sm (fun i => w i * m i) k - a * sm w k := by
  unfold ex
  rw [← sm_mul, ← sm_sub]; exact sm_congr fun i _ => by grind
theorem ex_av (k : List Nat) (h : 0 < sm w k) : ex m w (avS m w k) k = 0 := by
  rw [ex_eq]; unfold avS
  rw [Rat.div_mul_cancel (by grind)]; grind
def PUp (E : Nat → Nat → Prop) (p : List Nat) (U : Nat → Bool) : Prop := ∀ a ∈ p, ∀ b ∈ p, E a b → U a = true → U b = true
def HiB (E : Nat → Nat → Prop) (m w : Nat → Rat) (p : List Nat) (a : Rat) : Prop := ∀ U, PUp E p U → ex m w a (p.filter U) ≤ 0
def LoB (E : Nat → Nat → Prop) (m w : Nat → Rat) (p : List Nat) (a : Rat) : Prop := ∀ U, PUp E p U → 0 ≤ ex m w a (p.filter fun i => !U i)
def Below (E : Nat → Nat → Prop) (m w : Nat → Rat) (p q : List Nat) : Prop := (∃ a, HiB E m w p a ∧ LoB E m w q a) ∧ ∀ x ∈ p, ∀ y ∈ q, ¬ E y x
theorem ex_split (a : Rat) (U : Nat → Bool) (p : List Nat) : ex m w a (p.filter U) + ex m w a (p.filter fun i => !U i) = ex m w a p := sm_split _ U p
theorem HiB.all {p : List Nat} {a : Rat} (h : HiB E m w p a) : ex m w a p ≤ 0 := by
  have := h (fun _ => true) fun _ _ _ _ _ _ => rfl
  rwa [List.filter_eq_self.mpr fun _ _ => rfl] at this
theorem LoB.all {p : List Nat} {a : Rat} (h : LoB E m w p a) : 0 ≤ ex m w a p := by
  have := h (fun _ => false) fun _ _ _ _ _ h => h
  have e : (p.filter fun i => !false) = p := List.filter_eq_self.mpr fun _ _ => rfl
  rwa [e] at this
theorem HiB.av {p : List Nat} {a : Rat} (h : HiB E m w p a) (hw : 0 < sm w p) : avS m w p ≤ a := by
  have h1 := h.all
  have h2 := ex_av (m := m) p hw
  rw [ex_eq] at h1 h2
  rcases (show avS m w p ≤ a ∨ a < avS m w p by grind) with z | z
  · exact z
  · have := Rat.mul_pos (show 0 < avS m w p - a by grind) hw
    grind
theorem LoB.av {p : List Nat} {a : Rat} (h : LoB E m w p a) (hw : 0 < sm w p) : a ≤ avS m w p := by
  have h1 := h.all
  have h2 := ex_av (m := m) p hw
  rw [ex_eq] at h1 h2
  rcases (show a ≤ avS m w p ∨ avS m w p < a by grind) with z | z
  · exact z
  · have := Rat.mul_pos (show 0 < a - avS m w p by grind) hw
    grind
structure Split (E : Nat → Nat → Prop) (m w : Nat → Rat) (p : List Nat) (U : Nat → Bool) : Prop where
  up : PUp E p U
  most : ∀ V, PUp E p V → ex m w (avS m w p) (p.filter V) ≤ ex m w (avS m w p) (p.filter U)
theorem ff {p : List Nat} (U V : Nat → Bool) : (p.filter U).filter V = p.filter fun i => V i && U i := List.filter_filter ..
theorem flt {p q : Nat → Bool} (l : List Nat) (h : ∀ i, p i = q i) : l.filter p = l.filter q := congrArg (fun z => List.filter z l) (funext h)
theorem Split.hi {p : List Nat} {U : Nat → Bool} (h : Split E m w p U) : HiB E m w (p.filter fun i => !U i) (avS m w p) := fun V hV => by
  have up : PUp E p fun i => U i || V i := fun a ha b hb e k => by
    simp only [Bool.or_eq_true] at k ⊢
    rcases k with k | k
    · exact .inl (h.up a ha b hb e k)
    · cases q : U b with
      | true => exact .inl rfl
      | false =>
        cases q2 : U a with
        | true => rw [h.up a ha b hb e q2] at q; cases q
        | false => exact .inr (hV a (List.mem_filter.mpr ⟨ha, by simp [q2]⟩) b (List.mem_filter.mpr ⟨hb, by simp [q]⟩) e k)
  have h1 := h.most _ up
  have h2 := ex_split (m := m) (w := w) (avS m w p) U (p.filter fun i => U i || V i)
  rw [ff, ff] at h2
  rw [ff]
  have e1 : (p.filter fun i => U i && (U i || V i)) = p.filter U := flt p fun i => by cases U i <;> simp
  have e2 : (p.filter fun i => !U i && (U i || V i)) = p.filter fun i => V i && !U i := flt p fun i => by cases U i <;> simp
  rw [e1, e2] at h2
  grind
theorem Split.lo {p : List Nat} {U : Nat → Bool} (h : Split E m w p U) : LoB E m w (p.filter U) (avS m w p) := fun V hV => by
  have up : PUp E p fun i => V i && U i := fun a ha b hb e k => by
    simp only [Bool.and_eq_true] at k ⊢
    have := h.up a ha b hb e k.2
    exact ⟨hV a (List.mem_filter.mpr ⟨ha, k.2⟩) b (List.mem_filter.mpr ⟨hb, this⟩) e k.1, this⟩
  have h1 := h.most _ up
  have h2 := ex_split (m := m) (w := w) (avS m w p) V (p.filter U)
  rw [ff, ff] at h2
  rw [ff]
  grind
theorem ex_mono {a b : Rat} {k : List Nat} (h : a ≤ b) (hw : ∀ i ∈ k, 0 ≤ w i) : ex m w b k ≤ ex m w a k := sm_le fun i hi => by
  have := Rat.mul_nonneg (hw i hi) (show 0 ≤ b - a by grind)
  grind
theorem LoB.lower {p : List Nat} {U : Nat → Bool} {a : Rat} (h : LoB E m w p a) (hU : PUp E p U) : LoB E m w (p.filter fun i => !U i) a := fun V hV => by
  have up : PUp E p fun i => U i || V i := fun x hx y hy e k => by
    simp only [Bool.or_eq_true] at k ⊢
    rcases k with k | k
    · exact .inl (hU x hx y hy e k)
    · cases q : U y with
      | true => exact .inl rfl
      | false =>
        cases q2 : U x with
        | true => rw [hU x hx y hy e q2] at q; cases q
        | false => exact .inr (hV x (List.mem_filter.mpr ⟨hx, by simp [q2]⟩) y (List.mem_filter.mpr ⟨hy, by simp [q]⟩) e k)
  have := h _ up
  rw [ff]
  rwa [flt p (q := fun i => !V i && !U i) fun i => by cases U i <;> cases V i <;> rfl] at this
theorem HiB.upper {p : List Nat} {U : Nat → Bool} {a : Rat} (h : HiB E m w p a) (hU : PUp E p U) : HiB E m w (p.filter U) a := fun V hV => by
  have up : PUp E p fun i => V i && U i := fun x hx y hy e k => by
    simp only [Bool.and_eq_true] at k ⊢
    have := hU x hx y hy e k.2
    exact ⟨hV x (List.mem_filter.mpr ⟨hx, k.2⟩) y (List.mem_filter.mpr ⟨hy, this⟩) e k.1, this⟩
  rw [ff]; exact h _ up
theorem LoB.le {p : List Nat} {a b : Rat} (h : LoB E m w p b) (k : a ≤ b) (hw : ∀ i ∈ p, 0 ≤ w i) : LoB E m w p a := fun U hU => by
  have h1 := h U hU
  have h2 := ex_mono (m := m) (w := w) (k := p.filter fun i => !U i) k fun i hi => hw i (List.mem_filter.mp hi).1
  exact Rat.le_trans h1 h2
theorem HiB.le {p : List Nat} {a b : Rat} (h : HiB E m w p a) (k : a ≤ b) (hw : ∀ i ∈ p, 0 ≤ w i) : HiB E m w p b := fun U hU => by
  have h1 := h U hU
  have h2 := ex_mono (m := m) (w := w) (k := p.filter U) k fun i hi => hw i (List.mem_filter.mp hi).1
  exact Rat.le_trans h2 h1
theorem Split.below {p : List Nat} {U : Nat → Bool} (h : Split E m w p U) : Below E m w (p.filter fun i => !U i) (p.filter U) :=
  ⟨⟨_, h.hi, h.lo⟩, fun x hx y hy e => by
    obtain ⟨x1, x2⟩ := List.mem_filter.mp hx
    obtain ⟨y1, y2⟩ := List.mem_filter.mp hy
    have := h.up y y1 x x1 e y2
    simp [this] at x2⟩
theorem Below.left {p q : List Nat} {U : Nat → Bool} (h : Below E m w p q) (s : Split E m w q U) (hw : ∀ i ∈ q, 0 ≤ w i) (hp : 0 < sm w q) : Below E m w p (q.filter U) ∧ Below E m w p (q.filter fun i => !U i) := by
  obtain ⟨⟨a, h1, h2⟩, h3⟩ := h
  refine ⟨⟨⟨a, h1, s.lo.le (h2.av hp) fun i hi => hw i (List.mem_filter.mp hi).1⟩, fun x hx y hy => h3 x hx y (List.mem_filter.mp hy).1⟩, ⟨⟨a, h1, h2.lower s.up⟩, fun x hx y hy => h3 x hx y (List.mem_filter.mp hy).1⟩⟩
theorem Below.right {p q : List Nat} {U : Nat → Bool} (h : Below E m w p q) (s : Split E m w p U) (hw : ∀ i ∈ p, 0 ≤ w i) (hp : 0 < sm w p) : Below E m w (p.filter U) q ∧ Below E m w (p.filter fun i => !U i) q := by
  obtain ⟨⟨a, h1, h2⟩, h3⟩ := h
  refine ⟨⟨⟨a, h1.upper s.up, h2⟩, fun x hx y hy => h3 x (List.mem_filter.mp hx).1 y hy⟩, ⟨⟨a, s.hi.le (h1.av hp) fun i hi => hw i (List.mem_filter.mp hi).1, h2⟩, fun x hx y hy => h3 x (List.mem_filter.mp hx).1 y hy⟩⟩
def Chain (E : Nat → Nat → Prop) (m w : Nat → Rat) (ps : List (List Nat)) : Prop := ps.Pairwise (Below E m w)
theorem Chain.split {a b : List (List Nat)} {p : List Nat} {U : Nat → Bool} (h : Chain E m w (a ++ p :: b)) (s : Split E m w p U) (hw : ∀ i ∈ p, 0 ≤ w i) (hp : 0 < sm w p) : Chain E m w (a ++ (p.filter fun i => !U i) :: (p.filter U) :: b) := by
  unfold Chain at *
  rw [List.pairwise_append, List.pairwise_cons] at h ⊢
  obtain ⟨h1, ⟨h2, h3⟩, h4⟩ := h
  refine ⟨h1, ⟨fun q hq => ?_, List.pairwise_cons.mpr ⟨fun q hq => ((h2 q hq).right s hw hp).1, h3⟩⟩, fun q hq z hz => ?_⟩
  · rcases List.mem_cons.mp hq with rfl | hq
    · exact s.below
    · exact ((h2 q hq).right s hw hp).2
  · have := (h4 q hq p (by simp)).left s hw hp
    rcases List.mem_cons.mp hz with rfl | hz
    · exact this.2
    · rcases List.mem_cons.mp hz with rfl | hz
      · exact this.1
      · exact h4 q hq z (by simp [hz])
def Whole (E : Nat → Nat → Prop) (m w : Nat → Rat) (p : List Nat) : Prop := ∀ U, PUp E p U → ex m w (avS m w p) (p.filter U) ≤ 0
theorem pw_mem {α : Type} {R : α → α → Prop} : ∀ {l : List α}, l.Pairwise R → ∀ {x y}, x ∈ l → y ∈ l → x = y ∨ R x y ∨ R y x
  | [], _, _, _, h, _ => absurd h (by simp)
  | a :: l, h, x, y, hx, hy => by
    rw [List.pairwise_cons] at h
    rcases List.mem_cons.mp hx with rfl | hx
    · rcases List.mem_cons.mp hy with rfl | hy
      · exact .inl rfl
      · exact .inr (.inl (h.1 y hy))
    · rcases List.mem_cons.mp hy with e | hy
      · exact .inr (.inr (e ▸ h.1 x hx))
      · exact pw_mem h.2 hx hy
theorem flat_filter (U : Nat → Bool) : ∀ ps : List (List Nat), ps.flatten.filter U = (ps.map fun p => p.filter U).flatten
  | [] => rfl
  | p :: ps => by simp [List.filter_append, flat_filter U ps]
theorem sum_map_le {ps : List (List Nat)} {f : List Nat → Rat} (h : ∀ p ∈ ps, f p ≤ 0) : (ps.map f).sum ≤ 0 := by
  induction ps with
  | nil => exact Rat.le_refl
  | cons p ps ih =>
    have h1 := h p (by simp)
    have h2 := ih fun q hq => h q (by simp [hq])
    rw [List.map_cons, List.sum_cons]; grind
theorem sum_map_zero {ps : List (List Nat)} {f : List Nat → Rat} (h : ∀ p ∈ ps, f p = 0) : (ps.map f).sum = 0 := by
  induction ps with
  | nil => rfl
  | cons p ps ih =>
    have h1 := h p (by simp)
    have h2 := ih fun q hq => h q (by simp [hq])
    rw [List.map_cons, List.sum_cons]; grind
theorem Chain.best {ps : List (List Nat)} {r : Nat → Rat} (h : Chain E m w ps) (hE : ∀ a b, E a b → a ∈ l ∧ b ∈ l) (hl : ps.flatten.Perm l) (nd : l.Nodup) (hw : ∀ i ∈ l, 0 < w i) (hn : ∀ p ∈ ps, p ≠ []) (hf : ∀ p ∈ ps, Whole E m w p) (hr : ∀ p ∈ ps, ∀ i ∈ p, r i = avS m w p) : Best l E m w r := by
  have pw : ∀ p ∈ ps, 0 < sm w p := fun p hp => sm_pos (fun i hi => hw i (hl.mem_iff.mp (List.mem_flatten.mpr ⟨p, hp, hi⟩))) (hn p hp)
  have eqf : ∀ p ∈ ps, ∀ U : Nat → Bool, sm (fw m w r) (p.filter U) = ex m w (avS m w p) (p.filter U) := fun p hp U => sm_congr fun i hi => by
    simp only [fw]; rw [hr p hp i (List.mem_filter.mp hi).1]
  have tot : ∀ U : Nat → Bool, sm (fw m w r) (l.filter U) = (ps.map fun p => ex m w (avS m w p) (p.filter U)).sum := fun U => by
    rw [← sm_perm (hl.filter U), flat_filter, sm_flat, List.map_map]
    congr 1
    exact List.map_congr_left fun p hp => eqf p hp U
  refine ⟨fun a b e => ?_, fun U hU => ?_, fun U hU => ?_⟩
  · obtain ⟨ha, hb⟩ := hE a b e
    obtain ⟨p, hp, ap⟩ := List.mem_flatten.mp (hl.mem_iff.mpr ha)
    obtain ⟨q, hq, bq⟩ := List.mem_flatten.mp (hl.mem_iff.mpr hb)
    rw [hr p hp a ap, hr q hq b bq]
    by_cases hpq : p = q
    · rw [hpq]; exact Rat.le_refl
    · rcases (pw_mem h hp hq).resolve_left hpq with o | o
      · obtain ⟨⟨c, h1, h2⟩, _⟩ := o
        exact Rat.le_trans (h1.av (pw p hp)) (h2.av (pw q hq))
      · exact absurd e (o.2 b bq a ap)
  · rw [tot]
    exact sum_map_le fun p hp => hf p hp U fun a _ b _ e k => hU a b e k
  · rw [tot]
    refine sum_map_zero fun p hp => ?_
    by_cases hx : ∃ x ∈ p, U x = true
    · obtain ⟨x, hx, hu⟩ := hx
      have : p.filter U = p := List.filter_eq_self.mpr fun y hy => hU x y (by rw [hr p hp x hx, hr p hp y hy]; exact Rat.le_refl) hu
      rw [this]; exact ex_av p (pw p hp)
    · have : p.filter U = [] := List.filter_eq_nil_iff.mpr fun y hy hu => hx ⟨y, hy, hu⟩
      rw [this]; rfl
end
end Pm
set_option Elab.async false
set_option linter.all false
set_option maxRecDepth 100000
set_option maxHeartbeats 1000000
set_option autoImplicit false
namespace Pm
open PySem PySem.Spec
open PyProof.Rows hiding St
open L2
variable {γ : Type}
def noOwn (ρ : List (Option L)) (vs : List Nat) : Bool := vs.all fun v => match ρ[v]? with
  | some (some (.own _)) => false
  | some (some (.dic _)) => false
  | _ => true
theorem back_wipe {s : S γ} {vs : List Nat} (h : noOwn s.ρ vs = true) : s.back vs (s.wipe vs) = s := by
  obtain ⟨ρ, g⟩ := s
  have e : (S.back (⟨ρ, g⟩ : S γ) vs (S.wipe (⟨ρ, g⟩ : S γ) vs)).ρ = ρ := by
    refine List.ext_getElem? fun i => ?_
    simp only [S.back, S.wipe, List.getElem?_mapIdx]
    rw [wipeL_get]
    by_cases hi : i ∈ vs
    · have h1 := List.all_eq_true.mp h i hi
      by_cases hl : i < ρ.length
      · rw [if_pos ⟨hi, hl⟩]
        simp only [Option.map_some, if_pos hi]
        rw [List.getElem?_eq_getElem hl] at h1 ⊢
        unfold keepVal
        cases q : ρ[i] with
        | none => simp [q]
        | some l => cases l with
          | val d => simp [q]
          | own ds => rw [q] at h1; simp at h1
          | dic ds => rw [q] at h1; simp at h1
      · rw [if_neg (fun z => hl z.2), List.getElem?_eq_none (by omega)]; rfl
    · rw [if_neg fun z => hi z.1]
      cases q : ρ[i]? with
      | none => rfl
      | some o => simp [hi]
  show (⟨_, _⟩ : S γ) = _
  exact congrArg (fun z => (⟨z, g⟩ : S γ)) e
theorem back_wipeG {s : S γ} {vs : List Nat} {g : γ} (h : noOwn s.ρ vs = true) : s.back vs ⟨wipeL s.ρ vs, g⟩ = ⟨s.ρ, g⟩ := by
  have e := congrArg S.ρ (back_wipe h)
  show (⟨_, g⟩ : S γ) = _
  exact congrArg (fun z => (⟨z, g⟩ : S γ)) e
theorem lc_runG {tg : Tg} {vs : List Nat} {tt : PTx γ} {te : PEx γ} {R : List D → S γ → Prop} {ds : List D} {s1 : S γ} (J : Nat → List D → γ → Prop) (h0 : J 0 [] s1.g)
    (step : ∀ i d acc g, ds[i]? = some d → J i acc g → ∃ ρ', tg.put d (wipeL s1.ρ vs) = some ρ' ∧ ((∀ g' : γ, Wk ((⟨ρ', g'⟩ : S γ).wipe vs) ⟨wipeL s1.ρ vs, g'⟩) →
      tt ⟨ρ', g⟩ fun b s3 => Br b (te s3 fun y s4 => acc.length + 1 ≤ sizeLine ∧ ∃ s5, Wk (s4.wipe vs) s5 ∧ ∃ g', s5 = ⟨wipeL s1.ρ vs, g'⟩ ∧ J (i + 1) (acc ++ [y]) g') (∃ s5, Wk (s3.wipe vs) s5 ∧ ∃ g', s5 = ⟨wipeL s1.ρ vs, g'⟩ ∧ J (i + 1) acc g')))
    (fin : ∀ acc g, J ds.length acc g → R acc ⟨s1.ρ, g⟩) (hj : ∀ j ∈ tg.js, j ∈ vs := by decide) (ho : noOwn s1.ρ vs = true := by rfl) : lcB tg vs tt te R ds s1 := by
  refine ⟨fun i acc s => ∃ g', s = ⟨wipeL s1.ρ vs, g'⟩ ∧ J i acc g', ⟨_, Wk.refl _, s1.g, rfl, h0⟩, ?_, ?_⟩
  · rintro i d acc s hd ⟨g, rfl, hJ⟩
    obtain ⟨ρ', h1, h2⟩ := step i d acc g hd hJ
    unfold qPut
    show match tg.put d (wipeL s1.ρ vs) with | some ρ' => _ | none => False
    rw [h1]
    refine h2 fun g' => ?_
    show Wk (⟨wipeL ρ' vs, g'⟩ : S γ) _
    rw [put_wipe h1 hj]
    exact Wk.refl _
  · rintro acc s ⟨g, rfl, hJ⟩
    rw [back_wipeG ho]
    exact fin acc g hJ
theorem lc_list {α : Type} {tg : Tg} {vs : List Nat} {tt : PTx γ} {te : PEx γ} {R : List D → S γ → Prop} {s1 : S γ} (l : List α) (e : α → D) (P : α → Bool) (g : α → D) (hn : l.length ≤ 1000000)
    (step : ∀ a ∈ l, ∃ ρ', tg.put (e a) (wipeL s1.ρ vs) = some ρ' ∧ (∀ T : Bool → S γ → Prop, T (P a) ⟨ρ', s1.g⟩ → tt ⟨ρ', s1.g⟩ T) ∧ (P a = true → ∀ T : D → S γ → Prop, T (g a) ⟨ρ', s1.g⟩ → te ⟨ρ', s1.g⟩ T))
    (fin : R ((l.filter P).map g) s1) (hj : ∀ j ∈ tg.js, j ∈ vs) (ho : noOwn s1.ρ vs = true) : lcB tg vs tt te R (l.map e) s1 := by
  have line := sizeLine_eq
  refine lc_runG (fun i acc g' => g' = s1.g ∧ acc = ((l.take i).filter P).map g) ⟨rfl, by simp⟩ ?_ ?_ hj ho
  · rintro i d acc g' hd ⟨rfl, rfl⟩
    rw [List.getElem?_map] at hd
    obtain ⟨a, ha, rfl⟩ := Option.map_eq_some_iff.mp hd
    obtain ⟨ρ', h1, h2, h3⟩ := step a (List.mem_of_getElem? ha)
    refine ⟨ρ', h1, fun W => h2 _ ⟨fun hb => h3 hb _ ⟨?_, _, W _, _, rfl, rfl, ?_⟩, fun hb => ⟨_, W _, _, rfl, rfl, ?_⟩⟩⟩
    · have h1 := List.length_filter_le P (l.take i)
      have h2 := List.length_take_le i l
      have h3 : (l.take i).length ≤ l.length := by rw [List.length_take]; omega
      rw [List.length_map]; omega
    · rw [List.take_add_one, ha, List.filter_append, List.map_append]
      simp [hb]
    · rw [List.take_add_one, ha, List.filter_append, List.map_append]
      simp [hb]
  · rintro acc g' ⟨rfl, rfl⟩
    rw [List.length_map, List.take_of_length_le (Nat.le_refl _)]
    exact fin
theorem lc_mapl {α : Type} {tg : Tg} {vs : List Nat} {te : PEx γ} {R : List D → S γ → Prop} {s1 : S γ} (l : List α) (e : α → D) (g : α → D) (hn : l.length ≤ 1000000)
    (step : ∀ a ∈ l, ∃ ρ', tg.put (e a) (wipeL s1.ρ vs) = some ρ' ∧ (∀ T : D → S γ → Prop, T (g a) ⟨ρ', s1.g⟩ → te ⟨ρ', s1.g⟩ T))
    (fin : R (l.map g) s1) (hj : ∀ j ∈ tg.js, j ∈ vs) (ho : noOwn s1.ρ vs = true) : lcB tg vs qYes te R (l.map e) s1 := by
  refine lc_list l e (fun _ => true) g hn (fun a ha => ?_) ?_ hj ho
  · obtain ⟨ρ', h1, h2⟩ := step a ha
    exact ⟨ρ', h1, fun T h => h, fun _ => h2⟩
  · rw [List.filter_eq_self.mpr fun _ _ => rfl]; exact fin
theorem put_nm {i : Nat} {d : D} {s : S γ} {R : S γ → Prop} (h : R ⟨s.ρ.set i (some (.val d)), s.g⟩) : qPut (.nm i) d s R := h
theorem put_tg {tg : Tg} {d : D} {s : S γ} {R : S γ → Prop} {ρ' : List (Option L)} (e : tg.put d s.ρ = some ρ') (h : R ⟨ρ', s.g⟩) : qPut tg d s R := by
  unfold qPut; rw [e]; exact h
theorem lc_all {tg : Tg} {vs : List Nat} {te : PEx γ} {R : List D → S γ → Prop} {s1 : S γ} {ds : List D} (g : D → D) (hn : ds.length ≤ 1000000)
    (step : ∀ a ∈ ds, ∃ ρ', tg.put a (wipeL s1.ρ vs) = some ρ' ∧ (∀ T : D → S γ → Prop, T (g a) ⟨ρ', s1.g⟩ → te ⟨ρ', s1.g⟩ T))
    (fin : R (ds.map g) s1) (hj : ∀ j ∈ tg.js, j ∈ vs) (ho : noOwn s1.ρ vs = true) : lcB tg vs qYes te R ds s1 := by
  have := lc_mapl (tg := tg) (vs := vs) (te := te) (R := R) (s1 := s1) ds id g hn step fin hj ho
  rw [List.map_id] at this; exact this
end Pm
set_option Elab.async false
set_option linter.all false
set_option maxRecDepth 100000
set_option maxHeartbeats 1000000
set_option autoImplicit false
namespace Pm
open PySem PySem.Spec
open PyProof.Rows hiding St
open L2
def scS (l : List (Int × Int)) (n d : Int) : Int := (l.map fun q => q.2 * (q.1 * d - n)).sum
theorem num_den (x : Rat) : (x.num : Rat) = x * ((x.den : Int) : Rat) := by
  have h := divInt_mul (M := x.num) (W := x.den) (by have := x.den_pos; omega)
  rw [Rat.num_divInt_den] at h
  exact h.symm
theorem den_pos (x : Rat) : (0 : Rat) < ((x.den : Int) : Rat) := Rat.intCast_pos.mpr (by have := x.den_pos; omega)
theorem sub_filter {ss gs : List Nat} (h : ss.Sublist gs) (nd : gs.Nodup) : gs.filter (fun i => decide (i ∈ ss)) = ss := by
  induction h with
  | slnil => rfl
  | @cons l k a h ih =>
    rw [List.nodup_cons] at nd
    rw [List.filter_cons, if_neg (by simpa using fun z => nd.1 (h.subset z))]
    exact ih nd.2
  | @cons_cons l k a h ih =>
    rw [List.nodup_cons] at nd
    rw [List.filter_cons, if_pos (by simp)]
    congr 1
    refine Eq.trans (List.filter_congr fun i hi => ?_) (ih nd.2)
    have : i ≠ a := fun e => nd.1 (e ▸ hi)
    simp [this]
theorem zipD_map {α β : Type} (f : α → D) (g : β → D) : ∀ (xs : List α) (ys : List β), zipD (xs.map f) (ys.map g) = (xs.zip ys).map fun p => .tup [f p.1, g p.2]
  | [], _ => by simp [zipD]
  | _ :: _, [] => by simp [zipD]
  | x :: xs, y :: ys => by simp only [List.map_cons, zipD, List.zip_cons_cons, zipD_map f g xs ys]
end Pm
set_option Elab.async false
set_option linter.all false
set_option maxRecDepth 100000
set_option maxHeartbeats 1000000
set_option autoImplicit false
namespace Pm
open PySem PySem.Spec
open PyProof.Rows hiding St
open L2
theorem obsBG_eq {n : Nat} {fa : List He.Fa} {fn : List He.DefD} {ex : PySem.W.Frag → Bool} {g : Addr → Option Obj} {s : Shared} (h : ∀ a, g a = s.heap.get? a) : obsBG n fa fn ex g = (hookB n fa fn ex).obs s := by
  have e : g = s.heap.get? := funext h
  rw [e] <;> rfl
section
variable {fa : List He.Fa} {fn : List He.DefD} {ex : PySem.W.Frag → Bool} {K : PySem.W.Frag}
theorem SaysB.d (c : SaysB fa fn ex K) : He.SaysD fa fn K := congrArg (fun z : He.AlD × Bool => z.1) c
end
end Pm
set_option Elab.async false
set_option linter.all false
set_option maxRecDepth 100000
set_option maxHeartbeats 1000000
set_option autoImplicit false
namespace Pm
open PySem PySem.Spec
open PyProof.Rows hiding St
open L2
variable {γ : Type}
section
variable {X : Cx} {G : GP γ} {a b c e : Expr} {pos : Pos}
def qAugS (p : D → D → DK → Prop) (i : Nat) (te tf : PEx γ) : PSx γ := fun E s => (∃ es, s.ρ[i]? = some (some (.own es))) ∧ te s fun y s1 => match y with
  | .int k => ∃ ds d, s1.ρ[i]? = some (some (.own ds)) ∧ 0 ≤ k ∧ ds[k.toNat]? = some d ∧ tf s1 fun f s2 => p d f fun z => ∃ ds2, s2.ρ[i]? = some (some (.own ds2)) ∧ k.toNat < ds2.length ∧ E.nx ⟨s2.ρ.set i (some (.own (ds2.set k.toNat z))), s2.g⟩
  | _ => False
def MatL (G : GP γ) (F : Fra) (Z : Hp) (s : S γ) (σ : St) (H : Hp) : L → V → Prop
  | .val d, v => At G.K Z d v
  | .own ds, v => ∃ a us, v = .ref a ∧ H a = some (.lst us) ∧ Ats G.K Z ds us ∧ Z a = none ∧ F.F a = none ∧ ¬ G.foot s.g a ∧ Nob s σ a
  | .dic _, _ => False
def L.nd : L → Prop | .dic _ => False | _ => True
theorem MatL.nd {G : GP γ} {F : Fra} {Z : Hp} {s : S γ} {σ : St} {H : Hp} {l : L} {v : V} (m : MatL G F Z s σ H l v) : l.nd := by
  cases l <;> first | trivial | exact m
def Apart : List L → List V → Prop
  | .own _ :: ls, v :: vs => (∀ (k : Nat) (es : List D), ls[k]? = some (.own es) → vs[k]? ≠ some v) ∧ Apart ls vs
  | _ :: ls, _ :: vs => Apart ls vs
  | _, _ => True
def Mats (G : GP γ) (F : Fra) (Z : Hp) (s : S γ) (σ : St) (H : Hp) : List L → List V → Prop
  | [], vs => vs = []
  | l :: ls, vs => ∃ w ws, vs = w :: ws ∧ MatL G F Z s σ H l w ∧ Mats G F Z s σ H ls ws
abbrev PMx (γ : Type) := S γ → (List L → S γ → Prop) → Prop
def lM (G : GP γ) (t : PMx γ) : TA := fun σ H Q => ∃ F Z s R, Rel G F Z s σ H ∧ t s R ∧ ∀ ls s' Z' vs H', R ls s' → Same Z Z' → Rel G F Z' s' σ H' → Mats G F Z' s' σ H' ls vs → Apart ls vs → Q vs H'
abbrev QM (X : Cx) (G : GP γ) (es : List Expr) (t : PMx γ) : Prop := PA X es (lM G t)
def qmNil : PMx γ := fun s R => R [] s
def qmOwn (te : PAx γ) (tr : PMx γ) : PMx γ := fun s R => te s fun ds s1 => tr s1 fun ls s2 => R (.own ds :: ls) s2
theorem qm_nil : QM X G [] (qmNil : PMx γ) := PA.imp pa_nil fun σ H Q ⟨F, Z, s, R, r, t, q⟩ => q [] s Z [] H t (Same.refl _) r rfl trivial
theorem Mats.unbar {F : Fra} {Z : Hp} {s : S γ} {σ : St} {H : Hp} {a : Addr} {o : HO} : ∀ {ls : List L} {vs : List V}, Mats G (F.bar a o) Z s σ H ls vs → Mats G F Z s σ H ls vs ∧ ∀ (k : Nat) (es : List D), ls[k]? = some (.own es) → vs[k]? ≠ some (.ref a)
  | [], vs, h => ⟨h, fun k es e => by simp at e⟩
  | .val d :: ls, vs, ⟨w, ws, e, h1, h2⟩ => by
    obtain ⟨i1, i2⟩ := Mats.unbar h2
    subst e
    refine ⟨⟨w, ws, rfl, h1, i1⟩, fun k es e => ?_⟩
    cases k with
    | zero => simp at e
    | succ k => simpa using i2 k es (by simpa using e)
  | .dic _ :: ls, vs, ⟨w, ws, e, h1, h2⟩ => h1.elim
  | .own ds :: ls, vs, ⟨w, ws, e, ⟨b, us, e2, c1, c2, c3, c4, c5⟩, h2⟩ => by
    obtain ⟨i1, i2⟩ := Mats.unbar h2
    subst e; subst e2
    have hb : b ≠ a := fun z => by
      subst z
      have z : upd F.F b o b = none := c4
      rw [upd_same] at z; cases z
    have c4' : F.F b = none := by
      have z : upd F.F a o b = none := c4
      rw [upd_ne hb] at z; exact z
    refine ⟨⟨_, ws, rfl, ⟨b, us, rfl, c1, c2, c3, c4', c5⟩, i1⟩, fun k es e => ?_⟩
    cases k with
    | zero => intro z; simp only [List.getElem?_cons_zero, Option.some.injEq, V.ref.injEq] at z; exact hb z
    | succ k => simpa using i2 k es (by simpa using e)
theorem qm_own {es : List Expr} {te : PAx γ} {tr : PMx γ} (ha : QF X G e te) (hr : QM X G es tr) (hs : starEach (e :: es) X.env = (false, eval e X.env) :: starEach es X.env := by rfl) : QM X G (e :: es) (qmOwn te tr) := by
  refine PA.imp (pa_cons ha hr hs) fun σ H Q ⟨F, Z, s, R, r, t, q⟩ => ?_
  refine ⟨F, Z, s, _, r, t, fun ds s1 Z1 a us H1 t1 k1 r1 ha1 a1 hz hF hf ho => ?_⟩
  have rb := r1.bar ha1 hz hf ho
  refine ⟨F.bar a (.lst us), Z1, s1, _, rb, t1, fun ls s2 Z2 vs H2 t2 k2 r2 m2 ap => ?_⟩
  obtain ⟨e1, e2, e3, e4, r3⟩ := r2.unbar (o' := .lst us) hF
  have hu : upd H2 a (.lst us) = H2 := by
    funext b
    by_cases hb : b = a
    · subst hb; rw [upd_same, e1]
    · rw [upd_ne hb]
  rw [hu] at r3
  obtain ⟨i1, i2⟩ := m2.unbar
  exact q _ s2 Z2 _ H2 t2 (k1.trans k2) r3 ⟨_, vs, rfl, ⟨a, us, rfl, e1, Ats.mono k2 _ _ a1, e2, hF, e3, e4⟩, i1⟩ ⟨i2, ap⟩
theorem Rel.putL {F : Fra} {Z : Hp} {s : S γ} {σ : St} {H : Hp} (r : Rel G F Z s σ H) {i : Nat} {l : L} {v : V} (m : MatL G F Z s σ H l v) : Rel G F Z ⟨s.ρ.set i (some l), s.g⟩ (σ.set i (some v)) H := by
  cases l with
  | val d => exact r.put m
  | own ds =>
    obtain ⟨a, us, rfl, h1, h2, h3, h4, h5, h6⟩ := m
    exact r.putOwn h1 h2 h3 h4 h5 h6
  | dic _ => exact m.elim
theorem MatL.after {F : Fra} {Z : Hp} {s : S γ} {σ : St} {H : Hp} {i : Nat} {l l' : L} {v v' : V} (hl : s.ρ.length = σ.length) (m : MatL G F Z s σ H l v) (hne : ∀ es es', l = .own es → l' = .own es' → v ≠ v') (hd : l'.nd) : MatL G F Z ⟨s.ρ.set i (some l'), s.g⟩ (σ.set i (some v')) H l v := by
  cases l with
  | val d => exact m
  | own ds =>
    obtain ⟨a, us, rfl, h1, h2, h3, h4, h5, h6⟩ := m
    refine ⟨a, us, rfl, h1, h2, h3, h4, h5, fun j m e om => ?_⟩
    by_cases hij : i = j
    · subst hij
      have hi : i < s.ρ.length := by
        have := (List.getElem?_eq_some_iff.mp e).1
        simpa using this
      rw [List.getElem?_set_self hi] at e
      rw [List.getElem?_set_self (by omega)]
      cases e
      intro z
      cases z
      cases l' with
      | val _ => cases om
      | own es => exact hne ds es rfl rfl rfl
      | dic _ => exact hd
    · rw [List.getElem?_set_ne hij] at e
      rw [List.getElem?_set_ne hij]
      exact h6 j m e om
  | dic _ => exact m.elim
def qParM (i j : Nat) (ta : PMx γ) : PSx γ := fun E s => ta s fun ls s1 => match ls with
  | [d, e] => E.nx ⟨(s1.ρ.set i (some d)).set j (some e), s1.g⟩
  | _ => False
theorem apart2 {l m : L} {v w : V} (h : Apart [l, m] [v, w]) : ∀ es es', m = .own es → l = .own es' → w ≠ v := fun es es' h1 h2 => by
  subst h1; subst h2
  intro z
  subst z
  exact h.1 0 es rfl rfl
variable {i : Nat} {o : Expr} {apos cpos : Pos}
def qPopAt (i : Nat) (te : PEx γ) : PEx γ := fun s R => (∃ es, s.ρ[i]? = some (some (.own es))) ∧ te s fun y s1 => match y with
  | .int k => ∃ ds d, s1.ρ[i]? = some (some (.own ds)) ∧ (0 ≤ k ∧ k < 2 ^ 63) ∧ ds[k.toNat]? = some d ∧ R d ⟨s1.ρ.set i (some (.own (ds.eraseIdx k.toNat))), s1.g⟩
  | _ => False
theorem Ats.eraseIdx {K : PySem.W.Frag} {Z : Hp} : ∀ {ds : List D} {vs : List V} (k : Nat), Ats K Z ds vs → Ats K Z (ds.eraseIdx k) (vs.eraseIdx k)
  | [], _, _, h => by simp only [Ats] at h; subst h; simp [Ats]
  | d :: ds, vs, 0, ⟨w, ws, e, h2, h3⟩ => by subst e; simpa using h3
  | d :: ds, vs, k + 1, ⟨w, ws, e, h2, h3⟩ => by subst e; simp only [List.eraseIdx_cons_succ]; exact ⟨w, _, rfl, h2, Ats.eraseIdx k h3⟩
theorem qe_popAt {te : PEx γ} (hn : PE X o (tVar i)) (he : QE X G e te) (hbase : attributeBase o "pop" X.env (eval o X.env) = eval o X.env := by rfl)
    (hfew : ((backTo cpos (starEach [e] X.env)).all (fun x => !x.1) && (backToKw cpos (keywordEach [] X.env)).all (fun x => x.1.isSome)
      && decide (([e] : List Expr).length + ([] : List Keyword).length + (if ([] : List Keyword).isEmpty then 0 else 1) < 30)) = true := by rfl)
    (hline : (apos.endLine == cpos.line) = true := by rfl) (hs : starEach [e] X.env = (false, eval e X.env) :: starEach [] X.env := by rfl) (hplain : (backTo cpos (starEach [] X.env)).any (·.1) = false := by rfl) :
    QE X G (.Call (.Attribute o "pop" apos) [e] [] cpos) (qPopAt i te) := by
  refine PE.imp (pe_bm PySem.F.plainAttrs_list PySem.F.slot_list_pop PySem.F.type_list_pop mt_popAt hn (pa_cons he pa_nil hs) hbase hfew hline hs hplain) fun σ H Q ⟨F, Z, s, R, r, ⟨⟨es, t0⟩, t⟩, q⟩ => ?_
  obtain ⟨a, vs, h1, h2, _⟩ := r.own i es t0
  refine ⟨.ref a, h1, own_ty h2, F, Z, s, _, r, t, fun y s1 Z1 vy H1 t1 k1 r1 a1 => ?_⟩
  cases y with
  | int k =>
    obtain ⟨ds, d, e1, ⟨k0, k63⟩, e2, t2⟩ := t1
    have a1' : vy = .int k := a1
    obtain ⟨a', vs', g1, g2, g3, _⟩ := r1.own i ds e1
    rw [h1] at g1; cases g1
    obtain ⟨v, e3, av⟩ := g3.get e2
    have hlt : k.toNat < vs'.length := by rw [g3.len]; exact (List.getElem?_eq_some_iff.mp e2).1
    subst a1'
    exact ⟨a, vs', k, k.toNat, v, rfl, rfl, g2, by omega, k63, seqIndex_of k0 (by omega), e3, q _ _ Z1 _ _ t2 k1 (r1.write e1 h1 (g3.eraseIdx k.toNat)) av⟩
  | _ => exact t1.elim
end
end Pm
set_option Elab.async false
set_option linter.all false
set_option maxRecDepth 100000
set_option maxHeartbeats 1000000
set_option autoImplicit false
namespace Pm
open PySem PySem.Spec PySem.W
open PyProof.Rows hiding St
open L2
def IsTi (h : Heap) (v : Value) (ns : List Int) : Prop := ∃ (a : Addr) (dd : Option Addr) (items : Array Value) (n : Nat) (sl : Array (Option Value)), v = .ref a ∧ h.get? a = some { cls := .type "tuple", dict := dd, data := .seq items n, slots := sl } ∧ IntsAre items.toList ns
theorem IsTi.keeps {h h' : Heap} {v : Value} {ns : List Int} (x : IsTi h v ns) (k : ∀ b o, v = .ref b → h.get? b = some o → h'.get? b = some o) : IsTi h' v ns := by
  obtain ⟨a, dd, items, n, sl, e, g, i⟩ := x
  exact ⟨a, dd, items, n, sl, e, k _ _ e g, i⟩
theorem IsTi.type {M : Model} {h : Heap} {v : Value} {ns : List Int} (x : IsTi h v ns) : Looks M h (typeOf v) (.type "tuple") := by
  obtain ⟨a, dd, items, n, sl, rfl, g, i⟩ := x
  exact (Looks.ld g).andThen .now
section
variable {prog : Program} {w : World} {A : Around} {E : Value → Shared → Prop} {s : Shared}
theorem IsTi.inst {M : Model} {h : Heap} {v : Value} {ns : List Int} (x : IsTi h v ns) : Looks M h (isInstance v (.type "tuple")) true :=
  (x.type (M := M)).andThen (Looks.of_pure (by rw [isSubtype_type]; kernel_rfl))
theorem call_ltT {a b : Addr} {dd dd2 : Option Addr} {items items2 : Array Value} {n n2 : Nat} {sl sl2 : Array (Option Value)} {ns ms : List Int} {Q : Value → Shared → Prop} (ga : s.heap.get? a = some { cls := .type "tuple", dict := dd, data := .seq items n, slots := sl })
    (gb : s.heap.get? b = some { cls := .type "tuple", dict := dd2, data := .seq items2 n2, slots := sl2 }) (ia : IntsAre items.toList ns) (ib : IntsAre items2.toList ms) (iv : Looks (model prog w) s.heap (isInstance (.ref a) (.type "tuple")) true)
    (iu : ∀ M : Model, Looks M s.heap (isInstance (.ref b) (.type "tuple")) true) (h : Q (.bool (HT.lexLt ns ms)) s) : wpAny (model prog w) A (call (.builtin "tuple.__lt__") [.ref a, .ref b]) Q E s := by
  refine wpAny_call (codeAny_call_builtin PySem.F.slot_tuple_lt.plain PySem.F.entry_tuple_lt (@check_slot (model prog w) _ _ _ "tuple.__lt__" "tuple" "__lt__" (.ref a) [.ref b] [] _ (by decide +kernel) (by decide +kernel) iv (PySem.F.args_tuple_lt_2 _ _) ?_))
  refine wpAny_mono (NtL.nt_lt_ints a b (.type "tuple") (.type "tuple") items items2 n n2 dd dd2 sl sl2 ns ms ia ib prog w _ (wants Q E) s ⟨ga, gb, iu, h⟩) (fun fin s' q => ?_) fun _ _ z => z
  cases fin with
  | done f => exact q
  | again c => exact q
theorem lt_ti {v u : Value} {ns ms : List Int} {Q : Bool → Shared → Prop} (hu : A.units < cLine) (hv : IsTi s.heap v ns) (hw : IsTi s.heap u ms) (h : Q (HT.lexLt ns ms) s) : wpAny (model prog w) A (keyLt' oneType' v u) Q E s := by
  have sp : Looks (model prog w) s.heap (specialOf v "__lt__") (some (.builtin "tuple.__lt__")) := hv.type.andThen (Looks.of_pure PySem.F.slot_tuple_lt.lookup)
  have iv : Looks (model prog w) s.heap (isInstance v (.type "tuple")) true := hv.inst
  have iu : ∀ M : Model, Looks M s.heap (isInstance u (.type "tuple")) true := fun M => hw.inst
  obtain ⟨a, dd, items, n, sl, rfl, ga, ia⟩ := hv
  obtain ⟨b, dd2, items2, n2, sl2, rfl, gb, ib⟩ := hw
  rw [keyLt'_oneType, oneLt'_eq]
  simp only [if_true]
  refine wpAny_bind (wpAny_cRoomFor hu ?_)
  refine wpAny_bind (NtL.csib (E := E) sp (PySem.F.slot_tuple_lt.bind _) (call_ltT ga gb ia ib iv iu ?_))
  exact wpAny_truthy_bool h
theorem ti_cmp {vs : List Value} {k : Value → List Int} (hu : A.units < cLine) (hv : ∀ v ∈ vs, IsTi s.heap v (k v)) : SrtO.Cmp prog w A s oneType' (fun p => p.1 ∈ vs) (SrtO.lt2 fun v u => HT.lexLt (k v) (k u)) := by
  intro p q hp hq
  exact lt_ti (Q := fun r s' => s' = s ∧ r = HT.lexLt (k p.1) (k q.1)) (E := fun _ _ => False) hu (hv p.1 hp) (hv q.1 hq) ⟨rfl, rfl⟩
theorem mapM_wp {β : Type} {M : Model} {A : Around} {E : Value → Shared → Prop} {s : Shared} {f : Value → Sem β} {r : Value → β} : ∀ {vs : List Value} {Q : List β → Shared → Prop}, (∀ v ∈ vs, ∀ Q : β → Shared → Prop, Q (r v) s → wpAny M A (f v) Q E s) → Q (vs.map r) s → wpAny M A (vs.mapM f) Q E s
  | [], Q, _, h => by rw [List.mapM_nil]; exact wpAny_pure h
  | v :: vs, Q, hf, h => by
    rw [List.mapM_cons]
    refine wpAny_bind (hf v (by simp) _ (wpAny_bind (mapM_wp (fun u hu => hf u (by simp [hu])) (wpAny_pure h))))
theorem ti_kind {vs : List Value} {k : Value → List Int} {v0 : Value} {Q : SortKind → Shared → Prop} (hv : ∀ v ∈ v0 :: vs, IsTi s.heap v (k v)) (h0 : k v0 = []) (h : Q oneType' s) : wpAny (model prog w) A (keyKind' (v0 :: vs).toArray) Q E s := by
  have first : ∀ v ∈ v0 :: vs, ∃ r : Option Value, (k v = [] → r = none) ∧ ∀ (A : Around) (Q : Option Value → Shared → Prop), Q r s → wpAny (model prog w) A (firstOfTuple' v) Q E s := fun v hm => by
    have tv := (hv v hm).type (M := model prog w)
    obtain ⟨a, dd, items, n, sl, rfl, g, i⟩ := hv v hm
    refine ⟨items[0]?, fun e => ?_, fun A Q hq => ?_⟩
    · rw [e] at i
      have hz : items.toList.length = 0 := i.length
      have hz2 : items.size = 0 := by simpa using hz
      simp [hz2]
    · rw [kas_first_eq]
      refine wpAny_bind (tv.here ?_)
      rw [if_neg (by decide)]
      refine wpAny_bind (m := Builtin.List.listItems (.ref a)) ?_
      unfold Builtin.List.listItems
      exact wpAny_bind (wpAny_seqItems g rfl (wpAny_pure (wpAny_pure hq)))
  classical
  let r : Value → Option Value := fun v => if hm : v ∈ v0 :: vs then (first v hm).choose else none
  have hr : ∀ v (hm : v ∈ v0 :: vs), (k v = [] → r v = none) ∧ ∀ (A : Around) (Q : Option Value → Shared → Prop), Q (r v) s → wpAny (model prog w) A (firstOfTuple' v) Q E s := fun v hm => by
    have e : r v = (first v hm).choose := dif_pos hm
    rw [e]; exact (first v hm).choose_spec
  have r0 : r v0 = none := (hr v0 (by simp)).1 h0
  rw [keyKind'_eq, List.mapM_toArray, map_eq_pure_bind]
  refine wpAny_bind (wpAny_bind (mapM_wp (r := r) (fun v hm Q' hq => (hr v hm).2 _ _ hq) (wpAny_pure ?_)))
  have e1 : ((List.map r (v0 :: vs)).toArray.all fun x => x.isSome) = false := by
    rw [List.map_cons, r0]; simp
  have e2 : ((List.map r (v0 :: vs)).toArray[0]?.bind id).isSome = false := by
    rw [List.map_cons, r0]; simp
  rw [e1, if_neg (by decide), e2, if_neg (by decide)]
  rw [oneTypeOnly'_eq, List.mapM_toArray, map_eq_pure_bind]
  refine wpAny_bind (wpAny_bind (wpAny_bind (mapM_wp (r := fun _ => Value.type "tuple") (fun v hm Q' hq => ((hv v hm).type).here hq) (wpAny_pure ?_))))
  have hall : ((List.map (fun _ => Value.type "tuple") (v0 :: vs)).toArray.all fun x => x == Value.type "tuple") = true := by
    simp only [List.all_toArray, List.all_map, List.all_eq_true]
    intro _ _
    rfl
  have h0' : (List.map (fun _ => Value.type "tuple") (v0 :: vs)).toArray[0]? = some (Value.type "tuple") := by simp
  rw [h0']
  simp only [hall, if_true]
  exact wpAny_pure (wpAny_pure h)
theorem ti_sortable {a : Addr} {vs : List Value} {v0 : Value} {k : Value → List Int} (hu : A.units < cLine) (hv : ∀ v ∈ v0 :: vs, IsTi s.heap v (k v)) (h0 : k v0 = []) (ha : ∀ v ∈ v0 :: vs, v ≠ .ref a) :
    SrtO.SortableO prog w A s a (v0 :: vs) fun v u => HT.lexLt (k v) (k u) := by
  intro h' keep
  have hv' : ∀ v ∈ v0 :: vs, IsTi h' v (k v) := fun v hm => (hv v hm).keeps fun b o e g => keep b o (fun z => ha v hm (by rw [e, z])) g
  exact ⟨oneType', fun Q E hq => ti_kind (s := { s with heap := h' }) hv' h0 hq, ti_cmp (s := { s with heap := h' }) hu hv'⟩
end
def tiD (ns : List Int) : D := .tup (ns.map .int)
def sortedFT : List D → (List D → Prop) → Prop := fun ds R => ∃ nss : List (List Int), ds = [.lst (([] :: nss).map tiD)] ∧ ∀ out : List (List Int), out.Perm ([] :: nss) → out.Pairwise (fun a b => HT.lexLt b a = false) → R (out.map tiD)
theorem ats_each {K : PySem.W.Frag} {Z : Hp} : ∀ {nss : List (List Int)} {vs : List V}, Ats K Z (nss.map tiD) vs → ∀ (i : Nat) v, vs[i]? = some v → ∃ ns, nss[i]? = some ns ∧ ∃ a, v = .ref a ∧ SqT K Z a (ns.map V.int)
  | [], vs, h, i, v, e => by simp only [List.map_nil, Ats] at h; subst h; simp at e
  | ns :: nss, vs, ⟨w, ws, e1, h1, h2⟩, i, v, e => by
    subst e1
    cases i with
    | zero =>
      simp only [List.getElem?_cons_zero, Option.some.injEq] at e
      subst e
      obtain ⟨a, us, rfl, g1, g2⟩ := h1
      rw [g2.ints] at g1
      exact ⟨ns, rfl, a, rfl, g1⟩
    | succ i =>
      obtain ⟨ms, e2, r⟩ := ats_each h2 i v (by simpa using e)
      exact ⟨ms, by simpa using e2, r⟩
theorem c_sortedT {X : Cx} {k : Nat} (hr : Room k X.A) : CallR X (.builtin "sorted") (dCallF X.K sortedFT) := by
  intro pins s σ H xs us Q I r h
  obtain ⟨Z, ds, R, kz, a, ⟨nss, rfl, w⟩, q⟩ := h
  obtain ⟨v, rfl, a1⟩ := Ats.one a
  obtain ⟨p, vs, rfl, a2, a3⟩ := a1
  have each := ats_each a3
  obtain ⟨its, rv, hl, hz⟩ := I.list (.inl (.inl (kz _ _ a2)))
  rw [Vals.ref1 r]
  obtain ⟨e1, e2⟩ := bkV_refs rv fun x m => by
    obtain ⟨i, hi⟩ := List.mem_iff_getElem?.mp m
    obtain ⟨_, _, t, e, _⟩ := each i x hi
    exact ⟨t, e⟩
  have hu : X.A.units + 64 < cLine := by have := hr.units; omega
  -- the ints of each
  have hints : ∀ (i : Nat) u, its[i]? = some u → ∃ ns, ([] :: nss)[i]? = some ns ∧ TS.TupInts s.heap u ns ∧ At X.K Z (tiD ns) (bkV u) := fun i u hi => by
    have hvi : vs[i]? = some (bkV u) := by rw [e1, List.getElem?_map, hi]; rfl
    obtain ⟨ns, h1, t, h2, h3⟩ := each i _ hvi
    have eu := bkV_ref h2
    refine ⟨ns, h1, ?_, ?_⟩
    · rw [eu]; exact tupI_raw I (seqT kz h3)
    · rw [h2]; exact ⟨t, _, rfl, h3, Ats.of_ints ns⟩
  have isTi : ∀ (s' : Shared) (u : Value) (ns : List Int), TS.TupInts s'.heap u ns → IsTi s'.heap u ns := fun s' u ns ⟨t, items, e, ⟨⟨cls, dd, data, sl⟩, ho, hc, n, hd⟩, i⟩ => by
    simp only at hc hd
    subst hc hd
    exact ⟨t, dd, items, n, sl, e, ho, i⟩
  have hlen : its.length = nss.length + 1 := by
    have h1 := a3.len
    rw [e1, List.length_map, List.length_map, List.length_cons] at h1
    exact h1
  obtain ⟨u0, ur, rfl⟩ : ∃ u0 ur, its = u0 :: ur := by
    cases its with
    | nil => simp at hlen
    | cons u0 ur => exact ⟨u0, ur, rfl⟩
  have kint : ∀ u ∈ u0 :: ur, ∃ ns, TS.TupInts s.heap u ns ∧ At X.K Z (tiD ns) (bkV u) := fun u hm => by
    obtain ⟨i, hi⟩ := List.mem_iff_getElem?.mp hm
    obtain ⟨ns, _, h2, h3⟩ := hints i u hi
    exact ⟨ns, h2, h3⟩
  have k0 : TS.intsOf s.heap u0 = [] := by
    obtain ⟨ns, h1, h2, _⟩ := hints 0 u0 rfl
    cases h1
    exact h2.ints
  have kmap : (u0 :: ur).map (TS.intsOf s.heap) = [] :: nss := by
    refine List.ext_getElem? fun i => ?_
    rw [List.getElem?_map]
    cases hi : (u0 :: ur)[i]? with
    | none =>
      have := List.getElem?_eq_none_iff.mp hi
      rw [List.getElem?_eq_none (by simp only [List.length_cons] at hlen this ⊢; omega)]; rfl
    | some u =>
      obtain ⟨ns, h1, h2, _⟩ := hints i u hi
      rw [h1]
      show some (TS.intsOf s.heap u) = some ns
      rw [h2.ints]
  refine SrtO.sorted_ord (NtL.swo_lexL (TS.intsOf s.heap)) hl.isList (by rw [← rv.length]; exact hz) (fun h2 h₁ b hb kk => ?_) fun out h1 h2 => ?_
  · refine ti_sortable (s := { s with heap := h₁ }) (k := TS.intsOf s.heap) (by show X.A.units + 1 + 1 < cLine; omega) (fun u hm => ?_) k0 fun u hm e => ?_
    · obtain ⟨ns, h3, _⟩ := kint u hm
      have h4 := isTi s u ns h3
      rw [h3.ints]
      exact h4.keeps fun c o _ e => (kk c o e).2
    · obtain ⟨ns, h3, _⟩ := kint u hm
      obtain ⟨t, dd, items, n, sl, e', g, _⟩ := isTi s u ns h3
      rw [e'] at e
      cases e
      exact (kk _ _ g).1 rfl
  · obtain ⟨ep, he'⟩ := PyProof.Rows.sortedAll_at s.heap (u0 :: ur) out.toArray
    have h3 : ∀ u ∈ out, ∃ a, u = Value.ref a := fun u hu => e2 u (h2.perm.mem_iff.mp hu)
    have hp : (out.map bkV).length = vs.length := by rw [e1, List.length_map, List.length_map, h2.perm.length_eq]
    have fr : H (s.heap.objs.size + 1) = none := I.hok.fresh (Nat.le_succ _)
    have ha : ∀ l : List Value, (∀ u ∈ l, u ∈ u0 :: ur) → Ats X.K Z ((l.map (TS.intsOf s.heap)).map tiD) (l.map bkV) := fun l => by
      induction l with
      | nil => intro _; rfl
      | cons u l ih =>
        intro hm
        obtain ⟨ns, h4, h5⟩ := kint u (hm u (by simp))
        refine ⟨_, _, rfl, ?_, ih fun z hz => hm z (by simp [hz])⟩
        rw [h4.ints]; exact h5
    have pk : (out.map (TS.intsOf s.heap)).Perm ([] :: nss) := by
      rw [← kmap]; exact h2.perm.map _
    have sk : (out.map (TS.intsOf s.heap)).Pairwise (fun a b => HT.lexLt b a = false) := List.pairwise_map.mpr h1
    have hq := w _ pk sk
    refine ⟨.ref _, upd H (s.heap.objs.size + 1) (.lst (out.map bkV)), I.laid (t' := s.toks) (fun _ _ => PyProof.Rows.sortedAll_old) (Nat.le_succ _) ⟨by rw [hp]; exact hz, out, ep, bkV_vals h3, he'⟩, rfl, ?_⟩
    exact q _ _ _ _ hq (same_upd fr) fr upd_same (ha out fun u hu => h2.perm.mem_iff.mp hu)
end Pm
set_option Elab.async false
set_option linter.all false
set_option maxRecDepth 100000
set_option maxHeartbeats 1000000
set_option autoImplicit false
namespace Pm
open PySem PySem.Spec
open PyProof.Rows hiding St
open L2
theorem lex_eq : ∀ {a b : List Int}, HT.lexLt a b = false → HT.lexLt b a = false → a = b
  | [], [], _, _ => rfl
  | [], y :: b, h, _ => by simp [HT.lexLt_nil_cons] at h
  | x :: a, [], _, h => by simp [HT.lexLt_nil_cons] at h
  | x :: a, y :: b, h, h' => by
    rw [HT.lexLt_cons] at h h'
    by_cases e : x = y
    · rw [if_pos e] at h
      rw [if_pos e.symm] at h'
      rw [e, lex_eq h h']
    · rw [if_neg e] at h
      rw [if_neg fun z => e z.symm] at h'
      have := of_decide_eq_false h
      have := of_decide_eq_false h'
      omega
theorem sorted_eq {α : Type} {R : α → α → Prop} (anti : ∀ a b, R a b → R b a → a = b) : ∀ {l k : List α}, l.Perm k → l.Pairwise R → k.Pairwise R → l = k
  | [], k, h, _, _ => h.nil_eq
  | a :: l, [], h, _, _ => absurd h.symm.nil_eq (by simp)
  | a :: l, b :: k, h, h1, h2 => by
    have e : a = b := by
      have ha : a ∈ b :: k := h.mem_iff.mp (by simp)
      have hb : b ∈ a :: l := h.mem_iff.mpr (by simp)
      rw [List.pairwise_cons] at h1 h2
      rcases List.mem_cons.mp ha with e | ha
      · exact e
      · rcases List.mem_cons.mp hb with e | hb
        · exact e.symm
        · exact anti a b (h1.1 b hb) (h2.1 a ha)
    subst e
    rw [List.pairwise_cons] at h1 h2
    rw [sorted_eq anti (List.Perm.cons_inv h) h1.2 h2.2]
def natsI (gs : List Nat) : List Int := gs.map fun i : Nat => (i : Int)
theorem grpS_tail_ne : ∀ {l g : List Nat}, g ∈ (grpS l).tail → g ≠ []
  | [], g, h => by simp [grpS] at h
  | i :: l, g, h => by
    simp only [grpS, List.tail_cons, List.mem_append, List.mem_map] at h
    rcases h with ⟨k, _, rfl⟩ | h
    · simp
    · exact grpS_tail_ne h
theorem grpS_sorted : ∀ {l : List Nat}, l.Pairwise (· < ·) → ((grpS l).map natsI).Pairwise (fun a b => HT.lexLt b a = false)
  | [], _ => by simp [grpS]
  | i :: l, h => by
    rw [List.pairwise_cons] at h
    have ih := grpS_sorted h.2
    obtain ⟨r, hr⟩ := grpS_cons_ne l
    rw [hr, List.map_cons, List.pairwise_cons] at ih
    simp only [grpS, List.map_cons, List.map_append, List.map_map, List.pairwise_cons, List.pairwise_append]
    refine ⟨fun b _ => by cases b <;> rfl, ?_, ?_, fun a ha b hb => ?_⟩
    · rw [List.pairwise_map]
      have ih2 : ((grpS l).map natsI).Pairwise (fun a b => HT.lexLt b a = false) := grpS_sorted h.2
      rw [List.pairwise_map] at ih2
      refine ih2.imp fun {a b} hab => ?_
      show HT.lexLt ((i : Int) :: natsI b) ((i : Int) :: natsI a) = false
      rw [HT.lexLt_cons, if_pos rfl]; exact hab
    · rw [hr, List.tail_cons]; exact ih.2
    · obtain ⟨a', _, rfl⟩ := List.mem_map.mp ha
      obtain ⟨b', hb', rfl⟩ := List.mem_map.mp hb
      have hne := grpS_tail_ne hb'
      have hs := grpS_sub (List.mem_of_mem_tail hb')
      cases b' with
      | nil => exact absurd rfl hne
      | cons j b' =>
        have hj := h.1 j (hs.subset (by simp))
        show HT.lexLt ((j : Int) :: natsI b') ((i : Int) :: natsI a') = false
        rw [HT.lexLt_cons, if_neg (by omega)]
        exact decide_eq_false (by omega)
theorem grpS_perm_cons (i : Nat) (l : List Nat) : (grpS (i :: l)).Perm (grpS l ++ (grpS l).map (i :: ·)) := by
  obtain ⟨r, hr⟩ := grpS_cons_ne l
  simp only [grpS, hr, List.tail_cons]
  rw [List.cons_append]
  exact List.Perm.cons _ List.perm_append_comm
theorem grpS_perm_snoc (x : Nat) : ∀ l : List Nat, (grpS (l ++ [x])).Perm (grpS l ++ (grpS l).map (· ++ [x]))
  | [] => by simp [grpS]
  | i :: l => by
    have ih := grpS_perm_snoc x l
    have h1 := grpS_perm_cons i (l ++ [x])
    have h2 := grpS_perm_cons i l
    have e : (List.map (fun g => g ++ [x]) ((grpS l).map (i :: ·))) = ((grpS l).map (· ++ [x])).map (i :: ·) := by rw [List.map_map, List.map_map]; rfl
    refine h1.trans (((ih.append (ih.map _)).trans ?_).trans (h2.append (h2.map _)).symm)
    rw [List.map_append, List.map_append, e]
    generalize grpS l = A
    generalize A.map (· ++ [x]) = B
    generalize A.map (i :: ·) = C
    generalize B.map (i :: ·) = F
    -- A ++ B ++ (C ++ F) ~ A ++ C ++ (B ++ F)
    rw [List.append_assoc, List.append_assoc]
    refine List.Perm.append_left A ?_
    rw [← List.append_assoc, ← List.append_assoc]
    exact List.Perm.append_right F List.perm_append_comm
def isI : D → Bool
  | .int _ => true
  | _ => false
def inI (lo hi : Int) : D → Bool
  | .int i => decide (lo ≤ i) && decide (i ≤ hi)
  | _ => false
def ascI (is : List Int) : Bool := (is.zip (is.drop 1)).all fun p => decide (p.1 < p.2)
def isG (n : Nat) : D → Bool
  | .tup xs => match asInts xs with
    | some is => (is.all fun i => decide (0 ≤ i) && decide (i ≤ (n : Int) - 1)) && ascI is
    | none => false
  | _ => false
theorem ascI_pw : ∀ {is : List Int}, ascI is = true ↔ is.Pairwise (· < ·)
  | [] => by simp [ascI]
  | [i] => by simp [ascI]
  | i :: j :: is => by
    have ih := ascI_pw (is := j :: is)
    have e : ascI (i :: j :: is) = (decide (i < j) && ascI (j :: is)) := by simp [ascI]
    rw [e, Bool.and_eq_true, ih, decide_eq_true_eq, List.pairwise_cons (a := i)]
    constructor
    · rintro ⟨h1, h2⟩
      refine ⟨fun k hk => ?_, h2⟩
      rw [List.pairwise_cons] at h2
      rcases List.mem_cons.mp hk with rfl | hk
      · exact h1
      · have := h2.1 k hk; omega
    · rintro ⟨h1, h2⟩
      exact ⟨h1 j (by simp), h2⟩
def GrOk (n : Nat) (gs : List Nat) : Prop := (∀ i ∈ gs, i < n) ∧ gs.Pairwise (· < ·)
theorem isG_gr {n : Nat} {gs : List Nat} (h : GrOk n gs) : isG n (grD gs) = true := by
  have e : asInts (gs.map natD) = some (natsI gs) := by
    have : gs.map natD = (natsI gs).map D.int := by unfold natsI; rw [List.map_map]; rfl
    rw [this]; exact asInts_map _
  show (match asInts (gs.map natD) with | some is => (is.all fun i => decide (0 ≤ i) && decide (i ≤ (n : Int) - 1)) && ascI is | none => false) = true
  rw [e]
  show ((natsI gs).all fun i => decide (0 ≤ i) && decide (i ≤ (n : Int) - 1)) && ascI (natsI gs)
  rw [Bool.and_eq_true, List.all_eq_true, ascI_pw]
  refine ⟨fun i hi => ?_, ?_⟩
  · obtain ⟨k, hk, rfl⟩ := List.mem_map.mp hi
    have := h.1 k hk
    simp; omega
  · unfold natsI
    rw [List.pairwise_map]
    exact h.2.imp fun {a b} hab => by omega
theorem isG_ex {n : Nat} {d : D} (h : isG n d = true) : ∃ gs, d = grD gs ∧ GrOk n gs := by
  cases d with
  | tup xs =>
    have h : (match asInts xs with | some is => (is.all fun i => decide (0 ≤ i) && decide (i ≤ (n : Int) - 1)) && ascI is | none => false) = true := h
    cases e : asInts xs with
    | none => rw [e] at h; cases h
    | some is =>
      rw [e] at h
      have h : ((is.all fun i => decide (0 ≤ i) && decide (i ≤ (n : Int) - 1)) && ascI is) = true := h
      rw [Bool.and_eq_true, List.all_eq_true, ascI_pw] at h
      have hb : ∀ i ∈ is, 0 ≤ i ∧ i ≤ (n : Int) - 1 := fun i hi => by have := h.1 i hi; simpa using this
      refine ⟨is.map Int.toNat, ?_, ?_, ?_⟩
      · rw [asInts_eq e]
        show D.tup (is.map D.int) = D.tup ((is.map Int.toNat).map natD)
        rw [List.map_map]
        congr 1
        refine List.map_congr_left fun i hi => ?_
        have := hb i hi
        show D.int i = .int ((i.toNat : Nat) : Int)
        congr 1; omega
      · intro i hi
        obtain ⟨k, hk, rfl⟩ := List.mem_map.mp hi
        have := hb k hk
        omega
      · rw [List.pairwise_map]
        refine h.2.imp_of_mem fun {a b} ha hb' hab => ?_
        have := hb a ha
        have := hb b hb'
        omega
  | _ => cases h
theorem GrOk.of_sub {n : Nat} {gs : List Nat} (h : gs.Sublist (List.range n)) : GrOk n gs :=
  ⟨fun i hi => List.mem_range.mp (h.subset hi), List.Pairwise.sublist h (List.pairwise_lt_range)⟩
def upR (gs : List Nat) (q : Int × Int) : Bool := decide (q.2.toNat ∈ gs) || !decide (q.1.toNat ∈ gs)
def upB (p : Pan) (gs : List Nat) : Bool := p.rus.all (upR gs)
def upG (p : Pan) : List (List Nat) := (grpS (List.range p.its.length)).filter (upB p)
def eE (p : Pan) (a b : Nat) : Prop := ((a : Int), (b : Int)) ∈ p.rus
def mR (p : Pan) (i : Nat) : Rat := ((p.its.getD i (0, 1)).1 : Rat)
def wR (p : Pan) (i : Nat) : Rat := ((p.its.getD i (0, 1)).2 : Rat)
theorem upB_iff {m : Nat} {p : Pan} (hp : PanOk m p) {gs : List Nat} : upB p gs = true ↔ UpS (eE p) (fun i => decide (i ∈ gs)) := by
  unfold upB
  rw [List.all_eq_true]
  constructor
  · intro h a b e ha
    have := h _ e
    simp only [upR, Int.toNat_natCast, Bool.or_eq_true, Bool.not_eq_true', decide_eq_true_eq, decide_eq_false_iff_not] at this ha ⊢
    exact this.resolve_right fun z => z ha
  · intro h q hq
    obtain ⟨a1, a2, a3, a4, _⟩ := hp.ru q hq
    have e : eE p q.1.toNat q.2.toNat := by
      unfold eE
      have : (((q.1.toNat : Nat) : Int), ((q.2.toNat : Nat) : Int)) = q := by
        refine Prod.ext ?_ ?_ <;> (simp only; omega)
      rw [this]; exact hq
    have := h _ _ e
    simp only [decide_eq_true_eq] at this
    simp only [upR, Bool.or_eq_true, Bool.not_eq_true', decide_eq_true_eq, decide_eq_false_iff_not]
    by_cases z : q.1.toNat ∈ gs
    · exact .inl (this z)
    · exact .inr z
theorem sM_sm (p : Pan) (gs : List Nat) : ((sM (selI p.its gs) : Int) : Rat) = sm (fun i => wR p i * mR p i) gs := by
  induction gs with
  | nil => rfl
  | cons i gs ih =>
    have e : selI p.its (i :: gs) = p.its.getD i (0, 1) :: selI p.its gs := rfl
    rw [e, sM_cons, Rat.intCast_add, ih, Rat.intCast_mul]
    simp only [sm, wR, mR]; grind
theorem sW_sm (p : Pan) (gs : List Nat) : ((sW (selI p.its gs) : Int) : Rat) = sm (wR p) gs := by
  induction gs with
  | nil => rfl
  | cons i gs ih =>
    have e : selI p.its (i :: gs) = p.its.getD i (0, 1) :: selI p.its gs := rfl
    rw [e, sW_cons, Rat.intCast_add, ih]
    simp only [sm, wR]
theorem avg_avS (p : Pan) (gs : List Nat) : avg (selI p.its gs) = avS (mR p) (wR p) gs := by
  unfold avg avS
  rw [← sM_sm, ← sW_sm, Rat.divInt_eq_div]
theorem wR_pos {m : Nat} {p : Pan} (hp : PanOk m p) {i : Nat} (h : i < p.its.length) : 0 < wR p i := by
  have := (hp.it _ (List.mem_of_getElem? (getD_at h))).2.2.1
  exact Rat.intCast_pos.mpr (by omega)
theorem rule_nats {n : Nat} {q : Int × Int} (h : RuOk n q) : ∃ a b : Nat, q = ((a : Int), (b : Int)) ∧ a < n ∧ b < n ∧ a ≠ b := by
  obtain ⟨h1, h2, h3, h4, h5⟩ := h
  refine ⟨q.1.toNat, q.2.toNat, Prod.ext (by simp only; omega) (by simp only; omega), by omega, by omega, by omega⟩
end Pm
set_option Elab.async false
set_option linter.all false
set_option maxRecDepth 100000
set_option maxHeartbeats 1000000
set_option autoImplicit false
namespace Pm
open PySem PySem.Spec
open PyProof.Rows hiding St
open L2
def BestP (p : Pan) (r : Nat → Rat) : Prop := Best (List.range p.its.length) (eE p) (mR p) (wR p) r
def inB (gs : List Nat) (i : Nat) : Bool := decide (i ∈ gs)
theorem range_filter {n : Nat} {gs : List Nat} (h : gs.Sublist (List.range n)) : (List.range n).filter (inB gs) = gs := sub_filter h List.nodup_range
theorem sub_ext {n : Nat} {a b : List Nat} (ha : a.Sublist (List.range n)) (hb : b.Sublist (List.range n)) (h : ∀ i, i ∈ a ↔ i ∈ b) : a = b := by
  rw [← range_filter ha, ← range_filter hb]
  exact List.filter_congr fun i _ => by unfold inB; rw [decide_eq_decide]; exact h i
def excI (its : List (Int × Int)) (part U : List Nat) : Int := sM (selI its U) * sW (selI its part) - sM (selI its part) * sW (selI its U)
section
variable {p : Pan} {m : Nat}
theorem exc_ex (hp : PanOk m p) {part : List Nat} (hn : part ≠ []) (hi : ∀ i ∈ part, i < p.its.length) (U : List Nat) : ((excI p.its part U : Int) : Rat) = ex (mR p) (wR p) (avS (mR p) (wR p) part) U * sm (wR p) part := by
  have hw : 0 < sm (wR p) part := sm_pos (fun i h => wR_pos hp (hi i h)) hn
  unfold excI
  rw [Rat.intCast_sub, Rat.intCast_mul, Rat.intCast_mul, sM_sm, sM_sm, sW_sm, sW_sm, ex_eq]
  unfold avS
  have e : sm (fun i => wR p i * mR p i) part / sm (wR p) part * sm (wR p) part = sm (fun i => wR p i * mR p i) part := Rat.div_mul_cancel (by grind)
  generalize sm (fun i => wR p i * mR p i) part / sm (wR p) part = A at *
  generalize sm (wR p) part = W at *
  generalize sm (fun i => wR p i * mR p i) part = T at *
  generalize sm (wR p) U = V at *
  generalize sm (fun i => wR p i * mR p i) U = M at *
  subst e
  grind
theorem exc_le (hp : PanOk m p) {part : List Nat} (hn : part ≠ []) (hi : ∀ i ∈ part, i < p.its.length) {U V : List Nat} : excI p.its part U ≤ excI p.its part V ↔ ex (mR p) (wR p) (avS (mR p) (wR p) part) U ≤ ex (mR p) (wR p) (avS (mR p) (wR p) part) V := by
  have hw : 0 < sm (wR p) part := sm_pos (fun i h => wR_pos hp (hi i h)) hn
  rw [← Rat.intCast_le_intCast, exc_ex hp hn hi, exc_ex hp hn hi]
  constructor
  · intro h
    rcases (show ex (mR p) (wR p) (avS (mR p) (wR p) part) U ≤ ex (mR p) (wR p) (avS (mR p) (wR p) part) V ∨ ex (mR p) (wR p) (avS (mR p) (wR p) part) V < ex (mR p) (wR p) (avS (mR p) (wR p) part) U by grind) with z | z
    · exact z
    · have := Rat.mul_lt_mul_of_pos_right z hw; grind
  · intro h
    exact Rat.mul_le_mul_of_nonneg_right h (Rat.le_of_lt hw)
theorem exc_nonpos (hp : PanOk m p) {part : List Nat} (hn : part ≠ []) (hi : ∀ i ∈ part, i < p.its.length) {U : List Nat} : excI p.its part U ≤ 0 ↔ ex (mR p) (wR p) (avS (mR p) (wR p) part) U ≤ 0 := by
  have h0 : excI p.its part [] = 0 := by simp [excI, selI, sM, sW]
  have := exc_le hp hn hi (U := U) (V := [])
  rw [h0] at this
  exact this
structure Parts (p : Pan) (ps : List (List Nat)) : Prop where
  ch : Chain (eE p) (mR p) (wR p) ps
  fl : ps.flatten.Perm (List.range p.its.length)
  sb : ∀ q ∈ ps, q.Sublist (List.range p.its.length)
  ne : ∀ q ∈ ps, q ≠ []
theorem Parts.lt {ps : List (List Nat)} (h : Parts p ps) {q : List Nat} (hq : q ∈ ps) : ∀ i ∈ q, i < p.its.length := fun i hi => List.mem_range.mp ((h.sb q hq).subset hi)
theorem eE_lt (hp : PanOk m p) {a b : Nat} (e : eE p a b) : a < p.its.length ∧ b < p.its.length := by
  obtain ⟨h1, h2, h3, h4, _⟩ := hp.ru _ e
  simp only at h2 h4
  omega
theorem Parts.nd {a b : List (List Nat)} {q : List Nat} (h : Parts p (a ++ q :: b)) : ∀ i ∈ q, i ∉ b.flatten ∧ i ∉ a.flatten := by
  have nd : (a ++ q :: b).flatten.Nodup := h.fl.nodup_iff.mpr List.nodup_range
  rw [List.flatten_append, List.flatten_cons, List.nodup_append, List.nodup_append] at nd
  intro i hi
  refine ⟨fun z => ?_, fun z => ?_⟩
  · exact nd.2.1.2.2 i hi i z rfl
  · exact nd.2.2 i z i (List.mem_append_left _ hi) rfl
theorem Parts.cut (hp : PanOk m p) {a b : List (List Nat)} {q : List Nat} (h : Parts p (a ++ q :: b)) {V : Nat → Bool} (hV : PUp (eE p) q V) : ∃ g ∈ upG p, g.filter (inB q) = q.filter V := by
  have ch := h.ch
  unfold Chain at ch
  rw [List.pairwise_append, List.pairwise_cons] at ch
  obtain ⟨c1, ⟨c2, c3⟩, c4⟩ := ch
  have gs : ((List.range p.its.length).filter fun i => (V i && inB q i) || inB b.flatten i).Sublist (List.range p.its.length) := List.filter_sublist
  have mem : ∀ i, i ∈ ((List.range p.its.length).filter fun i => (V i && inB q i) || inB b.flatten i) ↔ i < p.its.length ∧ ((V i = true ∧ i ∈ q) ∨ i ∈ b.flatten) := fun i => by
    simp [List.mem_filter, inB]
  refine ⟨_, List.mem_filter.mpr ⟨sub_grpS gs, (upB_iff hp).mpr fun x y e hx => ?_⟩, ?_⟩
  · obtain ⟨_, hy⟩ := eE_lt hp e
    simp only [decide_eq_true_eq] at hx ⊢
    rw [mem] at hx ⊢
    refine ⟨hy, ?_⟩
    have my : y ∈ (a ++ q :: b).flatten := h.fl.mem_iff.mpr (List.mem_range.mpr hy)
    rw [List.flatten_append, List.flatten_cons, List.mem_append, List.mem_append] at my
    rcases hx.2 with ⟨v, hq⟩ | hb
    · rcases my with my | my | my
      · obtain ⟨r, hr, yr⟩ := List.mem_flatten.mp my
        exact absurd e ((c4 r hr q (by simp)).2 y yr x hq)
      · exact .inl ⟨hV x hq y my e v, my⟩
      · exact .inr my
    · obtain ⟨r, hr, xr⟩ := List.mem_flatten.mp hb
      rcases my with my | my | my
      · obtain ⟨r2, hr2, yr⟩ := List.mem_flatten.mp my
        exact absurd e ((c4 r2 hr2 r (by simp [hr])).2 y yr x xr)
      · exact absurd e ((c2 r hr).2 y my x xr)
      · exact .inr my
  · refine sub_ext (List.filter_sublist.trans gs) (List.filter_sublist.trans (h.sb q (by simp))) fun i => ?_
    rw [List.mem_filter, mem, List.mem_filter]
    simp only [inB, decide_eq_true_eq]
    constructor
    · rintro ⟨⟨_, ⟨v, _⟩ | hb⟩, hq⟩
      · exact ⟨hq, v⟩
      · exact absurd hb (h.nd i hq).1
    · rintro ⟨hq, v⟩
      exact ⟨⟨h.lt (by simp) i hq, .inl ⟨v, hq⟩⟩, hq⟩
theorem Parts.whole (hp : PanOk m p) {a b : List (List Nat)} {q : List Nat} (h : Parts p (a ++ q :: b)) (hU : ∀ g ∈ upG p, excI p.its q (g.filter (inB q)) ≤ 0) : Whole (eE p) (mR p) (wR p) q := fun V hV => by
  obtain ⟨g, hg, e⟩ := h.cut hp hV
  rw [← e]
  exact (exc_nonpos hp (h.ne q (by simp)) (h.lt (by simp))).mp (hU g hg)
theorem Parts.split (hp : PanOk m p) {a b : List (List Nat)} {q U : List Nat} (h : Parts p (a ++ q :: b)) {g : List Nat} (hg : g ∈ upG p) (eU : U = g.filter (inB q)) (h0 : 0 < excI p.its q U) (hm : ∀ g' ∈ upG p, excI p.its q (g'.filter (inB q)) ≤ excI p.its q U) :
    q.filter (inB U) = U ∧ Parts p (a ++ q.filter (fun i => !inB U i) :: U :: b) ∧ U ≠ [] ∧ q.filter (fun i => !inB U i) ≠ [] := by
  have gq := List.mem_filter.mp hg
  have gsub := grpS_sub gq.1
  have qs := h.sb q (by simp)
  have qn := h.ne q (by simp)
  have ql := h.lt (q := q) (by simp)
  have us : U.Sublist (List.range p.its.length) := by rw [eU]; exact List.filter_sublist.trans gsub
  have mU : ∀ i, i ∈ U ↔ i ∈ g ∧ i ∈ q := fun i => by rw [eU, List.mem_filter]; simp [inB]
  have e1 : q.filter (inB U) = U := sub_ext (List.filter_sublist.trans qs) us fun i => by
    rw [List.mem_filter]
    simp only [inB, decide_eq_true_eq, mU]
    exact ⟨fun z => z.2, fun z => ⟨z.2, z⟩⟩
  have gu := (upB_iff hp).mp gq.2
  have sp : Split (eE p) (mR p) (wR p) q (inB U) := by
    refine ⟨fun x hx y hy e k => ?_, fun V hV => ?_⟩
    · simp only [inB, decide_eq_true_eq, mU] at k ⊢
      have := gu x y e (by simpa using k.1)
      exact ⟨by simpa using this, hy⟩
    · obtain ⟨g', hg', e'⟩ := h.cut hp hV
      rw [← e', e1]
      exact (exc_le hp qn ql).mp (hm g' hg')
  have wp : ∀ i ∈ q, 0 < wR p i := fun i hi => wR_pos hp (ql i hi)
  have un : U ≠ [] := fun z => by rw [z] at h0; simp [excI, selI, sM, sW] at h0
  have rn : q.filter (fun i => !inB U i) ≠ [] := fun z => by
    have : q.filter (inB U) = q := by
      refine List.filter_eq_self.mpr fun i hi => ?_
      cases k : inB U i with
      | true => rfl
      | false =>
        have : i ∈ q.filter (fun i => !inB U i) := List.mem_filter.mpr ⟨hi, by simp [k]⟩
        rw [z] at this; cases this
    rw [e1] at this
    rw [this] at h0
    simp [excI] at h0
  have ch := h.ch.split sp (fun i hi => Rat.le_of_lt (wp i hi)) (sm_pos wp qn)
  rw [e1] at ch
  refine ⟨e1, ⟨ch, ?_, ?_, ?_⟩, un, rn⟩
  · refine List.Perm.trans ?_ h.fl
    rw [List.flatten_append, List.flatten_append, List.flatten_cons, List.flatten_cons, List.flatten_cons]
    refine List.Perm.append_left _ ?_
    rw [← List.append_assoc]
    refine List.Perm.append_right _ ?_
    have := List.filter_append_perm (inB U) q
    rw [e1] at this
    exact List.perm_append_comm.trans this
  · intro r hr
    rcases List.mem_append.mp hr with hr | hr
    · exact h.sb r (by simp [hr])
    · rcases List.mem_cons.mp hr with rfl | hr
      · exact List.filter_sublist.trans qs
      · rcases List.mem_cons.mp hr with rfl | hr
        · exact us
        · exact h.sb r (by simp [hr])
  · intro r hr
    rcases List.mem_append.mp hr with hr | hr
    · exact h.ne r (by simp [hr])
    · rcases List.mem_cons.mp hr with rfl | hr
      · exact rn
      · rcases List.mem_cons.mp hr with rfl | hr
        · exact un
        · exact h.ne r (by simp [hr])
theorem Parts.start (hp : PanOk m p) : Parts p [List.range p.its.length] := by
  have h1 := hp.one
  refine ⟨List.pairwise_singleton _ _, by simp, fun q hq => ?_, fun q hq => ?_⟩
  · have : q = List.range p.its.length := by simpa using hq
    rw [this]; exact List.Sublist.refl _
  · have : q = List.range p.its.length := by simpa using hq
    rw [this]
    intro e
    have := congrArg List.length e
    rw [List.length_range] at this
    have : p.its.length = 0 := this
    omega
theorem Parts.best (hp : PanOk m p) {ps : List (List Nat)} (h : Parts p ps) (hf : ∀ q ∈ ps, Whole (eE p) (mR p) (wR p) q) {r : Nat → Rat} (hr : ∀ q ∈ ps, ∀ i ∈ q, r i = avg (selI p.its q)) : BestP p r :=
  h.ch.best (fun a b e => by obtain ⟨h1, h2⟩ := eE_lt hp e; exact ⟨List.mem_range.mpr h1, List.mem_range.mpr h2⟩) h.fl List.nodup_range (fun i hi => wR_pos hp (List.mem_range.mp hi)) h.ne hf fun q hq i hi => by rw [hr q hq i hi, avg_avS]
def meas (st : List (List Nat)) : Nat := (st.map fun q => 2 * q.length - 1).sum
theorem meas_append (a b : List (List Nat)) : meas (a ++ b) = meas a + meas b := by simp [meas]
end
end Pm
namespace Pm
open PySem PySem.Spec
open PyProof.Rows hiding St
open L2
section
variable {p : Pan} {m : Nat}
theorem upG_of (hp : PanOk m p) {U : Nat → Bool} (h : UpS (eE p) U) : (List.range p.its.length).filter U ∈ upG p := by
  refine List.mem_filter.mpr ⟨sub_grpS List.filter_sublist, (upB_iff hp).mpr fun a b e k => ?_⟩
  simp only [decide_eq_true_eq, List.mem_filter, List.mem_range] at k ⊢
  exact ⟨(eE_lt hp e).2, h a b e k.2⟩
theorem all_upG (hp : PanOk m p) : List.range p.its.length ∈ upG p := by
  have := upG_of hp (U := fun _ => true) fun _ _ _ _ => rfl
  rwa [List.filter_eq_self.mpr fun _ _ => rfl] at this
theorem parts_exist (hp : PanOk m p) : ∀ (k : Nat) (dn st : List (List Nat)), meas st ≤ k → Parts p (dn ++ st.reverse) → (∀ q ∈ dn, Whole (eE p) (mR p) (wR p) q) → ∃ ps, Parts p ps ∧ ∀ q ∈ ps, Whole (eE p) (mR p) (wR p) q := by
  intro k
  induction k with
  | zero =>
    intro dn st hm hP hW
    cases st with
    | nil => rw [List.reverse_nil, List.append_nil] at hP; exact ⟨dn, hP, hW⟩
    | cons q st =>
      have := List.length_pos_iff.mpr (hP.ne q (by simp))
      simp only [meas, List.map_cons, List.sum_cons] at hm
      omega
  | succ k ih =>
    intro dn st hm hP hW
    by_cases hs : st = []
    · subst hs; rw [List.reverse_nil, List.append_nil] at hP; exact ⟨dn, hP, hW⟩
    · obtain ⟨st', part, rfl⟩ : ∃ a b, st = a ++ [b] := ⟨st.dropLast, st.getLast hs, (List.dropLast_concat_getLast hs).symm⟩
      have er : dn ++ (st' ++ [part]).reverse = dn ++ part :: st'.reverse := by rw [List.reverse_append]; rfl
      rw [er] at hP
      have p1 := List.length_pos_iff.mpr (hP.ne part (by simp))
      rw [meas_append] at hm
      have hm : meas st' + (2 * part.length - 1 + 0) ≤ k + 1 := hm
      by_cases hall : ∀ g ∈ upG p, excI p.its part (g.filter (inB part)) ≤ 0
      · refine ih (dn ++ [part]) st' (by omega) (by rw [List.append_assoc]; exact hP) fun q hq => ?_
        rcases List.mem_append.mp hq with hq | hq
        · exact hW q hq
        · rw [List.mem_singleton.mp hq]; exact hP.whole hp hall
      · have hne : upG p ≠ [] := List.ne_nil_of_mem (all_upG hp)
        obtain ⟨g, hg, hmin⟩ := exists_min (fun g => ((-(excI p.its part (g.filter (inB part))) : Int) : Rat)) hne
        have hmax : ∀ g' ∈ upG p, excI p.its part (g'.filter (inB part)) ≤ excI p.its part (g.filter (inB part)) := fun g' hg' => by
          have := Rat.intCast_le_intCast.mp (hmin g' hg'); omega
        have h0 : 0 < excI p.its part (g.filter (inB part)) := by
          apply Int.not_le.mp
          intro z
          exact hall fun g' hg' => Int.le_trans (hmax g' hg') z
        obtain ⟨e1, hP2, un, rn⟩ := hP.split hp hg rfl h0 hmax
        generalize g.filter (inB part) = U at *
        have ulen : U.length + (part.filter fun i => !inB U i).length = part.length := by
          have := List.filter_append_perm (inB U) part
          rw [e1] at this
          have := this.length_eq
          rw [List.length_append] at this; exact this
        have u1 : 1 ≤ U.length := List.length_pos_iff.mpr un
        have r1 : 1 ≤ (part.filter fun i => !inB U i).length := List.length_pos_iff.mpr rn
        refine ih dn (st' ++ [U, part.filter fun i => !inB U i]) ?_ ?_ hW
        · rw [meas_append]
          show meas st' + (2 * U.length - 1 + (2 * (part.filter fun i => !inB U i).length - 1 + 0)) ≤ k
          omega
        · have e : dn ++ (st' ++ [U, part.filter fun i => !inB U i]).reverse = dn ++ (part.filter fun i => !inB U i) :: U :: st'.reverse := by rw [List.reverse_append]; rfl
          rw [e]; exact hP2
theorem best_exists (hp : PanOk m p) (hm : m ≤ 100) : ∃ r, BestP p r ∧ ∀ i, i < p.its.length → SzR 150 (r i) := by
  classical
  obtain ⟨ps, hP, hW⟩ := parts_exist hp _ [] [List.range p.its.length] (Nat.le_refl _) (Parts.start hp) (by simp)
  have uniq : ∀ q ∈ ps, ∀ q' ∈ ps, ∀ i, i ∈ q → i ∈ q' → q' = q := fun q hq q' hq' i iq iq' => by
    obtain ⟨a, b, rfl⟩ := List.append_of_mem hq
    have nd := hP.nd i iq
    rcases List.mem_append.mp hq' with h | h
    · exact absurd (List.mem_flatten.mpr ⟨q', h, iq'⟩) nd.2
    · rcases List.mem_cons.mp h with h | h
      · exact h
      · exact absurd (List.mem_flatten.mpr ⟨q', h, iq'⟩) nd.1
  have hr : ∀ q ∈ ps, ∀ i ∈ q, (if h : ∃ q ∈ ps, i ∈ q then avg (selI p.its h.choose) else 0) = avg (selI p.its q) := fun q hq i hi => by
    have h : ∃ q ∈ ps, i ∈ q := ⟨q, hq, hi⟩
    rw [dif_pos h, uniq q hq h.choose h.choose_spec.1 i hi h.choose_spec.2]
  refine ⟨_, hP.best hp hW hr, fun i hi => ?_⟩
  obtain ⟨q, hq, iq⟩ := List.mem_flatten.mp (hP.fl.mem_iff.mpr (List.mem_range.mpr hi))
  rw [hr q hq i iq]
  have ht := hp.top
  have ql : q.length ≤ 100 := by have := (hP.sb q hq).length_le; rw [List.length_range] at this; omega
  exact avg_sz (fun z hz => (hp.it z (sel_mem (hP.lt hq) hz)).b) (by simp [selI]; omega) (sel_ne (hP.ne q hq))
theorem BestP.eq (hp : PanOk m p) {r s : Nat → Rat} (hr : BestP p r) (hs : BestP p s) {i : Nat} (hi : i < p.its.length) : r i = s i :=
  Best.unique hr hs (fun j hj => wR_pos hp (List.mem_range.mp hj)) i (List.mem_range.mpr hi)
end
end Pm
set_option Elab.async false
set_option linter.all false
set_option maxRecDepth 100000
set_option maxHeartbeats 1000000
set_option autoImplicit false
namespace Pm
open PySem PySem.Spec
open PyProof.Rows hiding St
open L2
def scT (p : Pan) (t : Rat) (g : List Nat) : Int := scS (selI p.its g) t.num t.den
def mxG (p : Pan) (t : Rat) : List (List Nat) := (upG p).filter fun g => (upG p).all fun h => decide (scT p t h ≤ scT p t g)
def topIn (p : Pan) (t : Rat) : List Nat := (List.range p.its.length).filter fun i => (mxG p t).all fun g => inB g i
def topOut (p : Pan) (t : Rat) : List Nat := (List.range p.its.length).filter fun i => (mxG p t).any fun g => inB g i
section
variable {p : Pan} {n : Nat} {t : Rat}
theorem mx_is {m : Int} (h1 : m ∈ (upG p).map (scT p t)) (h2 : ∀ y ∈ (upG p).map (scT p t), y ≤ m) : (upG p).filter (fun g => decide (scT p t g = m)) = mxG p t := by
  unfold mxG
  refine List.filter_congr fun g hg => ?_
  rw [Bool.eq_iff_iff, decide_eq_true_eq, List.all_eq_true]
  constructor
  · intro e h hh
    rw [decide_eq_true_eq, e]
    exact h2 _ (List.mem_map.mpr ⟨h, hh, rfl⟩)
  · intro e
    obtain ⟨h, hh, rfl⟩ := List.mem_map.mp h1
    have a1 := of_decide_eq_true (e h hh)
    have a2 := h2 _ (List.mem_map.mpr ⟨g, hg, rfl⟩)
    omega
end
end Pm
set_option Elab.async false
set_option linter.all false
set_option maxRecDepth 100000
set_option maxHeartbeats 1000000
set_option autoImplicit false
namespace Pm
open PySem PySem.Spec PySem.W
open PyProof.Rows hiding St
open L2
def qLenN {γ : Type} (i : Nat) : PEx γ := fun s R => ∃ ds, s.ρ[i]? = some (some (.own ds)) ∧ R (.int (ds.length : Nat)) s
theorem qe_lenN {γ : Type} {X : Cx} {G : GP γ} {i : Nat} {a : Expr} {p pos : Pos} (hn : PE X a (tVar i)) (hg : Gl X "len") (hm : X.mg "len" = none) (hv : bootBuiltins "len" = some (.builtin "len"))
    (hs : starEach [a] X.env = (false, eval a X.env) :: starEach [] X.env := by rfl) (hpl : (backTo pos (starEach [] X.env)).any (·.1) = false := by rfl) : QE X G (.Call (.Name "len" p) [a] [] pos) (qLenN i) := by
  refine PE.imp (pe_callB call_len_seq hg hm hv (pa_cons hn pa_nil hs) (by decide) (by decide) hs hpl) fun σ H Q ⟨F, Z, s, R, r, ⟨ds, t1, t2⟩, q⟩ => ?_
  obtain ⟨b, vs, h1, h2, h3, _⟩ := r.own i ds t1
  exact ⟨.ref b, h1, b, vs, rfl, .inl (.inl (.inl h2)), q _ _ Z _ _ t2 (Same.refl _) r (by rw [h3.len]; rfl)⟩
end Pm
set_option Elab.async false
set_option linter.all false
set_option maxRecDepth 100000
set_option maxHeartbeats 1000000
set_option autoImplicit false
namespace Pm
open PySem PySem.Spec PySem.W
open PyProof.Rows hiding St
open L2
section
variable {E : Nat → Nat → Prop} {l : List Nat} {m m' w r s : Nat → Rat}
theorem sq_nonneg' (x : Rat) : 0 ≤ x * x := by
  rcases (show 0 ≤ x ∨ 0 ≤ -x by grind) with h | h
  · exact mul_nonneg' h h
  · have := mul_nonneg' h h; grind
theorem sq_zero {x : Rat} (h : x * x ≤ 0) : x = 0 := by
  by_cases z : x = 0
  · exact z
  · exfalso
    rcases (show 0 < x ∨ 0 < -x by grind) with h1 | h1
    · have := Rat.mul_pos h1 h1; grind
    · have := Rat.mul_pos h1 h1; grind
theorem sm_sq_zero {d : Nat → Rat} : ∀ {l : List Nat}, (∀ i ∈ l, 0 < w i) → sm (fun i => w i * (d i * d i)) l ≤ 0 → ∀ i ∈ l, d i = 0
  | [], _, _, i, hi => by cases hi
  | a :: l, hw, h, i, hi => by
    have p : 0 ≤ sm (fun i => w i * (d i * d i)) l := sm_nonneg fun j hj => mul_nonneg' (Rat.le_of_lt (hw j (by simp [hj]))) (sq_nonneg' _)
    have q : 0 ≤ w a * (d a * d a) := mul_nonneg' (Rat.le_of_lt (hw a (by simp))) (sq_nonneg' _)
    simp only [sm] at h
    rcases List.mem_cons.mp hi with rfl | hi
    · have e : w i * (d i * d i) ≤ 0 := by grind
      have hp := hw i (by simp)
      refine sq_zero ?_
      rcases (show d i * d i ≤ 0 ∨ 0 < d i * d i by grind) with z | z
      · exact z
      · have := Rat.mul_pos hp z; grind
    · exact sm_sq_zero (fun j hj => hw j (by simp [hj])) (by grind) i hi
theorem Best.dot0 (b : Best l E m w r) (hs : Obey E s) : sm (fun i => fw m w r i * (s i - r i)) l ≤ 0 := by
  have h1 := b.dot hs
  have h2 := b.dot_self
  have e : sm (fun i => fw m w r i * (s i - r i)) l = sm (fun i => fw m w r i * s i) l - sm (fun i => fw m w r i * r i) l := by
    rw [← sm_sub]
    exact sm_congr fun i _ => by grind
  rw [e, h2]; grind
def posp (x : Rat) : Rat := if 0 ≤ x then x else 0
theorem posp_sq (x : Rat) : x * posp x = posp x * posp x := by unfold posp; split <;> grind
theorem posp_nonneg (x : Rat) : 0 ≤ posp x := by unfold posp; split <;> grind
theorem Best.mono (b : Best l E m w r) (b' : Best l E m' w s) (hw : ∀ i ∈ l, 0 < w i) (h : ∀ i ∈ l, m i ≤ m' i) : ∀ i ∈ l, r i ≤ s i := by
  have o1 : Obey E fun i => r i - posp (r i - s i) := fun x y e => by
    have := b.ob x y e; have := b'.ob x y e
    simp only [posp]; split <;> split <;> grind
  have o2 : Obey E fun i => s i + posp (r i - s i) := fun x y e => by
    have := b.ob x y e; have := b'.ob x y e
    simp only [posp]; split <;> split <;> grind
  have d1 := b.dot0 o1
  have d2 := b'.dot0 o2
  have e : sm (fun i => w i * (posp (r i - s i) * posp (r i - s i))) l + sm (fun i => w i * ((m' i - m i) * posp (r i - s i))) l = sm (fun i => fw m w r i * (r i - posp (r i - s i) - r i)) l + sm (fun i => fw m' w s i * (s i + posp (r i - s i) - s i)) l := by
    rw [← sm_add, ← sm_add]
    refine sm_congr fun i _ => ?_
    simp only [fw]
    have := posp_sq (r i - s i)
    grind
  have p : 0 ≤ sm (fun i => w i * ((m' i - m i) * posp (r i - s i))) l := sm_nonneg fun i hi => mul_nonneg' (Rat.le_of_lt (hw i hi)) (mul_nonneg' (by have := h i hi; grind) (posp_nonneg _))
  have z := sm_sq_zero (d := fun i => posp (r i - s i)) hw (by grind)
  intro i hi
  have := z i hi
  unfold posp at this
  split at this <;> grind
end
end Pm
set_option Elab.async false
set_option linter.all false
set_option maxRecDepth 100000
set_option maxHeartbeats 1000000
set_option autoImplicit false
namespace Pm
open PySem PySem.Spec PySem.W
open PyProof.Rows hiding St
open L2
theorem Best.congr {E : Nat → Nat → Prop} {l : List Nat} {m m' w w' r : Nat → Rat} (b : Best l E m w r) (hm : ∀ i ∈ l, m i = m' i) (hw : ∀ i ∈ l, w i = w' i) : Best l E m' w' r := by
  have e : ∀ U : Nat → Bool, sm (fw m' w' r) (l.filter U) = sm (fw m w r) (l.filter U) := fun U => sm_congr fun i hi => by
    have h := (List.mem_filter.mp hi).1
    simp only [fw, hm i h, hw i h]
  exact ⟨b.ob, fun U hU => by rw [e]; exact b.up U hU, fun U hU => by rw [e]; exact b.lv U hU⟩
theorem wR_pos' {m : Nat} {p : Pan} (hp : PanOk m p) : ∀ i ∈ List.range p.its.length, 0 < wR p i := fun i hi => wR_pos hp (List.mem_range.mp hi)
theorem ItOk.sz {q : Int × Int} (h : ItOk q) : Sz 30 q.1 ∧ Sz 20 q.2 := by
  obtain ⟨a, b, c, d⟩ := h
  have e1 : (10 : Int) ^ 9 < 2 ^ 30 := by decide
  have e2 : (10 : Int) ^ 6 < 2 ^ 20 := by decide
  have e3 : ((2 ^ 30 : Nat) : Int) = 2 ^ 30 := by decide
  have e4 : ((2 ^ 20 : Nat) : Int) = 2 ^ 20 := by decide
  unfold Sz
  exact ⟨by omega, by omega⟩
end Pm
set_option Elab.async false
set_option linter.all false
set_option maxRecDepth 100000
set_option maxHeartbeats 1000000
set_option autoImplicit false
namespace Pm
open PySem PySem.Spec PySem.W
open PyProof.Rows hiding St
open L2
section
variable {p : Pan} {m : Nat} {r : Nat → Rat} {i : Nat}
theorem upG_sub {g : List Nat} (hg : g ∈ upG p) : g.Sublist (List.range p.its.length) := grpS_sub (List.mem_filter.mp hg).1
theorem upG_up (hp : PanOk m p) {g : List Nat} (hg : g ∈ upG p) : UpS (eE p) (inB g) := (upB_iff hp).mp (List.mem_filter.mp hg).2
end
end Pm
set_option Elab.async false
set_option linter.all false
set_option maxRecDepth 100000
set_option maxHeartbeats 1000000
set_option autoImplicit false
namespace Pm
open PySem PySem.Spec PySem.W
open PyProof.Rows hiding St
open L2
theorem rng_set {α : Type} {n i : Nat} {g : Nat → α} {x : α} : ((List.range n).map g).set i x = (List.range n).map fun a => if a = i then x else g a := by
  refine List.ext_getElem? fun k => ?_
  rw [List.getElem?_set, List.getElem?_map, List.getElem?_map]
  by_cases hk : k < n
  · rw [List.getElem?_range hk]
    by_cases e : i = k
    · subst e; simp [hk]
    · rw [if_neg e]
      simp [Ne.symm e]
  · have : (List.range n)[k]? = none := List.getElem?_eq_none (by simpa using hk)
    rw [this]
    by_cases e : i = k
    · subst e; simp [hk]
    · rw [if_neg e]; rfl
theorem sm_zero (l : List Nat) : sm (fun _ => (0 : Rat)) l = 0 := by
  induction l with
  | nil => rfl
  | cons _ l ih => simp only [sm, ih]; grind
theorem ixN_nat {n k : Nat} (h : k < n) : ixN n (k : Int) = some k := by
  unfold ixN
  rw [if_pos (by omega), if_pos (by omega), Int.toNat_natCast]
end Pm
set_option Elab.async false
set_option linter.all false
set_option maxRecDepth 100000
set_option maxHeartbeats 1000000
set_option autoImplicit false
namespace Pm
open PySem PySem.Spec
open L2
def exT (p : Pan) (t : Rat) (g : List Nat) : Rat := sm (fun i => wR p i * (mR p i - t)) g
theorem scT_ex (p : Pan) (t : Rat) (g : List Nat) : ((scT p t g : Int) : Rat) = exT p t g * ((t.den : Int) : Rat) := by
  unfold scT exT
  induction g with
  | nil => show ((0 : Int) : Rat) = 0 * _; rw [Rat.zero_mul]; rfl
  | cons i g ih =>
    have e : scS (selI p.its (i :: g)) t.num t.den = (p.its.getD i (0, 1)).2 * ((p.its.getD i (0, 1)).1 * t.den - t.num) + scS (selI p.its g) t.num t.den := by unfold scS selI; simp
    rw [e, Rat.intCast_add, ih, Rat.intCast_mul, Rat.intCast_sub, Rat.intCast_mul, num_den t]
    simp only [sm]
    unfold wR mR
    grind
theorem sm_if (h : Nat → Rat) (U : Nat → Bool) : ∀ l : List Nat, sm h (l.filter U) = sm (fun i => if U i = true then h i else 0) l
  | [] => rfl
  | i :: l => by
    rw [List.filter_cons]
    by_cases e : U i = true
    · rw [if_pos e]; simp only [sm, e, if_true, sm_if h U l]
    · rw [if_neg e, sm_if h U l]; simp only [sm, e, if_false]; simp [Rat.zero_add]
theorem sm_all0 {d : Nat → Rat} : ∀ {l : List Nat}, (∀ i ∈ l, 0 ≤ d i) → sm d l ≤ 0 → ∀ i ∈ l, d i = 0
  | [], _, _, i, hi => by cases hi
  | x :: l, h, h0, i, hi => by
    have hx := h x (by simp)
    have hl := sm_nonneg fun i hi => h i (List.mem_cons_of_mem _ hi)
    simp only [sm] at h0
    rcases List.mem_cons.mp hi with rfl | hi
    · grind
    · exact sm_all0 (fun i hi => h i (List.mem_cons_of_mem _ hi)) (by grind) i hi
section
variable {m : Nat} {p : Pan} {r : Nat → Rat} {t : Rat}
def above (p : Pan) (r : Nat → Rat) (t : Rat) : List Nat := (List.range p.its.length).filter fun i => decide (t < r i)
def atLeast (p : Pan) (r : Nat → Rat) (t : Rat) : List Nat := (List.range p.its.length).filter fun i => decide (t ≤ r i)
theorem exT_split (p : Pan) (r : Nat → Rat) (t : Rat) (g : List Nat) : exT p t g = sm (fw (mR p) (wR p) r) g + sm (fun i => wR p i * (r i - t)) g := by
  unfold exT
  rw [← sm_add]
  exact sm_congr fun i _ => by unfold fw; grind
theorem exT_above (b : BestP p r) : exT p t (above p r t) = sm (fun i => wR p i * (r i - t)) (above p r t) := by
  rw [exT_split p r]
  unfold above
  rw [b.lv _ (rup_gt t), Rat.zero_add]
theorem exT_least (b : BestP p r) (hp : PanOk m p) : exT p t (atLeast p r t) = sm (fun i => wR p i * (r i - t)) (above p r t) := by
  rw [exT_split p r]
  unfold atLeast above
  rw [b.lv _ (rup_ge t), Rat.zero_add, sm_if, sm_if]
  refine sm_congr fun i _ => ?_
  simp only [decide_eq_true_eq]
  by_cases h : t < r i
  · rw [if_pos h, if_pos (Rat.le_of_lt h)]
  · by_cases h2 : t ≤ r i
    · rw [if_pos h2, if_neg h]
      have : r i = t := by grind
      rw [this]; grind
    · rw [if_neg h2, if_neg h]
theorem up_le (b : BestP p r) (hp : PanOk m p) {g : List Nat} (hg : g ∈ upG p) : exT p t g ≤ sm (fun i => if inB g i = true then wR p i * (r i - t) else 0) (List.range p.its.length) := by
  have g1 := List.mem_filter.mp hg
  have sub := grpS_sub g1.1
  have e := range_filter sub
  have up : UpS (eE p) (inB g) := (upB_iff hp).mp g1.2
  have := b.up _ up
  rw [e] at this
  rw [exT_split p r, ← sm_if, e]
  grind
theorem pw_le (hp : PanOk m p) (g : List Nat) : ∀ i ∈ List.range p.its.length, (if inB g i = true then wR p i * (r i - t) else 0) ≤ (if decide (t < r i) = true then wR p i * (r i - t) else 0) := fun i hi => by
  have w := Rat.le_of_lt (wR_pos' hp i hi)
  simp only [decide_eq_true_eq]
  by_cases a : inB g i = true <;> by_cases c : t < r i <;> simp only [a, c, if_true, if_false]
  · exact Rat.le_refl
  · have := mul_nonneg' w (show 0 ≤ t - r i by grind)
    simp; grind
  · have := mul_nonneg' w (show 0 ≤ r i - t by grind)
    simp; grind
  · exact Rat.le_refl
theorem above_up (b : BestP p r) (hp : PanOk m p) : above p r t ∈ upG p := upG_of hp (RUp.up b.ob (rup_gt t))
theorem least_up (b : BestP p r) (hp : PanOk m p) : atLeast p r t ∈ upG p := upG_of hp (RUp.up b.ob (rup_ge t))
theorem sc_le (g h : List Nat) : scT p t g ≤ scT p t h ↔ exT p t g ≤ exT p t h := by
  have d := den_pos t
  rw [← Rat.intCast_le_intCast, scT_ex, scT_ex]
  constructor
  · intro h
    exact Rat.not_lt.mp fun c => by
      have := Rat.mul_lt_mul_of_pos_right c d
      grind
  · intro h; exact Rat.mul_le_mul_of_nonneg_right h (Rat.le_of_lt d)
theorem all_le (b : BestP p r) (hp : PanOk m p) {g : List Nat} (hg : g ∈ upG p) : exT p t g ≤ exT p t (above p r t) := by
  refine Rat.le_trans (up_le b hp hg) ?_
  rw [exT_above b]
  unfold above
  rw [sm_if]
  exact sm_le (pw_le hp g)
theorem above_mx (b : BestP p r) (hp : PanOk m p) : above p r t ∈ mxG p t := by
  refine List.mem_filter.mpr ⟨above_up b hp, List.all_eq_true.mpr fun h hh => decide_eq_true ((sc_le _ _).mpr (all_le b hp hh))⟩
theorem least_mx (b : BestP p r) (hp : PanOk m p) : atLeast p r t ∈ mxG p t := by
  refine List.mem_filter.mpr ⟨least_up b hp, List.all_eq_true.mpr fun h hh => decide_eq_true ((sc_le _ _).mpr ?_)⟩
  rw [exT_least b hp, ← exT_above b]
  exact all_le b hp hh
theorem mx_mem (b : BestP p r) (hp : PanOk m p) {g : List Nat} (hg : g ∈ mxG p t) : ∀ i, i < p.its.length → (t < r i → i ∈ g) ∧ (r i < t → i ∉ g) := by
  have g1 := List.mem_filter.mp hg
  have le := (sc_le _ _).mp (of_decide_eq_true (List.all_eq_true.mp g1.2 _ (above_up (t := t) b hp)))
  have l2 := up_le (t := t) b hp g1.1
  rw [exT_above b] at le
  unfold above at le
  rw [sm_if] at le
  have z := sm_all0 (d := fun i => (if decide (t < r i) = true then wR p i * (r i - t) else 0) - (if inB g i = true then wR p i * (r i - t) else 0)) (l := List.range p.its.length) (fun i hi => by have := pw_le (r := r) (t := t) hp g i hi; grind) (by rw [sm_sub]; grind)
  intro i hi
  have zi := z i (List.mem_range.mpr hi)
  have w := wR_pos' hp i (List.mem_range.mpr hi)
  simp only [decide_eq_true_eq] at zi
  constructor
  · intro h
    rw [if_pos h] at zi
    by_cases a : inB g i = true
    · exact of_decide_eq_true a
    · rw [if_neg a] at zi
      have := Rat.mul_pos w (show 0 < r i - t by grind)
      grind
  · intro h hm
    have a : inB g i = true := decide_eq_true hm
    rw [if_neg (by grind), if_pos a] at zi
    have := Rat.mul_pos w (show 0 < t - r i by grind)
    grind
theorem topIn_eq (b : BestP p r) (hp : PanOk m p) : topIn p t = above p r t := by
  refine List.filter_congr fun i hi => ?_
  have hi := List.mem_range.mp hi
  rw [Bool.eq_iff_iff, decide_eq_true_eq, List.all_eq_true]
  constructor
  · intro h
    have := of_decide_eq_true (h _ (above_mx b hp))
    exact of_decide_eq_true (List.mem_filter.mp this).2
  · intro h g hg
    exact decide_eq_true ((mx_mem b hp hg i hi).1 h)
theorem topOut_eq (b : BestP p r) (hp : PanOk m p) : topOut p t = atLeast p r t := by
  refine List.filter_congr fun i hi => ?_
  have hi' := List.mem_range.mp hi
  rw [Bool.eq_iff_iff, decide_eq_true_eq, List.any_eq_true]
  constructor
  · rintro ⟨g, hg, h⟩
    exact Rat.not_lt.mp fun c => (mx_mem b hp hg i hi').2 c (of_decide_eq_true h)
  · intro h
    exact ⟨_, least_mx b hp, decide_eq_true (List.mem_filter.mpr ⟨hi, decide_eq_true h⟩)⟩
end
end Pm
set_option Elab.async false
set_option linter.all false
set_option maxRecDepth 100000
set_option maxHeartbeats 1000000
set_option autoImplicit false
namespace Pm
open PySem PySem.Spec
open L2
def revP (p : Pan) : Pan := ⟨p.its.map fun q => (0 - q.1, q.2), p.rus.map fun q => (q.2, q.1)⟩
theorem revP_len (p : Pan) : (revP p).its.length = p.its.length := List.length_map ..
theorem revP_ok {m : Nat} {p : Pan} (hp : PanOk m p) : PanOk m (revP p) := by
  refine ⟨by rw [revP_len]; exact hp.one, by rw [revP_len]; exact hp.top, fun q hq => ?_, by show (p.rus.map _).length ≤ 16; rw [List.length_map]; exact hp.few, fun q hq => ?_⟩
  · obtain ⟨a, ha, rfl⟩ := List.mem_map.mp hq
    obtain ⟨h1, h2, h3, h4⟩ := hp.it a ha
    exact ⟨by show -(10 ^ 9) ≤ 0 - a.1; omega, by show 0 - a.1 ≤ 10 ^ 9; omega, h3, h4⟩
  · obtain ⟨a, ha, rfl⟩ := List.mem_map.mp hq
    obtain ⟨h1, h2, h3, h4, h5⟩ := hp.ru a ha
    rw [revP_len]
    exact ⟨h3, h4, h1, h2, fun e => h5 e.symm⟩
theorem revP_e {p : Pan} {a b : Nat} : eE (revP p) a b ↔ eE p b a := by
  unfold eE revP
  constructor
  · intro h
    obtain ⟨⟨x, y⟩, hx, e⟩ := List.mem_map.mp h
    cases e; exact hx
  · intro h
    exact List.mem_map.mpr ⟨_, h, rfl⟩
theorem revP_w {p : Pan} {i : Nat} (h : i < p.its.length) : wR (revP p) i = wR p i ∧ mR (revP p) i = -mR p i := by
  unfold wR mR revP
  simp only [List.getD_eq_getElem?_getD, List.getElem?_map, List.getElem?_eq_getElem h]
  refine ⟨rfl, ?_⟩
  show ((0 - p.its[i].1 : Int) : Rat) = -((p.its[i].1 : Int) : Rat)
  rw [Int.zero_sub, Rat.intCast_neg]
theorem BestP.rev {m : Nat} {p : Pan} {f : Nat → Rat} (hp : PanOk m p) (b : BestP p f) : BestP (revP p) fun i => -f i := by
  have tot := Best.all b
  have comp : ∀ U : Nat → Bool, sm (fw (mR (revP p)) (wR (revP p)) fun i => -f i) ((List.range (revP p).its.length).filter U) = sm (fw (mR p) (wR p) f) ((List.range p.its.length).filter fun i => !U i) := fun U => by
    have sp := sm_split (fw (mR p) (wR p) f) U (List.range p.its.length)
    rw [tot] at sp
    have e : sm (fw (mR (revP p)) (wR (revP p)) fun i => -f i) ((List.range (revP p).its.length).filter U) = (-1) * sm (fw (mR p) (wR p) f) ((List.range p.its.length).filter U) := by
      rw [revP_len, ← sm_mul]
      refine sm_congr fun i hi => ?_
      have hi := List.mem_range.mp (List.mem_filter.mp hi).1
      obtain ⟨e1, e2⟩ := revP_w hi
      unfold fw
      rw [e1, e2]; grind
    rw [e]; grind
  refine ⟨fun a c e => ?_, fun U hU => ?_, fun U hU => ?_⟩
  · have := b.ob _ _ (revP_e.mp e)
    show -f a ≤ -f c
    grind
  · rw [comp]
    refine b.up _ fun x y e hx => ?_
    by_cases hy : U y = true
    · have := hU y x (revP_e.mpr e) hy
      rw [this] at hx; cases hx
    · simpa using hy
  · rw [comp]
    refine b.lv _ fun x y e hx => ?_
    by_cases hy : U y = true
    · have := hU y x (by simp only; grind) hy
      rw [this] at hx; cases hx
    · simpa using hy
end Pm
set_option Elab.async false
set_option linter.all false
set_option maxRecDepth 100000
set_option maxHeartbeats 1000000
set_option autoImplicit false
namespace Pm
open PySem PySem.Spec
open PyProof.Rows hiding St
open L2
section
variable {γ : Type} {X : Cx} {G : GP γ} {a b c : Expr} {pos : Pos}
theorem MatL.grow {F : Fra} {Z : Hp} {s : S γ} {σ : L2.St} {H H' : Hp} {l : L} {v : V} (m : MatL G F Z s σ H l v) (k : Same H H') : MatL G F Z s σ H' l v := by
  cases l with
  | val d => exact m
  | own ds =>
    obtain ⟨a, us, e, h1, h⟩ := m
    exact ⟨a, us, e, k _ _ h1, h⟩
  | dic _ => exact m.elim
end
end Pm
set_option Elab.async false
set_option linter.all false
set_option maxRecDepth 100000
set_option maxHeartbeats 3200000
set_option autoImplicit false
namespace Pm
open PySem PySem.Spec PySem.W
open PyProof.Rows hiding St
open L2
abbrev sob (w : World) : Obj := { cls := .type "set", dict := none, data := .set #[] 0 (.fresh 0 0 (!w.params.followText "set-order")) }
section
variable {P : Program} {w : World} {A : Around} {E : Value → Shared → Prop} {s : Shared}
theorem call_set_lst {l : Addr} {xs : Array Value} (ns : List Int) {Q : Value → Shared → Prop} (hh : A.handled = none) (hl : s.heap.IsList l xs) (hit : IntsAre xs.toList ns) (hb : ns.length + 1 < scanBound)
    (h : ∀ (h' : Heap) (tk c : Nat), SetR w h' s.heap.objs.size (fun j => decide (j ∈ ns)) c → c ≤ ns.length → (∀ b o, s.heap.get? b = some o → h'.get? b = some o) → Q (.ref s.heap.objs.size) { s with heap := h', toks := tk }) :
    wpAny (model P w) A (call (.type "set") [.ref l]) Q E s := by
  have sz : xs.size = ns.length := by
    have q := IntsAre.length hit
    rwa [Array.length_toList] at q
  obtain ⟨c0, tl0, mro0⟩ := F.called_set.mro
  have made0 := F.called_set.made
  have sub0 := F.called_set.sub
  refine wpAny_call (codeAny_of_tree (?_))
  show wpAny _ _ (callAny (.type "set") (_)) _ _ _
  refine wpAny_pure ⟨Code.quiet_builtin (_) (by decide +kernel), codeAny_builtin F.entry_type_call (?_)⟩
  rw [Around.under_plain (weight_type_call_type "set" [.ref l] ([])) rfl]
  have c1 := F.called_set.notType
  have c2 := F.called_set.canCreate
  have c3 := F.typeCall_set_1 (.ref l)
  repeat (any_goals first | assumption | wp_step)
  refine codeAny_mono (code_set_led1 (.ref l) (E := E) (Q₁ := fun obj s₁ => obj = .ref s.heap.objs.size ∧ s₁ = { s with heap := s.heap.push (sob w) }) ⟨rfl, rfl⟩) fun r s₁ hr => (?_)
  cases r with
  | error e => exact hr
  | ok fl =>
    cases fl with
    | ret obj =>
      obtain ⟨rfl, rfl⟩ := hr
      have gS : (s.heap.push (sob w)).get? s.heap.objs.size = some (sob w) := Heap.get?_push_size _ rfl
      have tS : Shared.TypeIs { s with heap := s.heap.push (sob w) } (.ref s.heap.objs.size) "set" := ⟨_, gS, rfl⟩
      have li := F.called_set.init.lookup
      have bi := F.called_set.init.bind (.ref s.heap.objs.size)
      repeat (any_goals first | assumption | wp_step)
      refine codeAny_mono (codeAny_call_builtin (R := wants (fun r s₂ => r = .none ∧ ∃ h' tk c, s₂ = { s with heap := h', toks := tk } ∧ SetR w h' s.heap.objs.size (fun j => decide (j ∈ ns)) c ∧ c ≤ ns.length ∧ (∀ b o, s.heap.get? b = some o → h'.get? b = some o)) E) F.called_set.init.plain F.entry_set_init (check_set_init_1 tS (?_))) fun r₂ s₂ hr₂ => (?_)
      · obtain ⟨ol, gl, cl, nl, dl⟩ := hl
        obtain ⟨ocls, odict, odata, oslots⟩ := ol
        simp only at cl dl
        subst cl; subst dl
        have gl' : (s.heap.push (sob w)).get? l = some { cls := .type "list", dict := odict, data := .seq xs nl, slots := oslots } := Heap.get?_push_of_some _ gl
        have s1 := F.sub_list_set
        have s2 := F.sub_list_frozenset
        have ne : (Value.type "list" == Value.type "dict") = false := by decide
        have hl1 : (s.heap.push (sob w)).IsList l xs := ⟨_, gl', rfl, nl, rfl⟩
        unfold Builtin.«set.__init__» noKeywords Builtin.Frozenset.updateFrom
        generalize hPI : pyIter = PI
        wp_walk
        subst hPI
        refine wpAny_pyIter_list hl1 (?_)
        refine wpAny_bind (wpAny_runValue (?_))
        have lS : l < s.heap.objs.size := Heap.lt_size gl
        have h3 : A.in1.in1.in1.handled = none := by simp [hh]
        have nI : l ≠ (s.heap.push (sob w)).objs.size := by rw [Heap.size_push]; exact Nat.ne_of_lt (Nat.lt_succ_of_lt lS)
        have nS : s.heap.objs.size ∉ [(s.heap.push (sob w)).objs.size, l] := by
          rw [Heap.size_push]; simp only [List.mem_cons, List.not_mem_nil, or_false, not_or]
          exact ⟨Nat.ne_of_lt (Nat.lt_succ_self _), Nat.ne_of_gt lS⟩
        have hv : ∀ (i : Nat) (v : Value), xs[i]? = some v → ∃ k t, ns[i]? = some k ∧ v = .int k t := fun i v hv => by
          have hi : i < ns.length := by rw [← sz]; exact (Array.getElem?_eq_some_iff.mp hv).1
          obtain ⟨t, e⟩ := PyProof.Rows.IntsAre.int_at hit i v (by rw [Array.getElem?_toList]; exact hv)
          exact ⟨ns[i], t, List.getElem?_eq_getElem hi, by rw [e, List.getD_eq_getElem?_getD, List.getElem?_eq_getElem hi] <;> rfl⟩
        refine set_update_ints ((Walks.list h3 _ l nI xs).toS) s.heap.objs.size nS ns sz hb hv (xs.size - 0) 0 _ (by omega) (Nat.zero_le _) ⟨⟨_, Heap.get?_push_size _ rfl, rfl, rfl⟩, (hl1.push _)⟩ ?hS0 ?hR
        case hS0 =>
          have hg : ((s.heap.push (sob w)).push { cls := .type "list_iterator", data := .fields #[.ref l, .int 0 0] }).get? s.heap.objs.size = some (sob w) := Heap.get?_push_of_some _ gS
          exact ⟨0, Nat.le_refl 0, setR_new_at hg⟩
        case hR =>
          intro s' c' hm hc' hS'
          obtain ⟨h', g2, d', tk', os'⟩ := s'
          have eg : g2 = s.gens := hm.gens
          have ed : d' = s.drawn := hm.drawn
          have eo : os' = s.os := hm.os
          subst eg; subst ed; subst eo
          show wpAny _ _ _ _ _ _
          refine wpAny_pure (?_)
          show wpAny _ _ (ret Value.none) _ _ _
          rw [sz] at hc'
          refine wpAny_pure ⟨rfl, h', tk', c', rfl, hS', hc', fun b o e => (?_)⟩
          have b0 : b < s.heap.objs.size := Heap.lt_size e
          have b1 : b ≠ s.heap.objs.size := Nat.ne_of_lt b0
          have b2 : b ≠ (s.heap.push (sob w)).objs.size := by rw [Heap.size_push]; exact Nat.ne_of_lt (Nat.lt_succ_of_lt b0)
          exact hm.heap b o (by simp only [List.mem_cons, List.not_mem_nil, or_false, not_or]; exact ⟨b1, b2⟩) (Heap.get?_push_of_some _ (Heap.get?_push_of_some _ e))
      · cases r₂ with
        | error e => exact hr₂
        | ok f2 =>
          cases f2 with
          | ret r =>
            obtain ⟨rfl, h', tk, c', rfl, q1, q2, q3⟩ := hr₂
            repeat (any_goals first | assumption | wp_step)
            exact h _ _ _ q1 q2 q3
          | _ => exact hr₂.elim
    | _ => exact hr.elim
end
theorem nodup_leS : ∀ (l m : List Int), l.Nodup → (∀ k ∈ l, k ∈ m) → l.length ≤ m.length
  | [], m, _, _ => Nat.zero_le _
  | x :: l, m, hn, hs => by
    obtain ⟨h1, h2⟩ := List.nodup_cons.mp hn
    have hx := hs x (by simp)
    have ih := nodup_leS l (m.erase x) h2 fun k hk => (List.mem_erase_of_ne (fun e => h1 (by rw [← e]; exact hk))).mpr (hs k (by simp [hk]))
    rw [List.length_erase_of_mem hx] at ih
    have := List.length_pos_of_mem hx
    simp only [List.length_cons]; omega
theorem setR_few {w : World} {h : Heap} {a : Addr} {ns m : List Int} {c : Nat} (R : SetR w h a (fun j => decide (j ∈ ns)) c) (hm : ∀ k ∈ ns, k ∈ m) : c ≤ m.length := by
  obtain ⟨o, es, ep, t, _, _, _, _, nd, mem, _, _, hc, _⟩ := R
  have := nodup_leS (es.toList.map keyOf) m nd fun k hk => hm k (of_decide_eq_true ((mem k).mpr hk))
  rw [List.length_map, Array.length_toList] at this
  omega
section
variable {X : Cx}
def tSortSetL (K : PySem.W.Frag) (ta : TE) : TE := fun σ H Q => ta σ H fun x H1 => ∃ (l : Addr) (ns : List Int), x = V.ref l ∧ SqL K H1 l (ns.map V.int) ∧ ns.length ≤ 4000 ∧ (∃ m : List Int, (∀ k ∈ ns, k ∈ m) ∧ m.length < 64) ∧
  ∀ (out : List Int) (p : Addr), out.Pairwise (· < ·) → (∀ k, k ∈ out ↔ k ∈ ns) → H1 p = none → Q (.ref p) (upd H1 p (.lst (out.map V.int)))
theorem pe_sortSetL {a : Expr} {ta : TE} {p p2 q pos : Pos} (hc : X.calm = true) (hg : Gl X "sorted") (hm : X.mg "sorted" = none) (hg2 : Gl X "set") (hm2 : X.mg "set" = none) (ha : PE X a ta)
    (na : starEach [a] X.env = (false, eval a X.env) :: starEach [] X.env := by rfl) : PE X (.Call (.Name "sorted" p) [.Call (.Name "set" p2) [a] [] q] [] pos) (tSortSetL X.K ta) := by
  refine ⟨fun pins s σ H Q I h => ?_⟩
  refine Call_ (ld_blt I hg hm PyProof.Rows.boot_sorted ?_)
  refine PyProof.Rows.callWith_builtin1 (PyProof.Rows.args_cons ?_ rfl) rfl rfl
  refine Call_ (ld_blt I hg2 hm2 PyProof.Rows.boot_set ?_)
  refine PyProof.Rows.callWith_type1 (PyProof.Rows.args_cons (thn (ha.run pins s σ H _ I h) fun v s1 ⟨x, H1, I1, r1, q1⟩ => PyProof.Rows.args_nil ?_) na) na rfl
  obtain ⟨l, ns, rfl, hq, h1, ⟨m, hm1, hm2⟩, q1⟩ := q1
  cases r1
  obtain ⟨its, r, pt, hz⟩ := I1.list hq
  have hd := I1.ok.hd hc
  refine call_set_lst ns hd (show s1.heap.IsList l its.toArray from pt.isList) (by simpa using r.ints) (by unfold scanBound; omega) fun h' tk c R1 hcn k => ?_
  refine PyProof.Rows.args_nil ?_
  have I2 : Inv X pins σ H1 { s1 with heap := h', toks := tk } := I1.kept k
  have few := setR_few R1 hm1
  refine sorted_set R1 hd (by omega) fun s' p out c' ns' k2 g o hp hget hi hpw hmem hlen => ?_
  have hn : H1 p = none := I2.hok.fresh hp
  have hl : (ns'.map V.int).length ≤ sizeLine := by rw [List.length_map, sizeLine_eq]; omega
  have J : Inv X pins σ (upd H1 p (.lst (ns'.map V.int))) { ({ s1 with heap := h', toks := tk } : Shared) with heap := s'.heap, gens := s'.gens, drawn := s'.drawn, toks := s'.toks } :=
    I2.call (ch := []) (Un.laid k2 hp hn) (I2.hok.laid k2 hp ⟨hl, out.toList, c', vals_of_ints hi, hget⟩) (by rw [g]; exact I2.bare) (fun _ z => nomatch z)
  have e : s' = { ({ s1 with heap := h', toks := tk } : Shared) with heap := s'.heap, gens := s'.gens, drawn := s'.drawn, toks := s'.toks } := by
    cases s'
    cases s1
    cases o
    rfl
  rw [e]
  exact ⟨.ref p, _, J, rfl, q1 ns' p hpw (fun k => by rw [hmem k, decide_eq_true_eq]) hn⟩
end
section
variable {γ : Type} {X : Cx} {G : GP γ}
def qSortSetL (te : PEx γ) : PAx γ := fun s R => te s fun d s1 => match d with
  | .lst xs => ∃ ns, asInts xs = some ns ∧ ns.length ≤ 4000 ∧ (∃ m : List Int, (∀ k ∈ ns, k ∈ m) ∧ m.length < 64) ∧ ∀ out : List Int, out.Pairwise (· < ·) → (∀ k, k ∈ out ↔ k ∈ ns) → R (out.map D.int) s1
  | _ => False
theorem qf_sortSetL {a : Expr} {te : PEx γ} {p p2 q pos : Pos} (hc : X.calm = true) (hg : Gl X "sorted") (hm : X.mg "sorted" = none) (hg2 : Gl X "set") (hm2 : X.mg "set" = none) (ha : QE X G a te) (hK : G.K = X.K := by rfl)
    (na : starEach [a] X.env = (false, eval a X.env) :: starEach [] X.env := by rfl) : QF X G (.Call (.Name "sorted" p) [.Call (.Name "set" p2) [a] [] q] [] pos) (qSortSetL te) := by
  refine PE.imp (pe_sortSetL hc hg hm hg2 hm2 ha na) fun σ H Q ⟨F, Z, s, R, r, t, q⟩ => ?_
  refine ⟨F, Z, s, _, r, t, fun d s1 Z1 v H1 t1 k1 r1 a1 => ?_⟩
  match d, t1 with
  | .lst xs, ⟨ns, e, hl, hm', t1⟩ =>
    obtain ⟨l, vs, rfl, a2, a3⟩ := a1
    rw [asInts_eq e] at a3
    rw [a3.ints] at a2
    refine ⟨l, ns, rfl, .inl (.inl (r1.z _ _ a2)), hl, hm', fun out p hp hm hn => ?_⟩
    obtain ⟨f1, f2, f3, f4⟩ := r1.fresh hn
    exact q _ s1 Z1 p _ _ (t1 out hp hm) k1 (r1.grow (same_upd hn)) upd_same (Ats.of_ints out) f1 f2 f3 f4
end
end Pm
set_option Elab.async false
set_option linter.all false
set_option maxRecDepth 100000
set_option maxHeartbeats 1000000
set_option autoImplicit false
namespace Pm
open PySem PySem.Spec
open PyProof.Rows hiding St
open L2
mutual
def D.plz : D → Bool
  | .non => true
  | .bl _ => true
  | .int _ => true
  | .str x => PyData.strOk x
  | .lst xs => D.plzs xs
  | .tup xs => D.plzs xs
  | .dct ks xs => ks.isEmpty && xs.isEmpty
  | .obj _ => false
def D.plzs : List D → Bool
  | [] => true
  | d :: ds => d.plz && D.plzs ds
end
end Pm
set_option Elab.async false
set_option linter.all false
set_option maxRecDepth 100000
set_option maxHeartbeats 1000000
set_option autoImplicit false
namespace Pm
open PySem PySem.Spec
open PyProof.Rows hiding St
open L2
def oddL : List D := [.non, .bl true, .bl false, .int 0, .int (-1), .int 1, .int 2, .int (10 ^ 29), .str "", .str "a", .str "up", .tup [], .lst [], .dct [] [], .tup [.int 0], .lst [.int 0], .tup [.tup []], .tup [.int 1, .int 2], .tup [.int 0, .int 1], .tup [.int 2, .int 4]]
mutual
def D.fit (b : Nat) : D → Prop
  | .int i => Sz b i
  | .lst xs => D.fits b xs
  | .tup xs => D.fits b xs
  | _ => True
def D.fits (b : Nat) : List D → Prop
  | [] => True
  | d :: ds => d.fit b ∧ D.fits b ds
end
structure VOk (b w k : Nat) (d : D) : Prop where
  z : d.plz = true
  f : d.fit b
  w : d.wid ≤ w
  k : d.dep ≤ k
def gOk (d : D) : Prop := (∀ p, d ≠ .obj p) ∧ ∀ xs, d = .tup xs → xs.length ≤ 100000 ∧ ∀ x ∈ xs, ∀ p, x ≠ .obj p
theorem gOk_gr {gs : List Nat} (h : gs.length ≤ 100000) : gOk (grD gs) := by
  refine ⟨fun p e => (by cases e), fun xs e => ?_⟩
  have e : D.tup (gs.map natD) = .tup xs := e
  cases e
  refine ⟨by rw [List.length_map]; exact h, fun x hx p e => ?_⟩
  obtain ⟨i, _, rfl⟩ := List.mem_map.mp hx
  cases e
theorem allI_ints {n : Int} : ∀ {xs : List D}, xs.all (inI 0 n) = true → ∃ is, asInts xs = some is ∧ (is.all fun i => decide (0 ≤ i) && decide (i ≤ n)) = true
  | [], _ => ⟨[], rfl, rfl⟩
  | x :: xs, h => by
    rw [List.all_cons, Bool.and_eq_true] at h
    obtain ⟨is, e, hi⟩ := allI_ints h.2
    cases x with
    | int i =>
      refine ⟨i :: is, ?_, ?_⟩
      · have e0 := asInts_eq e
        subst e0
        exact asInts_map (i :: is)
      · rw [List.all_cons, hi, Bool.and_true]; exact h.1
    | _ => exact absurd h.1 (by simp [inI])
theorem allI_not {n : Int} : ∀ {xs : List D} {is : List Int}, asInts xs = some is → xs.all (inI 0 n) = is.all fun i => decide (0 ≤ i) && decide (i ≤ n) := fun {xs is} e => by
  have e0 := asInts_eq e
  subst e0
  rw [List.all_map]; rfl
end Pm
set_option Elab.async false
set_option linter.all false
set_option maxRecDepth 100000
set_option maxHeartbeats 1000000
set_option autoImplicit false
namespace Pm
open PySem PySem.Spec PySem.W
open PyProof.Rows hiding St
open L2
section
variable {X : Cx} {pins : List (Addr × Obj)} {σ : St} {H : Hp} {s : Shared}
def Only' (s s' : Shared) : Prop := (∀ b o, s.heap.get? b = some o → s'.heap.get? b = some o) ∧ s'.gens = s.gens ∧ s'.drawn = s.drawn ∧ s'.os = s.os ∧ s.toks ≤ s'.toks
theorem Only'.eq {s s' : Shared} (h : Only' s s') : s' = { s with heap := s'.heap, toks := s'.toks } := by
  obtain ⟨_, h1, h2, h3, _⟩ := h
  cases s
  cases s'
  simp only at h1 h2 h3
  subst h1; subst h2; subst h3
  rfl
theorem Only'.moved {s s1 s2 : Shared} {wr : List Addr} (h : Only' s s1) (m : Moved wr (fun a b => b = a) s1 s2) (hw : ∀ b ∈ wr, s.heap.objs.size ≤ b) : Only' s s2 := by
  obtain ⟨h0, h1, h2, h3, h4⟩ := h
  refine ⟨fun b o e => m.heap b o (fun hb => absurd (Heap.lt_size e) (Nat.not_lt.mpr (hw b hb))) (h0 b o e), m.gens.trans h1, m.drawn.trans h2, m.os.trans h3, Nat.le_trans h4 m.toks⟩
theorem min_run {l : Addr} {vs : List V} (ns : Nat → Int) {mx : Bool} {Q : VK} (hh : X.A.handled = none) (I : Inv X pins σ H s) (hq : SqL X.K H l vs) (hn : 0 < vs.length)
    (hl : ∀ i v, vs[i]? = some v → ∃ a ws, v = .ref a ∧ SqT X.K H a ws ∧ ns i = ws.length)
    (h : ∀ i v, vs[i]? = some v → (∀ j, j < vs.length → if mx then ns j ≤ ns i else ns i ≤ ns j) → Q v H) :
    wpAny (model X.prog X.w) X.A (call (.builtin (if mx then "max" else "min")) [.ref l] [(Str.ofString "key", .builtin "len")]) (EP X pins σ Q) X.xe s := by
  obtain ⟨its, r, pl, hz⟩ := I.list hq
  have ln := r.length
  have hls : s.heap.IsList l its.toArray := pl.isList
  obtain ⟨ol, hol, _⟩ := id hls
  have hll : l < s.heap.objs.size := Heap.lt_size hol
  let s2 : Shared := { s with heap := s.heap.push { cls := .type "list_iterator", data := .fields #[.ref l, .int 0 0] } }
  have W := (Walks.list (prog := X.prog) (w := X.w) (A := X.A.in1) hh s.heap.objs.size l (Nat.ne_of_lt hll) its.toArray).toS
  have sz : s2.heap.objs.size = s.heap.objs.size + 1 := Heap.size_push ..
  have gI : s2.heap.get? s.heap.objs.size = some { cls := .type "list_iterator", data := .fields #[.ref l, .int 0 0] } := Heap.get?_push_size _ rfl
  have keep : ∀ b o, s.heap.get? b = some o → s2.heap.get? b = some o := fun b o e => Heap.get?_push_of_some _ e
  have J0 : Only' s s2 := ⟨keep, rfl, rfl, rfl, Nat.le_refl _⟩
  have asz : its.toArray.size = vs.length := by rw [List.size_toArray, ln]
  have turn : ∀ {op : CmpOp} {bt : Nat → Nat → Bool}, (∀ (i j : Nat) (t u : Tok) (s' : Shared) (Q : Value → Shared → Prop) (E : Value → Shared → Prop), Q (.bool (bt i j)) s' → wpAny (model X.prog X.w) X.A.in1 (richCompare op (.int (ns i) t) (.int (ns j) u)) Q E s') →
      KeyRun X.prog X.w X.A.in1 (.builtin "len") op s2.heap.objs.size [s.heap.objs.size] (fun a b => b = a) its.toArray.size (fun i v => its.toArray[i]? = some v) (fun i s' => s'.heap.IsListIter s.heap.objs.size l i ∧ s'.heap.IsList l its.toArray) (Only' s) (fun i k _ => ∃ t, k = Value.int (ns i) t) bt := fun {op bt} hc => by
    refine ⟨fun s1 s1' hJ m => hJ.moved m fun b hb => ?_, fun i k s1 s1' hV _ => hV, fun i v s1 o Q E hi hP hJ hst hS hQ => ?_, fun i j ki kj s1 Q E hJ hi hj hQ => ?_⟩
    · simp only [List.mem_cons, List.not_mem_nil, or_false] at hb
      rcases hb with rfl | rfl
      · rw [sz]; exact Nat.le_succ _
      · exact Nat.le_refl _
    · have hi' : i < vs.length := by omega
      have hv : vs[i]? = some vs[i] := List.getElem?_eq_getElem hi'
      obtain ⟨u, hu, ru⟩ := r.get hv
      have eu : v = u := by
        have hP : its.toArray[i]? = some v := hP
        rw [List.getElem?_toArray, hu] at hP
        exact (Option.some.inj hP).symm
      subst eu
      obtain ⟨a, ws, e, ht, en⟩ := hl i _ hv
      rw [e] at ru
      cases ru
      have I1 : Inv X pins σ H { s with heap := s1.heap, toks := s1.toks } := I.kept (h' := s1.heap) (t' := s1.toks) hJ.1
      obtain ⟨its2, r2, p2, hz2⟩ := I1.tuple ht
      have ln2 := r2.length
      have n63 := line63
      refine len_tuple (s := s1) p2 (by simp only [List.size_toArray]; omega) (hQ _ { s1 with toks := s1.toks + 1 + 1 } ⟨hJ.1, hJ.2.1, hJ.2.2.1, hJ.2.2.2.1, by have := hJ.2.2.2.2; show s.toks ≤ s1.toks + 1 + 1; omega⟩ hst hS ⟨_, by rw [en, List.size_toArray, ln2]⟩ fun _ _ h => h)
    · obtain ⟨t, rfl⟩ := hi
      obtain ⟨u, rfl⟩ := hj
      exact hc i j t u s1 Q E hQ
  have fin : ∀ {bt : Nat → Nat → Bool}, (∀ k, argBest bt k ≤ k ∧ ∀ j, j ≤ k → if mx then ns j ≤ ns (argBest bt k) else ns (argBest bt k) ≤ ns j) → ∀ v s', its.toArray[argBest bt (its.toArray.size - 1)]? = some v → Only' s s' → EP X pins σ Q v s' := fun {bt} hb v s' hv hJ => by
    obtain ⟨h1, h2⟩ := hb (its.toArray.size - 1)
    have hi' : argBest bt (its.toArray.size - 1) < vs.length := by omega
    have hx : vs[argBest bt (its.toArray.size - 1)]? = some vs[argBest bt (its.toArray.size - 1)] := List.getElem?_eq_getElem hi'
    obtain ⟨u, hu, ru⟩ := r.get hx
    have eu : v = u := by
      rw [List.getElem?_toArray, hu] at hv
      exact (Option.some.inj hv).symm
    subst eu
    rw [hJ.eq]
    exact ⟨_, H, I.kept (h' := s'.heap) (t' := s'.toks) hJ.1, ru, h _ _ hx fun j hj => h2 j (by omega)⟩
  have st0 : s2.heap.IsListIter s.heap.objs.size l 0 ∧ s2.heap.IsList l its.toArray := ⟨⟨_, gI, rfl, rfl⟩, hls.at fun o e => keep _ _ e⟩
  have fp : ∀ b ∈ [s.heap.objs.size, l], b < s2.heap.objs.size := fun b hb => by
    simp only [List.mem_cons, List.not_mem_nil, or_false] at hb
    rcases hb with rfl | rfl
    · rw [sz]; exact Nat.lt_succ_self _
    · rw [sz]; exact Nat.lt_succ_of_lt hll
  cases mx with
  | false =>
    refine call_min_walkKB (wpAny_pyIter_list hls ⟨_, _, _, _, _, _, _, Only' s, _, _, rfl, W, st0, fp, by omega, turn (op := .Lt) (bt := fun i j => decide (ns i < ns j)) fun i j t u s' Q E hQ => ?_, J0, fin fun k => ?_⟩)
    · exact PyProof.Rows.lt_int hQ
    · exact argBest_lt ns k
  | true =>
    refine call_max_walkKB (wpAny_pyIter_list hls ⟨_, _, _, _, _, _, _, Only' s, _, _, rfl, W, st0, fp, by omega, turn (op := .Gt) (bt := fun i j => decide (ns i > ns j)) fun i j t u s' Q E hQ => ?_, J0, fin fun k => ?_⟩)
    · exact PyProof.Rows.gt_int hQ
    · exact argBest_gt ns k
end
section
variable {X : Cx}
theorem boot_lenB : bootBuiltins "len" = some (.builtin "len") := by decide +kernel
def tMinLen (K : PySem.W.Frag) (mx : Bool) (ta : TE) : TE := fun σ H Q => ta σ H fun x H1 => ∃ (l : Addr) (vs : List V) (ns : Nat → Int), x = V.ref l ∧ SqL K H1 l vs ∧ 0 < vs.length ∧
  (∀ i v, vs[i]? = some v → ∃ a ws, v = .ref a ∧ SqT K H1 a ws ∧ ns i = (ws.length : Nat)) ∧ ∀ i v, vs[i]? = some v → (∀ j, j < vs.length → if mx then ns j ≤ ns i else ns i ≤ ns j) → Q v H1
theorem pe_minLen {mx : Bool} {x : Str} {a : Expr} {ta : TE} {p p2 kp pos : Pos} (hc : X.calm = true) (hg : Gl X x) (hm : X.mg x = none) (hv : bootBuiltins x = some (.builtin (if mx then "max" else "min"))) (hn : x ≠ "__name__") (hdb : (x == ("__debug__" : Str)) = false)
    (hg2 : Gl X "len") (hm2 : X.mg "len" = none) (ha : PE X a ta)
    (he : backTo pos (starEach [a] X.env) = (false, eval a X.env) :: backTo pos (starEach [] X.env) := by rfl) (hpl : (backTo pos (starEach [a] X.env)).any (·.1) = false := by rfl)
    (hall : (backToKw pos (keywordEach [⟨some "key", .Name "len" p2, kp⟩] X.env)).all (·.1.isSome) = true := by rfl) (hnone : (backToKw pos (keywordEach [⟨some "key", .Name "len" p2, kp⟩] X.env)).any (·.1.isNone) = false := by rfl)
    (hks : (backToKw pos (keywordEach [⟨some "key", .Name "len" p2, kp⟩] X.env)).filterMap (·.1) = ([Str.ofString "key"] : List Str) := by rfl) (hs1 : starEach [a] X.env = (false, eval a X.env) :: starEach [] X.env := by rfl) :
    PE X (.Call (.Name x p) [a] [⟨some "key", .Name "len" p2, kp⟩] pos) (tMinLen X.K mx ta) := by
  refine ⟨fun pins s σ H Q I h => ?_⟩
  refine wpAny_Call_Name_kw (ld_blt I hg hm hv ?_ hn hdb)
  have hA : PA X [a] (tCons ta tNil) := pa_cons ha pa_nil hs1
  refine PyProof.Rows.callWith_kw (thn (hA.run pos pins s σ H (fun us H1 => match us with
    | [x] => ∃ (l : Addr) (vs : List V) (ns : Nat → Int), x = V.ref l ∧ SqL X.K H1 l vs ∧ 0 < vs.length ∧
    (∀ i v, vs[i]? = some v → ∃ a ws, v = .ref a ∧ SqT X.K H1 a ws ∧ ns i = (ws.length : Nat)) ∧ ∀ i v, vs[i]? = some v → (∀ j, j < vs.length → if mx then ns j ≤ ns i else ns i ≤ ns j) → Q v H1
    | _ => False) I h) fun us s1 ⟨vs0, H1, I1, r1, q1⟩ => ?_) he hpl hall hnone
  match vs0, q1 with
  | [_], ⟨l, vs, ns, e, hq, h0, hl, hQ⟩ =>
    cases e
    obtain rfl := Vals.ref1 r1
    rw [hks]
    show wpAny _ _ (evalAll ((do let v ← eval (.Name "len" p2) X.env; standAt pos; pure v) :: [])) _ _ s1
    refine wpAny_evalAll_cons (wpAny_bind (ld_blt I1 hg2 hm2 boot_lenB (wpAny_bind (wpAny_standAt (wpAny_pure (wpAny_evalAll_nil ?_))))))
    exact min_run ns (I1.ok.hd hc) I1 hq h0 hl hQ
end
section
variable {γ : Type} {X : Cx} {G : GP γ}
def lenD0 : D → Nat
  | .tup xs => xs.length
  | _ => 0
def qMinLen (mx : Bool) (te : PEx γ) : PEx γ := fun s R => te s fun d s1 => match d with
  | .lst xs => xs ≠ [] ∧ (∀ x ∈ xs, ∃ ys, x = .tup ys) ∧ ∀ x ∈ xs, (∀ y ∈ xs, if mx then lenD0 y ≤ lenD0 x else lenD0 x ≤ lenD0 y) → R x s1
  | _ => False
theorem qe_minLen {mx : Bool} {x : Str} {a : Expr} {te : PEx γ} {p p2 kp pos : Pos} (hc : X.calm = true) (hg : Gl X x) (hm : X.mg x = none) (hv : bootBuiltins x = some (.builtin (if mx then "max" else "min"))) (hg2 : Gl X "len") (hm2 : X.mg "len" = none) (ha : QE X G a te)
    (hn : x ≠ "__name__" := by decide) (hdb : (x == ("__debug__" : Str)) = false := by decide) (hK : G.K = X.K := by rfl)
    (he : backTo pos (starEach [a] X.env) = (false, eval a X.env) :: backTo pos (starEach [] X.env) := by rfl) (hpl : (backTo pos (starEach [a] X.env)).any (·.1) = false := by rfl)
    (hall : (backToKw pos (keywordEach [⟨some "key", .Name "len" p2, kp⟩] X.env)).all (·.1.isSome) = true := by rfl) (hnone : (backToKw pos (keywordEach [⟨some "key", .Name "len" p2, kp⟩] X.env)).any (·.1.isNone) = false := by rfl)
    (hks : (backToKw pos (keywordEach [⟨some "key", .Name "len" p2, kp⟩] X.env)).filterMap (·.1) = ([Str.ofString "key"] : List Str) := by rfl) (hs1 : starEach [a] X.env = (false, eval a X.env) :: starEach [] X.env := by rfl) :
    QE X G (.Call (.Name x p) [a] [⟨some "key", .Name "len" p2, kp⟩] pos) (qMinLen mx te) := by
  refine PE.imp (pe_minLen hc hg hm hv hn hdb hg2 hm2 ha he hpl hall hnone hks hs1) fun σ H Q ⟨F, Z, s, R, r, t, q⟩ => ?_
  refine ⟨F, Z, s, _, r, t, fun d s1 Z1 v H1 t1 k1 r1 a1 => ?_⟩
  match d, t1 with
  | .lst xs, ⟨h0, ht, hR⟩ =>
    simp only [At] at a1
    obtain ⟨l, vs, rfl, a2, a3⟩ := a1
    have hl := a3.len
    have at' : ∀ i v, vs[i]? = some v → ∃ x, xs[i]? = some x ∧ At G.K Z1 x v := fun i v hv => by
      have hi : i < xs.length := by have := (List.getElem?_eq_some_iff.mp hv).1; omega
      obtain ⟨v', e1, e2⟩ := a3.get (List.getElem?_eq_getElem hi)
      rw [hv] at e1; cases e1
      exact ⟨_, List.getElem?_eq_getElem hi, e2⟩
    refine ⟨l, vs, fun i => ((xs.map lenD0).getD i 0 : Nat), rfl, .inl (.inl (r1.z _ _ a2)), ?_, fun i v hv => ?_, fun i v hv hb => ?_⟩
    · cases xs with
      | nil => exact absurd rfl h0
      | cons _ _ => simp only [List.length_cons] at hl; omega
    · obtain ⟨x, hx, ax⟩ := at' i v hv
      obtain ⟨ys, rfl⟩ := ht x (List.mem_of_getElem? hx)
      simp only [At] at ax
      obtain ⟨b, ws, rfl, b2, b3⟩ := ax
      refine ⟨b, ws, rfl, by rw [← hK]; exact seqT r1.z b2, ?_⟩
      show (((xs.map lenD0).getD i 0 : Nat) : Int) = _
      rw [List.getD_eq_getElem?_getD, List.getElem?_map, hx]
      simp [lenD0, b3.len]
    · obtain ⟨x, hx, ax⟩ := at' i v hv
      refine q x s1 Z1 v H1 (hR x (List.mem_of_getElem? hx) fun y hy => ?_) k1 r1 ax
      obtain ⟨j, hj, e⟩ := List.getElem_of_mem hy
      have : if mx then (((xs.map lenD0).getD j 0 : Nat) : Int) ≤ (((xs.map lenD0).getD i 0 : Nat) : Int) else (((xs.map lenD0).getD i 0 : Nat) : Int) ≤ (((xs.map lenD0).getD j 0 : Nat) : Int) := hb j (by omega)
      rw [List.getD_eq_getElem?_getD, List.getD_eq_getElem?_getD, List.getElem?_map, List.getElem?_map, hx, List.getElem?_eq_getElem hj, e] at this
      simp only [Option.map_some, Option.getD_some] at this
      cases mx with
      | true => simp only [if_true] at this ⊢; omega
      | false => simp only [Bool.false_eq_true, if_false] at this ⊢; omega
end
end Pm
set_option Elab.async false
set_option linter.all false
set_option maxRecDepth 100000
set_option maxHeartbeats 1000000
set_option autoImplicit false
namespace Pm
open PySem PySem.Spec
open PyProof.Rows hiding St
open L2
def mk (p : Pan) (i : Nat) : Int := (p.its.getD i (0, 1)).1
def wt (p : Pan) (i : Nat) : Int := (p.its.getD i (0, 1)).2
def pS (p : Pan) (t : Int) : Pan := ⟨p.its.map fun q => (if t < q.1 then 1 else -1, q.2), p.rus⟩
def loG (p : Pan) (t : Int) : List Nat := topIn (pS p t) 0
def hiG (p : Pan) (t : Int) : List Nat := topOut (pS p t) 0
def gn (p : Pan) (t : Int) (g : List Nat) : Int := scT (pS p t) 0 g
def mxS (p : Pan) (t : Int) : List (List Nat) := mxG (pS p t) 0
section
variable {m : Nat} {p : Pan} {t : Int}
theorem pS_len : (pS p t).its.length = p.its.length := by simp [pS]
theorem pS_ok (hp : PanOk m p) : PanOk m (pS p t) := by
  refine ⟨by rw [pS_len]; exact hp.one, by rw [pS_len]; exact hp.top, fun q hq => ?_, hp.few, fun q hq => by rw [pS_len]; exact hp.ru q hq⟩
  obtain ⟨q', hq', rfl⟩ := List.mem_map.mp hq
  obtain ⟨a, b, c, d⟩ := hp.it q' hq'
  show ItOk (if t < q'.1 then 1 else -1, q'.2)
  split
  · exact ⟨by show -(10 ^ 9) ≤ (1 : Int); decide, by show (1 : Int) ≤ 10 ^ 9; decide, c, d⟩
  · exact ⟨by show -(10 ^ 9) ≤ (-1 : Int); decide, by show (-1 : Int) ≤ 10 ^ 9; decide, c, d⟩
theorem upG_pS : upG (pS p t) = upG p := by
  unfold upG
  rw [pS_len]
  rfl
theorem pS_at {i : Nat} (hi : i < p.its.length) : (pS p t).its.getD i (0, 1) = (if t < mk p i then 1 else -1, wt p i) := by
  unfold pS mk wt
  rw [List.getD_eq_getElem?_getD, List.getElem?_map, List.getD_eq_getElem?_getD, List.getElem?_eq_getElem hi]
  rfl
theorem gn_sum {g : List Nat} (hg : ∀ i ∈ g, i < p.its.length) : gn p t g = (g.map fun i => if t < mk p i then wt p i else -wt p i).sum := by
  unfold gn scT scS selI
  rw [List.map_map]
  refine congrArg List.sum (List.map_congr_left fun i hi => ?_)
  show ((pS p t).its.getD i (0, 1)).2 * (((pS p t).its.getD i (0, 1)).1 * 1 - 0) = _
  rw [pS_at (hg i hi)]
  show wt p i * ((if t < mk p i then 1 else -1) * 1 - 0) = _
  split <;> omega
theorem mxS_up {g : List Nat} (h : g ∈ mxS p t) : g ∈ upG p := by
  have := (List.mem_filter.mp h).1
  rwa [upG_pS] at this
theorem mxS_iff {g : List Nat} : g ∈ mxS p t ↔ g ∈ upG p ∧ ∀ h ∈ upG p, gn p t h ≤ gn p t g := by
  unfold mxS mxG
  rw [List.mem_filter, List.all_eq_true, upG_pS]
  exact ⟨fun ⟨a, b⟩ => ⟨a, fun h hh => of_decide_eq_true (b h hh)⟩, fun ⟨a, b⟩ => ⟨a, fun h hh => decide_eq_true (b h hh)⟩⟩
theorem rS_ex (hp : PanOk m p) (hm : m ≤ 100) (t : Int) : ∃ r, BestP (pS p t) r ∧ loG p t = above (pS p t) r 0 ∧ hiG p t = atLeast (pS p t) r 0 := by
  obtain ⟨r, b, _⟩ := best_exists (pS_ok (t := t) hp) hm
  exact ⟨r, b, topIn_eq b (pS_ok hp), topOut_eq b (pS_ok hp)⟩
theorem lo_mx (hp : PanOk m p) (hm : m ≤ 100) : loG p t ∈ mxS p t := by
  obtain ⟨r, b, e, _⟩ := rS_ex hp hm t
  rw [e]; exact above_mx b (pS_ok hp)
theorem hi_mx (hp : PanOk m p) (hm : m ≤ 100) : hiG p t ∈ mxS p t := by
  obtain ⟨r, b, _, e⟩ := rS_ex hp hm t
  rw [e]; exact least_mx b (pS_ok hp)
theorem mxS_lo {g : List Nat} (h : g ∈ mxS p t) : ∀ i ∈ loG p t, i ∈ g := fun i hi => by
  have := List.all_eq_true.mp (List.mem_filter.mp hi).2 g h
  exact of_decide_eq_true this
theorem mxS_hi {g : List Nat} (h : g ∈ mxS p t) : ∀ i ∈ g, i ∈ hiG p t := fun i hi => by
  have hs := upG_sub (mxS_up h)
  refine List.mem_filter.mpr ⟨by rw [pS_len]; exact hs.subset hi, List.any_eq_true.mpr ⟨g, h, decide_eq_true hi⟩⟩
theorem lo_sub : (loG p t).Sublist (List.range p.its.length) := by
  have : (loG p t).Sublist (List.range (pS p t).its.length) := List.filter_sublist
  rwa [pS_len] at this
theorem hi_sub : (hiG p t).Sublist (List.range p.its.length) := by
  have : (hiG p t).Sublist (List.range (pS p t).its.length) := List.filter_sublist
  rwa [pS_len] at this
theorem eq_of_len {n : Nat} {a b : List Nat} (ha : a.Sublist (List.range n)) (hb : b.Sublist (List.range n)) (h : ∀ i ∈ a, i ∈ b) (hl : b.length ≤ a.length) : a = b := by
  refine sub_ext ha hb fun i => ⟨h i, fun hi => ?_⟩
  by_cases c : i ∈ a
  · exact c
  · have nd : (i :: a).Nodup := List.nodup_cons.mpr ⟨c, List.nodup_range.sublist ha⟩
    have := nat_nodup_len (i :: a) b nd fun x hx => by
      rcases List.mem_cons.mp hx with rfl | hx
      · exact hi
      · exact h x hx
    simp only [List.length_cons] at this; omega
theorem short_lo (hp : PanOk m p) (hm : m ≤ 100) {g : List Nat} (h : g ∈ mxS p t) (hl : ∀ k ∈ mxS p t, g.length ≤ k.length) : g = loG p t :=
  (eq_of_len lo_sub (upG_sub (mxS_up h)) (mxS_lo h) (hl _ (lo_mx hp hm))).symm
theorem long_hi (hp : PanOk m p) (hm : m ≤ 100) {g : List Nat} (h : g ∈ mxS p t) (hl : ∀ k ∈ mxS p t, k.length ≤ g.length) : g = hiG p t :=
  eq_of_len (upG_sub (mxS_up h)) hi_sub (mxS_hi h) (hl _ (hi_mx hp hm))
theorem mR_pS {i : Nat} (hi : i < p.its.length) : mR (pS p t) i = if t < mk p i then 1 else -1 := by
  unfold mR
  rw [pS_at hi]
  show ((if t < mk p i then (1 : Int) else -1 : Int) : Rat) = _
  split <;> rfl
theorem wR_pS {i : Nat} (hi : i < p.its.length) : wR (pS p t) i = wR p i := by
  unfold wR
  rw [pS_at hi]
  rfl
theorem rS_mono {t' : Int} (hp : PanOk m p) (h : t ≤ t') {r r' : Nat → Rat} (b : BestP (pS p t) r) (b' : BestP (pS p t') r') : ∀ i, i < p.its.length → r' i ≤ r i := by
  unfold BestP at b b'
  rw [pS_len] at b b'
  have b2 : Best (List.range p.its.length) (eE p) (mR (pS p t)) (wR p) r := by
    refine ⟨b.ob, fun U hU => ?_, fun U hU => ?_⟩
    · have := b.up U hU
      rw [sm_congr (f := fw (mR (pS p t)) (wR p) r) (g := fw (mR (pS p t)) (wR (pS p t)) r) (fun i hi => by
        have hi := List.mem_range.mp (List.mem_filter.mp hi).1
        unfold fw; rw [wR_pS hi])]
      exact this
    · refine Eq.trans (sm_congr fun i hi => ?_) (b.lv U hU)
      have hi := List.mem_range.mp (List.mem_filter.mp hi).1
      unfold fw; rw [wR_pS hi]
  have b2' : Best (List.range p.its.length) (eE p) (mR (pS p t')) (wR p) r' := by
    refine ⟨b'.ob, fun U hU => ?_, fun U hU => ?_⟩
    · have := b'.up U hU
      rw [sm_congr (f := fw (mR (pS p t')) (wR p) r') (g := fw (mR (pS p t')) (wR (pS p t')) r') (fun i hi => by
        have hi := List.mem_range.mp (List.mem_filter.mp hi).1
        unfold fw; rw [wR_pS hi])]
      exact this
    · refine Eq.trans (sm_congr fun i hi => ?_) (b'.lv U hU)
      have hi := List.mem_range.mp (List.mem_filter.mp hi).1
      unfold fw; rw [wR_pS hi]
  intro i hi
  refine Best.mono b2' b2 (fun i hi => wR_pos hp (List.mem_range.mp hi)) (fun i hi => ?_) i (List.mem_range.mpr hi)
  have hi := List.mem_range.mp hi
  rw [mR_pS hi, mR_pS hi]
  by_cases c : t' < mk p i
  · rw [if_pos c, if_pos (show t < mk p i by omega)]; exact Rat.le_refl
  · rw [if_neg c]; split
    · decide
    · exact Rat.le_refl
theorem lo_anti {t' : Int} (hp : PanOk m p) (hm : m ≤ 100) (h : t ≤ t') : ∀ i ∈ loG p t', i ∈ loG p t := fun i hi => by
  obtain ⟨r, b, e, _⟩ := rS_ex hp hm t
  obtain ⟨r', b', e', _⟩ := rS_ex hp hm t'
  have il := List.mem_range.mp (lo_sub.subset hi)
  rw [e'] at hi
  have := of_decide_eq_true (List.mem_filter.mp hi).2
  have mo := rS_mono hp h b b' i il
  rw [e]
  exact List.mem_filter.mpr ⟨by rw [pS_len]; exact List.mem_range.mpr il, decide_eq_true (by grind)⟩
theorem hi_anti {t' : Int} (hp : PanOk m p) (hm : m ≤ 100) (h : t ≤ t') : ∀ i ∈ hiG p t', i ∈ hiG p t := fun i hi => by
  obtain ⟨r, b, _, e⟩ := rS_ex hp hm t
  obtain ⟨r', b', _, e'⟩ := rS_ex hp hm t'
  have il := List.mem_range.mp (hi_sub.subset hi)
  rw [e'] at hi
  have := of_decide_eq_true (List.mem_filter.mp hi).2
  have mo := rS_mono hp h b b' i il
  rw [e]
  exact List.mem_filter.mpr ⟨by rw [pS_len]; exact List.mem_range.mpr il, decide_eq_true (by grind)⟩
theorem best_const {q : Pan} {c : Rat} (h : ∀ i, i < q.its.length → mR q i = c) : BestP q fun _ => c := by
  have z : ∀ U : Nat → Bool, sm (fw (mR q) (wR q) fun _ => c) ((List.range q.its.length).filter U) = 0 := fun U => by
    refine Eq.trans (sm_congr fun i hi => ?_) (sm_zero _)
    have hi := List.mem_range.mp (List.mem_filter.mp hi).1
    unfold fw
    rw [h i hi]; grind
  exact ⟨fun _ _ _ => Rat.le_refl, fun U _ => by rw [z]; exact Rat.le_refl, fun U _ => z U⟩
theorem lo_all (hp : PanOk m p) (h : ∀ i, i < p.its.length → t < mk p i) : ∀ i, i < p.its.length → i ∈ loG p t := fun i hi => by
  have b := best_const (q := pS p t) (c := 1) fun i hi => by rw [pS_len] at hi; rw [mR_pS hi, if_pos (h i hi)]
  unfold loG
  rw [topIn_eq b (pS_ok hp)]
  exact List.mem_filter.mpr ⟨by rw [pS_len]; exact List.mem_range.mpr hi, decide_eq_true (show (0 : Rat) < 1 by decide)⟩
theorem hi_none (hp : PanOk m p) (h : ∀ i, i < p.its.length → mk p i ≤ t) : ∀ i, i ∉ hiG p t := fun i hi => by
  have b := best_const (q := pS p t) (c := -1) fun i hi => by rw [pS_len] at hi; rw [mR_pS hi, if_neg (by have := h i hi; omega)]
  unfold hiG at hi
  rw [topOut_eq b (pS_ok hp)] at hi
  have := of_decide_eq_true (List.mem_filter.mp hi).2
  exact absurd this (show ¬ (0 : Rat) ≤ -1 by decide)
theorem lo_hi (hp : PanOk m p) (hm : m ≤ 100) : ∀ i ∈ loG p t, i ∈ hiG p t := mxS_hi (lo_mx hp hm)
theorem pS_same {t' : Int} (h : ∀ i, i < p.its.length → (t < mk p i ↔ t' < mk p i)) : pS p t = pS p t' := by
  unfold pS
  refine congrArg (fun l => Pan.mk l p.rus) (List.ext_getElem? fun i => ?_)
  rw [List.getElem?_map, List.getElem?_map]
  by_cases hi : i < p.its.length
  · have := h i hi
    unfold mk at this
    rw [List.getD_eq_getElem?_getD, List.getElem?_eq_getElem hi] at this
    simp only [Option.getD_some] at this
    rw [List.getElem?_eq_getElem hi]
    simp only [Option.map_some]
    by_cases c : t < (p.its[i]).1
    · rw [if_pos c, if_pos (this.mp c)]
    · rw [if_neg c, if_neg (fun z => c (this.mpr z))]
  · rw [List.getElem?_eq_none (by omega)]; rfl
def sideG (p : Pan) (w : Bool) (t : Int) : List Nat := if w then hiG p t else loG p t
def IsMed (p : Pan) (w : Bool) (x : Nat → Int) : Prop := ∀ i, i < p.its.length → ∀ t : Int, t < x i ↔ i ∈ sideG p w t
theorem side_anti {w : Bool} {t' : Int} (hp : PanOk m p) (hm : m ≤ 100) (h : t ≤ t') : ∀ i ∈ sideG p w t', i ∈ sideG p w t := by
  cases w
  · exact lo_anti hp hm h
  · exact hi_anti hp hm h
theorem side_mx {w : Bool} (hp : PanOk m p) (hm : m ≤ 100) : sideG p w t ∈ mxS p t := by
  cases w
  · exact lo_mx hp hm
  · exact hi_mx hp hm
end
def stepM (G : Int → Bool) : List Int → Int → Int
  | b :: c :: r, x => stepM G (c :: r) (if G b then c else x)
  | _, x => x
theorem stepM_stay {G : Int → Bool} : ∀ {l : List Int} {x : Int}, (∀ b ∈ l, G b = false) → stepM G l x = x
  | [], _, _ => rfl
  | [_], _, _ => rfl
  | b :: c :: r, x, h => by
    unfold stepM
    rw [h b (by simp), if_neg (by decide)]
    exact stepM_stay fun y hy => h y (by simp only [List.mem_cons] at hy ⊢; exact .inr hy)
theorem stepM_is {G : Int → Bool} (anti : ∀ t t', t ≤ t' → G t' = true → G t = true) : ∀ {r : List Int} {b : Int}, (b :: r).Pairwise (· < ·) → (∀ t, t < b → G t = true) →
    (∀ t, (∀ v ∈ b :: r, v ≤ t) → G t = false) → (∀ t v, v ∈ b :: r → v ≤ t → (∀ u ∈ b :: r, u ≤ v ∨ t < u) → G t = G v) → ∀ t, t < stepM G (b :: r) b ↔ G t = true
  | [], b, _, h1, h2, _, t => by
    show t < b ↔ _
    constructor
    · exact h1 t
    · intro h
      by_cases c : t < b
      · exact c
      · have := h2 t fun v hv => by rw [List.mem_singleton] at hv; omega
        rw [this] at h; cases h
  | c :: r, b, hs, h1, h2, h3, t => by
    have hs' := List.pairwise_cons.mp hs
    have bc : b < c := hs'.1 c (by simp)
    show t < stepM G (c :: r) (if G b then c else b) ↔ _
    by_cases g : G b = true
    · rw [if_pos g]
      refine stepM_is anti hs'.2 (fun t ht => ?_) (fun t ht => ?_) (fun t v hv hvt hu => ?_) t
      · by_cases e : t < b
        · exact h1 t e
        · rw [h3 t b (by simp) (by omega) fun u hu => ?_]
          · exact g
          · rcases List.mem_cons.mp hu with rfl | hu
            · exact .inl (Int.le_refl _)
            · rcases List.mem_cons.mp hu with rfl | hu
              · exact .inr ht
              · have := (List.pairwise_cons.mp hs'.2).1 u hu
                exact .inr (by omega)
      · refine h2 t fun v hv => ?_
        rcases List.mem_cons.mp hv with rfl | hv
        · have := ht c (by simp); omega
        · exact ht v hv
      · refine h3 t v (List.mem_cons_of_mem _ hv) hvt fun u hu' => ?_
        rcases List.mem_cons.mp hu' with rfl | hu'
        · exact .inl (Int.le_of_lt (hs'.1 v hv))
        · exact hu u hu'
    · have gf : G b = false := by simpa using g
      rw [if_neg g, stepM_stay fun y hy => ?_]
      · constructor
        · exact h1 t
        · intro h
          by_cases e : t < b
          · exact e
          · have := anti b t (by omega) h
            exact absurd this g
      · cases q : G y with
        | false => rfl
        | true => exact absurd (anti b y (Int.le_of_lt (hs'.1 y hy)) q) g
end Pm
set_option Elab.async false
set_option linter.all false
set_option maxRecDepth 100000
set_option maxHeartbeats 1000000
set_option autoImplicit false
namespace Pm
open PySem PySem.Spec
open PyProof.Rows hiding St
open L2
section
variable {m : Nat} {p : Pan}
theorem side_same {w : Bool} {t t' : Int} (h : ∀ i, i < p.its.length → (t < mk p i ↔ t' < mk p i)) : sideG p w t = sideG p w t' := by
  unfold sideG loG hiG
  rw [pS_same h]
theorem isMed_step {w : Bool} (hp : PanOk m p) (hm : m ≤ 100) {b : Int} {r : List Int} (hs : (b :: r).Pairwise (· < ·)) (hv : ∀ v, v ∈ b :: r ↔ ∃ i, i < p.its.length ∧ mk p i = v) :
    IsMed p w fun i => stepM (fun t => decide (i ∈ sideG p w t)) (b :: r) b := by
  intro i hi t
  rw [stepM_is (G := fun t => decide (i ∈ sideG p w t)) (fun t t' h k => decide_eq_true (side_anti hp hm h i (of_decide_eq_true k))) hs (fun t ht => ?_) (fun t ht => ?_) (fun t v hv' hvt hu => ?_) t, decide_eq_true_iff]
  · have a : ∀ j, j < p.its.length → t < mk p j := fun j hj => by
      rcases List.mem_cons.mp ((hv (mk p j)).mpr ⟨j, hj, rfl⟩) with e | e
      · omega
      · have := (List.pairwise_cons.mp hs).1 _ e; omega
    have l := lo_all hp a i hi
    refine decide_eq_true ?_
    cases w
    · exact l
    · exact lo_hi hp hm i l
  · have a : ∀ j, j < p.its.length → mk p j ≤ t := fun j hj => ht _ ((hv (mk p j)).mpr ⟨j, hj, rfl⟩)
    have l := hi_none hp a i
    refine decide_eq_false ?_
    cases w
    · exact fun z => l (lo_hi hp hm i z)
    · exact l
  · have e : sideG p w t = sideG p w v := side_same fun j hj => by
      rcases hu _ ((hv (mk p j)).mpr ⟨j, hj, rfl⟩) with c | c <;> omega
    show decide (i ∈ sideG p w t) = decide (i ∈ sideG p w v)
    rw [e]
theorem stepM_or {G : Int → Bool} : ∀ (l : List Int) (x : Int), stepM G l x = x ∨ stepM G l x ∈ l
  | [], _ => .inl rfl
  | [_], _ => .inl rfl
  | b :: c :: r, x => by
    unfold stepM
    by_cases g : G b = true
    · rw [if_pos g]
      rcases stepM_or (c :: r) c with e | e
      · rw [e]; exact .inr (by simp)
      · exact .inr (List.mem_cons_of_mem _ e)
    · rw [if_neg g]
      rcases stepM_or (c :: r) x with e | e
      · exact .inl e
      · exact .inr (List.mem_cons_of_mem _ e)
theorem stepM_mem {G : Int → Bool} {l : List Int} {x : Int} (h : x ∈ l) : stepM G l x ∈ l := by
  rcases stepM_or (G := G) l x with e | e
  · rw [e]; exact h
  · exact e
end
def lay : List Int → (Int → Int) → Int
  | b :: c :: r, f => (c - b) * f b + lay (c :: r) f
  | _, _ => 0
theorem lay_congr {f g : Int → Int} : ∀ {l : List Int}, (∀ b ∈ l, f b = g b) → lay l f = lay l g
  | [], _ => rfl
  | [_], _ => rfl
  | b :: c :: r, h => by
    show (c - b) * f b + lay (c :: r) f = (c - b) * g b + lay (c :: r) g
    rw [h b (by simp), lay_congr (l := c :: r) fun y hy => h y (List.mem_cons_of_mem _ hy)]
theorem lay_add (f g : Int → Int) : ∀ l : List Int, lay l (fun t => f t + g t) = lay l f + lay l g
  | [] => rfl
  | [_] => rfl
  | b :: c :: r => by
    show (c - b) * (f b + g b) + lay (c :: r) (fun t => f t + g t) = (c - b) * f b + lay (c :: r) f + ((c - b) * g b + lay (c :: r) g)
    rw [lay_add f g (c :: r)]; grind
theorem lay_mul (a : Int) (f : Int → Int) : ∀ l : List Int, lay l (fun t => a * f t) = a * lay l f
  | [] => by simp [lay]
  | [_] => by simp [lay]
  | b :: c :: r => by
    show (c - b) * (a * f b) + lay (c :: r) (fun t => a * f t) = a * ((c - b) * f b + lay (c :: r) f)
    rw [lay_mul a f (c :: r)]; grind
theorem lay_zero : ∀ l : List Int, lay l (fun _ => 0) = 0
  | [] => rfl
  | [_] => rfl
  | b :: c :: r => by
    show (c - b) * 0 + lay (c :: r) (fun _ => 0) = 0
    rw [lay_zero (c :: r)]; omega
theorem lay_sum (f : Nat → Int → Int) (l : List Int) : ∀ k : List Nat, lay l (fun t => (k.map fun i => f i t).sum) = (k.map fun i => lay l (f i)).sum
  | [] => lay_zero l
  | i :: k => by
    simp only [List.map_cons, List.sum_cons]
    rw [lay_add (f i) (fun t => (k.map fun i => f i t).sum), lay_sum f l k]
theorem lay_le {f g : Int → Int} : ∀ {l : List Int}, l.Pairwise (· < ·) → (∀ b ∈ l, f b ≤ g b) → lay l f ≤ lay l g
  | [], _, _ => Int.le_refl _
  | [_], _, _ => Int.le_refl _
  | b :: c :: r, hs, h => by
    have hs' := List.pairwise_cons.mp hs
    have bc := hs'.1 c (by simp)
    have ih := lay_le (l := c :: r) hs'.2 fun y hy => h y (List.mem_cons_of_mem _ hy)
    have := Int.mul_le_mul_of_nonneg_left (h b (by simp)) (show 0 ≤ c - b by omega)
    show (c - b) * f b + lay (c :: r) f ≤ (c - b) * g b + lay (c :: r) g
    omega
theorem lay_no {f : Int → Int} {l : List Int} (h : ∀ b ∈ l, f b = 0) : lay l f = 0 := by rw [lay_congr h, lay_zero]
theorem lay_up : ∀ {r : List Int} {b y : Int}, (b :: r).Pairwise (· < ·) → y ∈ b :: r → lay (b :: r) (fun t => if t < y then 1 else 0) = y - b
  | [], b, y, _, h => by
    rw [List.mem_singleton] at h
    show 0 = y - b
    omega
  | c :: r, b, y, hs, h => by
    have hs' := List.pairwise_cons.mp hs
    have bc := hs'.1 c (by simp)
    rcases List.mem_cons.mp h with rfl | h
    · rw [lay_no fun t ht => ?_]
      · omega
      · rw [if_neg]
        rcases List.mem_cons.mp ht with rfl | ht
        · omega
        · have := hs'.1 t ht; omega
    · have by' : b < y := hs'.1 y h
      show (c - b) * (if b < y then 1 else 0) + lay (c :: r) (fun t => if t < y then 1 else 0) = y - b
      rw [if_pos by', lay_up hs'.2 h]; omega
theorem lay_abs {l : List Int} {x y : Int} (hs : l.Pairwise (· < ·)) (hx : x ∈ l) (hy : y ∈ l) : lay l (fun t => if decide (t < x) = decide (t < y) then 0 else 1) = ((x - y).natAbs : Int) := by
  cases l with
  | nil => cases hx
  | cons b r =>
    have ux := lay_up hs hx
    have uy := lay_up hs hy
    rcases Int.le_total y x with h | h
    · have e : lay (b :: r) (fun t => if decide (t < x) = decide (t < y) then 0 else 1) = lay (b :: r) (fun t => (if t < x then 1 else 0) + (-1) * (if t < y then 1 else 0)) := lay_congr fun t _ => by
        by_cases c1 : t < x <;> by_cases c2 : t < y
        · simp [c1, c2]
        · simp [c1, c2]
        · omega
        · simp [c1, c2]
      rw [e, lay_add, lay_mul, ux, uy]; omega
    · have e : lay (b :: r) (fun t => if decide (t < x) = decide (t < y) then 0 else 1) = lay (b :: r) (fun t => (if t < y then 1 else 0) + (-1) * (if t < x then 1 else 0)) := lay_congr fun t _ => by
        by_cases c1 : t < x <;> by_cases c2 : t < y
        · simp [c1, c2]
        · omega
        · simp [c1, c2]
        · simp [c1, c2]
      rw [e, lay_add, lay_mul, ux, uy]; omega
def spI (p : Pan) (x : Nat → Int) : Int := ((List.range p.its.length).map fun i => wt p i * ((x i - mk p i).natAbs : Int)).sum
def filt (p : Pan) (x : Nat → Int) (t : Int) : List Nat := (List.range p.its.length).filter fun i => decide (t < x i)
def wtS (p : Pan) (t : Int) : Int := ((List.range p.its.length).map fun i => if t < mk p i then wt p i else 0).sum
theorem sum_filter (P : Nat → Bool) (f : Nat → Int) : ∀ l : List Nat, ((l.filter P).map f).sum = (l.map fun i => if P i then f i else 0).sum
  | [] => rfl
  | i :: l => by
    rw [List.filter_cons]
    by_cases h : P i = true
    · rw [if_pos h]; simp only [List.map_cons, List.sum_cons, h, if_true, sum_filter P f l]
    · rw [if_neg h]; simp only [List.map_cons, List.sum_cons, h, sum_filter P f l]; simp
theorem sum_sub (f g : Nat → Int) : ∀ l : List Nat, (l.map fun i => f i - g i).sum = (l.map f).sum - (l.map g).sum
  | [] => rfl
  | i :: l => by simp only [List.map_cons, List.sum_cons, sum_sub f g l]; omega
theorem spI_lay {p : Pan} {x : Nat → Int} {l : List Int} (hs : l.Pairwise (· < ·)) (hx : ∀ i, i < p.its.length → x i ∈ l) (hm : ∀ i, i < p.its.length → mk p i ∈ l) : spI p x = lay l fun t => wtS p t - gn p t (filt p x t) := by
  have e : lay l (fun t => wtS p t - gn p t (filt p x t)) = lay l fun t => ((List.range p.its.length).map fun i => wt p i * (if decide (t < x i) = decide (t < mk p i) then 0 else 1)).sum := lay_congr fun t _ => by
    rw [gn_sum (p := p) (t := t) (g := filt p x t) fun i hi => List.mem_range.mp (List.mem_filter.mp hi).1]
    unfold filt wtS
    rw [sum_filter, ← sum_sub]
    refine congrArg List.sum (List.map_congr_left fun i _ => ?_)
    by_cases c1 : t < x i <;> by_cases c2 : t < mk p i <;> simp [c1, c2]
  rw [e, lay_sum (fun i t => wt p i * (if decide (t < x i) = decide (t < mk p i) then 0 else 1))]
  refine congrArg List.sum (List.map_congr_left fun i hi => ?_)
  have hi := List.mem_range.mp hi
  rw [lay_mul, lay_abs hs (hx i hi) (hm i hi)]
theorem ivl_ex (n : Nat) (f g h : Nat → Int) (t : Int) : ∃ l : List Int, l.Pairwise (· < ·) ∧ (∀ i, i < n → f i ∈ l ∧ g i ∈ l ∧ h i ∈ l) ∧ t ∈ l ∧ t + 1 ∈ l := by
  have B : ∀ n : Nat, ∃ B : Nat, ∀ i, i < n → (f i).natAbs ≤ B ∧ (g i).natAbs ≤ B ∧ (h i).natAbs ≤ B := fun n => by
    induction n with
    | zero => exact ⟨0, fun i hi => absurd hi (Nat.not_lt_zero _)⟩
    | succ n ih =>
      obtain ⟨B, hB⟩ := ih
      refine ⟨B + (f n).natAbs + (g n).natAbs + (h n).natAbs, fun i hi => ?_⟩
      by_cases e : i = n
      · subst e; omega
      · have := hB i (by omega); omega
  obtain ⟨B, hB⟩ := B n
  let a : Int := -((B + t.natAbs + 1 : Nat) : Int)
  refine ⟨(List.range (2 * (B + t.natAbs + 1) + 1)).map fun j : Nat => a + (j : Int), ?_, ?_⟩
  · rw [List.pairwise_map]
    exact List.pairwise_lt_range.imp fun h => by omega
  have mem : ∀ v : Int, v.natAbs ≤ B + t.natAbs + 1 → v ∈ (List.range (2 * (B + t.natAbs + 1) + 1)).map fun j : Nat => a + (j : Int) := fun v hv => List.mem_map.mpr ⟨(v - a).toNat, List.mem_range.mpr (by omega), by omega⟩
  exact ⟨fun i hi => by have := hB i hi; exact ⟨mem _ (by omega), mem _ (by omega), mem _ (by omega)⟩, mem _ (by omega), mem _ (by omega)⟩
def Obx (p : Pan) (x : Nat → Int) : Prop := ∀ a b, eE p a b → x a ≤ x b
def Opt (p : Pan) (x : Nat → Int) : Prop := ∀ t, filt p x t ∈ mxS p t
section
variable {m : Nat} {p : Pan} {x y : Nat → Int} {w : Bool}
theorem Obx.up (hp : PanOk m p) (h : Obx p x) (t : Int) : filt p x t ∈ upG p := upG_of hp fun a b e k => by
  have := of_decide_eq_true k
  have := h a b e
  exact decide_eq_true (by omega)
theorem IsMed.filt (h : IsMed p w x) (t : Int) : filt p x t = sideG p w t := by
  have hs : (sideG p w t).Sublist (List.range p.its.length) := by cases w <;> first | exact lo_sub | exact hi_sub
  refine sub_ext List.filter_sublist hs fun i => ?_
  unfold Pm.filt
  rw [List.mem_filter, List.mem_range, decide_eq_true_iff]
  constructor
  · rintro ⟨a, b⟩; exact (h i a t).mp b
  · intro a
    have hi := List.mem_range.mp (hs.subset a)
    exact ⟨hi, (h i hi t).mpr a⟩
theorem IsMed.opt (hp : PanOk m p) (hm : m ≤ 100) (h : IsMed p w x) : Opt p x := fun t => by rw [h.filt]; exact side_mx hp hm
theorem Opt.ob (hp : PanOk m p) (h : Opt p x) : Obx p x := fun a b e => by
  have up := upG_up hp (mxS_up (h (x a - 1)))
  obtain ⟨ha, hb⟩ := eE_lt hp e
  have := up a b e (decide_eq_true (List.mem_filter.mpr ⟨List.mem_range.mpr ha, decide_eq_true (by omega)⟩))
  have := of_decide_eq_true (List.mem_filter.mp (of_decide_eq_true this)).2
  omega
theorem Opt.le (hp : PanOk m p) (h : Opt p x) (hy : Obx p y) : spI p x ≤ spI p y := by
  obtain ⟨l, hs, hl, _⟩ := ivl_ex p.its.length x y (mk p) 0
  rw [spI_lay hs (fun i hi => (hl i hi).1) (fun i hi => (hl i hi).2.2), spI_lay hs (fun i hi => (hl i hi).2.1) (fun i hi => (hl i hi).2.2)]
  refine lay_le hs fun t _ => ?_
  have := (mxS_iff.mp (h t)).2 _ (hy.up hp t)
  omega
theorem spr_eq {ws : List Int} (h : ws = (List.range p.its.length).map x) : (List.zipWith (fun (q : Int × Int) (w : Int) => q.2 * ((w - q.1).natAbs : Int)) p.its ws).sum = spI p x := by
  subst h
  unfold spI
  refine congrArg List.sum (List.ext_getElem? fun i => ?_)
  rw [List.getElem?_zipWith, List.getElem?_map, List.getElem?_map]
  by_cases hi : i < p.its.length
  · rw [List.getElem?_range hi, List.getElem?_eq_getElem hi]
    simp only [Option.map_some]
    unfold wt mk
    rw [List.getD_eq_getElem?_getD, List.getElem?_eq_getElem hi]
    rfl
  · have : (List.range p.its.length)[i]? = none := List.getElem?_eq_none (by simpa using hi)
    rw [List.getElem?_eq_none (by omega : p.its.length ≤ i), this]
    rfl
end
end Pm
set_option Elab.async false
set_option linter.all false
set_option maxRecDepth 100000
set_option maxHeartbeats 1000000
set_option autoImplicit false
namespace Pm
open PySem PySem.Spec
open PyProof.Rows hiding St
open L2
def sprL (p : Pan) (ws : List Int) : List Int := List.zipWith (fun (q : Int × Int) (w : Int) => q.2 * ((w - q.1).natAbs : Int)) p.its ws
theorem sprL_at {p : Pan} {ws : List Int} {i : Nat} {q : Int × Int} {w : Int} (hq : p.its[i]? = some q) (hw : ws[i]? = some w) : (sprL p ws)[i]? = some (q.2 * ((w - q.1).natAbs : Int)) := by
  unfold sprL
  rw [List.getElem?_zipWith, hq, hw]
theorem take_snoc {α : Type} {l : List α} {i : Nat} {a : α} (h : l[i]? = some a) : l.take (i + 1) = l.take i ++ [a] := by
  rw [List.take_add_one, h]; rfl
def marksL (p : Pan) : List Int := (List.range p.its.length).map (mk p)
theorem marks_its (p : Pan) : p.its.map (fun q => q.1) = marksL p := by
  unfold marksL
  refine List.ext_getElem? fun i => ?_
  rw [List.getElem?_map, List.getElem?_map]
  by_cases hi : i < p.its.length
  · rw [List.getElem?_range hi, List.getElem?_eq_getElem hi]
    simp only [Option.map_some]
    unfold mk
    rw [List.getD_eq_getElem?_getD, List.getElem?_eq_getElem hi]; rfl
  · have : (List.range p.its.length)[i]? = none := List.getElem?_eq_none (by simpa using hi)
    rw [List.getElem?_eq_none (by omega : p.its.length ≤ i), this]; rfl
def stp (G : Int → Bool) (x : Int) (q : Int × Int) : Int := if G q.1 then q.2 else x
theorem stepM_fold (G : Int → Bool) : ∀ (r : List Int) (b x : Int), stepM G (b :: r) x = ((b :: r).zip r).foldl (stp G) x
  | [], _, _ => rfl
  | c :: r, b, x => by
    show stepM G (c :: r) (if G b then c else x) = ((c :: r).zip r).foldl (stp G) (stp G x (b, c))
    rw [stepM_fold G r c]; rfl
theorem rep_flat (n : Nat) (d : D) : (List.replicate n [d]).flatten = (List.range n).map fun _ => d := by
  rw [List.map_const']
  simp
end Pm
set_option Elab.async false
set_option linter.all false
set_option maxRecDepth 100000
set_option maxHeartbeats 1000000
set_option autoImplicit false
namespace Pm
open PySem PySem.Spec
open PyProof.Rows hiding St
open L2
theorem med_sort : ∀ xs : List Int, ∃ l : List Int, l.Pairwise (· < ·) ∧ ∀ v, v ∈ l ↔ v ∈ xs
  | [] => ⟨[], List.Pairwise.nil, fun _ => Iff.rfl⟩
  | a :: xs => by
    obtain ⟨l, h1, h2⟩ := med_sort xs
    refine ⟨(l.filter fun v => decide (v < a)) ++ a :: (l.filter fun v => decide (a < v)), ?_, fun v => ?_⟩
    · rw [List.pairwise_append, List.pairwise_cons]
      refine ⟨h1.filter _, ⟨fun b hb => of_decide_eq_true (List.mem_filter.mp hb).2, h1.filter _⟩, fun b hb c hc => ?_⟩
      have b2 := of_decide_eq_true (List.mem_filter.mp hb).2
      rcases List.mem_cons.mp hc with rfl | hc
      · exact b2
      · have := of_decide_eq_true (List.mem_filter.mp hc).2; omega
    · rw [List.mem_append, List.mem_cons, List.mem_filter, List.mem_filter, List.mem_cons, h2, decide_eq_true_iff, decide_eq_true_iff]
      constructor
      · rintro (⟨a, _⟩ | rfl | ⟨a, _⟩)
        · exact .inr a
        · exact .inl rfl
        · exact .inr a
      · rintro (rfl | h)
        · exact .inr (.inl rfl)
        · rcases Int.lt_trichotomy v a with c | c | c
          · exact .inl ⟨h, c⟩
          · exact .inr (.inl c)
          · exact .inr (.inr ⟨h, c⟩)
theorem med_ex {m : Nat} {p : Pan} (w : Bool) (hp : PanOk m p) (hm : m ≤ 100) : ∃ x : Nat → Int, IsMed p w x ∧ ∀ i, i < p.its.length → ∃ j, j < p.its.length ∧ mk p j = x i := by
  obtain ⟨l, h1, h2⟩ := med_sort (marksL p)
  have hv : ∀ v, v ∈ l ↔ ∃ i, i < p.its.length ∧ mk p i = v := fun v => by
    rw [h2]; unfold marksL; rw [List.mem_map]
    exact ⟨fun ⟨i, a, b⟩ => ⟨i, List.mem_range.mp a, b⟩, fun ⟨i, a, b⟩ => ⟨i, List.mem_range.mpr a, b⟩⟩
  cases l with
  | nil =>
    have := (hv (mk p 0)).mpr ⟨0, hp.one, rfl⟩
    cases this
  | cons b r => exact ⟨_, isMed_step hp hm h1 hv, fun i _ => by
      obtain ⟨j, a, b⟩ := (hv _).mp (stepM_mem (G := fun t => decide (i ∈ sideG p w t)) (l := b :: r) (x := b) List.mem_cons_self)
      exact ⟨j, a, b⟩⟩
theorem med_uniq {p : Pan} {w : Bool} {x y : Nat → Int} (hx : IsMed p w x) (hy : IsMed p w y) : ∀ i, i < p.its.length → x i = y i := fun i hi => by
  have a := (hx i hi (y i)).trans (hy i hi (y i)).symm
  have b := (hx i hi (x i)).trans (hy i hi (x i)).symm
  omega
end Pm
set_option Elab.async false
set_option linter.all false
set_option maxRecDepth 100000
set_option maxHeartbeats 1000000
set_option autoImplicit false
namespace Pm
open PySem PySem.Spec
open PyProof.Rows hiding St
open L2
theorem pick3 {a b c : Int} {lo hi : Int} {k : Int} (k0 : 0 ≤ k) (k1 : k < 3) (ha : lo ≤ a ∧ a ≤ hi) (hb : lo ≤ b ∧ b ≤ hi) (hc : lo ≤ c ∧ c ≤ hi) : ∃ m : Int, idx [D.int a, .int b, .int c] k = some (.int m) ∧ lo ≤ m ∧ m ≤ hi := by
  have hi : k = 0 ∨ k = 1 ∨ k = 2 := by omega
  rcases hi with rfl | rfl | rfl
  · exact ⟨a, rfl, ha⟩
  · exact ⟨b, rfl, hb⟩
  · exact ⟨c, rfl, hc⟩
end Pm
set_option Elab.async false
set_option linter.all false
set_option maxRecDepth 100000
set_option maxHeartbeats 1000000
set_option autoImplicit false
namespace Pm
open PySem PySem.Spec
open PyProof.Rows hiding St
open L2
variable {γ : Type}
def D.key : D → Option Key
  | .int i => some (.inl i)
  | .str x => some (.inr x)
  | _ => none
def getK : List (Key × D) → Key → Option D
  | [], _ => none
  | (j, d) :: r, k => if j = k then some d else getK r k
def putKD (kds : List (Key × D)) (k : Key) (d : D) : List (Key × D) :=
  if (getK kds k).isSome = true then kds.map (fun kv => if kv.1 = k then (kv.1, d) else kv) else kds ++ [(k, d)]
def KAts (K : PySem.W.Frag) (Z : Hp) : List (Key × D) → List (Key × V) → Prop
  | [], kvs => kvs = []
  | (k, d) :: r, kvs => ∃ v s, kvs = (k, v) :: s ∧ At K Z d v ∧ KAts K Z r s
section
variable {K : PySem.W.Frag} {Z Z' : Hp}
theorem KAts.of_zip : ∀ {kds : List (Key × D)} {vs : List V}, Ats K Z (kds.map (·.2)) vs → KAts K Z kds ((kds.map (·.1)).zip vs)
  | [], vs, h => by simp [KAts]
  | (k, d) :: r, vs, h => by
    simp only [List.map_cons, Ats] at h
    obtain ⟨w, ws, rfl, h2, h3⟩ := h
    exact ⟨w, _, rfl, h2, KAts.of_zip h3⟩
theorem KAts.zip : ∀ {kds : List (Key × D)} {kvs : List (Key × V)}, KAts K Z kds kvs → ∃ vs, kvs = (kds.map (·.1)).zip vs ∧ Ats K Z (kds.map (·.2)) vs
  | [], kvs, h => ⟨[], h, rfl⟩
  | (k, d) :: r, kvs, h => by
    obtain ⟨v, s, rfl, h1, h2⟩ := h
    obtain ⟨vs, rfl, h3⟩ := KAts.zip h2
    exact ⟨v :: vs, rfl, v, vs, rfl, h1, h3⟩
theorem KAts.len : ∀ {kds : List (Key × D)} {kvs : List (Key × V)}, KAts K Z kds kvs → kvs.length = kds.length
  | [], kvs, h => by rw [show kvs = [] from h]; rfl
  | (k, d) :: r, kvs, h => by
    obtain ⟨v, s, rfl, h1, h2⟩ := h
    simp [KAts.len h2]
theorem KAts.get_none : ∀ {kds : List (Key × D)} {kvs : List (Key × V)} {k : Key}, KAts K Z kds kvs → getK kds k = none → valV kvs k = none
  | [], kvs, k, h, _ => by rw [show kvs = [] from h]; rfl
  | (j, d) :: r, kvs, k, h, e => by
    obtain ⟨v, s, rfl, h1, h2⟩ := h
    simp only [getK] at e
    split at e
    · cases e
    · rename_i n
      rw [valV_neg (p := (j, v)) n]; exact KAts.get_none h2 e
theorem KAts.get_some : ∀ {kds : List (Key × D)} {kvs : List (Key × V)} {k : Key} {d : D}, KAts K Z kds kvs → getK kds k = some d → ∃ v, valV kvs k = some v ∧ At K Z d v
  | [], kvs, k, _, h, e => by cases e
  | (j, d) :: r, kvs, k, d', h, e => by
    obtain ⟨v, s, rfl, h1, h2⟩ := h
    simp only [getK] at e
    split at e
    · rename_i n; cases e; exact ⟨v, valV_pos (p := (j, v)) n, h1⟩
    · rename_i n
      rw [valV_neg (p := (j, v)) n]; exact KAts.get_some h2 e
theorem KAts.isSome {kds : List (Key × D)} {kvs : List (Key × V)} {k : Key} (h : KAts K Z kds kvs) : (valV kvs k).isSome = (getK kds k).isSome := by
  cases q : getK kds k with
  | none => rw [h.get_none q]; rfl
  | some d => obtain ⟨v, e, _⟩ := h.get_some q; rw [e]; rfl
theorem KAts.append : ∀ {kds es : List (Key × D)} {kvs us : List (Key × V)}, KAts K Z kds kvs → KAts K Z es us → KAts K Z (kds ++ es) (kvs ++ us)
  | [], _, kvs, _, h, h' => by rw [show kvs = [] from h]; exact h'
  | (k, d) :: r, es, kvs, us, h, h' => by
    obtain ⟨v, s, rfl, h1, h2⟩ := h
    exact ⟨v, s ++ us, rfl, h1, KAts.append h2 h'⟩
theorem KAts.map : ∀ {kds : List (Key × D)} {kvs : List (Key × V)} {k : Key} {d : D} {v : V}, KAts K Z kds kvs → At K Z d v → KAts K Z (kds.map (fun kv => if kv.1 = k then (kv.1, d) else kv)) (kvs.map (fun kv => if kv.1 = k then (kv.1, v) else kv))
  | [], kvs, _, _, _, h, _ => by rw [show kvs = [] from h]; rfl
  | (j, e) :: r, kvs, k, d, v, h, a => by
    obtain ⟨w, s, rfl, h1, h2⟩ := h
    by_cases c : j = k
    · subst c
      simp only [List.map_cons, ite_true]
      exact ⟨v, _, rfl, a, KAts.map h2 a⟩
    · simp only [List.map_cons, if_neg c]
      exact ⟨w, _, rfl, h1, KAts.map h2 a⟩
theorem KAts.put {kds : List (Key × D)} {kvs : List (Key × V)} {k : Key} {d : D} {v : V} (h : KAts K Z kds kvs) (a : At K Z d v) : KAts K Z (putKD kds k d) (putK kvs k v) := by
  unfold putKD putK
  rw [valV_any, h.isSome]
  split
  · exact h.map a
  · exact h.append ⟨v, [], rfl, a, rfl⟩
theorem key_at {d : D} {k : Key} {v : V} (h : d.key = some k) (a : At K Z d v) : v = kV k := by
  cases d <;> simp only [D.key, Option.some.injEq, reduceCtorEq] at h <;> subst h <;> exact a
end
def qDicIn (neg : Bool) (ty : PEx γ) (i : Nat) : PEx γ := fun s R => ty s fun kd s1 => ∃ kds k, s1.ρ[i]? = some (some (.dic kds)) ∧ kd.key = some k ∧ R (.bl (neg != (getK kds k).isSome)) s1
def qDicIx (i : Nat) (ty : PEx γ) : PEx γ := fun s R => (∃ es, s.ρ[i]? = some (some (.dic es))) ∧ ty s fun kd s1 => ∃ kds k d, s1.ρ[i]? = some (some (.dic kds)) ∧ kd.key = some k ∧ getK kds k = some d ∧ R d s1
def qDicPut (tv : PEx γ) (i : Nat) (ty : PEx γ) : PSx γ := fun E s => tv s fun d s1 => (∃ es, s1.ρ[i]? = some (some (.dic es))) ∧ ty s1 fun kd s2 => ∃ kds k, s2.ρ[i]? = some (some (.dic kds)) ∧ kd.key = some k ∧ kds.length < sizeLine ∧ E.nx ⟨s2.ρ.set i (some (.dic (putKD kds k d))), s2.g⟩
section
variable {X : Cx} {G : GP γ} {a b e o v : Expr} {pos : Pos}
theorem dic_get {F : Fra} {Z : Hp} {s : S γ} {σ : St} {H : Hp} (r : Rel G F Z s σ H) {i : Nat} {kds : List (Key × D)} (h : s.ρ[i]? = some (some (.dic kds))) :
    ∃ a kvs, σ[i]? = some (some (.ref a)) ∧ H a = some (.dK kvs) ∧ KAts G.K Z kds kvs := by
  obtain ⟨a, vs, h1, h2, h3, _⟩ := r.dic i kds h
  exact ⟨a, _, h1, h2, .of_zip h3⟩
theorem dget_k {H : Hp} {a : Addr} {kvs : List (Key × V)} (k : Key) (h : H a = some (.dK kvs)) : DGet H a (kV k) (valV kvs k) := DGet.k h
theorem ldicIn {neg : Bool} {ty : PEx γ} {i : Nat} {σ : St} {H : Hp} {Q : VK} (h : lE G (qDicIn neg ty i) σ H Q) : lE G ty σ H fun y H1 => ∃ v, σ[i]? = some (some v) ∧ ∃ a o, v = .ref a ∧ DGet H1 a y o ∧ Q (.bl (neg != o.isSome)) H1 := by
  obtain ⟨F, Z, s, R, r, t, q⟩ := h
  refine ⟨F, Z, s, _, r, t, fun kd s1 Z1 y H1 ⟨kds, k, e1, e2, t1⟩ k1 r1 a1 => ?_⟩
  obtain ⟨a, kvs, h1, h2, h3⟩ := dic_get r1 e1
  refine ⟨_, h1, a, valV kvs k, rfl, by rw [key_at e2 a1]; exact dget_k k h2, q (.bl (neg != (valV kvs k).isSome)) s1 Z1 _ H1 ?_ k1 r1 rfl⟩
  rw [h3.isSome]; exact t1
theorem bxor_t (b : Bool) : (true != b) = !b := by cases b <;> rfl
theorem qe_dicNot {k i : Nat} {ty : PEx γ} (hr : Room k X.A) (hi : QE X G a ty) (hn : PE X b (tVar i)) (hm : behindInMarks .NotIn b = false := by rfl) : QE X G (.Compare a [.NotIn] [b] pos) (qDicIn true ty i) := by
  refine PE.imp (pe_cmp (pc_dnotin (by have := hr.units; omega) hi hn) hm) fun σ H Q h => ?_
  obtain ⟨F, Z, s, R, r, t, q⟩ := ldicIn h
  refine ⟨F, Z, s, R, r, t, fun d s' Z' v H' t1 k1 r1 a1 => ?_⟩
  obtain ⟨u, h1, a, o, e, g, q1⟩ := q d s' Z' v H' t1 k1 r1 a1
  exact ⟨u, h1, a, o, e, g, by rw [← bxor_t]; exact q1⟩
theorem qe_dicIx {k i : Nat} {ty : PEx γ} (hr : Room k X.A) (hn : PE X a (tVar i)) (hi : QE X G b ty) (hs : NoSl b := by intro _ _; rfl) : QE X G (.Subscript a b pos) (qDicIx i ty) := by
  refine PE.imp (pe_dget (by have := hr.units; omega) hn hi hs) fun σ H Q ⟨F, Z, s, R, r, ⟨⟨es, t0⟩, t⟩, q⟩ => ?_
  obtain ⟨a, kvs, h1, _⟩ := dic_get r t0
  refine ⟨_, h1, F, Z, s, _, r, t, fun kd s1 Z1 y H1 ⟨kds, k, d, e1, e2, e3, t1⟩ k1 r1 a1 => ?_⟩
  obtain ⟨a', kvs', g1, g2, g3⟩ := dic_get r1 e1
  rw [h1] at g1; cases g1
  obtain ⟨w, l1, l2⟩ := g3.get_some e3
  exact ⟨a, w, rfl, by rw [key_at e2 a1, ← l1]; exact dget_k k g2, q d s1 Z1 w H1 t1 k1 r1 l2⟩
theorem qs_dicPut {k i : Nat} {tv ty : PEx γ} {tpos : Pos} (hr : Room k X.A) (hv : QE X G v tv) (hn : PE X o (tVar i)) (hi : QE X G b ty) (hs : swapsWith v (some (.Subscript o b tpos)) pos.line X.env = pure false := by rfl) :
    QS X G (.Assign [.Subscript o b tpos] v pos) (qDicPut tv i ty) := by
  refine PS.imp (ps_dput (by have := hr.units; omega) hn hi hv hs) fun De σ H ⟨F, Z, s, E, r, t, n, _⟩ => ?_
  refine ⟨F, Z, s, _, r, t, fun d s1 Z1 w H1 ⟨⟨es, t0⟩, t1⟩ k1 r1 a1 => ?_⟩
  obtain ⟨a, kvs, h1, _⟩ := dic_get r1 t0
  refine ⟨_, h1, F, Z1, s1, _, r1, t1, fun kd s2 Z2 y H2 ⟨kds, k, e1, e2, e3, t2⟩ k2 r2 a2 => ?_⟩
  obtain ⟨a', kvs', g1, g2, g3⟩ := dic_get r2 e1
  rw [h1] at g1; cases g1
  obtain ⟨ws, e5, e6⟩ := (g3.put (k := k) (At.mono k2 _ _ a1)).zip
  refine ⟨a, _, rfl, by rw [key_at e2 a2]; exact DPut.k g2 (by rw [g3.len]; exact e3), n _ Z2 _ _ t2 (k1.trans k2) ?_⟩
  have r3 := r2.writeL (l := .dic kds) (m := .dic (putKD kds k d)) (ws := ws) e1 rfl rfl h1 e6
  rw [e5]; exact r3
end
end Pm
set_option Elab.async false
set_option linter.all false
set_option maxRecDepth 100000
set_option maxHeartbeats 1000000
set_option autoImplicit false
namespace Pm
open PySem PySem.Spec
open L2
theorem Best.weigh {E : Nat → Nat → Prop} {l : List Nat} {m w r : Nat → Rat} (b : Best l E m w r) {c : Rat} (c0 : 0 < c) : Best l E m (fun i => w i * c) r := by
  have e : ∀ k, sm (fw m (fun i => w i * c) r) k = c * sm (fw m w r) k := fun k => by
    rw [← sm_mul]
    exact sm_congr fun i _ => by unfold fw; grind
  refine ⟨b.ob, fun U hU => ?_, fun U hU => ?_⟩
  · rw [e]
    have := Rat.mul_le_mul_of_nonneg_left (b.up U hU) (Rat.le_of_lt c0)
    rwa [Rat.mul_zero] at this
  · rw [e, b.lv U hU, Rat.mul_zero]
def wgPn (p : Pan) (h : Int) : Pan := ⟨p.its.map fun q => (q.1, q.2 * h), p.rus⟩
end Pm
set_option Elab.async false
set_option linter.all false
set_option maxRecDepth 100000
set_option maxHeartbeats 1000000
set_option autoImplicit false
namespace Pm
open PySem PySem.Spec
open PyProof.Rows hiding St
open L2
variable {γ : Type} {X : Cx} {G : GP γ} {a b e o v : Expr} {pos apos cpos : Pos} {i j : Nat}
def qIndexN (i : Nat) (te : PEx γ) : PEx γ := fun s R => (∃ es, s.ρ[i]? = some (some (.own es))) ∧ te s fun d s1 => ∃ (ns : List Int) (k : Int) (j : Nat), s1.ρ[i]? = some (some (.own (ns.map D.int))) ∧ d = .int k ∧ ns[j]? = some k ∧ (∀ m : Nat, m < j → ns[m]? ≠ some k) ∧ R (.int (j : Nat)) s1
theorem ats_ints {K : PySem.W.Frag} {Z : Hp} : ∀ {ns : List Int} {vs : List V}, Ats K Z (ns.map D.int) vs → vs = ns.map V.int
  | [], vs, h => h
  | n :: ns, vs, ⟨w, ws, e, h1, h2⟩ => by
    subst e
    rw [show w = .int n from h1, ats_ints h2]; rfl
theorem qe_indexN {te : PEx γ} (hn : PE X o (tVar i)) (he : QE X G e te) (hbase : attributeBase o "index" X.env (eval o X.env) = eval o X.env := by rfl)
    (hfew : ((backTo cpos (starEach [e] X.env)).all (fun x => !x.1) && (backToKw cpos (keywordEach [] X.env)).all (fun x => x.1.isSome)
      && decide (([e] : List Expr).length + ([] : List Keyword).length + (if ([] : List Keyword).isEmpty then 0 else 1) < 30)) = true := by rfl)
    (hline : (apos.endLine == cpos.line) = true := by rfl) (hs : starEach [e] X.env = (false, eval e X.env) :: starEach [] X.env := by rfl) (hplain : (backTo cpos (starEach [] X.env)).any (·.1) = false := by rfl) :
    QE X G (.Call (.Attribute o "index" apos) [e] [] cpos) (qIndexN i te) := by
  refine PE.imp (pe_bm PySem.F.plainAttrs_list PySem.F.slot_list_index PySem.F.type_list_index mt_index hn (pa_cons he pa_nil hs) hbase hfew hline hs hplain) fun σ H Q ⟨F, Z, s, R, r, ⟨⟨es, t0⟩, t⟩, q⟩ => ?_
  obtain ⟨a, vs, h1, h2, _⟩ := r.own i es t0
  refine ⟨.ref a, h1, own_ty h2, F, Z, s, _, r, t, fun y s1 Z1 vy H1 t1 k1 r1 a1 => ?_⟩
  obtain ⟨ns, k, j, e1, rfl, e2, e3, t2⟩ := t1
  obtain rfl : vy = .int k := a1
  obtain ⟨a', vs', g1, g2, g3, _⟩ := r1.own i _ e1
  rw [h1] at g1; cases g1
  obtain rfl := ats_ints g3
  refine ⟨a, ns.map V.int, .int k, j, .int k, rfl, rfl, SqL.of g2, rfl, ?_, ?_, ?_, fun m z hm hz => ?_, q _ _ Z1 _ _ t2 k1 r1 rfl⟩
  · exact List.all_eq_true.mpr fun w hw => by obtain ⟨_, _, rfl⟩ := List.mem_map.mp hw; rfl
  · rw [List.getElem?_map, e2]; rfl
  · show (k == k) = true
    simp
  · rw [List.getElem?_map] at hz
    obtain ⟨n, hn, rfl⟩ := Option.map_eq_some_iff.mp hz
    show (n == k) = false
    rw [beq_eq_false_iff_ne]
    rintro rfl
    exact e3 m hm hn
def qParDic (i j : Nat) (te : PEx γ) : PSx γ := fun E s => te s fun d s1 => E.nx ⟨(s1.ρ.set i (some (.dic []))).set j (some (.val d)), s1.g⟩
theorem qs_parDic {x y : Str} {te : PEx γ} {px py pt pd : Pos} {kt k2 pt2} (hc : X.calm = true) (hN : X.N.Nodup) (hi : X.N[i]? = some x) (hj : X.N[j]? = some y) (hij : i ≠ j)
    (hx : X.env.scope.names.lookup x = some .local) (hy : X.env.scope.names.lookup y = some .local) (hb : QE X G b te)
    (hw : swappedStores [.Tuple [.Name x px, .Name y py] kt pt] (.Tuple [.Dict [] [] pd, b] k2 pt2) X.env = pure (some [x, y]))
    (hs : swapsWithSole [.Tuple [.Name x px, .Name y py] kt pt] (.Tuple [.Dict [] [] pd, b] k2 pt2) pos.line X.env = pure false := by rfl)
    (h1 : starEach [.Dict [] [] pd, b] X.env = (false, eval (.Dict [] [] pd) X.env) :: starEach [b] X.env := by rfl) (h2 : starEach [b] X.env = (false, eval b X.env) :: starEach [] X.env := by rfl) :
    QS X G (.Assign [.Tuple [.Name x px, .Name y py] kt pt] (.Tuple [.Dict [] [] pd, b] k2 pt2) pos) (qParDic i j te) := by
  refine PS.imp (ps_par hc hN hi hj hij hx hy (pa_cons pe_dnewK (pa_cons hb pa_nil h2) h1) hw hs) fun De σ H ⟨F, Z, s, E, r, t, n, _⟩ => fun p hp => ?_
  obtain ⟨f1, f2, f3, f4⟩ := r.fresh hp
  have rb := (r.grow (same_upd (o := HO.dK []) hp)).bar upd_same f1 f3 f4
  refine ⟨F.bar p (.dK []), Z, s, _, rb, t, fun d s1 Z1 v H1 t1 k1 r1 a1 => ?_⟩
  obtain ⟨e1, e2, e3, e4, r3⟩ := r1.unbar (o' := .dK []) f2
  have hu : upd H1 p (.dK []) = H1 := by
    funext b
    by_cases hb : b = p
    · subst hb; rw [upd_same, e1]
    · rw [upd_ne hb]
  rw [hu] at r3
  refine ⟨.ref p, v, rfl, n _ Z1 _ H1 t1 k1 ?_⟩
  exact (r3.putW (l := .dic []) (vs := []) rfl e1 rfl e2 f2 e3 e4).put a1
theorem qs_parC2 {i j : Nat} {x y : Str} {ta : PMx γ} {px py pt : Pos} {kt k2 pt2} (hc : X.calm = true) (hN : X.N.Nodup) (hi : X.N[i]? = some x) (hj : X.N[j]? = some y)
    (hx : Loc X.env.scope x) (hy : Loc X.env.scope y) (ha : QM X G [a, b] ta)
    (fx : X.fn x = true ∨ X.env.scope.names.lookup x = some .local) (fy : X.fn y = true ∨ X.env.scope.names.lookup y = some .local)
    (hs : swapsWithSole [.Tuple [.Name x px, .Name y py] kt pt] (.Tuple [a, b] k2 pt2) pos.line X.env = pure false := by rfl)
    (hw : swappedStores [.Tuple [.Name x px, .Name y py] kt pt] (.Tuple [a, b] k2 pt2) X.env = pure none := by rfl) :
    QS X G (.Assign [.Tuple [.Name x px, .Name y py] kt pt] (.Tuple [a, b] k2 pt2) pos) (qParM i j ta) := by
  refine PS.imp (ps_asg (pe_tup ha) (pg_tup hc (pgs_cons (pg_name hN hi hx fx) (pgs_cons (pg_name hN hj hy fy) pgs_nil))) hs hw) fun De σ H ⟨F, Z, s, E, r, t, n, _⟩ => ?_
  refine ⟨F, Z, s, _, r, t, fun ls s1 Z1 vs H1 t1 k1 r1 m1 ap => ?_⟩
  match ls, t1 with
  | [d, e], t1 =>
    obtain ⟨v, _, rfl, m2, w, _, rfl, m3, rfl⟩ := m1
    refine ⟨by show 2 ≤ sizeLine; decide, fun p hp => ⟨p, _, rfl, .inl (.inl upd_same), rfl, v, _, rfl, w, _, rfl, rfl, n _ Z1 _ _ t1 k1 ?_⟩⟩
    have k := same_upd (o := HO.tup [v, w]) hp
    have rg := r1.grow k
    have ra := rg.putL (i := i) (m2.grow k)
    exact ra.putL ((m3.grow k).after (i := i) (l' := d) (v' := v) rg.len.symm (apart2 ap) m2.nd)
theorem qs_parDicC {x y : Str} {te : PEx γ} {px py pt pd : Pos} {kt k2 pt2} (hc : X.calm = true) (hN : X.N.Nodup) (hi : X.N[i]? = some x) (hj : X.N[j]? = some y)
    (hx : Loc X.env.scope x) (hy : Loc X.env.scope y) (hb : QE X G b te)
    (fx : X.fn x = true ∨ X.env.scope.names.lookup x = some .local) (fy : X.fn y = true ∨ X.env.scope.names.lookup y = some .local)
    (hs : swapsWithSole [.Tuple [.Name x px, .Name y py] kt pt] (.Tuple [.Dict [] [] pd, b] k2 pt2) pos.line X.env = pure false := by rfl)
    (hw : swappedStores [.Tuple [.Name x px, .Name y py] kt pt] (.Tuple [.Dict [] [] pd, b] k2 pt2) X.env = pure none := by rfl)
    (h1 : starEach [.Dict [] [] pd, b] X.env = (false, eval (.Dict [] [] pd) X.env) :: starEach [b] X.env := by rfl) (h2 : starEach [b] X.env = (false, eval b X.env) :: starEach [] X.env := by rfl) :
    QS X G (.Assign [.Tuple [.Name x px, .Name y py] kt pt] (.Tuple [.Dict [] [] pd, b] k2 pt2) pos) (qParDic i j te) := by
  refine PS.imp (ps_asg (pe_tup (pa_cons pe_dnewK (pa_cons hb pa_nil h2) h1)) (pg_tup hc (pgs_cons (pg_name hN hi hx fx) (pgs_cons (pg_name hN hj hy fy) pgs_nil))) hs hw) fun De σ H ⟨F, Z, s, E, r, t, n, _⟩ => fun p hp => ?_
  obtain ⟨f1, f2, f3, f4⟩ := r.fresh hp
  have rb := (r.grow (same_upd (o := HO.dK []) hp)).bar upd_same f1 f3 f4
  refine ⟨F.bar p (.dK []), Z, s, _, rb, t, fun d s1 Z1 v H1 t1 k1 r1 a1 => ?_⟩
  obtain ⟨e1, e2, e3, e4, r3⟩ := r1.unbar (o' := .dK []) f2
  have hu : upd H1 p (.dK []) = H1 := by
    funext b
    by_cases hb : b = p
    · subst hb; rw [upd_same, e1]
    · rw [upd_ne hb]
  rw [hu] at r3
  refine ⟨by show 2 ≤ sizeLine; decide, fun t ht => ⟨t, _, rfl, .inl (.inl upd_same), rfl, .ref p, _, rfl, v, _, rfl, rfl, n _ Z1 _ _ t1 k1 ?_⟩⟩
  have k := same_upd (o := HO.tup [.ref p, v]) ht
  exact ((r3.grow k).putW (l := .dic []) (vs := []) rfl (k _ _ e1) rfl e2 f2 e3 e4).put a1
end Pm
set_option Elab.async false
set_option linter.all false
set_option maxRecDepth 100000
set_option maxHeartbeats 1000000
set_option autoImplicit false
namespace Pm
open PySem PySem.Spec
open L2
variable {m n : Nat} {p q : Pan} {w : Bool} {x y : Nat → Int}
theorem side_best (hp : PanOk m p) (hm : m ≤ 100) {t : Int} {r : Nat → Rat} (b : BestP (pS p t) r) {i : Nat} (hi : i < p.its.length) : i ∈ sideG p w t ↔ (if w then 0 ≤ r i else 0 < r i) := by
  obtain ⟨s, b', e1, e2⟩ := rS_ex hp hm t
  have hi' : i < (pS p t).its.length := by rw [pS_len]; exact hi
  have e : s i = r i := BestP.eq (pS_ok hp) b' b hi'
  cases w
  · show i ∈ loG p t ↔ 0 < r i
    rw [e1, ← e]
    unfold above
    rw [List.mem_filter]
    simp [hi']
  · show i ∈ hiG p t ↔ 0 ≤ r i
    rw [e2, ← e]
    unfold atLeast
    rw [List.mem_filter]
    simp [hi']
theorem max_in (f : Nat → Int) : ∀ l : List Nat, l ≠ [] → ∃ i ∈ l, ∀ j ∈ l, f j ≤ f i
  | [i], _ => ⟨i, by simp, fun j hj => by simp at hj; subst hj; exact Int.le_refl _⟩
  | i :: k :: l, _ => by
    obtain ⟨j, hj, h⟩ := max_in f (k :: l) (by simp)
    by_cases c : f i ≤ f j
    · exact ⟨j, List.mem_cons_of_mem _ hj, fun z hz => by
        rcases List.mem_cons.mp hz with rfl | hz
        · exact c
        · exact h z hz⟩
    · exact ⟨i, by simp, fun z hz => by
        rcases List.mem_cons.mp hz with rfl | hz
        · exact Int.le_refl _
        · have := h z hz; omega⟩
theorem thr_ex (a b : Nat → Int) (n : Nat) (h : ∀ i j, i < n → j < n → (a i < a j ↔ b i < b j)) (t' : Int) : ∃ t, ∀ i, i < n → (t < a i ↔ t' < b i) := by
  by_cases c : (List.range n).filter (fun i => decide (b i ≤ t')) = []
  · rw [List.filter_eq_nil_iff] at c
    by_cases n0 : List.range n = []
    · refine ⟨0, fun i hi => ?_⟩
      have : i ∈ List.range n := List.mem_range.mpr hi
      rw [n0] at this; cases this
    · obtain ⟨k, hk, hmax⟩ := max_in (fun i => -a i) _ n0
      refine ⟨a k - 1, fun i hi => ?_⟩
      have h1 := hmax i (List.mem_range.mpr hi)
      have h2 := c i (List.mem_range.mpr hi)
      simp only [decide_eq_true_eq] at h2
      omega
  · obtain ⟨k, hk, hmax⟩ := max_in a _ c
    obtain ⟨hk1, hk2⟩ := List.mem_filter.mp hk
    have hk1 := List.mem_range.mp hk1
    have hk2 := of_decide_eq_true hk2
    refine ⟨a k, fun i hi => ⟨fun z => ?_, fun z => ?_⟩⟩
    · by_cases d : b i ≤ t'
      · have := hmax i (List.mem_filter.mpr ⟨List.mem_range.mpr hi, decide_eq_true d⟩)
        omega
      · omega
    · exact (h k i hk1 hi).mpr (by omega)
theorem its_ext {a b : List (Int × Int)} (hl : a.length = b.length) (h : ∀ i, i < b.length → a.getD i (0, 1) = b.getD i (0, 1)) : a = b := by
  refine List.ext_getElem hl fun i h1 h2 => ?_
  have := h i h2
  simpa [List.getD_eq_getElem?_getD, List.getElem?_eq_getElem, h1, h2] using this
theorem isMed_order (hl : q.its.length = p.its.length) (hr : q.rus = p.rus) (hw : ∀ i, i < p.its.length → wt q i = wt p i) (ho : ∀ i j, i < p.its.length → j < p.its.length → (mk p i < mk p j ↔ mk q i < mk q j))
    (hx : IsMed p w x) (hj : ∀ i, i < p.its.length → ∃ j, j < p.its.length ∧ mk p j = x i ∧ mk q j = y i) : IsMed q w y := fun i hi t' => by
  rw [hl] at hi
  obtain ⟨t, ht⟩ := thr_ex (mk p) (mk q) p.its.length ho t'
  have e : pS q t' = pS p t := by
    unfold pS
    congr 1
    refine its_ext (by simp [hl]) fun i h1 => ?_
    have h1 : i < p.its.length := by simpa using h1
    have e1 := pS_at (p := q) (t := t') (i := i) (by omega)
    have e2 := pS_at (p := p) (t := t) (i := i) h1
    refine e1.trans (Eq.trans ?_ e2.symm)
    rw [hw i h1]
    have := ht i h1
    congr 1
    split <;> split <;> first | rfl | omega
  have es : sideG q w t' = sideG p w t := by
    cases w
    · show topIn (pS q t') 0 = topIn (pS p t) 0
      rw [e]
    · show topOut (pS q t') 0 = topOut (pS p t) 0
      rw [e]
  obtain ⟨j, h1, h2, h3⟩ := hj i hi
  rw [es, ← hx i hi t, ← h2, ← h3]
  exact (ht j h1).symm
theorem pS_mw (p : Pan) (t : Int) {i : Nat} (hi : i < p.its.length) : mR (pS p t) i = (if t < mk p i then 1 else -1) ∧ wR (pS p t) i = ((wt p i : Int) : Rat) := by
  refine ⟨mR_pS hi, ?_⟩
  rw [wR_pS hi]; rfl
theorem isMed_weigh (hp : PanOk m p) (hq : PanOk m q) (hm : m ≤ 100) {c : Int} (c0 : 0 < c) (hl : q.its.length = p.its.length) (hr : q.rus = p.rus) (hw : ∀ i, i < p.its.length → wt q i = wt p i * c ∧ mk q i = mk p i) (hx : IsMed p w x) : IsMed q w x := fun i hi t => by
  have hi' : i < p.its.length := by omega
  obtain ⟨r, b, _⟩ := rS_ex hp hm t
  have b2 : BestP (pS q t) r := by
    have b3 := Best.weigh b (c := (c : Rat)) (by exact_mod_cast c0)
    have e : (pS q t).its.length = (pS p t).its.length := by rw [pS_len, pS_len, hl]
    show Best (List.range (pS q t).its.length) (eE (pS q t)) (mR (pS q t)) (wR (pS q t)) r
    rw [e]
    have ee : eE (pS q t) = eE (pS p t) := by
      funext a c
      show (((a : Int), (c : Int)) ∈ q.rus) = (((a : Int), (c : Int)) ∈ p.rus)
      rw [hr]
    rw [ee]
    refine b3.congr (fun j hj => ?_) fun j hj => ?_
    · have hj := List.mem_range.mp hj
      rw [pS_len] at hj
      rw [(pS_mw p t hj).1, (pS_mw q t (i := j) (by omega)).1, (hw j hj).2]
    · have hj := List.mem_range.mp hj
      rw [pS_len] at hj
      rw [(pS_mw p t hj).2, (pS_mw q t (i := j) (by omega)).2, (hw j hj).1, Rat.intCast_mul]
  rw [hx i hi' t, side_best hp hm b hi', side_best hq hm b2 hi]
theorem isMed_rev (hp : PanOk m p) (hm : m ≤ 100) (hx : IsMed p w x) : IsMed (revP p) (!w) fun i => 0 - x i := fun i hi t => by
  rw [revP_len] at hi
  obtain ⟨r, b, _⟩ := rS_ex hp hm (-t - 1)
  have b2 := BestP.rev (pS_ok hp) b
  have e : revP (pS p (-t - 1)) = pS (revP p) t := by
    unfold revP pS
    simp only [List.map_map]
    congr 1
    refine List.map_congr_left fun a _ => ?_
    show ((0 - if -t - 1 < a.1 then (1 : Int) else -1), a.2) = (if t < 0 - a.1 then 1 else -1, a.2)
    congr 1
    split <;> split <;> omega
  rw [e] at b2
  have h1 := hx i hi (-t - 1)
  rw [side_best hp hm b hi] at h1
  rw [side_best (revP_ok hp) hm b2 (by rw [revP_len]; exact hi)]
  cases w
  · simp only [Bool.not_false, if_true, Bool.false_eq_true, if_false] at h1 ⊢
    constructor
    · intro h
      have : ¬ (0 < r i) := fun z => by have := h1.mpr z; omega
      grind
    · intro h
      have : ¬ (-t - 1 < x i) := fun z => by have := h1.mp z; grind
      omega
  · simp only [Bool.not_true, if_true, Bool.false_eq_true, if_false] at h1 ⊢
    constructor
    · intro h
      have : ¬ (0 ≤ r i) := fun z => by have := h1.mpr z; omega
      grind
    · intro h
      have : ¬ (-t - 1 < x i) := fun z => by have := h1.mp z; grind
      omega
theorem isMed_mono (hp : PanOk m p) (hq : PanOk m q) (hm : m ≤ 100) (hl : q.its.length = p.its.length) (hr : q.rus = p.rus) (hw : ∀ i, i < p.its.length → wt q i = wt p i ∧ mk p i ≤ mk q i) (hx : IsMed p w x) (hy : IsMed q w y) {i : Nat} (hi : i < p.its.length) : x i ≤ y i := by
  refine Int.not_lt.mp fun lt => ?_
  have h1 := (hx i hi (y i)).mp lt
  obtain ⟨r, b, _⟩ := rS_ex hp hm (y i)
  obtain ⟨s, b2, _⟩ := rS_ex hq hm (y i)
  rw [side_best hp hm b hi] at h1
  have h2 : ¬ i ∈ sideG q w (y i) := fun z => by have := (hy i (by omega) (y i)).mpr z; omega
  rw [side_best hq hm b2 (by omega)] at h2
  have e : (pS q (y i)).its.length = (pS p (y i)).its.length := by rw [pS_len, pS_len, hl]
  have b3 : Best (List.range (pS p (y i)).its.length) (eE (pS p (y i))) (mR (pS q (y i))) (wR (pS p (y i))) s := by
    have b4 : Best (List.range (pS q (y i)).its.length) (eE (pS q (y i))) (mR (pS q (y i))) (wR (pS q (y i))) s := b2
    rw [e] at b4
    have ee : eE (pS q (y i)) = eE (pS p (y i)) := by
      funext a c
      show (((a : Int), (c : Int)) ∈ q.rus) = (((a : Int), (c : Int)) ∈ p.rus)
      rw [hr]
    rw [ee] at b4
    refine b4.congr (fun _ _ => rfl) fun j hj => ?_
    have hj := List.mem_range.mp hj
    rw [pS_len] at hj
    rw [(pS_mw p (y i) hj).2, (pS_mw q (y i) (i := j) (by omega)).2, (hw j hj).1]
  have le := Best.mono b b3 (fun j hj => ?_) (fun j hj => ?_) i (List.mem_range.mpr (by rw [pS_len]; exact hi))
  · cases w
    · simp only [Bool.false_eq_true, if_false] at h1 h2
      grind
    · simp only [if_true] at h1 h2
      grind
  · have hj := List.mem_range.mp hj
    exact wR_pos (pS_ok hp) hj
  · have hj := List.mem_range.mp hj
    rw [pS_len] at hj
    rw [(pS_mw p (y i) hj).1, (pS_mw q (y i) (i := j) (by omega)).1]
    have := (hw j hj).2
    split
    · rw [if_pos (by omega)]; exact Rat.le_refl
    · split
      · exact Rat.le_of_lt (by decide +kernel)
      · exact Rat.le_refl
theorem filter_map' {α β : Type} (f : α → β) (P : β → Bool) (l : List α) : (l.map f).filter P = (l.filter fun a => P (f a)).map f := by
  rw [List.filter_map]; rfl
theorem sm_map (f : Nat → Rat) (s : Nat → Nat) : ∀ l : List Nat, sm f (l.map s) = sm (fun k => f (s k)) l
  | [] => rfl
  | i :: l => by simp only [List.map_cons, sm, sm_map f s l]
theorem Best.perm {E E' : Nat → Nat → Prop} {mm ww r : Nat → Rat} {s v : Nat → Nat} (b : Best (List.range n) E mm ww r) (hp : ((List.range n).map s).Perm (List.range n)) (hE : ∀ a c, E' a c → E (s a) (s c)) (hE2 : ∀ a c, E a c → E' (v a) (v c))
    (inv : ∀ k, k < n → v (s k) = k) : Best (List.range n) E' (fun k => mm (s k)) (fun k => ww (s k)) fun k => r (s k) := by
  have key : ∀ U' U : Nat → Bool, (∀ k, k < n → U' (s k) = U k) → sm (fw (fun k => mm (s k)) (fun k => ww (s k)) fun k => r (s k)) ((List.range n).filter U) = sm (fw mm ww r) ((List.range n).filter U') := fun U' U h => by
    rw [← sm_perm (hp.filter U'), filter_map', sm_map]
    rw [show (List.range n).filter U = (List.range n).filter (fun a => U' (s a)) from List.filter_congr fun k hk => (h k (List.mem_range.mp hk)).symm]
    rfl
  refine ⟨fun a c e => b.ob _ _ (hE a c e), fun U hU => ?_, fun U hU => ?_⟩
  · rw [key (fun i => U (v i)) U fun k hk => by rw [inv k hk]]
    exact b.up _ fun a c e h => hU _ _ (hE2 a c e) h
  · rw [key (fun i => (List.range n).any fun k => U k && decide (r (s k) ≤ r i)) U fun k hk => ?_]
    · refine b.lv _ fun i j le h => ?_
      obtain ⟨k, hk, e⟩ := List.any_eq_true.mp h
      rw [Bool.and_eq_true] at e
      exact List.any_eq_true.mpr ⟨k, hk, by rw [Bool.and_eq_true]; exact ⟨e.1, decide_eq_true (Rat.le_trans (of_decide_eq_true e.2) le)⟩⟩
    · cases h : U k with
      | true => exact List.any_eq_true.mpr ⟨k, List.mem_range.mpr hk, by rw [h]; exact decide_eq_true Rat.le_refl⟩
      | false =>
        rw [List.any_eq_false]
        intro j _ e
        rw [Bool.and_eq_true] at e
        have := hU j k (of_decide_eq_true e.2) e.1
        rw [h] at this; cases this
theorem isMed_perm (hp : PanOk m p) (hq : PanOk m q) (hm : m ≤ 100) {s v : Nat → Nat} (hl : q.its.length = p.its.length) (hs : ((List.range p.its.length).map s).Perm (List.range p.its.length)) (inv : ∀ k, k < p.its.length → v (s k) = k)
    (hw : ∀ k, k < p.its.length → wt q k = wt p (s k) ∧ mk q k = mk p (s k)) (hE : ∀ a c, eE q a c → eE p (s a) (s c)) (hE2 : ∀ a c, eE p a c → eE q (v a) (v c)) (hx : IsMed p w x) : IsMed q w fun k => x (s k) := fun i hi t => by
  have hi' : i < p.its.length := by omega
  have slt : ∀ k, k < p.its.length → s k < p.its.length := fun k hk => List.mem_range.mp (hs.mem_iff.mp (List.mem_map.mpr ⟨k, List.mem_range.mpr hk, rfl⟩))
  obtain ⟨r, b, _⟩ := rS_ex hp hm t
  have b0 : Best (List.range p.its.length) (eE p) (mR (pS p t)) (wR (pS p t)) r := by
    have b1 : Best (List.range (pS p t).its.length) (eE p) (mR (pS p t)) (wR (pS p t)) r := b
    rw [pS_len] at b1; exact b1
  have b2 : BestP (pS q t) fun k => r (s k) := by
    show Best (List.range (pS q t).its.length) (eE q) (mR (pS q t)) (wR (pS q t)) _
    rw [pS_len, hl]
    refine (Best.perm b0 hs hE hE2 inv).congr (fun j hj => ?_) fun j hj => ?_
    · have hj := List.mem_range.mp hj
      rw [(pS_mw p t (slt j hj)).1, (pS_mw q t (i := j) (by omega)).1, (hw j hj).2]
    · have hj := List.mem_range.mp hj
      rw [(pS_mw p t (slt j hj)).2, (pS_mw q t (i := j) (by omega)).2, (hw j hj).1]
  rw [side_best hq hm b2 hi]
  rw [← side_best hp hm b (slt i hi')]
  exact hx (s i) (slt i hi') t
def rowI (n : Nat) (x : Nat → Int) : D := .tup ((List.range n).map fun i => .int (x i))
structure MedX (p : Pan) (w : Bool) (x : Nat → Int) : Prop where
  is : IsMed p w x
  at' : ∀ i, i < p.its.length → ∃ j, j < p.its.length ∧ mk p j = x i
def medD (p : Pan) (lo hi : Nat → Int) : D := .tup [rowI p.its.length lo, rowI p.its.length hi]
theorem medX_ex (w : Bool) (hp : PanOk m p) (hm : m ≤ 100) : ∃ x, MedX p w x := by
  obtain ⟨x, a, b⟩ := med_ex w hp hm
  exact ⟨x, a, b⟩
theorem rowI_congr {n : Nat} {x y : Nat → Int} (h : ∀ i, i < n → x i = y i) : rowI n x = rowI n y := by
  unfold rowI
  congr 1
  exact List.map_congr_left fun i hi => by rw [h i (List.mem_range.mp hi)]
theorem MedX.row (h : MedX p w x) (hy : MedX p w y) : rowI p.its.length x = rowI p.its.length y := rowI_congr (med_uniq h.is hy.is)
theorem MedX.bd (h : MedX p w x) (hp : PanOk m p) : ∀ i, i < p.its.length → -(10 ^ 9) ≤ x i ∧ x i ≤ 10 ^ 9 := fun i hi => by
  obtain ⟨j, hj, e⟩ := h.at' i hi
  have := hp.it _ (List.mem_of_getElem? (getD_at (its := p.its) hj))
  rw [← e]
  exact ⟨this.1, this.2.1⟩
theorem rowI_ok {n : Nat} (h8 : n ≤ 10) (x : Nat → Int) : (rowI n x).pln = true ∧ (rowI n x).dep ≤ 2 ∧ (rowI n x).wid ≤ 30000 := by
  have all : ∀ l : List Nat, D.plns (l.map fun i => D.int (x i)) = true ∧ D.deps (l.map fun i => D.int (x i)) ≤ 1 ∧ D.wids (l.map fun i => D.int (x i)) ≤ 2008 * l.length := fun l => by
    induction l with
    | nil => exact ⟨rfl, Nat.zero_le _, Nat.zero_le _⟩
    | cons i l ih =>
      obtain ⟨a, b, c⟩ := ih
      refine ⟨by simpa [D.plns, D.pln] using a, ?_, ?_⟩
      · simp only [List.map_cons, D.deps, D.dep]; omega
      · simp only [List.map_cons, D.wids, D.wid, List.length_cons]; omega
  obtain ⟨a, b, c⟩ := all (List.range n)
  rw [List.length_range] at c
  refine ⟨a, ?_, ?_⟩
  · show D.deps _ + 1 ≤ 2; omega
  · show D.wids _ + 8 ≤ 30000; omega
theorem medD_ok {a b : Nat → Int} {n : Nat} (h8 : n ≤ 10) : (D.tup [rowI n a, rowI n b]).pln = true ∧ (D.tup [rowI n a, rowI n b]).dep ≤ 4 ∧ (D.tup [rowI n a, rowI n b]).wid ≤ 10000000 := by
  obtain ⟨a1, a2, a3⟩ := rowI_ok h8 a
  obtain ⟨b1, b2, b3⟩ := rowI_ok h8 b
  refine ⟨by simp [D.pln, D.plns, a1, b1], ?_, ?_⟩
  · simp only [D.dep, D.deps]; omega
  · simp only [D.wid, D.wids]; omega
theorem isum_mul (c : Int) (f : Nat → Int) : ∀ l : List Nat, (l.map fun i => c * f i).sum = c * (l.map f).sum
  | [] => by simp
  | i :: l => by simp only [List.map_cons, List.sum_cons, isum_mul c f l, Int.mul_add]
theorem isum_bd (f : Nat → Int) (M : Int) : ∀ l : List Nat, (∀ i ∈ l, 0 ≤ f i ∧ f i ≤ M) → 0 ≤ (l.map f).sum ∧ (l.map f).sum ≤ l.length * M
  | [], _ => by simp
  | i :: l, h => by
    have a := isum_bd f M l fun j hj => h j (by simp [hj])
    have b := h i (by simp)
    simp only [List.map_cons, List.sum_cons, List.length_cons]
    have e : ((l.length + 1 : Nat) : Int) * M = l.length * M + M := by push_cast; rw [Int.add_mul]; omega
    rw [e]; omega
theorem spI_weigh {c : Int} (hl : q.its.length = p.its.length) (hw : ∀ i, i < p.its.length → wt q i = wt p i * c ∧ mk q i = mk p i) (h : ∀ i, i < p.its.length → x i = y i) : spI q x = c * spI p y := by
  unfold spI
  rw [hl, ← isum_mul]
  congr 1
  refine List.map_congr_left fun i hi => ?_
  have hi := List.mem_range.mp hi
  obtain ⟨a, b⟩ := hw i hi
  rw [a, b, h i hi, Int.mul_comm (wt p i) c, Int.mul_assoc]
theorem spI_bd (hp : PanOk m p) (hm : m ≤ 10) (hx : MedX p w x) : 0 ≤ spI p x ∧ spI p x ≤ 10 ^ 18 := by
  have bd := hx.bd hp
  have h8 := hp.top
  have key := isum_bd (fun i => wt p i * ((x i - mk p i).natAbs : Int)) (10 ^ 6 * (2 * 10 ^ 9)) (List.range p.its.length) fun i hi => by
    have hi := List.mem_range.mp hi
    obtain ⟨a1, a2, a3, a4⟩ := hp.it _ (List.mem_of_getElem? (getD_at (its := p.its) hi))
    have a1 : -(10 ^ 9) ≤ mk p i := a1
    have a2 : mk p i ≤ 10 ^ 9 := a2
    have a3 : 1 ≤ wt p i := a3
    have a4 : wt p i ≤ 10 ^ 6 := a4
    obtain ⟨b1, b2⟩ := bd i hi
    exact ⟨Int.mul_nonneg (by omega) (by omega), Int.mul_le_mul a4 (by omega) (by omega) (by decide)⟩
  rw [List.length_range] at key
  refine ⟨key.1, Int.le_trans key.2 ?_⟩
  have : (p.its.length : Int) * (10 ^ 6 * (2 * 10 ^ 9)) ≤ 10 * (10 ^ 6 * (2 * 10 ^ 9)) := Int.mul_le_mul_of_nonneg_right (by omega) (by decide)
  have e : (10 : Int) * (10 ^ 6 * (2 * 10 ^ 9)) ≤ 10 ^ 18 := by decide
  omega
theorem medD_ok' (hp : PanOk m p) (hm : m ≤ 10) {a b : Nat → Int} : (medD p a b).pln = true ∧ (medD p a b).dep < 24 ∧ (medD p a b).wid ≤ 10000000 := by
  have := hp.top
  obtain ⟨x, y, z⟩ := medD_ok (a := a) (b := b) (n := p.its.length) (by omega)
  exact ⟨x, Nat.lt_of_le_of_lt y (by decide), z⟩
theorem spI_sz (hp : PanOk m p) (hm : m ≤ 10) (hx : MedX p w x) : Sz 60 (spI p x) := by
  obtain ⟨a, b⟩ := spI_bd hp hm hx
  have e : (10 : Int) ^ 18 < 2 ^ 60 := by decide
  have e2 : ((2 ^ 60 : Nat) : Int) = 2 ^ 60 := by decide
  unfold Sz; omega
theorem takeout_perm {α : Type} : ∀ (l : List α) (k : Nat) (h : k < l.length), (l[k] :: l.eraseIdx k).Perm l
  | [], k, h => by simp at h
  | x :: l, 0, h => .refl _
  | x :: l, k + 1, h => (List.Perm.swap _ _ _).trans ((takeout_perm l k (by simpa using h)).cons x)
structure OrdP (n : Nat) (os : List Nat) : Prop where
  perm : os.Perm (List.range n)
def osS (os : List Nat) (k : Nat) : Nat := os.getD k 0
def osV (os : List Nat) (i : Nat) : Nat := os.idxOf i
section
variable {os : List Nat} (h : OrdP n os)
include h
theorem OrdP.len : os.length = n := by have := h.perm.length_eq; simpa using this
theorem OrdP.nodup : os.Nodup := h.perm.nodup_iff.mpr List.nodup_range
theorem OrdP.mem {i : Nat} : i ∈ os ↔ i < n := by rw [h.perm.mem_iff, List.mem_range]
theorem OrdP.at' {k : Nat} (hk : k < n) : os[k]? = some (osS os k) := by
  unfold osS
  rw [List.getD_eq_getElem?_getD, List.getElem?_eq_getElem (by rw [h.len]; exact hk)]; rfl
theorem OrdP.s_lt {k : Nat} (hk : k < n) : osS os k < n := h.mem.mp (List.mem_of_getElem? (h.at' hk))
theorem OrdP.v_lt {i : Nat} (hi : i < n) : osV os i < n := by
  have := List.idxOf_lt_length_of_mem (h.mem.mpr hi)
  rw [h.len] at this; exact this
theorem OrdP.sv {i : Nat} (hi : i < n) : osS os (osV os i) = i := by
  have e := h.at' (h.v_lt hi)
  have lt := List.idxOf_lt_length_of_mem (h.mem.mpr hi)
  have e2 : os[osV os i]? = some i := by
    unfold osV
    rw [List.getElem?_eq_getElem lt, List.getElem_idxOf]
  rw [e2] at e; exact (Option.some.inj e).symm
theorem OrdP.vs {k : Nat} (hk : k < n) : osV os (osS os k) = k := by
  have hs := h.s_lt hk
  refine (List.getElem?_inj (by rw [h.len]; exact h.v_lt hs) h.nodup).mp ?_
  rw [h.at' (h.v_lt hs), h.at' hk, h.sv hs]
theorem OrdP.first {i : Nat} (hi : i < n) : os[osV os i]? = some i ∧ ∀ m : Nat, m < osV os i → os[m]? ≠ some i := by
  have e : os[osV os i]? = some i := by rw [h.at' (h.v_lt hi), h.sv hi]
  refine ⟨e, fun m hm z => ?_⟩
  have := (List.getElem?_inj (by rw [h.len]; have := h.v_lt hi; omega) h.nodup).mp (z.trans e.symm)
  omega
theorem OrdP.map {α : Type} (f : Nat → α) : (List.range n).map (fun k => f (osS os k)) = os.map f := by
  refine List.ext_getElem? fun k => ?_
  by_cases hk : k < n
  · rw [List.getElem?_map, List.getElem?_map, List.getElem?_range hk, h.at' hk]; rfl
  · rw [List.getElem?_eq_none (by simpa using hk), List.getElem?_eq_none (by rw [List.length_map, h.len]; omega)]
end
def orP (os : List Nat) (p : Pan) : Pan := ⟨os.map fun k => p.its.getD k (0, 1), p.rus.map fun z => ((osV os z.1.toNat : Nat), (osV os z.2.toNat : Nat))⟩
section
variable {os : List Nat} (h : OrdP p.its.length os)
include h
theorem OrdP.plen : (orP os p).its.length = p.its.length := by show (os.map _).length = _; rw [List.length_map, h.len]
theorem OrdP.iat {k : Nat} (hk : k < p.its.length) : (orP os p).its.getD k (0, 1) = p.its.getD (osS os k) (0, 1) := by
  show (os.map _).getD k (0, 1) = _
  rw [List.getD_eq_getElem?_getD, List.getElem?_map, h.at' hk]; rfl
theorem OrdP.ok (hp : PanOk m p) : PanOk m (orP os p) := by
  refine ⟨by rw [h.plen]; exact hp.one, by rw [h.plen]; exact hp.top, fun q hq => ?_, by show (p.rus.map _).length ≤ 16; rw [List.length_map]; exact hp.few, fun q hq => ?_⟩
  · obtain ⟨k, hk, rfl⟩ := List.mem_map.mp hq
    exact hp.it _ (List.mem_of_getElem? (getD_at (its := p.its) (h.mem.mp hk)))
  · obtain ⟨z, hz, rfl⟩ := List.mem_map.mp hq
    obtain ⟨a1, a2, a3, a4, a5⟩ := hp.ru z hz
    have v1 := h.v_lt (i := z.1.toNat) (by omega)
    have v2 := h.v_lt (i := z.2.toNat) (by omega)
    rw [h.plen]
    refine ⟨by show (0 : Int) ≤ ((osV os z.1.toNat : Nat) : Int); omega, by show ((osV os z.1.toNat : Nat) : Int) < _; omega, by show (0 : Int) ≤ ((osV os z.2.toNat : Nat) : Int); omega, by show ((osV os z.2.toNat : Nat) : Int) < _; omega, fun e => a5 ?_⟩
    have e : osV os z.1.toNat = osV os z.2.toNat := by
      have e : ((osV os z.1.toNat : Nat) : Int) = ((osV os z.2.toNat : Nat) : Int) := e
      omega
    have s1 := h.sv (i := z.1.toNat) (by omega)
    have s2 := h.sv (i := z.2.toNat) (by omega)
    rw [e, s2] at s1
    omega
theorem OrdP.med (hp : PanOk m p) (hm : m ≤ 100) (hx : MedX p w x) : MedX (orP os p) w fun k => x (osS os k) := by
  have at2 : ∀ k, k < p.its.length → Pm.wt (orP os p) k = Pm.wt p (osS os k) ∧ Pm.mk (orP os p) k = Pm.mk p (osS os k) := fun k hk => by
    unfold Pm.wt Pm.mk
    rw [h.iat hk]; exact ⟨rfl, rfl⟩
  refine ⟨isMed_perm (s := osS os) (v := osV os) hp (h.ok hp) hm h.plen ?_ (fun k hk => h.vs hk) at2 (fun a c e => ?_) (fun a c e => ?_) hx.is, fun k hk => ?_⟩
  · have := h.map (fun k => k)
    rw [this, List.map_id']
    exact h.perm
  · obtain ⟨z, hz, e⟩ := List.mem_map.mp e
    obtain ⟨a1, a2, a3, a4, a5⟩ := hp.ru z hz
    have e1 : osV os z.1.toNat = a := by have := congrArg Prod.fst e; exact Int.ofNat_inj.mp this
    have e2 : osV os z.2.toNat = c := by have := congrArg Prod.snd e; exact Int.ofNat_inj.mp this
    show (((osS os a : Nat) : Int), ((osS os c : Nat) : Int)) ∈ p.rus
    rw [← e1, ← e2, h.sv (by omega), h.sv (by omega), Int.toNat_of_nonneg a1, Int.toNat_of_nonneg a3]
    exact hz
  · exact List.mem_map.mpr ⟨_, e, rfl⟩
  · have hk : k < p.its.length := by rw [h.plen] at hk; exact hk
    obtain ⟨j, hj, e⟩ := hx.at' _ (h.s_lt hk)
    exact ⟨osV os j, by rw [h.plen]; exact h.v_lt hj, by rw [(at2 _ (h.v_lt hj)).2, h.sv hj]; exact e⟩
end
end Pm
set_option Elab.async false
set_option linter.all false
set_option maxRecDepth 100000
set_option maxHeartbeats 0
set_option autoImplicit false
namespace Pm
open PySem PySem.Spec
open PyProof.Rows hiding St
open L2
def t_size_3de8 (r : Addr) : PSx Nat := (qSeq (qAsg (qCallG (nextS r) (qCons (qVar 0) (qCons (qBin addD (qCall (fn2 min2) (qCons (qVar 1) (qCons (qC (.int 3)) qNil))) (qC (.int 1))) qNil))) 2) (qRet (qBin ixD (qSet (qLst (qCons (qVar 2) (qCons (qBin subD (qVar 1) (qVar 2)) (qCons (qCallG (nextS r) (qCons (qVar 0) (qCons (qBin addD (qVar 1) (qC (.int 1))) qNil))) qNil))))) (qCallG (nextS r) (qCons (qVar 0) (qCons (qC (.int 3)) qNil))))))

def sp_size_3de8 (r : Addr) : Spec Nat := fun ds g R => ∃ m : Int, ds = [.obj r, .int m] ∧ 0 ≤ m ∧ m ≤ 10 ^ 50 ∧ g + 2 < drawLine ∧ ∀ v : Int, 0 ≤ v → v ≤ m → R (.int v) (g + 3)
theorem len_size_3de8 (r : Addr) (ds : List D) (g : Nat) (R : D → Nat → Prop) (h : sp_size_3de8 r ds g R) : ds.length = 2 := by
  obtain ⟨m, rfl, _⟩ := h; rfl
theorem p_size_3de8 (r : Addr) (ds : List D) (g : Nat) (R : D → Nat → Prop) (h : sp_size_3de8 r ds g R) : t_size_3de8 r { nx := fun s => R .non s.g, rt := R } ⟨startL 3 ds, g⟩ := by
  obtain ⟨m, rfl, h0, h1, hg, h⟩ := h
  have big : (10 : Int) ^ 50 + 4 ≤ 10 ^ 60 := by decide
  refine ⟨min m 3 + 1, rfl, by omega, by omega, (by show g < drawLine; omega), fun k k0 k1 => ?_⟩
  refine ⟨m + 1, rfl, by omega, by omega, (by show g + 1 < drawLine; omega), fun j j0 j1 => ?_⟩
  refine ⟨(by show 3 ≤ sizeLine; decide), 3, rfl, by decide, by decide, (by show g + 2 < drawLine; omega), fun i i0 i1 => ?_⟩
  have hi : i = 0 ∨ i = 1 ∨ i = 2 := by omega
  rcases hi with rfl | rfl | rfl
  · exact ⟨_, rfl, h k (by omega) (by omega)⟩
  · exact ⟨_, rfl, h (m - k) (by omega) (by omega)⟩
  · exact ⟨_, rfl, h j (by omega) (by omega)⟩

def t_items_cafd (r : Addr) : PSx Nat := (qSeq (qAsg (qBin ixD (qSet (qLst (qCons (qC (.int 2)) (qCons (qC (.int 9)) (qCons (qBin powD (qC (.int 10)) (qC (.int 9))) qNil))))) (qCallG (nextS r) (qCons (qVar 0) (qCons (qC (.int 3)) qNil)))) 2) (qSeq (qAsg (qBin ixD (qSet (qLst (qCons (qC (.int 1)) (qCons (qC (.int 3)) (qCons (qBin powD (qC (.int 10)) (qC (.int 6))) qNil))))) (qCallG (nextS r) (qCons (qVar 0) (qCons (qC (.int 3)) qNil)))) 3) (qSeq (qAsgOwn (qLst qNil) 4) (qSeq (qFor (qRange1 (qCons (qVar 1) qNil)) (.nm 5) (qDrop (qAppend 4 (qTup (qCons (qBin subD (qCallG (sp_size_3de8 r) (qCons (qVar 0) (qCons (qBin mulD (qC (.int 2)) (qVar 2)) qNil))) (qVar 2)) (qCons (qBin addD (qC (.int 1)) (qCallG (sp_size_3de8 r) (qCons (qVar 0) (qCons (qBin subD (qVar 3) (qC (.int 1))) qNil)))) qNil)))))) (qRet (qCall (fn1 tupleD) (qCons (qVar 4) qNil)))))))

def sp_items_cafd (r : Addr) : Spec Nat := fun ds g R => ∃ n : Nat, ds = [.obj r, .int n] ∧ n ≤ 60 ∧ g + 500 < drawLine ∧ ∀ l : List (Int × Int), l.length = n → (∀ q ∈ l, ItOk q) → R (.tup (l.map itD)) (g + 2 + 6 * n)
theorem len_items_cafd (r : Addr) (ds : List D) (g : Nat) (R : D → Nat → Prop) (h : sp_items_cafd r ds g R) : ds.length = 2 := by
  obtain ⟨m, rfl, _⟩ := h; rfl
theorem p_items_cafd (r : Addr) (ds : List D) (g : Nat) (R : D → Nat → Prop) (h : sp_items_cafd r ds g R) : t_items_cafd r { nx := fun s => R .non s.g, rt := R } ⟨startL 6 ds, g⟩ := by
  obtain ⟨n, rfl, hn, hg, h⟩ := h
  have line : (10000000 : Nat) ≤ sizeLine := line_big
  refine ⟨⟨by decide, by decide, by decide⟩, (by show 3 ≤ sizeLine; decide), 3, rfl, by decide, by decide, (by show g < drawLine; omega), fun k k0 k1 => ?_⟩
  obtain ⟨m, e, m0, m1⟩ := pick3 (lo := 2) (hi := 10 ^ 9) (a := 2) (b := 9) (c := 10 ^ (9 : Int).toNat) k0 k1 (by decide) (by decide) (by decide)
  refine ⟨_, e, ?_⟩
  refine ⟨⟨by decide, by decide, by decide⟩, (by show 3 ≤ sizeLine; decide), 3, rfl, by decide, by decide, (by show g + 1 < drawLine; omega), fun k k0 k1 => ?_⟩
  obtain ⟨w, e2, w0, w1⟩ := pick3 (lo := 1) (hi := 10 ^ 6) (a := 1) (b := 3) (c := 10 ^ (6 : Int).toNat) k0 k1 (by decide) (by decide) (by decide)
  refine ⟨_, e2, (by show 0 ≤ sizeLine; omega), ⟨by omega, by omega⟩, ?_⟩
  refine ⟨fun j s => ∃ l : List (Int × Int), l.length = j ∧ (∀ q ∈ l, ItOk q) ∧ s = ⟨[some (.val (.obj r)), some (.val (.int n)), some (.val (.int m)), some (.val (.int w)), some (.own (l.map itD)), none], g + 2 + 6 * j⟩, ⟨_, Wk.refl _, [], rfl, by simp, rfl⟩, ?_, ?_⟩
  · rintro j d s hd ⟨l, hl, hq, rfl⟩
    have hj : j < n := by
      have := (List.getElem?_eq_some_iff.mp hd).1
      simpa using this
    refine ⟨⟨_, rfl⟩, .inl (.inl ⟨by decide, by decide⟩), 2 * m, rfl, by omega, by omega, (by show g + 2 + 6 * j + 2 < drawLine; omega), fun v v0 v1 => ?_⟩
    refine ⟨w - 1, rfl, by omega, by omega, (by show g + 2 + 6 * j + 3 + 2 < drawLine; omega), fun u u0 u1 => ?_⟩
    refine ⟨(by show 2 ≤ sizeLine; omega), l.map itD, rfl, by simp; omega, ?_⟩
    refine ⟨⟨[some (.val (.obj r)), some (.val (.int n)), some (.val (.int m)), some (.val (.int w)), some (.own ((l ++ [(v - m, 1 + u)]).map itD)), none], g + 2 + 6 * j + 3 + 3⟩, ?_, l ++ [(v - m, 1 + u)], by simp [hl], ?_, rfl⟩
    · rw [List.map_append]
      exact Wk.of ⟨.inr rfl, .inr rfl, .inr rfl, .inr rfl, .inr rfl, .inl rfl, trivial⟩
    · intro q hm
      rcases List.mem_append.mp hm with hm | hm
      · exact hq q hm
      · rw [List.mem_singleton] at hm
        subst hm
        exact ⟨by show -(10 ^ 9) ≤ v - m; omega, by show v - m ≤ 10 ^ 9; omega, by show 1 ≤ 1 + u; omega, by show 1 + u ≤ 10 ^ 6; omega⟩
  · rintro s ⟨l, hl, hq, rfl⟩
    have hl' : l.length = n := by simpa using hl
    have e3 : ((List.range (n : Int).toNat).map fun k => D.int (k : Nat)).length = n := by simp
    show R (.tup (l.map itD)) (g + 2 + 6 * _)
    rw [e3]
    exact h l hl' hq

def t_rules_ccf3 (r : Addr) : PSx Nat := (qSeq (qAsgOwn (qLst qNil) 2) (qSeq (qAsg (qCallG (nextS r) (qCons (qVar 0) (qCons (qC (.int 3)) qNil))) 3) (qSeq (qFor (qRange1 (qCons (qBin mulD (qBin ixD (qSet (qLst (qCons (qC (.int 0)) (qCons (qC (.int 1)) (qCons (qC (.int 2)) (qCons (qC (.int 4)) (qCons (qC (.int 7)) (qCons (qC (.int 16)) qNil)))))))) (qCallG (nextS r) (qCons (qVar 0) (qCons (qC (.int 6)) qNil)))) (qCall (fn1 intD) (qCons (qBin gtD (qVar 1) (qC (.int 1))) qNil))) qNil)) (.nm 4) (qSeq (qAsg (qCallG (nextS r) (qCons (qVar 0) (qCons (qVar 1) qNil))) 5) (qSeq (qAsg (qBin modD (qBin addD (qBin addD (qVar 5) (qC (.int 1))) (qCallG (nextS r) (qCons (qVar 0) (qCons (qBin subD (qVar 1) (qC (.int 1))) qNil)))) (qVar 1)) 6) (qDrop (qAppend 2 (qIfE (qB (qBin eqD (qVar 3) (qC (.int 0)))) (qTup (qCons (qVar 5) (qCons (qVar 6) qNil))) (qTup (qCons (qCall (fn2 min2) (qCons (qVar 5) (qCons (qVar 6) qNil))) (qCons (qCall (fn2 max2) (qCons (qVar 5) (qCons (qVar 6) qNil))) qNil))))))))) (qRet (qCall (fn1 tupleD) (qCons (qVar 2) qNil))))))

def sp_rules_ccf3 (r : Addr) : Spec Nat := fun ds g R => ∃ n : Nat, ds = [.obj r, .int n] ∧ 1 ≤ n ∧ n ≤ 60 ∧ g + 500 < drawLine ∧ ∀ (l : List (Int × Int)) (g' : Nat), l.length ≤ 16 → (∀ q ∈ l, RuOk n q) → g ≤ g' → g' ≤ g + 34 → R (.tup (l.map itD)) g'
theorem len_rules_ccf3 (r : Addr) (ds : List D) (g : Nat) (R : D → Nat → Prop) (h : sp_rules_ccf3 r ds g R) : ds.length = 2 := by
  obtain ⟨m, rfl, _⟩ := h; rfl
theorem pick6 {k : Int} (k0 : 0 ≤ k) (k1 : k < 6) : ∃ m : Int, idx [D.int 0, .int 1, .int 2, .int 4, .int 7, .int 16] k = some (.int m) ∧ 0 ≤ m ∧ m ≤ 16 := by
  have hi : k = 0 ∨ k = 1 ∨ k = 2 ∨ k = 3 ∨ k = 4 ∨ k = 5 := by omega
  rcases hi with rfl | rfl | rfl | rfl | rfl | rfl
  · exact ⟨0, rfl, by decide, by decide⟩
  · exact ⟨1, rfl, by decide, by decide⟩
  · exact ⟨2, rfl, by decide, by decide⟩
  · exact ⟨4, rfl, by decide, by decide⟩
  · exact ⟨7, rfl, by decide, by decide⟩
  · exact ⟨16, rfl, by decide, by decide⟩
theorem far_mod {n a b : Int} (a0 : 0 ≤ a) (a1 : a < n) (b0 : 0 ≤ b) (b1 : b < n - 1) : a ≠ (a + 1 + b) % n ∧ 0 ≤ (a + 1 + b) % n ∧ (a + 1 + b) % n < n := by
  have hn : 0 < n := by omega
  refine ⟨?_, Int.emod_nonneg _ (by omega), Int.emod_lt_of_pos _ hn⟩
  by_cases h : a + 1 + b < n
  · rw [Int.emod_eq_of_lt (by omega) h]; omega
  · have e : (a + 1 + b) % n = a + 1 + b - n := by
      rw [← Int.sub_emod_right]
      exact Int.emod_eq_of_lt (by omega) (by omega)
    rw [e]; omega
theorem mm {n : Nat} {a : Int} (z : Int) (a0 : 0 ≤ a) (a1 : a < n) (f2 : 0 ≤ z) (f3 : z < n) (f1 : a ≠ z) : RuOk n (min a z, max a z) :=
  ⟨by show 0 ≤ min a z; omega, by show min a z < n; omega, by show 0 ≤ max a z; omega, by show max a z < n; omega, by show min a z ≠ max a z; omega⟩
theorem p_rules_ccf3 (r : Addr) (ds : List D) (g : Nat) (R : D → Nat → Prop) (h : sp_rules_ccf3 r ds g R) : t_rules_ccf3 r { nx := fun s => R .non s.g, rt := R } ⟨startL 7 ds, g⟩ := by
  obtain ⟨n, rfl, hn0, hn, hg, h⟩ := h
  have line : (10000000 : Nat) ≤ sizeLine := line_big
  refine ⟨(by show 0 ≤ sizeLine; omega), 3, rfl, by decide, by decide, (by show g < drawLine; omega), fun way w0 w1 => ?_⟩
  refine ⟨(by show 6 ≤ sizeLine; omega), 6, rfl, by decide, by decide, (by show g + 1 < drawLine; omega), fun k k0 k1 => ?_⟩
  obtain ⟨m, e, m0, m1⟩ := pick6 k0 k1
  refine ⟨_, e, .inl (.inr ⟨by split <;> decide, by split <;> decide⟩), ?_⟩
  generalize hc : m * (if decide ((1 : Int) < n) = true then 1 else 0) = c
  have c0 : 0 ≤ c ∧ c ≤ 16 ∧ (0 < c → 1 < n) := by
    by_cases h1 : (1 : Int) < n
    · rw [decide_eq_true h1] at hc; simp at hc; omega
    · rw [decide_eq_false h1] at hc; simp at hc; omega
  refine ⟨⟨by omega, by omega⟩, ?_⟩
  refine ⟨fun j s => ∃ l : List (Int × Int), l.length = j ∧ (∀ q ∈ l, RuOk n q) ∧ s = ⟨[some (.val (.obj r)), some (.val (.int n)), some (.own (l.map itD)), some (.val (.int way)), none, none, none], g + 2 + 2 * j⟩, ⟨_, Wk.refl _, [], rfl, by simp, rfl⟩, ?_, ?_⟩
  · rintro j d s hd ⟨l, hl, hq, rfl⟩
    have hj : j < c.toNat := by
      have := (List.getElem?_eq_some_iff.mp hd).1
      simpa using this
    have n1 : 1 < n := c0.2.2 (by omega)
    refine ⟨n, rfl, by omega, by omega, (by show g + 2 + 2 * j < drawLine; omega), fun a a0 a1 => ?_⟩
    refine ⟨(n : Int) - 1, rfl, by omega, by omega, (by show g + 2 + 2 * j + 1 < drawLine; omega), fun b b0 b1 => ?_⟩
    refine ⟨by omega, ⟨_, rfl⟩, ⟨rfl, rfl, Nat.zero_le 64, Nat.zero_le 64⟩, ?_⟩
    obtain ⟨f1, f2, f3⟩ := far_mod a0 a1 b0 b1
    have fin : ∀ q : Int × Int, RuOk n q → ∃ s'' : S Nat, Wk (⟨[some (.val (.obj r)), some (.val (.int n)), some (.own (l.map itD ++ [itD q])), some (.val (.int way)), some (.val d), some (.val (.int a)), some (.val (.int ((a + 1 + b) % (n : Int))))], g + 2 + 2 * j + 1 + 1⟩ : S Nat) s'' ∧ ∃ l : List (Int × Int), l.length = j + 1 ∧ (∀ q ∈ l, RuOk n q) ∧ s'' = ⟨[some (.val (.obj r)), some (.val (.int n)), some (.own (l.map itD)), some (.val (.int way)), none, none, none], g + 2 + 2 * (j + 1)⟩ := fun q hk => by
      refine ⟨⟨[some (.val (.obj r)), some (.val (.int n)), some (.own ((l ++ [q]).map itD)), some (.val (.int way)), none, none, none], g + 2 + 2 * j + 1 + 1⟩, ?_, l ++ [q], by simp [hl], ?_, rfl⟩
      · rw [List.map_append]
        exact Wk.of ⟨.inr rfl, .inr rfl, .inr rfl, .inr rfl, .inl rfl, .inl rfl, .inl rfl, trivial⟩
      · intro p hm
        rcases List.mem_append.mp hm with hm | hm
        · exact hq p hm
        · rw [List.mem_singleton] at hm
          rw [hm]; exact hk
    refine ⟨fun _ => ?_, fun _ => ?_⟩
    · exact ⟨(by show 2 ≤ sizeLine; omega), l.map itD, rfl, by simp; omega, fin (a, (a + 1 + b) % (n : Int)) ⟨a0, a1, f2, f3, f1⟩⟩
    · exact ⟨(by show 2 ≤ sizeLine; omega), l.map itD, rfl, by simp; omega, fin (min a ((a + 1 + b) % (n : Int)), max a ((a + 1 + b) % (n : Int))) (mm _ a0 a1 f2 f3 f1)⟩
  · rintro s ⟨l, hl, hq, rfl⟩
    have hl' : l.length = c.toNat := by simpa using hl
    have e3 : ((List.range c.toNat).map fun k => D.int (k : Nat)).length = c.toNat := by simp
    show R (.tup (l.map itD)) (g + 2 + 2 * _)
    rw [e3]
    exact h l _ (by omega) hq (by omega) (by omega)

def t_panel_3836 (r : Addr) : PSx Nat := (qSeq (qAsg (qBin addD (qC (.int 1)) (qCallG (nextS r) (qCons (qVar 0) (qCons (qVar 1) qNil)))) 2) (qRet (qTup (qCons (qCallG (sp_items_cafd r) (qCons (qVar 0) (qCons (qVar 2) qNil))) (qCons (qCallG (sp_rules_ccf3 r) (qCons (qVar 0) (qCons (qVar 2) qNil))) qNil)))))

def sp_panel_3836 (r : Addr) : Spec Nat := fun ds g R => ∃ n : Nat, ds = [.obj r, .int n] ∧ 1 ≤ n ∧ n ≤ 60 ∧ g + 1000 < drawLine ∧ ∀ (p : Pan) (g' : Nat), PanOk n p → g ≤ g' → g' ≤ g + 400 → R (panD p) g'
theorem len_panel_3836 (r : Addr) (ds : List D) (g : Nat) (R : D → Nat → Prop) (h : sp_panel_3836 r ds g R) : ds.length = 2 := by
  obtain ⟨m, rfl, _⟩ := h; rfl
theorem p_panel_3836 (r : Addr) (ds : List D) (g : Nat) (R : D → Nat → Prop) (h : sp_panel_3836 r ds g R) : t_panel_3836 r { nx := fun s => R .non s.g, rt := R } ⟨startL 3 ds, g⟩ := by
  obtain ⟨n, rfl, hn0, hn, hg, h⟩ := h
  refine ⟨n, rfl, by omega, by omega, (by show g < drawLine; omega), fun k k0 k1 => ?_⟩
  have e : (1 : Int) + k = ((1 + k.toNat : Nat) : Int) := by omega
  refine ⟨1 + k.toNat, ?_, by omega, (by show g + 1 + 500 < drawLine; omega), fun its h1 h2 => ?_⟩
  · rw [← e]
  refine ⟨1 + k.toNat, ?_, by omega, by omega, (by show g + 1 + 2 + 6 * (1 + k.toNat) + 500 < drawLine; omega), fun rus g' h3 h4 h5 h6 => ?_⟩
  · rw [← e]
  have h5' : g + 1 + 2 + 6 * (1 + k.toNat) ≤ g' := h5
  have h6' : g' ≤ g + 1 + 2 + 6 * (1 + k.toNat) + 34 := h6
  exact ⟨(by show 2 ≤ sizeLine; decide), h ⟨its, rus⟩ g' ⟨by show 1 ≤ its.length; omega, by show its.length ≤ n; omega, h2, h3, by show ∀ q ∈ rus, RuOk its.length q; rw [h1]; exact h4⟩ (by omega) (by omega)⟩

def t_all_groups_7d0b : PSx Unit := (qSeq (qAsg (qSet (qLst (qCons (qTup qNil) qNil))) 1) (qSeq (qFor (qItems (qVar 0)) (.nm 2) (qAsg (qBin addD (qVar 1) (qSet (qLc (qItems (qVar 1)) (.nm 3) [3] qYes (qBin addD (qVar 3) (qTup (qCons (qVar 2) qNil)))))) 1)) (qRet (qSet (qCallF sortedFT (qCons (qVar 1) qNil))))))

def sp_all_groups_7d0b : Spec0 := fun ds R => ∃ l : List Nat, ds = [.lst (l.map natD)] ∧ l.length ≤ 10 ∧ l.Pairwise (· < ·) ∧ R (.lst ((grpS l).map grD))
theorem len_all_groups_7d0b (ds : List D) (R : DK) (h : sp_all_groups_7d0b ds R) : ds.length = 1 := by
  obtain ⟨_, rfl, _⟩ := h; rfl
def growG (found : List (List Nat)) (x : Nat) : List (List Nat) := found ++ found.map (· ++ [x])
theorem grow_perm : ∀ (l : List Nat) (x : Nat) {f : List (List Nat)}, f.Perm (grpS l) → (growG f x).Perm (grpS (l ++ [x])) := fun l x f h =>
  (h.append (h.map _)).trans (grpS_perm_snoc x l).symm
theorem tiD_gr (gs : List Nat) : tiD (natsI gs) = grD gs := by
  show D.tup ((natsI gs).map D.int) = D.tup (gs.map natD)
  unfold natsI; rw [List.map_map]; rfl
theorem p_all_groups_7d0b (ds : List D) (R : DK) (h : sp_all_groups_7d0b ds R) : t_all_groups_7d0b { nx := fun _ => R .non, rt := fun d _ => R d } ⟨startL 4 ds, ()⟩ := by
  obtain ⟨l, rfl, hl, hs, h⟩ := h
  have line : (10000000 : Nat) ≤ sizeLine := line_big
  refine ⟨(by show 0 ≤ sizeLine; omega), (by show 1 ≤ sizeLine; omega), ?_⟩
  refine ⟨fun j s => ∃ f : List (List Nat), ([] :: f).Perm (grpS (l.take j)) ∧ s = ⟨[some (.val (.lst (l.map natD))), some (.val (.lst (([] :: f).map grD))), none, none], ()⟩, ⟨_, Wk.refl _, [], ?_, rfl⟩, ?_, ?_⟩
  · exact List.Perm.refl _
  · rintro j d s hd ⟨f, hf, rfl⟩
    rw [List.getElem?_map] at hd
    obtain ⟨x, hx, rfl⟩ := Option.map_eq_some_iff.mp hd
    have jl := (List.getElem?_eq_some_iff.mp hx).1
    have et : l.take (j + 1) = l.take j ++ [x] := by rw [List.take_add_one, hx]; rfl
    have gl : ([] :: f : List (List Nat)).length ≤ 2 ^ 10 := by
      rw [hf.length_eq, grpS_length]
      exact Nat.pow_le_pow_right (by decide) (by rw [List.length_take]; omega)
    have ga : ∀ g ∈ ([] :: f : List (List Nat)), g.length ≤ 10 := fun g hg => by
      have := (grpS_sub (hf.mem_iff.mp hg)).length_le
      rw [List.length_take] at this; omega
    refine lc_mapl ([] :: f) grD (fun g => grD (g ++ [x])) (by omega) (fun g hg => ⟨_, rfl, fun T h => ⟨(by show 1 ≤ sizeLine; omega), (by show (g.map natD).length + 1 ≤ sizeLine; have := ga g hg; rw [List.length_map]; omega), ?_⟩⟩) ?_ (by decide) (by rfl)
    · have e : grD (g ++ [x]) = .tup (g.map natD ++ [natD x]) := by show D.tup ((g ++ [x]).map natD) = _; rw [List.map_append]; rfl
      rw [e] at h; exact h
    · refine ⟨(by show (([] :: f : List (List Nat)).map grD).length + (([] :: f : List (List Nat)).map fun g => grD (g ++ [x])).length ≤ sizeLine; rw [List.length_map, List.length_map]; omega), ?_⟩
      have eg : growG ([] :: f) x = [] :: (f ++ ([] :: f).map (· ++ [x])) := rfl
      refine ⟨_, ?_, f ++ ([] :: f).map (· ++ [x]), ?_, rfl⟩
      · have e : ([] :: f).map grD ++ ([] :: f).map (fun g => grD (g ++ [x])) = ([] :: (f ++ ([] :: f).map (· ++ [x]))).map grD := by
          rw [← eg]; unfold growG; rw [List.map_append, List.map_map]; rfl
        rw [← e]
        exact Wk.of (by repeat' first | exact trivial | exact .inr rfl | exact .inl rfl | refine ⟨?_, ?_⟩)
      · rw [← eg, et]; exact grow_perm _ _ hf
  · rintro s ⟨f, hf, rfl⟩
    rw [List.length_map, List.take_of_length_le (Nat.le_refl _)] at hf
    refine ⟨f.map natsI, ?_, fun out hp hw => ?_⟩
    · have e : ([] :: f.map natsI).map tiD = ([] :: f).map grD := by
        have : ([] :: f.map natsI) = ([] :: f).map natsI := rfl
        rw [this, List.map_map]
        exact List.map_congr_left fun g _ => tiD_gr g
      rw [e]
    · have hq : out.Perm ((grpS l).map natsI) := by
        have e : ([] :: f.map natsI) = ([] :: f).map natsI := rfl
        rw [e] at hp
        exact hp.trans (hf.map _)
      have e := sorted_eq (fun a b h1 h2 => lex_eq h2 h1) hq hw (grpS_sorted hs)
      rw [e, List.map_map]
      have e2 : (grpS l).map (tiD ∘ natsI) = (grpS l).map grD := List.map_congr_left fun g _ => tiD_gr g
      rw [e2]; exact h

def t_is_integer_8a5f : PSx Unit := (qRet (qAndV (qIsi "int" (qVar 0)) (qNotV (qIsi "bool" (qVar 0)))))

def sp_is_integer_8a5f : Spec0 := fun ds R => ∃ d : D, ds = [d] ∧ (∀ p, d ≠ .obj p) ∧ R (.bl (isI d))
theorem len_is_integer_8a5f (ds : List D) (R : DK) (h : sp_is_integer_8a5f ds R) : ds.length = 1 := by
  obtain ⟨d, rfl, _⟩ := h; rfl
theorem p_is_integer_8a5f (ds : List D) (R : DK) (h : sp_is_integer_8a5f ds R) : t_is_integer_8a5f { nx := fun _ => R .non, rt := fun d _ => R d } ⟨startL 1 ds, ()⟩ := by
  obtain ⟨d, rfl, ho, h⟩ := h
  refine ⟨ho, ⟨fun hc => ⟨ho, ?_⟩, fun hc => ?_⟩⟩
  · cases d <;> first | exact h | cases hc
  · cases d <;> first | exact h | cases hc

def t_is_within_3133 : PSx Unit := (qRet (qAndV (qCallP (sp_is_integer_8a5f) (qCons (qVar 0) qNil)) (qChain leD leD (qVar 1) (qVar 0) (qVar 2))))

def sp_is_within_3133 : Spec0 := fun ds R => ∃ (d : D) (lo hi : Int), ds = [d, .int lo, .int hi] ∧ (∀ p, d ≠ .obj p) ∧ R (.bl (inI lo hi d))
theorem len_is_within_3133 (ds : List D) (R : DK) (h : sp_is_within_3133 ds R) : ds.length = 3 := by
  obtain ⟨d, _, _, rfl, _⟩ := h; rfl
theorem p_is_within_3133 (ds : List D) (R : DK) (h : sp_is_within_3133 ds R) : t_is_within_3133 { nx := fun _ => R .non, rt := fun d _ => R d } ⟨startL 3 ds, ()⟩ := by
  obtain ⟨d, lo, hi, rfl, ho, h⟩ := h
  refine ⟨d, rfl, ho, ⟨fun hc => ?_, fun hc => ?_⟩⟩
  · cases d with
    | int i =>
      by_cases h1 : lo ≤ i
      · show match D.bl (decide (lo ≤ i)) with | .bl true => _ | .bl false => _ | _ => False
        have e : inI lo hi (.int i) = decide (i ≤ hi) := by simp [inI, h1]
        rw [e] at h
        rw [decide_eq_true h1]; exact h
      · show match D.bl (decide (lo ≤ i)) with | .bl true => _ | .bl false => _ | _ => False
        have e : inI lo hi (.int i) = false := by simp [inI, h1]
        rw [e] at h
        rw [decide_eq_false h1]; exact h
    | _ => cases hc
  · cases d <;> first | exact h | cases hc

def t_is_group_a50b : PSx Unit := (qSeq (qIf (qOr (qNot (qB (qIsi "tuple" (qVar 1)))) (qNot (qB (qCall (fn1 allD) (qCons (qSet (qLc (qItems (qVar 1)) (.nm 2) [2] qYes (qCallP (sp_is_within_3133) (qCons (qVar 2) (qCons (qC (.int 0)) (qCons (qBin subD (qCall (fn1 lenD) (qCons (qBin ixD (qVar 0) (qC (.int 0))) qNil)) (qC (.int 1))) qNil)))))) qNil))))) (qRet (qC (.bl false))) qNext) (qRet (qCall (fn1 allD) (qCons (qSet (qLc (qZip (qCons (qVar 1) (qCons (qSl (qVar 1) (qPart (qC (.int 1))) qNoPart) qNil))) (.tp [(.nm 3), (.nm 4)]) [3, 4] qYes (qBin ltD (qVar 3) (qVar 4)))) qNil))))

def sp_is_group_a50b : Spec0 := fun ds R => ∃ (its : List (Int × Int)) (rd d : D), ds = [pD its rd, d] ∧ gOk d ∧ R (.bl (isG its.length d))
theorem len_is_group_a50b (ds : List D) (R : DK) (h : sp_is_group_a50b ds R) : ds.length = 2 := by
  obtain ⟨_, _, _, rfl, _⟩ := h; rfl
theorem p_is_group_a50b (ds : List D) (R : DK) (h : sp_is_group_a50b ds R) : t_is_group_a50b { nx := fun _ => R .non, rt := fun d _ => R d } ⟨startL 5 ds, ()⟩ := by
  obtain ⟨its, rd, d, rfl, ho, h⟩ := h
  have line : (10000000 : Nat) ≤ sizeLine := line_big
  have ml : (its.map itD).length = its.length := by simp
  refine ⟨ho.1, ⟨fun hc => ?_, fun hc => ?_⟩⟩
  · -- not a tuple
    have hc : (!isTy "tuple" d) = true := hc
    refine ⟨fun _ => ?_, fun z => by cases z⟩
    cases d <;> first | exact h | (simp [isTy] at hc)
  · have hc : (!isTy "tuple" d) = false := hc
    obtain ⟨xs, rfl⟩ : ∃ xs, d = .tup xs := by cases d <;> first | exact ⟨_, rfl⟩ | (simp [isTy] at hc)
    obtain ⟨xl, xo⟩ := ho.2 xs rfl
    refine lc_all (fun x => D.bl (inI 0 ((its.length : Int) - 1) x)) (by omega) (fun x hx => ⟨_, rfl, fun T h => ⟨_, rfl, x, 0, (its.length : Int) - 1, ?_, xo x hx, h⟩⟩) ?_ (by decide) (by rfl)
    · rw [← ml]
    refine ⟨xs.map (inI 0 ((its.length : Int) - 1)), ?_, ?_⟩
    · have : (xs.map fun x => D.bl (inI 0 ((its.length : Int) - 1) x)) = (xs.map (inI 0 ((its.length : Int) - 1))).map D.bl := by rw [List.map_map]; rfl
      rw [this]; exact asBls_map _
    rw [List.all_map]
    have ea : (xs.all (id ∘ inI 0 ((its.length : Int) - 1))) = xs.all (inI 0 ((its.length : Int) - 1)) := rfl
    rw [ea]
    refine ⟨fun hn => ?_, fun hn => ?_⟩
    · have hn : (!(xs.all (inI 0 ((its.length : Int) - 1)))) = true := hn
      have hf : xs.all (inI 0 ((its.length : Int) - 1)) = false := by simpa using hn
      have e : isG its.length (.tup xs) = false := by
        show (match asInts xs with | some is => (is.all fun i => decide (0 ≤ i) && decide (i ≤ (its.length : Int) - 1)) && ascI is | none => false) = false
        cases q : asInts xs with
        | none => rfl
        | some is =>
          rw [allI_not q] at hf
          show ((is.all fun i => decide (0 ≤ i) && decide (i ≤ (its.length : Int) - 1)) && ascI is) = false
          rw [hf]; rfl
      rw [e] at h
      exact h
    · have hn : (!(xs.all (inI 0 ((its.length : Int) - 1)))) = false := hn
      have ht : xs.all (inI 0 ((its.length : Int) - 1)) = true := by simpa using hn
      obtain ⟨is, q, hb⟩ := allI_ints ht
      have e : isG its.length (.tup xs) = ascI is := by
        show (match asInts xs with | some is => (is.all fun i => decide (0 ≤ i) && decide (i ≤ (its.length : Int) - 1)) && ascI is | none => false) = ascI is
        rw [q]
        show ((is.all fun i => decide (0 ≤ i) && decide (i ≤ (its.length : Int) - 1)) && ascI is) = ascI is
        rw [hb]; rfl
      rw [e] at h
      have e0 := asInts_eq q
      subst e0
      have c1 : cut (is.map D.int) (some 1) none = (is.drop 1).map D.int := by
        have := cut_from (is.map D.int) 1
        rw [← List.map_drop] at this
        exact this
      have il : is.length ≤ 100000 := by simpa using xl
      dsimp only [qNext]
      show lcB _ _ _ _ _ (zipD (is.map D.int) (cut (is.map D.int) (some 1) none)) _
      rw [c1, zipD_map]
      refine lc_mapl (is.zip (is.drop 1)) (fun p => D.tup [.int p.1, .int p.2]) (fun p => D.bl (decide (p.1 < p.2))) (by rw [List.length_zip]; omega) (fun p hp => ⟨_, rfl, fun T h => h⟩) ?_ (by decide) (by rfl)
      refine ⟨(is.zip (is.drop 1)).map (fun p => decide (p.1 < p.2)), ?_, ?_⟩
      · have : ((is.zip (is.drop 1)).map fun p => D.bl (decide (p.1 < p.2))) = ((is.zip (is.drop 1)).map fun p => decide (p.1 < p.2)).map D.bl := by rw [List.map_map]; rfl
        rw [this]; exact asBls_map _
      rw [List.all_map]; exact h

def t_is_upward_11cd : PSx Unit := (qSeq (qIf (qNot (qB (qCallP (sp_is_group_a50b) (qCons (qVar 0) (qCons (qVar 1) qNil))))) (qRet (qC (.bl false))) qNext) (qRet (qCall (fn1 allD) (qCons (qSet (qLc (qItems (qBin ixD (qVar 0) (qC (.int 1)))) (.tp [(.nm 2), (.nm 3)]) [2, 3] qYes (qOrV (qBin inD (qVar 3) (qVar 1)) (qBin notInD (qVar 2) (qVar 1))))) qNil))))

def sp_is_upward_11cd : Spec0 := fun ds R => ∃ (m : Nat) (p : Pan) (d : D), ds = [panD p, d] ∧ m ≤ 100 ∧ PanOk m p ∧ gOk d ∧ (isG p.its.length d = false → R (.bl false)) ∧ (∀ gs, GrOk p.its.length gs → d = grD gs → R (.bl (upB p gs)))
theorem len_is_upward_11cd (ds : List D) (R : DK) (h : sp_is_upward_11cd ds R) : ds.length = 2 := by
  obtain ⟨_, _, _, rfl, _⟩ := h; rfl
theorem p_is_upward_11cd (ds : List D) (R : DK) (h : sp_is_upward_11cd ds R) : t_is_upward_11cd { nx := fun _ => R .non, rt := fun d _ => R d } ⟨startL 4 ds, ()⟩ := by
  obtain ⟨m, p, d, rfl, hm, hp, ho, h0, h1⟩ := h
  have hf := hp.few
  refine ⟨p.its, _, d, rfl, ho, ⟨fun hc => ?_, fun hc => ?_⟩⟩
  · have hc : (!isG p.its.length d) = true := hc
    exact h0 (by simpa using hc)
  · have hc : (!isG p.its.length d) = false := hc
    obtain ⟨gs, rfl, hg⟩ := isG_ex (show isG p.its.length d = true by simpa using hc)
    have h := h1 gs hg rfl
    dsimp only [qNext]
    refine ⟨_, rfl, ?_⟩
    refine lc_mapl p.rus itD (fun q => D.bl (upR gs q)) (by omega) (fun q hq => ?_) ?_ (by decide) (by rfl)
    · obtain ⟨a, b, rfl, ha, hb, _⟩ := rule_nats (hp.ru q hq)
      refine ⟨_, rfl, fun T h => ⟨⟨rfl, nats_pln gs, Nat.zero_le 60⟩, ?_⟩⟩
      have e1 := isin_nats (gs := gs) (k := b)
      have e2 := notin_nats (gs := gs) (k := a)
      refine ⟨fun hb => ?_, fun hb => ⟨⟨rfl, nats_pln gs, Nat.zero_le 60⟩, ?_⟩⟩
      · have hb : (false ^^ (gs.map natD).any fun y => D.eqv y (.int b)) = true := hb
        rw [e1] at hb
        have e : upR gs ((a : Int), (b : Int)) = true := by simp only [upR, Int.toNat_natCast, hb, Bool.true_or]
        rw [e] at h; exact h
      · have hb : (false ^^ (gs.map natD).any fun y => D.eqv y (.int b)) = false := hb
        rw [e1] at hb
        have e : upR gs ((a : Int), (b : Int)) = (true ^^ (gs.map natD).any fun y => D.eqv y (.int a)) := by rw [e2]; simp only [upR, Int.toNat_natCast, hb, Bool.false_or]
        rw [e] at h; exact h
    · refine ⟨p.rus.map (upR gs), ?_, ?_⟩
      · have : (p.rus.map fun q => D.bl (upR gs q)) = (p.rus.map (upR gs)).map D.bl := by rw [List.map_map]; rfl
        rw [this]; exact asBls_map _
      rw [List.all_map]; exact h

def t_upward_sets_3622 : PSx Unit := (qRet (qCall (fn1 tupleD) (qCons (qSet (qLc (qItems (qCallP (sp_all_groups_7d0b) (qCons (qSet (qLstRg1 (qCall (fn1 lenD) (qCons (qBin ixD (qVar 0) (qC (.int 0))) qNil)))) qNil))) (.nm 1) [1] (qB (qCallP (sp_is_upward_11cd) (qCons (qVar 0) (qCons (qVar 1) qNil)))) (qVar 1))) qNil)))

def sp_upward_sets_3622 : Spec0 := fun ds R => ∃ (m : Nat) (p : Pan), ds = [panD p] ∧ m ≤ 10 ∧ PanOk m p ∧ R (.tup ((upG p).map grD))
theorem len_upward_sets_3622 (ds : List D) (R : DK) (h : sp_upward_sets_3622 ds R) : ds.length = 1 := by
  obtain ⟨_, _, rfl, _⟩ := h; rfl
theorem p_upward_sets_3622 (ds : List D) (R : DK) (h : sp_upward_sets_3622 ds R) : t_upward_sets_3622 { nx := fun _ => R .non, rt := fun d _ => R d } ⟨startL 2 ds, ()⟩ := by
  obtain ⟨m, p, rfl, hm, hp, h⟩ := h
  have ht := hp.top
  have ml : (p.its.map itD).length = p.its.length := by simp
  refine ⟨_, rfl, ⟨by rw [ml]; omega, by rw [ml]; omega⟩, List.range p.its.length, ?_, by rw [List.length_range]; omega, List.pairwise_lt_range, ?_⟩
  · rw [ml]
    have : rgD 0 (p.its.length : Int) = (List.range p.its.length).map natD := by
      unfold rgD
      have e : ((p.its.length : Int) - 0).toNat = p.its.length := by omega
      rw [e]
      exact List.map_congr_left fun k _ => by simp [natD]
    rw [this]
  · have gl : (grpS (List.range p.its.length)).length ≤ 2 ^ 10 := by
      rw [grpS_length, List.length_range]
      exact Nat.pow_le_pow_right (by decide) (by omega)
    refine lc_list (grpS (List.range p.its.length)) grD (upB p) grD (by omega) (fun g hg => ?_) h (by decide) (by rfl)
    have go := GrOk.of_sub (grpS_sub hg)
    have gl := (grpS_sub hg).length_le
    rw [List.length_range] at gl
    refine ⟨_, rfl, fun T h => ⟨m, p, grD g, rfl, by omega, hp, gOk_gr (by omega), fun hc => ?_, fun gs hgs e => ?_⟩, fun _ T h => h⟩
    · rw [isG_gr go] at hc; cases hc
    · have : g = gs := by
        have e : D.tup (g.map natD) = D.tup (gs.map natD) := e
        injection e with e
        have inj : ∀ {a b : List Nat}, a.map natD = b.map natD → a = b := fun {a} => by
          induction a with
          | nil => intro b e; cases b with | nil => rfl | cons => cases e
          | cons x a ih =>
            intro b e
            cases b with
            | nil => cases e
            | cons y b =>
              simp only [List.map_cons, List.cons.injEq, natD, D.int.injEq] at e
              rw [ih e.2, show x = y by omega]
        exact inj e
      rw [← this]; exact h

def t_gain_of_56ca : PSx Unit := (qSeq (qAsg (qSet (qLc (qItems (qVar 1)) (.nm 4) [4] qYes (qBin ixD (qBin ixD (qVar 0) (qC (.int 0))) (qVar 4)))) 3) (qRet (qCall (fn1 sumD) (qCons (qSet (qLc (qItems (qVar 3)) (.tp [(.nm 5), (.nm 6)]) [5, 6] qYes (qIfE (qB (qBin gtD (qVar 5) (qVar 2))) (qVar 6) (qBin subD (qC (.int 0)) (qVar 6))))) qNil))))

def sp_gain_of_56ca : Spec0 := fun ds R => ∃ (p : Pan) (gs : List Nat) (t : Int), ds = [panD p, grD gs, .int t] ∧ gs.length ≤ 1000 ∧ (∀ i ∈ gs, i < p.its.length) ∧ R (.int (gn p t gs))
theorem len_gain_of_56ca (ds : List D) (R : DK) (h : sp_gain_of_56ca ds R) : ds.length = 3 := by
  obtain ⟨a, b, c, rfl, _⟩ := h; rfl
theorem p_gain_of_56ca (ds : List D) (R : DK) (h : sp_gain_of_56ca ds R) : t_gain_of_56ca { nx := fun _ => R .non, rt := fun d _ => R d } ⟨startL 7 ds, ()⟩ := by
  obtain ⟨p, gs, t, rfl, hn, hi, h⟩ := h
  have sl : (selI p.its gs).length = gs.length := by simp [selI]
  refine lc_mapl gs natD (fun i => itD (p.its.getD i (0, 1))) (by omega) (fun i hi' => ⟨_, rfl, fun T h => ⟨_, rfl, _, idx_it (hi i hi'), h⟩⟩) ?_ (by decide) (by rfl)
  have e1 : (gs.map fun i => itD (p.its.getD i (0, 1))) = (selI p.its gs).map itD := by unfold selI; rw [List.map_map]; rfl
  rw [e1]
  refine lc_mapl (selI p.its gs) itD (fun q => D.int (if t < q.1 then q.2 else -q.2)) (by omega) (fun q hq => ?_) ?_ (by decide) (by rfl)
  · refine ⟨_, rfl, fun T h => ⟨fun c => ?_, fun c => ?_⟩⟩
    · rw [if_pos (of_decide_eq_true c)] at h; exact h
    · rw [if_neg (of_decide_eq_false c)] at h
      have e : (0 : Int) - q.2 = -q.2 := by omega
      show T (.int (0 - q.2)) _
      rw [e]; exact h
  have e2 : ((selI p.its gs).map fun q => D.int (if t < q.1 then q.2 else -q.2)) = ((selI p.its gs).map fun q => if t < q.1 then q.2 else -q.2).map D.int := by rw [List.map_map]; rfl
  refine ⟨_, by rw [e2]; exact asInts_map _, ?_⟩
  rw [gn_sum hi] at h
  have e3 : ((selI p.its gs).map fun q => if t < q.1 then q.2 else -q.2) = gs.map fun i => if t < mk p i then wt p i else -wt p i := by unfold selI; rw [List.map_map]; rfl
  rw [e3]; exact h

def t_greatest_groups_403e : PSx Unit := (qSeq (qAsg (qSet (qLc (qItems (qVar 1)) (.nm 6) [6] qYes (qCallP (sp_gain_of_56ca) (qCons (qVar 0) (qCons (qVar 6) (qCons (qVar 2) qNil)))))) 3) (qSeq (qAsg (qCall (fn1 maxL) (qCons (qVar 3) qNil)) 4) (qSeq (qAsg (qSet (qLc (qZip (qCons (qVar 1) (qCons (qVar 3) qNil))) (.tp [(.nm 6), (.nm 7)]) [6, 7] (qB (qBin eqD (qVar 7) (qVar 4))) (qVar 6))) 5) (qRet (qTup (qCons (qMinLen false (qVar 5)) (qCons (qMinLen true (qVar 5)) qNil)))))))

def sp_greatest_groups_403e : Spec0 := fun ds R => ∃ (m : Nat) (p : Pan) (t : Int), ds = [panD p, .tup ((upG p).map grD), .int t] ∧ m ≤ 10 ∧ PanOk m p ∧ R (.tup [grD (loG p t), grD (hiG p t)])
theorem len_greatest_groups_403e (ds : List D) (R : DK) (h : sp_greatest_groups_403e ds R) : ds.length = 3 := by
  obtain ⟨a, b, c, rfl, _⟩ := h; rfl
theorem p_greatest_groups_403e (ds : List D) (R : DK) (h : sp_greatest_groups_403e ds R) : t_greatest_groups_403e { nx := fun _ => R .non, rt := fun d _ => R d } ⟨startL 8 ds, ()⟩ := by
  obtain ⟨m, p, t, rfl, hm, hp, h⟩ := h
  have line : (10000000 : Nat) ≤ sizeLine := line_big
  have h10 := hp.top
  have ul : (upG p).length ≤ 1024 := by
    have h2 : (upG p).length ≤ (grpS (List.range p.its.length)).length := List.length_filter_le _ _
    rw [grpS_length, List.length_range] at h2
    exact Nat.le_trans h2 (Nat.pow_le_pow_right (by decide) (by omega : p.its.length ≤ 10))
  let P := some (L.val (panD p))
  let G := some (L.val (.tup ((upG p).map grD)))
  let T := some (L.val (.int t))
  refine seq_mid (M := fun s' => s' = ⟨[P, G, T, some (.val (.lst ((upG p).map fun g => .int (gn p t g)))), none, none, none, none], ()⟩) ?_ ?_
  rotate_left
  · intro N hN
    refine lc_mapl (upG p) grD (fun g => D.int (gn p t g)) (by omega) (fun g hg => ⟨_, rfl, fun T h => ⟨p, g, t, rfl, ?_, ?_, h⟩⟩) (hN _ rfl) (by decide) (by rfl)
    · have := (upG_sub hg).length_le
      rw [List.length_range] at this; omega
    · exact fun i hi => List.mem_range.mp ((upG_sub hg).subset hi)
  rintro _ rfl
  have e2 : ((upG p).map fun g => D.int (gn p t g)) = ((upG p).map (gn p t)).map D.int := by rw [List.map_map]; rfl
  refine seq_mid (M := fun s' => ∃ k : Int, k ∈ (upG p).map (gn p t) ∧ (∀ y ∈ (upG p).map (gn p t), y ≤ k) ∧ s' = ⟨[P, G, T, some (.val (.lst ((upG p).map fun g => .int (gn p t g)))), some (.val (.int k)), none, none, none], ()⟩) ?_ ?_
  rotate_left
  · intro N hN
    refine ⟨_, by rw [e2]; exact asInts_map _, ?_, fun k k1 k2 => hN _ ⟨k, k1, k2, rfl⟩⟩
    rw [List.length_map]
    exact List.length_pos_of_mem (all_upG hp)
  rintro _ ⟨k, k1, k2, rfl⟩
  have bs : (upG p).filter (fun g => decide (gn p t g = k)) = mxS p t := by
    have := mx_is (p := pS p t) (t := 0) (m := k) (by rw [upG_pS]; exact k1) (by rw [upG_pS]; exact k2)
    rw [upG_pS] at this
    exact this
  refine seq_mid (M := fun s' => s' = ⟨[P, G, T, some (.val (.lst ((upG p).map fun g => .int (gn p t g)))), some (.val (.int k)), some (.val (.lst ((mxS p t).map grD))), none, none], ()⟩) ?_ ?_
  rotate_left
  · intro N hN
    have ez : zipD ((upG p).map grD) ((upG p).map fun g => D.int (gn p t g)) = (upG p).map fun g => .tup [grD g, .int (gn p t g)] := by
      rw [zipD_map]
      have : ∀ l : List (List Nat), (l.zip l) = l.map fun g => (g, g) := fun l => by
        induction l with
        | nil => rfl
        | cons a l ih => simp [ih]
      rw [this, List.map_map]; rfl
    show lcB _ _ _ _ _ (zipD ((upG p).map grD) ((upG p).map fun g => D.int (gn p t g))) _
    rw [ez]
    refine lc_list (upG p) (fun g => .tup [grD g, .int (gn p t g)]) (fun g => decide (gn p t g = k)) grD (by omega) (fun g hg => ⟨_, rfl, fun T h => ⟨⟨rfl, rfl, Nat.zero_le 64, Nat.zero_le 64⟩, h⟩, fun _ T h => h⟩) ?_ (by decide) (by rfl)
    rw [bs]
    exact hN _ rfl
  rintro _ rfl
  have ne : (mxS p t).map grD ≠ [] := by
    have := List.ne_nil_of_mem (lo_mx (t := t) hp (by omega : m ≤ 100))
    simpa using this
  have tup : ∀ x ∈ (mxS p t).map grD, ∃ ys, x = .tup ys := fun x hx => by
    obtain ⟨g, _, rfl⟩ := List.mem_map.mp hx
    exact ⟨_, rfl⟩
  have ll : ∀ g : List Nat, lenD0 (grD g) = g.length := fun g => by show (g.map natD).length = _; simp
  refine ⟨ne, tup, fun x hx hmin => ⟨ne, tup, fun y hy hmax => ?_⟩⟩
  obtain ⟨g, hg, rfl⟩ := List.mem_map.mp hx
  obtain ⟨k', hk', rfl⟩ := List.mem_map.mp hy
  have a : g = loG p t := short_lo hp (by omega) hg fun z hz => by
    have := hmin _ (List.mem_map.mpr ⟨z, hz, rfl⟩)
    simp only [Bool.false_eq_true, if_false] at this
    rwa [ll, ll] at this
  have b : k' = hiG p t := long_hi hp (by omega) hk' fun z hz => by
    have := hmax _ (List.mem_map.mpr ⟨z, hz, rfl⟩)
    simp only [if_true] at this
    rwa [ll, ll] at this
  subst a; subst b
  exact ⟨(by show 2 ≤ sizeLine; omega), h⟩

def t_extreme_median_a062 : PSx Unit := (qSeq (qAsg (qCallP (sp_upward_sets_3622) (qCons (qVar 0) qNil)) 2) (qSeq (qAsg (qSet (qSortSetL (qSet (qLc (qItems (qBin ixD (qVar 0) (qC (.int 0)))) (.tp [(.nm 8), (.nm 9)]) [8, 9] qYes (qVar 8))))) 3) (qSeq (qAsgOwn (qBinF mulF (qSet (qLst (qCons (qBin ixD (qVar 3) (qC (.int 0))) qNil))) (qCall (fn1 lenD) (qCons (qBin ixD (qVar 0) (qC (.int 0))) qNil))) 4) (qSeq (qFor (qZip (qCons (qVar 3) (qCons (qSl (qVar 3) (qPart (qC (.int 1))) qNoPart) qNil))) (.tp [(.nm 5), (.nm 6)]) (qFor (qItems (qBin ixD (qCallP (sp_greatest_groups_403e) (qCons (qVar 0) (qCons (qVar 2) (qCons (qVar 5) qNil)))) (qVar 1))) (.nm 7) (qSetItem (qVar 6) 4 (qVar 7)))) (qRet (qCall (fn1 tupleD) (qCons (qVar 4) qNil)))))))

def sp_extreme_median_a062 : Spec0 := fun ds R => ∃ (m : Nat) (p : Pan) (w : Bool), ds = [panD p, .int (if w then 1 else 0)] ∧ m ≤ 10 ∧ PanOk m p ∧ ∀ x : Nat → Int, IsMed p w x → (∀ i, i < p.its.length → ∃ j, j < p.its.length ∧ mk p j = x i) → R (.tup ((List.range p.its.length).map fun i => .int (x i)))
theorem len_extreme_median_a062 (ds : List D) (R : DK) (h : sp_extreme_median_a062 ds R) : ds.length = 2 := by
  obtain ⟨a, b, c, rfl, _⟩ := h; rfl
theorem p_extreme_median_a062 (ds : List D) (R : DK) (h : sp_extreme_median_a062 ds R) : t_extreme_median_a062 { nx := fun _ => R .non, rt := fun d _ => R d } ⟨startL 10 ds, ()⟩ := by
  obtain ⟨m, p, w, rfl, hm, hp, h⟩ := h
  have line : (10000000 : Nat) ≤ sizeLine := line_big
  have h10 := hp.top
  have h1 := hp.one
  have ml : (p.its.map itD).length = p.its.length := by simp
  let P := some (L.val (panD p))
  let W := some (L.val (.int (if w then 1 else 0)))
  let G := some (L.val (.tup ((upG p).map grD)))
  refine seq_mid (M := fun s' => s' = ⟨[P, W, G, none, none, none, none, none, none, none], ()⟩) ?_ ?_
  rotate_left
  · intro N hN
    exact ⟨m, p, rfl, hm, hp, hN _ rfl⟩
  rintro _ rfl
  refine seq_mid (M := fun s' => ∃ (b : Int) (r : List Int), (b :: r).Pairwise (· < ·) ∧ (∀ v, v ∈ b :: r ↔ ∃ i, i < p.its.length ∧ mk p i = v) ∧ s' = ⟨[P, W, G, some (.val (.lst ((b :: r).map D.int))), none, none, none, none, none, none], ()⟩) ?_ ?_
  rotate_left
  · intro N hN
    refine ⟨_, rfl, ?_⟩
    refine lc_mapl p.its itD (fun q => D.int q.1) (by omega) (fun q hq => ⟨_, rfl, fun T h => h⟩) ?_ (by decide) (by rfl)
    have e2 : (p.its.map fun q => D.int q.1) = (marksL p).map D.int := by rw [← marks_its, List.map_map]; rfl
    refine ⟨marksL p, by rw [e2]; exact asInts_map _, by unfold marksL; simp; omega, ⟨marksL p, fun _ h => h, by unfold marksL; simp; omega⟩, fun out ho hmem => ?_⟩
    have mem : ∀ v, v ∈ out ↔ ∃ i, i < p.its.length ∧ mk p i = v := fun v => by
      rw [hmem]; unfold marksL; rw [List.mem_map]
      exact ⟨fun ⟨i, a, b⟩ => ⟨i, List.mem_range.mp a, b⟩, fun ⟨i, a, b⟩ => ⟨i, List.mem_range.mpr a, b⟩⟩
    cases out with
    | nil =>
      have := (mem (mk p 0)).mpr ⟨0, by omega, rfl⟩
      cases this
    | cons b r => exact hN _ ⟨b, r, ho, mem, rfl⟩
  rintro _ ⟨b, r, hs, hv, rfl⟩
  let M3 := some (L.val (.lst ((b :: r).map D.int)))
  refine seq_mid (M := fun s' => s' = ⟨[P, W, G, M3, some (.own ((List.range p.its.length).map fun _ => D.int b)), none, none, none, none, none], ()⟩) ?_ ?_
  rotate_left
  · intro N hN
    refine ⟨_, rfl, (by show 1 ≤ sizeLine; omega), _, rfl, ⟨by omega, by omega, by show 1 * _ ≤ sizeLine; omega⟩, hN _ ?_⟩
    show (⟨[P, W, G, M3, some (.own (List.replicate ((p.its.map itD).length : Int).toNat [D.int b]).flatten), none, none, none, none, none], ()⟩ : S Unit) = _
    rw [rep_flat, ml]; rfl
  rintro _ rfl
  have im := isMed_step (w := w) hp (by omega) hs hv
  have hx : ∀ i, i < p.its.length → ∃ j, j < p.its.length ∧ mk p j = stepM (fun t => decide (i ∈ sideG p w t)) (b :: r) b := fun i hi => (hv _).mp (stepM_mem (by simp))
  refine seq_mid (M := fun s' => s' = ⟨[P, W, G, M3, some (.own ((List.range p.its.length).map fun i => D.int (stepM (fun t => decide (i ∈ sideG p w t)) (b :: r) b))), none, none, none, none, none], ()⟩) ?_ ?_
  rotate_left
  · intro N hN
    have c1 : cut ((b :: r).map D.int) (some 1) none = r.map D.int := by
      have := cut_from ((b :: r).map D.int) 1
      rw [← List.map_drop] at this
      exact this
    have ez : zipD ((b :: r).map D.int) (cut ((b :: r).map D.int) (some 1) none) = ((b :: r).zip r).map fun q => .tup [.int q.1, .int q.2] := by rw [c1, zipD_map]
    have zl : (zipD ((b :: r).map D.int) (cut ((b :: r).map D.int) (some 1) none)).length = ((b :: r).zip r).length := by rw [ez, List.length_map]
    let Gi : Nat → Int → Bool := fun i t => decide (i ∈ sideG p w t)
    let cur : Nat → Nat → Int := fun j i => (((b :: r).zip r).take j).foldl (stp (Gi i)) b
    refine ⟨fun j s => s = ⟨[P, W, G, M3, some (.own ((List.range p.its.length).map fun i => D.int (cur j i))), none, none, none, none, none], ()⟩, ⟨_, Wk.refl _, rfl⟩, ?_, ?_⟩
    · rintro j d s hd rfl
      have hd : (zipD ((b :: r).map D.int) (cut ((b :: r).map D.int) (some 1) none))[j]? = some d := hd
      rw [ez, List.getElem?_map] at hd
      obtain ⟨q, hq, rfl⟩ := Option.map_eq_some_iff.mp hd
      have ct : ∀ i, cur (j + 1) i = stp (Gi i) (cur j i) q := fun i => by
        show (((b :: r).zip r).take (j + 1)).foldl (stp (Gi i)) b = _
        rw [List.take_add_one, hq]; simp [List.foldl_append, cur]
      have sub : (sideG p w q.1).Sublist (List.range p.its.length) := by
        cases w
        · exact lo_sub
        · exact hi_sub
      refine put_tg rfl ?_
      refine ⟨m, p, q.1, rfl, hm, hp, grD (sideG p w q.1), by cases w <;> rfl, ?_⟩
      refine ⟨fun k s => s = ⟨[P, W, G, M3, some (.own ((List.range p.its.length).map fun i => D.int (if i ∈ (sideG p w q.1).take k then q.2 else cur j i))), some (.val (.int q.1)), some (.val (.int q.2)), none, none, none], ()⟩, ⟨_, Wk.refl _, ?_⟩, ?_, ?_⟩
      · simp
      · rintro k e s he rfl
        rw [List.getElem?_map] at he
        obtain ⟨i, hi, rfl⟩ := Option.map_eq_some_iff.mp he
        have il := List.mem_range.mp (sub.subset (List.mem_of_getElem? hi))
        refine put_nm ?_
        refine ⟨⟨_, rfl⟩, _, i, rfl, by rw [List.length_map, List.length_range]; exact ixN_nat il, ?_⟩
        refine ⟨⟨[P, W, G, M3, some (.own ((List.range p.its.length).map fun i => D.int (if i ∈ (sideG p w q.1).take (k + 1) then q.2 else cur j i))), some (.val (.int q.1)), some (.val (.int q.2)), none, none, none], ()⟩, ?_, rfl⟩
        have e : ((List.range p.its.length).map fun i => D.int (if i ∈ (sideG p w q.1).take k then q.2 else cur j i)).set i (.int q.2) = (List.range p.its.length).map fun i => D.int (if i ∈ (sideG p w q.1).take (k + 1) then q.2 else cur j i) := by
          rw [rng_set]
          refine List.map_congr_left fun a _ => ?_
          rw [List.take_add_one, hi]
          by_cases c : a = i
          · subst c; simp
          · rw [if_neg c]
            have : (a ∈ (sideG p w q.1).take k ++ (some i).toList) ↔ a ∈ (sideG p w q.1).take k := by simp [c]
            simp only [this]
        rw [← e]
        exact Wk.of (by repeat' first | exact trivial | exact .inr rfl | exact .inl rfl | refine ⟨?_, ?_⟩)
      · rintro s rfl
        refine ⟨⟨[P, W, G, M3, some (.own ((List.range p.its.length).map fun i => D.int (cur (j + 1) i))), none, none, none, none, none], ()⟩, ?_, rfl⟩
        have e : ((List.range p.its.length).map fun i => D.int (if i ∈ (sideG p w q.1).take ((sideG p w q.1).map natD).length then q.2 else cur j i)) = (List.range p.its.length).map fun i => D.int (cur (j + 1) i) := by
          refine List.map_congr_left fun a _ => ?_
          rw [ct, List.length_map, List.take_of_length_le (Nat.le_refl _)]
          unfold stp
          show D.int (if a ∈ sideG p w q.1 then q.2 else cur j a) = D.int (if decide (a ∈ sideG p w q.1) = true then q.2 else cur j a)
          simp only [decide_eq_true_eq]
        show Wk (⟨[P, W, G, M3, some (.own ((List.range p.its.length).map fun i => D.int (if i ∈ (sideG p w q.1).take ((sideG p w q.1).map natD).length then q.2 else cur j i))), some (.val (.int q.1)), some (.val (.int q.2)), none, none, none], ()⟩ : S Unit) _
        rw [e]
        exact Wk.of (by repeat' first | exact trivial | exact .inr rfl | exact .inl rfl | refine ⟨?_, ?_⟩)
    · rintro s rfl
      refine hN _ ?_
      have e : ((List.range p.its.length).map fun i => D.int (cur (zipD ((b :: r).map D.int) (cut ((b :: r).map D.int) (some 1) none)).length i)) = (List.range p.its.length).map fun i => D.int (stepM (fun t => decide (i ∈ sideG p w t)) (b :: r) b) := by
        refine List.map_congr_left fun i _ => ?_
        show D.int ((((b :: r).zip r).take (zipD ((b :: r).map D.int) (cut ((b :: r).map D.int) (some 1) none)).length).foldl (stp (Gi i)) b) = _
        rw [zl, List.take_of_length_le (Nat.le_refl _), stepM_fold]
      show (⟨[P, W, G, M3, some (.own ((List.range p.its.length).map fun i => D.int (cur (zipD ((b :: r).map D.int) (cut ((b :: r).map D.int) (some 1) none)).length i))), none, none, none, none, none], ()⟩ : S Unit) = _
      rw [e]
  rintro _ rfl
  exact h _ im hx

def t_lowest_median_cc3e : PSx Unit := (qRet (qCallP (sp_extreme_median_a062) (qCons (qVar 0) (qCons (qC (.int 0)) qNil))))

def sp_lowest_median_cc3e : Spec0 := fun ds R => ∃ (m : Nat) (p : Pan), ds = [panD p] ∧ m ≤ 10 ∧ PanOk m p ∧ ∀ x : Nat → Int, IsMed p false x → (∀ i, i < p.its.length → ∃ j, j < p.its.length ∧ mk p j = x i) → R (.tup ((List.range p.its.length).map fun i => .int (x i)))
theorem len_lowest_median_cc3e (ds : List D) (R : DK) (h : sp_lowest_median_cc3e ds R) : ds.length = 1 := by
  obtain ⟨a, b, rfl, _⟩ := h; rfl
theorem p_lowest_median_cc3e (ds : List D) (R : DK) (h : sp_lowest_median_cc3e ds R) : t_lowest_median_cc3e { nx := fun _ => R .non, rt := fun d _ => R d } ⟨startL 1 ds, ()⟩ := by
  obtain ⟨m, p, rfl, hm, hp, h⟩ := h
  exact ⟨m, p, false, rfl, hm, hp, h⟩

def t_highest_median_e9e9 : PSx Unit := (qRet (qCallP (sp_extreme_median_a062) (qCons (qVar 0) (qCons (qC (.int 1)) qNil))))

def sp_highest_median_e9e9 : Spec0 := fun ds R => ∃ (m : Nat) (p : Pan), ds = [panD p] ∧ m ≤ 10 ∧ PanOk m p ∧ ∀ x : Nat → Int, IsMed p true x → (∀ i, i < p.its.length → ∃ j, j < p.its.length ∧ mk p j = x i) → R (.tup ((List.range p.its.length).map fun i => .int (x i)))
theorem len_highest_median_e9e9 (ds : List D) (R : DK) (h : sp_highest_median_e9e9 ds R) : ds.length = 1 := by
  obtain ⟨a, b, rfl, _⟩ := h; rfl
theorem p_highest_median_e9e9 (ds : List D) (R : DK) (h : sp_highest_median_e9e9 ds R) : t_highest_median_e9e9 { nx := fun _ => R .non, rt := fun d _ => R d } ⟨startL 1 ds, ()⟩ := by
  obtain ⟨m, p, rfl, hm, hp, h⟩ := h
  exact ⟨m, p, true, rfl, hm, hp, h⟩

def t_both_dcd2 : PSx Unit := (qRet (qTup (qCons (qCallP (sp_lowest_median_cc3e) (qCons (qVar 0) qNil)) (qCons (qCallP (sp_highest_median_e9e9) (qCons (qVar 0) qNil)) qNil))))

def sp_both_dcd2 : Spec0 := fun ds R => ∃ (m : Nat) (p : Pan) (lo hi : Nat → Int), ds = [panD p] ∧ m ≤ 10 ∧ PanOk m p ∧ MedX p false lo ∧ MedX p true hi ∧ R (medD p lo hi)
theorem len_both_dcd2 (ds : List D) (R : DK) (h : sp_both_dcd2 ds R) : ds.length = 1 := by
  obtain ⟨_, _, _, _, rfl, _⟩ := h; rfl
theorem p_both_dcd2 (ds : List D) (R : DK) (h : sp_both_dcd2 ds R) : t_both_dcd2 { nx := fun _ => R .non, rt := fun d _ => R d } ⟨startL 1 ds, ()⟩ := by
  have line : (10000000 : Nat) ≤ sizeLine := line_big
  obtain ⟨m, p, lo, hi, rfl, hm, hp, h1, h2, h⟩ := h
  refine ⟨m, p, rfl, hm, hp, fun x hx hj => ⟨m, p, rfl, hm, hp, fun y hy hk => ⟨by show 2 ≤ sizeLine; omega, ?_⟩⟩⟩
  have e1 : rowI p.its.length x = rowI p.its.length lo := MedX.row ⟨hx, hj⟩ h1
  have e2 : rowI p.its.length y = rowI p.its.length hi := MedX.row ⟨hy, hk⟩ h2
  show R (.tup [rowI p.its.length x, rowI p.its.length y])
  rw [e1, e2]; exact h

def t_one_be76 (r : Addr) : PSx Nat := (qRet (qBin ixD (qVar 1) (qCallG (nextS r) (qCons (qVar 0) (qCons (qCall (fn1 lenD) (qCons (qVar 1) qNil)) qNil)))))

def sp_one_be76 (r : Addr) : Spec Nat := fun ds g R => ∃ xs : List D, (ds = [.obj r, .lst xs] ∨ ds = [.obj r, .tup xs]) ∧ 1 ≤ xs.length ∧ xs.length ≤ 100000 ∧ g < drawLine ∧ ∀ d ∈ xs, R d (g + 1)
theorem len_one_be76 (r : Addr) (ds : List D) (g : Nat) (R : D → Nat → Prop) (h : sp_one_be76 r ds g R) : ds.length = 2 := by
  obtain ⟨xs, rfl | rfl, _⟩ := h <;> rfl
theorem idx_mem {xs : List D} {k : Int} (k0 : 0 ≤ k) (k1 : k < xs.length) : ∃ d, idx xs k = some d ∧ d ∈ xs := by
  have hk : k.toNat < xs.length := by omega
  refine ⟨xs[k.toNat], ?_, List.getElem_mem hk⟩
  unfold idx
  rw [if_neg (by omega)]
  exact List.getElem?_eq_getElem hk
theorem p_one_be76 (r : Addr) (ds : List D) (g : Nat) (R : D → Nat → Prop) (h : sp_one_be76 r ds g R) : t_one_be76 r { nx := fun s => R .non s.g, rt := R } ⟨startL 2 ds, g⟩ := by
  obtain ⟨xs, rfl | rfl, h1, h2, hg, h⟩ := h
  · refine ⟨xs.length, rfl, by omega, by omega, hg, fun k k0 k1 => ?_⟩
    obtain ⟨d, e, hd⟩ := idx_mem k0 k1
    exact ⟨d, e, h d hd⟩
  · refine ⟨xs.length, rfl, by omega, by omega, hg, fun k k0 k1 => ?_⟩
    obtain ⟨d, e, hd⟩ := idx_mem k0 k1
    exact ⟨d, e, h d hd⟩

def t_equal_17a7 (s : Spec0) : PSx Unit := (qSeq (qIf (qAnd (qB (qIsi "tuple" (qVar 0))) (qB (qIsi "tuple" (qVar 1)))) (qRet (qAndV (qBin eqD (qCall (fn1 lenD) (qCons (qVar 0) qNil)) (qCall (fn1 lenD) (qCons (qVar 1) qNil))) (qCall (fn1 allD) (qCons (qSet (qLc (qZip (qCons (qVar 0) (qCons (qVar 1) qNil))) (.tp [(.nm 2), (.nm 3)]) [2, 3] qYes (qCallP s (qCons (qVar 2) (qCons (qVar 3) qNil))))) qNil)))) qNext) (qSeq (qIf (qOr (qB (qIsi "bool" (qVar 0))) (qB (qIsi "bool" (qVar 1)))) (qRet (qAndV (qIsi "bool" (qVar 0)) (qAndV (qIsi "bool" (qVar 1)) (qBin eqD (qVar 0) (qVar 1))))) qNext) (qSeq (qIf (qB (qBin neD (qIsi "tuple" (qVar 0)) (qIsi "tuple" (qVar 1)))) (qRet (qC (.bl false))) qNext) (qSeq (qIf (qB (qBin neD (qIsi "int" (qVar 0)) (qIsi "int" (qVar 1)))) (qRet (qC (.bl false))) qNext) (qRet (qAndV (qBin eqD (qIsi "str" (qVar 0)) (qIsi "str" (qVar 1))) (qBin eqD (qVar 0) (qVar 1))))))))

def sp_equal_17a7 (n : Nat) : Spec0 := fun ds R => ∃ d : D, ds = [d, d] ∧ d.pln = true ∧ d.dep < n ∧ n ≤ 60 ∧ d.wid ≤ 10000000 ∧ R (.bl true)
theorem len_equal_17a7 (n : Nat) (ds : List D) (R : DK) (h : sp_equal_17a7 n ds R) : ds.length = 2 := by
  obtain ⟨a, rfl, _⟩ := h; rfl
theorem z_equal_17a7 (ds : List D) (R : DK) (h : sp_equal_17a7 0 ds R) : False := by
  obtain ⟨a, rfl, _, h, _⟩ := h; omega
theorem p_equal_17a7 (n : Nat) (ds : List D) (R : DK) (h : sp_equal_17a7 (n + 1) ds R) : t_equal_17a7 (sp_equal_17a7 n) { nx := fun _ => R .non, rt := fun d _ => R d } ⟨startL 4 ds, ()⟩ := by
  obtain ⟨d, rfl, hp, hd, hn, hw, h⟩ := h
  have ho := pln_obj hp
  have tt := isTy_tup d
  have tb := isTy_bl d
  have line := line_big
  by_cases ht : isTy "tuple" d = true
  · cases d <;> simp only [ht] at tt <;> try cases tt
    rename_i xs
    refine ⟨ho, ⟨fun _ => ⟨ho, ⟨fun _ => ?_, fun hc => absurd (hc.symm.trans ht) (by decide)⟩⟩, fun hc => absurd (hc.symm.trans ht) (by decide)⟩⟩
    refine ⟨⟨rfl, rfl, Nat.zero_le 64, Nat.zero_le 64⟩, ⟨fun _ => ?_, fun hc => (eq_no (d := .int xs.length) rfl hc).elim⟩⟩
    have hps : D.plns xs = true := by simpa [D.pln] using hp
    simp only [D.dep] at hd
    simp only [D.wid] at hw
    have hl := D.wids_len xs
    have zl : (zipD xs xs).length = xs.length := by rw [zipD_len]; omega
    refine ⟨fun i acc s => i ≤ xs.length ∧ acc = List.replicate i (.bl true) ∧ s = ⟨[some (.val (.tup xs)), some (.val (.tup xs)), none, none], ()⟩, ⟨⟨[some (.val (.tup xs)), some (.val (.tup xs)), none, none], ()⟩, Wk.of ⟨.inr rfl, .inr rfl, .inl rfl, .inl rfl, trivial⟩, Nat.zero_le _, rfl, rfl⟩, ?_, ?_⟩
    · rintro i e acc s hi ⟨hle, rfl, rfl⟩
      have il : i < xs.length := by have := (List.getElem?_eq_some_iff.mp hi).1; omega
      obtain ⟨x, hx1, hx2, rfl⟩ := zip_self hi
      refine ⟨fun _ => ?_, fun hc => (by cases hc)⟩
      have dx := D.deps_mem hx2
      have wx := D.wids_mem hx2
      refine ⟨x, rfl, D.plns_mem hps hx2, by omega, by omega, by omega, by simp; omega, ⟨[some (.val (.tup xs)), some (.val (.tup xs)), none, none], ()⟩, Wk.of ⟨.inr rfl, .inr rfl, .inl rfl, .inl rfl, trivial⟩, by omega, ?_, rfl⟩
      rw [List.replicate_succ']
    · rintro acc s ⟨_, rfl, rfl⟩
      refine ⟨_, bls_trues _, ?_⟩
      rw [all_trues]; exact h
  · have ht0 : isTy "tuple" d = false := by simpa using ht
    refine ⟨ho, ⟨fun hc => absurd hc ht, fun _ => ⟨fun hc => (by cases hc), fun _ => ?_⟩⟩⟩
    have e64 : d.dep ≤ 64 := by omega
    refine ⟨ho, ⟨fun hb => ?_, fun hb => ⟨ho, ⟨fun hc => absurd (hc.symm.trans hb) (by decide), fun _ => ?_⟩⟩⟩⟩
    · refine ⟨fun _ => ?_, fun hc => (by cases hc)⟩
      refine ⟨ho, ⟨fun _ => ⟨ho, ⟨fun _ => ⟨.of ⟨hp, hp, e64, e64⟩, ?_⟩, fun hc => absurd (hc.symm.trans hb) (by decide)⟩⟩, fun hc => absurd (hc.symm.trans hb) (by decide)⟩⟩
      show R (.bl (D.eqv d d))
      rw [eqv_refl d hp]; exact h
    · refine ⟨ho, ho, ⟨rfl, rfl, Nat.zero_le 64, Nat.zero_le 64⟩, ⟨fun hc => (bl_ne hc rfl).elim, fun _ => ?_⟩⟩
      refine ⟨ho, ho, ⟨rfl, rfl, Nat.zero_le 64, Nat.zero_le 64⟩, ⟨fun hc => (bl_ne hc rfl).elim, fun _ => ?_⟩⟩
      refine ⟨ho, ho, ⟨rfl, rfl, Nat.zero_le 64, Nat.zero_le 64⟩, ⟨fun _ => ⟨.of ⟨hp, hp, e64, e64⟩, ?_⟩, fun hc => (eq_no (d := .bl _) rfl hc).elim⟩⟩
      show R (.bl (D.eqv d d))
      rw [eqv_refl d hp]; exact h

def t_replaced_right_5eb3 (r : Addr) : PSx Nat := (qSeq (qAsg (qSet (qSortSetL (qSet (qLc (qItems (qBin ixD (qVar 1) (qC (.int 0)))) (.tp [(.nm 7), (.nm 10)]) [7, 10] qYes (qVar 7))))) 3) (qSeq (qAsg (qCallG (sp_one_be76 r) (qCons (qVar 0) (qCons (qSet (qLst (qCons (qC (.int 1)) (qCons (qC (.int 7)) (qCons (qBin powD (qC (.int 10)) (qC (.int 8))) qNil))))) qNil))) 4) (qSeq (qParDic 5 6 (qBin subD (qBin subD (qC (.int 0)) (qBin mulD (qC (.int 4)) (qVar 4))) (qCallG (nextS r) (qCons (qVar 0) (qCons (qVar 4) qNil))))) (qSeq (qFor (qItems (qVar 3)) (.nm 7) (qSeq (qDicPut (qVar 6) 5 (qVar 7)) (qAsg (qBin addD (qBin addD (qVar 6) (qC (.int 1))) (qCallG (nextS r) (qCons (qVar 0) (qCons (qVar 4) qNil)))) 6))) (qSeq (qAsg (qTup (qCons (qCall (fn1 tupleD) (qCons (qSet (qLc (qItems (qBin ixD (qVar 1) (qC (.int 0)))) (.tp [(.nm 7), (.nm 10)]) [7, 10] qYes (qTup (qCons (qDicIx 5 (qVar 7)) (qCons (qVar 10) qNil))))) qNil)) (qCons (qBin ixD (qVar 1) (qC (.int 1))) qNil))) 8) (qSeq (qAsg (qCall (fn1 tupleD) (qCons (qSet (qLc (qItems (qVar 2)) (.nm 11) [11] qYes (qCall (fn1 tupleD) (qCons (qSet (qLc (qItems (qVar 11)) (.nm 12) [12] qYes (qDicIx 5 (qVar 12)))) qNil)))) qNil)) 9) (qRet (qCallP (sp_equal_17a7 24) (qCons (qCallP (sp_both_dcd2) (qCons (qVar 8) qNil)) (qCons (qVar 9) qNil))))))))))

theorem getK_app {kds : List (Key × D)} {k j : Key} {d : D} (h : getK kds k = none) : getK (kds ++ [(k, d)]) j = if k = j then some d else getK kds j := by
  induction kds with
  | nil => rfl
  | cons e r ih =>
    obtain ⟨i, x⟩ := e
    simp only [getK] at h
    split at h
    · cases h
    rename_i ni
    simp only [List.cons_append, getK]
    by_cases c : i = j
    · rw [if_pos c, if_pos c, if_neg fun z => ni (c.trans z.symm)]
    · rw [if_neg c, if_neg c]; exact ih h
theorem getK_mp {kds : List (Key × D)} {k j : Key} {d : D} : getK (kds.map fun kv => if kv.1 = k then (kv.1, d) else kv) j = if k = j then (if (getK kds k).isSome then some d else none) else getK kds j := by
  induction kds with
  | nil => simp [getK]
  | cons e r ih =>
    obtain ⟨i, x⟩ := e
    simp only [List.map_cons]
    by_cases c : i = k
    · subst c
      simp only [if_true, getK]
      by_cases c2 : i = j
      · simp [c2]
      · simp only [if_neg c2, ih]
    · simp only [if_neg c, getK]
      by_cases c2 : i = j
      · subst c2
        rw [if_pos rfl, if_neg fun z => c z.symm, if_pos rfl]
      · rw [if_neg c2, ih, if_neg c2]
theorem getK_put {kds : List (Key × D)} {k j : Key} {d : D} : getK (putKD kds k d) j = if k = j then some d else getK kds j := by
  unfold putKD
  split
  · rename_i h
    rw [getK_mp, if_pos h]
  · rename_i h
    exact getK_app (by simpa using h)
theorem putKD_len (kds : List (Key × D)) (k : Key) (d : D) : (putKD kds k d).length ≤ kds.length + 1 := by
  unfold putKD
  split <;> simp
theorem ats_mk {p : Pan} {i : Nat} (hi : i < p.its.length) : wt p i = p.its[i].2 ∧ mk p i = p.its[i].1 := by
  unfold wt mk
  simp [List.getD_eq_getElem?_getD, List.getElem?_eq_getElem hi]
theorem asInts_g {α : Type} (f : α → Int) : ∀ l : List α, asInts (l.map fun a => D.int (f a)) = some (l.map f)
  | [] => rfl
  | a :: l => by simp [asInts, asInts_g f l]
structure RepI (out : List Int) (c : Int) (i : Nat) (kds : List (Key × D)) (F : Int → Int) (last : Int) : Prop where
  get : ∀ t a, t < i → out[t]? = some a → getK kds (.inl a) = some (.int (F a))
  up : ∀ s t a b, s < t → t < i → out[s]? = some a → out[t]? = some b → F a < F b
  bd : ∀ t a, t < i → out[t]? = some a → -(5 * c) ≤ F a ∧ F a < last
  lo : -(5 * c) ≤ last
  hi : last ≤ -(4 * c) + i * c
  len : kds.length ≤ i
def sp_replaced_right_5eb3 (r : Addr) : Spec Nat := fun ds g R => ∃ (p : Pan) (lo hi : Nat → Int), ds = [.obj r, panD p, medD p lo hi] ∧ PanOk 8 p ∧ MedX p false lo ∧ MedX p true hi ∧ g + 20 < drawLine ∧ ∀ g', g ≤ g' → g' ≤ g + 10 → R (.bl true) g'
theorem len_replaced_right_5eb3 (r : Addr) (ds : List D) (g : Nat) (R : D → Nat → Prop) (h : sp_replaced_right_5eb3 r ds g R) : ds.length = 3 := by
  obtain ⟨_, _, _, rfl, _⟩ := h; rfl
theorem p_replaced_right_5eb3 (r : Addr) (ds : List D) (g : Nat) (R : D → Nat → Prop) (h : sp_replaced_right_5eb3 r ds g R) : t_replaced_right_5eb3 r { nx := fun s => R .non s.g, rt := R } ⟨startL 13 ds, g⟩ := by
  have line : (10000000 : Nat) ≤ sizeLine := line_big
  obtain ⟨p, lo, hi, rfl, hp, hlo, hhi, hg, h⟩ := h
  have h1 := hp.one
  have h8 := hp.top
  have few := hp.few
  let A := some (L.val (.obj r))
  let B := some (L.val (panD p))
  let C := some (L.val (medD p lo hi))
  refine seq_mid (M := fun s' => ∃ out : List Int, out.Pairwise (· < ·) ∧ (∀ a, a ∈ out ↔ ∃ q ∈ p.its, q.1 = a) ∧ out.length ≤ 8 ∧ s' = ⟨[A, B, C, some (.val (.lst (out.map D.int))), none, none, none, none, none, none, none, none, none], g⟩) ?_ ?_
  rotate_left
  · intro N hN
    refine ⟨_, rfl, ?_⟩
    refine lc_mapl p.its itD (fun q => .int q.1) (by omega) (fun q hm => ⟨_, rfl, fun T hT => hT⟩) ?_ (by decide) (by rfl)
    refine ⟨p.its.map fun q => q.1, asInts_g _ _, by rw [List.length_map]; omega, ⟨_, fun k hk => hk, by rw [List.length_map]; omega⟩, fun out hs hm => ?_⟩
    refine hN _ ⟨out, hs, fun a => by rw [hm, List.mem_map], ?_, rfl⟩
    have nd : out.Nodup := hs.imp fun h e => by omega
    have := nd.length_le_of_subset (l₂ := p.its.map fun q => q.1) fun a ha => (hm a).mp ha
    rw [List.length_map] at this; omega
  rintro _ ⟨out, os, om, ol, rfl⟩
  let O := some (L.val (.lst (out.map D.int)))
  refine seq_mid (M := fun s' => ∃ c : Int, 1 ≤ c ∧ c ≤ 10 ^ 8 ∧ s' = ⟨[A, B, C, O, some (.val (.int c)), none, none, none, none, none, none, none, none], g + 1⟩) ?_ ?_
  rotate_left
  · intro N hN
    refine ⟨⟨by decide, by decide, by decide⟩, (by show 3 ≤ sizeLine; omega), _, .inl rfl, by decide, by decide, (by show g < drawLine; omega), fun d hd => ?_⟩
    simp only [List.mem_cons, List.not_mem_nil, or_false] at hd
    rcases hd with rfl | rfl | rfl
    · exact hN _ ⟨1, by decide, by decide, rfl⟩
    · exact hN _ ⟨7, by decide, by decide, rfl⟩
    · exact hN _ ⟨10 ^ 8, by decide, by decide, rfl⟩
  rintro _ ⟨c, c1, c8, rfl⟩
  let K := some (L.val (.int c))
  have big : (10 : Int) ^ 8 ≤ 10 ^ 60 := by decide
  refine seq_mid (M := fun s' => ∃ l : Int, RepI out c 0 [] (fun a => a) l ∧ s' = ⟨[A, B, C, O, K, some (.dic []), some (.val (.int l)), none, none, none, none, none, none], g + 2⟩) ?_ ?_
  rotate_left
  · intro N hN
    refine ⟨(sz_of (b := 50) (by decide) (by decide) (by decide)).mulOk (sz_of (b := 50) (by decide) (by omega) (by omega)), _, rfl, by omega, by omega, (by show g + 1 < drawLine; omega), fun k k0 k1 => ?_⟩
    refine hN _ ⟨0 - 4 * c - k, ⟨fun t a h => (by omega), fun s t a b h1 h2 => (by omega), fun t a h => (by omega), by omega, by omega, Nat.le_refl _⟩, rfl⟩
  rintro _ ⟨l0, i0, rfl⟩
  refine seq_mid (M := fun s' => ∃ (kds : List (Key × D)) (F : Int → Int) (l : Int), RepI out c out.length kds F l ∧ s' = ⟨[A, B, C, O, K, some (.dic kds), some (.val (.int l)), none, none, none, none, none, none], g + 2 + out.length⟩) ?_ ?_
  rotate_left
  · intro N hN
    show ∃ I : Nat → S Nat → Prop, _
    refine ⟨fun i s' => ∃ (kds : List (Key × D)) (F : Int → Int) (l : Int), RepI out c i kds F l ∧ s' = ⟨[A, B, C, O, K, some (.dic kds), some (.val (.int l)), none, none, none, none, none, none], g + 2 + i⟩, ⟨_, Wk.refl _, [], fun a => a, l0, i0, rfl⟩, ?_, ?_⟩
    · rintro i d s' hd ⟨kds, F, l, hI, rfl⟩
      rw [List.getElem?_map] at hd
      obtain ⟨a, ha, rfl⟩ := Option.map_eq_some_iff.mp hd
      have hi := (List.getElem?_eq_some_iff.mp ha).1
      refine put_nm ?_
      refine seq_mid (M := fun s' => s' = ⟨[A, B, C, O, K, some (.dic (putKD kds (.inl a) (.int l))), some (.val (.int l)), some (.val (.int a)), none, none, none, none, none], g + 2 + i⟩) ?_ ?_
      rotate_left
      · intro N hN
        exact ⟨⟨_, rfl⟩, kds, .inl a, rfl, rfl, by have := hI.len; omega, hN _ rfl⟩
      rintro _ rfl
      refine ⟨c, rfl, by omega, by omega, (by show g + 2 + i < drawLine; omega), fun k k0 k1 => ?_⟩
      have ne : ∀ t b, t < i → out[t]? = some b → b < a := fun t b ht hb => by
        obtain ⟨x1, x2⟩ := List.getElem?_eq_some_iff.mp hb
        obtain ⟨y1, y2⟩ := List.getElem?_eq_some_iff.mp ha
        rw [← x2, ← y2]
        exact List.pairwise_iff_getElem.mp os t i x1 y1 ht
      have same : ∀ t b, t < i → out[t]? = some b → (if b = a then l else F b) = F b := fun t b ht hb => if_neg (by have := ne t b ht hb; omega)
      refine ⟨⟨[A, B, C, O, K, some (.dic (putKD kds (.inl a) (.int l))), some (.val (.int (l + 1 + k))), none, none, none, none, none, none], g + 2 + (i + 1)⟩, Wk.of (by repeat' first | exact trivial | exact .inr rfl | exact .inl rfl | refine ⟨?_, ?_⟩), _, fun b => if b = a then l else F b, l + 1 + k, ⟨fun t b ht hb => ?_, fun s t b e hs ht hb he => ?_, fun t b ht hb => ?_, ?_, ?_, ?_⟩, rfl⟩
      · rw [getK_put]
        by_cases z : t < i
        · rw [if_neg (by have := ne t b z hb; intro e; cases e; omega), same t b z hb]
          exact hI.get t b z hb
        · obtain rfl : t = i := by omega
          rw [ha] at hb; cases hb
          rw [if_pos rfl, if_pos rfl]
      · by_cases z : t < i
        · show (if b = a then l else F b) < (if e = a then l else F e)
          rw [same s b (by omega) hb, same t e z he]
          exact hI.up s t b e hs z hb he
        · obtain rfl : t = i := by omega
          rw [ha] at he; cases he
          show (if b = a then l else F b) < (if a = a then l else F a)
          rw [same s b (by omega) hb, if_pos rfl]
          exact (hI.bd s b (by omega) hb).2
      · by_cases z : t < i
        · show -(5 * c) ≤ (if b = a then l else F b) ∧ (if b = a then l else F b) < l + 1 + k
          rw [same t b z hb]
          have := hI.bd t b z hb
          omega
        · obtain rfl : t = i := by omega
          rw [ha] at hb; cases hb
          show -(5 * c) ≤ (if a = a then l else F a) ∧ (if a = a then l else F a) < l + 1 + k
          rw [if_pos rfl]
          have := hI.lo
          omega
      · have := hI.lo; omega
      · have := hI.hi
        have e : ((i + 1 : Nat) : Int) * c = i * c + c := by push_cast; rw [Int.add_mul]; omega
        rw [e]; omega
      · have := putKD_len kds (.inl a) (.int l)
        have := hI.len
        omega
    · rintro s' ⟨kds, F, l, hI, rfl⟩
      rw [List.length_map] at hI ⊢
      exact hN _ ⟨kds, F, l, hI, rfl⟩
  rintro _ ⟨kds, F, l, hI, rfl⟩
  let L1 := some (L.val (.int l))
  let K2 := some (L.dic kds)
  have get : ∀ q ∈ p.its, getK kds (.inl q.1) = some (.int (F q.1)) := fun q hq => by
    obtain ⟨t, ht⟩ := List.mem_iff_getElem?.mp ((om q.1).mpr ⟨q, hq, rfl⟩)
    exact hI.get t _ (List.getElem?_eq_some_iff.mp ht).1 ht
  have cl : (out.length : Int) * c ≤ 8 * c := Int.mul_le_mul_of_nonneg_right (by omega) (by omega)
  have bd : ∀ q ∈ p.its, -(10 ^ 9) ≤ F q.1 ∧ F q.1 ≤ 10 ^ 9 := fun q hq => by
    obtain ⟨t, ht⟩ := List.mem_iff_getElem?.mp ((om q.1).mpr ⟨q, hq, rfl⟩)
    have := hI.bd t _ (List.getElem?_eq_some_iff.mp ht).1 ht
    have := hI.hi
    omega
  have mono : ∀ q ∈ p.its, ∀ z ∈ p.its, q.1 < z.1 → F q.1 < F z.1 := fun q hq z hz lt => by
    obtain ⟨s, hs⟩ := List.mem_iff_getElem?.mp ((om q.1).mpr ⟨q, hq, rfl⟩)
    obtain ⟨t, ht⟩ := List.mem_iff_getElem?.mp ((om z.1).mpr ⟨z, hz, rfl⟩)
    obtain ⟨x1, x2⟩ := List.getElem?_eq_some_iff.mp hs
    obtain ⟨y1, y2⟩ := List.getElem?_eq_some_iff.mp ht
    refine hI.up s t _ _ ?_ y1 hs ht
    rcases Nat.lt_trichotomy s t with z | z | z
    · exact z
    · subst z
      rw [hs] at ht
      have := Option.some.inj ht
      omega
    · have := List.pairwise_iff_getElem.mp os t s y1 x1 z
      omega
  let P := Pan.mk (p.its.map fun q => (F q.1, q.2)) p.rus
  have pl : P.its.length = p.its.length := List.length_map ..
  have hP : PanOk 8 P := by
    refine ⟨by rw [pl]; exact h1, by rw [pl]; exact h8, fun z hz => ?_, few, by rw [pl]; exact hp.ru⟩
    obtain ⟨q, hq, rfl⟩ := List.mem_map.mp hz
    obtain ⟨o1, o2, o3, o4⟩ := hp.it q hq
    obtain ⟨b1, b2⟩ := bd q hq
    exact ⟨b1, b2, o3, o4⟩
  have pat : ∀ i, i < p.its.length → wt P i = wt p i ∧ mk P i = F (mk p i) := fun i hi => by
    obtain ⟨a, b⟩ := ats_mk hi
    obtain ⟨a', b'⟩ := ats_mk (p := P) (i := i) (by omega)
    rw [a, b, a', b']
    simp [P]
  have inm : ∀ i, i < p.its.length → ∃ q ∈ p.its, q.1 = mk p i := fun i hi => ⟨p.its[i], List.getElem_mem hi, (ats_mk hi).2.symm⟩
  have med : ∀ w x, MedX p w x → MedX P w fun i => F (x i) := fun w x hx => by
    have at2 : ∀ i, i < p.its.length → ∃ j, j < p.its.length ∧ mk p j = x i ∧ mk P j = F (x i) := fun i hi => by
      obtain ⟨j, hj, e⟩ := hx.at' i hi
      exact ⟨j, hj, e, by rw [(pat j hj).2, e]⟩
    refine ⟨isMed_order pl rfl (fun i hi => (pat i hi).1) (fun i j hi hj => ?_) hx.is at2, fun i hi => ?_⟩
    · rw [(pat i hi).2, (pat j hj).2]
      obtain ⟨q, hq, eq⟩ := inm i hi
      obtain ⟨z, hz, ez⟩ := inm j hj
      rw [← eq, ← ez]
      refine ⟨mono q hq z hz, fun lt => ?_⟩
      refine Int.not_le.mp fun le => ?_
      rcases Int.lt_or_eq_of_le le with lt2 | e
      · have := mono z hz q hq lt2; omega
      · rw [e] at lt; omega
    · obtain ⟨j, hj, _, e⟩ := at2 i (by omega)
      exact ⟨j, by omega, e⟩
  refine seq_mid (M := fun s' => s' = ⟨[A, B, C, O, K, K2, L1, none, some (.val (panD P)), none, none, none, none], g + 2 + out.length⟩) ?_ ?_
  rotate_left
  · intro N hN
    refine ⟨_, rfl, ?_⟩
    refine lc_mapl p.its itD (fun q => itD (F q.1, q.2)) (by omega) (fun q hq => ⟨_, rfl, fun T hT => ⟨⟨_, rfl⟩, kds, .inl q.1, _, rfl, rfl, get q hq, by show 2 ≤ sizeLine; omega, hT⟩⟩) ?_ (by decide) (by rfl)
    have e : p.its.map (fun q => itD (F q.1, q.2)) = P.its.map itD := by show _ = (p.its.map fun q => (F q.1, q.2)).map itD; rw [List.map_map]; rfl
    rw [e]
    exact ⟨_, rfl, by show 2 ≤ sizeLine; omega, hN _ rfl⟩
  rintro _ rfl
  let P2 := some (L.val (panD P))
  have er : D.tup ([lo, hi].map fun x => rowI p.its.length fun k => F (x k)) = medD P (fun k => F (lo k)) fun k => F (hi k) := by
    unfold medD; rw [pl]; rfl
  refine seq_mid (M := fun s' => s' = ⟨[A, B, C, O, K, K2, L1, none, P2, some (.val (medD P (fun k => F (lo k)) fun k => F (hi k))), none, none, none], g + 2 + out.length⟩) ?_ ?_
  rotate_left
  · intro N hN
    show lcB _ _ _ _ _ ([lo, hi].map fun x => rowI p.its.length x) _
    refine lc_mapl [lo, hi] (fun x => rowI p.its.length x) (fun x => rowI p.its.length fun k => F (x k)) (by show 2 ≤ 1000000; decide) (fun x hx => ⟨_, rfl, fun T hT => ?_⟩) ?_ (by decide) (by rfl)
    · refine lc_mapl (List.range p.its.length) (fun i => .int (x i)) (fun i => .int (F (x i))) (by simp; omega) (fun i hi' => ⟨_, rfl, fun T hT => ?_⟩) hT (by decide) (by rfl)
      have hi' := List.mem_range.mp hi'
      have e : ∃ q ∈ p.its, q.1 = x i := by
        have hx : x = lo ∨ x = hi := by simpa using hx
        rcases hx with rfl | rfl
        · obtain ⟨j, hj, e⟩ := hlo.at' i hi'
          obtain ⟨q, hq, e2⟩ := inm j hj
          exact ⟨q, hq, e2.trans e⟩
        · obtain ⟨j, hj, e⟩ := hhi.at' i hi'
          obtain ⟨q, hq, e2⟩ := inm j hj
          exact ⟨q, hq, e2.trans e⟩
      obtain ⟨q, hq, e⟩ := e
      have gq := get q hq
      rw [e] at gq
      exact ⟨⟨_, rfl⟩, kds, .inl (x i), _, rfl, rfl, gq, hT⟩
    · have key : ∀ T : D → Prop, T (medD P (fun k => F (lo k)) fun k => F (hi k)) → T (D.tup ([lo, hi].map fun x => rowI p.its.length fun k => F (x k))) := fun T hT => by rw [er]; exact hT
      exact key (fun d => N ⟨[A, B, C, O, K, K2, L1, none, P2, some (.val d), none, none, none], g + 2 + out.length⟩) (hN _ rfl)
  rintro _ rfl
  obtain ⟨m1, m2, m3⟩ := medD_ok' hP (by decide) (a := fun k => F (lo k)) (b := fun k => F (hi k))
  exact ⟨8, P, _, _, rfl, by decide, hP, med _ _ hlo, med _ _ hhi, _, rfl, m1, m2, by decide, m3, h _ (by show g ≤ g + 2 + out.length; omega) (by show g + 2 + out.length ≤ g + 10; omega)⟩

def t_spread_of_61bf : PSx Unit := (qRet (qCall (fn1 sumD) (qCons (qSet (qLc (qZip (qCons (qBin ixD (qVar 0) (qC (.int 0))) (qCons (qVar 1) qNil))) (.tp [(.tp [(.nm 3), (.nm 4)]), (.nm 2)]) [2, 3, 4] qYes (qBin mulD (qVar 4) (qCall (fn1 absD) (qCons (qBin subD (qVar 2) (qVar 3)) qNil))))) qNil)))

def sp_spread_of_61bf : Spec0 := fun ds R => ∃ (p : Pan) (ws : List Int), ds = [panD p, .tup (ws.map .int)] ∧ p.its.length ≤ 60 ∧ (∀ q ∈ p.its, ItOk q) ∧ ws.length = p.its.length ∧ R (.int (sprL p ws).sum)
theorem len_spread_of_61bf (ds : List D) (R : DK) (h : sp_spread_of_61bf ds R) : ds.length = 2 := by
  obtain ⟨p, ws, rfl, _⟩ := h; rfl
theorem p_spread_of_61bf (ds : List D) (R : DK) (h : sp_spread_of_61bf ds R) : t_spread_of_61bf { nx := fun _ => R .non, rt := fun d _ => R d } ⟨startL 5 ds, ()⟩ := by
  obtain ⟨p, ws, rfl, hn, hi, hl, h⟩ := h
  have line : (10000000 : Nat) ≤ sizeLine := line_big
  refine ⟨.tup (p.its.map itD), rfl, ?_⟩
  have zl : (zipD (p.its.map itD) (ws.map .int)).length = p.its.length := by rw [zipD_len]; simp; omega
  refine ⟨fun i acc s => i ≤ p.its.length ∧ acc = ((sprL p ws).take i).map .int ∧ s = ⟨[none, none, none, none, none], ()⟩, ⟨⟨[none, none, none, none, none], ()⟩, Wk.of ⟨.inl rfl, .inl rfl, .inl rfl, .inl rfl, .inl rfl, trivial⟩, Nat.zero_le _, by simp, rfl⟩, ?_, ?_⟩
  · rintro i d acc s hd ⟨hle, rfl, rfl⟩
    obtain ⟨x, y, hx, hy, rfl⟩ := zipD_get hd
    rw [List.getElem?_map] at hx hy
    obtain ⟨q, hq, rfl⟩ := Option.map_eq_some_iff.mp hx
    obtain ⟨w, hw, rfl⟩ := Option.map_eq_some_iff.mp hy
    have il := (List.getElem?_eq_some_iff.mp hq).1
    obtain ⟨m1, m2, m3, m4⟩ := hi q (List.mem_of_getElem? hq)
    refine ⟨fun _ => ?_, fun hc => (by cases hc)⟩
    refine ⟨.inl (.inl ⟨by omega, by omega⟩), by simp; omega, ⟨[none, none, none, none, none], ()⟩, Wk.of ⟨.inl rfl, .inl rfl, .inl rfl, .inl rfl, .inl rfl, trivial⟩, by omega, ?_, rfl⟩
    rw [take_snoc (sprL_at hq hw), List.map_append]; rfl
  · rintro acc s ⟨_, rfl, rfl⟩
    rw [zl]
    refine ⟨_, asInts_map _, ?_⟩
    have e : (sprL p ws).take p.its.length = sprL p ws := List.take_of_length_le (by unfold sprL; rw [List.length_zipWith]; omega)
    rw [e]; exact h

def t_least_spread_c534 : PSx Unit := (qRet (qCallP (sp_spread_of_61bf) (qCons (qVar 0) (qCons (qCallP (sp_lowest_median_cc3e) (qCons (qVar 0) qNil)) qNil))))

def sp_least_spread_c534 : Spec0 := fun ds R => ∃ (m : Nat) (p : Pan), ds = [panD p] ∧ m ≤ 10 ∧ PanOk m p ∧ ∀ x : Nat → Int, IsMed p false x → (∀ i, i < p.its.length → ∃ j, j < p.its.length ∧ mk p j = x i) → R (.int (spI p x))
theorem len_least_spread_c534 (ds : List D) (R : DK) (h : sp_least_spread_c534 ds R) : ds.length = 1 := by
  obtain ⟨a, b, rfl, _⟩ := h; rfl
theorem p_least_spread_c534 (ds : List D) (R : DK) (h : sp_least_spread_c534 ds R) : t_least_spread_c534 { nx := fun _ => R .non, rt := fun d _ => R d } ⟨startL 1 ds, ()⟩ := by
  obtain ⟨m, p, rfl, hm, hp, h⟩ := h
  have h10 := hp.top
  refine ⟨m, p, rfl, hm, hp, fun x hx hj => ?_⟩
  refine ⟨p, (List.range p.its.length).map x, by rw [List.map_map]; rfl, by omega, hp.it, by simp, ?_⟩
  have := h x hx hj
  rw [← spr_eq rfl] at this
  exact this

def t_turned_right_3b73 (r : Addr) : PSx Nat := (qSeq (qAsg (qBin addD (qC (.int 1)) (qCallG (nextS r) (qCons (qVar 0) (qCons (qBin fdivD (qBin powD (qC (.int 10)) (qC (.int 6))) (qCall (fn1 maxL) (qCons (qSet (qLc (qItems (qBin ixD (qVar 1) (qC (.int 0)))) (.tp [(.nm 8), (.nm 9)]) [8, 9] qYes (qVar 9))) qNil))) qNil)))) 3) (qSeq (qAsg (qTup (qCons (qCall (fn1 tupleD) (qCons (qSet (qLc (qItems (qBin ixD (qVar 1) (qC (.int 0)))) (.tp [(.nm 8), (.nm 9)]) [8, 9] qYes (qTup (qCons (qVar 8) (qCons (qBin mulD (qVar 9) (qVar 3)) qNil))))) qNil)) (qCons (qBin ixD (qVar 1) (qC (.int 1))) qNil))) 4) (qSeq (qIf (qOr (qNot (qB (qCallP (sp_equal_17a7 24) (qCons (qCallP (sp_both_dcd2) (qCons (qVar 4) qNil)) (qCons (qVar 2) qNil))))) (qB (qBin neD (qCallP (sp_least_spread_c534) (qCons (qVar 4) qNil)) (qBin mulD (qVar 3) (qCallP (sp_least_spread_c534) (qCons (qVar 1) qNil)))))) (qRet (qC (.bl false))) qNext) (qSeq (qAsg (qCall (fn1 tupleD) (qCons (qSet (qLc (qItems (qBin ixD (qVar 1) (qC (.int 0)))) (.tp [(.nm 8), (.nm 9)]) [8, 9] qYes (qTup (qCons (qBin subD (qC (.int 0)) (qVar 8)) (qCons (qVar 9) qNil))))) qNil)) 5) (qSeq (qAsg (qCallP (sp_both_dcd2) (qCons (qTup (qCons (qVar 5) (qCons (qCall (fn1 tupleD) (qCons (qSet (qLc (qItems (qBin ixD (qVar 1) (qC (.int 1)))) (.tp [(.nm 10), (.nm 11)]) [10, 11] qYes (qTup (qCons (qVar 11) (qCons (qVar 10) qNil))))) qNil)) qNil))) qNil)) 6) (qSeq (qAsg (qCall (fn1 tupleD) (qCons (qSet (qLc (qItems (qTup (qCons (qBin ixD (qVar 2) (qC (.int 1))) (qCons (qBin ixD (qVar 2) (qC (.int 0))) qNil)))) (.nm 12) [12] qYes (qCall (fn1 tupleD) (qCons (qSet (qLc (qItems (qVar 12)) (.nm 13) [13] qYes (qBin subD (qC (.int 0)) (qVar 13)))) qNil)))) qNil)) 7) (qRet (qCallP (sp_equal_17a7 24) (qCons (qVar 6) (qCons (qVar 7) qNil))))))))))

theorem ats_wt {p : Pan} {i : Nat} (hi : i < p.its.length) : wt p i = p.its[i].2 ∧ mk p i = p.its[i].1 := by
  unfold wt mk
  simp [List.getD_eq_getElem?_getD, List.getElem?_eq_getElem hi]
theorem asInts_f {α : Type} (f : α → Int) : ∀ l : List α, asInts (l.map fun a => D.int (f a)) = some (l.map f)
  | [] => rfl
  | a :: l => by simp [asInts, asInts_f f l]
def sp_turned_right_3b73 (r : Addr) : Spec Nat := fun ds g R => ∃ (p : Pan) (lo hi : Nat → Int), ds = [.obj r, panD p, medD p lo hi] ∧ PanOk 8 p ∧ MedX p false lo ∧ MedX p true hi ∧ g + 10 < drawLine ∧ R (.bl true) (g + 1)
theorem len_turned_right_3b73 (r : Addr) (ds : List D) (g : Nat) (R : D → Nat → Prop) (h : sp_turned_right_3b73 r ds g R) : ds.length = 3 := by
  obtain ⟨_, _, _, rfl, _⟩ := h; rfl
theorem p_turned_right_3b73 (r : Addr) (ds : List D) (g : Nat) (R : D → Nat → Prop) (h : sp_turned_right_3b73 r ds g R) : t_turned_right_3b73 r { nx := fun s => R .non s.g, rt := R } ⟨startL 14 ds, g⟩ := by
  have line : (10000000 : Nat) ≤ sizeLine := line_big
  obtain ⟨p, lo, hi, rfl, hp, hlo, hhi, hg, h⟩ := h
  have h1 := hp.one
  have h8 := hp.top
  let A := some (L.val (.obj r))
  let B := some (L.val (panD p))
  let C := some (L.val (medD p lo hi))
  refine seq_mid (M := fun s' => ∃ c : Int, 1 ≤ c ∧ (∀ q ∈ p.its, q.2 * c ≤ 10 ^ 6) ∧ s' = ⟨[A, B, C, some (.val (.int c)), none, none, none, none, none, none, none, none, none, none], g + 1⟩) ?_ ?_
  rotate_left
  · intro N hN
    refine ⟨⟨by decide, by decide, by decide⟩, _, rfl, ?_⟩
    refine lc_mapl p.its itD (fun q => .int q.2) (by omega) (fun q hm => ⟨_, rfl, fun T hT => hT⟩) ?_ (by decide) (by rfl)
    refine ⟨p.its.map fun q => q.2, asInts_f _ _, by rw [List.length_map]; omega, fun m hm hmax => ?_⟩
    obtain ⟨q, hq, rfl⟩ := List.mem_map.mp hm
    have ok := hp.it q hq
    have e6 : (10 : Int) ^ (6 : Int).toNat = 10 ^ 6 := by decide
    have q1 := ok.2.2.1
    have q2 := ok.2.2.2
    have fd : Int.fdiv (10 ^ 6) q.2 = 10 ^ 6 / q.2 := Int.fdiv_eq_ediv_of_nonneg _ (by omega)
    have d1 : 1 ≤ (10 : Int) ^ 6 / q.2 := (Int.le_ediv_iff_mul_le (by omega)).mpr (by omega)
    have d2 : (10 : Int) ^ 6 / q.2 * q.2 ≤ 10 ^ 6 := Int.ediv_mul_le _ (by omega)
    have d3 : (10 : Int) ^ 6 / q.2 ≤ 10 ^ 6 := Int.ediv_le_self _ (by decide)
    refine ⟨?_, _, rfl, ?_, ?_, (by show g < drawLine; omega), fun k k0 k1 => ?_⟩
    · exact divOk_of (ItOk.sz ok).2 (by omega) (by decide)
    · rw [e6, fd]; omega
    · rw [e6, fd]
      have : (10 : Int) ^ 6 ≤ 10 ^ 60 := by decide
      omega
    · rw [e6, fd] at k1
      refine hN _ ⟨1 + k, by omega, fun z hz => ?_, rfl⟩
      have z1 := hmax z.2 (List.mem_map.mpr ⟨z, hz, rfl⟩)
      have z0 := (hp.it z hz).2.2.1
      have t1 : z.2 * (1 + k) ≤ q.2 * (1 + k) := Int.mul_le_mul_of_nonneg_right z1 (by omega)
      have t2 : q.2 * (1 + k) ≤ q.2 * (10 ^ 6 / q.2) := Int.mul_le_mul_of_nonneg_left (by omega) (by omega)
      rw [Int.mul_comm] at d2
      omega
  rintro _ ⟨c, c1, c6, rfl⟩
  have cle : c ≤ 10 ^ 6 := by
    have hm := List.getElem_mem (show 0 < p.its.length by omega)
    have a := c6 _ hm
    have b := (hp.it _ hm).2.2.1
    have t : 1 * c ≤ (p.its[0]).2 * c := Int.mul_le_mul_of_nonneg_right b (by omega)
    omega
  have cz : Sz 50 c := sz_of (by decide) (by omega) (by omega)
  have ql : (wgPn p c).its.length = p.its.length := List.length_map ..
  have hq : PanOk 8 (wgPn p c) := by
    refine ⟨by rw [ql]; exact h1, by rw [ql]; exact h8, fun q hq => ?_, hp.few, by rw [ql]; exact hp.ru⟩
    obtain ⟨a, ha, rfl⟩ := List.mem_map.mp hq
    obtain ⟨o1, o2, o3, o4⟩ := hp.it a ha
    have := c6 a ha
    have t : 1 * 1 ≤ a.2 * c := Int.mul_le_mul o3 c1 (by decide) (by omega)
    exact ⟨o1, o2, by show 1 ≤ a.2 * c; omega, this⟩
  have qat : ∀ i, i < p.its.length → wt (wgPn p c) i = wt p i * c ∧ mk (wgPn p c) i = mk p i := fun i hi => by
    obtain ⟨a, b⟩ := ats_wt hi
    obtain ⟨a', b'⟩ := ats_wt (p := wgPn p c) (i := i) (by omega)
    rw [a, b, a', b']
    simp [wgPn]
  have med : ∀ w x, MedX p w x → MedX (wgPn p c) w x := fun w x hx => ⟨isMed_weigh hp hq (by decide) (by omega) ql rfl qat hx.is, fun i hi => by
    obtain ⟨j, hj, e⟩ := hx.at' i (by omega)
    exact ⟨j, by omega, by rw [(qat j hj).2]; exact e⟩⟩
  let K := some (L.val (.int c))
  refine seq_mid (M := fun s' => s' = ⟨[A, B, C, K, some (.val (panD (wgPn p c))), none, none, none, none, none, none, none, none, none], g + 1⟩) ?_ ?_
  rotate_left
  · intro N hN
    refine ⟨_, rfl, ?_⟩
    refine lc_mapl p.its itD (fun q => itD (q.1, q.2 * c)) (by omega) (fun q hm => ⟨_, rfl, fun T hT => ⟨(ItOk.sz (hp.it q hm)).2.mulOk cz, by show 2 ≤ sizeLine; omega, hT⟩⟩) ?_ (by decide) (by rfl)
    have e : p.its.map (fun q => itD (q.1, q.2 * c)) = (wgPn p c).its.map itD := by unfold wgPn; rw [List.map_map]; rfl
    rw [e]
    exact ⟨_, rfl, by show 2 ≤ sizeLine; omega, hN _ rfl⟩
  rintro _ rfl
  let P2 := some (L.val (panD (wgPn p c)))
  obtain ⟨m1, m2, m3⟩ := medD_ok' hp (by decide) (a := lo) (b := hi)
  refine seq_mid (M := fun s' => s' = ⟨[A, B, C, K, P2, none, none, none, none, none, none, none, none, none], g + 1⟩) ?_ ?_
  rotate_left
  · intro N hN
    refine ⟨8, wgPn p c, lo, hi, rfl, by decide, hq, med _ _ hlo, med _ _ hhi, ?_⟩
    have e : medD (wgPn p c) lo hi = medD p lo hi := by unfold medD; rw [ql]
    rw [e]
    refine ⟨_, rfl, m1, m2, by decide, m3, ?_⟩
    refine ⟨fun hc => (by cases hc), fun _ => ⟨8, wgPn p c, rfl, by decide, hq, fun x hx hj => ⟨8, p, rfl, by decide, hp, fun y hy hk => ?_⟩⟩⟩
    refine ⟨cz.mulOk (spI_sz hp (by decide) ⟨hy, hk⟩), ⟨rfl, rfl, Nat.zero_le 64, Nat.zero_le 64⟩, ⟨fun hc => (int_ne hc ?_).elim, fun _ => hN _ rfl⟩⟩
    exact spI_weigh ql qat fun i hi => ((med_uniq hx ((med _ _ hlo).is) i (by omega)).trans (med_uniq hlo.is hy i hi))
  rintro _ rfl
  have rl : (revP p).its.length = p.its.length := revP_len p
  have hr : PanOk 8 (revP p) := revP_ok hp
  have rat : ∀ i, i < p.its.length → mk (revP p) i = 0 - mk p i := fun i hi => by
    rw [(ats_wt hi).2, (ats_wt (p := revP p) (i := i) (by omega)).2]
    simp [revP]
  have rmed : ∀ w x, MedX p w x → MedX (revP p) (!w) fun i => 0 - x i := fun w x hx => ⟨isMed_rev hp (by decide) hx.is, fun i hi => by
    obtain ⟨j, hj, e⟩ := hx.at' i (by omega)
    exact ⟨j, by omega, by rw [rat j hj, e]⟩⟩
  refine seq_mid (M := fun s' => s' = ⟨[A, B, C, K, P2, some (.val (.tup ((revP p).its.map itD))), none, none, none, none, none, none, none, none], g + 1⟩) ?_ ?_
  rotate_left
  · intro N hN
    refine ⟨_, rfl, ?_⟩
    refine lc_mapl p.its itD (fun q => itD (0 - q.1, q.2)) (by omega) (fun q hm => ⟨_, rfl, fun T hT => ⟨by show 2 ≤ sizeLine; omega, hT⟩⟩) ?_ (by decide) (by rfl)
    have e : p.its.map (fun q => itD (0 - q.1, q.2)) = (revP p).its.map itD := by unfold revP; rw [List.map_map]; rfl
    rw [e]
    exact hN _ rfl
  rintro _ rfl
  let P3 := some (L.val (.tup ((revP p).its.map itD)))
  have few := hp.few
  refine seq_mid (M := fun s' => s' = ⟨[A, B, C, K, P2, P3, some (.val (medD (revP p) (fun i => 0 - hi i) fun i => 0 - lo i)), none, none, none, none, none, none, none], g + 1⟩) ?_ ?_
  rotate_left
  · intro N hN
    refine ⟨_, rfl, ?_⟩
    refine lc_mapl p.rus itD (fun q => itD (q.2, q.1)) (by omega) (fun q hm => ⟨_, rfl, fun T hT => ⟨by show 2 ≤ sizeLine; omega, hT⟩⟩) ?_ (by decide) (by rfl)
    have e : p.rus.map (fun q => itD (q.2, q.1)) = (revP p).rus.map itD := by unfold revP; rw [List.map_map]; rfl
    rw [e]
    refine ⟨by show 2 ≤ sizeLine; omega, 8, revP p, _, _, rfl, by decide, hr, rmed true hi hhi, rmed false lo hlo, hN _ rfl⟩
  rintro _ rfl
  let F := some (L.val (medD (revP p) (fun i => 0 - hi i) fun i => 0 - lo i))
  have er : medD (revP p) (fun i => 0 - hi i) (fun i => 0 - lo i) = .tup [rowI p.its.length fun i => 0 - hi i, rowI p.its.length fun i => 0 - lo i] := by unfold medD; rw [rl]
  obtain ⟨n1, n2, n3⟩ := medD_ok' hr (by decide) (a := fun i => 0 - hi i) (b := fun i => 0 - lo i)
  refine seq_mid (M := fun s' => s' = ⟨[A, B, C, K, P2, P3, F, F, none, none, none, none, none, none], g + 1⟩) ?_ ?_
  rotate_left
  · intro N hN
    refine ⟨_, rfl, _, rfl, by show 2 ≤ sizeLine; omega, ?_⟩
    show lcB _ _ _ _ _ ([hi, lo].map fun x => rowI p.its.length x) _
    refine lc_mapl [hi, lo] (fun x => rowI p.its.length x) (fun x => rowI p.its.length fun i => 0 - x i) (by show 2 ≤ 1000000; decide) (fun x _ => ⟨_, rfl, fun T hT => ?_⟩) ?_ (by decide) (by rfl)
    · refine lc_mapl (List.range p.its.length) (fun i => .int (x i)) (fun i => .int (0 - x i)) (by simp; omega) (fun i _ => ⟨_, rfl, fun T hT => hT⟩) ?_ (by decide) (by rfl)
      exact hT
    · have e : D.tup (List.map (fun x => rowI p.its.length fun i => 0 - x i) [hi, lo]) = medD (revP p) (fun i => 0 - hi i) fun i => 0 - lo i := er.symm
      have key : ∀ T : D → Prop, T (medD (revP p) (fun i => 0 - hi i) fun i => 0 - lo i) → T (D.tup (List.map (fun x => rowI p.its.length fun i => 0 - x i) [hi, lo])) := fun T hT => by rw [e]; exact hT
      exact key (fun d => N ⟨[A, B, C, K, P2, P3, F, some (.val d), none, none, none, none, none, none], g + 1⟩) (hN _ rfl)
  rintro _ rfl
  exact ⟨_, rfl, n1, n2, by decide, n3, h⟩

def t_raised_right_513c (r : Addr) : PSx Nat := (qSeq (qAsg (qCallG (nextS r) (qCons (qVar 0) (qCons (qCall (fn1 lenD) (qCons (qBin ixD (qVar 1) (qC (.int 0))) qNil)) qNil))) 3) (qSeq (qAsgT (qBin ixD (qBin ixD (qVar 1) (qC (.int 0))) (qVar 3)) (.tp [(.nm 4), (.nm 5)])) (qSeq (qAsg (qBin addD (qVar 4) (qCallG (sp_size_3de8 r) (qCons (qVar 0) (qCons (qBin subD (qBin powD (qC (.int 10)) (qC (.int 9))) (qVar 4)) qNil)))) 6) (qSeq (qAsg (qTup (qCons (qBin addD (qBin addD (qSl (qBin ixD (qVar 1) (qC (.int 0))) qNoPart (qPart (qVar 3))) (qTup (qCons (qTup (qCons (qVar 6) (qCons (qVar 5) qNil))) qNil))) (qSl (qBin ixD (qVar 1) (qC (.int 0))) (qPart (qBin addD (qVar 3) (qC (.int 1)))) qNoPart)) (qCons (qBin ixD (qVar 1) (qC (.int 1))) qNil))) 7) (qSeq (qFor (qZip (qCons (qVar 2) (qCons (qCallP (sp_both_dcd2) (qCons (qVar 7) qNil)) qNil))) (.tp [(.nm 8), (.nm 9)]) (qIf (qB (qBin neD (qSet (qLc (qRange1 (qCons (qCall (fn1 lenD) (qCons (qVar 8) qNil)) qNil)) (.nm 11) [11] (qB (qBin ltD (qBin ixD (qVar 9) (qVar 11)) (qBin ixD (qVar 8) (qVar 11)))) (qVar 11))) (qSet (qLst qNil)))) (qRet (qC (.bl false))) qNext)) (qSeq (qIf (qOr (qB (qBin eqD (qCall (fn1 lenD) (qCons (qBin ixD (qVar 1) (qC (.int 0))) qNil)) (qC (.int 1)))) (qB (qBin eqD (qCall (fn1 lenD) (qCons (qBin ixD (qVar 1) (qC (.int 1))) qNil)) (qC (.int 16))))) (qRet (qC (.bl true))) qNext) (qSeq (qAsg (qTup (qCons (qBin ixD (qVar 1) (qC (.int 0))) (qCons (qBin addD (qBin ixD (qVar 1) (qC (.int 1))) (qTup (qCons (qTup (qCons (qVar 3) (qCons (qBin modD (qBin addD (qVar 3) (qC (.int 1))) (qCall (fn1 lenD) (qCons (qBin ixD (qVar 1) (qC (.int 0))) qNil))) qNil))) qNil))) qNil))) 10) (qRet (qBin geD (qCallP (sp_least_spread_c534) (qCons (qVar 10) qNil)) (qCallP (sp_least_spread_c534) (qCons (qVar 1) qNil)))))))))))

theorem rowI_at {n i : Nat} (x : Nat → Int) (h : i < n) : idx ((List.range n).map fun i => D.int (x i)) (i : Int) = some (.int (x i)) := by
  rw [idx_nat', List.getElem?_map, List.getElem?_range h]; rfl
def sp_raised_right_513c (r : Addr) : Spec Nat := fun ds g R => ∃ (p : Pan) (lo hi : Nat → Int), ds = [.obj r, panD p, medD p lo hi] ∧ PanOk 8 p ∧ MedX p false lo ∧ MedX p true hi ∧ g + 10 < drawLine ∧ R (.bl true) (g + 4)
theorem len_raised_right_513c (r : Addr) (ds : List D) (g : Nat) (R : D → Nat → Prop) (h : sp_raised_right_513c r ds g R) : ds.length = 3 := by
  obtain ⟨_, _, _, rfl, _⟩ := h; rfl
theorem p_raised_right_513c (r : Addr) (ds : List D) (g : Nat) (R : D → Nat → Prop) (h : sp_raised_right_513c r ds g R) : t_raised_right_513c r { nx := fun s => R .non s.g, rt := R } ⟨startL 12 ds, g⟩ := by
  have line : (10000000 : Nat) ≤ sizeLine := line_big
  obtain ⟨p, lo, hi, rfl, hp, hlo, hhi, hg, h⟩ := h
  have h1 := hp.one
  have h8 := hp.top
  have few := hp.few
  have ml : (p.its.map itD).length = p.its.length := by simp
  let A := some (L.val (.obj r))
  let B := some (L.val (panD p))
  let C := some (L.val (medD p lo hi))
  refine seq_mid (M := fun s' => ∃ j : Nat, j < p.its.length ∧ s' = ⟨[A, B, C, some (.val (natD j)), none, none, none, none, none, none, none, none], g + 1⟩) ?_ ?_
  rotate_left
  · intro N hN
    have big : (8 : Int) ≤ 10 ^ 60 := by decide
    refine ⟨_, rfl, (p.its.map itD).length, rfl, by omega, by omega, (by show g < drawLine; omega), fun k k0 k1 => ?_⟩
    obtain ⟨k, rfl⟩ : ∃ j : Nat, k = (j : Int) := ⟨k.toNat, by omega⟩
    exact hN _ ⟨k, by omega, rfl⟩
  rintro _ ⟨j, hj, rfl⟩
  let J := some (L.val (natD j))
  obtain ⟨q, hq⟩ : ∃ q, p.its[j]? = some q := ⟨p.its[j], List.getElem?_eq_getElem hj⟩
  have qm := List.mem_of_getElem? hq
  obtain ⟨o1, o2, o3, o4⟩ := hp.it q qm
  refine seq_mid (M := fun s' => s' = ⟨[A, B, C, J, some (.val (.int q.1)), some (.val (.int q.2)), none, none, none, none, none, none], g + 1⟩) ?_ ?_
  rotate_left
  · intro N hN
    refine ⟨_, rfl, itD q, by show idx (p.its.map itD) (j : Int) = _; rw [idx_nat', List.getElem?_map, hq]; rfl, ?_⟩
    exact put_tg (tg := .tp [.nm 4, .nm 5]) (d := itD q) rfl (hN _ rfl)
  rintro _ rfl
  refine seq_mid (M := fun s' => ∃ v : Int, q.1 ≤ v ∧ v ≤ 10 ^ 9 ∧ s' = ⟨[A, B, C, J, some (.val (.int q.1)), some (.val (.int q.2)), some (.val (.int v)), none, none, none, none, none], g + 4⟩) ?_ ?_
  rotate_left
  · intro N hN
    have e9 : (10 : Int) ^ (9 : Int).toNat = 10 ^ 9 := by decide
    have e50 : (10 : Int) ^ 10 ≤ 10 ^ 50 := by decide
    refine ⟨⟨by decide, by decide, by decide⟩, _, rfl, by rw [e9]; omega, by rw [e9]; omega, by show g + 1 + 2 < drawLine; omega, fun v v0 v1 => ?_⟩
    rw [e9] at v1
    exact hN _ ⟨q.1 + v, by omega, by omega, rfl⟩
  rintro _ ⟨v, v0, v1, rfl⟩
  let P := Pan.mk (p.its.set j (v, q.2)) p.rus
  have pl : P.its.length = p.its.length := List.length_set ..
  have hP : PanOk 8 P := by
    refine ⟨by rw [pl]; exact h1, by rw [pl]; exact h8, fun z hz => ?_, few, by rw [pl]; exact hp.ru⟩
    rcases List.mem_or_eq_of_mem_set hz with hz | rfl
    · exact hp.it z hz
    · exact ⟨by show -(10 ^ 9) ≤ v; omega, v1, o3, o4⟩
  have pat : ∀ i, i < p.its.length → wt P i = wt p i ∧ mk p i ≤ mk P i := fun i hi => by
    unfold wt mk
    show ((p.its.set j (v, q.2)).getD i (0, 1)).2 = _ ∧ _ ≤ ((p.its.set j (v, q.2)).getD i (0, 1)).1
    simp only [List.getD_eq_getElem?_getD]
    by_cases e : j = i
    · subst e
      rw [List.getElem?_set_self hj, hq]
      exact ⟨rfl, v0⟩
    · rw [List.getElem?_set_ne e]
      exact ⟨rfl, Int.le_refl _⟩
  let V1 := some (L.val (.int q.1))
  let V2 := some (L.val (.int q.2))
  let V3 := some (L.val (.int v))
  refine seq_mid (M := fun s' => s' = ⟨[A, B, C, J, V1, V2, V3, some (.val (panD P)), none, none, none, none], g + 4⟩) ?_ ?_
  rotate_left
  · intro N hN
    have c1 : cut (p.its.map itD) none (some (j : Int)) = (p.its.take j).map itD := by rw [cut_to, List.map_take]
    have c2 : cut (p.its.map itD) (some ((j : Int) + 1)) none = (p.its.drop (j + 1)).map itD := by
      have := cut_from (p.its.map itD) (j + 1)
      rw [List.map_drop]; exact this
    have e : cut (p.its.map itD) none (some (j : Int)) ++ [itD (v, q.2)] ++ cut (p.its.map itD) (some ((j : Int) + 1)) none = (p.its.set j (v, q.2)).map itD := by
      rw [c1, c2, List.set_eq_take_append_cons_drop, if_pos hj]; simp
    have l1 : (cut (p.its.map itD) none (some (j : Int))).length ≤ 1000 := by rw [c1, List.length_map]; exact Nat.le_trans (List.length_take_le' _ _) (by omega)
    have l2 : (cut (p.its.map itD) (some ((j : Int) + 1)) none).length ≤ 1000 := by rw [c2, List.length_map, List.length_drop]; omega
    refine ⟨_, rfl, (by show 2 ≤ sizeLine; omega), (by show 1 ≤ sizeLine; omega), (by show (cut (p.its.map itD) none (some (j : Int))).length + 1 ≤ sizeLine; omega), ?_⟩
    refine ⟨_, rfl, ?_, _, rfl, (by show 2 ≤ sizeLine; omega), ?_⟩
    · rw [List.length_append]
      show (cut (p.its.map itD) none (some (j : Int))).length + 1 + (cut (p.its.map itD) (some ((j : Int) + 1)) none).length ≤ sizeLine
      omega
    · have key : ∀ T : D → Prop, T (panD P) → T (.tup [.tup (cut (p.its.map itD) none (some (j : Int)) ++ [itD (v, q.2)] ++ cut (p.its.map itD) (some ((j : Int) + 1)) none), .tup (p.rus.map itD)]) := fun T hT => by rw [e]; exact hT
      exact key (fun d => N ⟨[A, B, C, J, V1, V2, V3, some (.val d), none, none, none, none], g + 4⟩) (hN _ rfl)
  rintro _ rfl
  let Q := some (L.val (panD P))
  obtain ⟨lo', hlo'⟩ := medX_ex false hP (by decide)
  obtain ⟨hi', hhi'⟩ := medX_ex true hP (by decide)
  refine seq_mid (M := fun s' => s' = ⟨[A, B, C, J, V1, V2, V3, Q, none, none, none, none], g + 4⟩) ?_ ?_
  rotate_left
  · intro N hN
    refine ⟨8, P, lo', hi', rfl, by decide, hP, hlo', hhi', ?_⟩
    refine ⟨fun k s' => s' = ⟨[A, B, C, J, V1, V2, V3, Q, none, none, none, none], g + 4⟩, ⟨_, Wk.refl _, rfl⟩, ?_, ?_⟩
    · rintro k d s' hd rfl
      obtain ⟨x, y, rfl, hxy⟩ : ∃ x y : Nat → Int, d = .tup [rowI p.its.length x, rowI p.its.length y] ∧ ∀ i, i < p.its.length → x i ≤ y i := by
        have hd : ([D.tup [rowI p.its.length lo, rowI P.its.length lo'], .tup [rowI p.its.length hi, rowI P.its.length hi']])[k]? = some d := hd
        rw [pl] at hd
        have hk : k = 0 ∨ k = 1 := by have := (List.getElem?_eq_some_iff.mp hd).1; simp at this; omega
        rcases hk with rfl | rfl
        · cases hd
          exact ⟨lo, lo', rfl, fun i hi => isMed_mono hp hP (by decide) pl rfl pat hlo.is hlo'.is hi⟩
        · cases hd
          exact ⟨hi, hi', rfl, fun i hi => isMed_mono hp hP (by decide) pl rfl pat hhi.is hhi'.is hi⟩
      refine put_tg rfl ?_
      have rl : ((List.range p.its.length).map fun i => D.int (x i)).length = p.its.length := by simp
      refine ⟨⟨by show -(2 ^ 62) ≤ (((List.range p.its.length).map fun i => D.int (x i)).length : Int); omega, by show (((List.range p.its.length).map fun i => D.int (x i)).length : Int) < 2 ^ 62; omega⟩, ?_⟩
      show lcB _ _ _ _ _ ((List.range (((List.range p.its.length).map fun i => D.int (x i)).length : Int).toNat).map natD) _
      rw [rl, Int.toNat_natCast]
      refine lc_list (List.range p.its.length) natD (fun k => decide (y k < x k)) natD (by simp; omega) (fun k hk => ?_) ?_ (by decide) (by rfl)
      · have hk := List.mem_range.mp hk
        exact ⟨_, rfl, fun T hT => ⟨_, rowI_at y hk, _, rowI_at x hk, hT⟩, fun _ T hT => hT⟩
      · have e : (List.range p.its.length).filter (fun k => decide (y k < x k)) = [] := by
          rw [List.filter_eq_nil_iff]
          intro k hk
          have := hxy k (List.mem_range.mp hk)
          simp only [decide_eq_true_eq]; omega
        rw [e]
        refine ⟨Nat.zero_le _, ⟨rfl, rfl, by decide, by decide⟩, ⟨fun hc => (by cases hc), fun _ => ?_⟩⟩
        exact ⟨_, Wk.of (by repeat' first | exact trivial | exact .inr rfl | exact .inl rfl | refine ⟨?_, ?_⟩), rfl⟩
    · rintro s' rfl
      exact hN _ rfl
  rintro _ rfl
  refine seq_mid (M := fun s' => p.its.length ≠ 1 ∧ p.rus.length ≠ 16 ∧ s' = ⟨[A, B, C, J, V1, V2, V3, Q, none, none, none, none], g + 4⟩) ?_ ?_
  rotate_left
  · intro N hN
    have rl : (p.rus.map itD).length = p.rus.length := by simp
    refine ⟨_, rfl, ⟨rfl, rfl, Nat.zero_le 64, Nat.zero_le 64⟩, ⟨fun hc => ?_, fun hc => ?_⟩⟩
    · exact ⟨fun _ => h, fun hc => (by cases hc)⟩
    · refine ⟨_, rfl, ⟨rfl, rfl, Nat.zero_le 64, Nat.zero_le 64⟩, ⟨fun hc2 => h, fun hc2 => hN _ ⟨fun e => ?_, fun e => ?_, rfl⟩⟩⟩
      · have hc : D.eqv (.int ((p.its.map itD).length : Int)) (.int 1) = false := hc
        rw [ml, e] at hc
        exact absurd hc (by decide)
      · have hc2 : D.eqv (.int ((p.rus.map itD).length : Int)) (.int 16) = false := hc2
        rw [rl, e] at hc2
        exact absurd hc2 (by decide)
  rintro _ ⟨n1, n16, rfl⟩
  let nx : Int := ((j : Int) + 1) % (p.its.length : Int)
  have nx0 : 0 ≤ nx := Int.emod_nonneg _ (by omega)
  have nx1 : nx < p.its.length := Int.emod_lt_of_pos _ (by omega)
  have nxj : (j : Int) ≠ nx := by
    intro e
    by_cases c : j + 1 < p.its.length
    · have : nx = (j : Int) + 1 := Int.emod_eq_of_lt (by omega) (by omega)
      omega
    · have e2 : (j : Int) + 1 = p.its.length := by omega
      have : nx = 0 := by show ((j : Int) + 1) % _ = 0; rw [e2]; exact Int.emod_self
      omega
  let W := Pan.mk p.its (p.rus ++ [((j : Int), nx)])
  have hW : PanOk 8 W := by
    refine ⟨h1, h8, hp.it, by show (p.rus ++ _).length ≤ 16; rw [List.length_append]; show p.rus.length + 1 ≤ 16; omega, fun z hz => ?_⟩
    rcases List.mem_append.mp hz with hz | hz
    · exact hp.ru z hz
    · rw [List.mem_singleton.mp hz]
      exact ⟨by show (0 : Int) ≤ j; omega, by show (j : Int) < p.its.length; omega, nx0, nx1, nxj⟩
  refine seq_mid (M := fun s' => s' = ⟨[A, B, C, J, V1, V2, V3, Q, none, none, some (.val (panD W)), none], g + 4⟩) ?_ ?_
  rotate_left
  · intro N hN
    refine ⟨_, rfl, _, rfl, _, rfl, ?_⟩
    have rl : (p.rus.map itD).length = p.rus.length := by simp
    refine ⟨by show (0 : Int) < ((p.its.map itD).length : Int); omega, by show 2 ≤ sizeLine; omega, by show 1 ≤ sizeLine; omega, by show (p.rus.map itD).length + 1 ≤ sizeLine; omega, by show 2 ≤ sizeLine; omega, ?_⟩
    have e : p.rus.map itD ++ [.tup [natD j, .int (((j : Int) + 1) % ((p.its.map itD).length : Int))]] = W.rus.map itD := by
      rw [ml]
      show _ = (p.rus ++ [((j : Int), nx)]).map itD
      rw [List.map_append]; rfl
    have key : ∀ T : D → Prop, T (panD W) → T (.tup [.tup (p.its.map itD), .tup (p.rus.map itD ++ [.tup [natD j, .int (((j : Int) + 1) % ((p.its.map itD).length : Int))]])]) := fun T hT => by rw [e]; exact hT
    exact key (fun d => N ⟨[A, B, C, J, V1, V2, V3, Q, none, none, some (.val d), none], g + 4⟩) (hN _ rfl)
  rintro _ rfl
  refine ⟨8, W, rfl, by decide, hW, fun x hx hj => ⟨8, p, rfl, by decide, hp, fun y hy hk => ?_⟩⟩
  have le : spI p y ≤ spI p x := (hy.opt hp (by decide)).le hp fun a b e => (hx.opt hW (by decide)).ob hW a b (List.mem_append_left _ e)
  have le : spI p y ≤ spI W x := le
  show R (.bl (decide (spI p y ≤ spI W x))) (g + 4)
  rw [decide_eq_true le]; exact h

def t_order_right_b5e6 (r : Addr) : PSx Nat := (qSeq (qParM 3 4 (qmOwn (qLstRg1 (qCall (fn1 lenD) (qCons (qBin ixD (qVar 1) (qC (.int 0))) qNil))) (qmOwn (qLst qNil) qmNil))) (qSeq (qWhile (qB (qBinN1 neD 3 (qSet (qLst qNil)))) (qDrop (qAppend 4 (qPopAt 3 (qCallG (nextS r) (qCons (qVar 0) (qCons (qLenN 3) qNil))))))) (qSeq (qAsg (qCall (fn1 tupleD) (qCons (qSet (qLc (qItems (qBin ixD (qVar 1) (qC (.int 1)))) (.tp [(.nm 7), (.nm 8)]) [7, 8] qYes (qTup (qCons (qIndexN 4 (qVar 7)) (qCons (qIndexN 4 (qVar 8)) qNil))))) qNil)) 5) (qSeq (qAsg (qCallP (sp_both_dcd2) (qCons (qTup (qCons (qCall (fn1 tupleD) (qCons (qSet (qLc (qItems (qVar 4)) (.nm 9) [9] qYes (qBin ixD (qBin ixD (qVar 1) (qC (.int 0))) (qVar 9)))) qNil)) (qCons (qVar 5) qNil))) qNil)) 6) (qRet (qCallP (sp_equal_17a7 24) (qCons (qVar 6) (qCons (qCall (fn1 tupleD) (qCons (qSet (qLc (qItems (qVar 2)) (.nm 10) [10] qYes (qCall (fn1 tupleD) (qCons (qSet (qLc (qItems (qVar 4)) (.nm 9) [9] qYes (qBin ixD (qVar 10) (qVar 9)))) qNil)))) qNil)) qNil))))))))

theorem erase_mp {α β : Type} (f : α → β) : ∀ (l : List α) (k : Nat), (l.map f).eraseIdx k = (l.eraseIdx k).map f
  | [], _ => rfl
  | _ :: _, 0 => rfl
  | x :: l, k + 1 => by simp only [List.map_cons, List.eraseIdx_cons_succ, erase_mp f l k]
theorem idx_row {n i : Nat} (x : Nat → Int) (h : i < n) : idx ((List.range n).map fun i => D.int (x i)) (i : Int) = some (.int (x i)) := by
  rw [idx_nat', List.getElem?_map, List.getElem?_range h]; rfl
def sp_order_right_b5e6 (r : Addr) : Spec Nat := fun ds g R => ∃ (p : Pan) (lo hi : Nat → Int), ds = [.obj r, panD p, medD p lo hi] ∧ PanOk 8 p ∧ MedX p false lo ∧ MedX p true hi ∧ g + 10 < drawLine ∧ R (.bl true) (g + p.its.length)
theorem len_order_right_b5e6 (r : Addr) (ds : List D) (g : Nat) (R : D → Nat → Prop) (h : sp_order_right_b5e6 r ds g R) : ds.length = 3 := by
  obtain ⟨_, _, _, rfl, _⟩ := h; rfl
theorem ints_ok {n : Nat} : ∀ l : List Nat, D.plns (l.map natD) = true ∧ D.deps (l.map natD) = 0
  | [] => ⟨rfl, rfl⟩
  | a :: l => by
    obtain ⟨x, y⟩ := ints_ok (n := n) l
    exact ⟨by simpa [D.plns, natD, D.pln] using x, by simp only [List.map_cons, D.deps, natD, D.dep, y]; rfl⟩
theorem p_order_right_b5e6 (r : Addr) (ds : List D) (g : Nat) (R : D → Nat → Prop) (h : sp_order_right_b5e6 r ds g R) : t_order_right_b5e6 r { nx := fun s => R .non s.g, rt := R } ⟨startL 11 ds, g⟩ := by
  have line : (10000000 : Nat) ≤ sizeLine := line_big
  obtain ⟨p, lo, hi, rfl, hp, hlo, hhi, hg, h⟩ := h
  have h1 := hp.one
  have h8 := hp.top
  have few := hp.few
  have ml : (p.its.map itD).length = p.its.length := by simp
  let A := some (L.val (.obj r))
  let B := some (L.val (panD p))
  let C := some (L.val (medD p lo hi))
  refine seq_mid (M := fun s' => s' = ⟨[A, B, C, some (.own ((List.range p.its.length).map natD)), some (.own []), none, none, none, none, none, none], g⟩) ?_ ?_
  rotate_left
  · intro N hN
    refine ⟨_, rfl, ⟨by show -(2 ^ 62) ≤ ((p.its.map itD).length : Int); omega, by show ((p.its.map itD).length : Int) ≤ 2 ^ 24; omega⟩, (by show 0 ≤ sizeLine; omega), ?_⟩
    have e : rgD 0 ((p.its.map itD).length : Int) = (List.range p.its.length).map natD := by
      rw [ml]
      unfold rgD natD
      rw [Int.sub_zero, Int.toNat_natCast]
      exact List.map_congr_left fun k _ => by rw [Int.zero_add]
    have key : ∀ T : List D → Prop, T ((List.range p.its.length).map natD) → T (rgD 0 ((p.its.map itD).length : Int)) := fun T hT => by rw [e]; exact hT
    exact key (fun ds => N ⟨[A, B, C, some (.own ds), some (.own []), none, none, none, none, none, none], g⟩) (hN _ rfl)
  rintro _ rfl
  refine seq_mid (M := fun s' => ∃ os : List Nat, OrdP p.its.length os ∧ s' = ⟨[A, B, C, some (.own []), some (.own ((os.map fun k : Nat => (k : Int)).map D.int)), none, none, none, none, none, none], g + p.its.length⟩) ?_ ?_
  rotate_left
  · intro N hN
    refine ⟨fun m s => ∃ left found : List Nat, m = left.length ∧ (found ++ left).Perm (List.range p.its.length) ∧ s = ⟨[A, B, C, some (.own (left.map natD)), some (.own (found.map natD)), none, none, none, none, none, none], g + found.length⟩, ⟨p.its.length, _, Wk.refl _, List.range p.its.length, [], by simp, .refl _, rfl⟩, ?_⟩
    rintro m s ⟨left, found, rfl, hpm, rfl⟩
    have hlen := hpm.length_eq
    rw [List.length_append, List.length_range] at hlen
    obtain ⟨q1, q2⟩ := ints_ok (n := 0) left
    have lm : (left.map natD).length = left.length := by simp
    have fm : (found.map natD).length = found.length := by simp
    refine ⟨rfl, (by show 0 ≤ sizeLine; omega), .lst (left.map natD), rfl, ⟨q1, rfl, by show D.deps (left.map natD) + 1 ≤ 64; omega, by show 0 + 1 ≤ 64; decide⟩, ?_⟩
    refine ⟨fun c => ?_, fun c => ?_⟩
    · have ne : left ≠ [] := fun e => by rw [e] at c; cases c
      have lp : 0 < left.length := List.length_pos_iff.mpr ne
      refine ⟨⟨_, rfl⟩, ⟨_, rfl⟩, left.map natD, rfl, ((left.map natD).length : Int), rfl, by omega, ?_, (by show g + found.length < drawLine; omega), fun k k0 k1 => ?_⟩
      · have e : (10 : Int) ^ 60 ≥ 1000 := by decide
        omega
      have kl : k.toNat < left.length := by omega
      refine ⟨left.map natD, natD left[k.toNat], rfl, ⟨k0, by omega⟩, by rw [List.getElem?_map, List.getElem?_eq_getElem kl]; rfl, found.map natD, rfl, by show (found.map natD).length + 1 ≤ sizeLine; omega, left.length - 1, ⟨[A, B, C, some (.own ((left.map natD).eraseIdx k.toNat)), some (.own (found.map natD ++ [natD left[k.toNat]])), none, none, none, none, none, none], g + (found ++ [left[k.toNat]]).length⟩, by omega, ?_, left.eraseIdx k.toNat, found ++ [left[k.toNat]], by rw [List.length_eraseIdx_of_lt kl], ?_, ?_⟩
      · rw [List.length_append]
        exact Wk.refl _
      · refine List.Perm.trans ?_ hpm
        rw [List.append_assoc]
        refine List.Perm.append_left _ ?_
        exact takeout_perm left k.toNat kl
      · have e1 : (left.map natD).eraseIdx k.toNat = (left.eraseIdx k.toNat).map natD := erase_mp _ _ _
        have e2 : found.map natD ++ [natD left[k.toNat]] = (found ++ [left[k.toNat]]).map natD := by rw [List.map_append]; rfl
        rw [e1, e2]
    · have e0 : left = [] := by
        cases left with
        | nil => rfl
        | cons x l => cases c
      subst e0
      have e3 : found.length = p.its.length := by simpa using hlen
      refine hN _ ⟨found, ⟨by simpa using hpm⟩, ?_⟩
      rw [e3, List.map_map]; rfl
  rintro _ ⟨os, ho, rfl⟩
  let O := some (L.own ((os.map fun k : Nat => (k : Int)).map D.int))
  have hq := ho.ok hp
  have ql := ho.plen
  have ol := ho.len
  have fi : ∀ a : Int, 0 ≤ a → a < p.its.length → (os.map fun k : Nat => (k : Int))[osV os a.toNat]? = some a ∧ ∀ m : Nat, m < osV os a.toNat → (os.map fun k : Nat => (k : Int))[m]? ≠ some a := fun a a0 a1 => by
    obtain ⟨x1, x2⟩ := ho.first (i := a.toNat) (by omega)
    refine ⟨by rw [List.getElem?_map, x1]; show some ((a.toNat : Nat) : Int) = some a; rw [Int.toNat_of_nonneg a0], fun m hm e => x2 m hm ?_⟩
    rw [List.getElem?_map] at e
    obtain ⟨z, hz, e⟩ := Option.map_eq_some_iff.mp e
    rw [hz]
    congr 1
    omega
  refine seq_mid (M := fun s' => s' = ⟨[A, B, C, some (.own []), O, some (.val (.tup ((orP os p).rus.map itD))), none, none, none, none, none], g + p.its.length⟩) ?_ ?_
  rotate_left
  · intro N hN
    refine ⟨_, rfl, ?_⟩
    refine lc_mapl p.rus itD (fun z => itD ((osV os z.1.toNat : Nat), (osV os z.2.toNat : Nat))) (by omega) (fun z hz => ⟨_, rfl, fun T hT => ?_⟩) ?_ (by decide) (by rfl)
    · obtain ⟨a1, a2, a3, a4, a5⟩ := hp.ru z hz
      obtain ⟨x1, x2⟩ := fi z.1 a1 a2
      obtain ⟨y1, y2⟩ := fi z.2 a3 a4
      exact ⟨⟨_, rfl⟩, _, z.1, osV os z.1.toNat, rfl, rfl, x1, x2, ⟨_, rfl⟩, _, z.2, osV os z.2.toNat, rfl, rfl, y1, y2, by show 2 ≤ sizeLine; omega, hT⟩
    · have e : p.rus.map (fun z => itD ((osV os z.1.toNat : Nat), (osV os z.2.toNat : Nat))) = (orP os p).rus.map itD := by unfold orP; rw [List.map_map]; rfl
      rw [e]
      exact hN _ rfl
  rintro _ rfl
  let U := some (L.val (.tup ((orP os p).rus.map itD)))
  let O2 := some (L.val (.lst ((os.map fun k : Nat => (k : Int)).map D.int)))
  refine seq_mid (M := fun s' => s' = ⟨[A, B, C, some (.own []), O2, U, some (.val (medD (orP os p) (fun k => lo (osS os k)) fun k => hi (osS os k))), none, none, none, none], g + p.its.length⟩) ?_ ?_
  rotate_left
  · intro N hN
    refine lc_mapl (os.map fun k : Nat => (k : Int)) D.int (fun a => itD (p.its.getD a.toNat (0, 1))) (by rw [List.length_map]; omega) (fun a ha => ⟨_, rfl, fun T hT => ?_⟩) ?_ (by decide) (by rfl)
    · obtain ⟨k, hk, rfl⟩ := List.mem_map.mp ha
      have hk := ho.mem.mp hk
      exact ⟨_, rfl, _, by show idx (p.its.map itD) (k : Int) = _; rw [idx_nat', List.getElem?_map, getD_at (its := p.its) hk]; rfl, hT⟩
    · refine ⟨by show 2 ≤ sizeLine; omega, ?_⟩
      have e : (os.map fun k : Nat => (k : Int)).map (fun a => itD (p.its.getD a.toNat (0, 1))) = (orP os p).its.map itD := by unfold orP; rw [List.map_map, List.map_map]; rfl
      rw [e]
      exact ⟨8, orP os p, _, _, rfl, by decide, hq, ho.med hp (by decide) hlo, ho.med hp (by decide) hhi, hN _ rfl⟩
  rintro _ rfl
  obtain ⟨m1, m2, m3⟩ := medD_ok' hq (by decide) (a := fun k => lo (osS os k)) (b := fun k => hi (osS os k))
  show lcB _ _ _ _ _ ([lo, hi].map fun x => rowI p.its.length x) _
  refine lc_mapl [lo, hi] (fun x => rowI p.its.length x) (fun x => rowI p.its.length fun k => x (osS os k)) (by show 2 ≤ 1000000; decide) (fun x _ => ⟨_, rfl, fun T hT => ?_⟩) ?_ (by decide) (by rfl)
  · refine lc_mapl (os.map fun k : Nat => (k : Int)) D.int (fun a => .int (x a.toNat)) (by rw [List.length_map]; omega) (fun a ha => ⟨_, rfl, fun T hT => ?_⟩) ?_ (by decide) (by rfl)
    · obtain ⟨k, hk, rfl⟩ := List.mem_map.mp ha
      have hk := ho.mem.mp hk
      refine ⟨_, idx_row x hk, hT⟩
    · have e : (os.map fun k : Nat => (k : Int)).map (fun a => D.int (x a.toNat)) = (List.range p.its.length).map fun k => D.int (x (osS os k)) := by
        rw [List.map_map, ho.map (fun k => D.int (x k))]; rfl
      rw [e]
      exact hT
  · refine ⟨_, ?_, m1, m2, by decide, m3, h⟩
    have e : D.tup ([lo, hi].map fun x => rowI p.its.length fun k => x (osS os k)) = medD (orP os p) (fun k => lo (osS os k)) fun k => hi (osS os k) := by
      unfold medD; rw [ql]; rfl
    show [medD (orP os p) (fun k => lo (osS os k)) fun k => hi (osS os k), D.tup ([lo, hi].map fun x => rowI p.its.length fun k => x (osS os k))] = _
    rw [e]

def t_law_8c4c (r : Addr) : PSx Nat := (qSeq (qFor (qRange1 (qCons (qC (.int 2)) qNil)) (.nm 2) (qSeq (qAsg (qCallG (sp_panel_3836 r) (qCons (qVar 1) (qCons (qC (.int 8)) qNil))) 3) (qSeq (qAsg (qCallP (sp_both_dcd2) (qCons (qVar 3) qNil)) 4) (qSeq (qIf (qOr (qNot (qB (qCallG (sp_replaced_right_5eb3 r) (qCons (qVar 1) (qCons (qVar 3) (qCons (qVar 4) qNil)))))) (qNot (qB (qCallG (sp_turned_right_3b73 r) (qCons (qVar 1) (qCons (qVar 3) (qCons (qVar 4) qNil))))))) (qRet (qC (.bl false))) qNext) (qIf (qOr (qNot (qB (qCallG (sp_raised_right_513c r) (qCons (qVar 1) (qCons (qVar 3) (qCons (qVar 4) qNil)))))) (qNot (qB (qCallG (sp_order_right_b5e6 r) (qCons (qVar 1) (qCons (qVar 3) (qCons (qVar 4) qNil))))))) (qRet (qC (.bl false))) qNext))))) (qRet (qC (.bl true))))

theorem p_law_8c4c (r : Addr) : t_law_8c4c r { nx := fun _ => False, rt := fun d _ => d = .bl true } ⟨(List.replicate 5 none).set 1 (some (.val (.obj r))), 0⟩ := by
  have lim : drawLine = 16777216 := by decide
  have line : (10000000 : Nat) ≤ sizeLine := line_big
  let O := some (L.val (.obj r))
  refine ⟨⟨by decide, by decide⟩, fun i s => ∃ g, g ≤ 3000 * i ∧ s = ⟨[none, O, none, none, none], g⟩, ⟨_, Wk.refl _, 0, by omega, rfl⟩, ?_, ?_⟩
  · rintro i d s hd ⟨g, hg, rfl⟩
    have hi : i < 2 := (List.getElem?_eq_some_iff.mp hd).1
    let I := some (L.val d)
    refine put_nm ?_
    refine seq_mid (M := fun s' => ∃ (p : Pan) (g1 : Nat), PanOk 8 p ∧ g ≤ g1 ∧ g1 ≤ g + 400 ∧ s' = ⟨[none, O, I, some (.val (panD p)), none], g1⟩) ?_ ?_
    rotate_left
    · intro N hN
      exact ⟨8, rfl, by decide, by decide, (by show g + 1000 < drawLine; omega), fun p g1 hp a1 a2 => hN _ ⟨p, g1, hp, a1, a2, rfl⟩⟩
    rintro _ ⟨p, g1, hp, ga, gb, rfl⟩
    have h8 := hp.top
    obtain ⟨lo, hlo⟩ := medX_ex false hp (by decide)
    obtain ⟨hi', hhi⟩ := medX_ex true hp (by decide)
    let P := some (L.val (panD p))
    let Q := some (L.val (medD p lo hi'))
    refine seq_mid (M := fun s' => s' = ⟨[none, O, I, P, Q], g1⟩) ?_ ?_
    rotate_left
    · intro N hN
      exact ⟨8, p, lo, hi', rfl, by decide, hp, hlo, hhi, hN _ rfl⟩
    rintro _ rfl
    refine seq_mid (M := fun s' => ∃ g2, g2 ≤ g1 + 20 ∧ s' = ⟨[none, O, I, P, Q], g2⟩) ?_ ?_
    rotate_left
    · intro N hN
      refine ⟨p, lo, hi', rfl, hp, hlo, hhi, (by show g1 + 20 < drawLine; omega), fun g2 x1 x2 => ⟨fun hc => (by cases hc), fun _ => ?_⟩⟩
      have x2 : g2 ≤ g1 + 10 := x2
      exact ⟨p, lo, hi', rfl, hp, hlo, hhi, (by show g2 + 10 < drawLine; omega), ⟨fun hc => (by cases hc), fun _ => hN _ ⟨g2 + 1, by omega, rfl⟩⟩⟩
    rintro _ ⟨g2, g3, rfl⟩
    refine ⟨p, lo, hi', rfl, hp, hlo, hhi, (by show g2 + 10 < drawLine; omega), ⟨fun hc => (by cases hc), fun _ => ?_⟩⟩
    refine ⟨p, lo, hi', rfl, hp, hlo, hhi, (by show g2 + 4 + 10 < drawLine; omega), ⟨fun hc => (by cases hc), fun _ => ?_⟩⟩
    exact ⟨⟨[none, O, none, none, none], g2 + 4 + p.its.length⟩, Wk.of (by repeat' first | exact trivial | exact .inr rfl | exact .inl rfl | refine ⟨?_, ?_⟩), _, by omega, rfl⟩
  · rintro s ⟨g, _, rfl⟩
    exact rfl

end Pm
set_option Elab.async false
set_option linter.all false
set_option maxRecDepth 100000
set_option maxHeartbeats 0
set_option autoImplicit false
namespace Pm
open PySem PySem.Spec
open PyProof.Rows hiding St
open L2
structure Bi (K : PySem.W.Frag) (mg : Str → Option Value) : Prop where
  f_abs : mg "abs" = none
  f_all : mg "all" = none
  f_bool : mg "bool" = none
  f_int : mg "int" = none
  f_isinstance : mg "isinstance" = none
  f_len : mg "len" = none
  f_list : mg "list" = none
  f_max : mg "max" = none
  f_min : mg "min" = none
  f_range : mg "range" = none
  f_set : mg "set" = none
  f_sorted : mg "sorted" = none
  f_str : mg "str" = none
  f_sum : mg "sum" = none
  f_tuple : mg "tuple" = none
  f_zip : mg "zip" = none
theorem bt_abs : bootBuiltins "abs" = some (.builtin "abs") := by decide +kernel
theorem bt_all : bootBuiltins "all" = some (.builtin "all") := by decide +kernel
theorem bt_bool : bootBuiltins "bool" = some (.type "bool") := by decide +kernel
theorem bt_int : bootBuiltins "int" = some (.type "int") := by decide +kernel
theorem bt_len : bootBuiltins "len" = some (.builtin "len") := by decide +kernel
theorem bt_list : bootBuiltins "list" = some (.type "list") := by decide +kernel
theorem bt_max : bootBuiltins "max" = some (.builtin "max") := by decide +kernel
theorem bt_min : bootBuiltins "min" = some (.builtin "min") := by decide +kernel
theorem bt_sorted : bootBuiltins "sorted" = some (.builtin "sorted") := by decide +kernel
theorem bt_str : bootBuiltins "str" = some (.type "str") := by decide +kernel
theorem bt_sum : bootBuiltins "sum" = some (.builtin "sum") := by decide +kernel
theorem bt_tuple : bootBuiltins "tuple" = some (.type "tuple") := by decide +kernel
section
variable {P : Program} {w : World} {K : PySem.W.Frag} {mg : Str → Option Value} {base : Heap}
theorem sc_draws : FnScope ["_law_script", "_law_cells", "_law_cell"] ["_law_script"] (defScope st_draws) := ⟨rfl, rfl, rfl, by decide +kernel, rfl, by decide +kernel, by decide +kernel⟩
theorem ok_draws0 {f fd} (b : Bi K mg) (F : Fn K "_law_draws" "_law_draws" st_draws f fd) : FnOk P w K mg base CX0 1 f fd ["_law_script"] (spDraws K) := ok_draws F sc_draws rfl rfl fun cdv A outer s H E hr => by
  have nd := sc_draws.nd
  exact pss_cons (ps_set (i := 1) nd rfl (by first | exact Or.inl rfl | exact Or.inr rfl) (pe_op op_cat (pe_callTy call_list_of rfl b.f_list bt_list (pa_cons (pe_slice sl_list (pv 0) po_none (po_some pe_int)) pa_nil))
      (pe_op op_rep (pe_lst (pa_cons pe_int pa_nil)) (pe_callTy call_int1 rfl b.f_int bt_int (pa_cons (pe_cmpR op_eq (pe_callB call_len_seq rfl b.f_len bt_len (pa_cons (pv 0) pa_nil)) pe_int (nomark _)) pa_nil)))))
    (pss_one (ps_ret (pe_lst (pa_cons (pv 1) (pa_cons pe_int (pa_cons (pe_lc (own := [("_law_cell", 2)]) rfl nd (pi_list (pv 1)) (blkOk_by (by kernel_rfl)) (fun _ _ _ _ _ => pg_name nd rfl (by first | exact Or.inl rfl | exact Or.inr rfl)) (fun _ _ _ _ _ => pts_nil)
      (fun _ _ _ _ _ => pe_op op_mul (pv 2) (pe_callTy call_int1 rfl b.f_int bt_int (pa_cons (pe_cmpR op_ge (pv 2) (pe_op op_pow pe_int pe_int) (nomark _)) pa_nil)))) pa_nil))))))
theorem sc_next : FnScope ["_law_drawn", "_law_many", "_law_cells", "_law_turn", "_law_rests", "_law_spot", "_law_digit", "_law_mixed", "_law_again"] ["_law_drawn", "_law_many"] (defScope st_next) := ⟨rfl, rfl, rfl, by decide +kernel, rfl, by decide +kernel, by decide +kernel⟩
theorem ok_next0 {f fd} {r c q : Addr} (b : Bi K mg) (F : Fn K "_law_next" "_law_next" st_next f fd) : FnOk P w K mg base CX0 1 f fd ["_law_drawn", "_law_many"] (spG (gr K r c q) (nextS r)) := ok_next F sc_next rfl rfl fun cdv A outer s H E hr => by
  have nd := sc_next.nd
  exact pss_cons (ps_asg (pv 0) (pg_lst rfl (pgs_cons (pg_name nd rfl (.inl rfl)) (pgs_cons (pg_name nd rfl (.inl rfl)) (pgs_cons (pg_name nd rfl (.inl rfl)) pgs_nil)))))
    (pss_cons (ps_set (i := 5) nd rfl (.inl rfl) (pe_op op_mod (pv 3) (pe_callB call_len_seq rfl b.f_len bt_len (pa_cons (pv 2) pa_nil))))
    (pss_cons (ps_asg (pe_op op_add (pv 3) pe_int) (pg_sub (pv 0) pe_int set_list (fun _ => rfl)))
    (pss_cons (ps_if (pt_cmpR op_gt (pe_ix ix_list (pv 4) (pv 5) (fun _ _ => rfl)) pe_int (nomark _))
      (pss_cons (ps_set (i := 6) nd rfl (.inl rfl) (pe_op op_mod (pe_ix ix_list (pv 4) (pv 5) (fun _ _ => rfl)) (pv 1)))
      (pss_cons (ps_asg (pe_op op_fdivM (pe_ix ix_list (pv 4) (pv 5) (fun _ _ => rfl)) (pv 1)) (pg_sub (pv 4) (pv 5) set_list (fun _ => rfl)))
      (pss_one (ps_ret (pv 6))))) pss_nil)
    (pss_cons (ps_set (i := 7) nd rfl (.inl rfl) (pe_op op_mod (pe_op op_pow (pe_op op_add (pe_op op_add (pe_op op_mod (pe_ix ix_list (pv 2) (pv 5) (fun _ _ => rfl)) pe_int) (pe_op op_mul pe_int (pv 3))) pe_int) pe_int) pe_int))
    (pss_cons (ps_set (i := 8) nd rfl (.inl rfl) (pe_op op_mod (pe_op op_pow (pe_op op_add (pe_op op_add (pv 7) (pe_op op_mul (pe_op op_mul pe_int (pv 3)) (pv 3))) pe_int) pe_int) pe_int))
    (pss_one (ps_ret (pe_op op_mod (pe_op op_mod (pe_op op_add (pe_op op_mul (pv 8) pe_int) (pv 7)) pe_int) (pv 1)))))))))
theorem sc_size_3de8 : FnScope ["_law_drawn", "_law_great", "_law_few"] ["_law_drawn", "_law_great"] (defScope st_size_3de8) := ⟨rfl, rfl, rfl, by decide +kernel, rfl, by decide +kernel, by decide +kernel⟩
theorem ok_size_3de8 {f fd} {r c q : Addr} (b : Bi K mg) (g_next : ∀ r c q, Glo P w K mg base "_law_next" 2 (spG (gr K r c q) (nextS r)) 1) (F : Fn K "_law_size" "_law_size" st_size_3de8 f fd) : FnOk P w K mg base CX0 2 f fd ["_law_drawn", "_law_great"] (spG (gr K r c q) (sp_size_3de8 r)) :=
  okG (P := P) (w := w) (mg := mg) (base := base) (G := gr K r c q) (k := 1) rfl F sc_size_3de8 (len_size_3de8 r) ⟨t_size_3de8 r, fun cdv A outer s H E hr => by
    have nd := sc_size_3de8.nd
    exact (qss_cons (qs_set (i := 2) nd rfl (by first | exact Or.inl rfl | exact Or.inr rfl) (qe_callG ((g_next _ _ _).at hr (by decide)) rfl (qa_cons (qv 0) (qa_cons (qe_bin o_add (qe_callB (c_min2 rfl) rfl b.f_min bt_min (qa_cons (qv 1) (qa_cons qe_int qa_nil))) qe_int) qa_nil))))
    (qss_one (qs_ret (qe_ix (qe_set (qf_lst (qa_cons (qv 2) (qa_cons (qe_bin o_sub (qv 1) (qv 2)) (qa_cons (qe_callG ((g_next _ _ _).at hr (by decide)) rfl (qa_cons (qv 0) (qa_cons (qe_bin o_add (qv 1) qe_int) qa_nil))) qa_nil))))) (qe_callG ((g_next _ _ _).at hr (by decide)) rfl (qa_cons (qv 0) (qa_cons qe_int qa_nil))))))), p_size_3de8 r⟩ (fun _ _ _ h => h)
theorem sc_items_cafd : FnScope ["_law_drawn", "_law_count", "_law_great", "_law_heavy", "_law_found", "_law_k"] ["_law_drawn", "_law_count"] (defScope st_items_cafd) := ⟨rfl, rfl, rfl, by decide +kernel, rfl, by decide +kernel, by decide +kernel⟩
theorem ok_items_cafd {f fd} {r c q : Addr} (b : Bi K mg) (g_next : ∀ r c q, Glo P w K mg base "_law_next" 2 (spG (gr K r c q) (nextS r)) 1) (g_size_3de8 : ∀ r c q, Glo P w K mg base "_law_size" 2 (spG (gr K r c q) (sp_size_3de8 r)) 2) (F : Fn K "_law_items" "_law_items" st_items_cafd f fd) : FnOk P w K mg base CX0 3 f fd ["_law_drawn", "_law_count"] (spG (gr K r c q) (sp_items_cafd r)) :=
  okG (P := P) (w := w) (mg := mg) (base := base) (G := gr K r c q) (k := 2) rfl F sc_items_cafd (len_items_cafd r) ⟨t_items_cafd r, fun cdv A outer s H E hr => by
    have nd := sc_items_cafd.nd
    exact (qss_cons (qs_set (i := 2) nd rfl (by first | exact Or.inl rfl | exact Or.inr rfl) (qe_ix (qe_set (qf_lst (qa_cons qe_int (qa_cons qe_int (qa_cons (qe_bin o_pow qe_int qe_int) qa_nil))))) (qe_callG ((g_next _ _ _).at hr (by decide)) rfl (qa_cons (qv 0) (qa_cons qe_int qa_nil)))))
    (qss_cons (qs_set (i := 3) nd rfl (by first | exact Or.inl rfl | exact Or.inr rfl) (qe_ix (qe_set (qf_lst (qa_cons qe_int (qa_cons qe_int (qa_cons (qe_bin o_pow qe_int qe_int) qa_nil))))) (qe_callG ((g_next _ _ _).at hr (by decide)) rfl (qa_cons (qv 0) (qa_cons qe_int qa_nil)))))
    (qss_cons (qs_setOwn (i := 4) nd rfl (by first | exact Or.inl rfl | exact Or.inr rfl) (qf_lst qa_nil))
    (qss_cons (qs_for PassesOwn.never rfl (qi_range1 rfl b.f_range (qa_cons (qv 1) qa_nil)) (qg_name nd rfl (by first | exact Or.inl rfl | exact Or.inr rfl)) (qss_one (qs_expr (qe_append (pv 4) (qe_tup (qa_cons (qe_bin o_sub (qe_callG ((g_size_3de8 _ _ _).at hr (by decide)) rfl (qa_cons (qv 0) (qa_cons (qe_bin o_mul qe_int (qv 2)) qa_nil))) (qv 2)) (qa_cons (qe_bin o_add qe_int (qe_callG ((g_size_3de8 _ _ _).at hr (by decide)) rfl (qa_cons (qv 0) (qa_cons (qe_bin o_sub (qv 3) qe_int) qa_nil)))) qa_nil)))))))
    (qss_one (qs_ret (qe_callTy c_tuple rfl b.f_tuple bt_tuple (qa_cons (qv 4) qa_nil)))))))), p_items_cafd r⟩ (fun _ _ _ h => h)
theorem sc_rules_ccf3 : FnScope ["_law_drawn", "_law_count", "_law_found", "_law_way", "_law_k", "_law_one_here", "_law_other"] ["_law_drawn", "_law_count"] (defScope st_rules_ccf3) := ⟨rfl, rfl, rfl, by decide +kernel, rfl, by decide +kernel, by decide +kernel⟩
theorem ok_rules_ccf3 {f fd} {r c q : Addr} (b : Bi K mg) (g_next : ∀ r c q, Glo P w K mg base "_law_next" 2 (spG (gr K r c q) (nextS r)) 1) (F : Fn K "_law_rules" "_law_rules" st_rules_ccf3 f fd) : FnOk P w K mg base CX0 2 f fd ["_law_drawn", "_law_count"] (spG (gr K r c q) (sp_rules_ccf3 r)) :=
  okG (P := P) (w := w) (mg := mg) (base := base) (G := gr K r c q) (k := 1) rfl F sc_rules_ccf3 (len_rules_ccf3 r) ⟨t_rules_ccf3 r, fun cdv A outer s H E hr => by
    have nd := sc_rules_ccf3.nd
    exact (qss_cons (qs_setOwn (i := 2) nd rfl (by first | exact Or.inl rfl | exact Or.inr rfl) (qf_lst qa_nil))
    (qss_cons (qs_set (i := 3) nd rfl (by first | exact Or.inl rfl | exact Or.inr rfl) (qe_callG ((g_next _ _ _).at hr (by decide)) rfl (qa_cons (qv 0) (qa_cons qe_int qa_nil))))
    (qss_cons (qs_for PassesOwn.never rfl (qi_range1 rfl b.f_range (qa_cons (qe_bin o_mul (qe_ix (qe_set (qf_lst (qa_cons qe_int (qa_cons qe_int (qa_cons qe_int (qa_cons qe_int (qa_cons qe_int (qa_cons qe_int qa_nil)))))))) (qe_callG ((g_next _ _ _).at hr (by decide)) rfl (qa_cons (qv 0) (qa_cons qe_int qa_nil)))) (qe_callTy c_int rfl b.f_int bt_int (qa_cons (qe_cmp o_gt (qv 1) qe_int (nomark _)) qa_nil))) qa_nil)) (qg_name nd rfl (by first | exact Or.inl rfl | exact Or.inr rfl)) (qss_cons (qs_set (i := 5) nd rfl (by first | exact Or.inl rfl | exact Or.inr rfl) (qe_callG ((g_next _ _ _).at hr (by decide)) rfl (qa_cons (qv 0) (qa_cons (qv 1) qa_nil))))
    (qss_cons (qs_set (i := 6) nd rfl (by first | exact Or.inl rfl | exact Or.inr rfl) (qe_bin o_mod (qe_bin o_add (qe_bin o_add (qv 5) qe_int) (qe_callG ((g_next _ _ _).at hr (by decide)) rfl (qa_cons (qv 0) (qa_cons (qe_bin o_sub (qv 1) qe_int) qa_nil)))) (qv 1)))
    (qss_one (qs_expr (qe_append (pv 2) (qe_if (qt_cmp (o_eq hr) (qv 3) qe_int (nomark _)) (qe_tup (qa_cons (qv 5) (qa_cons (qv 6) qa_nil))) (qe_tup (qa_cons (qe_callB (c_min2 rfl) rfl b.f_min bt_min (qa_cons (qv 5) (qa_cons (qv 6) qa_nil))) (qa_cons (qe_callB (c_max2 rfl) rfl b.f_max bt_max (qa_cons (qv 5) (qa_cons (qv 6) qa_nil))) qa_nil))))))))))
    (qss_one (qs_ret (qe_callTy c_tuple rfl b.f_tuple bt_tuple (qa_cons (qv 2) qa_nil))))))), p_rules_ccf3 r⟩ (fun _ _ _ h => h)
theorem sc_panel_3836 : FnScope ["_law_drawn", "_law_most", "_law_count"] ["_law_drawn", "_law_most"] (defScope st_panel_3836) := ⟨rfl, rfl, rfl, by decide +kernel, rfl, by decide +kernel, by decide +kernel⟩
theorem ok_panel_3836 {f fd} {r c q : Addr} (b : Bi K mg) (g_next : ∀ r c q, Glo P w K mg base "_law_next" 2 (spG (gr K r c q) (nextS r)) 1) (g_items_cafd : ∀ r c q, Glo P w K mg base "_law_items" 2 (spG (gr K r c q) (sp_items_cafd r)) 3) (g_rules_ccf3 : ∀ r c q, Glo P w K mg base "_law_rules" 2 (spG (gr K r c q) (sp_rules_ccf3 r)) 2) (F : Fn K "_law_panel" "_law_panel" st_panel_3836 f fd) : FnOk P w K mg base CX0 4 f fd ["_law_drawn", "_law_most"] (spG (gr K r c q) (sp_panel_3836 r)) :=
  okG (P := P) (w := w) (mg := mg) (base := base) (G := gr K r c q) (k := 3) rfl F sc_panel_3836 (len_panel_3836 r) ⟨t_panel_3836 r, fun cdv A outer s H E hr => by
    have nd := sc_panel_3836.nd
    exact (qss_cons (qs_set (i := 2) nd rfl (by first | exact Or.inl rfl | exact Or.inr rfl) (qe_bin o_add qe_int (qe_callG ((g_next _ _ _).at hr (by decide)) rfl (qa_cons (qv 0) (qa_cons (qv 1) qa_nil)))))
    (qss_one (qs_ret (qe_tup (qa_cons (qe_callG ((g_items_cafd _ _ _).at hr (by decide)) rfl (qa_cons (qv 0) (qa_cons (qv 2) qa_nil))) (qa_cons (qe_callG ((g_rules_ccf3 _ _ _).at hr (by decide)) rfl (qa_cons (qv 0) (qa_cons (qv 2) qa_nil))) qa_nil)))))), p_panel_3836 r⟩ (fun _ _ _ h => h)
theorem sc_all_groups_7d0b : FnScope ["items", "found", "item", "group"] ["items"] (defScope st_all_groups_7d0b) := ⟨rfl, rfl, rfl, by decide +kernel, rfl, by decide +kernel, by decide +kernel⟩
theorem ok_all_groups_7d0b {f fd} (b : Bi K mg) (F : Fn K "all_groups" "all_groups" st_all_groups_7d0b f fd) : FnOk P w K mg base CX0 1 f fd ["items"] (spP K sp_all_groups_7d0b) :=
  okP F sc_all_groups_7d0b len_all_groups_7d0b ⟨t_all_groups_7d0b, fun cdv A outer s H E hr => by
    have nd := sc_all_groups_7d0b.nd
    exact (qss_cons (qs_set (i := 1) nd rfl (by first | exact Or.inl rfl | exact Or.inr rfl) (qe_set (qf_lst (qa_cons (qe_tup qa_nil) qa_nil))))
    (qss_cons (qs_for PassesOwn.never rfl (qi_seq (qv 0)) (qg_name nd rfl (by first | exact Or.inl rfl | exact Or.inr rfl)) (qss_one (qs_set (i := 1) nd rfl (by first | exact Or.inl rfl | exact Or.inr rfl) (qe_bin o_add (qv 1) (qe_set (qf_lc rfl nd (qi_seq (qv 1)) (own := [("group", 3)]) (blkOk_by (by kernel_rfl)) (by decide) (fun _ _ _ _ _ => (qg_name nd rfl (by first | exact Or.inl rfl | exact Or.inr rfl))) (fun _ _ _ _ _ => qts_nil) (fun _ _ _ _ _ => (qe_bin o_add (qv 3) (qe_tup (qa_cons (qv 2) qa_nil))))))))))
    (qss_one (qs_ret (qe_set (qf_callB (c_sortedT hr) rfl b.f_sorted bt_sorted (qa_cons (qv 1) qa_nil))))))), p_all_groups_7d0b⟩
theorem sc_is_integer_8a5f : FnScope ["value"] ["value"] (defScope st_is_integer_8a5f) := ⟨rfl, rfl, rfl, by decide +kernel, rfl, by decide +kernel, by decide +kernel⟩
theorem ok_is_integer_8a5f {f fd} (b : Bi K mg) (F : Fn K "is_integer" "is_integer" st_is_integer_8a5f f fd) : FnOk P w K mg base CX0 1 f fd ["value"] (spP K sp_is_integer_8a5f) :=
  okP F sc_is_integer_8a5f len_is_integer_8a5f ⟨t_is_integer_8a5f, fun cdv A outer s H E hr => by
    have nd := sc_is_integer_8a5f.nd
    exact (qss_one (qs_ret (qe_and (qe_isi (by decide) (qv 0) rfl b.f_isinstance rfl b.f_int bt_int) (qe_one (qe_not (qe_isi (by decide) (qv 0) rfl b.f_isinstance rfl b.f_bool bt_bool)))))), p_is_integer_8a5f⟩
theorem sc_is_within_3133 : FnScope ["value", "low", "high"] ["value", "low", "high"] (defScope st_is_within_3133) := ⟨rfl, rfl, rfl, by decide +kernel, rfl, by decide +kernel, by decide +kernel⟩
theorem ok_is_within_3133 {f fd} (b : Bi K mg) (g_is_integer_8a5f : Glo P w K mg base "is_integer" 1 (spP K (sp_is_integer_8a5f)) 1) (F : Fn K "is_within" "is_within" st_is_within_3133 f fd) : FnOk P w K mg base CX0 2 f fd ["value", "low", "high"] (spP K sp_is_within_3133) :=
  okP F sc_is_within_3133 len_is_within_3133 ⟨t_is_within_3133, fun cdv A outer s H E hr => by
    have nd := sc_is_within_3133.nd
    exact (qss_one (qs_ret (qe_and (qe_call (g_is_integer_8a5f.at hr (by decide)) rfl (qa_cons (qv 0) qa_nil)) (qe_one (qe_chain o_le o_le (qv 1) (qv 0) (qv 2)))))), p_is_within_3133⟩
theorem sc_is_group_a50b : FnScope ["panel", "value", "item", "one", "other"] ["panel", "value"] (defScope st_is_group_a50b) := ⟨rfl, rfl, rfl, by decide +kernel, rfl, by decide +kernel, by decide +kernel⟩
theorem ok_is_group_a50b {f fd} (b : Bi K mg) (g_is_within_3133 : Glo P w K mg base "is_within" 3 (spP K (sp_is_within_3133)) 2) (F : Fn K "is_group" "is_group" st_is_group_a50b f fd) : FnOk P w K mg base CX0 3 f fd ["panel", "value"] (spP K sp_is_group_a50b) :=
  okP F sc_is_group_a50b len_is_group_a50b ⟨t_is_group_a50b, fun cdv A outer s H E hr => by
    have nd := sc_is_group_a50b.nd
    exact (qss_cons (qs_if (PW.pt (qw_or (qt_not (qt_val (qe_isi (by decide) (qv 1) rfl b.f_isinstance rfl b.f_tuple bt_tuple))) (qw_and1 (qt_not (qt_val (qe_callB (c_all rfl) rfl b.f_all bt_all (qa_cons (qe_set (qf_lc rfl nd (qi_seq (qv 1)) (own := [("item", 2)]) (blkOk_by (by kernel_rfl)) (by decide) (fun _ _ _ _ _ => (qg_name nd rfl (by first | exact Or.inl rfl | exact Or.inr rfl))) (fun _ _ _ _ _ => qts_nil) (fun _ _ _ _ _ => (qe_call (g_is_within_3133.at hr (by decide)) rfl (qa_cons (qv 2) (qa_cons qe_int (qa_cons (qe_bin o_sub (qe_callB c_len rfl b.f_len bt_len (qa_cons (qe_ix (qv 0) qe_int) qa_nil)) qe_int) qa_nil))))))) qa_nil))))))) (qss_one (qs_ret qe_bl)) qss_nil)
    (qss_one (qs_ret (qe_callB (c_all rfl) rfl b.f_all bt_all (qa_cons (qe_set (qf_lc rfl nd (qi_zip rfl b.f_zip (qa_cons (qv 1) (qa_cons (qe_slice (qv 1) (qo_some qe_int) qo_none) qa_nil))) (own := [("one", 3), ("other", 4)]) (blkOk_by (by kernel_rfl)) (by decide) (fun _ _ _ _ _ => (qg_tup rfl (qgs_cons (qg_name nd rfl (by first | exact Or.inl rfl | exact Or.inr rfl)) (qgs_cons (qg_name nd rfl (by first | exact Or.inl rfl | exact Or.inr rfl)) qgs_nil)))) (fun _ _ _ _ _ => qts_nil) (fun _ _ _ _ _ => (qe_cmp o_lt (qv 3) (qv 4) (nomark _))))) qa_nil))))), p_is_group_a50b⟩
theorem sc_is_upward_11cd : FnScope ["panel", "value", "low", "high"] ["panel", "value"] (defScope st_is_upward_11cd) := ⟨rfl, rfl, rfl, by decide +kernel, rfl, by decide +kernel, by decide +kernel⟩
theorem ok_is_upward_11cd {f fd} (b : Bi K mg) (g_is_group_a50b : Glo P w K mg base "is_group" 2 (spP K (sp_is_group_a50b)) 3) (F : Fn K "is_upward" "is_upward" st_is_upward_11cd f fd) : FnOk P w K mg base CX0 4 f fd ["panel", "value"] (spP K sp_is_upward_11cd) :=
  okP F sc_is_upward_11cd len_is_upward_11cd ⟨t_is_upward_11cd, fun cdv A outer s H E hr => by
    have nd := sc_is_upward_11cd.nd
    exact (qss_cons (qs_if (qt_not (qt_val (qe_call (g_is_group_a50b.at hr (by decide)) rfl (qa_cons (qv 0) (qa_cons (qv 1) qa_nil))))) (qss_one (qs_ret qe_bl)) qss_nil)
    (qss_one (qs_ret (qe_callB (c_all rfl) rfl b.f_all bt_all (qa_cons (qe_set (qf_lc rfl nd (qi_seq (qe_ix (qv 0) qe_int)) (own := [("low", 2), ("high", 3)]) (blkOk_by (by kernel_rfl)) (by decide) (fun _ _ _ _ _ => (qg_tup rfl (qgs_cons (qg_name nd rfl (by first | exact Or.inl rfl | exact Or.inr rfl)) (qgs_cons (qg_name nd rfl (by first | exact Or.inl rfl | exact Or.inr rfl)) qgs_nil)))) (fun _ _ _ _ _ => qts_nil) (fun _ _ _ _ _ => (qe_or (qe_cmp (o_in hr) (qv 3) (qv 1) (by rfl)) (qe_one (qe_cmp (o_notIn hr) (qv 2) (qv 1) (by rfl))))))) qa_nil))))), p_is_upward_11cd⟩
theorem sc_upward_sets_3622 : FnScope ["panel", "group"] ["panel"] (defScope st_upward_sets_3622) := ⟨rfl, rfl, rfl, by decide +kernel, rfl, by decide +kernel, by decide +kernel⟩
theorem ok_upward_sets_3622 {f fd} (b : Bi K mg) (g_all_groups_7d0b : Glo P w K mg base "all_groups" 1 (spP K (sp_all_groups_7d0b)) 1) (g_is_upward_11cd : Glo P w K mg base "is_upward" 2 (spP K (sp_is_upward_11cd)) 4) (F : Fn K "upward_sets" "upward_sets" st_upward_sets_3622 f fd) : FnOk P w K mg base CX0 5 f fd ["panel"] (spP K sp_upward_sets_3622) :=
  okP F sc_upward_sets_3622 len_upward_sets_3622 ⟨t_upward_sets_3622, fun cdv A outer s H E hr => by
    have nd := sc_upward_sets_3622.nd
    exact (qss_one (qs_ret (qe_callTy c_tuple rfl b.f_tuple bt_tuple (qa_cons (qe_set (qf_lc rfl nd (qi_seq (qe_call (g_all_groups_7d0b.at hr (by decide)) rfl (qa_cons (qe_set (qf_lstRg1 rfl rfl b.f_list rfl b.f_range (qe_callB c_len rfl b.f_len bt_len (qa_cons (qe_ix (qv 0) qe_int) qa_nil)))) qa_nil))) (own := [("group", 1)]) (blkOk_by (by kernel_rfl)) (by decide) (fun _ _ _ _ _ => (qg_name nd rfl (by first | exact Or.inl rfl | exact Or.inr rfl))) (fun _ _ _ _ _ => (qts_one (qt_val (qe_call (g_is_upward_11cd.at hr (by decide)) rfl (qa_cons (qv 0) (qa_cons (qv 1) qa_nil)))))) (fun _ _ _ _ _ => (qv 1)))) qa_nil)))), p_upward_sets_3622⟩
theorem sc_gain_of_56ca : FnScope ["panel", "group", "threshold", "items", "item", "mark", "weight"] ["panel", "group", "threshold"] (defScope st_gain_of_56ca) := ⟨rfl, rfl, rfl, by decide +kernel, rfl, by decide +kernel, by decide +kernel⟩
theorem ok_gain_of_56ca {f fd} (b : Bi K mg) (F : Fn K "gain_of" "gain_of" st_gain_of_56ca f fd) : FnOk P w K mg base CX0 1 f fd ["panel", "group", "threshold"] (spP K sp_gain_of_56ca) :=
  okP F sc_gain_of_56ca len_gain_of_56ca ⟨t_gain_of_56ca, fun cdv A outer s H E hr => by
    have nd := sc_gain_of_56ca.nd
    exact (qss_cons (qs_lc rfl nd rfl rfl rfl (qi_seq (qv 1)) (own := [("item", 4)]) (blkOk_by (by kernel_rfl)) (by decide) (fun _ _ _ _ _ => (qg_name nd rfl (by first | exact Or.inl rfl | exact Or.inr rfl))) (fun _ _ _ _ _ => qts_nil) (fun _ _ _ _ _ => (qe_ix (qe_ix (qv 0) qe_int) (qv 4))))
    (qss_one (qs_ret (qe_callB (c_sum rfl) rfl b.f_sum bt_sum (qa_cons (qe_set (qf_lc rfl nd (qi_seq (qv 3)) (own := [("mark", 5), ("weight", 6)]) (blkOk_by (by kernel_rfl)) (by decide) (fun _ _ _ _ _ => (qg_tup rfl (qgs_cons (qg_name nd rfl (by first | exact Or.inl rfl | exact Or.inr rfl)) (qgs_cons (qg_name nd rfl (by first | exact Or.inl rfl | exact Or.inr rfl)) qgs_nil)))) (fun _ _ _ _ _ => qts_nil) (fun _ _ _ _ _ => (qe_if (qt_cmp o_gt (qv 5) (qv 2) (nomark _)) (qv 6) (qe_bin o_sub qe_int (qv 6)))))) qa_nil))))), p_gain_of_56ca⟩
theorem sc_greatest_groups_403e : FnScope ["panel", "groups", "threshold", "gains", "most", "best", "group", "gain"] ["panel", "groups", "threshold"] (defScope st_greatest_groups_403e) := ⟨rfl, rfl, rfl, by decide +kernel, rfl, by decide +kernel, by decide +kernel⟩
theorem ok_greatest_groups_403e {f fd} (b : Bi K mg) (g_gain_of_56ca : Glo P w K mg base "gain_of" 3 (spP K (sp_gain_of_56ca)) 1) (F : Fn K "greatest_groups" "greatest_groups" st_greatest_groups_403e f fd) : FnOk P w K mg base CX0 2 f fd ["panel", "groups", "threshold"] (spP K sp_greatest_groups_403e) :=
  okP F sc_greatest_groups_403e len_greatest_groups_403e ⟨t_greatest_groups_403e, fun cdv A outer s H E hr => by
    have nd := sc_greatest_groups_403e.nd
    exact (qss_cons (qs_lc rfl nd rfl rfl rfl (qi_seq (qv 1)) (own := [("group", 6)]) (blkOk_by (by kernel_rfl)) (by decide) (fun _ _ _ _ _ => (qg_name nd rfl (by first | exact Or.inl rfl | exact Or.inr rfl))) (fun _ _ _ _ _ => qts_nil) (fun _ _ _ _ _ => (qe_call (g_gain_of_56ca.at hr (by decide)) rfl (qa_cons (qv 0) (qa_cons (qv 6) (qa_cons (qv 2) qa_nil))))))
    (qss_cons (qs_set (i := 4) nd rfl (by first | exact Or.inl rfl | exact Or.inr rfl) (qe_callB (c_max rfl) rfl b.f_max bt_max (qa_cons (qv 3) qa_nil)))
    (qss_cons (qs_lc rfl nd rfl rfl rfl (qi_zip rfl b.f_zip (qa_cons (qv 1) (qa_cons (qv 3) qa_nil))) (own := [("group", 6), ("gain", 7)]) (blkOk_by (by kernel_rfl)) (by decide) (fun _ _ _ _ _ => (qg_tup rfl (qgs_cons (qg_name nd rfl (by first | exact Or.inl rfl | exact Or.inr rfl)) (qgs_cons (qg_name nd rfl (by first | exact Or.inl rfl | exact Or.inr rfl)) qgs_nil)))) (fun _ _ _ _ _ => (qts_one (qt_cmp (o_eq hr) (qv 7) (qv 4) (nomark _)))) (fun _ _ _ _ _ => (qv 6)))
    (qss_one (qs_ret (qe_tup (qa_cons (qe_minLen (mx := false) rfl rfl b.f_min bt_min rfl b.f_len (qv 5)) (qa_cons (qe_minLen (mx := true) rfl rfl b.f_max bt_max rfl b.f_len (qv 5)) qa_nil)))))))), p_greatest_groups_403e⟩
theorem sc_extreme_median_a062 : FnScope ["panel", "which", "groups", "marks", "found", "threshold", "above", "item", "mark", "weight"] ["panel", "which"] (defScope st_extreme_median_a062) := ⟨rfl, rfl, rfl, by decide +kernel, rfl, by decide +kernel, by decide +kernel⟩
theorem ok_extreme_median_a062 {f fd} (b : Bi K mg) (g_upward_sets_3622 : Glo P w K mg base "upward_sets" 1 (spP K (sp_upward_sets_3622)) 5) (g_greatest_groups_403e : Glo P w K mg base "greatest_groups" 3 (spP K (sp_greatest_groups_403e)) 2) (F : Fn K "extreme_median" "extreme_median" st_extreme_median_a062 f fd) : FnOk P w K mg base CX0 6 f fd ["panel", "which"] (spP K sp_extreme_median_a062) :=
  okP F sc_extreme_median_a062 len_extreme_median_a062 ⟨t_extreme_median_a062, fun cdv A outer s H E hr => by
    have nd := sc_extreme_median_a062.nd
    exact (qss_cons (qs_set (i := 2) nd rfl (by first | exact Or.inl rfl | exact Or.inr rfl) (qe_call (g_upward_sets_3622.at hr (by decide)) rfl (qa_cons (qv 0) qa_nil)))
    (qss_cons (qs_set (i := 3) nd rfl (by first | exact Or.inl rfl | exact Or.inr rfl) (qe_set (qf_sortSetL rfl rfl b.f_sorted rfl b.f_set (qe_set (qf_lc rfl nd (qi_seq (qe_ix (qv 0) qe_int)) (own := [("mark", 8), ("weight", 9)]) (blkOk_by (by kernel_rfl)) (by decide) (fun _ _ _ _ _ => (qg_tup rfl (qgs_cons (qg_name nd rfl (by first | exact Or.inl rfl | exact Or.inr rfl)) (qgs_cons (qg_name nd rfl (by first | exact Or.inl rfl | exact Or.inr rfl)) qgs_nil)))) (fun _ _ _ _ _ => qts_nil) (fun _ _ _ _ _ => (qv 8)))))))
    (qss_cons (qs_setOwn (i := 4) nd rfl (by first | exact Or.inl rfl | exact Or.inr rfl) (qf_bin o_mulF (qe_set (qf_lst (qa_cons (qe_ix (qv 3) qe_int) qa_nil))) (qe_callB c_len rfl b.f_len bt_len (qa_cons (qe_ix (qv 0) qe_int) qa_nil))))
    (qss_cons (qs_for PassesOwn.never rfl (qi_zip rfl b.f_zip (qa_cons (qv 3) (qa_cons (qe_slice (qv 3) (qo_some qe_int) qo_none) qa_nil))) (qg_tup rfl (qgs_cons (qg_name nd rfl (by first | exact Or.inl rfl | exact Or.inr rfl)) (qgs_cons (qg_name nd rfl (by first | exact Or.inl rfl | exact Or.inr rfl)) qgs_nil))) (qss_one (qs_for PassesOwn.never rfl (qi_seq (qe_ix (qe_call (g_greatest_groups_403e.at hr (by decide)) rfl (qa_cons (qv 0) (qa_cons (qv 2) (qa_cons (qv 5) qa_nil)))) (qv 1))) (qg_name nd rfl (by first | exact Or.inl rfl | exact Or.inr rfl)) (qss_one (qs_setItem (qv 6) (pv 4) (qv 7) rfl rfl rfl (fun _ => rfl))))))
    (qss_one (qs_ret (qe_callTy c_tuple rfl b.f_tuple bt_tuple (qa_cons (qv 4) qa_nil)))))))), p_extreme_median_a062⟩
theorem sc_lowest_median_cc3e : FnScope ["panel"] ["panel"] (defScope st_lowest_median_cc3e) := ⟨rfl, rfl, rfl, by decide +kernel, rfl, by decide +kernel, by decide +kernel⟩
theorem ok_lowest_median_cc3e {f fd} (b : Bi K mg) (g_extreme_median_a062 : Glo P w K mg base "extreme_median" 2 (spP K (sp_extreme_median_a062)) 6) (F : Fn K "lowest_median" "lowest_median" st_lowest_median_cc3e f fd) : FnOk P w K mg base CX0 7 f fd ["panel"] (spP K sp_lowest_median_cc3e) :=
  okP F sc_lowest_median_cc3e len_lowest_median_cc3e ⟨t_lowest_median_cc3e, fun cdv A outer s H E hr => by
    have nd := sc_lowest_median_cc3e.nd
    exact (qss_one (qs_ret (qe_call (g_extreme_median_a062.at hr (by decide)) rfl (qa_cons (qv 0) (qa_cons qe_int qa_nil))))), p_lowest_median_cc3e⟩
theorem sc_highest_median_e9e9 : FnScope ["panel"] ["panel"] (defScope st_highest_median_e9e9) := ⟨rfl, rfl, rfl, by decide +kernel, rfl, by decide +kernel, by decide +kernel⟩
theorem ok_highest_median_e9e9 {f fd} (b : Bi K mg) (g_extreme_median_a062 : Glo P w K mg base "extreme_median" 2 (spP K (sp_extreme_median_a062)) 6) (F : Fn K "highest_median" "highest_median" st_highest_median_e9e9 f fd) : FnOk P w K mg base CX0 7 f fd ["panel"] (spP K sp_highest_median_e9e9) :=
  okP F sc_highest_median_e9e9 len_highest_median_e9e9 ⟨t_highest_median_e9e9, fun cdv A outer s H E hr => by
    have nd := sc_highest_median_e9e9.nd
    exact (qss_one (qs_ret (qe_call (g_extreme_median_a062.at hr (by decide)) rfl (qa_cons (qv 0) (qa_cons qe_int qa_nil))))), p_highest_median_e9e9⟩
theorem sc_both_dcd2 : FnScope ["_law_panel_here"] ["_law_panel_here"] (defScope st_both_dcd2) := ⟨rfl, rfl, rfl, by decide +kernel, rfl, by decide +kernel, by decide +kernel⟩
theorem ok_both_dcd2 {f fd} (b : Bi K mg) (g_lowest_median_cc3e : Glo P w K mg base "lowest_median" 1 (spP K (sp_lowest_median_cc3e)) 7) (g_highest_median_e9e9 : Glo P w K mg base "highest_median" 1 (spP K (sp_highest_median_e9e9)) 7) (F : Fn K "_law_both" "_law_both" st_both_dcd2 f fd) : FnOk P w K mg base CX0 8 f fd ["_law_panel_here"] (spP K sp_both_dcd2) :=
  okP F sc_both_dcd2 len_both_dcd2 ⟨t_both_dcd2, fun cdv A outer s H E hr => by
    have nd := sc_both_dcd2.nd
    exact (qss_one (qs_ret (qe_tup (qa_cons (qe_call (g_lowest_median_cc3e.at hr (by decide)) rfl (qa_cons (qv 0) qa_nil)) (qa_cons (qe_call (g_highest_median_e9e9.at hr (by decide)) rfl (qa_cons (qv 0) qa_nil)) qa_nil))))), p_both_dcd2⟩
theorem sc_one_be76 : FnScope ["_law_drawn", "_law_items_here"] ["_law_drawn", "_law_items_here"] (defScope st_one_be76) := ⟨rfl, rfl, rfl, by decide +kernel, rfl, by decide +kernel, by decide +kernel⟩
theorem ok_one_be76 {f fd} {r c q : Addr} (b : Bi K mg) (g_next : ∀ r c q, Glo P w K mg base "_law_next" 2 (spG (gr K r c q) (nextS r)) 1) (F : Fn K "_law_one" "_law_one" st_one_be76 f fd) : FnOk P w K mg base CX0 2 f fd ["_law_drawn", "_law_items_here"] (spG (gr K r c q) (sp_one_be76 r)) :=
  okG (P := P) (w := w) (mg := mg) (base := base) (G := gr K r c q) (k := 1) rfl F sc_one_be76 (len_one_be76 r) ⟨t_one_be76 r, fun cdv A outer s H E hr => by
    have nd := sc_one_be76.nd
    exact (qss_one (qs_ret (qe_ix (qv 1) (qe_callG ((g_next _ _ _).at hr (by decide)) rfl (qa_cons (qv 0) (qa_cons (qe_callB c_len rfl b.f_len bt_len (qa_cons (qv 1) qa_nil)) qa_nil)))))), p_one_be76 r⟩ (fun _ _ _ h => h)
theorem sc_equal_17a7 : FnScope ["_law_one_here", "_law_other", "_law_a", "_law_b"] ["_law_one_here", "_law_other"] (defScope st_equal_17a7) := ⟨rfl, rfl, rfl, by decide +kernel, rfl, by decide +kernel, by decide +kernel⟩
theorem ok_equal_17a7 {f fd} {k : Nat} {s s1 : Spec0} (hk : 1 ≤ k) (ln : ∀ ds R, s1 ds R → ds.length = 2) (pp : ∀ ds R, s1 ds R → t_equal_17a7 s { nx := fun _ => R .non, rt := fun d _ => R d } ⟨startL 4 ds, ()⟩) (g_self : Glo P w K mg base "_law_equal" 2 (spP K s) k) (b : Bi K mg) (F : Fn K "_law_equal" "_law_equal" st_equal_17a7 f fd) : FnOk P w K mg base CX0 (k + 1) f fd ["_law_one_here", "_law_other"] (spP K s1) :=
  okP F sc_equal_17a7 ln ⟨t_equal_17a7 s, fun cdv A outer s H E hr => by
    have nd := sc_equal_17a7.nd
    exact (qss_cons (qs_if (PW.pt (qw_and (qt_val (qe_isi (by decide) (qv 0) rfl b.f_isinstance rfl b.f_tuple bt_tuple)) (qw_and1 (qt_val (qe_isi (by decide) (qv 1) rfl b.f_isinstance rfl b.f_tuple bt_tuple))))) (qss_one (qs_ret (qe_and (qe_cmp (o_eq hr) (qe_callB c_len rfl b.f_len bt_len (qa_cons (qv 0) qa_nil)) (qe_callB c_len rfl b.f_len bt_len (qa_cons (qv 1) qa_nil)) (nomark _)) (qe_one (qe_callB (c_all rfl) rfl b.f_all bt_all (qa_cons (qe_set (qf_lc rfl nd (qi_zip rfl b.f_zip (qa_cons (qv 0) (qa_cons (qv 1) qa_nil))) (own := [("_law_a", 2), ("_law_b", 3)]) (blkOk_by (by kernel_rfl)) (by decide) (fun _ _ _ _ _ => (qg_tup rfl (qgs_cons (qg_name nd rfl (by first | exact Or.inl rfl | exact Or.inr rfl)) (qgs_cons (qg_name nd rfl (by first | exact Or.inl rfl | exact Or.inr rfl)) qgs_nil)))) (fun _ _ _ _ _ => qts_nil) (fun _ _ _ _ _ => (qe_call (g_self.at hr (Nat.le_refl _)) rfl (qa_cons (qv 2) (qa_cons (qv 3) qa_nil)))))) qa_nil)))))) qss_nil)
    (qss_cons (qs_if (PW.pt (qw_or (qt_val (qe_isi (by decide) (qv 0) rfl b.f_isinstance rfl b.f_bool bt_bool)) (qw_and1 (qt_val (qe_isi (by decide) (qv 1) rfl b.f_isinstance rfl b.f_bool bt_bool))))) (qss_one (qs_ret (qe_and (qe_isi (by decide) (qv 0) rfl b.f_isinstance rfl b.f_bool bt_bool) (qe_and (qe_isi (by decide) (qv 1) rfl b.f_isinstance rfl b.f_bool bt_bool) (qe_one (qe_cmp (o_eq hr) (qv 0) (qv 1) (nomark _))))))) qss_nil)
    (qss_cons (qs_if (qt_cmp (o_ne hr) (qe_isi (by decide) (qv 0) rfl b.f_isinstance rfl b.f_tuple bt_tuple) (qe_isi (by decide) (qv 1) rfl b.f_isinstance rfl b.f_tuple bt_tuple) (nomark _)) (qss_one (qs_ret qe_bl)) qss_nil)
    (qss_cons (qs_if (qt_cmp (o_ne hr) (qe_isi (by decide) (qv 0) rfl b.f_isinstance rfl b.f_int bt_int) (qe_isi (by decide) (qv 1) rfl b.f_isinstance rfl b.f_int bt_int) (nomark _)) (qss_one (qs_ret qe_bl)) qss_nil)
    (qss_one (qs_ret (qe_and (qe_cmp (o_eq hr) (qe_isi (by decide) (qv 0) rfl b.f_isinstance rfl b.f_str bt_str) (qe_isi (by decide) (qv 1) rfl b.f_isinstance rfl b.f_str bt_str) (nomark _)) (qe_one (qe_cmp (o_eq hr) (qv 0) (qv 1) (nomark _)))))))))), pp⟩
theorem sc_replaced_right_5eb3 : FnScope ["_law_drawn", "_law_panel_here", "_law_both_here", "_law_marks", "_law_gap", "_law_found", "_law_last", "_law_mark", "_law_other", "_law_due", "_law_weight", "_law_row", "_law_rating"] ["_law_drawn", "_law_panel_here", "_law_both_here"] (defScope st_replaced_right_5eb3) := ⟨rfl, rfl, rfl, by decide +kernel, rfl, by decide +kernel, by decide +kernel⟩
theorem ok_replaced_right_5eb3 {f fd} {r c q : Addr} (b : Bi K mg) (g_one_be76 : ∀ r c q, Glo P w K mg base "_law_one" 2 (spG (gr K r c q) (sp_one_be76 r)) 2) (g_equal_17a7 : Glo P w K mg base "_law_equal" 2 (spP K (sp_equal_17a7 24)) 25) (g_both_dcd2 : Glo P w K mg base "_law_both" 1 (spP K (sp_both_dcd2)) 8) (g_next : ∀ r c q, Glo P w K mg base "_law_next" 2 (spG (gr K r c q) (nextS r)) 1) (F : Fn K "_law_replaced_right" "_law_replaced_right" st_replaced_right_5eb3 f fd) : FnOk P w K mg base CX0 26 f fd ["_law_drawn", "_law_panel_here", "_law_both_here"] (spG (gr K r c q) (sp_replaced_right_5eb3 r)) :=
  okG (P := P) (w := w) (mg := mg) (base := base) (G := gr K r c q) (k := 25) rfl F sc_replaced_right_5eb3 (len_replaced_right_5eb3 r) ⟨t_replaced_right_5eb3 r, fun cdv A outer s H E hr => by
    have nd := sc_replaced_right_5eb3.nd
    exact (qss_cons (qs_set (i := 3) nd rfl (by first | exact Or.inl rfl | exact Or.inr rfl) (qe_set (qf_sortSetL rfl rfl b.f_sorted rfl b.f_set (qe_set (qf_lc rfl nd (qi_seq (qe_ix (qv 1) qe_int)) (own := [("_law_mark", 7), ("_law_weight", 10)]) (blkOk_by (by kernel_rfl)) (by decide) (fun _ _ _ _ _ => (qg_tup rfl (qgs_cons (qg_name nd rfl (by first | exact Or.inl rfl | exact Or.inr rfl)) (qgs_cons (qg_name nd rfl (by first | exact Or.inl rfl | exact Or.inr rfl)) qgs_nil)))) (fun _ _ _ _ _ => qts_nil) (fun _ _ _ _ _ => (qv 7)))))))
    (qss_cons (qs_set (i := 4) nd rfl (by first | exact Or.inl rfl | exact Or.inr rfl) (qe_callG ((g_one_be76 _ _ _).at hr (by decide)) rfl (qa_cons (qv 0) (qa_cons (qe_set (qf_lst (qa_cons qe_int (qa_cons qe_int (qa_cons (qe_bin o_pow qe_int qe_int) qa_nil))))) qa_nil))))
    (qss_cons (qs_parDicC rfl nd rfl rfl (by first | exact Or.inl rfl | exact Or.inr rfl) (by first | exact Or.inl rfl | exact Or.inr rfl) (qe_bin o_sub (qe_bin o_sub qe_int (qe_bin o_mul qe_int (qv 4))) (qe_callG ((g_next _ _ _).at hr (by decide)) rfl (qa_cons (qv 0) (qa_cons (qv 4) qa_nil)))) (by first | exact Or.inl rfl | exact Or.inr rfl) (by first | exact Or.inl rfl | exact Or.inr rfl))
    (qss_cons (qs_for PassesOwn.never rfl (qi_seq (qv 3)) (qg_name nd rfl (by first | exact Or.inl rfl | exact Or.inr rfl)) (qss_cons (qs_dicPut hr (qv 6) (pv 5) (qv 7))
    (qss_one (qs_set (i := 6) nd rfl (by first | exact Or.inl rfl | exact Or.inr rfl) (qe_bin o_add (qe_bin o_add (qv 6) qe_int) (qe_callG ((g_next _ _ _).at hr (by decide)) rfl (qa_cons (qv 0) (qa_cons (qv 4) qa_nil))))))))
    (qss_cons (qs_set (i := 8) nd rfl (by first | exact Or.inl rfl | exact Or.inr rfl) (qe_tup (qa_cons (qe_callTy c_tuple rfl b.f_tuple bt_tuple (qa_cons (qe_set (qf_lc rfl nd (qi_seq (qe_ix (qv 1) qe_int)) (own := [("_law_mark", 7), ("_law_weight", 10)]) (blkOk_by (by kernel_rfl)) (by decide) (fun _ _ _ _ _ => (qg_tup rfl (qgs_cons (qg_name nd rfl (by first | exact Or.inl rfl | exact Or.inr rfl)) (qgs_cons (qg_name nd rfl (by first | exact Or.inl rfl | exact Or.inr rfl)) qgs_nil)))) (fun _ _ _ _ _ => qts_nil) (fun _ _ _ _ _ => (qe_tup (qa_cons (qe_dicIx hr (pv 5) (qv 7)) (qa_cons (qv 10) qa_nil)))))) qa_nil)) (qa_cons (qe_ix (qv 1) qe_int) qa_nil))))
    (qss_cons (qs_set (i := 9) nd rfl (by first | exact Or.inl rfl | exact Or.inr rfl) (qe_callTy c_tuple rfl b.f_tuple bt_tuple (qa_cons (qe_set (qf_lc rfl nd (qi_seq (qv 2)) (own := [("_law_row", 11)]) (blkOk_by (by kernel_rfl)) (by decide) (fun _ _ _ _ _ => (qg_name nd rfl (by first | exact Or.inl rfl | exact Or.inr rfl))) (fun _ _ _ _ _ => qts_nil) (fun _ _ _ _ _ => (qe_callTy c_tuple rfl b.f_tuple bt_tuple (qa_cons (qe_set (qf_lc rfl nd (qi_seq (qv 11)) (own := [("_law_rating", 12)]) (blkOk_by (by kernel_rfl)) (by decide) (fun _ _ _ _ _ => (qg_name nd rfl (by first | exact Or.inl rfl | exact Or.inr rfl))) (fun _ _ _ _ _ => qts_nil) (fun _ _ _ _ _ => (qe_dicIx hr (pv 5) (qv 12))))) qa_nil))))) qa_nil)))
    (qss_one (qs_ret (qe_call (g_equal_17a7.at hr (by decide)) rfl (qa_cons (qe_call (g_both_dcd2.at hr (by decide)) rfl (qa_cons (qv 8) qa_nil)) (qa_cons (qv 9) qa_nil))))))))))), p_replaced_right_5eb3 r⟩ (fun _ _ _ h => h)
theorem sc_spread_of_61bf : FnScope ["panel", "whole", "rating", "mark", "weight"] ["panel", "whole"] (defScope st_spread_of_61bf) := ⟨rfl, rfl, rfl, by decide +kernel, rfl, by decide +kernel, by decide +kernel⟩
theorem ok_spread_of_61bf {f fd} (b : Bi K mg) (F : Fn K "spread_of" "spread_of" st_spread_of_61bf f fd) : FnOk P w K mg base CX0 1 f fd ["panel", "whole"] (spP K sp_spread_of_61bf) :=
  okP F sc_spread_of_61bf len_spread_of_61bf ⟨t_spread_of_61bf, fun cdv A outer s H E hr => by
    have nd := sc_spread_of_61bf.nd
    exact (qss_one (qs_ret (qe_callB (c_sum rfl) rfl b.f_sum bt_sum (qa_cons (qe_set (qf_lc rfl nd (qi_zip rfl b.f_zip (qa_cons (qe_ix (qv 0) qe_int) (qa_cons (qv 1) qa_nil))) (own := [("rating", 2), ("mark", 3), ("weight", 4)]) (blkOk_by (by kernel_rfl)) (by decide) (fun _ _ _ _ _ => (qg_tup rfl (qgs_cons (qg_tup rfl (qgs_cons (qg_name nd rfl (by first | exact Or.inl rfl | exact Or.inr rfl)) (qgs_cons (qg_name nd rfl (by first | exact Or.inl rfl | exact Or.inr rfl)) qgs_nil))) (qgs_cons (qg_name nd rfl (by first | exact Or.inl rfl | exact Or.inr rfl)) qgs_nil)))) (fun _ _ _ _ _ => qts_nil) (fun _ _ _ _ _ => (qe_bin o_mul (qv 4) (qe_callB c_abs rfl b.f_abs bt_abs (qa_cons (qe_bin o_sub (qv 2) (qv 3)) qa_nil)))))) qa_nil)))), p_spread_of_61bf⟩
theorem sc_least_spread_c534 : FnScope ["panel"] ["panel"] (defScope st_least_spread_c534) := ⟨rfl, rfl, rfl, by decide +kernel, rfl, by decide +kernel, by decide +kernel⟩
theorem ok_least_spread_c534 {f fd} (b : Bi K mg) (g_spread_of_61bf : Glo P w K mg base "spread_of" 2 (spP K (sp_spread_of_61bf)) 1) (g_lowest_median_cc3e : Glo P w K mg base "lowest_median" 1 (spP K (sp_lowest_median_cc3e)) 7) (F : Fn K "least_spread" "least_spread" st_least_spread_c534 f fd) : FnOk P w K mg base CX0 8 f fd ["panel"] (spP K sp_least_spread_c534) :=
  okP F sc_least_spread_c534 len_least_spread_c534 ⟨t_least_spread_c534, fun cdv A outer s H E hr => by
    have nd := sc_least_spread_c534.nd
    exact (qss_one (qs_ret (qe_call (g_spread_of_61bf.at hr (by decide)) rfl (qa_cons (qv 0) (qa_cons (qe_call (g_lowest_median_cc3e.at hr (by decide)) rfl (qa_cons (qv 0) qa_nil)) qa_nil))))), p_least_spread_c534⟩
theorem sc_turned_right_3b73 : FnScope ["_law_drawn", "_law_panel_here", "_law_both_here", "_law_factor", "_law_heavy", "_law_items_here", "_law_found", "_law_due", "_law_mark", "_law_weight", "_law_low", "_law_high", "_law_row", "_law_rating"] ["_law_drawn", "_law_panel_here", "_law_both_here"] (defScope st_turned_right_3b73) := ⟨rfl, rfl, rfl, by decide +kernel, rfl, by decide +kernel, by decide +kernel⟩
theorem ok_turned_right_3b73 {f fd} {r c q : Addr} (b : Bi K mg) (g_both_dcd2 : Glo P w K mg base "_law_both" 1 (spP K (sp_both_dcd2)) 8) (g_equal_17a7 : Glo P w K mg base "_law_equal" 2 (spP K (sp_equal_17a7 24)) 25) (g_next : ∀ r c q, Glo P w K mg base "_law_next" 2 (spG (gr K r c q) (nextS r)) 1) (g_least_spread_c534 : Glo P w K mg base "least_spread" 1 (spP K (sp_least_spread_c534)) 8) (F : Fn K "_law_turned_right" "_law_turned_right" st_turned_right_3b73 f fd) : FnOk P w K mg base CX0 26 f fd ["_law_drawn", "_law_panel_here", "_law_both_here"] (spG (gr K r c q) (sp_turned_right_3b73 r)) :=
  okG (P := P) (w := w) (mg := mg) (base := base) (G := gr K r c q) (k := 25) rfl F sc_turned_right_3b73 (len_turned_right_3b73 r) ⟨t_turned_right_3b73 r, fun cdv A outer s H E hr => by
    have nd := sc_turned_right_3b73.nd
    exact (qss_cons (qs_set (i := 3) nd rfl (by first | exact Or.inl rfl | exact Or.inr rfl) (qe_bin o_add qe_int (qe_callG ((g_next _ _ _).at hr (by decide)) rfl (qa_cons (qv 0) (qa_cons (qe_bin o_fdiv (qe_bin o_pow qe_int qe_int) (qe_callB (c_max rfl) rfl b.f_max bt_max (qa_cons (qe_set (qf_lc rfl nd (qi_seq (qe_ix (qv 1) qe_int)) (own := [("_law_mark", 8), ("_law_weight", 9)]) (blkOk_by (by kernel_rfl)) (by decide) (fun _ _ _ _ _ => (qg_tup rfl (qgs_cons (qg_name nd rfl (by first | exact Or.inl rfl | exact Or.inr rfl)) (qgs_cons (qg_name nd rfl (by first | exact Or.inl rfl | exact Or.inr rfl)) qgs_nil)))) (fun _ _ _ _ _ => qts_nil) (fun _ _ _ _ _ => (qv 9)))) qa_nil))) qa_nil)))))
    (qss_cons (qs_set (i := 4) nd rfl (by first | exact Or.inl rfl | exact Or.inr rfl) (qe_tup (qa_cons (qe_callTy c_tuple rfl b.f_tuple bt_tuple (qa_cons (qe_set (qf_lc rfl nd (qi_seq (qe_ix (qv 1) qe_int)) (own := [("_law_mark", 8), ("_law_weight", 9)]) (blkOk_by (by kernel_rfl)) (by decide) (fun _ _ _ _ _ => (qg_tup rfl (qgs_cons (qg_name nd rfl (by first | exact Or.inl rfl | exact Or.inr rfl)) (qgs_cons (qg_name nd rfl (by first | exact Or.inl rfl | exact Or.inr rfl)) qgs_nil)))) (fun _ _ _ _ _ => qts_nil) (fun _ _ _ _ _ => (qe_tup (qa_cons (qv 8) (qa_cons (qe_bin o_mul (qv 9) (qv 3)) qa_nil)))))) qa_nil)) (qa_cons (qe_ix (qv 1) qe_int) qa_nil))))
    (qss_cons (qs_if (PW.pt (qw_or (qt_not (qt_val (qe_call (g_equal_17a7.at hr (by decide)) rfl (qa_cons (qe_call (g_both_dcd2.at hr (by decide)) rfl (qa_cons (qv 4) qa_nil)) (qa_cons (qv 2) qa_nil))))) (qw_and1 (qt_cmp (o_ne hr) (qe_call (g_least_spread_c534.at hr (by decide)) rfl (qa_cons (qv 4) qa_nil)) (qe_bin o_mul (qv 3) (qe_call (g_least_spread_c534.at hr (by decide)) rfl (qa_cons (qv 1) qa_nil))) (nomark _))))) (qss_one (qs_ret qe_bl)) qss_nil)
    (qss_cons (qs_set (i := 5) nd rfl (by first | exact Or.inl rfl | exact Or.inr rfl) (qe_callTy c_tuple rfl b.f_tuple bt_tuple (qa_cons (qe_set (qf_lc rfl nd (qi_seq (qe_ix (qv 1) qe_int)) (own := [("_law_mark", 8), ("_law_weight", 9)]) (blkOk_by (by kernel_rfl)) (by decide) (fun _ _ _ _ _ => (qg_tup rfl (qgs_cons (qg_name nd rfl (by first | exact Or.inl rfl | exact Or.inr rfl)) (qgs_cons (qg_name nd rfl (by first | exact Or.inl rfl | exact Or.inr rfl)) qgs_nil)))) (fun _ _ _ _ _ => qts_nil) (fun _ _ _ _ _ => (qe_tup (qa_cons (qe_bin o_sub qe_int (qv 8)) (qa_cons (qv 9) qa_nil)))))) qa_nil)))
    (qss_cons (qs_set (i := 6) nd rfl (by first | exact Or.inl rfl | exact Or.inr rfl) (qe_call (g_both_dcd2.at hr (by decide)) rfl (qa_cons (qe_tup (qa_cons (qv 5) (qa_cons (qe_callTy c_tuple rfl b.f_tuple bt_tuple (qa_cons (qe_set (qf_lc rfl nd (qi_seq (qe_ix (qv 1) qe_int)) (own := [("_law_low", 10), ("_law_high", 11)]) (blkOk_by (by kernel_rfl)) (by decide) (fun _ _ _ _ _ => (qg_tup rfl (qgs_cons (qg_name nd rfl (by first | exact Or.inl rfl | exact Or.inr rfl)) (qgs_cons (qg_name nd rfl (by first | exact Or.inl rfl | exact Or.inr rfl)) qgs_nil)))) (fun _ _ _ _ _ => qts_nil) (fun _ _ _ _ _ => (qe_tup (qa_cons (qv 11) (qa_cons (qv 10) qa_nil)))))) qa_nil)) qa_nil))) qa_nil)))
    (qss_cons (qs_set (i := 7) nd rfl (by first | exact Or.inl rfl | exact Or.inr rfl) (qe_callTy c_tuple rfl b.f_tuple bt_tuple (qa_cons (qe_set (qf_lc rfl nd (qi_seq (qe_tup (qa_cons (qe_ix (qv 2) qe_int) (qa_cons (qe_ix (qv 2) qe_int) qa_nil)))) (own := [("_law_row", 12)]) (blkOk_by (by kernel_rfl)) (by decide) (fun _ _ _ _ _ => (qg_name nd rfl (by first | exact Or.inl rfl | exact Or.inr rfl))) (fun _ _ _ _ _ => qts_nil) (fun _ _ _ _ _ => (qe_callTy c_tuple rfl b.f_tuple bt_tuple (qa_cons (qe_set (qf_lc rfl nd (qi_seq (qv 12)) (own := [("_law_rating", 13)]) (blkOk_by (by kernel_rfl)) (by decide) (fun _ _ _ _ _ => (qg_name nd rfl (by first | exact Or.inl rfl | exact Or.inr rfl))) (fun _ _ _ _ _ => qts_nil) (fun _ _ _ _ _ => (qe_bin o_sub qe_int (qv 13))))) qa_nil))))) qa_nil)))
    (qss_one (qs_ret (qe_call (g_equal_17a7.at hr (by decide)) rfl (qa_cons (qv 6) (qa_cons (qv 7) qa_nil))))))))))), p_turned_right_3b73 r⟩ (fun _ _ _ h => h)
theorem sc_raised_right_513c : FnScope ["_law_drawn", "_law_panel_here", "_law_both_here", "_law_item", "_law_mark", "_law_weight", "_law_more", "_law_raised", "_law_row", "_law_later", "_law_wider", "_law_k"] ["_law_drawn", "_law_panel_here", "_law_both_here"] (defScope st_raised_right_513c) := ⟨rfl, rfl, rfl, by decide +kernel, rfl, by decide +kernel, by decide +kernel⟩
theorem ok_raised_right_513c {f fd} {r c q : Addr} (b : Bi K mg) (g_next : ∀ r c q, Glo P w K mg base "_law_next" 2 (spG (gr K r c q) (nextS r)) 1) (g_size_3de8 : ∀ r c q, Glo P w K mg base "_law_size" 2 (spG (gr K r c q) (sp_size_3de8 r)) 2) (g_both_dcd2 : Glo P w K mg base "_law_both" 1 (spP K (sp_both_dcd2)) 8) (g_least_spread_c534 : Glo P w K mg base "least_spread" 1 (spP K (sp_least_spread_c534)) 8) (F : Fn K "_law_raised_right" "_law_raised_right" st_raised_right_513c f fd) : FnOk P w K mg base CX0 9 f fd ["_law_drawn", "_law_panel_here", "_law_both_here"] (spG (gr K r c q) (sp_raised_right_513c r)) :=
  okG (P := P) (w := w) (mg := mg) (base := base) (G := gr K r c q) (k := 8) rfl F sc_raised_right_513c (len_raised_right_513c r) ⟨t_raised_right_513c r, fun cdv A outer s H E hr => by
    have nd := sc_raised_right_513c.nd
    exact (qss_cons (qs_set (i := 3) nd rfl (by first | exact Or.inl rfl | exact Or.inr rfl) (qe_callG ((g_next _ _ _).at hr (by decide)) rfl (qa_cons (qv 0) (qa_cons (qe_callB c_len rfl b.f_len bt_len (qa_cons (qe_ix (qv 1) qe_int) qa_nil)) qa_nil))))
    (qss_cons (qs_setT (qe_ix (qe_ix (qv 1) qe_int) (qv 3)) (qg_tup rfl (qgs_cons (qg_name nd rfl (by first | exact Or.inl rfl | exact Or.inr rfl)) (qgs_cons (qg_name nd rfl (by first | exact Or.inl rfl | exact Or.inr rfl)) qgs_nil))))
    (qss_cons (qs_set (i := 6) nd rfl (by first | exact Or.inl rfl | exact Or.inr rfl) (qe_bin o_add (qv 4) (qe_callG ((g_size_3de8 _ _ _).at hr (by decide)) rfl (qa_cons (qv 0) (qa_cons (qe_bin o_sub (qe_bin o_pow qe_int qe_int) (qv 4)) qa_nil)))))
    (qss_cons (qs_set (i := 7) nd rfl (by first | exact Or.inl rfl | exact Or.inr rfl) (qe_tup (qa_cons (qe_bin o_add (qe_bin o_add (qe_slice (qe_ix (qv 1) qe_int) qo_none (qo_some (qv 3))) (qe_tup (qa_cons (qe_tup (qa_cons (qv 6) (qa_cons (qv 5) qa_nil))) qa_nil))) (qe_slice (qe_ix (qv 1) qe_int) (qo_some (qe_bin o_add (qv 3) qe_int)) qo_none)) (qa_cons (qe_ix (qv 1) qe_int) qa_nil))))
    (qss_cons (qs_for PassesOwn.never rfl (qi_zip rfl b.f_zip (qa_cons (qv 2) (qa_cons (qe_call (g_both_dcd2.at hr (by decide)) rfl (qa_cons (qv 7) qa_nil)) qa_nil))) (qg_tup rfl (qgs_cons (qg_name nd rfl (by first | exact Or.inl rfl | exact Or.inr rfl)) (qgs_cons (qg_name nd rfl (by first | exact Or.inl rfl | exact Or.inr rfl)) qgs_nil))) (qss_one (qs_if (qt_cmp (o_ne hr) (qe_set (qf_lc rfl nd (qi_range1 rfl b.f_range (qa_cons (qe_callB c_len rfl b.f_len bt_len (qa_cons (qv 8) qa_nil)) qa_nil)) (own := [("_law_k", 11)]) (blkOk_by (by kernel_rfl)) (by decide) (fun _ _ _ _ _ => (qg_name nd rfl (by first | exact Or.inl rfl | exact Or.inr rfl))) (fun _ _ _ _ _ => (qts_one (qt_cmp o_lt (qe_ix (qv 9) (qv 11)) (qe_ix (qv 8) (qv 11)) (nomark _)))) (fun _ _ _ _ _ => (qv 11)))) (qe_set (qf_lst qa_nil)) (nomark _)) (qss_one (qs_ret qe_bl)) qss_nil)))
    (qss_cons (qs_if (PW.pt (qw_or (qt_cmp (o_eq hr) (qe_callB c_len rfl b.f_len bt_len (qa_cons (qe_ix (qv 1) qe_int) qa_nil)) qe_int (nomark _)) (qw_and1 (qt_cmp (o_eq hr) (qe_callB c_len rfl b.f_len bt_len (qa_cons (qe_ix (qv 1) qe_int) qa_nil)) qe_int (nomark _))))) (qss_one (qs_ret qe_bl)) qss_nil)
    (qss_cons (qs_set (i := 10) nd rfl (by first | exact Or.inl rfl | exact Or.inr rfl) (qe_tup (qa_cons (qe_ix (qv 1) qe_int) (qa_cons (qe_bin o_add (qe_ix (qv 1) qe_int) (qe_tup (qa_cons (qe_tup (qa_cons (qv 3) (qa_cons (qe_bin o_mod (qe_bin o_add (qv 3) qe_int) (qe_callB c_len rfl b.f_len bt_len (qa_cons (qe_ix (qv 1) qe_int) qa_nil))) qa_nil))) qa_nil))) qa_nil))))
    (qss_one (qs_ret (qe_cmp o_ge (qe_call (g_least_spread_c534.at hr (by decide)) rfl (qa_cons (qv 10) qa_nil)) (qe_call (g_least_spread_c534.at hr (by decide)) rfl (qa_cons (qv 1) qa_nil)) (nomark _))))))))))), p_raised_right_513c r⟩ (fun _ _ _ h => h)
theorem sc_order_right_b5e6 : FnScope ["_law_drawn", "_law_panel_here", "_law_both_here", "_law_left", "_law_order", "_law_rules_here", "_law_found", "_law_low", "_law_high", "_law_k", "_law_row"] ["_law_drawn", "_law_panel_here", "_law_both_here"] (defScope st_order_right_b5e6) := ⟨rfl, rfl, rfl, by decide +kernel, rfl, by decide +kernel, by decide +kernel⟩
theorem ok_order_right_b5e6 {f fd} {r c q : Addr} (b : Bi K mg) (g_both_dcd2 : Glo P w K mg base "_law_both" 1 (spP K (sp_both_dcd2)) 8) (g_equal_17a7 : Glo P w K mg base "_law_equal" 2 (spP K (sp_equal_17a7 24)) 25) (g_next : ∀ r c q, Glo P w K mg base "_law_next" 2 (spG (gr K r c q) (nextS r)) 1) (F : Fn K "_law_order_right" "_law_order_right" st_order_right_b5e6 f fd) : FnOk P w K mg base CX0 26 f fd ["_law_drawn", "_law_panel_here", "_law_both_here"] (spG (gr K r c q) (sp_order_right_b5e6 r)) :=
  okG (P := P) (w := w) (mg := mg) (base := base) (G := gr K r c q) (k := 25) rfl F sc_order_right_b5e6 (len_order_right_b5e6 r) ⟨t_order_right_b5e6 r, fun cdv A outer s H E hr => by
    have nd := sc_order_right_b5e6.nd
    exact (qss_cons (qs_parC2 rfl nd rfl rfl (by first | exact Or.inl rfl | exact Or.inr rfl) (by first | exact Or.inl rfl | exact Or.inr rfl) (qm_own (qf_lstRg1 rfl rfl b.f_list rfl b.f_range (qe_callB c_len rfl b.f_len bt_len (qa_cons (qe_ix (qv 1) qe_int) qa_nil))) (qm_own (qf_lst qa_nil) qm_nil)) (by first | exact Or.inl rfl | exact Or.inr rfl) (by first | exact Or.inl rfl | exact Or.inr rfl))
    (qss_cons (qs_while PassesOwn.never (qt_cmpN1 (b_ne hr) (pv 3) (qe_set (qf_lst qa_nil)) (nomark _)) (qss_one (qs_expr (qe_append (pv 4) (qe_popAt (pv 3) (qe_callG ((g_next _ _ _).at hr (by decide)) rfl (qa_cons (qv 0) (qa_cons (qe_lenN (pv 3) rfl b.f_len bt_len) qa_nil))))))))
    (qss_cons (qs_set (i := 5) nd rfl (by first | exact Or.inl rfl | exact Or.inr rfl) (qe_callTy c_tuple rfl b.f_tuple bt_tuple (qa_cons (qe_set (qf_lc rfl nd (qi_seq (qe_ix (qv 1) qe_int)) (own := [("_law_low", 7), ("_law_high", 8)]) (blkOk_by (by kernel_rfl)) (by decide) (fun _ _ _ _ _ => (qg_tup rfl (qgs_cons (qg_name nd rfl (by first | exact Or.inl rfl | exact Or.inr rfl)) (qgs_cons (qg_name nd rfl (by first | exact Or.inl rfl | exact Or.inr rfl)) qgs_nil)))) (fun _ _ _ _ _ => qts_nil) (fun _ _ _ _ _ => (qe_tup (qa_cons (qe_indexN (pv 4) (qv 7)) (qa_cons (qe_indexN (pv 4) (qv 8)) qa_nil)))))) qa_nil)))
    (qss_cons (qs_set (i := 6) nd rfl (by first | exact Or.inl rfl | exact Or.inr rfl) (qe_call (g_both_dcd2.at hr (by decide)) rfl (qa_cons (qe_tup (qa_cons (qe_callTy c_tuple rfl b.f_tuple bt_tuple (qa_cons (qe_set (qf_lc rfl nd (qi_seq (qv 4)) (own := [("_law_k", 9)]) (blkOk_by (by kernel_rfl)) (by decide) (fun _ _ _ _ _ => (qg_name nd rfl (by first | exact Or.inl rfl | exact Or.inr rfl))) (fun _ _ _ _ _ => qts_nil) (fun _ _ _ _ _ => (qe_ix (qe_ix (qv 1) qe_int) (qv 9))))) qa_nil)) (qa_cons (qv 5) qa_nil))) qa_nil)))
    (qss_one (qs_ret (qe_call (g_equal_17a7.at hr (by decide)) rfl (qa_cons (qv 6) (qa_cons (qe_callTy c_tuple rfl b.f_tuple bt_tuple (qa_cons (qe_set (qf_lc rfl nd (qi_seq (qv 2)) (own := [("_law_row", 10)]) (blkOk_by (by kernel_rfl)) (by decide) (fun _ _ _ _ _ => (qg_name nd rfl (by first | exact Or.inl rfl | exact Or.inr rfl))) (fun _ _ _ _ _ => qts_nil) (fun _ _ _ _ _ => (qe_callTy c_tuple rfl b.f_tuple bt_tuple (qa_cons (qe_set (qf_lc rfl nd (qi_seq (qv 4)) (own := [("_law_k", 9)]) (blkOk_by (by kernel_rfl)) (by decide) (fun _ _ _ _ _ => (qg_name nd rfl (by first | exact Or.inl rfl | exact Or.inr rfl))) (fun _ _ _ _ _ => qts_nil) (fun _ _ _ _ _ => (qe_ix (qv 10) (qv 9))))) qa_nil))))) qa_nil)) qa_nil))))))))), p_order_right_b5e6 r⟩ (fun _ _ _ h => h)
theorem sc_law_8c4c : FnScope ["_law_script", "_law_drawn", "_law_turn", "_law_panel_here", "_law_both_here"] ["_law_script"] (defScope st_law_8c4c) := ⟨rfl, rfl, rfl, by decide +kernel, rfl, by decide +kernel, by decide +kernel⟩
theorem ok_law_8c4c {f fd} (b : Bi K mg) (g_draws : Glo P w K mg base "_law_draws" 1 (spDraws K) 1) (g_panel_3836 : ∀ r c q, Glo P w K mg base "_law_panel" 2 (spG (gr K r c q) (sp_panel_3836 r)) 4) (g_both_dcd2 : Glo P w K mg base "_law_both" 1 (spP K (sp_both_dcd2)) 8) (g_replaced_right_5eb3 : ∀ r c q, Glo P w K mg base "_law_replaced_right" 3 (spG (gr K r c q) (sp_replaced_right_5eb3 r)) 26) (g_turned_right_3b73 : ∀ r c q, Glo P w K mg base "_law_turned_right" 3 (spG (gr K r c q) (sp_turned_right_3b73 r)) 26) (g_raised_right_513c : ∀ r c q, Glo P w K mg base "_law_raised_right" 3 (spG (gr K r c q) (sp_raised_right_513c r)) 9) (g_order_right_b5e6 : ∀ r c q, Glo P w K mg base "_law_order_right" 3 (spG (gr K r c q) (sp_order_right_b5e6 r)) 26) (F : Fn K "law" "law" st_law_8c4c f fd) : FnOk P w K mg base CX0 27 f fd ["_law_script"] (spLaw K) :=
  ok_law F sc_law_8c4c (i := 1) (by decide) (by rfl) ⟨t_law_8c4c, fun cdv A outer s H E hr => by
    have nd := sc_law_8c4c.nd
    exact ⟨ps_set nd rfl (by first | exact Or.inl rfl | exact Or.inr rfl) (pe_callD (g_draws.at hr (by decide)) rfl (pa_cons (pv 0) pa_nil)), fun r c q => (qss_cons (qs_for PassesOwn.never rfl (qi_range1 rfl b.f_range (qa_cons qe_int qa_nil)) (qg_name nd rfl (by first | exact Or.inl rfl | exact Or.inr rfl)) (qss_cons (qs_set (i := 3) nd rfl (by first | exact Or.inl rfl | exact Or.inr rfl) (qe_callG ((g_panel_3836 _ _ _).at hr (by decide)) rfl (qa_cons (qv 1) (qa_cons qe_int qa_nil))))
    (qss_cons (qs_set (i := 4) nd rfl (by first | exact Or.inl rfl | exact Or.inr rfl) (qe_call (g_both_dcd2.at hr (by decide)) rfl (qa_cons (qv 3) qa_nil)))
    (qss_cons (qs_if (PW.pt (qw_or (qt_not (qt_val (qe_callG ((g_replaced_right_5eb3 _ _ _).at hr (by decide)) rfl (qa_cons (qv 1) (qa_cons (qv 3) (qa_cons (qv 4) qa_nil)))))) (qw_and1 (qt_not (qt_val (qe_callG ((g_turned_right_3b73 _ _ _).at hr (by decide)) rfl (qa_cons (qv 1) (qa_cons (qv 3) (qa_cons (qv 4) qa_nil))))))))) (qss_one (qs_ret qe_bl)) qss_nil)
    (qss_one (qs_if (PW.pt (qw_or (qt_not (qt_val (qe_callG ((g_raised_right_513c _ _ _).at hr (by decide)) rfl (qa_cons (qv 1) (qa_cons (qv 3) (qa_cons (qv 4) qa_nil)))))) (qw_and1 (qt_not (qt_val (qe_callG ((g_order_right_b5e6 _ _ _).at hr (by decide)) rfl (qa_cons (qv 1) (qa_cons (qv 3) (qa_cons (qv 4) qa_nil))))))))) (qss_one (qs_ret qe_bl)) qss_nil))))))
    (qss_one (qs_ret qe_bl)))⟩, p_law_8c4c⟩
end
theorem ob_eq (s : PySem.W.SharedT) : ob s = hk.obs s.abs := obsBG_eq (HandSHeadRun.getT_eq s)
theorem facts {P : Program} {w : World} {K : PySem.W.Frag} {h : Heap} {mg : Str → Option Value} {f : Addr} (X : K.In h) (G : h.Ns mainGlobals mg) (hfa : mg ("law" : Str) = some (.ref f)) (c0 : SaysB fal fnl exl K) :
    ∃ fd : FuncData, (∀ (s : Shared) (v : Value), BindsTo s fd ⟨[v], []⟩ [("_law_script", v)]) ∧ ∀ base : Heap, K.In base → base.Ns mainGlobals mg → FnOk P w K mg base CX0 27 f fd ["_law_script"] (spLaw K) := by
  have c := c0.d
  have b : Bi K mg := ⟨He.free_ok X G (c.fact 27 (f := .free "abs") rfl), He.free_ok X G (c.fact 28 (f := .free "all") rfl), He.free_ok X G (c.fact 29 (f := .free "bool") rfl), He.free_ok X G (c.fact 30 (f := .free "int") rfl), He.free_ok X G (c.fact 31 (f := .free "isinstance") rfl), He.free_ok X G (c.fact 32 (f := .free "len") rfl), He.free_ok X G (c.fact 33 (f := .free "list") rfl), He.free_ok X G (c.fact 34 (f := .free "max") rfl), He.free_ok X G (c.fact 35 (f := .free "min") rfl), He.free_ok X G (c.fact 36 (f := .free "range") rfl), He.free_ok X G (c.fact 37 (f := .free "set") rfl), He.free_ok X G (c.fact 38 (f := .free "sorted") rfl), He.free_ok X G (c.fact 39 (f := .free "str") rfl), He.free_ok X G (c.fact 40 (f := .free "sum") rfl), He.free_ok X G (c.fact 41 (f := .free "tuple") rfl), He.free_ok X G (c.fact 42 (f := .free "zip") rfl)⟩
  obtain ⟨fd_draws, F_draws⟩ := c.def_ 0 (d := d_draws) rfl
  have m_draws := He.glo_ok X G (c.fact 0 (f := .glo "_law_draws") rfl)
  obtain ⟨fd_next, F_next⟩ := c.def_ 1 (d := d_next) rfl
  have m_next := He.glo_ok X G (c.fact 1 (f := .glo "_law_next") rfl)
  obtain ⟨fd_size_3de8, F_size_3de8⟩ := c.def_ 2 (d := d_size_3de8) rfl
  have m_size_3de8 := He.glo_ok X G (c.fact 2 (f := .glo "_law_size") rfl)
  obtain ⟨fd_items_cafd, F_items_cafd⟩ := c.def_ 3 (d := d_items_cafd) rfl
  have m_items_cafd := He.glo_ok X G (c.fact 3 (f := .glo "_law_items") rfl)
  obtain ⟨fd_rules_ccf3, F_rules_ccf3⟩ := c.def_ 4 (d := d_rules_ccf3) rfl
  have m_rules_ccf3 := He.glo_ok X G (c.fact 4 (f := .glo "_law_rules") rfl)
  obtain ⟨fd_panel_3836, F_panel_3836⟩ := c.def_ 5 (d := d_panel_3836) rfl
  have m_panel_3836 := He.glo_ok X G (c.fact 5 (f := .glo "_law_panel") rfl)
  obtain ⟨fd_all_groups_7d0b, F_all_groups_7d0b⟩ := c.def_ 6 (d := d_all_groups_7d0b) rfl
  have m_all_groups_7d0b := He.glo_ok X G (c.fact 6 (f := .glo "all_groups") rfl)
  obtain ⟨fd_is_integer_8a5f, F_is_integer_8a5f⟩ := c.def_ 7 (d := d_is_integer_8a5f) rfl
  have m_is_integer_8a5f := He.glo_ok X G (c.fact 7 (f := .glo "is_integer") rfl)
  obtain ⟨fd_is_within_3133, F_is_within_3133⟩ := c.def_ 8 (d := d_is_within_3133) rfl
  have m_is_within_3133 := He.glo_ok X G (c.fact 8 (f := .glo "is_within") rfl)
  obtain ⟨fd_is_group_a50b, F_is_group_a50b⟩ := c.def_ 9 (d := d_is_group_a50b) rfl
  have m_is_group_a50b := He.glo_ok X G (c.fact 9 (f := .glo "is_group") rfl)
  obtain ⟨fd_is_upward_11cd, F_is_upward_11cd⟩ := c.def_ 10 (d := d_is_upward_11cd) rfl
  have m_is_upward_11cd := He.glo_ok X G (c.fact 10 (f := .glo "is_upward") rfl)
  obtain ⟨fd_upward_sets_3622, F_upward_sets_3622⟩ := c.def_ 11 (d := d_upward_sets_3622) rfl
  have m_upward_sets_3622 := He.glo_ok X G (c.fact 11 (f := .glo "upward_sets") rfl)
  obtain ⟨fd_gain_of_56ca, F_gain_of_56ca⟩ := c.def_ 12 (d := d_gain_of_56ca) rfl
  have m_gain_of_56ca := He.glo_ok X G (c.fact 12 (f := .glo "gain_of") rfl)
  obtain ⟨fd_greatest_groups_403e, F_greatest_groups_403e⟩ := c.def_ 13 (d := d_greatest_groups_403e) rfl
  have m_greatest_groups_403e := He.glo_ok X G (c.fact 13 (f := .glo "greatest_groups") rfl)
  obtain ⟨fd_extreme_median_a062, F_extreme_median_a062⟩ := c.def_ 14 (d := d_extreme_median_a062) rfl
  have m_extreme_median_a062 := He.glo_ok X G (c.fact 14 (f := .glo "extreme_median") rfl)
  obtain ⟨fd_lowest_median_cc3e, F_lowest_median_cc3e⟩ := c.def_ 15 (d := d_lowest_median_cc3e) rfl
  have m_lowest_median_cc3e := He.glo_ok X G (c.fact 15 (f := .glo "lowest_median") rfl)
  obtain ⟨fd_highest_median_e9e9, F_highest_median_e9e9⟩ := c.def_ 16 (d := d_highest_median_e9e9) rfl
  have m_highest_median_e9e9 := He.glo_ok X G (c.fact 16 (f := .glo "highest_median") rfl)
  obtain ⟨fd_both_dcd2, F_both_dcd2⟩ := c.def_ 17 (d := d_both_dcd2) rfl
  have m_both_dcd2 := He.glo_ok X G (c.fact 17 (f := .glo "_law_both") rfl)
  obtain ⟨fd_one_be76, F_one_be76⟩ := c.def_ 18 (d := d_one_be76) rfl
  have m_one_be76 := He.glo_ok X G (c.fact 18 (f := .glo "_law_one") rfl)
  obtain ⟨fd_equal_17a7, F_equal_17a7⟩ := c.def_ 19 (d := d_equal_17a7) rfl
  have m_equal_17a7 := He.glo_ok X G (c.fact 19 (f := .glo "_law_equal") rfl)
  obtain ⟨fd_replaced_right_5eb3, F_replaced_right_5eb3⟩ := c.def_ 20 (d := d_replaced_right_5eb3) rfl
  have m_replaced_right_5eb3 := He.glo_ok X G (c.fact 20 (f := .glo "_law_replaced_right") rfl)
  obtain ⟨fd_spread_of_61bf, F_spread_of_61bf⟩ := c.def_ 21 (d := d_spread_of_61bf) rfl
  have m_spread_of_61bf := He.glo_ok X G (c.fact 21 (f := .glo "spread_of") rfl)
  obtain ⟨fd_least_spread_c534, F_least_spread_c534⟩ := c.def_ 22 (d := d_least_spread_c534) rfl
  have m_least_spread_c534 := He.glo_ok X G (c.fact 22 (f := .glo "least_spread") rfl)
  obtain ⟨fd_turned_right_3b73, F_turned_right_3b73⟩ := c.def_ 23 (d := d_turned_right_3b73) rfl
  have m_turned_right_3b73 := He.glo_ok X G (c.fact 23 (f := .glo "_law_turned_right") rfl)
  obtain ⟨fd_raised_right_513c, F_raised_right_513c⟩ := c.def_ 24 (d := d_raised_right_513c) rfl
  have m_raised_right_513c := He.glo_ok X G (c.fact 24 (f := .glo "_law_raised_right") rfl)
  obtain ⟨fd_order_right_b5e6, F_order_right_b5e6⟩ := c.def_ 25 (d := d_order_right_b5e6) rfl
  have m_order_right_b5e6 := He.glo_ok X G (c.fact 25 (f := .glo "_law_order_right") rfl)
  obtain ⟨fd_law_8c4c, F_law_8c4c⟩ := c.def_ 26 (d := d_law_8c4c) rfl
  have e := hfa.symm.trans (He.glo_ok X G (c.fact 26 (f := .glo "law") rfl))
  cases e
  have bl := FunD.bindsA (ps := ["_law_script"]) F_law_8c4c fun _ _ _ _ _ _ us hl => match us, hl with | [_], _ => rfl
  refine ⟨fd_law_8c4c, fun s v => bl s [v] rfl, fun base _ _ => ?_⟩
  have g_draws : Glo P w K mg base "_law_draws" 1 (spDraws K) 1 := ⟨_, fd_draws, ["_law_script"], ok_draws0 b  F_draws, m_draws, FunD.kp F_draws, FunD.bindsN F_draws fun _ _ _ _ _ _ us hl => match us, hl with | [_], _ => rfl, rfl⟩
  have g_next : ∀ r c q, Glo P w K mg base "_law_next" 2 (spG (gr K r c q) (nextS r)) 1 := fun r c q => ⟨_, fd_next, ["_law_drawn", "_law_many"], ok_next0 b  F_next, m_next, FunD.kp F_next, FunD.bindsN F_next fun _ _ _ _ _ _ us hl => match us, hl with | [_, _], _ => rfl, rfl⟩
  have g_size_3de8 : ∀ r c q, Glo P w K mg base "_law_size" 2 (spG (gr K r c q) (sp_size_3de8 r)) 2 := fun r c q => ⟨_, fd_size_3de8, ["_law_drawn", "_law_great"], ok_size_3de8 b g_next F_size_3de8, m_size_3de8, FunD.kp F_size_3de8, FunD.bindsN F_size_3de8 fun _ _ _ _ _ _ us hl => match us, hl with | [_, _], _ => rfl, rfl⟩
  have g_items_cafd : ∀ r c q, Glo P w K mg base "_law_items" 2 (spG (gr K r c q) (sp_items_cafd r)) 3 := fun r c q => ⟨_, fd_items_cafd, ["_law_drawn", "_law_count"], ok_items_cafd b g_next g_size_3de8 F_items_cafd, m_items_cafd, FunD.kp F_items_cafd, FunD.bindsN F_items_cafd fun _ _ _ _ _ _ us hl => match us, hl with | [_, _], _ => rfl, rfl⟩
  have g_rules_ccf3 : ∀ r c q, Glo P w K mg base "_law_rules" 2 (spG (gr K r c q) (sp_rules_ccf3 r)) 2 := fun r c q => ⟨_, fd_rules_ccf3, ["_law_drawn", "_law_count"], ok_rules_ccf3 b g_next F_rules_ccf3, m_rules_ccf3, FunD.kp F_rules_ccf3, FunD.bindsN F_rules_ccf3 fun _ _ _ _ _ _ us hl => match us, hl with | [_, _], _ => rfl, rfl⟩
  have g_panel_3836 : ∀ r c q, Glo P w K mg base "_law_panel" 2 (spG (gr K r c q) (sp_panel_3836 r)) 4 := fun r c q => ⟨_, fd_panel_3836, ["_law_drawn", "_law_most"], ok_panel_3836 b g_next g_items_cafd g_rules_ccf3 F_panel_3836, m_panel_3836, FunD.kp F_panel_3836, FunD.bindsN F_panel_3836 fun _ _ _ _ _ _ us hl => match us, hl with | [_, _], _ => rfl, rfl⟩
  have g_all_groups_7d0b : Glo P w K mg base "all_groups" 1 (spP K (sp_all_groups_7d0b)) 1 := ⟨_, fd_all_groups_7d0b, ["items"], ok_all_groups_7d0b b  F_all_groups_7d0b, m_all_groups_7d0b, FunD.kp F_all_groups_7d0b, FunD.bindsN F_all_groups_7d0b fun _ _ _ _ _ _ us hl => match us, hl with | [_], _ => rfl, rfl⟩
  have g_is_integer_8a5f : Glo P w K mg base "is_integer" 1 (spP K (sp_is_integer_8a5f)) 1 := ⟨_, fd_is_integer_8a5f, ["value"], ok_is_integer_8a5f b  F_is_integer_8a5f, m_is_integer_8a5f, FunD.kp F_is_integer_8a5f, FunD.bindsN F_is_integer_8a5f fun _ _ _ _ _ _ us hl => match us, hl with | [_], _ => rfl, rfl⟩
  have g_is_within_3133 : Glo P w K mg base "is_within" 3 (spP K (sp_is_within_3133)) 2 := ⟨_, fd_is_within_3133, ["value", "low", "high"], ok_is_within_3133 b g_is_integer_8a5f F_is_within_3133, m_is_within_3133, FunD.kp F_is_within_3133, FunD.bindsN F_is_within_3133 fun _ _ _ _ _ _ us hl => match us, hl with | [_, _, _], _ => rfl, rfl⟩
  have g_is_group_a50b : Glo P w K mg base "is_group" 2 (spP K (sp_is_group_a50b)) 3 := ⟨_, fd_is_group_a50b, ["panel", "value"], ok_is_group_a50b b g_is_within_3133 F_is_group_a50b, m_is_group_a50b, FunD.kp F_is_group_a50b, FunD.bindsN F_is_group_a50b fun _ _ _ _ _ _ us hl => match us, hl with | [_, _], _ => rfl, rfl⟩
  have g_is_upward_11cd : Glo P w K mg base "is_upward" 2 (spP K (sp_is_upward_11cd)) 4 := ⟨_, fd_is_upward_11cd, ["panel", "value"], ok_is_upward_11cd b g_is_group_a50b F_is_upward_11cd, m_is_upward_11cd, FunD.kp F_is_upward_11cd, FunD.bindsN F_is_upward_11cd fun _ _ _ _ _ _ us hl => match us, hl with | [_, _], _ => rfl, rfl⟩
  have g_upward_sets_3622 : Glo P w K mg base "upward_sets" 1 (spP K (sp_upward_sets_3622)) 5 := ⟨_, fd_upward_sets_3622, ["panel"], ok_upward_sets_3622 b g_all_groups_7d0b g_is_upward_11cd F_upward_sets_3622, m_upward_sets_3622, FunD.kp F_upward_sets_3622, FunD.bindsN F_upward_sets_3622 fun _ _ _ _ _ _ us hl => match us, hl with | [_], _ => rfl, rfl⟩
  have g_gain_of_56ca : Glo P w K mg base "gain_of" 3 (spP K (sp_gain_of_56ca)) 1 := ⟨_, fd_gain_of_56ca, ["panel", "group", "threshold"], ok_gain_of_56ca b  F_gain_of_56ca, m_gain_of_56ca, FunD.kp F_gain_of_56ca, FunD.bindsN F_gain_of_56ca fun _ _ _ _ _ _ us hl => match us, hl with | [_, _, _], _ => rfl, rfl⟩
  have g_greatest_groups_403e : Glo P w K mg base "greatest_groups" 3 (spP K (sp_greatest_groups_403e)) 2 := ⟨_, fd_greatest_groups_403e, ["panel", "groups", "threshold"], ok_greatest_groups_403e b g_gain_of_56ca F_greatest_groups_403e, m_greatest_groups_403e, FunD.kp F_greatest_groups_403e, FunD.bindsN F_greatest_groups_403e fun _ _ _ _ _ _ us hl => match us, hl with | [_, _, _], _ => rfl, rfl⟩
  have g_extreme_median_a062 : Glo P w K mg base "extreme_median" 2 (spP K (sp_extreme_median_a062)) 6 := ⟨_, fd_extreme_median_a062, ["panel", "which"], ok_extreme_median_a062 b g_upward_sets_3622 g_greatest_groups_403e F_extreme_median_a062, m_extreme_median_a062, FunD.kp F_extreme_median_a062, FunD.bindsN F_extreme_median_a062 fun _ _ _ _ _ _ us hl => match us, hl with | [_, _], _ => rfl, rfl⟩
  have g_lowest_median_cc3e : Glo P w K mg base "lowest_median" 1 (spP K (sp_lowest_median_cc3e)) 7 := ⟨_, fd_lowest_median_cc3e, ["panel"], ok_lowest_median_cc3e b g_extreme_median_a062 F_lowest_median_cc3e, m_lowest_median_cc3e, FunD.kp F_lowest_median_cc3e, FunD.bindsN F_lowest_median_cc3e fun _ _ _ _ _ _ us hl => match us, hl with | [_], _ => rfl, rfl⟩
  have g_highest_median_e9e9 : Glo P w K mg base "highest_median" 1 (spP K (sp_highest_median_e9e9)) 7 := ⟨_, fd_highest_median_e9e9, ["panel"], ok_highest_median_e9e9 b g_extreme_median_a062 F_highest_median_e9e9, m_highest_median_e9e9, FunD.kp F_highest_median_e9e9, FunD.bindsN F_highest_median_e9e9 fun _ _ _ _ _ _ us hl => match us, hl with | [_], _ => rfl, rfl⟩
  have g_both_dcd2 : Glo P w K mg base "_law_both" 1 (spP K (sp_both_dcd2)) 8 := ⟨_, fd_both_dcd2, ["_law_panel_here"], ok_both_dcd2 b g_lowest_median_cc3e g_highest_median_e9e9 F_both_dcd2, m_both_dcd2, FunD.kp F_both_dcd2, FunD.bindsN F_both_dcd2 fun _ _ _ _ _ _ us hl => match us, hl with | [_], _ => rfl, rfl⟩
  have g_one_be76 : ∀ r c q, Glo P w K mg base "_law_one" 2 (spG (gr K r c q) (sp_one_be76 r)) 2 := fun r c q => ⟨_, fd_one_be76, ["_law_drawn", "_law_items_here"], ok_one_be76 b g_next F_one_be76, m_one_be76, FunD.kp F_one_be76, FunD.bindsN F_one_be76 fun _ _ _ _ _ _ us hl => match us, hl with | [_, _], _ => rfl, rfl⟩
  have gn_equal_17a7 : ∀ (r c q : Addr) (n : Nat), Glo P w K mg base "_law_equal" 2 (spP K (sp_equal_17a7 n)) (1 + n) := fun r c q n => by
    induction n with
    | zero => exact ⟨_, fd_equal_17a7, ["_law_one_here", "_law_other"], okP (k := 0) F_equal_17a7 sc_equal_17a7 (len_equal_17a7 0) ⟨qNever, fun _ _ _ _ _ _ _ => qss_never, fun ds R h => (z_equal_17a7 ds R h).elim⟩, m_equal_17a7, FunD.kp F_equal_17a7, FunD.bindsN F_equal_17a7 fun _ _ _ _ _ _ us hl => match us, hl with | [_, _], _ => rfl, rfl⟩
    | succ n ih => exact ⟨_, fd_equal_17a7, ["_law_one_here", "_law_other"], ok_equal_17a7 (k := 1 + n) (by omega) (len_equal_17a7 (n + 1)) (p_equal_17a7 n) ih b  F_equal_17a7, m_equal_17a7, FunD.kp F_equal_17a7, FunD.bindsN F_equal_17a7 fun _ _ _ _ _ _ us hl => match us, hl with | [_, _], _ => rfl, rfl⟩
  have g_equal_17a7 : Glo P w K mg base "_law_equal" 2 (spP K (sp_equal_17a7 24)) 25 := gn_equal_17a7 0 0 0 24
  have g_replaced_right_5eb3 : ∀ r c q, Glo P w K mg base "_law_replaced_right" 3 (spG (gr K r c q) (sp_replaced_right_5eb3 r)) 26 := fun r c q => ⟨_, fd_replaced_right_5eb3, ["_law_drawn", "_law_panel_here", "_law_both_here"], ok_replaced_right_5eb3 b g_one_be76 g_equal_17a7 g_both_dcd2 g_next F_replaced_right_5eb3, m_replaced_right_5eb3, FunD.kp F_replaced_right_5eb3, FunD.bindsN F_replaced_right_5eb3 fun _ _ _ _ _ _ us hl => match us, hl with | [_, _, _], _ => rfl, rfl⟩
  have g_spread_of_61bf : Glo P w K mg base "spread_of" 2 (spP K (sp_spread_of_61bf)) 1 := ⟨_, fd_spread_of_61bf, ["panel", "whole"], ok_spread_of_61bf b  F_spread_of_61bf, m_spread_of_61bf, FunD.kp F_spread_of_61bf, FunD.bindsN F_spread_of_61bf fun _ _ _ _ _ _ us hl => match us, hl with | [_, _], _ => rfl, rfl⟩
  have g_least_spread_c534 : Glo P w K mg base "least_spread" 1 (spP K (sp_least_spread_c534)) 8 := ⟨_, fd_least_spread_c534, ["panel"], ok_least_spread_c534 b g_spread_of_61bf g_lowest_median_cc3e F_least_spread_c534, m_least_spread_c534, FunD.kp F_least_spread_c534, FunD.bindsN F_least_spread_c534 fun _ _ _ _ _ _ us hl => match us, hl with | [_], _ => rfl, rfl⟩
  have g_turned_right_3b73 : ∀ r c q, Glo P w K mg base "_law_turned_right" 3 (spG (gr K r c q) (sp_turned_right_3b73 r)) 26 := fun r c q => ⟨_, fd_turned_right_3b73, ["_law_drawn", "_law_panel_here", "_law_both_here"], ok_turned_right_3b73 b g_both_dcd2 g_equal_17a7 g_next g_least_spread_c534 F_turned_right_3b73, m_turned_right_3b73, FunD.kp F_turned_right_3b73, FunD.bindsN F_turned_right_3b73 fun _ _ _ _ _ _ us hl => match us, hl with | [_, _, _], _ => rfl, rfl⟩
  have g_raised_right_513c : ∀ r c q, Glo P w K mg base "_law_raised_right" 3 (spG (gr K r c q) (sp_raised_right_513c r)) 9 := fun r c q => ⟨_, fd_raised_right_513c, ["_law_drawn", "_law_panel_here", "_law_both_here"], ok_raised_right_513c b g_next g_size_3de8 g_both_dcd2 g_least_spread_c534 F_raised_right_513c, m_raised_right_513c, FunD.kp F_raised_right_513c, FunD.bindsN F_raised_right_513c fun _ _ _ _ _ _ us hl => match us, hl with | [_, _, _], _ => rfl, rfl⟩
  have g_order_right_b5e6 : ∀ r c q, Glo P w K mg base "_law_order_right" 3 (spG (gr K r c q) (sp_order_right_b5e6 r)) 26 := fun r c q => ⟨_, fd_order_right_b5e6, ["_law_drawn", "_law_panel_here", "_law_both_here"], ok_order_right_b5e6 b g_both_dcd2 g_equal_17a7 g_next F_order_right_b5e6, m_order_right_b5e6, FunD.kp F_order_right_b5e6, FunD.bindsN F_order_right_b5e6 fun _ _ _ _ _ _ us hl => match us, hl with | [_, _, _], _ => rfl, rfl⟩
  exact ok_law_8c4c b g_draws g_panel_3836 g_both_dcd2 g_replaced_right_5eb3 g_turned_right_3b73 g_raised_right_513c g_order_right_b5e6 F_law_8c4c
end Pm
open PySem PySem.W PySem.Calls PyProof.Rows
theorem PySem.Challenge.cw_poolmarks_k52_whole_medians_depend_on_or_holds : PySem.Challenge.rw_poolmarks_k52_whole_medians_depend_on_or.Holds := by
  w_on; o_law
  refine HandSHeadRun.head_any (r := OpenLaw.row PySem.Challenge.rw_poolmarks_k52_whole_medians_depend_on_or) (q := view (OpenLaw.row PySem.Challenge.rw_poolmarks_k52_whole_medians_depend_on_or).prog [31]) (H := Pm.hk) (ob := Pm.ob) (M := 4000) (loose := Pm.loose) (d := HandSHeadRun.topDef (OpenLaw.row PySem.Challenge.rw_poolmarks_k52_whole_medians_depend_on_or).prog 31) (kwd := []) Pm.ob_eq
    (by kernel_rfl) (fun s => by kernel_rfl) Pm.run (by kernel_rfl) (by kernel_rfl) (by kernel_rfl) (by rfl) (by first | assumption | decide +kernel) (by decide +kernel) ⟨rfl, rfl, rfl, rfl, rfl, by decide +kernel⟩ ?hw ?hc
  case hw => w_witness2
  case hc =>
    refine L2.walk_ofE (l := PySem.Challenge.rw_poolmarks_k52_whole_medians_depend_on_or) (n := 63) (k := 27) (x := "_law_script") (CX := L2.CX0) rfl (by decide) (by kernel_rfl) ⟨rfl, by decide, by decide⟩ ?F (fun _ _ _ _ z => z)
    intro w mg fa h Y G hmg0
    obtain ⟨K, KX, c⟩ := Y
    have hmg : mg ("law" : PySem.Str) = some (.ref fa) := by
      have e : (HandSHeadRun.topDef (OpenLaw.row PySem.Challenge.rw_poolmarks_k52_whole_medians_depend_on_or).prog 31).name = ("law" : PySem.Str) := by kernel_rfl
      rw [← e]
      exact hmg0
    obtain ⟨fd, hb, hF⟩ := Pm.facts (P := (PySem.Challenge.rw_poolmarks_k52_whole_medians_depend_on_or).prog) (w := w) KX G hmg c
    exact ⟨K, fd, Pm.spLaw K, KX, hb, fun H a ns hl _ hS => ⟨a, ns, rfl, hS, hl, fun _ => rfl⟩, hF⟩

