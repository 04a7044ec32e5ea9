import PyProof.Rows.All
import HandS.ForMost
import HandS.ForExc
import HandS.IsInst
import HandS.Wide
import HandS.Flow
import HandS.Zip
import HandS.Rev
import HandS.Sort
import HandS.SortInts
import HandS.SortRule
import HandS.Defaults
import PyProof.Rows.SeqMore
import KE.GoesEnum
import HandS.RevRange
import HandS.Conv
import HandS.Ends
import HandS.HeadEnd
import HandS.Head0
import HandS.Head1
import HandS.Head2
import HandS.HeadHook1
import HandS.HeadHook2
import HandS.Style
import KE.KRevSl
import HandS.NamedTupSort
import HandS.TupSets
import HandS.SortOrd
import HandS.TupMul
import HandS.TupLe
import HandS.SetFor
import KE.KDictZip
import KE.DataMinKey
import KE.KMinBuiltin
import HandS.SortKw
import HandS.WordsExc
import HandS.TryOnly
import HandS.ExcIs
import HandS.ExcOwn
import HandS.ExcField
import KE.KExcIs
import HandS.ExcInit
import HandS.Dict
import KE.KDictCopyH
import KE.KeyNested
import Wide.All
import OpenK.AllK
import Wide.FinOn
import KE.KStateDown
import Lean
import HandS.Base
import HandS.Call
import HandS.More
import HandS.Words
import PySem.Challenge.RW_poolmarks_k45_whole_reach_of_changed_pan
set_option Elab.async false
set_option linter.all false
set_option maxRecDepth 100000
set_option maxHeartbeats 1000000
set_option autoImplicit false
namespace Pm
open PySem PySem.Spec
open PyProof.Rows hiding St
open L2
def obsB (fa : List He.Fa) (fn : List He.DefD) (ex : PySem.W.Frag → Bool) (K : PySem.W.Frag) : He.AlD × Bool := (He.obsD fa fn K, ex K)
def valB (fn : List He.DefD) : He.AlD × Bool := (He.valD fn, true)
def SaysB (fa : List He.Fa) (fn : List He.DefD) (ex : PySem.W.Frag → Bool) (K : PySem.W.Frag) : Prop := obsB fa fn ex K = valB fn
def obsBG (n : Nat) (fa : List He.Fa) (fn : List He.DefD) (ex : PySem.W.Frag → Bool) (g : Addr → Option Obj) : He.AlD × Bool := obsB fa fn ex (He.frG g (He.asD g n))
def hookB (n : Nat) (fa : List He.Fa) (fn : List He.DefD) (ex : PySem.W.Frag → Bool) : PySem.W.Hook where
  α := He.AlD × Bool
  obs := fun s => obsBG n fa fn ex s.heap.get?
  val := fun _ => valB fn
  says := fun _ h => ∃ K : PySem.W.Frag, K.In h ∧ SaysB fa fn ex K
  of := fun _ _ e => ⟨_, He.frG_in, e⟩
  keeps := fun _ _ _ ⟨K, hK, c⟩ k => ⟨K, PySem.W.Frag.In.keeps hK k, c⟩
end Pm
set_option Elab.async false
set_option linter.all false
set_option maxRecDepth 100000
set_option maxHeartbeats 0
set_option autoImplicit false
namespace Pm
open PySem PySem.Spec
open PyProof.Rows hiding St
open L2
def top (i : Nat) : Stmt := PySem.Challenge.pw_poolmarks_k45_whole_reach_of_changed_pan.main.body.getD i (.Pass ⟨0, 0, 0, 0⟩)
section
variable {P : Program} {w : World} {K : PySem.W.Frag} {mg : Str → Option Value} {base : Heap}
abbrev st_draws : Stmt := top 39
abbrev st_next : Stmt := top 40
abbrev st_size_3de8 : Stmt := top 45
abbrev st_items_cafd : Stmt := top 46
abbrev st_rules_ccf3 : Stmt := top 47
abbrev st_panel_3836 : Stmt := top 48
abbrev st_lowest_ba06 : Stmt := top 43
abbrev st_less_7322 : Stmt := top 49
abbrev st_fraction_6a64 : Stmt := top 44
abbrev st_all_groups_7d0b : Stmt := top 22
abbrev st_is_integer_8a5f : Stmt := top 6
abbrev st_is_within_3133 : Stmt := top 15
abbrev st_is_group_a50b : Stmt := top 20
abbrev st_is_upward_11cd : Stmt := top 21
abbrev st_upward_sets_3622 : Stmt := top 23
abbrev st_rest_surplus_6c50 : Stmt := top 25
abbrev st_greatest_surpluses_d8a4 : Stmt := top 26
abbrev st_common_divisor_2932 : Stmt := top 7
abbrev st_make_fraction_15f7 : Stmt := top 8
abbrev st_add_fractions_88bc : Stmt := top 9
abbrev st_mark_to_reach_5768 : Stmt := top 27
abbrev st_is_mark_f168 : Stmt := top 16
abbrev st_is_weight_6941 : Stmt := top 17
abbrev st_checked_7d9f : Stmt := top 29
abbrev st_scale_panel_75d1 : Stmt := top 31
abbrev st_combine_panels_586d : Stmt := top 33
abbrev st_equal_17a7 : Stmt := top 42
abbrev st_sums_of_9763 : Stmt := top 35
abbrev st_upper_part_65f2 : Stmt := top 36
abbrev st_average_of_ee61 : Stmt := top 18
abbrev st_best_rating_b8e6 : Stmt := top 37
abbrev st_beside_right_2df3 : Stmt := top 55
abbrev st_shift_panel_6bc9 : Stmt := top 30
abbrev st_plus_f97f : Stmt := top 50
abbrev st_led_6b2d : Stmt := top 53
abbrev st_weigh_panel_1cdd : Stmt := top 32
abbrev st_changed_right_f9b2 : Stmt := top 54
abbrev st_ordered_624c : Stmt := top 51
abbrev st_present_right_0525 : Stmt := top 52
abbrev st_one_be76 : Stmt := top 41
abbrev st_law_0125 : Stmt := top 56
end
def d_draws : He.DefD := ⟨("_law_draws", none), "_law_draws", "_law_draws", defArgs st_draws, defBody st_draws, defScope st_draws, [], []⟩
def d_next : He.DefD := ⟨("_law_next", none), "_law_next", "_law_next", defArgs st_next, defBody st_next, defScope st_next, [], []⟩
def d_size_3de8 : He.DefD := ⟨("_law_size", none), "_law_size", "_law_size", defArgs st_size_3de8, defBody st_size_3de8, defScope st_size_3de8, [], []⟩
def d_items_cafd : He.DefD := ⟨("_law_items", none), "_law_items", "_law_items", defArgs st_items_cafd, defBody st_items_cafd, defScope st_items_cafd, [], []⟩
def d_rules_ccf3 : He.DefD := ⟨("_law_rules", none), "_law_rules", "_law_rules", defArgs st_rules_ccf3, defBody st_rules_ccf3, defScope st_rules_ccf3, [], []⟩
def d_panel_3836 : He.DefD := ⟨("_law_panel", none), "_law_panel", "_law_panel", defArgs st_panel_3836, defBody st_panel_3836, defScope st_panel_3836, [], []⟩
def d_lowest_ba06 : He.DefD := ⟨("_law_lowest", none), "_law_lowest", "_law_lowest", defArgs st_lowest_ba06, defBody st_lowest_ba06, defScope st_lowest_ba06, [], []⟩
def d_less_7322 : He.DefD := ⟨("_law_less", none), "_law_less", "_law_less", defArgs st_less_7322, defBody st_less_7322, defScope st_less_7322, [], []⟩
def d_fraction_6a64 : He.DefD := ⟨("_law_fraction", none), "_law_fraction", "_law_fraction", defArgs st_fraction_6a64, defBody st_fraction_6a64, defScope st_fraction_6a64, [], []⟩
def d_all_groups_7d0b : He.DefD := ⟨("all_groups", none), "all_groups", "all_groups", defArgs st_all_groups_7d0b, defBody st_all_groups_7d0b, defScope st_all_groups_7d0b, [], []⟩
def d_is_integer_8a5f : He.DefD := ⟨("is_integer", none), "is_integer", "is_integer", defArgs st_is_integer_8a5f, defBody st_is_integer_8a5f, defScope st_is_integer_8a5f, [], []⟩
def d_is_within_3133 : He.DefD := ⟨("is_within", none), "is_within", "is_within", defArgs st_is_within_3133, defBody st_is_within_3133, defScope st_is_within_3133, [], []⟩
def d_is_group_a50b : He.DefD := ⟨("is_group", none), "is_group", "is_group", defArgs st_is_group_a50b, defBody st_is_group_a50b, defScope st_is_group_a50b, [], []⟩
def d_is_upward_11cd : He.DefD := ⟨("is_upward", none), "is_upward", "is_upward", defArgs st_is_upward_11cd, defBody st_is_upward_11cd, defScope st_is_upward_11cd, [], []⟩
def d_upward_sets_3622 : He.DefD := ⟨("upward_sets", none), "upward_sets", "upward_sets", defArgs st_upward_sets_3622, defBody st_upward_sets_3622, defScope st_upward_sets_3622, [], []⟩
def d_rest_surplus_6c50 : He.DefD := ⟨("rest_surplus", none), "rest_surplus", "rest_surplus", defArgs st_rest_surplus_6c50, defBody st_rest_surplus_6c50, defScope st_rest_surplus_6c50, [], []⟩
def d_greatest_surpluses_d8a4 : He.DefD := ⟨("greatest_surpluses", none), "greatest_surpluses", "greatest_surpluses", defArgs st_greatest_surpluses_d8a4, defBody st_greatest_surpluses_d8a4, defScope st_greatest_surpluses_d8a4, [], []⟩
def d_common_divisor_2932 : He.DefD := ⟨("common_divisor", none), "common_divisor", "common_divisor", defArgs st_common_divisor_2932, defBody st_common_divisor_2932, defScope st_common_divisor_2932, [], []⟩
def d_make_fraction_15f7 : He.DefD := ⟨("make_fraction", none), "make_fraction", "make_fraction", defArgs st_make_fraction_15f7, defBody st_make_fraction_15f7, defScope st_make_fraction_15f7, [], []⟩
def d_add_fractions_88bc : He.DefD := ⟨("add_fractions", none), "add_fractions", "add_fractions", defArgs st_add_fractions_88bc, defBody st_add_fractions_88bc, defScope st_add_fractions_88bc, [], []⟩
def d_mark_to_reach_5768 : He.DefD := ⟨("mark_to_reach", none), "mark_to_reach", "mark_to_reach", defArgs st_mark_to_reach_5768, defBody st_mark_to_reach_5768, defScope st_mark_to_reach_5768, [], []⟩
def d_is_mark_f168 : He.DefD := ⟨("is_mark", none), "is_mark", "is_mark", defArgs st_is_mark_f168, defBody st_is_mark_f168, defScope st_is_mark_f168, [], []⟩
def d_is_weight_6941 : He.DefD := ⟨("is_weight", none), "is_weight", "is_weight", defArgs st_is_weight_6941, defBody st_is_weight_6941, defScope st_is_weight_6941, [], []⟩
def d_checked_7d9f : He.DefD := ⟨("checked", none), "checked", "checked", defArgs st_checked_7d9f, defBody st_checked_7d9f, defScope st_checked_7d9f, [], []⟩
def d_scale_panel_75d1 : He.DefD := ⟨("scale_panel", none), "scale_panel", "scale_panel", defArgs st_scale_panel_75d1, defBody st_scale_panel_75d1, defScope st_scale_panel_75d1, [], []⟩
def d_combine_panels_586d : He.DefD := ⟨("combine_panels", none), "combine_panels", "combine_panels", defArgs st_combine_panels_586d, defBody st_combine_panels_586d, defScope st_combine_panels_586d, [], []⟩
def d_equal_17a7 : He.DefD := ⟨("_law_equal", none), "_law_equal", "_law_equal", defArgs st_equal_17a7, defBody st_equal_17a7, defScope st_equal_17a7, [], []⟩
def d_sums_of_9763 : He.DefD := ⟨("sums_of", none), "sums_of", "sums_of", defArgs st_sums_of_9763, defBody st_sums_of_9763, defScope st_sums_of_9763, [], []⟩
def d_upper_part_65f2 : He.DefD := ⟨("upper_part", none), "upper_part", "upper_part", defArgs st_upper_part_65f2, defBody st_upper_part_65f2, defScope st_upper_part_65f2, [], []⟩
def d_average_of_ee61 : He.DefD := ⟨("average_of", none), "average_of", "average_of", defArgs st_average_of_ee61, defBody st_average_of_ee61, defScope st_average_of_ee61, [], []⟩
def d_best_rating_b8e6 : He.DefD := ⟨("best_rating", none), "best_rating", "best_rating", defArgs st_best_rating_b8e6, defBody st_best_rating_b8e6, defScope st_best_rating_b8e6, [], []⟩
def d_beside_right_2df3 : He.DefD := ⟨("_law_beside_right", none), "_law_beside_right", "_law_beside_right", defArgs st_beside_right_2df3, defBody st_beside_right_2df3, defScope st_beside_right_2df3, [], []⟩
def d_shift_panel_6bc9 : He.DefD := ⟨("shift_panel", none), "shift_panel", "shift_panel", defArgs st_shift_panel_6bc9, defBody st_shift_panel_6bc9, defScope st_shift_panel_6bc9, [], []⟩
def d_plus_f97f : He.DefD := ⟨("_law_plus", none), "_law_plus", "_law_plus", defArgs st_plus_f97f, defBody st_plus_f97f, defScope st_plus_f97f, [], []⟩
def d_led_6b2d : He.DefD := ⟨("_law_led", none), "_law_led", "_law_led", defArgs st_led_6b2d, defBody st_led_6b2d, defScope st_led_6b2d, [], []⟩
def d_weigh_panel_1cdd : He.DefD := ⟨("weigh_panel", none), "weigh_panel", "weigh_panel", defArgs st_weigh_panel_1cdd, defBody st_weigh_panel_1cdd, defScope st_weigh_panel_1cdd, [], []⟩
def d_changed_right_f9b2 : He.DefD := ⟨("_law_changed_right", none), "_law_changed_right", "_law_changed_right", defArgs st_changed_right_f9b2, defBody st_changed_right_f9b2, defScope st_changed_right_f9b2, [], []⟩
def d_ordered_624c : He.DefD := ⟨("_law_ordered", none), "_law_ordered", "_law_ordered", defArgs st_ordered_624c, defBody st_ordered_624c, defScope st_ordered_624c, [], []⟩
def d_present_right_0525 : He.DefD := ⟨("_law_present_right", none), "_law_present_right", "_law_present_right", defArgs st_present_right_0525, defBody st_present_right_0525, defScope st_present_right_0525, [], []⟩
def d_one_be76 : He.DefD := ⟨("_law_one", none), "_law_one", "_law_one", defArgs st_one_be76, defBody st_one_be76, defScope st_one_be76, [], []⟩
def d_law_0125 : He.DefD := ⟨("law", none), "law", "law", defArgs st_law_0125, defBody st_law_0125, defScope st_law_0125, [], []⟩
def fnl : List He.DefD := [d_draws, d_next, d_size_3de8, d_items_cafd, d_rules_ccf3, d_panel_3836, d_lowest_ba06, d_less_7322, d_fraction_6a64, d_all_groups_7d0b, d_is_integer_8a5f, d_is_within_3133, d_is_group_a50b, d_is_upward_11cd, d_upward_sets_3622, d_rest_surplus_6c50, d_greatest_surpluses_d8a4, d_common_divisor_2932, d_make_fraction_15f7, d_add_fractions_88bc, d_mark_to_reach_5768, d_is_mark_f168, d_is_weight_6941, d_checked_7d9f, d_scale_panel_75d1, d_combine_panels_586d, d_equal_17a7, d_sums_of_9763, d_upper_part_65f2, d_average_of_ee61, d_best_rating_b8e6, d_beside_right_2df3, d_shift_panel_6bc9, d_plus_f97f, d_led_6b2d, d_weigh_panel_1cdd, d_changed_right_f9b2, d_ordered_624c, d_present_right_0525, d_one_be76, d_law_0125]
def fal : List He.Fa := [.glo "_law_draws", .glo "_law_next", .glo "_law_size", .glo "_law_items", .glo "_law_rules", .glo "_law_panel", .glo "_law_lowest", .glo "_law_less", .glo "_law_fraction", .glo "all_groups", .glo "is_integer", .glo "is_within", .glo "is_group", .glo "is_upward", .glo "upward_sets", .glo "rest_surplus", .glo "greatest_surpluses", .glo "common_divisor", .glo "make_fraction", .glo "add_fractions", .glo "mark_to_reach", .glo "is_mark", .glo "is_weight", .glo "checked", .glo "scale_panel", .glo "combine_panels", .glo "_law_equal", .glo "sums_of", .glo "upper_part", .glo "average_of", .glo "best_rating", .glo "_law_beside_right", .glo "shift_panel", .glo "_law_plus", .glo "_law_led", .glo "weigh_panel", .glo "_law_changed_right", .glo "_law_ordered", .glo "_law_present_right", .glo "_law_one", .glo "law", .free "abs", .free "all", .free "bool", .free "int", .free "isinstance", .free "len", .free "list", .free "max", .free "min", .free "range", .free "sorted", .free "str", .free "sum", .free "tuple", .free "zip", .int "ITEMS" 8, .int "MARK" 1000000000, .int "RULES" 16, .int "WEIGHT" 1000000]
abbrev R : PySem.W.OpenRow := PySem.W.OpenLaw.row PySem.Challenge.rw_poolmarks_k45_whole_reach_of_changed_pan
def exl (K : PySem.W.Frag) : Bool := true
abbrev hk : PySem.W.Hook := hookB 4 fal fnl exl
def ob (s : PySem.W.SharedT) : He.AlD × Bool := obsBG 4 fal fnl exl (HandSHeadRun.getT s)
def loose : List PySem.Str := (["MarksError", "ZeroDenominator", "Full", "OutOfRange", "is_integer", "common_divisor", "make_fraction", "add_fractions", "ITEMS", "RULES", "MARK", "WEIGHT", "is_within", "is_mark", "is_weight", "average_of", "is_group", "is_upward", "all_groups", "upward_sets", "rest_surplus", "greatest_surpluses", "mark_to_reach", "checked", "shift_panel", "scale_panel", "weigh_panel", "combine_panels", "sums_of", "upper_part"] : List PySem.Str) ++ (["best_rating", "_law_draws", "_law_next", "_law_one", "_law_equal", "_law_lowest", "_law_fraction", "_law_size", "_law_items", "_law_rules", "_law_panel", "_law_less", "_law_plus", "_law_ordered", "_law_present_right", "_law_led", "_law_changed_right", "_law_beside_right"] : List PySem.Str)
theorem run (w : World) : HandSHeadRun.RunEq R (PySem.W.view R.prog [56]) hk ob 4000 loose w := by
  intro os
  kernel_rfl
end Pm
set_option Elab.async false
set_option linter.all false
set_option maxRecDepth 100000
set_option maxHeartbeats 1000000
namespace Pm
set_option autoImplicit false
open PySem PySem.Spec
open PyProof.Rows hiding St
open L2

inductive D where
  | non | bl (b : Bool) | int (i : Int) | str (x : Str)
  | lst (xs : List D) | tup (xs : List D) | dct (ks : List Key) (xs : List D) | obj (a : Addr)

mutual
def At (K : PySem.W.Frag) (Z : Hp) : D → V → Prop
  | .non, v => v = .non
  | .bl b, v => v = .bl b
  | .int i, v => v = .int i
  | .str x, v => v = .str x
  | .lst xs, v => ∃ a vs, v = .ref a ∧ Z a = some (.lst vs) ∧ Ats K Z xs vs
  | .tup xs, v => ∃ a vs, v = .ref a ∧ SqT K Z a vs ∧ Ats K Z xs vs
  | .dct ks xs, v => ∃ a kvs, v = .ref a ∧ Z a = some (.dK kvs) ∧ kvs.map (·.1) = ks ∧ Ats K Z xs (kvs.map (·.2))
  | .obj a, v => v = .ref a
def Ats (K : PySem.W.Frag) (Z : Hp) : List D → List V → Prop
  | [], vs => vs = []
  | d :: ds, vs => ∃ w ws, vs = w :: ws ∧ At K Z d w ∧ Ats K Z ds ws
end
theorem seqT {K : PySem.W.Frag} {H H' : Hp} {a : Addr} {xs : List V} (e : Same H H') (h : SqT K H a xs) : SqT K H' a xs := by
  rcases h with (h | ⟨o, h⟩) | h
  · exact .inl (.inl (e _ _ h))
  · exact .inl (.inr ⟨o, e _ _ h⟩)
  · exact .inr h
section
variable {K : PySem.W.Frag} {Z Z' : Hp}
mutual
theorem At.mono (e : Same Z Z') : ∀ (d : D) (v : V), At K Z d v → At K Z' d v
  | .non, _, h => h
  | .bl _, _, h => h
  | .int _, _, h => h
  | .str _, _, h => h
  | .lst xs, v, h => by
    simp only [At] at h ⊢
    obtain ⟨a, vs, h1, h2, h3⟩ := h
    exact ⟨a, vs, h1, e _ _ h2, Ats.mono e xs vs h3⟩
  | .tup xs, v, h => by
    simp only [At] at h ⊢
    obtain ⟨a, vs, h1, h2, h3⟩ := h
    exact ⟨a, vs, h1, seqT e h2, Ats.mono e xs vs h3⟩
  | .dct ks xs, v, h => by
    simp only [At] at h ⊢
    obtain ⟨a, vs, h1, h2, h3, h4⟩ := h
    exact ⟨a, vs, h1, e _ _ h2, h3, Ats.mono e xs _ h4⟩
  | .obj _, _, h => h
theorem Ats.mono (e : Same Z Z') : ∀ (ds : List D) (vs : List V), Ats K Z ds vs → Ats K Z' ds vs
  | [], _, h => h
  | d :: ds, vs, h => by
    simp only [Ats] at h ⊢
    obtain ⟨w, ws, h1, h2, h3⟩ := h
    exact ⟨w, ws, h1, At.mono e d w h2, Ats.mono e ds ws h3⟩
end
theorem Ats.len : ∀ {ds : List D} {vs : List V}, Ats K Z ds vs → vs.length = ds.length
  | [], _, h => by simp only [Ats] at h; subst h; rfl
  | d :: ds, vs, h => by
    simp only [Ats] at h
    obtain ⟨w, ws, rfl, _, h3⟩ := h
    simp [Ats.len h3]
theorem Ats.get : ∀ {ds : List D} {vs : List V} {i : Nat} {d : D}, Ats K Z ds vs → ds[i]? = some d → ∃ v, vs[i]? = some v ∧ At K Z d v
  | [], _, _, _, _, e => by simp at e
  | d :: ds, vs, i, d', h, e => by
    simp only [Ats] at h
    obtain ⟨w, ws, rfl, h2, h3⟩ := h
    cases i with
    | zero => simp at e; subst e; exact ⟨w, rfl, h2⟩
    | succ i =>
      obtain ⟨v, h4, h5⟩ := Ats.get (i := i) h3 (by simpa using e)
      exact ⟨v, by simpa using h4, h5⟩
theorem Ats.append : ∀ {ds es : List D} {vs ws : List V}, Ats K Z ds vs → Ats K Z es ws → Ats K Z (ds ++ es) (vs ++ ws)
  | [], _, _, _, h, h' => by simp only [Ats] at h; subst h; exact h'
  | d :: ds, es, vs, ws, h, h' => by
    simp only [Ats] at h
    obtain ⟨w, vs, rfl, h2, h3⟩ := h
    exact ⟨w, vs ++ ws, rfl, h2, Ats.append h3 h'⟩
theorem Ats.take : ∀ {ds : List D} {vs : List V} (n : Nat), Ats K Z ds vs → Ats K Z (ds.take n) (vs.take n)
  | _, _, 0, _ => by simp [Ats]
  | [], _, n + 1, h => by simp only [Ats] at h; subst h; simp [Ats]
  | d :: ds, vs, n + 1, h => by
    simp only [Ats] at h
    obtain ⟨w, vs, rfl, h2, h3⟩ := h
    exact ⟨w, vs.take n, rfl, h2, Ats.take n h3⟩
theorem Ats.drop : ∀ {ds : List D} {vs : List V} (n : Nat), Ats K Z ds vs → Ats K Z (ds.drop n) (vs.drop n)
  | _, _, 0, h => h
  | [], _, n + 1, h => by simp only [Ats] at h; subst h; simp [Ats]
  | d :: ds, vs, n + 1, h => by
    simp only [Ats] at h
    obtain ⟨w, vs, rfl, h2, h3⟩ := h
    exact Ats.drop n h3
theorem Ats.set : ∀ {ds : List D} {vs : List V} (n : Nat) {d : D} {v : V}, Ats K Z ds vs → At K Z d v → Ats K Z (ds.set n d) (vs.set n v)
  | [], _, _, _, _, h, _ => by simp only [Ats] at h; subst h; simp [Ats]
  | d :: ds, vs, 0, _, _, h, h' => by
    simp only [Ats] at h
    obtain ⟨w, vs, rfl, h2, h3⟩ := h
    exact ⟨_, vs, rfl, h', h3⟩
  | d :: ds, vs, n + 1, d', v', h, h' => by
    simp only [Ats] at h
    obtain ⟨w, vs, rfl, h2, h3⟩ := h
    exact ⟨w, vs.set n v', rfl, h2, Ats.set n h3 h'⟩
theorem Ats.ints : ∀ {ns : List Int} {vs : List V}, Ats K Z (ns.map D.int) vs → vs = ns.map V.int
  | [], _, h => h
  | n :: ns, vs, h => by
    simp only [List.map_cons, Ats] at h
    obtain ⟨w, ws, rfl, h2, h3⟩ := h
    simp only [At] at h2
    subst h2
    rw [Ats.ints h3]; rfl
theorem Ats.of_ints : ∀ (ns : List Int), Ats K Z (ns.map D.int) (ns.map V.int)
  | [] => rfl
  | n :: ns => ⟨_, _, rfl, rfl, Ats.of_ints ns⟩
theorem Ats.bls : ∀ {ns : List Bool} {vs : List V}, Ats K Z (ns.map D.bl) vs → vs = ns.map V.bl
  | [], _, h => h
  | n :: ns, vs, h => by
    simp only [List.map_cons, Ats] at h
    obtain ⟨w, ws, rfl, h2, h3⟩ := h
    simp only [At] at h2
    subst h2
    rw [Ats.bls h3]; rfl
end

inductive L where | val (d : D) | own (ds : List D) | dic (kds : List (Key × D))
def L.ow : L → Bool | .val _ => false | _ => true
def L.ds : L → List D | .val _ => [] | .own ds => ds | .dic kds => kds.map (·.2)
def L.ho : L → List V → HO | .dic kds, vs => .dK ((kds.map (·.1)).zip vs) | _, vs => .lst vs
structure S (γ : Type) where
  ρ : List (Option L)
  g : γ
structure GP (γ : Type) where
  K : PySem.W.Frag
  foot : γ → Addr → Prop
  J : γ → Hp → Prop
  stay : ∀ g H H', J g H → (∀ a, foot g a → H' a = H a) → J g H'
  live : ∀ g H a, J g H → foot g a → ∃ o, H a = some o
  /-- what is known to be settled -/
  fl : Hp := fun _ => none
def none0 (K : PySem.W.Frag) : GP Unit := ⟨K, fun _ _ => False, fun _ _ => True, fun _ _ _ _ _ => trivial, fun _ _ _ _ h => h.elim, fun _ => none⟩

structure Fra where
  F : Hp
  B : Addr → Prop
  bf : ∀ a, B a → ∃ o, F a = some o
variable {γ : Type}
structure Rel (G : GP γ) (F : Fra) (Z : Hp) (s : S γ) (σ : St) (H : Hp) : Prop where
  z : Same Z H
  f : Same F.F H
  zb : ∀ a, F.B a → Z a = none
  len : σ.length = s.ρ.length
  loc : ∀ (i : Nat) (d : D), s.ρ[i]? = some (some (.val d)) → ∃ v, σ[i]? = some (some v) ∧ At G.K Z d v
  ownL : ∀ (i : Nat) (l : L), s.ρ[i]? = some (some l) → l.ow = true → ∃ a vs, σ[i]? = some (some (.ref a)) ∧ H a = some (l.ho vs) ∧ Ats G.K Z l.ds vs ∧ Z a = none ∧ F.F a = none ∧ ¬ G.foot s.g a
  injL : ∀ (i j : Nat) (l m : L) (a : Addr), i ≠ j → s.ρ[i]? = some (some l) → l.ow = true → s.ρ[j]? = some (some m) → m.ow = true → σ[i]? = some (some (.ref a)) → σ[j]? = some (some (.ref a)) → False
  j : G.J s.g H
  zf : ∀ a, G.foot s.g a → Z a = none
  ff : ∀ a, G.foot s.g a → F.F a = none
  fl : Same G.fl Z
theorem Rel.own {G : GP γ} {F : Fra} {Z : Hp} {s : S γ} {σ : St} {H : Hp} (r : Rel G F Z s σ H) (i : Nat) (ds : List D) (h : s.ρ[i]? = some (some (.own ds))) : ∃ a vs, σ[i]? = some (some (.ref a)) ∧ H a = some (.lst vs) ∧ Ats G.K Z ds vs ∧ Z a = none ∧ F.F a = none ∧ ¬ G.foot s.g a := r.ownL i _ h rfl
theorem Rel.dic {G : GP γ} {F : Fra} {Z : Hp} {s : S γ} {σ : St} {H : Hp} (r : Rel G F Z s σ H) (i : Nat) (kds : List (Key × D)) (h : s.ρ[i]? = some (some (.dic kds))) : ∃ a vs, σ[i]? = some (some (.ref a)) ∧ H a = some (.dK ((kds.map (·.1)).zip vs)) ∧ Ats G.K Z (kds.map (·.2)) vs ∧ Z a = none ∧ F.F a = none ∧ ¬ G.foot s.g a := r.ownL i _ h rfl
abbrev Nob (s : S γ) (σ : St) (a : Addr) : Prop := ∀ (i : Nat) (l : L), s.ρ[i]? = some (some l) → l.ow = true → σ[i]? ≠ some (some (.ref a))
structure Wk (s s' : S γ) : Prop where
  g : s'.g = s.g
  len : s'.ρ.length = s.ρ.length
  le : ∀ (i : Nat) l, s'.ρ[i]? = some (some l) → s.ρ[i]? = some (some l)
theorem Wk.refl (s : S γ) : Wk s s := ⟨rfl, rfl, fun _ _ h => h⟩
section
variable {G : GP γ} {F : Fra} {Z : Hp} {s s' : S γ} {σ : St} {H H' : Hp}
theorem Fra.nb {F : Fra} {a : Addr} (h : F.F a = none) : ¬ F.B a := fun b => by
  obtain ⟨o, e⟩ := F.bf a b
  rw [h] at e; cases e
theorem Rel.weak (r : Rel G F Z s σ H) (w : Wk s s') : Rel G F Z s' σ H := by
  obtain ⟨g', ρ'⟩ := s'
  obtain ⟨hg, hl, he⟩ := w
  simp only at hg
  subst hg
  exact ⟨r.z, r.f, r.zb, r.len.trans hl.symm, fun i d h => r.loc i d (he _ _ h), fun i l h => r.ownL i l (he _ _ h), fun i j l m a n h1 o1 h2 => r.injL i j l m a n (he _ _ h1) o1 (he _ _ h2), r.j, r.zf, r.ff, r.fl⟩
theorem Rel.grow (r : Rel G F Z s σ H) (k : Same H H') : Rel G F Z s σ H' :=
  ⟨r.z.trans k, r.f.trans k, r.zb, r.len, r.loc, fun i l h o => let ⟨a, vs, h1, h2, h3⟩ := r.ownL i l h o; ⟨a, vs, h1, k _ _ h2, h3⟩, r.injL,
    G.stay _ _ _ r.j fun a h => by
      obtain ⟨o, e⟩ := G.live _ _ _ r.j h
      rw [e, k _ _ e], r.zf, r.ff, r.fl⟩
theorem same_upd {p : Addr} {o : HO} (h : H p = none) : Same H (upd H p o) := fun b x e => by
  rw [upd_ne (ne_of_none e h)]
  exact e
theorem same_upd2 {p : Addr} {o : HO} (k : Same Z H) (h : H p = some o) (hz : Z p = none) : Same (upd Z p o) H := fun b x e => by
  by_cases hb : b = p
  · subst hb; rw [upd_same] at e; rw [h, ← e]
  · rw [upd_ne hb] at e; exact k _ _ e
theorem Rel.settle (r : Rel G F Z s σ H) {p : Addr} {o : HO} (hp : H p = some o) (hz : Z p = none) (hf : ¬ G.foot s.g p) (hb : ¬ F.B p)
    (ho : Nob s σ p) : Rel G F (upd Z p o) s σ H := by
  have k := same_upd (o := o) hz
  refine ⟨same_upd2 r.z hp hz, r.f, fun a h => by rw [upd_ne (show a ≠ p from fun e => hb (by rw [← e]; exact h))]; exact r.zb a h, r.len, fun i d h => ?_, fun i l h o1 => ?_, r.injL, r.j, fun a h => ?_, r.ff, r.fl.trans k⟩
  · obtain ⟨v, h1, h2⟩ := r.loc i d h
    exact ⟨v, h1, At.mono k _ _ h2⟩
  · obtain ⟨a, vs, h1, h2, h3, h4, h5⟩ := r.ownL i l h o1
    refine ⟨a, vs, h1, h2, Ats.mono k _ _ h3, ?_, h5⟩
    rw [upd_ne (show a ≠ p from fun e => ho i l h o1 (by rw [← e]; exact h1))]
    exact h4
  · rw [upd_ne (show a ≠ p from fun e => hf (by rw [← e]; exact h))]
    exact r.zf a h
theorem Rel.put (r : Rel G F Z s σ H) {i : Nat} {d : D} {v : V} (h : At G.K Z d v) : Rel G F Z ⟨s.ρ.set i (some (.val d)), s.g⟩ (σ.set i (some v)) H := by
  refine ⟨r.z, r.f, r.zb, by simpa using r.len, fun j e hj => ?_, fun j l hj o1 => ?_, fun j k l m a n h1 o1 h2 o2 h3 h4 => ?_, r.j, r.zf, r.ff, r.fl⟩
  · by_cases hij : i = j
    · subst hij
      have hl : i < s.ρ.length := by
        have := (List.getElem?_eq_some_iff.mp hj).1
        simpa using this
      rw [List.getElem?_set_self hl] at hj
      cases hj
      exact ⟨v, by rw [List.getElem?_set_self (by rw [r.len]; exact hl)], h⟩
    · rw [List.getElem?_set_ne hij] at hj
      rw [List.getElem?_set_ne hij]
      exact r.loc j e hj
  · have hij : i ≠ j := by
      intro e
      subst e
      have hl : i < s.ρ.length := by
        have := (List.getElem?_eq_some_iff.mp hj).1
        simpa using this
      rw [List.getElem?_set_self hl] at hj
      cases hj
      cases o1
    rw [List.getElem?_set_ne hij] at hj
    rw [List.getElem?_set_ne hij]
    exact r.ownL j l hj o1
  · have ne : ∀ {j : Nat} {l : L}, (s.ρ.set i (some (L.val d)))[j]? = some (some l) → l.ow = true → i ≠ j := fun {j l} hj o1 e => by
      subst e
      have hl : i < s.ρ.length := by
        have := (List.getElem?_eq_some_iff.mp hj).1
        simpa using this
      rw [List.getElem?_set_self hl] at hj
      cases hj
      cases o1
    have n1 := ne h1 o1
    have n2 := ne h2 o2
    rw [List.getElem?_set_ne n1] at h1 h3
    rw [List.getElem?_set_ne n2] at h2 h4
    exact r.injL j k l m a n h1 o1 h2 o2 h3 h4
theorem Rel.putW (r : Rel G F Z s σ H) {i : Nat} {l : L} (ol : l.ow = true) {a : Addr} {vs : List V} (ha : H a = some (l.ho vs)) (h : Ats G.K Z l.ds vs) (hz : Z a = none) (hF : F.F a = none) (hf : ¬ G.foot s.g a)
    (ho : Nob s σ a) : Rel G F Z ⟨s.ρ.set i (some l), s.g⟩ (σ.set i (some (.ref a))) H := by
  have at_i : ∀ {m : L}, (s.ρ.set i (some l))[i]? = some (some m) → i < s.ρ.length ∧ m = l := fun {m} hj => by
    have hl : i < s.ρ.length := by
      have := (List.getElem?_eq_some_iff.mp hj).1
      simpa using this
    rw [List.getElem?_set_self hl] at hj
    cases hj
    exact ⟨hl, rfl⟩
  have other : ∀ {j : Nat} {m : L}, i ≠ j → (s.ρ.set i (some l))[j]? = some (some m) → m.ow = true → (σ.set i (some (V.ref a)))[j]? ≠ some (some (.ref a)) := fun {j m} n h1 o1 => by
    rw [List.getElem?_set_ne n] at h1 ⊢
    exact ho j m h1 o1
  refine ⟨r.z, r.f, r.zb, by simpa using r.len, fun j e hj => ?_, fun j m hj o1 => ?_, fun j k m m' b n h1 o1 h2 o2 h3 h4 => ?_, r.j, r.zf, r.ff, r.fl⟩
  · have hij : i ≠ j := by
      intro e; subst e
      obtain ⟨_, e⟩ := at_i hj
      rw [← e] at ol; cases ol
    rw [List.getElem?_set_ne hij] at hj ⊢
    exact r.loc j e hj
  · by_cases hij : i = j
    · subst hij
      obtain ⟨hl, e⟩ := at_i hj
      subst e
      exact ⟨a, vs, List.getElem?_set_self (by rw [r.len]; exact hl), ha, h, hz, hF, hf⟩
    · rw [List.getElem?_set_ne hij] at hj ⊢
      exact r.ownL j m hj o1
  · by_cases hij : i = j
    · subst hij
      obtain ⟨hl, e⟩ := at_i h1
      rw [List.getElem?_set_self (by rw [r.len]; exact hl)] at h3
      cases h3
      exact other n h2 o2 h4
    · by_cases hik : i = k
      · subst hik
        obtain ⟨hl, e⟩ := at_i h2
        rw [List.getElem?_set_self (by rw [r.len]; exact hl)] at h4
        cases h4
        exact other (Ne.symm n) h1 o1 h3
      · rw [List.getElem?_set_ne hij] at h1 h3
        rw [List.getElem?_set_ne hik] at h2 h4
        exact r.injL j k m m' b n h1 o1 h2 o2 h3 h4
theorem Rel.putOwn (r : Rel G F Z s σ H) {i : Nat} {ds : List D} {a : Addr} {vs : List V} (ha : H a = some (.lst vs)) (h : Ats G.K Z ds vs) (hz : Z a = none) (hF : F.F a = none) (hf : ¬ G.foot s.g a)
    (ho : Nob s σ a) : Rel G F Z ⟨s.ρ.set i (some (.own ds)), s.g⟩ (σ.set i (some (.ref a))) H := r.putW (l := .own ds) rfl ha h hz hF hf ho
theorem Rel.writeL (r : Rel G F Z s σ H) {i : Nat} {l m : L} {a : Addr} {ws : List V} (hi : s.ρ[i]? = some (some l)) (ol : l.ow = true) (om : m.ow = true) (ha : σ[i]? = some (some (.ref a))) (h : Ats G.K Z m.ds ws) :
    Rel G F Z ⟨s.ρ.set i (some m), s.g⟩ σ (upd H a (m.ho ws)) := by
  obtain ⟨b, vs, h1, h2, h3, h4, h5, h6⟩ := r.ownL i l hi ol
  rw [ha] at h1
  cases h1
  have hl : i < s.ρ.length := (List.getElem?_eq_some_iff.mp hi).1
  have back : ∀ {j : Nat} {n : L}, (s.ρ.set i (some m))[j]? = some (some n) → n.ow = true → ∃ n', s.ρ[j]? = some (some n') ∧ n'.ow = true := fun {j n} hj o1 => by
    by_cases hij : i = j
    · subst hij; exact ⟨l, hi, ol⟩
    · rw [List.getElem?_set_ne hij] at hj; exact ⟨n, hj, o1⟩
  refine ⟨fun b o e => ?_, fun b o e => ?_, r.zb, by simpa using r.len, fun j e hj => ?_, fun j n hj o1 => ?_, fun j k p q b n h1 o1 h2 o2 h3 h4 => ?_, G.stay _ _ _ r.j fun b hb => ?_, r.zf, r.ff, r.fl⟩
  · rw [upd_ne (ne_of_none e h4)]; exact r.z _ _ e
  · rw [upd_ne (ne_of_none e h5)]; exact r.f _ _ e
  · have hij : i ≠ j := by
      intro e; subst e
      rw [List.getElem?_set_self hl] at hj
      cases hj
      cases om
    rw [List.getElem?_set_ne hij] at hj
    exact r.loc j e hj
  · by_cases hij : i = j
    · subst hij
      rw [List.getElem?_set_self hl] at hj
      cases hj
      exact ⟨a, ws, ha, upd_same, h, h4, h5, h6⟩
    · rw [List.getElem?_set_ne hij] at hj
      obtain ⟨c, us, k1, k2, k3⟩ := r.ownL j n hj o1
      refine ⟨c, us, k1, ?_, k3⟩
      rw [upd_ne]
      · exact k2
      · intro e; subst e
        exact r.injL i j l n c hij hi ol hj o1 ha k1
  · obtain ⟨p', e1, f1⟩ := back h1 o1
    obtain ⟨q', e2, f2⟩ := back h2 o2
    exact r.injL j k p' q' b n e1 f1 e2 f2 h3 h4
  · exact upd_ne fun e => h6 (e ▸ hb)
theorem Rel.write (r : Rel G F Z s σ H) {i : Nat} {ds es : List D} {a : Addr} {ws : List V} (hi : s.ρ[i]? = some (some (.own ds))) (ha : σ[i]? = some (some (.ref a))) (h : Ats G.K Z es ws) :
    Rel G F Z ⟨s.ρ.set i (some (.own es)), s.g⟩ σ (upd H a (.lst ws)) := r.writeL (l := .own ds) (m := .own es) hi rfl rfl ha h
theorem map_fst_zip' : ∀ {ks : List Key} {vs : List V}, ks.length = vs.length → (ks.zip vs).map (·.1) = ks
  | [], [], _ => rfl
  | k :: ks, v :: vs, h => by simp only [List.zip_cons_cons, List.map_cons, map_fst_zip' (ks := ks) (vs := vs) (by simpa using h)]
theorem map_snd_zip' : ∀ {ks : List Key} {vs : List V}, ks.length = vs.length → (ks.zip vs).map (·.2) = vs
  | [], [], _ => rfl
  | k :: ks, v :: vs, h => by simp only [List.zip_cons_cons, List.map_cons, map_snd_zip' (ks := ks) (vs := vs) (by simpa using h)]
def L.d : L → D | .val d => d | .own ds => .lst ds | .dic kds => .dct (kds.map (·.1)) (kds.map (·.2))
theorem At.ofL {K : PySem.W.Frag} {l : L} (ol : l.ow = true) {a : Addr} {vs : List V} (hz : Z a = some (l.ho vs)) (h : Ats K Z l.ds vs) : At K Z l.d (.ref a) := by
  cases l with
  | val d => cases ol
  | own ds => exact ⟨a, vs, rfl, hz, h⟩
  | dic kds =>
    have hl : (kds.map (·.1)).length = vs.length := by have := h.len; simp only [L.ds, List.length_map] at this ⊢; exact this.symm
    exact ⟨a, _, rfl, hz, map_fst_zip' hl, by rw [map_snd_zip' hl]; exact h⟩
theorem Rel.freezeL (r : Rel G F Z s σ H) {i : Nat} {l : L} (hi : s.ρ[i]? = some (some l)) (ol : l.ow = true) :
    ∃ a Z', Same Z Z' ∧ σ[i]? = some (some (.ref a)) ∧ At G.K Z' l.d (.ref a) ∧ Rel G F Z' ⟨s.ρ.set i (some (.val l.d)), s.g⟩ σ H := by
  obtain ⟨a, vs, h1, h2, h3, h4, h5, h6⟩ := r.ownL i l hi ol
  have hl : i < s.ρ.length := (List.getElem?_eq_some_iff.mp hi).1
  have k := same_upd (o := l.ho vs) h4
  have at' : At G.K (upd Z a (l.ho vs)) l.d (.ref a) := At.ofL ol upd_same (Ats.mono k _ _ h3)
  refine ⟨a, upd Z a (l.ho vs), k, h1, at', same_upd2 r.z h2 h4, r.f, fun b hb => by rw [upd_ne (show b ≠ a from fun e => Fra.nb h5 (by rw [← e]; exact hb))]; exact r.zb b hb, by simpa using r.len, fun j e hj => ?_, fun j m hj o1 => ?_, fun j k p q b n q1 o1 q2 o2 q3 q4 => ?_, r.j, fun b hb => ?_, r.ff, r.fl.trans k⟩
  · by_cases hij : i = j
    · subst hij
      rw [List.getElem?_set_self hl] at hj
      cases hj
      exact ⟨_, h1, at'⟩
    · rw [List.getElem?_set_ne hij] at hj
      obtain ⟨v, k1, k2⟩ := r.loc j e hj
      exact ⟨v, k1, At.mono k _ _ k2⟩
  · have hij : i ≠ j := by
      intro e; subst e
      rw [List.getElem?_set_self hl] at hj
      cases hj
      cases o1
    rw [List.getElem?_set_ne hij] at hj
    obtain ⟨c, us, k1, k2, k3, k4, k5⟩ := r.ownL j m hj o1
    refine ⟨c, us, k1, k2, Ats.mono k _ _ k3, ?_, k5⟩
    rw [upd_ne]
    · exact k4
    · intro e; subst e
      exact r.injL i j l m c hij hi ol hj o1 h1 k1
  · have ne : ∀ {j : Nat} {m : L}, (s.ρ.set i (some (L.val l.d)))[j]? = some (some m) → m.ow = true → s.ρ[j]? = some (some m) := fun {j m} hj o1 => by
      by_cases hij : i = j
      · subst hij
        rw [List.getElem?_set_self hl] at hj
        cases hj
        cases o1
      · rw [List.getElem?_set_ne hij] at hj; exact hj
    exact r.injL j k p q b n (ne q1 o1) o1 (ne q2 o2) o2 q3 q4
  · rw [upd_ne (show b ≠ a from fun e => h6 (by rw [← e]; exact hb))]
    exact r.zf b hb
theorem Rel.freeze (r : Rel G F Z s σ H) {i : Nat} {ds : List D} (hi : s.ρ[i]? = some (some (.own ds))) :
    ∃ a Z', Same Z Z' ∧ σ[i]? = some (some (.ref a)) ∧ At G.K Z' (.lst ds) (.ref a) ∧ Rel G F Z' ⟨s.ρ.set i (some (.val (.lst ds))), s.g⟩ σ H := r.freezeL (l := .own ds) hi rfl
end
end Pm
set_option Elab.async false
set_option linter.all false
set_option maxRecDepth 100000
set_option maxHeartbeats 1000000
set_option autoImplicit false
namespace Pm
open PySem PySem.Spec
open PyProof.Rows hiding St
open L2
variable {γ : Type}

abbrev PEx (γ : Type) := S γ → (D → S γ → Prop) → Prop
abbrev PTx (γ : Type) := S γ → (Bool → S γ → Prop) → Prop
abbrev PAx (γ : Type) := S γ → (List D → S γ → Prop) → Prop
abbrev POx (γ : Type) := S γ → (Option Int → S γ → Prop) → Prop
structure En (γ : Type) where
  nx : S γ → Prop
  rt : D → γ → Prop
  bk : S γ → Prop := fun _ => False
  ct : S γ → Prop := fun _ => False
abbrev PSx (γ : Type) := En γ → S γ → Prop
abbrev PGx (γ : Type) := D → S γ → (S γ → Prop) → Prop
abbrev DK := D → Prop

def lE (G : GP γ) (t : PEx γ) : TE := fun σ H Q => ∃ F Z s R, Rel G F Z s σ H ∧ t s R ∧ ∀ d s' Z' v H', R d s' → Same Z Z' → Rel G F Z' s' σ H' → At G.K Z' d v → Q v H'
def lT (G : GP γ) (t : PTx γ) : TT := fun σ H Q => ∃ F Z s R, Rel G F Z s σ H ∧ t s R ∧ ∀ b s' Z' H', R b s' → Same Z Z' → Rel G F Z' s' σ H' → Q b H'
def lA (G : GP γ) (t : PAx γ) : TA := fun σ H Q => ∃ F Z s R, Rel G F Z s σ H ∧ t s R ∧ ∀ ds s' Z' vs H', R ds s' → Same Z Z' → Rel G F Z' s' σ H' → Ats G.K Z' ds vs → Q vs H'
def lO (G : GP γ) (t : POx γ) : TO := fun σ H Q => ∃ F Z s R, Rel G F Z s σ H ∧ t s R ∧ ∀ o s' Z' H', R o s' → Same Z Z' → Rel G F Z' s' σ H' → Q o H'
def lF (G : GP γ) (t : PAx γ) : TE := fun σ H Q => ∃ F Z s R, Rel G F Z s σ H ∧ t s R ∧ ∀ ds s' Z' a vs H', R ds s' → Same Z Z' → Rel G F Z' s' σ H' → H' a = some (.lst vs) → Ats G.K Z' ds vs → Z' a = none → F.F a = none → ¬ G.foot s'.g a →
  Nob s' σ a → Q (.ref a) H'
def lS (G : GP γ) (t : PSx γ) : TS := fun De σ H => ∃ F Z s E, Rel G F Z s σ H ∧ t E s ∧
  (∀ s' Z' σ' H', E.nx s' → Same Z Z' → Rel G F Z' s' σ' H' → De.nx σ' H') ∧
  (∀ d s' Z' σ' v H', E.rt d s'.g → Same Z Z' → Rel G F Z' s' σ' H' → At G.K Z' d v → De.rt v H') ∧
  (∀ s' Z' σ' H', E.bk s' → Same Z Z' → Rel G F Z' s' σ' H' → De.bk σ' H') ∧
  (∀ s' Z' σ' H', E.ct s' → Same Z Z' → Rel G F Z' s' σ' H' → De.ct σ' H')
def lG (G : GP γ) (js : List Nat) (t : PGx γ) : TG := fun v σ H Q => ∃ F Z s d R, Rel G F Z s σ H ∧ At G.K Z d v ∧ t d s R ∧
  ∀ s' Z' σ' H', R s' → Same Z Z' → Rel G F Z' s' σ' H' → H' = H → (∀ j, j ∉ js → σ'[j]? = σ[j]?) → σ'.length = σ.length → Q σ' H'

abbrev QE (X : Cx) (G : GP γ) (e : Expr) (t : PEx γ) : Prop := PE X e (lE G t)
abbrev QF (X : Cx) (G : GP γ) (e : Expr) (t : PAx γ) : Prop := PE X e (lF G t)
abbrev QT (X : Cx) (G : GP γ) (e : Expr) (t : PTx γ) : Prop := PT X e (lT G t)
abbrev QW (X : Cx) (G : GP γ) (e : Expr) (t : PTx γ) : Prop := PW X e (lT G t)
abbrev QA (X : Cx) (G : GP γ) (es : List Expr) (t : PAx γ) : Prop := PA X es (lA G t)
abbrev QO (X : Cx) (G : GP γ) (e : Option Expr) (t : POx γ) : Prop := PO X e (lO G t)
abbrev QS (X : Cx) (G : GP γ) (st : Stmt) (t : PSx γ) : Prop := PS X st (lS G t)
abbrev QSs (X : Cx) (G : GP γ) (st : List Stmt) (t : PSx γ) : Prop := PSs X st (lS G t)
theorem PE.imp {X : Cx} {e : Expr} {t t' : TE} (h : PE X e t) (k : ∀ σ H Q, t' σ H Q → t σ H Q) : PE X e t' := ⟨fun pins s σ H Q I w => h.run pins s σ H Q I (k _ _ _ w)⟩
theorem PT.imp {X : Cx} {e : Expr} {t t' : TT} (h : PT X e t) (k : ∀ σ H Q, t' σ H Q → t σ H Q) : PT X e t' := ⟨fun pins s σ H Q I w => h.run pins s σ H Q I (k _ _ _ w)⟩
theorem PW.imp {X : Cx} {e : Expr} {t t' : TT} (h : PW X e t) (k : ∀ σ H Q, t' σ H Q → t σ H Q) : PW X e t' := ⟨fun wh pins s σ H Q I w => h.run wh pins s σ H Q I (k _ _ _ w)⟩
theorem PA.imp {X : Cx} {e : List Expr} {t t' : TA} (h : PA X e t) (k : ∀ σ H Q, t' σ H Q → t σ H Q) : PA X e t' := ⟨fun pos pins s σ H Q I w => h.run pos pins s σ H Q I (k _ _ _ w)⟩
theorem PO.imp {X : Cx} {e : Option Expr} {t t' : TO} (h : PO X e t) (k : ∀ σ H Q, t' σ H Q → t σ H Q) : PO X e t' := ⟨fun pins s σ H Q I w => h.run pins s σ H Q I (k _ _ _ w)⟩
theorem PS.imp {X : Cx} {e : Stmt} {t t' : TS} (h : PS X e t) (k : ∀ De σ H, t' De σ H → t De σ H) : PS X e t' := ⟨fun pins s σ H De I w => h.run pins s σ H De I (k _ _ _ w)⟩
theorem PSs.imp {X : Cx} {e : List Stmt} {t t' : TS} (h : PSs X e t) (k : ∀ De σ H, t' De σ H → t De σ H) : PSs X e t' := ⟨fun pins s σ H De I w => h.run pins s σ H De I (k _ _ _ w)⟩
theorem PG.imp {X : Cx} {e : Expr} {t t' : TG} (h : PG X e t) (k : ∀ v σ H Q, t' v σ H Q → t v σ H Q) : PG X e t' := ⟨fun pins s σ H v u Q I r w => h.run pins s σ H v u Q I r (k _ _ _ _ w)⟩

structure Ext (Z H Z' H' : Hp) : Prop where
  hh : Same H H'
  zz : Same Z Z'
  zh : Same Z' H'
  nw : ∀ a o, Z' a = some o → Z a = none → H a = none
theorem Ext.refl {Z H : Hp} (k : Same Z H) : Ext Z H Z H := ⟨Same.refl _, Same.refl _, k, fun a o h h' => by rw [h] at h'; cases h'⟩
theorem Ext.new {Z H : Hp} {p : Addr} {o : HO} (k : Same Z H) (hp : H p = none) : Ext Z H (upd Z p o) (upd H p o) := by
  have zp := k.free hp
  refine ⟨same_upd hp, same_upd zp, fun a u e => ?_, fun a u e n => ?_⟩
  · by_cases h : a = p
    · subst h; rw [upd_same] at e ⊢; exact e
    · rw [upd_ne h] at e ⊢; exact k _ _ e
  · by_cases h : a = p
    · rw [h]; exact hp
    · rw [upd_ne h, n] at e; cases e
section
variable {G : GP γ} {F : Fra} {Z Z' : Hp} {s : S γ} {σ : St} {H H' : Hp}
theorem Rel.ext (r : Rel G F Z s σ H) (x : Ext Z H Z' H') : Rel G F Z' s σ H' := by
  have zn : ∀ {a : Addr}, Z a = none → (∃ o, H a = some o) → Z' a = none := fun {a} n ⟨o, e⟩ => by
    cases q : Z' a with
    | none => rfl
    | some u => have := x.nw a u q n; rw [e] at this; cases this
  refine ⟨x.zh, r.f.trans x.hh, fun a h => zn (r.zb a h) (let ⟨o, e⟩ := F.bf a h; ⟨o, r.f _ _ e⟩), r.len, fun i d h => ?_, fun i l h ol => ?_, r.injL, (r.grow x.hh).j, fun a h => zn (r.zf a h) (G.live _ _ _ r.j h), r.ff, r.fl.trans x.zz⟩
  · obtain ⟨v, h1, h2⟩ := r.loc i d h
    exact ⟨v, h1, At.mono x.zz _ _ h2⟩
  · obtain ⟨a, vs, h1, h2, h3, h4, h5⟩ := r.ownL i l h ol
    exact ⟨a, vs, h1, x.hh _ _ h2, Ats.mono x.zz _ _ h3, zn h4 ⟨_, h2⟩, h5⟩
end

def dOp2 (K : PySem.W.Frag) (p : D → D → DK → Prop) : R2 := fun x y H Q => ∃ Z d e R, Same Z H ∧ At K Z d x ∧ At K Z e y ∧ p d e R ∧ ∀ z Z' v H', R z → Ext Z H Z' H' → At K Z' z v → Q v H'
def dCall (K : PySem.W.Frag) (p : List D → DK → Prop) : List V → Hp → VK → Prop := fun xs H Q => ∃ Z ds R, Same Z H ∧ Ats K Z ds xs ∧ p ds R ∧ ∀ z Z' v H', R z → Ext Z H Z' H' → At K Z' z v → Q v H'
def dCallF (K : PySem.W.Frag) (p : List D → (List D → Prop) → Prop) : List V → Hp → VK → Prop := fun xs H Q => ∃ Z ds R, Same Z H ∧ Ats K Z ds xs ∧ p ds R ∧ ∀ zs a vs H', R zs → Same H H' → H a = none → H' a = some (.lst vs) → Ats K Z zs vs → Q (.ref a) H'
def dOp2F (K : PySem.W.Frag) (p : D → D → (List D → Prop) → Prop) : R2 := fun x y H Q => ∃ Z d e R, Same Z H ∧ At K Z d x ∧ At K Z e y ∧ p d e R ∧ ∀ zs a vs H', R zs → Same H H' → H a = none → H' a = some (.lst vs) → Ats K Z zs vs → Q (.ref a) H'

section
variable {X : Cx} {G : GP γ} {a b c e : Expr} {pos : Pos}

def qC (d : D) : PEx γ := fun s R => R d s
theorem qe_of_C {v : V} {d : D} (h : PE X e (tC v)) (k : ∀ Z, At G.K Z d v) : QE X G e (qC d) :=
  PE.imp h fun σ H Q ⟨F, Z, s, R, r, t, q⟩ => q d s Z v H t (Same.refl _) r (k Z)
theorem qe_int {i j} : QE X G (.Constant (.int i) j pos) (qC (.int i)) := qe_of_C pe_int fun _ => rfl
theorem qe_bl {i j} : QE X G (.Constant (.bool i) j pos) (qC (.bl i)) := qe_of_C pe_bl fun _ => rfl
theorem qe_non {j} : QE X G (.Constant .none j pos) (qC .non) := qe_of_C pe_non fun _ => rfl
theorem qe_str {i j} : QE X G (.Constant (.str i) j pos) (qC (.str i)) := qe_of_C pe_str fun _ => rfl
def qVar (i : Nat) : PEx γ := fun s R => match s.ρ[i]? with
  | some (some (.val d)) => R d s
  | some (some (.own ds)) => R (.lst ds) ⟨s.ρ.set i (some (.val (.lst ds))), s.g⟩
  | some (some (.dic kds)) => R (.dct (kds.map (·.1)) (kds.map (·.2))) ⟨s.ρ.set i (some (.val (.dct (kds.map (·.1)) (kds.map (·.2))))), s.g⟩
  | _ => False
theorem qe_of_var {i : Nat} (h : PE X e (tVar i)) : QE X G e (qVar i) := by
  refine PE.imp h fun σ H Q ⟨F, Z, s, R, r, t, q⟩ => ?_
  unfold qVar at t
  split at t
  · rename_i d hd
    obtain ⟨v, h1, h2⟩ := r.loc i d hd
    exact ⟨v, h1, q d s Z v H t (Same.refl _) r h2⟩
  · rename_i ds hd
    obtain ⟨a, Z', k, h1, h2, r'⟩ := r.freeze hd
    exact ⟨.ref a, h1, q _ _ Z' _ H t k r' h2⟩
  · rename_i kds hd
    obtain ⟨a, Z', k, h1, h2, r'⟩ := r.freezeL hd rfl
    exact ⟨.ref a, h1, q _ _ Z' _ H t k r' h2⟩
  · exact t.elim
theorem qv (i : Nat) {x : Str} {pos : Pos} (hN : X.N[i]? = some x := by rfl) (hv : Vis X.env.scope x := by first | exact Or.inl rfl | exact Or.inr (Or.inl rfl) | exact Or.inr (Or.inr rfl)) (hd : (x == ("__debug__" : Str)) = false := by decide)
    (hcd : (x == ("__classdict__" : Str)) = false := by decide) : QE X G (.Name x pos) (qVar i) := qe_of_var (pe_var hN hv hd hcd)
theorem qe_glob {x : Str} {u : Value} {v : V} {d : D} (hg : Gl X x) (hm : X.mg x = some u) (r : RelV v u) (k : ∀ Z, At G.K Z d v) (hd : (x == ("__debug__" : Str)) = false := by decide) : QE X G (.Name x pos) (qC d) := qe_of_C (pe_glob hg hm r hd) k

def qBin (p : D → D → DK → Prop) (ta tb : PEx γ) : PEx γ := fun s R => ta s fun x s1 => tb s1 fun y s2 => p x y fun z => R z s2
theorem lbin {p : D → D → DK → Prop} {ta tb : PEx γ} {σ : St} {H : Hp} {Q : VK} (h : lE G (qBin p ta tb) σ H Q) : tOp (dOp2 G.K p) (lE G ta) (lE G tb) σ H Q := by
  obtain ⟨F, Z, s, R, r, t, q⟩ := h
  refine ⟨F, Z, s, _, r, t, fun x s1 Z1 v1 H1 t1 k1 r1 a1 => ⟨F, Z1, s1, _, r1, t1, fun y s2 Z2 v2 H2 t2 k2 r2 a2 => ?_⟩⟩
  exact ⟨Z2, x, y, _, r2.z, At.mono k2 _ _ a1, a2, t2, fun z Z3 v H3 t3 x3 a3 => q z s2 Z3 v H3 t3 ((k1.trans k2).trans x3.zz) (r2.ext x3) a3⟩
theorem qe_bin {op : Operator} {p : D → D → DK → Prop} {ta tb : PEx γ} (ho : OpR X (binaryOp op) (dOp2 G.K p)) (ha : QE X G a ta) (hb : QE X G b tb) : QE X G (.BinOp a op b pos) (qBin p ta tb) :=
  PE.imp (pe_op ho ha hb) fun _ _ _ h => lbin h
theorem qe_cmp {op : CmpOp} {p : D → D → DK → Prop} {ta tb : PEx γ} (ho : OpR X (compareOp op) (dOp2 G.K p)) (ha : QE X G a ta) (hb : QE X G b tb) (hm : behindInMarks op b = false) : QE X G (.Compare a [op] [b] pos) (qBin p ta tb) :=
  PE.imp (pe_cmpR ho ha hb hm) fun _ _ _ h => lbin h
def qB (t : PEx γ) : PTx γ := fun s R => t s fun x s1 => match x with | .bl b => R b s1 | _ => False
theorem lB {t : PEx γ} {te : TE} (k : ∀ σ H Q, lE G t σ H Q → te σ H Q) {σ : St} {H : Hp} {Q : Bool → Hp → Prop} (h : lT G (qB t) σ H Q) : te σ H fun x H1 => ∃ c, x = .bl c ∧ Q c H1 := by
  obtain ⟨F, Z, s, R, r, t, q⟩ := h
  refine k _ _ _ ⟨F, Z, s, _, r, t, fun d s1 Z1 v H1 t1 k1 r1 a1 => ?_⟩
  cases d with
  | bl b =>
    have e : v = .bl b := a1
    exact ⟨b, e, q b s1 Z1 H1 t1 k1 r1⟩
  | _ => exact t1.elim
theorem qt_cmp {op : CmpOp} {p : D → D → DK → Prop} {ta tb : PEx γ} (ho : OpR X (compareOp op) (dOp2 G.K p)) (ha : QE X G a ta) (hb : QE X G b tb) (hm : behindInMarks op b = false) : QT X G (.Compare a [op] [b] pos) (qB (qBin p ta tb)) :=
  PT.imp (pt_cmpR ho ha hb hm) fun _ _ _ h => lB (te := tOp (dOp2 G.K p) (lE G ta) (lE G tb)) (fun _ _ _ h => lbin h) h
theorem qt_val {t : PEx γ} (h : QE X G e t) (he : ∀ whole, isTrue e X.env whole = (do let v ← whole; standAt e.pos; holding [v] (truthy v)) := by intro _; rfl) : QT X G e (qB t) :=
  PT.imp (pt_val h he) fun _ _ _ h => lB (fun _ _ _ h => h) h
def qChain (p p' : D → D → DK → Prop) (ta tb tc : PEx γ) : PEx γ := fun s R => ta s fun x s1 => tb s1 fun y s2 => p x y fun z => match z with
  | .bl true => tc s2 fun w s3 => p' y w fun u => R u s3
  | .bl false => R (.bl false) s2
  | _ => False
theorem lchain {p p' : D → D → DK → Prop} {ta tb tc : PEx γ} {σ : St} {H : Hp} {Q : VK} (h : lE G (qChain p p' ta tb tc) σ H Q) : tChain (dOp2 G.K p) (dOp2 G.K p') (lE G ta) (lE G tb) (lE G tc) σ H Q := by
  obtain ⟨F, Z, s, R, r, t, q⟩ := h
  refine ⟨F, Z, s, _, r, t, fun x s1 Z1 v1 H1 t1 k1 r1 a1 => ⟨F, Z1, s1, _, r1, t1, fun y s2 Z2 v2 H2 t2 k2 r2 a2 => ?_⟩⟩
  refine ⟨Z2, x, y, _, r2.z, At.mono k2 _ _ a1, a2, t2, fun z Z3 v H3 t3 x3 a3 => ?_⟩
  have r3 := r2.ext x3
  cases z with
  | bl b =>
    have e : v = .bl b := a3
    refine ⟨b, e, ?_⟩
    cases b with
    | true =>
      rw [if_pos rfl]
      refine ⟨F, Z3, s2, _, r3, t3, fun w s4 Z4 v4 H4 t4 k4 r4 a4 => ?_⟩
      exact ⟨Z4, y, w, _, r4.z, At.mono (x3.zz.trans k4) _ _ a2, a4, t4, fun u Z5 v5 H5 t5 x5 a5 => q u s4 Z5 v5 H5 t5 ((((k1.trans k2).trans x3.zz).trans k4).trans x5.zz) (r4.ext x5) a5⟩
    | false =>
      rw [if_neg Bool.false_ne_true]
      exact q _ s2 Z3 _ H3 t3 ((k1.trans k2).trans x3.zz) r3 rfl
  | _ => exact t3.elim
theorem qe_chain {op op' : CmpOp} {p p' : D → D → DK → Prop} {ta tb tc : PEx γ} (ho : OpR X (compareOp op) (dOp2 G.K p)) (ho' : OpR X (compareOp op') (dOp2 G.K p')) (ha : QE X G a ta) (hb : QE X G b tb) (hc : QE X G c tc)
    (hm : lastMarks [op, op'] [b, c] = false := by rfl) : QE X G (.Compare a [op, op'] [b, c] pos) (qChain p p' ta tb tc) :=
  PE.imp (pe_chain ho ho' ha hb hc hm) fun _ _ _ h => lchain h
def Br (b : Bool) (A B : Prop) : Prop := (b = true → A) ∧ (b = false → B)
def qAndV (ta tb : PEx γ) : PEx γ := fun s R => qB ta s fun b s1 => Br b (tb s1 R) (R (.bl false) s1)
def qOrV (ta tb : PEx γ) : PEx γ := fun s R => qB ta s fun b s1 => Br b (R (.bl true) s1) (tb s1 R)
def qNotV (ta : PEx γ) : PEx γ := fun s R => qB ta s fun b s1 => R (.bl (!b)) s1
theorem lQB {ta : PEx γ} {σ : St} {H : Hp} {F : Fra} {Z : Hp} {s : S γ} {R : Bool → S γ → Prop} {Q : Bool → Hp → Prop} (r : Rel G F Z s σ H) (t : qB ta s R) (q : ∀ b s' Z' H', R b s' → Same Z Z' → Rel G F Z' s' σ H' → Q b H') :
    lE G ta σ H fun x H1 => ∃ c, x = .bl c ∧ Q c H1 := lB (fun _ _ _ h => h) ⟨F, Z, s, R, r, t, q⟩
theorem qe_one {op : BoolOp} {ta : PEx γ} (ha : QE X G a ta) : QE X G (.BoolOp op [a] pos) ta := pe_one ha
theorem qe_and {rest : List Expr} {ta tb : PEx γ} (ha : QE X G a ta) (hb : QE X G (.BoolOp .And (b :: rest) pos) tb) : QE X G (.BoolOp .And (a :: b :: rest) pos) (qAndV ta tb) := by
  refine PE.imp (pe_and ha hb) fun σ H Q ⟨F, Z, s, R, r, t, q⟩ => ?_
  refine lQB r t fun b s1 Z1 H1 t1 k1 r1 => ?_
  cases b with
  | true => rw [if_pos rfl]; exact ⟨F, Z1, s1, R, r1, t1.1 rfl, fun d s' Z' v H' t' k' => q d s' Z' v H' t' (k1.trans k')⟩
  | false => rw [if_neg Bool.false_ne_true]; exact q _ s1 Z1 _ H1 (t1.2 rfl) k1 r1 rfl
theorem qe_or {rest : List Expr} {ta tb : PEx γ} (ha : QE X G a ta) (hb : QE X G (.BoolOp .Or (b :: rest) pos) tb) : QE X G (.BoolOp .Or (a :: b :: rest) pos) (qOrV ta tb) := by
  refine PE.imp (pe_or ha hb) fun σ H Q ⟨F, Z, s, R, r, t, q⟩ => ?_
  refine lQB r t fun b s1 Z1 H1 t1 k1 r1 => ?_
  cases b with
  | true => rw [if_pos rfl]; exact q _ s1 Z1 _ H1 (t1.1 rfl) k1 r1 rfl
  | false => rw [if_neg Bool.false_ne_true]; exact ⟨F, Z1, s1, R, r1, t1.2 rfl, fun d s' Z' v H' t' k' => q d s' Z' v H' t' (k1.trans k')⟩
theorem qe_not {ta : PEx γ} (ha : QE X G a ta) : QE X G (.UnaryOp .Not a pos) (qNotV ta) := by
  refine PE.imp (pe_not ha) fun σ H Q ⟨F, Z, s, R, r, t, q⟩ => ?_
  exact lQB r t fun b s1 Z1 H1 t1 k1 r1 => q _ s1 Z1 _ H1 t1 k1 r1 rfl
def qAnd (ta tb : PTx γ) : PTx γ := fun s R => ta s fun b s1 => Br b (tb s1 R) (R false s1)
def qOr (ta tb : PTx γ) : PTx γ := fun s R => ta s fun b s1 => Br b (R true s1) (tb s1 R)
def qNot (ta : PTx γ) : PTx γ := fun s R => ta s fun b s1 => R (!b) s1
theorem qw_and1 {op : BoolOp} {ta : PTx γ} (ha : QT X G a ta) : QW X G (.BoolOp op [a] pos) ta := by
  first
    | exact pw_and1 ha
    | (cases op; exact pw_and1 ha; exact pw_or1 ha)
theorem qw_and {rest : List Expr} {ta tb : PTx γ} (ha : QT X G a ta) (hb : QW X G (.BoolOp .And (b :: rest) pos) tb) : QW X G (.BoolOp .And (a :: b :: rest) pos) (qAnd ta tb) := by
  refine PW.imp (pw_and ha hb) fun σ H Q ⟨F, Z, s, R, r, t, q⟩ => ?_
  refine ⟨F, Z, s, _, r, t, fun b s1 Z1 H1 t1 k1 r1 => ?_⟩
  cases b with
  | true => rw [if_pos rfl]; exact ⟨F, Z1, s1, R, r1, t1.1 rfl, fun b s' Z' H' t' k' => q b s' Z' H' t' (k1.trans k')⟩
  | false => rw [if_neg Bool.false_ne_true]; exact q _ s1 Z1 H1 (t1.2 rfl) k1 r1
theorem qw_or {rest : List Expr} {ta tb : PTx γ} (ha : QT X G a ta) (hb : QW X G (.BoolOp .Or (b :: rest) pos) tb) : QW X G (.BoolOp .Or (a :: b :: rest) pos) (qOr ta tb) := by
  refine PW.imp (pw_or ha hb) fun σ H Q ⟨F, Z, s, R, r, t, q⟩ => ?_
  refine ⟨F, Z, s, _, r, t, fun b s1 Z1 H1 t1 k1 r1 => ?_⟩
  cases b with
  | true => rw [if_pos rfl]; exact q _ s1 Z1 H1 (t1.1 rfl) k1 r1
  | false => rw [if_neg Bool.false_ne_true]; exact ⟨F, Z1, s1, R, r1, t1.2 rfl, fun b s' Z' H' t' k' => q b s' Z' H' t' (k1.trans k')⟩
theorem qt_not {ta : PTx γ} (ha : QT X G a ta) : QT X G (.UnaryOp .Not a pos) (qNot ta) := by
  refine PT.imp (pt_not ha) fun σ H Q ⟨F, Z, s, R, r, t, q⟩ => ?_
  exact ⟨F, Z, s, _, r, t, fun b s1 Z1 H1 t1 k1 r1 => q _ s1 Z1 H1 t1 k1 r1⟩
def qIfE (tc : PTx γ) (ta tb : PEx γ) : PEx γ := fun s R => tc s fun k s1 => Br k (ta s1 R) (tb s1 R)
theorem qe_if {tc : PTx γ} {ta tb : PEx γ} (hc : QT X G c tc) (ha : QE X G a ta) (hb : QE X G b tb) : QE X G (.IfExp c a b pos) (qIfE tc ta tb) := by
  refine PE.imp (pe_ifExp hc ha hb) fun σ H Q ⟨F, Z, s, R, r, t, q⟩ => ?_
  refine ⟨F, Z, s, _, r, t, fun k s1 Z1 H1 t1 k1 r1 => ?_⟩
  cases k with
  | true => rw [if_pos rfl]; exact ⟨F, Z1, s1, R, r1, t1.1 rfl, fun d s' Z' v H' t' k' => q d s' Z' v H' t' (k1.trans k')⟩
  | false => rw [if_neg Bool.false_ne_true]; exact ⟨F, Z1, s1, R, r1, t1.2 rfl, fun d s' Z' v H' t' k' => q d s' Z' v H' t' (k1.trans k')⟩

def qNil : PAx γ := fun s R => R [] s
def qCons (ta : PEx γ) (tr : PAx γ) : PAx γ := fun s R => ta s fun x s1 => tr s1 fun xs s2 => R (x :: xs) s2
theorem qa_nil : QA X G [] (qNil : PAx γ) := PA.imp pa_nil fun σ H Q ⟨F, Z, s, R, r, t, q⟩ => q [] s Z [] H t (Same.refl _) r rfl
theorem qa_cons {es : List Expr} {ta : PEx γ} {tr : PAx γ} (ha : QE X G e ta) (hr : QA X G es tr) (hs : starEach (e :: es) X.env = (false, eval e X.env) :: starEach es X.env := by rfl) : QA X G (e :: es) (qCons ta tr) := by
  refine PA.imp (pa_cons ha hr hs) fun σ H Q ⟨F, Z, s, R, r, t, q⟩ => ?_
  refine ⟨F, Z, s, _, r, t, fun x s1 Z1 v1 H1 t1 k1 r1 a1 => ⟨F, Z1, s1, _, r1, t1, fun xs s2 Z2 vs H2 t2 k2 r2 a2 => ?_⟩⟩
  exact q _ s2 Z2 _ H2 t2 (k1.trans k2) r2 ⟨v1, vs, rfl, At.mono k2 _ _ a1, a2⟩
def qTup (t : PAx γ) : PEx γ := fun s R => t s fun xs s1 => xs.length ≤ sizeLine ∧ R (.tup xs) s1
def qLst (t : PAx γ) : PAx γ := fun s R => t s fun xs s1 => xs.length ≤ sizeLine ∧ R xs s1
theorem qe_tup {es : List Expr} {t : PAx γ} {x1} (h : QA X G es t) : QE X G (.Tuple es x1 pos) (qTup t) := by
  refine PE.imp (pe_tup h) fun σ H Q ⟨F, Z, s, R, r, t, q⟩ => ?_
  refine ⟨F, Z, s, _, r, t, fun xs s1 Z1 vs H1 t1 k1 r1 a1 => ⟨by rw [a1.len]; exact t1.1, fun p hp => ?_⟩⟩
  have x := Ext.new (o := HO.tup vs) r1.z hp
  exact q _ s1 _ _ _ t1.2 (k1.trans x.zz) (r1.ext x) ⟨p, vs, rfl, .inl (.inl upd_same), Ats.mono x.zz _ _ a1⟩
theorem Rel.fresh {F : Fra} {Z : Hp} {s : S γ} {σ : St} {H : Hp} (r : Rel G F Z s σ H) {p : Addr} (hp : H p = none) : Z p = none ∧ F.F p = none ∧ ¬ G.foot s.g p ∧ Nob s σ p := by
  refine ⟨r.z.free hp, r.f.free hp, fun h => ?_, fun i l h ol e => ?_⟩
  · obtain ⟨o, e⟩ := G.live _ _ _ r.j h
    rw [hp] at e; cases e
  · obtain ⟨a, vs, h1, h2, _⟩ := r.ownL i l h ol
    rw [h1] at e; cases e
    rw [hp] at h2; cases h2
theorem qf_lst {es : List Expr} {t : PAx γ} (h : QA X G es t) : QF X G (.List es pos) (qLst t) := by
  refine PE.imp (pe_lst h) fun σ H Q ⟨F, Z, s, R, r, t, q⟩ => ?_
  refine ⟨F, Z, s, _, r, t, fun xs s1 Z1 vs H1 t1 k1 r1 a1 => ⟨by rw [a1.len]; exact t1.1, fun p hp => ?_⟩⟩
  obtain ⟨f1, f2, f3, f4⟩ := r1.fresh hp
  exact q _ s1 Z1 p vs _ t1.2 k1 (r1.grow (same_upd hp)) upd_same a1 f1 f2 f3 f4
def qSet (t : PAx γ) : PEx γ := fun s R => t s fun ds s1 => R (.lst ds) s1
theorem qe_set {t : PAx γ} (h : QF X G e t) : QE X G e (qSet t) := by
  refine PE.imp h fun σ H Q ⟨F, Z, s, R, r, t, q⟩ => ?_
  refine ⟨F, Z, s, _, r, t, fun ds s1 Z1 a vs H1 t1 k1 r1 ha a1 hz hf hg ho => ?_⟩
  have k := same_upd (o := HO.lst vs) hz
  exact q _ s1 (upd Z1 a (.lst vs)) _ H1 t1 (k1.trans k) (r1.settle ha hz hg (Fra.nb hf) ho) ⟨a, vs, rfl, upd_same, Ats.mono k _ _ a1⟩

def qCall (p : List D → DK → Prop) (t : PAx γ) : PEx γ := fun s R => t s fun xs s1 => p xs fun z => R z s1
def qCallF (p : List D → (List D → Prop) → Prop) (t : PAx γ) : PAx γ := fun s R => t s fun xs s1 => p xs fun z => R z s1
theorem lcall {p : List D → DK → Prop} {t : PAx γ} {σ : St} {H : Hp} {Q : VK} (h : lE G (qCall p t) σ H Q) : tCB (dCall G.K p) (lA G t) σ H Q := by
  obtain ⟨F, Z, s, R, r, t, q⟩ := h
  refine ⟨F, Z, s, _, r, t, fun xs s1 Z1 vs H1 t1 k1 r1 a1 => ?_⟩
  exact ⟨Z1, xs, _, r1.z, a1, t1, fun z Z3 v H3 t3 x3 a3 => q z s1 Z3 v H3 t3 (k1.trans x3.zz) (r1.ext x3) a3⟩
theorem lcallF {p : List D → (List D → Prop) → Prop} {t : PAx γ} {σ : St} {H : Hp} {Q : VK} (h : lF G (qCallF p t) σ H Q) : tCB (dCallF G.K p) (lA G t) σ H Q := by
  obtain ⟨F, Z, s, R, r, t, q⟩ := h
  refine ⟨F, Z, s, _, r, t, fun xs s1 Z1 vs H1 t1 k1 r1 a1 => ?_⟩
  refine ⟨Z1, xs, _, r1.z, a1, t1, fun zs a ws H3 t3 k3 hn ha a3 => ?_⟩
  obtain ⟨f1, f2, f3, f4⟩ := r1.fresh hn
  exact q zs s1 Z1 a ws H3 t3 k1 (r1.grow k3) ha a3 f1 f2 f3 f4
section
variable {x : Str} {p : Pos} {es : List Expr} {t : PAx γ} {id T : String}
theorem qe_callB {pr : List D → DK → Prop} (hc : CallR X (.builtin id) (dCall G.K pr)) (hg : Gl X x) (hm : X.mg x = none) (hv : bootBuiltins x = some (.builtin id)) (ha : QA X G (e :: es) t) (hn : x ≠ "__name__" := by decide) (hdb : (x == ("__debug__" : Str)) = false := by decide)
    (he : starEach (e :: es) X.env = (false, eval e X.env) :: starEach es X.env := by rfl) (hpl : (backTo pos (starEach es X.env)).any (·.1) = false := by rfl) : QE X G (.Call (.Name x p) (e :: es) [] pos) (qCall pr t) :=
  PE.imp (pe_callB hc hg hm hv ha hn hdb he hpl) fun _ _ _ h => lcall h
theorem qe_callTy {pr : List D → DK → Prop} (hc : CallR X (.type T) (dCall G.K pr)) (hg : Gl X x) (hm : X.mg x = none) (hv : bootBuiltins x = some (.type T)) (ha : QA X G (e :: es) t) (hn : x ≠ "__name__" := by decide) (hdb : (x == ("__debug__" : Str)) = false := by decide)
    (he : starEach (e :: es) X.env = (false, eval e X.env) :: starEach es X.env := by rfl) (hpl : (backTo pos (starEach es X.env)).any (·.1) = false := by rfl) : QE X G (.Call (.Name x p) (e :: es) [] pos) (qCall pr t) :=
  PE.imp (pe_callTy hc hg hm hv ha hn hdb he hpl) fun _ _ _ h => lcall h
theorem qf_callB {pr : List D → (List D → Prop) → Prop} (hc : CallR X (.builtin id) (dCallF G.K pr)) (hg : Gl X x) (hm : X.mg x = none) (hv : bootBuiltins x = some (.builtin id)) (ha : QA X G (e :: es) t) (hn : x ≠ "__name__" := by decide) (hdb : (x == ("__debug__" : Str)) = false := by decide)
    (he : starEach (e :: es) X.env = (false, eval e X.env) :: starEach es X.env := by rfl) (hpl : (backTo pos (starEach es X.env)).any (·.1) = false := by rfl) : QF X G (.Call (.Name x p) (e :: es) [] pos) (qCallF pr t) :=
  PE.imp (pe_callB hc hg hm hv ha hn hdb he hpl) fun _ _ _ h => lcallF h
end

abbrev Spec (γ : Type) := List D → γ → (D → γ → Prop) → Prop
def spG (G : GP γ) (f : Spec γ) : Sp := fun vs H Q _ => ∃ Z ds g R, Same Z H ∧ Ats G.K Z ds vs ∧ G.J g H ∧ (∀ a, G.foot g a → Z a = none) ∧ f ds g R ∧
  ∀ d g' Z' v H', R d g' → Same Z Z' → Same Z' H' → (∀ a o, H a = some o → ¬ G.foot g a → H' a = some o) → (∀ a o, Z' a = some o → Z a = none → H a = none) → G.J g' H' → (∀ a, G.foot g' a → Z' a = none ∧ (G.foot g a ∨ H a = none)) → At G.K Z' d v → Q v H'
abbrev Spec0 := List D → DK → Prop
def spP (K : PySem.W.Frag) (f : Spec0) : Sp := fun vs H Q _ => ∃ Z ds R, Same Z H ∧ Ats K Z ds vs ∧ f ds R ∧ ∀ d Z' v H', R d → Same Z Z' → Same Z' H' → Same H H' → (∀ a o, Z' a = some o → Z a = none → H a = none) → At K Z' d v → Q v H'
structure Def (X : Cx) (x : Str) (n : Nat) (sp : Sp) : Prop where
  ex : ∃ f fd k ps, FnOk X.prog X.w X.K X.mg X.base CX0 k f fd ps sp ∧ Room k X.A ∧ X.mg x = some (.ref f) ∧ PySem.W.keepIn X.K (.ref f) = true ∧ Binds X.K fd ps [] ∧ ps.length = n
def qCallP (f : Spec0) (t : PAx γ) : PEx γ := fun s R => t s fun xs s1 => f xs fun z => R z s1
def qCallG (f : Spec γ) (t : PAx γ) : PEx γ := fun s R => t s fun xs s1 => f xs s1.g fun z g' => R z ⟨s1.ρ, g'⟩
section
variable {x : Str} {p : Pos} {es : List Expr} {t : PAx γ} {n : Nat}
theorem lcallP {f : Spec0} {σ : St} {H : Hp} {Q : VK} (h : lE G (qCallP f t) σ H Q) : tCall (spP G.K f) [] E0 (lA G t) σ H Q := by
  obtain ⟨F, Z, s, R, r, t, q⟩ := h
  refine ⟨F, Z, s, _, r, t, fun xs s1 Z1 vs H1 t1 k1 r1 a1 => ?_⟩
  refine ⟨Z1, xs, _, r1.z, by rw [List.append_nil]; exact a1, t1, fun z Z3 v H3 t3 k3 z3 h3 n3 a3 => ?_⟩
  exact q z s1 Z3 v H3 t3 (k1.trans k3) (r1.ext ⟨h3, k3, z3, n3⟩) a3
theorem qe_call {f : Spec0} (d : Def X x n (spP G.K f)) (hg : Gl X x) (ha : QA X G (e :: es) t) (hdb : (x == ("__debug__" : Str)) = false := by decide) (he : starEach (e :: es) X.env = (false, eval e X.env) :: starEach es X.env := by rfl) (hpl : (backTo pos (starEach es X.env)).any (·.1) = false := by rfl) :
    QE X G (.Call (.Name x p) (e :: es) [] pos) (qCallP f t) := by
  obtain ⟨fa, fd, k, ps, F, hr, hm, hk, hb, _⟩ := d.ex
  exact PE.imp (pe_call F hr hg hm hk hb .nil pass0 ha hdb he hpl) fun _ _ _ h => lcallP h
theorem Rel.after {F : Fra} {Z Z' : Hp} {s : S γ} {σ : St} {H H' : Hp} {g' : γ} (r : Rel G F Z s σ H) (zz : Same Z Z') (zh : Same Z' H') (keep : ∀ a o, H a = some o → ¬ G.foot s.g a → H' a = some o) (nw : ∀ a o, Z' a = some o → Z a = none → H a = none) (hj : G.J g' H')
    (hf : ∀ a, G.foot g' a → Z' a = none ∧ (G.foot s.g a ∨ H a = none)) : Rel G F Z' ⟨s.ρ, g'⟩ σ H' := by
  refine ⟨zh, fun a o e => ?_, fun a h => ?_, r.len, fun i d h => ?_, fun i l h ol => ?_, r.injL, hj, fun a h => (hf a h).1, fun a h => ?_, r.fl.trans zz⟩
  · refine keep a o (r.f _ _ e) fun h => ?_
    have := r.ff a h; rw [e] at this; cases this
  · cases q : Z' a with
    | none => rfl
    | some o =>
      have h1 := nw a o q (r.zb a h)
      obtain ⟨o', e⟩ := F.bf a h
      rw [r.f _ _ e] at h1; cases h1
  · obtain ⟨v, h1, h2⟩ := r.loc i d h
    exact ⟨v, h1, At.mono zz _ _ h2⟩
  · obtain ⟨a, vs, h1, h2, h3, h4, h5, h6⟩ := r.ownL i l h ol
    refine ⟨a, vs, h1, keep _ _ h2 h6, Ats.mono zz _ _ h3, ?_, h5, fun h7 => ?_⟩
    · cases q : Z' a with
      | none => rfl
      | some o => have := nw a o q h4; rw [h2] at this; cases this
    · rcases (hf a h7).2 with h8 | h8
      · exact h6 h8
      · rw [h2] at h8; cases h8
  · rcases (hf a h).2 with h8 | h8
    · exact r.ff a h8
    · exact r.f.free h8
theorem lcallG {f : Spec γ} {σ : St} {H : Hp} {Q : VK} (h : lE G (qCallG f t) σ H Q) : tCall (spG G f) [] E0 (lA G t) σ H Q := by
  obtain ⟨F, Z, s, R, r, t, q⟩ := h
  refine ⟨F, Z, s, _, r, t, fun xs s1 Z1 vs H1 t1 k1 r1 a1 => ?_⟩
  refine ⟨Z1, xs, s1.g, _, r1.z, by rw [List.append_nil]; exact a1, r1.j, r1.zf, t1, fun z g' Z3 v H3 t3 k3 z3 h3 n3 j3 f3 a3 => ?_⟩
  exact q z _ Z3 v H3 t3 (k1.trans k3) (r1.after k3 z3 h3 n3 j3 f3) a3
theorem qe_callG {f : Spec γ} (d : Def X x n (spG G f)) (hg : Gl X x) (ha : QA X G (e :: es) t) (hdb : (x == ("__debug__" : Str)) = false := by decide) (he : starEach (e :: es) X.env = (false, eval e X.env) :: starEach es X.env := by rfl) (hpl : (backTo pos (starEach es X.env)).any (·.1) = false := by rfl) :
    QE X G (.Call (.Name x p) (e :: es) [] pos) (qCallG f t) := by
  obtain ⟨fa, fd, k, ps, F, hr, hm, hk, hb, _⟩ := d.ex
  exact PE.imp (pe_call F hr hg hm hk hb .nil pass0 ha hdb he hpl) fun _ _ _ h => lcallG h
end
end
end Pm
set_option Elab.async false
set_option linter.all false
set_option maxRecDepth 100000
set_option maxHeartbeats 1000000
set_option autoImplicit false
namespace Pm
open PySem PySem.Spec
open PyProof.Rows hiding St
open L2
variable {γ : Type}

section
variable {prog : Program} {w : World} {A : Around} {E : Value → Shared → Prop} {s : Shared}
theorem draw_list {it t : Addr} {items : Array Value} (hne : t ≠ it) : ∀ (n i : Nat) (s : Shared) (Q : List Value → Shared → Prop), s.heap.IsListIter it t i → s.heap.IsList t items → i + n ≤ items.size →
    (∀ h', h'.IsListIter it t (i + n) → Heap.SameBut it s.heap h' → Q ((items.toList.drop i).take n) { s with heap := h' }) → wpAny (model prog w) A (draw (.ref it) n) Q E s
  | 0, i, s, Q, hit, _, _, hQ => by
    show wpAny _ _ (pure []) Q E s
    exact wpAny_pure (by simpa using hQ s.heap hit (Heap.SameBut.refl ..))
  | n + 1, i, s, Q, hit, ht, hle, hQ => by
    have hlt : i < items.size := by omega
    show wpAny _ _ (pyNext (.ref it) >>= _) Q E s
    refine wpAny_bind (wpAny_pyNext_list_item hit ht (x := items[i]) (by simp [hlt]) fun h₁ hit₁ hs₁ => ?_)
    refine wpAny_bind (wpAny_holding (draw_list hne n (i + 1) _ _ hit₁ (ht.extBut hs₁.extBut hne) (by omega) fun h₂ hit₂ hs₂ => wpAny_pure ?_))
    have hd : items.toList.drop i = items[i] :: items.toList.drop (i + 1) := by simp [List.drop_eq_getElem_cons, hlt]
    have := hQ h₂ (by rw [show i + (n + 1) = i + 1 + n by omega]; exact hit₂) (hs₁.trans hs₂)
    rw [hd, List.take_succ_cons] at this
    exact this
theorem unpackItems_list {t : Addr} {items : Array Value} {Q : List Value → Shared → Prop} (hh : A.handled = none) (ht : s.heap.IsList t items)
    (hQ : ∀ h', Heap.ExtBut s.heap.objs.size s.heap h' → Q items.toList { s with heap := h' }) : wpAny (model prog w) A (unpackItems (.ref t) items.size none) Q E s := by
  have hlt : t ≠ s.heap.objs.size := by obtain ⟨o, ho, _⟩ := ht; exact Nat.ne_of_lt (Heap.lt_size ho)
  unfold unpackItems
  refine wpAny_bind ?_
  · unfold notIterableAtAll
    refine wpAny_bind (wpAny_specialOf ht.typeIs PySem.F.slot_list_iter.lookup ?_)
    refine wpAny_pure ?_
    simp only [Bool.false_eq_true, if_false]
    refine wpAny_bind (wpAny_holding (wpAny_pyIter_list ht ?_))
    refine wpAny_bind (wpAny_holding (draw_list hlt items.size 0 _ _ ⟨_, Heap.get?_push_size _ rfl, rfl, rfl⟩ (ht.at fun o e => Heap.get?_push_of_some _ e) (by omega) fun h₁ hit₁ hs₁ => ?_))
    have hall : List.take items.size (List.drop 0 items.toList) = items.toList := by
      rw [List.drop_zero]; exact List.take_of_length_le (by simp)
    rw [hall]
    rw [if_neg (by simp)]
    have ht₁ : h₁.IsList t items := (ht.at fun o e => Heap.get?_push_of_some _ e).extBut hs₁.extBut hlt
    refine wpAny_bind (wpAny_holding (wpAny_pyNext_list_end hh hit₁ ht₁ (by simp) fun h₂ he₂ => ?_))
    simp only [Option.isSome_none, Bool.false_eq_true, if_false]
    refine wpAny_pure (hQ h₂ fun b o hb e => he₂ b o hb (hs₁.extBut b o hb (Heap.get?_push_of_some _ e)))
theorem unpack_list {t : Addr} {items : Array Value} {targets : List (Bool × (Value → Sem Unit))} {Q : Unit → Shared → Prop} (hh : A.handled = none) (ht : s.heap.IsList t items)
    (hn : targets.length = items.size) (hstar : targets.findIdx? (·.1) = none)
    (h : ∀ h', Heap.ExtBut s.heap.objs.size s.heap h' → wpAny (model prog w) A (assignInOrder (targets.map (·.2)) items.toList) Q E { s with heap := h' }) :
    wpAny (model prog w) A (unpack (.ref t) targets) Q E s := by
  unfold unpack
  rw [hn, hstar]
  exact wpAny_bind (wpAny_holding (unpackItems_list hh ht h))
theorem assign_Tuple_list {env : Env} {elts : List Expr} {x1} {pos : Pos} {t : Addr} {items : Array Value} {Q : Unit → Shared → Prop} (hh : A.handled = none) (ht : s.heap.IsList t items)
    (hn : (assignEach elts env).length = items.size) (hstar : (assignEach elts env).findIdx? (·.1) = none)
    (h : ∀ h', Heap.ExtBut s.heap.objs.size s.heap h' → wpAny (model prog w) A (assignInOrder ((assignEach elts env).map (·.2)) items.toList) Q E { s with heap := h' }) :
    wpAny (model prog w) A (assign (.Tuple elts x1 pos) env (.ref t)) Q E s := by
  rw [assign_Tuple]
  exact wpAny_bind (wpAny_standAt (unpack_list hh ht hn hstar h))
end
section
variable {X : Cx} {pos : Pos}
def gLs (K : PySem.W.Frag) (n : Nat) (t : TGs) : TG := fun v σ H Q => ∃ a xs, v = .ref a ∧ SqL K H a xs ∧ xs.length = n ∧ t xs σ H Q
theorem pg_lst {es : List Expr} {k : Nat} {t : TGs} {n : Nat} (hc : X.calm = true) (h : PGs X es t)
    (hn : (assignEach es X.env).length = n := by rfl) (hst : (assignEach es X.env).findIdx? (·.1) = none := by rfl) : PG X (.Tuple es k pos) (gLs X.K n t) := by
  refine ⟨fun pins s σ H v u Q I r hw => ?_⟩
  obtain ⟨a, xs, e1, hq, hl, hw⟩ := hw
  subst e1
  cases r
  obtain ⟨its, rv, ht, hz⟩ := I.list hq
  refine assign_Tuple_list (I.ok.hd hc) ht.isList (by simp [hn, ← hl, rv.length]) hst fun h' hx => ?_
  have I1 : L2.Inv X pins σ H { s with heap := h' } := I.kept (t' := s.toks) fun b o e => hx b o (Nat.ne_of_lt (Heap.lt_size e)) e
  exact h.run pins _ σ H xs _ Q I1 (by simpa using rv) hw
end

end Pm
set_option Elab.async false
set_option linter.all false
set_option maxRecDepth 100000
set_option maxHeartbeats 1000000
set_option autoImplicit false
namespace Pm
open PySem PySem.Spec
open PyProof.Rows hiding St
open L2
variable {γ : Type}

section
variable {X : Cx} {G : GP γ} {a b c e : Expr} {pos : Pos}
def qNext : PSx γ := fun E s => E.nx s
def qSeq (t u : PSx γ) : PSx γ := fun E s => t { E with nx := u E } s
theorem lSeq {t u : PSx γ} {De : Ends} {σ : St} {H : Hp} (h : lS G (qSeq t u) De σ H) : tSeq (lS G t) (lS G u) De σ H := by
  obtain ⟨F, Z, s, E, r, t, n, rt, bk, ct⟩ := h
  refine ⟨F, Z, s, _, r, t, fun s' Z' σ' H' u' k r' => ?_, rt, bk, ct⟩
  exact ⟨F, Z', s', E, r', u', fun s2 Z2 σ2 H2 q k2 r2 => n s2 Z2 σ2 H2 q (k.trans k2) r2, fun d s2 Z2 σ2 v H2 q k2 r2 a2 => rt d s2 Z2 σ2 v H2 q (k.trans k2) r2 a2,
    fun s2 Z2 σ2 H2 q k2 r2 => bk s2 Z2 σ2 H2 q (k.trans k2) r2, fun s2 Z2 σ2 H2 q k2 r2 => ct s2 Z2 σ2 H2 q (k.trans k2) r2⟩
theorem qss_nil : QSs X G [] (qNext : PSx γ) := PSs.imp pss_nil fun De σ H ⟨F, Z, s, E, r, t, n, _⟩ => n s Z σ H t (Same.refl _) r
theorem qss_cons {st : Stmt} {rest : List Stmt} {t u : PSx γ} (h1 : QS X G st t) (h2 : QSs X G rest u) : QSs X G (st :: rest) (qSeq t u) := PSs.imp (pss_cons h1 h2) fun _ _ _ h => lSeq h
theorem qss_one {st : Stmt} {t : PSx γ} (h1 : QS X G st t) : QSs X G [st] t := pss_one h1
def qNever : PSx γ := fun _ _ => False
theorem qs_never {st : Stmt} : QS X G st (qNever : PSx γ) := PS.imp (t := tNever) ps_never fun De σ H ⟨F, Z, s, E, r, t, _⟩ => t.elim
theorem qss_never {st : List Stmt} : QSs X G st (qNever : PSx γ) := PSs.imp (t := tNever) pss_never fun De σ H ⟨F, Z, s, E, r, t, _⟩ => t.elim
def qDrop (te : PEx γ) : PSx γ := fun E s => te s fun _ s1 => E.nx s1
theorem qs_expr {te : PEx γ} (he : QE X G e te) (hs : swapsWith e none pos.line X.env = pure false := by rfl) : QS X G (.Expr e pos) (qDrop te) := by
  refine PS.imp (ps_expr he hs) fun De σ H ⟨F, Z, s, E, r, t, n, _⟩ => ?_
  exact ⟨F, Z, s, _, r, t, fun d s1 Z1 v H1 t1 k1 r1 a1 => n s1 Z1 σ H1 t1 k1 r1⟩
def qRet (te : PEx γ) : PSx γ := fun E s => te s fun d s1 => E.rt d s1.g
theorem qs_ret {te : PEx γ} (he : QE X G e te) : QS X G (.Return (some e) pos) (qRet te) := by
  refine PS.imp (ps_ret he) fun De σ H ⟨F, Z, s, E, r, t, _, rt, _⟩ => ?_
  exact ⟨F, Z, s, _, r, t, fun d s1 Z1 v H1 t1 k1 r1 a1 => rt d s1 Z1 σ v H1 t1 k1 r1 a1⟩
def qIf (c : PTx γ) (t u : PSx γ) : PSx γ := fun E s => c s fun b s1 => Br b (t E s1) (u E s1)
theorem qs_if {c : Expr} {a b : List Stmt} {tc : PTx γ} {t u : PSx γ} (hc : QT X G c tc) (ha : QSs X G a t) (hb : QSs X G b u) : QS X G (.If c a b pos) (qIf tc t u) := by
  refine PS.imp (ps_if hc ha hb) fun De σ H ⟨F, Z, s, E, r, t, n, rt, bk, ct⟩ => ?_
  refine ⟨F, Z, s, _, r, t, fun k s1 Z1 H1 t1 k1 r1 => ?_⟩
  have go : ∀ {t : PSx γ}, t E s1 → lS G t De σ H1 := fun {t} q => ⟨F, Z1, s1, E, r1, q, fun s2 Z2 σ2 H2 q k2 r2 => n s2 Z2 σ2 H2 q (k1.trans k2) r2, fun d s2 Z2 σ2 v H2 q k2 r2 a2 => rt d s2 Z2 σ2 v H2 q (k1.trans k2) r2 a2,
    fun s2 Z2 σ2 H2 q k2 r2 => bk s2 Z2 σ2 H2 q (k1.trans k2) r2, fun s2 Z2 σ2 H2 q k2 r2 => ct s2 Z2 σ2 H2 q (k1.trans k2) r2⟩
  cases k with
  | true => exact iteT (go (t1.1 rfl))
  | false => exact iteF (go (t1.2 rfl))

def qAsg (te : PEx γ) (i : Nat) : PSx γ := fun E s => te s fun d s1 => E.nx ⟨s1.ρ.set i (some (.val d)), s1.g⟩
theorem lasg {te : PEx γ} {i : Nat} {De : Ends} {σ : St} {H : Hp} (h : lS G (qAsg te i) De σ H) : tAsg (lE G te) (gName i) De σ H := by
  obtain ⟨F, Z, s, E, r, t, n, _⟩ := h
  exact ⟨F, Z, s, _, r, t, fun d s1 Z1 v H1 t1 k1 r1 a1 => n _ Z1 _ H1 t1 k1 (r1.put a1)⟩
def qAsgOwn (te : PAx γ) (i : Nat) : PSx γ := fun E s => te s fun ds s1 => E.nx ⟨s1.ρ.set i (some (.own ds)), s1.g⟩
theorem lasgOwn {te : PAx γ} {i : Nat} {De : Ends} {σ : St} {H : Hp} (h : lS G (qAsgOwn te i) De σ H) : tAsg (lF G te) (gName i) De σ H := by
  obtain ⟨F, Z, s, E, r, t, n, _⟩ := h
  exact ⟨F, Z, s, _, r, t, fun ds s1 Z1 a vs H1 t1 k1 r1 ha a1 hz hf hg ho => n _ Z1 _ H1 t1 k1 (r1.putOwn ha a1 hz hf hg ho)⟩
section
variable {i : Nat} {x : Str} {pos' : Pos}
theorem qs_set {te : PEx γ} (hN : X.N.Nodup) (hi : X.N[i]? = some x) (hx : Loc X.env.scope x) (he : QE X G e te) (hs : swapsWith e (some (.Name x pos')) pos.line X.env = pure false := by rfl) (hf : X.fn x = true ∨ X.env.scope.names.lookup x = some .local := by first | exact .inl rfl | exact .inr rfl | assumption) :
    QS X G (.Assign [.Name x pos'] e pos) (qAsg te i) := PS.imp (ps_set hN hi hx he hs hf) fun _ _ _ h => lasg h
theorem qs_setOwn {te : PAx γ} (hN : X.N.Nodup) (hi : X.N[i]? = some x) (hx : Loc X.env.scope x) (he : QF X G e te) (hs : swapsWith e (some (.Name x pos')) pos.line X.env = pure false := by rfl) (hf : X.fn x = true ∨ X.env.scope.names.lookup x = some .local := by first | exact .inl rfl | exact .inr rfl | assumption) :
    QS X G (.Assign [.Name x pos'] e pos) (qAsgOwn te i) := PS.imp (ps_set hN hi hx he hs hf) fun _ _ _ h => lasgOwn h
end
inductive Tg where | nm (i : Nat) | tp (ts : List Tg)
mutual
def Tg.put : Tg → D → List (Option L) → Option (List (Option L))
  | .nm i, d, ρ => some (ρ.set i (some (.val d)))
  | .tp ts, d, ρ => match d with
    | .tup ds => Tg.puts ts ds ρ
    | .lst ds => Tg.puts ts ds ρ
    | _ => none
def Tg.puts : List Tg → List D → List (Option L) → Option (List (Option L))
  | [], [], ρ => some ρ
  | t :: ts, d :: ds, ρ => (t.put d ρ).bind fun ρ' => Tg.puts ts ds ρ'
  | _, _, _ => none
end
mutual
def Tg.js : Tg → List Nat
  | .nm i => [i]
  | .tp ts => Tg.jss ts
def Tg.jss : List Tg → List Nat
  | [] => []
  | t :: ts => t.js ++ Tg.jss ts
end
def qPut (tg : Tg) : PGx γ := fun d s R => match tg.put d s.ρ with
  | some ρ' => R ⟨ρ', s.g⟩
  | none => False
def qPuts (ts : List Tg) : List D → S γ → (S γ → Prop) → Prop := fun ds s R => match Tg.puts ts ds s.ρ with
  | some ρ' => R ⟨ρ', s.g⟩
  | none => False
def lGs (G : GP γ) (js : List Nat) (t : List D → S γ → (S γ → Prop) → Prop) : TGs := fun vs σ H Q => ∃ F Z s ds R, Rel G F Z s σ H ∧ Ats G.K Z ds vs ∧ t ds s R ∧
  ∀ s' Z' σ' H', R s' → Same Z Z' → Rel G F Z' s' σ' H' → H' = H → (∀ j, j ∉ js → σ'[j]? = σ[j]?) → σ'.length = σ.length → Q σ' H'
theorem PGs.imp {es : List Expr} {t t' : TGs} (h : PGs X es t) (k : ∀ v σ H Q, t' v σ H Q → t v σ H Q) : PGs X es t' := ⟨fun pins s σ H v u Q I r w => h.run pins s σ H v u Q I r (k _ _ _ _ w)⟩
abbrev QG' (X : Cx) (G : GP γ) (tg : Expr) (t : Tg) : Prop := PG X tg (lG G t.js (qPut t))
abbrev QGs (X : Cx) (G : GP γ) (es : List Expr) (ts : List Tg) : Prop := PGs X es (lGs G (Tg.jss ts) (qPuts ts))
theorem qg_name {i : Nat} {x : Str} (hN : X.N.Nodup) (hi : X.N[i]? = some x) (hx : Loc X.env.scope x) (hf : X.fn x = true ∨ X.env.scope.names.lookup x = some .local := by first | exact .inl rfl | exact .inr rfl | assumption) : QG' X G (.Name x pos) (.nm i) := by
  refine PG.imp (pg_name hN hi hx hf) fun v σ H Q ⟨F, Z, s, d, R, r, a, t, q⟩ => ?_
  exact q _ Z _ H t (Same.refl _) (r.put a) rfl (fun j hj => List.getElem?_set_ne (by simpa [Tg.js, eq_comm] using hj)) (by simp)
theorem qgs_nil : QGs X G [] [] := by
  refine PGs.imp pgs_nil fun vs σ H Q ⟨F, Z, s, ds, R, r, a, t, q⟩ => ?_
  cases ds with
  | nil => exact ⟨a, q _ Z σ H t (Same.refl _) r rfl (fun _ _ => rfl) rfl⟩
  | cons d ds => exact t.elim
theorem qgs_cons {e : Expr} {es : List Expr} {t : Tg} {ts : List Tg} (h1 : QG' X G e t) (h2 : QGs X G es ts)
    (hs : (assignEach (e :: es) X.env).map (·.2) = assign e X.env :: (assignEach es X.env).map (·.2) := by rfl) : QGs X G (e :: es) (t :: ts) := by
  refine PGs.imp (pgs_cons h1 h2 hs) fun vs σ H Q ⟨F, Z, s, ds, R, r, a, w, q⟩ => ?_
  cases ds with
  | nil => exact w.elim
  | cons d ds =>
    simp only [Ats] at a
    obtain ⟨v, vr, e, a1, a2⟩ := a
    unfold qPuts at w
    simp only [Tg.puts] at w
    cases hp : t.put d s.ρ with
    | none => rw [hp] at w; exact w.elim
    | some ρ' =>
      rw [hp] at w
      simp only [Option.bind_some] at w
      refine ⟨v, vr, e, F, Z, s, d, fun s1 => qPuts ts ds s1 R, r, a1, ?_, fun s1 Z1 σ1 H1 w1 k1 r1 e1 o1 l1 => ?_⟩
      · unfold qPut; rw [hp]; exact w
      · refine ⟨F, Z1, s1, ds, R, r1, Ats.mono k1 _ _ a2, w1, fun s2 Z2 σ2 H2 w2 k2 r2 e2 o2 l2 => ?_⟩
        refine q s2 Z2 σ2 H2 w2 (k1.trans k2) r2 (e2.trans e1) (fun j hj => ?_) (l2.trans l1)
        simp only [Tg.jss, List.mem_append, not_or] at hj
        rw [o2 j hj.2, o1 j hj.1]
theorem Tg.puts_len : ∀ {ts : List Tg} {ds : List D} {ρ ρ' : List (Option L)}, Tg.puts ts ds ρ = some ρ' → ds.length = ts.length
  | [], [], _, _, _ => rfl
  | [], _ :: _, _, _, h => by simp [Tg.puts] at h
  | _ :: _, [], _, _, h => by simp [Tg.puts] at h
  | t :: ts, d :: ds, ρ, ρ', h => by
    simp only [Tg.puts] at h
    cases hp : t.put d ρ with
    | none => rw [hp] at h; simp at h
    | some ρ1 =>
      rw [hp] at h
      simp only [Option.bind_some] at h
      simp [Tg.puts_len h]
theorem qg_tup {es : List Expr} {k : Nat} {ts : List Tg} (hc : X.calm = true) (h : QGs X G es ts) (hK : X.K = G.K := by rfl)
    (hn : (assignEach es X.env).length = ts.length := by rfl) (hst : (assignEach es X.env).findIdx? (·.1) = none := by rfl) : QG' X G (.Tuple es k pos) (.tp ts) := by
  refine ⟨fun pins s0 σ H v u Q I rv hw => ?_⟩
  obtain ⟨F, Z, s, d, R, r, a, w, q⟩ := hw
  unfold qPut at w
  cases d with
  | tup ds =>
    simp only [Tg.put] at w
    simp only [At] at a
    obtain ⟨p, vs, e, hs, a⟩ := a
    have hl : ds.length = ts.length := by
      cases hp : Tg.puts ts ds s.ρ with
      | none => rw [hp] at w; exact w.elim
      | some ρ' => exact Tg.puts_len hp
    exact (pg_tup hc h hn hst).run pins s0 σ H v u Q I rv ⟨p, vs, e, by rw [hK]; exact seqT r.z hs, by rw [a.len]; exact hl, F, Z, s, ds, R, r, a, w, q⟩
  | lst ds =>
    simp only [Tg.put] at w
    simp only [At] at a
    obtain ⟨p, vs, e, hs, a⟩ := a
    have hl : ds.length = ts.length := by
      cases hp : Tg.puts ts ds s.ρ with
      | none => rw [hp] at w; exact w.elim
      | some ρ' => exact Tg.puts_len hp
    exact (pg_lst hc h hn hst).run pins s0 σ H v u Q I rv ⟨p, vs, e, .inl (.inl (r.z _ _ hs)), by rw [a.len]; exact hl, F, Z, s, ds, R, r, a, w, q⟩
  | _ => exact w.elim
def qAsgT (te : PEx γ) (tg : Tg) : PSx γ := fun E s => te s fun d s1 => qPut tg d s1 E.nx
theorem qs_setT {tg : Expr} {te : PEx γ} {t : Tg} (he : QE X G e te) (hg : QG' X G tg t) (hs : swapsWithSole [tg] e pos.line X.env = pure false := by rfl) (hw : swappedStores [tg] e X.env = pure none := by rfl)
    (h1 : (assignEach [tg] X.env).map (·.2) = [assign tg X.env] := by rfl) : QS X G (.Assign [tg] e pos) (qAsgT te t) := by
  refine PS.imp (ps_asg he hg hs hw h1) fun De σ H ⟨F, Z, s, E, r, t, n, _⟩ => ?_
  exact ⟨F, Z, s, _, r, t, fun d s1 Z1 v H1 t1 k1 r1 a1 => ⟨F, Z1, s1, d, E.nx, r1, a1, t1, fun s2 Z2 σ2 H2 q2 k2 r2 _ _ _ => n s2 Z2 σ2 H2 q2 (k1.trans k2) r2⟩⟩
def qPar (i j : Nat) (ta : PAx γ) : PSx γ := fun E s => ta s fun ds s1 => match ds with
  | [d, e] => E.nx ⟨(s1.ρ.set i (some (.val d))).set j (some (.val e)), s1.g⟩
  | _ => False
theorem qs_par {i j : Nat} {x y : Str} {a b : Expr} {ta : PAx γ} {px py pt : Pos} {kt k2 pt2} (hc : X.calm = true) (hN : X.N.Nodup) (hi : X.N[i]? = some x) (hj : X.N[j]? = some y) (hij : i ≠ j)
    (hx : X.env.scope.names.lookup x = some .local) (hy : X.env.scope.names.lookup y = some .local) (ha : QA X G [a, b] ta)
    (hw : swappedStores [.Tuple [.Name x px, .Name y py] kt pt] (.Tuple [a, b] k2 pt2) X.env = pure (some [x, y]))
    (hs : swapsWithSole [.Tuple [.Name x px, .Name y py] kt pt] (.Tuple [a, b] k2 pt2) pos.line X.env = pure false := by rfl) :
    QS X G (.Assign [.Tuple [.Name x px, .Name y py] kt pt] (.Tuple [a, b] k2 pt2) pos) (qPar i j ta) := by
  refine PS.imp (ps_par hc hN hi hj hij hx hy ha hw hs) fun De σ H ⟨F, Z, s, E, r, t, n, _⟩ => ?_
  refine ⟨F, Z, s, _, r, t, fun ds s1 Z1 vs H1 t1 k1 r1 a1 => ?_⟩
  match ds, t1 with
  | [d, e], t1 =>
    simp only [Ats] at a1
    obtain ⟨v, _, rfl, a2, w, _, rfl, a3, rfl⟩ := a1
    exact ⟨v, w, rfl, n _ Z1 _ H1 t1 k1 ((r1.put a2).put a3)⟩

def qWhile (c : PTx γ) (tb : PSx γ) : PSx γ := fun E s => ∃ W : Nat → S γ → Prop, (∃ m s0, Wk s s0 ∧ W m s0) ∧ ∀ m s, W m s → c s fun b s1 => Br b (tb { E with nx := fun s' => ∃ m' s'', m' < m ∧ Wk s' s'' ∧ W m' s'', ct := fun s' => ∃ m' s'', m' < m ∧ Wk s' s'' ∧ W m' s'', bk := E.nx } s1) (E.nx s1)
theorem qs_while {c : Expr} {body : List Stmt} {tc : PTx γ} {tb : PSx γ} (hp : PassesOwn (model X.prog X.w) X.A X.env X.xe) (hc : QT X G c tc) (hb : QSs X G body tb) : QS X G (.While c body [] pos) (qWhile tc tb) := by
  refine PS.imp (ps_while hp hc hb) fun De σ H ⟨F, Z, s, E, r, ⟨W, ⟨m0, s0, wk0, w0⟩, turn⟩, n, rt, bk, ct⟩ => ?_
  refine ⟨fun m σ H => ∃ Z' s', Same Z Z' ∧ Rel G F Z' s' σ H ∧ W m s', ⟨m0, Z, s0, Same.refl _, r.weak wk0, w0⟩, ?_⟩
  rintro m σ1 H1 ⟨Z1, s1, k1, r1, w1⟩
  refine ⟨F, Z1, s1, _, r1, turn m s1 w1, fun b s2 Z2 H2 t2 k2 r2 => ?_⟩
  cases b with
  | true =>
    refine iteT ?_
    refine ⟨fun σ' H' => ∃ m', m' < m ∧ ∃ Z' s', Same Z Z' ∧ Rel G F Z' s' σ' H' ∧ W m' s', fun σ' H' h => h, F, Z2, s2, _, r2, t2.1 rfl, ?_, ?_, ?_, ?_⟩
    · rintro s3 Z3 σ3 H3 ⟨m', s'', hm, wk, w'⟩ k3 r3
      exact ⟨m', hm, Z3, s'', (k1.trans k2).trans k3, r3.weak wk, w'⟩
    · intro d s3 Z3 σ3 v H3 q k3 r3 a3
      exact rt d s3 Z3 σ3 v H3 q ((k1.trans k2).trans k3) r3 a3
    · intro s3 Z3 σ3 H3 q k3 r3
      exact n s3 Z3 σ3 H3 q ((k1.trans k2).trans k3) r3
    · rintro s3 Z3 σ3 H3 ⟨m', s'', hm, wk, w'⟩ k3 r3
      exact ⟨m', hm, Z3, s'', (k1.trans k2).trans k3, r3.weak wk, w'⟩
  | false => exact iteF (n s2 Z2 σ1 H2 (t2.2 rfl) (k1.trans k2) r2)

def Walks (K : PySem.W.Frag) (J : It) (Z : Hp) (ds : List D) : Prop := ∀ (i : Nat) (Z1 H : Hp), Same Z Z1 → Same Z1 H →
  (∀ d, ds[i]? = some d → J.go i H ∧ ∀ x H', J.yld i H x H' → ∃ Z', Ext Z1 H Z' H' ∧ At K Z' d x) ∧ (i = ds.length → J.stop i H)
def lI (G : GP γ) (t : PAx γ) : TI := fun σ H R => ∃ F Z s Rp, Rel G F Z s σ H ∧ t s Rp ∧ ∀ ds s' Z' H' J, Rp ds s' → Same Z Z' → Rel G F Z' s' σ H' → Walks G.K J Z' ds → R J H'
abbrev QI (X : Cx) (G : GP γ) (tg iter : Expr) (t : PAx γ) : Prop := PI X tg iter (lI G t)
theorem PI.imp {tg iter : Expr} {t t' : TI} (h : PI X tg iter t) (k : ∀ σ H R, t' σ H R → t σ H R) : PI X tg iter t' := ⟨fun pins s σ H R I w => h.run pins s σ H R I (k _ _ _ w)⟩

def qFor (ti : PAx γ) (tg : Tg) (tb : PSx γ) : PSx γ := fun E s => ti s fun ds s1 => ∃ I : Nat → S γ → Prop, (∃ s0, Wk s1 s0 ∧ I 0 s0) ∧
  (∀ i d s, ds[i]? = some d → I i s → qPut tg d s fun s2 => tb { E with nx := fun s' => ∃ s'', Wk s' s'' ∧ I (i + 1) s'', ct := fun s' => ∃ s'', Wk s' s'' ∧ I (i + 1) s'', bk := E.nx } s2) ∧ ∀ s, I ds.length s → E.nx s
theorem qs_for {iter tg : Expr} {body : List Stmt} {ti : PAx γ} {t : Tg} {tb : PSx γ} (hp : PassesOwn (model X.prog X.w) X.A X.env X.xe) (hc : X.calm = true) (hi : QI X G tg iter ti) (hg : QG' X G tg t) (hb : QSs X G body tb)
    (hs : ∀ x, foldedSetIterable iter X.env x = pure x := by intro _; rfl) : QS X G (.For tg iter body [] pos) (qFor ti t tb) := by
  refine PS.imp (ps_for hp hc hi hg hb hs) fun De σ H ⟨F, Z, s, E, r, w, n, rt, bk, ct⟩ => ?_
  refine ⟨F, Z, s, _, r, w, fun ds s1 Z1 H1 J w1 k1 r1 wJ => ?_⟩
  obtain ⟨I, ⟨s0, wk0, i0⟩, turn, done⟩ := w1
  refine ⟨fun i m σ H => m = ds.length - i ∧ i ≤ ds.length ∧ ∃ Z' s', Same Z1 Z' ∧ Rel G F Z' s' σ H ∧ I i s', ⟨ds.length, rfl, Nat.zero_le _, Z1, s0, Same.refl _, r1.weak wk0, i0⟩, ?_⟩
  rintro i m σ2 H2 ⟨hm, hi, Z2, s2, k2, r2, i2⟩
  obtain ⟨go, stop⟩ := wJ i Z2 H2 k2 r2.z
  by_cases hlt : i < ds.length
  · obtain ⟨g1, y1⟩ := go ds[i] (List.getElem?_eq_getElem hlt)
    refine .inr ⟨g1, fun σ' H' => ∃ Z' s', Same Z1 Z' ∧ Rel G F Z' s' σ' H' ∧ I (i + 1) s', fun σ' H' h => ⟨ds.length - (i + 1), by omega, rfl, hlt, h⟩, fun x H3 y => ?_⟩
    obtain ⟨Z3, x3, a3⟩ := y1 x H3 y
    have r3 := r2.ext x3
    have k3 := k2.trans x3.zz
    refine ⟨F, Z3, s2, ds[i], _, r3, a3, turn i ds[i] s2 (List.getElem?_eq_getElem hlt) i2, fun s4 Z4 σ4 H4 w4 k4 r4 _ _ _ => ?_⟩
    refine ⟨F, Z4, s4, _, r4, w4, ?_, ?_, ?_, ?_⟩
    · rintro s5 Z5 σ5 H5 ⟨s'', wk, i5⟩ k5 r5
      exact ⟨Z5, s'', (k3.trans k4).trans k5, r5.weak wk, i5⟩
    · intro d s5 Z5 σ5 v H5 q k5 r5 a5
      exact rt d s5 Z5 σ5 v H5 q (((k1.trans k3).trans k4).trans k5) r5 a5
    · intro s5 Z5 σ5 H5 q k5 r5
      exact n s5 Z5 σ5 H5 q (((k1.trans k3).trans k4).trans k5) r5
    · rintro s5 Z5 σ5 H5 ⟨s'', wk, i5⟩ k5 r5
      exact ⟨Z5, s'', (k3.trans k4).trans k5, r5.weak wk, i5⟩
  · have e : i = ds.length := by omega
    subst e
    exact .inl ⟨stop rfl, n s2 Z2 σ2 H2 (done s2 i2) (k1.trans k2) r2⟩
end
end Pm
set_option Elab.async false
set_option linter.all false
set_option maxRecDepth 100000
set_option maxHeartbeats 1000000
set_option autoImplicit false
namespace Pm
open PySem PySem.Spec
open PyProof.Rows hiding St
open L2
variable {γ : Type}

def wipeL (ρ : List (Option L)) : List Nat → List (Option L)
  | [] => ρ
  | v :: vs => (wipeL ρ vs).set v none
def S.wipe (s : S γ) (vs : List Nat) : S γ := ⟨wipeL s.ρ vs, s.g⟩
theorem wipeL_length (ρ : List (Option L)) : ∀ vs : List Nat, (wipeL ρ vs).length = ρ.length
  | [] => rfl
  | v :: vs => by unfold wipeL; rw [List.length_set, wipeL_length ρ vs]
theorem wipeL_some {ρ : List (Option L)} {i : Nat} {x : L} : ∀ {vs : List Nat}, (wipeL ρ vs)[i]? = some (some x) → ρ[i]? = some (some x) ∧ i ∉ vs
  | [], h => ⟨h, by simp⟩
  | v :: vs, h => by
    unfold wipeL at h
    by_cases hi : v = i
    · subst hi
      by_cases hv : v < (wipeL ρ vs).length
      · rw [List.getElem?_set_self hv] at h; cases h
      · rw [List.getElem?_eq_none (by simpa using hv)] at h; cases h
    · rw [List.getElem?_set_ne hi] at h
      obtain ⟨h1, h2⟩ := wipeL_some h
      exact ⟨h1, by simp only [List.mem_cons, not_or]; exact ⟨fun e => hi e.symm, h2⟩⟩
def keepVal : Option (Option L) → Option L
  | some (some (.val d)) => some (.val d)
  | _ => none
def S.back (s1 : S γ) (vs : List Nat) (s : S γ) : S γ := ⟨s.ρ.mapIdx fun j l => if j ∈ vs then keepVal s1.ρ[j]? else l, s.g⟩

section
variable {G : GP γ} {F : Fra} {Z Z1 : Hp} {s s' s1 : S γ} {σ σ' : St} {H H1 : Hp}
theorem Rel.resl (r : Rel G F Z s σ H) (hg : s'.g = s.g) (hl : s'.ρ.length = σ'.length) (k : ∀ (i : Nat) l, s'.ρ[i]? = some (some l) → s.ρ[i]? = some (some l) ∧ σ'[i]? = σ[i]?) : Rel G F Z s' σ' H := by
  obtain ⟨ρ', g'⟩ := s'
  simp only at hg hl k
  subst hg
  refine ⟨r.z, r.f, r.zb, hl.symm, fun i d h => ?_, fun i l h ol => ?_, fun i j l m a n h1 ol h2 om h3 h4 => ?_, r.j, r.zf, r.ff, r.fl⟩
  · obtain ⟨h1, h2⟩ := k i _ h
    obtain ⟨v, h3, h4⟩ := r.loc i d h1
    exact ⟨v, h2.trans h3, h4⟩
  · obtain ⟨h1, h2⟩ := k i _ h
    obtain ⟨a, vs, h3, h4⟩ := r.ownL i l h1 ol
    exact ⟨a, vs, h2.trans h3, h4⟩
  · obtain ⟨k1, k2⟩ := k i _ h1
    obtain ⟨k3, k4⟩ := k j _ h2
    exact r.injL i j l m a n k1 ol k3 om (k2 ▸ h3) (k4 ▸ h4)
theorem Rel.wiped (r : Rel G F Z s σ H) (vs : List Nat) : Rel G F Z (s.wipe vs) (wipe σ vs) H :=
  r.resl rfl (by show (wipeL s.ρ vs).length = _; rw [wipeL_length, wipe_length, r.len]) fun i l h => by
    obtain ⟨h1, h2⟩ := wipeL_some (show (wipeL s.ρ vs)[i]? = some (some l) from h)
    exact ⟨h1, wipe_out h2⟩
theorem Rel.backed (r1 : Rel G F Z1 s1 σ H1) {vs : List Nat} (r : Rel G F Z s (wipe σ vs) H) (k : Same Z1 Z) : Rel G F Z (s1.back vs s) σ H := by
  have out : ∀ (i : Nat) l, (s1.back vs s).ρ[i]? = some (some l) → (i ∈ vs ∧ ∃ d, l = .val d ∧ s1.ρ[i]? = some (some (.val d))) ∨ (i ∉ vs ∧ s.ρ[i]? = some (some l)) := fun i l h => by
    simp only [S.back, List.getElem?_mapIdx] at h
    cases q : s.ρ[i]? with
    | none => rw [q] at h; cases h
    | some o =>
      rw [q] at h
      simp only [Option.map_some, Option.some.injEq] at h
      by_cases hi : i ∈ vs
      · rw [if_pos hi] at h
        left
        refine ⟨hi, ?_⟩
        unfold keepVal at h
        split at h
        · rename_i d hd; cases h; exact ⟨d, rfl, hd⟩
        · cases h
      · rw [if_neg hi] at h; subst h; exact .inr ⟨hi, rfl⟩
  have hl : σ.length = s.ρ.length := by rw [← r.len, wipe_length]
  refine ⟨r.z, r.f, r.zb, by simpa [S.back] using hl, fun i d h => ?_, fun i l h ol => ?_, fun i j l m a n h1 ol h2 om h3 h4 => ?_, r.j, r.zf, r.ff, r.fl⟩
  · rcases out i _ h with ⟨_, d', e, h1⟩ | ⟨hi, h1⟩
    · cases e
      obtain ⟨v, h2, h3⟩ := r1.loc i d h1
      exact ⟨v, h2, At.mono k _ _ h3⟩
    · obtain ⟨v, h2, h3⟩ := r.loc i d h1
      exact ⟨v, by rw [← wipe_out hi]; exact h2, h3⟩
  · rcases out i _ h with ⟨_, d', e, h1⟩ | ⟨hi, h1⟩
    · subst e; cases ol
    · obtain ⟨a, ws, h2, h3⟩ := r.ownL i l h1 ol
      exact ⟨a, ws, by rw [← wipe_out hi]; exact h2, h3⟩
  · rcases out i _ h1 with ⟨_, d', e, _⟩ | ⟨hi, k1⟩
    · subst e; cases ol
    · rcases out j _ h2 with ⟨_, d', e, _⟩ | ⟨hj, k2⟩
      · subst e; cases om
      · exact r.injL i j l m a n k1 ol k2 om (by rw [wipe_out hi]; exact h3) (by rw [wipe_out hj]; exact h4)
end

def qYes : PTx γ := fun s R => R true s
abbrev QTs (X : Cx) (G : GP γ) (ifs : List Expr) (t : PTx γ) : Prop := PTs X ifs (lT G t)
theorem PTs.imp {X : Cx} {ifs : List Expr} {t t' : TT} (h : PTs X ifs t) (k : ∀ σ H Q, t' σ H Q → t σ H Q) : PTs X ifs t' := ⟨fun pins s σ H Q I w => h.run pins s σ H Q I (k _ _ _ w)⟩
theorem qts_nil {X : Cx} {G : GP γ} : QTs X G [] (qYes : PTx γ) := PTs.imp pts_nil fun σ H Q ⟨F, Z, s, R, r, t, q⟩ => q true s Z H t (Same.refl _) r
theorem qts_one {X : Cx} {G : GP γ} {c : Expr} {t : PTx γ} (h : QT X G c t) : QTs X G [c] t := pts_one h

def lcB (tg : Tg) (vs : List Nat) (tt : PTx γ) (te : PEx γ) (R : List D → S γ → Prop) (ds : List D) (s1 : S γ) : Prop := ∃ I : Nat → List D → S γ → Prop, (∃ s0, Wk (s1.wipe vs) s0 ∧ I 0 [] s0) ∧
  (∀ i d acc s, ds[i]? = some d → I i acc s → qPut tg d s fun s2 => tt s2 fun b s3 => Br b (te s3 fun y s4 => acc.length < sizeLine ∧ ∃ s5, Wk (s4.wipe vs) s5 ∧ I (i + 1) (acc ++ [y]) s5) (∃ s5, Wk (s3.wipe vs) s5 ∧ I (i + 1) acc s5)) ∧
  ∀ acc s, I ds.length acc s → R acc (s1.back vs s)
def qLc (ti : PAx γ) (tg : Tg) (vs : List Nat) (tt : PTx γ) (te : PEx γ) : PAx γ := fun s R => ti s fun ds s1 => lcB tg vs tt te R ds s1

def Fra.bar (F : Fra) (D : Addr) (o : HO) : Fra := ⟨upd F.F D o, fun a => F.B a ∨ a = D, fun a h => by
  by_cases e : a = D
  · subst e; exact ⟨o, upd_same⟩
  · rw [upd_ne e]
    rcases h with h | h
    · exact F.bf a h
    · exact absurd h e⟩

section
variable {G : GP γ} {F : Fra} {Z : Hp} {s : S γ} {σ : St} {H : Hp}
theorem Rel.bar (r : Rel G F Z s σ H) {D : Addr} {o : HO} (hD : H D = some o) (hz : Z D = none) (hg : ¬ G.foot s.g D) (ho : Nob s σ D) : Rel G (F.bar D o) Z s σ H := by
  refine ⟨r.z, fun a u e => ?_, fun a h => ?_, r.len, r.loc, fun i l h ol => ?_, r.injL, r.j, r.zf, fun a h => ?_, r.fl⟩
  · by_cases hb : a = D
    · subst hb
      have e' : some o = some u := by rw [← e]; exact upd_same.symm
      rw [hD, e']
    · exact r.f a u (by rw [← e]; exact (upd_ne hb).symm)
  · rcases h with h | h
    · exact r.zb a h
    · rw [h]; exact hz
  · obtain ⟨a, vs, h1, h2, h3, h4, h5⟩ := r.ownL i l h ol
    have : a ≠ D := fun e => ho i l h ol (by rw [← e]; exact h1)
    exact ⟨a, vs, h1, h2, h3, h4, by show upd F.F D o a = none; rw [upd_ne this]; exact h5.1, h5.2⟩
  · have : a ≠ D := fun e => hg (by rw [← e]; exact h)
    show upd F.F D o a = none
    rw [upd_ne this]; exact r.ff a h
theorem Rel.unbar {D : Addr} {o o' : HO} (hF : F.F D = none) (r : Rel G (F.bar D o) Z s σ H) : H D = some o ∧ Z D = none ∧ ¬ G.foot s.g D ∧ Nob s σ D ∧ Rel G F Z s σ (upd H D o') := by
  have e1 : H D = some o := r.f D o upd_same
  have e2 : Z D = none := r.zb D (.inr rfl)
  have e3 : ¬ G.foot s.g D := fun h => by
    have z : upd F.F D o D = none := r.ff D h
    rw [upd_same] at z; cases z
  have e4 : Nob s σ D := fun i l h ol e => by
    obtain ⟨a, vs, h1, h2, h3, h4, h5, _⟩ := r.ownL i l h ol
    rw [h1] at e
    cases e
    have z : upd F.F D o D = none := h5
    rw [upd_same] at z; cases z
  refine ⟨e1, e2, e3, e4, fun a u e => ?_, fun a u e => ?_, fun a h => r.zb a (.inl h), r.len, r.loc, fun i l h ol => ?_, r.injL, G.stay _ _ _ r.j fun a h => ?_, r.zf, fun a h => ?_, r.fl⟩
  · rw [upd_ne (ne_of_none e e2)]; exact r.z a u e
  · have n : a ≠ D := ne_of_none e hF
    rw [upd_ne n]; exact r.f a u (by show upd F.F D o a = some u; rw [upd_ne n]; exact e)
  · obtain ⟨a, vs, h1, h2, h3, h4, h5⟩ := r.ownL i l h ol
    have n : a ≠ D := fun e => e4 i l h ol (by rw [← e]; exact h1)
    refine ⟨a, vs, h1, by rw [upd_ne n]; exact h2, h3, h4, ?_, h5.2⟩
    have z : upd F.F D o a = none := h5.1
    rw [upd_ne n] at z; exact z
  · exact upd_ne fun e => e3 (by rw [← e]; exact h)
  · have n : a ≠ D := fun e => e3 (by rw [← e]; exact h)
    have z : upd F.F D o a = none := r.ff a h
    rw [upd_ne n] at z; exact z
end

theorem llc {K : PySem.W.Frag} {G : GP γ} {ti : PAx γ} {tg : Tg} {vs : List Nat} {tt : PTx γ} {te : PEx γ} (hj : ∀ j ∈ tg.js, j ∈ vs) {σ : St} {H : Hp} {Q : VK} (h : lF G (qLc ti tg vs tt te) σ H Q) :
    tLc (lI G ti) (lG G tg.js (qPut tg)) (lT G tt) (lE G te) vs σ H Q := by
  obtain ⟨F, Z, s, R, r, t, q⟩ := h
  refine ⟨F, Z, s, _, r, t, fun ds s1 Z1 H1 J w1 k1 r1 wJ D hD => ?_⟩
  obtain ⟨I, ⟨s0, wk0, i0⟩, turn, done⟩ := w1
  have FD : F.F D = none := r1.f.free hD
  refine ⟨fun i m H => m = ds.length - i ∧ i ≤ ds.length ∧ ∃ Z' s' acc av, Same Z1 Z' ∧ Rel G (F.bar D (.lst av)) Z' s' (wipe σ vs) H ∧ Ats G.K Z' acc av ∧ I i acc s', ⟨ds.length, rfl, Nat.zero_le _, ?_⟩, ?_⟩
  · obtain ⟨f1, f2, f3, f4⟩ := r1.fresh hD
    have r2 := (r1.grow (same_upd (o := HO.lst []) hD)).bar upd_same f1 f3 f4
    exact ⟨Z1, s0, [], [], Same.refl _, (r2.wiped vs).weak wk0, rfl, i0⟩
  · rintro i m H2 ⟨hm, hi, Z2, s2, acc, av, k2, r2, a2, i2⟩
    obtain ⟨go, stop⟩ := wJ i Z2 H2 k2 r2.z
    by_cases hlt : i < ds.length
    · obtain ⟨g1, y1⟩ := go ds[i] (List.getElem?_eq_getElem hlt)
      refine .inr ⟨g1, fun H' => ∃ Z' s' acc av, Same Z1 Z' ∧ Rel G (F.bar D (.lst av)) Z' s' (wipe σ vs) H' ∧ Ats G.K Z' acc av ∧ I (i + 1) acc s', fun H' h => ⟨ds.length - (i + 1), by omega, rfl, hlt, h⟩, fun x H3 y => ?_⟩
      obtain ⟨Z3, x3, a3⟩ := y1 x H3 y
      have r3 := r2.ext x3
      have k3 := k2.trans x3.zz
      refine ⟨F.bar D (.lst av), Z3, s2, ds[i], _, r3, a3, turn i ds[i] acc s2 (List.getElem?_eq_getElem hlt) i2, fun s4 Z4 σ4 H4 w4 k4 r4 e4 o4 l4 => ?_⟩
      have we : wipe σ4 vs = wipe σ vs := by
        refine List.ext_getElem? fun j => ?_
        by_cases hjv : j ∈ vs
        · have n1 : ∀ (τ : St), τ.length = σ.length → (wipe τ vs)[j]? = if j < σ.length then some none else none := fun τ hl => by
            by_cases hlt : j < σ.length
            · rw [if_pos hlt]
              have hlt' : j < (wipe τ vs).length := by rw [wipe_length, hl]; exact hlt
              rw [List.getElem?_eq_getElem hlt']
              congr 1
              cases e : (wipe τ vs)[j] with
              | none => rfl
              | some v => exact absurd hjv (wipe_some (show (wipe τ vs)[j]? = some (some v) by rw [List.getElem?_eq_getElem hlt', e])).2
            · rw [if_neg hlt, List.getElem?_eq_none (by rw [wipe_length, hl]; omega)]
          rw [n1 σ4 (by rw [l4, wipe_length]), n1 σ rfl]
        · rw [wipe_out hjv, o4 j (fun h => hjv (hj j h))]
      refine ⟨we, F.bar D (.lst av), Z4, s4, _, r4, w4, fun b s5 Z5 H5 w5 k5 r5 => ?_⟩
      cases b with
      | true =>
        refine iteT ⟨F.bar D (.lst av), Z5, s5, _, r5, w5.1 rfl, fun y s6 Z6 v H6 w6 k6 r6 a6 => ?_⟩
        obtain ⟨w6, s7, wk7, i7⟩ := w6
        obtain ⟨e1, e2, e3, e4', r7⟩ := r6.unbar (o' := .lst (av ++ [v])) FD
        have kk := ((x3.zz.trans k4).trans k5).trans k6
        refine ⟨av, e1, by rw [a2.len]; exact w6, Z6, s7, acc ++ [y], av ++ [v], k2.trans kk, ?_, (Ats.mono kk _ _ a2).append ⟨v, [], rfl, a6, rfl⟩, i7⟩
        have r8 := r7.bar (o := .lst (av ++ [v])) upd_same e2 e3 e4'
        have r9 := r8.wiped vs
        rw [we] at r9
        exact r9.weak wk7
      | false =>
        refine iteF ?_
        obtain ⟨s7, wk7, i7⟩ := w5.2 rfl
        have kk := (x3.zz.trans k4).trans k5
        have r9 := r5.wiped vs
        rw [we] at r9
        exact ⟨Z5, s7, acc, av, k2.trans kk, r9.weak wk7, Ats.mono kk _ _ a2, i7⟩
    · have e : i = ds.length := by omega
      subst e
      obtain ⟨e1, e2, e3, e4, r7⟩ := r2.unbar (o' := .lst av) FD
      have hu : upd H2 D (.lst av) = H2 := by
        funext b
        by_cases hb : b = D
        · subst hb; rw [upd_same, e1]
        · rw [upd_ne hb]
      rw [hu] at r7
      refine .inl ⟨stop rfl, q acc _ Z2 D av H2 (done acc s2 i2) (k1.trans k2) (r1.backed r7 k2) e1 a2 e2 FD (by exact e3) fun j l h ol => ?_⟩
      -- no list of one's own is the new one
      intro e
      have r8 := r1.backed r7 k2
      obtain ⟨a, ws, h1, h2, h3, h4, h5, h6⟩ := r8.ownL j l h ol
      rw [h1] at e
      cases e
      simp only [S.back, List.getElem?_mapIdx] at h
      cases q' : s2.ρ[j]? with
      | none => rw [q'] at h; cases h
      | some o =>
        rw [q'] at h
        simp only [Option.map_some, Option.some.injEq] at h
        by_cases hjv : j ∈ vs
        · rw [if_pos hjv] at h
          unfold keepVal at h
          split at h
          · cases h; cases ol
          · cases h
        · rw [if_neg hjv] at h
          subst h
          exact e4 j l q' ol (by rw [wipe_out hjv]; exact h1)

section
variable {X : Cx} {G : GP γ} {elt tg iter : Expr} {ifs : List Expr} {scope : Scope} {own : List (Str × Nat)} {pos : Pos} {ti : PAx γ} {t : Tg} {tt : PTx γ} {te : PEx γ}
theorem qf_lc (hc : X.calm = true) (hN : X.N.Nodup) (hi : QI X G tg iter ti) (ok : BlkOk X.N X.env.scope scope own) (hj : ∀ j ∈ t.js, j ∈ own.map (·.2))
    (hg : ∀ (s : Shared) (H : Hp) (C : Addr) (cl : List (Str × Addr)) (fp : List Addr), QG' (X.blk s H scope (compEnvC scope cl C X.env) fp) G tg t)
    (ht : ∀ (s : Shared) (H : Hp) (C : Addr) (cl : List (Str × Addr)) (fp : List Addr), QTs (X.blk s H scope (compEnvC scope cl C X.env) fp) G ifs tt)
    (he : ∀ (s : Shared) (H : Hp) (C : Addr) (cl : List (Str × Addr)) (fp : List Addr), QE (X.blk s H scope (compEnvC scope cl C X.env) fp) G elt te) (hs : ∀ x, foldedSetIterable iter X.env x = pure x := by intro _; rfl) :
    QF X G (.ListComp elt [⟨tg, iter, ifs, 0⟩] scope pos) (qLc ti t (own.map (·.2)) tt te) :=
  PE.imp (pe_lc hc hN hi ok hg ht he hs) fun _ _ _ h => llc (K := X.K) hj h
theorem qs_lc {i : Nat} {y : Str} {py spos : Pos} (hc : X.calm = true) (hN : X.N.Nodup) (hy : X.N[i]? = some y) (hyl : X.env.scope.names.lookup y = some .local)
    (hsw : swapsWith (.ListComp elt [⟨tg, iter, ifs, 0⟩] scope pos) (some (.Name y py)) spos.line X.env = pure true) (hi : QI X G tg iter ti) (ok : BlkOk X.N X.env.scope scope own) (hj : ∀ j ∈ t.js, j ∈ own.map (·.2))
    (hg : ∀ (s : Shared) (H : Hp) (C : Addr) (cl : List (Str × Addr)) (fp : List Addr), QG' (X.blk s H scope (compEnvC scope cl C X.env) fp) G tg t)
    (ht : ∀ (s : Shared) (H : Hp) (C : Addr) (cl : List (Str × Addr)) (fp : List Addr), QTs (X.blk s H scope (compEnvC scope cl C X.env) fp) G ifs tt)
    (he : ∀ (s : Shared) (H : Hp) (C : Addr) (cl : List (Str × Addr)) (fp : List Addr), QE (X.blk s H scope (compEnvC scope cl C X.env) fp) G elt te) (hs : ∀ x, foldedSetIterable iter X.env x = pure x := by intro _; rfl) :
    QS X G (.Assign [.Name y py] (.ListComp elt [⟨tg, iter, ifs, 0⟩] scope pos) spos) (qAsg (qSet (qLc ti t (own.map (·.2)) tt te)) i) := by
  refine PS.imp (ps_setLc hc hN hy hyl hsw hi ok hg ht he hs) fun De σ H ⟨F, Z, s, E, r, w, n, _⟩ => ?_
  show tLc _ _ _ _ _ σ H _
  refine llc (K := X.K) hj ⟨F, Z, s, _, r, w, fun ds s1 Z1 a vs H1 t1 k1 r1 ha a1 hz hf hg ho => ?_⟩
  have k := same_upd (o := HO.lst vs) hz
  exact n _ (upd Z1 a (.lst vs)) _ H1 t1 (k1.trans k) ((r1.settle ha hz hg (Fra.nb hf) ho).put ⟨a, vs, rfl, upd_same, Ats.mono k _ _ a1⟩)
end

def startL (n : Nat) (ds : List D) : List (Option L) := ds.map (fun d => some (.val d)) ++ List.replicate (n - ds.length) none
theorem start_at {K : PySem.W.Frag} {Z : Hp} {N : List Str} {ds : List D} {vs : List V} (h : Ats K Z ds vs) {i : Nat} {l : L} (e : (startL N.length ds)[i]? = some (some l)) : ∃ d, l = .val d ∧ ∃ v, (L2.start N vs)[i]? = some (some v) ∧ At K Z d v := by
  unfold startL at e
  by_cases hi : i < ds.length
  · rw [List.getElem?_append_left (by simpa using hi), List.getElem?_map] at e
    cases q : ds[i]? with
    | none => rw [q] at e; cases e
    | some d =>
      rw [q] at e
      simp only [Option.map_some, Option.some.injEq] at e
      obtain ⟨v, h1, h2⟩ := h.get q
      refine ⟨d, e.symm, v, ?_, h2⟩
      unfold L2.start
      rw [List.getElem?_append_left (by rw [List.length_map, h.len]; exact hi), List.getElem?_map, h1]; rfl
  · rw [List.getElem?_append_right (by simpa using hi), List.getElem?_replicate] at e
    split at e <;> cases e
section
variable {P : Program} {w : World} {K : PySem.W.Frag} {mg : Str → Option Value} {base : Heap}
abbrev Fn (K : PySem.W.Frag) (x qual : Str) (st : Stmt) (f : Addr) (fd : FuncData) : Prop := FunD K x qual (defArgs st) (defBody st) (defScope st) [] [] f fd
theorem Fn.ok {x qual : Str} {st : Stmt} {f : Addr} {fd : FuncData} {N ps : List Str} {k : Nat} {sp : Sp} (F : Fn K x qual st f fd) (S : FnScope N ps (defScope st)) (len : ∀ vs H Q E, sp vs H Q E → vs.length = ps.length)
    (hbody : ∀ (cdv : Value) (A : Around) (outer : List Env) (s : Shared) (H : Hp) (vs : List V) (Q : VK) (E : XK), Room k (A.deeper (envOfC qual (defScope st) s.heap.objs.size f cdv)) → sp vs H Q E →
      ∃ t, PSs (cxOf CX0 P w K mg base N qual (defScope st) f cdv A outer s H E).nox (defBody st) t ∧ t { nx := fun _ H' => Q .non H', rt := Q } (L2.start N vs) H) : FnOk P w K mg base CX0 (k + 1) f fd ps sp :=
  FunD.ok F S len fun cdv A outer s H vs Q E hr h => by
    obtain ⟨t, h1, h2⟩ := hbody cdv A outer s H vs Q E hr h
    exact ⟨t, PSs.nox h1, h2⟩
theorem okP {x qual : Str} {st : Stmt} {f : Addr} {fd : FuncData} {N ps : List Str} {k : Nat} (F : Fn K x qual st f fd) (S : FnScope N ps (defScope st)) {fs : Spec0} (len : ∀ ds R, fs ds R → ds.length = ps.length)
    (body : ∃ t : PSx Unit, (∀ (cdv : Value) (A : Around) (outer : List Env) (s : Shared) (H : Hp) (E : XK), Room k (A.deeper (envOfC qual (defScope st) s.heap.objs.size f cdv)) →
      QSs (cxOf CX0 P w K mg base N qual (defScope st) f cdv A outer s H E).nox (none0 K) (defBody st) t) ∧ ∀ ds R, fs ds R → t { nx := fun _ => R .non, rt := fun d _ => R d } ⟨startL N.length ds, ()⟩) : FnOk P w K mg base CX0 (k + 1) f fd ps (spP K fs) := by
  refine F.ok S (fun vs H Q E h => ?_) (fun cdv A outer s H vs Q E hr h => ?_)
  · obtain ⟨Z, ds, R, _, a, h, _⟩ := h
    rw [a.len]; exact len _ _ h
  · obtain ⟨t, hb, hp⟩ := body
    refine ⟨_, hb cdv A outer s H E hr, ?_⟩
    obtain ⟨Z, ds, R, k, a, h, q⟩ := h
    have hl : ps.length ≤ N.length := by have := congrArg List.length S.pre; rw [List.length_take] at this; omega
    have hd := len _ _ h
    refine ⟨⟨H, fun b => H b ≠ none ∧ Z b = none, fun b hb => Option.ne_none_iff_exists'.mp hb.1⟩, Z, _, _, ?_, hp ds R h, ?_, ?_, ?_, ?_⟩
    · refine ⟨k, Same.refl _, fun b hb => hb.2, ?_, fun i d e => ?_, fun i l e ol => ?_, fun i j l m b n e1 o1 e2 => ?_, trivial, fun b z => False.elim z, fun b z => False.elim z, fun _ _ z => by cases z⟩
      · unfold L2.start startL
        simp only [List.length_append, List.length_map, List.length_replicate, a.len]
      · obtain ⟨d', e', v, h1, h2⟩ := start_at a e
        cases e'
        exact ⟨v, h1, h2⟩
      · obtain ⟨d', e', _⟩ := start_at a e
        subst e'; cases ol
      · obtain ⟨d', e', _⟩ := start_at a e1
        subst e'; cases o1
    · intro s' Z' σ' H' q' k' r'
      exact q .non Z' .non H' q' k' r'.z r'.f (fun b o e n => by
        cases hb : H b with
        | none => rfl
        | some u => have := r'.zb b ⟨by rw [hb]; simp, n⟩; rw [e] at this; cases this) rfl
    · intro d s' Z' σ' v H' q' k' r' a'
      exact q d Z' v H' q' k' r'.z r'.f (fun b o e n => by
        cases hb : H b with
        | none => rfl
        | some u => have := r'.zb b ⟨by rw [hb]; simp, n⟩; rw [e] at this; cases this) a'
    · intro s' Z' σ' H' q'; exact q'.elim
    · intro s' Z' σ' H' q'; exact q'.elim
theorem liftG {G : GP γ} {N ps : List Str} {fs : Spec γ} {t : PSx γ} (hl : ps.length ≤ N.length) (len : ∀ ds g R, fs ds g R → ds.length = ps.length) (hp : ∀ ds g R, fs ds g R → t { nx := fun s => R .non s.g, rt := R } ⟨startL N.length ds, g⟩)
    (grow : ∀ g g' : γ, ∀ a, G.foot g' a → G.foot g a) (hfl : ∀ a, G.fl a = none) {vs : List V} {H : Hp} {Q : VK} {E : XK} (h : spG G fs vs H Q E) : lS G t { nx := fun _ H' => Q .non H', rt := Q } (L2.start N vs) H := by
  obtain ⟨Z, ds, g, R, k, a, hj, hzf, h, q⟩ := h
  have hd := len _ _ _ h
  classical
  have hF : ∀ (b : Addr) (o : HO), (if G.foot g b then none else H b) = some o → H b = some o ∧ ¬ G.foot g b := fun b o e => by
    by_cases hb : G.foot g b
    · rw [if_pos hb] at e; cases e
    · rw [if_neg hb] at e; exact ⟨e, hb⟩
  refine ⟨⟨fun b => if G.foot g b then none else H b, fun b => H b ≠ none ∧ Z b = none ∧ ¬ G.foot g b, fun b hb => ?_⟩, Z, _, _, ?_, hp ds g R h, ?_, ?_, ?_, ?_⟩
  · simp only [if_neg hb.2.2]; exact Option.ne_none_iff_exists'.mp hb.1
  · refine ⟨k, fun b o e => (hF b o e).1, fun b hb => hb.2.1, ?_, fun i d e => ?_, fun i l e ol => ?_, fun i j l m b n e1 o1 e2 => ?_, hj, hzf, fun b z => if_pos z, fun b _ z => by rw [hfl b] at z; cases z⟩
    · unfold L2.start startL
      simp only [List.length_append, List.length_map, List.length_replicate, a.len]
    · obtain ⟨d', e', v, h1, h2⟩ := start_at a e
      cases e'
      exact ⟨v, h1, h2⟩
    · obtain ⟨d', e', _⟩ := start_at a e
      subst e'; cases ol
    · obtain ⟨d', e', _⟩ := start_at a e1
      subst e'; cases o1
  all_goals
    have fin : ∀ (d : D) (s' : Pm.S γ) (Z' : Hp) (σ' : St) (v : V) (H' : Hp), R d s'.g → Same Z Z' → Rel G ⟨fun b => if G.foot g b then none else H b, fun b => H b ≠ none ∧ Z b = none ∧ ¬ G.foot g b, fun b hb => by simp only [if_neg hb.2.2]; exact Option.ne_none_iff_exists'.mp hb.1⟩ Z' s' σ' H' → At G.K Z' d v → Q v H' :=
      fun d s' Z' σ' v H' q' k' r' a' => q d s'.g Z' v H' q' k' r'.z (fun b o e n => r'.f b o (by simp only [if_neg n]; exact e)) (fun b o e n => by
        cases hb : H b with
        | none => rfl
        | some u =>
          by_cases hf : G.foot g b
          · have := r'.zf b (by first | exact grow _ _ _ hf | exact hf); rw [e] at this; cases this
          · have := r'.zb b ⟨by rw [hb]; simp, n, hf⟩; rw [e] at this; cases this) r'.j (fun b hb => ⟨r'.zf b hb, .inl (grow _ _ b hb)⟩) a'
  · intro s' Z' σ' H' q' k' r'
    exact fin .non s' Z' σ' .non H' q' k' r' rfl
  · exact fin
  · intro s' Z' σ' H' q'; exact q'.elim
  · intro s' Z' σ' H' q'; exact q'.elim
theorem okG {G : GP γ} (hK : G.K = K) {x qual : Str} {st : Stmt} {f : Addr} {fd : FuncData} {N ps : List Str} {k : Nat} (F : Fn K x qual st f fd) (S : FnScope N ps (defScope st)) {fs : Spec γ} (len : ∀ ds g R, fs ds g R → ds.length = ps.length)
    (body : ∃ t : PSx γ, (∀ (cdv : Value) (A : Around) (outer : List Env) (s : Shared) (H : Hp) (E : XK), Room k (A.deeper (envOfC qual (defScope st) s.heap.objs.size f cdv)) →
      QSs (cxOf CX0 P w K mg base N qual (defScope st) f cdv A outer s H E).nox G (defBody st) t) ∧ ∀ ds g R, fs ds g R → t { nx := fun s => R .non s.g, rt := R } ⟨startL N.length ds, g⟩)
    (grow : ∀ g g' : γ, ∀ a, G.foot g' a → G.foot g a) (hfl : ∀ a, G.fl a = none := by intro _; rfl) : FnOk P w K mg base CX0 (k + 1) f fd ps (spG G fs) := by
  subst hK
  refine F.ok S (fun vs H Q E h => ?_) (fun cdv A outer s H vs Q E hr h => ?_)
  · obtain ⟨Z, ds, g, R, _, a, _, _, h, _⟩ := h
    rw [a.len]; exact len _ _ _ h
  · obtain ⟨t, hb, hp⟩ := body
    exact ⟨_, hb cdv A outer s H E hr, liftG (ps := ps) (by have := congrArg List.length S.pre; rw [List.length_take] at this; omega) len hp grow hfl h⟩
end
end Pm
set_option Elab.async false
set_option linter.all false
set_option maxRecDepth 100000
set_option maxHeartbeats 1000000
set_option autoImplicit false
namespace Pm
open PySem PySem.Spec
open PyProof.Rows hiding St
open L2
variable {γ : Type}

def keyPy : Key → PyData
  | .inl i => .int i
  | .inr x => .str x
mutual
def D.py : D → PyData
  | .non => .none
  | .bl b => .bool b
  | .int i => .int i
  | .str x => .str x
  | .lst xs => .list (D.pys xs)
  | .tup xs => .tuple (D.pys xs)
  | .dct ks xs => .dict ((ks.map keyPy).zip (D.pys xs))
  | .obj _ => .none
def D.pys : List D → List PyData
  | [] => []
  | d :: ds => d.py :: D.pys ds
end
mutual
def D.pln : D → Bool
  | .non => true
  | .bl _ => true
  | .int _ => true
  | .str x => PyData.strOk x
  | .lst xs => D.plns xs
  | .tup xs => D.plns xs
  | .dct _ _ => false
  | .obj _ => false
def D.plns : List D → Bool
  | [] => true
  | d :: ds => d.pln && D.plns ds
end
mutual
def D.dep : D → Nat
  | .lst xs => D.deps xs + 1
  | .tup xs => D.deps xs + 1
  | .dct _ xs => D.deps xs + 1
  | _ => 0
def D.deps : List D → Nat
  | [] => 0
  | d :: ds => max d.dep (D.deps ds)
end
mutual
def D.eqv : D → D → Bool
  | .non, .non => true
  | .bl a, .bl b => a == b
  | .bl a, .int j => (if a then 1 else 0) == j
  | .int i, .bl b => i == (if b then 1 else 0)
  | .int i, .int j => i == j
  | .str x, .str y => x == y
  | .lst xs, .lst ys => D.eqvs xs ys
  | .tup xs, .tup ys => D.eqvs xs ys
  | _, _ => false
def D.eqvs : List D → List D → Bool
  | [], [] => true
  | x :: xs, y :: ys => D.eqv x y && D.eqvs xs ys
  | _, _ => false
end
mutual
theorem eqv_py : ∀ (d e : D), d.pln = true → e.pln = true → PyData.eqv d.py e.py = D.eqv d e
  | .lst xs, e, h, h' => by
    cases e <;> simp_all only [D.pln, D.py, D.eqv, PyData.eqv, Bool.false_eq_true]
    exact eqvs_py xs _ h h'
  | .tup xs, e, h, h' => by
    cases e <;> simp_all only [D.pln, D.py, D.eqv, PyData.eqv, Bool.false_eq_true]
    exact eqvs_py xs _ h h'
  | .non, e, h, h' => by cases e <;> simp_all [D.pln, D.py, D.eqv, PyData.eqv]
  | .bl a, e, h, h' => by cases e <;> simp_all [D.pln, D.py, D.eqv, PyData.eqv]
  | .int a, e, h, h' => by cases e <;> simp_all [D.pln, D.py, D.eqv, PyData.eqv]
  | .str a, e, h, h' => by cases e <;> simp_all [D.pln, D.py, D.eqv, PyData.eqv]
  | .dct _ _, e, h, h' => by simp [D.pln] at h
  | .obj _, e, h, h' => by simp [D.pln] at h
theorem eqvs_py : ∀ (xs ys : List D), D.plns xs = true → D.plns ys = true → PyData.eqvAll (D.pys xs) (D.pys ys) = D.eqvs xs ys
  | [], [], _, _ => by simp [D.pys, D.eqvs, PyData.eqvAll]
  | [], _ :: _, _, _ => by simp [D.pys, D.eqvs, PyData.eqvAll]
  | _ :: _, [], _, _ => by simp [D.pys, D.eqvs, PyData.eqvAll]
  | x :: xs, y :: ys, h, h' => by
    simp only [D.plns, Bool.and_eq_true] at h h'
    simp only [D.pys, D.eqvs, PyData.eqvAll]
    rw [eqv_py x y h.1 h'.1, eqvs_py xs ys h.2 h'.2]
end
mutual
theorem canLay_py : ∀ (d : D), d.pln = true → d.py.canLay0 = true
  | .lst xs, h => by simp only [D.pln] at h; simp only [D.py, PyData.canLay0]; exact canLays_py xs h
  | .tup xs, h => by simp only [D.pln] at h; simp only [D.py, PyData.canLay0]; exact canLays_py xs h
  | .non, h => rfl
  | .bl _, h => rfl
  | .int _, h => rfl
  | .str _, h => by simp only [D.pln] at h; simp only [D.py, PyData.canLay0]; exact h
  | .dct _ _, h => by simp [D.pln] at h
  | .obj _, h => by simp [D.pln] at h
theorem canLays_py : ∀ (ds : List D), D.plns ds = true → PyData.canLayAll0 (D.pys ds) = true
  | [], _ => rfl
  | d :: ds, h => by
    simp only [D.plns, Bool.and_eq_true] at h
    simp only [D.pys, PyData.canLayAll0, Bool.and_eq_true]
    exact ⟨canLay_py d h.1, canLays_py ds h.2⟩
end
mutual
theorem dep_py : ∀ (d : D), d.pln = true → d.py.depth = d.dep
  | .lst xs, h => by simp only [D.pln] at h; simp only [D.py, PyData.depth, D.dep, deps_py xs h]
  | .tup xs, h => by simp only [D.pln] at h; simp only [D.py, PyData.depth, D.dep, deps_py xs h]
  | .non, h => by simp [D.py, PyData.depth, D.dep]
  | .bl _, h => by simp [D.py, PyData.depth, D.dep]
  | .int _, h => by simp [D.py, PyData.depth, D.dep]
  | .str _, h => by simp [D.py, PyData.depth, D.dep]
  | .dct _ _, h => by simp [D.pln] at h
  | .obj _, h => by simp [D.pln] at h
theorem deps_py : ∀ (ds : List D), D.plns ds = true → PyData.depthAll (D.pys ds) = D.deps ds
  | [], _ => by simp [D.pys, PyData.depthAll, D.deps]
  | d :: ds, h => by
    simp only [D.plns, Bool.and_eq_true] at h
    simp only [D.pys, PyData.depthAll, D.deps, dep_py d h.1, deps_py ds h.2]
end
section
variable {K : PySem.W.Frag} {Z H : Hp}
mutual
theorem At.dp (k : Same Z H) : ∀ (d : D) (v : V), At K Z d v → d.pln = true → Dp K H v d.py
  | .lst xs, v, h, p => by
    simp only [At] at h; simp only [D.pln] at p; simp only [D.py]
    obtain ⟨a, vs, rfl, h2, h3⟩ := h
    exact .lst (.inl (.inl (k _ _ h2))) (Ats.dp k xs vs h3 p)
  | .tup xs, v, h, p => by
    simp only [At] at h; simp only [D.pln] at p; simp only [D.py]
    obtain ⟨a, vs, rfl, h2, h3⟩ := h
    exact .tup (seqT k h2) (Ats.dp k xs vs h3 p)
  | .non, v, h, p => by simp only [At] at h; subst h; exact .non
  | .bl b, v, h, p => by simp only [At] at h; subst h; exact .bl b
  | .int i, v, h, p => by simp only [At] at h; subst h; exact .int i
  | .str x, v, h, p => by simp only [At] at h; subst h; exact .str x
  | .dct _ _, _, h, p => by simp [D.pln] at p
  | .obj _, _, h, p => by simp [D.pln] at p
theorem Ats.dp (k : Same Z H) : ∀ (ds : List D) (vs : List V), Ats K Z ds vs → D.plns ds = true → DpAll K H vs (D.pys ds)
  | [], vs, h, p => by simp only [Ats] at h; subst h; exact .nil
  | d :: ds, vs, h, p => by
    simp only [Ats] at h; simp only [D.plns, Bool.and_eq_true] at p; simp only [D.pys]
    obtain ⟨w, ws, rfl, h2, h3⟩ := h
    exact .cons (At.dp k d w h2 p.1) (Ats.dp k ds ws h3 p.2)
end
end

theorem dk {K : PySem.W.Frag} {Z H : Hp} {R : DK} {Q : VK} (q : ∀ z Z' v H', R z → Ext Z H Z' H' → At K Z' z v → Q v H') (k : Same Z H) {d : D} {v : V} (h : R d) (a : At K Z d v) : Q v H := q d Z v H h (Ext.refl k) a

section
variable {X : Cx}
def MulOk (i j : Int) : Prop := CMul i j ∨ CMulW i j
theorem MulOk.ok {i j : Int} (h : MulOk i j) : IntMulOk i j := by
  rcases h with h | h
  · exact h.ok
  · exact h.ok
theorem op_mulM : OpR X (binaryOp .Mult) (rI MulOk fun i j => .int (i * j)) := opI fun _ _ _ _ _ _ _ hc q => mul_int q hc.ok
def DivOk (i j : Int) : Prop := j ≠ 0 ∧ j.natAbs.log2 < 9000
theorem op_fdivM : OpR X (binaryOp .FloorDiv) (rI DivOk fun i j => .int (i.fdiv j)) := opI fun i j _ _ _ _ _ hc q => floordiv_int hc.1 q (.inl (PyProof.noPylong_of_log2 hc.2))
def rCatT' (K : PySem.W.Frag) : R2 := fun x y H Q => ∃ a b xs ys, x = .ref a ∧ y = .ref b ∧ SqT K H a xs ∧ SqT K H b ys ∧ xs.length + ys.length ≤ sizeLine ∧
  (ys = [] → Q (.ref a) H) ∧ (xs = [] → Q (.ref b) H) ∧ (∀ p, H p = none → Q (.ref p) (upd H p (.tup (xs ++ ys))))
theorem op_catT' : OpR X (binaryOp .Add) (rCatT' X.K) := by
  intro pins s σ H x y v u Q I rx ry h
  obtain ⟨a, b, xs, ys, rfl, rfl, ha, hb, hz, q1, q3, q2⟩ := h
  by_cases hx : xs = []
  · cases rx
    cases ry
    obtain ⟨its, r1, p1, _⟩ := I.tuple ha
    obtain ⟨its2, r2, p2, _⟩ := I.tuple hb
    subst hx
    cases r1
    obtain ⟨⟨cls, dd, data, sl⟩, ho, hc, n, hd⟩ := id p1
    obtain ⟨⟨cls2, dd2, data2, sl2⟩, ho2, hc2, n2, hd2⟩ := id p2
    simp only at hc hd hc2 hd2
    subst hc hd hc2 hd2
    exact concat_meets ⟨_, ho, rfl⟩ ⟨_, ho2, rfl⟩ noFill_tuple_add seq_tuple_add PySem.F.slot_tuple_add PySem.F.entry_tuple_add (PySem.F.args_tuple_add_2 _ _)
      (tuple_addW0 a b [].toArray its2.toArray n n2 dd dd2 sl sl2 rfl) ⟨ho, ho2, ⟨.ref b, H, I, rfl, q3 rfl⟩⟩
  · exact op_catT pins s σ H _ _ v u Q I rx ry ⟨a, b, xs, ys, rfl, rfl, ha, hb, hx, hz, q1, fun _ => q2⟩

def addD : D → D → DK → Prop
  | .int i, .int j, R => R (.int (i + j))
  | .str x, .str y, R => x.length + y.length ≤ sizeLine ∧ R (.str (x ++ y))
  | .tup xs, .tup ys, R => xs.length + ys.length ≤ sizeLine ∧ R (.tup (xs ++ ys))
  | .lst xs, .lst ys, R => xs.length + ys.length ≤ sizeLine ∧ R (.lst (xs ++ ys))
  | _, _, _ => False
theorem o_add : OpR X (binaryOp .Add) (dOp2 X.K addD) := by
  intro pins s σ H x y v u Q I rx ry ⟨Z, d, e, R, k, ad, ae, h, q⟩
  cases d <;> cases e <;> try exact h.elim
  · simp only [At] at ad ae
    subst ad; subst ae
    exact op_add pins s σ H _ _ v u Q I rx ry ⟨_, _, rfl, rfl, dk q k h rfl⟩
  · simp only [At] at ad ae
    subst ad; subst ae
    exact op_add_str pins s σ H _ _ v u Q I rx ry ⟨_, _, rfl, rfl, h.1, dk q k h.2 rfl⟩
  · simp only [At] at ad ae
    obtain ⟨a, vs, rfl, a2, a3⟩ := ad
    obtain ⟨b, ws, rfl, b2, b3⟩ := ae
    refine op_cat pins s σ H _ _ v u Q I rx ry ⟨a, b, vs, ws, rfl, rfl, k _ _ a2, k _ _ b2, by rw [a3.len, b3.len]; exact h.1, fun p hp => ?_⟩
    have x := Ext.new (o := HO.lst (vs ++ ws)) k hp
    exact q _ _ _ _ h.2 x ⟨p, _, rfl, upd_same, (Ats.mono x.zz _ _ a3).append (Ats.mono x.zz _ _ b3)⟩
  · simp only [At] at ad ae
    obtain ⟨a, vs, rfl, a2, a3⟩ := ad
    obtain ⟨b, ws, rfl, b2, b3⟩ := ae
    refine op_catT' pins s σ H _ _ v u Q I rx ry ⟨a, b, vs, ws, rfl, rfl, seqT k a2, seqT k b2, by rw [a3.len, b3.len]; exact h.1, fun e => ?_, fun e => ?_, fun p hp => ?_⟩
    · subst e
      have := b3.len
      rename_i ys
      cases ys with
      | nil => exact dk (d := .tup _) q k (by simpa using h.2) (show At X.K Z (.tup _) _ from ⟨a, vs, rfl, a2, a3⟩)
      | cons => simp at this
    · subst e
      have := a3.len
      rename_i xs ys
      cases xs with
      | nil => exact dk (d := .tup _) q k (by simpa using h.2) (show At X.K Z (.tup _) _ from ⟨b, ws, rfl, b2, b3⟩)
      | cons => simp at this
    · have x := Ext.new (o := HO.tup (vs ++ ws)) k hp
      exact q _ _ _ _ h.2 x ⟨p, _, rfl, .inl (.inl upd_same), (Ats.mono x.zz _ _ a3).append (Ats.mono x.zz _ _ b3)⟩
def intD2 (C : Int → Int → Prop) (f : Int → Int → D) : D → D → DK → Prop
  | .int i, .int j, R => C i j ∧ R (f i j)
  | _, _, _ => False
theorem o_int {f : Value → Value → Sem Value} {C : Int → Int → Prop} {g : Int → Int → V} {g' : Int → Int → D} (ho : OpR X f (rI C g)) (hg : ∀ i j Z, At X.K Z (g' i j) (g i j)) : OpR X f (dOp2 X.K (intD2 C g')) := by
  intro pins s σ H x y v u Q I rx ry ⟨Z, d, e, R, k, ad, ae, h, q⟩
  cases d <;> cases e <;> try exact h.elim
  simp only [At] at ad ae
  subst ad; subst ae
  exact ho pins s σ H _ _ v u Q I rx ry ⟨_, _, rfl, rfl, h.1, dk q k h.2 (hg _ _ _)⟩
def intD0 (f : Int → Int → D) : D → D → DK → Prop
  | .int i, .int j, R => R (f i j)
  | _, _, _ => False
theorem o_int0 {f : Value → Value → Sem Value} {g : Int → Int → V} {g' : Int → Int → D} (ho : OpR X f (rI0 g)) (hg : ∀ i j Z, At X.K Z (g' i j) (g i j)) : OpR X f (dOp2 X.K (intD0 g')) := by
  intro pins s σ H x y v u Q I rx ry ⟨Z, d, e, R, k, ad, ae, h, q⟩
  cases d <;> cases e <;> try exact h.elim
  simp only [At] at ad ae
  subst ad; subst ae
  exact ho pins s σ H _ _ v u Q I rx ry ⟨_, _, rfl, rfl, dk q k h (hg _ _ _)⟩
abbrev subD := intD0 fun i j => .int (i - j)
theorem o_sub : OpR X (binaryOp .Sub) (dOp2 X.K subD) := o_int0 op_sub fun _ _ _ => rfl
abbrev fdivD := intD2 DivOk fun i j => .int (i.fdiv j)
theorem o_fdiv : OpR X (binaryOp .FloorDiv) (dOp2 X.K fdivD) := o_int op_fdivM fun _ _ _ => rfl
abbrev modD := intD2 (fun _ j => 0 < j) fun i j => .int (i % j)
theorem o_mod : OpR X (binaryOp .Mod) (dOp2 X.K modD) := o_int op_mod fun _ _ _ => rfl
abbrev powD := intD2 CPow fun i j => .int (i ^ j.toNat)
theorem o_pow : OpR X (binaryOp .Pow) (dOp2 X.K powD) := o_int op_pow fun _ _ _ => rfl
def mulD : D → D → DK → Prop
  | .int i, .int j, R => MulOk i j ∧ R (.int (i * j))
  | .lst xs, .int k, R => (-(2 ^ 63) ≤ k ∧ k < 2 ^ 63 ∧ xs.length * k.toNat ≤ sizeLine) ∧ R (.lst (List.replicate k.toNat xs).flatten)
  | _, _, _ => False
theorem Ats.rep {K : PySem.W.Frag} {Z : Hp} {ds : List D} {vs : List V} (h : Ats K Z ds vs) : ∀ n, Ats K Z (List.replicate n ds).flatten (List.replicate n vs).flatten
  | 0 => rfl
  | n + 1 => by
    rw [List.replicate_succ, List.replicate_succ, List.flatten_cons, List.flatten_cons]
    exact h.append (Ats.rep h n)
theorem o_mul : OpR X (binaryOp .Mult) (dOp2 X.K mulD) := by
  intro pins s σ H x y v u Q I rx ry ⟨Z, d, e, R, k, ad, ae, h, q⟩
  cases d <;> cases e <;> try exact h.elim
  · simp only [At] at ad ae
    subst ad; subst ae
    exact op_mulM pins s σ H _ _ v u Q I rx ry ⟨_, _, rfl, rfl, h.1, dk q k h.2 rfl⟩
  · simp only [At] at ad ae
    obtain ⟨a, vs, rfl, a2, a3⟩ := ad
    subst ae
    refine op_rep pins s σ H _ _ v u Q I rx ry ⟨a, _, vs, rfl, rfl, k _ _ a2, h.1.1, h.1.2.1, by rw [a3.len]; exact h.1.2.2, fun p hp => ?_⟩
    rename_i xs n
    have x := Ext.new (o := HO.lst (List.replicate n.toNat vs).flatten) k hp
    exact q _ _ _ _ h.2 x ⟨p, _, rfl, upd_same, Ats.rep (Ats.mono x.zz _ _ a3) _⟩
def mulF : D → D → (List D → Prop) → Prop
  | .lst xs, .int k, R => (-(2 ^ 63) ≤ k ∧ k < 2 ^ 63 ∧ xs.length * k.toNat ≤ sizeLine) ∧ R (List.replicate k.toNat xs).flatten
  | _, _, _ => False
theorem o_mulF : OpR X (binaryOp .Mult) (dOp2F X.K mulF) := by
  intro pins s σ H x y v u Q I rx ry ⟨Z, d, e, R, k, ad, ae, h, q⟩
  cases d <;> cases e <;> try exact h.elim
  simp only [At] at ad ae
  obtain ⟨a, vs, rfl, a2, a3⟩ := ad
  subst ae
  refine op_rep pins s σ H _ _ v u Q I rx ry ⟨a, _, vs, rfl, rfl, k _ _ a2, h.1.1, h.1.2.1, by rw [a3.len]; exact h.1.2.2, fun p hp => ?_⟩
  exact q _ _ _ _ h.2 (same_upd hp) hp upd_same (Ats.rep a3 _)
def EqOk : D → D → Prop
  | .str _, .str _ => True
  | d, e => d.pln = true ∧ e.pln = true ∧ d.dep ≤ 64 ∧ e.dep ≤ 64
theorem EqOk.two {d e : D} (h : EqOk d e) : (∃ x y, d = .str x ∧ e = .str y) ∨ (d.pln = true ∧ e.pln = true ∧ d.dep ≤ 64 ∧ e.dep ≤ 64) := by
  unfold EqOk at h
  split at h
  · exact .inl ⟨_, _, rfl, rfl⟩
  · exact .inr h
theorem EqOk.of {d e : D} (h : d.pln = true ∧ e.pln = true ∧ d.dep ≤ 64 ∧ e.dep ≤ 64) : EqOk d e := by
  unfold EqOk
  split
  · trivial
  · exact h
def eqD : D → D → DK → Prop := fun d e R => EqOk d e ∧ R (.bl (D.eqv d e))
def neD : D → D → DK → Prop := fun d e R => EqOk d e ∧ R (.bl (!D.eqv d e))
theorem shaped_py {d : D} (h : d.pln = true) (h' : d.dep ≤ 64) : SeqAt.shaped d.py = true := by
  unfold SeqAt.shaped
  rw [canLay_py d h, dep_py d h, decide_eq_true h']; rfl
theorem str_dec (x y : Str) : decide (V.str x = V.str y) = (x == y) := by
  rw [Bool.eq_iff_iff]; simp
theorem o_eq {k : Nat} (hr : Room k X.A) : OpR X (compareOp .Eq) (dOp2 X.K eqD) := by
  intro pins s σ H x y v u Q I rx ry ⟨Z, d, e, R, k, ad, ae, h, q⟩
  rcases h.1.two with ⟨z1, z2, rfl, rfl⟩ | h1
  · simp only [At] at ad ae
    subst ad; subst ae
    refine op_eq pins s σ H _ _ v u Q I rx ry ⟨rfl, ?_⟩
    rw [str_dec]
    exact dk q k h.2 rfl
  refine op_eqD hr.units pins s σ H _ _ v u Q I rx ry ⟨d.py, e.py, At.dp k d x ad h1.1, At.dp k e y ae h1.2.1, shaped_py h1.1 h1.2.2.1, shaped_py h1.2.1 h1.2.2.2, ?_⟩
  rw [eqv_py d e h1.1 h1.2.1]
  exact dk q k h.2 rfl
theorem o_ne {k : Nat} (hr : Room k X.A) : OpR X (compareOp .NotEq) (dOp2 X.K neD) := by
  intro pins s σ H x y v u Q I rx ry ⟨Z, d, e, R, k, ad, ae, h, q⟩
  rcases h.1.two with ⟨z1, z2, rfl, rfl⟩ | h1
  · simp only [At] at ad ae
    subst ad; subst ae
    refine op_ne pins s σ H _ _ v u Q I rx ry ⟨rfl, ?_⟩
    rw [str_dec]
    exact dk q k h.2 rfl
  refine op_neD hr.units pins s σ H _ _ v u Q I rx ry ⟨d.py, e.py, At.dp k d x ad h1.1, At.dp k e y ae h1.2.1, shaped_py h1.1 h1.2.2.1, shaped_py h1.2.1 h1.2.2.2, ?_⟩
  rw [eqv_py d e h1.1 h1.2.1]
  exact dk q k h.2 rfl
abbrev leD := intD0 fun i j => .bl (decide (i ≤ j))
abbrev gtD := intD0 fun i j => .bl (decide (j < i))
abbrev geD := intD0 fun i j => .bl (decide (j ≤ i))
abbrev ltD := intD0 fun i j => .bl (decide (i < j))
theorem o_le : OpR X (compareOp .LtE) (dOp2 X.K leD) := o_int0 op_le fun _ _ _ => rfl
theorem o_gt : OpR X (compareOp .Gt) (dOp2 X.K gtD) := o_int0 op_gt fun _ _ _ => rfl
theorem o_ge : OpR X (compareOp .GtE) (dOp2 X.K geD) := o_int0 op_ge fun _ _ _ => rfl
theorem o_lt : OpR X (compareOp .Lt) (dOp2 X.K ltD) := o_int0 op_lt fun _ _ _ => rfl
def inW (neg : Bool) : D → D → DK → Prop := fun d e R => match e with
  | .lst xs => (d.pln = true ∧ D.plns xs = true ∧ d.dep ≤ 60) ∧ R (.bl (neg ^^ xs.any fun y => D.eqv y d))
  | .tup xs => (d.pln = true ∧ D.plns xs = true ∧ d.dep ≤ 60) ∧ R (.bl (neg ^^ xs.any fun y => D.eqv y d))
  | _ => False
abbrev inD := inW false
abbrev notInD := inW true
theorem any_py {xs : List D} {d : D} (h : D.plns xs = true) (hd : d.pln = true) : ((D.pys xs).any fun y => PyData.eqv y d.py) = xs.any fun y => D.eqv y d := by
  induction xs with
  | nil => rfl
  | cons y ys ih =>
    simp only [D.plns, Bool.and_eq_true] at h
    simp only [D.pys, List.any_cons]
    rw [eqv_py y d h.1 hd, ih h.2]
theorem room_in {A : Around} {k n m : Nat} (hr : Room k A) (h : m ≤ 60) : A.units + 1 + min n m < cLine := by
  have := hr.units
  have : min n m ≤ m := Nat.min_le_right _ _
  omega
theorem o_in {k : Nat} (hr : Room k X.A) : OpR X (compareOp .In) (dOp2 X.K inD) := by
  intro pins s σ H x y v u Q I rx ry ⟨Z, d, e, R, k, ad, ae, h, q⟩
  cases e <;> try exact h.elim
  · obtain ⟨⟨h1, h2, h3⟩, h4⟩ := h
    obtain ⟨as, r1⟩ := Dp.reads I _ y u (At.dp k _ y ae h2) ry
    obtain ⟨bs, r2⟩ := Dp.reads I _ x v (At.dp k _ x ad h1) rx
    exact SeqAt.in_list_reads r1 r2 (canLays_py _ h2) (canLay_py _ h1) (by rw [dep_py d h1]; exact room_in hr h3) ⟨.bl _, H, I, rfl, dk q k h4 (by simp [At, any_py h2 h1])⟩
  · obtain ⟨⟨h1, h2, h3⟩, h4⟩ := h
    obtain ⟨as, r1⟩ := Dp.reads I _ y u (At.dp k _ y ae h2) ry
    obtain ⟨bs, r2⟩ := Dp.reads I _ x v (At.dp k _ x ad h1) rx
    exact SeqAt.in_tuple_reads r1 r2 (canLays_py _ h2) (canLay_py _ h1) (by rw [dep_py d h1]; exact room_in hr h3) ⟨.bl _, H, I, rfl, dk q k h4 (by simp [At, any_py h2 h1])⟩
theorem o_notIn {k : Nat} (hr : Room k X.A) : OpR X (compareOp .NotIn) (dOp2 X.K notInD) := by
  intro pins s σ H x y v u Q I rx ry ⟨Z, d, e, R, k, ad, ae, h, q⟩
  cases e <;> try exact h.elim
  · obtain ⟨⟨h1, h2, h3⟩, h4⟩ := h
    obtain ⟨as, r1⟩ := Dp.reads I _ y u (At.dp k _ y ae h2) ry
    obtain ⟨bs, r2⟩ := Dp.reads I _ x v (At.dp k _ x ad h1) rx
    exact SeqAt.notIn_list_reads r1 r2 (canLays_py _ h2) (canLay_py _ h1) (by rw [dep_py d h1]; exact room_in hr h3) ⟨.bl _, H, I, rfl, dk q k h4 (by simp [At, any_py h2 h1])⟩
  · obtain ⟨⟨h1, h2, h3⟩, h4⟩ := h
    obtain ⟨as, r1⟩ := Dp.reads I _ y u (At.dp k _ y ae h2) ry
    obtain ⟨bs, r2⟩ := Dp.reads I _ x v (At.dp k _ x ad h1) rx
    exact SeqAt.notIn_tuple_reads r1 r2 (canLays_py _ h2) (canLay_py _ h1) (by rw [dep_py d h1]; exact room_in hr h3) ⟨.bl _, H, I, rfl, dk q k h4 (by simp [At, any_py h2 h1])⟩
end
end Pm
set_option Elab.async false
set_option linter.all false
set_option maxRecDepth 100000
set_option maxHeartbeats 1000000
set_option autoImplicit false
namespace Pm
open PySem PySem.Spec
open PyProof.Rows hiding St
open L2
variable {γ : Type}

inductive Sk where | l (a : Addr) | t (a : Addr) | s (x : Str) (tk : Tok)
def Sk.it : Sk → Heap → Addr → Nat → Prop
  | .l a, h, it, i => h.IsListIter it a i
  | .t a, h, it, i => h.IsTupleIter it a i
  | .s x tk, h, it, i => h.IsStrIter it (strIterType x) x tk i
def Sk.fp : Sk → List Addr
  | .l a => [a]
  | .t a => [a]
  | .s _ _ => []
def Sk.src (K : PySem.W.Frag) (H : Hp) : Sk → List V → Prop
  | .l a, xs => SqL K H a xs
  | .t a, xs => SqT K H a xs
  | .s x _, xs => xs = x.cps.toList.map fun c => V.str ⟨#[c]⟩
def Sk.mem (h : Heap) : Sk → List Value → Prop
  | .l a, its => h.IsList a its.toArray
  | .t a, its => h.IsTuple a its.toArray
  | .s _ _, _ => True
def Sk.pr : Sk → List Value → Nat → Value → Prop
  | .s x _, _, i, v => ∃ c u, x.cps[i]? = some c ∧ v = .str ⟨#[c]⟩ u
  | _, its, i, v => its.toArray[i]? = some v
def Sk.val : Sk → Value
  | .l a => .ref a
  | .t a => .ref a
  | .s x tk => .str x tk
def Sk.ob : Sk → Obj
  | .l a => { cls := .type "list_iterator", data := .fields #[.ref a, .int 0 0] }
  | .t a => { cls := .type "tuple_iterator", data := .fields #[.ref a, .int 0 0] }
  | .s x tk => { cls := .type (strIterType x), data := .fields #[.str x tk, .int 0 0] }
section
variable {X : Cx} {pins : List (Addr × Obj)} {σ : St} {H : Hp} {s : Shared}
theorem Sk.read (I : L2.Inv X pins σ H s) {k : Sk} {xs : List V} (h : k.src X.K H xs) : ∃ its, k.mem s.heap its ∧ (∀ i v, k.pr its i v → ∃ x, xs[i]? = some x ∧ RelV x v) ∧ ∀ (A : Around), A.handled = none → ∀ it, it ∉ k.fp →
    Draws X.prog X.w A it (it :: k.fp) xs.length (k.pr its) (fun i h => k.it h it i ∧ k.mem h its) := by
  cases k with
  | l a =>
    obtain ⟨its, r, p, _⟩ := I.list h
    refine ⟨its, p.isList, fun i v e => ?_, fun A hA it hne => ?_⟩
    · have e' : its[i]? = some v := by simpa [Sk.pr] using e
      have hl := r.length
      have hi : i < xs.length := by rw [hl]; exact (List.getElem?_eq_some_iff.mp e').1
      obtain ⟨u, h1, h2⟩ := r.get (List.getElem?_eq_getElem hi)
      rw [e'] at h1; cases h1
      exact ⟨_, List.getElem?_eq_getElem hi, h2⟩
    · have := Draws.list (prog := X.prog) (w := X.w) hA it a (fun e => hne (by simp [Sk.fp, e])) its.toArray
      rw [List.size_toArray, ← r.length] at this
      exact this
  | t a =>
    obtain ⟨its, r, p, _⟩ := I.tuple h
    refine ⟨its, p, fun i v e => ?_, fun A hA it hne => ?_⟩
    · have e' : its[i]? = some v := by simpa [Sk.pr] using e
      have hl := r.length
      have hi : i < xs.length := by rw [hl]; exact (List.getElem?_eq_some_iff.mp e').1
      obtain ⟨u, h1, h2⟩ := r.get (List.getElem?_eq_getElem hi)
      rw [e'] at h1; cases h1
      exact ⟨_, List.getElem?_eq_getElem hi, h2⟩
    · have := Draws.tuple (prog := X.prog) (w := X.w) hA it a (fun e => hne (by simp [Sk.fp, e])) its.toArray
      rw [List.size_toArray, ← r.length] at this
      exact this
  | s x tk =>
    have hx : xs = x.cps.toList.map fun c => V.str ⟨#[c]⟩ := h
    refine ⟨[], trivial, fun i v e => ?_, fun A hA it hne => ?_⟩
    · obtain ⟨c, u, h1, rfl⟩ := e
      exact ⟨.str ⟨#[c]⟩, by rw [hx, List.getElem?_map, Array.getElem?_toList, h1]; rfl, ⟨u, rfl⟩⟩
    · have := Draws.text (prog := X.prog) (w := X.w) hA it x tk
      have hl : xs.length = x.cps.size := by rw [hx, List.length_map, Array.length_toList]
      rw [hl]
      exact ⟨fun i h st => this.live i h st.1, fun i h h' st k => ⟨this.frame i h h' st.1 k, trivial⟩, fun i s Q E hi st hQ => this.item i s Q E hi st.1 fun v h' tk p st' sb => hQ v h' tk p ⟨st', trivial⟩ sb,
        fun s Q E st hE => this.done s Q E st.1 hE⟩
theorem Sk.src_inj (I : L2.Inv X pins σ H s) {k : Sk} {xs ys : List V} (h : k.src X.K H xs) (h' : k.src X.K H ys) : xs = ys := by
  cases k with
  | l a => exact I.list_inj h h'
  | t a => exact I.tuple_inj h h'
  | s x tk => exact (show xs = _ from h).trans (show ys = _ from h').symm
theorem Sk.begins (k : Sk) (its : List Value) : Begins k.val k.ob (fun h => k.mem h its) := by
  cases k with
  | l a => exact begins_list a its.toArray
  | t a => exact begins_tuple a its.toArray
  | s x tk => exact begins_text x tk
theorem Sk.it0 {k : Sk} {h : Heap} {it : Addr} (e : h.get? it = some k.ob) : k.it h it 0 := by
  cases k with
  | l a => exact ⟨_, e, rfl, rfl⟩
  | t a => exact ⟨_, e, rfl, rfl⟩
  | s x tk => exact ⟨_, e, rfl, rfl⟩
theorem Sk.itAt {k : Sk} {h h' : Heap} {it : Addr} {i : Nat} (st : k.it h it i) (kp : ∀ o, h.get? it = some o → h'.get? it = some o) : k.it h' it i := by
  cases k with
  | l a => exact Heap.IsListIter.at st kp
  | t a => exact Heap.IsTupleIter.at st kp
  | s x tk => obtain ⟨o, ho, r⟩ := st; exact ⟨o, kp o ho, r⟩
theorem Sk.itOb {k : Sk} {h : Heap} {it : Addr} {i : Nat} (st : k.it h it i) : ∃ o, h.get? it = some o ∧ ∀ v, o.data ≠ .cell v := by
  cases k with
  | l a => obtain ⟨o, e, _, d⟩ := st; exact ⟨o, e, fun v q => by rw [d] at q; cases q⟩
  | t a => obtain ⟨o, e, _, d⟩ := st; exact ⟨o, e, fun v q => by rw [d] at q; cases q⟩
  | s x tk => obtain ⟨o, e, _, d⟩ := st; exact ⟨o, e, fun v q => by rw [d] at q; cases q⟩
end

theorem turnT {X : Cx} {pins : List (Addr × Obj)} {σ : St} {H : Hp} {s : Shared} {I : Addr} {fp wr cells : List Addr} {n i : Nat} {Pt : Nat → Array Value → Prop} {Stt : Nat → Heap → Prop} {Mid : Nat → Addr → Heap → Prop} {elts : List Expr} {kk : Nat} {tpos : Pos} {E : Value → Shared → Prop} {Good : List V → Prop}
    (W : WalksT X.prog X.w X.A I fp wr n Pt Stt Mid) (hi : i < n) (st : Stt i s.heap) (J : L2.Inv X pins σ H s) (hwr : ∀ b ∈ wr, b ∈ cells) (hf : ∀ b ∈ cells, FpOk X pins H b) (hcl : ∀ b ∈ cells, ∃ o, s.heap.get? b = some o)
    (hP : ∀ vals, Pt i vals → ∃ xs, Vals xs vals.toList ∧ xs.length ≤ sizeLine ∧ Good xs) :
    wpAny (model X.prog X.w) X.A (pyNext (.ref I)) (fun r s1 => ∃ u, r = some u ∧ wpAny (model X.prog X.w) X.A (letOwnedTupleGo (.Tuple elts kk tpos) (.ref I) u) (fun _ s2 => ∃ T xs, Good xs ∧ u = .ref T ∧ H T = none ∧
      L2.Inv X pins σ (upd H T (.tup xs)) s2 ∧ Stt (i + 1) s2.heap ∧ ∀ b ∈ cells, (upd H T (.tup xs)) b = none) E s1) E s := by
  refine W.item i s _ E hi st fun T vals h' tk hp hT hIs hMid hk => ⟨_, rfl, ?_⟩
  refine W.go elts kk tpos i T { s with heap := h', toks := tk } _ _ hMid fun h'' st'' hk'' => ?_
  obtain ⟨xs, rv, hz, hg⟩ := hP vals hp
  have hHT : H T = none := J.hok.fresh hT
  have keep : ∀ b o, b ∉ cells → s.heap.get? b = some o → h''.get? b = some o := fun b o hb e => hk'' b o (fun h => hb (hwr b h)) (hk b o (fun h => hb (hwr b h)) e)
  obtain ⟨oT, eT, cT, nT, dT⟩ := hIs
  have new : ObjOk X.prog X.w (upd H T (.tup xs)) h'' T (.tup xs) := ⟨hz, vals.toList, rv, ⟨oT, hk'' T oT (W.apart i T h' hMid) eT, cT, nT, by simpa using dT⟩⟩
  refine ⟨T, xs, hg, rfl, hHT, J.turnedNew (t' := tk) (ch := cells) keep hf hT new, st'', fun b hb => ?_⟩
  obtain ⟨o, e⟩ := hcl b hb
  rw [upd_ne (Nat.ne_of_lt (Nat.lt_of_lt_of_le (Heap.lt_size e) hT))]
  exact (hf b hb).1

def Jz (K : PySem.W.Frag) (k1 k2 : Sk) : It :=
  ⟨fun i H => ∃ (xs ys : List V) (x y : V), k1.src K H xs ∧ k2.src K H ys ∧ xs[i]? = some x ∧ ys[i]? = some y,
    fun i H v H' => ∃ T x y, v = .ref T ∧ H T = none ∧ H' = upd H T (.tup [x, y]) ∧ (∀ xs, k1.src K H xs → xs[i]? = some x) ∧ ∀ ys, k2.src K H ys → ys[i]? = some y,
    fun i H => ∃ xs ys : List V, k1.src K H xs ∧ k2.src K H ys ∧ i = min xs.length ys.length⟩
theorem turn_zipG {P : Program} {w : World} {K : PySem.W.Frag} {elts : List Expr} {kk : Nat} {tpos : Pos} {z TI TO i1 i2 : Addr} {k1 k2 : Sk} (Sp : ZipSep2 z TI TO i1 i2 (i1 :: k1.fp) (i2 :: k2.fp)) (n1 : i1 ∉ k1.fp) (n2 : i2 ∉ k2.fp) :
    Turn P w K (.Tuple elts kk tpos) (Jz K k1 k2) [z, TI, TO, i1, i2] z (fun i h => IsZip h z TI TO .none ∧ IsTupOf2 h TI (.ref i1) (.ref i2) ∧ (∃ a1 a2, IsTupOf2 h TO a1 a2) ∧ k1.it h i1 i ∧ k2.it h i2 i) where
  mem := by simp
  obj := fun i h st c hc => by
    obtain ⟨hz, hTI, ⟨x, y, hTO⟩, h1, h2⟩ := st
    have e' : c = z ∨ c = TI ∨ c = TO ∨ c = i1 ∨ c = i2 := by simpa using hc
    rcases e' with q | q | q | q | q
    · rw [q]; exact ⟨_, hz, fun v q => nomatch q⟩
    · rw [q]; exact ⟨_, hTI, fun v q => nomatch q⟩
    · rw [q]; exact ⟨_, hTO, fun v q => nomatch q⟩
    · rw [q]; exact Sk.itOb h1
    · rw [q]; exact Sk.itOb h2
  keep := fun i h h' st k => by
    obtain ⟨hz, hTI, ⟨x, y, hTO⟩, h1, h2⟩ := st
    exact ⟨k z (by simp) _ hz, k TI (by simp) _ hTI, ⟨x, y, k TO (by simp) _ hTO⟩, Sk.itAt h1 fun o q => k i1 (by simp) o q, Sk.itAt h2 fun o q => k i2 (by simp) o q⟩
  item := by
    intro X hP hw hK hc i pins s σ H E I hf st hg
    subst hP hw hK
    obtain ⟨hz, hTI, ⟨x0, y0, hTO⟩, h1, h2⟩ := st
    obtain ⟨xs, ys, x, y, hqx, hqy, hx, hy⟩ := hg
    obtain ⟨its, m1, p1, d1⟩ := Sk.read I hqx
    obtain ⟨its2, m2, p2, d2⟩ := Sk.read I hqy
    have hd := I.ok.hd hc
    have W := WalksT.zipD2 Sp (d1 X.A.in1 hd i1 n1) (d2 X.A.in1 hd i2 n2)
    have hi : i < min xs.length ys.length := by
      have a := (List.getElem?_eq_some_iff.mp hx).1
      have b := (List.getElem?_eq_some_iff.mp hy).1
      omega
    refine thn (turnT (Good := fun zs => zs = [x, y]) W hi ⟨hz, hTI, ⟨x0, y0, hTO⟩, ⟨h1, m1⟩, h2, m2⟩ I (cells := [z, TI, TO, i1, i2]) (fun b hb => ?_) hf (fun b hb => ?_) fun vals hv => ?_) fun r s1 ⟨u, hr, h⟩ => ⟨u, hr, thn h fun _ s2 ⟨T, zs, e1, e2, e3, e4, e5, e6⟩ => ?_⟩
    · have : b = z ∨ b = TO ∨ b = i1 ∨ b = i2 := by simpa using hb
      simp only [List.mem_cons, List.not_mem_nil, or_false]
      rcases this with h | h | h | h <;> simp [h]
    · have e' : b = z ∨ b = TI ∨ b = TO ∨ b = i1 ∨ b = i2 := by simpa using hb
      rcases e' with q | q | q | q | q
      · rw [q]; exact ⟨_, hz⟩
      · rw [q]; exact ⟨_, hTI⟩
      · rw [q]; exact ⟨_, hTO⟩
      · rw [q]; obtain ⟨o, e, _⟩ := Sk.itOb h1; exact ⟨o, e⟩
      · rw [q]; obtain ⟨o, e, _⟩ := Sk.itOb h2; exact ⟨o, e⟩
    · obtain ⟨x1, x2, q1, q2, rfl⟩ := hv
      obtain ⟨v1, f1, r1⟩ := p1 i x1 q1
      obtain ⟨v2, f2, r2⟩ := p2 i x2 q2
      rw [hx] at f1; rw [hy] at f2
      cases f1; cases f2
      exact ⟨[x, y], .cons r1 (.cons r2 .nil), by show 2 ≤ sizeLine; decide, rfl⟩
    · subst e1; subst e2
      obtain ⟨z', TI', TO', ⟨a1, _⟩, a2, _⟩ := e5
      exact ⟨.ref T, _, e4, rfl, ⟨T, x, y, rfl, e3, rfl, fun l hl => by rw [Sk.src_inj I hl hqx]; exact hx, fun l hl => by rw [Sk.src_inj I hl hqy]; exact hy⟩, ⟨z', TI', TO', a1, a2⟩, e6⟩
  done := by
    intro X hP hw hK hc i pins s σ H E I hf st hg
    subst hP hw hK
    obtain ⟨hz, hTI, ⟨x0, y0, hTO⟩, h1, h2⟩ := st
    obtain ⟨xs, ys, hqx, hqy, rfl⟩ := hg
    obtain ⟨its, m1, p1, d1⟩ := Sk.read I hqx
    obtain ⟨its2, m2, p2, d2⟩ := Sk.read I hqy
    have hd := I.ok.hd hc
    have W := WalksT.zipD2 Sp (d1 X.A.in1 hd i1 n1) (d2 X.A.in1 hd i2 n2)
    refine W.done s _ E ⟨hz, hTI, ⟨x0, y0, hTO⟩, ⟨h1, m1⟩, h2, m2⟩ fun h' tk hk => ⟨rfl, I.turnedL (t' := tk) (ch := [z, TI, TO, i1, i2]) (fun b o hb e => hk b o (fun q => hb ?_) e) hf⟩
    have : b = z ∨ b = TO ∨ b = i1 ∨ b = i2 := by simpa using q
    simp only [List.mem_cons, List.not_mem_nil, or_false]
    rcases this with h | h | h | h <;> simp [h]
  self := fun A i s Q E st h => wpAny_pyIter_zip st.1 h

def itemsD : D → Option (List D)
  | .lst xs => some xs
  | .tup xs => some xs
  | .str x => some (x.cps.toList.map fun c => .str ⟨#[c]⟩)
  | _ => none
theorem src_of {K : PySem.W.Frag} {Z : Hp} {d : D} {v : V} {u : Value} {ds : List D} (a : At K Z d v) (r : RelV v u) (e : itemsD d = some ds) :
    ∃ k : Sk, k.val = u ∧ (∀ H, Same Z H → ∃ xs, k.src K H xs ∧ Ats K Z ds xs) := by
  cases d <;> simp only [itemsD, Option.some.injEq, reduceCtorEq] at e
  · simp only [At] at a
    subst a; subst e
    obtain ⟨t, rfl⟩ := r
    rename_i x
    refine ⟨.s x t, rfl, fun H _ => ⟨_, rfl, ?_⟩⟩
    generalize x.cps.toList = l
    induction l with
    | nil => rfl
    | cons c l ih => exact ⟨_, _, rfl, rfl, ih⟩
  · simp only [At] at a
    obtain ⟨p, vs, rfl, h1, h2⟩ := a
    subst e
    cases r
    exact ⟨.l p, rfl, fun H k => ⟨vs, .inl (.inl (k _ _ h1)), h2⟩⟩
  · simp only [At] at a
    obtain ⟨p, vs, rfl, h1, h2⟩ := a
    subst e
    cases r
    exact ⟨.t p, rfl, fun H k => ⟨vs, seqT k h1, h2⟩⟩
theorem Sk.fp_lt {X : Cx} {pins : List (Addr × Obj)} {σ : St} {H : Hp} {s : Shared} (I : L2.Inv X pins σ H s) {k : Sk} {xs : List V} (h : k.src X.K H xs) : ∀ b ∈ k.fp, b < s.heap.objs.size := by
  cases k with
  | l a =>
    intro b hb
    obtain ⟨its, r, p, _⟩ := I.list h
    rw [show b = a by simpa [Sk.fp] using hb]; exact p.lt
  | t a =>
    intro b hb
    obtain ⟨its, r, p, _⟩ := I.tuple h
    rw [show b = a by simpa [Sk.fp] using hb]; exact p.lt
  | s x tk => intro b hb; cases hb

def zipD : List D → List D → List D
  | x :: xs, y :: ys => .tup [x, y] :: zipD xs ys
  | _, _ => []
theorem zipD_len : ∀ xs ys : List D, (zipD xs ys).length = min xs.length ys.length
  | [], _ => by simp [zipD]
  | _ :: _, [] => by simp [zipD]
  | x :: xs, y :: ys => by simp only [zipD, List.length_cons, zipD_len xs ys]; omega
theorem zipD_get : ∀ {xs ys : List D} {i : Nat} {d : D}, (zipD xs ys)[i]? = some d → ∃ x y, xs[i]? = some x ∧ ys[i]? = some y ∧ d = .tup [x, y]
  | [], _, _, _, h => by simp [zipD] at h
  | _ :: _, [], _, _, h => by simp [zipD] at h
  | x :: xs, y :: ys, 0, d, h => by simp [zipD] at h; exact ⟨x, y, rfl, rfl, h.symm⟩
  | x :: xs, y :: ys, i + 1, d, h => zipD_get (xs := xs) (ys := ys) (i := i) (by simpa [zipD] using h)
section
variable {X : Cx} {G : GP γ} {tg e e2 : Expr} {p pos tpos : Pos} {elts : List Expr} {kk : Nat}
def qItems (te : PEx γ) : PAx γ := fun s R => te s fun d s1 => match itemsD d with
  | some ds => R ds s1
  | none => False
theorem walks_list {K : PySem.W.Frag} {Z : Hp} {a : Addr} {vs : List V} {ds : List D} (h : Z a = some (.lst vs)) (h2 : Ats K Z ds vs) : Walks K (Itl K a) Z ds := by
  intro i Z1 H k1 k2
  have hs : SqL K H a vs := .inl (.inl (k2 _ _ (k1 _ _ h)))
  refine ⟨fun d hd => ?_, fun hl => ⟨vs, hs, by rw [h2.len]; exact Nat.le_of_eq hl.symm⟩⟩
  obtain ⟨v, hv, av⟩ := h2.get hd
  refine ⟨⟨vs, v, hs, hv⟩, fun x H' y => ?_⟩
  obtain ⟨e, y⟩ := y
  subst e
  have := y vs hs
  rw [hv] at this
  cases this
  exact ⟨Z1, Ext.refl k2, At.mono k1 _ _ av⟩
theorem walks_tup {K : PySem.W.Frag} {Z : Hp} {a : Addr} {vs : List V} {ds : List D} (h : SqT K Z a vs) (h2 : Ats K Z ds vs) : Walks K (Itt K a) Z ds := by
  intro i Z1 H k1 k2
  have hs : SqT K H a vs := seqT (k1.trans k2) h
  refine ⟨fun d hd => ?_, fun hl => ⟨vs, hs, by rw [h2.len]; exact Nat.le_of_eq hl.symm⟩⟩
  obtain ⟨v, hv, av⟩ := h2.get hd
  refine ⟨⟨vs, v, hs, hv⟩, fun x H' y => ?_⟩
  obtain ⟨e, y⟩ := y
  subst e
  have := y vs hs
  rw [hv] at this
  cases this
  exact ⟨Z1, Ext.refl k2, At.mono k1 _ _ av⟩
theorem walks_str {K : PySem.W.Frag} {Z : Hp} {x : Str} : Walks K (Its x) Z (x.cps.toList.map fun c => .str ⟨#[c]⟩) := by
  intro i Z1 H k1 k2
  refine ⟨fun d hd => ?_, fun hl => (by have : i = x.cps.size := by simpa using hl
                                        exact Nat.le_of_eq this.symm : x.cps.size ≤ i)⟩
  rw [List.getElem?_map, Array.getElem?_toList] at hd
  cases q : x.cps[i]? with
  | none => rw [q] at hd; cases hd
  | some c =>
    rw [q] at hd
    cases hd
    refine ⟨(Array.getElem?_eq_some_iff.mp q).1, fun v H' y => ?_⟩
    obtain ⟨e, c', h1, h2⟩ := y
    subst e; subst h2
    rw [q] at h1; cases h1
    exact ⟨Z1, Ext.refl k2, rfl⟩
theorem qi_seq {te : PEx γ} (h : QE X G e te) (hK : X.K = G.K := by rfl) : QI X G tg e (qItems te) := by
  refine ⟨fun pins s σ H R I w => ?_⟩
  obtain ⟨F, Z, sg, Rp, r, t, q⟩ := w
  refine thn (h.run pins s σ H (fun v H1 => ∃ d s1 Z1, Rel G F Z1 s1 σ H1 ∧ At G.K Z1 d v ∧ ∃ ds, itemsD d = some ds ∧ ∀ J, Walks G.K J Z1 ds → R J H1) I ⟨F, Z, sg, _, r, t, fun d s1 Z1 v H1 t1 k1 r1 a1 => ?_⟩) fun u s1 ⟨v, H1, I1, rv, d, sg1, Z1, r1, a1, ds, e1, q1⟩ => ?_
  · cases e1 : itemsD d with
    | none => rw [e1] at t1; exact t1.elim
    | some ds => rw [e1] at t1; exact ⟨d, s1, Z1, r1, a1, ds, e1, fun J hJ => q ds s1 Z1 H1 J t1 k1 r1 hJ⟩
  · have fresh : ∀ b ∈ [s1.heap.objs.size], FpOk X pins H1 b := fun b hb => by
      have e : b = s1.heap.objs.size := by simpa using hb
      subst e
      exact I1.fpOk (Nat.le_refl _) (I1.hok.fresh (Nat.le_refl _))
    cases d <;> simp only [itemsD, Option.some.injEq, reduceCtorEq] at e1
    · simp only [At] at a1
      subst a1; subst e1
      rename_i x
      obtain ⟨t, rfl⟩ := rv
      -- a text's iterator
      refine wpAny_pyIter_strU ?_
      have I2 : L2.Inv X pins σ H1 { s1 with heap := s1.heap.push { cls := .type (strIterType x), data := .fields #[.str x t, .int 0 0] } } := I1.kept (t' := s1.toks) fun b o e => Heap.get?_push_of_some _ e
      have st0 : ({ s1 with heap := s1.heap.push { cls := .type (strIterType x), data := .fields #[.str x t, .int 0 0] } } : Shared).heap.IsStrIter s1.heap.objs.size (strIterType x) x t 0 := ⟨_, Heap.get?_push_size _ rfl, rfl, rfl⟩
      first
        | exact ⟨s1.heap.objs.size, [s1.heap.objs.size], _, _, H1, rfl, I2, turn_str s1.heap.objs.size x t (strIterType x) (by unfold strIterType; split <;> simp), st0, fresh, q1 _ walks_str⟩
    · simp only [At] at a1
      obtain ⟨a, vs, rfl, h1, h2⟩ := a1
      subst e1
      cases rv
      obtain ⟨its, rv, p, hz⟩ := I1.list (xs := vs) (.inl (.inl (r1.z _ _ h1)))
      refine wpAny_pyIter_list p.isList ?_
      exact ⟨s1.heap.objs.size, [s1.heap.objs.size], _, _, H1, rfl, I1.kept (t' := s1.toks) fun b o e => Heap.get?_push_of_some _ e, turn_list a _, ⟨_, Heap.get?_push_size _ rfl, rfl, rfl⟩, fresh, q1 _ (by rw [hK]; exact walks_list h1 h2)⟩
    · simp only [At] at a1
      obtain ⟨a, vs, rfl, h1, h2⟩ := a1
      subst e1
      cases rv
      obtain ⟨its, rv, p, hz⟩ := I1.tuple (xs := vs) (by rw [hK]; exact seqT r1.z h1)
      refine wpAny_pyIter_tuple (show s1.heap.IsTuple a its.toArray from p) ?_
      exact ⟨s1.heap.objs.size, [s1.heap.objs.size], _, _, H1, rfl, I1.kept (t' := s1.toks) fun b o e => Heap.get?_push_of_some _ e, turn_tuple a _, ⟨_, Heap.get?_push_size _ rfl, rfl, rfl⟩, fresh, q1 _ (by rw [hK]; exact walks_tup h1 h2)⟩

def qZip (ta : PAx γ) : PAx γ := fun s R => ta s fun ds s1 => match ds with
  | [d1, d2] => match itemsD d1, itemsD d2 with
    | some xs, some ys => R (zipD xs ys) s1
    | _, _ => False
  | _ => False
theorem walks_zip {K : PySem.W.Frag} {Z : Hp} {k1 k2 : Sk} {xs ys : List D} (h1 : ∀ H, Same Z H → ∃ vs, k1.src K H vs ∧ Ats K Z xs vs) (h2 : ∀ H, Same Z H → ∃ vs, k2.src K H vs ∧ Ats K Z ys vs) : Walks K (Jz K k1 k2) Z (zipD xs ys) := by
  intro i Z1 H z1 z2
  obtain ⟨vs, a1, a2⟩ := h1 H (z1.trans z2)
  obtain ⟨ws, b1, b2⟩ := h2 H (z1.trans z2)
  refine ⟨fun d hd => ?_, fun hl => ⟨vs, ws, a1, b1, by rw [hl, zipD_len, a2.len, b2.len]⟩⟩
  obtain ⟨x, y, hx, hy, rfl⟩ := zipD_get hd
  obtain ⟨v, c1, c2⟩ := a2.get hx
  obtain ⟨w, d1, d2⟩ := b2.get hy
  refine ⟨⟨vs, ws, v, w, a1, b1, c1, d1⟩, fun u H' yl => ?_⟩
  obtain ⟨T, x', y', rfl, hT, rfl, f1, f2⟩ := yl
  have e1 := f1 vs a1
  have e2 := f2 ws b1
  rw [c1] at e1; rw [d1] at e2
  cases e1; cases e2
  have x := Ext.new (o := HO.tup [v, w]) z2 hT
  exact ⟨_, x, ⟨T, _, rfl, .inl (.inl upd_same), ⟨_, _, rfl, At.mono (z1.trans x.zz) _ _ c2, ⟨_, _, rfl, At.mono (z1.trans x.zz) _ _ d2, rfl⟩⟩⟩⟩
theorem qi_zip {ta : PAx γ} (hg : Gl X "zip") (hm : X.mg "zip" = none) (ha : QA X G [e, e2] ta) (hK : X.K = G.K := by rfl)
    (hs : starEach [e, e2] X.env = (false, eval e X.env) :: starEach [e2] X.env := by rfl) (hpl : (backTo pos (starEach [e2] X.env)).any (·.1) = false := by rfl) : QI X G (.Tuple elts kk tpos) (.Call (.Name "zip" p) [e, e2] [] pos) (qZip ta) := by
  refine ⟨fun pins s σ H R I w => ?_⟩
  obtain ⟨F, Z, sg, Rp, r, t, q⟩ := w
  refine Call_ (ld_blt I hg hm PyProof.Rows.boot_zip (PyProof.Rows.callWith_type1 (thn (ha.run pos pins s σ H (fun vs H1 => ∃ d1 d2 xs ys s1 Z1, Rel G F Z1 s1 σ H1 ∧ Ats G.K Z1 [d1, d2] vs ∧ itemsD d1 = some xs ∧ itemsD d2 = some ys ∧ ∀ J, Walks G.K J Z1 (zipD xs ys) → R J H1) I ⟨F, Z, sg, _, r, t, fun ds s1 Z1 vs H1 t1 k1 r1 a1 => ?_⟩) fun us s1 ⟨vs, H1, I1, rv, d1, d2, xs, ys, sg1, Z1, r1, a1, e1, e2', q1⟩ => ?_) hs hpl))
  · match ds, t1, a1 with
    | [d1, d2], t1, a1 =>
      cases e1 : itemsD d1 with
      | none => simp only [e1] at t1
      | some xs =>
        cases e2' : itemsD d2 with
        | none => simp only [e1, e2'] at t1
        | some ys =>
          simp only [e1, e2'] at t1
          exact ⟨d1, d2, xs, ys, s1, Z1, r1, a1, e1, e2', fun J hJ => q _ s1 Z1 H1 J t1 k1 r1 hJ⟩
  · simp only [Ats] at a1
    obtain ⟨v1, _, rfl, a1, v2, _, rfl, a2, rfl⟩ := a1
    obtain ⟨u1, u2, rfl, rv1, rv2⟩ := vals2 rv
    rw [← hK] at a1 a2
    obtain ⟨k1, rfl, c1⟩ := src_of a1 rv1 e1
    obtain ⟨k2, rfl, c2⟩ := src_of a2 rv2 e2'
    obtain ⟨ws1, g1, g1'⟩ := c1 H1 r1.z
    obtain ⟨ws2, g2, g2'⟩ := c2 H1 r1.z
    obtain ⟨its1, m1, _⟩ := Sk.read I1 g1
    obtain ⟨its2, m2, _⟩ := Sk.read I1 g2
    have l1 := Sk.fp_lt I1 g1
    have l2 := Sk.fp_lt I1 g2
    refine zip_begins2 (k1.begins its1) (k2.begins its2) m1 m2 fun h' hz hTI hTO o1 o2 hsz hk => wpAny_pyIter_zip hz ?_
    have I2 : L2.Inv X pins σ H1 { s1 with heap := h' } := I1.kept (t' := s1.toks) hk
    refine ⟨s1.heap.objs.size + 4, [s1.heap.objs.size + 4, s1.heap.objs.size + 2, s1.heap.objs.size + 3, s1.heap.objs.size, s1.heap.objs.size + 1], _, _, H1, rfl, I2,
      turn_zipG (k1 := k1) (k2 := k2) (zip_sep2 l1 l2) (fun h => absurd (l1 _ h) (Nat.lt_irrefl _)) (fun h => absurd (l2 _ h) (Nat.not_lt_of_le (Nat.le_succ _))), ⟨hz, hTI, ⟨_, _, hTO⟩, Sk.it0 o1, Sk.it0 o2⟩, fun c hcm => ?_, q1 _ (by rw [← hK]; exact walks_zip c1 c2)⟩
    have e' : c = s1.heap.objs.size + 4 ∨ c = s1.heap.objs.size + 2 ∨ c = s1.heap.objs.size + 3 ∨ c = s1.heap.objs.size ∨ c = s1.heap.objs.size + 1 := by simpa using hcm
    have hle : s1.heap.objs.size ≤ c := by
      rcases e' with z | z | z | z | z
      · rw [z]; exact Nat.le_add_right _ _
      · rw [z]; exact Nat.le_add_right _ _
      · rw [z]; exact Nat.le_add_right _ _
      · rw [z]; exact Nat.le_refl _
      · rw [z]; exact Nat.le_add_right _ _
    exact I1.fpOk hle (I1.hok.fresh hle)
theorem walks_range {K : PySem.W.Frag} {Z : Hp} {lo : Int} {n : Nat} : Walks K (Itr lo n) Z ((List.range n).map fun k => .int (lo + (k : Nat))) := by
  intro i Z1 H z1 z2
  refine ⟨fun d hd => ?_, fun hl => (by simpa using Nat.le_of_eq hl.symm : n ≤ i)⟩
  rw [List.getElem?_map] at hd
  by_cases hi : i < n
  · rw [List.getElem?_range hi] at hd
    cases hd
    refine ⟨hi, fun v H' y => ?_⟩
    obtain ⟨e, h2⟩ := y
    subst e; subst h2
    exact ⟨Z1, Ext.refl z2, by simp [At]⟩
  · rw [List.getElem?_eq_none (by simpa using hi)] at hd
    cases hd
def qRange1 (ta : PAx γ) : PAx γ := fun s R => ta s fun ds s1 => match ds with
  | [.int n] => (-(2 ^ 62) ≤ n ∧ n < 2 ^ 62) ∧ R ((List.range n.toNat).map fun k => .int (k : Nat)) s1
  | _ => False
theorem qi_range1 {ta : PAx γ} (hg : Gl X "range") (hm : X.mg "range" = none) (ha : QA X G [e] ta) (hs : starEach [e] X.env = [(false, eval e X.env)] := by rfl) : QI X G tg (.Call (.Name "range" p) [e] [] pos) (qRange1 ta) := by
  refine PI.imp (pi_range1 hg hm ha hs) fun σ H R ⟨F, Z, s, Rp, r, t, q⟩ => ?_
  refine ⟨F, Z, s, _, r, t, fun ds s1 Z1 vs H1 t1 k1 r1 a1 => ?_⟩
  match ds, t1, a1 with
  | [.int n], t1, a1 =>
    simp only [Ats, At] at a1
    obtain ⟨v, _, rfl, rfl, rfl⟩ := a1
    refine ⟨n, rfl, t1.1.1, t1.1.2, q _ s1 Z1 H1 _ t1.2 k1 r1 ?_⟩
    have := walks_range (K := G.K) (Z := Z1) (lo := 0) (n := n.toNat)
    simpa using this
end
end Pm
set_option Elab.async false
set_option linter.all false
set_option maxRecDepth 100000
set_option maxHeartbeats 1000000
set_option autoImplicit false
namespace Pm
open PySem PySem.Spec
open PyProof.Rows hiding St
open L2
variable {γ : Type}

def idx {α : Type} (xs : List α) (i : Int) : Option α := if i < 0 then (if 0 ≤ i + xs.length then xs[(i + xs.length).toNat]? else none) else xs[i.toNat]?
theorem idx_at {α : Type} {xs : List α} {i : Int} {v : α} (h : idx xs i = some v) : atI xs i = some v := by
  unfold idx at h
  unfold atI ixN
  by_cases hi : i < 0
  · rw [if_pos hi] at h
    by_cases h2 : 0 ≤ i + xs.length
    · rw [if_pos h2] at h
      rw [if_neg (by omega), if_pos (by omega)]
      exact h
    · rw [if_neg h2] at h; cases h
  · rw [if_neg hi] at h
    have hl := (List.getElem?_eq_some_iff.mp h).1
    rw [if_pos (by omega), if_pos (by omega)]
    exact h
theorem idx_nat {α : Type} {xs : List α} {i : Nat} {v : α} (h : xs[i]? = some v) : idx xs (i : Int) = some v := by
  unfold idx
  rw [if_neg (by omega), Int.toNat_natCast]; exact h
theorem idx_nat' {α : Type} {xs : List α} {i : Nat} : idx xs (i : Int) = xs[i]? := by
  unfold idx
  rw [if_neg (by omega), Int.toNat_natCast]
theorem Ats.idx {K : PySem.W.Frag} {Z : Hp} {ds : List D} {vs : List V} (h : Ats K Z ds vs) {i : Int} {d : D} (e : Pm.idx ds i = some d) : ∃ v, atI vs i = some v ∧ At K Z d v := by
  have hl := h.len
  unfold Pm.idx at e
  by_cases hi : i < 0
  · rw [if_pos hi] at e
    by_cases h2 : 0 ≤ i + ds.length
    · rw [if_pos h2] at e
      obtain ⟨v, h3, h4⟩ := h.get e
      refine ⟨v, idx_at ?_, h4⟩
      unfold Pm.idx
      rw [if_pos hi, hl, if_pos h2]; exact h3
    · rw [if_neg h2] at e; cases e
  · rw [if_neg hi] at e
    obtain ⟨v, h3, h4⟩ := h.get e
    refine ⟨v, idx_at ?_, h4⟩
    unfold Pm.idx
    rw [if_neg hi]; exact h3
def ixD : D → D → DK → Prop
  | .lst xs, .int i, R => ∃ d, idx xs i = some d ∧ R d
  | .tup xs, .int i, R => ∃ d, idx xs i = some d ∧ R d
  | .str z, .int i, R => z.length ≤ sizeLine ∧ ∃ c, idx z.cps.toList i = some c ∧ R (.str ⟨#[c]⟩)
  | _, _, _ => False
section
variable {X : Cx}
theorem x_ix : IxR X (dOp2 X.K ixD) := by
  intro value slice pins s σ H x y v u Q I rx ry ⟨Z, d, e, R, k, ad, ae, h, q⟩ hs
  cases d <;> cases e <;> try exact h.elim
  · simp only [At] at ad ae
    subst ad; subst ae
    obtain ⟨h1, c, h2, h3⟩ := h
    exact ix_str value slice pins s σ H _ _ v u Q I rx ry ⟨_, _, c, rfl, rfl, h1, idx_at h2, dk q k h3 rfl⟩ hs
  · simp only [At] at ad ae
    obtain ⟨a, vs, rfl, a2, a3⟩ := ad
    subst ae
    obtain ⟨d, h1, h2⟩ := h
    obtain ⟨w, h3, h4⟩ := a3.idx h1
    exact ix_list value slice pins s σ H _ _ v u Q I rx ry ⟨a, vs, _, w, rfl, rfl, .inl (.inl (k _ _ a2)), h3, dk q k h2 h4⟩ hs
  · simp only [At] at ad ae
    obtain ⟨a, vs, rfl, a2, a3⟩ := ad
    subst ae
    obtain ⟨d, h1, h2⟩ := h
    obtain ⟨w, h3, h4⟩ := a3.idx h1
    exact ix_tup value slice pins s σ H _ _ v u Q I rx ry ⟨a, vs, _, w, rfl, rfl, seqT k a2, h3, dk q k h2 h4⟩ hs
end
section
variable {X : Cx} {G : GP γ} {a b e : Expr} {pos : Pos}
theorem qe_ix {ta tb : PEx γ} (ha : QE X G a ta) (hb : QE X G b tb) (hs : PlainIx b := by intro _ _; rfl) (hK : X.K = G.K := by rfl) : QE X G (.Subscript a b pos) (qBin ixD ta tb) :=
  PE.imp (pe_ix x_ix ha hb hs) fun _ _ _ h => by rw [hK]; exact lbin h

end

def BAt (K : PySem.W.Frag) (Z H : Hp) (d : D) (v : V) : Prop := At K Z d v ∨ ∃ ds a vs, d = .lst ds ∧ v = .ref a ∧ H a = some (.lst vs) ∧ Ats K Z ds vs
theorem BAt.dp {K : PySem.W.Frag} {Z H : Hp} (k : Same Z H) {d : D} {v : V} (h : BAt K Z H d v) (p : d.pln = true) : Dp K H v d.py := by
  rcases h with h | ⟨ds, a, vs, rfl, rfl, h1, h2⟩
  · exact At.dp k d v h p
  · simp only [D.pln] at p; simp only [D.py]
    exact .lst (.inl (.inl h1)) (Ats.dp k ds vs h2 p)
def slotD (s : S γ) (i : Nat) : Option D := match s.ρ[i]? with
  | some (some (.val d)) => some d
  | some (some (.own ds)) => some (.lst ds)
  | _ => none
theorem Rel.slot {G : GP γ} {F : Fra} {Z : Hp} {s : S γ} {σ : St} {H : Hp} (r : Rel G F Z s σ H) {i : Nat} {d : D} (h : slotD s i = some d) : ∃ v, σ[i]? = some (some v) ∧ BAt G.K Z H d v := by
  unfold slotD at h
  split at h
  · rename_i d' hd
    cases h
    obtain ⟨v, h1, h2⟩ := r.loc i _ hd
    exact ⟨v, h1, .inl h2⟩
  · rename_i ds hd
    cases h
    obtain ⟨a, vs, h1, h2, h3, _⟩ := r.own i _ hd
    exact ⟨_, h1, .inr ⟨ds, a, vs, rfl, rfl, h2, h3⟩⟩
  · cases h
def dOp2B (K : PySem.W.Frag) (p : D → D → DK → Prop) : R2 := fun x y H Q => ∃ Z d e R, Same Z H ∧ BAt K Z H d x ∧ BAt K Z H e y ∧ p d e R ∧ ∀ z Z' v H', R z → Ext Z H Z' H' → At K Z' z v → Q v H'
section
variable {X : Cx}
theorem b_ne {k : Nat} (hr : Room k X.A) : OpR X (compareOp .NotEq) (dOp2B X.K neD) := by
  intro pins s σ H x y v u Q I rx ry ⟨Z, d, e, R, k, ad, ae, h, q⟩
  rcases h.1.two with ⟨z1, z2, rfl, rfl⟩ | h1
  · have e1 : x = .str z1 := by
      rcases ad with ad | ⟨_, _, _, z, _⟩
      · simpa only [At] using ad
      · cases z
    have e2 : y = .str z2 := by
      rcases ae with ae | ⟨_, _, _, z, _⟩
      · simpa only [At] using ae
      · cases z
    subst e1; subst e2
    refine op_ne pins s σ H _ _ v u Q I rx ry ⟨rfl, ?_⟩
    rw [str_dec]
    exact dk q k h.2 rfl
  refine op_neD hr.units pins s σ H _ _ v u Q I rx ry ⟨d.py, e.py, ad.dp k h1.1, ae.dp k h1.2.1, shaped_py h1.1 h1.2.2.1, shaped_py h1.2.1 h1.2.2.2, ?_⟩
  rw [eqv_py d e h1.1 h1.2.1]
  exact dk q k h.2 rfl
end
section
variable {X : Cx} {G : GP γ} {a b e : Expr} {pos : Pos} {i : Nat} {x : Str} {xp : Pos}
def qBinN1 (p : D → D → DK → Prop) (i : Nat) (tb : PEx γ) : PEx γ := fun s R => (slotD s i).isSome = true ∧ tb s fun y s1 => ∃ d, slotD s1 i = some d ∧ p d y fun z => R z s1
theorem lbinN1 {p : D → D → DK → Prop} {tb : PEx γ} {σ : St} {H : Hp} {Q : VK} (h : lE G (qBinN1 p i tb) σ H Q) : tOp (dOp2B G.K p) (tVar i) (lE G tb) σ H Q := by
  obtain ⟨F, Z, s, R, r, ⟨t0, t⟩, q⟩ := h
  obtain ⟨d0, hd0⟩ := Option.isSome_iff_exists.mp t0
  obtain ⟨v, hv, _⟩ := r.slot hd0
  refine ⟨v, hv, F, Z, s, _, r, t, fun y s1 Z1 vy H1 t1 k1 r1 a1 => ?_⟩
  obtain ⟨d, hd, t1⟩ := t1
  obtain ⟨v', hv', bd⟩ := r1.slot hd
  rw [hv] at hv'; cases hv'
  exact ⟨Z1, d, y, _, r1.z, bd, .inl a1, t1, fun z Z3 v3 H3 t3 x3 a3 => q z s1 Z3 v3 H3 t3 (k1.trans x3.zz) (r1.ext x3) a3⟩
theorem qt_cmpN1 {op : CmpOp} {p : D → D → DK → Prop} {tb : PEx γ} (ho : OpR X (compareOp op) (dOp2B G.K p)) (hn : PE X a (tVar i)) (hb : QE X G b tb) (hm : behindInMarks op b = false) : QT X G (.Compare a [op] [b] pos) (qB (qBinN1 p i tb)) :=
  PT.imp (pt_cmpR ho hn hb hm) fun _ _ _ h => lB (te := tOp (dOp2B G.K p) (tVar i) (lE G tb)) (fun _ _ _ h => lbinN1 h) h
def cut {α : Type} (xs : List α) (lo hi : Option Int) : List α := (xs.drop (HT.sIx xs.length 0 lo)).take (HT.sIx xs.length xs.length hi - HT.sIx xs.length 0 lo)
theorem cut_from {α : Type} (xs : List α) (k : Nat) : cut xs (some (k : Int)) none = xs.drop k := by
  unfold cut
  rw [HT.sIx_nat, HT.sIx_none]
  by_cases h : k ≤ xs.length
  · rw [Nat.min_eq_left h, List.take_of_length_le (by rw [List.length_drop]; omega)]
  · rw [Nat.min_eq_right (by omega), List.drop_eq_nil_of_le (Nat.le_refl _), List.drop_eq_nil_of_le (by omega)]; simp
theorem cut_to {α : Type} (xs : List α) (k : Nat) : cut xs none (some (k : Int)) = xs.take k := by
  unfold cut
  rw [HT.sIx_none, HT.sIx_nat, List.drop_zero, Nat.sub_zero]
  by_cases h : k ≤ xs.length
  · rw [Nat.min_eq_left h]
  · rw [Nat.min_eq_right (by omega), List.take_of_length_le (Nat.le_refl _), List.take_of_length_le (by omega)]
theorem Ats.cut {K : PySem.W.Frag} {Z : Hp} {ds : List D} {vs : List V} (h : Ats K Z ds vs) (lo hi : Option Int) : Ats K Z (Pm.cut ds lo hi) (cutV vs lo hi) := by
  unfold Pm.cut cutV
  rw [h.len]
  exact (h.drop _).take _
theorem getItem_tuple_whole {prog : Program} {w : World} {A : Around} {E : Value → Shared → Prop} {s : Shared} {t sl : Addr} {items : Array Value} {vl vu : Value} {lo hi : Option Int} {Q : Value → Shared → Prop} (ht : IsTup s.heap t items) (hs : s.heap.IsSliceOf sl vl vu .none) (pl : IsPart vl lo) (pu : IsPart vu hi)
    (hw : HT.sIx items.size 0 lo = 0 ∧ HT.sIx items.size items.size hi = items.size) (h : Q (.ref t) s) : wpAny (model prog w) A (getItem (.ref t) (.ref sl)) Q E s := by
  obtain ⟨os, hos, hcs, hds⟩ := id hs
  have hTs : s.TypeIs (.ref sl) "slice" := ⟨os, hos, hcs⟩
  unfold getItem
  try with_reducible refine wpAny_holding ?_
  first | refine wpAny_bind (wpAny_pure ?_) | skip
  refine wpAny_bind (wpAny_sequenceKey ht.typeIs (by decide) ?_)
  refine wpAny_bind (wpAny_callSpecial?_slot (name := Str.ofString "__getitem__") ht.typeIs PyProof.Rows.slot_tuple_getitem
    (wpAny_call_entry PyProof.Rows.slot_tuple_getitem ht.typeIs entry_tuple_getitem ?_ (args_tuple_getitem _ _)))
  show wpAny _ _ (Builtin.Tuple.tupleItemsOf (.ref t) >>= _) _ _ s
  refine wpAny_bind (tupleItemsOf_ ht ?_)
  refine wpAny_bind (wpAny_typeOf hTs ?_)
  rw [if_pos (by decide)]
  refine wpAny_bind (HT.sliceApplied_gen hs pl pu ?_)
  have hno : ((((HT.sIx items.size 0 lo : Nat) : Int) == 0 && (1 : Int) == 1 && (HT.sIx items.size items.size hi - HT.sIx items.size 0 lo) == items.size) = true) := by
    rw [hw.1, hw.2]; simp
  show wpAny _ _ (if (((HT.sIx items.size 0 lo : Nat) : Int) == 0 && (1 : Int) == 1 && (HT.sIx items.size items.size hi - HT.sIx items.size 0 lo) == items.size) = true then _ else _) _ _ s
  rw [if_pos hno]
  unfold Builtin.Tuple.tupleIsExact
  refine wpAny_bind (wpAny_bind (wpAny_typeOf ht.typeIs (wpAny_pure ?_)))
  rw [if_pos (by decide)]
  refine wpAny_bind (wpAny_rule ?_)
  exact wpAny_pure ⟨_, rfl, wpAny_pure h⟩
end
def sliceD (d : D) (lo hi : Option Int) (R : DK) : Prop := match d with
  | .lst xs => R (.lst (cut xs lo hi))
  | .tup xs => R (.tup (cut xs lo hi))
  | .str z => z.length ≤ sizeLine ∧ R (.str (cutS z lo hi))
  | _ => False
def dSl (K : PySem.W.Frag) (p : D → Option Int → Option Int → DK → Prop) : V → Option Int → Option Int → Hp → VK → Prop := fun x lo hi H Q => ∃ Z d R, Same Z H ∧ At K Z d x ∧ p d lo hi R ∧ ∀ z Z' v H', R z → Ext Z H Z' H' → At K Z' z v → Q v H'
section
variable {X : Cx}
theorem x_slice : SlR X (dSl X.K sliceD) := by
  intro pins s σ H x v vl vu lo hi sl Q I rx hs pl pu ⟨Z, d, R, k, ad, h, q⟩
  cases d <;> try exact h.elim
  · simp only [At] at ad
    subst ad
    exact sl_str pins s σ H _ v vl vu lo hi sl Q I rx hs pl pu ⟨_, rfl, h.1, dk q k h.2 rfl⟩
  · simp only [At] at ad
    obtain ⟨a, vs, rfl, a2, a3⟩ := ad
    refine sl_list pins s σ H _ v vl vu lo hi sl Q I rx hs pl pu ⟨a, vs, rfl, .inl (.inl (k _ _ a2)), fun p hp => ?_⟩
    have x := Ext.new (o := HO.lst (cutV vs lo hi)) k hp
    exact q _ _ _ _ h x ⟨p, _, rfl, upd_same, (Ats.mono x.zz _ _ a3).cut lo hi⟩
  · simp only [At] at ad
    obtain ⟨a, vs, rfl, a2, a3⟩ := ad
    by_cases hw : HT.sIx vs.length 0 lo = 0 ∧ HT.sIx vs.length vs.length hi = vs.length
    · cases rx
      obtain ⟨its, r, ht, hz⟩ := I.tuple (seqT k a2)
      have hlen : its.toArray.size = vs.length := by rw [List.size_toArray]; exact r.length.symm
      refine ⟨"tuple", _, PyProof.Rows.slot_tuple_getitem.lookup, ht.typeIs, ?_⟩
      refine getItem_tuple_whole ht hs pl pu (by rw [hlen]; exact hw) ⟨.ref a, H, I, rfl, ?_⟩
      refine dk (d := .tup _) q k h (show At X.K Z (.tup _) _ from ⟨a, vs, rfl, a2, ?_⟩)
      have e : cutV vs lo hi = vs := by
        unfold cutV
        rw [hw.1, hw.2, List.drop_zero, Nat.sub_zero, List.take_of_length_le (Nat.le_refl _)]
      have := a3.cut lo hi
      rw [e] at this; exact this
    · refine sl_tup pins s σ H _ v vl vu lo hi sl Q I rx hs pl pu ⟨a, vs, rfl, seqT k a2, hw, fun p hp => ?_⟩
      have x := Ext.new (o := HO.tup (cutV vs lo hi)) k hp
      exact q _ _ _ _ h x ⟨p, _, rfl, .inl (.inl upd_same), (Ats.mono x.zz _ _ a3).cut lo hi⟩
end
section
variable {X : Cx} {G : GP γ} {a b e : Expr} {pos p2 : Pos} {lo hi : Option Expr}
def qNoPart : POx γ := fun s R => R none s
def qPart (te : PEx γ) : POx γ := fun s R => te s fun d s1 => match d with
  | .int i => R (some i) s1
  | _ => False
theorem qo_none : QO X G none (qNoPart : POx γ) := PO.imp po_none fun σ H Q ⟨F, Z, s, R, r, t, q⟩ => q none s Z H t (Same.refl _) r
theorem qo_some {te : PEx γ} (h : QE X G e te) : QO X G (some e) (qPart te) := by
  refine PO.imp (po_some h) fun σ H Q ⟨F, Z, s, R, r, t, q⟩ => ?_
  refine ⟨F, Z, s, _, r, t, fun d s1 Z1 v H1 t1 k1 r1 a1 => ?_⟩
  cases d with
  | int i => exact ⟨i, a1, q _ s1 Z1 H1 t1 k1 r1⟩
  | _ => exact t1.elim
def qSl (te : PEx γ) (tl th : POx γ) : PEx γ := fun s R => te s fun d s1 => tl s1 fun l s2 => th s2 fun h s3 => sliceD d l h fun z => R z s3
theorem qe_slice {te : PEx γ} {tl th : POx γ} (he : QE X G e te) (hl : QO X G lo tl) (hu : QO X G hi th) (hK : X.K = G.K := by rfl) : QE X G (.Subscript e (.Slice lo hi none p2) pos) (qSl te tl th) := by
  refine PE.imp (pe_slice x_slice he hl hu) fun σ H Q ⟨F, Z, s, R, r, t, q⟩ => ?_
  refine ⟨F, Z, s, _, r, t, fun d s1 Z1 v1 H1 t1 k1 r1 a1 => ⟨F, Z1, s1, _, r1, t1, fun l s2 Z2 H2 t2 k2 r2 => ⟨F, Z2, s2, _, r2, t2, fun h s3 Z3 H3 t3 k3 r3 => ?_⟩⟩⟩
  refine ⟨Z3, d, _, r3.z, by rw [hK]; exact At.mono (k2.trans k3) _ _ a1, t3, fun z Z4 v H4 t4 x4 a4 => q z s3 Z4 v H4 t4 (((k1.trans k2).trans k3).trans x4.zz) (r3.ext x4) (by rw [hK] at a4; exact a4)⟩
end

section
variable {X : Cx}
theorem Ats.one {K : PySem.W.Frag} {Z : Hp} {d : D} {vs : List V} (h : Ats K Z [d] vs) : ∃ v, vs = [v] ∧ At K Z d v := by
  simp only [Ats] at h
  obtain ⟨v, _, rfl, h, rfl⟩ := h
  exact ⟨v, rfl, h⟩
theorem Ats.two {K : PySem.W.Frag} {Z : Hp} {d e : D} {vs : List V} (h : Ats K Z [d, e] vs) : ∃ v w, vs = [v, w] ∧ At K Z d v ∧ At K Z e w := by
  simp only [Ats] at h
  obtain ⟨v, _, rfl, h, w, _, rfl, h', rfl⟩ := h
  exact ⟨v, w, rfl, h, h'⟩
def fn1 (p : D → DK → Prop) : List D → DK → Prop
  | [d], R => p d R
  | _, _ => False
theorem c1 {f : Value} {p : D → DK → Prop} (h : ∀ (pins : List (Addr × Obj)) (s : Shared) (σ : St) (H Z : Hp) (d : D) (v : V) (us : List Value) (Q : VK) (R : DK), L2.Inv X pins σ H s → Vals [v] us → Same Z H → At X.K Z d v → p d R → (∀ z Z' v H', R z → Ext Z H Z' H' → At X.K Z' z v → Q v H') →
    wpAny (model X.prog X.w) X.A (call f us) (EP X pins σ Q) X.xe s) : CallR X f (dCall X.K (fn1 p)) := by
  intro pins s σ H xs us Q I r ⟨Z, ds, R, k, a, w, q⟩
  obtain ⟨d, rfl, w⟩ : ∃ d, ds = [d] ∧ p d R := by
    cases ds with
    | nil => exact w.elim
    | cons d ds => cases ds with
      | nil => exact ⟨d, rfl, w⟩
      | cons => exact w.elim
  obtain ⟨v, rfl, a1⟩ := Ats.one a
  exact h pins s σ H Z d v us Q R I r k a1 w q
def lenD : D → DK → Prop
  | .lst xs, R => R (.int xs.length)
  | .tup xs, R => R (.int xs.length)
  | .str x, R => x.length ≤ sizeLine ∧ R (.int x.length)
  | _, _ => False
theorem c_len : CallR X (.builtin "len") (dCall X.K (fn1 lenD)) := c1 fun pins s σ H Z d v us Q R I r k a w q => by
  cases d <;> try exact w.elim
  · simp only [At] at a; subst a
    exact call_len_str pins s σ H _ us Q I r ⟨_, rfl, w.1, dk q k w.2 rfl⟩
  · simp only [At] at a
    obtain ⟨p, vs, rfl, a2, a3⟩ := a
    exact call_len_seq pins s σ H _ us Q I r ⟨p, vs, rfl, .inl (.inl (.inl (k _ _ a2))), dk q k w (by simp [At, a3.len])⟩
  · simp only [At] at a
    obtain ⟨p, vs, rfl, a2, a3⟩ := a
    exact call_len_seq pins s σ H _ us Q I r ⟨p, vs, rfl, .inr (seqT k a2), dk q k w (by simp [At, a3.len])⟩
def absD : D → DK → Prop
  | .int i, R => R (.int i.natAbs)
  | _, _ => False
theorem c_abs : CallR X (.builtin "abs") (dCall X.K (fn1 absD)) := c1 fun pins s σ H Z d v us Q R I r k a w q => by
  cases d <;> try exact w.elim
  simp only [At] at a; subst a
  rename_i i
  refine call_abs pins s σ H _ us Q I r ⟨i, rfl, dk q k w ?_⟩
  have e : (i.natAbs : Int) = if i < 0 then -i else i := by split <;> omega
  rw [e]; rfl
def intD : D → DK → Prop
  | .int i, R => R (.int i)
  | .bl b, R => R (.int (if b = true then 1 else 0))
  | _, _ => False
theorem c_int : CallR X (.type "int") (dCall X.K (fn1 intD)) := c1 fun pins s σ H Z d v us Q R I r k a w q => by
  cases d <;> try exact w.elim
  · simp only [At] at a; subst a
    exact call_int1 pins s σ H _ us Q I r (.inr ⟨_, rfl, dk q k w rfl⟩)
  · simp only [At] at a; subst a
    exact call_int1 pins s σ H _ us Q I r (.inl ⟨_, rfl, dk q k w rfl⟩)
def tupleD : D → DK → Prop
  | .lst xs, R => R (.tup xs)
  | .tup xs, R => R (.tup xs)
  | _, _ => False
theorem c_tuple : CallR X (.type "tuple") (dCall X.K (fn1 tupleD)) := c1 fun pins s σ H Z d v us Q R I r k a w q => by
  cases d <;> try exact w.elim
  · simp only [At] at a
    obtain ⟨p, vs, rfl, a2, a3⟩ := a
    refine call_tuple_of pins s σ H _ us Q I r ⟨p, vs, rfl, .inl ⟨.inl (.inl (k _ _ a2)), fun l hl => ?_⟩⟩
    have x := Ext.new (o := HO.tup vs) k hl
    exact q _ _ _ _ w x ⟨l, _, rfl, .inl (.inl upd_same), Ats.mono x.zz _ _ a3⟩
  · simp only [At] at a
    obtain ⟨p, vs, rfl, a2, a3⟩ := a
    exact call_tuple_of pins s σ H _ us Q I r ⟨p, vs, rfl, .inr ⟨seqT k a2, dk q k w ⟨p, vs, rfl, a2, a3⟩⟩⟩
def asInts : List D → Option (List Int)
  | [] => some []
  | .int i :: ds => (asInts ds).map (i :: ·)
  | _ :: _ => none
theorem asInts_eq : ∀ {ds : List D} {ns : List Int}, asInts ds = some ns → ds = ns.map D.int
  | [], ns, h => by simp [asInts] at h; subst h; rfl
  | .int i :: ds, ns, h => by
    simp only [asInts, Option.map_eq_some_iff] at h
    obtain ⟨ms, h1, rfl⟩ := h
    rw [asInts_eq h1]; rfl
  | .non :: _, _, h => by simp [asInts] at h
  | .bl _ :: _, _, h => by simp [asInts] at h
  | .str _ :: _, _, h => by simp [asInts] at h
  | .lst _ :: _, _, h => by simp [asInts] at h
  | .tup _ :: _, _, h => by simp [asInts] at h
  | .dct _ _ :: _, _, h => by simp [asInts] at h
  | .obj _ :: _, _, h => by simp [asInts] at h
theorem asInts_map : ∀ ns : List Int, asInts (ns.map D.int) = some ns
  | [] => rfl
  | n :: ns => by simp [asInts, asInts_map ns]
def asBls : List D → Option (List Bool)
  | [] => some []
  | .bl i :: ds => (asBls ds).map (i :: ·)
  | _ :: _ => none
theorem asBls_eq : ∀ {ds : List D} {ns : List Bool}, asBls ds = some ns → ds = ns.map D.bl
  | [], ns, h => by simp [asBls] at h; subst h; rfl
  | .bl i :: ds, ns, h => by
    simp only [asBls, Option.map_eq_some_iff] at h
    obtain ⟨ms, h1, rfl⟩ := h
    rw [asBls_eq h1]; rfl
  | .non :: _, _, h => by simp [asBls] at h
  | .int _ :: _, _, h => by simp [asBls] at h
  | .str _ :: _, _, h => by simp [asBls] at h
  | .lst _ :: _, _, h => by simp [asBls] at h
  | .tup _ :: _, _, h => by simp [asBls] at h
  | .dct _ _ :: _, _, h => by simp [asBls] at h
  | .obj _ :: _, _, h => by simp [asBls] at h
theorem asBls_map : ∀ ns : List Bool, asBls (ns.map D.bl) = some ns
  | [] => rfl
  | n :: ns => by simp [asBls, asBls_map ns]
def sumD : D → DK → Prop
  | .lst xs, R => ∃ ns, asInts xs = some ns ∧ R (.int ns.sum)
  | _, _ => False
theorem c_sum (hc : X.calm = true) : CallR X (.builtin "sum") (dCall X.K (fn1 sumD)) := c1 fun pins s σ H Z d v us Q R I r k a w q => by
  cases d <;> try exact w.elim
  obtain ⟨ns, e, w⟩ := w
  rw [asInts_eq e] at a
  simp only [At] at a
  obtain ⟨p, vs, rfl, a2, a3⟩ := a
  rw [a3.ints] at a2
  exact cr_sum hc pins s σ H _ us Q I r ⟨p, ns, rfl, .inl (.inl (k _ _ a2)), dk q k w rfl⟩
def allD : D → DK → Prop
  | .lst xs, R => ∃ bs, asBls xs = some bs ∧ R (.bl (bs.all id))
  | _, _ => False
theorem c_all (hc : X.calm = true) : CallR X (.builtin "all") (dCall X.K (fn1 allD)) := c1 fun pins s σ H Z d v us Q R I r k a w q => by
  cases d <;> try exact w.elim
  obtain ⟨ns, e, w⟩ := w
  rw [asBls_eq e] at a
  simp only [At] at a
  obtain ⟨p, vs, rfl, a2, a3⟩ := a
  rw [a3.bls] at a2
  exact cr_all hc pins s σ H _ us Q I r ⟨p, ns, rfl, .inl (.inl (k _ _ a2)), dk q k w rfl⟩
def maxL : D → DK → Prop
  | .lst xs, R => ∃ ns, asInts xs = some ns ∧ 0 < ns.length ∧ ∀ m, m ∈ ns → (∀ y, y ∈ ns → y ≤ m) → R (.int m)
  | _, _ => False
def fn2 (p : D → D → DK → Prop) : List D → DK → Prop
  | [d, e], R => p d e R
  | _, _ => False
theorem c2 {f : Value} {p : D → D → DK → Prop} (h : ∀ (pins : List (Addr × Obj)) (s : Shared) (σ : St) (H Z : Hp) (d e : D) (v w : V) (us : List Value) (Q : VK) (R : DK), L2.Inv X pins σ H s → Vals [v, w] us → Same Z H → At X.K Z d v → At X.K Z e w → p d e R → (∀ z Z' v H', R z → Ext Z H Z' H' → At X.K Z' z v → Q v H') →
    wpAny (model X.prog X.w) X.A (call f us) (EP X pins σ Q) X.xe s) : CallR X f (dCall X.K (fn2 p)) := by
  intro pins s σ H xs us Q I r ⟨Z, ds, R, k, a, w, q⟩
  obtain ⟨d, e, rfl, w⟩ : ∃ d e, ds = [d, e] ∧ p d e R := by
    cases ds with
    | nil => exact w.elim
    | cons d ds => cases ds with
      | nil => exact w.elim
      | cons e ds => cases ds with
        | nil => exact ⟨d, e, rfl, w⟩
        | cons => exact w.elim
  obtain ⟨v, u, rfl, a1, a2⟩ := Ats.two a
  exact h pins s σ H Z d e v u us Q R I r k a1 a2 w q
abbrev max2 := intD0 fun i j => .int (max i j)
abbrev min2 := intD0 fun i j => .int (min i j)
theorem c_max (hc : X.calm = true) : CallR X (.builtin "max") (dCall X.K (fn1 maxL)) := c1 fun pins s σ H Z d v us Q R I r k a w q => by
  cases d <;> try exact w.elim
  obtain ⟨ns, e, hl, w⟩ := w
  rw [asInts_eq e] at a
  simp only [At] at a
  obtain ⟨p, vs, rfl, a2, a3⟩ := a
  rw [a3.ints] at a2
  exact cr_max hc pins s σ H _ us Q I r ⟨p, ns, rfl, .inl (.inl (k _ _ a2)), hl, fun m h1 h2 => dk q k (w m h1 h2) rfl⟩
theorem c_max2 (hc : X.calm = true) : CallR X (.builtin "max") (dCall X.K (fn2 max2)) := c2 fun pins s σ H Z d e v u us Q R I r k a b w q => by
  cases d <;> cases e <;> try exact w.elim
  simp only [At] at a b; subst a; subst b
  rename_i i j
  refine call_max2 hc pins s σ H _ us Q I r ⟨i, j, rfl, dk q k w ?_⟩
  show V.int _ = V.int _
  congr 1
  split <;> omega
theorem c_min2 (hc : X.calm = true) : CallR X (.builtin "min") (dCall X.K (fn2 min2)) := c2 fun pins s σ H Z d e v u us Q R I r k a b w q => by
  cases d <;> cases e <;> try exact w.elim
  simp only [At] at a b; subst a; subst b
  rename_i i j
  refine call_min2 hc pins s σ H _ us Q I r ⟨i, j, rfl, dk q k w ?_⟩
  show V.int _ = V.int _
  congr 1
  split <;> omega
def isTy (T : String) : D → Bool
  | .non => T == "NoneType"
  | .bl _ => T == "bool" || T == "int"
  | .int _ => T == "int"
  | .str _ => T == "str"
  | .lst _ => T == "list"
  | .tup _ => T == "tuple"
  | .dct _ _ => T == "dict"
  | .obj _ => false
def tyOf : D → String
  | .non => "NoneType" | .bl _ => "bool" | .int _ => "int" | .str _ => "str" | .lst _ => "list" | .tup _ => "tuple" | .dct _ _ => "dict" | .obj _ => ""
theorem tyX_of {K : PySem.W.Frag} {Z H : Hp} (k : Same Z H) {d : D} {v : V} (a : At K Z d v) (ho : ∀ p, d ≠ .obj p) : TyX K H v (.type (tyOf d)) := by
  cases d <;> simp only [At] at a
  · subst a; exact .base .non
  · subst a; exact .base (.bl _)
  · subst a; exact .base (.int _)
  · subst a; exact .base (.str _)
  · obtain ⟨p, vs, rfl, a2, _⟩ := a; exact .base (.lst (k _ _ a2))
  · obtain ⟨p, vs, rfl, a2, _⟩ := a
    rcases a2 with (a2 | ⟨o, a2⟩) | ⟨o, its, n, a2, c, _⟩
    · exact .base (.tup (k _ _ a2))
    · exact .fTuple (k _ _ a2)
    · exact .kTuple a2 c
  · obtain ⟨p, vs, rfl, a2, _⟩ := a; exact .base (.dK (k _ _ a2))
  · exact absurd rfl (ho _)
end
section
variable {X : Cx} {G : GP γ} {e : Expr} {pos p p2 : Pos}
def qIsi (T : String) (te : PEx γ) : PEx γ := fun s R => te s fun d s1 => (∀ p, d ≠ .obj p) ∧ R (.bl (isTy T d)) s1
theorem kit_all (K : PySem.W.Frag) {T : String} (hT : T = "int" ∨ T = "bool" ∨ T = "str" ∨ T = "tuple" ∨ T = "list" ∨ T = "dict") (d : D) (ho : ∀ p, d ≠ .obj p) : PySem.W.kitOne K (.type (tyOf d)) (.type T) = some (isTy T d) := by
  cases d with
  | obj p => exact absurd rfl (ho p)
  | _ => rcases hT with rfl | rfl | rfl | rfl | rfl | rfl <;> exact kit_ty (by simp only [tyOf, isTy]; decide +kernel)
theorem qe_isi {T : Str} {T' : String} {te : PEx γ} (hT : T' = "int" ∨ T' = "bool" ∨ T' = "str" ∨ T' = "tuple" ∨ T' = "list" ∨ T' = "dict") (he : QE X G e te) (hg : Gl X "isinstance") (hm : X.mg "isinstance" = none) (hg2 : Gl X T) (hm2 : X.mg T = none) (hv2 : bootBuiltins T = some (.type T')) (hK : X.K = G.K := by rfl)
    (hn : T ≠ "__name__" := by decide) (hd : (T == ("__debug__" : Str)) = false := by decide)
    (hs : starEach [e, .Name T p2] X.env = (false, eval e X.env) :: starEach [.Name T p2] X.env := by rfl) (hs2 : starEach [.Name T p2] X.env = (false, eval (.Name T p2) X.env) :: starEach [] X.env := by rfl) (hpl : (backTo pos (starEach [.Name T p2] X.env)).any (·.1) = false := by rfl) :
    QE X G (.Call (.Name "isinstance" p) [e, .Name T p2] [] pos) (qIsi T' te) := by
  refine PE.imp (pe_callB call_isi hg hm (by decide +kernel) (pa_cons he (pa_cons (pe_bltn (v := .ty T') hg2 hm2 hv2 rfl hn hd) pa_nil hs2) hs) (by decide) (by decide) hs hpl) fun σ H Q ⟨F, Z, s, R, r, t, q⟩ => ?_
  refine ⟨F, Z, s, _, r, t, fun d s1 Z1 v H1 t1 k1 r1 a1 => ?_⟩
  exact ⟨v, .ty T', .type (tyOf d), .type T', isTy T' d, rfl, .ty _, by rw [hK]; exact tyX_of r1.z a1 t1.1, kit_all _ hT d t1.1, q _ s1 Z1 _ H1 t1.2 k1 r1 rfl⟩

variable {i : Nat} {o : Expr} {apos cpos : Pos}
theorem own_ty {K : PySem.W.Frag} {H : Hp} {a : Addr} {vs : List V} (h : H a = some (.lst vs)) : tyV K "list" (.ref a) H := .inl ⟨rfl, vs, .inl (.inl h)⟩
def qAppend (i : Nat) (te : PEx γ) : PEx γ := fun s R => (∃ es, s.ρ[i]? = some (some (.own es))) ∧ te s fun d s1 => ∃ ds, s1.ρ[i]? = some (some (.own ds)) ∧ ds.length < sizeLine ∧ R .non ⟨s1.ρ.set i (some (.own (ds ++ [d]))), s1.g⟩
theorem qe_append {te : PEx γ} (hn : PE X o (tVar i)) (he : QE X G e te)
    (hbase : attributeBase o "append" X.env (eval o X.env) = eval o X.env := by rfl)
    (hfew : ((backTo cpos (starEach [e] X.env)).all (fun x => !x.1) && (backToKw cpos (keywordEach [] X.env)).all (fun x => x.1.isSome)
      && decide (([e] : List Expr).length + ([] : List Keyword).length + (if ([] : List Keyword).isEmpty then 0 else 1) < 30)) = true := by rfl)
    (hline : (apos.endLine == cpos.line) = true := by rfl) (hs : starEach [e] X.env = (false, eval e X.env) :: starEach [] X.env := by rfl) (hplain : (backTo cpos (starEach [] X.env)).any (·.1) = false := by rfl) :
    QE X G (.Call (.Attribute o "append" apos) [e] [] cpos) (qAppend i te) := by
  refine PE.imp (pe_bm PySem.F.plainAttrs_list PySem.F.slot_list_append PySem.F.type_list_append mt_append hn (pa_cons he pa_nil hs) hbase hfew hline hs hplain) fun σ H Q ⟨F, Z, s, R, r, ⟨⟨es, t0⟩, t⟩, q⟩ => ?_
  obtain ⟨a, vs, h1, h2, _⟩ := r.own i es t0
  refine ⟨.ref a, h1, own_ty h2, F, Z, s, _, r, t, fun d s1 Z1 v H1 ⟨ds, t1, t2, t3⟩ k1 r1 a1 => ?_⟩
  obtain ⟨a', vs', g1, g2, g3, _⟩ := r1.own i ds t1
  rw [h1] at g1; cases g1
  have g4 : Ats G.K Z1 (ds ++ [d]) (vs' ++ [v]) := g3.append ⟨v, [], rfl, a1, rfl⟩
  exact ⟨a, vs', v, rfl, rfl, g2, by rw [g3.len]; exact t2, q _ _ Z1 _ _ t3 k1 (r1.write t1 h1 g4) rfl⟩
def qPop (i : Nat) : PEx γ := fun s R => ∃ ds d, s.ρ[i]? = some (some (.own ds)) ∧ ds[ds.length - 1]? = some d ∧ R d ⟨s.ρ.set i (some (.own ds.dropLast)), s.g⟩
theorem Ats.dropLast {K : PySem.W.Frag} {Z : Hp} {ds : List D} {vs : List V} (h : Ats K Z ds vs) : Ats K Z ds.dropLast vs.dropLast := by
  rw [List.dropLast_eq_take, List.dropLast_eq_take, h.len]
  exact h.take _
theorem qe_pop (hn : PE X o (tVar i)) (hbase : attributeBase o "pop" X.env (eval o X.env) = eval o X.env := by rfl) (hline : (apos.endLine == cpos.line) = true := by rfl) : QE X G (.Call (.Attribute o "pop" apos) [] [] cpos) (qPop i) := by
  refine PE.imp (pe_bm0 PySem.F.plainAttrs_list PySem.F.slot_list_pop PySem.F.type_list_pop mt_pop hn hbase hline) fun σ H Q ⟨F, Z, s, R, r, ⟨ds, d, t1, t2, t3⟩, q⟩ => ?_
  obtain ⟨a, vs, h1, h2, h3, _⟩ := r.own i ds t1
  obtain ⟨v, h4, h5⟩ := h3.get t2
  exact ⟨.ref a, h1, own_ty h2, a, vs, v, rfl, rfl, h2, by rw [h3.len]; exact h4, q _ _ Z _ _ t3 (Same.refl _) (r.write t1 h1 h3.dropLast) h5⟩
def qExtend (i : Nat) (te : PAx γ) : PEx γ := fun s R => (∃ es, s.ρ[i]? = some (some (.own es))) ∧ te s fun es s1 => ∃ ds, s1.ρ[i]? = some (some (.own ds)) ∧ ds.length + es.length ≤ sizeLine ∧ R .non ⟨s1.ρ.set i (some (.own (ds ++ es))), s1.g⟩
theorem qe_extend {te : PAx γ} (hn : PE X o (tVar i)) (he : QF X G e te)
    (hbase : attributeBase o "extend" X.env (eval o X.env) = eval o X.env := by rfl)
    (hfew : ((backTo cpos (starEach [e] X.env)).all (fun x => !x.1) && (backToKw cpos (keywordEach [] X.env)).all (fun x => x.1.isSome)
      && decide (([e] : List Expr).length + ([] : List Keyword).length + (if ([] : List Keyword).isEmpty then 0 else 1) < 30)) = true := by rfl)
    (hline : (apos.endLine == cpos.line) = true := by rfl) (hs : starEach [e] X.env = (false, eval e X.env) :: starEach [] X.env := by rfl) (hplain : (backTo cpos (starEach [] X.env)).any (·.1) = false := by rfl) :
    QE X G (.Call (.Attribute o "extend" apos) [e] [] cpos) (qExtend i te) := by
  refine PE.imp (pe_bm PySem.F.plainAttrs_list PySem.F.slot_list_extend PySem.F.type_list_extend mt_extend hn (pa_cons he pa_nil hs) hbase hfew hline hs hplain) fun σ H Q ⟨F, Z, s, R, r, ⟨⟨es, t0⟩, t⟩, q⟩ => ?_
  obtain ⟨a, vs, h1, h2, _⟩ := r.own i es t0
  refine ⟨.ref a, h1, own_ty h2, F, Z, s, _, r, t, fun zs s1 Z1 b ws H1 ⟨ds, t1, t2, t3⟩ k1 r1 hb ab hz hf hg ho => ?_⟩
  obtain ⟨a', vs', g1, g2, g3, _⟩ := r1.own i ds t1
  rw [h1] at g1; cases g1
  exact ⟨a, b, vs', ws, rfl, rfl, g2, hb, by rw [g3.len, ab.len]; exact t2, q _ _ Z1 _ _ t3 k1 (r1.write t1 h1 (g3.append ab)) rfl⟩
def qSetItem (tv : PEx γ) (i : Nat) (te : PEx γ) : PSx γ := fun E s => tv s fun d s1 => (∃ es, s1.ρ[i]? = some (some (.own es))) ∧ te s1 fun y s2 => match y with
  | .int k => ∃ ds j, s2.ρ[i]? = some (some (.own ds)) ∧ ixN ds.length k = some j ∧ E.nx ⟨s2.ρ.set i (some (.own (ds.set j d))), s2.g⟩
  | _ => False
theorem qs_setItem {v b : Expr} {tv tb : PEx γ} {tpos : Pos} (hv : QE X G v tv) (hn : PE X o (tVar i)) (hb : QE X G b tb) (hs : swapsWithSole [.Subscript o b tpos] v pos.line X.env = pure false := by rfl) (hw : swappedStores [.Subscript o b tpos] v X.env = pure none := by rfl)
    (h1 : (assignEach [.Subscript o b tpos] X.env).map (·.2) = [assign (.Subscript o b tpos) X.env] := by rfl)
    (ha : ∀ v, assign (.Subscript o b tpos) X.env v = (do
      let ov ← holding [v] (eval o X.env)
      let iv ← holding [v, ov] (eval b X.env)
      standAt tpos
      holding [v, ov, iv] (setItem ov iv v)
      release [v, ov, iv] []) := by intro _; rfl) : QS X G (.Assign [.Subscript o b tpos] v pos) (qSetItem tv i tb) := by
  refine PS.imp (ps_asg hv (pg_sub hn hb set_list ha) hs hw h1) fun De σ H ⟨F, Z, s, E, r, t, n, _⟩ => ?_
  refine ⟨F, Z, s, _, r, t, fun d s1 Z1 v1 H1 ⟨⟨es, t0⟩, t1⟩ k1 r1 a1 => ?_⟩
  obtain ⟨a, vs, g1, g2, _⟩ := r1.own i es t0
  refine ⟨.ref a, g1, F, Z1, s1, _, r1, t1, fun y s2 Z2 v2 H2 t2 k2 r2 a2 => ?_⟩
  cases y with
  | int k =>
    obtain ⟨ds, j, e1, e2, e3⟩ := t2
    have a2' : v2 = .int k := a2
    obtain ⟨a', vs', f1, f2, f3, _⟩ := r2.own i ds e1
    rw [g1] at f1; cases f1
    refine ⟨a, vs', k, j, rfl, a2', f2, by rw [f3.len]; exact e2, n _ Z2 _ _ e3 (k1.trans k2) (r2.write e1 g1 (f3.set j (At.mono k2 _ _ a1)))⟩
  | _ => exact t2.elim
end
section
variable {X : Cx} {G : GP γ} {a b : Expr} {pos : Pos}
def qBinF (p : D → D → (List D → Prop) → Prop) (ta tb : PEx γ) : PAx γ := fun s R => ta s fun x s1 => tb s1 fun y s2 => p x y fun z => R z s2
theorem qf_bin {op : Operator} {p : D → D → (List D → Prop) → Prop} {ta tb : PEx γ} (ho : OpR X (binaryOp op) (dOp2F G.K p)) (ha : QE X G a ta) (hb : QE X G b tb) : QF X G (.BinOp a op b pos) (qBinF p ta tb) := by
  refine PE.imp (pe_op ho ha hb) fun σ H Q ⟨F, Z, s, R, r, t, q⟩ => ?_
  refine ⟨F, Z, s, _, r, t, fun x s1 Z1 v1 H1 t1 k1 r1 a1 => ⟨F, Z1, s1, _, r1, t1, fun y s2 Z2 v2 H2 t2 k2 r2 a2 => ?_⟩⟩
  refine ⟨Z2, x, y, _, r2.z, At.mono k2 _ _ a1, a2, t2, fun zs p vs H3 t3 k3 hn hp a3 => ?_⟩
  obtain ⟨f1, f2, f3, f4⟩ := r2.fresh hn
  exact q zs s2 Z2 p vs H3 t3 (k1.trans k2) (r2.grow k3) hp a3 f1 f2 f3 f4
end
end Pm
set_option Elab.async false
set_option linter.all false
set_option maxRecDepth 100000
set_option maxHeartbeats 1000000
set_option autoImplicit false
namespace Pm
open PySem PySem.Spec
open PyProof.Rows hiding St
open L2
variable {γ : Type}
section
variable {X : Cx} {G : GP γ} {e tg : Expr} {p p2 pos pos2 : Pos}
def qRevR (ta : PEx γ) : PAx γ := fun s R => ta s fun d s1 => match d with
  | .int n => (-(2 ^ 62) ≤ n ∧ n < 2 ^ 62) ∧ R ((List.range n.toNat).map fun k => .int ((n.toNat : Int) - 1 - (k : Nat))) s1
  | _ => False
def rgD (a b : Int) : List D := (List.range (b - a).toNat).map fun k => .int (a + (k : Nat))
theorem rg_ats {K : PySem.W.Frag} {Z : Hp} (a b : Int) : Ats K Z (rgD a b) (rgV a b) := by
  have e1 : rgD a b = ((List.range (b - a).toNat).map fun k : Nat => a + (k : Int)).map D.int := by unfold rgD; rw [List.map_map]; rfl
  have e2 : rgV a b = ((List.range (b - a).toNat).map fun k : Nat => a + (k : Int)).map V.int := by unfold rgV; rw [List.map_map]; rfl
  rw [e1, e2]
  exact Ats.of_ints _
def qLstRg1 (ta : PEx γ) : PAx γ := fun s R => ta s fun d s1 => match d with
  | .int n => (-(2 ^ 62) ≤ n ∧ n ≤ 2 ^ 24) ∧ R (rgD 0 n) s1
  | _ => False
theorem qf_lstRg1 {ta : PEx γ} (hc : X.calm = true) (hg : Gl X "list") (hm : X.mg "list" = none) (hg2 : Gl X "range") (hm2 : X.mg "range" = none) (ha : QE X G e ta) (na : starEach [e] X.env = (false, eval e X.env) :: starEach [] X.env := by rfl)
    (hs : starEach [.Call (.Name "range" p2) [e] [] pos2] X.env = (false, eval (.Call (.Name "range" p2) [e] [] pos2) X.env) :: starEach [] X.env := by rfl) :
    QF X G (.Call (.Name "list" p) [.Call (.Name "range" p2) [e] [] pos2] [] pos) (qLstRg1 ta) := by
  refine PE.imp (pe_listRg hc hg hm (prg_1 hg2 hm2 ha na) hs) fun σ H Q ⟨F, Z, s, R, r, t, q⟩ => ?_
  refine ⟨F, Z, s, _, r, t, fun d s1 Z1 v H1 t1 k1 r1 a1 => ?_⟩
  match d, t1, a1 with
  | .int n, t1, a1 =>
    simp only [At] at a1
    subst a1
    refine ⟨n, rfl, ⟨by decide, by decide, t1.1.1, by omega, by omega⟩, fun p hp => ?_⟩
    obtain ⟨f1, f2, f3, f4⟩ := r1.fresh hp
    exact q _ s1 Z1 p _ _ t1.2 k1 (r1.grow (same_upd hp)) upd_same (rg_ats 0 n) f1 f2 f3 f4
def qTupRg1 (ta : PEx γ) : PEx γ := fun s R => ta s fun d s1 => match d with
  | .int n => (-(2 ^ 62) ≤ n ∧ n ≤ 2 ^ 24) ∧ R (.tup (rgD 0 n)) s1
  | _ => False
theorem qe_tupRg1 {ta : PEx γ} (hc : X.calm = true) (hg : Gl X "tuple") (hm : X.mg "tuple" = none) (hg2 : Gl X "range") (hm2 : X.mg "range" = none) (ha : QE X G e ta) (na : starEach [e] X.env = (false, eval e X.env) :: starEach [] X.env := by rfl)
    (hs : starEach [.Call (.Name "range" p2) [e] [] pos2] X.env = (false, eval (.Call (.Name "range" p2) [e] [] pos2) X.env) :: starEach [] X.env := by rfl) :
    QE X G (.Call (.Name "tuple" p) [.Call (.Name "range" p2) [e] [] pos2] [] pos) (qTupRg1 ta) := by
  refine PE.imp (pe_tupRg hc hg hm (prg_1 hg2 hm2 ha na) hs) fun σ H Q ⟨F, Z, s, R, r, t, q⟩ => ?_
  refine ⟨F, Z, s, _, r, t, fun d s1 Z1 v H1 t1 k1 r1 a1 => ?_⟩
  match d, t1, a1 with
  | .int n, t1, a1 =>
    simp only [At] at a1
    subst a1
    refine ⟨n, rfl, ⟨by decide, by decide, t1.1.1, by omega, by omega⟩, fun p hp => ?_⟩
    have x := Ext.new (o := HO.tup (rgV 0 n)) r1.z hp
    exact q _ s1 _ _ _ t1.2 (k1.trans x.zz) (r1.ext x) ⟨p, _, rfl, .inl (.inl upd_same), rg_ats 0 n⟩
end
end Pm
set_option Elab.async false
set_option linter.all false
set_option maxRecDepth 100000
set_option maxHeartbeats 1000000
set_option autoImplicit false
namespace Pm
open PySem PySem.Spec
open PyProof.Rows hiding St
open L2
variable {γ : Type}

abbrev drawLine : Nat := 2 ^ 24
structure Rng (r c q : Addr) (n : Nat) (H : Hp) : Prop where
  ex : ∃ cs rs : List Int, H r = some (.lst [.ref c, .int n, .ref q]) ∧ H c = some (.lst (cs.map V.int)) ∧ H q = some (.lst (rs.map V.int)) ∧ cs.length = rs.length ∧ 0 < cs.length
  rc : r ≠ c
  rq : r ≠ q
  cq : c ≠ q
def gr (K : PySem.W.Frag) (r c q : Addr) : GP Nat where
  K := K
  foot := fun _ a => a = r ∨ a = c ∨ a = q
  J := fun n H => Rng r c q n H
  stay := fun n H H' ⟨⟨cs, rs, h1, h2, h3, h4⟩, a, b, d⟩ k => ⟨⟨cs, rs, (k r (.inl rfl)).trans h1, (k c (.inr (.inl rfl))).trans h2, (k q (.inr (.inr rfl))).trans h3, h4⟩, a, b, d⟩
  live := fun n H a ⟨⟨cs, rs, h1, h2, h3, _⟩, _, _, _⟩ h => by
    rcases h with rfl | rfl | rfl
    · exact ⟨_, h1⟩
    · exact ⟨_, h2⟩
    · exact ⟨_, h3⟩
def nextS (r : Addr) : Spec Nat := fun ds g R => ∃ m : Int, ds = [.obj r, .int m] ∧ 0 < m ∧ m ≤ 10 ^ 60 ∧ g < drawLine ∧ ∀ k : Int, 0 ≤ k → k < m → R (.int k) (g + 1)
def tNextB (K : PySem.W.Frag) : TS :=
  tSeq (tAsg (tVar 0) (gLs K 3 (gCons (gName 2) (gCons (gName 3) (gCons (gName 4) gNil)))))
  (tSeq (tAsg (tOp (rI (fun _ j => 0 < j) fun i j => .int (i % j)) (tVar 3) (tCB (fun xs H Q => ∃ p ys, xs = [.ref p] ∧ (SqL K H p ys ∨ SqT K H p ys) ∧ Q (.int ys.length) H) (tCons (tVar 2) tNil))) (gName 5))
  (tSeq (tAsg (tOp (rI0 fun i j => .int (i + j)) (tVar 3) (tC (.int 1))) (gSub (tVar 0) (tC (.int 1)) rSetL))
  (tSeq (tIfS (tTest (tOp (rI0 fun i j => .bl (decide (j < i))) (tOp (rIxL K) (tVar 4) (tVar 5)) (tC (.int 0))))
      (tSeq (tAsg (tOp (rI (fun _ j => 0 < j) fun i j => .int (i % j)) (tOp (rIxL K) (tVar 4) (tVar 5)) (tVar 1)) (gName 6))
      (tSeq (tAsg (tOp (rI DivOk fun i j => .int (i.fdiv j)) (tOp (rIxL K) (tVar 4) (tVar 5)) (tVar 1)) (gSub (tVar 4) (tVar 5) rSetL))
      (tRet (tVar 6)))) tNext)
  (tSeq (tAsg (tOp (rI (fun _ j => 0 < j) fun i j => .int (i % j)) (tOp (rI CPow fun i j => .int (i ^ j.toNat)) (tOp (rI0 fun i j => .int (i + j)) (tOp (rI0 fun i j => .int (i + j)) (tOp (rI (fun _ j => 0 < j) fun i j => .int (i % j)) (tOp (rIxL K) (tVar 2) (tVar 5)) (tC (.int 2147483629))) (tOp (rI CMul fun i j => .int (i * j)) (tC (.int 39119)) (tVar 3))) (tC (.int 9901))) (tC (.int 3))) (tC (.int 2147483587))) (gName 7))
  (tSeq (tAsg (tOp (rI (fun _ j => 0 < j) fun i j => .int (i % j)) (tOp (rI CPow fun i j => .int (i ^ j.toNat)) (tOp (rI0 fun i j => .int (i + j)) (tOp (rI0 fun i j => .int (i + j)) (tVar 7) (tOp (rI CMul fun i j => .int (i * j)) (tOp (rI CMul fun i j => .int (i * j)) (tC (.int 7001)) (tVar 3)) (tVar 3))) (tC (.int 41))) (tC (.int 3))) (tC (.int 2147483563))) (gName 8))
  (tRet (tOp (rI (fun _ j => 0 < j) fun i j => .int (i % j)) (tOp (rI (fun _ j => 0 < j) fun i j => .int (i % j)) (tOp (rI0 fun i j => .int (i + j)) (tOp (rI CMul fun i j => .int (i * j)) (tVar 8) (tC (.int 2147483423))) (tVar 7)) (tC (.int 4611686018427387847))) (tVar 1))))))))
theorem divOk60 {i j : Int} (h : 0 < j) (h2 : j ≤ 10 ^ 60) : DivOk i j := by
  refine ⟨by omega, ?_⟩
  have h3 : j.natAbs < 2 ^ 200 := by
    have : (10 : Int) ^ 60 < 2 ^ 200 := by decide
    omega
  exact Nat.lt_of_lt_of_le (PySem.Flt.log2_lt_of (by decide) h3) (by decide)
theorem spot_get {ns : List Int} {t : Int} (hl : 0 < ns.length) : ∃ (j : Nat) (z : Int), t % (ns.length : Int) = (j : Int) ∧ j < ns.length ∧ ns[j]? = some z := by
  have h1 : 0 ≤ t % (ns.length : Int) := Int.emod_nonneg _ (by omega)
  have h2 : t % (ns.length : Int) < ns.length := Int.emod_lt_of_pos _ (by omega)
  refine ⟨(t % (ns.length : Int)).toNat, ns[(t % (ns.length : Int)).toNat]'(by omega), by omega, by omega, List.getElem?_eq_getElem _⟩
theorem mapV_get {ns : List Int} {j : Nat} {z : Int} (h : ns[j]? = some z) : (ns.map V.int)[j]? = some (.int z) := by
  rw [List.getElem?_map, h]; rfl
theorem mapV_set (ns : List Int) (j : Nat) (z : Int) : (ns.map V.int).set j (.int z) = (ns.set j z).map V.int := by
  rw [List.map_set]
theorem rSetL_at {H : Hp} {p : Addr} {xs : List V} {j : Nat} {v : V} {Q : Hp → Prop} (h : H p = some (.lst xs)) (hj : j < xs.length) (q : Q (upd H p (.lst (xs.set j v)))) : rSetL (.ref p) (.int (j : Nat)) v H Q :=
  ⟨p, xs, j, j, rfl, rfl, h, by unfold ixN; rw [if_pos (by omega), if_pos (by omega), Int.toNat_natCast], q⟩
theorem rIxL_at {K : PySem.W.Frag} {H : Hp} {p : Addr} {xs : List V} {j : Nat} {v : V} {Q : VK} (h : H p = some (.lst xs)) (hj : xs[j]? = some v) (q : Q v H) : rIxL K (.ref p) (.int (j : Nat)) H Q :=
  ⟨p, xs, j, v, rfl, rfl, .inl (.inl h), atI_nat hj, q⟩
theorem next_read {K : PySem.W.Frag} {r c q : Addr} {H : Hp} {many : Int} {n : Nat} {De : Ends} (J : Rng r c q n H) (hm : 0 < many) (hm2 : many ≤ 10 ^ 60) (hn : n < drawLine)
    (fin : ∀ (k : Int) (H' : Hp), 0 ≤ k → k < many → Rng r c q (n + 1) H' → (∀ a, a ≠ r → a ≠ c → a ≠ q → H' a = H a) → De.rt (.int k) H') :
    tNextB K De [some (.ref r), some (.int many), none, none, none, none, none, none, none] H := by
  obtain ⟨⟨cs, rs, h1, h2, h3, hl, hp⟩, rc, rq, cq⟩ := J
  have hd : (n : Int) < 16777216 := by have : drawLine = 16777216 := rfl; omega
  obtain ⟨j, z, hj, hjl, hz⟩ := spot_get (ns := cs) (t := (n : Int)) hp
  refine ⟨.ref r, rfl, r, _, rfl, .inl (.inl h1), rfl, .ref c, _, rfl, .int n, _, rfl, .ref q, _, rfl, rfl, ?_⟩
  refine ⟨.int n, rfl, .ref c, rfl, c, cs.map V.int, rfl, .inl (.inl (.inl h2)), (n : Int), ((cs.map V.int).length : Int), rfl, rfl, by rw [List.length_map]; omega, ?_⟩
  rw [List.length_map, show ((fun i j => V.int (i % j)) (n : Int) (cs.length : Int)) = V.int (j : Nat) from (by show V.int _ = _; rw [hj])]
  refine ⟨.int n, rfl, n, 1, rfl, rfl, .ref r, rfl, ?_⟩
  refine rSetL_at (j := 1) h1 (by simp) ?_
  show tSeq _ _ _ _ (upd H r (.lst [.ref c, .int ((n : Int) + 1), .ref q]))
  generalize hH1 : upd H r (.lst [.ref c, .int ((n : Int) + 1), .ref q]) = H1
  have e1 : H1 r = some (.lst [.ref c, .int ((n + 1 : Nat) : Int), .ref q]) := by rw [← hH1, upd_same]; rfl
  have e2 : H1 c = some (.lst (cs.map V.int)) := by rw [← hH1, upd_ne (Ne.symm rc)]; exact h2
  have e3 : H1 q = some (.lst (rs.map V.int)) := by rw [← hH1, upd_ne (Ne.symm rq)]; exact h3
  have eo : ∀ a, a ≠ r → a ≠ c → a ≠ q → H1 a = H a := fun a ha _ _ => by rw [← hH1, upd_ne ha]
  obtain ⟨zr, hzr⟩ : ∃ zr, rs[j]? = some zr := ⟨rs[j]'(by omega), List.getElem?_eq_getElem _⟩
  refine ⟨.ref q, rfl, .int (j : Nat), rfl, rIxL_at e3 (mapV_get hzr) ?_⟩
  refine ⟨zr, 0, rfl, rfl, decide (0 < zr), rfl, ?_⟩
  by_cases hz0 : 0 < zr
  · rw [decide_eq_true hz0]
    refine iteT ?_
    refine ⟨.ref q, rfl, .int (j : Nat), rfl, rIxL_at e3 (mapV_get hzr) ?_⟩
    refine ⟨.int many, rfl, zr, many, rfl, rfl, hm, ?_⟩
    refine ⟨.ref q, rfl, .int (j : Nat), rfl, rIxL_at e3 (mapV_get hzr) ?_⟩
    refine ⟨.int many, rfl, zr, many, rfl, rfl, divOk60 hm hm2, .ref q, rfl, .int (j : Nat), rfl, ?_⟩
    refine rSetL_at e3 (by rw [List.length_map]; omega) ?_
    refine ⟨.int (zr % many), rfl, fin _ _ (Int.emod_nonneg _ (by omega)) (Int.emod_lt_of_pos _ hm) ⟨⟨cs, rs.set j (zr.fdiv many), ?_, ?_, ?_, by rw [List.length_set]; exact hl, hp⟩, rc, rq, cq⟩ fun a a1 a2 a3 => ?_⟩
    · rw [upd_ne rq]; exact e1
    · rw [upd_ne cq]; exact e2
    · rw [upd_same, mapV_set]
    · rw [upd_ne a3]; exact eo a a1 a2 a3
  · rw [decide_eq_false hz0]
    refine iteF ?_
    have b1 : 0 ≤ z % 2147483629 := Int.emod_nonneg _ (by decide)
    have b2 : z % 2147483629 < 2147483629 := Int.emod_lt_of_pos _ (by decide)
    refine ⟨.ref c, rfl, .int (j : Nat), rfl, rIxL_at e2 (mapV_get hz) ?_⟩
    refine ⟨z, 2147483629, rfl, rfl, (by show (0 : Int) < 2147483629; decide), .int n, rfl, 39119, n, rfl, rfl, .inl ⟨by decide, by decide⟩, _, _, rfl, rfl, _, 9901, rfl, rfl, _, 3, rfl, rfl, ⟨by decide, by decide, by omega⟩, _, 2147483587, rfl, rfl, (by show (0 : Int) < 2147483587; decide), ?_⟩
    show gName 7 (V.int ((z % 2147483629 + 39119 * (n : Int) + 9901) ^ (3 : Int).toNat % 2147483587)) _ _ _
    generalize hmx : (z % 2147483629 + 39119 * (n : Int) + 9901) ^ (3 : Int).toNat % 2147483587 = mx
    have m1 : 0 ≤ mx := by rw [← hmx]; exact Int.emod_nonneg _ (by decide)
    have m2 : mx < 2147483587 := by rw [← hmx]; exact Int.emod_lt_of_pos _ (by decide)
    have n0 : 0 ≤ (n : Int) := Int.natCast_nonneg n
    have n2 : 7001 * (n : Int) * (n : Int) ≤ 7001 * 16777216 * 16777216 := Int.mul_le_mul (by omega) (by omega) n0 (by decide)
    have n3 : 0 ≤ 7001 * (n : Int) * (n : Int) := Int.mul_nonneg (by omega) n0
    refine ⟨.int mx, rfl, .int n, rfl, 7001, n, rfl, rfl, .inl ⟨by decide, by decide⟩, .int n, rfl, _, n, rfl, rfl, .inr ⟨by omega, by omega⟩, mx, _, rfl, rfl, _, 41, rfl, rfl, _, 3, rfl, rfl, ⟨by decide, by decide, by omega⟩, _, 2147483563, rfl, rfl, (by show (0 : Int) < 2147483563; decide), ?_⟩
    show gName 8 (V.int ((mx + 7001 * (n : Int) * (n : Int) + 41) ^ (3 : Int).toNat % 2147483563)) _ _ _
    generalize hag : (mx + 7001 * (n : Int) * (n : Int) + 41) ^ (3 : Int).toNat % 2147483563 = ag
    refine ⟨.int ag, rfl, ag, 2147483423, rfl, rfl, .inr ⟨by decide, by decide⟩, .int mx, rfl, _, mx, rfl, rfl, _, 4611686018427387847, rfl, rfl, (by show (0 : Int) < 4611686018427387847; decide), .int many, rfl, _, many, rfl, rfl, hm, ?_⟩
    exact fin _ _ (Int.emod_nonneg _ (by omega)) (Int.emod_lt_of_pos _ hm) ⟨⟨cs, rs, e1, e2, e3, hl, hp⟩, rc, rq, cq⟩ eo
section
variable {P : Program} {w : World} {K : PySem.W.Frag} {mg : Str → Option Value} {base : Heap}
theorem ok_next {x : Str} {st : Stmt} {f : Addr} {fd : FuncData} {N ps : List Str} {k : Nat} {r c q : Addr} (F : Fn K x x st f fd) (S : FnScope N ps (defScope st)) (hN : N.length = 9) (hp : ps.length = 2)
    (body : ∀ (cdv : Value) (A : Around) (outer : List Env) (s : Shared) (H : Hp) (E : XK), Room k (A.deeper (envOfC x (defScope st) s.heap.objs.size f cdv)) →
      PSs (cxOf CX0 P w K mg base N x (defScope st) f cdv A outer s H E).nox (defBody st) (tNextB K)) : FnOk P w K mg base CX0 (k + 1) f fd ps (spG (gr K r c q) (nextS r)) := by
  refine F.ok S (fun vs H Q E h => ?_) (fun cdv A outer s H vs Q E hr h => ⟨_, body cdv A outer s H E hr, ?_⟩)
  · obtain ⟨Z, ds, g, R, _, a, _, _, ⟨m, rfl, _⟩, _⟩ := h
    rw [a.len, hp]; rfl
  · obtain ⟨Z, ds, g, R, k, a, J, zf, ⟨m, rfl, m1, m2, m3, fin⟩, q'⟩ := h
    obtain ⟨v1, v2, rfl, a1, a2⟩ := Ats.two a
    simp only [At] at a1 a2
    subst a1; subst a2
    have e : L2.start N [V.ref r, V.int m] = [some (.ref r), some (.int m), none, none, none, none, none, none, none] := by
      unfold L2.start
      rw [hN]; rfl
    rw [e]
    refine next_read J m1 m2 m3 fun k0 H' h0 h1 J' keep => ?_
    refine q' (.int k0) (g + 1) Z _ H' (fin k0 h0 h1) (Same.refl _) (fun b o e => ?_) (fun b o e n => ?_) (fun b o e n => by rw [e] at n; cases n) J' (fun b hb => ⟨zf b hb, .inl hb⟩) rfl
    · have hn : ¬ (b = r ∨ b = c ∨ b = q) := fun hb => by rw [zf b hb] at e; cases e
      rw [keep b (fun z => hn (.inl z)) (fun z => hn (.inr (.inl z))) (fun z => hn (.inr (.inr z)))]
      exact k b o e
    · have hn : ¬ (b = r ∨ b = c ∨ b = q) := n
      rw [keep b (fun z => hn (.inl z)) (fun z => hn (.inr (.inl z))) (fun z => hn (.inr (.inr z)))]
      exact e
end

def spDraws (K : PySem.W.Frag) : Sp := fun vs H Q _ => ∃ (a : Addr) (ns : List Int), vs = [.ref a] ∧ SqL K H a (ns.map V.int) ∧ ns.length ≤ 63 ∧
  ∀ (r c q : Addr) H', Same H H' → H r = none → H c = none → H q = none → Rng r c q 0 H' → Q (.ref r) H'
def tDrawsB (K : PySem.W.Frag) (vs : List Nat) : TS :=
  tSeq (tAsg (tOp rCat (tCB (fun xs H Q => ∃ p ys, xs = [.ref p] ∧ (SqL K H p ys ∨ SqT K H p ys) ∧ ∀ l, H l = none → Q (.ref l) (upd H l (.lst ys))) (tCons (tSl (rSlL K) (tVar 0) tNoPart (tPart (tC (.int 63)))) tNil))
      (tOp rRep (tLst (tCons (tC (.int 0)) tNil)) (tCB (fun xs H Q => (∃ i, xs = [.int i] ∧ Q (.int i) H) ∨ ∃ k, xs = [.bl k] ∧ Q (.int (if k then 1 else 0)) H)
        (tCons (tOp rEq (tCB (fun xs H Q => ∃ p ys, xs = [.ref p] ∧ (SqL K H p ys ∨ SqT K H p ys) ∧ Q (.int ys.length) H) (tCons (tVar 0) tNil)) (tC (.int 0))) tNil)))) (gName 1))
  (tRet (tLst (tCons (tVar 1) (tCons (tC (.int 0)) (tCons (tLc (iList K (tVar 1)) (gName 2) tYes
    (tOp (rI CMul fun i j => .int (i * j)) (tVar 2) (tCB (fun xs H Q => (∃ i, xs = [.int i] ∧ Q (.int i) H) ∨ ∃ k, xs = [.bl k] ∧ Q (.int (if k then 1 else 0)) H)
      (tCons (tOp (rI0 fun i j => .bl (decide (j ≤ i))) (tVar 2) (tOp (rI CPow fun i j => .int (i ^ j.toNat)) (tC (.int 10)) (tC (.int 18)))) tNil))) vs) tNil)))))
theorem cut63 (ns : List Int) (h : ns.length ≤ 63) : cutV (ns.map V.int) none (some 63) = ns.map V.int := by
  have : cutV (ns.map V.int) none (some 63) = cut (ns.map V.int) none (some ((63 : Nat) : Int)) := rfl
  rw [this, cut_to, List.take_of_length_le (by rw [List.length_map]; exact h)]
theorem tYes_if {σ : List (Option V)} {H : Hp} {A B : Hp → Prop} (h : A H) : tYes σ H fun b H => if b = true then A H else B H := by
  show (if true = true then A H else B H)
  rw [if_pos rfl]; exact h
theorem draws_read {K : PySem.W.Frag} {a : Addr} {ns : List Int} {H : Hp} {De : Ends} (hs : SqL K H a (ns.map V.int)) (hl : ns.length ≤ 63)
    (fin : ∀ (r c q : Addr) H', Same H H' → H r = none → H c = none → H q = none → Rng r c q 0 H' → De.rt (.ref r) H') : tDrawsB K [2] De [some (.ref a), none, none] H := by
  have lim : (1000 : Nat) ≤ sizeLine := by decide
  refine ⟨.ref a, rfl, 63, rfl, a, ns.map V.int, rfl, hs, fun p1 np1 => ?_⟩
  rw [cut63 ns hl]
  have s1 := same_upd (o := HO.lst (ns.map V.int)) np1
  generalize hH1 : upd H p1 (.lst (ns.map V.int)) = H1 at s1
  have a1 : H1 p1 = some (.lst (ns.map V.int)) := by rw [← hH1, upd_same]
  refine ⟨p1, ns.map V.int, rfl, .inl (.inl (.inl a1)), fun p2 np2 => ?_⟩
  have s2 := s1.trans (same_upd (o := HO.lst (ns.map V.int)) np2)
  generalize hH2 : upd H1 p2 (.lst (ns.map V.int)) = H2 at s2
  have a2 : H2 p2 = some (.lst (ns.map V.int)) := by rw [← hH2, upd_same]
  refine ⟨(by show 1 ≤ sizeLine; decide), fun p3 np3 => ?_⟩
  have s3 := same_upd (o := HO.lst [V.int 0]) np3
  generalize hH3 : upd H2 p3 (.lst [V.int 0]) = H3 at s3
  have a3 : H3 p3 = some (.lst [V.int 0]) := by rw [← hH3, upd_same]
  have a23 : H3 p2 = some (.lst (ns.map V.int)) := s3 _ _ a2
  have sA : Same H H3 := s2.trans s3
  refine ⟨.ref a, rfl, a, ns.map V.int, rfl, .inl (sA.seq hs), rfl, .inr ⟨_, rfl, ?_⟩⟩
  generalize hk : decide (V.int (((ns.map V.int).length : Nat) : Int) = V.int 0) = kz
  have hkz : kz = decide (ns.length = 0) := by
    rw [← hk, Bool.eq_iff_iff, decide_eq_true_iff, decide_eq_true_iff, List.length_map]
    constructor
    · intro h; have := V.int.inj h; omega
    · intro h; rw [h]; rfl
  refine ⟨p3, if kz then 1 else 0, [V.int 0], rfl, rfl, a3, by split <;> decide, by split <;> decide, by split <;> decide, fun p4 np4 => ?_⟩
  generalize hz : (List.replicate (if kz = true then (1 : Int) else 0).toNat [V.int 0]).flatten = zs
  have s4 := same_upd (o := HO.lst zs) np4
  generalize hH4 : upd H3 p4 (.lst zs) = H4 at s4
  have a4 : H4 p4 = some (.lst zs) := by rw [← hH4, upd_same]
  obtain ⟨ms, hms, hmp, hml⟩ : ∃ ms : List Int, ns.map V.int ++ zs = ms.map V.int ∧ 0 < ms.length ∧ ms.length ≤ 64 := by
    by_cases h0 : ns.length = 0
    · have : ns = [] := List.length_eq_zero_iff.mp h0
      subst this
      refine ⟨[0], ?_, by simp, by simp⟩
      rw [← hz, hkz]; rfl
    · refine ⟨ns, ?_, by omega, by omega⟩
      have hf : kz = false := by rw [hkz]; exact decide_eq_false h0
      rw [← hz, hf]
      show ns.map V.int ++ [] = _
      rw [List.append_nil]
  have hlen : (ns.map V.int).length + zs.length ≤ sizeLine := by
    have := congrArg List.length hms
    rw [List.length_append, List.length_map] at this
    rw [List.length_map] at this ⊢
    omega
  refine ⟨p2, p4, ns.map V.int, zs, rfl, rfl, s4 _ _ a23, a4, hlen, fun c nc => ?_⟩
  rw [hms]
  have s5 := same_upd (o := HO.lst (ms.map V.int)) nc
  generalize hH5 : upd H4 c (.lst (ms.map V.int)) = H5 at s5
  have a5 : H5 c = some (.lst (ms.map V.int)) := by rw [← hH5, upd_same]
  have sB : Same H H4 := sA.trans s4
  have hc : H c = none := sB.free nc
  have sC : Same H H5 := sB.trans s5
  -- the list of three
  refine ⟨.ref c, rfl, .ref c, rfl, c, rfl, ⟨_, .inl (.inl a5)⟩, fun D nD => ?_⟩
  have hD : H D = none := sC.free nD
  have hDc : c ≠ D := ne_of_none a5 nD
  refine lc_list (K := K) (xs := ms.map V.int) (fun i H => ∃ rs : List Int, rs.length = i ∧ H D = some (.lst (rs.map V.int)) ∧ (∀ b, b ≠ D → H b = H5 b)) ?_ ?_ ?_ ?_
  · exact ⟨[], rfl, by rw [upd_same]; rfl, fun b hb => upd_ne hb⟩
  · rintro i H' - ⟨rs, _, _, ho⟩
    exact .inl (.inl (by rw [ho c hDc]; exact a5))
  · rintro i x H' hx ⟨rs, hrl, hrD, ho⟩
    rw [List.getElem?_map] at hx
    obtain ⟨z, hz1, hz2⟩ := Option.map_eq_some_iff.mp hx
    subst hz2
    refine ⟨rfl, ?_⟩
    refine tYes_if ?_
    refine ⟨.int z, rfl, .int z, rfl, 10, 18, rfl, rfl, ⟨by decide, by decide, by decide⟩, z, _, rfl, rfl, .inr ⟨_, rfl, z, _, rfl, rfl, .inr (by split <;> constructor <;> decide), rs.map V.int, hrD, ?_, ?_⟩⟩
    · have hi := (List.getElem?_eq_some_iff.mp hz1).1
      rw [List.length_map]
      omega
    · refine ⟨rs ++ [z * if decide (10 ^ (18 : Int).toNat ≤ z) = true then 1 else 0], by rw [List.length_append, hrl]; rfl, ?_, fun b hb => ?_⟩
      · rw [upd_same, List.map_append]; rfl
      · rw [upd_ne hb]; exact ho b hb
  · rintro H' ⟨rs, hrl, hrD, ho⟩
    refine ⟨(by show 3 ≤ sizeLine; decide), fun r nr => ?_⟩
    have e5 : H5 r = none := by
      have : r ≠ D := fun e => by rw [e, hrD] at nr; cases nr
      rw [← ho r this]; exact nr
    have hr : H r = none := sC.free e5
    have rc : r ≠ c := fun e => by rw [e, a5] at e5; cases e5
    have rD : r ≠ D := fun e => by rw [e, hrD] at nr; cases nr
    refine fin r c D _ (fun b o e => ?_) hr hc hD ⟨⟨ms, rs, by rw [upd_same]; rfl, ?_, ?_, ?_, hmp⟩, rc, rD, hDc⟩
    · have b1 : b ≠ r := ne_of_none e hr
      have b2 : b ≠ D := ne_of_none e hD
      rw [upd_ne b1, ho b b2]
      exact sC _ _ e
    · rw [upd_ne (Ne.symm rc), ho c hDc]; exact a5
    · rw [upd_ne (Ne.symm rD)]; exact hrD
    · rw [hrl, List.length_map]
section
variable {P : Program} {w : World} {K : PySem.W.Frag} {mg : Str → Option Value} {base : Heap}
theorem ok_draws {x : Str} {st : Stmt} {f : Addr} {fd : FuncData} {N ps : List Str} {k : Nat} (F : Fn K x x st f fd) (S : FnScope N ps (defScope st)) (hN : N.length = 3) (hp : ps.length = 1)
    (body : ∀ (cdv : Value) (A : Around) (outer : List Env) (s : Shared) (H : Hp) (E : XK), Room k (A.deeper (envOfC x (defScope st) s.heap.objs.size f cdv)) →
      PSs (cxOf CX0 P w K mg base N x (defScope st) f cdv A outer s H E).nox (defBody st) (tDrawsB K [2])) : FnOk P w K mg base CX0 (k + 1) f fd ps (spDraws K) := by
  refine F.ok S (fun vs H Q E h => ?_) (fun cdv A outer s H vs Q E hr h => ⟨_, body cdv A outer s H E hr, ?_⟩)
  · obtain ⟨a, ns, rfl, _⟩ := h
    rw [hp]; rfl
  · obtain ⟨a, ns, rfl, hs, hl, q⟩ := h
    have e : L2.start N [V.ref a] = [some (.ref a), none, none] := by
      unfold L2.start
      rw [hN]; rfl
    rw [e]
    exact draws_read hs hl fun r c q' H' h1 h2 h3 h4 h5 => q r c q' H' h1 h2 h3 h4 h5

def Glo (P : Program) (w : World) (K : PySem.W.Frag) (mg : Str → Option Value) (base : Heap) (x : Str) (n : Nat) (sp : Sp) (k : Nat) : Prop :=
  ∃ f fd ps, FnOk P w K mg base CX0 k f fd ps sp ∧ mg x = some (.ref f) ∧ PySem.W.keepIn K (.ref f) = true ∧ Binds K fd ps [] ∧ ps.length = n
theorem Glo.at {X : Cx} {x : Str} {n : Nat} {sp : Sp} {j k : Nat} (g : Glo X.prog X.w X.K X.mg X.base x n sp j) (hr : Room k X.A) (h : j ≤ k := by decide) : Def X x n sp := by
  obtain ⟨f, fd, ps, F, m, kp, b, e⟩ := g
  exact ⟨f, fd, k, ps, F.mono h, hr, m, kp, b, e⟩
def spLaw (K : PySem.W.Frag) : Sp := fun vs H Q _ => ∃ (a : Addr) (ns : List Int), vs = [.ref a] ∧ SqL K H a (ns.map V.int) ∧ ns.length ≤ 63 ∧ ∀ H', Q (.bl true) H'
theorem ok_law {x : Str} {s0 : Stmt} {rest : List Stmt} {st : Stmt} {f : Addr} {fd : FuncData} {N : List Str} {p : Str} {k i : Nat} (F : Fn K x x st f fd) (S : FnScope N [p] (defScope st)) (hi : 0 < i) (hb : defBody st = s0 :: rest)
    (body : ∃ t : Addr → PSx Nat, (∀ (cdv : Value) (A : Around) (outer : List Env) (s : Shared) (H : Hp) (E : XK), Room k (A.deeper (envOfC x (defScope st) s.heap.objs.size f cdv)) →
      PS (cxOf CX0 P w K mg base N x (defScope st) f cdv A outer s H E).nox s0 (tAsg (tCall (spDraws K) [] E0 (tCons (tVar 0) tNil)) (gName i)) ∧
      ∀ r c q, QSs (cxOf CX0 P w K mg base N x (defScope st) f cdv A outer s H E).nox (gr K r c q) rest (t r)) ∧
      ∀ r, t r { nx := fun _ => False, rt := fun d _ => d = .bl true } ⟨(List.replicate N.length none).set i (some (.val (.obj r))), 0⟩) : FnOk P w K mg base CX0 (k + 1) f fd [p] (spLaw K) := by
  obtain ⟨t, hd, hp⟩ := body
  refine F.ok S (fun vs H Q E h => ?_) (fun cdv A outer s H vs Q E hr h => ?_)
  · obtain ⟨a, ns, rfl, _⟩ := h; rfl
  · obtain ⟨d0, d1⟩ := hd cdv A outer s H E hr
    obtain ⟨a, ns, rfl, hs, hl, q⟩ := h
    rw [hb]
    have dd : PSs (cxOf CX0 P w K mg base N x (defScope st) f cdv A outer s H E).nox rest (fun De σ H' => ∃ r c q', lS (gr K r c q') (t r) De σ H') := ⟨fun pins s1 σ H1 De I ⟨r, c, q', h⟩ => (d1 r c q').run pins s1 σ H1 De I h⟩
    refine ⟨_, pss_cons d0 dd, ?_⟩
    have hN : 0 < N.length := by have := congrArg List.length S.pre; rw [List.length_take] at this; simp at this; omega
    refine ⟨.ref a, ?_, a, ns, rfl, hs, hl, fun r c q' H' k1 hr1 hc1 hq1 J => ?_⟩
    · show (L2.start N [V.ref a])[0]? = _
      rfl
    · refine ⟨r, c, q', ⟨fun _ => none, fun _ => False, fun _ h => h.elim⟩, fun _ => none, _, _, ?_, hp r, ?_, ?_, ?_, ?_⟩
      · have hlen : (L2.start N [V.ref a]).length = N.length := by unfold L2.start; simp; omega
        have at_i : ∀ (j : Nat) l, ((List.replicate N.length (none : Option L)).set i (some (.val (.obj r))))[j]? = some (some l) → j = i ∧ l = .val (.obj r) ∧ i < N.length := fun j l e => by
          by_cases hji : i = j
          · subst hji
            have hl' : i < (List.replicate N.length (none : Option L)).length := by
              have := (List.getElem?_eq_some_iff.mp e).1
              simpa using this
            rw [List.getElem?_set_self hl'] at e
            cases e
            exact ⟨rfl, rfl, by simpa using hl'⟩
          · rw [List.getElem?_set_ne hji, List.getElem?_replicate] at e
            split at e <;> cases e
        refine ⟨fun _ _ h => (by cases h), fun _ _ h => (by cases h), fun _ _ => rfl, by simp [hlen], fun j d e => ?_, fun j l e ol => ?_, fun j j2 l m b _ e ol _ _ => ?_, J, fun _ _ => rfl, fun _ _ => rfl, fun _ _ h => (by cases h)⟩
        · obtain ⟨rfl, e2, hl'⟩ := at_i j _ e
          cases e2
          exact ⟨.ref r, by rw [List.getElem?_set_self (by rw [hlen]; exact hl')], rfl⟩
        · obtain ⟨_, e2, _⟩ := at_i j _ e; subst e2; cases ol
        · obtain ⟨_, e2, _⟩ := at_i j _ e; subst e2; cases ol
      · intro s' Z' σ' H2 h; exact h.elim
      · intro d s' Z' σ' v H2 h _ _ a'
        have h' : d = .bl true := h
        subst h'
        have e : v = .bl true := a'
        rw [e]; exact q _
      · intro s' Z' σ' H2 h; exact h.elim
      · intro s' Z' σ' H2 h; exact h.elim
end
end Pm
set_option Elab.async false
set_option linter.all false
set_option maxRecDepth 100000
set_option maxHeartbeats 1000000
set_option autoImplicit false
namespace Pm
open PySem PySem.Spec
open PyProof.Rows hiding St
open L2

def Sz (b : Nat) (i : Int) : Prop := i.natAbs < 2 ^ b
theorem Sz.le {a b : Nat} {i : Int} (h : Sz a i) (k : a ≤ b) : Sz b i := Nat.lt_of_lt_of_le h (Nat.pow_le_pow_right (by decide) k)
theorem Sz.mul {a b : Nat} {i j : Int} (h : Sz a i) (k : Sz b j) : Sz (a + b) (i * j) := by
  unfold Sz at *
  rw [Int.natAbs_mul, Nat.pow_add]
  exact Nat.mul_lt_mul'' h k
theorem Sz.add {a : Nat} {i j : Int} (h : Sz a i) (k : Sz a j) : Sz (a + 1) (i + j) := by
  unfold Sz at *
  rw [Nat.pow_succ]; omega
theorem Sz.sub {a : Nat} {i j : Int} (h : Sz a i) (k : Sz a j) : Sz (a + 1) (i - j) := by
  unfold Sz at *
  rw [Nat.pow_succ]; omega
theorem Sz.log {b : Nat} {i : Int} (h : Sz b i) (k : 0 < b) : i.natAbs.log2 < b := PySem.Flt.log2_lt_of k h
theorem Sz.mulOk {a b : Nat} {i j : Int} (h : Sz a i) (k : Sz b j) (l : a + b < 900000 := by omega) : MulOk i j := by
  have h1 := (h.le (Nat.le_succ a)).log (Nat.succ_pos a)
  have h2 := (k.le (Nat.le_succ b)).log (Nat.succ_pos b)
  refine .inr ?_
  unfold CMulW
  omega
theorem divOk_of {b : Nat} {i j : Int} (h : Sz b j) (h0 : j ≠ 0) (l : b ≤ 9000 := by omega) : DivOk i j := ⟨h0, (h.le l).log (by decide)⟩

def frD (x : Rat) : D := .tup [.int x.num, .int x.den]
def SzR (b : Nat) (x : Rat) : Prop := Sz b x.num ∧ Sz b x.den
theorem SzR.le {a b : Nat} {x : Rat} (h : SzR a x) (k : a ≤ b) : SzR b x := ⟨h.1.le k, h.2.le k⟩
theorem natAbs_div_le (a : Int) (b : Nat) : (a / (b : Int)).natAbs ≤ a.natAbs := by
  rcases Nat.eq_zero_or_pos b with rfl | h
  · simp
  · exact Int.natAbs_ediv_le_natAbs a b
theorem SzR.mk {b : Nat} {n : Int} {d : Nat} (hn : Sz b n) (hd : Sz b d) (h0 : d ≠ 0) : SzR b (mkRat n d) := by
  refine ⟨?_, ?_⟩
  · unfold Sz at *
    rw [Rat.num_mkRat, if_neg h0]
    exact Nat.lt_of_le_of_lt (natAbs_div_le _ _) hn
  · unfold Sz at *
    rw [Rat.den_mkRat, if_neg h0]
    refine Nat.lt_of_le_of_lt ?_ hd
    show d / d.gcd n.natAbs ≤ d
    exact Nat.div_le_self _ _
theorem SzR.divInt {b : Nat} {n d : Int} (hn : Sz b n) (hd : Sz b d) (h0 : d ≠ 0) : SzR b (Rat.divInt n d) := by
  rcases Int.lt_or_gt_of_ne h0 with h | h
  · have e : Rat.divInt n d = mkRat (-n) d.natAbs := by
      rw [← Rat.neg_divInt_neg, ← Rat.divInt_ofNat]
      congr 1; omega
    rw [e]
    exact SzR.mk (by unfold Sz at *; omega) (by unfold Sz at *; omega) (by omega)
  · have e : Rat.divInt n d = mkRat n d.natAbs := by
      rw [← Rat.divInt_ofNat]
      congr 1; omega
    rw [e]
    exact SzR.mk hn (by unfold Sz at *; omega) (by omega)
theorem SzR.mul {a b : Nat} {x y : Rat} (h : SzR a x) (k : SzR b y) : SzR (a + b) (x * y) := by
  rw [Rat.mul_def']
  refine SzR.mk (h.1.mul k.1) ?_ (Nat.mul_ne_zero x.den_nz y.den_nz)
  rw [Int.natCast_mul]
  exact h.2.mul k.2
theorem SzR.add {a b : Nat} {x y : Rat} (h : SzR a x) (k : SzR b y) : SzR (a + b + 1) (x + y) := by
  rw [Rat.add_def']
  refine SzR.mk ((h.1.mul k.2).add ((k.1.mul h.2).le (by omega))) ?_ (Nat.mul_ne_zero x.den_nz y.den_nz)
  rw [Int.natCast_mul]
  exact (h.2.mul k.2).le (by omega)
theorem frD_pln (x : Rat) : (frD x).pln = true := rfl
theorem frD_eqv (x y : Rat) : D.eqv (frD x) (frD y) = decide (x = y) := by
  show (decide (x.num = y.num) && (decide ((x.den : Int) = y.den) && true)) = _
  rw [Bool.and_true, Bool.eq_iff_iff, Bool.and_eq_true, decide_eq_true_iff, decide_eq_true_iff, decide_eq_true_iff]
  constructor
  · rintro ⟨h1, h2⟩; exact Rat.ext h1 (by omega)
  · rintro rfl; exact ⟨rfl, rfl⟩
theorem divInt_parts {n d : Int} (h0 : d ≠ 0) : (Rat.divInt n d).num = n.fdiv (if d < 0 then 0 - (n.natAbs.gcd d.natAbs : Nat) else (n.natAbs.gcd d.natAbs : Nat)) ∧ ((Rat.divInt n d).den : Int) = d.fdiv (if d < 0 then 0 - (n.natAbs.gcd d.natAbs : Nat) else (n.natAbs.gcd d.natAbs : Nat)) := by
  have hg : d.gcd n = n.natAbs.gcd d.natAbs := by show d.natAbs.gcd n.natAbs = _; rw [Nat.gcd_comm]
  have hgp : 0 < n.natAbs.gcd d.natAbs := Nat.gcd_pos_of_pos_right _ (by omega)
  have d1 : ((n.natAbs.gcd d.natAbs : Nat) : Int) ∣ n := Int.ofNat_dvd_left.mpr (Nat.gcd_dvd_left _ _)
  have d2 : ((n.natAbs.gcd d.natAbs : Nat) : Int) ∣ d := Int.ofNat_dvd_left.mpr (Nat.gcd_dvd_right _ _)
  rw [Rat.num_divInt, Rat.den_divInt, if_neg h0, hg]
  generalize n.natAbs.gcd d.natAbs = g at *
  obtain ⟨a, rfl⟩ := d1
  obtain ⟨b, rfl⟩ := d2
  have g0 : (g : Int) ≠ 0 := by omega
  by_cases hb : (g : Int) * b < 0
  · rw [if_pos hb, Int.sign_eq_neg_one_of_neg hb]
    have b0 : b < 0 := by
      rcases Int.lt_or_le b 0 with h | h
      · exact h
      · have := Int.mul_nonneg (show (0 : Int) ≤ g by omega) h; omega
    have e1 : ∀ c : Int, ((g : Int) * c).fdiv (0 - (g : Int)) = -c := fun c => by
      have e : (g : Int) * c = (0 - (g : Int)) * (-c) := by rw [Int.zero_sub, Int.neg_mul_neg]
      rw [e, Int.mul_fdiv_cancel_left _ (by omega)]
    rw [e1, e1]
    constructor
    · have e : -1 * ((g : Int) * a) = (g : Int) * (-a) := by rw [Int.mul_neg, Int.neg_one_mul]
      rw [e, Int.mul_ediv_cancel_left _ g0]
    · rw [Int.natAbs_mul, Int.natAbs_natCast, Nat.mul_div_cancel_left _ hgp]; omega
  · rw [if_neg hb]
    have b0 : 0 < b := by
      rcases Int.lt_or_le 0 b with h | h
      · exact h
      · have h2 : (g : Int) * b ≤ 0 := Int.mul_nonpos_of_nonneg_of_nonpos (by omega) h
        omega
    have hp : 0 < (g : Int) * b := by
      have : (g : Int) * b ≠ 0 := h0
      omega
    rw [Int.sign_eq_one_of_pos hp, Int.one_mul, Int.mul_fdiv_cancel_left _ g0, Int.mul_ediv_cancel_left _ g0, Int.mul_fdiv_cancel_left _ g0]
    refine ⟨rfl, ?_⟩
    rw [Int.natAbs_mul, Int.natAbs_natCast, Nat.mul_div_cancel_left _ hgp]; omega
theorem add_div (x y : Rat) : Rat.divInt (x.num * y.den + y.num * x.den) (x.den * y.den) = x + y := by
  rw [Rat.add_def', ← Rat.divInt_ofNat, Int.natCast_mul]
theorem pe_callD {X : Cx} {x : Str} {n : Nat} {sp : Sp} {e : Expr} {es : List Expr} {ta : TA} {p pos : Pos} (d : Def X x n sp) (hg : Gl X x) (ha : PA X (e :: es) ta) (hdb : (x == ("__debug__" : Str)) = false := by decide) (he : starEach (e :: es) X.env = (false, eval e X.env) :: starEach es X.env := by rfl) (hpl : (backTo pos (starEach es X.env)).any (·.1) = false := by rfl) :
    PE X (.Call (.Name x p) (e :: es) [] pos) (tCall sp [] E0 ta) := by
  obtain ⟨fa, fd, k, ps, F, hr, hm, hk, hb, _⟩ := d.ex
  exact pe_call F hr hg hm hk hb .nil pass0 ha hdb he hpl
def wkL : List (Option L) → List (Option L) → Prop
  | [], [] => True
  | a :: as, b :: bs => (b = none ∨ b = a) ∧ wkL as bs
  | _, _ => False
theorem wkL_at : ∀ {ρ ρ' : List (Option L)}, wkL ρ ρ' → ρ'.length = ρ.length ∧ ∀ (i : Nat) l, ρ'[i]? = some (some l) → ρ[i]? = some (some l)
  | [], [], _ => ⟨rfl, fun _ _ h => h⟩
  | a :: as, b :: bs, h => by
    obtain ⟨h1, h2⟩ := wkL_at h.2
    refine ⟨by simp [h1], fun i l e => ?_⟩
    cases i with
    | zero =>
      simp only [List.getElem?_cons_zero, Option.some.injEq] at e ⊢
      rcases h.1 with h | h
      · rw [h] at e; cases e
      · rw [← h]; exact e
    | succ i => simp only [List.getElem?_cons_succ] at e ⊢; exact h2 i l e
  | [], _ :: _, h => h.elim
  | _ :: _, [], h => h.elim
section
variable {γ : Type}
theorem Wk.of {ρ ρ' : List (Option L)} {g : γ} (h : wkL ρ ρ') : Wk (⟨ρ, g⟩ : S γ) ⟨ρ', g⟩ := ⟨rfl, (wkL_at h).1, (wkL_at h).2⟩
theorem seq_mid {t U : PSx γ} {E : En γ} {s : S γ} (M : S γ → Prop) (hU : ∀ s', M s' → U E s') (h : ∀ N : S γ → Prop, (∀ s', M s' → N s') → t { E with nx := N } s) : qSeq t U E s := h _ hU
end
theorem bl_ne {x y : Bool} (hc : (!D.eqv (.bl x) (.bl y)) = true) (h : x = y) : False := by
  subst h; cases x <;> cases hc
end Pm
set_option Elab.async false
set_option linter.all false
set_option maxRecDepth 100000
set_option maxHeartbeats 1000000
set_option autoImplicit false
namespace Pm
open PySem PySem.Spec
open PyProof.Rows hiding St
open L2
mutual
def D.wid : D → Nat
  | .non => 8
  | .bl _ => 8
  | .int _ => 2000
  | .str x => 10 * x.length + 8
  | .lst xs => D.wids xs + 8
  | .tup xs => D.wids xs + 8
  | .dct _ _ => 8
  | .obj _ => 8
def D.wids : List D → Nat
  | [] => 0
  | d :: ds => d.wid + 8 + D.wids ds
end
theorem D.wid_pos (d : D) : 8 ≤ d.wid := by cases d <;> simp only [D.wid] <;> omega
theorem D.wids_len : ∀ ds : List D, 16 * ds.length ≤ D.wids ds
  | [] => Nat.zero_le _
  | d :: ds => by
    have h := D.wids_len ds
    have := d.wid_pos
    simp only [D.wids, List.length_cons]; omega
theorem D.wids_mem : ∀ {ds : List D} {d : D}, d ∈ ds → d.wid ≤ D.wids ds
  | e :: ds, d, h => by
    rcases List.mem_cons.mp h with rfl | h
    · simp only [D.wids]; omega
    · have := D.wids_mem h
      simp only [D.wids]; omega
theorem D.plns_mem : ∀ {ds : List D} {d : D}, D.plns ds = true → d ∈ ds → d.pln = true
  | e :: ds, d, k, h => by
    simp only [D.plns, Bool.and_eq_true] at k
    rcases List.mem_cons.mp h with rfl | h
    · exact k.1
    · exact D.plns_mem k.2 h
theorem D.deps_mem : ∀ {ds : List D} {d : D}, d ∈ ds → d.dep ≤ D.deps ds
  | e :: ds, d, h => by
    rcases List.mem_cons.mp h with rfl | h
    · simp only [D.deps]; omega
    · have := D.deps_mem h
      simp only [D.deps]; omega
mutual
theorem eqv_refl : ∀ d : D, d.pln = true → D.eqv d d = true
  | .non, _ => rfl
  | .bl b, _ => by simp [D.eqv]
  | .int i, _ => by simp [D.eqv]
  | .str x, _ => by simp [D.eqv]
  | .lst xs, h => by
    simp only [D.eqv]
    exact eqvs_refl xs (by simpa [D.pln] using h)
  | .tup xs, h => by
    simp only [D.eqv]
    exact eqvs_refl xs (by simpa [D.pln] using h)
  | .dct _ _, h => by simp [D.pln] at h
  | .obj _, h => by simp [D.pln] at h
theorem eqvs_refl : ∀ ds : List D, D.plns ds = true → D.eqvs ds ds = true
  | [], _ => rfl
  | d :: ds, h => by
    simp only [D.plns, Bool.and_eq_true] at h
    simp only [D.eqvs, eqv_refl d h.1, eqvs_refl ds h.2, Bool.and_self]
end
theorem pln_obj {d : D} (h : d.pln = true) : ∀ p, d ≠ .obj p := fun p e => by subst e; simp [D.pln] at h
theorem isTy_tup (d : D) : isTy "tuple" d = match d with | .tup _ => true | _ => false := by cases d <;> rfl
theorem isTy_bl (d : D) : isTy "bool" d = match d with | .bl _ => true | _ => false := by cases d <;> rfl
theorem zip_self {xs : List D} {i : Nat} {d : D} (h : (zipD xs xs)[i]? = some d) : ∃ x, xs[i]? = some x ∧ x ∈ xs ∧ d = .tup [x, x] := by
  obtain ⟨x, y, h1, h2, rfl⟩ := zipD_get h
  rw [h1] at h2; cases h2
  exact ⟨x, h1, List.mem_of_getElem? h1, rfl⟩
theorem all_trues (n : Nat) : ((List.replicate n true).all id) = true := by simp
theorem bls_trues (n : Nat) : asBls (List.replicate n (D.bl true)) = some (List.replicate n true) := by
  rw [← List.map_replicate]; exact asBls_map _
theorem eq_no {d : D} (p : d.pln = true) (hc : D.eqv d d = false) : False := by rw [eqv_refl d p] at hc; cases hc
theorem wipeL_get (ρ : List (Option L)) : ∀ (vs : List Nat) (i : Nat), (wipeL ρ vs)[i]? = if i ∈ vs ∧ i < ρ.length then some none else ρ[i]?
  | [], i => by simp [wipeL]
  | v :: vs, i => by
    unfold wipeL
    have ih := wipeL_get ρ vs i
    have ln := wipeL_length ρ vs
    rw [List.getElem?_set, ih, ln]
    by_cases h : v = i
    · subst h
      by_cases h2 : v < ρ.length
      · simp [h2]
      · simp [h2]
    · have : i ≠ v := fun e => h e.symm
      simp [h, this]
mutual
theorem put_out : ∀ {t : Tg} {d : D} {ρ ρ' : List (Option L)}, t.put d ρ = some ρ' → ρ'.length = ρ.length ∧ ∀ i, i ∉ t.js → ρ'[i]? = ρ[i]?
  | .nm j, d, ρ, ρ', h => by
    simp only [Tg.put, Option.some.injEq] at h
    subst h
    exact ⟨by simp, fun i hi => List.getElem?_set_ne (by simpa [Tg.js, eq_comm] using hi)⟩
  | .tp ts, d, ρ, ρ', h => by
    cases d with
    | tup ds =>
      simp only [Tg.put] at h
      exact puts_out h
    | lst ds =>
      simp only [Tg.put] at h
      exact puts_out h
    | _ => simp [Tg.put] at h
theorem puts_out : ∀ {ts : List Tg} {ds : List D} {ρ ρ' : List (Option L)}, Tg.puts ts ds ρ = some ρ' → ρ'.length = ρ.length ∧ ∀ i, i ∉ Tg.jss ts → ρ'[i]? = ρ[i]?
  | [], [], ρ, ρ', h => by
    simp only [Tg.puts, Option.some.injEq] at h
    subst h
    exact ⟨rfl, fun _ _ => rfl⟩
  | [], _ :: _, _, _, h => by simp [Tg.puts] at h
  | _ :: _, [], _, _, h => by simp [Tg.puts] at h
  | t :: ts, d :: ds, ρ, ρ', h => by
    simp only [Tg.puts] at h
    cases hp : t.put d ρ with
    | none => rw [hp] at h; simp at h
    | some ρ1 =>
      rw [hp] at h
      simp only [Option.bind_some] at h
      obtain ⟨a1, a2⟩ := put_out hp
      obtain ⟨b1, b2⟩ := puts_out h
      refine ⟨b1.trans a1, fun i hi => ?_⟩
      simp only [Tg.jss, List.mem_append, not_or] at hi
      rw [b2 i hi.2, a2 i hi.1]
end
theorem put_wipe {t : Tg} {d : D} {ρ ρ' : List (Option L)} {vs : List Nat} (h : t.put d (wipeL ρ vs) = some ρ') (hj : ∀ j ∈ t.js, j ∈ vs) : wipeL ρ' vs = wipeL ρ vs := by
  obtain ⟨a1, a2⟩ := put_out h
  rw [wipeL_length] at a1
  refine List.ext_getElem? fun i => ?_
  rw [wipeL_get, wipeL_get, a1]
  by_cases hi : i ∈ vs
  · by_cases hl : i < ρ.length
    · simp [hi, hl]
    · simp only [hl, and_false, if_false]
      rw [List.getElem?_eq_none (by omega), List.getElem?_eq_none (by omega)]
  · simp only [hi, false_and, if_false]
    rw [a2 i fun e => hi (hj i e), wipeL_get]
    simp [hi]
theorem line_big : (10000000 : Nat) ≤ sizeLine := by rw [sizeLine_eq]; decide
end Pm
set_option Elab.async false
set_option linter.all false
set_option maxRecDepth 100000
set_option maxHeartbeats 1000000
set_option autoImplicit false
namespace Pm
open PySem PySem.Spec
open PyProof.Rows hiding St
open L2
def itD (q : Int × Int) : D := .tup [.int q.1, .int q.2]
structure Pan where
  its : List (Int × Int)
  rus : List (Int × Int)
def panD (p : Pan) : D := .tup [.tup (p.its.map itD), .tup (p.rus.map itD)]
def ItOk (q : Int × Int) : Prop := -(10 ^ 9) ≤ q.1 ∧ q.1 ≤ 10 ^ 9 ∧ 1 ≤ q.2 ∧ q.2 ≤ 10 ^ 6
def RuOk (n : Nat) (q : Int × Int) : Prop := 0 ≤ q.1 ∧ q.1 < n ∧ 0 ≤ q.2 ∧ q.2 < n ∧ q.1 ≠ q.2
structure PanOk (most : Nat) (p : Pan) : Prop where
  one : 1 ≤ p.its.length
  top : p.its.length ≤ most
  it : ∀ q ∈ p.its, ItOk q
  few : p.rus.length ≤ 16
  ru : ∀ q ∈ p.rus, RuOk p.its.length q
end Pm
set_option Elab.async false
set_option linter.all false
set_option maxRecDepth 100000
set_option maxHeartbeats 1000000
set_option autoImplicit false
namespace Pm
open PySem PySem.Spec
open PyProof.Rows hiding St
open L2
theorem divInt_mul {M W : Int} (h : 0 < W) : Rat.divInt M W * (W : Rat) = (M : Rat) := by
  rw [Rat.divInt_eq_div]
  exact Rat.div_mul_cancel (by
    intro e
    have := Rat.intCast_pos.mpr h
    rw [e] at this
    exact Rat.lt_irrefl this)
def selI (its : List (Int × Int)) (gs : List Nat) : List (Int × Int) := gs.map fun i => its.getD i (0, 1)
def sM (l : List (Int × Int)) : Int := (l.map fun q => q.1 * q.2).sum
def sW (l : List (Int × Int)) : Int := (l.map fun q => q.2).sum
def avg (l : List (Int × Int)) : Rat := Rat.divInt (sM l) (sW l)
theorem sM_cons (q : Int × Int) (l : List (Int × Int)) : sM (q :: l) = q.1 * q.2 + sM l := by simp [sM]
theorem sW_cons (q : Int × Int) (l : List (Int × Int)) : sW (q :: l) = q.2 + sW l := by simp [sW]
def ItB (q : Int × Int) : Prop := Sz 70 q.1 ∧ Sz 70 q.2 ∧ 1 ≤ q.2
theorem ItOk.b {q : Int × Int} (h : ItOk q) : ItB q := by
  obtain ⟨a, b, c, d⟩ := h
  have : (10 : Int) ^ 9 < 2 ^ 70 := by decide
  have : (10 : Int) ^ 6 < 2 ^ 70 := by decide
  have e : ((2 ^ 70 : Nat) : Int) = 2 ^ 70 := by decide
  exact ⟨by unfold Sz; omega, by unfold Sz; omega, c⟩
theorem sW_ge {l : List (Int × Int)} (h : ∀ q ∈ l, ItB q) : (l.length : Int) ≤ sW l := by
  induction l with
  | nil => simp [sW]
  | cons q l ih =>
    have := ih fun z hz => h z (by simp [hz])
    have := (h q (by simp)).2.2
    rw [sW_cons, List.length_cons]; omega
theorem sW_le {l : List (Int × Int)} (h : ∀ q ∈ l, ItB q) : (sW l).natAbs ≤ l.length * 2 ^ 70 := by
  induction l with
  | nil => simp [sW]
  | cons q l ih =>
    have h1 := ih fun z hz => h z (by simp [hz])
    have h2 := (h q (by simp)).2.1
    unfold Sz at h2
    rw [sW_cons, List.length_cons, Nat.add_mul]; omega
theorem sM_le {l : List (Int × Int)} (h : ∀ q ∈ l, ItB q) : (sM l).natAbs ≤ l.length * 2 ^ 140 := by
  induction l with
  | nil => simp [sM]
  | cons q l ih =>
    have h1 := ih fun z hz => h z (by simp [hz])
    have h2 := (h q (by simp)).1.mul (h q (by simp)).2.1
    unfold Sz at h2
    rw [sM_cons, List.length_cons, Nat.add_mul]; omega
theorem sz_sums {l : List (Int × Int)} (h : ∀ q ∈ l, ItB q) (hn : l.length ≤ 1000) : Sz 150 (sM l) ∧ Sz 150 (sW l) := by
  have h1 := sM_le h
  have h2 := sW_le h
  unfold Sz
  have e1 : l.length * 2 ^ 140 ≤ 1000 * 2 ^ 140 := Nat.mul_le_mul_right _ hn
  have e2 : l.length * 2 ^ 70 ≤ 1000 * 2 ^ 70 := Nat.mul_le_mul_right _ hn
  have e3 : 1000 * 2 ^ 140 < 2 ^ 150 := by decide
  have e4 : 1000 * 2 ^ 70 < 2 ^ 150 := by decide
  omega
theorem avg_sz {l : List (Int × Int)} (h : ∀ q ∈ l, ItB q) (hn : l.length ≤ 1000) (h0 : l ≠ []) : SzR 150 (avg l) := by
  obtain ⟨a, b⟩ := sz_sums h hn
  have h1 := sW_ge h
  have h2 : 0 < l.length := List.length_pos_iff.mpr h0
  exact SzR.divInt a b (by omega)
theorem sW_pos {l : List (Int × Int)} (h : ∀ q ∈ l, ItB q) (h0 : l ≠ []) : 0 < sW l := by
  have h1 := sW_ge h
  have h2 : 0 < l.length := List.length_pos_iff.mpr h0
  omega
def pD (its : List (Int × Int)) (rd : D) : D := .tup [.tup (its.map itD), rd]
def natD (i : Nat) : D := .int i
def grD (gs : List Nat) : D := .tup (gs.map natD)
theorem sel_mem {its : List (Int × Int)} {gs : List Nat} (h : ∀ i ∈ gs, i < its.length) {q : Int × Int} (hq : q ∈ selI its gs) : q ∈ its := by
  obtain ⟨i, hi, rfl⟩ := List.mem_map.mp hq
  have hl := h i hi
  rw [List.getD_eq_getElem?_getD, List.getElem?_eq_getElem hl]
  exact List.getElem_mem hl
theorem getD_at {its : List (Int × Int)} {i : Nat} (h : i < its.length) : its[i]? = some (its.getD i (0, 1)) := by
  rw [List.getD_eq_getElem?_getD, List.getElem?_eq_getElem h]; rfl
theorem idx_it {its : List (Int × Int)} {i : Nat} (h : i < its.length) : idx (its.map itD) (i : Int) = some (itD (its.getD i (0, 1))) := by
  rw [idx_nat', List.getElem?_map, getD_at h]; rfl
theorem sel_ne {its : List (Int × Int)} {gs : List Nat} (h : gs ≠ []) : selI its gs ≠ [] := by
  unfold selI
  intro e
  exact h (List.map_eq_nil_iff.mp e)
end Pm
set_option Elab.async false
set_option linter.all false
set_option maxRecDepth 100000
set_option maxHeartbeats 1000000
set_option autoImplicit false
namespace Pm
open PySem PySem.Spec
open PyProof.Rows hiding St
open L2
theorem nats_pln (gs : List Nat) : D.plns (gs.map natD) = true := by
  induction gs with
  | nil => rfl
  | cons q l ih => simp only [List.map_cons, D.plns, ih]; rfl
theorem in_nats {gs : List Nat} {k : Nat} : (gs.map natD).any (fun y => D.eqv y (.int k)) = decide (k ∈ gs) := by
  rw [Bool.eq_iff_iff, decide_eq_true_iff, List.any_eq_true]
  constructor
  · rintro ⟨y, hy, e⟩
    obtain ⟨i, hi, rfl⟩ := List.mem_map.mp hy
    have : (i : Int) = k := by simpa [natD, D.eqv] using e
    have : i = k := by omega
    rw [← this]; exact hi
  · intro h
    exact ⟨natD k, List.mem_map.mpr ⟨k, h, rfl⟩, by simp [natD, D.eqv]⟩
theorem notin_nats {gs : List Nat} {k : Nat} : (true ^^ (gs.map natD).any fun y => D.eqv y (.int k)) = !decide (k ∈ gs) := by rw [in_nats]; simp
theorem isin_nats {gs : List Nat} {k : Nat} : (false ^^ (gs.map natD).any fun y => D.eqv y (.int k)) = decide (k ∈ gs) := by rw [in_nats]; simp
theorem notin_natD {gs : List Nat} {k : Nat} : (true ^^ (gs.map natD).any fun y => D.eqv y (natD k)) = !decide (k ∈ gs) := notin_nats
theorem isin_natD {gs : List Nat} {k : Nat} : (false ^^ (gs.map natD).any fun y => D.eqv y (natD k)) = decide (k ∈ gs) := isin_nats
theorem gr_dep (gs : List Nat) : (grD gs).dep ≤ 64 := by
  have : D.deps (gs.map natD) = 0 := by
    induction gs with
    | nil => rfl
    | cons g gs ih => simp only [List.map_cons, D.deps, ih]; rfl
  simp only [grD, D.dep, this]; decide
theorem gr_ok (gs : List Nat) : EqOk (grD gs) (.tup []) := ⟨nats_pln gs, rfl, gr_dep gs, by simp [D.dep, D.deps]⟩
theorem gr_eqv (gs : List Nat) : D.eqv (grD gs) (.tup []) = decide (gs = []) := by
  cases gs with
  | nil => rfl
  | cons g gs => simp [grD, D.eqv, D.eqvs]
def grpS : List Nat → List (List Nat)
  | [] => [[]]
  | i :: l => [] :: ((grpS l).map (i :: ·) ++ (grpS l).tail)
theorem grpS_length : ∀ l : List Nat, (grpS l).length = 2 ^ l.length
  | [] => rfl
  | i :: l => by
    have ih := grpS_length l
    have hp : 0 < 2 ^ l.length := Nat.pow_pos (by decide)
    simp only [grpS, List.length_cons, List.length_append, List.length_map, List.length_tail, ih, Nat.pow_succ]
    omega
theorem grpS_sub : ∀ {l gs : List Nat}, gs ∈ grpS l → gs.Sublist l
  | [], gs, h => by
    have : gs = [] := by simpa [grpS] using h
    rw [this]; exact List.Sublist.refl _
  | i :: l, gs, h => by
    simp only [grpS, List.mem_cons, List.mem_append, List.mem_map] at h
    rcases h with rfl | ⟨k, hk, rfl⟩ | h
    · exact List.nil_sublist _
    · exact (grpS_sub hk).cons_cons i
    · exact (grpS_sub (List.mem_of_mem_tail h)).cons i
theorem grpS_cons_ne : ∀ l : List Nat, ∃ r, grpS l = [] :: r
  | [] => ⟨[], rfl⟩
  | i :: l => ⟨_, rfl⟩
theorem sub_grpS : ∀ {l gs : List Nat}, gs.Sublist l → gs ∈ grpS l
  | [], gs, h => by
    rw [List.sublist_nil.mp h]; simp [grpS]
  | i :: l, gs, h => by
    simp only [grpS, List.mem_cons, List.mem_append, List.mem_map]
    cases h with
    | cons _ h =>
      have := sub_grpS h
      obtain ⟨r, e⟩ := grpS_cons_ne l
      rw [e] at this ⊢
      rcases List.mem_cons.mp this with rfl | h2
      · exact .inl rfl
      · exact .inr (.inr h2)
    | cons_cons _ h => exact .inr (.inl ⟨_, sub_grpS h, rfl⟩)
end Pm
set_option Elab.async false
set_option linter.all false
set_option maxRecDepth 100000
set_option maxHeartbeats 1000000
set_option autoImplicit false
namespace Pm
def sm (f : Nat → Rat) : List Nat → Rat
  | [] => 0
  | i :: l => f i + sm f l
theorem sm_append (f : Nat → Rat) : ∀ l k : List Nat, sm f (l ++ k) = sm f l + sm f k
  | [], k => by simp only [List.nil_append, sm]; grind
  | i :: l, k => by simp only [List.cons_append, sm, sm_append f l k]; grind
theorem sm_perm {f : Nat → Rat} {l k : List Nat} (h : l.Perm k) : sm f l = sm f k := by
  induction h with
  | nil => rfl
  | cons q _ ih => simp only [sm, ih]
  | swap a b l => simp only [sm]; grind
  | trans _ _ a b => exact a.trans b
theorem sm_congr {f g : Nat → Rat} : ∀ {l : List Nat}, (∀ i ∈ l, f i = g i) → sm f l = sm g l
  | [], _ => rfl
  | i :: l, h => by simp only [sm, h i (by simp), sm_congr (l := l) fun j hj => h j (by simp [hj])]
theorem sm_split (f : Nat → Rat) (p : Nat → Bool) : ∀ l : List Nat, sm f (l.filter p) + sm f (l.filter fun i => !p i) = sm f l
  | [] => by simp only [List.filter_nil, sm]; grind
  | i :: l => by
    have := sm_split f p l
    cases h : p i <;> simp only [List.filter_cons, h, sm, Bool.not_true, Bool.not_false, if_true, if_false, Bool.false_eq_true] <;> grind
theorem sm_le {f g : Nat → Rat} : ∀ {l : List Nat}, (∀ i ∈ l, f i ≤ g i) → sm f l ≤ sm g l
  | [], _ => Rat.le_refl
  | i :: l, h => by
    have h1 := h i (by simp)
    have h2 := sm_le (l := l) fun j hj => h j (by simp [hj])
    simp only [sm]; grind
theorem sm_nonneg {f : Nat → Rat} {l : List Nat} (h : ∀ i ∈ l, 0 ≤ f i) : 0 ≤ sm f l := by
  induction l with
  | nil => exact Rat.le_refl
  | cons i l ih =>
    have h1 := h i (by simp)
    have h2 := ih fun j hj => h j (by simp [hj])
    simp only [sm]; grind
theorem sm_pos {f : Nat → Rat} {l : List Nat} (h : ∀ i ∈ l, 0 < f i) (h0 : l ≠ []) : 0 < sm f l := by
  cases l with
  | nil => exact absurd rfl h0
  | cons i l =>
    have h1 := h i (by simp)
    have h2 := sm_nonneg (f := f) (l := l) fun j hj => Rat.le_of_lt (h j (by simp [hj]))
    simp only [sm]; grind
theorem sm_add (f g : Nat → Rat) : ∀ l : List Nat, sm (fun i => f i + g i) l = sm f l + sm g l
  | [] => by simp only [sm]; grind
  | i :: l => by simp only [sm, sm_add f g l]; grind
theorem sm_sub (f g : Nat → Rat) : ∀ l : List Nat, sm (fun i => f i - g i) l = sm f l - sm g l
  | [] => by simp only [sm]; grind
  | i :: l => by simp only [sm, sm_sub f g l]; grind
theorem sm_mul (c : Rat) (f : Nat → Rat) : ∀ l : List Nat, sm (fun i => c * f i) l = c * sm f l
  | [] => by simp only [sm]; grind
  | i :: l => by simp only [sm, sm_mul c f l]; grind
theorem sm_flat (f : Nat → Rat) : ∀ ps : List (List Nat), sm f ps.flatten = (ps.map (sm f)).sum
  | [] => rfl
  | p :: ps => by rw [List.flatten_cons, sm_append, sm_flat f ps, List.map_cons, List.sum_cons]
theorem exists_min {α : Type} (f : α → Rat) : ∀ {l : List α}, l ≠ [] → ∃ i ∈ l, ∀ j ∈ l, f i ≤ f j
  | [], h => absurd rfl h
  | [i], _ => ⟨i, by simp, fun j hj => by simp at hj; subst hj; exact Rat.le_refl⟩
  | i :: k :: l, _ => by
    obtain ⟨x, h1, h2⟩ := exists_min f (l := k :: l) (by simp)
    by_cases h : f i ≤ f x
    · refine ⟨i, by simp, fun j hj => ?_⟩
      rcases List.mem_cons.mp hj with rfl | hj
      · exact Rat.le_refl
      · exact Rat.le_trans h (h2 j hj)
    · refine ⟨x, by simp [List.mem_cons.mp h1], fun j hj => ?_⟩
      rcases List.mem_cons.mp hj with rfl | hj
      · grind
      · exact h2 j hj
theorem mul_nonneg' {a b : Rat} (h : 0 ≤ a) (k : 0 ≤ b) : 0 ≤ a * b := Rat.mul_nonneg h k

section
variable {E : Nat → Nat → Prop} {l : List Nat} {m w r s : Nat → Rat}
def UpS (E : Nat → Nat → Prop) (U : Nat → Bool) : Prop := ∀ a b, E a b → U a = true → U b = true
def Obey (E : Nat → Nat → Prop) (r : Nat → Rat) : Prop := ∀ a b, E a b → r a ≤ r b
def fw (m w r : Nat → Rat) (i : Nat) : Rat := w i * (m i - r i)
def RUp (r : Nat → Rat) (U : Nat → Bool) : Prop := ∀ i j, r i ≤ r j → U i = true → U j = true
structure Best (l : List Nat) (E : Nat → Nat → Prop) (m w r : Nat → Rat) : Prop where
  ob : Obey E r
  up : ∀ U, UpS E U → sm (fw m w r) (l.filter U) ≤ 0
  lv : ∀ U, RUp r U → sm (fw m w r) (l.filter U) = 0
theorem RUp.up {U : Nat → Bool} (o : Obey E r) (h : RUp r U) : UpS E U := fun a b e k => h a b (o a b e) k
theorem rup_ge (v : Rat) : RUp r fun i => decide (v ≤ r i) := fun i j h k => by
  simp only [decide_eq_true_eq] at k ⊢; exact Rat.le_trans k h
theorem rup_gt (v : Rat) : RUp r fun i => decide (v < r i) := fun i j h k => by
  simp only [decide_eq_true_eq] at k ⊢; grind
theorem layer {g : Nat → Rat} : ∀ (n : Nat) (l : List Nat), l.length ≤ n → (∀ U, RUp s U → sm g (l.filter U) ≤ 0) → ∀ c, (∀ i ∈ l, c ≤ s i) → sm (fun i => g i * s i) l ≤ c * sm g l
  | n, [], _, _, c, _ => by simp only [sm]; grind
  | 0, i :: l, h, _, _, _ => by simp at h
  | n + 1, i :: t, hn, h, c, hc => by
    obtain ⟨x, hx, hm⟩ := exists_min s (l := i :: t) (by simp)
    generalize hl : i :: t = l at *
    have h1 := sm_split g (fun j => decide (s x < s j)) l
    have h2 := sm_split (fun j => g j * s j) (fun j => decide (s x < s j)) l
    have lt : (l.filter fun j => decide (s x < s j)).length ≤ n := by
      have : (l.filter fun j => decide (s x < s j)).length < l.length := by
        have e : (l.filter fun j => decide (s x < s j)).length ≤ l.length := List.length_filter_le _ _
        rcases Nat.lt_or_eq_of_le e with e | e
        · exact e
        · have := List.length_filter_eq_length_iff.mp e x hx
          simp at this
      omega
    have ih := layer (g := g) n (l.filter fun j => decide (s x < s j)) lt (fun U hU => ?_) (s x) (fun j hj => by
      have := (List.mem_filter.mp hj).2
      simp only [decide_eq_true_eq] at this
      exact Rat.le_of_lt this)
    · have e3 : sm (fun j => g j * s j) (l.filter fun j => !decide (s x < s j)) = s x * sm g (l.filter fun j => !decide (s x < s j)) := by
        rw [← sm_mul]
        refine sm_congr fun j hj => ?_
        obtain ⟨a, b⟩ := List.mem_filter.mp hj
        have b' : ¬ s x < s j := by simpa using b
        have := hm j a
        have e : s j = s x := by grind
        rw [e]; exact Rat.mul_comm _ _
      have all : sm g l ≤ 0 := by
        have := h (fun _ => true) fun _ _ _ _ => rfl
        rwa [List.filter_eq_self.mpr fun _ _ => rfl] at this
      have cx : c ≤ s x := hc x hx
      have h3 : 0 ≤ (s x - c) * (0 - sm g l) := Rat.mul_nonneg (by grind) (by grind)
      have h4 : s x * sm g (l.filter fun j => decide (s x < s j)) + s x * sm g (l.filter fun j => !decide (s x < s j)) = s x * sm g l := by rw [← Rat.mul_add, h1]
      have h5 : (s x - c) * (0 - sm g l) = c * sm g l - s x * sm g l := by clear h hc hx hm h1 h2 lt ih e3 all cx h3 h4; grind
      rw [← h2, e3]
      rw [h5] at h3
      generalize s x * sm g l = A at *
      generalize c * sm g l = B at *
      generalize s x * sm g (l.filter fun j => decide (s x < s j)) = C at *
      generalize s x * sm g (l.filter fun j => !decide (s x < s j)) = D at *
      generalize sm (fun i => g i * s i) (l.filter fun j => decide (s x < s j)) = F at *
      clear h1 h2 h hc hm lt hx all e3 h5
      grind
    · rw [List.filter_filter]
      exact h _ fun a b hab hk => by
        simp only [Bool.and_eq_true, decide_eq_true_eq] at hk ⊢
        exact ⟨hU a b hab hk.1, by grind⟩
theorem Best.all (b : Best l E m w r) : sm (fw m w r) l = 0 := by
  have := b.lv (fun _ => true) fun _ _ _ _ => rfl
  rwa [List.filter_eq_self.mpr fun _ _ => rfl] at this
theorem exists_le (f : Nat → Rat) (l : List Nat) : ∃ c, ∀ i ∈ l, c ≤ f i := by
  cases l with
  | nil => exact ⟨0, fun i h => absurd h (by simp)⟩
  | cons a t => obtain ⟨x, _, h⟩ := exists_min f (l := a :: t) (by simp); exact ⟨f x, h⟩
theorem Best.dot_self (b : Best l E m w r) : sm (fun i => fw m w r i * r i) l = 0 := by
  obtain ⟨c, hc⟩ := exists_le r l
  have h1 := layer (s := r) (g := fw m w r) l.length l (Nat.le_refl _) (fun U h => by rw [b.lv U h]; exact Rat.le_refl) c hc
  have e : ∀ k : List Nat, sm (fun i => -1 * fw m w r i) k = -1 * sm (fw m w r) k := sm_mul (-1) (fw m w r)
  have h2 := layer (s := r) (g := fun i => -1 * fw m w r i) l.length l (Nat.le_refl _) (fun U h => by rw [e, b.lv U h]; grind) c hc
  have e2 : sm (fun i => -1 * fw m w r i * r i) l = -1 * sm (fun i => fw m w r i * r i) l := by
    rw [← sm_mul]; exact sm_congr fun i _ => by grind
  rw [e, b.all, e2] at h2
  rw [b.all] at h1
  grind
theorem Best.dot (b : Best l E m w r) (hs : Obey E s) : sm (fun i => fw m w r i * s i) l ≤ 0 := by
  obtain ⟨c, hc⟩ := exists_le s l
  have h1 := layer (s := s) (g := fw m w r) l.length l (Nat.le_refl _) (fun U h => b.up U (h.up hs)) c hc
  rw [b.all] at h1; grind
def costS (l : List Nat) (m w r : Nat → Rat) : Rat := sm (fun i => w i * ((r i - m i) * (r i - m i))) l
theorem Best.cost (b : Best l E m w r) (hs : Obey E s) : costS l m w r + sm (fun i => w i * ((s i - r i) * (s i - r i))) l ≤ costS l m w s := by
  have h1 := b.dot hs
  have h2 := b.dot_self
  have e : costS l m w s = costS l m w r + sm (fun i => w i * ((s i - r i) * (s i - r i))) l + (-2) * (sm (fun i => fw m w r i * s i) l - sm (fun i => fw m w r i * r i) l) := by
    unfold costS
    rw [← sm_sub, ← sm_mul, ← sm_add, ← sm_add]
    exact sm_congr fun i _ => by simp only [fw]; grind
  rw [e, h2]; grind
theorem Best.unique (b : Best l E m w r) (b' : Best l E m w s) (hw : ∀ i ∈ l, 0 < w i) : ∀ i ∈ l, r i = s i := by
  have h1 := b.cost b'.ob
  have h2 := b'.cost b.ob
  have e : sm (fun i => w i * ((r i - s i) * (r i - s i))) l = sm (fun i => w i * ((s i - r i) * (s i - r i))) l := sm_congr fun i _ => by grind
  rw [e] at h2
  have h3 : sm (fun i => w i * ((s i - r i) * (s i - r i))) l ≤ 0 := by grind
  intro i hi
  have sq : ∀ j ∈ l, 0 ≤ w j * ((s j - r j) * (s j - r j)) := fun j hj => Rat.mul_nonneg (Rat.le_of_lt (hw j hj)) (by
    rcases (show 0 ≤ s j - r j ∨ 0 ≤ r j - s j by grind) with h | h
    · exact Rat.mul_nonneg h h
    · have := Rat.mul_nonneg h h; grind)
  by_cases hne : r i = s i
  · exact hne
  exfalso
  have p1 : 0 < (s i - r i) * (s i - r i) := by
    rcases (show 0 < s i - r i ∨ 0 < r i - s i by grind) with h | h
    · exact Rat.mul_pos h h
    · have := Rat.mul_pos h h; grind
  have p2 := Rat.mul_pos (hw i hi) p1
  obtain ⟨a, c, rfl⟩ := List.append_of_mem hi
  rw [sm_append] at h3
  simp only [sm] at h3
  have n1 := sm_nonneg (l := a) fun j hj => sq j (by simp [hj])
  have n2 := sm_nonneg (l := c) fun j hj => sq j (by simp [hj])
  grind
end
section
variable {E : Nat → Nat → Prop} {l : List Nat} {m w : Nat → Rat}
def ex (m w : Nat → Rat) (a : Rat) (k : List Nat) : Rat := sm (fun i => w i * (m i - a)) k
def avS (m w : Nat → Rat) (k : List Nat) : Rat := sm (fun i => w i * m i) k / sm w k
theorem ex_eq (m w : Nat → Rat) (a : Rat) (k : List Nat) : ex m w a k = sm (fun i => w i * m i) k - a * sm w k := by
  unfold ex
  rw [← sm_mul, ← sm_sub]; exact sm_congr fun i _ => by grind
theorem ex_av (k : List Nat) (h : 0 < sm w k) : ex m w (avS m w k) k = 0 := by
  rw [ex_eq]; unfold avS
  rw [Rat.div_mul_cancel (by grind)]; grind
def PUp (E : Nat → Nat → Prop) (p : List Nat) (U : Nat → Bool) : Prop := ∀ a ∈ p, ∀ b ∈ p, E a b → U a = true → U b = true
def HiB (E : Nat → Nat → Prop) (m w : Nat → Rat) (p : List Nat) (a : Rat) : Prop := ∀ U, PUp E p U → ex m w a (p.filter U) ≤ 0
def LoB (E : Nat → Nat → Prop) (m w : Nat → Rat) (p : List Nat) (a : Rat) : Prop := ∀ U, PUp E p U → 0 ≤ ex m w a (p.filter fun i => !U i)
def Below (E : Nat → Nat → Prop) (m w : Nat → Rat) (p q : List Nat) : Prop := (∃ a, HiB E m w p a ∧ LoB E m w q a) ∧ ∀ x ∈ p, ∀ y ∈ q, ¬ E y x
theorem ex_split (a : Rat) (U : Nat → Bool) (p : List Nat) : ex m w a (p.filter U) + ex m w a (p.filter fun i => !U i) = ex m w a p := sm_split _ U p
theorem HiB.all {p : List Nat} {a : Rat} (h : HiB E m w p a) : ex m w a p ≤ 0 := by
  have := h (fun _ => true) fun _ _ _ _ _ _ => rfl
  rwa [List.filter_eq_self.mpr fun _ _ => rfl] at this
theorem LoB.all {p : List Nat} {a : Rat} (h : LoB E m w p a) : 0 ≤ ex m w a p := by
  have := h (fun _ => false) fun _ _ _ _ _ h => h
  have e : (p.filter fun i => !false) = p := List.filter_eq_self.mpr fun _ _ => rfl
  rwa [e] at this
theorem HiB.av {p : List Nat} {a : Rat} (h : HiB E m w p a) (hw : 0 < sm w p) : avS m w p ≤ a := by
  have h1 := h.all
  have h2 := ex_av (m := m) p hw
  rw [ex_eq] at h1 h2
  rcases (show avS m w p ≤ a ∨ a < avS m w p by grind) with z | z
  · exact z
  · have := Rat.mul_pos (show 0 < avS m w p - a by grind) hw
    grind
theorem LoB.av {p : List Nat} {a : Rat} (h : LoB E m w p a) (hw : 0 < sm w p) : a ≤ avS m w p := by
  have h1 := h.all
  have h2 := ex_av (m := m) p hw
  rw [ex_eq] at h1 h2
  rcases (show a ≤ avS m w p ∨ avS m w p < a by grind) with z | z
  · exact z
  · have := Rat.mul_pos (show 0 < a - avS m w p by grind) hw
    grind
structure Split (E : Nat → Nat → Prop) (m w : Nat → Rat) (p : List Nat) (U : Nat → Bool) : Prop where
  up : PUp E p U
  most : ∀ V, PUp E p V → ex m w (avS m w p) (p.filter V) ≤ ex m w (avS m w p) (p.filter U)
theorem ff {p : List Nat} (U V : Nat → Bool) : (p.filter U).filter V = p.filter fun i => V i && U i := List.filter_filter ..
theorem flt {p q : Nat → Bool} (l : List Nat) (h : ∀ i, p i = q i) : l.filter p = l.filter q := congrArg (fun z => List.filter z l) (funext h)
theorem Split.hi {p : List Nat} {U : Nat → Bool} (h : Split E m w p U) : HiB E m w (p.filter fun i => !U i) (avS m w p) := fun V hV => by
  have up : PUp E p fun i => U i || V i := fun a ha b hb e k => by
    simp only [Bool.or_eq_true] at k ⊢
    rcases k with k | k
    · exact .inl (h.up a ha b hb e k)
    · cases q : U b with
      | true => exact .inl rfl
      | false =>
        cases q2 : U a with
        | true => rw [h.up a ha b hb e q2] at q; cases q
        | false => exact .inr (hV a (List.mem_filter.mpr ⟨ha, by simp [q2]⟩) b (List.mem_filter.mpr ⟨hb, by simp [q]⟩) e k)
  have h1 := h.most _ up
  have h2 := ex_split (m := m) (w := w) (avS m w p) U (p.filter fun i => U i || V i)
  rw [ff, ff] at h2
  rw [ff]
  have e1 : (p.filter fun i => U i && (U i || V i)) = p.filter U := flt p fun i => by cases U i <;> simp
  have e2 : (p.filter fun i => !U i && (U i || V i)) = p.filter fun i => V i && !U i := flt p fun i => by cases U i <;> simp
  rw [e1, e2] at h2
  grind
theorem Split.lo {p : List Nat} {U : Nat → Bool} (h : Split E m w p U) : LoB E m w (p.filter U) (avS m w p) := fun V hV => by
  have up : PUp E p fun i => V i && U i := fun a ha b hb e k => by
    simp only [Bool.and_eq_true] at k ⊢
    have := h.up a ha b hb e k.2
    exact ⟨hV a (List.mem_filter.mpr ⟨ha, k.2⟩) b (List.mem_filter.mpr ⟨hb, this⟩) e k.1, this⟩
  have h1 := h.most _ up
  have h2 := ex_split (m := m) (w := w) (avS m w p) V (p.filter U)
  rw [ff, ff] at h2
  rw [ff]
  grind
theorem ex_mono {a b : Rat} {k : List Nat} (h : a ≤ b) (hw : ∀ i ∈ k, 0 ≤ w i) : ex m w b k ≤ ex m w a k := sm_le fun i hi => by
  have := Rat.mul_nonneg (hw i hi) (show 0 ≤ b - a by grind)
  grind
theorem LoB.lower {p : List Nat} {U : Nat → Bool} {a : Rat} (h : LoB E m w p a) (hU : PUp E p U) : LoB E m w (p.filter fun i => !U i) a := fun V hV => by
  have up : PUp E p fun i => U i || V i := fun x hx y hy e k => by
    simp only [Bool.or_eq_true] at k ⊢
    rcases k with k | k
    · exact .inl (hU x hx y hy e k)
    · cases q : U y with
      | true => exact .inl rfl
      | false =>
        cases q2 : U x with
        | true => rw [hU x hx y hy e q2] at q; cases q
        | false => exact .inr (hV x (List.mem_filter.mpr ⟨hx, by simp [q2]⟩) y (List.mem_filter.mpr ⟨hy, by simp [q]⟩) e k)
  have := h _ up
  rw [ff]
  rwa [flt p (q := fun i => !V i && !U i) fun i => by cases U i <;> cases V i <;> rfl] at this
theorem HiB.upper {p : List Nat} {U : Nat → Bool} {a : Rat} (h : HiB E m w p a) (hU : PUp E p U) : HiB E m w (p.filter U) a := fun V hV => by
  have up : PUp E p fun i => V i && U i := fun x hx y hy e k => by
    simp only [Bool.and_eq_true] at k ⊢
    have := hU x hx y hy e k.2
    exact ⟨hV x (List.mem_filter.mpr ⟨hx, k.2⟩) y (List.mem_filter.mpr ⟨hy, this⟩) e k.1, this⟩
  rw [ff]; exact h _ up
theorem LoB.le {p : List Nat} {a b : Rat} (h : LoB E m w p b) (k : a ≤ b) (hw : ∀ i ∈ p, 0 ≤ w i) : LoB E m w p a := fun U hU => by
  have h1 := h U hU
  have h2 := ex_mono (m := m) (w := w) (k := p.filter fun i => !U i) k fun i hi => hw i (List.mem_filter.mp hi).1
  exact Rat.le_trans h1 h2
theorem HiB.le {p : List Nat} {a b : Rat} (h : HiB E m w p a) (k : a ≤ b) (hw : ∀ i ∈ p, 0 ≤ w i) : HiB E m w p b := fun U hU => by
  have h1 := h U hU
  have h2 := ex_mono (m := m) (w := w) (k := p.filter U) k fun i hi => hw i (List.mem_filter.mp hi).1
  exact Rat.le_trans h2 h1
theorem Split.below {p : List Nat} {U : Nat → Bool} (h : Split E m w p U) : Below E m w (p.filter fun i => !U i) (p.filter U) :=
  ⟨⟨_, h.hi, h.lo⟩, fun x hx y hy e => by
    obtain ⟨x1, x2⟩ := List.mem_filter.mp hx
    obtain ⟨y1, y2⟩ := List.mem_filter.mp hy
    have := h.up y y1 x x1 e y2
    simp [this] at x2⟩
theorem Below.left {p q : List Nat} {U : Nat → Bool} (h : Below E m w p q) (s : Split E m w q U) (hw : ∀ i ∈ q, 0 ≤ w i) (hp : 0 < sm w q) : Below E m w p (q.filter U) ∧ Below E m w p (q.filter fun i => !U i) := by
  obtain ⟨⟨a, h1, h2⟩, h3⟩ := h
  refine ⟨⟨⟨a, h1, s.lo.le (h2.av hp) fun i hi => hw i (List.mem_filter.mp hi).1⟩, fun x hx y hy => h3 x hx y (List.mem_filter.mp hy).1⟩, ⟨⟨a, h1, h2.lower s.up⟩, fun x hx y hy => h3 x hx y (List.mem_filter.mp hy).1⟩⟩
theorem Below.right {p q : List Nat} {U : Nat → Bool} (h : Below E m w p q) (s : Split E m w p U) (hw : ∀ i ∈ p, 0 ≤ w i) (hp : 0 < sm w p) : Below E m w (p.filter U) q ∧ Below E m w (p.filter fun i => !U i) q := by
  obtain ⟨⟨a, h1, h2⟩, h3⟩ := h
  refine ⟨⟨⟨a, h1.upper s.up, h2⟩, fun x hx y hy => h3 x (List.mem_filter.mp hx).1 y hy⟩, ⟨⟨a, s.hi.le (h1.av hp) fun i hi => hw i (List.mem_filter.mp hi).1, h2⟩, fun x hx y hy => h3 x (List.mem_filter.mp hx).1 y hy⟩⟩
def Chain (E : Nat → Nat → Prop) (m w : Nat → Rat) (ps : List (List Nat)) : Prop := ps.Pairwise (Below E m w)
theorem Chain.split {a b : List (List Nat)} {p : List Nat} {U : Nat → Bool} (h : Chain E m w (a ++ p :: b)) (s : Split E m w p U) (hw : ∀ i ∈ p, 0 ≤ w i) (hp : 0 < sm w p) : Chain E m w (a ++ (p.filter fun i => !U i) :: (p.filter U) :: b) := by
  unfold Chain at *
  rw [List.pairwise_append, List.pairwise_cons] at h ⊢
  obtain ⟨h1, ⟨h2, h3⟩, h4⟩ := h
  refine ⟨h1, ⟨fun q hq => ?_, List.pairwise_cons.mpr ⟨fun q hq => ((h2 q hq).right s hw hp).1, h3⟩⟩, fun q hq z hz => ?_⟩
  · rcases List.mem_cons.mp hq with rfl | hq
    · exact s.below
    · exact ((h2 q hq).right s hw hp).2
  · have := (h4 q hq p (by simp)).left s hw hp
    rcases List.mem_cons.mp hz with rfl | hz
    · exact this.2
    · rcases List.mem_cons.mp hz with rfl | hz
      · exact this.1
      · exact h4 q hq z (by simp [hz])
def Whole (E : Nat → Nat → Prop) (m w : Nat → Rat) (p : List Nat) : Prop := ∀ U, PUp E p U → ex m w (avS m w p) (p.filter U) ≤ 0
theorem pw_mem {α : Type} {R : α → α → Prop} : ∀ {l : List α}, l.Pairwise R → ∀ {x y}, x ∈ l → y ∈ l → x = y ∨ R x y ∨ R y x
  | [], _, _, _, h, _ => absurd h (by simp)
  | a :: l, h, x, y, hx, hy => by
    rw [List.pairwise_cons] at h
    rcases List.mem_cons.mp hx with rfl | hx
    · rcases List.mem_cons.mp hy with rfl | hy
      · exact .inl rfl
      · exact .inr (.inl (h.1 y hy))
    · rcases List.mem_cons.mp hy with e | hy
      · exact .inr (.inr (e ▸ h.1 x hx))
      · exact pw_mem h.2 hx hy
theorem flat_filter (U : Nat → Bool) : ∀ ps : List (List Nat), ps.flatten.filter U = (ps.map fun p => p.filter U).flatten
  | [] => rfl
  | p :: ps => by simp [List.filter_append, flat_filter U ps]
theorem sum_map_le {ps : List (List Nat)} {f : List Nat → Rat} (h : ∀ p ∈ ps, f p ≤ 0) : (ps.map f).sum ≤ 0 := by
  induction ps with
  | nil => exact Rat.le_refl
  | cons p ps ih =>
    have h1 := h p (by simp)
    have h2 := ih fun q hq => h q (by simp [hq])
    rw [List.map_cons, List.sum_cons]; grind
theorem sum_map_zero {ps : List (List Nat)} {f : List Nat → Rat} (h : ∀ p ∈ ps, f p = 0) : (ps.map f).sum = 0 := by
  induction ps with
  | nil => rfl
  | cons p ps ih =>
    have h1 := h p (by simp)
    have h2 := ih fun q hq => h q (by simp [hq])
    rw [List.map_cons, List.sum_cons]; grind
theorem Chain.best {ps : List (List Nat)} {r : Nat → Rat} (h : Chain E m w ps) (hE : ∀ a b, E a b → a ∈ l ∧ b ∈ l) (hl : ps.flatten.Perm l) (nd : l.Nodup) (hw : ∀ i ∈ l, 0 < w i) (hn : ∀ p ∈ ps, p ≠ []) (hf : ∀ p ∈ ps, Whole E m w p) (hr : ∀ p ∈ ps, ∀ i ∈ p, r i = avS m w p) : Best l E m w r := by
  have pw : ∀ p ∈ ps, 0 < sm w p := fun p hp => sm_pos (fun i hi => hw i (hl.mem_iff.mp (List.mem_flatten.mpr ⟨p, hp, hi⟩))) (hn p hp)
  have eqf : ∀ p ∈ ps, ∀ U : Nat → Bool, sm (fw m w r) (p.filter U) = ex m w (avS m w p) (p.filter U) := fun p hp U => sm_congr fun i hi => by
    simp only [fw]; rw [hr p hp i (List.mem_filter.mp hi).1]
  have tot : ∀ U : Nat → Bool, sm (fw m w r) (l.filter U) = (ps.map fun p => ex m w (avS m w p) (p.filter U)).sum := fun U => by
    rw [← sm_perm (hl.filter U), flat_filter, sm_flat, List.map_map]
    congr 1
    exact List.map_congr_left fun p hp => eqf p hp U
  refine ⟨fun a b e => ?_, fun U hU => ?_, fun U hU => ?_⟩
  · obtain ⟨ha, hb⟩ := hE a b e
    obtain ⟨p, hp, ap⟩ := List.mem_flatten.mp (hl.mem_iff.mpr ha)
    obtain ⟨q, hq, bq⟩ := List.mem_flatten.mp (hl.mem_iff.mpr hb)
    rw [hr p hp a ap, hr q hq b bq]
    by_cases hpq : p = q
    · rw [hpq]; exact Rat.le_refl
    · rcases (pw_mem h hp hq).resolve_left hpq with o | o
      · obtain ⟨⟨c, h1, h2⟩, _⟩ := o
        exact Rat.le_trans (h1.av (pw p hp)) (h2.av (pw q hq))
      · exact absurd e (o.2 b bq a ap)
  · rw [tot]
    exact sum_map_le fun p hp => hf p hp U fun a _ b _ e k => hU a b e k
  · rw [tot]
    refine sum_map_zero fun p hp => ?_
    by_cases hx : ∃ x ∈ p, U x = true
    · obtain ⟨x, hx, hu⟩ := hx
      have : p.filter U = p := List.filter_eq_self.mpr fun y hy => hU x y (by rw [hr p hp x hx, hr p hp y hy]; exact Rat.le_refl) hu
      rw [this]; exact ex_av p (pw p hp)
    · have : p.filter U = [] := List.filter_eq_nil_iff.mpr fun y hy hu => hx ⟨y, hy, hu⟩
      rw [this]; rfl
end
end Pm
set_option Elab.async false
set_option linter.all false
set_option maxRecDepth 100000
set_option maxHeartbeats 1000000
set_option autoImplicit false
namespace Pm
open PySem PySem.Spec
open PyProof.Rows hiding St
open L2
variable {γ : Type}
def noOwn (ρ : List (Option L)) (vs : List Nat) : Bool := vs.all fun v => match ρ[v]? with
  | some (some (.own _)) => false
  | some (some (.dic _)) => false
  | _ => true
theorem back_wipe {s : S γ} {vs : List Nat} (h : noOwn s.ρ vs = true) : s.back vs (s.wipe vs) = s := by
  obtain ⟨ρ, g⟩ := s
  have e : (S.back (⟨ρ, g⟩ : S γ) vs (S.wipe (⟨ρ, g⟩ : S γ) vs)).ρ = ρ := by
    refine List.ext_getElem? fun i => ?_
    simp only [S.back, S.wipe, List.getElem?_mapIdx]
    rw [wipeL_get]
    by_cases hi : i ∈ vs
    · have h1 := List.all_eq_true.mp h i hi
      by_cases hl : i < ρ.length
      · rw [if_pos ⟨hi, hl⟩]
        simp only [Option.map_some, if_pos hi]
        rw [List.getElem?_eq_getElem hl] at h1 ⊢
        unfold keepVal
        cases q : ρ[i] with
        | none => simp [q]
        | some l => cases l with
          | val d => simp [q]
          | own ds => rw [q] at h1; simp at h1
          | dic ds => rw [q] at h1; simp at h1
      · rw [if_neg (fun z => hl z.2), List.getElem?_eq_none (by omega)]; rfl
    · rw [if_neg fun z => hi z.1]
      cases q : ρ[i]? with
      | none => rfl
      | some o => simp [hi]
  show (⟨_, _⟩ : S γ) = _
  exact congrArg (fun z => (⟨z, g⟩ : S γ)) e
theorem back_wipeG {s : S γ} {vs : List Nat} {g : γ} (h : noOwn s.ρ vs = true) : s.back vs ⟨wipeL s.ρ vs, g⟩ = ⟨s.ρ, g⟩ := by
  have e := congrArg S.ρ (back_wipe h)
  show (⟨_, g⟩ : S γ) = _
  exact congrArg (fun z => (⟨z, g⟩ : S γ)) e
theorem lc_runG {tg : Tg} {vs : List Nat} {tt : PTx γ} {te : PEx γ} {R : List D → S γ → Prop} {ds : List D} {s1 : S γ} (J : Nat → List D → γ → Prop) (h0 : J 0 [] s1.g)
    (step : ∀ i d acc g, ds[i]? = some d → J i acc g → ∃ ρ', tg.put d (wipeL s1.ρ vs) = some ρ' ∧ ((∀ g' : γ, Wk ((⟨ρ', g'⟩ : S γ).wipe vs) ⟨wipeL s1.ρ vs, g'⟩) →
      tt ⟨ρ', g⟩ fun b s3 => Br b (te s3 fun y s4 => acc.length + 1 ≤ sizeLine ∧ ∃ s5, Wk (s4.wipe vs) s5 ∧ ∃ g', s5 = ⟨wipeL s1.ρ vs, g'⟩ ∧ J (i + 1) (acc ++ [y]) g') (∃ s5, Wk (s3.wipe vs) s5 ∧ ∃ g', s5 = ⟨wipeL s1.ρ vs, g'⟩ ∧ J (i + 1) acc g')))
    (fin : ∀ acc g, J ds.length acc g → R acc ⟨s1.ρ, g⟩) (hj : ∀ j ∈ tg.js, j ∈ vs := by decide) (ho : noOwn s1.ρ vs = true := by rfl) : lcB tg vs tt te R ds s1 := by
  refine ⟨fun i acc s => ∃ g', s = ⟨wipeL s1.ρ vs, g'⟩ ∧ J i acc g', ⟨_, Wk.refl _, s1.g, rfl, h0⟩, ?_, ?_⟩
  · rintro i d acc s hd ⟨g, rfl, hJ⟩
    obtain ⟨ρ', h1, h2⟩ := step i d acc g hd hJ
    unfold qPut
    show match tg.put d (wipeL s1.ρ vs) with | some ρ' => _ | none => False
    rw [h1]
    refine h2 fun g' => ?_
    show Wk (⟨wipeL ρ' vs, g'⟩ : S γ) _
    rw [put_wipe h1 hj]
    exact Wk.refl _
  · rintro acc s ⟨g, rfl, hJ⟩
    rw [back_wipeG ho]
    exact fin acc g hJ
theorem lc_list {α : Type} {tg : Tg} {vs : List Nat} {tt : PTx γ} {te : PEx γ} {R : List D → S γ → Prop} {s1 : S γ} (l : List α) (e : α → D) (P : α → Bool) (g : α → D) (hn : l.length ≤ 1000000)
    (step : ∀ a ∈ l, ∃ ρ', tg.put (e a) (wipeL s1.ρ vs) = some ρ' ∧ (∀ T : Bool → S γ → Prop, T (P a) ⟨ρ', s1.g⟩ → tt ⟨ρ', s1.g⟩ T) ∧ (P a = true → ∀ T : D → S γ → Prop, T (g a) ⟨ρ', s1.g⟩ → te ⟨ρ', s1.g⟩ T))
    (fin : R ((l.filter P).map g) s1) (hj : ∀ j ∈ tg.js, j ∈ vs) (ho : noOwn s1.ρ vs = true) : lcB tg vs tt te R (l.map e) s1 := by
  have line := sizeLine_eq
  refine lc_runG (fun i acc g' => g' = s1.g ∧ acc = ((l.take i).filter P).map g) ⟨rfl, by simp⟩ ?_ ?_ hj ho
  · rintro i d acc g' hd ⟨rfl, rfl⟩
    rw [List.getElem?_map] at hd
    obtain ⟨a, ha, rfl⟩ := Option.map_eq_some_iff.mp hd
    obtain ⟨ρ', h1, h2, h3⟩ := step a (List.mem_of_getElem? ha)
    refine ⟨ρ', h1, fun W => h2 _ ⟨fun hb => h3 hb _ ⟨?_, _, W _, _, rfl, rfl, ?_⟩, fun hb => ⟨_, W _, _, rfl, rfl, ?_⟩⟩⟩
    · have h1 := List.length_filter_le P (l.take i)
      have h2 := List.length_take_le i l
      have h3 : (l.take i).length ≤ l.length := by rw [List.length_take]; omega
      rw [List.length_map]; omega
    · rw [List.take_add_one, ha, List.filter_append, List.map_append]
      simp [hb]
    · rw [List.take_add_one, ha, List.filter_append, List.map_append]
      simp [hb]
  · rintro acc g' ⟨rfl, rfl⟩
    rw [List.length_map, List.take_of_length_le (Nat.le_refl _)]
    exact fin
theorem lc_mapl {α : Type} {tg : Tg} {vs : List Nat} {te : PEx γ} {R : List D → S γ → Prop} {s1 : S γ} (l : List α) (e : α → D) (g : α → D) (hn : l.length ≤ 1000000)
    (step : ∀ a ∈ l, ∃ ρ', tg.put (e a) (wipeL s1.ρ vs) = some ρ' ∧ (∀ T : D → S γ → Prop, T (g a) ⟨ρ', s1.g⟩ → te ⟨ρ', s1.g⟩ T))
    (fin : R (l.map g) s1) (hj : ∀ j ∈ tg.js, j ∈ vs) (ho : noOwn s1.ρ vs = true) : lcB tg vs qYes te R (l.map e) s1 := by
  refine lc_list l e (fun _ => true) g hn (fun a ha => ?_) ?_ hj ho
  · obtain ⟨ρ', h1, h2⟩ := step a ha
    exact ⟨ρ', h1, fun T h => h, fun _ => h2⟩
  · rw [List.filter_eq_self.mpr fun _ _ => rfl]; exact fin
theorem put_nm {i : Nat} {d : D} {s : S γ} {R : S γ → Prop} (h : R ⟨s.ρ.set i (some (.val d)), s.g⟩) : qPut (.nm i) d s R := h
theorem put_tg {tg : Tg} {d : D} {s : S γ} {R : S γ → Prop} {ρ' : List (Option L)} (e : tg.put d s.ρ = some ρ') (h : R ⟨ρ', s.g⟩) : qPut tg d s R := by
  unfold qPut; rw [e]; exact h
theorem lc_all {tg : Tg} {vs : List Nat} {te : PEx γ} {R : List D → S γ → Prop} {s1 : S γ} {ds : List D} (g : D → D) (hn : ds.length ≤ 1000000)
    (step : ∀ a ∈ ds, ∃ ρ', tg.put a (wipeL s1.ρ vs) = some ρ' ∧ (∀ T : D → S γ → Prop, T (g a) ⟨ρ', s1.g⟩ → te ⟨ρ', s1.g⟩ T))
    (fin : R (ds.map g) s1) (hj : ∀ j ∈ tg.js, j ∈ vs) (ho : noOwn s1.ρ vs = true) : lcB tg vs qYes te R ds s1 := by
  have := lc_mapl (tg := tg) (vs := vs) (te := te) (R := R) (s1 := s1) ds id g hn step fin hj ho
  rw [List.map_id] at this; exact this
end Pm
set_option Elab.async false
set_option linter.all false
set_option maxRecDepth 100000
set_option maxHeartbeats 1000000
set_option autoImplicit false
namespace Pm
open PySem PySem.Spec
open PyProof.Rows hiding St
open L2
theorem sz_one {b : Nat} (h : 1 ≤ b := by decide) : Sz b 1 := by
  unfold Sz
  exact Nat.lt_of_lt_of_le (show Int.natAbs 1 < 2 ^ 1 by decide) (Nat.pow_le_pow_right (by decide) h)
theorem sz_zero {b : Nat} : Sz b 0 := Nat.pow_pos (by decide)
theorem SzR.int {b : Nat} {n : Int} (h : Sz b n) (hb : 1 ≤ b := by decide) : SzR b (n : Rat) := ⟨h, sz_one hb⟩
def scS (l : List (Int × Int)) (n d : Int) : Int := (l.map fun q => q.2 * (q.1 * d - n)).sum
theorem num_den (x : Rat) : (x.num : Rat) = x * ((x.den : Int) : Rat) := by
  have h := divInt_mul (M := x.num) (W := x.den) (by have := x.den_pos; omega)
  rw [Rat.num_divInt_den] at h
  exact h.symm
theorem den_pos (x : Rat) : (0 : Rat) < ((x.den : Int) : Rat) := Rat.intCast_pos.mpr (by have := x.den_pos; omega)
theorem divInt_is {n d : Int} {x : Rat} (h : 0 < d) (e : (n : Rat) = x * (d : Rat)) : Rat.divInt n d = x := by
  have h1 := divInt_mul (M := n) h
  have h0 := Rat.intCast_pos.mpr h
  rw [e] at h1
  have : (Rat.divInt n d - x) * (d : Rat) = 0 := by grind
  rcases Rat.mul_eq_zero.mp this with h2 | h2
  · grind
  · rw [h2] at h0; exact absurd h0 (by decide)
theorem sub_filter {ss gs : List Nat} (h : ss.Sublist gs) (nd : gs.Nodup) : gs.filter (fun i => decide (i ∈ ss)) = ss := by
  induction h with
  | slnil => rfl
  | @cons l k a h ih =>
    rw [List.nodup_cons] at nd
    rw [List.filter_cons, if_neg (by simpa using fun z => nd.1 (h.subset z))]
    exact ih nd.2
  | @cons_cons l k a h ih =>
    rw [List.nodup_cons] at nd
    rw [List.filter_cons, if_pos (by simp)]
    congr 1
    refine Eq.trans (List.filter_congr fun i hi => ?_) (ih nd.2)
    have : i ≠ a := fun e => nd.1 (e ▸ hi)
    simp [this]
theorem zipD_map {α β : Type} (f : α → D) (g : β → D) : ∀ (xs : List α) (ys : List β), zipD (xs.map f) (ys.map g) = (xs.zip ys).map fun p => .tup [f p.1, g p.2]
  | [], _ => by simp [zipD]
  | _ :: _, [] => by simp [zipD]
  | x :: xs, y :: ys => by simp only [List.map_cons, zipD, List.zip_cons_cons, zipD_map f g xs ys]
end Pm
set_option Elab.async false
set_option linter.all false
set_option maxRecDepth 100000
set_option maxHeartbeats 1000000
set_option autoImplicit false
namespace Pm
open PySem PySem.Spec
open PyProof.Rows hiding St
open L2
theorem obsBG_eq {n : Nat} {fa : List He.Fa} {fn : List He.DefD} {ex : PySem.W.Frag → Bool} {g : Addr → Option Obj} {s : Shared} (h : ∀ a, g a = s.heap.get? a) : obsBG n fa fn ex g = (hookB n fa fn ex).obs s := by
  have e : g = s.heap.get? := funext h
  rw [e] <;> rfl
section
variable {fa : List He.Fa} {fn : List He.DefD} {ex : PySem.W.Frag → Bool} {K : PySem.W.Frag}
theorem SaysB.d (c : SaysB fa fn ex K) : He.SaysD fa fn K := congrArg (fun z : He.AlD × Bool => z.1) c
end
def GlD (K : PySem.W.Frag) (mg : Str → Option Value) (x : Str) (d : D) : Prop := ∃ u v, mg x = some u ∧ RelV v u ∧ ∀ Z, At K Z d v
theorem gl_int {K : PySem.W.Frag} {mg : Str → Option Value} {h : Heap} (X : K.In h) (G : h.Ns mainGlobals mg) {x : Str} {i : Int} (c : (He.Fa.int x i).ok K = true) : GlD K mg x (.int i) := by
  obtain ⟨t, e⟩ := He.int_ok X G c
  exact ⟨_, .int i, e, ⟨t, rfl⟩, fun Z => rfl⟩
theorem qe_gl {γ : Type} {X : Cx} {G : GP γ} {x : Str} {d : D} {pos : Pos} (hg : Gl X x) (h : GlD G.K X.mg x d) (hd : (x == ("__debug__" : Str)) = false := by decide) : QE X G (.Name x pos) (qC d) := by
  obtain ⟨u, v, e, r, k⟩ := h
  exact qe_glob hg e r k hd
end Pm
set_option Elab.async false
set_option linter.all false
set_option maxRecDepth 100000
set_option maxHeartbeats 1000000
set_option autoImplicit false
namespace Pm
open PySem PySem.Spec PySem.W
open PyProof.Rows hiding St
open L2
def IsTi (h : Heap) (v : Value) (ns : List Int) : Prop := ∃ (a : Addr) (dd : Option Addr) (items : Array Value) (n : Nat) (sl : Array (Option Value)), v = .ref a ∧ h.get? a = some { cls := .type "tuple", dict := dd, data := .seq items n, slots := sl } ∧ IntsAre items.toList ns
theorem IsTi.keeps {h h' : Heap} {v : Value} {ns : List Int} (x : IsTi h v ns) (k : ∀ b o, v = .ref b → h.get? b = some o → h'.get? b = some o) : IsTi h' v ns := by
  obtain ⟨a, dd, items, n, sl, e, g, i⟩ := x
  exact ⟨a, dd, items, n, sl, e, k _ _ e g, i⟩
theorem IsTi.type {M : Model} {h : Heap} {v : Value} {ns : List Int} (x : IsTi h v ns) : Looks M h (typeOf v) (.type "tuple") := by
  obtain ⟨a, dd, items, n, sl, rfl, g, i⟩ := x
  exact (Looks.ld g).andThen .now
section
variable {prog : Program} {w : World} {A : Around} {E : Value → Shared → Prop} {s : Shared}
theorem IsTi.inst {M : Model} {h : Heap} {v : Value} {ns : List Int} (x : IsTi h v ns) : Looks M h (isInstance v (.type "tuple")) true :=
  (x.type (M := M)).andThen (Looks.of_pure (by rw [isSubtype_type]; kernel_rfl))
theorem call_ltT {a b : Addr} {dd dd2 : Option Addr} {items items2 : Array Value} {n n2 : Nat} {sl sl2 : Array (Option Value)} {ns ms : List Int} {Q : Value → Shared → Prop} (ga : s.heap.get? a = some { cls := .type "tuple", dict := dd, data := .seq items n, slots := sl })
    (gb : s.heap.get? b = some { cls := .type "tuple", dict := dd2, data := .seq items2 n2, slots := sl2 }) (ia : IntsAre items.toList ns) (ib : IntsAre items2.toList ms) (iv : Looks (model prog w) s.heap (isInstance (.ref a) (.type "tuple")) true)
    (iu : ∀ M : Model, Looks M s.heap (isInstance (.ref b) (.type "tuple")) true) (h : Q (.bool (HT.lexLt ns ms)) s) : wpAny (model prog w) A (call (.builtin "tuple.__lt__") [.ref a, .ref b]) Q E s := by
  refine wpAny_call (codeAny_call_builtin PySem.F.slot_tuple_lt.plain PySem.F.entry_tuple_lt (@check_slot (model prog w) _ _ _ "tuple.__lt__" "tuple" "__lt__" (.ref a) [.ref b] [] _ (by decide +kernel) (by decide +kernel) iv (PySem.F.args_tuple_lt_2 _ _) ?_))
  refine wpAny_mono (NtL.nt_lt_ints a b (.type "tuple") (.type "tuple") items items2 n n2 dd dd2 sl sl2 ns ms ia ib prog w _ (wants Q E) s ⟨ga, gb, iu, h⟩) (fun fin s' q => ?_) fun _ _ z => z
  cases fin with
  | done f => exact q
  | again c => exact q
theorem lt_ti {v u : Value} {ns ms : List Int} {Q : Bool → Shared → Prop} (hu : A.units < cLine) (hv : IsTi s.heap v ns) (hw : IsTi s.heap u ms) (h : Q (HT.lexLt ns ms) s) : wpAny (model prog w) A (keyLt' oneType' v u) Q E s := by
  have sp : Looks (model prog w) s.heap (specialOf v "__lt__") (some (.builtin "tuple.__lt__")) := hv.type.andThen (Looks.of_pure PySem.F.slot_tuple_lt.lookup)
  have iv : Looks (model prog w) s.heap (isInstance v (.type "tuple")) true := hv.inst
  have iu : ∀ M : Model, Looks M s.heap (isInstance u (.type "tuple")) true := fun M => hw.inst
  obtain ⟨a, dd, items, n, sl, rfl, ga, ia⟩ := hv
  obtain ⟨b, dd2, items2, n2, sl2, rfl, gb, ib⟩ := hw
  rw [keyLt'_oneType, oneLt'_eq]
  simp only [if_true]
  refine wpAny_bind (wpAny_cRoomFor hu ?_)
  refine wpAny_bind (NtL.csib (E := E) sp (PySem.F.slot_tuple_lt.bind _) (call_ltT ga gb ia ib iv iu ?_))
  exact wpAny_truthy_bool h
theorem ti_cmp {vs : List Value} {k : Value → List Int} (hu : A.units < cLine) (hv : ∀ v ∈ vs, IsTi s.heap v (k v)) : SrtO.Cmp prog w A s oneType' (fun p => p.1 ∈ vs) (SrtO.lt2 fun v u => HT.lexLt (k v) (k u)) := by
  intro p q hp hq
  exact lt_ti (Q := fun r s' => s' = s ∧ r = HT.lexLt (k p.1) (k q.1)) (E := fun _ _ => False) hu (hv p.1 hp) (hv q.1 hq) ⟨rfl, rfl⟩
theorem mapM_wp {β : Type} {M : Model} {A : Around} {E : Value → Shared → Prop} {s : Shared} {f : Value → Sem β} {r : Value → β} : ∀ {vs : List Value} {Q : List β → Shared → Prop}, (∀ v ∈ vs, ∀ Q : β → Shared → Prop, Q (r v) s → wpAny M A (f v) Q E s) → Q (vs.map r) s → wpAny M A (vs.mapM f) Q E s
  | [], Q, _, h => by rw [List.mapM_nil]; exact wpAny_pure h
  | v :: vs, Q, hf, h => by
    rw [List.mapM_cons]
    refine wpAny_bind (hf v (by simp) _ (wpAny_bind (mapM_wp (fun u hu => hf u (by simp [hu])) (wpAny_pure h))))
theorem ti_kind {vs : List Value} {k : Value → List Int} {v0 : Value} {Q : SortKind → Shared → Prop} (hv : ∀ v ∈ v0 :: vs, IsTi s.heap v (k v)) (h0 : k v0 = []) (h : Q oneType' s) : wpAny (model prog w) A (keyKind' (v0 :: vs).toArray) Q E s := by
  have first : ∀ v ∈ v0 :: vs, ∃ r : Option Value, (k v = [] → r = none) ∧ ∀ (A : Around) (Q : Option Value → Shared → Prop), Q r s → wpAny (model prog w) A (firstOfTuple' v) Q E s := fun v hm => by
    have tv := (hv v hm).type (M := model prog w)
    obtain ⟨a, dd, items, n, sl, rfl, g, i⟩ := hv v hm
    refine ⟨items[0]?, fun e => ?_, fun A Q hq => ?_⟩
    · rw [e] at i
      have hz : items.toList.length = 0 := i.length
      have hz2 : items.size = 0 := by simpa using hz
      simp [hz2]
    · rw [kas_first_eq]
      refine wpAny_bind (tv.here ?_)
      rw [if_neg (by decide)]
      refine wpAny_bind (m := Builtin.List.listItems (.ref a)) ?_
      unfold Builtin.List.listItems
      exact wpAny_bind (wpAny_seqItems g rfl (wpAny_pure (wpAny_pure hq)))
  classical
  let r : Value → Option Value := fun v => if hm : v ∈ v0 :: vs then (first v hm).choose else none
  have hr : ∀ v (hm : v ∈ v0 :: vs), (k v = [] → r v = none) ∧ ∀ (A : Around) (Q : Option Value → Shared → Prop), Q (r v) s → wpAny (model prog w) A (firstOfTuple' v) Q E s := fun v hm => by
    have e : r v = (first v hm).choose := dif_pos hm
    rw [e]; exact (first v hm).choose_spec
  have r0 : r v0 = none := (hr v0 (by simp)).1 h0
  rw [keyKind'_eq, List.mapM_toArray, map_eq_pure_bind]
  refine wpAny_bind (wpAny_bind (mapM_wp (r := r) (fun v hm Q' hq => (hr v hm).2 _ _ hq) (wpAny_pure ?_)))
  have e1 : ((List.map r (v0 :: vs)).toArray.all fun x => x.isSome) = false := by
    rw [List.map_cons, r0]; simp
  have e2 : ((List.map r (v0 :: vs)).toArray[0]?.bind id).isSome = false := by
    rw [List.map_cons, r0]; simp
  rw [e1, if_neg (by decide), e2, if_neg (by decide)]
  rw [oneTypeOnly'_eq, List.mapM_toArray, map_eq_pure_bind]
  refine wpAny_bind (wpAny_bind (wpAny_bind (mapM_wp (r := fun _ => Value.type "tuple") (fun v hm Q' hq => ((hv v hm).type).here hq) (wpAny_pure ?_))))
  have hall : ((List.map (fun _ => Value.type "tuple") (v0 :: vs)).toArray.all fun x => x == Value.type "tuple") = true := by
    simp only [List.all_toArray, List.all_map, List.all_eq_true]
    intro _ _
    rfl
  have h0' : (List.map (fun _ => Value.type "tuple") (v0 :: vs)).toArray[0]? = some (Value.type "tuple") := by simp
  rw [h0']
  simp only [hall, if_true]
  exact wpAny_pure (wpAny_pure h)
theorem ti_sortable {a : Addr} {vs : List Value} {v0 : Value} {k : Value → List Int} (hu : A.units < cLine) (hv : ∀ v ∈ v0 :: vs, IsTi s.heap v (k v)) (h0 : k v0 = []) (ha : ∀ v ∈ v0 :: vs, v ≠ .ref a) :
    SrtO.SortableO prog w A s a (v0 :: vs) fun v u => HT.lexLt (k v) (k u) := by
  intro h' keep
  have hv' : ∀ v ∈ v0 :: vs, IsTi h' v (k v) := fun v hm => (hv v hm).keeps fun b o e g => keep b o (fun z => ha v hm (by rw [e, z])) g
  exact ⟨oneType', fun Q E hq => ti_kind (s := { s with heap := h' }) hv' h0 hq, ti_cmp (s := { s with heap := h' }) hu hv'⟩
end
def tiD (ns : List Int) : D := .tup (ns.map .int)
def sortedFT : List D → (List D → Prop) → Prop := fun ds R => ∃ nss : List (List Int), ds = [.lst (([] :: nss).map tiD)] ∧ ∀ out : List (List Int), out.Perm ([] :: nss) → out.Pairwise (fun a b => HT.lexLt b a = false) → R (out.map tiD)
theorem ats_each {K : PySem.W.Frag} {Z : Hp} : ∀ {nss : List (List Int)} {vs : List V}, Ats K Z (nss.map tiD) vs → ∀ (i : Nat) v, vs[i]? = some v → ∃ ns, nss[i]? = some ns ∧ ∃ a, v = .ref a ∧ SqT K Z a (ns.map V.int)
  | [], vs, h, i, v, e => by simp only [List.map_nil, Ats] at h; subst h; simp at e
  | ns :: nss, vs, ⟨w, ws, e1, h1, h2⟩, i, v, e => by
    subst e1
    cases i with
    | zero =>
      simp only [List.getElem?_cons_zero, Option.some.injEq] at e
      subst e
      obtain ⟨a, us, rfl, g1, g2⟩ := h1
      rw [g2.ints] at g1
      exact ⟨ns, rfl, a, rfl, g1⟩
    | succ i =>
      obtain ⟨ms, e2, r⟩ := ats_each h2 i v (by simpa using e)
      exact ⟨ms, by simpa using e2, r⟩
theorem c_sortedT {X : Cx} {k : Nat} (hr : Room k X.A) : CallR X (.builtin "sorted") (dCallF X.K sortedFT) := by
  intro pins s σ H xs us Q I r h
  obtain ⟨Z, ds, R, kz, a, ⟨nss, rfl, w⟩, q⟩ := h
  obtain ⟨v, rfl, a1⟩ := Ats.one a
  obtain ⟨p, vs, rfl, a2, a3⟩ := a1
  have each := ats_each a3
  obtain ⟨its, rv, hl, hz⟩ := I.list (.inl (.inl (kz _ _ a2)))
  rw [Vals.ref1 r]
  obtain ⟨e1, e2⟩ := bkV_refs rv fun x m => by
    obtain ⟨i, hi⟩ := List.mem_iff_getElem?.mp m
    obtain ⟨_, _, t, e, _⟩ := each i x hi
    exact ⟨t, e⟩
  have hu : X.A.units + 64 < cLine := by have := hr.units; omega
  -- the ints of each
  have hints : ∀ (i : Nat) u, its[i]? = some u → ∃ ns, ([] :: nss)[i]? = some ns ∧ TS.TupInts s.heap u ns ∧ At X.K Z (tiD ns) (bkV u) := fun i u hi => by
    have hvi : vs[i]? = some (bkV u) := by rw [e1, List.getElem?_map, hi]; rfl
    obtain ⟨ns, h1, t, h2, h3⟩ := each i _ hvi
    have eu := bkV_ref h2
    refine ⟨ns, h1, ?_, ?_⟩
    · rw [eu]; exact tupI_raw I (seqT kz h3)
    · rw [h2]; exact ⟨t, _, rfl, h3, Ats.of_ints ns⟩
  have isTi : ∀ (s' : Shared) (u : Value) (ns : List Int), TS.TupInts s'.heap u ns → IsTi s'.heap u ns := fun s' u ns ⟨t, items, e, ⟨⟨cls, dd, data, sl⟩, ho, hc, n, hd⟩, i⟩ => by
    simp only at hc hd
    subst hc hd
    exact ⟨t, dd, items, n, sl, e, ho, i⟩
  have hlen : its.length = nss.length + 1 := by
    have h1 := a3.len
    rw [e1, List.length_map, List.length_map, List.length_cons] at h1
    exact h1
  obtain ⟨u0, ur, rfl⟩ : ∃ u0 ur, its = u0 :: ur := by
    cases its with
    | nil => simp at hlen
    | cons u0 ur => exact ⟨u0, ur, rfl⟩
  have kint : ∀ u ∈ u0 :: ur, ∃ ns, TS.TupInts s.heap u ns ∧ At X.K Z (tiD ns) (bkV u) := fun u hm => by
    obtain ⟨i, hi⟩ := List.mem_iff_getElem?.mp hm
    obtain ⟨ns, _, h2, h3⟩ := hints i u hi
    exact ⟨ns, h2, h3⟩
  have k0 : TS.intsOf s.heap u0 = [] := by
    obtain ⟨ns, h1, h2, _⟩ := hints 0 u0 rfl
    cases h1
    exact h2.ints
  have kmap : (u0 :: ur).map (TS.intsOf s.heap) = [] :: nss := by
    refine List.ext_getElem? fun i => ?_
    rw [List.getElem?_map]
    cases hi : (u0 :: ur)[i]? with
    | none =>
      have := List.getElem?_eq_none_iff.mp hi
      rw [List.getElem?_eq_none (by simp only [List.length_cons] at hlen this ⊢; omega)]; rfl
    | some u =>
      obtain ⟨ns, h1, h2, _⟩ := hints i u hi
      rw [h1]
      show some (TS.intsOf s.heap u) = some ns
      rw [h2.ints]
  refine SrtO.sorted_ord (NtL.swo_lexL (TS.intsOf s.heap)) hl.isList (by rw [← rv.length]; exact hz) (fun h2 h₁ b hb kk => ?_) fun out h1 h2 => ?_
  · refine ti_sortable (s := { s with heap := h₁ }) (k := TS.intsOf s.heap) (by show X.A.units + 1 + 1 < cLine; omega) (fun u hm => ?_) k0 fun u hm e => ?_
    · obtain ⟨ns, h3, _⟩ := kint u hm
      have h4 := isTi s u ns h3
      rw [h3.ints]
      exact h4.keeps fun c o _ e => (kk c o e).2
    · obtain ⟨ns, h3, _⟩ := kint u hm
      obtain ⟨t, dd, items, n, sl, e', g, _⟩ := isTi s u ns h3
      rw [e'] at e
      cases e
      exact (kk _ _ g).1 rfl
  · obtain ⟨ep, he'⟩ := PyProof.Rows.sortedAll_at s.heap (u0 :: ur) out.toArray
    have h3 : ∀ u ∈ out, ∃ a, u = Value.ref a := fun u hu => e2 u (h2.perm.mem_iff.mp hu)
    have hp : (out.map bkV).length = vs.length := by rw [e1, List.length_map, List.length_map, h2.perm.length_eq]
    have fr : H (s.heap.objs.size + 1) = none := I.hok.fresh (Nat.le_succ _)
    have ha : ∀ l : List Value, (∀ u ∈ l, u ∈ u0 :: ur) → Ats X.K Z ((l.map (TS.intsOf s.heap)).map tiD) (l.map bkV) := fun l => by
      induction l with
      | nil => intro _; rfl
      | cons u l ih =>
        intro hm
        obtain ⟨ns, h4, h5⟩ := kint u (hm u (by simp))
        refine ⟨_, _, rfl, ?_, ih fun z hz => hm z (by simp [hz])⟩
        rw [h4.ints]; exact h5
    have pk : (out.map (TS.intsOf s.heap)).Perm ([] :: nss) := by
      rw [← kmap]; exact h2.perm.map _
    have sk : (out.map (TS.intsOf s.heap)).Pairwise (fun a b => HT.lexLt b a = false) := List.pairwise_map.mpr h1
    have hq := w _ pk sk
    refine ⟨.ref _, upd H (s.heap.objs.size + 1) (.lst (out.map bkV)), I.laid (t' := s.toks) (fun _ _ => PyProof.Rows.sortedAll_old) (Nat.le_succ _) ⟨by rw [hp]; exact hz, out, ep, bkV_vals h3, he'⟩, rfl, ?_⟩
    exact q _ _ _ _ hq (same_upd fr) fr upd_same (ha out fun u hu => h2.perm.mem_iff.mp hu)
end Pm
set_option Elab.async false
set_option linter.all false
set_option maxRecDepth 100000
set_option maxHeartbeats 1000000
set_option autoImplicit false
namespace Pm
open PySem PySem.Spec
open PyProof.Rows hiding St
open L2
theorem lex_eq : ∀ {a b : List Int}, HT.lexLt a b = false → HT.lexLt b a = false → a = b
  | [], [], _, _ => rfl
  | [], y :: b, h, _ => by simp [HT.lexLt_nil_cons] at h
  | x :: a, [], _, h => by simp [HT.lexLt_nil_cons] at h
  | x :: a, y :: b, h, h' => by
    rw [HT.lexLt_cons] at h h'
    by_cases e : x = y
    · rw [if_pos e] at h
      rw [if_pos e.symm] at h'
      rw [e, lex_eq h h']
    · rw [if_neg e] at h
      rw [if_neg fun z => e z.symm] at h'
      have := of_decide_eq_false h
      have := of_decide_eq_false h'
      omega
theorem sorted_eq {α : Type} {R : α → α → Prop} (anti : ∀ a b, R a b → R b a → a = b) : ∀ {l k : List α}, l.Perm k → l.Pairwise R → k.Pairwise R → l = k
  | [], k, h, _, _ => h.nil_eq
  | a :: l, [], h, _, _ => absurd h.symm.nil_eq (by simp)
  | a :: l, b :: k, h, h1, h2 => by
    have e : a = b := by
      have ha : a ∈ b :: k := h.mem_iff.mp (by simp)
      have hb : b ∈ a :: l := h.mem_iff.mpr (by simp)
      rw [List.pairwise_cons] at h1 h2
      rcases List.mem_cons.mp ha with e | ha
      · exact e
      · rcases List.mem_cons.mp hb with e | hb
        · exact e.symm
        · exact anti a b (h1.1 b hb) (h2.1 a ha)
    subst e
    rw [List.pairwise_cons] at h1 h2
    rw [sorted_eq anti (List.Perm.cons_inv h) h1.2 h2.2]
def natsI (gs : List Nat) : List Int := gs.map fun i : Nat => (i : Int)
theorem grpS_tail_ne : ∀ {l g : List Nat}, g ∈ (grpS l).tail → g ≠ []
  | [], g, h => by simp [grpS] at h
  | i :: l, g, h => by
    simp only [grpS, List.tail_cons, List.mem_append, List.mem_map] at h
    rcases h with ⟨k, _, rfl⟩ | h
    · simp
    · exact grpS_tail_ne h
theorem grpS_sorted : ∀ {l : List Nat}, l.Pairwise (· < ·) → ((grpS l).map natsI).Pairwise (fun a b => HT.lexLt b a = false)
  | [], _ => by simp [grpS]
  | i :: l, h => by
    rw [List.pairwise_cons] at h
    have ih := grpS_sorted h.2
    obtain ⟨r, hr⟩ := grpS_cons_ne l
    rw [hr, List.map_cons, List.pairwise_cons] at ih
    simp only [grpS, List.map_cons, List.map_append, List.map_map, List.pairwise_cons, List.pairwise_append]
    refine ⟨fun b _ => by cases b <;> rfl, ?_, ?_, fun a ha b hb => ?_⟩
    · rw [List.pairwise_map]
      have ih2 : ((grpS l).map natsI).Pairwise (fun a b => HT.lexLt b a = false) := grpS_sorted h.2
      rw [List.pairwise_map] at ih2
      refine ih2.imp fun {a b} hab => ?_
      show HT.lexLt ((i : Int) :: natsI b) ((i : Int) :: natsI a) = false
      rw [HT.lexLt_cons, if_pos rfl]; exact hab
    · rw [hr, List.tail_cons]; exact ih.2
    · obtain ⟨a', _, rfl⟩ := List.mem_map.mp ha
      obtain ⟨b', hb', rfl⟩ := List.mem_map.mp hb
      have hne := grpS_tail_ne hb'
      have hs := grpS_sub (List.mem_of_mem_tail hb')
      cases b' with
      | nil => exact absurd rfl hne
      | cons j b' =>
        have hj := h.1 j (hs.subset (by simp))
        show HT.lexLt ((j : Int) :: natsI b') ((i : Int) :: natsI a') = false
        rw [HT.lexLt_cons, if_neg (by omega)]
        exact decide_eq_false (by omega)
theorem grpS_perm_cons (i : Nat) (l : List Nat) : (grpS (i :: l)).Perm (grpS l ++ (grpS l).map (i :: ·)) := by
  obtain ⟨r, hr⟩ := grpS_cons_ne l
  simp only [grpS, hr, List.tail_cons]
  rw [List.cons_append]
  exact List.Perm.cons _ List.perm_append_comm
theorem grpS_perm_snoc (x : Nat) : ∀ l : List Nat, (grpS (l ++ [x])).Perm (grpS l ++ (grpS l).map (· ++ [x]))
  | [] => by simp [grpS]
  | i :: l => by
    have ih := grpS_perm_snoc x l
    have h1 := grpS_perm_cons i (l ++ [x])
    have h2 := grpS_perm_cons i l
    have e : (List.map (fun g => g ++ [x]) ((grpS l).map (i :: ·))) = ((grpS l).map (· ++ [x])).map (i :: ·) := by rw [List.map_map, List.map_map]; rfl
    refine h1.trans (((ih.append (ih.map _)).trans ?_).trans (h2.append (h2.map _)).symm)
    rw [List.map_append, List.map_append, e]
    generalize grpS l = A
    generalize A.map (· ++ [x]) = B
    generalize A.map (i :: ·) = C
    generalize B.map (i :: ·) = F
    -- A ++ B ++ (C ++ F) ~ A ++ C ++ (B ++ F)
    rw [List.append_assoc, List.append_assoc]
    refine List.Perm.append_left A ?_
    rw [← List.append_assoc, ← List.append_assoc]
    exact List.Perm.append_right F List.perm_append_comm
def isI : D → Bool
  | .int _ => true
  | _ => false
def inI (lo hi : Int) : D → Bool
  | .int i => decide (lo ≤ i) && decide (i ≤ hi)
  | _ => false
def ascI (is : List Int) : Bool := (is.zip (is.drop 1)).all fun p => decide (p.1 < p.2)
def isG (n : Nat) : D → Bool
  | .tup xs => match asInts xs with
    | some is => (is.all fun i => decide (0 ≤ i) && decide (i ≤ (n : Int) - 1)) && ascI is
    | none => false
  | _ => false
theorem ascI_pw : ∀ {is : List Int}, ascI is = true ↔ is.Pairwise (· < ·)
  | [] => by simp [ascI]
  | [i] => by simp [ascI]
  | i :: j :: is => by
    have ih := ascI_pw (is := j :: is)
    have e : ascI (i :: j :: is) = (decide (i < j) && ascI (j :: is)) := by simp [ascI]
    rw [e, Bool.and_eq_true, ih, decide_eq_true_eq, List.pairwise_cons (a := i)]
    constructor
    · rintro ⟨h1, h2⟩
      refine ⟨fun k hk => ?_, h2⟩
      rw [List.pairwise_cons] at h2
      rcases List.mem_cons.mp hk with rfl | hk
      · exact h1
      · have := h2.1 k hk; omega
    · rintro ⟨h1, h2⟩
      exact ⟨h1 j (by simp), h2⟩
def GrOk (n : Nat) (gs : List Nat) : Prop := (∀ i ∈ gs, i < n) ∧ gs.Pairwise (· < ·)
theorem isG_gr {n : Nat} {gs : List Nat} (h : GrOk n gs) : isG n (grD gs) = true := by
  have e : asInts (gs.map natD) = some (natsI gs) := by
    have : gs.map natD = (natsI gs).map D.int := by unfold natsI; rw [List.map_map]; rfl
    rw [this]; exact asInts_map _
  show (match asInts (gs.map natD) with | some is => (is.all fun i => decide (0 ≤ i) && decide (i ≤ (n : Int) - 1)) && ascI is | none => false) = true
  rw [e]
  show ((natsI gs).all fun i => decide (0 ≤ i) && decide (i ≤ (n : Int) - 1)) && ascI (natsI gs)
  rw [Bool.and_eq_true, List.all_eq_true, ascI_pw]
  refine ⟨fun i hi => ?_, ?_⟩
  · obtain ⟨k, hk, rfl⟩ := List.mem_map.mp hi
    have := h.1 k hk
    simp; omega
  · unfold natsI
    rw [List.pairwise_map]
    exact h.2.imp fun {a b} hab => by omega
theorem isG_ex {n : Nat} {d : D} (h : isG n d = true) : ∃ gs, d = grD gs ∧ GrOk n gs := by
  cases d with
  | tup xs =>
    have h : (match asInts xs with | some is => (is.all fun i => decide (0 ≤ i) && decide (i ≤ (n : Int) - 1)) && ascI is | none => false) = true := h
    cases e : asInts xs with
    | none => rw [e] at h; cases h
    | some is =>
      rw [e] at h
      have h : ((is.all fun i => decide (0 ≤ i) && decide (i ≤ (n : Int) - 1)) && ascI is) = true := h
      rw [Bool.and_eq_true, List.all_eq_true, ascI_pw] at h
      have hb : ∀ i ∈ is, 0 ≤ i ∧ i ≤ (n : Int) - 1 := fun i hi => by have := h.1 i hi; simpa using this
      refine ⟨is.map Int.toNat, ?_, ?_, ?_⟩
      · rw [asInts_eq e]
        show D.tup (is.map D.int) = D.tup ((is.map Int.toNat).map natD)
        rw [List.map_map]
        congr 1
        refine List.map_congr_left fun i hi => ?_
        have := hb i hi
        show D.int i = .int ((i.toNat : Nat) : Int)
        congr 1; omega
      · intro i hi
        obtain ⟨k, hk, rfl⟩ := List.mem_map.mp hi
        have := hb k hk
        omega
      · rw [List.pairwise_map]
        refine h.2.imp_of_mem fun {a b} ha hb' hab => ?_
        have := hb a ha
        have := hb b hb'
        omega
  | _ => cases h
theorem GrOk.of_sub {n : Nat} {gs : List Nat} (h : gs.Sublist (List.range n)) : GrOk n gs :=
  ⟨fun i hi => List.mem_range.mp (h.subset hi), List.Pairwise.sublist h (List.pairwise_lt_range)⟩
def upR (gs : List Nat) (q : Int × Int) : Bool := decide (q.2.toNat ∈ gs) || !decide (q.1.toNat ∈ gs)
def upB (p : Pan) (gs : List Nat) : Bool := p.rus.all (upR gs)
def upG (p : Pan) : List (List Nat) := (grpS (List.range p.its.length)).filter (upB p)
def eE (p : Pan) (a b : Nat) : Prop := ((a : Int), (b : Int)) ∈ p.rus
def mR (p : Pan) (i : Nat) : Rat := ((p.its.getD i (0, 1)).1 : Rat)
def wR (p : Pan) (i : Nat) : Rat := ((p.its.getD i (0, 1)).2 : Rat)
theorem upB_iff {m : Nat} {p : Pan} (hp : PanOk m p) {gs : List Nat} : upB p gs = true ↔ UpS (eE p) (fun i => decide (i ∈ gs)) := by
  unfold upB
  rw [List.all_eq_true]
  constructor
  · intro h a b e ha
    have := h _ e
    simp only [upR, Int.toNat_natCast, Bool.or_eq_true, Bool.not_eq_true', decide_eq_true_eq, decide_eq_false_iff_not] at this ha ⊢
    exact this.resolve_right fun z => z ha
  · intro h q hq
    obtain ⟨a1, a2, a3, a4, _⟩ := hp.ru q hq
    have e : eE p q.1.toNat q.2.toNat := by
      unfold eE
      have : (((q.1.toNat : Nat) : Int), ((q.2.toNat : Nat) : Int)) = q := by
        refine Prod.ext ?_ ?_ <;> (simp only; omega)
      rw [this]; exact hq
    have := h _ _ e
    simp only [decide_eq_true_eq] at this
    simp only [upR, Bool.or_eq_true, Bool.not_eq_true', decide_eq_true_eq, decide_eq_false_iff_not]
    by_cases z : q.1.toNat ∈ gs
    · exact .inl (this z)
    · exact .inr z
theorem sM_sm (p : Pan) (gs : List Nat) : ((sM (selI p.its gs) : Int) : Rat) = sm (fun i => wR p i * mR p i) gs := by
  induction gs with
  | nil => rfl
  | cons i gs ih =>
    have e : selI p.its (i :: gs) = p.its.getD i (0, 1) :: selI p.its gs := rfl
    rw [e, sM_cons, Rat.intCast_add, ih, Rat.intCast_mul]
    simp only [sm, wR, mR]; grind
theorem sW_sm (p : Pan) (gs : List Nat) : ((sW (selI p.its gs) : Int) : Rat) = sm (wR p) gs := by
  induction gs with
  | nil => rfl
  | cons i gs ih =>
    have e : selI p.its (i :: gs) = p.its.getD i (0, 1) :: selI p.its gs := rfl
    rw [e, sW_cons, Rat.intCast_add, ih]
    simp only [sm, wR]
theorem avg_avS (p : Pan) (gs : List Nat) : avg (selI p.its gs) = avS (mR p) (wR p) gs := by
  unfold avg avS
  rw [← sM_sm, ← sW_sm, Rat.divInt_eq_div]
theorem wR_pos {m : Nat} {p : Pan} (hp : PanOk m p) {i : Nat} (h : i < p.its.length) : 0 < wR p i := by
  have := (hp.it _ (List.mem_of_getElem? (getD_at h))).2.2.1
  exact Rat.intCast_pos.mpr (by omega)
theorem rule_nats {n : Nat} {q : Int × Int} (h : RuOk n q) : ∃ a b : Nat, q = ((a : Int), (b : Int)) ∧ a < n ∧ b < n ∧ a ≠ b := by
  obtain ⟨h1, h2, h3, h4, h5⟩ := h
  refine ⟨q.1.toNat, q.2.toNat, Prod.ext (by simp only; omega) (by simp only; omega), by omega, by omega, by omega⟩
end Pm
set_option Elab.async false
set_option linter.all false
set_option maxRecDepth 100000
set_option maxHeartbeats 1000000
set_option autoImplicit false
namespace Pm
open PySem PySem.Spec
open PyProof.Rows hiding St
open L2
def BestP (p : Pan) (r : Nat → Rat) : Prop := Best (List.range p.its.length) (eE p) (mR p) (wR p) r
def inB (gs : List Nat) (i : Nat) : Bool := decide (i ∈ gs)
theorem range_filter {n : Nat} {gs : List Nat} (h : gs.Sublist (List.range n)) : (List.range n).filter (inB gs) = gs := sub_filter h List.nodup_range
theorem sub_ext {n : Nat} {a b : List Nat} (ha : a.Sublist (List.range n)) (hb : b.Sublist (List.range n)) (h : ∀ i, i ∈ a ↔ i ∈ b) : a = b := by
  rw [← range_filter ha, ← range_filter hb]
  exact List.filter_congr fun i _ => by unfold inB; rw [decide_eq_decide]; exact h i
def excI (its : List (Int × Int)) (part U : List Nat) : Int := sM (selI its U) * sW (selI its part) - sM (selI its part) * sW (selI its U)
def UPart (its : List (Int × Int)) (cl : List (List Nat)) (part U : List Nat) : Prop := (U = [] ∧ ∀ g ∈ cl, excI its part (g.filter (inB part)) ≤ 0) ∨
  (∃ g ∈ cl, U = g.filter (inB part) ∧ 0 < excI its part U ∧ ∀ g' ∈ cl, excI its part (g'.filter (inB part)) ≤ excI its part U)
section
variable {p : Pan} {m : Nat}
theorem exc_ex (hp : PanOk m p) {part : List Nat} (hn : part ≠ []) (hi : ∀ i ∈ part, i < p.its.length) (U : List Nat) : ((excI p.its part U : Int) : Rat) = ex (mR p) (wR p) (avS (mR p) (wR p) part) U * sm (wR p) part := by
  have hw : 0 < sm (wR p) part := sm_pos (fun i h => wR_pos hp (hi i h)) hn
  unfold excI
  rw [Rat.intCast_sub, Rat.intCast_mul, Rat.intCast_mul, sM_sm, sM_sm, sW_sm, sW_sm, ex_eq]
  unfold avS
  have e : sm (fun i => wR p i * mR p i) part / sm (wR p) part * sm (wR p) part = sm (fun i => wR p i * mR p i) part := Rat.div_mul_cancel (by grind)
  generalize sm (fun i => wR p i * mR p i) part / sm (wR p) part = A at *
  generalize sm (wR p) part = W at *
  generalize sm (fun i => wR p i * mR p i) part = T at *
  generalize sm (wR p) U = V at *
  generalize sm (fun i => wR p i * mR p i) U = M at *
  subst e
  grind
theorem exc_le (hp : PanOk m p) {part : List Nat} (hn : part ≠ []) (hi : ∀ i ∈ part, i < p.its.length) {U V : List Nat} : excI p.its part U ≤ excI p.its part V ↔ ex (mR p) (wR p) (avS (mR p) (wR p) part) U ≤ ex (mR p) (wR p) (avS (mR p) (wR p) part) V := by
  have hw : 0 < sm (wR p) part := sm_pos (fun i h => wR_pos hp (hi i h)) hn
  rw [← Rat.intCast_le_intCast, exc_ex hp hn hi, exc_ex hp hn hi]
  constructor
  · intro h
    rcases (show ex (mR p) (wR p) (avS (mR p) (wR p) part) U ≤ ex (mR p) (wR p) (avS (mR p) (wR p) part) V ∨ ex (mR p) (wR p) (avS (mR p) (wR p) part) V < ex (mR p) (wR p) (avS (mR p) (wR p) part) U by grind) with z | z
    · exact z
    · have := Rat.mul_lt_mul_of_pos_right z hw; grind
  · intro h
    exact Rat.mul_le_mul_of_nonneg_right h (Rat.le_of_lt hw)
theorem exc_nonpos (hp : PanOk m p) {part : List Nat} (hn : part ≠ []) (hi : ∀ i ∈ part, i < p.its.length) {U : List Nat} : excI p.its part U ≤ 0 ↔ ex (mR p) (wR p) (avS (mR p) (wR p) part) U ≤ 0 := by
  have h0 : excI p.its part [] = 0 := by simp [excI, selI, sM, sW]
  have := exc_le hp hn hi (U := U) (V := [])
  rw [h0] at this
  exact this
structure Parts (p : Pan) (ps : List (List Nat)) : Prop where
  ch : Chain (eE p) (mR p) (wR p) ps
  fl : ps.flatten.Perm (List.range p.its.length)
  sb : ∀ q ∈ ps, q.Sublist (List.range p.its.length)
  ne : ∀ q ∈ ps, q ≠ []
theorem Parts.lt {ps : List (List Nat)} (h : Parts p ps) {q : List Nat} (hq : q ∈ ps) : ∀ i ∈ q, i < p.its.length := fun i hi => List.mem_range.mp ((h.sb q hq).subset hi)
theorem eE_lt (hp : PanOk m p) {a b : Nat} (e : eE p a b) : a < p.its.length ∧ b < p.its.length := by
  obtain ⟨h1, h2, h3, h4, _⟩ := hp.ru _ e
  simp only at h2 h4
  omega
theorem Parts.nd {a b : List (List Nat)} {q : List Nat} (h : Parts p (a ++ q :: b)) : ∀ i ∈ q, i ∉ b.flatten ∧ i ∉ a.flatten := by
  have nd : (a ++ q :: b).flatten.Nodup := h.fl.nodup_iff.mpr List.nodup_range
  rw [List.flatten_append, List.flatten_cons, List.nodup_append, List.nodup_append] at nd
  intro i hi
  refine ⟨fun z => ?_, fun z => ?_⟩
  · exact nd.2.1.2.2 i hi i z rfl
  · exact nd.2.2 i z i (List.mem_append_left _ hi) rfl
theorem Parts.cut (hp : PanOk m p) {a b : List (List Nat)} {q : List Nat} (h : Parts p (a ++ q :: b)) {V : Nat → Bool} (hV : PUp (eE p) q V) : ∃ g ∈ upG p, g.filter (inB q) = q.filter V := by
  have ch := h.ch
  unfold Chain at ch
  rw [List.pairwise_append, List.pairwise_cons] at ch
  obtain ⟨c1, ⟨c2, c3⟩, c4⟩ := ch
  have gs : ((List.range p.its.length).filter fun i => (V i && inB q i) || inB b.flatten i).Sublist (List.range p.its.length) := List.filter_sublist
  have mem : ∀ i, i ∈ ((List.range p.its.length).filter fun i => (V i && inB q i) || inB b.flatten i) ↔ i < p.its.length ∧ ((V i = true ∧ i ∈ q) ∨ i ∈ b.flatten) := fun i => by
    simp [List.mem_filter, inB]
  refine ⟨_, List.mem_filter.mpr ⟨sub_grpS gs, (upB_iff hp).mpr fun x y e hx => ?_⟩, ?_⟩
  · obtain ⟨_, hy⟩ := eE_lt hp e
    simp only [decide_eq_true_eq] at hx ⊢
    rw [mem] at hx ⊢
    refine ⟨hy, ?_⟩
    have my : y ∈ (a ++ q :: b).flatten := h.fl.mem_iff.mpr (List.mem_range.mpr hy)
    rw [List.flatten_append, List.flatten_cons, List.mem_append, List.mem_append] at my
    rcases hx.2 with ⟨v, hq⟩ | hb
    · rcases my with my | my | my
      · obtain ⟨r, hr, yr⟩ := List.mem_flatten.mp my
        exact absurd e ((c4 r hr q (by simp)).2 y yr x hq)
      · exact .inl ⟨hV x hq y my e v, my⟩
      · exact .inr my
    · obtain ⟨r, hr, xr⟩ := List.mem_flatten.mp hb
      rcases my with my | my | my
      · obtain ⟨r2, hr2, yr⟩ := List.mem_flatten.mp my
        exact absurd e ((c4 r2 hr2 r (by simp [hr])).2 y yr x xr)
      · exact absurd e ((c2 r hr).2 y my x xr)
      · exact .inr my
  · refine sub_ext (List.filter_sublist.trans gs) (List.filter_sublist.trans (h.sb q (by simp))) fun i => ?_
    rw [List.mem_filter, mem, List.mem_filter]
    simp only [inB, decide_eq_true_eq]
    constructor
    · rintro ⟨⟨_, ⟨v, _⟩ | hb⟩, hq⟩
      · exact ⟨hq, v⟩
      · exact absurd hb (h.nd i hq).1
    · rintro ⟨hq, v⟩
      exact ⟨⟨h.lt (by simp) i hq, .inl ⟨v, hq⟩⟩, hq⟩
theorem Parts.whole (hp : PanOk m p) {a b : List (List Nat)} {q : List Nat} (h : Parts p (a ++ q :: b)) (hU : ∀ g ∈ upG p, excI p.its q (g.filter (inB q)) ≤ 0) : Whole (eE p) (mR p) (wR p) q := fun V hV => by
  obtain ⟨g, hg, e⟩ := h.cut hp hV
  rw [← e]
  exact (exc_nonpos hp (h.ne q (by simp)) (h.lt (by simp))).mp (hU g hg)
theorem Parts.split (hp : PanOk m p) {a b : List (List Nat)} {q U : List Nat} (h : Parts p (a ++ q :: b)) {g : List Nat} (hg : g ∈ upG p) (eU : U = g.filter (inB q)) (h0 : 0 < excI p.its q U) (hm : ∀ g' ∈ upG p, excI p.its q (g'.filter (inB q)) ≤ excI p.its q U) :
    q.filter (inB U) = U ∧ Parts p (a ++ q.filter (fun i => !inB U i) :: U :: b) ∧ U ≠ [] ∧ q.filter (fun i => !inB U i) ≠ [] := by
  have gq := List.mem_filter.mp hg
  have gsub := grpS_sub gq.1
  have qs := h.sb q (by simp)
  have qn := h.ne q (by simp)
  have ql := h.lt (q := q) (by simp)
  have us : U.Sublist (List.range p.its.length) := by rw [eU]; exact List.filter_sublist.trans gsub
  have mU : ∀ i, i ∈ U ↔ i ∈ g ∧ i ∈ q := fun i => by rw [eU, List.mem_filter]; simp [inB]
  have e1 : q.filter (inB U) = U := sub_ext (List.filter_sublist.trans qs) us fun i => by
    rw [List.mem_filter]
    simp only [inB, decide_eq_true_eq, mU]
    exact ⟨fun z => z.2, fun z => ⟨z.2, z⟩⟩
  have gu := (upB_iff hp).mp gq.2
  have sp : Split (eE p) (mR p) (wR p) q (inB U) := by
    refine ⟨fun x hx y hy e k => ?_, fun V hV => ?_⟩
    · simp only [inB, decide_eq_true_eq, mU] at k ⊢
      have := gu x y e (by simpa using k.1)
      exact ⟨by simpa using this, hy⟩
    · obtain ⟨g', hg', e'⟩ := h.cut hp hV
      rw [← e', e1]
      exact (exc_le hp qn ql).mp (hm g' hg')
  have wp : ∀ i ∈ q, 0 < wR p i := fun i hi => wR_pos hp (ql i hi)
  have un : U ≠ [] := fun z => by rw [z] at h0; simp [excI, selI, sM, sW] at h0
  have rn : q.filter (fun i => !inB U i) ≠ [] := fun z => by
    have : q.filter (inB U) = q := by
      refine List.filter_eq_self.mpr fun i hi => ?_
      cases k : inB U i with
      | true => rfl
      | false =>
        have : i ∈ q.filter (fun i => !inB U i) := List.mem_filter.mpr ⟨hi, by simp [k]⟩
        rw [z] at this; cases this
    rw [e1] at this
    rw [this] at h0
    simp [excI] at h0
  have ch := h.ch.split sp (fun i hi => Rat.le_of_lt (wp i hi)) (sm_pos wp qn)
  rw [e1] at ch
  refine ⟨e1, ⟨ch, ?_, ?_, ?_⟩, un, rn⟩
  · refine List.Perm.trans ?_ h.fl
    rw [List.flatten_append, List.flatten_append, List.flatten_cons, List.flatten_cons, List.flatten_cons]
    refine List.Perm.append_left _ ?_
    rw [← List.append_assoc]
    refine List.Perm.append_right _ ?_
    have := List.filter_append_perm (inB U) q
    rw [e1] at this
    exact List.perm_append_comm.trans this
  · intro r hr
    rcases List.mem_append.mp hr with hr | hr
    · exact h.sb r (by simp [hr])
    · rcases List.mem_cons.mp hr with rfl | hr
      · exact List.filter_sublist.trans qs
      · rcases List.mem_cons.mp hr with rfl | hr
        · exact us
        · exact h.sb r (by simp [hr])
  · intro r hr
    rcases List.mem_append.mp hr with hr | hr
    · exact h.ne r (by simp [hr])
    · rcases List.mem_cons.mp hr with rfl | hr
      · exact rn
      · rcases List.mem_cons.mp hr with rfl | hr
        · exact un
        · exact h.ne r (by simp [hr])
theorem Parts.start (hp : PanOk m p) : Parts p [List.range p.its.length] := by
  have h1 := hp.one
  refine ⟨List.pairwise_singleton _ _, by simp, fun q hq => ?_, fun q hq => ?_⟩
  · have : q = List.range p.its.length := by simpa using hq
    rw [this]; exact List.Sublist.refl _
  · have : q = List.range p.its.length := by simpa using hq
    rw [this]
    intro e
    have := congrArg List.length e
    rw [List.length_range] at this
    have : p.its.length = 0 := this
    omega
theorem Parts.best (hp : PanOk m p) {ps : List (List Nat)} (h : Parts p ps) (hf : ∀ q ∈ ps, Whole (eE p) (mR p) (wR p) q) {r : Nat → Rat} (hr : ∀ q ∈ ps, ∀ i ∈ q, r i = avg (selI p.its q)) : BestP p r :=
  h.ch.best (fun a b e => by obtain ⟨h1, h2⟩ := eE_lt hp e; exact ⟨List.mem_range.mpr h1, List.mem_range.mpr h2⟩) h.fl List.nodup_range (fun i hi => wR_pos hp (List.mem_range.mp hi)) h.ne hf fun q hq i hi => by rw [hr q hq i hi, avg_avS]
def meas (st : List (List Nat)) : Nat := (st.map fun q => 2 * q.length - 1).sum
theorem meas_append (a b : List (List Nat)) : meas (a ++ b) = meas a + meas b := by simp [meas]
end
end Pm
namespace Pm
open PySem PySem.Spec
open PyProof.Rows hiding St
open L2
section
variable {p : Pan} {m : Nat}
theorem upG_of (hp : PanOk m p) {U : Nat → Bool} (h : UpS (eE p) U) : (List.range p.its.length).filter U ∈ upG p := by
  refine List.mem_filter.mpr ⟨sub_grpS List.filter_sublist, (upB_iff hp).mpr fun a b e k => ?_⟩
  simp only [decide_eq_true_eq, List.mem_filter, List.mem_range] at k ⊢
  exact ⟨(eE_lt hp e).2, h a b e k.2⟩
theorem all_upG (hp : PanOk m p) : List.range p.its.length ∈ upG p := by
  have := upG_of hp (U := fun _ => true) fun _ _ _ _ => rfl
  rwa [List.filter_eq_self.mpr fun _ _ => rfl] at this
end
end Pm
namespace Pm
open PySem PySem.Spec
open PyProof.Rows hiding St
open L2
theorem upG_len {m : Nat} {p : Pan} (hp : PanOk m p) (hm : m ≤ 8) : (∀ g ∈ upG p, g.length ≤ 8) ∧ (upG p).length ≤ 256 := by
  have ht := hp.top
  refine ⟨fun g hg => ?_, ?_⟩
  · have := (grpS_sub (List.mem_filter.mp hg).1).length_le
    rw [List.length_range] at this; omega
  · refine Nat.le_trans (List.length_filter_le _ _) ?_
    rw [grpS_length, List.length_range]
    exact Nat.le_trans (Nat.pow_le_pow_right (by decide) (show p.its.length ≤ 8 by omega)) (by decide)
end Pm
set_option Elab.async false
set_option linter.all false
set_option maxRecDepth 100000
set_option maxHeartbeats 1000000
set_option autoImplicit false
namespace Pm
open PySem PySem.Spec
open PyProof.Rows hiding St
open L2
def scT (p : Pan) (t : Rat) (g : List Nat) : Int := scS (selI p.its g) t.num t.den
def mxG (p : Pan) (t : Rat) : List (List Nat) := (upG p).filter fun g => (upG p).all fun h => decide (scT p t h ≤ scT p t g)
section
variable {p : Pan} {n : Nat} {t : Rat}
theorem sc_sz (hp : PanOk n p) {g : List Nat} (hg : g ∈ upG p) : (∀ i ∈ g, i < p.its.length) ∧ g.length ≤ p.its.length := by
  have hs := grpS_sub (List.mem_filter.mp hg).1
  refine ⟨fun i hi => List.mem_range.mp (hs.subset hi), ?_⟩
  have := hs.length_le
  rwa [List.length_range] at this
end
theorem idx_rng (f : Nat → D) {n k : Nat} (h : k < n) : idx ((List.range n).map f) (k : Int) = some (f k) := by
  rw [idx_nat', List.getElem?_map, List.getElem?_range h]; rfl
end Pm
set_option Elab.async false
set_option linter.all false
set_option maxRecDepth 100000
set_option maxHeartbeats 1000000
set_option autoImplicit false
namespace Pm
open PySem PySem.Spec PySem.W
open PyProof.Rows hiding St
open L2
section
variable {E : Nat → Nat → Prop} {l : List Nat} {m m' w r s : Nat → Rat}
theorem Best.shift (b : Best l E m w r) (a : Rat) : Best l E (fun i => m i + a) w fun i => r i + a := by
  have e : fw (fun i => m i + a) w (fun i => r i + a) = fw m w r := by
    funext i; simp only [fw]; grind
  refine ⟨fun x y h => ?_, fun U hU => ?_, fun U hU => ?_⟩
  · have := b.ob x y h; grind
  · rw [e]; exact b.up U hU
  · rw [e]
    refine b.lv U fun x y h => hU x y ?_
    show r x + a ≤ r y + a
    grind
end
end Pm
set_option Elab.async false
set_option linter.all false
set_option maxRecDepth 100000
set_option maxHeartbeats 1000000
set_option autoImplicit false
namespace Pm
open PySem PySem.Spec PySem.W
open PyProof.Rows hiding St
open L2
theorem Best.congr {E : Nat → Nat → Prop} {l : List Nat} {m m' w w' r : Nat → Rat} (b : Best l E m w r) (hm : ∀ i ∈ l, m i = m' i) (hw : ∀ i ∈ l, w i = w' i) : Best l E m' w' r := by
  have e : ∀ U : Nat → Bool, sm (fw m' w' r) (l.filter U) = sm (fw m w r) (l.filter U) := fun U => sm_congr fun i hi => by
    have h := (List.mem_filter.mp hi).1
    simp only [fw, hm i h, hw i h]
  exact ⟨b.ob, fun U hU => by rw [e]; exact b.up U hU, fun U hU => by rw [e]; exact b.lv U hU⟩
theorem ItOk.sz {q : Int × Int} (h : ItOk q) : Sz 30 q.1 ∧ Sz 20 q.2 := by
  obtain ⟨a, b, c, d⟩ := h
  have e1 : (10 : Int) ^ 9 < 2 ^ 30 := by decide
  have e2 : (10 : Int) ^ 6 < 2 ^ 20 := by decide
  have e3 : ((2 ^ 30 : Nat) : Int) = 2 ^ 30 := by decide
  have e4 : ((2 ^ 20 : Nat) : Int) = 2 ^ 20 := by decide
  unfold Sz
  exact ⟨by omega, by omega⟩
end Pm
set_option Elab.async false
set_option linter.all false
set_option maxRecDepth 100000
set_option maxHeartbeats 1000000
set_option autoImplicit false
namespace Pm
open PySem PySem.Spec PySem.W
open PyProof.Rows hiding St
open L2
theorem frD_injC {x y : Rat} (h : frD x = frD y) : x = y := by
  have : D.eqv (frD x) (frD y) = true := by rw [h, frD_eqv]; exact decide_eq_true rfl
  rw [frD_eqv] at this; exact of_decide_eq_true this
end Pm
set_option Elab.async false
set_option linter.all false
set_option maxRecDepth 100000
set_option maxHeartbeats 1000000
set_option autoImplicit false
namespace Pm
open PySem PySem.Spec
open L2
def exT (p : Pan) (t : Rat) (g : List Nat) : Rat := sm (fun i => wR p i * (mR p i - t)) g
theorem scT_ex (p : Pan) (t : Rat) (g : List Nat) : ((scT p t g : Int) : Rat) = exT p t g * ((t.den : Int) : Rat) := by
  unfold scT exT
  induction g with
  | nil => show ((0 : Int) : Rat) = 0 * _; rw [Rat.zero_mul]; rfl
  | cons i g ih =>
    have e : scS (selI p.its (i :: g)) t.num t.den = (p.its.getD i (0, 1)).2 * ((p.its.getD i (0, 1)).1 * t.den - t.num) + scS (selI p.its g) t.num t.den := by unfold scS selI; simp
    rw [e, Rat.intCast_add, ih, Rat.intCast_mul, Rat.intCast_sub, Rat.intCast_mul, num_den t]
    simp only [sm]
    unfold wR mR
    grind
theorem sm_if (h : Nat → Rat) (U : Nat → Bool) : ∀ l : List Nat, sm h (l.filter U) = sm (fun i => if U i = true then h i else 0) l
  | [] => rfl
  | i :: l => by
    rw [List.filter_cons]
    by_cases e : U i = true
    · rw [if_pos e]; simp only [sm, e, if_true, sm_if h U l]
    · rw [if_neg e, sm_if h U l]; simp only [sm, e, if_false]; simp [Rat.zero_add]
theorem sm_all0 {d : Nat → Rat} : ∀ {l : List Nat}, (∀ i ∈ l, 0 ≤ d i) → sm d l ≤ 0 → ∀ i ∈ l, d i = 0
  | [], _, _, i, hi => by cases hi
  | x :: l, h, h0, i, hi => by
    have hx := h x (by simp)
    have hl := sm_nonneg fun i hi => h i (List.mem_cons_of_mem _ hi)
    simp only [sm] at h0
    rcases List.mem_cons.mp hi with rfl | hi
    · grind
    · exact sm_all0 (fun i hi => h i (List.mem_cons_of_mem _ hi)) (by grind) i hi
section
variable {m : Nat} {p : Pan} {r : Nat → Rat} {t : Rat}
def above (p : Pan) (r : Nat → Rat) (t : Rat) : List Nat := (List.range p.its.length).filter fun i => decide (t < r i)
def atLeast (p : Pan) (r : Nat → Rat) (t : Rat) : List Nat := (List.range p.its.length).filter fun i => decide (t ≤ r i)
theorem exT_split (p : Pan) (r : Nat → Rat) (t : Rat) (g : List Nat) : exT p t g = sm (fw (mR p) (wR p) r) g + sm (fun i => wR p i * (r i - t)) g := by
  unfold exT
  rw [← sm_add]
  exact sm_congr fun i _ => by unfold fw; grind
theorem exT_above (b : BestP p r) : exT p t (above p r t) = sm (fun i => wR p i * (r i - t)) (above p r t) := by
  rw [exT_split p r]
  unfold above
  rw [b.lv _ (rup_gt t), Rat.zero_add]
theorem sc_le (g h : List Nat) : scT p t g ≤ scT p t h ↔ exT p t g ≤ exT p t h := by
  have d := den_pos t
  rw [← Rat.intCast_le_intCast, scT_ex, scT_ex]
  constructor
  · intro h
    exact Rat.not_lt.mp fun c => by
      have := Rat.mul_lt_mul_of_pos_right c d
      grind
  · intro h; exact Rat.mul_le_mul_of_nonneg_right h (Rat.le_of_lt d)
end
end Pm
set_option Elab.async false
set_option linter.all false
set_option maxRecDepth 100000
set_option maxHeartbeats 1000000
set_option autoImplicit false
namespace Pm
open PySem PySem.Spec
open PyProof.Rows hiding St
open L2
mutual
def D.plz : D → Bool
  | .non => true
  | .bl _ => true
  | .int _ => true
  | .str x => PyData.strOk x
  | .lst xs => D.plzs xs
  | .tup xs => D.plzs xs
  | .dct ks xs => ks.isEmpty && xs.isEmpty
  | .obj _ => false
def D.plzs : List D → Bool
  | [] => true
  | d :: ds => d.plz && D.plzs ds
end
end Pm
set_option Elab.async false
set_option linter.all false
set_option maxRecDepth 100000
set_option maxHeartbeats 1000000
set_option autoImplicit false
namespace Pm
open PySem PySem.Spec
open PyProof.Rows hiding St
open L2
def oddL : List D := [.non, .bl true, .bl false, .int 0, .int (-1), .int 1, .int 2, .int (10 ^ 29), .str "", .str "a", .str "up", .tup [], .lst [], .dct [] [], .tup [.int 0], .lst [.int 0], .tup [.tup []], .tup [.int 1, .int 2], .tup [.int 0, .int 1], .tup [.int 2, .int 4]]
mutual
def D.fit (b : Nat) : D → Prop
  | .int i => Sz b i
  | .lst xs => D.fits b xs
  | .tup xs => D.fits b xs
  | _ => True
def D.fits (b : Nat) : List D → Prop
  | [] => True
  | d :: ds => d.fit b ∧ D.fits b ds
end
structure VOk (b w k : Nat) (d : D) : Prop where
  z : d.plz = true
  f : d.fit b
  w : d.wid ≤ w
  k : d.dep ≤ k
def gOk (d : D) : Prop := (∀ p, d ≠ .obj p) ∧ ∀ xs, d = .tup xs → xs.length ≤ 100000 ∧ ∀ x ∈ xs, ∀ p, x ≠ .obj p
theorem gOk_gr {gs : List Nat} (h : gs.length ≤ 100000) : gOk (grD gs) := by
  refine ⟨fun p e => (by cases e), fun xs e => ?_⟩
  have e : D.tup (gs.map natD) = .tup xs := e
  cases e
  refine ⟨by rw [List.length_map]; exact h, fun x hx p e => ?_⟩
  obtain ⟨i, _, rfl⟩ := List.mem_map.mp hx
  cases e
theorem allI_ints {n : Int} : ∀ {xs : List D}, xs.all (inI 0 n) = true → ∃ is, asInts xs = some is ∧ (is.all fun i => decide (0 ≤ i) && decide (i ≤ n)) = true
  | [], _ => ⟨[], rfl, rfl⟩
  | x :: xs, h => by
    rw [List.all_cons, Bool.and_eq_true] at h
    obtain ⟨is, e, hi⟩ := allI_ints h.2
    cases x with
    | int i =>
      refine ⟨i :: is, ?_, ?_⟩
      · have e0 := asInts_eq e
        subst e0
        exact asInts_map (i :: is)
      · rw [List.all_cons, hi, Bool.and_true]; exact h.1
    | _ => exact absurd h.1 (by simp [inI])
theorem allI_not {n : Int} : ∀ {xs : List D} {is : List Int}, asInts xs = some is → xs.all (inI 0 n) = is.all fun i => decide (0 ≤ i) && decide (i ≤ n) := fun {xs is} e => by
  have e0 := asInts_eq e
  subst e0
  rw [List.all_map]; rfl
end Pm
set_option Elab.async false
set_option linter.all false
set_option maxRecDepth 100000
set_option maxHeartbeats 1000000
set_option autoImplicit false
namespace Pm
open PySem PySem.Spec
open PyProof.Rows hiding St
open L2
theorem pick3 {a b c : Int} {lo hi : Int} {k : Int} (k0 : 0 ≤ k) (k1 : k < 3) (ha : lo ≤ a ∧ a ≤ hi) (hb : lo ≤ b ∧ b ≤ hi) (hc : lo ≤ c ∧ c ≤ hi) : ∃ m : Int, idx [D.int a, .int b, .int c] k = some (.int m) ∧ lo ≤ m ∧ m ≤ hi := by
  have hi : k = 0 ∨ k = 1 ∨ k = 2 := by omega
  rcases hi with rfl | rfl | rfl
  · exact ⟨a, rfl, ha⟩
  · exact ⟨b, rfl, hb⟩
  · exact ⟨c, rfl, hc⟩
end Pm
set_option Elab.async false
set_option linter.all false
set_option maxRecDepth 100000
set_option maxHeartbeats 1000000
set_option autoImplicit false
namespace Pm
open PySem PySem.Spec
open PyProof.Rows hiding St
open L2
variable {γ : Type}
def D.key : D → Option Key
  | .int i => some (.inl i)
  | .str x => some (.inr x)
  | _ => none
def getK : List (Key × D) → Key → Option D
  | [], _ => none
  | (j, d) :: r, k => if j = k then some d else getK r k
def KAts (K : PySem.W.Frag) (Z : Hp) : List (Key × D) → List (Key × V) → Prop
  | [], kvs => kvs = []
  | (k, d) :: r, kvs => ∃ v s, kvs = (k, v) :: s ∧ At K Z d v ∧ KAts K Z r s
section
variable {K : PySem.W.Frag} {Z Z' : Hp}
theorem KAts.of_zip : ∀ {kds : List (Key × D)} {vs : List V}, Ats K Z (kds.map (·.2)) vs → KAts K Z kds ((kds.map (·.1)).zip vs)
  | [], vs, h => by simp [KAts]
  | (k, d) :: r, vs, h => by
    simp only [List.map_cons, Ats] at h
    obtain ⟨w, ws, rfl, h2, h3⟩ := h
    exact ⟨w, _, rfl, h2, KAts.of_zip h3⟩
theorem KAts.get_none : ∀ {kds : List (Key × D)} {kvs : List (Key × V)} {k : Key}, KAts K Z kds kvs → getK kds k = none → valV kvs k = none
  | [], kvs, k, h, _ => by rw [show kvs = [] from h]; rfl
  | (j, d) :: r, kvs, k, h, e => by
    obtain ⟨v, s, rfl, h1, h2⟩ := h
    simp only [getK] at e
    split at e
    · cases e
    · rename_i n
      rw [valV_neg (p := (j, v)) n]; exact KAts.get_none h2 e
theorem KAts.get_some : ∀ {kds : List (Key × D)} {kvs : List (Key × V)} {k : Key} {d : D}, KAts K Z kds kvs → getK kds k = some d → ∃ v, valV kvs k = some v ∧ At K Z d v
  | [], kvs, k, _, h, e => by cases e
  | (j, d) :: r, kvs, k, d', h, e => by
    obtain ⟨v, s, rfl, h1, h2⟩ := h
    simp only [getK] at e
    split at e
    · rename_i n; cases e; exact ⟨v, valV_pos (p := (j, v)) n, h1⟩
    · rename_i n
      rw [valV_neg (p := (j, v)) n]; exact KAts.get_some h2 e
theorem KAts.isSome {kds : List (Key × D)} {kvs : List (Key × V)} {k : Key} (h : KAts K Z kds kvs) : (valV kvs k).isSome = (getK kds k).isSome := by
  cases q : getK kds k with
  | none => rw [h.get_none q]; rfl
  | some d => obtain ⟨v, e, _⟩ := h.get_some q; rw [e]; rfl
theorem key_at {d : D} {k : Key} {v : V} (h : d.key = some k) (a : At K Z d v) : v = kV k := by
  cases d <;> simp only [D.key, Option.some.injEq, reduceCtorEq] at h <;> subst h <;> exact a
end
abbrev PDx (γ : Type) := S γ → (List (Key × D) → S γ → Prop) → Prop
def lFd (G : GP γ) (t : PDx γ) : TE := fun σ H Q => ∃ F Z s R, Rel G F Z s σ H ∧ t s R ∧ ∀ kds s' Z' a vs H', R kds s' → Same Z Z' → Rel G F Z' s' σ H' → H' a = some (.dK ((kds.map (·.1)).zip vs)) → Ats G.K Z' (kds.map (·.2)) vs → Z' a = none → F.F a = none → ¬ G.foot s'.g a →
  Nob s' σ a → Q (.ref a) H'
abbrev QD (X : Cx) (G : GP γ) (e : Expr) (t : PDx γ) : Prop := PE X e (lFd G t)
def qAsgDic (t : PDx γ) (i : Nat) : PSx γ := fun E s => t s fun kds s1 => E.nx ⟨s1.ρ.set i (some (.dic kds)), s1.g⟩
def qDicIn (neg : Bool) (ty : PEx γ) (i : Nat) : PEx γ := fun s R => ty s fun kd s1 => ∃ kds k, s1.ρ[i]? = some (some (.dic kds)) ∧ kd.key = some k ∧ R (.bl (neg != (getK kds k).isSome)) s1
def qDicIx (i : Nat) (ty : PEx γ) : PEx γ := fun s R => (∃ es, s.ρ[i]? = some (some (.dic es))) ∧ ty s fun kd s1 => ∃ kds k d, s1.ρ[i]? = some (some (.dic kds)) ∧ kd.key = some k ∧ getK kds k = some d ∧ R d s1
section
variable {X : Cx} {G : GP γ} {a b e o v : Expr} {pos : Pos}
theorem qs_setDic {i : Nat} {x : Str} {pos' : Pos} {te : PDx γ} (hN : X.N.Nodup) (hi : X.N[i]? = some x) (hx : Loc X.env.scope x) (he : QD X G e te) (hs : swapsWith e (some (.Name x pos')) pos.line X.env = pure false := by rfl) (hf : X.fn x = true ∨ X.env.scope.names.lookup x = some .local := by first | exact .inl rfl | exact .inr rfl | assumption) :
    QS X G (.Assign [.Name x pos'] e pos) (qAsgDic te i) := PS.imp (ps_set hN hi hx he hs hf) fun De σ H ⟨F, Z, s, E, r, t, n, _⟩ =>
  ⟨F, Z, s, _, r, t, fun kds s1 Z1 a vs H1 t1 k1 r1 ha a1 hz hf hg ho => n _ Z1 _ H1 t1 k1 (r1.putW (l := .dic kds) rfl ha a1 hz hf hg ho)⟩
theorem dic_get {F : Fra} {Z : Hp} {s : S γ} {σ : St} {H : Hp} (r : Rel G F Z s σ H) {i : Nat} {kds : List (Key × D)} (h : s.ρ[i]? = some (some (.dic kds))) :
    ∃ a kvs, σ[i]? = some (some (.ref a)) ∧ H a = some (.dK kvs) ∧ KAts G.K Z kds kvs := by
  obtain ⟨a, vs, h1, h2, h3, _⟩ := r.dic i kds h
  exact ⟨a, _, h1, h2, .of_zip h3⟩
theorem dget_k {H : Hp} {a : Addr} {kvs : List (Key × V)} (k : Key) (h : H a = some (.dK kvs)) : DGet H a (kV k) (valV kvs k) := DGet.k h
theorem ldicIn {neg : Bool} {ty : PEx γ} {i : Nat} {σ : St} {H : Hp} {Q : VK} (h : lE G (qDicIn neg ty i) σ H Q) : lE G ty σ H fun y H1 => ∃ v, σ[i]? = some (some v) ∧ ∃ a o, v = .ref a ∧ DGet H1 a y o ∧ Q (.bl (neg != o.isSome)) H1 := by
  obtain ⟨F, Z, s, R, r, t, q⟩ := h
  refine ⟨F, Z, s, _, r, t, fun kd s1 Z1 y H1 ⟨kds, k, e1, e2, t1⟩ k1 r1 a1 => ?_⟩
  obtain ⟨a, kvs, h1, h2, h3⟩ := dic_get r1 e1
  refine ⟨_, h1, a, valV kvs k, rfl, by rw [key_at e2 a1]; exact dget_k k h2, q (.bl (neg != (valV kvs k).isSome)) s1 Z1 _ H1 ?_ k1 r1 rfl⟩
  rw [h3.isSome]; exact t1
theorem bxor_t (b : Bool) : (true != b) = !b := by cases b <;> rfl
theorem qe_dicNot {k i : Nat} {ty : PEx γ} (hr : Room k X.A) (hi : QE X G a ty) (hn : PE X b (tVar i)) (hm : behindInMarks .NotIn b = false := by rfl) : QE X G (.Compare a [.NotIn] [b] pos) (qDicIn true ty i) := by
  refine PE.imp (pe_cmp (pc_dnotin (by have := hr.units; omega) hi hn) hm) fun σ H Q h => ?_
  obtain ⟨F, Z, s, R, r, t, q⟩ := ldicIn h
  refine ⟨F, Z, s, R, r, t, fun d s' Z' v H' t1 k1 r1 a1 => ?_⟩
  obtain ⟨u, h1, a, o, e, g, q1⟩ := q d s' Z' v H' t1 k1 r1 a1
  exact ⟨u, h1, a, o, e, g, by rw [← bxor_t]; exact q1⟩
theorem qe_dicIx {k i : Nat} {ty : PEx γ} (hr : Room k X.A) (hn : PE X a (tVar i)) (hi : QE X G b ty) (hs : NoSl b := by intro _ _; rfl) : QE X G (.Subscript a b pos) (qDicIx i ty) := by
  refine PE.imp (pe_dget (by have := hr.units; omega) hn hi hs) fun σ H Q ⟨F, Z, s, R, r, ⟨⟨es, t0⟩, t⟩, q⟩ => ?_
  obtain ⟨a, kvs, h1, _⟩ := dic_get r t0
  refine ⟨_, h1, F, Z, s, _, r, t, fun kd s1 Z1 y H1 ⟨kds, k, d, e1, e2, e3, t1⟩ k1 r1 a1 => ?_⟩
  obtain ⟨a', kvs', g1, g2, g3⟩ := dic_get r1 e1
  rw [h1] at g1; cases g1
  obtain ⟨w, l1, l2⟩ := g3.get_some e3
  exact ⟨a, w, rfl, by rw [key_at e2 a1, ← l1]; exact dget_k k g2, q d s1 Z1 w H1 t1 k1 r1 l2⟩
end
end Pm
set_option Elab.async false
set_option linter.all false
set_option maxRecDepth 100000
set_option maxHeartbeats 1000000
set_option autoImplicit false
namespace Pm
open PySem PySem.Spec
open PyProof.Rows hiding St
open L2
abbrev BE := (Bool × Bool) × Addr × Int
abbrev LKd (P : Program) (w : World) : HeapKind P w (List Leaf) := tupleKind (leafKind P w)
def bi (b : Bool) : Int := if b = true then 1 else 0
def bkey (b : Bool × Bool) : List Leaf := [.num (bi b.1), .num (bi b.2)]
theorem bkey_inj {a b : Bool × Bool} (h : bkey a = bkey b) : a = b := by
  obtain ⟨x, y⟩ := a; obtain ⟨u, v⟩ := b
  cases x <;> cases y <;> cases u <;> cases v <;> first | rfl | (simp [bkey, bi] at h)
def getB (ks : List BE) (b : Bool × Bool) : Option Int := (ks.find? fun e => decide (e.1 = b)).map (·.2.2)
def putB (ks : List BE) (b : Bool × Bool) (t : Addr) (i : Int) : List BE :=
  if (getB ks b).isSome = true then ks.map (fun e => if e.1 = b then (e.1, e.2.1, i) else e) else ks ++ [(b, t, i)]
abbrev ERel (ks : List BE) (xs : List (List Leaf × Addr × Value)) : Prop :=
  Paired (fun (p : BE) (q : List Leaf × Addr × Value) => q.1 = bkey p.1 ∧ q.2.1 = p.2.1 ∧ ∃ t, q.2.2 = Value.int p.2.2 t) ks xs
theorem erel_get {b : Bool × Bool} {ks : List BE} {xs : List (List Leaf × Addr × Value)} (r : ERel ks xs) : (atKey xs (bkey b) = none ∧ getB ks b = none) ∨ ∃ p i t, atKey xs (bkey b) = some p ∧ p.2 = Value.int i t ∧ getB ks b = some i := by
  induction r with
  | nil => exact .inl ⟨rfl, rfl⟩
  | @cons p q ps qs hq t ih =>
    obtain ⟨h1, h2, t, h3⟩ := hq
    by_cases e : p.1 = b
    · refine .inr ⟨q.2, p.2.2, t, ?_, h3, ?_⟩
      · have : q.1 = bkey b := by rw [h1, e]
        simp [atKey, List.find?_cons, this]
      · simp [getB, List.find?_cons, e]
    · have n : ¬ q.1 = bkey b := fun z => e (bkey_inj (h1.symm.trans z))
      have e1 : atKey (q :: qs) (bkey b) = atKey qs (bkey b) := by simp [atKey, List.find?_cons, n]
      have e2 : getB (p :: ps) b = getB ps b := by simp [getB, List.find?_cons, e]
      rw [e1, e2]; exact ih
theorem erel_put {b : Bool × Bool} {ks : List BE} {xs : List (List Leaf × Addr × Value)} (r : ERel ks xs) (a : Addr) (i : Int) (t : Tok) : ERel (putB ks b a i) (storedH xs (bkey b) a (.int i t)) := by
  have e : (getB ks b).isSome = (atKey xs (bkey b)).isSome := by
    rcases erel_get (b := b) r with ⟨h1, h2⟩ | ⟨p, j, u, h1, _, h2⟩ <;> rw [h1, h2] <;> rfl
  unfold putB storedH
  rw [e]
  by_cases q : (atKey xs (bkey b)).isSome = true
  · rw [if_pos q, if_pos q]
    clear e q
    induction r with
    | nil => exact .nil
    | @cons p q ps qs hq t' ih =>
      obtain ⟨h1, h2, u, h3⟩ := hq
      refine .cons ?_ ih
      by_cases e : p.1 = b
      · have : q.1 = bkey b := by rw [h1, e]
        have e2 : putAt (bkey b) (Value.int i t) q = (q.1, q.2.1, Value.int i t) := by unfold putAt; rw [if_pos this]
        rw [e2]; dsimp only; rw [if_pos e]
        exact ⟨h1, h2, t, rfl⟩
      · have n : ¬ q.1 = bkey b := fun z => e (bkey_inj (h1.symm.trans z))
        have e2 : putAt (bkey b) (Value.int i t) q = q := by unfold putAt; rw [if_neg n]
        rw [e2]; dsimp only; rw [if_neg e]
        exact ⟨h1, h2, u, h3⟩
  · rw [if_neg q, if_neg q]
    exact Paired.snoc r ⟨rfl, rfl, t, rfl⟩
def DB (P : Program) (w : World) (a : Addr) (ks : List BE) (h : Heap) : Prop := (a == sysModules) = false ∧ ks.length ≤ 1000 ∧ ∃ xs, ERel ks xs ∧
  ∃ o es ep, h.get? a = some o ∧ o.ExactDict ∧ o.data = .dict es ep ∧ es.toList = xs.map (entryOfKey (LKd P w)) ∧ (xs.map (·.1)).Nodup
def DBO (P : Program) (w : World) (a : Addr) (ks : List BE) : HO := .ext (DB P w a ks)
def BdAt (P : Program) (w : World) (H : Hp) (a : Addr) (ks : List BE) : Prop := H a = some (DBO P w a ks) ∨ (ks = [] ∧ H a = some (.dK []))
def KsOk (K : PySem.W.Frag) (H : Hp) (ks : List BE) : Prop := ∀ e ∈ ks, SqT K H e.2.1 [.bl e.1.1, .bl e.1.2]
section
variable {X : Cx} {pins : List (Addr × Obj)} {σ : St} {H : Hp} {s : Shared} {a t : Addr} {b : Bool × Bool} {ks : List BE} {A : Around} {E : Value → Shared → Prop}
theorem bkey_of (I : Inv X pins σ H s) (h : SqT X.K H t [.bl b.1, .bl b.2]) : (LKd X.prog X.w).is s.heap (bkey b) t := by
  obtain ⟨its, r, ⟨o, ho, hc, n, hd⟩, _⟩ := I.tuple h
  refine ⟨o, its.toArray, n, ho, hc, hd, ?_⟩
  cases r with
  | cons h1 r =>
    cases r with
    | cons h2 r =>
      cases r
      obtain rfl := h1
      obtain rfl := h2
      obtain ⟨x, y⟩ := b
      exact .cons (by cases x <;> rfl) (.cons (by cases y <;> rfl) .nil)
theorem bb_read (I : Inv X pins σ H s) (h : BdAt X.prog X.w H a ks) (hk : KsOk X.K H ks) : (a == sysModules) = false ∧ ks.length ≤ 1000 ∧ ∃ xs, ERel ks xs ∧ s.heap.DictOfH (LKd X.prog X.w) a xs := by
  rcases h with h | ⟨rfl, h⟩
  · obtain ⟨⟨hd, hl, xs, r, o, es, ep, h1, h2, h3, h4, h5⟩, _⟩ := (show ObjOk X.prog X.w H s.heap a (.ext (DB X.prog X.w a ks)) from I.hok a _ h)
    refine ⟨hd, hl, xs, r, o, es, ep, h1, h2, h3, h4, fun x hx => ?_, h5⟩
    have all : ∀ {l : List BE} {m : List (List Leaf × Addr × Value)}, ERel l m → KsOk X.K H l → ∀ x ∈ m, (LKd X.prog X.w).is s.heap x.1 x.2.1 := by
      intro l m r
      induction r with
      | nil => intro _ x hx; cases hx
      | @cons p q ps qs hq t ih =>
        intro hk x hx
        rcases List.mem_cons.mp hx with e | hx
        · subst e
          rw [hq.1, hq.2.1]
          exact bkey_of I (hk p (by simp))
        · exact ih (fun e he => hk e (by simp [he])) x hx
    exact all r hk x hx
  · obtain ⟨_, hd, vs, rel, dd⟩ := dk_of I.hok h
    cases rel
    refine ⟨hd, Nat.zero_le _, [], .nil, ?_⟩
    obtain ⟨o, es, ep, h1, h2, h3, h4, h5, h6⟩ := dd
    have e : es.toList = [] := by
      revert h5; generalize es.toList = l; intro h5; cases h5; rfl
    exact ⟨o, es, ep, h1, h2, h3, by rw [e]; rfl, fun x hx => (by cases hx), List.nodup_nil⟩
theorem bb_is (I : Inv X pins σ H s) (h : BdAt X.prog X.w H a ks) (hk : KsOk X.K H ks) : s.TypeIs (.ref a) "dict" ∧ (∀ b, Value.ref a = .ref b → ∃ ob, s.heap.get? b = some ob ∧ ob.dict = none) := by
  obtain ⟨_, _, xs, _, dd⟩ := bb_read I h hk
  refine ⟨dd.typeIs, fun b q => ?_⟩
  cases q
  obtain ⟨ob, _, _, h1, h2, _⟩ := dd
  exact ⟨ob, h1, h2.2.1⟩
theorem bb_getItem {i : Int} {Q : Value → Shared → Prop} (hu : A.units + 1 < cLine) (I : Inv X pins σ H s) (h : BdAt X.prog X.w H a ks) (hk : KsOk X.K H ks) (ht : SqT X.K H t [.bl b.1, .bl b.2]) (g : getB ks b = some i)
    (q : ∀ u s', Inv X pins σ H s' → Q (.int i u) s') : wpAny (model X.prog X.w) A (getItem (.ref a) (.ref t)) Q E s := by
  obtain ⟨_, _, xs, r, dd⟩ := bb_read I h hk
  rcases erel_get (b := b) r with ⟨_, h2⟩ | ⟨p, j, u, h1, h3, h2⟩
  · rw [h2] at g; cases g
  · rw [h2] at g; cases g
    refine wpAny_getItem_heap (tupleKind_room_in1 hu) (bkey_of I ht) dd h1 ?_
    rw [h3]; exact q _ _ (I.tok _)
theorem bb_in {Q : Value → Shared → Prop} (hu : A.units + 1 < cLine) (I : Inv X pins σ H s) (h : BdAt X.prog X.w H a ks) (hk : KsOk X.K H ks) (ht : SqT X.K H t [.bl b.1, .bl b.2])
    (q : ∀ s', Inv X pins σ H s' → Q (.bool (getB ks b).isSome) s') : wpAny (model X.prog X.w) A (compareOp .In (.ref t) (.ref a)) Q E s := by
  obtain ⟨hd, _, xs, r, dd⟩ := bb_read I h hk
  refine wpAny_in_heap (tupleKind_room_in1 hu) (bkey_of I ht) hd dd ?_
  have e : (getB ks b).isSome = (atKey xs (bkey b)).isSome := by
    rcases erel_get (b := b) r with ⟨h1, h2⟩ | ⟨p, j, u, h1, _, h2⟩ <;> rw [h1, h2] <;> rfl
  rw [← e]; exact q _ (I.tok _)
theorem bb_get2 {d : Int} {u : Tok} {Q : Value → Shared → Prop} (hu : A.units + 1 < cLine) (I : Inv X pins σ H s) (h : BdAt X.prog X.w H a ks) (hk : KsOk X.K H ks) (ht : SqT X.K H t [.bl b.1, .bl b.2])
    (q : ∀ v s', Inv X pins σ H s' → Q (.int ((getB ks b).getD d) v) s') : wpAny (model X.prog X.w) A (call (.builtin "dict.get") [.ref a, .ref t, .int d u]) Q E s := by
  obtain ⟨hd, _, xs, r, dd⟩ := bb_read I h hk
  refine call_meetsIn PySem.F.slot_dict_get dd.typeIs PySem.F.entry_dict_get (PySem.F.args_dict_get_3 _ _ _) (meetsH_dict_get_default (LKd X.prog X.w) a t hd _) ⟨tupleKind_room_in1 hu, bkey b, xs, bkey_of I ht, dd, ?_⟩
  rcases erel_get (b := b) r with ⟨h1, h2⟩ | ⟨p, j, v, h1, h3, h2⟩
  · have := q u _ (I.tok (s.toks + (LKd X.prog X.w).draws (bkey b)))
    rw [h2] at this
    rw [h1]; exact this
  · have := q v _ (I.tok (s.toks + (LKd X.prog X.w).draws (bkey b)))
    rw [h2] at this
    rw [h1]
    show Q p.2 _
    rw [h3]; exact this
theorem db_new {P : Program} {w : World} {H' : Hp} {h' : Heap} (d : DB P w a ks h') : ObjOk P w H' h' a (DBO P w a ks) := by
  refine ⟨d, ?_, fun h1 h2 d1 k => ?_⟩
  · obtain ⟨_, _, _, _, o, _, _, e, _⟩ := d; exact ⟨o, e⟩
  · obtain ⟨x, y, xs, r, o, es, ep, e, c⟩ := d1
    exact ⟨x, y, xs, r, o, es, ep, k _ e, c⟩
theorem bb_setItem {i : Int} {u : Tok} {Q : Unit → Shared → Prop} (hu : A.units + 1 < cLine) (I : Inv X pins σ H s) (h : BdAt X.prog X.w H a ks) (hk : KsOk X.K H ks) (ht : SqT X.K H t [.bl b.1, .bl b.2]) (hl : (putB ks b t i).length ≤ 1000)
    (q : ∀ s', Inv X pins σ (upd H a (DBO X.prog X.w a (putB ks b t i))) s' → Q () s') : wpAny (model X.prog X.w) A (setItem (.ref a) (.ref t) (.int i u)) Q E s := by
  obtain ⟨hd, hl0, xs, r, dd⟩ := bb_read I h hk
  have line : (10000000 : Nat) ≤ sizeLine := line_big
  have hz : xs.length ≤ sizeLine := by rw [← Paired.length r]; omega
  refine wpAny_setItem_heap (hsz := hz) (tupleKind_room_in1 hu) (bkey_of I ht) dd fun h' dd' hs => q _ ?_
  obtain ⟨o, es, ep, h1, h2, h3, h4, _, h5⟩ := dd'
  refine d_write I ?_ hs ⟨o, h1⟩ (db_new ⟨hd, hl, _, erel_put r t i u, o, es, ep, h1, h2, h3, h4, h5⟩)
  rcases h with h | ⟨_, h⟩ <;> rw [h] <;> exact True.intro
end
section
variable {X : Cx} {pos tpos apos : Pos} {o i e f value : Expr} {td ty tx tv : TE}
def tBGet (K : PySem.W.Frag) (P : Program) (w : World) (td ty : TE) : TE := fun σ H Q => td σ H fun x H1 => ty σ H1 fun y H2 => ∃ a ks t b i, x = .ref a ∧ y = .ref t ∧ BdAt P w H2 a ks ∧ KsOk K H2 ks ∧ SqT K H2 t [.bl b.1, .bl b.2] ∧ getB ks b = some i ∧ Q (.int i) H2
def tBIn (K : PySem.W.Frag) (P : Program) (w : World) (ty td : TE) : TE := fun σ H Q => ty σ H fun y H1 => td σ H1 fun x H2 => ∃ a ks t b, x = .ref a ∧ y = .ref t ∧ BdAt P w H2 a ks ∧ KsOk K H2 ks ∧ SqT K H2 t [.bl b.1, .bl b.2] ∧ Q (.bl (getB ks b).isSome) H2
def tBGet2 (K : PySem.W.Frag) (P : Program) (w : World) (td ty tx : TE) : TE := fun σ H Q => td σ H fun x H1 => ∃ a ks0, x = .ref a ∧ BdAt P w H1 a ks0 ∧ KsOk K H1 ks0 ∧ ty σ H1 fun y H2 => tx σ H2 fun z H3 =>
  ∃ ks t b d, y = .ref t ∧ z = .int d ∧ BdAt P w H3 a ks ∧ KsOk K H3 ks ∧ SqT K H3 t [.bl b.1, .bl b.2] ∧ Q (.int ((getB ks b).getD d)) H3
def sBPut (K : PySem.W.Frag) (P : Program) (w : World) (td ty tv : TE) : TS := fun D σ H => tv σ H fun v H1 => td σ H1 fun x H2 => ty σ H2 fun y H3 => ∃ a ks t b i, v = .int i ∧ x = .ref a ∧ y = .ref t ∧ BdAt P w H3 a ks ∧ KsOk K H3 ks ∧ SqT K H3 t [.bl b.1, .bl b.2] ∧
  (putB ks b t i).length ≤ 1000 ∧ D.nx σ (upd H3 a (DBO P w a (putB ks b t i)))
theorem pe_bget (hu : X.A.units + 1 < cLine) (ho : PE X o td) (hi : PE X i ty) (hs : NoSl i) : PE X (.Subscript o i pos) (tBGet X.K X.prog X.w td ty) := by
  refine ⟨fun pins s σ H Q I h => ?_⟩
  refine subD_of PySem.F.slot_dict_getitem.lookup hs (thn (ho.run pins s σ H _ I h) fun u s1 ⟨x, H1, I1, rx, q1⟩ => thn (hi.run pins s1 σ H1 _ I1 q1) fun iv s2 ⟨y, H2, I2, ry, a, ks, t, b, n, ex, ey, g1, g2, g3, g4, q2⟩ => ?_)
  subst ex ey
  obtain rfl : u = Value.ref a := rx
  obtain rfl : iv = Value.ref t := ry
  exact ⟨(bb_is I2 g1 g2).1, bb_getItem hu I2 g1 g2 g3 g4 fun v s3 I3 => ⟨.int n, H2, I3, ⟨v, rfl⟩, q2⟩⟩
theorem pc_bin (hu : X.A.units + 1 < cLine) (hi : PE X i ty) (ho : PE X o td) : PC X .In i o (tBIn X.K X.prog X.w ty td) := by
  refine ⟨fun pins s σ H Q I h => ?_⟩
  refine thn (hi.run pins s σ H _ I h) fun iv s1 ⟨y, H1, I1, ry, q1⟩ => thn (ho.run pins s1 σ H1 _ I1 q1) fun u s2 ⟨x, H2, I2, rx, a, ks, t, b, ex, ey, g1, g2, g3, q2⟩ => ?_
  subst ex ey
  obtain rfl : u = Value.ref a := rx
  obtain rfl : iv = Value.ref t := ry
  exact bb_in hu I2 g1 g2 g3 fun s3 I3 => ⟨.bl (getB ks b).isSome, H2, I3, rfl, q2⟩
theorem pe_bget2 {cpos : Pos} (hu : X.A.units + 1 < cLine) (ho : PE X o td) (he : PE X e ty) (hf : PE X f tx) (m : M2 X o "get" apos e f cpos) : PE X (.Call (.Attribute o "get" apos) [e, f] [] cpos) (tBGet2 X.K X.prog X.w td ty tx) := by
  refine ⟨fun pins s σ H Q I h => ?_⟩
  refine wpAny_Call_method m.base m.few m.line PySem.F.plainAttrs_dict PySem.F.slot_dict_get PySem.F.type_dict_get (thn (ho.run pins s σ H _ I h) fun u s1 ⟨x, H1, I1, rx, a, ks0, ex, g1, g2, q1⟩ => ?_)
  subst ex
  obtain rfl : u = Value.ref a := rx
  obtain ⟨t1, t2⟩ := bb_is I1 g1 g2
  refine ⟨t1, t2, ?_⟩
  rw [m.trees]
  refine Calls.callWith_builtin rfl (Calls.evalArgs_plain (Calls.spliced_cons (thn (he.run pins s1 σ H1 _ I1 q1) fun iv s2 ⟨y, H2, I2, ry, q2⟩ =>
    Calls.spliced_cons (thn (hf.run pins s2 σ H2 _ I2 q2) fun fv s3 ⟨z, H3, I3, rz, ks, t, b, d, ey, ez, g3, g4, g5, q3⟩ => Calls.spliced_nil ?_))))
  subst ey ez
  obtain rfl : iv = Value.ref t := ry
  obtain ⟨v, rfl⟩ := rz
  exact bb_get2 hu I3 g3 g4 g5 fun v' s4 I4 => ⟨.int ((getB ks b).getD d), H3, I4, ⟨v', rfl⟩, q3⟩
theorem ps_bput (hu : X.A.units + 1 < cLine) (ho : PE X o td) (hi : PE X i ty) (hv : PE X value tv) (hs : swapsWith value (some (.Subscript o i tpos)) pos.line X.env = pure false) :
    PS X (.Assign [.Subscript o i tpos] value pos) (sBPut X.K X.prog X.w td ty tv) := by
  refine ⟨fun pins s σ H D I h => ?_⟩
  refine wpAny_Assign_Subscript (thn (hv.run pins s σ H _ I h) fun r s1 ⟨v, H1, I1, rv, q1⟩ => thn (ho.run pins s1 σ H1 _ I1 q1) fun u s2 ⟨x, H2, I2, rx, q2⟩ => thn (hi.run pins s2 σ H2 _ I2 q2) fun iv s3 ⟨y, H3, I3, ry, a, ks, t, b, n, ev, ex, ey, g1, g2, g3, g4, q3⟩ => ?_) hs
  subst ev ex ey
  obtain rfl : u = Value.ref a := rx
  obtain rfl : iv = Value.ref t := ry
  obtain ⟨v, rfl⟩ := rv
  exact bb_setItem hu I3 g1 g2 g3 g4 fun s4 I4 => ⟨σ, _, I4, q3⟩
end
end Pm
set_option Elab.async false
set_option linter.all false
set_option maxRecDepth 100000
set_option maxHeartbeats 1000000
set_option autoImplicit false
namespace Pm
open PySem PySem.Spec
open PyProof.Rows hiding St
open L2
structure BG where
  tups : List (Addr × Bool × Bool)
  dic : Option (Addr × List BE)
def BG.nil : BG := ⟨[], none⟩
def BJ (P : Program) (w : World) (g : BG) (H : Hp) : Prop := (∀ q ∈ g.tups, H q.1 = some (.tup [.bl q.2.1, .bl q.2.2])) ∧ ∀ a ks, g.dic = some (a, ks) → BdAt P w H a ks ∧ ∀ e ∈ ks, (e.2.1, e.1.1, e.1.2) ∈ g.tups
def gB (K : PySem.W.Frag) (P : Program) (w : World) : GP BG where
  K := K
  foot := fun g x => (∃ q ∈ g.tups, q.1 = x) ∨ ∃ ks, g.dic = some (x, ks)
  J := BJ P w
  stay := fun g H H' ⟨h1, h2⟩ k => ⟨fun q hq => (k _ (.inl ⟨q, hq, rfl⟩)).trans (h1 q hq), fun a ks e => by
    obtain ⟨h3, h4⟩ := h2 a ks e
    refine ⟨?_, h4⟩
    rcases h3 with h3 | ⟨h3, h5⟩
    · exact .inl ((k a (.inr ⟨ks, e⟩)).trans h3)
    · exact .inr ⟨h3, (k a (.inr ⟨ks, e⟩)).trans h5⟩⟩
  live := fun g H a ⟨h1, h2⟩ h => by
    rcases h with ⟨q, hq, rfl⟩ | ⟨ks, e⟩
    · exact ⟨_, h1 q hq⟩
    · rcases (h2 a ks e).1 with h | ⟨_, h⟩ <;> exact ⟨_, h⟩
section
variable {γ : Type} {G : GP γ} {F : Fra} {Z : Hp} {s : S γ} {σ : St} {H : Hp}
theorem Rel.newB (r : Rel G F Z s σ H) {p : Addr} (hp : H p = none) (o : HO) {g' : γ} (j : G.J g' (upd H p o)) (hf : ∀ a, G.foot g' a → G.foot s.g a ∨ a = p) : Rel G F Z ⟨s.ρ, g'⟩ σ (upd H p o) := by
  have k := same_upd (o := o) hp
  refine ⟨r.z.trans k, r.f.trans k, r.zb, r.len, r.loc, fun i l h ol => ?_, r.injL, j, fun a h => ?_, fun a h => ?_, r.fl⟩
  · obtain ⟨a, vs, h1, h2, h3, h4, h5, h6⟩ := r.ownL i l h ol
    refine ⟨a, vs, h1, k _ _ h2, h3, h4, h5, fun h => ?_⟩
    rcases hf a h with h | h
    · exact h6 h
    · rw [h, hp] at h2; cases h2
  · rcases hf a h with h | h
    · exact r.zf a h
    · rw [h]; exact r.z.free hp
  · rcases hf a h with h | h
    · exact r.ff a h
    · rw [h]; exact r.f.free hp
theorem Rel.writeB (r : Rel G F Z s σ H) {a : Addr} (ha : G.foot s.g a) (o : HO) {g' : γ} (j : G.J g' (upd H a o)) (hf : ∀ b, G.foot g' b → G.foot s.g b) : Rel G F Z ⟨s.ρ, g'⟩ σ (upd H a o) := by
  refine ⟨fun b u e => ?_, fun b u e => ?_, r.zb, r.len, r.loc, fun i l h ol => ?_, r.injL, j, fun b h => r.zf b (hf b h), fun b h => r.ff b (hf b h), r.fl⟩
  · have n : b ≠ a := fun z => by rw [z, r.zf a ha] at e; cases e
    rw [upd_ne n]; exact r.z _ _ e
  · have n : b ≠ a := fun z => by rw [z, r.ff a ha] at e; cases e
    rw [upd_ne n]; exact r.f _ _ e
  · obtain ⟨b, vs, h1, h2, h3, h4, h5, h6⟩ := r.ownL i l h ol
    have n : b ≠ a := fun z => h6 (by rw [z]; exact ha)
    exact ⟨b, vs, h1, by rw [upd_ne n]; exact h2, h3, h4, h5, fun h => h6 (hf b h)⟩
end
theorem putB_mem {ks : List BE} {b : Bool × Bool} {t : Addr} {i : Int} {e : BE} (h : e ∈ putB ks b t i) : (∃ e' ∈ ks, e'.1 = e.1 ∧ e'.2.1 = e.2.1) ∨ e = (b, t, i) := by
  unfold putB at h
  split at h
  · obtain ⟨e', he, rfl⟩ := List.mem_map.mp h
    refine .inl ⟨e', he, ?_⟩
    split <;> exact ⟨rfl, rfl⟩
  · rcases List.mem_append.mp h with h | h
    · exact .inl ⟨e, h, rfl, rfl⟩
    · exact .inr (List.mem_singleton.mp h)
def qDicB : PEx BG := fun s R => s.g.dic = none ∧ ∀ a, R (.obj a) ⟨s.ρ, ⟨s.g.tups, some (a, [])⟩⟩
def qPairB (t : PAx BG) : PEx BG := fun s R => t s fun ds s1 => ∃ b1 b2, ds = [.bl b1, .bl b2] ∧ ∀ t, R (.obj t) ⟨s1.ρ, ⟨(t, b1, b2) :: s1.g.tups, s1.g.dic⟩⟩
def qGetB (td ty tx : PEx BG) : PEx BG := fun s R => td s fun da s1 => ∃ a ks0, da = .obj a ∧ s1.g.dic = some (a, ks0) ∧ ty s1 fun dt s2 => tx s2 fun dd s3 => ∃ ks t b d, s3.g.dic = some (a, ks) ∧ dt = .obj t ∧ (t, b) ∈ s3.g.tups ∧ dd = .int d ∧ R (.int ((getB ks b).getD d)) s3
def qPutB (td ty tv : PEx BG) : PSx BG := fun E s => tv s fun dv s1 => td s1 fun da s2 => ty s2 fun dt s3 => ∃ a ks t b i, dv = .int i ∧ da = .obj a ∧ s3.g.dic = some (a, ks) ∧ dt = .obj t ∧ (t, b) ∈ s3.g.tups ∧ (putB ks b t i).length ≤ 1000 ∧ E.nx ⟨s3.ρ, ⟨s3.g.tups, some (a, putB ks b t i)⟩⟩
def qIxB (td ty : PEx BG) : PEx BG := fun s R => td s fun da s1 => ty s1 fun dt s2 => ∃ a ks b1 b2 i, da = .obj a ∧ s2.g.dic = some (a, ks) ∧ dt = .tup [.bl b1, .bl b2] ∧ getB ks (b1, b2) = some i ∧ R (.int i) s2
def qInB (ty td : PEx BG) : PEx BG := fun s R => ty s fun dt s1 => td s1 fun da s2 => ∃ a ks b1 b2, da = .obj a ∧ s2.g.dic = some (a, ks) ∧ dt = .tup [.bl b1, .bl b2] ∧ R (.bl (getB ks (b1, b2)).isSome) s2
section
variable {X : Cx} {pos tpos apos : Pos} {o a b e f value : Expr} {td ty tx tv : PEx BG}
theorem ks_ok {K : PySem.W.Frag} {P : Program} {w : World} {g : BG} {H : Hp} (j : BJ P w g H) {a : Addr} {ks : List BE} (e : g.dic = some (a, ks)) : BdAt P w H a ks ∧ KsOk K H ks := by
  obtain ⟨h1, h2⟩ := j.2 a ks e
  exact ⟨h1, fun e he => .inl (.inl (j.1 _ (h2 e he)))⟩
theorem qe_dicB : QE X (gB X.K X.prog X.w) (.Dict [] [] pos) qDicB := by
  refine PE.imp pe_dnewK fun σ H Q ⟨F, Z, s, R, r, t, q⟩ => fun p hp => ?_
  refine q (.obj p) _ Z _ _ (t.2 p) (Same.refl _) (r.newB hp _ ?_ ?_) rfl
  · refine ⟨fun z hz => same_upd hp _ _ (r.j.1 z hz), fun a ks e => ?_⟩
    cases e
    exact ⟨.inr ⟨rfl, upd_same⟩, fun e he => (by cases he)⟩
  · intro a h
    rcases h with h | ⟨ks, h⟩
    · exact .inl (.inl h)
    · cases h; exact .inr rfl
theorem qe_pairB {es : List Expr} {t : PAx BG} {x1} (h : QA X (gB X.K X.prog X.w) es t) : QE X (gB X.K X.prog X.w) (.Tuple es x1 pos) (qPairB t) := by
  refine PE.imp (pe_tup h) fun σ H Q ⟨F, Z, s, R, r, t, q⟩ => ?_
  refine ⟨F, Z, s, _, r, t, fun xs s1 Z1 vs H1 t1 k1 r1 a1 => ?_⟩
  obtain ⟨b1, b2, rfl, t1⟩ := t1
  have hv : vs = [.bl b1, .bl b2] := by
    obtain ⟨w, ws, rfl, h1, h2⟩ := a1
    obtain ⟨w2, ws2, rfl, h3, h4⟩ := h2
    rw [show w = .bl b1 from h1, show w2 = .bl b2 from h3, show ws2 = [] from h4]
  subst hv
  have line : (10000000 : Nat) ≤ sizeLine := line_big
  refine ⟨by show 2 ≤ sizeLine; omega, fun p hp => ?_⟩
  refine q (.obj p) _ Z1 _ _ (t1 p) k1 (r1.newB hp _ ?_ ?_) rfl
  · have k := same_upd (o := HO.tup [.bl b1, .bl b2]) hp
    refine ⟨fun z hz => ?_, fun a ks e => ?_⟩
    · rcases List.mem_cons.mp hz with rfl | hz
      · exact upd_same
      · exact k _ _ (r1.j.1 z hz)
    · obtain ⟨h1, h2⟩ := r1.j.2 a ks e
      refine ⟨?_, fun e he => List.mem_cons_of_mem _ (h2 e he)⟩
      rcases h1 with h1 | ⟨h1, h3⟩
      · exact .inl (k _ _ h1)
      · exact .inr ⟨h1, k _ _ h3⟩
  · intro a h
    rcases h with ⟨z, hz, e⟩ | h
    · rcases List.mem_cons.mp hz with rfl | hz
      · exact .inr e.symm
      · exact .inl (.inl ⟨z, hz, e⟩)
    · exact .inl (.inr h)
theorem qe_getB {k : Nat} {cpos : Pos} (hr : Room k X.A) (ho : QE X (gB X.K X.prog X.w) o td) (he : QE X (gB X.K X.prog X.w) e ty) (hf : QE X (gB X.K X.prog X.w) f tx) (m : M2 X o "get" apos e f cpos) : QE X (gB X.K X.prog X.w) (.Call (.Attribute o "get" apos) [e, f] [] cpos) (qGetB td ty tx) := by
  refine PE.imp (pe_bget2 (by have := hr.units; omega) ho he hf m) fun σ H Q ⟨F, Z, s, R, r, t, q⟩ => ?_
  refine ⟨F, Z, s, _, r, t, fun d s1 Z1 x H1 t1 k1 r1 a1 => ?_⟩
  obtain ⟨a, ks0, rfl, e0, t1⟩ := t1
  obtain rfl : x = .ref a := a1
  obtain ⟨g1, g2⟩ := ks_ok (K := X.K) r1.j e0
  refine ⟨a, ks0, rfl, g1, g2, F, Z1, s1, _, r1, t1, fun d2 s2 Z2 y H2 t2 k2 r2 a2 => ⟨F, Z2, s2, _, r2, t2, fun d3 s3 Z3 z H3 t3 k3 r3 a3 => ?_⟩⟩
  obtain ⟨ks, t, b, d, e3, rfl, hm, rfl, t3⟩ := t3
  obtain rfl : y = .ref t := a2
  obtain rfl : z = .int d := a3
  obtain ⟨g3, g4⟩ := ks_ok (K := X.K) r3.j e3
  exact ⟨ks, t, b, d, rfl, rfl, g3, g4, .inl (.inl (r3.j.1 _ hm)), q _ s3 Z3 _ H3 t3 (k1.trans (k2.trans k3)) r3 rfl⟩
theorem qe_ixB {k : Nat} (hr : Room k X.A) (ho : QE X (gB X.K X.prog X.w) a td) (hi : QE X (gB X.K X.prog X.w) b ty) (hs : NoSl b := by intro _ _; rfl) : QE X (gB X.K X.prog X.w) (.Subscript a b pos) (qIxB td ty) := by
  refine PE.imp (pe_bget (by have := hr.units; omega) ho hi hs) fun σ H Q ⟨F, Z, s, R, r, t, q⟩ => ?_
  refine ⟨F, Z, s, _, r, t, fun d s1 Z1 x H1 t1 k1 r1 a1 => ⟨F, Z1, s1, _, r1, t1, fun d2 s2 Z2 y H2 t2 k2 r2 a2 => ?_⟩⟩
  obtain ⟨a, ks, b1, b2, i, rfl, e2, rfl, g, t2⟩ := t2
  obtain rfl : x = .ref a := a1
  obtain ⟨t, vs, rfl, h1, h2⟩ := a2
  have hv : vs = [.bl b1, .bl b2] := by
    obtain ⟨w, ws, rfl, h5, h6⟩ := h2
    obtain ⟨w2, ws2, rfl, h3, h4⟩ := h6
    rw [show w = .bl b1 from h5, show w2 = .bl b2 from h3, show ws2 = [] from h4]
  subst hv
  obtain ⟨g3, g4⟩ := ks_ok (K := X.K) r2.j e2
  exact ⟨a, ks, t, (b1, b2), i, rfl, rfl, g3, g4, seqT r2.z h1, g, q _ s2 Z2 _ H2 t2 (k1.trans k2) r2 rfl⟩
theorem linB {td ty : PEx BG} {σ : St} {H : Hp} {Q : VK} (h : lE (gB X.K X.prog X.w) (qInB ty td) σ H Q) : tBIn X.K X.prog X.w (lE (gB X.K X.prog X.w) ty) (lE (gB X.K X.prog X.w) td) σ H Q := by
  obtain ⟨F, Z, s, R, r, t, q⟩ := h
  refine ⟨F, Z, s, _, r, t, fun d s1 Z1 y H1 t1 k1 r1 a1 => ⟨F, Z1, s1, _, r1, t1, fun d2 s2 Z2 x H2 t2 k2 r2 a2 => ?_⟩⟩
  obtain ⟨a, ks, b1, b2, rfl, e2, rfl, t2⟩ := t2
  obtain rfl : x = .ref a := a2
  obtain ⟨t, vs, rfl, h1, h2⟩ := a1
  have hv : vs = [.bl b1, .bl b2] := by
    obtain ⟨w, ws, rfl, h5, h6⟩ := h2
    obtain ⟨w2, ws2, rfl, h3, h4⟩ := h6
    rw [show w = .bl b1 from h5, show w2 = .bl b2 from h3, show ws2 = [] from h4]
  subst hv
  obtain ⟨g3, g4⟩ := ks_ok (K := X.K) r2.j e2
  exact ⟨a, ks, t, (b1, b2), rfl, rfl, g3, g4, seqT (k2.trans r2.z) h1, q _ s2 Z2 _ H2 t2 (k1.trans k2) r2 rfl⟩
theorem qt_inB {k : Nat} (hr : Room k X.A) (hi : QE X (gB X.K X.prog X.w) a ty) (ho : QE X (gB X.K X.prog X.w) b td) (hm : behindInMarks .In b = false := by rfl) : QT X (gB X.K X.prog X.w) (.Compare a [.In] [b] pos) (qB (qInB ty td)) :=
  PT.imp (pt_cmp (pc_bin (by have := hr.units; omega) hi ho) hm) fun σ H Q h => lB (te := tBIn X.K X.prog X.w (lE (gB X.K X.prog X.w) ty) (lE (gB X.K X.prog X.w) td)) (fun σ H Q h => linB h) h
theorem qs_putB {k : Nat} (hr : Room k X.A) (hv : QE X (gB X.K X.prog X.w) value tv) (ho : QE X (gB X.K X.prog X.w) o td) (hi : QE X (gB X.K X.prog X.w) b ty) (hs : swapsWith value (some (.Subscript o b tpos)) pos.line X.env = pure false := by rfl) :
    QS X (gB X.K X.prog X.w) (.Assign [.Subscript o b tpos] value pos) (qPutB td ty tv) := by
  refine PS.imp (ps_bput (by have := hr.units; omega) ho hi hv hs) fun De σ H ⟨F, Z, s, E, r, t, n, _⟩ => ?_
  refine ⟨F, Z, s, _, r, t, fun d s1 Z1 v H1 t1 k1 r1 a1 => ⟨F, Z1, s1, _, r1, t1, fun d2 s2 Z2 x H2 t2 k2 r2 a2 => ⟨F, Z2, s2, _, r2, t2, fun d3 s3 Z3 y H3 t3 k3 r3 a3 => ?_⟩⟩⟩
  obtain ⟨a, ks, t, b, i, rfl, rfl, e3, rfl, hm, hl, t3⟩ := t3
  obtain rfl : v = .int i := a1
  obtain rfl : x = .ref a := a2
  obtain rfl : y = .ref t := a3
  obtain ⟨g3, g4⟩ := ks_ok (K := X.K) r3.j e3
  refine ⟨a, ks, t, b, i, rfl, rfl, rfl, g3, g4, .inl (.inl (r3.j.1 _ hm)), hl, n _ Z3 _ _ t3 (k1.trans (k2.trans k3)) (r3.writeB (.inr ⟨ks, e3⟩) _ ?_ ?_)⟩
  · have ne : ∀ z ∈ s3.g.tups, z.1 ≠ a := fun z hz q => by
      have h1 := r3.j.1 z hz
      rw [q] at h1
      rcases g3 with h | ⟨_, h⟩ <;> (rw [h1] at h; cases h)
    refine ⟨fun z hz => by rw [upd_ne (ne z hz)]; exact r3.j.1 z hz, fun a' ks' e => ?_⟩
    cases e
    refine ⟨.inl upd_same, fun e he => ?_⟩
    rcases putB_mem he with ⟨e', h1, h2, h3⟩ | rfl
    · rw [← h2, ← h3]; exact (r3.j.2 a ks e3).2 e' h1
    · exact hm
  · intro b' h
    rcases h with h | ⟨ks', h⟩
    · exact .inl h
    · cases h; exact .inr ⟨ks, e3⟩
end
section
variable {K : PySem.W.Frag} {P : Program} {w : World} {mg : Str → Option Value} {base : Heap}
theorem liftB {γ : Type} {G : GP γ} {N ps : List Str} {fs : Spec γ} {t : PSx γ} (hl : ps.length ≤ N.length) (len : ∀ ds g R, fs ds g R → ds.length = ps.length) (hp : ∀ ds g R, fs ds g R → t { nx := fun s => R .non s.g, rt := R } ⟨startL N.length ds, g⟩)
    (h0 : ∀ ds g R, fs ds g R → ∀ a, ¬ G.foot g a) (hfl : ∀ a, G.fl a = none) {vs : List V} {H : Hp} {Q : VK} {E : XK} (h : spG G fs vs H Q E) : lS G t { nx := fun _ H' => Q .non H', rt := Q } (L2.start N vs) H := by
  obtain ⟨Z, ds, g, R, k, a, hj, hzf, h, q⟩ := h
  have hd := len _ _ _ h
  have em := h0 _ _ _ h
  refine ⟨⟨H, fun b => H b ≠ none ∧ Z b = none, fun b hb => Option.ne_none_iff_exists'.mp hb.1⟩, Z, _, _, ?_, hp ds g R h, ?_, ?_, ?_, ?_⟩
  · refine ⟨k, Same.refl _, fun b hb => hb.2, ?_, fun i d e => ?_, fun i l e ol => ?_, fun i j l m b n e1 o1 e2 => ?_, hj, hzf, fun b z => (em b z).elim, fun b _ z => by rw [hfl b] at z; cases z⟩
    · unfold L2.start startL
      simp only [List.length_append, List.length_map, List.length_replicate, a.len]
    · obtain ⟨d', e', v, h1, h2⟩ := start_at a e
      cases e'
      exact ⟨v, h1, h2⟩
    · obtain ⟨d', e', _⟩ := start_at a e
      subst e'; cases ol
    · obtain ⟨d', e', _⟩ := start_at a e1
      subst e'; cases o1
  all_goals
    have fin : ∀ (d : D) (s' : Pm.S γ) (Z' : Hp) (σ' : St) (v : V) (H' : Hp), R d s'.g → Same Z Z' → Rel G ⟨H, fun b => H b ≠ none ∧ Z b = none, fun b hb => Option.ne_none_iff_exists'.mp hb.1⟩ Z' s' σ' H' → At G.K Z' d v → Q v H' :=
      fun d s' Z' σ' v H' q' k' r' a' => q d s'.g Z' v H' q' k' r'.z (fun b o e n => r'.f b o e) (fun b o e n => by
        cases hb : H b with
        | none => rfl
        | some u => have := r'.zb b ⟨by rw [hb]; simp, n⟩; rw [e] at this; cases this) r'.j (fun b hb => ⟨r'.zf b hb, .inr (r'.ff b hb)⟩) a'
  · intro s' Z' σ' H' q' k' r'
    exact fin .non s' Z' σ' .non H' q' k' r' rfl
  · exact fin
  · intro s' Z' σ' H' z; exact z.elim
  · intro s' Z' σ' H' z; exact z.elim
theorem okB {γ : Type} {G : GP γ} (hK : G.K = K) {x qual : Str} {st : Stmt} {f : Addr} {fd : FuncData} {N ps : List Str} {k : Nat} (F : Fn K x qual st f fd) (S : FnScope N ps (defScope st)) {fs : Spec γ} (len : ∀ ds g R, fs ds g R → ds.length = ps.length)
    (body : ∃ t : PSx γ, (∀ (cdv : Value) (A : Around) (outer : List Env) (s : Shared) (H : Hp) (E : XK), Room k (A.deeper (envOfC qual (defScope st) s.heap.objs.size f cdv)) →
      QSs (cxOf CX0 P w K mg base N qual (defScope st) f cdv A outer s H E).nox G (defBody st) t) ∧ ∀ ds g R, fs ds g R → t { nx := fun s => R .non s.g, rt := R } ⟨startL N.length ds, g⟩)
    (h0 : ∀ ds g R, fs ds g R → ∀ a, ¬ G.foot g a) (hfl : ∀ a, G.fl a = none := by intro _; rfl) : FnOk P w K mg base CX0 (k + 1) f fd ps (spG G fs) := by
  subst hK
  refine F.ok S (fun vs H Q E h => ?_) (fun cdv A outer s H vs Q E hr h => ?_)
  · obtain ⟨Z, ds, g, R, _, a, _, _, h, _⟩ := h
    rw [a.len]; exact len _ _ _ h
  · obtain ⟨t, hb, hp⟩ := body
    exact ⟨_, hb cdv A outer s H E hr, liftB (ps := ps) (by have := congrArg List.length S.pre; rw [List.length_take] at this; omega) len hp h0 hfl h⟩
def outG {γ : Type} (g0 : γ) (f : Spec0) : Spec γ := fun ds g R => g = g0 ∧ f ds fun d => ∀ g', R d g'
theorem spP_of {γ : Type} {G : GP γ} (hK : G.K = K) {g0 : γ} (j0 : ∀ H, G.J g0 H) (e0 : ∀ a, ¬ G.foot g0 a) {f : Spec0} {vs : List V} {H : Hp} {Q : VK} {E : XK} (h : spP K f vs H Q E) : spG G (outG g0 f) vs H Q E := by
  subst hK
  obtain ⟨Z, ds, R, k, a, h, q⟩ := h
  refine ⟨Z, ds, g0, fun d _ => R d, k, a, j0 H, fun b z => (e0 b z).elim, ⟨rfl, ?_⟩, fun d g' Z' v H' h1 h2 h3 h4 h5 _ _ h6 => q d Z' v H' h1 h2 h3 (fun b o e => h4 b o e (e0 b)) h5 h6⟩
  have e : (fun d => ∀ _ : γ, R d) = R := funext fun d => propext ⟨fun h => h g0, fun h _ => h⟩
  rw [e]; exact h
theorem BG.nil_j {K : PySem.W.Frag} {P : Program} {w : World} (H : Hp) : (gB K P w).J BG.nil H := ⟨fun q hq => (by cases hq), fun a ks e => (by cases e)⟩
theorem BG.nil_foot {K : PySem.W.Frag} {P : Program} {w : World} (a : Addr) : ¬ (gB K P w).foot BG.nil a := fun h => by
  rcases h with ⟨q, hq, _⟩ | ⟨ks, e⟩
  · cases hq
  · cases e
end
end Pm
set_option Elab.async false
set_option linter.all false
set_option maxRecDepth 100000
set_option maxHeartbeats 1000000
set_option autoImplicit false
namespace Pm
open PySem PySem.Spec
open L2
theorem getB_put (ks : List BE) (b c : Bool × Bool) (t : Addr) (i : Int) : getB (putB ks b t i) c = if c = b then some i else getB ks c := by
  have key : ∀ l : List BE, getB (l.map fun e => if e.1 = b then (e.1, e.2.1, i) else e) c = if c = b then (getB l c).map (fun _ => i) else getB l c := by
    intro l
    induction l with
    | nil => simp [getB]
    | cons e l ih =>
      have s1 : ∀ (e : BE) (l : List BE), getB (e :: l) c = if e.1 = c then some e.2.2 else getB l c := fun e l => by
        unfold getB; rw [List.find?_cons]
        by_cases h : e.1 = c <;> simp [h]
      rw [List.map_cons, s1, s1, ih]
      by_cases h1 : e.1 = b
      · rw [if_pos h1]
        by_cases h2 : c = b
        · simp [h1, h2]
        · have h3 : ¬ e.1 = c := fun z => h2 (z.symm.trans h1)
          simp [h2, h3]
      · rw [if_neg h1]
        by_cases h2 : c = b
        · have h3 : ¬ e.1 = c := fun z => h1 (z.trans h2)
          simp [h2, h3, h1]
        · simp [h2]
  unfold putB
  by_cases q : (getB ks b).isSome = true
  · rw [if_pos q, key]
    by_cases h : c = b
    · subst h
      obtain ⟨x, hx⟩ := Option.isSome_iff_exists.mp q
      simp [hx]
    · simp [h]
  · rw [if_neg q]
    have qn : getB ks b = none := by cases e : getB ks b with
      | none => rfl
      | some x => rw [e] at q; exact absurd rfl q
    unfold getB at qn ⊢
    rw [List.find?_append]
    by_cases h : c = b
    · subst h
      rw [Option.map_eq_none_iff] at qn
      rw [qn]; simp
    · have h2 : ¬ b = c := fun z => h z.symm
      simp [h, h2]
theorem putB_len (ks : List BE) (b : Bool × Bool) (t : Addr) (i : Int) : (putB ks b t i).length ≤ ks.length + 1 := by
  unfold putB; split <;> simp
def kdB (wt it : Nat) (g : List Nat) : Bool × Bool := (inB g wt, inB g it)
def rsS (p : Pan) (it : Nat) (v : Rat) (g : List Nat) : Int := scS (selI p.its (g.filter fun j => decide (j ≠ it))) v.num v.den
def mxB (p : Pan) (wt it : Nat) (v : Rat) (l : List (List Nat)) (b : Bool × Bool) : Option Int :=
  l.foldl (fun o g => if kdB wt it g = b then some (max (rsS p it v g) (o.getD (rsS p it v g))) else o) none
theorem mxB_snoc (p : Pan) (wt it : Nat) (v : Rat) (l : List (List Nat)) (g : List Nat) (b : Bool × Bool) : mxB p wt it v (l ++ [g]) b = if kdB wt it g = b then some (max (rsS p it v g) ((mxB p wt it v l b).getD (rsS p it v g))) else mxB p wt it v l b := by
  unfold mxB; rw [List.foldl_append]; rfl
theorem mxB_is (p : Pan) (wt it : Nat) (v : Rat) (b : Bool × Bool) (l : List (List Nat)) : (mxB p wt it v l b = none ∧ ∀ g ∈ l, kdB wt it g ≠ b) ∨ ∃ x, mxB p wt it v l b = some x ∧ (∃ g ∈ l, kdB wt it g = b ∧ rsS p it v g = x) ∧ ∀ g ∈ l, kdB wt it g = b → rsS p it v g ≤ x := by
  have key : ∀ n, n ≤ l.length → (mxB p wt it v (l.take n) b = none ∧ ∀ g ∈ l.take n, kdB wt it g ≠ b) ∨ ∃ x, mxB p wt it v (l.take n) b = some x ∧ (∃ g ∈ l.take n, kdB wt it g = b ∧ rsS p it v g = x) ∧ ∀ g ∈ l.take n, kdB wt it g = b → rsS p it v g ≤ x := by
    intro n
    induction n with
    | zero => intro _; exact .inl ⟨rfl, fun g hg => (by simp at hg)⟩
    | succ n ih =>
      intro hn
      have hn' : n < l.length := by omega
      rw [List.take_succ_eq_append_getElem hn', mxB_snoc]
      have ih := ih (by omega)
      by_cases e : kdB wt it l[n] = b
      · rw [if_pos e]
        refine .inr ⟨_, rfl, ?_, ?_⟩
        · rcases ih with ⟨h1, h2⟩ | ⟨x, h1, ⟨g, h2, h3, h4⟩, h5⟩
          · refine ⟨l[n], List.mem_append.mpr (.inr (List.mem_singleton.mpr rfl)), e, ?_⟩
            rw [h1]; simp [Int.max_self]
          · rw [h1]
            show ∃ g' ∈ _, _ ∧ _ = max _ x
            by_cases c : x ≤ rsS p it v l[n]
            · exact ⟨l[n], List.mem_append.mpr (.inr (List.mem_singleton.mpr rfl)), e, by rw [Int.max_eq_left c]⟩
            · exact ⟨g, List.mem_append.mpr (.inl h2), h3, by rw [Int.max_eq_right (by omega)]; exact h4⟩
        · intro g hg hk
          rcases List.mem_append.mp hg with hg | hg
          · rcases ih with ⟨h1, h2⟩ | ⟨x, h1, _, h5⟩
            · exact absurd hk (h2 g hg)
            · rw [h1]; exact Int.le_trans (h5 g hg hk) (Int.le_max_right _ _)
          · rw [List.mem_singleton] at hg; rw [hg]; exact Int.le_max_left _ _
      · rw [if_neg e]
        rcases ih with ⟨h1, h2⟩ | ⟨x, h1, ⟨g, h2, h3, h4⟩, h5⟩
        · refine .inl ⟨h1, fun g hg => ?_⟩
          rcases List.mem_append.mp hg with hg | hg
          · exact h2 g hg
          · rw [List.mem_singleton] at hg; rw [hg]; exact e
        · refine .inr ⟨x, h1, ⟨g, List.mem_append.mpr (.inl h2), h3, h4⟩, fun g hg hk => ?_⟩
          rcases List.mem_append.mp hg with hg | hg
          · exact h5 g hg hk
          · rw [List.mem_singleton] at hg; rw [hg] at hk; exact absurd hk e
  have := key l.length (Nat.le_refl _)
  rw [List.take_length] at this; exact this
def gsB (p : Pan) (wt it : Nat) (v : Rat) (b : Bool × Bool) : Option Int := mxB p wt it v (upG p) b
theorem rsS_sz {m : Nat} {p : Pan} (hp : PanOk m p) (hm : m ≤ 8) {it : Nat} {v : Rat} {a : Nat} (hv : SzR a v) {g : List Nat} (hg : g ∈ upG p) : Sz (a + 70) (rsS p it v g) := by
  obtain ⟨h1, h2⟩ := sc_sz hp hg
  have h8 := hp.top
  unfold rsS scS
  have key : ∀ l : List (Int × Int), (∀ q ∈ l, ItOk q) → ((l.map fun q => q.2 * (q.1 * (v.den : Int) - v.num)).sum).natAbs ≤ l.length * (10 ^ 6 * ((10 ^ 9 + 1) * 2 ^ a)) := by
    intro l
    induction l with
    | nil => intro _; simp
    | cons q l ih =>
      intro hq
      have ih := ih fun z hz => hq z (by simp [hz])
      obtain ⟨a1, a2, a3, a4⟩ := hq q (by simp)
      rw [List.map_cons, List.sum_cons, List.length_cons]
      have b1 : (q.1 * (v.den : Int) - v.num).natAbs ≤ (10 ^ 9 + 1) * 2 ^ a := by
        have c1 : (q.1 * (v.den : Int)).natAbs = q.1.natAbs * v.den := by rw [Int.natAbs_mul]; rfl
        have c2 : q.1.natAbs ≤ 10 ^ 9 := by omega
        have c3 : v.den ≤ 2 ^ a := by have := hv.2; unfold Sz at this; omega
        have c4 := Nat.mul_le_mul c2 c3
        have c5 : v.num.natAbs ≤ 2 ^ a := by have := hv.1; unfold Sz at this; omega
        have c6 : (q.1 * (v.den : Int) - v.num).natAbs ≤ (q.1 * (v.den : Int)).natAbs + v.num.natAbs := by omega
        rw [Nat.add_mul]; omega
      have b2 : (q.2 * (q.1 * (v.den : Int) - v.num)).natAbs ≤ 10 ^ 6 * ((10 ^ 9 + 1) * 2 ^ a) := by
        rw [Int.natAbs_mul]
        exact Nat.mul_le_mul (by omega) b1
      rw [Nat.add_mul, Nat.one_mul]
      generalize l.length * (10 ^ 6 * ((10 ^ 9 + 1) * 2 ^ a)) = Y at *
      generalize 10 ^ 6 * ((10 ^ 9 + 1) * 2 ^ a) = W at *
      omega
  have sl : ∀ q ∈ selI p.its (g.filter fun j => decide (j ≠ it)), ItOk q := fun q hq => hp.it q (sel_mem (fun i hi => h1 i (List.mem_filter.mp hi).1) hq)
  have k := key _ sl
  have ln : (selI p.its (g.filter fun j => decide (j ≠ it))).length ≤ 8 := by
    unfold selI; rw [List.length_map]
    have := List.length_filter_le (fun j => decide (j ≠ it)) g
    omega
  unfold Sz
  rw [Nat.pow_add]
  have k2 := Nat.le_trans k (Nat.mul_le_mul_right _ ln)
  have pos : 0 < 2 ^ a := Nat.pow_pos (by decide)
  generalize 2 ^ a = Y at *
  omega
theorem gsB_sz {m : Nat} {p : Pan} (hp : PanOk m p) (hm : m ≤ 8) {wt it : Nat} {v : Rat} {a : Nat} (hv : SzR a v) {b : Bool × Bool} {x : Int} (h : gsB p wt it v b = some x) : Sz (a + 70) x := by
  rcases mxB_is p wt it v b (upG p) with ⟨h1, _⟩ | ⟨y, h1, ⟨g, hg, _, h2⟩, _⟩
  · unfold gsB at h; rw [h1] at h; cases h
  · unfold gsB at h; rw [h1] at h; cases h
    rw [← h2]; exact rsS_sz hp hm hv hg
theorem gsB_ff {m : Nat} {p : Pan} (hp : PanOk m p) (wt it : Nat) (v : Rat) : ∃ x, gsB p wt it v (false, false) = some x := by
  rcases mxB_is p wt it v (false, false) (upG p) with ⟨_, h2⟩ | ⟨y, h1, _⟩
  · have := upG_of hp (U := fun _ => false) (fun _ _ _ h => (by cases h))
    have e : (List.range p.its.length).filter (fun _ => false) = [] := by simp
    rw [e] at this
    exact absurd (by unfold kdB inB; simp) (h2 _ this)
  · exact ⟨y, h1⟩
theorem gsB_tt {m : Nat} {p : Pan} (hp : PanOk m p) {wt it : Nat} (hw : wt < p.its.length) (hi : it < p.its.length) (v : Rat) : ∃ x, gsB p wt it v (true, true) = some x := by
  rcases mxB_is p wt it v (true, true) (upG p) with ⟨_, h2⟩ | ⟨y, h1, _⟩
  · exact absurd (by unfold kdB inB; simp [hw, hi]) (h2 _ (all_upG hp))
  · exact ⟨y, h1⟩
def mrD (p : Pan) (it wt : Nat) (v : Rat) : D :=
  if (∃ x, gsB p wt it v (true, false) = some x ∧ (gsB p wt it v (false, false)).getD 0 ≤ x) then .tup [.str "always"]
  else if (∃ x, gsB p wt it v (false, true) = some x ∧ (gsB p wt it v (true, true)).getD 0 < x) then .tup [.str "never"]
  else .tup [.str "from", frD (v + Rat.divInt ((gsB p wt it v (false, false)).getD 0 - (gsB p wt it v (true, true)).getD 0) ((v.den : Int) * (p.its.getD it (0, 1)).2))]
end Pm
set_option Elab.async false
set_option linter.all false
set_option maxRecDepth 100000
set_option maxHeartbeats 1000000
set_option autoImplicit false
namespace Pm
open PySem PySem.Spec
open L2
theorem filt_sum (f : Nat → Int) (P : Nat → Bool) : ∀ l : List Nat, ((l.filter P).map f).sum = (l.map fun j => if P j = true then f j else 0).sum
  | [] => rfl
  | j :: l => by
    rw [List.map_cons, List.sum_cons, ← filt_sum f P l, List.filter_cons]
    split <;> simp
theorem sum_mod (f : Nat → Int) (P Q : Nat → Bool) : ∀ l : List Nat, (l.map fun j => if (P j || Q j) = true then f j else 0).sum + (l.map fun j => if (P j && Q j) = true then f j else 0).sum = (l.map fun j => if P j = true then f j else 0).sum + (l.map fun j => if Q j = true then f j else 0).sum
  | [] => rfl
  | j :: l => by
    have := sum_mod f P Q l
    rw [List.map_cons, List.map_cons, List.map_cons, List.map_cons, List.sum_cons, List.sum_cons, List.sum_cons, List.sum_cons]
    generalize (l.map fun j => if (P j || Q j) = true then f j else 0).sum = A at *
    generalize (l.map fun j => if (P j && Q j) = true then f j else 0).sum = B at *
    generalize (l.map fun j => if P j = true then f j else 0).sum = C at *
    generalize (l.map fun j => if Q j = true then f j else 0).sum = E at *
    cases P j <;> cases Q j <;> simp <;> omega
section
variable {m : Nat} {p : Pan} {it wt : Nat} {v : Rat}
theorem gsB_le {b : Bool × Bool} {x : Int} (h : gsB p wt it v b = some x) {g : List Nat} (hg : g ∈ upG p) (hk : kdB wt it g = b) : rsS p it v g ≤ x := by
  unfold gsB at h
  rcases mxB_is p wt it v b (upG p) with ⟨h1, _⟩ | ⟨y, h1, _, h2⟩
  · rw [h1] at h; cases h
  · rw [h1] at h; cases h; exact h2 g hg hk
theorem gsB_at {b : Bool × Bool} {x : Int} (h : gsB p wt it v b = some x) : ∃ g ∈ upG p, kdB wt it g = b ∧ rsS p it v g = x := by
  unfold gsB at h
  rcases mxB_is p wt it v b (upG p) with ⟨h1, _⟩ | ⟨y, h1, h2, _⟩
  · rw [h1] at h; cases h
  · rw [h1] at h; cases h; exact h2
theorem gsB_ex {g : List Nat} (hg : g ∈ upG p) : ∃ x, gsB p wt it v (kdB wt it g) = some x ∧ rsS p it v g ≤ x := by
  unfold gsB
  rcases mxB_is p wt it v (kdB wt it g) (upG p) with ⟨_, h2⟩ | ⟨y, h1, _, h2⟩
  · exact absurd rfl (h2 g hg)
  · exact ⟨y, h1, h2 g hg rfl⟩
structure Rmk (p q : Pan) (it : Nat) (v t : Rat) (X c : Rat) : Prop where
  up : upG q = upG p
  len : q.its.length = p.its.length
  c0 : 0 < c
  ex : ∀ g ∈ upG p, exT q t g = c * (((rsS p it v g : Int) : Rat) + if inB g it = true then X else 0)
variable {q : Pan} {t X c : Rat} {r : Nat → Rat} {k : Nat}
theorem Rmk.mx (h : Rmk p q it v t X c) {g : List Nat} : g ∈ mxG q t ↔ g ∈ upG p ∧ ∀ u ∈ upG p, ((rsS p it v u : Int) : Rat) + (if inB u it = true then X else 0) ≤ ((rsS p it v g : Int) : Rat) + if inB g it = true then X else 0 := by
  unfold mxG
  rw [List.mem_filter, h.up, List.all_eq_true]
  have d0 : (0 : Rat) < ((t.den : Int) : Rat) := Rat.intCast_pos.mpr (by have := t.den_pos; omega)
  have key : g ∈ upG p → ∀ u ∈ upG p, (decide (scT q t u ≤ scT q t g) = true ↔ ((rsS p it v u : Int) : Rat) + (if inB u it = true then X else 0) ≤ ((rsS p it v g : Int) : Rat) + if inB g it = true then X else 0) := fun hg u hu => by
    rw [decide_eq_true_eq, ← Rat.intCast_le_intCast, scT_ex, scT_ex, h.ex u hu, h.ex g hg]
    generalize ((rsS p it v u : Int) : Rat) + (if inB u it = true then X else 0) = x
    generalize ((rsS p it v g : Int) : Rat) + (if inB g it = true then X else 0) = y
    have cd := Rat.mul_pos h.c0 d0
    constructor
    · intro l
      refine Classical.byContradiction fun n => ?_
      have n : y < x := Rat.not_le.mp n
      have := Rat.mul_lt_mul_of_pos_left n cd
      grind
    · intro l
      have := Rat.mul_le_mul_of_nonneg_left l (Rat.le_of_lt cd)
      grind
  constructor
  · rintro ⟨h1, h2⟩; exact ⟨h1, fun u hu => (key h1 u hu).mp (h2 u hu)⟩
  · rintro ⟨h1, h2⟩; exact ⟨h1, fun u hu => (key h1 u hu).mpr (h2 u hu)⟩
end
end Pm
set_option Elab.async false
set_option linter.all false
set_option maxRecDepth 100000
set_option maxHeartbeats 1000000
set_option autoImplicit false
namespace Pm
open PySem PySem.Spec
open L2
namespace Any
def ItOk (q : Int × Int) : Prop := True ∧ True ∧ 1 ≤ q.2 ∧ True
structure PanOk (most : Nat) (p : Pan) : Prop where
  one : 1 ≤ p.its.length
  top : p.its.length ≤ most
  it : ∀ q ∈ p.its, ItOk q
  few : p.rus.length ≤ 16
  ru : ∀ q ∈ p.rus, RuOk p.its.length q
theorem PanOk.of {m : Nat} {p : Pan} (h : Pm.PanOk m p) : PanOk m p := ⟨h.one, h.top, fun q hq => by
  obtain ⟨a, b, c, d⟩ := h.it q hq
  exact ⟨trivial, trivial, c, trivial⟩, h.few, h.ru⟩
section
variable {p : Pan} {m n : Nat} {r : Nat → Rat} {t : Rat} {it wt : Nat} {v : Rat}
theorem upB_iff {m : Nat} {p : Pan} (hp : PanOk m p) {gs : List Nat} : upB p gs = true ↔ UpS (eE p) (fun i => decide (i ∈ gs)) := by
  unfold upB
  rw [List.all_eq_true]
  constructor
  · intro h a b e ha
    have := h _ e
    simp only [upR, Int.toNat_natCast, Bool.or_eq_true, Bool.not_eq_true', decide_eq_true_eq, decide_eq_false_iff_not] at this ha ⊢
    exact this.resolve_right fun z => z ha
  · intro h q hq
    obtain ⟨a1, a2, a3, a4, _⟩ := hp.ru q hq
    have e : eE p q.1.toNat q.2.toNat := by
      unfold eE
      have : (((q.1.toNat : Nat) : Int), ((q.2.toNat : Nat) : Int)) = q := by
        refine Prod.ext ?_ ?_ <;> (simp only; omega)
      rw [this]; exact hq
    have := h _ _ e
    simp only [decide_eq_true_eq] at this
    simp only [upR, Bool.or_eq_true, Bool.not_eq_true', decide_eq_true_eq, decide_eq_false_iff_not]
    by_cases z : q.1.toNat ∈ gs
    · exact .inl (this z)
    · exact .inr z
theorem wR_pos {m : Nat} {p : Pan} (hp : PanOk m p) {i : Nat} (h : i < p.its.length) : 0 < wR p i := by
  have := (hp.it _ (List.mem_of_getElem? (getD_at h))).2.2.1
  exact Rat.intCast_pos.mpr (by omega)
theorem wR_pos' {m : Nat} {p : Pan} (hp : PanOk m p) : ∀ i ∈ List.range p.its.length, 0 < wR p i := fun i hi => wR_pos hp (List.mem_range.mp hi)
theorem exc_ex (hp : PanOk m p) {part : List Nat} (hn : part ≠ []) (hi : ∀ i ∈ part, i < p.its.length) (U : List Nat) : ((excI p.its part U : Int) : Rat) = ex (mR p) (wR p) (avS (mR p) (wR p) part) U * sm (wR p) part := by
  have hw : 0 < sm (wR p) part := sm_pos (fun i h => wR_pos hp (hi i h)) hn
  unfold excI
  rw [Rat.intCast_sub, Rat.intCast_mul, Rat.intCast_mul, sM_sm, sM_sm, sW_sm, sW_sm, ex_eq]
  unfold avS
  have e : sm (fun i => wR p i * mR p i) part / sm (wR p) part * sm (wR p) part = sm (fun i => wR p i * mR p i) part := Rat.div_mul_cancel (by grind)
  generalize sm (fun i => wR p i * mR p i) part / sm (wR p) part = A at *
  generalize sm (wR p) part = W at *
  generalize sm (fun i => wR p i * mR p i) part = T at *
  generalize sm (wR p) U = V at *
  generalize sm (fun i => wR p i * mR p i) U = M at *
  subst e
  grind
theorem exc_le (hp : PanOk m p) {part : List Nat} (hn : part ≠ []) (hi : ∀ i ∈ part, i < p.its.length) {U V : List Nat} : excI p.its part U ≤ excI p.its part V ↔ ex (mR p) (wR p) (avS (mR p) (wR p) part) U ≤ ex (mR p) (wR p) (avS (mR p) (wR p) part) V := by
  have hw : 0 < sm (wR p) part := sm_pos (fun i h => wR_pos hp (hi i h)) hn
  rw [← Rat.intCast_le_intCast, exc_ex hp hn hi, exc_ex hp hn hi]
  constructor
  · intro h
    rcases (show ex (mR p) (wR p) (avS (mR p) (wR p) part) U ≤ ex (mR p) (wR p) (avS (mR p) (wR p) part) V ∨ ex (mR p) (wR p) (avS (mR p) (wR p) part) V < ex (mR p) (wR p) (avS (mR p) (wR p) part) U by grind) with z | z
    · exact z
    · have := Rat.mul_lt_mul_of_pos_right z hw; grind
  · intro h
    exact Rat.mul_le_mul_of_nonneg_right h (Rat.le_of_lt hw)
theorem exc_nonpos (hp : PanOk m p) {part : List Nat} (hn : part ≠ []) (hi : ∀ i ∈ part, i < p.its.length) {U : List Nat} : excI p.its part U ≤ 0 ↔ ex (mR p) (wR p) (avS (mR p) (wR p) part) U ≤ 0 := by
  have h0 : excI p.its part [] = 0 := by simp [excI, selI, sM, sW]
  have := exc_le hp hn hi (U := U) (V := [])
  rw [h0] at this
  exact this
theorem eE_lt (hp : PanOk m p) {a b : Nat} (e : eE p a b) : a < p.its.length ∧ b < p.its.length := by
  obtain ⟨h1, h2, h3, h4, _⟩ := hp.ru _ e
  simp only at h2 h4
  omega
theorem Parts.cut (hp : PanOk m p) {a b : List (List Nat)} {q : List Nat} (h : Parts p (a ++ q :: b)) {V : Nat → Bool} (hV : PUp (eE p) q V) : ∃ g ∈ upG p, g.filter (inB q) = q.filter V := by
  have ch := h.ch
  unfold Chain at ch
  rw [List.pairwise_append, List.pairwise_cons] at ch
  obtain ⟨c1, ⟨c2, c3⟩, c4⟩ := ch
  have gs : ((List.range p.its.length).filter fun i => (V i && inB q i) || inB b.flatten i).Sublist (List.range p.its.length) := List.filter_sublist
  have mem : ∀ i, i ∈ ((List.range p.its.length).filter fun i => (V i && inB q i) || inB b.flatten i) ↔ i < p.its.length ∧ ((V i = true ∧ i ∈ q) ∨ i ∈ b.flatten) := fun i => by
    simp [List.mem_filter, inB]
  refine ⟨_, List.mem_filter.mpr ⟨sub_grpS gs, (upB_iff hp).mpr fun x y e hx => ?_⟩, ?_⟩
  · obtain ⟨_, hy⟩ := eE_lt hp e
    simp only [decide_eq_true_eq] at hx ⊢
    rw [mem] at hx ⊢
    refine ⟨hy, ?_⟩
    have my : y ∈ (a ++ q :: b).flatten := h.fl.mem_iff.mpr (List.mem_range.mpr hy)
    rw [List.flatten_append, List.flatten_cons, List.mem_append, List.mem_append] at my
    rcases hx.2 with ⟨v, hq⟩ | hb
    · rcases my with my | my | my
      · obtain ⟨r, hr, yr⟩ := List.mem_flatten.mp my
        exact absurd e ((c4 r hr q (by simp)).2 y yr x hq)
      · exact .inl ⟨hV x hq y my e v, my⟩
      · exact .inr my
    · obtain ⟨r, hr, xr⟩ := List.mem_flatten.mp hb
      rcases my with my | my | my
      · obtain ⟨r2, hr2, yr⟩ := List.mem_flatten.mp my
        exact absurd e ((c4 r2 hr2 r (by simp [hr])).2 y yr x xr)
      · exact absurd e ((c2 r hr).2 y my x xr)
      · exact .inr my
  · refine sub_ext (List.filter_sublist.trans gs) (List.filter_sublist.trans (h.sb q (by simp))) fun i => ?_
    rw [List.mem_filter, mem, List.mem_filter]
    simp only [inB, decide_eq_true_eq]
    constructor
    · rintro ⟨⟨_, ⟨v, _⟩ | hb⟩, hq⟩
      · exact ⟨hq, v⟩
      · exact absurd hb (h.nd i hq).1
    · rintro ⟨hq, v⟩
      exact ⟨⟨h.lt (by simp) i hq, .inl ⟨v, hq⟩⟩, hq⟩
theorem Parts.whole (hp : PanOk m p) {a b : List (List Nat)} {q : List Nat} (h : Parts p (a ++ q :: b)) (hU : ∀ g ∈ upG p, excI p.its q (g.filter (inB q)) ≤ 0) : Whole (eE p) (mR p) (wR p) q := fun V hV => by
  obtain ⟨g, hg, e⟩ := Parts.cut hp h  hV
  rw [← e]
  exact (exc_nonpos hp (h.ne q (by simp)) (h.lt (by simp))).mp (hU g hg)
theorem Parts.split (hp : PanOk m p) {a b : List (List Nat)} {q U : List Nat} (h : Parts p (a ++ q :: b)) {g : List Nat} (hg : g ∈ upG p) (eU : U = g.filter (inB q)) (h0 : 0 < excI p.its q U) (hm : ∀ g' ∈ upG p, excI p.its q (g'.filter (inB q)) ≤ excI p.its q U) :
    q.filter (inB U) = U ∧ Parts p (a ++ q.filter (fun i => !inB U i) :: U :: b) ∧ U ≠ [] ∧ q.filter (fun i => !inB U i) ≠ [] := by
  have gq := List.mem_filter.mp hg
  have gsub := grpS_sub gq.1
  have qs := h.sb q (by simp)
  have qn := h.ne q (by simp)
  have ql := h.lt (q := q) (by simp)
  have us : U.Sublist (List.range p.its.length) := by rw [eU]; exact List.filter_sublist.trans gsub
  have mU : ∀ i, i ∈ U ↔ i ∈ g ∧ i ∈ q := fun i => by rw [eU, List.mem_filter]; simp [inB]
  have e1 : q.filter (inB U) = U := sub_ext (List.filter_sublist.trans qs) us fun i => by
    rw [List.mem_filter]
    simp only [inB, decide_eq_true_eq, mU]
    exact ⟨fun z => z.2, fun z => ⟨z.2, z⟩⟩
  have gu := (upB_iff hp).mp gq.2
  have sp : Split (eE p) (mR p) (wR p) q (inB U) := by
    refine ⟨fun x hx y hy e k => ?_, fun V hV => ?_⟩
    · simp only [inB, decide_eq_true_eq, mU] at k ⊢
      have := gu x y e (by simpa using k.1)
      exact ⟨by simpa using this, hy⟩
    · obtain ⟨g', hg', e'⟩ := Parts.cut hp h  hV
      rw [← e', e1]
      exact (exc_le hp qn ql).mp (hm g' hg')
  have wp : ∀ i ∈ q, 0 < wR p i := fun i hi => wR_pos hp (ql i hi)
  have un : U ≠ [] := fun z => by rw [z] at h0; simp [excI, selI, sM, sW] at h0
  have rn : q.filter (fun i => !inB U i) ≠ [] := fun z => by
    have : q.filter (inB U) = q := by
      refine List.filter_eq_self.mpr fun i hi => ?_
      cases k : inB U i with
      | true => rfl
      | false =>
        have : i ∈ q.filter (fun i => !inB U i) := List.mem_filter.mpr ⟨hi, by simp [k]⟩
        rw [z] at this; cases this
    rw [e1] at this
    rw [this] at h0
    simp [excI] at h0
  have ch := h.ch.split sp (fun i hi => Rat.le_of_lt (wp i hi)) (sm_pos wp qn)
  rw [e1] at ch
  refine ⟨e1, ⟨ch, ?_, ?_, ?_⟩, un, rn⟩
  · refine List.Perm.trans ?_ h.fl
    rw [List.flatten_append, List.flatten_append, List.flatten_cons, List.flatten_cons, List.flatten_cons]
    refine List.Perm.append_left _ ?_
    rw [← List.append_assoc]
    refine List.Perm.append_right _ ?_
    have := List.filter_append_perm (inB U) q
    rw [e1] at this
    exact List.perm_append_comm.trans this
  · intro r hr
    rcases List.mem_append.mp hr with hr | hr
    · exact h.sb r (by simp [hr])
    · rcases List.mem_cons.mp hr with rfl | hr
      · exact List.filter_sublist.trans qs
      · rcases List.mem_cons.mp hr with rfl | hr
        · exact us
        · exact h.sb r (by simp [hr])
  · intro r hr
    rcases List.mem_append.mp hr with hr | hr
    · exact h.ne r (by simp [hr])
    · rcases List.mem_cons.mp hr with rfl | hr
      · exact rn
      · rcases List.mem_cons.mp hr with rfl | hr
        · exact un
        · exact h.ne r (by simp [hr])
theorem Parts.start (hp : PanOk m p) : Parts p [List.range p.its.length] := by
  have h1 := hp.one
  refine ⟨List.pairwise_singleton _ _, by simp, fun q hq => ?_, fun q hq => ?_⟩
  · have : q = List.range p.its.length := by simpa using hq
    rw [this]; exact List.Sublist.refl _
  · have : q = List.range p.its.length := by simpa using hq
    rw [this]
    intro e
    have := congrArg List.length e
    rw [List.length_range] at this
    have : p.its.length = 0 := this
    omega
theorem Parts.best (hp : PanOk m p) {ps : List (List Nat)} (h : Parts p ps) (hf : ∀ q ∈ ps, Whole (eE p) (mR p) (wR p) q) {r : Nat → Rat} (hr : ∀ q ∈ ps, ∀ i ∈ q, r i = avg (selI p.its q)) : BestP p r :=
  h.ch.best (fun a b e => by obtain ⟨h1, h2⟩ := eE_lt hp e; exact ⟨List.mem_range.mpr h1, List.mem_range.mpr h2⟩) h.fl List.nodup_range (fun i hi => wR_pos hp (List.mem_range.mp hi)) h.ne hf fun q hq i hi => by rw [hr q hq i hi, avg_avS]
theorem upG_of (hp : PanOk m p) {U : Nat → Bool} (h : UpS (eE p) U) : (List.range p.its.length).filter U ∈ upG p := by
  refine List.mem_filter.mpr ⟨sub_grpS List.filter_sublist, (upB_iff hp).mpr fun a b e k => ?_⟩
  simp only [decide_eq_true_eq, List.mem_filter, List.mem_range] at k ⊢
  exact ⟨(eE_lt hp e).2, h a b e k.2⟩
theorem all_upG (hp : PanOk m p) : List.range p.its.length ∈ upG p := by
  have := upG_of hp (U := fun _ => true) fun _ _ _ _ => rfl
  rwa [List.filter_eq_self.mpr fun _ _ => rfl] at this
theorem parts_exist (hp : PanOk m p) : ∀ (k : Nat) (dn st : List (List Nat)), meas st ≤ k → Parts p (dn ++ st.reverse) → (∀ q ∈ dn, Whole (eE p) (mR p) (wR p) q) → ∃ ps, Parts p ps ∧ ∀ q ∈ ps, Whole (eE p) (mR p) (wR p) q := by
  intro k
  induction k with
  | zero =>
    intro dn st hm hP hW
    cases st with
    | nil => rw [List.reverse_nil, List.append_nil] at hP; exact ⟨dn, hP, hW⟩
    | cons q st =>
      have := List.length_pos_iff.mpr (hP.ne q (by simp))
      simp only [meas, List.map_cons, List.sum_cons] at hm
      omega
  | succ k ih =>
    intro dn st hm hP hW
    by_cases hs : st = []
    · subst hs; rw [List.reverse_nil, List.append_nil] at hP; exact ⟨dn, hP, hW⟩
    · obtain ⟨st', part, rfl⟩ : ∃ a b, st = a ++ [b] := ⟨st.dropLast, st.getLast hs, (List.dropLast_concat_getLast hs).symm⟩
      have er : dn ++ (st' ++ [part]).reverse = dn ++ part :: st'.reverse := by rw [List.reverse_append]; rfl
      rw [er] at hP
      have p1 := List.length_pos_iff.mpr (hP.ne part (by simp))
      rw [meas_append] at hm
      have hm : meas st' + (2 * part.length - 1 + 0) ≤ k + 1 := hm
      by_cases hall : ∀ g ∈ upG p, excI p.its part (g.filter (inB part)) ≤ 0
      · refine ih (dn ++ [part]) st' (by omega) (by rw [List.append_assoc]; exact hP) fun q hq => ?_
        rcases List.mem_append.mp hq with hq | hq
        · exact hW q hq
        · rw [List.mem_singleton.mp hq]; exact Parts.whole hp hP  hall
      · have hne : upG p ≠ [] := List.ne_nil_of_mem (all_upG hp)
        obtain ⟨g, hg, hmin⟩ := exists_min (fun g => ((-(excI p.its part (g.filter (inB part))) : Int) : Rat)) hne
        have hmax : ∀ g' ∈ upG p, excI p.its part (g'.filter (inB part)) ≤ excI p.its part (g.filter (inB part)) := fun g' hg' => by
          have := Rat.intCast_le_intCast.mp (hmin g' hg'); omega
        have h0 : 0 < excI p.its part (g.filter (inB part)) := by
          apply Int.not_le.mp
          intro z
          exact hall fun g' hg' => Int.le_trans (hmax g' hg') z
        obtain ⟨e1, hP2, un, rn⟩ := Parts.split hp hP  hg rfl h0 hmax
        generalize g.filter (inB part) = U at *
        have ulen : U.length + (part.filter fun i => !inB U i).length = part.length := by
          have := List.filter_append_perm (inB U) part
          rw [e1] at this
          have := this.length_eq
          rw [List.length_append] at this; exact this
        have u1 : 1 ≤ U.length := List.length_pos_iff.mpr un
        have r1 : 1 ≤ (part.filter fun i => !inB U i).length := List.length_pos_iff.mpr rn
        refine ih dn (st' ++ [U, part.filter fun i => !inB U i]) ?_ ?_ hW
        · rw [meas_append]
          show meas st' + (2 * U.length - 1 + (2 * (part.filter fun i => !inB U i).length - 1 + 0)) ≤ k
          omega
        · have e : dn ++ (st' ++ [U, part.filter fun i => !inB U i]).reverse = dn ++ (part.filter fun i => !inB U i) :: U :: st'.reverse := by rw [List.reverse_append]; rfl
          rw [e]; exact hP2
theorem best_exists (hp : PanOk m p) : ∃ r, BestP p r := by
  classical
  obtain ⟨ps, hP, hW⟩ := parts_exist hp _ [] [List.range p.its.length] (Nat.le_refl _) (Parts.start hp) (by simp)
  have uniq : ∀ q ∈ ps, ∀ q' ∈ ps, ∀ i, i ∈ q → i ∈ q' → q' = q := fun q hq q' hq' i iq iq' => by
    obtain ⟨a, b, rfl⟩ := List.append_of_mem hq
    have nd := hP.nd i iq
    rcases List.mem_append.mp hq' with h | h
    · exact absurd (List.mem_flatten.mpr ⟨q', h, iq'⟩) nd.2
    · rcases List.mem_cons.mp h with h | h
      · exact h
      · exact absurd (List.mem_flatten.mpr ⟨q', h, iq'⟩) nd.1
  have hr : ∀ q ∈ ps, ∀ i ∈ q, (if h : ∃ q ∈ ps, i ∈ q then avg (selI p.its h.choose) else 0) = avg (selI p.its q) := fun q hq i hi => by
    have h : ∃ q ∈ ps, i ∈ q := ⟨q, hq, hi⟩
    rw [dif_pos h, uniq q hq h.choose h.choose_spec.1 i hi h.choose_spec.2]
  exact ⟨_, Parts.best hp hP hW hr⟩
theorem exT_least (b : BestP p r) (hp : PanOk m p) : exT p t (atLeast p r t) = sm (fun i => wR p i * (r i - t)) (above p r t) := by
  rw [exT_split p r]
  unfold atLeast above
  rw [b.lv _ (rup_ge t), Rat.zero_add, sm_if, sm_if]
  refine sm_congr fun i _ => ?_
  simp only [decide_eq_true_eq]
  by_cases h : t < r i
  · rw [if_pos h, if_pos (Rat.le_of_lt h)]
  · by_cases h2 : t ≤ r i
    · rw [if_pos h2, if_neg h]
      have : r i = t := by grind
      rw [this]; grind
    · rw [if_neg h2, if_neg h]
theorem up_le (b : BestP p r) (hp : PanOk m p) {g : List Nat} (hg : g ∈ upG p) : exT p t g ≤ sm (fun i => if inB g i = true then wR p i * (r i - t) else 0) (List.range p.its.length) := by
  have g1 := List.mem_filter.mp hg
  have sub := grpS_sub g1.1
  have e := range_filter sub
  have up : UpS (eE p) (inB g) := (upB_iff hp).mp g1.2
  have := b.up _ up
  rw [e] at this
  rw [exT_split p r, ← sm_if, e]
  grind
theorem pw_le (hp : PanOk m p) (g : List Nat) : ∀ i ∈ List.range p.its.length, (if inB g i = true then wR p i * (r i - t) else 0) ≤ (if decide (t < r i) = true then wR p i * (r i - t) else 0) := fun i hi => by
  have w := Rat.le_of_lt (wR_pos' hp i hi)
  simp only [decide_eq_true_eq]
  by_cases a : inB g i = true <;> by_cases c : t < r i <;> simp only [a, c, if_true, if_false]
  · exact Rat.le_refl
  · have := mul_nonneg' w (show 0 ≤ t - r i by grind)
    simp; grind
  · have := mul_nonneg' w (show 0 ≤ r i - t by grind)
    simp; grind
  · exact Rat.le_refl
theorem above_up (b : BestP p r) (hp : PanOk m p) : above p r t ∈ upG p := upG_of hp (RUp.up b.ob (rup_gt t))
theorem least_up (b : BestP p r) (hp : PanOk m p) : atLeast p r t ∈ upG p := upG_of hp (RUp.up b.ob (rup_ge t))
theorem all_le (b : BestP p r) (hp : PanOk m p) {g : List Nat} (hg : g ∈ upG p) : exT p t g ≤ exT p t (above p r t) := by
  refine Rat.le_trans (up_le b hp hg) ?_
  rw [exT_above b]
  unfold above
  rw [sm_if]
  exact sm_le (pw_le hp g)
theorem least_mx (b : BestP p r) (hp : PanOk m p) : atLeast p r t ∈ mxG p t := by
  refine List.mem_filter.mpr ⟨least_up b hp, List.all_eq_true.mpr fun h hh => decide_eq_true ((sc_le _ _).mpr ?_)⟩
  rw [exT_least b hp, ← exT_above b]
  exact all_le b hp hh
theorem mx_mem (b : BestP p r) (hp : PanOk m p) {g : List Nat} (hg : g ∈ mxG p t) : ∀ i, i < p.its.length → (t < r i → i ∈ g) ∧ (r i < t → i ∉ g) := by
  have g1 := List.mem_filter.mp hg
  have le := (sc_le _ _).mp (of_decide_eq_true (List.all_eq_true.mp g1.2 _ (above_up (t := t) b hp)))
  have l2 := up_le (t := t) b hp g1.1
  rw [exT_above b] at le
  unfold above at le
  rw [sm_if] at le
  have z := sm_all0 (d := fun i => (if decide (t < r i) = true then wR p i * (r i - t) else 0) - (if inB g i = true then wR p i * (r i - t) else 0)) (l := List.range p.its.length) (fun i hi => by have := pw_le (r := r) (t := t) hp g i hi; grind) (by rw [sm_sub]; grind)
  intro i hi
  have zi := z i (List.mem_range.mpr hi)
  have w := wR_pos' hp i (List.mem_range.mpr hi)
  simp only [decide_eq_true_eq] at zi
  constructor
  · intro h
    rw [if_pos h] at zi
    by_cases a : inB g i = true
    · exact of_decide_eq_true a
    · rw [if_neg a] at zi
      have := Rat.mul_pos w (show 0 < r i - t by grind)
      grind
  · intro h hm
    have a : inB g i = true := decide_eq_true hm
    rw [if_neg (by grind), if_pos a] at zi
    have := Rat.mul_pos w (show 0 < t - r i by grind)
    grind
theorem mx_ne (hp : PanOk n p) : mxG p t ≠ [] := by
  have hne : upG p ≠ [] := List.ne_nil_of_mem (all_upG hp)
  obtain ⟨g, hg, hmin⟩ := exists_min (fun g => ((-(scT p t g) : Int) : Rat)) hne
  refine List.ne_nil_of_mem (List.mem_filter.mpr ⟨hg, ?_⟩ : g ∈ mxG p t)
  rw [List.all_eq_true]
  intro h hh
  have := Rat.intCast_le_intCast.mp (hmin h hh)
  rw [decide_eq_true_eq]; omega
theorem gsB_tt {m : Nat} {p : Pan} (hp : PanOk m p) {wt it : Nat} (hw : wt < p.its.length) (hi : it < p.its.length) (v : Rat) : ∃ x, gsB p wt it v (true, true) = some x := by
  rcases mxB_is p wt it v (true, true) (upG p) with ⟨_, h2⟩ | ⟨y, h1, _⟩
  · exact absurd (by unfold kdB inB; simp [hw, hi]) (h2 _ (all_upG hp))
  · exact ⟨y, h1⟩
variable {q : Pan} {X c : Rat} {k : Nat}
theorem rsS_all (hp : PanOk m p) {g : List Nat} (hg : g.Sublist (List.range p.its.length)) : rsS p it v g = ((List.range p.its.length).map fun j => if (inB g j && decide (j ≠ it)) = true then (p.its.getD j (0, 1)).2 * ((p.its.getD j (0, 1)).1 * (v.den : Int) - v.num) else 0).sum := by
  have e : g.filter (fun j => decide (j ≠ it)) = (List.range p.its.length).filter fun j => inB g j && decide (j ≠ it) := by
    have h := range_filter hg
    conv => lhs; rw [← h]
    rw [List.filter_filter]
    refine List.filter_congr fun j _ => ?_
    cases inB g j <;> simp
  unfold rsS scS selI
  rw [e, List.map_map, ← filt_sum]
  rfl
theorem up_lat (hp : PanOk m p) {g h : List Nat} (hg : g ∈ upG p) (hh : h ∈ upG p) : ∃ a ∈ upG p, ∃ b ∈ upG p, (∀ j, j < p.its.length → inB a j = (inB g j || inB h j)) ∧ (∀ j, j < p.its.length → inB b j = (inB g j && inB h j)) ∧ rsS p it v a + rsS p it v b = rsS p it v g + rsS p it v h := by
  have sub : ∀ {g : List Nat}, g ∈ upG p → g.Sublist (List.range p.its.length) := fun hg => grpS_sub (List.mem_filter.mp hg).1
  have ug := (upB_iff hp).mp (List.mem_filter.mp hg).2
  have uh := (upB_iff hp).mp (List.mem_filter.mp hh).2
  have ha := upG_of hp (U := fun j => inB g j || inB h j) (fun x y e hx => by
    have hx : (inB g x || inB h x) = true := hx
    rw [Bool.or_eq_true] at hx
    show (inB g y || inB h y) = true
    rw [Bool.or_eq_true]
    rcases hx with hx | hx
    · exact .inl (ug x y e hx)
    · exact .inr (uh x y e hx))
  have hb := upG_of hp (U := fun j => inB g j && inB h j) (fun x y e hx => by
    have hx : (inB g x && inB h x) = true := hx
    rw [Bool.and_eq_true] at hx
    show (inB g y && inB h y) = true
    rw [Bool.and_eq_true]
    exact ⟨ug x y e hx.1, uh x y e hx.2⟩)
  have ia : ∀ (U : Nat → Bool) (j : Nat), j < p.its.length → inB ((List.range p.its.length).filter U) j = U j := fun U j hj => by
    unfold inB
    cases hU : U j with
    | true => exact decide_eq_true (List.mem_filter.mpr ⟨List.mem_range.mpr hj, hU⟩)
    | false => exact decide_eq_false fun z => by have := (List.mem_filter.mp z).2; rw [hU] at this; cases this
  refine ⟨_, ha, _, hb, fun j hj => ia _ j hj, fun j hj => ia _ j hj, ?_⟩
  rw [rsS_all hp (sub ha), rsS_all hp (sub hb), rsS_all hp (sub hg), rsS_all hp (sub hh)]
  have k := sum_mod (fun j => (p.its.getD j (0, 1)).2 * ((p.its.getD j (0, 1)).1 * (v.den : Int) - v.num)) (fun j => inB g j && decide (j ≠ it)) (fun j => inB h j && decide (j ≠ it)) (List.range p.its.length)
  rw [← k]
  congr 1
  · congr 1
    refine List.map_congr_left fun j hj => ?_
    rw [ia _ j (List.mem_range.mp hj)]
    cases inB g j <;> cases inB h j <;> simp
  · congr 1
    refine List.map_congr_left fun j hj => ?_
    rw [ia _ j (List.mem_range.mp hj)]
    cases inB g j <;> cases inB h j <;> simp
theorem gsB_lat (hp : PanOk m p) (hi : it < p.its.length) (hw : wt < p.its.length) {a b c d : Int} (ha : gsB p wt it v (true, false) = some a) (hb : gsB p wt it v (true, true) = some b) (hc : gsB p wt it v (false, false) = some c) (hd : gsB p wt it v (false, true) = some d) : a + d ≤ b + c := by
  obtain ⟨g, hg, kg, rg⟩ := gsB_at ha
  obtain ⟨h, hh, kh, rh⟩ := gsB_at hd
  obtain ⟨u, hu, n, hn, iu, i_n, e⟩ := up_lat (it := it) (v := v) hp hg hh
  have g1 : inB g wt = true := congrArg Prod.fst kg
  have g2 : inB g it = false := congrArg Prod.snd kg
  have h1 : inB h wt = false := congrArg Prod.fst kh
  have h2 : inB h it = true := congrArg Prod.snd kh
  have l1 := gsB_le hb hu (by unfold kdB; rw [iu wt hw, iu it hi, g1, g2, h1, h2]; rfl)
  have l2 := gsB_le hc hn (by unfold kdB; rw [i_n wt hw, i_n it hi, g1, g2, h1, h2]; rfl)
  omega
theorem Rmk.ge (h : Rmk p q it v t X c) (hq : PanOk k q) (b : BestP q r) (hw : wt < p.its.length) : t ≤ r wt ↔ ∃ g ∈ mxG q t, wt ∈ g := by
  constructor
  · intro l
    refine ⟨_, least_mx b hq, ?_⟩
    unfold atLeast
    exact List.mem_filter.mpr ⟨List.mem_range.mpr (by rw [h.len]; exact hw), decide_eq_true l⟩
  · rintro ⟨g, hg, hm⟩
    refine Classical.byContradiction fun n => ?_
    exact (mx_mem b hq hg wt (by rw [h.len]; exact hw)).2 (Rat.not_le.mp n) hm
theorem Rmk.always (h : Rmk p q it v t X c) (hp : PanOk m p) (hq : PanOk k q) (b : BestP q r) (hw : wt < p.its.length) (hi : it < p.its.length) {x z : Int} (hx : gsB p wt it v (false, false) = some x) (hz : gsB p wt it v (true, false) = some z) (l : x ≤ z) : t ≤ r wt := by
  refine Classical.byContradiction fun n => ?_
  have no := mt (Rmk.ge h hq  b hw).mpr n
  obtain ⟨g0, e0⟩ := List.exists_mem_of_ne_nil _ (mx_ne hq (t := t))
  have out : ∀ g ∈ mxG q t, inB g wt = false := fun g hg => decide_eq_false fun z => no ⟨g, hg, z⟩
  obtain ⟨g1, g2⟩ := h.mx.mp e0
  have w0 := out _ e0
  obtain ⟨a, ha, ka, ra⟩ := gsB_at hz
  have a1 : inB a wt = true := congrArg Prod.fst ka
  have a2 : inB a it = false := congrArg Prod.snd ka
  obtain ⟨y, hy⟩ := gsB_tt hp hw hi v
  obtain ⟨f, hf, kf, rf⟩ := gsB_at hy
  have f1 : inB f wt = true := congrArg Prod.fst kf
  have f2 : inB f it = true := congrArg Prod.snd kf
  -- one with wt is no worse
  have better : ∃ u ∈ upG p, inB u wt = true ∧ ((rsS p it v g0 : Int) : Rat) + (if inB g0 it = true then X else 0) ≤ ((rsS p it v u : Int) : Rat) + if inB u it = true then X else 0 := by
    cases i0 : inB g0 it with
    | false =>
      refine ⟨a, ha, a1, ?_⟩
      have := gsB_le hx g1 (by unfold kdB; rw [w0, i0])
      have := Rat.intCast_le_intCast.mpr (show rsS p it v g0 ≤ rsS p it v a by omega)
      rw [a2]; grind
    | true =>
      refine ⟨f, hf, f1, ?_⟩
      obtain ⟨d, hd, ld⟩ := gsB_ex (wt := wt) (it := it) (v := v) g1
      have kd : kdB wt it g0 = (false, true) := by unfold kdB; rw [w0, i0]
      rw [kd] at hd
      have := gsB_lat hp hi hw hz hy hx hd
      have := Rat.intCast_le_intCast.mpr (show rsS p it v g0 ≤ rsS p it v f by omega)
      rw [f2]; simp only [if_true]; grind
  obtain ⟨u, hu, u1, lu⟩ := better
  have := out u (h.mx.mpr ⟨hu, fun z hz => Rat.le_trans (g2 z hz) lu⟩)
  rw [u1] at this; cases this
theorem Rmk.never (h : Rmk p q it v t X c) (hq : PanOk k q) (b : BestP q r) (hw : wt < p.its.length) {x y z : Int} (hx : gsB p wt it v (false, false) = some x) (hy : gsB p wt it v (true, true) = some y) (na : ∀ a, gsB p wt it v (true, false) = some a → a < x) (hz : gsB p wt it v (false, true) = some z) (l : y < z) : r wt < t := by
  refine Rat.not_le.mp fun n => ?_
  obtain ⟨g, hg, hm⟩ := (Rmk.ge h hq  b hw).mp n
  obtain ⟨g1, g2⟩ := h.mx.mp hg
  have w1 : inB g wt = true := decide_eq_true hm
  cases i1 : inB g it with
  | false =>
    obtain ⟨a, ha, la⟩ := gsB_ex (wt := wt) (it := it) (v := v) g1
    rw [show kdB wt it g = (true, false) by unfold kdB; rw [w1, i1]] at ha
    obtain ⟨u, hu, ku, ru⟩ := gsB_at hx
    have k2 : inB u it = false := congrArg Prod.snd ku
    have := g2 u hu
    rw [i1, k2] at this
    have := na a ha
    have := Rat.intCast_lt_intCast.mpr (show rsS p it v g < rsS p it v u by omega)
    grind
  | true =>
    have lg := gsB_le hy g1 (by unfold kdB; rw [w1, i1])
    obtain ⟨u, hu, ku, ru⟩ := gsB_at hz
    have k2 : inB u it = true := congrArg Prod.snd ku
    have := g2 u hu
    rw [i1, k2] at this
    have := Rat.intCast_lt_intCast.mpr (show rsS p it v g < rsS p it v u by omega)
    grind
theorem Rmk.from_ge (h : Rmk p q it v t X c) (hq : PanOk k q) (b : BestP q r) (hw : wt < p.its.length) {x y : Int} (hx : gsB p wt it v (false, false) = some x) (hy : gsB p wt it v (true, true) = some y) (na : ∀ a, gsB p wt it v (true, false) = some a → a < x) (nd : ∀ d, gsB p wt it v (false, true) = some d → d ≤ y) : t ≤ r wt ↔ ((x : Int) : Rat) - (y : Rat) ≤ X := by
  obtain ⟨f, hf, kf, rf⟩ := gsB_at hy
  have f1 : inB f wt = true := congrArg Prod.fst kf
  have f2 : inB f it = true := congrArg Prod.snd kf
  obtain ⟨u, hu, ku, ru⟩ := gsB_at hx
  have u2 : inB u it = false := congrArg Prod.snd ku
  rw [Rmk.ge h hq  b hw]
  constructor
  · rintro ⟨g, hg, hm⟩
    obtain ⟨g1, g2⟩ := h.mx.mp hg
    have w1 : inB g wt = true := decide_eq_true hm
    have l := g2 u hu
    rw [u2, ru] at l
    cases i1 : inB g it with
    | false =>
      obtain ⟨a, ha, la⟩ := gsB_ex (wt := wt) (it := it) (v := v) g1
      rw [show kdB wt it g = (true, false) by unfold kdB; rw [w1, i1]] at ha
      have := na a ha
      have := Rat.intCast_lt_intCast.mpr (show rsS p it v g < x by omega)
      rw [i1] at l
      grind
    | true =>
      have lg := Rat.intCast_le_intCast.mpr (gsB_le hy g1 (by unfold kdB; rw [w1, i1]))
      rw [i1] at l
      grind
  · intro l
    refine ⟨f, h.mx.mpr ⟨hf, fun g hg => ?_⟩, of_decide_eq_true f1⟩
    rw [f2, rf]
    obtain ⟨z, hz, lz⟩ := gsB_ex (wt := wt) (it := it) (v := v) hg
    have lz := Rat.intCast_le_intCast.mpr lz
    cases w1 : inB g wt <;> cases i1 : inB g it <;> (rw [show kdB wt it g = (inB g wt, inB g it) from rfl, w1, i1] at hz)
    · rw [hx] at hz; cases hz; grind
    · have := Rat.intCast_le_intCast.mpr (nd _ hz); grind
    · have := Rat.intCast_lt_intCast.mpr (na _ hz); grind
    · rw [hy] at hz; cases hz; grind
end
end Any
end Pm
set_option Elab.async false
set_option linter.all false
set_option maxRecDepth 100000
set_option maxHeartbeats 1000000
set_option autoImplicit false
namespace Pm
open PySem PySem.Spec
open L2
def rxP (p : Pan) (it : Nat) (n k : Int) : Pan := ⟨(p.its.map fun q => (q.1 * k, q.2)).set it (n, (p.its.getD it (0, 1)).2), p.rus⟩
section
variable {m : Nat} {p : Pan} {it : Nat} {v : Rat} {k N : Int}
theorem rx_len : (rxP p it N k).its.length = p.its.length := by show ((p.its.map _).set _ _).length = _; rw [List.length_set, List.length_map]
theorem rx_get (hi : it < p.its.length) (i : Nat) (hl : i < p.its.length) : (rxP p it N k).its.getD i (0, 1) = if i = it then (N, (p.its.getD it (0, 1)).2) else ((p.its.getD i (0, 1)).1 * k, (p.its.getD i (0, 1)).2) := by
  have g : ∀ j, j < p.its.length → (p.its.map fun q => (q.1 * k, q.2)).getD j (0, 1) = ((p.its.getD j (0, 1)).1 * k, (p.its.getD j (0, 1)).2) := fun j hj => by
    rw [List.getD_eq_getElem?_getD, List.getElem?_map, List.getD_eq_getElem?_getD, List.getElem?_eq_getElem hj]; rfl
  show ((p.its.map fun q => (q.1 * k, q.2)).set it (N, (p.its.getD it (0, 1)).2)).getD i (0, 1) = _
  by_cases e : i = it
  · subst e
    rw [if_pos rfl, List.getD_eq_getElem?_getD, List.getElem?_set_self (by rw [List.length_map]; exact hi)]; rfl
  · rw [if_neg e, List.getD_eq_getElem?_getD, List.getElem?_set_ne fun z => e z.symm, ← List.getD_eq_getElem?_getD]
    exact g i hl
theorem rmk_rx (hp : PanOk m p) (hi : it < p.its.length) (k0 : 0 < k) {f : Rat} (hf : f * (k : Rat) = (N : Rat)) : Rmk p (rxP p it N k) it v (v * (k : Rat)) (((p.its.getD it (0, 1)).2 : Rat) * (f * ((v.den : Int) : Rat) - (v.num : Rat))) ((k : Rat) / ((v.den : Int) : Rat)) := by
  have d0 : (0 : Rat) < ((v.den : Int) : Rat) := Rat.intCast_pos.mpr (by have := v.den_pos; omega)
  have k0' : (0 : Rat) < (k : Rat) := Rat.intCast_pos.mpr k0
  have ls : (rxP p it N k).its.length = p.its.length := by show ((p.its.map _).set _ _).length = _; rw [List.length_set, List.length_map]
  obtain ⟨e, he⟩ : ∃ e : Rat, e = ((v.den : Int) : Rat)⁻¹ := ⟨_, rfl⟩
  have ed : e * ((v.den : Int) : Rat) = 1 := by rw [he]; exact Rat.inv_mul_cancel _ (Rat.ne_of_gt d0)
  have ce : (k : Rat) / ((v.den : Int) : Rat) = k * e := by rw [he, Rat.div_def]
  have e0 : 0 < e := by
    refine Classical.byContradiction fun n => ?_
    have := Rat.mul_le_mul_of_nonneg_right (Rat.not_lt.mp n) (Rat.le_of_lt d0)
    grind
  have nv : (v.num : Rat) = v * ((v.den : Int) : Rat) := num_den v
  refine ⟨?_, ls, by rw [ce]; exact Rat.mul_pos k0' e0, fun g hg => ?_⟩
  · unfold upG; rw [ls]; rfl
  rw [ce]
  have hs := grpS_sub (List.mem_filter.mp hg).1
  have nd : g.Nodup := hs.nodup List.nodup_range
  have hr : ∀ i ∈ g, i < p.its.length := fun i h => List.mem_range.mp (hs.subset h)
  clear hs hg
  unfold exT
  induction g with
  | nil =>
    have e1 : rsS p it v [] = 0 := rfl
    rw [e1]
    show (0 : Rat) = _ * (((0 : Int) : Rat) + if false = true then _ else 0)
    rw [if_neg (by decide)]
    have z : ((0 : Int) : Rat) = 0 := rfl
    rw [z]; grind
  | cons i g ih =>
    have ih := ih (List.nodup_cons.mp nd).2 fun j hj => hr j (by simp [hj])
    have hl := hr i (by simp)
    have s1 : sm (fun i => wR (rxP p it N k) i * (mR (rxP p it N k) i - v * (k : Rat))) (i :: g) = wR (rxP p it N k) i * (mR (rxP p it N k) i - v * (k : Rat)) + sm (fun i => wR (rxP p it N k) i * (mR (rxP p it N k) i - v * (k : Rat))) g := rfl
    rw [s1, ih]
    have hw : wR (rxP p it N k) i = ((p.its.getD i (0, 1)).2 : Rat) := by
      unfold wR; rw [rx_get hi i hl]
      by_cases c : i = it
      · rw [if_pos c, c]
      · rw [if_neg c]
    by_cases c : i = it
    · have hm : mR (rxP p it N k) i = (N : Rat) := by unfold mR; rw [rx_get hi i hl, if_pos c]
      have ni : inB g it = false := decide_eq_false (by rw [← c]; exact (List.nodup_cons.mp nd).1)
      have yi : inB (i :: g) it = true := decide_eq_true (by rw [c]; simp)
      have rs : rsS p it v (i :: g) = rsS p it v g := by
        unfold rsS; rw [List.filter_cons, if_neg (by simp [c])]
      rw [hm, hw, ni, yi, rs, c]
      simp only [if_true]
      show _ + _ * (_ + if false = true then _ else 0) = _
      rw [if_neg (by decide)]
      generalize ((p.its.getD it (0, 1)).2 : Rat) = w
      generalize ((rsS p it v g : Int) : Rat) = s
      have h1 : (k : Rat) * e * (w * (f * ((v.den : Int) : Rat) - (v.num : Rat))) = w * (N - v * (k : Rat)) := by
        rw [nv, ← hf]
        have : (k : Rat) * e * (w * (f * ((v.den : Int) : Rat) - v * ((v.den : Int) : Rat))) = w * (f * k - v * k) * (e * ((v.den : Int) : Rat)) := by grind
        rw [this, ed]; grind
      grind
    · have hm : mR (rxP p it N k) i = ((p.its.getD i (0, 1)).1 : Rat) * k := by unfold mR; rw [rx_get hi i hl, if_neg c, Rat.intCast_mul]
      have yi : inB (i :: g) it = inB g it := by
        unfold inB
        have : (it ∈ i :: g) ↔ it ∈ g := ⟨fun h => (List.mem_cons.mp h).resolve_left fun z => c z.symm, List.mem_cons_of_mem _⟩
        simp [this]
      have rs : rsS p it v (i :: g) = (p.its.getD i (0, 1)).2 * ((p.its.getD i (0, 1)).1 * (v.den : Int) - v.num) + rsS p it v g := by
        unfold rsS; rw [List.filter_cons, if_pos (by simp [c])]
        unfold scS selI; simp
      rw [hm, hw, yi, rs, Rat.intCast_add, Rat.intCast_mul, Rat.intCast_sub, Rat.intCast_mul]
      generalize ((p.its.getD i (0, 1)).2 : Rat) = w
      generalize ((p.its.getD i (0, 1)).1 : Rat) = a
      generalize ((rsS p it v g : Int) : Rat) = s
      generalize (if inB g it = true then ((p.its.getD it (0, 1)).2 : Rat) * (f * ((v.den : Int) : Rat) - (v.num : Rat)) else 0) = z
      have h1 : (k : Rat) * e * (w * (a * ((v.den : Int) : Rat) - (v.num : Rat))) = w * (a * k - v * (k : Rat)) := by
        rw [nv]
        have : (k : Rat) * e * (w * (a * ((v.den : Int) : Rat) - v * ((v.den : Int) : Rat))) = w * (a * k - v * k) * (e * ((v.den : Int) : Rat)) := by grind
        rw [this, ed]; grind
      grind
theorem rx_ok (hp : PanOk m p) (hi : it < p.its.length) : Any.PanOk m (rxP p it N k) := by
  have qi := hp.it (p.its.getD it (0, 1)) (by rw [List.getD_eq_getElem?_getD, List.getElem?_eq_getElem hi]; exact List.getElem_mem hi)
  refine ⟨by rw [rx_len]; exact hp.one, by rw [rx_len]; exact hp.top, fun q hq => ?_, hp.few, fun q hq => by rw [rx_len]; exact hp.ru q hq⟩
  rcases List.mem_or_eq_of_mem_set hq with z | z
  · obtain ⟨x, hx, rfl⟩ := List.mem_map.mp z
    exact ⟨trivial, trivial, (hp.it x hx).2.2.1, trivial⟩
  · rw [z]; exact ⟨trivial, trivial, qi.2.2.1, trivial⟩
end
theorem Best.scale {E : Nat → Nat → Prop} {l : List Nat} {m w r : Nat → Rat} (b : Best l E m w r) {c : Rat} (c0 : 0 < c) : Best l E (fun i => m i * c) w fun i => r i * c := by
  have e : ∀ k, sm (fw (fun i => m i * c) w fun i => r i * c) k = c * sm (fw m w r) k := fun k => by
    rw [← sm_mul]
    exact sm_congr fun i _ => by unfold fw; grind
  refine ⟨fun a d h => Rat.mul_le_mul_of_nonneg_right (b.ob a d h) (Rat.le_of_lt c0), fun U hU => ?_, fun U hU => ?_⟩
  · rw [e]
    have := Rat.mul_le_mul_of_nonneg_left (b.up U hU) (Rat.le_of_lt c0)
    rwa [Rat.mul_zero] at this
  · rw [e, b.lv U fun i j h k => hU i j (Rat.mul_le_mul_of_nonneg_right h (Rat.le_of_lt c0)) k, Rat.mul_zero]
theorem Best.weigh {E : Nat → Nat → Prop} {l : List Nat} {m w r : Nat → Rat} (b : Best l E m w r) {c : Rat} (c0 : 0 < c) : Best l E m (fun i => w i * c) r := by
  have e : ∀ k, sm (fw m (fun i => w i * c) r) k = c * sm (fw m w r) k := fun k => by
    rw [← sm_mul]
    exact sm_congr fun i _ => by unfold fw; grind
  refine ⟨b.ob, fun U hU => ?_, fun U hU => ?_⟩
  · rw [e]
    have := Rat.mul_le_mul_of_nonneg_left (b.up U hU) (Rat.le_of_lt c0)
    rwa [Rat.mul_zero] at this
  · rw [e, b.lv U hU, Rat.mul_zero]
def mkF (p : Pan) (it : Nat) (f : Rat) (j : Nat) : Rat := if j = it then f else mR p j
def BestF (p : Pan) (it : Nat) (f : Rat) (r : Nat → Rat) : Prop := Best (List.range p.its.length) (eE p) (mkF p it f) (wR p) r
theorem bestF_own {p : Pan} {it : Nat} {r : Nat → Rat} (b : BestP p r) : BestF p it (mR p it) r := by
  refine Best.congr b (fun i _ => ?_) fun _ _ => rfl
  unfold mkF
  split
  · rename_i e; rw [e]
  · rfl
theorem bestF_rx {p : Pan} {it : Nat} (hi : it < p.its.length) {f : Rat} {s : Nat → Rat} (b : BestP (rxP p it f.num f.den) s) : BestF p it f fun i => s i * (((f.den : Int) : Rat))⁻¹ := by
  have d0 : (0 : Rat) < ((f.den : Int) : Rat) := Rat.intCast_pos.mpr (by have := f.den_pos; omega)
  have ii := Rat.mul_inv_cancel _ (Rat.ne_of_gt d0)
  have i0 : (0 : Rat) < (((f.den : Int) : Rat))⁻¹ := by
    rcases (show (0 : Rat) < (((f.den : Int) : Rat))⁻¹ ∨ (((f.den : Int) : Rat))⁻¹ ≤ 0 by grind) with z | z
    · exact z
    · have := Rat.mul_le_mul_of_nonneg_left z (Rat.le_of_lt d0); rw [ii] at this; grind
  have nf : (f.num : Rat) = f * ((f.den : Int) : Rat) := num_den f
  have hm : ∀ j, j < p.its.length → mR (rxP p it f.num f.den) j = mkF p it f j * ((f.den : Int) : Rat) := fun j hj => by
    unfold mR
    rw [rx_get hi j hj]
    unfold mkF
    by_cases c : j = it
    · rw [if_pos c, if_pos c]; exact nf
    · rw [if_neg c, if_neg c, Rat.intCast_mul]; rfl
  have hw : ∀ j, j < p.its.length → wR (rxP p it f.num f.den) j = wR p j := fun j hj => by
    unfold wR
    rw [rx_get hi j hj]
    by_cases c : j = it
    · rw [if_pos c, c]
    · rw [if_neg c]
  have ll : (rxP p it f.num f.den).its.length = p.its.length := rx_len
  have b : Best (List.range p.its.length) (eE p) (mR (rxP p it f.num f.den)) (wR (rxP p it f.num f.den)) s := by
    have b' := b
    unfold BestP at b'
    rw [ll] at b'; exact b'
  refine Best.congr (b.scale i0) (fun i hm' => ?_) fun i hm' => hw i (List.mem_range.mp hm')
  rw [hm i (List.mem_range.mp hm'), Rat.mul_assoc, ii, Rat.mul_one]
section
variable {m : Nat} {p : Pan} {it wt : Nat} {v : Rat}
theorem bestF_ex (hp : PanOk m p) (hi : it < p.its.length) (f : Rat) : ∃ r, BestF p it f r := by
  obtain ⟨s, hs⟩ := Any.best_exists (rx_ok (N := f.num) (k := f.den) hp hi)
  exact ⟨_, bestF_rx hi hs⟩
def Rch (p : Pan) (it wt : Nat) (v f : Rat) : Prop := ∃ r, BestF p it f r ∧ v ≤ r wt
theorem rch_iff (hp : PanOk m p) (hw : wt < p.its.length) {f : Rat} {r : Nat → Rat} (b : BestF p it f r) : Rch p it wt v f ↔ v ≤ r wt := by
  constructor
  · rintro ⟨s, hs, l⟩
    rw [Best.unique b hs (fun i h => wR_pos hp (List.mem_range.mp h)) wt (List.mem_range.mpr hw)]; exact l
  · exact fun l => ⟨r, b, l⟩
theorem mr_desc (hp : PanOk m p) (hi : it < p.its.length) (hw : wt < p.its.length) (v : Rat) :
    (mrD p it wt v = .tup [.str "always"] ∧ ∀ f, Rch p it wt v f) ∨ (mrD p it wt v = .tup [.str "never"] ∧ ∀ f, ¬ Rch p it wt v f) ∨ ∃ M : Rat, mrD p it wt v = .tup [.str "from", frD M] ∧ ∀ f, Rch p it wt v f ↔ M ≤ f := by
  have hpb := Any.PanOk.of hp
  obtain ⟨x, hx⟩ := gsB_ff hp wt it v
  obtain ⟨y, hy⟩ := gsB_tt hp hw hi v
  have rk : ∀ f : Rat, Rmk p (rxP p it f.num f.den) it v (v * ((f.den : Int) : Rat)) (((p.its.getD it (0, 1)).2 : Rat) * (f * ((v.den : Int) : Rat) - (v.num : Rat))) (((f.den : Int) : Rat) / ((v.den : Int) : Rat)) := fun f => rmk_rx hp hi (by have := f.den_pos; omega) (num_den f).symm
  have lk : ∀ (f : Rat) (s : Nat → Rat), BestP (rxP p it f.num f.den) s → (Rch p it wt v f ↔ v * ((f.den : Int) : Rat) ≤ s wt) := fun f s hs => by
    have d0 : (0 : Rat) < ((f.den : Int) : Rat) := Rat.intCast_pos.mpr (by have := f.den_pos; omega)
    have ii := Rat.mul_inv_cancel _ (Rat.ne_of_gt d0)
    rw [rch_iff hp hw (bestF_rx hi hs)]
    generalize ((f.den : Int) : Rat) = d at *
    constructor
    · intro h
      have := Rat.mul_le_mul_of_nonneg_right h (Rat.le_of_lt d0)
      rw [Rat.mul_assoc, Rat.mul_comm d⁻¹ d, ii, Rat.mul_one] at this
      exact this
    · intro h
      rcases (show v ≤ s wt * d⁻¹ ∨ s wt * d⁻¹ < v by grind) with z | z
      · exact z
      · have := Rat.mul_lt_mul_of_pos_right z d0
        rw [Rat.mul_assoc, Rat.mul_comm d⁻¹ d, ii, Rat.mul_one] at this
        grind
  by_cases al : ∃ z, gsB p wt it v (true, false) = some z ∧ x ≤ z
  · refine .inl ⟨by unfold mrD; rw [if_pos (by rw [hx]; exact al)], fun f => ?_⟩
    obtain ⟨s, hs⟩ := Any.best_exists (rx_ok (N := f.num) (k := f.den) hp hi)
    obtain ⟨z', hz', lz⟩ := al
    exact (lk f s hs).mpr (Any.Rmk.always (rk f) hpb (rx_ok hp hi) hs hw hi hx hz' lz)
  by_cases ne : ∃ z, gsB p wt it v (false, true) = some z ∧ y < z
  · refine .inr (.inl ⟨by unfold mrD; rw [if_neg (by rw [hx]; exact al), if_pos (by rw [hy]; exact ne)], fun f h => ?_⟩)
    obtain ⟨s, hs⟩ := Any.best_exists (rx_ok (N := f.num) (k := f.den) hp hi)
    obtain ⟨z', hz', lz⟩ := ne
    have lt := Any.Rmk.never (rk f) (rx_ok hp hi) hs hw hx hy (fun a ha => Int.not_le.mp fun l => al ⟨a, ha, l⟩) hz' lz
    exact Rat.not_le.mpr lt ((lk f s hs).mp h)
  have na : ∀ a, gsB p wt it v (true, false) = some a → a < x := fun a ha => Int.not_le.mp fun l => al ⟨a, ha, l⟩
  have nd : ∀ d, gsB p wt it v (false, true) = some d → d ≤ y := fun d hd => Int.not_lt.mp fun l => ne ⟨d, hd, l⟩
  have ws := hp.it (p.its.getD it (0, 1)) (by rw [List.getD_eq_getElem?_getD, List.getElem?_eq_getElem hi]; exact List.getElem_mem hi)
  refine .inr (.inr ⟨v + Rat.divInt (x - y) ((v.den : Int) * (p.its.getD it (0, 1)).2), ?_, fun f => ?_⟩)
  · unfold mrD; rw [if_neg (by rw [hx]; exact al), if_neg (by rw [hy]; exact ne), hx, hy]; rfl
  obtain ⟨s, hs⟩ := Any.best_exists (rx_ok (N := f.num) (k := f.den) hp hi)
  rw [lk f s hs, Any.Rmk.from_ge (rk f) (rx_ok hp hi) hs hw hx hy na nd]
  generalize p.its.getD it (0, 1) = q at *
  have w0 : 1 ≤ q.2 := ws.2.2.1
  have dv : (0 : Int) < (v.den : Int) := by have := v.den_pos; omega
  have d0 : (0 : Int) < (v.den : Int) * q.2 := Int.mul_pos dv (by omega)
  have dR : (0 : Rat) < ((v.den : Int) : Rat) := Rat.intCast_pos.mpr dv
  have wR0 : (0 : Rat) < (q.2 : Rat) := Rat.intCast_pos.mpr (by omega)
  have nv : (v.num : Rat) = v * ((v.den : Int) : Rat) := num_den v
  have dq := divInt_mul (M := x - y) (W := (v.den : Int) * q.2) d0
  rw [Rat.intCast_mul, Rat.intCast_sub] at dq
  rw [nv]
  generalize Rat.divInt (x - y) ((v.den : Int) * q.2) = U at *
  generalize (q.2 : Rat) = w at *
  generalize ((v.den : Int) : Rat) = d at *
  have wd := Rat.mul_pos dR wR0
  rw [← dq]
  have e : w * (f * d - v * d) = (f - v) * (d * w) := by grind
  rw [e]
  constructor
  · intro h
    rcases (show U ≤ f - v ∨ f - v < U by grind) with z | z
    · grind
    · have := Rat.mul_lt_mul_of_pos_right z wd; grind
  · intro h
    exact Rat.mul_le_mul_of_nonneg_right (show U ≤ f - v by grind) (Rat.le_of_lt wd)
theorem from_eqM {M N : Rat} (h : ∀ f : Rat, M ≤ f ↔ N ≤ f) : M = N := Rat.le_antisymm ((h N).mpr Rat.le_refl) ((h M).mp Rat.le_refl)
theorem mr_led {m' : Nat} {p' : Pan} {it' wt' : Nat} {v' k a : Rat} (hp : PanOk m p) (hi : it < p.its.length) (hw : wt < p.its.length) (hp' : PanOk m' p') (hi' : it' < p'.its.length) (hw' : wt' < p'.its.length) (k0 : 0 < k)
    (h : ∀ f, Rch p' it' wt' v' (f * k + a) ↔ Rch p it wt v f) :
    (mrD p it wt v = .tup [.str "always"] ∧ mrD p' it' wt' v' = .tup [.str "always"]) ∨ (mrD p it wt v = .tup [.str "never"] ∧ mrD p' it' wt' v' = .tup [.str "never"]) ∨ ∃ M : Rat, mrD p it wt v = .tup [.str "from", frD M] ∧ mrD p' it' wt' v' = .tup [.str "from", frD (M * k + a)] := by
  have ik := Rat.mul_inv_cancel _ (Rat.ne_of_gt k0)
  have back : ∀ g : Rat, (g - a) * k⁻¹ * k + a = g := fun g => by
    rw [Rat.mul_assoc, Rat.mul_comm k⁻¹ k, ik]; grind
  have le : ∀ x y : Rat, x ≤ y ↔ x * k + a ≤ y * k + a := fun x y => by
    constructor
    · intro h
      have := Rat.mul_le_mul_of_nonneg_right h (Rat.le_of_lt k0); grind
    · intro h
      rcases (show x ≤ y ∨ y < x by grind) with z | z
      · exact z
      · have := Rat.mul_lt_mul_of_pos_right z k0; grind
  rcases mr_desc hp hi hw v with ⟨e, q⟩ | ⟨e, q⟩ | ⟨M, e, q⟩ <;> rcases mr_desc hp' hi' hw' v' with ⟨e', q'⟩ | ⟨e', q'⟩ | ⟨M', e', q'⟩
  · exact .inl ⟨e, e'⟩
  · exact absurd ((h 0).mpr (q 0)) (q' _)
  · have := (q' _).mp ((h ((M' - 1 - a) * k⁻¹)).mpr (q _))
    rw [back] at this; grind
  · exact absurd ((h 0).mp (q' _)) (q 0)
  · exact .inr (.inl ⟨e, e'⟩)
  · refine absurd ((h ((M' - a) * k⁻¹)).mp ((q' _).mpr ?_)) (q _)
    rw [back]; exact Rat.le_refl
  · have := (q _).mp ((h (M - 1)).mp (q' _)); grind
  · exact absurd ((h M).mpr ((q M).mpr Rat.le_refl)) (q' _)
  · refine .inr (.inr ⟨M, e, ?_⟩)
    have : M * k + a = M' := from_eqM fun g => by
      have h1 := h ((g - a) * k⁻¹)
      rw [back, q' g, q] at h1
      rw [h1, le M, back]
    rw [this]; exact e'
theorem mr_const (hp : PanOk m p) (hi : it < p.its.length) (hw : wt < p.its.length) {c : Prop} (h : ∀ f, Rch p it wt v f ↔ c) : (c ∧ mrD p it wt v = .tup [.str "always"]) ∨ (¬ c ∧ mrD p it wt v = .tup [.str "never"]) := by
  rcases mr_desc hp hi hw v with ⟨e, q⟩ | ⟨e, q⟩ | ⟨M, e, q⟩
  · exact .inl ⟨(h 0).mp (q 0), e⟩
  · exact .inr ⟨fun k => q 0 ((h 0).mpr k), e⟩
  · have a := (h M).mp ((q M).mpr Rat.le_refl)
    have := (q (M - 1)).mp ((h _).mpr a)
    grind
theorem mr_mono (hp : PanOk m p) (hi : it < p.its.length) (hw : wt < p.its.length) {u : Rat} (le : v ≤ u) :
    mrD p it wt v = .tup [.str "always"] ∨ mrD p it wt u = .tup [.str "never"] ∨ ∃ M N : Rat, mrD p it wt v = .tup [.str "from", frD M] ∧ mrD p it wt u = .tup [.str "from", frD N] ∧ M ≤ N := by
  have down : ∀ f, Rch p it wt u f → Rch p it wt v f := fun f ⟨r, b, l⟩ => ⟨r, b, Rat.le_trans le l⟩
  rcases mr_desc hp hi hw v with ⟨e, q⟩ | ⟨e, q⟩ | ⟨M, e, q⟩
  · exact .inl e
  · rcases mr_desc hp hi hw u with ⟨e', q'⟩ | ⟨e', q'⟩ | ⟨M', e', q'⟩
    · exact absurd (down 0 (q' 0)) (q 0)
    · exact .inr (.inl e')
    · exact absurd (down M' ((q' M').mpr Rat.le_refl)) (q M')
  · rcases mr_desc hp hi hw u with ⟨e', q'⟩ | ⟨e', q'⟩ | ⟨M', e', q'⟩
    · have := (q (M - 1)).mp (down _ (q' _)); grind
    · exact .inr (.inl e')
    · exact .inr (.inr ⟨M, M', e, e', (q M').mp (down _ ((q' M').mpr Rat.le_refl))⟩)
end
def shPn (p : Pan) (a : Int) : Pan := ⟨p.its.map fun q => (q.1 + a, q.2), p.rus⟩
def scPn (p : Pan) (k : Int) : Pan := ⟨p.its.map fun q => (q.1 * k, q.2), p.rus⟩
def wgPn (p : Pan) (h : Int) : Pan := ⟨p.its.map fun q => (q.1, q.2 * h), p.rus⟩
section
variable {m : Nat} {p : Pan} {it wt : Nat} {v : Rat} {a k h : Int}
theorem map_get {g : Int × Int → Int × Int} {j : Nat} (hj : j < p.its.length) : (p.its.map g).getD j (0, 1) = g (p.its.getD j (0, 1)) := by
  rw [List.getD_eq_getElem?_getD, List.getElem?_map, List.getD_eq_getElem?_getD, List.getElem?_eq_getElem hj]; rfl
theorem rch_sh (hp : PanOk m p) (hp' : PanOk m (shPn p a)) (hi : it < p.its.length) (hw : wt < p.its.length) (f : Rat) : Rch (shPn p a) it wt (v + (a : Rat)) (f * 1 + (a : Rat)) ↔ Rch p it wt v f := by
  obtain ⟨r, b⟩ := bestF_ex hp hi f
  have ll : (shPn p a).its.length = p.its.length := by simp [shPn]
  have b2 : BestF (shPn p a) it (f * 1 + (a : Rat)) fun i => r i + (a : Rat) := by
    have := Best.shift b (a : Rat)
    unfold BestF
    rw [ll]
    refine Best.congr this (fun i hm => ?_) fun i hm => ?_
    · have hj := List.mem_range.mp hm
      unfold mkF mR
      rw [show (shPn p a).its.getD i (0, 1) = _ from map_get hj]
      split
      · grind
      · simp only [Rat.intCast_add]
    · have hj := List.mem_range.mp hm
      unfold wR
      rw [show (shPn p a).its.getD i (0, 1) = _ from map_get hj]
  rw [rch_iff hp hw b, rch_iff hp' (by rw [ll]; exact hw) b2]
  constructor <;> intro h <;> grind
theorem rch_sc (hp : PanOk m p) (hp' : PanOk m (scPn p k)) (k0 : 0 < k) (hi : it < p.its.length) (hw : wt < p.its.length) (f : Rat) : Rch (scPn p k) it wt (v * (k : Rat)) (f * (k : Rat) + 0) ↔ Rch p it wt v f := by
  obtain ⟨r, b⟩ := bestF_ex hp hi f
  have kR : (0 : Rat) < (k : Rat) := Rat.intCast_pos.mpr k0
  have ll : (scPn p k).its.length = p.its.length := by simp [scPn]
  have b2 : BestF (scPn p k) it (f * (k : Rat) + 0) fun i => r i * (k : Rat) := by
    have := Best.scale b kR
    unfold BestF
    rw [ll]
    refine Best.congr this (fun i hm => ?_) fun i hm => ?_
    · have hj := List.mem_range.mp hm
      unfold mkF mR
      rw [show (scPn p k).its.getD i (0, 1) = _ from map_get hj]
      split
      · grind
      · simp only [Rat.intCast_mul]
    · have hj := List.mem_range.mp hm
      unfold wR
      rw [show (scPn p k).its.getD i (0, 1) = _ from map_get hj]
  rw [rch_iff hp hw b, rch_iff hp' (by rw [ll]; exact hw) b2]
  constructor
  · intro h
    rcases (show v ≤ r wt ∨ r wt < v by grind) with z | z
    · exact z
    · have := Rat.mul_lt_mul_of_pos_right z kR; grind
  · exact fun h => Rat.mul_le_mul_of_nonneg_right h (Rat.le_of_lt kR)
theorem rch_wg (hp : PanOk m p) (hp' : PanOk m (wgPn p h)) (h0 : 0 < h) (hi : it < p.its.length) (hw : wt < p.its.length) (f : Rat) : Rch (wgPn p h) it wt v (f * 1 + 0) ↔ Rch p it wt v f := by
  obtain ⟨r, b⟩ := bestF_ex hp hi f
  have ll : (wgPn p h).its.length = p.its.length := by simp [wgPn]
  have b2 : BestF (wgPn p h) it (f * 1 + 0) r := by
    have := Best.weigh b (Rat.intCast_pos.mpr h0)
    unfold BestF
    rw [ll]
    refine Best.congr this (fun i hm => ?_) fun i hm => ?_
    · have hj := List.mem_range.mp hm
      unfold mkF mR
      rw [show (wgPn p h).its.getD i (0, 1) = _ from map_get hj]
      split
      · grind
      · rfl
    · have hj := List.mem_range.mp hm
      unfold wR
      rw [show (wgPn p h).its.getD i (0, 1) = _ from map_get hj, Rat.intCast_mul]
  rw [rch_iff hp hw b, rch_iff hp' (by rw [ll]; exact hw) b2]
end
theorem Best.beside {n : Nat} {E E' : Nat → Nat → Prop} {m m' w w' r : Nat → Rat} (b : Best (List.range n) E m w r) (hE : ∀ a c, E' a c → E a c ∧ a < n ∧ c < n) (hE2 : ∀ a c, E a c → E' a c) (hm : ∀ i, i < n → m i = m' i) (hw : ∀ i, i < n → w i = w' i) :
    Best (List.range (n + 1)) E' m' w' fun i => if i = n then m' n else r i := by
  let s : Nat → Rat := fun i => if i = n then m' n else r i
  have old : ∀ i, i < n → s i = r i := fun i hi => by show (if i = n then m' n else r i) = r i; rw [if_neg (by omega)]
  have sum : ∀ U : Nat → Bool, sm (fw m' w' s) ((List.range (n + 1)).filter U) = sm (fw m w r) ((List.range n).filter U) := fun U => by
    rw [List.range_succ, List.filter_append, sm_append]
    have e1 : sm (fw m' w' s) ((List.range n).filter U) = sm (fw m w r) ((List.range n).filter U) := sm_congr fun i hi => by
      have hi := List.mem_range.mp (List.mem_filter.mp hi).1
      unfold fw
      rw [old i hi, hm i hi, hw i hi]
    have e2 : sm (fw m' w' s) ([n].filter U) = 0 := by
      have z : fw m' w' s n = 0 := by
        have : s n = m' n := if_pos rfl
        unfold fw; rw [this]; grind
      rw [List.filter_cons]
      split
      · simp only [List.filter_nil, sm, z]; grind
      · rfl
    rw [e1, e2]; grind
  show Best (List.range (n + 1)) E' m' w' s
  refine ⟨fun a c e => ?_, fun U hU => ?_, fun U hU => ?_⟩
  · obtain ⟨e, ha, hc⟩ := hE a c e
    rw [old a ha, old c hc]; exact b.ob a c e
  · rw [sum]; exact b.up U fun a c e k => hU a c (hE2 a c e) k
  · rw [sum]
    let V : Nat → Bool := fun i => (List.range n).any fun j => U j && decide (r j ≤ r i)
    have hV : RUp r V := fun i j h k => by
      simp only [V, List.any_eq_true, Bool.and_eq_true, decide_eq_true_eq] at k ⊢
      obtain ⟨t, ht, u, le⟩ := k
      exact ⟨t, ht, u, Rat.le_trans le h⟩
    have e : (List.range n).filter U = (List.range n).filter V := by
      refine List.filter_congr fun i hi => ?_
      have hi' := List.mem_range.mp hi
      rw [Bool.eq_iff_iff]
      simp only [V, List.any_eq_true, Bool.and_eq_true, decide_eq_true_eq]
      constructor
      · intro h; exact ⟨i, hi, h, Rat.le_refl⟩
      · rintro ⟨j, hj, u, le⟩
        have hj' := List.mem_range.mp hj
        exact hU j i (by rw [old j hj', old i hi']; exact le) u
    rw [e]
    exact b.lv V hV
def bsP (p : Pan) (x : Int × Int) : Pan := ⟨p.its ++ [x], p.rus⟩
section
variable {m : Nat} {p : Pan} {x : Int × Int} {it wt : Nat} {v : Rat}
theorem bs_len : (bsP p x).its.length = p.its.length + 1 := by simp [bsP]
theorem bs_get {i : Nat} (hi : i < p.its.length) : (bsP p x).its.getD i (0, 1) = p.its.getD i (0, 1) := by
  show (p.its ++ [x]).getD i (0, 1) = _
  rw [List.getD_eq_getElem?_getD, List.getElem?_append_left hi, List.getD_eq_getElem?_getD]
theorem bs_ok (hp : PanOk m p) (hx : ItOk x) : PanOk (m + 1) (bsP p x) := by
  refine ⟨by rw [bs_len]; omega, by rw [bs_len]; have := hp.top; omega, fun q h => ?_, hp.few, fun q h => ?_⟩
  · have h : q ∈ p.its ++ [x] := h
    rcases List.mem_append.mp h with z | z
    · exact hp.it q z
    · rw [List.mem_singleton.mp z]; exact hx
  · rw [bs_len]
    obtain ⟨h1, h2, h3, h4, h5⟩ := hp.ru q h
    exact ⟨h1, by push_cast; omega, h3, by push_cast; omega, h5⟩
theorem rch_bs (hp : PanOk m p) (hx : ItOk x) (hi : it < p.its.length) (hw : wt < p.its.length) (f : Rat) : Rch (bsP p x) it wt v (f * 1 + 0) ↔ Rch p it wt v f := by
  obtain ⟨r, b⟩ := bestF_ex hp hi f
  have b2 : BestF (bsP p x) it (f * 1 + 0) fun i => if i = p.its.length then mkF (bsP p x) it (f * 1 + 0) p.its.length else r i := by
    unfold BestF
    rw [bs_len]
    refine Best.beside b (fun a c e => ?_) (fun _ _ e => e) (fun i hj => ?_) fun i hj => ?_
    · have e : eE p a c := e
      exact ⟨e, eE_lt hp e⟩
    · unfold mkF mR
      rw [bs_get hj]
      split
      · grind
      · rfl
    · unfold wR
      rw [bs_get hj]
  rw [rch_iff hp hw b, rch_iff (bs_ok hp hx) (by rw [bs_len]; omega) b2, if_neg (by omega)]
theorem rch_new (hp : PanOk m p) (hx : ItOk x) (hw : wt < p.its.length) {r : Nat → Rat} (b : BestP p r) (f : Rat) : Rch (bsP p x) p.its.length wt v f ↔ v ≤ r wt := by
  have b2 : BestF (bsP p x) p.its.length f fun i => if i = p.its.length then mkF (bsP p x) p.its.length f p.its.length else r i := by
    unfold BestF
    rw [bs_len]
    refine Best.beside b (fun a c e => ?_) (fun _ _ e => e) (fun i hj => ?_) fun i hj => ?_
    · have e : eE p a c := e
      exact ⟨e, eE_lt hp e⟩
    · unfold mkF mR
      rw [bs_get hj, if_neg (by omega)]
    · unfold wR
      rw [bs_get hj]
  rw [rch_iff (bs_ok hp hx) (by rw [bs_len]; omega) b2, if_neg (by omega)]
end
end Pm
set_option Elab.async false
set_option linter.all false
set_option maxRecDepth 100000
set_option maxHeartbeats 1000000
set_option autoImplicit false
namespace Pm
open PySem PySem.Spec PySem.W
open PyProof.Rows hiding St
open L2
section
variable {γ : Type}
def qDisp3 (k1 v1 k2 v2 k3 v3 : PEx γ) : PDx γ := fun s R => k1 s fun a s1 => v1 s1 fun x s2 => k2 s2 fun b s3 => v2 s3 fun y s4 => k3 s4 fun c s5 => v3 s5 fun z s6 =>
  ∃ ka kb kc, a.key = some ka ∧ b.key = some kb ∧ c.key = some kc ∧ ka ≠ kb ∧ ka ≠ kc ∧ kb ≠ kc ∧ R [(ka, x), (kb, y), (kc, z)] s6
variable {X : Cx} {G : GP γ} {e1 e2 e3 e4 e5 e6 : Expr} {pos : Pos}
theorem merge3 {ka kb kc : Key} {x y z : V} (h1 : ka ≠ kb) (h2 : ka ≠ kc) (h3 : kb ≠ kc) : mergeK [] [(ka, x), (kb, y), (kc, z)] = [(ka, x), (kb, y), (kc, z)] := by
  have n1 : ¬ kb = ka := fun e => h1 e.symm
  have n2 : ¬ kc = ka := fun e => h2 e.symm
  have n3 : ¬ kc = kb := fun e => h3 e.symm
  simp [mergeK, putK, valV, h1, h2, h3, n1, n2, n3]
theorem qd_three {k1 v1 k2 v2 k3 v3 : PEx γ} (h1 : QE X G e1 k1) (h2 : QE X G e2 v1) (h3 : QE X G e3 k2) (h4 : QE X G e4 v2) (h5 : QE X G e5 k3) (h6 : QE X G e6 v3) : QD X G (.Dict [some e1, some e3, some e5] [e2, e4, e6] pos) (qDisp3 k1 v1 k2 v2 k3 v3) := by
  refine PE.imp (pe_disp (pps_cons h1 h2 (pps_cons h3 h4 (pps_cons h5 h6 pps_nil))) rfl rfl (by simp) (by show 3 ≤ 15; decide)) fun σ H Q ⟨F, Z, s, R, r, t, q⟩ => fun p hp => ?_
  obtain ⟨f1, f2, f3, f4⟩ := r.fresh hp
  have rb := (r.grow (same_upd (o := HO.dK []) hp)).bar upd_same f1 f3 f4
  refine ⟨F.bar p (.dK []), Z, s, _, rb, t, fun a s1 Z1 va H1 t1 m1 r1 a1 => ⟨F.bar p (.dK []), Z1, s1, _, r1, t1, fun x s2 Z2 vx H2 t2 m2 r2 a2 => ?_⟩⟩
  refine ⟨F.bar p (.dK []), Z2, s2, _, r2, t2, fun b s3 Z3 vb H3 t3 m3 r3 a3 => ⟨F.bar p (.dK []), Z3, s3, _, r3, t3, fun y s4 Z4 vy H4 t4 m4 r4 a4 => ?_⟩⟩
  refine ⟨F.bar p (.dK []), Z4, s4, _, r4, t4, fun c s5 Z5 vc H5 t5 m5 r5 a5 => ⟨F.bar p (.dK []), Z5, s5, _, r5, t5, fun z s6 Z6 vz H6 t6 m6 r6 a6 => ?_⟩⟩
  obtain ⟨ka, kb, kc, ea, eb, ec, n1, n2, n3, t6⟩ := t6
  obtain ⟨u1, u2, u3, u4, r7⟩ := r6.unbar (o' := .dK [(ka, vx), (kb, vy), (kc, vz)]) f2
  refine ⟨u1, [(ka, vx), (kb, vy), (kc, vz)], ?_, by show 3 ≤ 15; decide, ?_⟩
  · rw [key_at ea a1, key_at eb a3, key_at ec a5]; rfl
  · rw [merge3 n1 n2 n3]
    refine q _ s6 Z6 p [vx, vy, vz] _ t6 (m1.trans (m2.trans (m3.trans (m4.trans (m5.trans m6))))) r7 upd_same ?_ u2 f2 u3 u4
    exact ⟨vx, _, rfl, At.mono (m3.trans (m4.trans (m5.trans m6))) _ _ a2, vy, _, rfl, At.mono (m5.trans m6) _ _ a4, vz, [], rfl, a6, rfl⟩
end
end Pm
set_option Elab.async false
set_option linter.all false
set_option maxRecDepth 100000
set_option maxHeartbeats 1000000
set_option autoImplicit false
namespace Pm
open PySem PySem.Spec
open L2
theorem mrD_ok2 (p : Pan) (it wt : Nat) (v : Rat) : (mrD p it wt v).pln = true ∧ (mrD p it wt v).dep ≤ 2 ∧ (mrD p it wt v).wid ≤ 100000 := by
  unfold mrD
  split
  · exact ⟨by decide +kernel, by decide +kernel, by decide +kernel⟩
  · split
    · exact ⟨by decide +kernel, by decide +kernel, by decide +kernel⟩
    · generalize v + Rat.divInt _ _ = x
      refine ⟨?_, by show 2 ≤ 2; decide, ?_⟩
      · show (D.pln (.str "from") && (D.pln (frD x) && true)) = true
        rw [frD_pln x, show D.pln (.str "from") = true by decide +kernel]; rfl
      · have e : (D.tup [.str "from", frD x]).wid = (D.tup [.str "from", frD 0]).wid := rfl
        rw [e]; decide +kernel
theorem mr_from_sz {p : Pan} (hp : PanOk 8 p) {it wt : Nat} (hi : it < p.its.length) {v M : Rat} {a : Nat} (hv : SzR a v) (h : mrD p it wt v = .tup [.str "from", frD M]) : SzR (2 * a + 200) M := by
  have d1 : (D.tup [.str "always"]) ≠ .tup [.str "from", frD M] := fun e => by cases e
  have d2 : (D.tup [.str "never"]) ≠ .tup [.str "from", frD M] := fun e => by cases e
  unfold mrD at h
  split at h
  · exact absurd h d1
  · split at h
    · exact absurd h d2
    · have z : ∀ b, Sz (a + 70) ((gsB p wt it v b).getD 0) := fun b => by
        cases q : gsB p wt it v b with
        | none => exact sz_zero
        | some x => exact gsB_sz hp (by decide) hv q
      have qi := hp.it (p.its.getD it (0, 1)) (by rw [List.getD_eq_getElem?_getD, List.getElem?_eq_getElem hi]; exact List.getElem_mem hi)
      have wz := (ItOk.sz qi).2
      have d0 : (0 : Int) < (v.den : Int) * (p.its.getD it (0, 1)).2 := Int.mul_pos (by have := v.den_pos; omega) (by have := qi.2.2.1; omega)
      have e : frD (v + Rat.divInt ((gsB p wt it v (false, false)).getD 0 - (gsB p wt it v (true, true)).getD 0) ((v.den : Int) * (p.its.getD it (0, 1)).2)) = frD M := by
        injection h with h
        injection h with _ h
        injection h with h _
      have e := frD_injC e
      rw [← e]
      refine (hv.add (SzR.divInt (b := a + 71) (((z (false, false)).sub (z (true, true))).le (by omega)) ((hv.2.mul wz).le (by omega)) (by omega))).le (by omega)
theorem mr_tld {p : Pan} (hp : PanOk 8 p) {it wt : Nat} (hi : it < p.its.length) (hw : wt < p.its.length) (v : Rat) : ∃ k, (mrD p it wt v = .tup [.str "always"] ∧ k = 0) ∨ (∃ M : Rat, mrD p it wt v = .tup [.str "from", frD M] ∧ k = (1 : Int)) ∨ (mrD p it wt v = .tup [.str "never"] ∧ k = 2) := by
  rcases mr_desc hp hi hw v with ⟨e, _⟩ | ⟨e, _⟩ | ⟨M, e, _⟩
  · exact ⟨0, .inl ⟨e, rfl⟩⟩
  · exact ⟨2, .inr (.inr ⟨e, rfl⟩)⟩
  · exact ⟨1, .inr (.inl ⟨M, e, rfl⟩)⟩
end Pm
set_option Elab.async false
set_option linter.all false
set_option maxRecDepth 100000
set_option maxHeartbeats 0
set_option autoImplicit false
namespace Pm
open PySem PySem.Spec
open PyProof.Rows hiding St
open L2
def t_size_3de8 (r : Addr) : PSx Nat := (qSeq (qAsg (qCallG (nextS r) (qCons (qVar 0) (qCons (qBin addD (qCall (fn2 min2) (qCons (qVar 1) (qCons (qC (.int 3)) qNil))) (qC (.int 1))) qNil))) 2) (qRet (qBin ixD (qSet (qLst (qCons (qVar 2) (qCons (qBin subD (qVar 1) (qVar 2)) (qCons (qCallG (nextS r) (qCons (qVar 0) (qCons (qBin addD (qVar 1) (qC (.int 1))) qNil))) qNil))))) (qCallG (nextS r) (qCons (qVar 0) (qCons (qC (.int 3)) qNil))))))

def sp_size_3de8 (r : Addr) : Spec Nat := fun ds g R => ∃ m : Int, ds = [.obj r, .int m] ∧ 0 ≤ m ∧ m ≤ 10 ^ 50 ∧ g + 2 < drawLine ∧ ∀ v : Int, 0 ≤ v → v ≤ m → R (.int v) (g + 3)
theorem len_size_3de8 (r : Addr) (ds : List D) (g : Nat) (R : D → Nat → Prop) (h : sp_size_3de8 r ds g R) : ds.length = 2 := by
  obtain ⟨m, rfl, _⟩ := h; rfl
theorem p_size_3de8 (r : Addr) (ds : List D) (g : Nat) (R : D → Nat → Prop) (h : sp_size_3de8 r ds g R) : t_size_3de8 r { nx := fun s => R .non s.g, rt := R } ⟨startL 3 ds, g⟩ := by
  obtain ⟨m, rfl, h0, h1, hg, h⟩ := h
  have big : (10 : Int) ^ 50 + 4 ≤ 10 ^ 60 := by decide
  refine ⟨min m 3 + 1, rfl, by omega, by omega, (by show g < drawLine; omega), fun k k0 k1 => ?_⟩
  refine ⟨m + 1, rfl, by omega, by omega, (by show g + 1 < drawLine; omega), fun j j0 j1 => ?_⟩
  refine ⟨(by show 3 ≤ sizeLine; decide), 3, rfl, by decide, by decide, (by show g + 2 < drawLine; omega), fun i i0 i1 => ?_⟩
  have hi : i = 0 ∨ i = 1 ∨ i = 2 := by omega
  rcases hi with rfl | rfl | rfl
  · exact ⟨_, rfl, h k (by omega) (by omega)⟩
  · exact ⟨_, rfl, h (m - k) (by omega) (by omega)⟩
  · exact ⟨_, rfl, h j (by omega) (by omega)⟩

def t_items_cafd (r : Addr) : PSx Nat := (qSeq (qAsg (qBin ixD (qSet (qLst (qCons (qC (.int 2)) (qCons (qC (.int 9)) (qCons (qBin powD (qC (.int 10)) (qC (.int 9))) qNil))))) (qCallG (nextS r) (qCons (qVar 0) (qCons (qC (.int 3)) qNil)))) 2) (qSeq (qAsg (qBin ixD (qSet (qLst (qCons (qC (.int 1)) (qCons (qC (.int 3)) (qCons (qBin powD (qC (.int 10)) (qC (.int 6))) qNil))))) (qCallG (nextS r) (qCons (qVar 0) (qCons (qC (.int 3)) qNil)))) 3) (qSeq (qAsgOwn (qLst qNil) 4) (qSeq (qFor (qRange1 (qCons (qVar 1) qNil)) (.nm 5) (qDrop (qAppend 4 (qTup (qCons (qBin subD (qCallG (sp_size_3de8 r) (qCons (qVar 0) (qCons (qBin mulD (qC (.int 2)) (qVar 2)) qNil))) (qVar 2)) (qCons (qBin addD (qC (.int 1)) (qCallG (sp_size_3de8 r) (qCons (qVar 0) (qCons (qBin subD (qVar 3) (qC (.int 1))) qNil)))) qNil)))))) (qRet (qCall (fn1 tupleD) (qCons (qVar 4) qNil)))))))

def sp_items_cafd (r : Addr) : Spec Nat := fun ds g R => ∃ n : Nat, ds = [.obj r, .int n] ∧ n ≤ 60 ∧ g + 500 < drawLine ∧ ∀ l : List (Int × Int), l.length = n → (∀ q ∈ l, ItOk q) → R (.tup (l.map itD)) (g + 2 + 6 * n)
theorem len_items_cafd (r : Addr) (ds : List D) (g : Nat) (R : D → Nat → Prop) (h : sp_items_cafd r ds g R) : ds.length = 2 := by
  obtain ⟨m, rfl, _⟩ := h; rfl
theorem p_items_cafd (r : Addr) (ds : List D) (g : Nat) (R : D → Nat → Prop) (h : sp_items_cafd r ds g R) : t_items_cafd r { nx := fun s => R .non s.g, rt := R } ⟨startL 6 ds, g⟩ := by
  obtain ⟨n, rfl, hn, hg, h⟩ := h
  have line : (10000000 : Nat) ≤ sizeLine := line_big
  refine ⟨⟨by decide, by decide, by decide⟩, (by show 3 ≤ sizeLine; decide), 3, rfl, by decide, by decide, (by show g < drawLine; omega), fun k k0 k1 => ?_⟩
  obtain ⟨m, e, m0, m1⟩ := pick3 (lo := 2) (hi := 10 ^ 9) (a := 2) (b := 9) (c := 10 ^ (9 : Int).toNat) k0 k1 (by decide) (by decide) (by decide)
  refine ⟨_, e, ?_⟩
  refine ⟨⟨by decide, by decide, by decide⟩, (by show 3 ≤ sizeLine; decide), 3, rfl, by decide, by decide, (by show g + 1 < drawLine; omega), fun k k0 k1 => ?_⟩
  obtain ⟨w, e2, w0, w1⟩ := pick3 (lo := 1) (hi := 10 ^ 6) (a := 1) (b := 3) (c := 10 ^ (6 : Int).toNat) k0 k1 (by decide) (by decide) (by decide)
  refine ⟨_, e2, (by show 0 ≤ sizeLine; omega), ⟨by omega, by omega⟩, ?_⟩
  refine ⟨fun j s => ∃ l : List (Int × Int), l.length = j ∧ (∀ q ∈ l, ItOk q) ∧ s = ⟨[some (.val (.obj r)), some (.val (.int n)), some (.val (.int m)), some (.val (.int w)), some (.own (l.map itD)), none], g + 2 + 6 * j⟩, ⟨_, Wk.refl _, [], rfl, by simp, rfl⟩, ?_, ?_⟩
  · rintro j d s hd ⟨l, hl, hq, rfl⟩
    have hj : j < n := by
      have := (List.getElem?_eq_some_iff.mp hd).1
      simpa using this
    refine ⟨⟨_, rfl⟩, .inl (.inl ⟨by decide, by decide⟩), 2 * m, rfl, by omega, by omega, (by show g + 2 + 6 * j + 2 < drawLine; omega), fun v v0 v1 => ?_⟩
    refine ⟨w - 1, rfl, by omega, by omega, (by show g + 2 + 6 * j + 3 + 2 < drawLine; omega), fun u u0 u1 => ?_⟩
    refine ⟨(by show 2 ≤ sizeLine; omega), l.map itD, rfl, by simp; omega, ?_⟩
    refine ⟨⟨[some (.val (.obj r)), some (.val (.int n)), some (.val (.int m)), some (.val (.int w)), some (.own ((l ++ [(v - m, 1 + u)]).map itD)), none], g + 2 + 6 * j + 3 + 3⟩, ?_, l ++ [(v - m, 1 + u)], by simp [hl], ?_, rfl⟩
    · rw [List.map_append]
      exact Wk.of ⟨.inr rfl, .inr rfl, .inr rfl, .inr rfl, .inr rfl, .inl rfl, trivial⟩
    · intro q hm
      rcases List.mem_append.mp hm with hm | hm
      · exact hq q hm
      · rw [List.mem_singleton] at hm
        subst hm
        exact ⟨by show -(10 ^ 9) ≤ v - m; omega, by show v - m ≤ 10 ^ 9; omega, by show 1 ≤ 1 + u; omega, by show 1 + u ≤ 10 ^ 6; omega⟩
  · rintro s ⟨l, hl, hq, rfl⟩
    have hl' : l.length = n := by simpa using hl
    have e3 : ((List.range (n : Int).toNat).map fun k => D.int (k : Nat)).length = n := by simp
    show R (.tup (l.map itD)) (g + 2 + 6 * _)
    rw [e3]
    exact h l hl' hq

def t_rules_ccf3 (r : Addr) : PSx Nat := (qSeq (qAsgOwn (qLst qNil) 2) (qSeq (qAsg (qCallG (nextS r) (qCons (qVar 0) (qCons (qC (.int 3)) qNil))) 3) (qSeq (qFor (qRange1 (qCons (qBin mulD (qBin ixD (qSet (qLst (qCons (qC (.int 0)) (qCons (qC (.int 1)) (qCons (qC (.int 2)) (qCons (qC (.int 4)) (qCons (qC (.int 7)) (qCons (qC (.int 16)) qNil)))))))) (qCallG (nextS r) (qCons (qVar 0) (qCons (qC (.int 6)) qNil)))) (qCall (fn1 intD) (qCons (qBin gtD (qVar 1) (qC (.int 1))) qNil))) qNil)) (.nm 4) (qSeq (qAsg (qCallG (nextS r) (qCons (qVar 0) (qCons (qVar 1) qNil))) 5) (qSeq (qAsg (qBin modD (qBin addD (qBin addD (qVar 5) (qC (.int 1))) (qCallG (nextS r) (qCons (qVar 0) (qCons (qBin subD (qVar 1) (qC (.int 1))) qNil)))) (qVar 1)) 6) (qDrop (qAppend 2 (qIfE (qB (qBin eqD (qVar 3) (qC (.int 0)))) (qTup (qCons (qVar 5) (qCons (qVar 6) qNil))) (qTup (qCons (qCall (fn2 min2) (qCons (qVar 5) (qCons (qVar 6) qNil))) (qCons (qCall (fn2 max2) (qCons (qVar 5) (qCons (qVar 6) qNil))) qNil))))))))) (qRet (qCall (fn1 tupleD) (qCons (qVar 2) qNil))))))

def sp_rules_ccf3 (r : Addr) : Spec Nat := fun ds g R => ∃ n : Nat, ds = [.obj r, .int n] ∧ 1 ≤ n ∧ n ≤ 60 ∧ g + 500 < drawLine ∧ ∀ (l : List (Int × Int)) (g' : Nat), l.length ≤ 16 → (∀ q ∈ l, RuOk n q) → g ≤ g' → g' ≤ g + 34 → R (.tup (l.map itD)) g'
theorem len_rules_ccf3 (r : Addr) (ds : List D) (g : Nat) (R : D → Nat → Prop) (h : sp_rules_ccf3 r ds g R) : ds.length = 2 := by
  obtain ⟨m, rfl, _⟩ := h; rfl
theorem pick6 {k : Int} (k0 : 0 ≤ k) (k1 : k < 6) : ∃ m : Int, idx [D.int 0, .int 1, .int 2, .int 4, .int 7, .int 16] k = some (.int m) ∧ 0 ≤ m ∧ m ≤ 16 := by
  have hi : k = 0 ∨ k = 1 ∨ k = 2 ∨ k = 3 ∨ k = 4 ∨ k = 5 := by omega
  rcases hi with rfl | rfl | rfl | rfl | rfl | rfl
  · exact ⟨0, rfl, by decide, by decide⟩
  · exact ⟨1, rfl, by decide, by decide⟩
  · exact ⟨2, rfl, by decide, by decide⟩
  · exact ⟨4, rfl, by decide, by decide⟩
  · exact ⟨7, rfl, by decide, by decide⟩
  · exact ⟨16, rfl, by decide, by decide⟩
theorem far_mod {n a b : Int} (a0 : 0 ≤ a) (a1 : a < n) (b0 : 0 ≤ b) (b1 : b < n - 1) : a ≠ (a + 1 + b) % n ∧ 0 ≤ (a + 1 + b) % n ∧ (a + 1 + b) % n < n := by
  have hn : 0 < n := by omega
  refine ⟨?_, Int.emod_nonneg _ (by omega), Int.emod_lt_of_pos _ hn⟩
  by_cases h : a + 1 + b < n
  · rw [Int.emod_eq_of_lt (by omega) h]; omega
  · have e : (a + 1 + b) % n = a + 1 + b - n := by
      rw [← Int.sub_emod_right]
      exact Int.emod_eq_of_lt (by omega) (by omega)
    rw [e]; omega
theorem mm {n : Nat} {a : Int} (z : Int) (a0 : 0 ≤ a) (a1 : a < n) (f2 : 0 ≤ z) (f3 : z < n) (f1 : a ≠ z) : RuOk n (min a z, max a z) :=
  ⟨by show 0 ≤ min a z; omega, by show min a z < n; omega, by show 0 ≤ max a z; omega, by show max a z < n; omega, by show min a z ≠ max a z; omega⟩
theorem p_rules_ccf3 (r : Addr) (ds : List D) (g : Nat) (R : D → Nat → Prop) (h : sp_rules_ccf3 r ds g R) : t_rules_ccf3 r { nx := fun s => R .non s.g, rt := R } ⟨startL 7 ds, g⟩ := by
  obtain ⟨n, rfl, hn0, hn, hg, h⟩ := h
  have line : (10000000 : Nat) ≤ sizeLine := line_big
  refine ⟨(by show 0 ≤ sizeLine; omega), 3, rfl, by decide, by decide, (by show g < drawLine; omega), fun way w0 w1 => ?_⟩
  refine ⟨(by show 6 ≤ sizeLine; omega), 6, rfl, by decide, by decide, (by show g + 1 < drawLine; omega), fun k k0 k1 => ?_⟩
  obtain ⟨m, e, m0, m1⟩ := pick6 k0 k1
  refine ⟨_, e, .inl (.inr ⟨by split <;> decide, by split <;> decide⟩), ?_⟩
  generalize hc : m * (if decide ((1 : Int) < n) = true then 1 else 0) = c
  have c0 : 0 ≤ c ∧ c ≤ 16 ∧ (0 < c → 1 < n) := by
    by_cases h1 : (1 : Int) < n
    · rw [decide_eq_true h1] at hc; simp at hc; omega
    · rw [decide_eq_false h1] at hc; simp at hc; omega
  refine ⟨⟨by omega, by omega⟩, ?_⟩
  refine ⟨fun j s => ∃ l : List (Int × Int), l.length = j ∧ (∀ q ∈ l, RuOk n q) ∧ s = ⟨[some (.val (.obj r)), some (.val (.int n)), some (.own (l.map itD)), some (.val (.int way)), none, none, none], g + 2 + 2 * j⟩, ⟨_, Wk.refl _, [], rfl, by simp, rfl⟩, ?_, ?_⟩
  · rintro j d s hd ⟨l, hl, hq, rfl⟩
    have hj : j < c.toNat := by
      have := (List.getElem?_eq_some_iff.mp hd).1
      simpa using this
    have n1 : 1 < n := c0.2.2 (by omega)
    refine ⟨n, rfl, by omega, by omega, (by show g + 2 + 2 * j < drawLine; omega), fun a a0 a1 => ?_⟩
    refine ⟨(n : Int) - 1, rfl, by omega, by omega, (by show g + 2 + 2 * j + 1 < drawLine; omega), fun b b0 b1 => ?_⟩
    refine ⟨by omega, ⟨_, rfl⟩, ⟨rfl, rfl, Nat.zero_le 64, Nat.zero_le 64⟩, ?_⟩
    obtain ⟨f1, f2, f3⟩ := far_mod a0 a1 b0 b1
    have fin : ∀ q : Int × Int, RuOk n q → ∃ s'' : S Nat, Wk (⟨[some (.val (.obj r)), some (.val (.int n)), some (.own (l.map itD ++ [itD q])), some (.val (.int way)), some (.val d), some (.val (.int a)), some (.val (.int ((a + 1 + b) % (n : Int))))], g + 2 + 2 * j + 1 + 1⟩ : S Nat) s'' ∧ ∃ l : List (Int × Int), l.length = j + 1 ∧ (∀ q ∈ l, RuOk n q) ∧ s'' = ⟨[some (.val (.obj r)), some (.val (.int n)), some (.own (l.map itD)), some (.val (.int way)), none, none, none], g + 2 + 2 * (j + 1)⟩ := fun q hk => by
      refine ⟨⟨[some (.val (.obj r)), some (.val (.int n)), some (.own ((l ++ [q]).map itD)), some (.val (.int way)), none, none, none], g + 2 + 2 * j + 1 + 1⟩, ?_, l ++ [q], by simp [hl], ?_, rfl⟩
      · rw [List.map_append]
        exact Wk.of ⟨.inr rfl, .inr rfl, .inr rfl, .inr rfl, .inl rfl, .inl rfl, .inl rfl, trivial⟩
      · intro p hm
        rcases List.mem_append.mp hm with hm | hm
        · exact hq p hm
        · rw [List.mem_singleton] at hm
          rw [hm]; exact hk
    refine ⟨fun _ => ?_, fun _ => ?_⟩
    · exact ⟨(by show 2 ≤ sizeLine; omega), l.map itD, rfl, by simp; omega, fin (a, (a + 1 + b) % (n : Int)) ⟨a0, a1, f2, f3, f1⟩⟩
    · exact ⟨(by show 2 ≤ sizeLine; omega), l.map itD, rfl, by simp; omega, fin (min a ((a + 1 + b) % (n : Int)), max a ((a + 1 + b) % (n : Int))) (mm _ a0 a1 f2 f3 f1)⟩
  · rintro s ⟨l, hl, hq, rfl⟩
    have hl' : l.length = c.toNat := by simpa using hl
    have e3 : ((List.range c.toNat).map fun k => D.int (k : Nat)).length = c.toNat := by simp
    show R (.tup (l.map itD)) (g + 2 + 2 * _)
    rw [e3]
    exact h l _ (by omega) hq (by omega) (by omega)

def t_panel_3836 (r : Addr) : PSx Nat := (qSeq (qAsg (qBin addD (qC (.int 1)) (qCallG (nextS r) (qCons (qVar 0) (qCons (qVar 1) qNil)))) 2) (qRet (qTup (qCons (qCallG (sp_items_cafd r) (qCons (qVar 0) (qCons (qVar 2) qNil))) (qCons (qCallG (sp_rules_ccf3 r) (qCons (qVar 0) (qCons (qVar 2) qNil))) qNil)))))

def sp_panel_3836 (r : Addr) : Spec Nat := fun ds g R => ∃ n : Nat, ds = [.obj r, .int n] ∧ 1 ≤ n ∧ n ≤ 60 ∧ g + 1000 < drawLine ∧ ∀ (p : Pan) (g' : Nat), PanOk n p → g ≤ g' → g' ≤ g + 400 → R (panD p) g'
theorem len_panel_3836 (r : Addr) (ds : List D) (g : Nat) (R : D → Nat → Prop) (h : sp_panel_3836 r ds g R) : ds.length = 2 := by
  obtain ⟨m, rfl, _⟩ := h; rfl
theorem p_panel_3836 (r : Addr) (ds : List D) (g : Nat) (R : D → Nat → Prop) (h : sp_panel_3836 r ds g R) : t_panel_3836 r { nx := fun s => R .non s.g, rt := R } ⟨startL 3 ds, g⟩ := by
  obtain ⟨n, rfl, hn0, hn, hg, h⟩ := h
  refine ⟨n, rfl, by omega, by omega, (by show g < drawLine; omega), fun k k0 k1 => ?_⟩
  have e : (1 : Int) + k = ((1 + k.toNat : Nat) : Int) := by omega
  refine ⟨1 + k.toNat, ?_, by omega, (by show g + 1 + 500 < drawLine; omega), fun its h1 h2 => ?_⟩
  · rw [← e]
  refine ⟨1 + k.toNat, ?_, by omega, by omega, (by show g + 1 + 2 + 6 * (1 + k.toNat) + 500 < drawLine; omega), fun rus g' h3 h4 h5 h6 => ?_⟩
  · rw [← e]
  have h5' : g + 1 + 2 + 6 * (1 + k.toNat) ≤ g' := h5
  have h6' : g' ≤ g + 1 + 2 + 6 * (1 + k.toNat) + 34 := h6
  exact ⟨(by show 2 ≤ sizeLine; decide), h ⟨its, rus⟩ g' ⟨by show 1 ≤ its.length; omega, by show its.length ≤ n; omega, h2, h3, by show ∀ q ∈ rus, RuOk its.length q; rw [h1]; exact h4⟩ (by omega) (by omega)⟩

def t_lowest_ba06 : PSx Unit := (qSeq (qPar 2 3 (qCons (qCall (fn1 absD) (qCons (qVar 0) qNil)) (qCons (qVar 1) qNil))) (qSeq (qWhile (qB (qBin gtD (qVar 3) (qC (.int 0)))) (qPar 2 3 (qCons (qVar 3) (qCons (qBin modD (qVar 2) (qVar 3)) qNil)))) (qRet (qTup (qCons (qBin fdivD (qVar 0) (qVar 2)) (qCons (qBin fdivD (qVar 1) (qVar 2)) qNil))))))

def sp_lowest_ba06 : Spec0 := fun ds R => ∃ n d : Int, ds = [.int n, .int d] ∧ 0 < d ∧ Sz 9000 d ∧ R (frD (Rat.divInt n d))
theorem len_lowest_ba06 (ds : List D) (R : DK) (h : sp_lowest_ba06 ds R) : ds.length = 2 := by
  obtain ⟨a, b, rfl, _⟩ := h; rfl
theorem p_lowest_ba06 (ds : List D) (R : DK) (h : sp_lowest_ba06 ds R) : t_lowest_ba06 { nx := fun _ => R .non, rt := fun d _ => R d } ⟨startL 4 ds, ()⟩ := by
  obtain ⟨n, d, rfl, h0, hs, h⟩ := h
  refine ⟨fun m s => ∃ x y : Nat, s = ⟨[some (.val (.int n)), some (.val (.int d)), some (.val (.int x)), some (.val (.int y))], ()⟩ ∧ Nat.gcd x y = Nat.gcd n.natAbs d.natAbs ∧ m = y, ⟨d.natAbs, _, Wk.refl _, n.natAbs, d.natAbs, ?_, rfl, rfl⟩, ?_⟩
  · have e : ((d.natAbs : Nat) : Int) = d := by omega
    rw [e]; rfl
  rintro m s ⟨x, y, rfl, e, hm⟩
  refine ⟨fun hc => ?_, fun hc => ?_⟩
  · have hy : 0 < y := by have := of_decide_eq_true hc; omega
    refine ⟨by omega, x % y, _, by rw [hm]; exact Nat.mod_lt _ hy, Wk.refl _, y, x % y, rfl, ?_, rfl⟩
    rw [← e, Nat.gcd_comm x y, Nat.gcd_rec y x, Nat.gcd_comm]
  · have hy : y = 0 := by have := of_decide_eq_false hc; omega
    subst hy
    rw [Nat.gcd_zero_right] at e
    subst e
    have hgp : 0 < n.natAbs.gcd d.natAbs := Nat.gcd_pos_of_pos_right _ (by omega)
    have hgs : Sz 9000 (n.natAbs.gcd d.natAbs : Nat) := by
      unfold Sz at *
      exact Nat.lt_of_le_of_lt (Nat.gcd_le_right _ (by omega)) hs
    obtain ⟨e1, e2⟩ := divInt_parts (n := n) (d := d) (by omega)
    rw [if_neg (by omega)] at e1 e2
    have dk : ∀ i, DivOk i ((n.natAbs.gcd d.natAbs : Nat) : Int) := fun i => divOk_of (b := 9000) hgs (by omega)
    refine ⟨dk _, dk _, (by show 2 ≤ sizeLine; decide), ?_⟩
    unfold frD at h
    rw [e1, e2] at h; exact h

def t_less_7322 : PSx Unit := (qRet (qBin ltD (qBin mulD (qBin ixD (qVar 0) (qC (.int 0))) (qBin ixD (qVar 1) (qC (.int 1)))) (qBin mulD (qBin ixD (qVar 1) (qC (.int 0))) (qBin ixD (qVar 0) (qC (.int 1))))))

def sp_less_7322 : Spec0 := fun ds R => ∃ x y : Rat, ds = [frD x, frD y] ∧ SzR 9000 x ∧ SzR 9000 y ∧ R (.bl (decide (x < y)))
theorem len_less_7322 (ds : List D) (R : DK) (h : sp_less_7322 ds R) : ds.length = 2 := by
  obtain ⟨_, _, rfl, _⟩ := h; rfl
theorem p_less_7322 (ds : List D) (R : DK) (h : sp_less_7322 ds R) : t_less_7322 { nx := fun _ => R .non, rt := fun d _ => R d } ⟨startL 2 ds, ()⟩ := by
  obtain ⟨x, y, rfl, hx, hy, h⟩ := h
  refine ⟨_, rfl, _, rfl, hx.1.mulOk hy.2, _, rfl, _, rfl, hy.1.mulOk hx.2, ?_⟩
  have e : decide (x < y) = decide (x.num * y.den < y.num * x.den) := by rw [decide_eq_decide]; exact Rat.lt_iff x y
  rw [e] at h; exact h

def t_fraction_6a64 (r : Addr) : PSx Nat := (qSeq (qAsg (qBin ixD (qSet (qLst (qCons (qC (.int 3)) (qCons (qC (.int 9)) (qCons (qBin powD (qC (.int 10)) (qC (.int 6))) (qCons (qBin powD (qC (.int 10)) (qC (.int 29))) qNil)))))) (qCallG (nextS r) (qCons (qVar 0) (qCons (qC (.int 4)) qNil)))) 1) (qRet (qCallP (sp_lowest_ba06) (qCons (qBin subD (qCallG (nextS r) (qCons (qVar 0) (qCons (qBin addD (qBin mulD (qC (.int 2)) (qVar 1)) (qC (.int 1))) qNil))) (qVar 1)) (qCons (qBin addD (qC (.int 1)) (qCallG (nextS r) (qCons (qVar 0) (qCons (qVar 1) qNil)))) qNil)))))

def sp_fraction_6a64 (r : Addr) : Spec Nat := fun ds g R => ds = [.obj r] ∧ g + 2 < drawLine ∧ ∀ x : Rat, SzR 100 x → R (frD x) (g + 3)
theorem len_fraction_6a64 (r : Addr) (ds : List D) (g : Nat) (R : D → Nat → Prop) (h : sp_fraction_6a64 r ds g R) : ds.length = 1 := by
  obtain ⟨rfl, _⟩ := h; rfl
theorem great_at {k : Int} (h0 : 0 ≤ k) (h1 : k < 4) : ∃ g : Int, idx [D.int 3, .int 9, .int (10 ^ (6 : Int).toNat), .int (10 ^ (29 : Int).toNat)] k = some (.int g) ∧ 3 ≤ g ∧ g ≤ 10 ^ 29 := by
  have h : k = 0 ∨ k = 1 ∨ k = 2 ∨ k = 3 := by omega
  rcases h with rfl | rfl | rfl | rfl
  · exact ⟨_, rfl, by decide, by decide⟩
  · exact ⟨_, rfl, by decide, by decide⟩
  · exact ⟨_, rfl, by decide, by decide⟩
  · exact ⟨_, rfl, by decide, by decide⟩
theorem p_fraction_6a64 (r : Addr) (ds : List D) (g : Nat) (R : D → Nat → Prop) (h : sp_fraction_6a64 r ds g R) : t_fraction_6a64 r { nx := fun s => R .non s.g, rt := R } ⟨startL 2 ds, g⟩ := by
  obtain ⟨rfl, hg, h⟩ := h
  refine ⟨⟨by decide, by decide, by decide⟩, ⟨by decide, by decide, by decide⟩, (by show 4 ≤ sizeLine; decide), ?_⟩
  refine ⟨4, rfl, by decide, by decide, (by show g < drawLine; omega), fun k k0 k1 => ?_⟩
  obtain ⟨m, e, m1, m2⟩ := great_at k0 k1
  refine ⟨.int m, e, ?_⟩
  refine ⟨.inl (.inl ⟨by decide, by decide⟩), ?_⟩
  refine ⟨2 * m + 1, rfl, by omega, ?_, (by show g + 1 < drawLine; omega), fun a a0 a1 => ?_⟩
  · have : (10 : Int) ^ 29 * 2 + 1 ≤ 10 ^ 60 := by decide
    omega
  refine ⟨m, rfl, by omega, ?_, (by show g + 2 < drawLine; omega), fun b b0 b1 => ?_⟩
  · have : (10 : Int) ^ 29 ≤ 10 ^ 60 := by decide
    omega
  have lim : (10 : Int) ^ 29 < 2 ^ 97 := by decide
  have s1 : Sz 100 (a - m) := by
    unfold Sz
    have : (2 : Int) ^ 97 < 2 ^ 100 := by decide
    have e : ((2 ^ 100 : Nat) : Int) = 2 ^ 100 := by decide
    omega
  have s2 : Sz 100 (1 + b) := by
    unfold Sz
    have : (2 : Int) ^ 97 < 2 ^ 100 := by decide
    have e : ((2 ^ 100 : Nat) : Int) = 2 ^ 100 := by decide
    omega
  exact ⟨a - m, 1 + b, rfl, by omega, s2.le (by decide), h _ (SzR.divInt s1 s2 (by omega))⟩

def t_all_groups_7d0b : PSx Unit := (qSeq (qAsg (qSet (qLst (qCons (qTup qNil) qNil))) 1) (qSeq (qFor (qItems (qVar 0)) (.nm 2) (qAsg (qBin addD (qVar 1) (qSet (qLc (qItems (qVar 1)) (.nm 3) [3] qYes (qBin addD (qVar 3) (qTup (qCons (qVar 2) qNil)))))) 1)) (qRet (qSet (qCallF sortedFT (qCons (qVar 1) qNil))))))

def sp_all_groups_7d0b : Spec0 := fun ds R => ∃ l : List Nat, ds = [.lst (l.map natD)] ∧ l.length ≤ 10 ∧ l.Pairwise (· < ·) ∧ R (.lst ((grpS l).map grD))
theorem len_all_groups_7d0b (ds : List D) (R : DK) (h : sp_all_groups_7d0b ds R) : ds.length = 1 := by
  obtain ⟨_, rfl, _⟩ := h; rfl
def growG (found : List (List Nat)) (x : Nat) : List (List Nat) := found ++ found.map (· ++ [x])
theorem grow_perm : ∀ (l : List Nat) (x : Nat) {f : List (List Nat)}, f.Perm (grpS l) → (growG f x).Perm (grpS (l ++ [x])) := fun l x f h =>
  (h.append (h.map _)).trans (grpS_perm_snoc x l).symm
theorem tiD_gr (gs : List Nat) : tiD (natsI gs) = grD gs := by
  show D.tup ((natsI gs).map D.int) = D.tup (gs.map natD)
  unfold natsI; rw [List.map_map]; rfl
theorem p_all_groups_7d0b (ds : List D) (R : DK) (h : sp_all_groups_7d0b ds R) : t_all_groups_7d0b { nx := fun _ => R .non, rt := fun d _ => R d } ⟨startL 4 ds, ()⟩ := by
  obtain ⟨l, rfl, hl, hs, h⟩ := h
  have line : (10000000 : Nat) ≤ sizeLine := line_big
  refine ⟨(by show 0 ≤ sizeLine; omega), (by show 1 ≤ sizeLine; omega), ?_⟩
  refine ⟨fun j s => ∃ f : List (List Nat), ([] :: f).Perm (grpS (l.take j)) ∧ s = ⟨[some (.val (.lst (l.map natD))), some (.val (.lst (([] :: f).map grD))), none, none], ()⟩, ⟨_, Wk.refl _, [], ?_, rfl⟩, ?_, ?_⟩
  · exact List.Perm.refl _
  · rintro j d s hd ⟨f, hf, rfl⟩
    rw [List.getElem?_map] at hd
    obtain ⟨x, hx, rfl⟩ := Option.map_eq_some_iff.mp hd
    have jl := (List.getElem?_eq_some_iff.mp hx).1
    have et : l.take (j + 1) = l.take j ++ [x] := by rw [List.take_add_one, hx]; rfl
    have gl : ([] :: f : List (List Nat)).length ≤ 2 ^ 10 := by
      rw [hf.length_eq, grpS_length]
      exact Nat.pow_le_pow_right (by decide) (by rw [List.length_take]; omega)
    have ga : ∀ g ∈ ([] :: f : List (List Nat)), g.length ≤ 10 := fun g hg => by
      have := (grpS_sub (hf.mem_iff.mp hg)).length_le
      rw [List.length_take] at this; omega
    refine lc_mapl ([] :: f) grD (fun g => grD (g ++ [x])) (by omega) (fun g hg => ⟨_, rfl, fun T h => ⟨(by show 1 ≤ sizeLine; omega), (by show (g.map natD).length + 1 ≤ sizeLine; have := ga g hg; rw [List.length_map]; omega), ?_⟩⟩) ?_ (by decide) (by rfl)
    · have e : grD (g ++ [x]) = .tup (g.map natD ++ [natD x]) := by show D.tup ((g ++ [x]).map natD) = _; rw [List.map_append]; rfl
      rw [e] at h; exact h
    · refine ⟨(by show (([] :: f : List (List Nat)).map grD).length + (([] :: f : List (List Nat)).map fun g => grD (g ++ [x])).length ≤ sizeLine; rw [List.length_map, List.length_map]; omega), ?_⟩
      have eg : growG ([] :: f) x = [] :: (f ++ ([] :: f).map (· ++ [x])) := rfl
      refine ⟨_, ?_, f ++ ([] :: f).map (· ++ [x]), ?_, rfl⟩
      · have e : ([] :: f).map grD ++ ([] :: f).map (fun g => grD (g ++ [x])) = ([] :: (f ++ ([] :: f).map (· ++ [x]))).map grD := by
          rw [← eg]; unfold growG; rw [List.map_append, List.map_map]; rfl
        rw [← e]
        exact Wk.of (by repeat' first | exact trivial | exact .inr rfl | exact .inl rfl | refine ⟨?_, ?_⟩)
      · rw [← eg, et]; exact grow_perm _ _ hf
  · rintro s ⟨f, hf, rfl⟩
    rw [List.length_map, List.take_of_length_le (Nat.le_refl _)] at hf
    refine ⟨f.map natsI, ?_, fun out hp hw => ?_⟩
    · have e : ([] :: f.map natsI).map tiD = ([] :: f).map grD := by
        have : ([] :: f.map natsI) = ([] :: f).map natsI := rfl
        rw [this, List.map_map]
        exact List.map_congr_left fun g _ => tiD_gr g
      rw [e]
    · have hq : out.Perm ((grpS l).map natsI) := by
        have e : ([] :: f.map natsI) = ([] :: f).map natsI := rfl
        rw [e] at hp
        exact hp.trans (hf.map _)
      have e := sorted_eq (fun a b h1 h2 => lex_eq h2 h1) hq hw (grpS_sorted hs)
      rw [e, List.map_map]
      have e2 : (grpS l).map (tiD ∘ natsI) = (grpS l).map grD := List.map_congr_left fun g _ => tiD_gr g
      rw [e2]; exact h

def t_is_integer_8a5f : PSx Unit := (qRet (qAndV (qIsi "int" (qVar 0)) (qNotV (qIsi "bool" (qVar 0)))))

def sp_is_integer_8a5f : Spec0 := fun ds R => ∃ d : D, ds = [d] ∧ (∀ p, d ≠ .obj p) ∧ R (.bl (isI d))
theorem len_is_integer_8a5f (ds : List D) (R : DK) (h : sp_is_integer_8a5f ds R) : ds.length = 1 := by
  obtain ⟨d, rfl, _⟩ := h; rfl
theorem p_is_integer_8a5f (ds : List D) (R : DK) (h : sp_is_integer_8a5f ds R) : t_is_integer_8a5f { nx := fun _ => R .non, rt := fun d _ => R d } ⟨startL 1 ds, ()⟩ := by
  obtain ⟨d, rfl, ho, h⟩ := h
  refine ⟨ho, ⟨fun hc => ⟨ho, ?_⟩, fun hc => ?_⟩⟩
  · cases d <;> first | exact h | cases hc
  · cases d <;> first | exact h | cases hc

def t_is_within_3133 : PSx Unit := (qRet (qAndV (qCallP (sp_is_integer_8a5f) (qCons (qVar 0) qNil)) (qChain leD leD (qVar 1) (qVar 0) (qVar 2))))

def sp_is_within_3133 : Spec0 := fun ds R => ∃ (d : D) (lo hi : Int), ds = [d, .int lo, .int hi] ∧ (∀ p, d ≠ .obj p) ∧ R (.bl (inI lo hi d))
theorem len_is_within_3133 (ds : List D) (R : DK) (h : sp_is_within_3133 ds R) : ds.length = 3 := by
  obtain ⟨d, _, _, rfl, _⟩ := h; rfl
theorem p_is_within_3133 (ds : List D) (R : DK) (h : sp_is_within_3133 ds R) : t_is_within_3133 { nx := fun _ => R .non, rt := fun d _ => R d } ⟨startL 3 ds, ()⟩ := by
  obtain ⟨d, lo, hi, rfl, ho, h⟩ := h
  refine ⟨d, rfl, ho, ⟨fun hc => ?_, fun hc => ?_⟩⟩
  · cases d with
    | int i =>
      by_cases h1 : lo ≤ i
      · show match D.bl (decide (lo ≤ i)) with | .bl true => _ | .bl false => _ | _ => False
        have e : inI lo hi (.int i) = decide (i ≤ hi) := by simp [inI, h1]
        rw [e] at h
        rw [decide_eq_true h1]; exact h
      · show match D.bl (decide (lo ≤ i)) with | .bl true => _ | .bl false => _ | _ => False
        have e : inI lo hi (.int i) = false := by simp [inI, h1]
        rw [e] at h
        rw [decide_eq_false h1]; exact h
    | _ => cases hc
  · cases d <;> first | exact h | cases hc

def t_is_group_a50b : PSx Unit := (qSeq (qIf (qOr (qNot (qB (qIsi "tuple" (qVar 1)))) (qNot (qB (qCall (fn1 allD) (qCons (qSet (qLc (qItems (qVar 1)) (.nm 2) [2] qYes (qCallP (sp_is_within_3133) (qCons (qVar 2) (qCons (qC (.int 0)) (qCons (qBin subD (qCall (fn1 lenD) (qCons (qBin ixD (qVar 0) (qC (.int 0))) qNil)) (qC (.int 1))) qNil)))))) qNil))))) (qRet (qC (.bl false))) qNext) (qRet (qCall (fn1 allD) (qCons (qSet (qLc (qZip (qCons (qVar 1) (qCons (qSl (qVar 1) (qPart (qC (.int 1))) qNoPart) qNil))) (.tp [(.nm 3), (.nm 4)]) [3, 4] qYes (qBin ltD (qVar 3) (qVar 4)))) qNil))))

def sp_is_group_a50b : Spec0 := fun ds R => ∃ (its : List (Int × Int)) (rd d : D), ds = [pD its rd, d] ∧ gOk d ∧ R (.bl (isG its.length d))
theorem len_is_group_a50b (ds : List D) (R : DK) (h : sp_is_group_a50b ds R) : ds.length = 2 := by
  obtain ⟨_, _, _, rfl, _⟩ := h; rfl
theorem p_is_group_a50b (ds : List D) (R : DK) (h : sp_is_group_a50b ds R) : t_is_group_a50b { nx := fun _ => R .non, rt := fun d _ => R d } ⟨startL 5 ds, ()⟩ := by
  obtain ⟨its, rd, d, rfl, ho, h⟩ := h
  have line : (10000000 : Nat) ≤ sizeLine := line_big
  have ml : (its.map itD).length = its.length := by simp
  refine ⟨ho.1, ⟨fun hc => ?_, fun hc => ?_⟩⟩
  · -- not a tuple
    have hc : (!isTy "tuple" d) = true := hc
    refine ⟨fun _ => ?_, fun z => by cases z⟩
    cases d <;> first | exact h | (simp [isTy] at hc)
  · have hc : (!isTy "tuple" d) = false := hc
    obtain ⟨xs, rfl⟩ : ∃ xs, d = .tup xs := by cases d <;> first | exact ⟨_, rfl⟩ | (simp [isTy] at hc)
    obtain ⟨xl, xo⟩ := ho.2 xs rfl
    refine lc_all (fun x => D.bl (inI 0 ((its.length : Int) - 1) x)) (by omega) (fun x hx => ⟨_, rfl, fun T h => ⟨_, rfl, x, 0, (its.length : Int) - 1, ?_, xo x hx, h⟩⟩) ?_ (by decide) (by rfl)
    · rw [← ml]
    refine ⟨xs.map (inI 0 ((its.length : Int) - 1)), ?_, ?_⟩
    · have : (xs.map fun x => D.bl (inI 0 ((its.length : Int) - 1) x)) = (xs.map (inI 0 ((its.length : Int) - 1))).map D.bl := by rw [List.map_map]; rfl
      rw [this]; exact asBls_map _
    rw [List.all_map]
    have ea : (xs.all (id ∘ inI 0 ((its.length : Int) - 1))) = xs.all (inI 0 ((its.length : Int) - 1)) := rfl
    rw [ea]
    refine ⟨fun hn => ?_, fun hn => ?_⟩
    · have hn : (!(xs.all (inI 0 ((its.length : Int) - 1)))) = true := hn
      have hf : xs.all (inI 0 ((its.length : Int) - 1)) = false := by simpa using hn
      have e : isG its.length (.tup xs) = false := by
        show (match asInts xs with | some is => (is.all fun i => decide (0 ≤ i) && decide (i ≤ (its.length : Int) - 1)) && ascI is | none => false) = false
        cases q : asInts xs with
        | none => rfl
        | some is =>
          rw [allI_not q] at hf
          show ((is.all fun i => decide (0 ≤ i) && decide (i ≤ (its.length : Int) - 1)) && ascI is) = false
          rw [hf]; rfl
      rw [e] at h
      exact h
    · have hn : (!(xs.all (inI 0 ((its.length : Int) - 1)))) = false := hn
      have ht : xs.all (inI 0 ((its.length : Int) - 1)) = true := by simpa using hn
      obtain ⟨is, q, hb⟩ := allI_ints ht
      have e : isG its.length (.tup xs) = ascI is := by
        show (match asInts xs with | some is => (is.all fun i => decide (0 ≤ i) && decide (i ≤ (its.length : Int) - 1)) && ascI is | none => false) = ascI is
        rw [q]
        show ((is.all fun i => decide (0 ≤ i) && decide (i ≤ (its.length : Int) - 1)) && ascI is) = ascI is
        rw [hb]; rfl
      rw [e] at h
      have e0 := asInts_eq q
      subst e0
      have c1 : cut (is.map D.int) (some 1) none = (is.drop 1).map D.int := by
        have := cut_from (is.map D.int) 1
        rw [← List.map_drop] at this
        exact this
      have il : is.length ≤ 100000 := by simpa using xl
      dsimp only [qNext]
      show lcB _ _ _ _ _ (zipD (is.map D.int) (cut (is.map D.int) (some 1) none)) _
      rw [c1, zipD_map]
      refine lc_mapl (is.zip (is.drop 1)) (fun p => D.tup [.int p.1, .int p.2]) (fun p => D.bl (decide (p.1 < p.2))) (by rw [List.length_zip]; omega) (fun p hp => ⟨_, rfl, fun T h => h⟩) ?_ (by decide) (by rfl)
      refine ⟨(is.zip (is.drop 1)).map (fun p => decide (p.1 < p.2)), ?_, ?_⟩
      · have : ((is.zip (is.drop 1)).map fun p => D.bl (decide (p.1 < p.2))) = ((is.zip (is.drop 1)).map fun p => decide (p.1 < p.2)).map D.bl := by rw [List.map_map]; rfl
        rw [this]; exact asBls_map _
      rw [List.all_map]; exact h

def t_is_upward_11cd : PSx Unit := (qSeq (qIf (qNot (qB (qCallP (sp_is_group_a50b) (qCons (qVar 0) (qCons (qVar 1) qNil))))) (qRet (qC (.bl false))) qNext) (qRet (qCall (fn1 allD) (qCons (qSet (qLc (qItems (qBin ixD (qVar 0) (qC (.int 1)))) (.tp [(.nm 2), (.nm 3)]) [2, 3] qYes (qOrV (qBin inD (qVar 3) (qVar 1)) (qBin notInD (qVar 2) (qVar 1))))) qNil))))

def sp_is_upward_11cd : Spec0 := fun ds R => ∃ (m : Nat) (p : Pan) (d : D), ds = [panD p, d] ∧ m ≤ 100 ∧ PanOk m p ∧ gOk d ∧ (isG p.its.length d = false → R (.bl false)) ∧ (∀ gs, GrOk p.its.length gs → d = grD gs → R (.bl (upB p gs)))
theorem len_is_upward_11cd (ds : List D) (R : DK) (h : sp_is_upward_11cd ds R) : ds.length = 2 := by
  obtain ⟨_, _, _, rfl, _⟩ := h; rfl
theorem p_is_upward_11cd (ds : List D) (R : DK) (h : sp_is_upward_11cd ds R) : t_is_upward_11cd { nx := fun _ => R .non, rt := fun d _ => R d } ⟨startL 4 ds, ()⟩ := by
  obtain ⟨m, p, d, rfl, hm, hp, ho, h0, h1⟩ := h
  have hf := hp.few
  refine ⟨p.its, _, d, rfl, ho, ⟨fun hc => ?_, fun hc => ?_⟩⟩
  · have hc : (!isG p.its.length d) = true := hc
    exact h0 (by simpa using hc)
  · have hc : (!isG p.its.length d) = false := hc
    obtain ⟨gs, rfl, hg⟩ := isG_ex (show isG p.its.length d = true by simpa using hc)
    have h := h1 gs hg rfl
    dsimp only [qNext]
    refine ⟨_, rfl, ?_⟩
    refine lc_mapl p.rus itD (fun q => D.bl (upR gs q)) (by omega) (fun q hq => ?_) ?_ (by decide) (by rfl)
    · obtain ⟨a, b, rfl, ha, hb, _⟩ := rule_nats (hp.ru q hq)
      refine ⟨_, rfl, fun T h => ⟨⟨rfl, nats_pln gs, Nat.zero_le 60⟩, ?_⟩⟩
      have e1 := isin_nats (gs := gs) (k := b)
      have e2 := notin_nats (gs := gs) (k := a)
      refine ⟨fun hb => ?_, fun hb => ⟨⟨rfl, nats_pln gs, Nat.zero_le 60⟩, ?_⟩⟩
      · have hb : (false ^^ (gs.map natD).any fun y => D.eqv y (.int b)) = true := hb
        rw [e1] at hb
        have e : upR gs ((a : Int), (b : Int)) = true := by simp only [upR, Int.toNat_natCast, hb, Bool.true_or]
        rw [e] at h; exact h
      · have hb : (false ^^ (gs.map natD).any fun y => D.eqv y (.int b)) = false := hb
        rw [e1] at hb
        have e : upR gs ((a : Int), (b : Int)) = (true ^^ (gs.map natD).any fun y => D.eqv y (.int a)) := by rw [e2]; simp only [upR, Int.toNat_natCast, hb, Bool.false_or]
        rw [e] at h; exact h
    · refine ⟨p.rus.map (upR gs), ?_, ?_⟩
      · have : (p.rus.map fun q => D.bl (upR gs q)) = (p.rus.map (upR gs)).map D.bl := by rw [List.map_map]; rfl
        rw [this]; exact asBls_map _
      rw [List.all_map]; exact h

def t_upward_sets_3622 : PSx Unit := (qRet (qCall (fn1 tupleD) (qCons (qSet (qLc (qItems (qCallP (sp_all_groups_7d0b) (qCons (qSet (qLstRg1 (qCall (fn1 lenD) (qCons (qBin ixD (qVar 0) (qC (.int 0))) qNil)))) qNil))) (.nm 1) [1] (qB (qCallP (sp_is_upward_11cd) (qCons (qVar 0) (qCons (qVar 1) qNil)))) (qVar 1))) qNil)))

def sp_upward_sets_3622 : Spec0 := fun ds R => ∃ (m : Nat) (p : Pan), ds = [panD p] ∧ m ≤ 10 ∧ PanOk m p ∧ R (.tup ((upG p).map grD))
theorem len_upward_sets_3622 (ds : List D) (R : DK) (h : sp_upward_sets_3622 ds R) : ds.length = 1 := by
  obtain ⟨_, _, rfl, _⟩ := h; rfl
theorem p_upward_sets_3622 (ds : List D) (R : DK) (h : sp_upward_sets_3622 ds R) : t_upward_sets_3622 { nx := fun _ => R .non, rt := fun d _ => R d } ⟨startL 2 ds, ()⟩ := by
  obtain ⟨m, p, rfl, hm, hp, h⟩ := h
  have ht := hp.top
  have ml : (p.its.map itD).length = p.its.length := by simp
  refine ⟨_, rfl, ⟨by rw [ml]; omega, by rw [ml]; omega⟩, List.range p.its.length, ?_, by rw [List.length_range]; omega, List.pairwise_lt_range, ?_⟩
  · rw [ml]
    have : rgD 0 (p.its.length : Int) = (List.range p.its.length).map natD := by
      unfold rgD
      have e : ((p.its.length : Int) - 0).toNat = p.its.length := by omega
      rw [e]
      exact List.map_congr_left fun k _ => by simp [natD]
    rw [this]
  · have gl : (grpS (List.range p.its.length)).length ≤ 2 ^ 10 := by
      rw [grpS_length, List.length_range]
      exact Nat.pow_le_pow_right (by decide) (by omega)
    refine lc_list (grpS (List.range p.its.length)) grD (upB p) grD (by omega) (fun g hg => ?_) h (by decide) (by rfl)
    have go := GrOk.of_sub (grpS_sub hg)
    have gl := (grpS_sub hg).length_le
    rw [List.length_range] at gl
    refine ⟨_, rfl, fun T h => ⟨m, p, grD g, rfl, by omega, hp, gOk_gr (by omega), fun hc => ?_, fun gs hgs e => ?_⟩, fun _ T h => h⟩
    · rw [isG_gr go] at hc; cases hc
    · have : g = gs := by
        have e : D.tup (g.map natD) = D.tup (gs.map natD) := e
        injection e with e
        have inj : ∀ {a b : List Nat}, a.map natD = b.map natD → a = b := fun {a} => by
          induction a with
          | nil => intro b e; cases b with | nil => rfl | cons => cases e
          | cons x a ih =>
            intro b e
            cases b with
            | nil => cases e
            | cons y b =>
              simp only [List.map_cons, List.cons.injEq, natD, D.int.injEq] at e
              rw [ih e.2, show x = y by omega]
        exact inj e
      rw [← this]; exact h

def t_rest_surplus_6c50 : PSx Unit := (qSeq (qAsgT (qVar 3) (.tp [(.nm 4), (.nm 5)])) (qSeq (qAsg (qSet (qLc (qItems (qVar 1)) (.nm 7) [7] (qB (qBin neD (qVar 7) (qVar 2))) (qBin ixD (qBin ixD (qVar 0) (qC (.int 0))) (qVar 7)))) 6) (qRet (qCall (fn1 sumD) (qCons (qSet (qLc (qItems (qVar 6)) (.tp [(.nm 8), (.nm 9)]) [8, 9] qYes (qBin mulD (qVar 9) (qBin subD (qBin mulD (qVar 8) (qVar 5)) (qVar 4))))) qNil)))))

def sp_rest_surplus_6c50 : Spec0 := fun ds R => ∃ (p : Pan) (gs : List Nat) (it : Nat) (v : Rat), ds = [panD p, grD gs, natD it, frD v] ∧ (∀ q ∈ p.its, ItB q) ∧ gs.length ≤ 1000 ∧ (∀ i ∈ gs, i < p.its.length) ∧ SzR 1000 v ∧ R (.int (rsS p it v gs))
theorem len_rest_surplus_6c50 (ds : List D) (R : DK) (h : sp_rest_surplus_6c50 ds R) : ds.length = 4 := by
  obtain ⟨a, b, c, d, rfl, _⟩ := h; rfl
theorem p_rest_surplus_6c50 (ds : List D) (R : DK) (h : sp_rest_surplus_6c50 ds R) : t_rest_surplus_6c50 { nx := fun _ => R .non, rt := fun d _ => R d } ⟨startL 10 ds, ()⟩ := by
  obtain ⟨p, gs, it, v, rfl, hb, hn, hi, hv, h⟩ := h
  let P := some (L.val (panD p))
  let Gs := some (L.val (grD gs))
  let It := some (L.val (natD it))
  let V := some (L.val (frD v))
  refine seq_mid (M := fun s' => s' = ⟨[P, Gs, It, V, some (.val (.int v.num)), some (.val (.int v.den)), none, none, none, none], ()⟩) ?_ ?_
  rotate_left
  · intro N hN; exact put_tg (tg := .tp [.nm 4, .nm 5]) (d := frD v) rfl (hN _ rfl)
  rintro _ rfl
  let Nm := some (L.val (.int v.num))
  let Dn := some (L.val (.int v.den))
  have fi : ∀ i ∈ gs.filter (fun j => decide (j ≠ it)), i < p.its.length := fun i h => hi i (List.mem_filter.mp h).1
  have fl : (gs.filter (fun j => decide (j ≠ it))).length ≤ 1000 := Nat.le_trans (List.length_filter_le _ _) hn
  obtain ⟨sl, es⟩ : ∃ sl, sl = selI p.its (gs.filter fun j => decide (j ≠ it)) := ⟨_, rfl⟩
  have hs : ∀ q ∈ sl, ItB q := fun q hq => by rw [es] at hq; exact hb q (sel_mem fi hq)
  have ll : sl.length ≤ 1000 := by rw [es]; unfold selI; rw [List.length_map]; exact fl
  refine seq_mid (M := fun s' => s' = ⟨[P, Gs, It, V, Nm, Dn, some (.val (.lst (sl.map itD))), none, none, none], ()⟩) ?_ ?_
  rotate_left
  · intro N hN
    refine lc_list gs natD (fun j => decide (j ≠ it)) (fun i => itD (p.its.getD i (0, 1))) (by omega) (fun i hi' => ⟨_, rfl, fun T h => ⟨⟨rfl, rfl, by show 0 ≤ 64; decide, by show 0 ≤ 64; decide⟩, ?_⟩, fun _ T h => ⟨_, rfl, _, idx_it (hi i hi'), h⟩⟩) ?_ (by decide) (by rfl)
    · have e : (!D.eqv (natD i) (natD it)) = decide (i ≠ it) := by
        show (!decide ((i : Int) = (it : Int))) = _
        by_cases c : i = it
        · simp [c]
        · have : ¬ (i : Int) = (it : Int) := fun z => c (by omega)
          simp [c, this]
      rw [e]; exact h
    · have e1 : ((gs.filter fun j => decide (j ≠ it)).map fun i => itD (p.its.getD i (0, 1))) = sl.map itD := by rw [es]; unfold selI; rw [List.map_map]; rfl
      rw [e1]; exact hN _ rfl
  rintro _ rfl
  refine lc_mapl sl itD (fun q => D.int (q.2 * (q.1 * v.den - v.num))) (by omega) (fun q hq => ?_) ?_ (by decide) (by rfl)
  · have b := hs q hq
    have z := (b.1.mul hv.2).le (b := 1100) (by decide)
    exact ⟨_, rfl, fun T h => ⟨b.1.mulOk hv.2, b.2.1.mulOk (z.sub (hv.1.le (by decide))), h⟩⟩
  have e2 : (sl.map fun q => D.int (q.2 * (q.1 * v.den - v.num))) = (sl.map fun q => q.2 * (q.1 * v.den - v.num)).map D.int := by rw [List.map_map]; rfl
  refine ⟨_, by rw [e2]; exact asInts_map _, ?_⟩
  have e3 : (sl.map fun q => q.2 * (q.1 * (v.den : Int) - v.num)).sum = rsS p it v gs := by rw [es]; rfl
  rw [e3]; exact h

def t_greatest_surpluses_d8a4 : PSx BG := (qSeq (qAsg qDicB 4) (qSeq (qFor (qItems (qCallP (sp_upward_sets_3622) (qCons (qVar 0) qNil))) (.nm 5) (qSeq (qAsg (qPairB (qCons (qBin inD (qVar 2) (qVar 5)) (qCons (qBin inD (qVar 1) (qVar 5)) qNil))) 6) (qSeq (qAsg (qCallP (sp_rest_surplus_6c50) (qCons (qVar 0) (qCons (qVar 5) (qCons (qVar 1) (qCons (qVar 3) qNil))))) 7) (qPutB (qVar 4) (qVar 6) (qCall (fn2 max2) (qCons (qVar 7) (qCons (qGetB (qVar 4) (qVar 6) (qVar 7)) qNil))))))) (qRet (qVar 4))))

def sp_greatest_surpluses_d8a4 : Spec BG := fun ds g R => g = BG.nil ∧ ∃ (m : Nat) (p : Pan) (it wt : Nat) (v : Rat), ds = [panD p, natD it, natD wt, frD v] ∧ PanOk m p ∧ m ≤ 8 ∧ it < p.its.length ∧ wt < p.its.length ∧ SzR 1000 v ∧ ∀ (a : Addr) (ts : List (Addr × Bool × Bool)) (ks : List BE), (∀ b, getB ks b = gsB p wt it v b) → R (.obj a) ⟨ts, some (a, ks)⟩
theorem len_greatest_surpluses_d8a4 (ds : List D) (g : BG) (R : D → BG → Prop) (h : sp_greatest_surpluses_d8a4 ds g R) : ds.length = 4 := by
  obtain ⟨_, _, _, _, _, _, rfl, _⟩ := h; rfl
theorem p_greatest_surpluses_d8a4 (ds : List D) (g : BG) (R : D → BG → Prop) (h : sp_greatest_surpluses_d8a4 ds g R) : t_greatest_surpluses_d8a4 { nx := fun s => R .non s.g, rt := R } ⟨startL 8 ds, g⟩ := by
  obtain ⟨rfl, m, p, it, wt, v, rfl, hp, hm, hi, hw, hv, h⟩ := h
  have line : (10000000 : Nat) ≤ sizeLine := line_big
  have hb : ∀ q ∈ p.its, ItB q := fun q hq => (hp.it q hq).b
  obtain ⟨ul, un⟩ := upG_len hp hm
  let P := some (L.val (panD p))
  let It := some (L.val (natD it))
  let Wt := some (L.val (natD wt))
  let V := some (L.val (frD v))
  refine seq_mid (M := fun s' => ∃ a : Addr, s' = ⟨[P, It, Wt, V, some (.val (.obj a)), none, none, none], ⟨[], some (a, [])⟩⟩) ?_ ?_
  rotate_left
  · intro N hN; exact ⟨rfl, fun a => hN _ ⟨a, rfl⟩⟩
  rintro _ ⟨a, rfl⟩
  let Fo := some (L.val (.obj a))
  refine seq_mid (M := fun s' => ∃ (ts : List (Addr × Bool × Bool)) (ks : List BE), (∀ b, getB ks b = gsB p wt it v b) ∧ s' = ⟨[P, It, Wt, V, Fo, none, none, none], ⟨ts, some (a, ks)⟩⟩) ?_ ?_
  rotate_left
  · intro N hN
    refine ⟨m, p, rfl, by omega, hp, ?_⟩
    refine ⟨fun j s => ∃ (ts : List (Addr × Bool × Bool)) (ks : List BE), ks.length ≤ j ∧ (∀ b, getB ks b = mxB p wt it v ((upG p).take j) b) ∧ s = ⟨[P, It, Wt, V, Fo, none, none, none], ⟨ts, some (a, ks)⟩⟩, ⟨_, Wk.refl _, [], [], Nat.zero_le _, fun b => rfl, rfl⟩, ?_, ?_⟩
    · rintro j d s hd ⟨ts, ks, lk, hk, rfl⟩
      rw [List.getElem?_map] at hd
      obtain ⟨g, hg, rfl⟩ := Option.map_eq_some_iff.mp hd
      have hj : j < (upG p).length := (List.getElem?_eq_some_iff.mp hg).1
      have gm : g ∈ upG p := List.mem_of_getElem? hg
      obtain ⟨g1, g2⟩ := sc_sz hp gm
      have h8 := hp.top
      let Gr := some (L.val (grD g))
      refine put_nm ?_
      refine seq_mid (M := fun s' => ∃ t : Addr, s' = ⟨[P, It, Wt, V, Fo, Gr, some (.val (.obj t)), none], ⟨(t, kdB wt it g) :: ts, some (a, ks)⟩⟩) ?_ ?_
      rotate_left
      · intro N hN
        refine ⟨⟨rfl, nats_pln _, Nat.zero_le 60⟩, ⟨rfl, nats_pln _, Nat.zero_le 60⟩, _, _, rfl, fun t => hN _ ⟨t, ?_⟩⟩
        have e1 : (false ^^ (g.map natD).any fun y => D.eqv y (natD wt)) = inB g wt := isin_natD
        have e2 : (false ^^ (g.map natD).any fun y => D.eqv y (natD it)) = inB g it := isin_natD
        rw [e1, e2]; rfl
      rintro _ ⟨t, rfl⟩
      let Kd := some (L.val (.obj t))
      refine seq_mid (M := fun s' => s' = ⟨[P, It, Wt, V, Fo, Gr, Kd, some (.val (.int (rsS p it v g)))], ⟨(t, kdB wt it g) :: ts, some (a, ks)⟩⟩) ?_ ?_
      rotate_left
      · intro N hN
        exact ⟨p, g, it, v, rfl, hb, by omega, g1, hv, hN _ rfl⟩
      rintro _ rfl
      refine ⟨a, ks, rfl, rfl, ks, t, kdB wt it g, rsS p it v g, rfl, rfl, List.mem_cons_self, rfl, ?_⟩
      refine ⟨a, ks, t, kdB wt it g, _, rfl, rfl, rfl, rfl, List.mem_cons_self, ?_, ?_⟩
      · have := putB_len ks (kdB wt it g) t (max (rsS p it v g) ((getB ks (kdB wt it g)).getD (rsS p it v g))); omega
      · refine ⟨⟨[P, It, Wt, V, Fo, none, none, none], ⟨(t, kdB wt it g) :: ts, some (a, putB ks (kdB wt it g) t (max (rsS p it v g) ((getB ks (kdB wt it g)).getD (rsS p it v g))))⟩⟩, Wk.of (by repeat' first | exact trivial | exact .inr rfl | exact .inl rfl | refine ⟨?_, ?_⟩), _, _, ?_, fun b => ?_, rfl⟩
        · have := putB_len ks (kdB wt it g) t (max (rsS p it v g) ((getB ks (kdB wt it g)).getD (rsS p it v g))); omega
        · rw [getB_put, List.take_add_one, hg]
          show _ = mxB p wt it v ((upG p).take j ++ [g]) b
          rw [mxB_snoc, hk, hk]
          by_cases c : b = kdB wt it g
          · rw [if_pos c, if_pos c.symm, c]
          · rw [if_neg c, if_neg fun z => c z.symm]
    · rintro s ⟨ts, ks, _, hk, rfl⟩
      refine hN _ ⟨ts, ks, fun b => ?_, rfl⟩
      rw [hk b, List.length_map, List.take_length]; rfl
  rintro _ ⟨ts, ks, hk, rfl⟩
  exact h a ts ks hk

def t_common_divisor_2932 : PSx Unit := (qSeq (qWhile (qB (qBin gtD (qVar 1) (qC (.int 0)))) (qPar 0 1 (qCons (qVar 1) (qCons (qBin modD (qVar 0) (qVar 1)) qNil)))) (qRet (qVar 0)))

def sp_common_divisor_2932 : Spec0 := fun ds R => ∃ a b : Nat, ds = [.int a, .int b] ∧ R (.int (Nat.gcd a b : Nat))
theorem len_common_divisor_2932 (ds : List D) (R : DK) (h : sp_common_divisor_2932 ds R) : ds.length = 2 := by
  obtain ⟨a, b, rfl, _⟩ := h; rfl
theorem p_common_divisor_2932 (ds : List D) (R : DK) (h : sp_common_divisor_2932 ds R) : t_common_divisor_2932 { nx := fun _ => R .non, rt := fun d _ => R d } ⟨startL 2 ds, ()⟩ := by
  obtain ⟨a, b, rfl, h⟩ := h
  refine ⟨fun m s => ∃ x y : Nat, s = ⟨[some (.val (.int x)), some (.val (.int y))], ()⟩ ∧ Nat.gcd x y = Nat.gcd a b ∧ m = y, ⟨b, _, Wk.refl _, a, b, rfl, rfl, rfl⟩, ?_⟩
  rintro m s ⟨x, y, rfl, e, hm⟩
  refine ⟨fun hc => ?_, fun hc => ?_⟩
  · have hy : 0 < y := by have := of_decide_eq_true hc; omega
    refine ⟨by omega, x % y, _, by rw [hm]; exact Nat.mod_lt _ hy, Wk.refl _, y, x % y, rfl, ?_, rfl⟩
    rw [← e, Nat.gcd_comm x y, Nat.gcd_rec y x, Nat.gcd_comm]
  · have hy : y = 0 := by have := of_decide_eq_false hc; omega
    subst hy
    rw [Nat.gcd_zero_right] at e
    show R (.int x)
    rw [e]; exact h

def t_make_fraction_15f7 : PSx Unit := (qSeq (qIf (qB (qBin eqD (qVar 1) (qC (.int 0)))) qNever qNext) (qSeq (qAsg (qCallP (sp_common_divisor_2932) (qCons (qCall (fn1 absD) (qCons (qVar 0) qNil)) (qCons (qCall (fn1 absD) (qCons (qVar 1) qNil)) qNil))) 2) (qSeq (qIf (qB (qBin ltD (qVar 1) (qC (.int 0)))) (qAsg (qBin subD (qC (.int 0)) (qVar 2)) 2) qNext) (qRet (qTup (qCons (qBin fdivD (qVar 0) (qVar 2)) (qCons (qBin fdivD (qVar 1) (qVar 2)) qNil)))))))

def sp_make_fraction_15f7 : Spec0 := fun ds R => ∃ n d : Int, ds = [.int n, .int d] ∧ d ≠ 0 ∧ Sz 9000 d ∧ R (frD (Rat.divInt n d))
theorem len_make_fraction_15f7 (ds : List D) (R : DK) (h : sp_make_fraction_15f7 ds R) : ds.length = 2 := by
  obtain ⟨a, b, rfl, _⟩ := h; rfl
theorem p_make_fraction_15f7 (ds : List D) (R : DK) (h : sp_make_fraction_15f7 ds R) : t_make_fraction_15f7 { nx := fun _ => R .non, rt := fun d _ => R d } ⟨startL 3 ds, ()⟩ := by
  obtain ⟨n, d, rfl, h0, hs, h⟩ := h
  have e0 : D.eqv (.int d) (.int 0) = false := decide_eq_false h0
  refine ⟨⟨rfl, rfl, Nat.zero_le 64, Nat.zero_le 64⟩, fun hc => ?_, fun _ => ?_⟩
  · rw [e0] at hc; cases hc
  refine ⟨n.natAbs, d.natAbs, rfl, ?_⟩
  have hgp : 0 < n.natAbs.gcd d.natAbs := Nat.gcd_pos_of_pos_right _ (by omega)
  have hgs : Sz 9000 (n.natAbs.gcd d.natAbs : Nat) := by
    unfold Sz at *
    exact Nat.lt_of_le_of_lt (Nat.gcd_le_right _ (by omega)) hs
  obtain ⟨e1, e2⟩ := divInt_parts (n := n) h0
  refine ⟨fun hc => ?_, fun hc => ?_⟩
  · have hd : d < 0 := of_decide_eq_true hc
    rw [if_pos hd] at e1 e2
    have dz : (0 - (n.natAbs.gcd d.natAbs : Nat) : Int) ≠ 0 := by omega
    have dk : ∀ i, DivOk i (0 - (n.natAbs.gcd d.natAbs : Nat) : Int) := fun i => divOk_of (b := 9000) (by unfold Sz at *; omega) dz
    refine ⟨dk _, dk _, (by show 2 ≤ sizeLine; decide), ?_⟩
    unfold frD at h
    rw [e1, e2] at h; exact h
  · have hd : ¬ d < 0 := of_decide_eq_false hc
    rw [if_neg hd] at e1 e2
    have dz : ((n.natAbs.gcd d.natAbs : Nat) : Int) ≠ 0 := by omega
    have dk : ∀ i, DivOk i ((n.natAbs.gcd d.natAbs : Nat) : Int) := fun i => divOk_of (b := 9000) hgs dz
    refine ⟨dk _, dk _, (by show 2 ≤ sizeLine; decide), ?_⟩
    unfold frD at h
    rw [e1, e2] at h; exact h

def t_add_fractions_88bc : PSx Unit := (qRet (qCallP (sp_make_fraction_15f7) (qCons (qBin addD (qBin mulD (qBin ixD (qVar 0) (qC (.int 0))) (qBin ixD (qVar 1) (qC (.int 1)))) (qBin mulD (qBin ixD (qVar 1) (qC (.int 0))) (qBin ixD (qVar 0) (qC (.int 1))))) (qCons (qBin mulD (qBin ixD (qVar 0) (qC (.int 1))) (qBin ixD (qVar 1) (qC (.int 1)))) qNil))))

def sp_add_fractions_88bc : Spec0 := fun ds R => ∃ (x y : Rat) (a b : Nat), ds = [frD x, frD y] ∧ SzR a x ∧ SzR b y ∧ a + b ≤ 8990 ∧ R (frD (x + y))
theorem len_add_fractions_88bc (ds : List D) (R : DK) (h : sp_add_fractions_88bc ds R) : ds.length = 2 := by
  obtain ⟨a, b, _, _, rfl, _⟩ := h; rfl
theorem p_add_fractions_88bc (ds : List D) (R : DK) (h : sp_add_fractions_88bc ds R) : t_add_fractions_88bc { nx := fun _ => R .non, rt := fun d _ => R d } ⟨startL 2 ds, ()⟩ := by
  obtain ⟨x, y, a, b, rfl, hx, hy, hab, h⟩ := h
  refine ⟨_, rfl, _, rfl, hx.1.mulOk hy.2, _, rfl, _, rfl, hy.1.mulOk hx.2, _, rfl, _, rfl, hx.2.mulOk hy.2, ?_⟩
  refine ⟨_, _, rfl, Int.mul_ne_zero (by have := x.den_nz; omega) (by have := y.den_nz; omega), (hx.2.mul hy.2).le (by omega), ?_⟩
  rw [add_div]; exact h

def t_mark_to_reach_5768 : PSx BG := (qSeq (qAsg (qCallG (sp_greatest_surpluses_d8a4) (qCons (qVar 0) (qCons (qVar 1) (qCons (qVar 2) (qCons (qVar 3) qNil))))) 4) (qSeq (qPar 5 6 (qCons (qIxB (qVar 4) (qTup (qCons (qC (.bl false)) (qCons (qC (.bl false)) qNil)))) (qCons (qIxB (qVar 4) (qTup (qCons (qC (.bl true)) (qCons (qC (.bl true)) qNil)))) qNil))) (qSeq (qIf (qAnd (qB (qInB (qTup (qCons (qC (.bl true)) (qCons (qC (.bl false)) qNil))) (qVar 4))) (qB (qBin geD (qIxB (qVar 4) (qTup (qCons (qC (.bl true)) (qCons (qC (.bl false)) qNil)))) (qVar 5)))) (qRet (qTup (qCons (qC (.str "always")) qNil))) qNext) (qSeq (qIf (qAnd (qB (qInB (qTup (qCons (qC (.bl false)) (qCons (qC (.bl true)) qNil))) (qVar 4))) (qB (qBin gtD (qIxB (qVar 4) (qTup (qCons (qC (.bl false)) (qCons (qC (.bl true)) qNil)))) (qVar 6)))) (qRet (qTup (qCons (qC (.str "never")) qNil))) qNext) (qSeq (qAsg (qBin ixD (qBin ixD (qBin ixD (qVar 0) (qC (.int 0))) (qVar 1)) (qC (.int 1))) 7) (qRet (qTup (qCons (qC (.str "from")) (qCons (qCallP (sp_add_fractions_88bc) (qCons (qVar 3) (qCons (qCallP (sp_make_fraction_15f7) (qCons (qBin subD (qVar 5) (qVar 6)) (qCons (qBin mulD (qBin ixD (qVar 3) (qC (.int 1))) (qVar 7)) qNil))) qNil))) qNil)))))))))

def sp_mark_to_reach_5768 : Spec0 := fun ds R => ∃ (m : Nat) (p : Pan) (it wt : Nat) (v : Rat), ds = [panD p, natD it, natD wt, frD v] ∧ PanOk m p ∧ m ≤ 8 ∧ it < p.its.length ∧ wt < p.its.length ∧ SzR 1000 v ∧ R (mrD p it wt v)
theorem len_mark_to_reach_5768 (ds : List D) (g : BG) (R : D → BG → Prop) (h : outG BG.nil sp_mark_to_reach_5768 ds g R) : ds.length = 4 := by
  obtain ⟨_, _, _, _, _, _, rfl, _⟩ := h; rfl
theorem p_mark_to_reach_5768 (ds : List D) (g : BG) (R : D → BG → Prop) (h : outG BG.nil sp_mark_to_reach_5768 ds g R) : t_mark_to_reach_5768 { nx := fun s => R .non s.g, rt := R } ⟨startL 8 ds, g⟩ := by
  obtain ⟨rfl, m, p, it, wt, v, rfl, hp, hm, hi, hw, hv, h⟩ := h
  have line : (10000000 : Nat) ≤ sizeLine := line_big
  let P := some (L.val (panD p))
  let It := some (L.val (natD it))
  let Wt := some (L.val (natD wt))
  let V := some (L.val (frD v))
  obtain ⟨x, hx⟩ := gsB_ff hp wt it v
  obtain ⟨y, hy⟩ := gsB_tt hp hw hi v
  refine seq_mid (M := fun s' => ∃ (a : Addr) (ts : List (Addr × Bool × Bool)) (ks : List BE), (∀ b, getB ks b = gsB p wt it v b) ∧ s' = ⟨[P, It, Wt, V, some (.val (.obj a)), none, none, none], ⟨ts, some (a, ks)⟩⟩) ?_ ?_
  rotate_left
  · intro N hN; exact ⟨rfl, m, p, it, wt, v, rfl, hp, hm, hi, hw, hv, fun a ts ks hk => hN _ ⟨a, ts, ks, hk, rfl⟩⟩
  rintro _ ⟨a, ts, ks, hk, rfl⟩
  let Fo := some (L.val (.obj a))
  refine seq_mid (M := fun s' => s' = ⟨[P, It, Wt, V, Fo, some (.val (.int x)), some (.val (.int y)), none], ⟨ts, some (a, ks)⟩⟩) ?_ ?_
  rotate_left
  · intro N hN
    refine ⟨by show 2 ≤ sizeLine; omega, a, ks, false, false, x, rfl, rfl, rfl, (hk _).trans hx, by show 2 ≤ sizeLine; omega, a, ks, true, true, y, rfl, rfl, rfl, (hk _).trans hy, ?_⟩
    exact hN _ rfl
  rintro _ rfl
  unfold mrD at h
  rw [hx, hy] at h
  have xz := gsB_sz hp hm hv hx
  have yz := gsB_sz hp hm hv hy
  refine seq_mid (M := fun s' => (¬ ∃ z, gsB p wt it v (true, false) = some z ∧ x ≤ z) ∧ s' = ⟨[P, It, Wt, V, Fo, some (.val (.int x)), some (.val (.int y)), none], ⟨ts, some (a, ks)⟩⟩) ?_ ?_
  rotate_left
  · intro N hN
    refine ⟨by show 2 ≤ sizeLine; omega, a, ks, true, false, rfl, rfl, rfl, ?_⟩
    rw [hk]
    cases e : gsB p wt it v (true, false) with
    | none =>
      refine ⟨fun hc => (by cases hc), fun _ => ⟨fun hc => (by cases hc), fun _ => hN _ ⟨?_, rfl⟩⟩⟩
      rintro ⟨z, hz, _⟩; rw [e] at hz; cases hz
    | some z =>
      refine ⟨fun _ => ?_, fun hc => (by cases hc)⟩
      refine ⟨by show 2 ≤ sizeLine; omega, a, ks, true, false, z, rfl, rfl, rfl, (hk _).trans e, ?_⟩
      refine ⟨fun hc => ?_, fun hc => hN _ ⟨?_, rfl⟩⟩
      · have hc : x ≤ z := of_decide_eq_true hc
        rw [if_pos ⟨z, e, hc⟩] at h
        exact ⟨by show 1 ≤ sizeLine; omega, h _⟩
      · have hc : ¬ x ≤ z := of_decide_eq_false hc
        rintro ⟨z', hz, l⟩; rw [e] at hz; cases hz; exact hc l
  rintro _ ⟨n1, rfl⟩
  have n1' : ¬ ∃ z, gsB p wt it v (true, false) = some z ∧ (some x).getD 0 ≤ z := n1
  rw [if_neg n1'] at h
  refine seq_mid (M := fun s' => (¬ ∃ z, gsB p wt it v (false, true) = some z ∧ y < z) ∧ s' = ⟨[P, It, Wt, V, Fo, some (.val (.int x)), some (.val (.int y)), none], ⟨ts, some (a, ks)⟩⟩) ?_ ?_
  rotate_left
  · intro N hN
    refine ⟨by show 2 ≤ sizeLine; omega, a, ks, false, true, rfl, rfl, rfl, ?_⟩
    rw [hk]
    cases e : gsB p wt it v (false, true) with
    | none =>
      refine ⟨fun hc => (by cases hc), fun _ => ⟨fun hc => (by cases hc), fun _ => hN _ ⟨?_, rfl⟩⟩⟩
      rintro ⟨z, hz, _⟩; rw [e] at hz; cases hz
    | some z =>
      refine ⟨fun _ => ?_, fun hc => (by cases hc)⟩
      refine ⟨by show 2 ≤ sizeLine; omega, a, ks, false, true, z, rfl, rfl, rfl, (hk _).trans e, ?_⟩
      refine ⟨fun hc => ?_, fun hc => hN _ ⟨?_, rfl⟩⟩
      · have hc : y < z := of_decide_eq_true hc
        rw [if_pos ⟨z, e, hc⟩] at h
        exact ⟨by show 1 ≤ sizeLine; omega, h _⟩
      · have hc : ¬ y < z := of_decide_eq_false hc
        rintro ⟨z', hz, l⟩; rw [e] at hz; cases hz; exact hc l
  rintro _ ⟨n2, rfl⟩
  have n2' : ¬ ∃ z, gsB p wt it v (false, true) = some z ∧ (some y).getD 0 < z := n2
  rw [if_neg n2'] at h
  obtain ⟨q, eq⟩ : ∃ q, q = p.its.getD it (0, 1) := ⟨_, rfl⟩
  have qm : q ∈ p.its := by rw [eq, List.getD_eq_getElem?_getD, List.getElem?_eq_getElem hi]; exact List.getElem_mem hi
  have qk := hp.it q qm
  have qz := ItOk.sz qk
  rw [← eq] at h
  refine seq_mid (M := fun s' => s' = ⟨[P, It, Wt, V, Fo, some (.val (.int x)), some (.val (.int y)), some (.val (.int q.2))], ⟨ts, some (a, ks)⟩⟩) ?_ ?_
  rotate_left
  · intro N hN
    exact ⟨_, rfl, _, idx_it hi, _, rfl, hN _ (by rw [eq]; rfl)⟩
  rintro _ rfl
  have d0 : (0 : Int) < (v.den : Int) * q.2 := Int.mul_pos (by have := v.den_pos; omega) (by have := qk.2.2.1; omega)
  have dz : Sz 9000 ((v.den : Int) * q.2) := (hv.2.mul qz.2).le (by decide)
  refine ⟨.int v.den, rfl, hv.2.mulOk qz.2, x - y, (v.den : Int) * q.2, rfl, by omega, dz, ?_⟩
  refine ⟨v, Rat.divInt (x - y) ((v.den : Int) * q.2), 1000, 1200, rfl, hv, SzR.divInt ((xz.sub yz).le (by decide)) ((hv.2.mul qz.2).le (by decide)) (by omega), by decide, ?_⟩
  exact ⟨by show 2 ≤ sizeLine; omega, h _⟩

def t_is_mark_f168 : PSx Unit := (qRet (qCallP (sp_is_within_3133) (qCons (qVar 0) (qCons (qBin subD (qC (.int 0)) (qC (.int 1000000000))) (qCons (qC (.int 1000000000)) qNil)))))

def sp_is_mark_f168 : Spec0 := fun ds R => ∃ d : D, ds = [d] ∧ (∀ p, d ≠ .obj p) ∧ R (.bl (inI (-(10 ^ 9)) (10 ^ 9) d))
theorem len_is_mark_f168 (ds : List D) (R : DK) (h : sp_is_mark_f168 ds R) : ds.length = 1 := by
  obtain ⟨d, rfl, _⟩ := h; rfl
theorem p_is_mark_f168 (ds : List D) (R : DK) (h : sp_is_mark_f168 ds R) : t_is_mark_f168 { nx := fun _ => R .non, rt := fun d _ => R d } ⟨startL 1 ds, ()⟩ := by
  obtain ⟨d, rfl, ho, h⟩ := h
  exact ⟨d, -(10 ^ 9), 10 ^ 9, rfl, ho, h⟩

def t_is_weight_6941 : PSx Unit := (qRet (qCallP (sp_is_within_3133) (qCons (qVar 0) (qCons (qC (.int 1)) (qCons (qC (.int 1000000)) qNil)))))

def sp_is_weight_6941 : Spec0 := fun ds R => ∃ d : D, ds = [d] ∧ (∀ p, d ≠ .obj p) ∧ R (.bl (inI 1 (10 ^ 6) d))
theorem len_is_weight_6941 (ds : List D) (R : DK) (h : sp_is_weight_6941 ds R) : ds.length = 1 := by
  obtain ⟨d, rfl, _⟩ := h; rfl
theorem p_is_weight_6941 (ds : List D) (R : DK) (h : sp_is_weight_6941 ds R) : t_is_weight_6941 { nx := fun _ => R .non, rt := fun d _ => R d } ⟨startL 1 ds, ()⟩ := by
  obtain ⟨d, rfl, ho, h⟩ := h
  exact ⟨d, 1, 10 ^ 6, rfl, ho, h⟩

def t_checked_7d9f : PSx Unit := (qSeq (qIf (qNot (qB (qCall (fn1 allD) (qCons (qSet (qLc (qItems (qVar 0)) (.tp [(.nm 2), (.nm 3)]) [2, 3] qYes (qAndV (qCallP (sp_is_mark_f168) (qCons (qVar 2) qNil)) (qCallP (sp_is_weight_6941) (qCons (qVar 3) qNil))))) qNil)))) qNever qNext) (qRet (qTup (qCons (qVar 0) (qCons (qVar 1) qNil)))))

def sp_checked_7d9f : Spec0 := fun ds R => ∃ p : Pan, ds = [.tup (p.its.map itD), .tup (p.rus.map itD)] ∧ p.its.length ≤ 1000 ∧ (∀ q ∈ p.its, ItOk q) ∧ R (panD p)
theorem len_checked_7d9f (ds : List D) (R : DK) (h : sp_checked_7d9f ds R) : ds.length = 2 := by
  obtain ⟨_, rfl, _⟩ := h; rfl
theorem p_checked_7d9f (ds : List D) (R : DK) (h : sp_checked_7d9f ds R) : t_checked_7d9f { nx := fun _ => R .non, rt := fun d _ => R d } ⟨startL 4 ds, ()⟩ := by
  obtain ⟨p, rfl, hn, hq, h⟩ := h
  have line : (10000000 : Nat) ≤ sizeLine := line_big
  have nx : ∀ i : Int, ∀ p, D.int i ≠ .obj p := fun _ _ h => by cases h
  refine lc_mapl p.its itD (fun _ => D.bl true) (by omega) (fun q hm => ⟨_, rfl, fun T hT => ?_⟩) ?_ (by decide) (by rfl)
  · obtain ⟨a, b, c, d⟩ := hq q hm
    have e1 : inI (-(10 ^ 9)) (10 ^ 9) (.int q.1) = true := by
      show (decide (-(10 ^ 9) ≤ q.1) && decide (q.1 ≤ 10 ^ 9)) = true
      rw [decide_eq_true a, decide_eq_true b]; rfl
    have e2 : inI 1 (10 ^ 6) (.int q.2) = true := by
      show (decide (1 ≤ q.2) && decide (q.2 ≤ 10 ^ 6)) = true
      rw [decide_eq_true c, decide_eq_true d]; rfl
    refine ⟨.int q.1, rfl, nx _, ?_⟩
    rw [e1]
    refine ⟨fun _ => ⟨.int q.2, rfl, nx _, ?_⟩, fun z => (by cases z)⟩
    rw [e2]; exact hT
  · have e : (p.its.map fun _ => D.bl true) = (p.its.map fun _ => true).map D.bl := by rw [List.map_map]; rfl
    rw [e]
    refine ⟨_, asBls_map _, ?_⟩
    have e2 : ((p.its.map fun _ => true).all id) = true := by rw [List.all_eq_true]; intro b hb; obtain ⟨_, _, rfl⟩ := List.mem_map.mp hb; rfl
    rw [e2]
    exact ⟨fun z => (by cases z), fun _ => ⟨by show 2 ≤ sizeLine; omega, h⟩⟩

def t_scale_panel_75d1 : PSx Unit := (qSeq (qAsgT (qVar 0) (.tp [(.nm 2), (.nm 3)])) (qRet (qCallP (sp_checked_7d9f) (qCons (qCall (fn1 tupleD) (qCons (qSet (qLc (qItems (qVar 2)) (.tp [(.nm 4), (.nm 5)]) [4, 5] qYes (qTup (qCons (qBin mulD (qVar 4) (qVar 1)) (qCons (qVar 5) qNil))))) qNil)) (qCons (qVar 3) qNil)))))

def sclP (p : Pan) (k : Int) : Pan := ⟨p.its.map fun q => (q.1 * k, q.2), p.rus⟩
def sp_scale_panel_75d1 : Spec0 := fun ds R => ∃ (p : Pan) (k : Int), ds = [panD p, .int k] ∧ p.its.length ≤ 1000 ∧ Sz 1000 k ∧ (∀ q ∈ p.its, ItOk q) ∧ (∀ q ∈ (sclP p k).its, ItOk q) ∧ R (panD (sclP p k))
theorem len_scale_panel_75d1 (ds : List D) (R : DK) (h : sp_scale_panel_75d1 ds R) : ds.length = 2 := by
  obtain ⟨_, _, rfl, _⟩ := h; rfl
theorem p_scale_panel_75d1 (ds : List D) (R : DK) (h : sp_scale_panel_75d1 ds R) : t_scale_panel_75d1 { nx := fun _ => R .non, rt := fun d _ => R d } ⟨startL 6 ds, ()⟩ := by
  obtain ⟨p, k, rfl, hn, hk, hq, hs, h⟩ := h
  have line : (10000000 : Nat) ≤ sizeLine := line_big
  refine seq_mid (M := fun s' => s' = ⟨[some (.val (panD p)), some (.val (.int k)), some (.val (.tup (p.its.map itD))), some (.val (.tup (p.rus.map itD))), none, none], ()⟩) ?_ ?_
  rotate_left
  · intro N hN; exact put_tg (tg := .tp [.nm 2, .nm 3]) (d := .tup [.tup (p.its.map itD), .tup (p.rus.map itD)]) rfl (hN _ rfl)
  rintro _ rfl
  refine lc_mapl p.its itD (fun q => itD (q.1 * k, q.2)) (by omega) (fun q hm => ⟨_, rfl, fun T hT => ⟨(ItOk.sz (hq q hm)).1.mulOk hk, by show 2 ≤ sizeLine; omega, hT⟩⟩) ?_ (by decide) (by rfl)
  have e : p.its.map (fun q => itD (q.1 * k, q.2)) = (sclP p k).its.map itD := by unfold sclP; rw [List.map_map]; rfl
  rw [e]
  exact ⟨sclP p k, rfl, by show (p.its.map _).length ≤ 1000; rw [List.length_map]; exact hn, hs, h⟩

def t_combine_panels_586d : PSx Unit := (qSeq (qAsg (qCall (fn1 lenD) (qCons (qBin ixD (qVar 0) (qC (.int 0))) qNil)) 2) (qSeq (qAsg (qBin addD (qBin ixD (qVar 0) (qC (.int 0))) (qBin ixD (qVar 1) (qC (.int 0)))) 3) (qSeq (qAsg (qBin addD (qBin ixD (qVar 0) (qC (.int 1))) (qCall (fn1 tupleD) (qCons (qSet (qLc (qItems (qBin ixD (qVar 1) (qC (.int 1)))) (.tp [(.nm 5), (.nm 6)]) [5, 6] qYes (qTup (qCons (qBin addD (qVar 2) (qVar 5)) (qCons (qBin addD (qVar 2) (qVar 6)) qNil))))) qNil))) 4) (qSeq (qIf (qOr (qB (qBin gtD (qCall (fn1 lenD) (qCons (qVar 3) qNil)) (qC (.int 8)))) (qB (qBin gtD (qCall (fn1 lenD) (qCons (qVar 4) qNil)) (qC (.int 16))))) qNever qNext) (qRet (qTup (qCons (qVar 3) (qCons (qVar 4) qNil))))))))

def cbP (p q : Pan) : Pan := ⟨p.its ++ q.its, p.rus ++ q.rus.map fun x => ((p.its.length : Int) + x.1, (p.its.length : Int) + x.2)⟩
def sp_combine_panels_586d : Spec0 := fun ds R => ∃ p q : Pan, ds = [panD p, panD q] ∧ p.its.length + q.its.length ≤ 8 ∧ p.rus.length + q.rus.length ≤ 16 ∧ R (panD (cbP p q))
theorem len_combine_panels_586d (ds : List D) (R : DK) (h : sp_combine_panels_586d ds R) : ds.length = 2 := by
  obtain ⟨_, _, rfl, _⟩ := h; rfl
theorem p_combine_panels_586d (ds : List D) (R : DK) (h : sp_combine_panels_586d ds R) : t_combine_panels_586d { nx := fun _ => R .non, rt := fun d _ => R d } ⟨startL 7 ds, ()⟩ := by
  obtain ⟨p, q, rfl, h8, h16, h⟩ := h
  have line : (10000000 : Nat) ≤ sizeLine := line_big
  let P := some (L.val (panD p))
  let Q := some (L.val (panD q))
  let F := some (L.val (natD p.its.length))
  refine seq_mid (M := fun s' => s' = ⟨[P, Q, F, none, none, none, none], ()⟩) ?_ ?_
  rotate_left
  · intro N hN
    refine ⟨_, rfl, hN _ ?_⟩
    show (⟨[P, Q, some (.val (.int ((p.its.map itD).length : Nat))), none, none, none, none], ()⟩ : S Unit) = _
    rw [List.length_map]; rfl
  rintro _ rfl
  let I := some (L.val (.tup ((cbP p q).its.map itD)))
  let U := some (L.val (.tup ((cbP p q).rus.map itD)))
  have ei : (cbP p q).its.map itD = p.its.map itD ++ q.its.map itD := List.map_append
  refine seq_mid (M := fun s' => s' = ⟨[P, Q, F, I, none, none, none], ()⟩) ?_ ?_
  rotate_left
  · intro N hN
    refine ⟨_, rfl, _, rfl, by show (p.its.map itD).length + (q.its.map itD).length ≤ sizeLine; rw [List.length_map, List.length_map]; omega, hN _ ?_⟩
    show (⟨[P, Q, F, some (.val (.tup (p.its.map itD ++ q.its.map itD))), none, none, none], ()⟩ : S Unit) = _
    rw [← ei]
  rintro _ rfl
  refine seq_mid (M := fun s' => s' = ⟨[P, Q, F, I, U, none, none], ()⟩) ?_ ?_
  rotate_left
  · intro N hN
    refine ⟨_, rfl, _, rfl, ?_⟩
    refine lc_mapl q.rus itD (fun x => itD ((p.its.length : Int) + x.1, (p.its.length : Int) + x.2)) (by omega) (fun x hx => ⟨_, rfl, fun T hT => ⟨by show 2 ≤ sizeLine; omega, hT⟩⟩) ?_ (by decide) (by rfl)
    have er : (cbP p q).rus.map itD = p.rus.map itD ++ q.rus.map fun x => itD ((p.its.length : Int) + x.1, (p.its.length : Int) + x.2) := by
      show (p.rus ++ q.rus.map fun x => ((p.its.length : Int) + x.1, (p.its.length : Int) + x.2)).map itD = _
      rw [List.map_append, List.map_map]; rfl
    refine ⟨by show (p.rus.map itD).length + (q.rus.map _).length ≤ sizeLine; rw [List.length_map, List.length_map]; omega, hN _ ?_⟩
    show (⟨[P, Q, F, I, some (.val (.tup (p.rus.map itD ++ q.rus.map fun x => itD ((p.its.length : Int) + x.1, (p.its.length : Int) + x.2)))), none, none], ()⟩ : S Unit) = _
    rw [← er]
  rintro _ rfl
  refine seq_mid (M := fun s' => s' = ⟨[P, Q, F, I, U, none, none], ()⟩) ?_ ?_
  rotate_left
  · intro N hN
    have l1 : ((cbP p q).its.map itD).length ≤ 8 := by rw [ei, List.length_append, List.length_map, List.length_map]; exact h8
    have l2 : ((cbP p q).rus.map itD).length ≤ 16 := by
      rw [List.length_map]
      show (p.rus ++ q.rus.map _).length ≤ 16
      rw [List.length_append, List.length_map]; exact h16
    refine ⟨fun hc => ?_, fun _ => ⟨fun hc => ?_, fun _ => hN _ rfl⟩⟩
    · have hc : decide ((8 : Int) < (((cbP p q).its.map itD).length : Nat)) = true := hc
      rw [decide_eq_true_eq] at hc; omega
    · have hc : decide ((16 : Int) < (((cbP p q).rus.map itD).length : Nat)) = true := hc
      rw [decide_eq_true_eq] at hc; omega
  rintro _ rfl
  exact ⟨by show 2 ≤ sizeLine; omega, h⟩

def t_equal_17a7 (s : Spec0) : PSx Unit := (qSeq (qIf (qAnd (qB (qIsi "tuple" (qVar 0))) (qB (qIsi "tuple" (qVar 1)))) (qRet (qAndV (qBin eqD (qCall (fn1 lenD) (qCons (qVar 0) qNil)) (qCall (fn1 lenD) (qCons (qVar 1) qNil))) (qCall (fn1 allD) (qCons (qSet (qLc (qZip (qCons (qVar 0) (qCons (qVar 1) qNil))) (.tp [(.nm 2), (.nm 3)]) [2, 3] qYes (qCallP s (qCons (qVar 2) (qCons (qVar 3) qNil))))) qNil)))) qNext) (qSeq (qIf (qOr (qB (qIsi "bool" (qVar 0))) (qB (qIsi "bool" (qVar 1)))) (qRet (qAndV (qIsi "bool" (qVar 0)) (qAndV (qIsi "bool" (qVar 1)) (qBin eqD (qVar 0) (qVar 1))))) qNext) (qSeq (qIf (qB (qBin neD (qIsi "tuple" (qVar 0)) (qIsi "tuple" (qVar 1)))) (qRet (qC (.bl false))) qNext) (qSeq (qIf (qB (qBin neD (qIsi "int" (qVar 0)) (qIsi "int" (qVar 1)))) (qRet (qC (.bl false))) qNext) (qRet (qAndV (qBin eqD (qIsi "str" (qVar 0)) (qIsi "str" (qVar 1))) (qBin eqD (qVar 0) (qVar 1))))))))

def sp_equal_17a7 (n : Nat) : Spec0 := fun ds R => ∃ d : D, ds = [d, d] ∧ d.pln = true ∧ d.dep < n ∧ n ≤ 60 ∧ d.wid ≤ 10000000 ∧ R (.bl true)
theorem len_equal_17a7 (n : Nat) (ds : List D) (R : DK) (h : sp_equal_17a7 n ds R) : ds.length = 2 := by
  obtain ⟨a, rfl, _⟩ := h; rfl
theorem z_equal_17a7 (ds : List D) (R : DK) (h : sp_equal_17a7 0 ds R) : False := by
  obtain ⟨a, rfl, _, h, _⟩ := h; omega
theorem p_equal_17a7 (n : Nat) (ds : List D) (R : DK) (h : sp_equal_17a7 (n + 1) ds R) : t_equal_17a7 (sp_equal_17a7 n) { nx := fun _ => R .non, rt := fun d _ => R d } ⟨startL 4 ds, ()⟩ := by
  obtain ⟨d, rfl, hp, hd, hn, hw, h⟩ := h
  have ho := pln_obj hp
  have tt := isTy_tup d
  have tb := isTy_bl d
  have line := line_big
  by_cases ht : isTy "tuple" d = true
  · cases d <;> simp only [ht] at tt <;> try cases tt
    rename_i xs
    refine ⟨ho, ⟨fun _ => ⟨ho, ⟨fun _ => ?_, fun hc => absurd (hc.symm.trans ht) (by decide)⟩⟩, fun hc => absurd (hc.symm.trans ht) (by decide)⟩⟩
    refine ⟨⟨rfl, rfl, Nat.zero_le 64, Nat.zero_le 64⟩, ⟨fun _ => ?_, fun hc => (eq_no (d := .int xs.length) rfl hc).elim⟩⟩
    have hps : D.plns xs = true := by simpa [D.pln] using hp
    simp only [D.dep] at hd
    simp only [D.wid] at hw
    have hl := D.wids_len xs
    have zl : (zipD xs xs).length = xs.length := by rw [zipD_len]; omega
    refine ⟨fun i acc s => i ≤ xs.length ∧ acc = List.replicate i (.bl true) ∧ s = ⟨[some (.val (.tup xs)), some (.val (.tup xs)), none, none], ()⟩, ⟨⟨[some (.val (.tup xs)), some (.val (.tup xs)), none, none], ()⟩, Wk.of ⟨.inr rfl, .inr rfl, .inl rfl, .inl rfl, trivial⟩, Nat.zero_le _, rfl, rfl⟩, ?_, ?_⟩
    · rintro i e acc s hi ⟨hle, rfl, rfl⟩
      have il : i < xs.length := by have := (List.getElem?_eq_some_iff.mp hi).1; omega
      obtain ⟨x, hx1, hx2, rfl⟩ := zip_self hi
      refine ⟨fun _ => ?_, fun hc => (by cases hc)⟩
      have dx := D.deps_mem hx2
      have wx := D.wids_mem hx2
      refine ⟨x, rfl, D.plns_mem hps hx2, by omega, by omega, by omega, by simp; omega, ⟨[some (.val (.tup xs)), some (.val (.tup xs)), none, none], ()⟩, Wk.of ⟨.inr rfl, .inr rfl, .inl rfl, .inl rfl, trivial⟩, by omega, ?_, rfl⟩
      rw [List.replicate_succ']
    · rintro acc s ⟨_, rfl, rfl⟩
      refine ⟨_, bls_trues _, ?_⟩
      rw [all_trues]; exact h
  · have ht0 : isTy "tuple" d = false := by simpa using ht
    refine ⟨ho, ⟨fun hc => absurd hc ht, fun _ => ⟨fun hc => (by cases hc), fun _ => ?_⟩⟩⟩
    have e64 : d.dep ≤ 64 := by omega
    refine ⟨ho, ⟨fun hb => ?_, fun hb => ⟨ho, ⟨fun hc => absurd (hc.symm.trans hb) (by decide), fun _ => ?_⟩⟩⟩⟩
    · refine ⟨fun _ => ?_, fun hc => (by cases hc)⟩
      refine ⟨ho, ⟨fun _ => ⟨ho, ⟨fun _ => ⟨.of ⟨hp, hp, e64, e64⟩, ?_⟩, fun hc => absurd (hc.symm.trans hb) (by decide)⟩⟩, fun hc => absurd (hc.symm.trans hb) (by decide)⟩⟩
      show R (.bl (D.eqv d d))
      rw [eqv_refl d hp]; exact h
    · refine ⟨ho, ho, ⟨rfl, rfl, Nat.zero_le 64, Nat.zero_le 64⟩, ⟨fun hc => (bl_ne hc rfl).elim, fun _ => ?_⟩⟩
      refine ⟨ho, ho, ⟨rfl, rfl, Nat.zero_le 64, Nat.zero_le 64⟩, ⟨fun hc => (bl_ne hc rfl).elim, fun _ => ?_⟩⟩
      refine ⟨ho, ho, ⟨rfl, rfl, Nat.zero_le 64, Nat.zero_le 64⟩, ⟨fun _ => ⟨.of ⟨hp, hp, e64, e64⟩, ?_⟩, fun hc => (eq_no (d := .bl _) rfl hc).elim⟩⟩
      show R (.bl (D.eqv d d))
      rw [eqv_refl d hp]; exact h

def t_sums_of_9763 : PSx Unit := (qSeq (qAsg (qSet (qLc (qItems (qVar 1)) (.nm 3) [3] qYes (qBin ixD (qBin ixD (qVar 0) (qC (.int 0))) (qVar 3)))) 2) (qRet (qTup (qCons (qCall (fn1 sumD) (qCons (qSet (qLc (qItems (qVar 2)) (.tp [(.nm 4), (.nm 5)]) [4, 5] qYes (qBin mulD (qVar 4) (qVar 5)))) qNil)) (qCons (qCall (fn1 sumD) (qCons (qSet (qLc (qItems (qVar 2)) (.tp [(.nm 4), (.nm 5)]) [4, 5] qYes (qVar 5))) qNil)) qNil)))))

def sp_sums_of_9763 : Spec0 := fun ds R => ∃ (its : List (Int × Int)) (rd : D) (gs : List Nat), ds = [pD its rd, grD gs] ∧ gs.length ≤ 1000 ∧ (∀ i ∈ gs, i < its.length) ∧ (∀ q ∈ its, ItB q) ∧ R (.tup [.int (sM (selI its gs)), .int (sW (selI its gs))])
theorem len_sums_of_9763 (ds : List D) (R : DK) (h : sp_sums_of_9763 ds R) : ds.length = 2 := by
  obtain ⟨_, _, _, rfl, _⟩ := h; rfl
theorem p_sums_of_9763 (ds : List D) (R : DK) (h : sp_sums_of_9763 ds R) : t_sums_of_9763 { nx := fun _ => R .non, rt := fun d _ => R d } ⟨startL 6 ds, ()⟩ := by
  obtain ⟨its, rd, gs, rfl, hn, hi, hb, h⟩ := h
  have hs : ∀ q ∈ selI its gs, ItB q := fun q hq => hb q (sel_mem hi hq)
  have sl : (selI its gs).length = gs.length := by simp [selI]
  refine lc_mapl gs natD (fun i => itD (its.getD i (0, 1))) (by omega) (fun i hi' => ⟨_, rfl, fun T h => ⟨_, rfl, _, idx_it (hi i hi'), h⟩⟩) ?_ (by decide) (by rfl)
  have e1 : (gs.map fun i => itD (its.getD i (0, 1))) = (selI its gs).map itD := by unfold selI; rw [List.map_map]; rfl
  rw [e1]
  refine lc_mapl (selI its gs) itD (fun q => D.int (q.1 * q.2)) (by omega) (fun q hq => ⟨_, rfl, fun T h => ⟨(hs q hq).1.mulOk (hs q hq).2.1, h⟩⟩) ?_ (by decide) (by rfl)
  have e2 : ((selI its gs).map fun q => D.int (q.1 * q.2)) = ((selI its gs).map fun q => q.1 * q.2).map D.int := by rw [List.map_map]; rfl
  refine ⟨_, by rw [e2]; exact asInts_map _, ?_⟩
  refine lc_mapl (selI its gs) itD (fun q => D.int q.2) (by omega) (fun q hq => ⟨_, rfl, fun T h => h⟩) ?_ (by decide) (by rfl)
  have e3 : ((selI its gs).map fun q => D.int q.2) = ((selI its gs).map fun q => q.2).map D.int := by rw [List.map_map]; rfl
  exact ⟨_, by rw [e3]; exact asInts_map _, (by show 2 ≤ sizeLine; decide), h⟩

def t_upper_part_65f2 : PSx Unit := (qSeq (qAsgT (qCallP (sp_sums_of_9763) (qCons (qVar 0) (qCons (qVar 2) qNil))) (.tp [(.nm 3), (.nm 4)])) (qSeq (qAsgT (qTup (qCons (qTup qNil) (qCons (qC (.int 0)) qNil))) (.tp [(.nm 5), (.nm 6)])) (qSeq (qFor (qItems (qVar 1)) (.nm 7) (qSeq (qAsg (qCall (fn1 tupleD) (qCons (qSet (qLc (qItems (qVar 7)) (.nm 12) [12] (qB (qBin inD (qVar 12) (qVar 2))) (qVar 12))) qNil)) 8) (qSeq (qAsgT (qCallP (sp_sums_of_9763) (qCons (qVar 0) (qCons (qVar 8) qNil))) (.tp [(.nm 9), (.nm 10)])) (qSeq (qAsg (qBin subD (qBin mulD (qVar 9) (qVar 4)) (qBin mulD (qVar 3) (qVar 10))) 11) (qIf (qB (qBin gtD (qVar 11) (qVar 6))) (qPar 5 6 (qCons (qVar 8) (qCons (qVar 11) qNil))) qNext))))) (qRet (qVar 5)))))

def sp_upper_part_65f2 : Spec0 := fun ds R => ∃ (its : List (Int × Int)) (rd : D) (cl : List (List Nat)) (part : List Nat), ds = [pD its rd, .tup (cl.map grD), grD part] ∧ cl.length ≤ 10000 ∧ (∀ g ∈ cl, g.length ≤ 100) ∧ part.length ≤ 100 ∧ (∀ i ∈ part, i < its.length) ∧ (∀ q ∈ its, ItB q) ∧ ∀ U, UPart its cl part U → R (grD U)
theorem len_upper_part_65f2 (ds : List D) (R : DK) (h : sp_upper_part_65f2 ds R) : ds.length = 3 := by
  obtain ⟨_, _, _, _, rfl, _⟩ := h; rfl
theorem p_upper_part_65f2 (ds : List D) (R : DK) (h : sp_upper_part_65f2 ds R) : t_upper_part_65f2 { nx := fun _ => R .non, rt := fun d _ => R d } ⟨startL 13 ds, ()⟩ := by
  obtain ⟨its, rd, cl, part, rfl, hc, hg, hn, hi, hb, h⟩ := h
  have line : (10000000 : Nat) ≤ sizeLine := line_big
  have zs : ∀ gs : List Nat, gs.length ≤ 100 → (∀ i ∈ gs, i < its.length) → Sz 150 (sM (selI its gs)) ∧ Sz 150 (sW (selI its gs)) := fun gs hl hi => sz_sums (fun q hq => hb q (sel_mem hi hq)) (by simp [selI]; omega)
  have zp := zs part hn hi
  refine seq_mid (M := fun s' => s' = ⟨[some (.val (pD its rd)), some (.val (.tup (cl.map grD))), some (.val (grD part)), some (.val (.int (sM (selI its part)))), some (.val (.int (sW (selI its part)))), none, none, none, none, none, none, none, none], ()⟩) ?_ ?_
  rotate_left
  · intro N hN
    exact ⟨its, rd, part, rfl, by omega, hi, hb, hN _ rfl⟩
  rintro _ rfl
  refine ⟨(by show 0 ≤ sizeLine; omega), (by show 2 ≤ sizeLine; omega), ?_⟩
  refine ⟨fun j s => ∃ (F : List Nat) (most : Int), ((F = [] ∧ most = 0) ∨ (∃ g ∈ cl.take j, F = g.filter (inB part) ∧ 0 < most ∧ most = excI its part F)) ∧ (∀ g ∈ cl.take j, excI its part (g.filter (inB part)) ≤ most) ∧
    s = ⟨[some (.val (pD its rd)), some (.val (.tup (cl.map grD))), some (.val (grD part)), some (.val (.int (sM (selI its part)))), some (.val (.int (sW (selI its part)))), some (.val (grD F)), some (.val (.int most)), none, none, none, none, none, none], ()⟩, ⟨_, Wk.refl _, [], 0, .inl ⟨rfl, rfl⟩, by simp, rfl⟩, ?_, ?_⟩
  · rintro j d s hd ⟨F, most, hF, hm, rfl⟩
    rw [List.getElem?_map] at hd
    obtain ⟨g, hgj, rfl⟩ := Option.map_eq_some_iff.mp hd
    have gm := List.mem_of_getElem? hgj
    have gl := hg g gm
    have et : cl.take (j + 1) = cl.take j ++ [g] := by rw [List.take_add_one, hgj]; rfl
    have si : ∀ i ∈ g.filter (inB part), i < its.length := fun i h => hi i (by have := (List.mem_filter.mp h).2; simpa [inB] using this)
    have sl : (g.filter (inB part)).length ≤ 100 := Nat.le_trans (List.length_filter_le _ _) gl
    have z1 := zs _ sl si
    refine put_nm ?_
    refine seq_mid (M := fun s' => s' = ⟨[some (.val (pD its rd)), some (.val (.tup (cl.map grD))), some (.val (grD part)), some (.val (.int (sM (selI its part)))), some (.val (.int (sW (selI its part)))), some (.val (grD F)), some (.val (.int most)), some (.val (grD g)), some (.val (grD (g.filter (inB part)))), none, none, none, none], ()⟩) ?_ ?_
    rotate_left
    · intro N hN
      refine lc_list g natD (inB part) natD (by omega) (fun i hi' => ⟨_, rfl, fun T h => ⟨⟨rfl, nats_pln part, Nat.zero_le 60⟩, by rw [isin_natD]; exact h⟩, fun _ T h => h⟩) ?_ ?_ ?_
      · exact hN _ rfl
      · decide
      · rfl
    rintro _ rfl
    refine seq_mid (M := fun s' => s' = ⟨[some (.val (pD its rd)), some (.val (.tup (cl.map grD))), some (.val (grD part)), some (.val (.int (sM (selI its part)))), some (.val (.int (sW (selI its part)))), some (.val (grD F)), some (.val (.int most)), some (.val (grD g)), some (.val (grD (g.filter (inB part)))), some (.val (.int (sM (selI its (g.filter (inB part)))))), some (.val (.int (sW (selI its (g.filter (inB part)))))), none, none], ()⟩) ?_ ?_
    rotate_left
    · intro N hN
      exact ⟨its, rd, _, rfl, by omega, si, hb, hN _ rfl⟩
    rintro _ rfl
    refine ⟨z1.1.mulOk zp.2, zp.1.mulOk z1.2, ⟨fun hgt => ?_, fun hgt => ?_⟩⟩
    · have hgt : most < excI its part (g.filter (inB part)) := of_decide_eq_true hgt
      refine ⟨_, ?_, g.filter (inB part), excI its part (g.filter (inB part)), .inr ⟨g, by rw [et]; simp, rfl, ?_, rfl⟩, fun g' hg' => ?_, rfl⟩
      · exact Wk.of (by repeat' first | exact trivial | exact .inr rfl | exact .inl rfl | refine ⟨?_, ?_⟩)
      · rcases hF with ⟨_, rfl⟩ | ⟨_, _, _, h0, _⟩ <;> omega
      · rw [et] at hg'
        rcases List.mem_append.mp hg' with hg' | hg'
        · have := hm g' hg'; omega
        · rw [List.mem_singleton.mp hg']; exact Int.le_refl _
    · have hgt : ¬ most < excI its part (g.filter (inB part)) := of_decide_eq_false hgt
      refine ⟨_, ?_, F, most, ?_, fun g' hg' => ?_, rfl⟩
      · exact Wk.of (by repeat' first | exact trivial | exact .inr rfl | exact .inl rfl | refine ⟨?_, ?_⟩)
      · rcases hF with h0 | ⟨g', hg', h0⟩
        · exact .inl h0
        · exact .inr ⟨g', by rw [et]; exact List.mem_append_left _ hg', h0⟩
      · rw [et] at hg'
        rcases List.mem_append.mp hg' with hg' | hg'
        · exact hm g' hg'
        · rw [List.mem_singleton.mp hg']; omega
  · rintro s ⟨F, most, hF, hm, rfl⟩
    rw [List.length_map, List.take_of_length_le (Nat.le_refl _)] at hF hm
    refine h F ?_
    rcases hF with ⟨rfl, rfl⟩ | ⟨g, hg', e, h0, e2⟩
    · exact .inl ⟨rfl, hm⟩
    · subst e2; exact .inr ⟨g, hg', e, h0, hm⟩

def t_average_of_ee61 : PSx Unit := (qSeq (qAsg (qSet (qLc (qItems (qVar 1)) (.nm 4) [4] qYes (qBin ixD (qBin ixD (qVar 0) (qC (.int 0))) (qVar 4)))) 2) (qSeq (qAsg (qCall (fn1 sumD) (qCons (qSet (qLc (qItems (qVar 2)) (.tp [(.nm 5), (.nm 6)]) [5, 6] qYes (qBin mulD (qVar 5) (qVar 6)))) qNil)) 3) (qRet (qCallP (sp_make_fraction_15f7) (qCons (qVar 3) (qCons (qCall (fn1 sumD) (qCons (qSet (qLc (qItems (qVar 2)) (.tp [(.nm 5), (.nm 6)]) [5, 6] qYes (qVar 6))) qNil)) qNil))))))

def sp_average_of_ee61 : Spec0 := fun ds R => ∃ (its : List (Int × Int)) (rd : D) (gs : List Nat), (ds = [pD its rd, grD gs] ∨ ds = [pD its rd, .lst (gs.map natD)]) ∧ gs ≠ [] ∧ gs.length ≤ 1000 ∧ (∀ i ∈ gs, i < its.length) ∧ (∀ q ∈ its, ItB q) ∧ R (frD (avg (selI its gs)))
theorem len_average_of_ee61 (ds : List D) (R : DK) (h : sp_average_of_ee61 ds R) : ds.length = 2 := by
  obtain ⟨a, b, c, rfl | rfl, _⟩ := h <;> rfl
theorem p_average_of_ee61 (ds : List D) (R : DK) (h : sp_average_of_ee61 ds R) : t_average_of_ee61 { nx := fun _ => R .non, rt := fun d _ => R d } ⟨startL 7 ds, ()⟩ := by
  obtain ⟨its, rd, gs, hds, h0, hn, hi, hb, h⟩ := h
  have hs : ∀ q ∈ selI its gs, ItB q := fun q hq => hb q (sel_mem hi hq)
  have sl : (selI its gs).length = gs.length := by simp [selI]
  have wp := sW_pos hs (sel_ne h0)
  have e1 : (gs.map fun i => itD (its.getD i (0, 1))) = (selI its gs).map itD := by unfold selI; rw [List.map_map]; rfl
  have e2 : ((selI its gs).map fun q => D.int (q.1 * q.2)) = ((selI its gs).map fun q => q.1 * q.2).map D.int := by rw [List.map_map]; rfl
  have e3 : ((selI its gs).map fun q => D.int q.2) = ((selI its gs).map fun q => q.2).map D.int := by rw [List.map_map]; rfl
  have key : ∀ E : D, qSeq (qAsg (qCall (fn1 sumD) (qCons (qSet (qLc (qItems (qVar 2)) (.tp [(.nm 5), (.nm 6)]) [5, 6] qYes (qBin mulD (qVar 5) (qVar 6)))) qNil)) 3) (qRet (qCallP (sp_make_fraction_15f7) (qCons (qVar 3) (qCons (qCall (fn1 sumD) (qCons (qSet (qLc (qItems (qVar 2)) (.tp [(.nm 5), (.nm 6)]) [5, 6] qYes (qVar 6))) qNil)) qNil)))) { nx := fun _ => R .non, rt := fun d _ => R d } ⟨[some (.val (pD its rd)), some (.val E), some (.val (.lst ((selI its gs).map itD))), none, none, none, none], ()⟩ := fun E => by
    refine lc_mapl (selI its gs) itD (fun q => D.int (q.1 * q.2)) (by omega) (fun q hq => ⟨_, rfl, fun T h => ⟨(hs q hq).1.mulOk (hs q hq).2.1, h⟩⟩) ?_ (by decide) (by rfl)
    refine ⟨_, by rw [e2]; exact asInts_map _, ?_⟩
    refine lc_mapl (selI its gs) itD (fun q => D.int q.2) (by omega) (fun q hq => ⟨_, rfl, fun T h => h⟩) ?_ (by decide) (by rfl)
    exact ⟨_, by rw [e3]; exact asInts_map _, sM (selI its gs), sW (selI its gs), rfl, by omega, (sz_sums hs (by omega)).2.le (by decide), h⟩
  rcases hds with rfl | rfl
  · refine lc_mapl gs natD (fun i => itD (its.getD i (0, 1))) (by omega) (fun i hi' => ⟨_, rfl, fun T h => ⟨_, rfl, _, idx_it (hi i hi'), h⟩⟩) ?_ (by decide) (by rfl)
    rw [e1]; exact key _
  · refine lc_mapl gs natD (fun i => itD (its.getD i (0, 1))) (by omega) (fun i hi' => ⟨_, rfl, fun T h => ⟨_, rfl, _, idx_it (hi i hi'), h⟩⟩) ?_ (by decide) (by rfl)
    rw [e1]; exact key _

def t_best_rating_b8e6 : PSx Unit := (qSeq (qAsg (qCallP (sp_upward_sets_3622) (qCons (qVar 0) qNil)) 1) (qSeq (qAsgOwn (qBinF mulF (qSet (qLst (qCons (qC .non) qNil))) (qCall (fn1 lenD) (qCons (qBin ixD (qVar 0) (qC (.int 0))) qNil))) 2) (qSeq (qAsgOwn (qLst (qCons (qTupRg1 (qCall (fn1 lenD) (qCons (qBin ixD (qVar 0) (qC (.int 0))) qNil))) qNil)) 3) (qSeq (qWhile (qB (qBinN1 neD 3 (qSet (qLst qNil)))) (qSeq (qAsg (qPop 3) 4) (qSeq (qAsg (qCallP (sp_upper_part_65f2) (qCons (qVar 0) (qCons (qVar 1) (qCons (qVar 4) qNil)))) 5) (qIf (qB (qBin eqD (qVar 5) (qTup qNil))) (qFor (qItems (qVar 4)) (.nm 6) (qSetItem (qCallP (sp_average_of_ee61) (qCons (qVar 0) (qCons (qVar 4) qNil))) 2 (qVar 6))) (qDrop (qExtend 3 (qLst (qCons (qVar 5) (qCons (qCall (fn1 tupleD) (qCons (qSet (qLc (qItems (qVar 4)) (.nm 6) [6] (qB (qBin notInD (qVar 6) (qVar 5))) (qVar 6))) qNil)) qNil))))))))) (qRet (qCall (fn1 tupleD) (qCons (qVar 2) qNil)))))))

def sp_best_rating_b8e6 : Spec0 := fun ds R => ∃ (m : Nat) (p : Pan), ds = [panD p] ∧ m ≤ 10 ∧ PanOk m p ∧ ∀ r : Nat → Rat, BestP p r → (∀ i, i < p.its.length → SzR 150 (r i)) → R (.tup ((List.range p.its.length).map fun i => frD (r i)))
theorem len_best_rating_b8e6 (ds : List D) (R : DK) (h : sp_best_rating_b8e6 ds R) : ds.length = 1 := by
  obtain ⟨_, _, rfl, _⟩ := h; rfl
abbrev sBR (p : Pan) (st : List (List Nat)) (f : Nat → D) (pt up : Option L) : S Unit := ⟨[some (.val (panD p)), some (.val (.tup ((upG p).map grD))), some (.own ((List.range p.its.length).map f)), some (.own (st.map grD)), pt, up, none], ()⟩
theorem set_map {n k : Nat} (f : Nat → D) (d : D) (hk : k < n) : ((List.range n).map f).set k d = (List.range n).map fun i => if i = k then d else f i := by
  refine List.ext_getElem? fun i => ?_
  rw [List.getElem?_set]
  by_cases h : k = i
  · subst h
    simp [hk]
  · have h' : i ≠ k := fun e => h e.symm
    simp [h, h', List.getElem?_map]
    by_cases hi : i < n
    · simp [List.getElem?_range hi, h']
    · rw [List.getElem?_eq_none (by simpa using hi)]; rfl
def ratOf : D → Rat
  | .tup [.int a, .int b] => Rat.divInt a b
  | _ => 0
theorem ratOf_fr (x : Rat) : ratOf (frD x) = x := Rat.num_divInt_den x
theorem p_best_rating_b8e6 (ds : List D) (R : DK) (h : sp_best_rating_b8e6 ds R) : t_best_rating_b8e6 { nx := fun _ => R .non, rt := fun d _ => R d } ⟨startL 7 ds, ()⟩ := by
  obtain ⟨m, p, rfl, hm, hp, h⟩ := h
  have line : (10000000 : Nat) ≤ sizeLine := line_big
  have ht := hp.top
  have h1 := hp.one
  have ml : (p.its.map itD).length = p.its.length := by simp
  have hB : ∀ q ∈ p.its, ItB q := fun q hq => (hp.it q hq).b
  have ugl : ∀ g ∈ upG p, g.length ≤ 10 := fun g hg => by
    have := (grpS_sub (List.mem_filter.mp hg).1).length_le
    rw [List.length_range] at this; omega
  have ul : (upG p).length ≤ 2 ^ 10 := by
    refine Nat.le_trans (List.length_filter_le _ _) ?_
    rw [grpS_length, List.length_range]
    exact Nat.pow_le_pow_right (by decide) (by omega)
  refine seq_mid (M := fun s' => s' = ⟨[some (.val (panD p)), some (.val (.tup ((upG p).map grD))), none, none, none, none, none], ()⟩) ?_ ?_
  rotate_left
  · intro N hN
    exact ⟨m, p, rfl, hm, hp, hN _ rfl⟩
  rintro _ rfl
  refine seq_mid (M := fun s' => s' = ⟨[some (.val (panD p)), some (.val (.tup ((upG p).map grD))), some (.own ((List.range p.its.length).map fun _ => D.non)), none, none, none, none], ()⟩) ?_ ?_
  rotate_left
  · intro N hN
    refine ⟨(by show 1 ≤ sizeLine; omega), _, rfl, ⟨by omega, by rw [ml]; omega, by rw [ml, Int.toNat_natCast]; show 1 * p.its.length ≤ sizeLine; omega⟩, hN _ ?_⟩
    rw [ml, Int.toNat_natCast]
    have e : (List.replicate p.its.length [D.non]).flatten = (List.range p.its.length).map fun _ => D.non := by
      rw [List.map_const', List.length_range]; simp
    rw [e]; rfl
  rintro _ rfl
  refine seq_mid (M := fun s' => s' = sBR p [List.range p.its.length] (fun _ => D.non) none none) ?_ ?_
  rotate_left
  · intro N hN
    refine ⟨_, rfl, ⟨by rw [ml]; omega, by rw [ml]; omega⟩, (by show 1 ≤ sizeLine; omega), hN _ ?_⟩
    have e : rgD 0 (p.its.length : Int) = (List.range p.its.length).map natD := by
      unfold rgD
      have e : ((p.its.length : Int) - 0).toNat = p.its.length := by omega
      rw [e]
      exact List.map_congr_left fun k _ => by simp [natD]
    rw [ml, e]; rfl
  rintro _ rfl
  refine seq_mid (M := fun s' => ∃ (dn : List (List Nat)) (f : Nat → D), Parts p dn ∧ (∀ q ∈ dn, Whole (eE p) (mR p) (wR p) q) ∧ (∀ q ∈ dn, ∀ i ∈ q, f i = frD (avg (selI p.its q))) ∧ s' = sBR p [] f none none) ?_ ?_
  rotate_left
  · intro N hN
    refine ⟨fun μ s => ∃ (st dn : List (List Nat)) (f : Nat → D), μ = meas st ∧ Parts p (dn ++ st.reverse) ∧ (∀ q ∈ dn, Whole (eE p) (mR p) (wR p) q) ∧ (∀ q ∈ dn, ∀ i ∈ q, f i = frD (avg (selI p.its q))) ∧ s = sBR p st f none none, ⟨_, _, Wk.refl _, [List.range p.its.length], [], fun _ => .non, rfl, Parts.start hp, by simp, by simp, rfl⟩, ?_⟩
    rintro μ s ⟨st, dn, f, rfl, hP, hW, hf, rfl⟩
    have ep : D.eqv (.lst (st.map grD)) (.lst []) = decide (st = []) := by cases st <;> rfl
    have pl : (D.lst (st.map grD)).pln = true := by
      have : ∀ l : List (List Nat), D.plns (l.map grD) = true := fun l => by
        induction l with
        | nil => rfl
        | cons a l ih => simp only [List.map_cons, D.plns, ih, Bool.and_true]; exact nats_pln a
      exact this st
    have dp : (D.lst (st.map grD)).dep ≤ 64 := by
      have d0 : ∀ l : List Nat, D.deps (l.map natD) = 0 := fun l => by
        induction l with
        | nil => rfl
        | cons a l ih => simp only [List.map_cons, D.deps, ih]; rfl
      have : ∀ l : List (List Nat), D.deps (l.map grD) ≤ 1 := fun l => by
        induction l with
        | nil => exact Nat.zero_le _
        | cons a l ih =>
          simp only [List.map_cons, D.deps]
          have : (grD a).dep = 1 := by simp only [grD, D.dep, d0]
          omega
      have := this st
      simp only [D.dep]; omega
    refine ⟨rfl, (by show 0 ≤ sizeLine; omega), _, rfl, ⟨pl, rfl, dp, by simp [D.dep, D.deps]⟩, ⟨fun hc => ?_, fun hc => ?_⟩⟩
    · -- a part is taken
      have hc : (!D.eqv (.lst (st.map grD)) (.lst [])) = true := hc
      rw [ep] at hc
      have sn : st ≠ [] := by simpa using hc
      obtain ⟨st', part, rfl⟩ : ∃ a b, st = a ++ [b] := ⟨st.dropLast, st.getLast sn, (List.dropLast_concat_getLast sn).symm⟩
      have er : dn ++ (st' ++ [part]).reverse = dn ++ part :: st'.reverse := by rw [List.reverse_append]; rfl
      rw [er] at hP
      have pin : part ∈ dn ++ part :: st'.reverse := by simp
      have psub := hP.sb part pin
      have pne := hP.ne part pin
      have plt := hP.lt pin
      have pll : part.length ≤ 10 := by have := psub.length_le; rw [List.length_range] at this; omega
      have mpos : 1 ≤ part.length := List.length_pos_iff.mpr pne
      refine seq_mid (M := fun s' => s' = sBR p st' f (some (.val (grD part))) none) ?_ ?_
      rotate_left
      · intro N2 hN2
        refine ⟨_, grD part, rfl, ?_, hN2 _ ?_⟩
        · rw [List.map_append]; simp
        · rw [List.map_append]
          have : (st'.map grD ++ [part].map grD).dropLast = st'.map grD := by rw [List.map_cons, List.map_nil, List.dropLast_concat]
          rw [this]; rfl
      rintro _ rfl
      refine ⟨p.its, _, upG p, part, rfl, by omega, fun g hg => by have := ugl g hg; omega, by omega, plt, hB, fun U hU => ?_⟩
      refine ⟨(by show 0 ≤ sizeLine; omega), gr_ok U, ⟨fun hu => ?_, fun hu => ?_⟩⟩
      · -- whole
        have hu : D.eqv (grD U) (.tup []) = true := hu
        rw [gr_eqv, decide_eq_true_eq] at hu
        subst hu
        have hall : ∀ g ∈ upG p, excI p.its part (g.filter (inB part)) ≤ 0 := by
          rcases hU with ⟨_, h⟩ | ⟨g, _, _, h0, _⟩
          · exact h
          · simp [excI, selI, sM, sW] at h0
        have wh := hP.whole hp hall
        refine ⟨fun j s => ∃ f' : Nat → D, (∀ i ∈ part.take j, f' i = frD (avg (selI p.its part))) ∧ (∀ i, i ∉ part → f' i = f i) ∧ s = sBR p st' f' (some (.val (grD part))) (some (.val (grD []))), ⟨_, Wk.refl _, f, by simp, fun _ _ => rfl, rfl⟩, ?_, ?_⟩
        · rintro j d s hd ⟨f', h2, h3, rfl⟩
          rw [List.getElem?_map] at hd
          obtain ⟨i, hi, rfl⟩ := Option.map_eq_some_iff.mp hd
          have im := List.mem_of_getElem? hi
          have il := plt i im
          refine ⟨p.its, _, part, .inl rfl, pne, by omega, plt, hB, ⟨_, rfl⟩, _, i, rfl, ?_, ?_⟩
          · unfold ixN
            rw [if_pos (by omega), if_pos (by rw [List.length_map, List.length_range]; omega), Int.toNat_natCast]
          · refine ⟨sBR p st' (fun k => if k = i then frD (avg (selI p.its part)) else f' k) (some (.val (grD part))) (some (.val (grD []))), ?_, _, fun k hk => ?_, fun k hk => ?_, rfl⟩
            · have e := set_map (n := p.its.length) f' (frD (avg (selI p.its part))) il
              show Wk (⟨[_, _, some (.own (((List.range p.its.length).map f').set i (frD (avg (selI p.its part))))), _, _, _, _], ()⟩ : S Unit) _
              rw [e]
              exact Wk.of (by repeat' first | exact trivial | exact .inr rfl | exact .inl rfl | refine ⟨?_, ?_⟩)
            · by_cases e : k = i
              · simp [e]
              · have ht : part.take (j + 1) = part.take j ++ [i] := by rw [List.take_add_one, hi]; rfl
                rw [ht] at hk
                have : k ∈ part.take j := by
                  rcases List.mem_append.mp hk with hk | hk
                  · exact hk
                  · exact absurd (List.mem_singleton.mp hk) e
                simp [e, h2 k this]
            · have : k ≠ i := fun e => hk (e ▸ im)
              simp [this, h3 k hk]
        · rintro s ⟨f', h2, h3, rfl⟩
          rw [List.length_map, List.take_of_length_le (Nat.le_refl _)] at h2
          refine ⟨meas st', sBR p st' f' none none, ?_, ?_, st', dn ++ [part], f', rfl, ?_, ?_, ?_, rfl⟩
          · rw [meas_append]
            show meas st' < meas st' + (2 * part.length - 1 + 0)
            omega
          · exact Wk.of (by repeat' first | exact trivial | exact .inr rfl | exact .inl rfl | refine ⟨?_, ?_⟩)
          · rw [List.append_assoc]; exact hP
          · intro q hq
            rcases List.mem_append.mp hq with hq | hq
            · exact hW q hq
            · rw [List.mem_singleton.mp hq]; exact wh
          · intro q hq i hi
            rcases List.mem_append.mp hq with hq | hq
            · have : i ∉ part := fun z => (hP.nd i z).2 (List.mem_flatten.mpr ⟨q, hq, hi⟩)
              rw [h3 i this]; exact hf q hq i hi
            · rw [List.mem_singleton.mp hq] at hi ⊢; exact h2 i hi
      · -- split
        have hu : D.eqv (grD U) (.tup []) = false := hu
        rw [gr_eqv, decide_eq_false_iff_not] at hu
        obtain ⟨g, hg, eU, h0, hmx⟩ : ∃ g ∈ upG p, U = g.filter (inB part) ∧ 0 < excI p.its part U ∧ ∀ g' ∈ upG p, excI p.its part (g'.filter (inB part)) ≤ excI p.its part U := by
          rcases hU with ⟨e, _⟩ | h
          · exact absurd e hu
          · exact h
        obtain ⟨e1, hP2, un, rn⟩ := hP.split hp hg eU h0 hmx
        have ulen : U.length + (part.filter fun i => !inB U i).length = part.length := by
          have := List.filter_append_perm (inB U) part
          rw [e1] at this
          have := this.length_eq
          rw [List.length_append] at this; exact this
        have u1 : 1 ≤ U.length := List.length_pos_iff.mpr un
        have r1 : 1 ≤ (part.filter fun i => !inB U i).length := List.length_pos_iff.mpr rn
        have stl : st'.length ≤ 10 := by
          have l1 : (dn ++ part :: st'.reverse).flatten.length = p.its.length := by rw [hP.fl.length_eq, List.length_range]
          have l2 : ∀ l : List (List Nat), (∀ q ∈ l, q ≠ []) → l.length ≤ l.flatten.length := fun l => by
            induction l with
            | nil => intro _; simp
            | cons q l ih =>
              intro hne
              have := List.length_pos_iff.mpr (hne q (by simp))
              have := ih fun z hz => hne z (by simp [hz])
              rw [List.flatten_cons, List.length_append, List.length_cons]; omega
          have := l2 _ hP.ne
          rw [l1, List.length_append, List.length_cons, List.length_reverse] at this
          omega
        refine ⟨⟨_, rfl⟩, ?_⟩
        refine lc_list part natD (fun i => !inB U i) natD (by omega) (fun i hi => ⟨_, rfl, fun T h => ⟨⟨rfl, nats_pln U, Nat.zero_le 60⟩, by rw [notin_natD]; exact h⟩, fun _ T h => h⟩) ?_ (by decide) (by rfl)
        refine ⟨(by show 2 ≤ sizeLine; omega), _, rfl, (by show (st'.map grD).length + 2 ≤ sizeLine; rw [List.length_map]; omega), ?_⟩
        refine ⟨meas (st' ++ [U, part.filter fun i => !inB U i]), sBR p (st' ++ [U, part.filter fun i => !inB U i]) f none none, ?_, ?_, _, dn, f, rfl, ?_, hW, hf, rfl⟩
        · rw [meas_append, meas_append]
          show meas st' + (2 * U.length - 1 + (2 * (part.filter fun i => !inB U i).length - 1 + 0)) < meas st' + (2 * part.length - 1 + 0)
          omega
        · have e : (st' ++ [U, part.filter fun i => !inB U i]).map grD = st'.map grD ++ [grD U, grD (part.filter fun i => !inB U i)] := by rw [List.map_append]; rfl
          show Wk _ (⟨[_, _, _, some (.own ((st' ++ [U, part.filter fun i => !inB U i]).map grD)), _, _, _], ()⟩ : S Unit)
          rw [e]
          exact Wk.of (by repeat' first | exact trivial | exact .inr rfl | exact .inl rfl | refine ⟨?_, ?_⟩)
        · have e : dn ++ (st' ++ [U, part.filter fun i => !inB U i]).reverse = dn ++ (part.filter fun i => !inB U i) :: U :: st'.reverse := by rw [List.reverse_append]; rfl
          rw [e]; exact hP2
    · have hc : (!D.eqv (.lst (st.map grD)) (.lst [])) = false := hc
      rw [ep] at hc
      have sn : st = [] := by simpa using hc
      subst sn
      rw [List.reverse_nil, List.append_nil] at hP
      exact hN _ ⟨dn, f, hP, hW, hf, rfl⟩
  rintro _ ⟨dn, f, hP, hW, hf, rfl⟩
  have frr : ∀ i, i < p.its.length → ∃ q ∈ dn, i ∈ q := fun i hi => by
    have := hP.fl.mem_iff.mpr (List.mem_range.mpr hi)
    obtain ⟨q, hq, h⟩ := List.mem_flatten.mp this
    exact ⟨q, hq, h⟩
  have h := h (fun i => ratOf (f i)) (hP.best hp hW fun q hq i hi => by rw [hf q hq i hi, ratOf_fr]) fun i hi => by
    obtain ⟨q, hq, iq⟩ := frr i hi
    rw [hf q hq i iq, ratOf_fr]
    have ql : q.length ≤ 10 := by have := (hP.sb q hq).length_le; rw [List.length_range] at this; omega
    exact avg_sz (fun z hz => hB z (sel_mem (hP.lt hq) hz)) (by simp [selI]; omega) (sel_ne (hP.ne q hq))
  have e : (List.range p.its.length).map f = (List.range p.its.length).map fun i => frD (ratOf (f i)) := List.map_congr_left fun i hi => by
    obtain ⟨q, hq, iq⟩ := frr i (List.mem_range.mp hi)
    rw [hf q hq i iq, ratOf_fr]
  rw [← e] at h
  exact h

def t_beside_right_2df3 : PSx Unit := (qSeq (qIf (qB (qBin eqD (qCall (fn1 lenD) (qCons (qBin ixD (qVar 0) (qC (.int 0))) qNil)) (qC (.int 8)))) (qRet (qC (.bl true))) qNext) (qSeq (qAsg (qCallP (sp_combine_panels_586d) (qCons (qVar 0) (qCons (qTup (qCons (qTup (qCons (qTup (qCons (qC (.int 5)) (qCons (qC (.int 3)) qNil))) qNil)) (qCons (qTup qNil) qNil))) qNil))) 5) (qSeq (qIf (qNot (qB (qCallP (sp_equal_17a7 24) (qCons (qCallP (sp_mark_to_reach_5768) (qCons (qVar 5) (qCons (qVar 1) (qCons (qVar 2) (qCons (qVar 3) qNil))))) (qCons (qVar 4) qNil))))) (qRet (qC (.bl false))) qNext) (qSeq (qAsg (qIfE (qB (qCallP (sp_less_7322) (qCons (qBin ixD (qCallP (sp_best_rating_b8e6) (qCons (qVar 0) qNil)) (qVar 2)) (qCons (qVar 3) qNil)))) (qC (.str "never")) (qC (.str "always"))) 6) (qRet (qCallP (sp_equal_17a7 24) (qCons (qCallP (sp_mark_to_reach_5768) (qCons (qVar 5) (qCons (qCall (fn1 lenD) (qCons (qBin ixD (qVar 0) (qC (.int 0))) qNil)) (qCons (qVar 2) (qCons (qVar 3) qNil))))) (qCons (qTup (qCons (qVar 6) qNil)) qNil))))))))

def sp_beside_right_2df3 : Spec0 := fun ds R => ∃ (p : Pan) (it wt : Nat) (v : Rat), ds = [panD p, natD it, natD wt, frD v, mrD p it wt v] ∧ PanOk 8 p ∧ it < p.its.length ∧ wt < p.its.length ∧ SzR 1000 v ∧ R (.bl true)
theorem len_beside_right_2df3 (ds : List D) (R : DK) (h : sp_beside_right_2df3 ds R) : ds.length = 5 := by
  obtain ⟨_, _, _, _, rfl, _⟩ := h; rfl
theorem mrD_ok45 (p : Pan) (it wt : Nat) (v : Rat) : (mrD p it wt v).pln = true ∧ (mrD p it wt v).dep < 24 ∧ (mrD p it wt v).wid ≤ 10000000 := by
  unfold mrD
  split
  · exact ⟨by decide +kernel, by decide +kernel, by decide +kernel⟩
  · split
    · exact ⟨by decide +kernel, by decide +kernel, by decide +kernel⟩
    · generalize v + Rat.divInt _ _ = x
      refine ⟨?_, by show 2 < 24; decide, ?_⟩
      · show (D.pln (.str "from") && (D.pln (frD x) && true)) = true
        rw [frD_pln x, show D.pln (.str "from") = true by decide +kernel]; rfl
      · have e : (D.tup [.str "from", frD x]).wid = (D.tup [.str "from", frD 0]).wid := rfl
        rw [e]; decide +kernel
theorem p_beside_right_2df3 (ds : List D) (R : DK) (h : sp_beside_right_2df3 ds R) : t_beside_right_2df3 { nx := fun _ => R .non, rt := fun d _ => R d } ⟨startL 7 ds, ()⟩ := by
  obtain ⟨p, it, wt, v, rfl, hp, hi, hw, hv, h⟩ := h
  have line : (10000000 : Nat) ≤ sizeLine := line_big
  have h8 := hp.top
  have hx : ItOk (5, 3) := ⟨by decide, by decide, by decide, by decide⟩
  let P := some (L.val (panD p))
  let It := some (L.val (natD it))
  let Wt := some (L.val (natD wt))
  let V := some (L.val (frD v))
  let Fo := some (L.val (mrD p it wt v))
  by_cases e8 : p.its.length = 8
  · refine ⟨_, rfl, ⟨rfl, rfl, Nat.zero_le _, Nat.zero_le _⟩, fun _ => h, fun hc => ?_⟩
    have hc : decide ((((p.its.map itD).length : Nat) : Int) = 8) = false := hc
    rw [List.length_map, e8] at hc; cases hc
  refine seq_mid (M := fun s' => s' = ⟨[P, It, Wt, V, Fo, none, none], ()⟩) ?_ ?_
  rotate_left
  · intro N hN
    refine ⟨_, rfl, ⟨rfl, rfl, Nat.zero_le _, Nat.zero_le _⟩, fun hc => ?_, fun _ => hN _ rfl⟩
    have hc : decide ((((p.its.map itD).length : Nat) : Int) = 8) = true := hc
    rw [List.length_map, decide_eq_true_eq] at hc
    omega
  rintro _ rfl
  have hp7 : PanOk 7 p := ⟨hp.one, by omega, hp.it, hp.few, hp.ru⟩
  have ok := bs_ok hp7 hx
  let W := bsP p (5, 3)
  have eW : cbP p ⟨[(5, 3)], []⟩ = bsP p (5, 3) := by unfold cbP bsP; simp
  let Wi := some (L.val (panD (bsP p (5, 3))))
  refine seq_mid (M := fun s' => s' = ⟨[P, It, Wt, V, Fo, Wi, none], ()⟩) ?_ ?_
  rotate_left
  · intro N hN
    refine ⟨by show 2 ≤ sizeLine; omega, by show 1 ≤ sizeLine; omega, by show 0 ≤ sizeLine; omega, by show 2 ≤ sizeLine; omega, p, ⟨[(5, 3)], []⟩, rfl, by show p.its.length + 1 ≤ 8; omega, by show p.rus.length + 0 ≤ 16; have := hp.few; omega, ?_⟩
    rw [eW]
    exact hN _ rfl
  rintro _ rfl
  have wl : (bsP p (5, 3)).its.length = p.its.length + 1 := bs_len
  obtain ⟨m1, m2, m3⟩ := mrD_ok45 p it wt v
  refine seq_mid (M := fun s' => s' = ⟨[P, It, Wt, V, Fo, Wi, none], ()⟩) ?_ ?_
  rotate_left
  · intro N hN
    refine ⟨8, bsP p (5, 3), it, wt, v, rfl, ok, by decide, by omega, by omega, hv, ?_⟩
    have e : mrD (bsP p (5, 3)) it wt v = mrD p it wt v := by
      rcases mr_led (k := 1) (a := 0) (v' := v) hp7 hi hw ok (by rw [wl]; omega) (by rw [wl]; omega) (by grind) (rch_bs hp7 hx hi hw) with ⟨a, b⟩ | ⟨a, b⟩ | ⟨M, a, b⟩
      · rw [a, b]
      · rw [a, b]
      · rw [a, b]
        have : M * 1 + 0 = M := by grind
        rw [this]
    refine ⟨mrD p it wt v, ?_, m1, m2, by decide, m3, fun hc => Bool.noConfusion hc, fun _ => hN _ rfl⟩
    show [mrD (bsP p (5, 3)) it wt v, mrD p it wt v] = _
    rw [e]
  rintro _ rfl
  refine seq_mid (M := fun s' => ∃ r, BestP p r ∧ s' = ⟨[P, It, Wt, V, Fo, Wi, some (.val (.str (if r wt < v then "never" else "always")))], ()⟩) ?_ ?_
  rotate_left
  · intro N hN
    refine ⟨8, p, rfl, by decide, hp, fun r hr hz => ?_⟩
    refine ⟨_, idx_rng (fun i => frD (r i)) hw, r wt, v, rfl, (hz wt hw).le (by decide), hv.le (by decide), ?_⟩
    by_cases c : r wt < v
    · rw [decide_eq_true c]
      refine ⟨fun _ => hN _ ⟨r, hr, by rw [if_pos c]; rfl⟩, fun hc => by cases hc⟩
    · rw [decide_eq_false c]
      refine ⟨fun hc => (by cases hc), fun _ => hN _ ⟨r, hr, by rw [if_neg c]; rfl⟩⟩
  rintro _ ⟨r, hr, rfl⟩
  refine ⟨_, rfl, 8, bsP p (5, 3), p.its.length, wt, v, ?_, ok, by decide, by omega, by omega, hv, ?_⟩
  · show [panD (bsP p (5, 3)), D.int (((p.its.map itD).length : Nat) : Int), natD wt, frD v] = _
    rw [List.length_map]; rfl
  have e : mrD (bsP p (5, 3)) p.its.length wt v = .tup [.str (if r wt < v then "never" else "always")] := by
    rcases mr_const ok (by rw [wl]; omega) (by rw [wl]; omega) (rch_new (v := v) hp7 hx hw hr) with ⟨c, b⟩ | ⟨c, b⟩
    · rw [b, if_neg (by grind)]
    · rw [b, if_pos (by grind)]
  obtain ⟨n1, n2, n3⟩ := mrD_ok45 (bsP p (5, 3)) p.its.length wt v
  refine ⟨by show 1 ≤ sizeLine; omega, mrD (bsP p (5, 3)) p.its.length wt v, ?_, n1, n2, by decide, n3, h⟩
  show [mrD (bsP p (5, 3)) p.its.length wt v, D.tup [.str (if r wt < v then "never" else "always")]] = _
  rw [← e]

def t_shift_panel_6bc9 : PSx Unit := (qSeq (qAsgT (qVar 0) (.tp [(.nm 2), (.nm 3)])) (qRet (qCallP (sp_checked_7d9f) (qCons (qCall (fn1 tupleD) (qCons (qSet (qLc (qItems (qVar 2)) (.tp [(.nm 4), (.nm 5)]) [4, 5] qYes (qTup (qCons (qBin addD (qVar 4) (qVar 1)) (qCons (qVar 5) qNil))))) qNil)) (qCons (qVar 3) qNil)))))

def sp_shift_panel_6bc9 : Spec0 := fun ds R => ∃ (p : Pan) (a : Int), ds = [panD p, .int a] ∧ p.its.length ≤ 1000 ∧ (∀ q ∈ (shPn p a).its, ItOk q) ∧ R (panD (shPn p a))
theorem len_shift_panel_6bc9 (ds : List D) (R : DK) (h : sp_shift_panel_6bc9 ds R) : ds.length = 2 := by
  obtain ⟨_, _, rfl, _⟩ := h; rfl
theorem p_shift_panel_6bc9 (ds : List D) (R : DK) (h : sp_shift_panel_6bc9 ds R) : t_shift_panel_6bc9 { nx := fun _ => R .non, rt := fun d _ => R d } ⟨startL 6 ds, ()⟩ := by
  obtain ⟨p, a, rfl, hn, hs, h⟩ := h
  have line : (10000000 : Nat) ≤ sizeLine := line_big
  refine seq_mid (M := fun s' => s' = ⟨[some (.val (panD p)), some (.val (.int a)), some (.val (.tup (p.its.map itD))), some (.val (.tup (p.rus.map itD))), none, none], ()⟩) ?_ ?_
  rotate_left
  · intro N hN; exact put_tg (tg := .tp [.nm 2, .nm 3]) (d := .tup [.tup (p.its.map itD), .tup (p.rus.map itD)]) rfl (hN _ rfl)
  rintro _ rfl
  refine lc_mapl p.its itD (fun q => itD (q.1 + a, q.2)) (by omega) (fun q hm => ⟨_, rfl, fun T hT => ⟨by show 2 ≤ sizeLine; omega, hT⟩⟩) ?_ (by decide) (by rfl)
  have e : p.its.map (fun q => itD (q.1 + a, q.2)) = (shPn p a).its.map itD := by unfold shPn; rw [List.map_map]; rfl
  rw [e]
  exact ⟨shPn p a, rfl, by show (p.its.map _).length ≤ 1000; rw [List.length_map]; exact hn, hs, h⟩

def t_plus_f97f : PSx Unit := (qRet (qCallP (sp_lowest_ba06) (qCons (qBin addD (qBin mulD (qBin ixD (qVar 0) (qC (.int 0))) (qBin ixD (qVar 1) (qC (.int 1)))) (qBin mulD (qBin ixD (qVar 1) (qC (.int 0))) (qBin ixD (qVar 0) (qC (.int 1))))) (qCons (qBin mulD (qBin ixD (qVar 0) (qC (.int 1))) (qBin ixD (qVar 1) (qC (.int 1)))) qNil))))

def sp_plus_f97f : Spec0 := fun ds R => ∃ (x : Rat) (n d : Int) (a b : Nat), ds = [frD x, .tup [.int n, .int d]] ∧ 0 < d ∧ SzR a x ∧ Sz b n ∧ Sz b d ∧ a + b ≤ 8990 ∧ R (frD (x + Rat.divInt n d))
theorem len_plus_f97f (ds : List D) (R : DK) (h : sp_plus_f97f ds R) : ds.length = 2 := by
  obtain ⟨_, _, _, _, _, rfl, _⟩ := h; rfl
theorem p_plus_f97f (ds : List D) (R : DK) (h : sp_plus_f97f ds R) : t_plus_f97f { nx := fun _ => R .non, rt := fun d _ => R d } ⟨startL 2 ds, ()⟩ := by
  obtain ⟨x, n, d, a, b, rfl, h0, hx, hn, hd, hab, h⟩ := h
  have e : Rat.divInt (x.num * d + n * (x.den : Int)) ((x.den : Int) * d) = x + Rat.divInt n d := by
    have h1 : (0 : Int) < (x.den : Int) := by have := x.den_pos; omega
    have h2 : Rat.divInt x.num x.den = x := Rat.num_divInt_den x
    rw [← h2, Rat.divInt_add_divInt _ _ (by omega) (by omega)]
    rw [h2]
  rw [← e] at h
  refine ⟨_, rfl, _, rfl, hx.1.mulOk hd, _, rfl, _, rfl, hn.mulOk hx.2, _, rfl, _, rfl, hx.2.mulOk hd, _, _, rfl, ?_, (hx.2.mul hd).le (by omega), h⟩
  have h1 : (0 : Int) < (x.den : Int) := by have := x.den_pos; omega
  exact Int.mul_pos h1 h0

def t_led_6b2d : PSx Unit := (qSeq (qIf (qB (qBin neD (qBin ixD (qVar 0) (qC (.int 0))) (qC (.str "from")))) (qRet (qVar 0)) qNext) (qRet (qTup (qCons (qC (.str "from")) (qCons (qCallP (sp_plus_f97f) (qCons (qCallP (sp_lowest_ba06) (qCons (qBin mulD (qBin ixD (qBin ixD (qVar 0) (qC (.int 1))) (qC (.int 0))) (qVar 1)) (qCons (qBin ixD (qBin ixD (qVar 0) (qC (.int 1))) (qC (.int 1))) qNil))) (qCons (qTup (qCons (qVar 2) (qCons (qC (.int 1)) qNil))) qNil))) qNil)))))

def sp_led_6b2d : Spec0 := fun ds R => ∃ (d : D) (k a : Int), ds = [d, .int k, .int a] ∧ Sz 40 k ∧ Sz 40 a ∧
  ((d = .tup [.str "always"] ∧ R d) ∨ (d = .tup [.str "never"] ∧ R d) ∨ ∃ M : Rat, d = .tup [.str "from", frD M] ∧ SzR 3000 M ∧ R (.tup [.str "from", frD (M * (k : Rat) + (a : Rat))]))
theorem len_led_6b2d (ds : List D) (R : DK) (h : sp_led_6b2d ds R) : ds.length = 3 := by
  obtain ⟨_, _, _, rfl, _⟩ := h; rfl
theorem p_led_6b2d (ds : List D) (R : DK) (h : sp_led_6b2d ds R) : t_led_6b2d { nx := fun _ => R .non, rt := fun d _ => R d } ⟨startL 3 ds, ()⟩ := by
  obtain ⟨d, k, a, rfl, kz, az, h⟩ := h
  have line : (10000000 : Nat) ≤ sizeLine := line_big
  rcases h with ⟨rfl, h⟩ | ⟨rfl, h⟩ | ⟨M, rfl, mz, h⟩
  · exact ⟨_, rfl, trivial, fun _ => h, fun hc => absurd hc (by decide +kernel)⟩
  · exact ⟨_, rfl, trivial, fun _ => h, fun hc => absurd hc (by decide +kernel)⟩
  · refine ⟨_, rfl, trivial, fun hc => absurd hc (by decide +kernel), fun _ => ?_⟩
    have d0 : (0 : Int) < (M.den : Int) := by have := M.den_pos; omega
    have e : Rat.divInt (M.num * k) (M.den : Int) = M * (k : Rat) := by
      refine divInt_is d0 ?_
      rw [Rat.intCast_mul, num_den M]; grind
    have d1 : Rat.divInt a 1 = (a : Rat) := divInt_is (by decide) (by
      have z : ((1 : Int) : Rat) = 1 := rfl
      rw [z]; grind)
    have z1 : SzR 3040 (M * (k : Rat)) := (mz.mul (SzR.int kz (by decide))).le (by decide)
    refine ⟨_, rfl, _, rfl, mz.1.mulOk kz (by omega), _, rfl, _, rfl, M.num * k, M.den, rfl, d0, mz.2.le (by decide), ?_⟩
    rw [e]
    refine ⟨by show 2 ≤ sizeLine; omega, M * (k : Rat), a, 1, 3040, 40, rfl, by decide, z1, az, sz_one (by decide), by decide, ?_⟩
    rw [d1]
    exact ⟨by show 2 ≤ sizeLine; omega, h⟩

def t_weigh_panel_1cdd : PSx Unit := (qSeq (qAsgT (qVar 0) (.tp [(.nm 2), (.nm 3)])) (qRet (qCallP (sp_checked_7d9f) (qCons (qCall (fn1 tupleD) (qCons (qSet (qLc (qItems (qVar 2)) (.tp [(.nm 4), (.nm 5)]) [4, 5] qYes (qTup (qCons (qVar 4) (qCons (qBin mulD (qVar 5) (qVar 1)) qNil))))) qNil)) (qCons (qVar 3) qNil)))))

def sp_weigh_panel_1cdd : Spec0 := fun ds R => ∃ (p : Pan) (k : Int), ds = [panD p, .int k] ∧ p.its.length ≤ 1000 ∧ Sz 1000 k ∧ (∀ q ∈ p.its, ItOk q) ∧ (∀ q ∈ (wgPn p k).its, ItOk q) ∧ R (panD (wgPn p k))
theorem len_weigh_panel_1cdd (ds : List D) (R : DK) (h : sp_weigh_panel_1cdd ds R) : ds.length = 2 := by
  obtain ⟨_, _, rfl, _⟩ := h; rfl
theorem p_weigh_panel_1cdd (ds : List D) (R : DK) (h : sp_weigh_panel_1cdd ds R) : t_weigh_panel_1cdd { nx := fun _ => R .non, rt := fun d _ => R d } ⟨startL 6 ds, ()⟩ := by
  obtain ⟨p, k, rfl, hn, hk, hq, hs, h⟩ := h
  have line : (10000000 : Nat) ≤ sizeLine := line_big
  refine seq_mid (M := fun s' => s' = ⟨[some (.val (panD p)), some (.val (.int k)), some (.val (.tup (p.its.map itD))), some (.val (.tup (p.rus.map itD))), none, none], ()⟩) ?_ ?_
  rotate_left
  · intro N hN; exact put_tg (tg := .tp [.nm 2, .nm 3]) (d := .tup [.tup (p.its.map itD), .tup (p.rus.map itD)]) rfl (hN _ rfl)
  rintro _ rfl
  refine lc_mapl p.its itD (fun q => itD (q.1, q.2 * k)) (by omega) (fun q hm => ⟨_, rfl, fun T hT => ⟨(ItOk.sz (hq q hm)).2.mulOk hk, by show 2 ≤ sizeLine; omega, hT⟩⟩) ?_ (by decide) (by rfl)
  have e : p.its.map (fun q => itD (q.1, q.2 * k)) = (wgPn p k).its.map itD := by unfold wgPn; rw [List.map_map]; rfl
  rw [e]
  exact ⟨wgPn p k, rfl, by show (p.its.map _).length ≤ 1000; rw [List.length_map]; exact hn, hs, h⟩

def t_changed_right_f9b2 (r : Addr) : PSx Nat := (qSeq (qAsg (qCallP (sp_mark_to_reach_5768) (qCons (qVar 1) (qCons (qVar 2) (qCons (qVar 3) (qCons (qVar 4) qNil))))) 5) (qSeq (qAsg (qCall (fn1 maxL) (qCons (qSet (qLc (qItems (qBin ixD (qVar 1) (qC (.int 0)))) (.tp [(.nm 13), (.nm 14)]) [13, 14] qYes (qCall (fn1 absD) (qCons (qVar 13) qNil)))) qNil)) 6) (qSeq (qAsg (qBin addD (qC (.int 1)) (qCallG (nextS r) (qCons (qVar 0) (qCons (qCall (fn2 max2) (qCons (qC (.int 1)) (qCons (qBin fdivD (qBin powD (qC (.int 10)) (qC (.int 9))) (qCall (fn2 max2) (qCons (qC (.int 1)) (qCons (qVar 6) qNil)))) qNil))) qNil)))) 7) (qSeq (qAsg (qCallG (nextS r) (qCons (qVar 0) (qCons (qBin addD (qBin subD (qBin powD (qC (.int 10)) (qC (.int 9))) (qVar 6)) (qC (.int 1))) qNil))) 8) (qSeq (qAsg (qBin addD (qC (.int 1)) (qCallG (nextS r) (qCons (qVar 0) (qCons (qBin fdivD (qBin powD (qC (.int 10)) (qC (.int 6))) (qCall (fn1 maxL) (qCons (qSet (qLc (qItems (qBin ixD (qVar 1) (qC (.int 0)))) (.tp [(.nm 13), (.nm 14)]) [13, 14] qYes (qVar 14))) qNil))) qNil)))) 9) (qSeq (qAsg (qCallP (sp_mark_to_reach_5768) (qCons (qCallP (sp_shift_panel_6bc9) (qCons (qVar 1) (qCons (qVar 8) qNil))) (qCons (qVar 2) (qCons (qVar 3) (qCons (qCallP (sp_plus_f97f) (qCons (qVar 4) (qCons (qTup (qCons (qVar 8) (qCons (qC (.int 1)) qNil))) qNil))) qNil))))) 10) (qSeq (qAsg (qCallP (sp_scale_panel_75d1) (qCons (qVar 1) (qCons (qVar 7) qNil))) 11) (qSeq (qAsg (qCallP (sp_mark_to_reach_5768) (qCons (qVar 11) (qCons (qVar 2) (qCons (qVar 3) (qCons (qCallP (sp_lowest_ba06) (qCons (qBin mulD (qBin ixD (qVar 4) (qC (.int 0))) (qVar 7)) (qCons (qBin ixD (qVar 4) (qC (.int 1))) qNil))) qNil))))) 12) (qSeq (qIf (qNot (qB (qCallP (sp_equal_17a7 24) (qCons (qTup (qCons (qVar 10) (qCons (qVar 12) qNil))) (qCons (qTup (qCons (qCallP (sp_led_6b2d) (qCons (qVar 5) (qCons (qC (.int 1)) (qCons (qVar 8) qNil)))) (qCons (qCallP (sp_led_6b2d) (qCons (qVar 5) (qCons (qVar 7) (qCons (qC (.int 0)) qNil)))) qNil))) qNil))))) (qRet (qC (.bl false))) qNext) (qSeq (qIf (qNot (qB (qCallP (sp_equal_17a7 24) (qCons (qCallP (sp_mark_to_reach_5768) (qCons (qCallP (sp_weigh_panel_1cdd) (qCons (qVar 1) (qCons (qVar 9) qNil))) (qCons (qVar 2) (qCons (qVar 3) (qCons (qVar 4) qNil))))) (qCons (qVar 5) qNil))))) (qRet (qC (.bl false))) qNext) (qRet (qCallP (sp_beside_right_2df3) (qCons (qVar 1) (qCons (qVar 2) (qCons (qVar 3) (qCons (qVar 4) (qCons (qVar 5) qNil)))))))))))))))))

def sp_changed_right_f9b2 (r : Addr) : Spec Nat := fun ds g R => ∃ (p : Pan) (it wt : Nat) (v : Rat), ds = [.obj r, panD p, natD it, natD wt, frD v] ∧ PanOk 8 p ∧ it < p.its.length ∧ wt < p.its.length ∧ SzR 800 v ∧ g + 5 < drawLine ∧ R (.bl true) (g + 3)
theorem len_changed_right_f9b2 (r : Addr) (ds : List D) (g : Nat) (R : D → Nat → Prop) (h : sp_changed_right_f9b2 r ds g R) : ds.length = 5 := by
  obtain ⟨_, _, _, _, rfl, _⟩ := h; rfl
theorem sh_ok {p : Pan} (hp : PanOk 8 p) {a : Int} (h : ∀ q ∈ p.its, -(10 ^ 9) ≤ q.1 + a ∧ q.1 + a ≤ 10 ^ 9) : PanOk 8 (shPn p a) := by
  have ll : (shPn p a).its.length = p.its.length := by simp [shPn]
  refine ⟨by rw [ll]; exact hp.one, by rw [ll]; exact hp.top, fun q hq => ?_, hp.few, fun q hq => by rw [ll]; exact hp.ru q hq⟩
  obtain ⟨x, hx, rfl⟩ := List.mem_map.mp hq
  exact ⟨(h x hx).1, (h x hx).2, (hp.it x hx).2.2.1, (hp.it x hx).2.2.2⟩
theorem sc_ok {p : Pan} (hp : PanOk 8 p) {k : Int} (h : ∀ q ∈ p.its, -(10 ^ 9) ≤ q.1 * k ∧ q.1 * k ≤ 10 ^ 9) : PanOk 8 (scPn p k) := by
  have ll : (scPn p k).its.length = p.its.length := by simp [scPn]
  refine ⟨by rw [ll]; exact hp.one, by rw [ll]; exact hp.top, fun q hq => ?_, hp.few, fun q hq => by rw [ll]; exact hp.ru q hq⟩
  obtain ⟨x, hx, rfl⟩ := List.mem_map.mp hq
  exact ⟨(h x hx).1, (h x hx).2, (hp.it x hx).2.2.1, (hp.it x hx).2.2.2⟩
theorem wg_ok {p : Pan} (hp : PanOk 8 p) {k : Int} (h : ∀ q ∈ p.its, 1 ≤ q.2 * k ∧ q.2 * k ≤ 10 ^ 6) : PanOk 8 (wgPn p k) := by
  have ll : (wgPn p k).its.length = p.its.length := by simp [wgPn]
  refine ⟨by rw [ll]; exact hp.one, by rw [ll]; exact hp.top, fun q hq => ?_, hp.few, fun q hq => by rw [ll]; exact hp.ru q hq⟩
  obtain ⟨x, hx, rfl⟩ := List.mem_map.mp hq
  exact ⟨(hp.it x hx).1, (hp.it x hx).2.1, (h x hx).1, (h x hx).2⟩
theorem p_changed_right_f9b2 (r : Addr) (ds : List D) (g : Nat) (R : D → Nat → Prop) (h : sp_changed_right_f9b2 r ds g R) : t_changed_right_f9b2 r { nx := fun s => R .non s.g, rt := R } ⟨startL 15 ds, g⟩ := by
  obtain ⟨p, it, wt, v, rfl, hp, hi, hw, hv, hg, h⟩ := h
  have line : (10000000 : Nat) ≤ sizeLine := line_big
  have h8 := hp.top
  have h1 := hp.one
  have c9 : CPow 10 9 := ⟨by decide, by decide, by decide⟩
  have c6 : CPow 10 6 := ⟨by decide, by decide, by decide⟩
  let O := some (L.val (.obj r))
  let P := some (L.val (panD p))
  let It := some (L.val (natD it))
  let Wt := some (L.val (natD wt))
  let V := some (L.val (frD v))
  let F := some (L.val (mrD p it wt v))
  refine seq_mid (M := fun s' => s' = ⟨[O, P, It, Wt, V, F, none, none, none, none, none, none, none, none, none], g⟩) ?_ ?_
  rotate_left
  · intro N hN
    exact ⟨8, p, it, wt, v, rfl, hp, by decide, hi, hw, hv.le (by decide), hN _ rfl⟩
  rintro _ rfl
  refine seq_mid (M := fun s' => ∃ G : Int, 0 ≤ G ∧ G ≤ 10 ^ 9 ∧ (∀ q ∈ p.its, -G ≤ q.1 ∧ q.1 ≤ G) ∧ s' = ⟨[O, P, It, Wt, V, F, some (.val (.int G)), none, none, none, none, none, none, none, none], g⟩) ?_ ?_
  rotate_left
  · intro N hN
    refine ⟨_, rfl, ?_⟩
    refine lc_mapl p.its itD (fun q => D.int (q.1.natAbs : Nat)) (by omega) (fun q hq => ⟨_, rfl, fun T h => h⟩) ?_ (by decide) (by rfl)
    have e : (p.its.map fun q => D.int (q.1.natAbs : Nat)) = (p.its.map fun q => ((q.1.natAbs : Nat) : Int)).map .int := by rw [List.map_map]; rfl
    rw [e]
    refine ⟨_, asInts_map _, by rw [List.length_map]; omega, fun G hG hM => ?_⟩
    obtain ⟨q0, hq0, rfl⟩ := List.mem_map.mp hG
    have z0 := hp.it q0 hq0
    refine hN _ ⟨_, by omega, ?_, fun q hq => ?_, rfl⟩
    · have := z0.1; have := z0.2.1; omega
    · have : ((q.1.natAbs : Nat) : Int) ≤ ((q0.1.natAbs : Nat) : Int) := hM _ (List.mem_map.mpr ⟨q, hq, rfl⟩)
      constructor <;> omega
  rintro _ ⟨G, G0, G9, Gb, rfl⟩
  let Gr := some (L.val (.int G))
  have fdv : ∀ b : Int, 0 < b → b * ((10 : Int) ^ 9).fdiv b ≤ 10 ^ 9 ∧ 0 ≤ ((10 : Int) ^ 9).fdiv b := fun b b0 => by
    rw [Int.fdiv_eq_ediv_of_nonneg _ (by omega)]
    exact ⟨Int.mul_ediv_self_le (by omega), Int.ediv_nonneg (by decide) (by omega)⟩
  have fdv6 : ∀ b : Int, 0 < b → b * ((10 : Int) ^ 6).fdiv b ≤ 10 ^ 6 ∧ 0 ≤ ((10 : Int) ^ 6).fdiv b := fun b b0 => by
    rw [Int.fdiv_eq_ediv_of_nonneg _ (by omega)]
    exact ⟨Int.mul_ediv_self_le (by omega), Int.ediv_nonneg (by decide) (by omega)⟩
  refine seq_mid (M := fun s' => ∃ K : Int, 1 ≤ K ∧ K ≤ 10 ^ 9 + 1 ∧ (∀ q ∈ p.its, -(10 ^ 9) ≤ q.1 * K ∧ q.1 * K ≤ 10 ^ 9) ∧ s' = ⟨[O, P, It, Wt, V, F, Gr, some (.val (.int K)), none, none, none, none, none, none, none], g + 1⟩) ?_ ?_
  rotate_left
  · intro N hN
    have b0 : (0 : Int) < max 1 G := by omega
    obtain ⟨f1, f2⟩ := fdv (max 1 G) b0
    have bz : Sz 40 (max 1 G) := by unfold Sz; omega
    have f3 : ((10 : Int) ^ 9).fdiv (max 1 G) ≤ 10 ^ 9 := by
      have := Int.mul_le_mul_of_nonneg_right (show 1 ≤ max 1 G by omega) f2
      omega
    refine ⟨c9, divOk_of bz (by omega) (by omega), max 1 (((10 : Int) ^ 9).fdiv (max 1 G)), rfl, by omega, by omega, (by show g < drawLine; omega), fun k k0 k1 => ?_⟩
    refine hN _ ⟨1 + k, by omega, by omega, fun q hq => ?_, rfl⟩
    obtain ⟨a, b⟩ := Gb q hq
    have kk : 1 + k ≤ max 1 (((10 : Int) ^ 9).fdiv (max 1 G)) := by omega
    have gk : G * (1 + k) ≤ 10 ^ 9 := by
      rcases (show 1 ≤ ((10 : Int) ^ 9).fdiv (max 1 G) ∨ ((10 : Int) ^ 9).fdiv (max 1 G) < 1 by omega) with z | z
      · have m1 := Int.mul_le_mul_of_nonneg_left (show 1 + k ≤ ((10 : Int) ^ 9).fdiv (max 1 G) by omega) G0
        have m2 := Int.mul_le_mul_of_nonneg_right (show G ≤ max 1 G by omega) f2
        omega
      · have : k = 0 := by omega
        rw [this]; omega
    have u1 := Int.mul_le_mul_of_nonneg_right b (show 0 ≤ 1 + k by omega)
    have u2 := Int.mul_le_mul_of_nonneg_right a (show 0 ≤ 1 + k by omega)
    have e : -G * (1 + k) = -(G * (1 + k)) := by rw [Int.neg_mul]
    rw [e] at u2
    constructor <;> omega
  rintro _ ⟨K, K1, K9, Kb, rfl⟩
  let Kr := some (L.val (.int K))
  refine seq_mid (M := fun s' => ∃ A : Int, 0 ≤ A ∧ A ≤ 10 ^ 9 - G ∧ s' = ⟨[O, P, It, Wt, V, F, Gr, Kr, some (.val (.int A)), none, none, none, none, none, none], g + 2⟩) ?_ ?_
  rotate_left
  · intro N hN
    refine ⟨c9, 10 ^ 9 - G + 1, rfl, by omega, by omega, (by show g + 1 < drawLine; omega), fun a a0 a1 => ?_⟩
    exact hN _ ⟨a, a0, by omega, rfl⟩
  rintro _ ⟨A, A0, A9, rfl⟩
  let Ar := some (L.val (.int A))
  have Az : Sz 40 A := by unfold Sz; omega
  have Kz : Sz 40 K := by unfold Sz; omega
  refine seq_mid (M := fun s' => ∃ H : Int, 1 ≤ H ∧ H ≤ 10 ^ 6 + 1 ∧ (∀ q ∈ p.its, 1 ≤ q.2 * H ∧ q.2 * H ≤ 10 ^ 6) ∧ s' = ⟨[O, P, It, Wt, V, F, Gr, Kr, Ar, some (.val (.int H)), none, none, none, none, none], g + 3⟩) ?_ ?_
  rotate_left
  · intro N hN
    refine ⟨c6, _, rfl, ?_⟩
    refine lc_mapl p.its itD (fun q => D.int q.2) (by omega) (fun q hq => ⟨_, rfl, fun T h => h⟩) ?_ (by decide) (by rfl)
    have e : (p.its.map fun q => D.int q.2) = (p.its.map fun q => q.2).map .int := by rw [List.map_map]; rfl
    rw [e]
    refine ⟨_, asInts_map _, by rw [List.length_map]; omega, fun w hw' hM => ?_⟩
    obtain ⟨q0, hq0, rfl⟩ := List.mem_map.mp hw'
    have z0 := hp.it q0 hq0
    obtain ⟨f1, f2⟩ := fdv6 q0.2 (by have := z0.2.2.1; omega)
    have f3 : 1 ≤ ((10 : Int) ^ 6).fdiv q0.2 := by
      rw [Int.fdiv_eq_ediv_of_nonneg _ (by have := z0.2.2.1; omega)]
      exact (Int.le_ediv_iff_mul_le (by have := z0.2.2.1; omega)).mpr (by have := z0.2.2.2; omega)
    have f4 : ((10 : Int) ^ 6).fdiv q0.2 ≤ 10 ^ 6 := by
      have := Int.mul_le_mul_of_nonneg_right z0.2.2.1 f2
      omega
    refine ⟨divOk_of (ItOk.sz z0).2 (by have := z0.2.2.1; omega) (by omega), ((10 : Int) ^ 6).fdiv q0.2, rfl, by omega, by omega, (by show g + 2 < drawLine; omega), fun k k0 k1 => ?_⟩
    refine hN _ ⟨1 + k, by omega, by omega, fun q hq => ?_, rfl⟩
    have q2 := (hp.it q hq).2.2.1
    have le := hM _ (List.mem_map.mpr ⟨q, hq, rfl⟩)
    have m1 := Int.mul_le_mul_of_nonneg_left (show 1 + k ≤ ((10 : Int) ^ 6).fdiv q0.2 by omega) (show 0 ≤ q.2 by omega)
    have m2 := Int.mul_le_mul_of_nonneg_right le f2
    have m3 := Int.mul_le_mul_of_nonneg_right q2 (show 0 ≤ 1 + k by omega)
    constructor <;> omega
  rintro _ ⟨H, H1, H6, Hb, rfl⟩
  let Hr := some (L.val (.int H))
  have Hz : Sz 40 H := by unfold Sz; omega
  have okS : PanOk 8 (shPn p A) := sh_ok hp fun q hq => by have := Gb q hq; constructor <;> omega
  have okC : PanOk 8 (scPn p K) := sc_ok hp Kb
  have okW : PanOk 8 (wgPn p H) := wg_ok hp Hb
  have lS : (shPn p A).its.length = p.its.length := by simp [shPn]
  have lC : (scPn p K).its.length = p.its.length := by simp [scPn]
  have lW : (wgPn p H).its.length = p.its.length := by simp [wgPn]
  have d1 : ∀ n : Int, Rat.divInt n 1 = (n : Rat) := fun n => divInt_is (by decide) (by
    have z : ((1 : Int) : Rat) = 1 := rfl
    rw [z]; grind)
  have vA : SzR 900 (v + (A : Rat)) := (hv.add (SzR.int Az (by decide))).le (by decide)
  have vK : SzR 900 (v * (K : Rat)) := (hv.mul (SzR.int Kz (by decide))).le (by decide)
  refine seq_mid (M := fun s' => s' = ⟨[O, P, It, Wt, V, F, Gr, Kr, Ar, Hr, some (.val (mrD (shPn p A) it wt (v + (A : Rat)))), none, none, none, none], g + 3⟩) ?_ ?_
  rotate_left
  · intro N hN
    refine ⟨p, A, rfl, by omega, okS.it, ?_⟩
    refine ⟨by show 2 ≤ sizeLine; omega, v, A, 1, 800, 40, rfl, by decide, hv, Az, sz_one (by decide), by decide, ?_⟩
    rw [d1]
    exact ⟨8, shPn p A, it, wt, _, rfl, okS, by decide, by omega, by omega, vA.le (by decide), hN _ rfl⟩
  rintro _ rfl
  let S10 := some (L.val (mrD (shPn p A) it wt (v + (A : Rat))))
  let C11 := some (L.val (panD (scPn p K)))
  have esc : sclP p K = scPn p K := rfl
  refine seq_mid (M := fun s' => s' = ⟨[O, P, It, Wt, V, F, Gr, Kr, Ar, Hr, S10, C11, none, none, none], g + 3⟩) ?_ ?_
  rotate_left
  · intro N hN
    exact ⟨p, K, rfl, by omega, Kz.le (by decide), hp.it, okC.it, hN _ rfl⟩
  rintro _ rfl
  have dv : (0 : Int) < (v.den : Int) := by have := v.den_pos; omega
  have evk : Rat.divInt (v.num * K) (v.den : Int) = v * (K : Rat) := divInt_is dv (by rw [Rat.intCast_mul, num_den v]; grind)
  refine seq_mid (M := fun s' => s' = ⟨[O, P, It, Wt, V, F, Gr, Kr, Ar, Hr, S10, C11, some (.val (mrD (scPn p K) it wt (v * (K : Rat)))), none, none], g + 3⟩) ?_ ?_
  rotate_left
  · intro N hN
    refine ⟨_, rfl, hv.1.mulOk Kz (by omega), _, rfl, v.num * K, v.den, rfl, dv, hv.2.le (by decide), ?_⟩
    rw [evk]
    exact ⟨8, scPn p K, it, wt, _, rfl, okC, by decide, by omega, by omega, vK.le (by decide), hN _ rfl⟩
  rintro _ rfl
  let L12 := some (L.val (mrD (scPn p K) it wt (v * (K : Rat))))
  -- led
  have led : ∀ (k a : Int), Sz 40 k → Sz 40 a → ∀ (e : D), ((mrD p it wt v = .tup [.str "always"] ∧ e = .tup [.str "always"]) ∨ (mrD p it wt v = .tup [.str "never"] ∧ e = .tup [.str "never"]) ∨ ∃ M : Rat, mrD p it wt v = .tup [.str "from", frD M] ∧ e = .tup [.str "from", frD (M * (k : Rat) + (a : Rat))]) → ∀ T : DK, T e → sp_led_6b2d [mrD p it wt v, .int k, .int a] T := fun k a kz az e he T hT => by
    refine ⟨_, k, a, rfl, kz, az, ?_⟩
    rcases he with ⟨e1, rfl⟩ | ⟨e1, rfl⟩ | ⟨M, e1, rfl⟩
    · exact .inl ⟨e1, by rw [e1]; exact hT⟩
    · exact .inr (.inl ⟨e1, by rw [e1]; exact hT⟩)
    · exact .inr (.inr ⟨M, e1, (mr_from_sz hp hi hv e1).le (by decide), hT⟩)
  have AR1 : ((1 : Int) : Rat) = 1 := rfl
  have AR0 : ((0 : Int) : Rat) = 0 := rfl
  have hS := mr_led (k := 1) (a := (A : Rat)) (v' := v + (A : Rat)) hp hi hw okS (by rw [lS]; exact hi) (by rw [lS]; exact hw) (by grind) (rch_sh hp okS hi hw)
  have hC := mr_led (k := (K : Rat)) (a := 0) (v' := v * (K : Rat)) hp hi hw okC (by rw [lC]; exact hi) (by rw [lC]; exact hw) (Rat.intCast_pos.mpr (by omega)) (rch_sc hp okC (by omega) hi hw)
  have hW := mr_led (k := 1) (a := 0) (v' := v) hp hi hw okW (by rw [lW]; exact hi) (by rw [lW]; exact hw) (by grind) (rch_wg hp okW (by omega) hi hw)
  obtain ⟨s1, s2, s3⟩ := mrD_ok2 (shPn p A) it wt (v + (A : Rat))
  obtain ⟨t1, t2, t3⟩ := mrD_ok2 (scPn p K) it wt (v * (K : Rat))
  obtain ⟨w1, w2, w3⟩ := mrD_ok2 p it wt v
  refine seq_mid (M := fun s' => s' = ⟨[O, P, It, Wt, V, F, Gr, Kr, Ar, Hr, S10, C11, L12, none, none], g + 3⟩) ?_ ?_
  rotate_left
  · intro N hN
    refine ⟨by show 2 ≤ sizeLine; omega, ?_⟩
    refine led 1 A (sz_one (by decide)) Az (mrD (shPn p A) it wt (v + (A : Rat))) (by rw [AR1]; exact hS) _ ?_
    refine led K 0 Kz sz_zero (mrD (scPn p K) it wt (v * (K : Rat))) (by rw [AR0]; exact hC) _ ?_
    refine ⟨by show 2 ≤ sizeLine; omega, _, rfl, ?_, ?_, by decide, ?_, fun hc => Bool.noConfusion hc, fun _ => hN _ rfl⟩
    · show ((mrD (shPn p A) it wt (v + (A : Rat))).pln && ((mrD (scPn p K) it wt (v * (K : Rat))).pln && true)) = true
      rw [s1, t1]; rfl
    · show max (mrD (shPn p A) it wt (v + (A : Rat))).dep (max (mrD (scPn p K) it wt (v * (K : Rat))).dep 0) + 1 < 24
      omega
    · show (mrD (shPn p A) it wt (v + (A : Rat))).wid + 8 + ((mrD (scPn p K) it wt (v * (K : Rat))).wid + 8 + 0) + 8 ≤ 10000000
      omega
  rintro _ rfl
  refine seq_mid (M := fun s' => s' = ⟨[O, P, It, Wt, V, F, Gr, Kr, Ar, Hr, S10, C11, L12, none, none], g + 3⟩) ?_ ?_
  rotate_left
  · intro N hN
    refine ⟨p, H, rfl, by omega, Hz.le (by decide), hp.it, okW.it, ?_⟩
    refine ⟨8, wgPn p H, it, wt, v, rfl, okW, by decide, by omega, by omega, hv.le (by decide), ?_⟩
    have e : mrD (wgPn p H) it wt v = mrD p it wt v := by
      rcases hW with ⟨a, b⟩ | ⟨a, b⟩ | ⟨M, a, b⟩
      · rw [a, b]
      · rw [a, b]
      · rw [a, b]
        have : M * 1 + 0 = M := by grind
        rw [this]
    refine ⟨mrD p it wt v, ?_, w1, by omega, by decide, by omega, fun hc => Bool.noConfusion hc, fun _ => hN _ rfl⟩
    show [mrD (wgPn p H) it wt v, mrD p it wt v] = _
    rw [e]
  rintro _ rfl
  exact ⟨p, it, wt, v, rfl, hp, hi, hw, hv.le (by decide), h⟩

def t_ordered_624c : PSx Unit := (qSeq (qAsgDic (qDisp3 (qC (.str "always")) (qC (.int 0)) (qC (.str "from")) (qC (.int 1)) (qC (.str "never")) (qC (.int 2))) 2) (qSeq (qIf (qB (qBin neD (qDicIx 2 (qBin ixD (qVar 0) (qC (.int 0)))) (qDicIx 2 (qBin ixD (qVar 1) (qC (.int 0)))))) (qRet (qBin ltD (qDicIx 2 (qBin ixD (qVar 0) (qC (.int 0)))) (qDicIx 2 (qBin ixD (qVar 1) (qC (.int 0)))))) qNext) (qRet (qOrV (qBin neD (qBin ixD (qVar 0) (qC (.int 0))) (qC (.str "from"))) (qNotV (qCallP (sp_less_7322) (qCons (qBin ixD (qVar 1) (qC (.int 1))) (qCons (qBin ixD (qVar 0) (qC (.int 1))) qNil))))))))

def Tld (d : D) (k : Int) : Prop := (d = .tup [.str "always"] ∧ k = 0) ∨ (∃ M : Rat, d = .tup [.str "from", frD M] ∧ k = 1) ∨ (d = .tup [.str "never"] ∧ k = 2)
def sp_ordered_624c : Spec0 := fun ds R => ∃ (d e : D) (k l : Int), ds = [d, e] ∧ Tld d k ∧ Tld e l ∧ (k < l ∨ (k = l ∧ (k = 1 → ∃ M N : Rat, d = .tup [.str "from", frD M] ∧ e = .tup [.str "from", frD N] ∧ M ≤ N ∧ SzR 9000 M ∧ SzR 9000 N))) ∧ R (.bl true)
theorem len_ordered_624c (ds : List D) (R : DK) (h : sp_ordered_624c ds R) : ds.length = 2 := by
  obtain ⟨_, _, _, _, rfl, _⟩ := h; rfl
def plcK : List (Key × D) := [(.inr "always", .int 0), (.inr "from", .int 1), (.inr "never", .int 2)]
theorem k_af : (Sum.inr ("always" : Str) : Key) ≠ .inr "from" := by decide +kernel
theorem k_an : (Sum.inr ("always" : Str) : Key) ≠ .inr "never" := by decide +kernel
theorem k_fn : (Sum.inr ("from" : Str) : Key) ≠ .inr "never" := by decide +kernel
theorem tld_ix {d : D} {k : Int} (h : Tld d k) : ∃ (x : Str) (xs : List D), d = .tup (.str x :: xs) ∧ getK plcK (.inr x) = some (.int k) := by
  rcases h with ⟨rfl, rfl⟩ | ⟨M, rfl, rfl⟩ | ⟨rfl, rfl⟩
  · exact ⟨_, _, rfl, by simp [getK, plcK]⟩
  · refine ⟨_, _, rfl, ?_⟩
    show (if (Sum.inr ("always" : Str) : Key) = .inr "from" then some (D.int 0) else (if (Sum.inr ("from" : Str) : Key) = .inr "from" then some (.int 1) else _)) = _
    rw [if_neg k_af, if_pos rfl]
  · refine ⟨_, _, rfl, ?_⟩
    show (if (Sum.inr ("always" : Str) : Key) = .inr "never" then some (D.int 0) else (if (Sum.inr ("from" : Str) : Key) = .inr "never" then some (.int 1) else (if (Sum.inr ("never" : Str) : Key) = .inr "never" then some (.int 2) else none))) = _
    rw [if_neg k_an, if_neg k_fn, if_pos rfl]
theorem p_ordered_624c (ds : List D) (R : DK) (h : sp_ordered_624c ds R) : t_ordered_624c { nx := fun _ => R .non, rt := fun d _ => R d } ⟨startL 3 ds, ()⟩ := by
  obtain ⟨d, e, k, l, rfl, hd, he, ho, h⟩ := h
  have line : (10000000 : Nat) ≤ sizeLine := line_big
  obtain ⟨x, xs, ed, gx⟩ := tld_ix hd
  obtain ⟨y, ys, ee, gy⟩ := tld_ix he
  let A := some (L.val d)
  let B := some (L.val e)
  refine seq_mid (M := fun s' => s' = ⟨[A, B, some (.dic plcK)], ()⟩) ?_ ?_
  rotate_left
  · intro N hN
    exact ⟨_, _, _, rfl, rfl, rfl, by decide +kernel, by decide +kernel, by decide +kernel, hN _ rfl⟩
  rintro _ rfl
  have ixd : ∀ (T : DK), T (.str x) → ixD d (.int 0) T := fun T hT => by rw [ed]; exact ⟨_, rfl, hT⟩
  have ixe : ∀ (T : DK), T (.str y) → ixD e (.int 0) T := fun T hT => by rw [ee]; exact ⟨_, rfl, hT⟩
  have two : ∀ (T : D → S Unit → Prop) (p : D → D → DK → Prop), (p (.int k) (.int l) fun z => T z ⟨[A, B, some (.dic plcK)], ()⟩) → qBin p (qDicIx 2 (qBin ixD (qVar 0) (qC (.int 0)))) (qDicIx 2 (qBin ixD (qVar 1) (qC (.int 0)))) ⟨[A, B, some (.dic plcK)], ()⟩ T := fun T p hT => by
    refine ⟨⟨_, rfl⟩, ?_⟩
    refine ixd _ ?_
    refine ⟨plcK, .inr x, .int k, rfl, rfl, gx, ?_⟩
    refine ⟨⟨_, rfl⟩, ?_⟩
    refine ixe _ ?_
    exact ⟨plcK, .inr y, .int l, rfl, rfl, gy, hT⟩
  by_cases kl : k = l
  · refine seq_mid (M := fun s' => s' = ⟨[A, B, some (.dic plcK)], ()⟩) ?_ ?_
    rotate_left
    · intro N hN
      refine two _ _ ⟨⟨rfl, rfl, Nat.zero_le _, Nat.zero_le _⟩, fun hc => ?_, fun _ => hN _ rfl⟩
      have hc : (!decide (k = l)) = true := hc
      rw [decide_eq_true kl] at hc; cases hc
    rintro _ rfl
    rcases ho with z | ⟨_, ho⟩
    · omega
    rcases hd with ⟨ed', k0⟩ | ⟨M, ed', k1⟩ | ⟨ed', k2⟩
    · have key : ∀ (T : DK), T (.str "always") → ixD d (.int 0) T := fun T hT => by rw [ed']; exact ⟨_, rfl, hT⟩
      refine key _ ?_
      exact ⟨trivial, fun _ => h, fun hc => absurd hc (by decide +kernel)⟩
    · obtain ⟨M', N, e1, e2, le, zM, zN⟩ := ho k1
      have key : ∀ (T : DK), T (.str "from") → ixD d (.int 0) T := fun T hT => by rw [e1]; exact ⟨_, rfl, hT⟩
      have keyd : ∀ (T : DK), T (frD M') → ixD d (.int 1) T := fun T hT => by rw [e1]; exact ⟨_, rfl, hT⟩
      have keye : ∀ (T : DK), T (frD N) → ixD e (.int 1) T := fun T hT => by rw [e2]; exact ⟨_, rfl, hT⟩
      refine key _ ?_
      refine ⟨trivial, fun hc => absurd hc (by decide +kernel), fun _ => ?_⟩
      refine keye _ ?_
      refine keyd _ ?_
      refine ⟨N, M', rfl, zN, zM, ?_⟩
      rw [decide_eq_false (show ¬ N < M' by grind)]
      exact h
    · have key : ∀ (T : DK), T (.str "never") → ixD d (.int 0) T := fun T hT => by rw [ed']; exact ⟨_, rfl, hT⟩
      refine key _ ?_
      exact ⟨trivial, fun _ => h, fun hc => absurd hc (by decide +kernel)⟩
  · refine two _ _ ⟨⟨rfl, rfl, Nat.zero_le _, Nat.zero_le _⟩, fun _ => ?_, fun hc => ?_⟩
    · refine two _ _ ?_
      have lt : k < l := by
        rcases ho with z | ⟨z, _⟩
        · exact z
        · exact absurd z kl
      show R (.bl (decide (k < l)))
      rw [decide_eq_true lt]; exact h
    · have hc : (!decide (k = l)) = false := hc
      rw [decide_eq_false kl] at hc; cases hc

def t_present_right_0525 : PSx Unit := (qSeq (qPar 3 4 (qCons (qTup (qCons (qBin ixD (qBin ixD (qBin ixD (qVar 0) (qC (.int 0))) (qVar 1)) (qC (.int 0))) (qCons (qC (.int 1)) qNil))) (qCons (qBin ixD (qCallP (sp_best_rating_b8e6) (qCons (qVar 0) qNil)) (qVar 2)) qNil))) (qSeq (qIf (qNot (qB (qCallP (sp_ordered_624c) (qCons (qCallP (sp_mark_to_reach_5768) (qCons (qVar 0) (qCons (qVar 1) (qCons (qVar 2) (qCons (qVar 4) qNil))))) (qCons (qTup (qCons (qC (.str "from")) (qCons (qVar 3) qNil))) qNil))))) (qRet (qC (.bl false))) qNext) (qSeq (qAsg (qCallP (sp_mark_to_reach_5768) (qCons (qVar 0) (qCons (qVar 1) (qCons (qVar 2) (qCons (qCallP (sp_plus_f97f) (qCons (qVar 4) (qCons (qTup (qCons (qC (.int 1)) (qCons (qBin powD (qC (.int 10)) (qC (.int 9))) qNil))) qNil))) qNil))))) 5) (qRet (qOrV (qBin eqD (qBin ixD (qVar 5) (qC (.int 0))) (qC (.str "never"))) (qAndV (qBin eqD (qBin ixD (qVar 5) (qC (.int 0))) (qC (.str "from"))) (qCallP (sp_less_7322) (qCons (qVar 3) (qCons (qBin ixD (qVar 5) (qC (.int 1))) qNil)))))))))

def sp_present_right_0525 : Spec0 := fun ds R => ∃ (p : Pan) (it wt : Nat), ds = [panD p, natD it, natD wt] ∧ PanOk 8 p ∧ it < p.its.length ∧ wt < p.its.length ∧ R (.bl true)
theorem len_present_right_0525 (ds : List D) (R : DK) (h : sp_present_right_0525 ds R) : ds.length = 3 := by
  obtain ⟨_, _, _, rfl, _⟩ := h; rfl
theorem p_present_right_0525 (ds : List D) (R : DK) (h : sp_present_right_0525 ds R) : t_present_right_0525 { nx := fun _ => R .non, rt := fun d _ => R d } ⟨startL 6 ds, ()⟩ := by
  obtain ⟨p, it, wt, rfl, hp, hi, hw, h⟩ := h
  have line : (10000000 : Nat) ≤ sizeLine := line_big
  have c9 : CPow 10 9 := ⟨by decide, by decide, by decide⟩
  let P := some (L.val (panD p))
  let It := some (L.val (natD it))
  let Wt := some (L.val (natD wt))
  obtain ⟨q, hq⟩ : ∃ q, q = p.its.getD it (0, 1) := ⟨_, rfl⟩
  have qi : ItOk q := by rw [hq]; exact hp.it (p.its.getD it (0, 1)) (by rw [List.getD_eq_getElem?_getD, List.getElem?_eq_getElem hi]; exact List.getElem_mem hi)
  have mz := (ItOk.sz qi).1
  have fm : D.tup [.int q.1, .int 1] = frD ((q.1 : Int) : Rat) := rfl
  have mr : mR p it = ((q.1 : Int) : Rat) := by unfold mR; rw [hq]
  let Mk := some (L.val (frD ((q.1 : Int) : Rat)))
  refine seq_mid (M := fun s' => ∃ r, BestP p r ∧ SzR 150 (r wt) ∧ s' = ⟨[P, It, Wt, Mk, some (.val (frD (r wt))), none], ()⟩) ?_ ?_
  rotate_left
  · intro N hN
    refine ⟨_, rfl, _, idx_it hi, _, rfl, by show 2 ≤ sizeLine; omega, 8, p, rfl, by decide, hp, fun r hr hz => ?_⟩
    refine ⟨_, idx_rng (fun i => frD (r i)) hw, hN _ ⟨r, hr, hz wt hw, ?_⟩⟩
    rw [← hq]; rfl
  rintro _ ⟨r, hr, hz, rfl⟩
  have bo := bestF_own (it := it) hr
  rw [mr] at bo
  let Ra := some (L.val (frD (r wt)))
  refine seq_mid (M := fun s' => s' = ⟨[P, It, Wt, Mk, Ra, none], ()⟩) ?_ ?_
  rotate_left
  · intro N hN
    refine ⟨8, p, it, wt, r wt, rfl, hp, by decide, hi, hw, hz.le (by decide), by show 2 ≤ sizeLine; omega, ?_⟩
    have rc : Rch p it wt (r wt) ((q.1 : Int) : Rat) := (rch_iff hp hw bo).mpr Rat.le_refl
    have fl : Tld (.tup [.str "from", frD ((q.1 : Int) : Rat)]) 1 := .inr (.inl ⟨_, rfl, rfl⟩)
    rcases mr_desc hp hi hw (r wt) with ⟨e, _⟩ | ⟨e, k⟩ | ⟨M, e, k⟩
    · refine ⟨mrD p it wt (r wt), _, 0, 1, rfl, .inl ⟨e, rfl⟩, fl, .inl (by decide), fun hc => Bool.noConfusion hc, fun _ => hN _ rfl⟩
    · exact absurd rc (k _)
    · refine ⟨mrD p it wt (r wt), _, 1, 1, rfl, .inr (.inl ⟨M, e, rfl⟩), fl, .inr ⟨rfl, fun _ => ⟨M, _, e, rfl, (k _).mp rc, (mr_from_sz hp hi hz e).le (by decide), SzR.int (mz.le (by decide))⟩⟩, fun hc => Bool.noConfusion hc, fun _ => hN _ rfl⟩
  rintro _ rfl
  obtain ⟨u, hu⟩ : ∃ u, u = r wt + Rat.divInt 1 (10 ^ 9) := ⟨_, rfl⟩
  have pos : (0 : Rat) < Rat.divInt 1 (10 ^ 9) := by decide +kernel
  have uz : SzR 200 u := by
    rw [hu]
    exact (hz.add (SzR.divInt (b := 31) (sz_one (by decide)) (by unfold Sz; decide) (by decide))).le (by decide)
  refine seq_mid (M := fun s' => s' = ⟨[P, It, Wt, Mk, Ra, some (.val (mrD p it wt u))], ()⟩) ?_ ?_
  rotate_left
  · intro N hN
    refine ⟨c9, by show 2 ≤ sizeLine; omega, r wt, 1, 10 ^ 9, 150, 31, rfl, by decide, hz, sz_one (by decide), by unfold Sz; decide, by decide, ?_⟩
    rw [← hu]
    exact ⟨8, p, it, wt, u, rfl, hp, by decide, hi, hw, uz.le (by decide), hN _ rfl⟩
  rintro _ rfl
  have nrc : ¬ Rch p it wt u ((q.1 : Int) : Rat) := fun c => by
    have := (rch_iff hp hw bo).mp c
    rw [hu] at this
    grind
  rcases mr_desc hp hi hw u with ⟨e, k⟩ | ⟨e, k⟩ | ⟨M, e, k⟩
  · exact absurd (k _) nrc
  · rw [e]
    exact ⟨_, rfl, trivial, fun _ => h, fun hc => absurd hc (by decide +kernel)⟩
  · have lt : ((q.1 : Int) : Rat) < M := by
      rcases (show ((q.1 : Int) : Rat) < M ∨ M ≤ ((q.1 : Int) : Rat) by grind) with z | z
      · exact z
      · exact absurd ((k _).mpr z) nrc
    have Mz := (mr_from_sz hp hi uz e).le (show 2 * 200 + 200 ≤ 9000 by decide)
    rw [e]
    refine ⟨_, rfl, trivial, fun hc => absurd hc (by decide +kernel), fun _ => ?_⟩
    refine ⟨_, rfl, trivial, fun _ => ?_, fun hc => absurd hc (by decide +kernel)⟩
    refine ⟨_, rfl, ((q.1 : Int) : Rat), M, rfl, SzR.int (mz.le (by decide)), Mz, ?_⟩
    rw [decide_eq_true lt]; exact h

def t_one_be76 (r : Addr) : PSx Nat := (qRet (qBin ixD (qVar 1) (qCallG (nextS r) (qCons (qVar 0) (qCons (qCall (fn1 lenD) (qCons (qVar 1) qNil)) qNil)))))

def sp_one_be76 (r : Addr) : Spec Nat := fun ds g R => ∃ xs : List D, (ds = [.obj r, .lst xs] ∨ ds = [.obj r, .tup xs]) ∧ 1 ≤ xs.length ∧ xs.length ≤ 100000 ∧ g < drawLine ∧ ∀ d ∈ xs, R d (g + 1)
theorem len_one_be76 (r : Addr) (ds : List D) (g : Nat) (R : D → Nat → Prop) (h : sp_one_be76 r ds g R) : ds.length = 2 := by
  obtain ⟨xs, rfl | rfl, _⟩ := h <;> rfl
theorem idx_mem {xs : List D} {k : Int} (k0 : 0 ≤ k) (k1 : k < xs.length) : ∃ d, idx xs k = some d ∧ d ∈ xs := by
  have hk : k.toNat < xs.length := by omega
  refine ⟨xs[k.toNat], ?_, List.getElem_mem hk⟩
  unfold idx
  rw [if_neg (by omega)]
  exact List.getElem?_eq_getElem hk
theorem p_one_be76 (r : Addr) (ds : List D) (g : Nat) (R : D → Nat → Prop) (h : sp_one_be76 r ds g R) : t_one_be76 r { nx := fun s => R .non s.g, rt := R } ⟨startL 2 ds, g⟩ := by
  obtain ⟨xs, rfl | rfl, h1, h2, hg, h⟩ := h
  · refine ⟨xs.length, rfl, by omega, by omega, hg, fun k k0 k1 => ?_⟩
    obtain ⟨d, e, hd⟩ := idx_mem k0 k1
    exact ⟨d, e, h d hd⟩
  · refine ⟨xs.length, rfl, by omega, by omega, hg, fun k k0 k1 => ?_⟩
    obtain ⟨d, e, hd⟩ := idx_mem k0 k1
    exact ⟨d, e, h d hd⟩

def t_law_0125 (r : Addr) : PSx Nat := (qSeq (qFor (qRange1 (qCons (qC (.int 3)) qNil)) (.nm 2) (qSeq (qAsg (qCallG (sp_panel_3836 r) (qCons (qVar 1) (qCons (qC (.int 8)) qNil))) 3) (qSeq (qAsgT (qTup (qCons (qCallG (nextS r) (qCons (qVar 1) (qCons (qCall (fn1 lenD) (qCons (qBin ixD (qVar 3) (qC (.int 0))) qNil)) qNil))) (qCons (qCallG (nextS r) (qCons (qVar 1) (qCons (qCall (fn1 lenD) (qCons (qBin ixD (qVar 3) (qC (.int 0))) qNil)) qNil))) qNil))) (.tp [(.nm 4), (.nm 5)])) (qSeq (qAsg (qSet (qLst (qCons (qTup (qCons (qBin ixD (qCallG (sp_one_be76 r) (qCons (qVar 1) (qCons (qBin ixD (qVar 3) (qC (.int 0))) qNil))) (qC (.int 0))) (qCons (qBin addD (qC (.int 1)) (qCallG (nextS r) (qCons (qVar 1) (qCons (qC (.int 3)) qNil)))) qNil))) (qCons (qCallG (sp_fraction_6a64 r) (qCons (qVar 1) qNil)) qNil)))) 6) (qSeq (qAsg (qCallP (sp_lowest_ba06) (qCons (qBin ixD (qBin ixD (qVar 6) (qC (.int 0))) (qC (.int 0))) (qCons (qBin ixD (qBin ixD (qVar 6) (qC (.int 0))) (qC (.int 1))) qNil))) 7) (qSeq (qAsgT (qSet (qLc (qItems (qTup (qCons (qVar 7) (qCons (qBin ixD (qVar 6) (qC (.int 1))) qNil)))) (.nm 10) [10] qYes (qCallP (sp_mark_to_reach_5768) (qCons (qVar 3) (qCons (qVar 4) (qCons (qVar 5) (qCons (qVar 10) qNil))))))) (.tp [(.nm 8), (.nm 9)])) (qSeq (qIf (qB (qCallP (sp_less_7322) (qCons (qBin ixD (qVar 6) (qC (.int 1))) (qCons (qVar 7) qNil)))) (qPar 8 9 (qCons (qVar 9) (qCons (qVar 8) qNil))) qNext) (qSeq (qIf (qOr (qNot (qB (qCallP (sp_ordered_624c) (qCons (qVar 8) (qCons (qVar 9) qNil))))) (qNot (qB (qCallP (sp_present_right_0525) (qCons (qVar 3) (qCons (qVar 4) (qCons (qVar 5) qNil))))))) (qRet (qC (.bl false))) qNext) (qIf (qNot (qB (qCallG (sp_changed_right_f9b2 r) (qCons (qVar 1) (qCons (qVar 3) (qCons (qVar 4) (qCons (qVar 5) (qCons (qVar 7) qNil)))))))) (qRet (qC (.bl false))) qNext))))))))) (qRet (qC (.bl true))))

theorem p_law_0125 (r : Addr) : t_law_0125 r { nx := fun _ => False, rt := fun d _ => d = .bl true } ⟨(List.replicate 11 none).set 1 (some (.val (.obj r))), 0⟩ := by
  have lim : drawLine = 16777216 := by decide
  have line : (10000000 : Nat) ≤ sizeLine := line_big
  let O := some (L.val (.obj r))
  refine ⟨⟨by decide, by decide⟩, fun i s => ∃ g, g ≤ 2000 * i ∧ s = ⟨[none, O, none, none, none, none, none, none, none, none, none], g⟩, ⟨_, Wk.refl _, 0, by omega, rfl⟩, ?_, ?_⟩
  · rintro i d s hd ⟨g, hg, rfl⟩
    have hi : i < 3 := (List.getElem?_eq_some_iff.mp hd).1
    let X := some (L.val d)
    refine put_nm ?_
    refine seq_mid (M := fun s' => ∃ (p : Pan) (g1 : Nat), PanOk 8 p ∧ g1 ≤ g + 400 ∧ s' = ⟨[none, O, X, some (.val (panD p)), none, none, none, none, none, none, none], g1⟩) ?_ ?_
    rotate_left
    · intro N hN
      exact ⟨8, rfl, by decide, by decide, (by show g + 1000 < drawLine; omega), fun p g1 hp ga gb => hN _ ⟨p, g1, hp, gb, rfl⟩⟩
    rintro _ ⟨p, g1, hp, gb, rfl⟩
    have h8 := hp.top
    have h1 := hp.one
    let P := some (L.val (panD p))
    have lk : [D.obj r, D.int (((p.its.map itD).length : Nat) : Int)] = [D.obj r, .int (p.its.length : Nat)] := by rw [List.length_map]
    refine seq_mid (M := fun s' => ∃ it wt : Nat, it < p.its.length ∧ wt < p.its.length ∧ s' = ⟨[none, O, X, P, some (.val (natD it)), some (.val (natD wt)), none, none, none, none, none], g1 + 2⟩) ?_ ?_
    rotate_left
    · intro N hN
      refine ⟨_, rfl, p.its.length, lk, by omega, by omega, (by show g1 < drawLine; omega), fun a a0 a1 => ?_⟩
      obtain ⟨a, rfl⟩ : ∃ b : Nat, a = (b : Int) := ⟨a.toNat, by omega⟩
      refine ⟨_, rfl, p.its.length, lk, by omega, by omega, (by show g1 + 1 < drawLine; omega), fun b b0 b1 => ?_⟩
      obtain ⟨b, rfl⟩ : ∃ c : Nat, b = (c : Int) := ⟨b.toNat, by omega⟩
      exact ⟨by show 2 ≤ sizeLine; omega, put_tg (tg := .tp [(.nm 4), (.nm 5)]) (d := .tup [natD a, natD b]) rfl (hN _ ⟨a, b, by omega, by omega, rfl⟩)⟩
    rintro _ ⟨it, wt, hit, hwt, rfl⟩
    let It := some (L.val (natD it))
    let Wt := some (L.val (natD wt))
    refine seq_mid (M := fun s' => ∃ (k e : Int) (u : Rat), Sz 30 k ∧ 1 ≤ e ∧ e ≤ 3 ∧ SzR 100 u ∧ s' = ⟨[none, O, X, P, It, Wt, some (.val (.lst [.tup [.int k, .int e], frD u])), none, none, none, none], g1 + 7⟩) ?_ ?_
    rotate_left
    · intro N hN
      refine ⟨_, rfl, _, .inr rfl, by rw [List.length_map]; exact h1, by rw [List.length_map]; omega, (by show g1 + 2 < drawLine; omega), fun z hz => ?_⟩
      obtain ⟨q, hq, rfl⟩ := List.mem_map.mp hz
      refine ⟨_, rfl, 3, rfl, by decide, by decide, (by show g1 + 3 < drawLine; omega), fun e e0 e1 => ?_⟩
      refine ⟨by show 2 ≤ sizeLine; omega, rfl, (by show g1 + 4 + 2 < drawLine; omega), fun u zu => ?_⟩
      exact ⟨by show 2 ≤ sizeLine; omega, hN _ ⟨q.1, 1 + e, u, (ItOk.sz (hp.it q hq)).1, by omega, by omega, zu, rfl⟩⟩
    rintro _ ⟨k, e, u, kz, e0, e3, uz, rfl⟩
    have ez : Sz 3 e := by unfold Sz; omega
    obtain ⟨v, hv⟩ : ∃ v, v = Rat.divInt k e := ⟨_, rfl⟩
    have vz : SzR 30 v := by rw [hv]; exact SzR.divInt kz (ez.le (by decide)) (by omega)
    let So := some (L.val (.lst [.tup [.int k, .int e], frD u]))
    let V := some (L.val (frD v))
    refine seq_mid (M := fun s' => s' = ⟨[none, O, X, P, It, Wt, So, V, none, none, none], g1 + 7⟩) ?_ ?_
    rotate_left
    · intro N hN
      refine ⟨_, rfl, _, rfl, _, rfl, _, rfl, k, e, rfl, by omega, ez.le (by decide), ?_⟩
      rw [← hv]; exact hN _ rfl
    rintro _ rfl
    refine seq_mid (M := fun s' => s' = ⟨[none, O, X, P, It, Wt, So, V, some (.val (mrD p it wt v)), some (.val (mrD p it wt u)), none], g1 + 7⟩) ?_ ?_
    rotate_left
    · intro N hN
      refine ⟨_, rfl, by show 2 ≤ sizeLine; omega, ?_⟩
      show lcB _ _ _ _ _ ([v, u].map frD) _
      refine lc_mapl [v, u] frD (fun x => mrD p it wt x) (by show 2 ≤ 1000000; decide) (fun x hx => ⟨_, rfl, fun T h => ?_⟩) ?_ (by decide) (by rfl)
      · have xz : SzR 1000 x := by
          simp only [List.mem_cons, List.not_mem_nil, or_false] at hx
          rcases hx with rfl | rfl
          · exact vz.le (by decide)
          · exact uz.le (by decide)
        exact ⟨8, p, it, wt, x, rfl, hp, by decide, hit, hwt, xz, h⟩
      · exact put_tg (tg := .tp [(.nm 8), (.nm 9)]) (d := .lst [mrD p it wt v, mrD p it wt u]) rfl (hN _ rfl)
    rintro _ rfl
    refine seq_mid (M := fun s' => ∃ a b : Rat, a ≤ b ∧ SzR 100 a ∧ SzR 100 b ∧ s' = ⟨[none, O, X, P, It, Wt, So, V, some (.val (mrD p it wt a)), some (.val (mrD p it wt b)), none], g1 + 7⟩) ?_ ?_
    rotate_left
    · intro N hN
      refine ⟨_, rfl, u, v, rfl, uz.le (by decide), vz.le (by decide), fun hc => ?_, fun hc => ?_⟩
      · have lt : u < v := of_decide_eq_true hc
        exact hN _ ⟨u, v, Rat.le_of_lt lt, uz, vz.le (by decide), rfl⟩
      · have nl : ¬ u < v := of_decide_eq_false hc
        exact hN _ ⟨v, u, by grind, vz.le (by decide), uz, rfl⟩
    rintro _ ⟨a, b, ab, az, bz, rfl⟩
    let A := some (L.val (mrD p it wt a))
    let B := some (L.val (mrD p it wt b))
    refine seq_mid (M := fun s' => s' = ⟨[none, O, X, P, It, Wt, So, V, A, B, none], g1 + 7⟩) ?_ ?_
    rotate_left
    · intro N hN
      obtain ⟨k1, t1⟩ := mr_tld hp hit hwt a
      obtain ⟨k2, t2⟩ := mr_tld hp hit hwt b
      have t1' := t1
      have t2' := t2
      have no1 : ∀ {M N : Rat}, (D.tup [.str "always"]) ≠ .tup [.str "from", frD M] := fun e => by cases e
      have no2 : ∀ {M N : Rat}, (D.tup [.str "never"]) ≠ .tup [.str "from", frD M] := fun e => by cases e
      have no3 : (D.tup [.str "always"]) ≠ .tup [.str "never"] := fun e => by
        injection e with e
        injection e with e _
        injection e with e
        exact absurd e (by decide +kernel)
      have ord : k1 < k2 ∨ (k1 = k2 ∧ (k1 = 1 → ∃ M N : Rat, mrD p it wt a = .tup [.str "from", frD M] ∧ mrD p it wt b = .tup [.str "from", frD N] ∧ M ≤ N ∧ SzR 9000 M ∧ SzR 9000 N)) := by
        rcases mr_mono hp hit hwt ab with q | q | ⟨M, N, q1, q2, le⟩
        · have z : k1 = 0 := by
            rcases t1 with ⟨_, z⟩ | ⟨M, c, _⟩ | ⟨c, _⟩
            · exact z
            · rw [q] at c; exact absurd c (no1 (N := 0))
            · rw [q] at c; exact absurd c no3
          rcases t2 with ⟨_, z2⟩ | ⟨M, c, z2⟩ | ⟨c, z2⟩
          · exact .inr ⟨by omega, fun h => by omega⟩
          · exact .inl (by omega)
          · exact .inl (by omega)
        · have z : k2 = 2 := by
            rcases t2 with ⟨c, _⟩ | ⟨M, c, _⟩ | ⟨_, z⟩
            · rw [q] at c; exact absurd c.symm no3
            · rw [q] at c; exact absurd c (no2 (N := 0))
            · exact z
          rcases t1 with ⟨_, z2⟩ | ⟨M, c, z2⟩ | ⟨c, z2⟩
          · exact .inl (by omega)
          · exact .inl (by omega)
          · exact .inr ⟨by omega, fun h => by omega⟩
        · have z1 : k1 = 1 := by
            rcases t1 with ⟨c, _⟩ | ⟨_, _, z⟩ | ⟨c, _⟩
            · rw [q1] at c; exact absurd c.symm (no1 (N := 0))
            · exact z
            · rw [q1] at c; exact absurd c.symm (no2 (N := 0))
          have z2 : k2 = 1 := by
            rcases t2 with ⟨c, _⟩ | ⟨_, _, z⟩ | ⟨c, _⟩
            · rw [q2] at c; exact absurd c.symm (no1 (N := 0))
            · exact z
            · rw [q2] at c; exact absurd c.symm (no2 (N := 0))
          exact .inr ⟨by omega, fun _ => ⟨M, N, q1, q2, le, (mr_from_sz hp hit az q1).le (by decide), (mr_from_sz hp hit bz q2).le (by decide)⟩⟩
      refine ⟨mrD p it wt a, mrD p it wt b, k1, k2, rfl, t1', t2', ord, fun hc => Bool.noConfusion hc, fun _ => ?_⟩
      exact ⟨p, it, wt, rfl, hp, hit, hwt, fun hc => Bool.noConfusion hc, fun _ => hN _ rfl⟩
    rintro _ rfl
    refine ⟨p, it, wt, v, rfl, hp, hit, hwt, vz.le (by decide), (by show g1 + 7 + 5 < drawLine; omega), fun hc => Bool.noConfusion hc, fun _ => ?_⟩
    exact ⟨⟨[none, O, none, none, none, none, none, none, none, none, none], g1 + 10⟩, Wk.of (by repeat' first | exact trivial | exact .inr rfl | exact .inl rfl | refine ⟨?_, ?_⟩), g1 + 10, by omega, rfl⟩
  · rintro s ⟨g, _, rfl⟩
    exact rfl

end Pm
set_option Elab.async false
set_option linter.all false
set_option maxRecDepth 100000
set_option maxHeartbeats 0
set_option autoImplicit false
namespace Pm
open PySem PySem.Spec
open PyProof.Rows hiding St
open L2
structure Bi (K : PySem.W.Frag) (mg : Str → Option Value) : Prop where
  f_abs : mg "abs" = none
  f_all : mg "all" = none
  f_bool : mg "bool" = none
  f_int : mg "int" = none
  f_isinstance : mg "isinstance" = none
  f_len : mg "len" = none
  f_list : mg "list" = none
  f_max : mg "max" = none
  f_min : mg "min" = none
  f_range : mg "range" = none
  f_sorted : mg "sorted" = none
  f_str : mg "str" = none
  f_sum : mg "sum" = none
  f_tuple : mg "tuple" = none
  f_zip : mg "zip" = none
  g_ITEMS : GlD K mg "ITEMS" (.int 8)
  g_MARK : GlD K mg "MARK" (.int 1000000000)
  g_RULES : GlD K mg "RULES" (.int 16)
  g_WEIGHT : GlD K mg "WEIGHT" (.int 1000000)
theorem bt_abs : bootBuiltins "abs" = some (.builtin "abs") := by decide +kernel
theorem bt_all : bootBuiltins "all" = some (.builtin "all") := by decide +kernel
theorem bt_bool : bootBuiltins "bool" = some (.type "bool") := by decide +kernel
theorem bt_int : bootBuiltins "int" = some (.type "int") := by decide +kernel
theorem bt_len : bootBuiltins "len" = some (.builtin "len") := by decide +kernel
theorem bt_list : bootBuiltins "list" = some (.type "list") := by decide +kernel
theorem bt_max : bootBuiltins "max" = some (.builtin "max") := by decide +kernel
theorem bt_min : bootBuiltins "min" = some (.builtin "min") := by decide +kernel
theorem bt_sorted : bootBuiltins "sorted" = some (.builtin "sorted") := by decide +kernel
theorem bt_str : bootBuiltins "str" = some (.type "str") := by decide +kernel
theorem bt_sum : bootBuiltins "sum" = some (.builtin "sum") := by decide +kernel
theorem bt_tuple : bootBuiltins "tuple" = some (.type "tuple") := by decide +kernel
section
variable {P : Program} {w : World} {K : PySem.W.Frag} {mg : Str → Option Value} {base : Heap}
theorem sc_draws : FnScope ["_law_script", "_law_cells", "_law_cell"] ["_law_script"] (defScope st_draws) := ⟨rfl, rfl, rfl, by decide +kernel, rfl, by decide +kernel, by decide +kernel⟩
theorem ok_draws0 {f fd} (b : Bi K mg) (F : Fn K "_law_draws" "_law_draws" st_draws f fd) : FnOk P w K mg base CX0 1 f fd ["_law_script"] (spDraws K) := ok_draws F sc_draws rfl rfl fun cdv A outer s H E hr => by
  have nd := sc_draws.nd
  exact pss_cons (ps_set (i := 1) nd rfl (by first | exact Or.inl rfl | exact Or.inr rfl) (pe_op op_cat (pe_callTy call_list_of rfl b.f_list bt_list (pa_cons (pe_slice sl_list (pv 0) po_none (po_some pe_int)) pa_nil))
      (pe_op op_rep (pe_lst (pa_cons pe_int pa_nil)) (pe_callTy call_int1 rfl b.f_int bt_int (pa_cons (pe_cmpR op_eq (pe_callB call_len_seq rfl b.f_len bt_len (pa_cons (pv 0) pa_nil)) pe_int (nomark _)) pa_nil)))))
    (pss_one (ps_ret (pe_lst (pa_cons (pv 1) (pa_cons pe_int (pa_cons (pe_lc (own := [("_law_cell", 2)]) rfl nd (pi_list (pv 1)) (blkOk_by (by kernel_rfl)) (fun _ _ _ _ _ => pg_name nd rfl (by first | exact Or.inl rfl | exact Or.inr rfl)) (fun _ _ _ _ _ => pts_nil)
      (fun _ _ _ _ _ => pe_op op_mul (pv 2) (pe_callTy call_int1 rfl b.f_int bt_int (pa_cons (pe_cmpR op_ge (pv 2) (pe_op op_pow pe_int pe_int) (nomark _)) pa_nil)))) pa_nil))))))
theorem sc_next : FnScope ["_law_drawn", "_law_many", "_law_cells", "_law_turn", "_law_rests", "_law_spot", "_law_digit", "_law_mixed", "_law_again"] ["_law_drawn", "_law_many"] (defScope st_next) := ⟨rfl, rfl, rfl, by decide +kernel, rfl, by decide +kernel, by decide +kernel⟩
theorem ok_next0 {f fd} {r c q : Addr} (b : Bi K mg) (F : Fn K "_law_next" "_law_next" st_next f fd) : FnOk P w K mg base CX0 1 f fd ["_law_drawn", "_law_many"] (spG (gr K r c q) (nextS r)) := ok_next F sc_next rfl rfl fun cdv A outer s H E hr => by
  have nd := sc_next.nd
  exact pss_cons (ps_asg (pv 0) (pg_lst rfl (pgs_cons (pg_name nd rfl (.inl rfl)) (pgs_cons (pg_name nd rfl (.inl rfl)) (pgs_cons (pg_name nd rfl (.inl rfl)) pgs_nil)))))
    (pss_cons (ps_set (i := 5) nd rfl (.inl rfl) (pe_op op_mod (pv 3) (pe_callB call_len_seq rfl b.f_len bt_len (pa_cons (pv 2) pa_nil))))
    (pss_cons (ps_asg (pe_op op_add (pv 3) pe_int) (pg_sub (pv 0) pe_int set_list (fun _ => rfl)))
    (pss_cons (ps_if (pt_cmpR op_gt (pe_ix ix_list (pv 4) (pv 5) (fun _ _ => rfl)) pe_int (nomark _))
      (pss_cons (ps_set (i := 6) nd rfl (.inl rfl) (pe_op op_mod (pe_ix ix_list (pv 4) (pv 5) (fun _ _ => rfl)) (pv 1)))
      (pss_cons (ps_asg (pe_op op_fdivM (pe_ix ix_list (pv 4) (pv 5) (fun _ _ => rfl)) (pv 1)) (pg_sub (pv 4) (pv 5) set_list (fun _ => rfl)))
      (pss_one (ps_ret (pv 6))))) pss_nil)
    (pss_cons (ps_set (i := 7) nd rfl (.inl rfl) (pe_op op_mod (pe_op op_pow (pe_op op_add (pe_op op_add (pe_op op_mod (pe_ix ix_list (pv 2) (pv 5) (fun _ _ => rfl)) pe_int) (pe_op op_mul pe_int (pv 3))) pe_int) pe_int) pe_int))
    (pss_cons (ps_set (i := 8) nd rfl (.inl rfl) (pe_op op_mod (pe_op op_pow (pe_op op_add (pe_op op_add (pv 7) (pe_op op_mul (pe_op op_mul pe_int (pv 3)) (pv 3))) pe_int) pe_int) pe_int))
    (pss_one (ps_ret (pe_op op_mod (pe_op op_mod (pe_op op_add (pe_op op_mul (pv 8) pe_int) (pv 7)) pe_int) (pv 1)))))))))
theorem sc_size_3de8 : FnScope ["_law_drawn", "_law_great", "_law_few"] ["_law_drawn", "_law_great"] (defScope st_size_3de8) := ⟨rfl, rfl, rfl, by decide +kernel, rfl, by decide +kernel, by decide +kernel⟩
theorem ok_size_3de8 {f fd} {r c q : Addr} (b : Bi K mg) (g_next : ∀ r c q, Glo P w K mg base "_law_next" 2 (spG (gr K r c q) (nextS r)) 1) (F : Fn K "_law_size" "_law_size" st_size_3de8 f fd) : FnOk P w K mg base CX0 2 f fd ["_law_drawn", "_law_great"] (spG (gr K r c q) (sp_size_3de8 r)) :=
  okG (P := P) (w := w) (mg := mg) (base := base) (G := gr K r c q) (k := 1) rfl F sc_size_3de8 (len_size_3de8 r) ⟨t_size_3de8 r, fun cdv A outer s H E hr => by
    have nd := sc_size_3de8.nd
    exact (qss_cons (qs_set (i := 2) nd rfl (by first | exact Or.inl rfl | exact Or.inr rfl) (qe_callG ((g_next _ _ _).at hr (by decide)) rfl (qa_cons (qv 0) (qa_cons (qe_bin o_add (qe_callB (c_min2 rfl) rfl b.f_min bt_min (qa_cons (qv 1) (qa_cons qe_int qa_nil))) qe_int) qa_nil))))
    (qss_one (qs_ret (qe_ix (qe_set (qf_lst (qa_cons (qv 2) (qa_cons (qe_bin o_sub (qv 1) (qv 2)) (qa_cons (qe_callG ((g_next _ _ _).at hr (by decide)) rfl (qa_cons (qv 0) (qa_cons (qe_bin o_add (qv 1) qe_int) qa_nil))) qa_nil))))) (qe_callG ((g_next _ _ _).at hr (by decide)) rfl (qa_cons (qv 0) (qa_cons qe_int qa_nil))))))), p_size_3de8 r⟩ (fun _ _ _ h => h)
theorem sc_items_cafd : FnScope ["_law_drawn", "_law_count", "_law_great", "_law_heavy", "_law_found", "_law_k"] ["_law_drawn", "_law_count"] (defScope st_items_cafd) := ⟨rfl, rfl, rfl, by decide +kernel, rfl, by decide +kernel, by decide +kernel⟩
theorem ok_items_cafd {f fd} {r c q : Addr} (b : Bi K mg) (g_next : ∀ r c q, Glo P w K mg base "_law_next" 2 (spG (gr K r c q) (nextS r)) 1) (g_size_3de8 : ∀ r c q, Glo P w K mg base "_law_size" 2 (spG (gr K r c q) (sp_size_3de8 r)) 2) (F : Fn K "_law_items" "_law_items" st_items_cafd f fd) : FnOk P w K mg base CX0 3 f fd ["_law_drawn", "_law_count"] (spG (gr K r c q) (sp_items_cafd r)) :=
  okG (P := P) (w := w) (mg := mg) (base := base) (G := gr K r c q) (k := 2) rfl F sc_items_cafd (len_items_cafd r) ⟨t_items_cafd r, fun cdv A outer s H E hr => by
    have nd := sc_items_cafd.nd
    exact (qss_cons (qs_set (i := 2) nd rfl (by first | exact Or.inl rfl | exact Or.inr rfl) (qe_ix (qe_set (qf_lst (qa_cons qe_int (qa_cons qe_int (qa_cons (qe_bin o_pow qe_int qe_int) qa_nil))))) (qe_callG ((g_next _ _ _).at hr (by decide)) rfl (qa_cons (qv 0) (qa_cons qe_int qa_nil)))))
    (qss_cons (qs_set (i := 3) nd rfl (by first | exact Or.inl rfl | exact Or.inr rfl) (qe_ix (qe_set (qf_lst (qa_cons qe_int (qa_cons qe_int (qa_cons (qe_bin o_pow qe_int qe_int) qa_nil))))) (qe_callG ((g_next _ _ _).at hr (by decide)) rfl (qa_cons (qv 0) (qa_cons qe_int qa_nil)))))
    (qss_cons (qs_setOwn (i := 4) nd rfl (by first | exact Or.inl rfl | exact Or.inr rfl) (qf_lst qa_nil))
    (qss_cons (qs_for PassesOwn.never rfl (qi_range1 rfl b.f_range (qa_cons (qv 1) qa_nil)) (qg_name nd rfl (by first | exact Or.inl rfl | exact Or.inr rfl)) (qss_one (qs_expr (qe_append (pv 4) (qe_tup (qa_cons (qe_bin o_sub (qe_callG ((g_size_3de8 _ _ _).at hr (by decide)) rfl (qa_cons (qv 0) (qa_cons (qe_bin o_mul qe_int (qv 2)) qa_nil))) (qv 2)) (qa_cons (qe_bin o_add qe_int (qe_callG ((g_size_3de8 _ _ _).at hr (by decide)) rfl (qa_cons (qv 0) (qa_cons (qe_bin o_sub (qv 3) qe_int) qa_nil)))) qa_nil)))))))
    (qss_one (qs_ret (qe_callTy c_tuple rfl b.f_tuple bt_tuple (qa_cons (qv 4) qa_nil)))))))), p_items_cafd r⟩ (fun _ _ _ h => h)
theorem sc_rules_ccf3 : FnScope ["_law_drawn", "_law_count", "_law_found", "_law_way", "_law_k", "_law_one_here", "_law_other"] ["_law_drawn", "_law_count"] (defScope st_rules_ccf3) := ⟨rfl, rfl, rfl, by decide +kernel, rfl, by decide +kernel, by decide +kernel⟩
theorem ok_rules_ccf3 {f fd} {r c q : Addr} (b : Bi K mg) (g_next : ∀ r c q, Glo P w K mg base "_law_next" 2 (spG (gr K r c q) (nextS r)) 1) (F : Fn K "_law_rules" "_law_rules" st_rules_ccf3 f fd) : FnOk P w K mg base CX0 2 f fd ["_law_drawn", "_law_count"] (spG (gr K r c q) (sp_rules_ccf3 r)) :=
  okG (P := P) (w := w) (mg := mg) (base := base) (G := gr K r c q) (k := 1) rfl F sc_rules_ccf3 (len_rules_ccf3 r) ⟨t_rules_ccf3 r, fun cdv A outer s H E hr => by
    have nd := sc_rules_ccf3.nd
    exact (qss_cons (qs_setOwn (i := 2) nd rfl (by first | exact Or.inl rfl | exact Or.inr rfl) (qf_lst qa_nil))
    (qss_cons (qs_set (i := 3) nd rfl (by first | exact Or.inl rfl | exact Or.inr rfl) (qe_callG ((g_next _ _ _).at hr (by decide)) rfl (qa_cons (qv 0) (qa_cons qe_int qa_nil))))
    (qss_cons (qs_for PassesOwn.never rfl (qi_range1 rfl b.f_range (qa_cons (qe_bin o_mul (qe_ix (qe_set (qf_lst (qa_cons qe_int (qa_cons qe_int (qa_cons qe_int (qa_cons qe_int (qa_cons qe_int (qa_cons qe_int qa_nil)))))))) (qe_callG ((g_next _ _ _).at hr (by decide)) rfl (qa_cons (qv 0) (qa_cons qe_int qa_nil)))) (qe_callTy c_int rfl b.f_int bt_int (qa_cons (qe_cmp o_gt (qv 1) qe_int (nomark _)) qa_nil))) qa_nil)) (qg_name nd rfl (by first | exact Or.inl rfl | exact Or.inr rfl)) (qss_cons (qs_set (i := 5) nd rfl (by first | exact Or.inl rfl | exact Or.inr rfl) (qe_callG ((g_next _ _ _).at hr (by decide)) rfl (qa_cons (qv 0) (qa_cons (qv 1) qa_nil))))
    (qss_cons (qs_set (i := 6) nd rfl (by first | exact Or.inl rfl | exact Or.inr rfl) (qe_bin o_mod (qe_bin o_add (qe_bin o_add (qv 5) qe_int) (qe_callG ((g_next _ _ _).at hr (by decide)) rfl (qa_cons (qv 0) (qa_cons (qe_bin o_sub (qv 1) qe_int) qa_nil)))) (qv 1)))
    (qss_one (qs_expr (qe_append (pv 2) (qe_if (qt_cmp (o_eq hr) (qv 3) qe_int (nomark _)) (qe_tup (qa_cons (qv 5) (qa_cons (qv 6) qa_nil))) (qe_tup (qa_cons (qe_callB (c_min2 rfl) rfl b.f_min bt_min (qa_cons (qv 5) (qa_cons (qv 6) qa_nil))) (qa_cons (qe_callB (c_max2 rfl) rfl b.f_max bt_max (qa_cons (qv 5) (qa_cons (qv 6) qa_nil))) qa_nil))))))))))
    (qss_one (qs_ret (qe_callTy c_tuple rfl b.f_tuple bt_tuple (qa_cons (qv 2) qa_nil))))))), p_rules_ccf3 r⟩ (fun _ _ _ h => h)
theorem sc_panel_3836 : FnScope ["_law_drawn", "_law_most", "_law_count"] ["_law_drawn", "_law_most"] (defScope st_panel_3836) := ⟨rfl, rfl, rfl, by decide +kernel, rfl, by decide +kernel, by decide +kernel⟩
theorem ok_panel_3836 {f fd} {r c q : Addr} (b : Bi K mg) (g_next : ∀ r c q, Glo P w K mg base "_law_next" 2 (spG (gr K r c q) (nextS r)) 1) (g_items_cafd : ∀ r c q, Glo P w K mg base "_law_items" 2 (spG (gr K r c q) (sp_items_cafd r)) 3) (g_rules_ccf3 : ∀ r c q, Glo P w K mg base "_law_rules" 2 (spG (gr K r c q) (sp_rules_ccf3 r)) 2) (F : Fn K "_law_panel" "_law_panel" st_panel_3836 f fd) : FnOk P w K mg base CX0 4 f fd ["_law_drawn", "_law_most"] (spG (gr K r c q) (sp_panel_3836 r)) :=
  okG (P := P) (w := w) (mg := mg) (base := base) (G := gr K r c q) (k := 3) rfl F sc_panel_3836 (len_panel_3836 r) ⟨t_panel_3836 r, fun cdv A outer s H E hr => by
    have nd := sc_panel_3836.nd
    exact (qss_cons (qs_set (i := 2) nd rfl (by first | exact Or.inl rfl | exact Or.inr rfl) (qe_bin o_add qe_int (qe_callG ((g_next _ _ _).at hr (by decide)) rfl (qa_cons (qv 0) (qa_cons (qv 1) qa_nil)))))
    (qss_one (qs_ret (qe_tup (qa_cons (qe_callG ((g_items_cafd _ _ _).at hr (by decide)) rfl (qa_cons (qv 0) (qa_cons (qv 2) qa_nil))) (qa_cons (qe_callG ((g_rules_ccf3 _ _ _).at hr (by decide)) rfl (qa_cons (qv 0) (qa_cons (qv 2) qa_nil))) qa_nil)))))), p_panel_3836 r⟩ (fun _ _ _ h => h)
theorem sc_lowest_ba06 : FnScope ["_law_numerator", "_law_denominator", "_law_one_here", "_law_other"] ["_law_numerator", "_law_denominator"] (defScope st_lowest_ba06) := ⟨rfl, rfl, rfl, by decide +kernel, rfl, by decide +kernel, by decide +kernel⟩
theorem ok_lowest_ba06 {f fd} (b : Bi K mg) (F : Fn K "_law_lowest" "_law_lowest" st_lowest_ba06 f fd) : FnOk P w K mg base CX0 1 f fd ["_law_numerator", "_law_denominator"] (spP K sp_lowest_ba06) :=
  okP F sc_lowest_ba06 len_lowest_ba06 ⟨t_lowest_ba06, fun cdv A outer s H E hr => by
    have nd := sc_lowest_ba06.nd
    exact (qss_cons (qs_par rfl nd rfl rfl (by decide) rfl rfl (qa_cons (qe_callB c_abs rfl b.f_abs bt_abs (qa_cons (qv 0) qa_nil)) (qa_cons (qv 1) qa_nil)) rfl)
    (qss_cons (qs_while PassesOwn.never (qt_cmp o_gt (qv 3) qe_int (nomark _)) (qss_one (qs_par rfl nd rfl rfl (by decide) rfl rfl (qa_cons (qv 3) (qa_cons (qe_bin o_mod (qv 2) (qv 3)) qa_nil)) rfl)))
    (qss_one (qs_ret (qe_tup (qa_cons (qe_bin o_fdiv (qv 0) (qv 2)) (qa_cons (qe_bin o_fdiv (qv 1) (qv 2)) qa_nil))))))), p_lowest_ba06⟩
theorem sc_less_7322 : FnScope ["_law_one_here", "_law_other"] ["_law_one_here", "_law_other"] (defScope st_less_7322) := ⟨rfl, rfl, rfl, by decide +kernel, rfl, by decide +kernel, by decide +kernel⟩
theorem ok_less_7322 {f fd} (b : Bi K mg) (F : Fn K "_law_less" "_law_less" st_less_7322 f fd) : FnOk P w K mg base CX0 1 f fd ["_law_one_here", "_law_other"] (spP K sp_less_7322) :=
  okP F sc_less_7322 len_less_7322 ⟨t_less_7322, fun cdv A outer s H E hr => by
    have nd := sc_less_7322.nd
    exact (qss_one (qs_ret (qe_cmp o_lt (qe_bin o_mul (qe_ix (qv 0) qe_int) (qe_ix (qv 1) qe_int)) (qe_bin o_mul (qe_ix (qv 1) qe_int) (qe_ix (qv 0) qe_int)) (nomark _)))), p_less_7322⟩
theorem sc_fraction_6a64 : FnScope ["_law_drawn", "_law_great"] ["_law_drawn"] (defScope st_fraction_6a64) := ⟨rfl, rfl, rfl, by decide +kernel, rfl, by decide +kernel, by decide +kernel⟩
theorem ok_fraction_6a64 {f fd} {r c q : Addr} (b : Bi K mg) (g_lowest_ba06 : Glo P w K mg base "_law_lowest" 2 (spP K (sp_lowest_ba06)) 1) (g_next : ∀ r c q, Glo P w K mg base "_law_next" 2 (spG (gr K r c q) (nextS r)) 1) (F : Fn K "_law_fraction" "_law_fraction" st_fraction_6a64 f fd) : FnOk P w K mg base CX0 2 f fd ["_law_drawn"] (spG (gr K r c q) (sp_fraction_6a64 r)) :=
  okG (P := P) (w := w) (mg := mg) (base := base) (G := gr K r c q) (k := 1) rfl F sc_fraction_6a64 (len_fraction_6a64 r) ⟨t_fraction_6a64 r, fun cdv A outer s H E hr => by
    have nd := sc_fraction_6a64.nd
    exact (qss_cons (qs_set (i := 1) nd rfl (by first | exact Or.inl rfl | exact Or.inr rfl) (qe_ix (qe_set (qf_lst (qa_cons qe_int (qa_cons qe_int (qa_cons (qe_bin o_pow qe_int qe_int) (qa_cons (qe_bin o_pow qe_int qe_int) qa_nil)))))) (qe_callG ((g_next _ _ _).at hr (by decide)) rfl (qa_cons (qv 0) (qa_cons qe_int qa_nil)))))
    (qss_one (qs_ret (qe_call (g_lowest_ba06.at hr (by decide)) rfl (qa_cons (qe_bin o_sub (qe_callG ((g_next _ _ _).at hr (by decide)) rfl (qa_cons (qv 0) (qa_cons (qe_bin o_add (qe_bin o_mul qe_int (qv 1)) qe_int) qa_nil))) (qv 1)) (qa_cons (qe_bin o_add qe_int (qe_callG ((g_next _ _ _).at hr (by decide)) rfl (qa_cons (qv 0) (qa_cons (qv 1) qa_nil)))) qa_nil)))))), p_fraction_6a64 r⟩ (fun _ _ _ h => h)
theorem sc_all_groups_7d0b : FnScope ["items", "found", "item", "group"] ["items"] (defScope st_all_groups_7d0b) := ⟨rfl, rfl, rfl, by decide +kernel, rfl, by decide +kernel, by decide +kernel⟩
theorem ok_all_groups_7d0b {f fd} (b : Bi K mg) (F : Fn K "all_groups" "all_groups" st_all_groups_7d0b f fd) : FnOk P w K mg base CX0 1 f fd ["items"] (spP K sp_all_groups_7d0b) :=
  okP F sc_all_groups_7d0b len_all_groups_7d0b ⟨t_all_groups_7d0b, fun cdv A outer s H E hr => by
    have nd := sc_all_groups_7d0b.nd
    exact (qss_cons (qs_set (i := 1) nd rfl (by first | exact Or.inl rfl | exact Or.inr rfl) (qe_set (qf_lst (qa_cons (qe_tup qa_nil) qa_nil))))
    (qss_cons (qs_for PassesOwn.never rfl (qi_seq (qv 0)) (qg_name nd rfl (by first | exact Or.inl rfl | exact Or.inr rfl)) (qss_one (qs_set (i := 1) nd rfl (by first | exact Or.inl rfl | exact Or.inr rfl) (qe_bin o_add (qv 1) (qe_set (qf_lc rfl nd (qi_seq (qv 1)) (own := [("group", 3)]) (blkOk_by (by kernel_rfl)) (by decide) (fun _ _ _ _ _ => (qg_name nd rfl (by first | exact Or.inl rfl | exact Or.inr rfl))) (fun _ _ _ _ _ => qts_nil) (fun _ _ _ _ _ => (qe_bin o_add (qv 3) (qe_tup (qa_cons (qv 2) qa_nil))))))))))
    (qss_one (qs_ret (qe_set (qf_callB (c_sortedT hr) rfl b.f_sorted bt_sorted (qa_cons (qv 1) qa_nil))))))), p_all_groups_7d0b⟩
theorem sc_is_integer_8a5f : FnScope ["value"] ["value"] (defScope st_is_integer_8a5f) := ⟨rfl, rfl, rfl, by decide +kernel, rfl, by decide +kernel, by decide +kernel⟩
theorem ok_is_integer_8a5f {f fd} (b : Bi K mg) (F : Fn K "is_integer" "is_integer" st_is_integer_8a5f f fd) : FnOk P w K mg base CX0 1 f fd ["value"] (spP K sp_is_integer_8a5f) :=
  okP F sc_is_integer_8a5f len_is_integer_8a5f ⟨t_is_integer_8a5f, fun cdv A outer s H E hr => by
    have nd := sc_is_integer_8a5f.nd
    exact (qss_one (qs_ret (qe_and (qe_isi (by decide) (qv 0) rfl b.f_isinstance rfl b.f_int bt_int) (qe_one (qe_not (qe_isi (by decide) (qv 0) rfl b.f_isinstance rfl b.f_bool bt_bool)))))), p_is_integer_8a5f⟩
theorem sc_is_within_3133 : FnScope ["value", "low", "high"] ["value", "low", "high"] (defScope st_is_within_3133) := ⟨rfl, rfl, rfl, by decide +kernel, rfl, by decide +kernel, by decide +kernel⟩
theorem ok_is_within_3133 {f fd} (b : Bi K mg) (g_is_integer_8a5f : Glo P w K mg base "is_integer" 1 (spP K (sp_is_integer_8a5f)) 1) (F : Fn K "is_within" "is_within" st_is_within_3133 f fd) : FnOk P w K mg base CX0 2 f fd ["value", "low", "high"] (spP K sp_is_within_3133) :=
  okP F sc_is_within_3133 len_is_within_3133 ⟨t_is_within_3133, fun cdv A outer s H E hr => by
    have nd := sc_is_within_3133.nd
    exact (qss_one (qs_ret (qe_and (qe_call (g_is_integer_8a5f.at hr (by decide)) rfl (qa_cons (qv 0) qa_nil)) (qe_one (qe_chain o_le o_le (qv 1) (qv 0) (qv 2)))))), p_is_within_3133⟩
theorem sc_is_group_a50b : FnScope ["panel", "value", "item", "one", "other"] ["panel", "value"] (defScope st_is_group_a50b) := ⟨rfl, rfl, rfl, by decide +kernel, rfl, by decide +kernel, by decide +kernel⟩
theorem ok_is_group_a50b {f fd} (b : Bi K mg) (g_is_within_3133 : Glo P w K mg base "is_within" 3 (spP K (sp_is_within_3133)) 2) (F : Fn K "is_group" "is_group" st_is_group_a50b f fd) : FnOk P w K mg base CX0 3 f fd ["panel", "value"] (spP K sp_is_group_a50b) :=
  okP F sc_is_group_a50b len_is_group_a50b ⟨t_is_group_a50b, fun cdv A outer s H E hr => by
    have nd := sc_is_group_a50b.nd
    exact (qss_cons (qs_if (PW.pt (qw_or (qt_not (qt_val (qe_isi (by decide) (qv 1) rfl b.f_isinstance rfl b.f_tuple bt_tuple))) (qw_and1 (qt_not (qt_val (qe_callB (c_all rfl) rfl b.f_all bt_all (qa_cons (qe_set (qf_lc rfl nd (qi_seq (qv 1)) (own := [("item", 2)]) (blkOk_by (by kernel_rfl)) (by decide) (fun _ _ _ _ _ => (qg_name nd rfl (by first | exact Or.inl rfl | exact Or.inr rfl))) (fun _ _ _ _ _ => qts_nil) (fun _ _ _ _ _ => (qe_call (g_is_within_3133.at hr (by decide)) rfl (qa_cons (qv 2) (qa_cons qe_int (qa_cons (qe_bin o_sub (qe_callB c_len rfl b.f_len bt_len (qa_cons (qe_ix (qv 0) qe_int) qa_nil)) qe_int) qa_nil))))))) qa_nil))))))) (qss_one (qs_ret qe_bl)) qss_nil)
    (qss_one (qs_ret (qe_callB (c_all rfl) rfl b.f_all bt_all (qa_cons (qe_set (qf_lc rfl nd (qi_zip rfl b.f_zip (qa_cons (qv 1) (qa_cons (qe_slice (qv 1) (qo_some qe_int) qo_none) qa_nil))) (own := [("one", 3), ("other", 4)]) (blkOk_by (by kernel_rfl)) (by decide) (fun _ _ _ _ _ => (qg_tup rfl (qgs_cons (qg_name nd rfl (by first | exact Or.inl rfl | exact Or.inr rfl)) (qgs_cons (qg_name nd rfl (by first | exact Or.inl rfl | exact Or.inr rfl)) qgs_nil)))) (fun _ _ _ _ _ => qts_nil) (fun _ _ _ _ _ => (qe_cmp o_lt (qv 3) (qv 4) (nomark _))))) qa_nil))))), p_is_group_a50b⟩
theorem sc_is_upward_11cd : FnScope ["panel", "value", "low", "high"] ["panel", "value"] (defScope st_is_upward_11cd) := ⟨rfl, rfl, rfl, by decide +kernel, rfl, by decide +kernel, by decide +kernel⟩
theorem ok_is_upward_11cd {f fd} (b : Bi K mg) (g_is_group_a50b : Glo P w K mg base "is_group" 2 (spP K (sp_is_group_a50b)) 3) (F : Fn K "is_upward" "is_upward" st_is_upward_11cd f fd) : FnOk P w K mg base CX0 4 f fd ["panel", "value"] (spP K sp_is_upward_11cd) :=
  okP F sc_is_upward_11cd len_is_upward_11cd ⟨t_is_upward_11cd, fun cdv A outer s H E hr => by
    have nd := sc_is_upward_11cd.nd
    exact (qss_cons (qs_if (qt_not (qt_val (qe_call (g_is_group_a50b.at hr (by decide)) rfl (qa_cons (qv 0) (qa_cons (qv 1) qa_nil))))) (qss_one (qs_ret qe_bl)) qss_nil)
    (qss_one (qs_ret (qe_callB (c_all rfl) rfl b.f_all bt_all (qa_cons (qe_set (qf_lc rfl nd (qi_seq (qe_ix (qv 0) qe_int)) (own := [("low", 2), ("high", 3)]) (blkOk_by (by kernel_rfl)) (by decide) (fun _ _ _ _ _ => (qg_tup rfl (qgs_cons (qg_name nd rfl (by first | exact Or.inl rfl | exact Or.inr rfl)) (qgs_cons (qg_name nd rfl (by first | exact Or.inl rfl | exact Or.inr rfl)) qgs_nil)))) (fun _ _ _ _ _ => qts_nil) (fun _ _ _ _ _ => (qe_or (qe_cmp (o_in hr) (qv 3) (qv 1) (by rfl)) (qe_one (qe_cmp (o_notIn hr) (qv 2) (qv 1) (by rfl))))))) qa_nil))))), p_is_upward_11cd⟩
theorem sc_upward_sets_3622 : FnScope ["panel", "group"] ["panel"] (defScope st_upward_sets_3622) := ⟨rfl, rfl, rfl, by decide +kernel, rfl, by decide +kernel, by decide +kernel⟩
theorem ok_upward_sets_3622 {f fd} (b : Bi K mg) (g_all_groups_7d0b : Glo P w K mg base "all_groups" 1 (spP K (sp_all_groups_7d0b)) 1) (g_is_upward_11cd : Glo P w K mg base "is_upward" 2 (spP K (sp_is_upward_11cd)) 4) (F : Fn K "upward_sets" "upward_sets" st_upward_sets_3622 f fd) : FnOk P w K mg base CX0 5 f fd ["panel"] (spP K sp_upward_sets_3622) :=
  okP F sc_upward_sets_3622 len_upward_sets_3622 ⟨t_upward_sets_3622, fun cdv A outer s H E hr => by
    have nd := sc_upward_sets_3622.nd
    exact (qss_one (qs_ret (qe_callTy c_tuple rfl b.f_tuple bt_tuple (qa_cons (qe_set (qf_lc rfl nd (qi_seq (qe_call (g_all_groups_7d0b.at hr (by decide)) rfl (qa_cons (qe_set (qf_lstRg1 rfl rfl b.f_list rfl b.f_range (qe_callB c_len rfl b.f_len bt_len (qa_cons (qe_ix (qv 0) qe_int) qa_nil)))) qa_nil))) (own := [("group", 1)]) (blkOk_by (by kernel_rfl)) (by decide) (fun _ _ _ _ _ => (qg_name nd rfl (by first | exact Or.inl rfl | exact Or.inr rfl))) (fun _ _ _ _ _ => (qts_one (qt_val (qe_call (g_is_upward_11cd.at hr (by decide)) rfl (qa_cons (qv 0) (qa_cons (qv 1) qa_nil)))))) (fun _ _ _ _ _ => (qv 1)))) qa_nil)))), p_upward_sets_3622⟩
theorem sc_rest_surplus_6c50 : FnScope ["panel", "group", "item", "value", "numerator", "denominator", "others", "other", "mark", "weight"] ["panel", "group", "item", "value"] (defScope st_rest_surplus_6c50) := ⟨rfl, rfl, rfl, by decide +kernel, rfl, by decide +kernel, by decide +kernel⟩
theorem ok_rest_surplus_6c50 {f fd} (b : Bi K mg) (F : Fn K "rest_surplus" "rest_surplus" st_rest_surplus_6c50 f fd) : FnOk P w K mg base CX0 1 f fd ["panel", "group", "item", "value"] (spP K sp_rest_surplus_6c50) :=
  okP F sc_rest_surplus_6c50 len_rest_surplus_6c50 ⟨t_rest_surplus_6c50, fun cdv A outer s H E hr => by
    have nd := sc_rest_surplus_6c50.nd
    exact (qss_cons (qs_setT (qv 3) (qg_tup rfl (qgs_cons (qg_name nd rfl (by first | exact Or.inl rfl | exact Or.inr rfl)) (qgs_cons (qg_name nd rfl (by first | exact Or.inl rfl | exact Or.inr rfl)) qgs_nil))))
    (qss_cons (qs_lc rfl nd rfl rfl rfl (qi_seq (qv 1)) (own := [("other", 7)]) (blkOk_by (by kernel_rfl)) (by decide) (fun _ _ _ _ _ => (qg_name nd rfl (by first | exact Or.inl rfl | exact Or.inr rfl))) (fun _ _ _ _ _ => (qts_one (qt_cmp (o_ne hr) (qv 7) (qv 2) (nomark _)))) (fun _ _ _ _ _ => (qe_ix (qe_ix (qv 0) qe_int) (qv 7))))
    (qss_one (qs_ret (qe_callB (c_sum rfl) rfl b.f_sum bt_sum (qa_cons (qe_set (qf_lc rfl nd (qi_seq (qv 6)) (own := [("mark", 8), ("weight", 9)]) (blkOk_by (by kernel_rfl)) (by decide) (fun _ _ _ _ _ => (qg_tup rfl (qgs_cons (qg_name nd rfl (by first | exact Or.inl rfl | exact Or.inr rfl)) (qgs_cons (qg_name nd rfl (by first | exact Or.inl rfl | exact Or.inr rfl)) qgs_nil)))) (fun _ _ _ _ _ => qts_nil) (fun _ _ _ _ _ => (qe_bin o_mul (qv 9) (qe_bin o_sub (qe_bin o_mul (qv 8) (qv 5)) (qv 4)))))) qa_nil)))))), p_rest_surplus_6c50⟩
theorem sc_greatest_surpluses_d8a4 : FnScope ["panel", "item", "watched", "value", "found", "group", "kind", "surplus"] ["panel", "item", "watched", "value"] (defScope st_greatest_surpluses_d8a4) := ⟨rfl, rfl, rfl, by decide +kernel, rfl, by decide +kernel, by decide +kernel⟩
theorem ok_greatest_surpluses_d8a4 {f fd} (b : Bi K mg) (g_upward_sets_3622 : Glo P w K mg base "upward_sets" 1 (spP K (sp_upward_sets_3622)) 5) (g_rest_surplus_6c50 : Glo P w K mg base "rest_surplus" 4 (spP K (sp_rest_surplus_6c50)) 1) (F : Fn K "greatest_surpluses" "greatest_surpluses" st_greatest_surpluses_d8a4 f fd) : FnOk P w K mg base CX0 6 f fd ["panel", "item", "watched", "value"] (spG (gB K P w) sp_greatest_surpluses_d8a4) :=
  okB (P := P) (w := w) (mg := mg) (base := base) (G := gB K P w) (k := 5) (fs := sp_greatest_surpluses_d8a4) rfl F sc_greatest_surpluses_d8a4 len_greatest_surpluses_d8a4 ⟨t_greatest_surpluses_d8a4, fun cdv A outer s H E hr => by
    have nd := sc_greatest_surpluses_d8a4.nd
    exact (qss_cons (qs_set (i := 4) nd rfl (by first | exact Or.inl rfl | exact Or.inr rfl) qe_dicB)
    (qss_cons (qs_for PassesOwn.never rfl (qi_seq (qe_call (g_upward_sets_3622.at hr (by decide)) rfl (qa_cons (qv 0) qa_nil))) (qg_name nd rfl (by first | exact Or.inl rfl | exact Or.inr rfl)) (qss_cons (qs_set (i := 6) nd rfl (by first | exact Or.inl rfl | exact Or.inr rfl) (qe_pairB (qa_cons (qe_cmp (o_in hr) (qv 2) (qv 5) (by rfl)) (qa_cons (qe_cmp (o_in hr) (qv 1) (qv 5) (by rfl)) qa_nil))))
    (qss_cons (qs_set (i := 7) nd rfl (by first | exact Or.inl rfl | exact Or.inr rfl) (qe_call (g_rest_surplus_6c50.at hr (by decide)) rfl (qa_cons (qv 0) (qa_cons (qv 5) (qa_cons (qv 1) (qa_cons (qv 3) qa_nil))))))
    (qss_one (qs_putB hr (qe_callB (c_max2 rfl) rfl b.f_max bt_max (qa_cons (qv 7) (qa_cons (qe_getB hr (qv 4) (qv 6) (qv 7) ⟨rfl, rfl, rfl, rfl⟩) qa_nil))) (qv 4) (qv 6))))))
    (qss_one (qs_ret (qv 4))))), p_greatest_surpluses_d8a4⟩ (fun ds g R h a => by
    obtain ⟨rfl, _⟩ := h
    exact BG.nil_foot a)
theorem sc_common_divisor_2932 : FnScope ["one", "other"] ["one", "other"] (defScope st_common_divisor_2932) := ⟨rfl, rfl, rfl, by decide +kernel, rfl, by decide +kernel, by decide +kernel⟩
theorem ok_common_divisor_2932 {f fd} (b : Bi K mg) (F : Fn K "common_divisor" "common_divisor" st_common_divisor_2932 f fd) : FnOk P w K mg base CX0 1 f fd ["one", "other"] (spP K sp_common_divisor_2932) :=
  okP F sc_common_divisor_2932 len_common_divisor_2932 ⟨t_common_divisor_2932, fun cdv A outer s H E hr => by
    have nd := sc_common_divisor_2932.nd
    exact (qss_cons (qs_while PassesOwn.never (qt_cmp o_gt (qv 1) qe_int (nomark _)) (qss_one (qs_par rfl nd rfl rfl (by decide) rfl rfl (qa_cons (qv 1) (qa_cons (qe_bin o_mod (qv 0) (qv 1)) qa_nil)) rfl)))
    (qss_one (qs_ret (qv 0)))), p_common_divisor_2932⟩
theorem sc_make_fraction_15f7 : FnScope ["numerator", "denominator", "divisor"] ["numerator", "denominator"] (defScope st_make_fraction_15f7) := ⟨rfl, rfl, rfl, by decide +kernel, rfl, by decide +kernel, by decide +kernel⟩
theorem ok_make_fraction_15f7 {f fd} (b : Bi K mg) (g_common_divisor_2932 : Glo P w K mg base "common_divisor" 2 (spP K (sp_common_divisor_2932)) 1) (F : Fn K "make_fraction" "make_fraction" st_make_fraction_15f7 f fd) : FnOk P w K mg base CX0 2 f fd ["numerator", "denominator"] (spP K sp_make_fraction_15f7) :=
  okP F sc_make_fraction_15f7 len_make_fraction_15f7 ⟨t_make_fraction_15f7, fun cdv A outer s H E hr => by
    have nd := sc_make_fraction_15f7.nd
    exact (qss_cons (qs_if (qt_cmp (o_eq hr) (qv 1) qe_int (nomark _)) (qss_one qs_never) qss_nil)
    (qss_cons (qs_set (i := 2) nd rfl (by first | exact Or.inl rfl | exact Or.inr rfl) (qe_call (g_common_divisor_2932.at hr (by decide)) rfl (qa_cons (qe_callB c_abs rfl b.f_abs bt_abs (qa_cons (qv 0) qa_nil)) (qa_cons (qe_callB c_abs rfl b.f_abs bt_abs (qa_cons (qv 1) qa_nil)) qa_nil))))
    (qss_cons (qs_if (qt_cmp o_lt (qv 1) qe_int (nomark _)) (qss_one (qs_set (i := 2) nd rfl (by first | exact Or.inl rfl | exact Or.inr rfl) (qe_bin o_sub qe_int (qv 2)))) qss_nil)
    (qss_one (qs_ret (qe_tup (qa_cons (qe_bin o_fdiv (qv 0) (qv 2)) (qa_cons (qe_bin o_fdiv (qv 1) (qv 2)) qa_nil)))))))), p_make_fraction_15f7⟩
theorem sc_add_fractions_88bc : FnScope ["one", "other"] ["one", "other"] (defScope st_add_fractions_88bc) := ⟨rfl, rfl, rfl, by decide +kernel, rfl, by decide +kernel, by decide +kernel⟩
theorem ok_add_fractions_88bc {f fd} (b : Bi K mg) (g_make_fraction_15f7 : Glo P w K mg base "make_fraction" 2 (spP K (sp_make_fraction_15f7)) 2) (F : Fn K "add_fractions" "add_fractions" st_add_fractions_88bc f fd) : FnOk P w K mg base CX0 3 f fd ["one", "other"] (spP K sp_add_fractions_88bc) :=
  okP F sc_add_fractions_88bc len_add_fractions_88bc ⟨t_add_fractions_88bc, fun cdv A outer s H E hr => by
    have nd := sc_add_fractions_88bc.nd
    exact (qss_one (qs_ret (qe_call (g_make_fraction_15f7.at hr (by decide)) rfl (qa_cons (qe_bin o_add (qe_bin o_mul (qe_ix (qv 0) qe_int) (qe_ix (qv 1) qe_int)) (qe_bin o_mul (qe_ix (qv 1) qe_int) (qe_ix (qv 0) qe_int))) (qa_cons (qe_bin o_mul (qe_ix (qv 0) qe_int) (qe_ix (qv 1) qe_int)) qa_nil))))), p_add_fractions_88bc⟩
theorem sc_mark_to_reach_5768 : FnScope ["panel", "item", "watched", "value", "found", "none", "both", "weight"] ["panel", "item", "watched", "value"] (defScope st_mark_to_reach_5768) := ⟨rfl, rfl, rfl, by decide +kernel, rfl, by decide +kernel, by decide +kernel⟩
theorem ok_mark_to_reach_5768 {f fd} (b : Bi K mg) (g_greatest_surpluses_d8a4 : Glo P w K mg base "greatest_surpluses" 4 (spG (gB K P w) (sp_greatest_surpluses_d8a4)) 6) (g_add_fractions_88bc : Glo P w K mg base "add_fractions" 2 (spP K (sp_add_fractions_88bc)) 3) (g_make_fraction_15f7 : Glo P w K mg base "make_fraction" 2 (spP K (sp_make_fraction_15f7)) 2) (F : Fn K "mark_to_reach" "mark_to_reach" st_mark_to_reach_5768 f fd) : FnOk P w K mg base CX0 7 f fd ["panel", "item", "watched", "value"] (spP K sp_mark_to_reach_5768) :=
  FnOk.imp (okB (P := P) (w := w) (mg := mg) (base := base) (G := gB K P w) (k := 6) (fs := (outG BG.nil sp_mark_to_reach_5768)) rfl F sc_mark_to_reach_5768 len_mark_to_reach_5768 ⟨t_mark_to_reach_5768, fun cdv A outer s H E hr => by
    have nd := sc_mark_to_reach_5768.nd
    exact (qss_cons (qs_set (i := 4) nd rfl (by first | exact Or.inl rfl | exact Or.inr rfl) (qe_callG (g_greatest_surpluses_d8a4.at hr (by decide)) rfl (qa_cons (qv 0) (qa_cons (qv 1) (qa_cons (qv 2) (qa_cons (qv 3) qa_nil))))))
    (qss_cons (qs_par rfl nd rfl rfl (by decide) rfl rfl (qa_cons (qe_ixB hr (qv 4) (qe_tup (qa_cons qe_bl (qa_cons qe_bl qa_nil)))) (qa_cons (qe_ixB hr (qv 4) (qe_tup (qa_cons qe_bl (qa_cons qe_bl qa_nil)))) qa_nil)) rfl)
    (qss_cons (qs_if (PW.pt (qw_and (qt_inB hr (qe_tup (qa_cons qe_bl (qa_cons qe_bl qa_nil))) (qv 4)) (qw_and1 (qt_cmp o_ge (qe_ixB hr (qv 4) (qe_tup (qa_cons qe_bl (qa_cons qe_bl qa_nil)))) (qv 5) (nomark _))))) (qss_one (qs_ret (qe_tup (qa_cons qe_str qa_nil)))) qss_nil)
    (qss_cons (qs_if (PW.pt (qw_and (qt_inB hr (qe_tup (qa_cons qe_bl (qa_cons qe_bl qa_nil))) (qv 4)) (qw_and1 (qt_cmp o_gt (qe_ixB hr (qv 4) (qe_tup (qa_cons qe_bl (qa_cons qe_bl qa_nil)))) (qv 6) (nomark _))))) (qss_one (qs_ret (qe_tup (qa_cons qe_str qa_nil)))) qss_nil)
    (qss_cons (qs_set (i := 7) nd rfl (by first | exact Or.inl rfl | exact Or.inr rfl) (qe_ix (qe_ix (qe_ix (qv 0) qe_int) (qv 1)) qe_int))
    (qss_one (qs_ret (qe_tup (qa_cons qe_str (qa_cons (qe_call (g_add_fractions_88bc.at hr (by decide)) rfl (qa_cons (qv 3) (qa_cons (qe_call (g_make_fraction_15f7.at hr (by decide)) rfl (qa_cons (qe_bin o_sub (qv 5) (qv 6)) (qa_cons (qe_bin o_mul (qe_ix (qv 3) qe_int) (qv 7)) qa_nil))) qa_nil))) qa_nil)))))))))), p_mark_to_reach_5768⟩ (fun ds g R h a => by
    obtain ⟨rfl, _⟩ := h
    exact BG.nil_foot a)) fun _ _ _ _ h => spP_of (G := gB K P w) rfl BG.nil_j BG.nil_foot h
theorem sc_is_mark_f168 : FnScope ["value"] ["value"] (defScope st_is_mark_f168) := ⟨rfl, rfl, rfl, by decide +kernel, rfl, by decide +kernel, by decide +kernel⟩
theorem ok_is_mark_f168 {f fd} (b : Bi K mg) (g_is_within_3133 : Glo P w K mg base "is_within" 3 (spP K (sp_is_within_3133)) 2) (F : Fn K "is_mark" "is_mark" st_is_mark_f168 f fd) : FnOk P w K mg base CX0 3 f fd ["value"] (spP K sp_is_mark_f168) :=
  okP F sc_is_mark_f168 len_is_mark_f168 ⟨t_is_mark_f168, fun cdv A outer s H E hr => by
    have nd := sc_is_mark_f168.nd
    exact (qss_one (qs_ret (qe_call (g_is_within_3133.at hr (by decide)) rfl (qa_cons (qv 0) (qa_cons (qe_bin o_sub qe_int (qe_gl rfl b.g_MARK)) (qa_cons (qe_gl rfl b.g_MARK) qa_nil)))))), p_is_mark_f168⟩
theorem sc_is_weight_6941 : FnScope ["value"] ["value"] (defScope st_is_weight_6941) := ⟨rfl, rfl, rfl, by decide +kernel, rfl, by decide +kernel, by decide +kernel⟩
theorem ok_is_weight_6941 {f fd} (b : Bi K mg) (g_is_within_3133 : Glo P w K mg base "is_within" 3 (spP K (sp_is_within_3133)) 2) (F : Fn K "is_weight" "is_weight" st_is_weight_6941 f fd) : FnOk P w K mg base CX0 3 f fd ["value"] (spP K sp_is_weight_6941) :=
  okP F sc_is_weight_6941 len_is_weight_6941 ⟨t_is_weight_6941, fun cdv A outer s H E hr => by
    have nd := sc_is_weight_6941.nd
    exact (qss_one (qs_ret (qe_call (g_is_within_3133.at hr (by decide)) rfl (qa_cons (qv 0) (qa_cons qe_int (qa_cons (qe_gl rfl b.g_WEIGHT) qa_nil)))))), p_is_weight_6941⟩
theorem sc_checked_7d9f : FnScope ["items", "rules", "mark", "weight"] ["items", "rules"] (defScope st_checked_7d9f) := ⟨rfl, rfl, rfl, by decide +kernel, rfl, by decide +kernel, by decide +kernel⟩
theorem ok_checked_7d9f {f fd} (b : Bi K mg) (g_is_mark_f168 : Glo P w K mg base "is_mark" 1 (spP K (sp_is_mark_f168)) 3) (g_is_weight_6941 : Glo P w K mg base "is_weight" 1 (spP K (sp_is_weight_6941)) 3) (F : Fn K "checked" "checked" st_checked_7d9f f fd) : FnOk P w K mg base CX0 4 f fd ["items", "rules"] (spP K sp_checked_7d9f) :=
  okP F sc_checked_7d9f len_checked_7d9f ⟨t_checked_7d9f, fun cdv A outer s H E hr => by
    have nd := sc_checked_7d9f.nd
    exact (qss_cons (qs_if (qt_not (qt_val (qe_callB (c_all rfl) rfl b.f_all bt_all (qa_cons (qe_set (qf_lc rfl nd (qi_seq (qv 0)) (own := [("mark", 2), ("weight", 3)]) (blkOk_by (by kernel_rfl)) (by decide) (fun _ _ _ _ _ => (qg_tup rfl (qgs_cons (qg_name nd rfl (by first | exact Or.inl rfl | exact Or.inr rfl)) (qgs_cons (qg_name nd rfl (by first | exact Or.inl rfl | exact Or.inr rfl)) qgs_nil)))) (fun _ _ _ _ _ => qts_nil) (fun _ _ _ _ _ => (qe_and (qe_call (g_is_mark_f168.at hr (by decide)) rfl (qa_cons (qv 2) qa_nil)) (qe_one (qe_call (g_is_weight_6941.at hr (by decide)) rfl (qa_cons (qv 3) qa_nil))))))) qa_nil)))) (qss_one qs_never) qss_nil)
    (qss_one (qs_ret (qe_tup (qa_cons (qv 0) (qa_cons (qv 1) qa_nil)))))), p_checked_7d9f⟩
theorem sc_scale_panel_75d1 : FnScope ["panel", "factor", "items", "rules", "mark", "weight"] ["panel", "factor"] (defScope st_scale_panel_75d1) := ⟨rfl, rfl, rfl, by decide +kernel, rfl, by decide +kernel, by decide +kernel⟩
theorem ok_scale_panel_75d1 {f fd} (b : Bi K mg) (g_checked_7d9f : Glo P w K mg base "checked" 2 (spP K (sp_checked_7d9f)) 4) (F : Fn K "scale_panel" "scale_panel" st_scale_panel_75d1 f fd) : FnOk P w K mg base CX0 5 f fd ["panel", "factor"] (spP K sp_scale_panel_75d1) :=
  okP F sc_scale_panel_75d1 len_scale_panel_75d1 ⟨t_scale_panel_75d1, fun cdv A outer s H E hr => by
    have nd := sc_scale_panel_75d1.nd
    exact (qss_cons (qs_setT (qv 0) (qg_tup rfl (qgs_cons (qg_name nd rfl (by first | exact Or.inl rfl | exact Or.inr rfl)) (qgs_cons (qg_name nd rfl (by first | exact Or.inl rfl | exact Or.inr rfl)) qgs_nil))))
    (qss_one (qs_ret (qe_call (g_checked_7d9f.at hr (by decide)) rfl (qa_cons (qe_callTy c_tuple rfl b.f_tuple bt_tuple (qa_cons (qe_set (qf_lc rfl nd (qi_seq (qv 2)) (own := [("mark", 4), ("weight", 5)]) (blkOk_by (by kernel_rfl)) (by decide) (fun _ _ _ _ _ => (qg_tup rfl (qgs_cons (qg_name nd rfl (by first | exact Or.inl rfl | exact Or.inr rfl)) (qgs_cons (qg_name nd rfl (by first | exact Or.inl rfl | exact Or.inr rfl)) qgs_nil)))) (fun _ _ _ _ _ => qts_nil) (fun _ _ _ _ _ => (qe_tup (qa_cons (qe_bin o_mul (qv 4) (qv 1)) (qa_cons (qv 5) qa_nil)))))) qa_nil)) (qa_cons (qv 3) qa_nil)))))), p_scale_panel_75d1⟩
theorem sc_combine_panels_586d : FnScope ["one", "other", "first", "items", "rules", "low", "high"] ["one", "other"] (defScope st_combine_panels_586d) := ⟨rfl, rfl, rfl, by decide +kernel, rfl, by decide +kernel, by decide +kernel⟩
theorem ok_combine_panels_586d {f fd} (b : Bi K mg) (F : Fn K "combine_panels" "combine_panels" st_combine_panels_586d f fd) : FnOk P w K mg base CX0 1 f fd ["one", "other"] (spP K sp_combine_panels_586d) :=
  okP F sc_combine_panels_586d len_combine_panels_586d ⟨t_combine_panels_586d, fun cdv A outer s H E hr => by
    have nd := sc_combine_panels_586d.nd
    exact (qss_cons (qs_set (i := 2) nd rfl (by first | exact Or.inl rfl | exact Or.inr rfl) (qe_callB c_len rfl b.f_len bt_len (qa_cons (qe_ix (qv 0) qe_int) qa_nil)))
    (qss_cons (qs_set (i := 3) nd rfl (by first | exact Or.inl rfl | exact Or.inr rfl) (qe_bin o_add (qe_ix (qv 0) qe_int) (qe_ix (qv 1) qe_int)))
    (qss_cons (qs_set (i := 4) nd rfl (by first | exact Or.inl rfl | exact Or.inr rfl) (qe_bin o_add (qe_ix (qv 0) qe_int) (qe_callTy c_tuple rfl b.f_tuple bt_tuple (qa_cons (qe_set (qf_lc rfl nd (qi_seq (qe_ix (qv 1) qe_int)) (own := [("low", 5), ("high", 6)]) (blkOk_by (by kernel_rfl)) (by decide) (fun _ _ _ _ _ => (qg_tup rfl (qgs_cons (qg_name nd rfl (by first | exact Or.inl rfl | exact Or.inr rfl)) (qgs_cons (qg_name nd rfl (by first | exact Or.inl rfl | exact Or.inr rfl)) qgs_nil)))) (fun _ _ _ _ _ => qts_nil) (fun _ _ _ _ _ => (qe_tup (qa_cons (qe_bin o_add (qv 2) (qv 5)) (qa_cons (qe_bin o_add (qv 2) (qv 6)) qa_nil)))))) qa_nil))))
    (qss_cons (qs_if (PW.pt (qw_or (qt_cmp o_gt (qe_callB c_len rfl b.f_len bt_len (qa_cons (qv 3) qa_nil)) (qe_gl rfl b.g_ITEMS) (nomark _)) (qw_and1 (qt_cmp o_gt (qe_callB c_len rfl b.f_len bt_len (qa_cons (qv 4) qa_nil)) (qe_gl rfl b.g_RULES) (nomark _))))) (qss_one qs_never) qss_nil)
    (qss_one (qs_ret (qe_tup (qa_cons (qv 3) (qa_cons (qv 4) qa_nil))))))))), p_combine_panels_586d⟩
theorem sc_equal_17a7 : FnScope ["_law_one_here", "_law_other", "_law_a", "_law_b"] ["_law_one_here", "_law_other"] (defScope st_equal_17a7) := ⟨rfl, rfl, rfl, by decide +kernel, rfl, by decide +kernel, by decide +kernel⟩
theorem ok_equal_17a7 {f fd} {k : Nat} {s s1 : Spec0} (hk : 1 ≤ k) (ln : ∀ ds R, s1 ds R → ds.length = 2) (pp : ∀ ds R, s1 ds R → t_equal_17a7 s { nx := fun _ => R .non, rt := fun d _ => R d } ⟨startL 4 ds, ()⟩) (g_self : Glo P w K mg base "_law_equal" 2 (spP K s) k) (b : Bi K mg) (F : Fn K "_law_equal" "_law_equal" st_equal_17a7 f fd) : FnOk P w K mg base CX0 (k + 1) f fd ["_law_one_here", "_law_other"] (spP K s1) :=
  okP F sc_equal_17a7 ln ⟨t_equal_17a7 s, fun cdv A outer s H E hr => by
    have nd := sc_equal_17a7.nd
    exact (qss_cons (qs_if (PW.pt (qw_and (qt_val (qe_isi (by decide) (qv 0) rfl b.f_isinstance rfl b.f_tuple bt_tuple)) (qw_and1 (qt_val (qe_isi (by decide) (qv 1) rfl b.f_isinstance rfl b.f_tuple bt_tuple))))) (qss_one (qs_ret (qe_and (qe_cmp (o_eq hr) (qe_callB c_len rfl b.f_len bt_len (qa_cons (qv 0) qa_nil)) (qe_callB c_len rfl b.f_len bt_len (qa_cons (qv 1) qa_nil)) (nomark _)) (qe_one (qe_callB (c_all rfl) rfl b.f_all bt_all (qa_cons (qe_set (qf_lc rfl nd (qi_zip rfl b.f_zip (qa_cons (qv 0) (qa_cons (qv 1) qa_nil))) (own := [("_law_a", 2), ("_law_b", 3)]) (blkOk_by (by kernel_rfl)) (by decide) (fun _ _ _ _ _ => (qg_tup rfl (qgs_cons (qg_name nd rfl (by first | exact Or.inl rfl | exact Or.inr rfl)) (qgs_cons (qg_name nd rfl (by first | exact Or.inl rfl | exact Or.inr rfl)) qgs_nil)))) (fun _ _ _ _ _ => qts_nil) (fun _ _ _ _ _ => (qe_call (g_self.at hr (Nat.le_refl _)) rfl (qa_cons (qv 2) (qa_cons (qv 3) qa_nil)))))) qa_nil)))))) qss_nil)
    (qss_cons (qs_if (PW.pt (qw_or (qt_val (qe_isi (by decide) (qv 0) rfl b.f_isinstance rfl b.f_bool bt_bool)) (qw_and1 (qt_val (qe_isi (by decide) (qv 1) rfl b.f_isinstance rfl b.f_bool bt_bool))))) (qss_one (qs_ret (qe_and (qe_isi (by decide) (qv 0) rfl b.f_isinstance rfl b.f_bool bt_bool) (qe_and (qe_isi (by decide) (qv 1) rfl b.f_isinstance rfl b.f_bool bt_bool) (qe_one (qe_cmp (o_eq hr) (qv 0) (qv 1) (nomark _))))))) qss_nil)
    (qss_cons (qs_if (qt_cmp (o_ne hr) (qe_isi (by decide) (qv 0) rfl b.f_isinstance rfl b.f_tuple bt_tuple) (qe_isi (by decide) (qv 1) rfl b.f_isinstance rfl b.f_tuple bt_tuple) (nomark _)) (qss_one (qs_ret qe_bl)) qss_nil)
    (qss_cons (qs_if (qt_cmp (o_ne hr) (qe_isi (by decide) (qv 0) rfl b.f_isinstance rfl b.f_int bt_int) (qe_isi (by decide) (qv 1) rfl b.f_isinstance rfl b.f_int bt_int) (nomark _)) (qss_one (qs_ret qe_bl)) qss_nil)
    (qss_one (qs_ret (qe_and (qe_cmp (o_eq hr) (qe_isi (by decide) (qv 0) rfl b.f_isinstance rfl b.f_str bt_str) (qe_isi (by decide) (qv 1) rfl b.f_isinstance rfl b.f_str bt_str) (nomark _)) (qe_one (qe_cmp (o_eq hr) (qv 0) (qv 1) (nomark _)))))))))), pp⟩
theorem sc_sums_of_9763 : FnScope ["panel", "group", "items", "item", "mark", "weight"] ["panel", "group"] (defScope st_sums_of_9763) := ⟨rfl, rfl, rfl, by decide +kernel, rfl, by decide +kernel, by decide +kernel⟩
theorem ok_sums_of_9763 {f fd} (b : Bi K mg) (F : Fn K "sums_of" "sums_of" st_sums_of_9763 f fd) : FnOk P w K mg base CX0 1 f fd ["panel", "group"] (spP K sp_sums_of_9763) :=
  okP F sc_sums_of_9763 len_sums_of_9763 ⟨t_sums_of_9763, fun cdv A outer s H E hr => by
    have nd := sc_sums_of_9763.nd
    exact (qss_cons (qs_lc rfl nd rfl rfl rfl (qi_seq (qv 1)) (own := [("item", 3)]) (blkOk_by (by kernel_rfl)) (by decide) (fun _ _ _ _ _ => (qg_name nd rfl (by first | exact Or.inl rfl | exact Or.inr rfl))) (fun _ _ _ _ _ => qts_nil) (fun _ _ _ _ _ => (qe_ix (qe_ix (qv 0) qe_int) (qv 3))))
    (qss_one (qs_ret (qe_tup (qa_cons (qe_callB (c_sum rfl) rfl b.f_sum bt_sum (qa_cons (qe_set (qf_lc rfl nd (qi_seq (qv 2)) (own := [("mark", 4), ("weight", 5)]) (blkOk_by (by kernel_rfl)) (by decide) (fun _ _ _ _ _ => (qg_tup rfl (qgs_cons (qg_name nd rfl (by first | exact Or.inl rfl | exact Or.inr rfl)) (qgs_cons (qg_name nd rfl (by first | exact Or.inl rfl | exact Or.inr rfl)) qgs_nil)))) (fun _ _ _ _ _ => qts_nil) (fun _ _ _ _ _ => (qe_bin o_mul (qv 4) (qv 5))))) qa_nil)) (qa_cons (qe_callB (c_sum rfl) rfl b.f_sum bt_sum (qa_cons (qe_set (qf_lc rfl nd (qi_seq (qv 2)) (own := [("mark", 4), ("weight", 5)]) (blkOk_by (by kernel_rfl)) (by decide) (fun _ _ _ _ _ => (qg_tup rfl (qgs_cons (qg_name nd rfl (by first | exact Or.inl rfl | exact Or.inr rfl)) (qgs_cons (qg_name nd rfl (by first | exact Or.inl rfl | exact Or.inr rfl)) qgs_nil)))) (fun _ _ _ _ _ => qts_nil) (fun _ _ _ _ _ => (qv 5)))) qa_nil)) qa_nil)))))), p_sums_of_9763⟩
theorem sc_upper_part_65f2 : FnScope ["panel", "closed", "part", "total", "weight", "found", "most", "group", "some", "own_total", "own_weight", "excess", "item"] ["panel", "closed", "part"] (defScope st_upper_part_65f2) := ⟨rfl, rfl, rfl, by decide +kernel, rfl, by decide +kernel, by decide +kernel⟩
theorem ok_upper_part_65f2 {f fd} (b : Bi K mg) (g_sums_of_9763 : Glo P w K mg base "sums_of" 2 (spP K (sp_sums_of_9763)) 1) (F : Fn K "upper_part" "upper_part" st_upper_part_65f2 f fd) : FnOk P w K mg base CX0 2 f fd ["panel", "closed", "part"] (spP K sp_upper_part_65f2) :=
  okP F sc_upper_part_65f2 len_upper_part_65f2 ⟨t_upper_part_65f2, fun cdv A outer s H E hr => by
    have nd := sc_upper_part_65f2.nd
    exact (qss_cons (qs_setT (qe_call (g_sums_of_9763.at hr (by decide)) rfl (qa_cons (qv 0) (qa_cons (qv 2) qa_nil))) (qg_tup rfl (qgs_cons (qg_name nd rfl (by first | exact Or.inl rfl | exact Or.inr rfl)) (qgs_cons (qg_name nd rfl (by first | exact Or.inl rfl | exact Or.inr rfl)) qgs_nil))))
    (qss_cons (qs_setT (qe_tup (qa_cons (qe_tup qa_nil) (qa_cons qe_int qa_nil))) (qg_tup rfl (qgs_cons (qg_name nd rfl (by first | exact Or.inl rfl | exact Or.inr rfl)) (qgs_cons (qg_name nd rfl (by first | exact Or.inl rfl | exact Or.inr rfl)) qgs_nil))))
    (qss_cons (qs_for PassesOwn.never rfl (qi_seq (qv 1)) (qg_name nd rfl (by first | exact Or.inl rfl | exact Or.inr rfl)) (qss_cons (qs_set (i := 8) nd rfl (by first | exact Or.inl rfl | exact Or.inr rfl) (qe_callTy c_tuple rfl b.f_tuple bt_tuple (qa_cons (qe_set (qf_lc rfl nd (qi_seq (qv 7)) (own := [("item", 12)]) (blkOk_by (by kernel_rfl)) (by decide) (fun _ _ _ _ _ => (qg_name nd rfl (by first | exact Or.inl rfl | exact Or.inr rfl))) (fun _ _ _ _ _ => (qts_one (qt_cmp (o_in hr) (qv 12) (qv 2) (by rfl)))) (fun _ _ _ _ _ => (qv 12)))) qa_nil)))
    (qss_cons (qs_setT (qe_call (g_sums_of_9763.at hr (by decide)) rfl (qa_cons (qv 0) (qa_cons (qv 8) qa_nil))) (qg_tup rfl (qgs_cons (qg_name nd rfl (by first | exact Or.inl rfl | exact Or.inr rfl)) (qgs_cons (qg_name nd rfl (by first | exact Or.inl rfl | exact Or.inr rfl)) qgs_nil))))
    (qss_cons (qs_set (i := 11) nd rfl (by first | exact Or.inl rfl | exact Or.inr rfl) (qe_bin o_sub (qe_bin o_mul (qv 9) (qv 4)) (qe_bin o_mul (qv 3) (qv 10))))
    (qss_one (qs_if (qt_cmp o_gt (qv 11) (qv 6) (nomark _)) (qss_one (qs_par rfl nd rfl rfl (by decide) rfl rfl (qa_cons (qv 8) (qa_cons (qv 11) qa_nil)) rfl)) qss_nil))))))
    (qss_one (qs_ret (qv 5)))))), p_upper_part_65f2⟩
theorem sc_average_of_ee61 : FnScope ["panel", "group", "items", "total", "item", "mark", "weight"] ["panel", "group"] (defScope st_average_of_ee61) := ⟨rfl, rfl, rfl, by decide +kernel, rfl, by decide +kernel, by decide +kernel⟩
theorem ok_average_of_ee61 {f fd} (b : Bi K mg) (g_make_fraction_15f7 : Glo P w K mg base "make_fraction" 2 (spP K (sp_make_fraction_15f7)) 2) (F : Fn K "average_of" "average_of" st_average_of_ee61 f fd) : FnOk P w K mg base CX0 3 f fd ["panel", "group"] (spP K sp_average_of_ee61) :=
  okP F sc_average_of_ee61 len_average_of_ee61 ⟨t_average_of_ee61, fun cdv A outer s H E hr => by
    have nd := sc_average_of_ee61.nd
    exact (qss_cons (qs_lc rfl nd rfl rfl rfl (qi_seq (qv 1)) (own := [("item", 4)]) (blkOk_by (by kernel_rfl)) (by decide) (fun _ _ _ _ _ => (qg_name nd rfl (by first | exact Or.inl rfl | exact Or.inr rfl))) (fun _ _ _ _ _ => qts_nil) (fun _ _ _ _ _ => (qe_ix (qe_ix (qv 0) qe_int) (qv 4))))
    (qss_cons (qs_set (i := 3) nd rfl (by first | exact Or.inl rfl | exact Or.inr rfl) (qe_callB (c_sum rfl) rfl b.f_sum bt_sum (qa_cons (qe_set (qf_lc rfl nd (qi_seq (qv 2)) (own := [("mark", 5), ("weight", 6)]) (blkOk_by (by kernel_rfl)) (by decide) (fun _ _ _ _ _ => (qg_tup rfl (qgs_cons (qg_name nd rfl (by first | exact Or.inl rfl | exact Or.inr rfl)) (qgs_cons (qg_name nd rfl (by first | exact Or.inl rfl | exact Or.inr rfl)) qgs_nil)))) (fun _ _ _ _ _ => qts_nil) (fun _ _ _ _ _ => (qe_bin o_mul (qv 5) (qv 6))))) qa_nil)))
    (qss_one (qs_ret (qe_call (g_make_fraction_15f7.at hr (by decide)) rfl (qa_cons (qv 3) (qa_cons (qe_callB (c_sum rfl) rfl b.f_sum bt_sum (qa_cons (qe_set (qf_lc rfl nd (qi_seq (qv 2)) (own := [("mark", 5), ("weight", 6)]) (blkOk_by (by kernel_rfl)) (by decide) (fun _ _ _ _ _ => (qg_tup rfl (qgs_cons (qg_name nd rfl (by first | exact Or.inl rfl | exact Or.inr rfl)) (qgs_cons (qg_name nd rfl (by first | exact Or.inl rfl | exact Or.inr rfl)) qgs_nil)))) (fun _ _ _ _ _ => qts_nil) (fun _ _ _ _ _ => (qv 6)))) qa_nil)) qa_nil))))))), p_average_of_ee61⟩
theorem sc_best_rating_b8e6 : FnScope ["panel", "closed", "found", "parts", "part", "upper", "item"] ["panel"] (defScope st_best_rating_b8e6) := ⟨rfl, rfl, rfl, by decide +kernel, rfl, by decide +kernel, by decide +kernel⟩
theorem ok_best_rating_b8e6 {f fd} (b : Bi K mg) (g_upward_sets_3622 : Glo P w K mg base "upward_sets" 1 (spP K (sp_upward_sets_3622)) 5) (g_upper_part_65f2 : Glo P w K mg base "upper_part" 3 (spP K (sp_upper_part_65f2)) 2) (g_average_of_ee61 : Glo P w K mg base "average_of" 2 (spP K (sp_average_of_ee61)) 3) (F : Fn K "best_rating" "best_rating" st_best_rating_b8e6 f fd) : FnOk P w K mg base CX0 6 f fd ["panel"] (spP K sp_best_rating_b8e6) :=
  okP F sc_best_rating_b8e6 len_best_rating_b8e6 ⟨t_best_rating_b8e6, fun cdv A outer s H E hr => by
    have nd := sc_best_rating_b8e6.nd
    exact (qss_cons (qs_set (i := 1) nd rfl (by first | exact Or.inl rfl | exact Or.inr rfl) (qe_call (g_upward_sets_3622.at hr (by decide)) rfl (qa_cons (qv 0) qa_nil)))
    (qss_cons (qs_setOwn (i := 2) nd rfl (by first | exact Or.inl rfl | exact Or.inr rfl) (qf_bin o_mulF (qe_set (qf_lst (qa_cons qe_non qa_nil))) (qe_callB c_len rfl b.f_len bt_len (qa_cons (qe_ix (qv 0) qe_int) qa_nil))))
    (qss_cons (qs_setOwn (i := 3) nd rfl (by first | exact Or.inl rfl | exact Or.inr rfl) (qf_lst (qa_cons (qe_tupRg1 rfl rfl b.f_tuple rfl b.f_range (qe_callB c_len rfl b.f_len bt_len (qa_cons (qe_ix (qv 0) qe_int) qa_nil))) qa_nil)))
    (qss_cons (qs_while PassesOwn.never (qt_cmpN1 (b_ne hr) (pv 3) (qe_set (qf_lst qa_nil)) (nomark _)) (qss_cons (qs_set (i := 4) nd rfl (by first | exact Or.inl rfl | exact Or.inr rfl) (qe_pop (pv 3)))
    (qss_cons (qs_set (i := 5) nd rfl (by first | exact Or.inl rfl | exact Or.inr rfl) (qe_call (g_upper_part_65f2.at hr (by decide)) rfl (qa_cons (qv 0) (qa_cons (qv 1) (qa_cons (qv 4) qa_nil)))))
    (qss_one (qs_if (qt_cmp (o_eq hr) (qv 5) (qe_tup qa_nil) (nomark _)) (qss_one (qs_for PassesOwn.never rfl (qi_seq (qv 4)) (qg_name nd rfl (by first | exact Or.inl rfl | exact Or.inr rfl)) (qss_one (qs_setItem (qe_call (g_average_of_ee61.at hr (by decide)) rfl (qa_cons (qv 0) (qa_cons (qv 4) qa_nil))) (pv 2) (qv 6) rfl rfl rfl (fun _ => rfl))))) (qss_one (qs_expr (qe_extend (pv 3) (qf_lst (qa_cons (qv 5) (qa_cons (qe_callTy c_tuple rfl b.f_tuple bt_tuple (qa_cons (qe_set (qf_lc rfl nd (qi_seq (qv 4)) (own := [("item", 6)]) (blkOk_by (by kernel_rfl)) (by decide) (fun _ _ _ _ _ => (qg_name nd rfl (by first | exact Or.inl rfl | exact Or.inr rfl))) (fun _ _ _ _ _ => (qts_one (qt_cmp (o_notIn hr) (qv 6) (qv 5) (by rfl)))) (fun _ _ _ _ _ => (qv 6)))) qa_nil)) qa_nil)))))))))))
    (qss_one (qs_ret (qe_callTy c_tuple rfl b.f_tuple bt_tuple (qa_cons (qv 2) qa_nil)))))))), p_best_rating_b8e6⟩
theorem sc_beside_right_2df3 : FnScope ["_law_panel_here", "_law_item", "_law_watched", "_law_value", "_law_found", "_law_wide", "_law_word"] ["_law_panel_here", "_law_item", "_law_watched", "_law_value", "_law_found"] (defScope st_beside_right_2df3) := ⟨rfl, rfl, rfl, by decide +kernel, rfl, by decide +kernel, by decide +kernel⟩
theorem ok_beside_right_2df3 {f fd} (b : Bi K mg) (g_combine_panels_586d : Glo P w K mg base "combine_panels" 2 (spP K (sp_combine_panels_586d)) 1) (g_equal_17a7 : Glo P w K mg base "_law_equal" 2 (spP K (sp_equal_17a7 24)) 25) (g_less_7322 : Glo P w K mg base "_law_less" 2 (spP K (sp_less_7322)) 1) (g_mark_to_reach_5768 : Glo P w K mg base "mark_to_reach" 4 (spP K (sp_mark_to_reach_5768)) 7) (g_best_rating_b8e6 : Glo P w K mg base "best_rating" 1 (spP K (sp_best_rating_b8e6)) 6) (F : Fn K "_law_beside_right" "_law_beside_right" st_beside_right_2df3 f fd) : FnOk P w K mg base CX0 26 f fd ["_law_panel_here", "_law_item", "_law_watched", "_law_value", "_law_found"] (spP K sp_beside_right_2df3) :=
  okP F sc_beside_right_2df3 len_beside_right_2df3 ⟨t_beside_right_2df3, fun cdv A outer s H E hr => by
    have nd := sc_beside_right_2df3.nd
    exact (qss_cons (qs_if (qt_cmp (o_eq hr) (qe_callB c_len rfl b.f_len bt_len (qa_cons (qe_ix (qv 0) qe_int) qa_nil)) qe_int (nomark _)) (qss_one (qs_ret qe_bl)) qss_nil)
    (qss_cons (qs_set (i := 5) nd rfl (by first | exact Or.inl rfl | exact Or.inr rfl) (qe_call (g_combine_panels_586d.at hr (by decide)) rfl (qa_cons (qv 0) (qa_cons (qe_tup (qa_cons (qe_tup (qa_cons (qe_tup (qa_cons qe_int (qa_cons qe_int qa_nil))) qa_nil)) (qa_cons (qe_tup qa_nil) qa_nil))) qa_nil))))
    (qss_cons (qs_if (qt_not (qt_val (qe_call (g_equal_17a7.at hr (by decide)) rfl (qa_cons (qe_call (g_mark_to_reach_5768.at hr (by decide)) rfl (qa_cons (qv 5) (qa_cons (qv 1) (qa_cons (qv 2) (qa_cons (qv 3) qa_nil))))) (qa_cons (qv 4) qa_nil))))) (qss_one (qs_ret qe_bl)) qss_nil)
    (qss_cons (qs_set (i := 6) nd rfl (by first | exact Or.inl rfl | exact Or.inr rfl) (qe_if (qt_val (qe_call (g_less_7322.at hr (by decide)) rfl (qa_cons (qe_ix (qe_call (g_best_rating_b8e6.at hr (by decide)) rfl (qa_cons (qv 0) qa_nil)) (qv 2)) (qa_cons (qv 3) qa_nil)))) qe_str qe_str))
    (qss_one (qs_ret (qe_call (g_equal_17a7.at hr (by decide)) rfl (qa_cons (qe_call (g_mark_to_reach_5768.at hr (by decide)) rfl (qa_cons (qv 5) (qa_cons (qe_callB c_len rfl b.f_len bt_len (qa_cons (qe_ix (qv 0) qe_int) qa_nil)) (qa_cons (qv 2) (qa_cons (qv 3) qa_nil))))) (qa_cons (qe_tup (qa_cons (qv 6) qa_nil)) qa_nil))))))))), p_beside_right_2df3⟩
theorem sc_shift_panel_6bc9 : FnScope ["panel", "amount", "items", "rules", "mark", "weight"] ["panel", "amount"] (defScope st_shift_panel_6bc9) := ⟨rfl, rfl, rfl, by decide +kernel, rfl, by decide +kernel, by decide +kernel⟩
theorem ok_shift_panel_6bc9 {f fd} (b : Bi K mg) (g_checked_7d9f : Glo P w K mg base "checked" 2 (spP K (sp_checked_7d9f)) 4) (F : Fn K "shift_panel" "shift_panel" st_shift_panel_6bc9 f fd) : FnOk P w K mg base CX0 5 f fd ["panel", "amount"] (spP K sp_shift_panel_6bc9) :=
  okP F sc_shift_panel_6bc9 len_shift_panel_6bc9 ⟨t_shift_panel_6bc9, fun cdv A outer s H E hr => by
    have nd := sc_shift_panel_6bc9.nd
    exact (qss_cons (qs_setT (qv 0) (qg_tup rfl (qgs_cons (qg_name nd rfl (by first | exact Or.inl rfl | exact Or.inr rfl)) (qgs_cons (qg_name nd rfl (by first | exact Or.inl rfl | exact Or.inr rfl)) qgs_nil))))
    (qss_one (qs_ret (qe_call (g_checked_7d9f.at hr (by decide)) rfl (qa_cons (qe_callTy c_tuple rfl b.f_tuple bt_tuple (qa_cons (qe_set (qf_lc rfl nd (qi_seq (qv 2)) (own := [("mark", 4), ("weight", 5)]) (blkOk_by (by kernel_rfl)) (by decide) (fun _ _ _ _ _ => (qg_tup rfl (qgs_cons (qg_name nd rfl (by first | exact Or.inl rfl | exact Or.inr rfl)) (qgs_cons (qg_name nd rfl (by first | exact Or.inl rfl | exact Or.inr rfl)) qgs_nil)))) (fun _ _ _ _ _ => qts_nil) (fun _ _ _ _ _ => (qe_tup (qa_cons (qe_bin o_add (qv 4) (qv 1)) (qa_cons (qv 5) qa_nil)))))) qa_nil)) (qa_cons (qv 3) qa_nil)))))), p_shift_panel_6bc9⟩
theorem sc_plus_f97f : FnScope ["_law_one_here", "_law_other"] ["_law_one_here", "_law_other"] (defScope st_plus_f97f) := ⟨rfl, rfl, rfl, by decide +kernel, rfl, by decide +kernel, by decide +kernel⟩
theorem ok_plus_f97f {f fd} (b : Bi K mg) (g_lowest_ba06 : Glo P w K mg base "_law_lowest" 2 (spP K (sp_lowest_ba06)) 1) (F : Fn K "_law_plus" "_law_plus" st_plus_f97f f fd) : FnOk P w K mg base CX0 2 f fd ["_law_one_here", "_law_other"] (spP K sp_plus_f97f) :=
  okP F sc_plus_f97f len_plus_f97f ⟨t_plus_f97f, fun cdv A outer s H E hr => by
    have nd := sc_plus_f97f.nd
    exact (qss_one (qs_ret (qe_call (g_lowest_ba06.at hr (by decide)) rfl (qa_cons (qe_bin o_add (qe_bin o_mul (qe_ix (qv 0) qe_int) (qe_ix (qv 1) qe_int)) (qe_bin o_mul (qe_ix (qv 1) qe_int) (qe_ix (qv 0) qe_int))) (qa_cons (qe_bin o_mul (qe_ix (qv 0) qe_int) (qe_ix (qv 1) qe_int)) qa_nil))))), p_plus_f97f⟩
theorem sc_led_6b2d : FnScope ["_law_found", "_law_factor", "_law_amount"] ["_law_found", "_law_factor", "_law_amount"] (defScope st_led_6b2d) := ⟨rfl, rfl, rfl, by decide +kernel, rfl, by decide +kernel, by decide +kernel⟩
theorem ok_led_6b2d {f fd} (b : Bi K mg) (g_plus_f97f : Glo P w K mg base "_law_plus" 2 (spP K (sp_plus_f97f)) 2) (g_lowest_ba06 : Glo P w K mg base "_law_lowest" 2 (spP K (sp_lowest_ba06)) 1) (F : Fn K "_law_led" "_law_led" st_led_6b2d f fd) : FnOk P w K mg base CX0 3 f fd ["_law_found", "_law_factor", "_law_amount"] (spP K sp_led_6b2d) :=
  okP F sc_led_6b2d len_led_6b2d ⟨t_led_6b2d, fun cdv A outer s H E hr => by
    have nd := sc_led_6b2d.nd
    exact (qss_cons (qs_if (qt_cmp (o_ne hr) (qe_ix (qv 0) qe_int) qe_str (nomark _)) (qss_one (qs_ret (qv 0))) qss_nil)
    (qss_one (qs_ret (qe_tup (qa_cons qe_str (qa_cons (qe_call (g_plus_f97f.at hr (by decide)) rfl (qa_cons (qe_call (g_lowest_ba06.at hr (by decide)) rfl (qa_cons (qe_bin o_mul (qe_ix (qe_ix (qv 0) qe_int) qe_int) (qv 1)) (qa_cons (qe_ix (qe_ix (qv 0) qe_int) qe_int) qa_nil))) (qa_cons (qe_tup (qa_cons (qv 2) (qa_cons qe_int qa_nil))) qa_nil))) qa_nil)))))), p_led_6b2d⟩
theorem sc_weigh_panel_1cdd : FnScope ["panel", "factor", "items", "rules", "mark", "weight"] ["panel", "factor"] (defScope st_weigh_panel_1cdd) := ⟨rfl, rfl, rfl, by decide +kernel, rfl, by decide +kernel, by decide +kernel⟩
theorem ok_weigh_panel_1cdd {f fd} (b : Bi K mg) (g_checked_7d9f : Glo P w K mg base "checked" 2 (spP K (sp_checked_7d9f)) 4) (F : Fn K "weigh_panel" "weigh_panel" st_weigh_panel_1cdd f fd) : FnOk P w K mg base CX0 5 f fd ["panel", "factor"] (spP K sp_weigh_panel_1cdd) :=
  okP F sc_weigh_panel_1cdd len_weigh_panel_1cdd ⟨t_weigh_panel_1cdd, fun cdv A outer s H E hr => by
    have nd := sc_weigh_panel_1cdd.nd
    exact (qss_cons (qs_setT (qv 0) (qg_tup rfl (qgs_cons (qg_name nd rfl (by first | exact Or.inl rfl | exact Or.inr rfl)) (qgs_cons (qg_name nd rfl (by first | exact Or.inl rfl | exact Or.inr rfl)) qgs_nil))))
    (qss_one (qs_ret (qe_call (g_checked_7d9f.at hr (by decide)) rfl (qa_cons (qe_callTy c_tuple rfl b.f_tuple bt_tuple (qa_cons (qe_set (qf_lc rfl nd (qi_seq (qv 2)) (own := [("mark", 4), ("weight", 5)]) (blkOk_by (by kernel_rfl)) (by decide) (fun _ _ _ _ _ => (qg_tup rfl (qgs_cons (qg_name nd rfl (by first | exact Or.inl rfl | exact Or.inr rfl)) (qgs_cons (qg_name nd rfl (by first | exact Or.inl rfl | exact Or.inr rfl)) qgs_nil)))) (fun _ _ _ _ _ => qts_nil) (fun _ _ _ _ _ => (qe_tup (qa_cons (qv 4) (qa_cons (qe_bin o_mul (qv 5) (qv 1)) qa_nil)))))) qa_nil)) (qa_cons (qv 3) qa_nil)))))), p_weigh_panel_1cdd⟩
theorem sc_changed_right_f9b2 : FnScope ["_law_drawn", "_law_panel_here", "_law_item", "_law_watched", "_law_value", "_law_found", "_law_greatest", "_law_factor", "_law_amount", "_law_heavy", "_law_shifted", "_law_scaled", "_law_led_here", "_law_mark", "_law_weight"] ["_law_drawn", "_law_panel_here", "_law_item", "_law_watched", "_law_value"] (defScope st_changed_right_f9b2) := ⟨rfl, rfl, rfl, by decide +kernel, rfl, by decide +kernel, by decide +kernel⟩
theorem ok_changed_right_f9b2 {f fd} {r c q : Addr} (b : Bi K mg) (g_mark_to_reach_5768 : Glo P w K mg base "mark_to_reach" 4 (spP K (sp_mark_to_reach_5768)) 7) (g_next : ∀ r c q, Glo P w K mg base "_law_next" 2 (spG (gr K r c q) (nextS r)) 1) (g_scale_panel_75d1 : Glo P w K mg base "scale_panel" 2 (spP K (sp_scale_panel_75d1)) 5) (g_beside_right_2df3 : Glo P w K mg base "_law_beside_right" 5 (spP K (sp_beside_right_2df3)) 26) (g_shift_panel_6bc9 : Glo P w K mg base "shift_panel" 2 (spP K (sp_shift_panel_6bc9)) 5) (g_plus_f97f : Glo P w K mg base "_law_plus" 2 (spP K (sp_plus_f97f)) 2) (g_lowest_ba06 : Glo P w K mg base "_law_lowest" 2 (spP K (sp_lowest_ba06)) 1) (g_equal_17a7 : Glo P w K mg base "_law_equal" 2 (spP K (sp_equal_17a7 24)) 25) (g_led_6b2d : Glo P w K mg base "_law_led" 3 (spP K (sp_led_6b2d)) 3) (g_weigh_panel_1cdd : Glo P w K mg base "weigh_panel" 2 (spP K (sp_weigh_panel_1cdd)) 5) (F : Fn K "_law_changed_right" "_law_changed_right" st_changed_right_f9b2 f fd) : FnOk P w K mg base CX0 27 f fd ["_law_drawn", "_law_panel_here", "_law_item", "_law_watched", "_law_value"] (spG (gr K r c q) (sp_changed_right_f9b2 r)) :=
  okG (P := P) (w := w) (mg := mg) (base := base) (G := gr K r c q) (k := 26) rfl F sc_changed_right_f9b2 (len_changed_right_f9b2 r) ⟨t_changed_right_f9b2 r, fun cdv A outer s H E hr => by
    have nd := sc_changed_right_f9b2.nd
    exact (qss_cons (qs_set (i := 5) nd rfl (by first | exact Or.inl rfl | exact Or.inr rfl) (qe_call (g_mark_to_reach_5768.at hr (by decide)) rfl (qa_cons (qv 1) (qa_cons (qv 2) (qa_cons (qv 3) (qa_cons (qv 4) qa_nil))))))
    (qss_cons (qs_set (i := 6) nd rfl (by first | exact Or.inl rfl | exact Or.inr rfl) (qe_callB (c_max rfl) rfl b.f_max bt_max (qa_cons (qe_set (qf_lc rfl nd (qi_seq (qe_ix (qv 1) qe_int)) (own := [("_law_mark", 13), ("_law_weight", 14)]) (blkOk_by (by kernel_rfl)) (by decide) (fun _ _ _ _ _ => (qg_tup rfl (qgs_cons (qg_name nd rfl (by first | exact Or.inl rfl | exact Or.inr rfl)) (qgs_cons (qg_name nd rfl (by first | exact Or.inl rfl | exact Or.inr rfl)) qgs_nil)))) (fun _ _ _ _ _ => qts_nil) (fun _ _ _ _ _ => (qe_callB c_abs rfl b.f_abs bt_abs (qa_cons (qv 13) qa_nil))))) qa_nil)))
    (qss_cons (qs_set (i := 7) nd rfl (by first | exact Or.inl rfl | exact Or.inr rfl) (qe_bin o_add qe_int (qe_callG ((g_next _ _ _).at hr (by decide)) rfl (qa_cons (qv 0) (qa_cons (qe_callB (c_max2 rfl) rfl b.f_max bt_max (qa_cons qe_int (qa_cons (qe_bin o_fdiv (qe_bin o_pow qe_int qe_int) (qe_callB (c_max2 rfl) rfl b.f_max bt_max (qa_cons qe_int (qa_cons (qv 6) qa_nil)))) qa_nil))) qa_nil)))))
    (qss_cons (qs_set (i := 8) nd rfl (by first | exact Or.inl rfl | exact Or.inr rfl) (qe_callG ((g_next _ _ _).at hr (by decide)) rfl (qa_cons (qv 0) (qa_cons (qe_bin o_add (qe_bin o_sub (qe_bin o_pow qe_int qe_int) (qv 6)) qe_int) qa_nil))))
    (qss_cons (qs_set (i := 9) nd rfl (by first | exact Or.inl rfl | exact Or.inr rfl) (qe_bin o_add qe_int (qe_callG ((g_next _ _ _).at hr (by decide)) rfl (qa_cons (qv 0) (qa_cons (qe_bin o_fdiv (qe_bin o_pow qe_int qe_int) (qe_callB (c_max rfl) rfl b.f_max bt_max (qa_cons (qe_set (qf_lc rfl nd (qi_seq (qe_ix (qv 1) qe_int)) (own := [("_law_mark", 13), ("_law_weight", 14)]) (blkOk_by (by kernel_rfl)) (by decide) (fun _ _ _ _ _ => (qg_tup rfl (qgs_cons (qg_name nd rfl (by first | exact Or.inl rfl | exact Or.inr rfl)) (qgs_cons (qg_name nd rfl (by first | exact Or.inl rfl | exact Or.inr rfl)) qgs_nil)))) (fun _ _ _ _ _ => qts_nil) (fun _ _ _ _ _ => (qv 14)))) qa_nil))) qa_nil)))))
    (qss_cons (qs_set (i := 10) nd rfl (by first | exact Or.inl rfl | exact Or.inr rfl) (qe_call (g_mark_to_reach_5768.at hr (by decide)) rfl (qa_cons (qe_call (g_shift_panel_6bc9.at hr (by decide)) rfl (qa_cons (qv 1) (qa_cons (qv 8) qa_nil))) (qa_cons (qv 2) (qa_cons (qv 3) (qa_cons (qe_call (g_plus_f97f.at hr (by decide)) rfl (qa_cons (qv 4) (qa_cons (qe_tup (qa_cons (qv 8) (qa_cons qe_int qa_nil))) qa_nil))) qa_nil))))))
    (qss_cons (qs_set (i := 11) nd rfl (by first | exact Or.inl rfl | exact Or.inr rfl) (qe_call (g_scale_panel_75d1.at hr (by decide)) rfl (qa_cons (qv 1) (qa_cons (qv 7) qa_nil))))
    (qss_cons (qs_set (i := 12) nd rfl (by first | exact Or.inl rfl | exact Or.inr rfl) (qe_call (g_mark_to_reach_5768.at hr (by decide)) rfl (qa_cons (qv 11) (qa_cons (qv 2) (qa_cons (qv 3) (qa_cons (qe_call (g_lowest_ba06.at hr (by decide)) rfl (qa_cons (qe_bin o_mul (qe_ix (qv 4) qe_int) (qv 7)) (qa_cons (qe_ix (qv 4) qe_int) qa_nil))) qa_nil))))))
    (qss_cons (qs_if (qt_not (qt_val (qe_call (g_equal_17a7.at hr (by decide)) rfl (qa_cons (qe_tup (qa_cons (qv 10) (qa_cons (qv 12) qa_nil))) (qa_cons (qe_tup (qa_cons (qe_call (g_led_6b2d.at hr (by decide)) rfl (qa_cons (qv 5) (qa_cons qe_int (qa_cons (qv 8) qa_nil)))) (qa_cons (qe_call (g_led_6b2d.at hr (by decide)) rfl (qa_cons (qv 5) (qa_cons (qv 7) (qa_cons qe_int qa_nil)))) qa_nil))) qa_nil))))) (qss_one (qs_ret qe_bl)) qss_nil)
    (qss_cons (qs_if (qt_not (qt_val (qe_call (g_equal_17a7.at hr (by decide)) rfl (qa_cons (qe_call (g_mark_to_reach_5768.at hr (by decide)) rfl (qa_cons (qe_call (g_weigh_panel_1cdd.at hr (by decide)) rfl (qa_cons (qv 1) (qa_cons (qv 9) qa_nil))) (qa_cons (qv 2) (qa_cons (qv 3) (qa_cons (qv 4) qa_nil))))) (qa_cons (qv 5) qa_nil))))) (qss_one (qs_ret qe_bl)) qss_nil)
    (qss_one (qs_ret (qe_call (g_beside_right_2df3.at hr (by decide)) rfl (qa_cons (qv 1) (qa_cons (qv 2) (qa_cons (qv 3) (qa_cons (qv 4) (qa_cons (qv 5) qa_nil)))))))))))))))))), p_changed_right_f9b2 r⟩ (fun _ _ _ h => h)
theorem sc_ordered_624c : FnScope ["_law_one_here", "_law_other", "_law_places"] ["_law_one_here", "_law_other"] (defScope st_ordered_624c) := ⟨rfl, rfl, rfl, by decide +kernel, rfl, by decide +kernel, by decide +kernel⟩
theorem ok_ordered_624c {f fd} (b : Bi K mg) (g_less_7322 : Glo P w K mg base "_law_less" 2 (spP K (sp_less_7322)) 1) (F : Fn K "_law_ordered" "_law_ordered" st_ordered_624c f fd) : FnOk P w K mg base CX0 2 f fd ["_law_one_here", "_law_other"] (spP K sp_ordered_624c) :=
  okP F sc_ordered_624c len_ordered_624c ⟨t_ordered_624c, fun cdv A outer s H E hr => by
    have nd := sc_ordered_624c.nd
    exact (qss_cons (qs_setDic (i := 2) nd rfl (by first | exact Or.inl rfl | exact Or.inr rfl) (qd_three qe_str qe_int qe_str qe_int qe_str qe_int))
    (qss_cons (qs_if (qt_cmp (o_ne hr) (qe_dicIx hr (pv 2) (qe_ix (qv 0) qe_int)) (qe_dicIx hr (pv 2) (qe_ix (qv 1) qe_int)) (nomark _)) (qss_one (qs_ret (qe_cmp o_lt (qe_dicIx hr (pv 2) (qe_ix (qv 0) qe_int)) (qe_dicIx hr (pv 2) (qe_ix (qv 1) qe_int)) (nomark _)))) qss_nil)
    (qss_one (qs_ret (qe_or (qe_cmp (o_ne hr) (qe_ix (qv 0) qe_int) qe_str (nomark _)) (qe_one (qe_not (qe_call (g_less_7322.at hr (by decide)) rfl (qa_cons (qe_ix (qv 1) qe_int) (qa_cons (qe_ix (qv 0) qe_int) qa_nil)))))))))), p_ordered_624c⟩
theorem sc_present_right_0525 : FnScope ["_law_panel_here", "_law_item", "_law_watched", "_law_mark", "_law_rating", "_law_more"] ["_law_panel_here", "_law_item", "_law_watched"] (defScope st_present_right_0525) := ⟨rfl, rfl, rfl, by decide +kernel, rfl, by decide +kernel, by decide +kernel⟩
theorem ok_present_right_0525 {f fd} (b : Bi K mg) (g_mark_to_reach_5768 : Glo P w K mg base "mark_to_reach" 4 (spP K (sp_mark_to_reach_5768)) 7) (g_ordered_624c : Glo P w K mg base "_law_ordered" 2 (spP K (sp_ordered_624c)) 2) (g_plus_f97f : Glo P w K mg base "_law_plus" 2 (spP K (sp_plus_f97f)) 2) (g_best_rating_b8e6 : Glo P w K mg base "best_rating" 1 (spP K (sp_best_rating_b8e6)) 6) (g_less_7322 : Glo P w K mg base "_law_less" 2 (spP K (sp_less_7322)) 1) (F : Fn K "_law_present_right" "_law_present_right" st_present_right_0525 f fd) : FnOk P w K mg base CX0 8 f fd ["_law_panel_here", "_law_item", "_law_watched"] (spP K sp_present_right_0525) :=
  okP F sc_present_right_0525 len_present_right_0525 ⟨t_present_right_0525, fun cdv A outer s H E hr => by
    have nd := sc_present_right_0525.nd
    exact (qss_cons (qs_par rfl nd rfl rfl (by decide) rfl rfl (qa_cons (qe_tup (qa_cons (qe_ix (qe_ix (qe_ix (qv 0) qe_int) (qv 1)) qe_int) (qa_cons qe_int qa_nil))) (qa_cons (qe_ix (qe_call (g_best_rating_b8e6.at hr (by decide)) rfl (qa_cons (qv 0) qa_nil)) (qv 2)) qa_nil)) rfl)
    (qss_cons (qs_if (qt_not (qt_val (qe_call (g_ordered_624c.at hr (by decide)) rfl (qa_cons (qe_call (g_mark_to_reach_5768.at hr (by decide)) rfl (qa_cons (qv 0) (qa_cons (qv 1) (qa_cons (qv 2) (qa_cons (qv 4) qa_nil))))) (qa_cons (qe_tup (qa_cons qe_str (qa_cons (qv 3) qa_nil))) qa_nil))))) (qss_one (qs_ret qe_bl)) qss_nil)
    (qss_cons (qs_set (i := 5) nd rfl (by first | exact Or.inl rfl | exact Or.inr rfl) (qe_call (g_mark_to_reach_5768.at hr (by decide)) rfl (qa_cons (qv 0) (qa_cons (qv 1) (qa_cons (qv 2) (qa_cons (qe_call (g_plus_f97f.at hr (by decide)) rfl (qa_cons (qv 4) (qa_cons (qe_tup (qa_cons qe_int (qa_cons (qe_bin o_pow qe_int qe_int) qa_nil))) qa_nil))) qa_nil))))))
    (qss_one (qs_ret (qe_or (qe_cmp (o_eq hr) (qe_ix (qv 5) qe_int) qe_str (nomark _)) (qe_one (qe_and (qe_cmp (o_eq hr) (qe_ix (qv 5) qe_int) qe_str (nomark _)) (qe_one (qe_call (g_less_7322.at hr (by decide)) rfl (qa_cons (qv 3) (qa_cons (qe_ix (qv 5) qe_int) qa_nil)))))))))))), p_present_right_0525⟩
theorem sc_one_be76 : FnScope ["_law_drawn", "_law_items_here"] ["_law_drawn", "_law_items_here"] (defScope st_one_be76) := ⟨rfl, rfl, rfl, by decide +kernel, rfl, by decide +kernel, by decide +kernel⟩
theorem ok_one_be76 {f fd} {r c q : Addr} (b : Bi K mg) (g_next : ∀ r c q, Glo P w K mg base "_law_next" 2 (spG (gr K r c q) (nextS r)) 1) (F : Fn K "_law_one" "_law_one" st_one_be76 f fd) : FnOk P w K mg base CX0 2 f fd ["_law_drawn", "_law_items_here"] (spG (gr K r c q) (sp_one_be76 r)) :=
  okG (P := P) (w := w) (mg := mg) (base := base) (G := gr K r c q) (k := 1) rfl F sc_one_be76 (len_one_be76 r) ⟨t_one_be76 r, fun cdv A outer s H E hr => by
    have nd := sc_one_be76.nd
    exact (qss_one (qs_ret (qe_ix (qv 1) (qe_callG ((g_next _ _ _).at hr (by decide)) rfl (qa_cons (qv 0) (qa_cons (qe_callB c_len rfl b.f_len bt_len (qa_cons (qv 1) qa_nil)) qa_nil)))))), p_one_be76 r⟩ (fun _ _ _ h => h)
theorem sc_law_0125 : FnScope ["_law_script", "_law_drawn", "_law_turn", "_law_panel_here", "_law_item", "_law_watched", "_law_some", "_law_value", "_law_one_here", "_law_other", "_law_goal"] ["_law_script"] (defScope st_law_0125) := ⟨rfl, rfl, rfl, by decide +kernel, rfl, by decide +kernel, by decide +kernel⟩
theorem ok_law_0125 {f fd} (b : Bi K mg) (g_draws : Glo P w K mg base "_law_draws" 1 (spDraws K) 1) (g_panel_3836 : ∀ r c q, Glo P w K mg base "_law_panel" 2 (spG (gr K r c q) (sp_panel_3836 r)) 4) (g_lowest_ba06 : Glo P w K mg base "_law_lowest" 2 (spP K (sp_lowest_ba06)) 1) (g_less_7322 : Glo P w K mg base "_law_less" 2 (spP K (sp_less_7322)) 1) (g_next : ∀ r c q, Glo P w K mg base "_law_next" 2 (spG (gr K r c q) (nextS r)) 1) (g_fraction_6a64 : ∀ r c q, Glo P w K mg base "_law_fraction" 1 (spG (gr K r c q) (sp_fraction_6a64 r)) 2) (g_mark_to_reach_5768 : Glo P w K mg base "mark_to_reach" 4 (spP K (sp_mark_to_reach_5768)) 7) (g_changed_right_f9b2 : ∀ r c q, Glo P w K mg base "_law_changed_right" 5 (spG (gr K r c q) (sp_changed_right_f9b2 r)) 27) (g_ordered_624c : Glo P w K mg base "_law_ordered" 2 (spP K (sp_ordered_624c)) 2) (g_present_right_0525 : Glo P w K mg base "_law_present_right" 3 (spP K (sp_present_right_0525)) 8) (g_one_be76 : ∀ r c q, Glo P w K mg base "_law_one" 2 (spG (gr K r c q) (sp_one_be76 r)) 2) (F : Fn K "law" "law" st_law_0125 f fd) : FnOk P w K mg base CX0 28 f fd ["_law_script"] (spLaw K) :=
  ok_law F sc_law_0125 (i := 1) (by decide) (by rfl) ⟨t_law_0125, fun cdv A outer s H E hr => by
    have nd := sc_law_0125.nd
    exact ⟨ps_set nd rfl (by first | exact Or.inl rfl | exact Or.inr rfl) (pe_callD (g_draws.at hr (by decide)) rfl (pa_cons (pv 0) pa_nil)), fun r c q => (qss_cons (qs_for PassesOwn.never rfl (qi_range1 rfl b.f_range (qa_cons qe_int qa_nil)) (qg_name nd rfl (by first | exact Or.inl rfl | exact Or.inr rfl)) (qss_cons (qs_set (i := 3) nd rfl (by first | exact Or.inl rfl | exact Or.inr rfl) (qe_callG ((g_panel_3836 _ _ _).at hr (by decide)) rfl (qa_cons (qv 1) (qa_cons qe_int qa_nil))))
    (qss_cons (qs_setT (qe_tup (qa_cons (qe_callG ((g_next _ _ _).at hr (by decide)) rfl (qa_cons (qv 1) (qa_cons (qe_callB c_len rfl b.f_len bt_len (qa_cons (qe_ix (qv 3) qe_int) qa_nil)) qa_nil))) (qa_cons (qe_callG ((g_next _ _ _).at hr (by decide)) rfl (qa_cons (qv 1) (qa_cons (qe_callB c_len rfl b.f_len bt_len (qa_cons (qe_ix (qv 3) qe_int) qa_nil)) qa_nil))) qa_nil))) (qg_tup rfl (qgs_cons (qg_name nd rfl (by first | exact Or.inl rfl | exact Or.inr rfl)) (qgs_cons (qg_name nd rfl (by first | exact Or.inl rfl | exact Or.inr rfl)) qgs_nil))))
    (qss_cons (qs_set (i := 6) nd rfl (by first | exact Or.inl rfl | exact Or.inr rfl) (qe_set (qf_lst (qa_cons (qe_tup (qa_cons (qe_ix (qe_callG ((g_one_be76 _ _ _).at hr (by decide)) rfl (qa_cons (qv 1) (qa_cons (qe_ix (qv 3) qe_int) qa_nil))) qe_int) (qa_cons (qe_bin o_add qe_int (qe_callG ((g_next _ _ _).at hr (by decide)) rfl (qa_cons (qv 1) (qa_cons qe_int qa_nil)))) qa_nil))) (qa_cons (qe_callG ((g_fraction_6a64 _ _ _).at hr (by decide)) rfl (qa_cons (qv 1) qa_nil)) qa_nil)))))
    (qss_cons (qs_set (i := 7) nd rfl (by first | exact Or.inl rfl | exact Or.inr rfl) (qe_call (g_lowest_ba06.at hr (by decide)) rfl (qa_cons (qe_ix (qe_ix (qv 6) qe_int) qe_int) (qa_cons (qe_ix (qe_ix (qv 6) qe_int) qe_int) qa_nil))))
    (qss_cons (qs_setT (qe_set (qf_lc rfl nd (qi_seq (qe_tup (qa_cons (qv 7) (qa_cons (qe_ix (qv 6) qe_int) qa_nil)))) (own := [("_law_goal", 10)]) (blkOk_by (by kernel_rfl)) (by decide) (fun _ _ _ _ _ => (qg_name nd rfl (by first | exact Or.inl rfl | exact Or.inr rfl))) (fun _ _ _ _ _ => qts_nil) (fun _ _ _ _ _ => (qe_call (g_mark_to_reach_5768.at hr (by decide)) rfl (qa_cons (qv 3) (qa_cons (qv 4) (qa_cons (qv 5) (qa_cons (qv 10) qa_nil)))))))) (qg_tup rfl (qgs_cons (qg_name nd rfl (by first | exact Or.inl rfl | exact Or.inr rfl)) (qgs_cons (qg_name nd rfl (by first | exact Or.inl rfl | exact Or.inr rfl)) qgs_nil))))
    (qss_cons (qs_if (qt_val (qe_call (g_less_7322.at hr (by decide)) rfl (qa_cons (qe_ix (qv 6) qe_int) (qa_cons (qv 7) qa_nil)))) (qss_one (qs_par rfl nd rfl rfl (by decide) rfl rfl (qa_cons (qv 9) (qa_cons (qv 8) qa_nil)) rfl)) qss_nil)
    (qss_cons (qs_if (PW.pt (qw_or (qt_not (qt_val (qe_call (g_ordered_624c.at hr (by decide)) rfl (qa_cons (qv 8) (qa_cons (qv 9) qa_nil))))) (qw_and1 (qt_not (qt_val (qe_call (g_present_right_0525.at hr (by decide)) rfl (qa_cons (qv 3) (qa_cons (qv 4) (qa_cons (qv 5) qa_nil))))))))) (qss_one (qs_ret qe_bl)) qss_nil)
    (qss_one (qs_if (qt_not (qt_val (qe_callG ((g_changed_right_f9b2 _ _ _).at hr (by decide)) rfl (qa_cons (qv 1) (qa_cons (qv 3) (qa_cons (qv 4) (qa_cons (qv 5) (qa_cons (qv 7) qa_nil)))))))) (qss_one (qs_ret qe_bl)) qss_nil))))))))))
    (qss_one (qs_ret qe_bl)))⟩, p_law_0125⟩
end
theorem ob_eq (s : PySem.W.SharedT) : ob s = hk.obs s.abs := obsBG_eq (HandSHeadRun.getT_eq s)
theorem facts {P : Program} {w : World} {K : PySem.W.Frag} {h : Heap} {mg : Str → Option Value} {f : Addr} (X : K.In h) (G : h.Ns mainGlobals mg) (hfa : mg ("law" : Str) = some (.ref f)) (c0 : SaysB fal fnl exl K) :
    ∃ fd : FuncData, (∀ (s : Shared) (v : Value), BindsTo s fd ⟨[v], []⟩ [("_law_script", v)]) ∧ ∀ base : Heap, K.In base → base.Ns mainGlobals mg → FnOk P w K mg base CX0 28 f fd ["_law_script"] (spLaw K) := by
  have c := c0.d
  have b : Bi K mg := ⟨He.free_ok X G (c.fact 41 (f := .free "abs") rfl), He.free_ok X G (c.fact 42 (f := .free "all") rfl), He.free_ok X G (c.fact 43 (f := .free "bool") rfl), He.free_ok X G (c.fact 44 (f := .free "int") rfl), He.free_ok X G (c.fact 45 (f := .free "isinstance") rfl), He.free_ok X G (c.fact 46 (f := .free "len") rfl), He.free_ok X G (c.fact 47 (f := .free "list") rfl), He.free_ok X G (c.fact 48 (f := .free "max") rfl), He.free_ok X G (c.fact 49 (f := .free "min") rfl), He.free_ok X G (c.fact 50 (f := .free "range") rfl), He.free_ok X G (c.fact 51 (f := .free "sorted") rfl), He.free_ok X G (c.fact 52 (f := .free "str") rfl), He.free_ok X G (c.fact 53 (f := .free "sum") rfl), He.free_ok X G (c.fact 54 (f := .free "tuple") rfl), He.free_ok X G (c.fact 55 (f := .free "zip") rfl), gl_int X G (c.fact 56 (f := .int "ITEMS" 8) rfl), gl_int X G (c.fact 57 (f := .int "MARK" 1000000000) rfl), gl_int X G (c.fact 58 (f := .int "RULES" 16) rfl), gl_int X G (c.fact 59 (f := .int "WEIGHT" 1000000) rfl)⟩
  obtain ⟨fd_draws, F_draws⟩ := c.def_ 0 (d := d_draws) rfl
  have m_draws := He.glo_ok X G (c.fact 0 (f := .glo "_law_draws") rfl)
  obtain ⟨fd_next, F_next⟩ := c.def_ 1 (d := d_next) rfl
  have m_next := He.glo_ok X G (c.fact 1 (f := .glo "_law_next") rfl)
  obtain ⟨fd_size_3de8, F_size_3de8⟩ := c.def_ 2 (d := d_size_3de8) rfl
  have m_size_3de8 := He.glo_ok X G (c.fact 2 (f := .glo "_law_size") rfl)
  obtain ⟨fd_items_cafd, F_items_cafd⟩ := c.def_ 3 (d := d_items_cafd) rfl
  have m_items_cafd := He.glo_ok X G (c.fact 3 (f := .glo "_law_items") rfl)
  obtain ⟨fd_rules_ccf3, F_rules_ccf3⟩ := c.def_ 4 (d := d_rules_ccf3) rfl
  have m_rules_ccf3 := He.glo_ok X G (c.fact 4 (f := .glo "_law_rules") rfl)
  obtain ⟨fd_panel_3836, F_panel_3836⟩ := c.def_ 5 (d := d_panel_3836) rfl
  have m_panel_3836 := He.glo_ok X G (c.fact 5 (f := .glo "_law_panel") rfl)
  obtain ⟨fd_lowest_ba06, F_lowest_ba06⟩ := c.def_ 6 (d := d_lowest_ba06) rfl
  have m_lowest_ba06 := He.glo_ok X G (c.fact 6 (f := .glo "_law_lowest") rfl)
  obtain ⟨fd_less_7322, F_less_7322⟩ := c.def_ 7 (d := d_less_7322) rfl
  have m_less_7322 := He.glo_ok X G (c.fact 7 (f := .glo "_law_less") rfl)
  obtain ⟨fd_fraction_6a64, F_fraction_6a64⟩ := c.def_ 8 (d := d_fraction_6a64) rfl
  have m_fraction_6a64 := He.glo_ok X G (c.fact 8 (f := .glo "_law_fraction") rfl)
  obtain ⟨fd_all_groups_7d0b, F_all_groups_7d0b⟩ := c.def_ 9 (d := d_all_groups_7d0b) rfl
  have m_all_groups_7d0b := He.glo_ok X G (c.fact 9 (f := .glo "all_groups") rfl)
  obtain ⟨fd_is_integer_8a5f, F_is_integer_8a5f⟩ := c.def_ 10 (d := d_is_integer_8a5f) rfl
  have m_is_integer_8a5f := He.glo_ok X G (c.fact 10 (f := .glo "is_integer") rfl)
  obtain ⟨fd_is_within_3133, F_is_within_3133⟩ := c.def_ 11 (d := d_is_within_3133) rfl
  have m_is_within_3133 := He.glo_ok X G (c.fact 11 (f := .glo "is_within") rfl)
  obtain ⟨fd_is_group_a50b, F_is_group_a50b⟩ := c.def_ 12 (d := d_is_group_a50b) rfl
  have m_is_group_a50b := He.glo_ok X G (c.fact 12 (f := .glo "is_group") rfl)
  obtain ⟨fd_is_upward_11cd, F_is_upward_11cd⟩ := c.def_ 13 (d := d_is_upward_11cd) rfl
  have m_is_upward_11cd := He.glo_ok X G (c.fact 13 (f := .glo "is_upward") rfl)
  obtain ⟨fd_upward_sets_3622, F_upward_sets_3622⟩ := c.def_ 14 (d := d_upward_sets_3622) rfl
  have m_upward_sets_3622 := He.glo_ok X G (c.fact 14 (f := .glo "upward_sets") rfl)
  obtain ⟨fd_rest_surplus_6c50, F_rest_surplus_6c50⟩ := c.def_ 15 (d := d_rest_surplus_6c50) rfl
  have m_rest_surplus_6c50 := He.glo_ok X G (c.fact 15 (f := .glo "rest_surplus") rfl)
  obtain ⟨fd_greatest_surpluses_d8a4, F_greatest_surpluses_d8a4⟩ := c.def_ 16 (d := d_greatest_surpluses_d8a4) rfl
  have m_greatest_surpluses_d8a4 := He.glo_ok X G (c.fact 16 (f := .glo "greatest_surpluses") rfl)
  obtain ⟨fd_common_divisor_2932, F_common_divisor_2932⟩ := c.def_ 17 (d := d_common_divisor_2932) rfl
  have m_common_divisor_2932 := He.glo_ok X G (c.fact 17 (f := .glo "common_divisor") rfl)
  obtain ⟨fd_make_fraction_15f7, F_make_fraction_15f7⟩ := c.def_ 18 (d := d_make_fraction_15f7) rfl
  have m_make_fraction_15f7 := He.glo_ok X G (c.fact 18 (f := .glo "make_fraction") rfl)
  obtain ⟨fd_add_fractions_88bc, F_add_fractions_88bc⟩ := c.def_ 19 (d := d_add_fractions_88bc) rfl
  have m_add_fractions_88bc := He.glo_ok X G (c.fact 19 (f := .glo "add_fractions") rfl)
  obtain ⟨fd_mark_to_reach_5768, F_mark_to_reach_5768⟩ := c.def_ 20 (d := d_mark_to_reach_5768) rfl
  have m_mark_to_reach_5768 := He.glo_ok X G (c.fact 20 (f := .glo "mark_to_reach") rfl)
  obtain ⟨fd_is_mark_f168, F_is_mark_f168⟩ := c.def_ 21 (d := d_is_mark_f168) rfl
  have m_is_mark_f168 := He.glo_ok X G (c.fact 21 (f := .glo "is_mark") rfl)
  obtain ⟨fd_is_weight_6941, F_is_weight_6941⟩ := c.def_ 22 (d := d_is_weight_6941) rfl
  have m_is_weight_6941 := He.glo_ok X G (c.fact 22 (f := .glo "is_weight") rfl)
  obtain ⟨fd_checked_7d9f, F_checked_7d9f⟩ := c.def_ 23 (d := d_checked_7d9f) rfl
  have m_checked_7d9f := He.glo_ok X G (c.fact 23 (f := .glo "checked") rfl)
  obtain ⟨fd_scale_panel_75d1, F_scale_panel_75d1⟩ := c.def_ 24 (d := d_scale_panel_75d1) rfl
  have m_scale_panel_75d1 := He.glo_ok X G (c.fact 24 (f := .glo "scale_panel") rfl)
  obtain ⟨fd_combine_panels_586d, F_combine_panels_586d⟩ := c.def_ 25 (d := d_combine_panels_586d) rfl
  have m_combine_panels_586d := He.glo_ok X G (c.fact 25 (f := .glo "combine_panels") rfl)
  obtain ⟨fd_equal_17a7, F_equal_17a7⟩ := c.def_ 26 (d := d_equal_17a7) rfl
  have m_equal_17a7 := He.glo_ok X G (c.fact 26 (f := .glo "_law_equal") rfl)
  obtain ⟨fd_sums_of_9763, F_sums_of_9763⟩ := c.def_ 27 (d := d_sums_of_9763) rfl
  have m_sums_of_9763 := He.glo_ok X G (c.fact 27 (f := .glo "sums_of") rfl)
  obtain ⟨fd_upper_part_65f2, F_upper_part_65f2⟩ := c.def_ 28 (d := d_upper_part_65f2) rfl
  have m_upper_part_65f2 := He.glo_ok X G (c.fact 28 (f := .glo "upper_part") rfl)
  obtain ⟨fd_average_of_ee61, F_average_of_ee61⟩ := c.def_ 29 (d := d_average_of_ee61) rfl
  have m_average_of_ee61 := He.glo_ok X G (c.fact 29 (f := .glo "average_of") rfl)
  obtain ⟨fd_best_rating_b8e6, F_best_rating_b8e6⟩ := c.def_ 30 (d := d_best_rating_b8e6) rfl
  have m_best_rating_b8e6 := He.glo_ok X G (c.fact 30 (f := .glo "best_rating") rfl)
  obtain ⟨fd_beside_right_2df3, F_beside_right_2df3⟩ := c.def_ 31 (d := d_beside_right_2df3) rfl
  have m_beside_right_2df3 := He.glo_ok X G (c.fact 31 (f := .glo "_law_beside_right") rfl)
  obtain ⟨fd_shift_panel_6bc9, F_shift_panel_6bc9⟩ := c.def_ 32 (d := d_shift_panel_6bc9) rfl
  have m_shift_panel_6bc9 := He.glo_ok X G (c.fact 32 (f := .glo "shift_panel") rfl)
  obtain ⟨fd_plus_f97f, F_plus_f97f⟩ := c.def_ 33 (d := d_plus_f97f) rfl
  have m_plus_f97f := He.glo_ok X G (c.fact 33 (f := .glo "_law_plus") rfl)
  obtain ⟨fd_led_6b2d, F_led_6b2d⟩ := c.def_ 34 (d := d_led_6b2d) rfl
  have m_led_6b2d := He.glo_ok X G (c.fact 34 (f := .glo "_law_led") rfl)
  obtain ⟨fd_weigh_panel_1cdd, F_weigh_panel_1cdd⟩ := c.def_ 35 (d := d_weigh_panel_1cdd) rfl
  have m_weigh_panel_1cdd := He.glo_ok X G (c.fact 35 (f := .glo "weigh_panel") rfl)
  obtain ⟨fd_changed_right_f9b2, F_changed_right_f9b2⟩ := c.def_ 36 (d := d_changed_right_f9b2) rfl
  have m_changed_right_f9b2 := He.glo_ok X G (c.fact 36 (f := .glo "_law_changed_right") rfl)
  obtain ⟨fd_ordered_624c, F_ordered_624c⟩ := c.def_ 37 (d := d_ordered_624c) rfl
  have m_ordered_624c := He.glo_ok X G (c.fact 37 (f := .glo "_law_ordered") rfl)
  obtain ⟨fd_present_right_0525, F_present_right_0525⟩ := c.def_ 38 (d := d_present_right_0525) rfl
  have m_present_right_0525 := He.glo_ok X G (c.fact 38 (f := .glo "_law_present_right") rfl)
  obtain ⟨fd_one_be76, F_one_be76⟩ := c.def_ 39 (d := d_one_be76) rfl
  have m_one_be76 := He.glo_ok X G (c.fact 39 (f := .glo "_law_one") rfl)
  obtain ⟨fd_law_0125, F_law_0125⟩ := c.def_ 40 (d := d_law_0125) rfl
  have e := hfa.symm.trans (He.glo_ok X G (c.fact 40 (f := .glo "law") rfl))
  cases e
  have bl := FunD.bindsA (ps := ["_law_script"]) F_law_0125 fun _ _ _ _ _ _ us hl => match us, hl with | [_], _ => rfl
  refine ⟨fd_law_0125, fun s v => bl s [v] rfl, fun base _ _ => ?_⟩
  have g_draws : Glo P w K mg base "_law_draws" 1 (spDraws K) 1 := ⟨_, fd_draws, ["_law_script"], ok_draws0 b  F_draws, m_draws, FunD.kp F_draws, FunD.bindsN F_draws fun _ _ _ _ _ _ us hl => match us, hl with | [_], _ => rfl, rfl⟩
  have g_next : ∀ r c q, Glo P w K mg base "_law_next" 2 (spG (gr K r c q) (nextS r)) 1 := fun r c q => ⟨_, fd_next, ["_law_drawn", "_law_many"], ok_next0 b  F_next, m_next, FunD.kp F_next, FunD.bindsN F_next fun _ _ _ _ _ _ us hl => match us, hl with | [_, _], _ => rfl, rfl⟩
  have g_size_3de8 : ∀ r c q, Glo P w K mg base "_law_size" 2 (spG (gr K r c q) (sp_size_3de8 r)) 2 := fun r c q => ⟨_, fd_size_3de8, ["_law_drawn", "_law_great"], ok_size_3de8 b g_next F_size_3de8, m_size_3de8, FunD.kp F_size_3de8, FunD.bindsN F_size_3de8 fun _ _ _ _ _ _ us hl => match us, hl with | [_, _], _ => rfl, rfl⟩
  have g_items_cafd : ∀ r c q, Glo P w K mg base "_law_items" 2 (spG (gr K r c q) (sp_items_cafd r)) 3 := fun r c q => ⟨_, fd_items_cafd, ["_law_drawn", "_law_count"], ok_items_cafd b g_next g_size_3de8 F_items_cafd, m_items_cafd, FunD.kp F_items_cafd, FunD.bindsN F_items_cafd fun _ _ _ _ _ _ us hl => match us, hl with | [_, _], _ => rfl, rfl⟩
  have g_rules_ccf3 : ∀ r c q, Glo P w K mg base "_law_rules" 2 (spG (gr K r c q) (sp_rules_ccf3 r)) 2 := fun r c q => ⟨_, fd_rules_ccf3, ["_law_drawn", "_law_count"], ok_rules_ccf3 b g_next F_rules_ccf3, m_rules_ccf3, FunD.kp F_rules_ccf3, FunD.bindsN F_rules_ccf3 fun _ _ _ _ _ _ us hl => match us, hl with | [_, _], _ => rfl, rfl⟩
  have g_panel_3836 : ∀ r c q, Glo P w K mg base "_law_panel" 2 (spG (gr K r c q) (sp_panel_3836 r)) 4 := fun r c q => ⟨_, fd_panel_3836, ["_law_drawn", "_law_most"], ok_panel_3836 b g_next g_items_cafd g_rules_ccf3 F_panel_3836, m_panel_3836, FunD.kp F_panel_3836, FunD.bindsN F_panel_3836 fun _ _ _ _ _ _ us hl => match us, hl with | [_, _], _ => rfl, rfl⟩
  have g_lowest_ba06 : Glo P w K mg base "_law_lowest" 2 (spP K (sp_lowest_ba06)) 1 := ⟨_, fd_lowest_ba06, ["_law_numerator", "_law_denominator"], ok_lowest_ba06 b  F_lowest_ba06, m_lowest_ba06, FunD.kp F_lowest_ba06, FunD.bindsN F_lowest_ba06 fun _ _ _ _ _ _ us hl => match us, hl with | [_, _], _ => rfl, rfl⟩
  have g_less_7322 : Glo P w K mg base "_law_less" 2 (spP K (sp_less_7322)) 1 := ⟨_, fd_less_7322, ["_law_one_here", "_law_other"], ok_less_7322 b  F_less_7322, m_less_7322, FunD.kp F_less_7322, FunD.bindsN F_less_7322 fun _ _ _ _ _ _ us hl => match us, hl with | [_, _], _ => rfl, rfl⟩
  have g_fraction_6a64 : ∀ r c q, Glo P w K mg base "_law_fraction" 1 (spG (gr K r c q) (sp_fraction_6a64 r)) 2 := fun r c q => ⟨_, fd_fraction_6a64, ["_law_drawn"], ok_fraction_6a64 b g_lowest_ba06 g_next F_fraction_6a64, m_fraction_6a64, FunD.kp F_fraction_6a64, FunD.bindsN F_fraction_6a64 fun _ _ _ _ _ _ us hl => match us, hl with | [_], _ => rfl, rfl⟩
  have g_all_groups_7d0b : Glo P w K mg base "all_groups" 1 (spP K (sp_all_groups_7d0b)) 1 := ⟨_, fd_all_groups_7d0b, ["items"], ok_all_groups_7d0b b  F_all_groups_7d0b, m_all_groups_7d0b, FunD.kp F_all_groups_7d0b, FunD.bindsN F_all_groups_7d0b fun _ _ _ _ _ _ us hl => match us, hl with | [_], _ => rfl, rfl⟩
  have g_is_integer_8a5f : Glo P w K mg base "is_integer" 1 (spP K (sp_is_integer_8a5f)) 1 := ⟨_, fd_is_integer_8a5f, ["value"], ok_is_integer_8a5f b  F_is_integer_8a5f, m_is_integer_8a5f, FunD.kp F_is_integer_8a5f, FunD.bindsN F_is_integer_8a5f fun _ _ _ _ _ _ us hl => match us, hl with | [_], _ => rfl, rfl⟩
  have g_is_within_3133 : Glo P w K mg base "is_within" 3 (spP K (sp_is_within_3133)) 2 := ⟨_, fd_is_within_3133, ["value", "low", "high"], ok_is_within_3133 b g_is_integer_8a5f F_is_within_3133, m_is_within_3133, FunD.kp F_is_within_3133, FunD.bindsN F_is_within_3133 fun _ _ _ _ _ _ us hl => match us, hl with | [_, _, _], _ => rfl, rfl⟩
  have g_is_group_a50b : Glo P w K mg base "is_group" 2 (spP K (sp_is_group_a50b)) 3 := ⟨_, fd_is_group_a50b, ["panel", "value"], ok_is_group_a50b b g_is_within_3133 F_is_group_a50b, m_is_group_a50b, FunD.kp F_is_group_a50b, FunD.bindsN F_is_group_a50b fun _ _ _ _ _ _ us hl => match us, hl with | [_, _], _ => rfl, rfl⟩
  have g_is_upward_11cd : Glo P w K mg base "is_upward" 2 (spP K (sp_is_upward_11cd)) 4 := ⟨_, fd_is_upward_11cd, ["panel", "value"], ok_is_upward_11cd b g_is_group_a50b F_is_upward_11cd, m_is_upward_11cd, FunD.kp F_is_upward_11cd, FunD.bindsN F_is_upward_11cd fun _ _ _ _ _ _ us hl => match us, hl with | [_, _], _ => rfl, rfl⟩
  have g_upward_sets_3622 : Glo P w K mg base "upward_sets" 1 (spP K (sp_upward_sets_3622)) 5 := ⟨_, fd_upward_sets_3622, ["panel"], ok_upward_sets_3622 b g_all_groups_7d0b g_is_upward_11cd F_upward_sets_3622, m_upward_sets_3622, FunD.kp F_upward_sets_3622, FunD.bindsN F_upward_sets_3622 fun _ _ _ _ _ _ us hl => match us, hl with | [_], _ => rfl, rfl⟩
  have g_rest_surplus_6c50 : Glo P w K mg base "rest_surplus" 4 (spP K (sp_rest_surplus_6c50)) 1 := ⟨_, fd_rest_surplus_6c50, ["panel", "group", "item", "value"], ok_rest_surplus_6c50 b  F_rest_surplus_6c50, m_rest_surplus_6c50, FunD.kp F_rest_surplus_6c50, FunD.bindsN F_rest_surplus_6c50 fun _ _ _ _ _ _ us hl => match us, hl with | [_, _, _, _], _ => rfl, rfl⟩
  have g_greatest_surpluses_d8a4 : Glo P w K mg base "greatest_surpluses" 4 (spG (gB K P w) (sp_greatest_surpluses_d8a4)) 6 := ⟨_, fd_greatest_surpluses_d8a4, ["panel", "item", "watched", "value"], ok_greatest_surpluses_d8a4 b g_upward_sets_3622 g_rest_surplus_6c50 F_greatest_surpluses_d8a4, m_greatest_surpluses_d8a4, FunD.kp F_greatest_surpluses_d8a4, FunD.bindsN F_greatest_surpluses_d8a4 fun _ _ _ _ _ _ us hl => match us, hl with | [_, _, _, _], _ => rfl, rfl⟩
  have g_common_divisor_2932 : Glo P w K mg base "common_divisor" 2 (spP K (sp_common_divisor_2932)) 1 := ⟨_, fd_common_divisor_2932, ["one", "other"], ok_common_divisor_2932 b  F_common_divisor_2932, m_common_divisor_2932, FunD.kp F_common_divisor_2932, FunD.bindsN F_common_divisor_2932 fun _ _ _ _ _ _ us hl => match us, hl with | [_, _], _ => rfl, rfl⟩
  have g_make_fraction_15f7 : Glo P w K mg base "make_fraction" 2 (spP K (sp_make_fraction_15f7)) 2 := ⟨_, fd_make_fraction_15f7, ["numerator", "denominator"], ok_make_fraction_15f7 b g_common_divisor_2932 F_make_fraction_15f7, m_make_fraction_15f7, FunD.kp F_make_fraction_15f7, FunD.bindsN F_make_fraction_15f7 fun _ _ _ _ _ _ us hl => match us, hl with | [_, _], _ => rfl, rfl⟩
  have g_add_fractions_88bc : Glo P w K mg base "add_fractions" 2 (spP K (sp_add_fractions_88bc)) 3 := ⟨_, fd_add_fractions_88bc, ["one", "other"], ok_add_fractions_88bc b g_make_fraction_15f7 F_add_fractions_88bc, m_add_fractions_88bc, FunD.kp F_add_fractions_88bc, FunD.bindsN F_add_fractions_88bc fun _ _ _ _ _ _ us hl => match us, hl with | [_, _], _ => rfl, rfl⟩
  have g_mark_to_reach_5768 : Glo P w K mg base "mark_to_reach" 4 (spP K (sp_mark_to_reach_5768)) 7 := ⟨_, fd_mark_to_reach_5768, ["panel", "item", "watched", "value"], ok_mark_to_reach_5768 b g_greatest_surpluses_d8a4 g_add_fractions_88bc g_make_fraction_15f7 F_mark_to_reach_5768, m_mark_to_reach_5768, FunD.kp F_mark_to_reach_5768, FunD.bindsN F_mark_to_reach_5768 fun _ _ _ _ _ _ us hl => match us, hl with | [_, _, _, _], _ => rfl, rfl⟩
  have g_is_mark_f168 : Glo P w K mg base "is_mark" 1 (spP K (sp_is_mark_f168)) 3 := ⟨_, fd_is_mark_f168, ["value"], ok_is_mark_f168 b g_is_within_3133 F_is_mark_f168, m_is_mark_f168, FunD.kp F_is_mark_f168, FunD.bindsN F_is_mark_f168 fun _ _ _ _ _ _ us hl => match us, hl with | [_], _ => rfl, rfl⟩
  have g_is_weight_6941 : Glo P w K mg base "is_weight" 1 (spP K (sp_is_weight_6941)) 3 := ⟨_, fd_is_weight_6941, ["value"], ok_is_weight_6941 b g_is_within_3133 F_is_weight_6941, m_is_weight_6941, FunD.kp F_is_weight_6941, FunD.bindsN F_is_weight_6941 fun _ _ _ _ _ _ us hl => match us, hl with | [_], _ => rfl, rfl⟩
  have g_checked_7d9f : Glo P w K mg base "checked" 2 (spP K (sp_checked_7d9f)) 4 := ⟨_, fd_checked_7d9f, ["items", "rules"], ok_checked_7d9f b g_is_mark_f168 g_is_weight_6941 F_checked_7d9f, m_checked_7d9f, FunD.kp F_checked_7d9f, FunD.bindsN F_checked_7d9f fun _ _ _ _ _ _ us hl => match us, hl with | [_, _], _ => rfl, rfl⟩
  have g_scale_panel_75d1 : Glo P w K mg base "scale_panel" 2 (spP K (sp_scale_panel_75d1)) 5 := ⟨_, fd_scale_panel_75d1, ["panel", "factor"], ok_scale_panel_75d1 b g_checked_7d9f F_scale_panel_75d1, m_scale_panel_75d1, FunD.kp F_scale_panel_75d1, FunD.bindsN F_scale_panel_75d1 fun _ _ _ _ _ _ us hl => match us, hl with | [_, _], _ => rfl, rfl⟩
  have g_combine_panels_586d : Glo P w K mg base "combine_panels" 2 (spP K (sp_combine_panels_586d)) 1 := ⟨_, fd_combine_panels_586d, ["one", "other"], ok_combine_panels_586d b  F_combine_panels_586d, m_combine_panels_586d, FunD.kp F_combine_panels_586d, FunD.bindsN F_combine_panels_586d fun _ _ _ _ _ _ us hl => match us, hl with | [_, _], _ => rfl, rfl⟩
  have gn_equal_17a7 : ∀ (r c q : Addr) (n : Nat), Glo P w K mg base "_law_equal" 2 (spP K (sp_equal_17a7 n)) (1 + n) := fun r c q n => by
    induction n with
    | zero => exact ⟨_, fd_equal_17a7, ["_law_one_here", "_law_other"], okP (k := 0) F_equal_17a7 sc_equal_17a7 (len_equal_17a7 0) ⟨qNever, fun _ _ _ _ _ _ _ => qss_never, fun ds R h => (z_equal_17a7 ds R h).elim⟩, m_equal_17a7, FunD.kp F_equal_17a7, FunD.bindsN F_equal_17a7 fun _ _ _ _ _ _ us hl => match us, hl with | [_, _], _ => rfl, rfl⟩
    | succ n ih => exact ⟨_, fd_equal_17a7, ["_law_one_here", "_law_other"], ok_equal_17a7 (k := 1 + n) (by omega) (len_equal_17a7 (n + 1)) (p_equal_17a7 n) ih b  F_equal_17a7, m_equal_17a7, FunD.kp F_equal_17a7, FunD.bindsN F_equal_17a7 fun _ _ _ _ _ _ us hl => match us, hl with | [_, _], _ => rfl, rfl⟩
  have g_equal_17a7 : Glo P w K mg base "_law_equal" 2 (spP K (sp_equal_17a7 24)) 25 := gn_equal_17a7 0 0 0 24
  have g_sums_of_9763 : Glo P w K mg base "sums_of" 2 (spP K (sp_sums_of_9763)) 1 := ⟨_, fd_sums_of_9763, ["panel", "group"], ok_sums_of_9763 b  F_sums_of_9763, m_sums_of_9763, FunD.kp F_sums_of_9763, FunD.bindsN F_sums_of_9763 fun _ _ _ _ _ _ us hl => match us, hl with | [_, _], _ => rfl, rfl⟩
  have g_upper_part_65f2 : Glo P w K mg base "upper_part" 3 (spP K (sp_upper_part_65f2)) 2 := ⟨_, fd_upper_part_65f2, ["panel", "closed", "part"], ok_upper_part_65f2 b g_sums_of_9763 F_upper_part_65f2, m_upper_part_65f2, FunD.kp F_upper_part_65f2, FunD.bindsN F_upper_part_65f2 fun _ _ _ _ _ _ us hl => match us, hl with | [_, _, _], _ => rfl, rfl⟩
  have g_average_of_ee61 : Glo P w K mg base "average_of" 2 (spP K (sp_average_of_ee61)) 3 := ⟨_, fd_average_of_ee61, ["panel", "group"], ok_average_of_ee61 b g_make_fraction_15f7 F_average_of_ee61, m_average_of_ee61, FunD.kp F_average_of_ee61, FunD.bindsN F_average_of_ee61 fun _ _ _ _ _ _ us hl => match us, hl with | [_, _], _ => rfl, rfl⟩
  have g_best_rating_b8e6 : Glo P w K mg base "best_rating" 1 (spP K (sp_best_rating_b8e6)) 6 := ⟨_, fd_best_rating_b8e6, ["panel"], ok_best_rating_b8e6 b g_upward_sets_3622 g_upper_part_65f2 g_average_of_ee61 F_best_rating_b8e6, m_best_rating_b8e6, FunD.kp F_best_rating_b8e6, FunD.bindsN F_best_rating_b8e6 fun _ _ _ _ _ _ us hl => match us, hl with | [_], _ => rfl, rfl⟩
  have g_beside_right_2df3 : Glo P w K mg base "_law_beside_right" 5 (spP K (sp_beside_right_2df3)) 26 := ⟨_, fd_beside_right_2df3, ["_law_panel_here", "_law_item", "_law_watched", "_law_value", "_law_found"], ok_beside_right_2df3 b g_combine_panels_586d g_equal_17a7 g_less_7322 g_mark_to_reach_5768 g_best_rating_b8e6 F_beside_right_2df3, m_beside_right_2df3, FunD.kp F_beside_right_2df3, FunD.bindsN F_beside_right_2df3 fun _ _ _ _ _ _ us hl => match us, hl with | [_, _, _, _, _], _ => rfl, rfl⟩
  have g_shift_panel_6bc9 : Glo P w K mg base "shift_panel" 2 (spP K (sp_shift_panel_6bc9)) 5 := ⟨_, fd_shift_panel_6bc9, ["panel", "amount"], ok_shift_panel_6bc9 b g_checked_7d9f F_shift_panel_6bc9, m_shift_panel_6bc9, FunD.kp F_shift_panel_6bc9, FunD.bindsN F_shift_panel_6bc9 fun _ _ _ _ _ _ us hl => match us, hl with | [_, _], _ => rfl, rfl⟩
  have g_plus_f97f : Glo P w K mg base "_law_plus" 2 (spP K (sp_plus_f97f)) 2 := ⟨_, fd_plus_f97f, ["_law_one_here", "_law_other"], ok_plus_f97f b g_lowest_ba06 F_plus_f97f, m_plus_f97f, FunD.kp F_plus_f97f, FunD.bindsN F_plus_f97f fun _ _ _ _ _ _ us hl => match us, hl with | [_, _], _ => rfl, rfl⟩
  have g_led_6b2d : Glo P w K mg base "_law_led" 3 (spP K (sp_led_6b2d)) 3 := ⟨_, fd_led_6b2d, ["_law_found", "_law_factor", "_law_amount"], ok_led_6b2d b g_plus_f97f g_lowest_ba06 F_led_6b2d, m_led_6b2d, FunD.kp F_led_6b2d, FunD.bindsN F_led_6b2d fun _ _ _ _ _ _ us hl => match us, hl with | [_, _, _], _ => rfl, rfl⟩
  have g_weigh_panel_1cdd : Glo P w K mg base "weigh_panel" 2 (spP K (sp_weigh_panel_1cdd)) 5 := ⟨_, fd_weigh_panel_1cdd, ["panel", "factor"], ok_weigh_panel_1cdd b g_checked_7d9f F_weigh_panel_1cdd, m_weigh_panel_1cdd, FunD.kp F_weigh_panel_1cdd, FunD.bindsN F_weigh_panel_1cdd fun _ _ _ _ _ _ us hl => match us, hl with | [_, _], _ => rfl, rfl⟩
  have g_changed_right_f9b2 : ∀ r c q, Glo P w K mg base "_law_changed_right" 5 (spG (gr K r c q) (sp_changed_right_f9b2 r)) 27 := fun r c q => ⟨_, fd_changed_right_f9b2, ["_law_drawn", "_law_panel_here", "_law_item", "_law_watched", "_law_value"], ok_changed_right_f9b2 b g_mark_to_reach_5768 g_next g_scale_panel_75d1 g_beside_right_2df3 g_shift_panel_6bc9 g_plus_f97f g_lowest_ba06 g_equal_17a7 g_led_6b2d g_weigh_panel_1cdd F_changed_right_f9b2, m_changed_right_f9b2, FunD.kp F_changed_right_f9b2, FunD.bindsN F_changed_right_f9b2 fun _ _ _ _ _ _ us hl => match us, hl with | [_, _, _, _, _], _ => rfl, rfl⟩
  have g_ordered_624c : Glo P w K mg base "_law_ordered" 2 (spP K (sp_ordered_624c)) 2 := ⟨_, fd_ordered_624c, ["_law_one_here", "_law_other"], ok_ordered_624c b g_less_7322 F_ordered_624c, m_ordered_624c, FunD.kp F_ordered_624c, FunD.bindsN F_ordered_624c fun _ _ _ _ _ _ us hl => match us, hl with | [_, _], _ => rfl, rfl⟩
  have g_present_right_0525 : Glo P w K mg base "_law_present_right" 3 (spP K (sp_present_right_0525)) 8 := ⟨_, fd_present_right_0525, ["_law_panel_here", "_law_item", "_law_watched"], ok_present_right_0525 b g_mark_to_reach_5768 g_ordered_624c g_plus_f97f g_best_rating_b8e6 g_less_7322 F_present_right_0525, m_present_right_0525, FunD.kp F_present_right_0525, FunD.bindsN F_present_right_0525 fun _ _ _ _ _ _ us hl => match us, hl with | [_, _, _], _ => rfl, rfl⟩
  have g_one_be76 : ∀ r c q, Glo P w K mg base "_law_one" 2 (spG (gr K r c q) (sp_one_be76 r)) 2 := fun r c q => ⟨_, fd_one_be76, ["_law_drawn", "_law_items_here"], ok_one_be76 b g_next F_one_be76, m_one_be76, FunD.kp F_one_be76, FunD.bindsN F_one_be76 fun _ _ _ _ _ _ us hl => match us, hl with | [_, _], _ => rfl, rfl⟩
  exact ok_law_0125 b g_draws g_panel_3836 g_lowest_ba06 g_less_7322 g_next g_fraction_6a64 g_mark_to_reach_5768 g_changed_right_f9b2 g_ordered_624c g_present_right_0525 g_one_be76 F_law_0125
end Pm
open PySem PySem.W PySem.Calls PyProof.Rows
theorem PySem.Challenge.cw_poolmarks_k45_whole_reach_of_changed_pan_holds : PySem.Challenge.rw_poolmarks_k45_whole_reach_of_changed_pan.Holds := by
  w_on; o_law
  refine HandSHeadRun.head_any (r := OpenLaw.row PySem.Challenge.rw_poolmarks_k45_whole_reach_of_changed_pan) (q := view (OpenLaw.row PySem.Challenge.rw_poolmarks_k45_whole_reach_of_changed_pan).prog [56]) (H := Pm.hk) (ob := Pm.ob) (M := 4000) (loose := Pm.loose) (d := HandSHeadRun.topDef (OpenLaw.row PySem.Challenge.rw_poolmarks_k45_whole_reach_of_changed_pan).prog 56) (kwd := []) Pm.ob_eq
    (by kernel_rfl) (fun s => by kernel_rfl) Pm.run (by kernel_rfl) (by kernel_rfl) (by kernel_rfl) (by rfl) (by first | assumption | decide +kernel) (by decide +kernel) ⟨rfl, rfl, rfl, rfl, rfl, by decide +kernel⟩ ?hw ?hc
  case hw => w_witness2
  case hc =>
    refine L2.walk_ofE (l := PySem.Challenge.rw_poolmarks_k45_whole_reach_of_changed_pan) (n := 63) (k := 28) (x := "_law_script") (CX := L2.CX0) rfl (by decide) (by kernel_rfl) ⟨rfl, by decide, by decide⟩ ?F (fun _ _ _ _ z => z)
    intro w mg fa h Y G hmg0
    obtain ⟨K, KX, c⟩ := Y
    have hmg : mg ("law" : PySem.Str) = some (.ref fa) := by
      have e : (HandSHeadRun.topDef (OpenLaw.row PySem.Challenge.rw_poolmarks_k45_whole_reach_of_changed_pan).prog 56).name = ("law" : PySem.Str) := by kernel_rfl
      rw [← e]
      exact hmg0
    obtain ⟨fd, hb, hF⟩ := Pm.facts (P := (PySem.Challenge.rw_poolmarks_k45_whole_reach_of_changed_pan).prog) (w := w) KX G hmg c
    exact ⟨K, fd, Pm.spLaw K, KX, hb, fun H a ns hl _ hS => ⟨a, ns, rfl, hS, hl, fun _ => rfl⟩, hF⟩

