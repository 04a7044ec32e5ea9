import PyProof.Rows.All
import HandS.ForMost
import HandS.ForExc
import HandS.IsInst
import HandS.Wide
import HandS.Flow
import HandS.Zip
import HandS.Rev
import HandS.Sort
import HandS.SortInts
import HandS.SortRule
import HandS.Defaults
import PyProof.Rows.SeqMore
import KE.GoesEnum
import HandS.RevRange
import HandS.Conv
import HandS.Ends
import HandS.HeadEnd
import HandS.Head0
import HandS.Head1
import HandS.Head2
import HandS.HeadHook1
import HandS.HeadHook2
import HandS.Style
import KE.KRevSl
import HandS.NamedTupSort
import HandS.TupSets
import HandS.SortOrd
import HandS.TupMul
import HandS.TupLe
import HandS.SetFor
import KE.KDictZip
import KE.DataMinKey
import KE.KMinBuiltin
import HandS.SortKw
import HandS.WordsExc
import HandS.TryOnly
import HandS.ExcIs
import HandS.ExcOwn
import HandS.ExcField
import KE.KExcIs
import HandS.ExcInit
import HandS.Dict
import KE.KDictCopyH
import KE.KeyNested
import Wide.All
import OpenK.AllK
import Wide.FinOn
import KE.KStateDown
import Lean
import HandS.Base
import HandS.Call
import HandS.More
import HandS.Words
import PySem.Challenge.RW_poolmarks_k57_whole_rows_and_panels
set_option Elab.async false
set_option linter.all false
set_option maxRecDepth 100000
set_option maxHeartbeats 1000000
set_option autoImplicit false
namespace Pm
open PySem PySem.Spec
open PyProof.Rows hiding St
open L2
def obsB (fa : List He.Fa) (fn : List He.DefD) (ex : PySem.W.Frag → Bool) (K : PySem.W.Frag) : He.AlD × Bool := (He.obsD fa fn K, ex K)
def valB (fn : List He.DefD) : He.AlD × Bool := (He.valD fn, true)
def SaysB (fa : List He.Fa) (fn : List He.DefD) (ex : PySem.W.Frag → Bool) (K : PySem.W.Frag) : Prop := obsB fa fn ex K = valB fn
def obsBG (n : Nat) (fa : List He.Fa) (fn : List He.DefD) (ex : PySem.W.Frag → Bool) (g : Addr → Option Obj) : He.AlD × Bool := obsB fa fn ex (He.frG g (He.asD g n))
def hookB (n : Nat) (fa : List He.Fa) (fn : List He.DefD) (ex : PySem.W.Frag → Bool) : PySem.W.Hook where
  α := He.AlD × Bool
  obs := fun s => obsBG n fa fn ex s.heap.get?
  val := fun _ => valB fn
  says := fun _ h => ∃ K : PySem.W.Frag, K.In h ∧ SaysB fa fn ex K
  of := fun _ _ e => ⟨_, He.frG_in, e⟩
  keeps := fun _ _ _ ⟨K, hK, c⟩ k => ⟨K, PySem.W.Frag.In.keeps hK k, c⟩
end Pm
set_option Elab.async false
set_option linter.all false
set_option maxRecDepth 100000
set_option maxHeartbeats 0
set_option autoImplicit false
namespace Pm
open PySem PySem.Spec
open PyProof.Rows hiding St
open L2
def top (i : Nat) : Stmt := PySem.Challenge.pw_poolmarks_k57_whole_rows_and_panels.main.body.getD i (.Pass ⟨0, 0, 0, 0⟩)
section
variable {P : Program} {w : World} {K : PySem.W.Frag} {mg : Str → Option Value} {base : Heap}
abbrev st_draws : Stmt := top 27
abbrev st_next : Stmt := top 28
abbrev st_size_3de8 : Stmt := top 32
abbrev st_items_cafd : Stmt := top 33
abbrev st_row_75d3 : Stmt := top 34
abbrev st_start_blocks_8d16 : Stmt := top 8
abbrev st_is_falling_c091 : Stmt := top 9
abbrev st_merged_e28f : Stmt := top 10
abbrev st_pool_row_f687 : Stmt := top 11
abbrev st_common_divisor_2932 : Stmt := top 5
abbrev st_make_fraction_15f7 : Stmt := top 6
abbrev st_rate_row_d172 : Stmt := top 12
abbrev st_equal_17a7 : Stmt := top 30
abbrev st_all_groups_7d0b : Stmt := top 19
abbrev st_is_integer_8a5f : Stmt := top 4
abbrev st_is_within_3133 : Stmt := top 14
abbrev st_is_group_a50b : Stmt := top 17
abbrev st_is_upward_11cd : Stmt := top 18
abbrev st_upward_sets_3622 : Stmt := top 20
abbrev st_sums_of_9763 : Stmt := top 22
abbrev st_upper_part_65f2 : Stmt := top 23
abbrev st_average_of_ee61 : Stmt := top 15
abbrev st_best_rating_b8e6 : Stmt := top 24
abbrev st_level_groups_d0a5 : Stmt := top 25
abbrev st_levels_1e0b : Stmt := top 36
abbrev st_panel_right_9357 : Stmt := top 37
abbrev st_lowest_ba06 : Stmt := top 31
abbrev st_parts_right_afa2 : Stmt := top 38
abbrev st_changes_right_e813 : Stmt := top 39
abbrev st_less_7322 : Stmt := top 35
abbrev st_law_a480 : Stmt := top 40
end
def d_draws : He.DefD := ⟨("_law_draws", none), "_law_draws", "_law_draws", defArgs st_draws, defBody st_draws, defScope st_draws, [], []⟩
def d_next : He.DefD := ⟨("_law_next", none), "_law_next", "_law_next", defArgs st_next, defBody st_next, defScope st_next, [], []⟩
def d_size_3de8 : He.DefD := ⟨("_law_size", none), "_law_size", "_law_size", defArgs st_size_3de8, defBody st_size_3de8, defScope st_size_3de8, [], []⟩
def d_items_cafd : He.DefD := ⟨("_law_items", none), "_law_items", "_law_items", defArgs st_items_cafd, defBody st_items_cafd, defScope st_items_cafd, [], []⟩
def d_row_75d3 : He.DefD := ⟨("_law_row", none), "_law_row", "_law_row", defArgs st_row_75d3, defBody st_row_75d3, defScope st_row_75d3, [], []⟩
def d_start_blocks_8d16 : He.DefD := ⟨("start_blocks", none), "start_blocks", "start_blocks", defArgs st_start_blocks_8d16, defBody st_start_blocks_8d16, defScope st_start_blocks_8d16, [], []⟩
def d_is_falling_c091 : He.DefD := ⟨("is_falling", none), "is_falling", "is_falling", defArgs st_is_falling_c091, defBody st_is_falling_c091, defScope st_is_falling_c091, [], []⟩
def d_merged_e28f : He.DefD := ⟨("merged", none), "merged", "merged", defArgs st_merged_e28f, defBody st_merged_e28f, defScope st_merged_e28f, [], []⟩
def d_pool_row_f687 : He.DefD := ⟨("pool_row", none), "pool_row", "pool_row", defArgs st_pool_row_f687, defBody st_pool_row_f687, defScope st_pool_row_f687, [], []⟩
def d_common_divisor_2932 : He.DefD := ⟨("common_divisor", none), "common_divisor", "common_divisor", defArgs st_common_divisor_2932, defBody st_common_divisor_2932, defScope st_common_divisor_2932, [], []⟩
def d_make_fraction_15f7 : He.DefD := ⟨("make_fraction", none), "make_fraction", "make_fraction", defArgs st_make_fraction_15f7, defBody st_make_fraction_15f7, defScope st_make_fraction_15f7, [], []⟩
def d_rate_row_d172 : He.DefD := ⟨("rate_row", none), "rate_row", "rate_row", defArgs st_rate_row_d172, defBody st_rate_row_d172, defScope st_rate_row_d172, [], []⟩
def d_equal_17a7 : He.DefD := ⟨("_law_equal", none), "_law_equal", "_law_equal", defArgs st_equal_17a7, defBody st_equal_17a7, defScope st_equal_17a7, [], []⟩
def d_all_groups_7d0b : He.DefD := ⟨("all_groups", none), "all_groups", "all_groups", defArgs st_all_groups_7d0b, defBody st_all_groups_7d0b, defScope st_all_groups_7d0b, [], []⟩
def d_is_integer_8a5f : He.DefD := ⟨("is_integer", none), "is_integer", "is_integer", defArgs st_is_integer_8a5f, defBody st_is_integer_8a5f, defScope st_is_integer_8a5f, [], []⟩
def d_is_within_3133 : He.DefD := ⟨("is_within", none), "is_within", "is_within", defArgs st_is_within_3133, defBody st_is_within_3133, defScope st_is_within_3133, [], []⟩
def d_is_group_a50b : He.DefD := ⟨("is_group", none), "is_group", "is_group", defArgs st_is_group_a50b, defBody st_is_group_a50b, defScope st_is_group_a50b, [], []⟩
def d_is_upward_11cd : He.DefD := ⟨("is_upward", none), "is_upward", "is_upward", defArgs st_is_upward_11cd, defBody st_is_upward_11cd, defScope st_is_upward_11cd, [], []⟩
def d_upward_sets_3622 : He.DefD := ⟨("upward_sets", none), "upward_sets", "upward_sets", defArgs st_upward_sets_3622, defBody st_upward_sets_3622, defScope st_upward_sets_3622, [], []⟩
def d_sums_of_9763 : He.DefD := ⟨("sums_of", none), "sums_of", "sums_of", defArgs st_sums_of_9763, defBody st_sums_of_9763, defScope st_sums_of_9763, [], []⟩
def d_upper_part_65f2 : He.DefD := ⟨("upper_part", none), "upper_part", "upper_part", defArgs st_upper_part_65f2, defBody st_upper_part_65f2, defScope st_upper_part_65f2, [], []⟩
def d_average_of_ee61 : He.DefD := ⟨("average_of", none), "average_of", "average_of", defArgs st_average_of_ee61, defBody st_average_of_ee61, defScope st_average_of_ee61, [], []⟩
def d_best_rating_b8e6 : He.DefD := ⟨("best_rating", none), "best_rating", "best_rating", defArgs st_best_rating_b8e6, defBody st_best_rating_b8e6, defScope st_best_rating_b8e6, [], []⟩
def d_level_groups_d0a5 : He.DefD := ⟨("level_groups", none), "level_groups", "level_groups", defArgs st_level_groups_d0a5, defBody st_level_groups_d0a5, defScope st_level_groups_d0a5, [], []⟩
def d_levels_1e0b : He.DefD := ⟨("_law_levels", none), "_law_levels", "_law_levels", defArgs st_levels_1e0b, defBody st_levels_1e0b, defScope st_levels_1e0b, [], []⟩
def d_panel_right_9357 : He.DefD := ⟨("_law_panel_right", none), "_law_panel_right", "_law_panel_right", defArgs st_panel_right_9357, defBody st_panel_right_9357, defScope st_panel_right_9357, [], []⟩
def d_lowest_ba06 : He.DefD := ⟨("_law_lowest", none), "_law_lowest", "_law_lowest", defArgs st_lowest_ba06, defBody st_lowest_ba06, defScope st_lowest_ba06, [], []⟩
def d_parts_right_afa2 : He.DefD := ⟨("_law_parts_right", none), "_law_parts_right", "_law_parts_right", defArgs st_parts_right_afa2, defBody st_parts_right_afa2, defScope st_parts_right_afa2, [], []⟩
def d_changes_right_e813 : He.DefD := ⟨("_law_changes_right", none), "_law_changes_right", "_law_changes_right", defArgs st_changes_right_e813, defBody st_changes_right_e813, defScope st_changes_right_e813, [], []⟩
def d_less_7322 : He.DefD := ⟨("_law_less", none), "_law_less", "_law_less", defArgs st_less_7322, defBody st_less_7322, defScope st_less_7322, [], []⟩
def d_law_a480 : He.DefD := ⟨("law", none), "law", "law", defArgs st_law_a480, defBody st_law_a480, defScope st_law_a480, [], []⟩
def fnl : List He.DefD := [d_draws, d_next, d_size_3de8, d_items_cafd, d_row_75d3, d_start_blocks_8d16, d_is_falling_c091, d_merged_e28f, d_pool_row_f687, d_common_divisor_2932, d_make_fraction_15f7, d_rate_row_d172, d_equal_17a7, d_all_groups_7d0b, d_is_integer_8a5f, d_is_within_3133, d_is_group_a50b, d_is_upward_11cd, d_upward_sets_3622, d_sums_of_9763, d_upper_part_65f2, d_average_of_ee61, d_best_rating_b8e6, d_level_groups_d0a5, d_levels_1e0b, d_panel_right_9357, d_lowest_ba06, d_parts_right_afa2, d_changes_right_e813, d_less_7322, d_law_a480]
def fal : List He.Fa := [.glo "_law_draws", .glo "_law_next", .glo "_law_size", .glo "_law_items", .glo "_law_row", .glo "start_blocks", .glo "is_falling", .glo "merged", .glo "pool_row", .glo "common_divisor", .glo "make_fraction", .glo "rate_row", .glo "_law_equal", .glo "all_groups", .glo "is_integer", .glo "is_within", .glo "is_group", .glo "is_upward", .glo "upward_sets", .glo "sums_of", .glo "upper_part", .glo "average_of", .glo "best_rating", .glo "level_groups", .glo "_law_levels", .glo "_law_panel_right", .glo "_law_lowest", .glo "_law_parts_right", .glo "_law_changes_right", .glo "_law_less", .glo "law", .free "abs", .free "all", .free "bool", .free "enumerate", .free "int", .free "isinstance", .free "len", .free "list", .free "min", .free "range", .free "set", .free "sorted", .free "str", .free "sum", .free "tuple", .free "zip"]
abbrev R : PySem.W.OpenRow := PySem.W.OpenLaw.row PySem.Challenge.rw_poolmarks_k57_whole_rows_and_panels
def exl (K : PySem.W.Frag) : Bool := true
abbrev hk : PySem.W.Hook := hookB 4 fal fnl exl
def ob (s : PySem.W.SharedT) : He.AlD × Bool := obsBG 4 fal fnl exl (HandSHeadRun.getT s)
def loose : List PySem.Str := (["MarksError", "ZeroDenominator", "is_integer", "common_divisor", "make_fraction", "start_blocks", "is_falling", "merged", "pool_row", "rate_row", "is_within", "average_of", "is_group", "is_upward", "all_groups", "upward_sets", "sums_of", "upper_part", "best_rating", "level_groups", "_law_draws", "_law_next", "_law_one", "_law_equal", "_law_lowest", "_law_size", "_law_items", "_law_row", "_law_less", "_law_levels"] : List PySem.Str) ++ (["_law_panel_right", "_law_parts_right", "_law_changes_right"] : List PySem.Str)
theorem run (w : World) : HandSHeadRun.RunEq R (PySem.W.view R.prog [40]) hk ob 4000 loose w := by
  intro os
  kernel_rfl
end Pm
set_option Elab.async false
set_option linter.all false
set_option maxRecDepth 100000
set_option maxHeartbeats 1000000
namespace Pm
set_option autoImplicit false
open PySem PySem.Spec
open PyProof.Rows hiding St
open L2

inductive D where
  | non | bl (b : Bool) | int (i : Int) | str (x : Str)
  | lst (xs : List D) | tup (xs : List D) | dct (ks : List Key) (xs : List D) | obj (a : Addr)

mutual
def At (K : PySem.W.Frag) (Z : Hp) : D → V → Prop
  | .non, v => v = .non
  | .bl b, v => v = .bl b
  | .int i, v => v = .int i
  | .str x, v => v = .str x
  | .lst xs, v => ∃ a vs, v = .ref a ∧ Z a = some (.lst vs) ∧ Ats K Z xs vs
  | .tup xs, v => ∃ a vs, v = .ref a ∧ SqT K Z a vs ∧ Ats K Z xs vs
  | .dct ks xs, v => ∃ a kvs, v = .ref a ∧ Z a = some (.dK kvs) ∧ kvs.map (·.1) = ks ∧ Ats K Z xs (kvs.map (·.2))
  | .obj a, v => v = .ref a
def Ats (K : PySem.W.Frag) (Z : Hp) : List D → List V → Prop
  | [], vs => vs = []
  | d :: ds, vs => ∃ w ws, vs = w :: ws ∧ At K Z d w ∧ Ats K Z ds ws
end
theorem seqT {K : PySem.W.Frag} {H H' : Hp} {a : Addr} {xs : List V} (e : Same H H') (h : SqT K H a xs) : SqT K H' a xs := by
  rcases h with (h | ⟨o, h⟩) | h
  · exact .inl (.inl (e _ _ h))
  · exact .inl (.inr ⟨o, e _ _ h⟩)
  · exact .inr h
section
variable {K : PySem.W.Frag} {Z Z' : Hp}
mutual
theorem At.mono (e : Same Z Z') : ∀ (d : D) (v : V), At K Z d v → At K Z' d v
  | .non, _, h => h
  | .bl _, _, h => h
  | .int _, _, h => h
  | .str _, _, h => h
  | .lst xs, v, h => by
    simp only [At] at h ⊢
    obtain ⟨a, vs, h1, h2, h3⟩ := h
    exact ⟨a, vs, h1, e _ _ h2, Ats.mono e xs vs h3⟩
  | .tup xs, v, h => by
    simp only [At] at h ⊢
    obtain ⟨a, vs, h1, h2, h3⟩ := h
    exact ⟨a, vs, h1, seqT e h2, Ats.mono e xs vs h3⟩
  | .dct ks xs, v, h => by
    simp only [At] at h ⊢
    obtain ⟨a, vs, h1, h2, h3, h4⟩ := h
    exact ⟨a, vs, h1, e _ _ h2, h3, Ats.mono e xs _ h4⟩
  | .obj _, _, h => h
theorem Ats.mono (e : Same Z Z') : ∀ (ds : List D) (vs : List V), Ats K Z ds vs → Ats K Z' ds vs
  | [], _, h => h
  | d :: ds, vs, h => by
    simp only [Ats] at h ⊢
    obtain ⟨w, ws, h1, h2, h3⟩ := h
    exact ⟨w, ws, h1, At.mono e d w h2, Ats.mono e ds ws h3⟩
end
theorem Ats.len : ∀ {ds : List D} {vs : List V}, Ats K Z ds vs → vs.length = ds.length
  | [], _, h => by simp only [Ats] at h; subst h; rfl
  | d :: ds, vs, h => by
    simp only [Ats] at h
    obtain ⟨w, ws, rfl, _, h3⟩ := h
    simp [Ats.len h3]
theorem Ats.get : ∀ {ds : List D} {vs : List V} {i : Nat} {d : D}, Ats K Z ds vs → ds[i]? = some d → ∃ v, vs[i]? = some v ∧ At K Z d v
  | [], _, _, _, _, e => by simp at e
  | d :: ds, vs, i, d', h, e => by
    simp only [Ats] at h
    obtain ⟨w, ws, rfl, h2, h3⟩ := h
    cases i with
    | zero => simp at e; subst e; exact ⟨w, rfl, h2⟩
    | succ i =>
      obtain ⟨v, h4, h5⟩ := Ats.get (i := i) h3 (by simpa using e)
      exact ⟨v, by simpa using h4, h5⟩
theorem Ats.append : ∀ {ds es : List D} {vs ws : List V}, Ats K Z ds vs → Ats K Z es ws → Ats K Z (ds ++ es) (vs ++ ws)
  | [], _, _, _, h, h' => by simp only [Ats] at h; subst h; exact h'
  | d :: ds, es, vs, ws, h, h' => by
    simp only [Ats] at h
    obtain ⟨w, vs, rfl, h2, h3⟩ := h
    exact ⟨w, vs ++ ws, rfl, h2, Ats.append h3 h'⟩
theorem Ats.take : ∀ {ds : List D} {vs : List V} (n : Nat), Ats K Z ds vs → Ats K Z (ds.take n) (vs.take n)
  | _, _, 0, _ => by simp [Ats]
  | [], _, n + 1, h => by simp only [Ats] at h; subst h; simp [Ats]
  | d :: ds, vs, n + 1, h => by
    simp only [Ats] at h
    obtain ⟨w, vs, rfl, h2, h3⟩ := h
    exact ⟨w, vs.take n, rfl, h2, Ats.take n h3⟩
theorem Ats.drop : ∀ {ds : List D} {vs : List V} (n : Nat), Ats K Z ds vs → Ats K Z (ds.drop n) (vs.drop n)
  | _, _, 0, h => h
  | [], _, n + 1, h => by simp only [Ats] at h; subst h; simp [Ats]
  | d :: ds, vs, n + 1, h => by
    simp only [Ats] at h
    obtain ⟨w, vs, rfl, h2, h3⟩ := h
    exact Ats.drop n h3
theorem Ats.set : ∀ {ds : List D} {vs : List V} (n : Nat) {d : D} {v : V}, Ats K Z ds vs → At K Z d v → Ats K Z (ds.set n d) (vs.set n v)
  | [], _, _, _, _, h, _ => by simp only [Ats] at h; subst h; simp [Ats]
  | d :: ds, vs, 0, _, _, h, h' => by
    simp only [Ats] at h
    obtain ⟨w, vs, rfl, h2, h3⟩ := h
    exact ⟨_, vs, rfl, h', h3⟩
  | d :: ds, vs, n + 1, d', v', h, h' => by
    simp only [Ats] at h
    obtain ⟨w, vs, rfl, h2, h3⟩ := h
    exact ⟨w, vs.set n v', rfl, h2, Ats.set n h3 h'⟩
theorem Ats.reverse : ∀ {ds : List D} {vs : List V}, Ats K Z ds vs → Ats K Z ds.reverse vs.reverse
  | [], _, h => by simp only [Ats] at h; subst h; simp [Ats]
  | d :: ds, vs, h => by
    simp only [Ats] at h
    obtain ⟨w, vs, rfl, h2, h3⟩ := h
    simp only [List.reverse_cons]
    exact Ats.append (Ats.reverse h3) ⟨w, [], rfl, h2, rfl⟩
theorem Ats.ints : ∀ {ns : List Int} {vs : List V}, Ats K Z (ns.map D.int) vs → vs = ns.map V.int
  | [], _, h => h
  | n :: ns, vs, h => by
    simp only [List.map_cons, Ats] at h
    obtain ⟨w, ws, rfl, h2, h3⟩ := h
    simp only [At] at h2
    subst h2
    rw [Ats.ints h3]; rfl
theorem Ats.of_ints : ∀ (ns : List Int), Ats K Z (ns.map D.int) (ns.map V.int)
  | [] => rfl
  | n :: ns => ⟨_, _, rfl, rfl, Ats.of_ints ns⟩
theorem Ats.bls : ∀ {ns : List Bool} {vs : List V}, Ats K Z (ns.map D.bl) vs → vs = ns.map V.bl
  | [], _, h => h
  | n :: ns, vs, h => by
    simp only [List.map_cons, Ats] at h
    obtain ⟨w, ws, rfl, h2, h3⟩ := h
    simp only [At] at h2
    subst h2
    rw [Ats.bls h3]; rfl
end

inductive L where | val (d : D) | own (ds : List D) | dic (kds : List (Key × D))
def L.ow : L → Bool | .val _ => false | _ => true
def L.ds : L → List D | .val _ => [] | .own ds => ds | .dic kds => kds.map (·.2)
def L.ho : L → List V → HO | .dic kds, vs => .dK ((kds.map (·.1)).zip vs) | _, vs => .lst vs
structure S (γ : Type) where
  ρ : List (Option L)
  g : γ
structure GP (γ : Type) where
  K : PySem.W.Frag
  foot : γ → Addr → Prop
  J : γ → Hp → Prop
  stay : ∀ g H H', J g H → (∀ a, foot g a → H' a = H a) → J g H'
  live : ∀ g H a, J g H → foot g a → ∃ o, H a = some o
  /-- what is known to be settled -/
  fl : Hp := fun _ => none
def none0 (K : PySem.W.Frag) : GP Unit := ⟨K, fun _ _ => False, fun _ _ => True, fun _ _ _ _ _ => trivial, fun _ _ _ _ h => h.elim, fun _ => none⟩

structure Fra where
  F : Hp
  B : Addr → Prop
  bf : ∀ a, B a → ∃ o, F a = some o
variable {γ : Type}
structure Rel (G : GP γ) (F : Fra) (Z : Hp) (s : S γ) (σ : St) (H : Hp) : Prop where
  z : Same Z H
  f : Same F.F H
  zb : ∀ a, F.B a → Z a = none
  len : σ.length = s.ρ.length
  loc : ∀ (i : Nat) (d : D), s.ρ[i]? = some (some (.val d)) → ∃ v, σ[i]? = some (some v) ∧ At G.K Z d v
  ownL : ∀ (i : Nat) (l : L), s.ρ[i]? = some (some l) → l.ow = true → ∃ a vs, σ[i]? = some (some (.ref a)) ∧ H a = some (l.ho vs) ∧ Ats G.K Z l.ds vs ∧ Z a = none ∧ F.F a = none ∧ ¬ G.foot s.g a
  injL : ∀ (i j : Nat) (l m : L) (a : Addr), i ≠ j → s.ρ[i]? = some (some l) → l.ow = true → s.ρ[j]? = some (some m) → m.ow = true → σ[i]? = some (some (.ref a)) → σ[j]? = some (some (.ref a)) → False
  j : G.J s.g H
  zf : ∀ a, G.foot s.g a → Z a = none
  ff : ∀ a, G.foot s.g a → F.F a = none
  fl : Same G.fl Z
theorem Rel.own {G : GP γ} {F : Fra} {Z : Hp} {s : S γ} {σ : St} {H : Hp} (r : Rel G F Z s σ H) (i : Nat) (ds : List D) (h : s.ρ[i]? = some (some (.own ds))) : ∃ a vs, σ[i]? = some (some (.ref a)) ∧ H a = some (.lst vs) ∧ Ats G.K Z ds vs ∧ Z a = none ∧ F.F a = none ∧ ¬ G.foot s.g a := r.ownL i _ h rfl
abbrev Nob (s : S γ) (σ : St) (a : Addr) : Prop := ∀ (i : Nat) (l : L), s.ρ[i]? = some (some l) → l.ow = true → σ[i]? ≠ some (some (.ref a))
structure Wk (s s' : S γ) : Prop where
  g : s'.g = s.g
  len : s'.ρ.length = s.ρ.length
  le : ∀ (i : Nat) l, s'.ρ[i]? = some (some l) → s.ρ[i]? = some (some l)
theorem Wk.refl (s : S γ) : Wk s s := ⟨rfl, rfl, fun _ _ h => h⟩
section
variable {G : GP γ} {F : Fra} {Z : Hp} {s s' : S γ} {σ : St} {H H' : Hp}
theorem Fra.nb {F : Fra} {a : Addr} (h : F.F a = none) : ¬ F.B a := fun b => by
  obtain ⟨o, e⟩ := F.bf a b
  rw [h] at e; cases e
theorem Rel.weak (r : Rel G F Z s σ H) (w : Wk s s') : Rel G F Z s' σ H := by
  obtain ⟨g', ρ'⟩ := s'
  obtain ⟨hg, hl, he⟩ := w
  simp only at hg
  subst hg
  exact ⟨r.z, r.f, r.zb, r.len.trans hl.symm, fun i d h => r.loc i d (he _ _ h), fun i l h => r.ownL i l (he _ _ h), fun i j l m a n h1 o1 h2 => r.injL i j l m a n (he _ _ h1) o1 (he _ _ h2), r.j, r.zf, r.ff, r.fl⟩
theorem Rel.grow (r : Rel G F Z s σ H) (k : Same H H') : Rel G F Z s σ H' :=
  ⟨r.z.trans k, r.f.trans k, r.zb, r.len, r.loc, fun i l h o => let ⟨a, vs, h1, h2, h3⟩ := r.ownL i l h o; ⟨a, vs, h1, k _ _ h2, h3⟩, r.injL,
    G.stay _ _ _ r.j fun a h => by
      obtain ⟨o, e⟩ := G.live _ _ _ r.j h
      rw [e, k _ _ e], r.zf, r.ff, r.fl⟩
theorem same_upd {p : Addr} {o : HO} (h : H p = none) : Same H (upd H p o) := fun b x e => by
  rw [upd_ne (ne_of_none e h)]
  exact e
theorem same_upd2 {p : Addr} {o : HO} (k : Same Z H) (h : H p = some o) (hz : Z p = none) : Same (upd Z p o) H := fun b x e => by
  by_cases hb : b = p
  · subst hb; rw [upd_same] at e; rw [h, ← e]
  · rw [upd_ne hb] at e; exact k _ _ e
theorem Rel.settle (r : Rel G F Z s σ H) {p : Addr} {o : HO} (hp : H p = some o) (hz : Z p = none) (hf : ¬ G.foot s.g p) (hb : ¬ F.B p)
    (ho : Nob s σ p) : Rel G F (upd Z p o) s σ H := by
  have k := same_upd (o := o) hz
  refine ⟨same_upd2 r.z hp hz, r.f, fun a h => by rw [upd_ne (show a ≠ p from fun e => hb (by rw [← e]; exact h))]; exact r.zb a h, r.len, fun i d h => ?_, fun i l h o1 => ?_, r.injL, r.j, fun a h => ?_, r.ff, r.fl.trans k⟩
  · obtain ⟨v, h1, h2⟩ := r.loc i d h
    exact ⟨v, h1, At.mono k _ _ h2⟩
  · obtain ⟨a, vs, h1, h2, h3, h4, h5⟩ := r.ownL i l h o1
    refine ⟨a, vs, h1, h2, Ats.mono k _ _ h3, ?_, h5⟩
    rw [upd_ne (show a ≠ p from fun e => ho i l h o1 (by rw [← e]; exact h1))]
    exact h4
  · rw [upd_ne (show a ≠ p from fun e => hf (by rw [← e]; exact h))]
    exact r.zf a h
theorem Rel.put (r : Rel G F Z s σ H) {i : Nat} {d : D} {v : V} (h : At G.K Z d v) : Rel G F Z ⟨s.ρ.set i (some (.val d)), s.g⟩ (σ.set i (some v)) H := by
  refine ⟨r.z, r.f, r.zb, by simpa using r.len, fun j e hj => ?_, fun j l hj o1 => ?_, fun j k l m a n h1 o1 h2 o2 h3 h4 => ?_, r.j, r.zf, r.ff, r.fl⟩
  · by_cases hij : i = j
    · subst hij
      have hl : i < s.ρ.length := by
        have := (List.getElem?_eq_some_iff.mp hj).1
        simpa using this
      rw [List.getElem?_set_self hl] at hj
      cases hj
      exact ⟨v, by rw [List.getElem?_set_self (by rw [r.len]; exact hl)], h⟩
    · rw [List.getElem?_set_ne hij] at hj
      rw [List.getElem?_set_ne hij]
      exact r.loc j e hj
  · have hij : i ≠ j := by
      intro e
      subst e
      have hl : i < s.ρ.length := by
        have := (List.getElem?_eq_some_iff.mp hj).1
        simpa using this
      rw [List.getElem?_set_self hl] at hj
      cases hj
      cases o1
    rw [List.getElem?_set_ne hij] at hj
    rw [List.getElem?_set_ne hij]
    exact r.ownL j l hj o1
  · have ne : ∀ {j : Nat} {l : L}, (s.ρ.set i (some (L.val d)))[j]? = some (some l) → l.ow = true → i ≠ j := fun {j l} hj o1 e => by
      subst e
      have hl : i < s.ρ.length := by
        have := (List.getElem?_eq_some_iff.mp hj).1
        simpa using this
      rw [List.getElem?_set_self hl] at hj
      cases hj
      cases o1
    have n1 := ne h1 o1
    have n2 := ne h2 o2
    rw [List.getElem?_set_ne n1] at h1 h3
    rw [List.getElem?_set_ne n2] at h2 h4
    exact r.injL j k l m a n h1 o1 h2 o2 h3 h4
theorem Rel.putW (r : Rel G F Z s σ H) {i : Nat} {l : L} (ol : l.ow = true) {a : Addr} {vs : List V} (ha : H a = some (l.ho vs)) (h : Ats G.K Z l.ds vs) (hz : Z a = none) (hF : F.F a = none) (hf : ¬ G.foot s.g a)
    (ho : Nob s σ a) : Rel G F Z ⟨s.ρ.set i (some l), s.g⟩ (σ.set i (some (.ref a))) H := by
  have at_i : ∀ {m : L}, (s.ρ.set i (some l))[i]? = some (some m) → i < s.ρ.length ∧ m = l := fun {m} hj => by
    have hl : i < s.ρ.length := by
      have := (List.getElem?_eq_some_iff.mp hj).1
      simpa using this
    rw [List.getElem?_set_self hl] at hj
    cases hj
    exact ⟨hl, rfl⟩
  have other : ∀ {j : Nat} {m : L}, i ≠ j → (s.ρ.set i (some l))[j]? = some (some m) → m.ow = true → (σ.set i (some (V.ref a)))[j]? ≠ some (some (.ref a)) := fun {j m} n h1 o1 => by
    rw [List.getElem?_set_ne n] at h1 ⊢
    exact ho j m h1 o1
  refine ⟨r.z, r.f, r.zb, by simpa using r.len, fun j e hj => ?_, fun j m hj o1 => ?_, fun j k m m' b n h1 o1 h2 o2 h3 h4 => ?_, r.j, r.zf, r.ff, r.fl⟩
  · have hij : i ≠ j := by
      intro e; subst e
      obtain ⟨_, e⟩ := at_i hj
      rw [← e] at ol; cases ol
    rw [List.getElem?_set_ne hij] at hj ⊢
    exact r.loc j e hj
  · by_cases hij : i = j
    · subst hij
      obtain ⟨hl, e⟩ := at_i hj
      subst e
      exact ⟨a, vs, List.getElem?_set_self (by rw [r.len]; exact hl), ha, h, hz, hF, hf⟩
    · rw [List.getElem?_set_ne hij] at hj ⊢
      exact r.ownL j m hj o1
  · by_cases hij : i = j
    · subst hij
      obtain ⟨hl, e⟩ := at_i h1
      rw [List.getElem?_set_self (by rw [r.len]; exact hl)] at h3
      cases h3
      exact other n h2 o2 h4
    · by_cases hik : i = k
      · subst hik
        obtain ⟨hl, e⟩ := at_i h2
        rw [List.getElem?_set_self (by rw [r.len]; exact hl)] at h4
        cases h4
        exact other (Ne.symm n) h1 o1 h3
      · rw [List.getElem?_set_ne hij] at h1 h3
        rw [List.getElem?_set_ne hik] at h2 h4
        exact r.injL j k m m' b n h1 o1 h2 o2 h3 h4
theorem Rel.putOwn (r : Rel G F Z s σ H) {i : Nat} {ds : List D} {a : Addr} {vs : List V} (ha : H a = some (.lst vs)) (h : Ats G.K Z ds vs) (hz : Z a = none) (hF : F.F a = none) (hf : ¬ G.foot s.g a)
    (ho : Nob s σ a) : Rel G F Z ⟨s.ρ.set i (some (.own ds)), s.g⟩ (σ.set i (some (.ref a))) H := r.putW (l := .own ds) rfl ha h hz hF hf ho
theorem Rel.writeL (r : Rel G F Z s σ H) {i : Nat} {l m : L} {a : Addr} {ws : List V} (hi : s.ρ[i]? = some (some l)) (ol : l.ow = true) (om : m.ow = true) (ha : σ[i]? = some (some (.ref a))) (h : Ats G.K Z m.ds ws) :
    Rel G F Z ⟨s.ρ.set i (some m), s.g⟩ σ (upd H a (m.ho ws)) := by
  obtain ⟨b, vs, h1, h2, h3, h4, h5, h6⟩ := r.ownL i l hi ol
  rw [ha] at h1
  cases h1
  have hl : i < s.ρ.length := (List.getElem?_eq_some_iff.mp hi).1
  have back : ∀ {j : Nat} {n : L}, (s.ρ.set i (some m))[j]? = some (some n) → n.ow = true → ∃ n', s.ρ[j]? = some (some n') ∧ n'.ow = true := fun {j n} hj o1 => by
    by_cases hij : i = j
    · subst hij; exact ⟨l, hi, ol⟩
    · rw [List.getElem?_set_ne hij] at hj; exact ⟨n, hj, o1⟩
  refine ⟨fun b o e => ?_, fun b o e => ?_, r.zb, by simpa using r.len, fun j e hj => ?_, fun j n hj o1 => ?_, fun j k p q b n h1 o1 h2 o2 h3 h4 => ?_, G.stay _ _ _ r.j fun b hb => ?_, r.zf, r.ff, r.fl⟩
  · rw [upd_ne (ne_of_none e h4)]; exact r.z _ _ e
  · rw [upd_ne (ne_of_none e h5)]; exact r.f _ _ e
  · have hij : i ≠ j := by
      intro e; subst e
      rw [List.getElem?_set_self hl] at hj
      cases hj
      cases om
    rw [List.getElem?_set_ne hij] at hj
    exact r.loc j e hj
  · by_cases hij : i = j
    · subst hij
      rw [List.getElem?_set_self hl] at hj
      cases hj
      exact ⟨a, ws, ha, upd_same, h, h4, h5, h6⟩
    · rw [List.getElem?_set_ne hij] at hj
      obtain ⟨c, us, k1, k2, k3⟩ := r.ownL j n hj o1
      refine ⟨c, us, k1, ?_, k3⟩
      rw [upd_ne]
      · exact k2
      · intro e; subst e
        exact r.injL i j l n c hij hi ol hj o1 ha k1
  · obtain ⟨p', e1, f1⟩ := back h1 o1
    obtain ⟨q', e2, f2⟩ := back h2 o2
    exact r.injL j k p' q' b n e1 f1 e2 f2 h3 h4
  · exact upd_ne fun e => h6 (e ▸ hb)
theorem Rel.write (r : Rel G F Z s σ H) {i : Nat} {ds es : List D} {a : Addr} {ws : List V} (hi : s.ρ[i]? = some (some (.own ds))) (ha : σ[i]? = some (some (.ref a))) (h : Ats G.K Z es ws) :
    Rel G F Z ⟨s.ρ.set i (some (.own es)), s.g⟩ σ (upd H a (.lst ws)) := r.writeL (l := .own ds) (m := .own es) hi rfl rfl ha h
theorem map_fst_zip' : ∀ {ks : List Key} {vs : List V}, ks.length = vs.length → (ks.zip vs).map (·.1) = ks
  | [], [], _ => rfl
  | k :: ks, v :: vs, h => by simp only [List.zip_cons_cons, List.map_cons, map_fst_zip' (ks := ks) (vs := vs) (by simpa using h)]
theorem map_snd_zip' : ∀ {ks : List Key} {vs : List V}, ks.length = vs.length → (ks.zip vs).map (·.2) = vs
  | [], [], _ => rfl
  | k :: ks, v :: vs, h => by simp only [List.zip_cons_cons, List.map_cons, map_snd_zip' (ks := ks) (vs := vs) (by simpa using h)]
def L.d : L → D | .val d => d | .own ds => .lst ds | .dic kds => .dct (kds.map (·.1)) (kds.map (·.2))
theorem At.ofL {K : PySem.W.Frag} {l : L} (ol : l.ow = true) {a : Addr} {vs : List V} (hz : Z a = some (l.ho vs)) (h : Ats K Z l.ds vs) : At K Z l.d (.ref a) := by
  cases l with
  | val d => cases ol
  | own ds => exact ⟨a, vs, rfl, hz, h⟩
  | dic kds =>
    have hl : (kds.map (·.1)).length = vs.length := by have := h.len; simp only [L.ds, List.length_map] at this ⊢; exact this.symm
    exact ⟨a, _, rfl, hz, map_fst_zip' hl, by rw [map_snd_zip' hl]; exact h⟩
theorem Rel.freezeL (r : Rel G F Z s σ H) {i : Nat} {l : L} (hi : s.ρ[i]? = some (some l)) (ol : l.ow = true) :
    ∃ a Z', Same Z Z' ∧ σ[i]? = some (some (.ref a)) ∧ At G.K Z' l.d (.ref a) ∧ Rel G F Z' ⟨s.ρ.set i (some (.val l.d)), s.g⟩ σ H := by
  obtain ⟨a, vs, h1, h2, h3, h4, h5, h6⟩ := r.ownL i l hi ol
  have hl : i < s.ρ.length := (List.getElem?_eq_some_iff.mp hi).1
  have k := same_upd (o := l.ho vs) h4
  have at' : At G.K (upd Z a (l.ho vs)) l.d (.ref a) := At.ofL ol upd_same (Ats.mono k _ _ h3)
  refine ⟨a, upd Z a (l.ho vs), k, h1, at', same_upd2 r.z h2 h4, r.f, fun b hb => by rw [upd_ne (show b ≠ a from fun e => Fra.nb h5 (by rw [← e]; exact hb))]; exact r.zb b hb, by simpa using r.len, fun j e hj => ?_, fun j m hj o1 => ?_, fun j k p q b n q1 o1 q2 o2 q3 q4 => ?_, r.j, fun b hb => ?_, r.ff, r.fl.trans k⟩
  · by_cases hij : i = j
    · subst hij
      rw [List.getElem?_set_self hl] at hj
      cases hj
      exact ⟨_, h1, at'⟩
    · rw [List.getElem?_set_ne hij] at hj
      obtain ⟨v, k1, k2⟩ := r.loc j e hj
      exact ⟨v, k1, At.mono k _ _ k2⟩
  · have hij : i ≠ j := by
      intro e; subst e
      rw [List.getElem?_set_self hl] at hj
      cases hj
      cases o1
    rw [List.getElem?_set_ne hij] at hj
    obtain ⟨c, us, k1, k2, k3, k4, k5⟩ := r.ownL j m hj o1
    refine ⟨c, us, k1, k2, Ats.mono k _ _ k3, ?_, k5⟩
    rw [upd_ne]
    · exact k4
    · intro e; subst e
      exact r.injL i j l m c hij hi ol hj o1 h1 k1
  · have ne : ∀ {j : Nat} {m : L}, (s.ρ.set i (some (L.val l.d)))[j]? = some (some m) → m.ow = true → s.ρ[j]? = some (some m) := fun {j m} hj o1 => by
      by_cases hij : i = j
      · subst hij
        rw [List.getElem?_set_self hl] at hj
        cases hj
        cases o1
      · rw [List.getElem?_set_ne hij] at hj; exact hj
    exact r.injL j k p q b n (ne q1 o1) o1 (ne q2 o2) o2 q3 q4
  · rw [upd_ne (show b ≠ a from fun e => h6 (by rw [← e]; exact hb))]
    exact r.zf b hb
theorem Rel.freeze (r : Rel G F Z s σ H) {i : Nat} {ds : List D} (hi : s.ρ[i]? = some (some (.own ds))) :
    ∃ a Z', Same Z Z' ∧ σ[i]? = some (some (.ref a)) ∧ At G.K Z' (.lst ds) (.ref a) ∧ Rel G F Z' ⟨s.ρ.set i (some (.val (.lst ds))), s.g⟩ σ H := r.freezeL (l := .own ds) hi rfl
end
end Pm
set_option Elab.async false
set_option linter.all false
set_option maxRecDepth 100000
set_option maxHeartbeats 1000000
set_option autoImplicit false
namespace Pm
open PySem PySem.Spec
open PyProof.Rows hiding St
open L2
variable {γ : Type}

abbrev PEx (γ : Type) := S γ → (D → S γ → Prop) → Prop
abbrev PTx (γ : Type) := S γ → (Bool → S γ → Prop) → Prop
abbrev PAx (γ : Type) := S γ → (List D → S γ → Prop) → Prop
abbrev POx (γ : Type) := S γ → (Option Int → S γ → Prop) → Prop
structure En (γ : Type) where
  nx : S γ → Prop
  rt : D → γ → Prop
  bk : S γ → Prop := fun _ => False
  ct : S γ → Prop := fun _ => False
abbrev PSx (γ : Type) := En γ → S γ → Prop
abbrev PGx (γ : Type) := D → S γ → (S γ → Prop) → Prop
abbrev DK := D → Prop

def lE (G : GP γ) (t : PEx γ) : TE := fun σ H Q => ∃ F Z s R, Rel G F Z s σ H ∧ t s R ∧ ∀ d s' Z' v H', R d s' → Same Z Z' → Rel G F Z' s' σ H' → At G.K Z' d v → Q v H'
def lT (G : GP γ) (t : PTx γ) : TT := fun σ H Q => ∃ F Z s R, Rel G F Z s σ H ∧ t s R ∧ ∀ b s' Z' H', R b s' → Same Z Z' → Rel G F Z' s' σ H' → Q b H'
def lA (G : GP γ) (t : PAx γ) : TA := fun σ H Q => ∃ F Z s R, Rel G F Z s σ H ∧ t s R ∧ ∀ ds s' Z' vs H', R ds s' → Same Z Z' → Rel G F Z' s' σ H' → Ats G.K Z' ds vs → Q vs H'
def lO (G : GP γ) (t : POx γ) : TO := fun σ H Q => ∃ F Z s R, Rel G F Z s σ H ∧ t s R ∧ ∀ o s' Z' H', R o s' → Same Z Z' → Rel G F Z' s' σ H' → Q o H'
def lF (G : GP γ) (t : PAx γ) : TE := fun σ H Q => ∃ F Z s R, Rel G F Z s σ H ∧ t s R ∧ ∀ ds s' Z' a vs H', R ds s' → Same Z Z' → Rel G F Z' s' σ H' → H' a = some (.lst vs) → Ats G.K Z' ds vs → Z' a = none → F.F a = none → ¬ G.foot s'.g a →
  Nob s' σ a → Q (.ref a) H'
def lS (G : GP γ) (t : PSx γ) : TS := fun De σ H => ∃ F Z s E, Rel G F Z s σ H ∧ t E s ∧
  (∀ s' Z' σ' H', E.nx s' → Same Z Z' → Rel G F Z' s' σ' H' → De.nx σ' H') ∧
  (∀ d s' Z' σ' v H', E.rt d s'.g → Same Z Z' → Rel G F Z' s' σ' H' → At G.K Z' d v → De.rt v H') ∧
  (∀ s' Z' σ' H', E.bk s' → Same Z Z' → Rel G F Z' s' σ' H' → De.bk σ' H') ∧
  (∀ s' Z' σ' H', E.ct s' → Same Z Z' → Rel G F Z' s' σ' H' → De.ct σ' H')
def lG (G : GP γ) (js : List Nat) (t : PGx γ) : TG := fun v σ H Q => ∃ F Z s d R, Rel G F Z s σ H ∧ At G.K Z d v ∧ t d s R ∧
  ∀ s' Z' σ' H', R s' → Same Z Z' → Rel G F Z' s' σ' H' → H' = H → (∀ j, j ∉ js → σ'[j]? = σ[j]?) → σ'.length = σ.length → Q σ' H'

abbrev QE (X : Cx) (G : GP γ) (e : Expr) (t : PEx γ) : Prop := PE X e (lE G t)
abbrev QF (X : Cx) (G : GP γ) (e : Expr) (t : PAx γ) : Prop := PE X e (lF G t)
abbrev QT (X : Cx) (G : GP γ) (e : Expr) (t : PTx γ) : Prop := PT X e (lT G t)
abbrev QW (X : Cx) (G : GP γ) (e : Expr) (t : PTx γ) : Prop := PW X e (lT G t)
abbrev QA (X : Cx) (G : GP γ) (es : List Expr) (t : PAx γ) : Prop := PA X es (lA G t)
abbrev QO (X : Cx) (G : GP γ) (e : Option Expr) (t : POx γ) : Prop := PO X e (lO G t)
abbrev QS (X : Cx) (G : GP γ) (st : Stmt) (t : PSx γ) : Prop := PS X st (lS G t)
abbrev QSs (X : Cx) (G : GP γ) (st : List Stmt) (t : PSx γ) : Prop := PSs X st (lS G t)
theorem PE.imp {X : Cx} {e : Expr} {t t' : TE} (h : PE X e t) (k : ∀ σ H Q, t' σ H Q → t σ H Q) : PE X e t' := ⟨fun pins s σ H Q I w => h.run pins s σ H Q I (k _ _ _ w)⟩
theorem PT.imp {X : Cx} {e : Expr} {t t' : TT} (h : PT X e t) (k : ∀ σ H Q, t' σ H Q → t σ H Q) : PT X e t' := ⟨fun pins s σ H Q I w => h.run pins s σ H Q I (k _ _ _ w)⟩
theorem PW.imp {X : Cx} {e : Expr} {t t' : TT} (h : PW X e t) (k : ∀ σ H Q, t' σ H Q → t σ H Q) : PW X e t' := ⟨fun wh pins s σ H Q I w => h.run wh pins s σ H Q I (k _ _ _ w)⟩
theorem PA.imp {X : Cx} {e : List Expr} {t t' : TA} (h : PA X e t) (k : ∀ σ H Q, t' σ H Q → t σ H Q) : PA X e t' := ⟨fun pos pins s σ H Q I w => h.run pos pins s σ H Q I (k _ _ _ w)⟩
theorem PO.imp {X : Cx} {e : Option Expr} {t t' : TO} (h : PO X e t) (k : ∀ σ H Q, t' σ H Q → t σ H Q) : PO X e t' := ⟨fun pins s σ H Q I w => h.run pins s σ H Q I (k _ _ _ w)⟩
theorem PS.imp {X : Cx} {e : Stmt} {t t' : TS} (h : PS X e t) (k : ∀ De σ H, t' De σ H → t De σ H) : PS X e t' := ⟨fun pins s σ H De I w => h.run pins s σ H De I (k _ _ _ w)⟩
theorem PSs.imp {X : Cx} {e : List Stmt} {t t' : TS} (h : PSs X e t) (k : ∀ De σ H, t' De σ H → t De σ H) : PSs X e t' := ⟨fun pins s σ H De I w => h.run pins s σ H De I (k _ _ _ w)⟩
theorem PG.imp {X : Cx} {e : Expr} {t t' : TG} (h : PG X e t) (k : ∀ v σ H Q, t' v σ H Q → t v σ H Q) : PG X e t' := ⟨fun pins s σ H v u Q I r w => h.run pins s σ H v u Q I r (k _ _ _ _ w)⟩

structure Ext (Z H Z' H' : Hp) : Prop where
  hh : Same H H'
  zz : Same Z Z'
  zh : Same Z' H'
  nw : ∀ a o, Z' a = some o → Z a = none → H a = none
theorem Ext.refl {Z H : Hp} (k : Same Z H) : Ext Z H Z H := ⟨Same.refl _, Same.refl _, k, fun a o h h' => by rw [h] at h'; cases h'⟩
theorem Ext.new {Z H : Hp} {p : Addr} {o : HO} (k : Same Z H) (hp : H p = none) : Ext Z H (upd Z p o) (upd H p o) := by
  have zp := k.free hp
  refine ⟨same_upd hp, same_upd zp, fun a u e => ?_, fun a u e n => ?_⟩
  · by_cases h : a = p
    · subst h; rw [upd_same] at e ⊢; exact e
    · rw [upd_ne h] at e ⊢; exact k _ _ e
  · by_cases h : a = p
    · rw [h]; exact hp
    · rw [upd_ne h, n] at e; cases e
section
variable {G : GP γ} {F : Fra} {Z Z' : Hp} {s : S γ} {σ : St} {H H' : Hp}
theorem Rel.ext (r : Rel G F Z s σ H) (x : Ext Z H Z' H') : Rel G F Z' s σ H' := by
  have zn : ∀ {a : Addr}, Z a = none → (∃ o, H a = some o) → Z' a = none := fun {a} n ⟨o, e⟩ => by
    cases q : Z' a with
    | none => rfl
    | some u => have := x.nw a u q n; rw [e] at this; cases this
  refine ⟨x.zh, r.f.trans x.hh, fun a h => zn (r.zb a h) (let ⟨o, e⟩ := F.bf a h; ⟨o, r.f _ _ e⟩), r.len, fun i d h => ?_, fun i l h ol => ?_, r.injL, (r.grow x.hh).j, fun a h => zn (r.zf a h) (G.live _ _ _ r.j h), r.ff, r.fl.trans x.zz⟩
  · obtain ⟨v, h1, h2⟩ := r.loc i d h
    exact ⟨v, h1, At.mono x.zz _ _ h2⟩
  · obtain ⟨a, vs, h1, h2, h3, h4, h5⟩ := r.ownL i l h ol
    exact ⟨a, vs, h1, x.hh _ _ h2, Ats.mono x.zz _ _ h3, zn h4 ⟨_, h2⟩, h5⟩
end

def dOp2 (K : PySem.W.Frag) (p : D → D → DK → Prop) : R2 := fun x y H Q => ∃ Z d e R, Same Z H ∧ At K Z d x ∧ At K Z e y ∧ p d e R ∧ ∀ z Z' v H', R z → Ext Z H Z' H' → At K Z' z v → Q v H'
def dOp1 (K : PySem.W.Frag) (p : D → DK → Prop) : V → Hp → VK → Prop := fun x H Q => ∃ Z d R, Same Z H ∧ At K Z d x ∧ p d R ∧ ∀ z Z' v H', R z → Ext Z H Z' H' → At K Z' z v → Q v H'
def dCall (K : PySem.W.Frag) (p : List D → DK → Prop) : List V → Hp → VK → Prop := fun xs H Q => ∃ Z ds R, Same Z H ∧ Ats K Z ds xs ∧ p ds R ∧ ∀ z Z' v H', R z → Ext Z H Z' H' → At K Z' z v → Q v H'
def dCallF (K : PySem.W.Frag) (p : List D → (List D → Prop) → Prop) : List V → Hp → VK → Prop := fun xs H Q => ∃ Z ds R, Same Z H ∧ Ats K Z ds xs ∧ p ds R ∧ ∀ zs a vs H', R zs → Same H H' → H a = none → H' a = some (.lst vs) → Ats K Z zs vs → Q (.ref a) H'
def dOp2F (K : PySem.W.Frag) (p : D → D → (List D → Prop) → Prop) : R2 := fun x y H Q => ∃ Z d e R, Same Z H ∧ At K Z d x ∧ At K Z e y ∧ p d e R ∧ ∀ zs a vs H', R zs → Same H H' → H a = none → H' a = some (.lst vs) → Ats K Z zs vs → Q (.ref a) H'

section
variable {X : Cx} {G : GP γ} {a b c e : Expr} {pos : Pos}

def qC (d : D) : PEx γ := fun s R => R d s
theorem qe_of_C {v : V} {d : D} (h : PE X e (tC v)) (k : ∀ Z, At G.K Z d v) : QE X G e (qC d) :=
  PE.imp h fun σ H Q ⟨F, Z, s, R, r, t, q⟩ => q d s Z v H t (Same.refl _) r (k Z)
theorem qe_int {i j} : QE X G (.Constant (.int i) j pos) (qC (.int i)) := qe_of_C pe_int fun _ => rfl
theorem qe_bl {i j} : QE X G (.Constant (.bool i) j pos) (qC (.bl i)) := qe_of_C pe_bl fun _ => rfl
theorem qe_non {j} : QE X G (.Constant .none j pos) (qC .non) := qe_of_C pe_non fun _ => rfl
def qVar (i : Nat) : PEx γ := fun s R => match s.ρ[i]? with
  | some (some (.val d)) => R d s
  | some (some (.own ds)) => R (.lst ds) ⟨s.ρ.set i (some (.val (.lst ds))), s.g⟩
  | some (some (.dic kds)) => R (.dct (kds.map (·.1)) (kds.map (·.2))) ⟨s.ρ.set i (some (.val (.dct (kds.map (·.1)) (kds.map (·.2))))), s.g⟩
  | _ => False
theorem qe_of_var {i : Nat} (h : PE X e (tVar i)) : QE X G e (qVar i) := by
  refine PE.imp h fun σ H Q ⟨F, Z, s, R, r, t, q⟩ => ?_
  unfold qVar at t
  split at t
  · rename_i d hd
    obtain ⟨v, h1, h2⟩ := r.loc i d hd
    exact ⟨v, h1, q d s Z v H t (Same.refl _) r h2⟩
  · rename_i ds hd
    obtain ⟨a, Z', k, h1, h2, r'⟩ := r.freeze hd
    exact ⟨.ref a, h1, q _ _ Z' _ H t k r' h2⟩
  · rename_i kds hd
    obtain ⟨a, Z', k, h1, h2, r'⟩ := r.freezeL hd rfl
    exact ⟨.ref a, h1, q _ _ Z' _ H t k r' h2⟩
  · exact t.elim
theorem qv (i : Nat) {x : Str} {pos : Pos} (hN : X.N[i]? = some x := by rfl) (hv : Vis X.env.scope x := by first | exact Or.inl rfl | exact Or.inr (Or.inl rfl) | exact Or.inr (Or.inr rfl)) (hd : (x == ("__debug__" : Str)) = false := by decide)
    (hcd : (x == ("__classdict__" : Str)) = false := by decide) : QE X G (.Name x pos) (qVar i) := qe_of_var (pe_var hN hv hd hcd)
def qBin (p : D → D → DK → Prop) (ta tb : PEx γ) : PEx γ := fun s R => ta s fun x s1 => tb s1 fun y s2 => p x y fun z => R z s2
theorem lbin {p : D → D → DK → Prop} {ta tb : PEx γ} {σ : St} {H : Hp} {Q : VK} (h : lE G (qBin p ta tb) σ H Q) : tOp (dOp2 G.K p) (lE G ta) (lE G tb) σ H Q := by
  obtain ⟨F, Z, s, R, r, t, q⟩ := h
  refine ⟨F, Z, s, _, r, t, fun x s1 Z1 v1 H1 t1 k1 r1 a1 => ⟨F, Z1, s1, _, r1, t1, fun y s2 Z2 v2 H2 t2 k2 r2 a2 => ?_⟩⟩
  exact ⟨Z2, x, y, _, r2.z, At.mono k2 _ _ a1, a2, t2, fun z Z3 v H3 t3 x3 a3 => q z s2 Z3 v H3 t3 ((k1.trans k2).trans x3.zz) (r2.ext x3) a3⟩
theorem qe_bin {op : Operator} {p : D → D → DK → Prop} {ta tb : PEx γ} (ho : OpR X (binaryOp op) (dOp2 G.K p)) (ha : QE X G a ta) (hb : QE X G b tb) : QE X G (.BinOp a op b pos) (qBin p ta tb) :=
  PE.imp (pe_op ho ha hb) fun _ _ _ h => lbin h
theorem qe_cmp {op : CmpOp} {p : D → D → DK → Prop} {ta tb : PEx γ} (ho : OpR X (compareOp op) (dOp2 G.K p)) (ha : QE X G a ta) (hb : QE X G b tb) (hm : behindInMarks op b = false) : QE X G (.Compare a [op] [b] pos) (qBin p ta tb) :=
  PE.imp (pe_cmpR ho ha hb hm) fun _ _ _ h => lbin h
def qB (t : PEx γ) : PTx γ := fun s R => t s fun x s1 => match x with | .bl b => R b s1 | _ => False
theorem lB {t : PEx γ} {te : TE} (k : ∀ σ H Q, lE G t σ H Q → te σ H Q) {σ : St} {H : Hp} {Q : Bool → Hp → Prop} (h : lT G (qB t) σ H Q) : te σ H fun x H1 => ∃ c, x = .bl c ∧ Q c H1 := by
  obtain ⟨F, Z, s, R, r, t, q⟩ := h
  refine k _ _ _ ⟨F, Z, s, _, r, t, fun d s1 Z1 v H1 t1 k1 r1 a1 => ?_⟩
  cases d with
  | bl b =>
    have e : v = .bl b := a1
    exact ⟨b, e, q b s1 Z1 H1 t1 k1 r1⟩
  | _ => exact t1.elim
theorem qt_cmp {op : CmpOp} {p : D → D → DK → Prop} {ta tb : PEx γ} (ho : OpR X (compareOp op) (dOp2 G.K p)) (ha : QE X G a ta) (hb : QE X G b tb) (hm : behindInMarks op b = false) : QT X G (.Compare a [op] [b] pos) (qB (qBin p ta tb)) :=
  PT.imp (pt_cmpR ho ha hb hm) fun _ _ _ h => lB (te := tOp (dOp2 G.K p) (lE G ta) (lE G tb)) (fun _ _ _ h => lbin h) h
theorem qt_val {t : PEx γ} (h : QE X G e t) (he : ∀ whole, isTrue e X.env whole = (do let v ← whole; standAt e.pos; holding [v] (truthy v)) := by intro _; rfl) : QT X G e (qB t) :=
  PT.imp (pt_val h he) fun _ _ _ h => lB (fun _ _ _ h => h) h
def qChain (p p' : D → D → DK → Prop) (ta tb tc : PEx γ) : PEx γ := fun s R => ta s fun x s1 => tb s1 fun y s2 => p x y fun z => match z with
  | .bl true => tc s2 fun w s3 => p' y w fun u => R u s3
  | .bl false => R (.bl false) s2
  | _ => False
theorem lchain {p p' : D → D → DK → Prop} {ta tb tc : PEx γ} {σ : St} {H : Hp} {Q : VK} (h : lE G (qChain p p' ta tb tc) σ H Q) : tChain (dOp2 G.K p) (dOp2 G.K p') (lE G ta) (lE G tb) (lE G tc) σ H Q := by
  obtain ⟨F, Z, s, R, r, t, q⟩ := h
  refine ⟨F, Z, s, _, r, t, fun x s1 Z1 v1 H1 t1 k1 r1 a1 => ⟨F, Z1, s1, _, r1, t1, fun y s2 Z2 v2 H2 t2 k2 r2 a2 => ?_⟩⟩
  refine ⟨Z2, x, y, _, r2.z, At.mono k2 _ _ a1, a2, t2, fun z Z3 v H3 t3 x3 a3 => ?_⟩
  have r3 := r2.ext x3
  cases z with
  | bl b =>
    have e : v = .bl b := a3
    refine ⟨b, e, ?_⟩
    cases b with
    | true =>
      rw [if_pos rfl]
      refine ⟨F, Z3, s2, _, r3, t3, fun w s4 Z4 v4 H4 t4 k4 r4 a4 => ?_⟩
      exact ⟨Z4, y, w, _, r4.z, At.mono (x3.zz.trans k4) _ _ a2, a4, t4, fun u Z5 v5 H5 t5 x5 a5 => q u s4 Z5 v5 H5 t5 ((((k1.trans k2).trans x3.zz).trans k4).trans x5.zz) (r4.ext x5) a5⟩
    | false =>
      rw [if_neg Bool.false_ne_true]
      exact q _ s2 Z3 _ H3 t3 ((k1.trans k2).trans x3.zz) r3 rfl
  | _ => exact t3.elim
theorem qe_chain {op op' : CmpOp} {p p' : D → D → DK → Prop} {ta tb tc : PEx γ} (ho : OpR X (compareOp op) (dOp2 G.K p)) (ho' : OpR X (compareOp op') (dOp2 G.K p')) (ha : QE X G a ta) (hb : QE X G b tb) (hc : QE X G c tc)
    (hm : lastMarks [op, op'] [b, c] = false := by rfl) : QE X G (.Compare a [op, op'] [b, c] pos) (qChain p p' ta tb tc) :=
  PE.imp (pe_chain ho ho' ha hb hc hm) fun _ _ _ h => lchain h
def qUn (p : D → DK → Prop) (ta : PEx γ) : PEx γ := fun s R => ta s fun x s1 => p x fun z => R z s1
theorem qe_un {op : UnaryOp} {p : D → DK → Prop} {ta : PEx γ} (ho : UnR X (unaryOp op) (dOp1 G.K p)) (ha : QE X G a ta) : QE X G (.UnaryOp op a pos) (qUn p ta) := by
  refine PE.imp (pe_un ho ha) fun σ H Q ⟨F, Z, s, R, r, t, q⟩ => ?_
  exact ⟨F, Z, s, _, r, t, fun x s1 Z1 v1 H1 t1 k1 r1 a1 => ⟨Z1, x, _, r1.z, a1, t1, fun z Z3 v H3 t3 x3 a3 => q z s1 Z3 v H3 t3 (k1.trans x3.zz) (r1.ext x3) a3⟩⟩

def Br (b : Bool) (A B : Prop) : Prop := (b = true → A) ∧ (b = false → B)
def qAndV (ta tb : PEx γ) : PEx γ := fun s R => qB ta s fun b s1 => Br b (tb s1 R) (R (.bl false) s1)
def qOrV (ta tb : PEx γ) : PEx γ := fun s R => qB ta s fun b s1 => Br b (R (.bl true) s1) (tb s1 R)
def qNotV (ta : PEx γ) : PEx γ := fun s R => qB ta s fun b s1 => R (.bl (!b)) s1
theorem lQB {ta : PEx γ} {σ : St} {H : Hp} {F : Fra} {Z : Hp} {s : S γ} {R : Bool → S γ → Prop} {Q : Bool → Hp → Prop} (r : Rel G F Z s σ H) (t : qB ta s R) (q : ∀ b s' Z' H', R b s' → Same Z Z' → Rel G F Z' s' σ H' → Q b H') :
    lE G ta σ H fun x H1 => ∃ c, x = .bl c ∧ Q c H1 := lB (fun _ _ _ h => h) ⟨F, Z, s, R, r, t, q⟩
theorem qe_one {op : BoolOp} {ta : PEx γ} (ha : QE X G a ta) : QE X G (.BoolOp op [a] pos) ta := pe_one ha
theorem qe_and {rest : List Expr} {ta tb : PEx γ} (ha : QE X G a ta) (hb : QE X G (.BoolOp .And (b :: rest) pos) tb) : QE X G (.BoolOp .And (a :: b :: rest) pos) (qAndV ta tb) := by
  refine PE.imp (pe_and ha hb) fun σ H Q ⟨F, Z, s, R, r, t, q⟩ => ?_
  refine lQB r t fun b s1 Z1 H1 t1 k1 r1 => ?_
  cases b with
  | true => rw [if_pos rfl]; exact ⟨F, Z1, s1, R, r1, t1.1 rfl, fun d s' Z' v H' t' k' => q d s' Z' v H' t' (k1.trans k')⟩
  | false => rw [if_neg Bool.false_ne_true]; exact q _ s1 Z1 _ H1 (t1.2 rfl) k1 r1 rfl
theorem qe_or {rest : List Expr} {ta tb : PEx γ} (ha : QE X G a ta) (hb : QE X G (.BoolOp .Or (b :: rest) pos) tb) : QE X G (.BoolOp .Or (a :: b :: rest) pos) (qOrV ta tb) := by
  refine PE.imp (pe_or ha hb) fun σ H Q ⟨F, Z, s, R, r, t, q⟩ => ?_
  refine lQB r t fun b s1 Z1 H1 t1 k1 r1 => ?_
  cases b with
  | true => rw [if_pos rfl]; exact q _ s1 Z1 _ H1 (t1.1 rfl) k1 r1 rfl
  | false => rw [if_neg Bool.false_ne_true]; exact ⟨F, Z1, s1, R, r1, t1.2 rfl, fun d s' Z' v H' t' k' => q d s' Z' v H' t' (k1.trans k')⟩
theorem qe_not {ta : PEx γ} (ha : QE X G a ta) : QE X G (.UnaryOp .Not a pos) (qNotV ta) := by
  refine PE.imp (pe_not ha) fun σ H Q ⟨F, Z, s, R, r, t, q⟩ => ?_
  exact lQB r t fun b s1 Z1 H1 t1 k1 r1 => q _ s1 Z1 _ H1 t1 k1 r1 rfl
def qAnd (ta tb : PTx γ) : PTx γ := fun s R => ta s fun b s1 => Br b (tb s1 R) (R false s1)
def qOr (ta tb : PTx γ) : PTx γ := fun s R => ta s fun b s1 => Br b (R true s1) (tb s1 R)
def qNot (ta : PTx γ) : PTx γ := fun s R => ta s fun b s1 => R (!b) s1
theorem qw_and1 {op : BoolOp} {ta : PTx γ} (ha : QT X G a ta) : QW X G (.BoolOp op [a] pos) ta := by
  first
    | exact pw_and1 ha
    | (cases op; exact pw_and1 ha; exact pw_or1 ha)
theorem qw_and {rest : List Expr} {ta tb : PTx γ} (ha : QT X G a ta) (hb : QW X G (.BoolOp .And (b :: rest) pos) tb) : QW X G (.BoolOp .And (a :: b :: rest) pos) (qAnd ta tb) := by
  refine PW.imp (pw_and ha hb) fun σ H Q ⟨F, Z, s, R, r, t, q⟩ => ?_
  refine ⟨F, Z, s, _, r, t, fun b s1 Z1 H1 t1 k1 r1 => ?_⟩
  cases b with
  | true => rw [if_pos rfl]; exact ⟨F, Z1, s1, R, r1, t1.1 rfl, fun b s' Z' H' t' k' => q b s' Z' H' t' (k1.trans k')⟩
  | false => rw [if_neg Bool.false_ne_true]; exact q _ s1 Z1 H1 (t1.2 rfl) k1 r1
theorem qw_or {rest : List Expr} {ta tb : PTx γ} (ha : QT X G a ta) (hb : QW X G (.BoolOp .Or (b :: rest) pos) tb) : QW X G (.BoolOp .Or (a :: b :: rest) pos) (qOr ta tb) := by
  refine PW.imp (pw_or ha hb) fun σ H Q ⟨F, Z, s, R, r, t, q⟩ => ?_
  refine ⟨F, Z, s, _, r, t, fun b s1 Z1 H1 t1 k1 r1 => ?_⟩
  cases b with
  | true => rw [if_pos rfl]; exact q _ s1 Z1 H1 (t1.1 rfl) k1 r1
  | false => rw [if_neg Bool.false_ne_true]; exact ⟨F, Z1, s1, R, r1, t1.2 rfl, fun b s' Z' H' t' k' => q b s' Z' H' t' (k1.trans k')⟩
theorem qt_not {ta : PTx γ} (ha : QT X G a ta) : QT X G (.UnaryOp .Not a pos) (qNot ta) := by
  refine PT.imp (pt_not ha) fun σ H Q ⟨F, Z, s, R, r, t, q⟩ => ?_
  exact ⟨F, Z, s, _, r, t, fun b s1 Z1 H1 t1 k1 r1 => q _ s1 Z1 H1 t1 k1 r1⟩
def qNil : PAx γ := fun s R => R [] s
def qCons (ta : PEx γ) (tr : PAx γ) : PAx γ := fun s R => ta s fun x s1 => tr s1 fun xs s2 => R (x :: xs) s2
theorem qa_nil : QA X G [] (qNil : PAx γ) := PA.imp pa_nil fun σ H Q ⟨F, Z, s, R, r, t, q⟩ => q [] s Z [] H t (Same.refl _) r rfl
theorem qa_cons {es : List Expr} {ta : PEx γ} {tr : PAx γ} (ha : QE X G e ta) (hr : QA X G es tr) (hs : starEach (e :: es) X.env = (false, eval e X.env) :: starEach es X.env := by rfl) : QA X G (e :: es) (qCons ta tr) := by
  refine PA.imp (pa_cons ha hr hs) fun σ H Q ⟨F, Z, s, R, r, t, q⟩ => ?_
  refine ⟨F, Z, s, _, r, t, fun x s1 Z1 v1 H1 t1 k1 r1 a1 => ⟨F, Z1, s1, _, r1, t1, fun xs s2 Z2 vs H2 t2 k2 r2 a2 => ?_⟩⟩
  exact q _ s2 Z2 _ H2 t2 (k1.trans k2) r2 ⟨v1, vs, rfl, At.mono k2 _ _ a1, a2⟩
def qTup (t : PAx γ) : PEx γ := fun s R => t s fun xs s1 => xs.length ≤ sizeLine ∧ R (.tup xs) s1
def qLst (t : PAx γ) : PAx γ := fun s R => t s fun xs s1 => xs.length ≤ sizeLine ∧ R xs s1
theorem qe_tup {es : List Expr} {t : PAx γ} {x1} (h : QA X G es t) : QE X G (.Tuple es x1 pos) (qTup t) := by
  refine PE.imp (pe_tup h) fun σ H Q ⟨F, Z, s, R, r, t, q⟩ => ?_
  refine ⟨F, Z, s, _, r, t, fun xs s1 Z1 vs H1 t1 k1 r1 a1 => ⟨by rw [a1.len]; exact t1.1, fun p hp => ?_⟩⟩
  have x := Ext.new (o := HO.tup vs) r1.z hp
  exact q _ s1 _ _ _ t1.2 (k1.trans x.zz) (r1.ext x) ⟨p, vs, rfl, .inl (.inl upd_same), Ats.mono x.zz _ _ a1⟩
theorem Rel.fresh {F : Fra} {Z : Hp} {s : S γ} {σ : St} {H : Hp} (r : Rel G F Z s σ H) {p : Addr} (hp : H p = none) : Z p = none ∧ F.F p = none ∧ ¬ G.foot s.g p ∧ Nob s σ p := by
  refine ⟨r.z.free hp, r.f.free hp, fun h => ?_, fun i l h ol e => ?_⟩
  · obtain ⟨o, e⟩ := G.live _ _ _ r.j h
    rw [hp] at e; cases e
  · obtain ⟨a, vs, h1, h2, _⟩ := r.ownL i l h ol
    rw [h1] at e; cases e
    rw [hp] at h2; cases h2
theorem qf_lst {es : List Expr} {t : PAx γ} (h : QA X G es t) : QF X G (.List es pos) (qLst t) := by
  refine PE.imp (pe_lst h) fun σ H Q ⟨F, Z, s, R, r, t, q⟩ => ?_
  refine ⟨F, Z, s, _, r, t, fun xs s1 Z1 vs H1 t1 k1 r1 a1 => ⟨by rw [a1.len]; exact t1.1, fun p hp => ?_⟩⟩
  obtain ⟨f1, f2, f3, f4⟩ := r1.fresh hp
  exact q _ s1 Z1 p vs _ t1.2 k1 (r1.grow (same_upd hp)) upd_same a1 f1 f2 f3 f4
def qSet (t : PAx γ) : PEx γ := fun s R => t s fun ds s1 => R (.lst ds) s1
theorem qe_set {t : PAx γ} (h : QF X G e t) : QE X G e (qSet t) := by
  refine PE.imp h fun σ H Q ⟨F, Z, s, R, r, t, q⟩ => ?_
  refine ⟨F, Z, s, _, r, t, fun ds s1 Z1 a vs H1 t1 k1 r1 ha a1 hz hf hg ho => ?_⟩
  have k := same_upd (o := HO.lst vs) hz
  exact q _ s1 (upd Z1 a (.lst vs)) _ H1 t1 (k1.trans k) (r1.settle ha hz hg (Fra.nb hf) ho) ⟨a, vs, rfl, upd_same, Ats.mono k _ _ a1⟩

def qCall (p : List D → DK → Prop) (t : PAx γ) : PEx γ := fun s R => t s fun xs s1 => p xs fun z => R z s1
def qCallF (p : List D → (List D → Prop) → Prop) (t : PAx γ) : PAx γ := fun s R => t s fun xs s1 => p xs fun z => R z s1
theorem lcall {p : List D → DK → Prop} {t : PAx γ} {σ : St} {H : Hp} {Q : VK} (h : lE G (qCall p t) σ H Q) : tCB (dCall G.K p) (lA G t) σ H Q := by
  obtain ⟨F, Z, s, R, r, t, q⟩ := h
  refine ⟨F, Z, s, _, r, t, fun xs s1 Z1 vs H1 t1 k1 r1 a1 => ?_⟩
  exact ⟨Z1, xs, _, r1.z, a1, t1, fun z Z3 v H3 t3 x3 a3 => q z s1 Z3 v H3 t3 (k1.trans x3.zz) (r1.ext x3) a3⟩
theorem lcallF {p : List D → (List D → Prop) → Prop} {t : PAx γ} {σ : St} {H : Hp} {Q : VK} (h : lF G (qCallF p t) σ H Q) : tCB (dCallF G.K p) (lA G t) σ H Q := by
  obtain ⟨F, Z, s, R, r, t, q⟩ := h
  refine ⟨F, Z, s, _, r, t, fun xs s1 Z1 vs H1 t1 k1 r1 a1 => ?_⟩
  refine ⟨Z1, xs, _, r1.z, a1, t1, fun zs a ws H3 t3 k3 hn ha a3 => ?_⟩
  obtain ⟨f1, f2, f3, f4⟩ := r1.fresh hn
  exact q zs s1 Z1 a ws H3 t3 k1 (r1.grow k3) ha a3 f1 f2 f3 f4
section
variable {x : Str} {p : Pos} {es : List Expr} {t : PAx γ} {id T : String}
theorem qe_callB {pr : List D → DK → Prop} (hc : CallR X (.builtin id) (dCall G.K pr)) (hg : Gl X x) (hm : X.mg x = none) (hv : bootBuiltins x = some (.builtin id)) (ha : QA X G (e :: es) t) (hn : x ≠ "__name__" := by decide) (hdb : (x == ("__debug__" : Str)) = false := by decide)
    (he : starEach (e :: es) X.env = (false, eval e X.env) :: starEach es X.env := by rfl) (hpl : (backTo pos (starEach es X.env)).any (·.1) = false := by rfl) : QE X G (.Call (.Name x p) (e :: es) [] pos) (qCall pr t) :=
  PE.imp (pe_callB hc hg hm hv ha hn hdb he hpl) fun _ _ _ h => lcall h
theorem qe_callTy {pr : List D → DK → Prop} (hc : CallR X (.type T) (dCall G.K pr)) (hg : Gl X x) (hm : X.mg x = none) (hv : bootBuiltins x = some (.type T)) (ha : QA X G (e :: es) t) (hn : x ≠ "__name__" := by decide) (hdb : (x == ("__debug__" : Str)) = false := by decide)
    (he : starEach (e :: es) X.env = (false, eval e X.env) :: starEach es X.env := by rfl) (hpl : (backTo pos (starEach es X.env)).any (·.1) = false := by rfl) : QE X G (.Call (.Name x p) (e :: es) [] pos) (qCall pr t) :=
  PE.imp (pe_callTy hc hg hm hv ha hn hdb he hpl) fun _ _ _ h => lcall h
theorem qf_callB {pr : List D → (List D → Prop) → Prop} (hc : CallR X (.builtin id) (dCallF G.K pr)) (hg : Gl X x) (hm : X.mg x = none) (hv : bootBuiltins x = some (.builtin id)) (ha : QA X G (e :: es) t) (hn : x ≠ "__name__" := by decide) (hdb : (x == ("__debug__" : Str)) = false := by decide)
    (he : starEach (e :: es) X.env = (false, eval e X.env) :: starEach es X.env := by rfl) (hpl : (backTo pos (starEach es X.env)).any (·.1) = false := by rfl) : QF X G (.Call (.Name x p) (e :: es) [] pos) (qCallF pr t) :=
  PE.imp (pe_callB hc hg hm hv ha hn hdb he hpl) fun _ _ _ h => lcallF h
end

abbrev Spec (γ : Type) := List D → γ → (D → γ → Prop) → Prop
def spG (G : GP γ) (f : Spec γ) : Sp := fun vs H Q _ => ∃ Z ds g R, Same Z H ∧ Ats G.K Z ds vs ∧ G.J g H ∧ (∀ a, G.foot g a → Z a = none) ∧ f ds g R ∧
  ∀ d g' Z' v H', R d g' → Same Z Z' → Same Z' H' → (∀ a o, H a = some o → ¬ G.foot g a → H' a = some o) → (∀ a o, Z' a = some o → Z a = none → H a = none) → G.J g' H' → (∀ a, G.foot g' a → Z' a = none ∧ (G.foot g a ∨ H a = none)) → At G.K Z' d v → Q v H'
abbrev Spec0 := List D → DK → Prop
def spP (K : PySem.W.Frag) (f : Spec0) : Sp := fun vs H Q _ => ∃ Z ds R, Same Z H ∧ Ats K Z ds vs ∧ f ds R ∧ ∀ d Z' v H', R d → Same Z Z' → Same Z' H' → Same H H' → (∀ a o, Z' a = some o → Z a = none → H a = none) → At K Z' d v → Q v H'
structure Def (X : Cx) (x : Str) (n : Nat) (sp : Sp) : Prop where
  ex : ∃ f fd k ps, FnOk X.prog X.w X.K X.mg X.base CX0 k f fd ps sp ∧ Room k X.A ∧ X.mg x = some (.ref f) ∧ PySem.W.keepIn X.K (.ref f) = true ∧ Binds X.K fd ps [] ∧ ps.length = n
def qCallP (f : Spec0) (t : PAx γ) : PEx γ := fun s R => t s fun xs s1 => f xs fun z => R z s1
def qCallG (f : Spec γ) (t : PAx γ) : PEx γ := fun s R => t s fun xs s1 => f xs s1.g fun z g' => R z ⟨s1.ρ, g'⟩
section
variable {x : Str} {p : Pos} {es : List Expr} {t : PAx γ} {n : Nat}
theorem lcallP {f : Spec0} {σ : St} {H : Hp} {Q : VK} (h : lE G (qCallP f t) σ H Q) : tCall (spP G.K f) [] E0 (lA G t) σ H Q := by
  obtain ⟨F, Z, s, R, r, t, q⟩ := h
  refine ⟨F, Z, s, _, r, t, fun xs s1 Z1 vs H1 t1 k1 r1 a1 => ?_⟩
  refine ⟨Z1, xs, _, r1.z, by rw [List.append_nil]; exact a1, t1, fun z Z3 v H3 t3 k3 z3 h3 n3 a3 => ?_⟩
  exact q z s1 Z3 v H3 t3 (k1.trans k3) (r1.ext ⟨h3, k3, z3, n3⟩) a3
theorem qe_call {f : Spec0} (d : Def X x n (spP G.K f)) (hg : Gl X x) (ha : QA X G (e :: es) t) (hdb : (x == ("__debug__" : Str)) = false := by decide) (he : starEach (e :: es) X.env = (false, eval e X.env) :: starEach es X.env := by rfl) (hpl : (backTo pos (starEach es X.env)).any (·.1) = false := by rfl) :
    QE X G (.Call (.Name x p) (e :: es) [] pos) (qCallP f t) := by
  obtain ⟨fa, fd, k, ps, F, hr, hm, hk, hb, _⟩ := d.ex
  exact PE.imp (pe_call F hr hg hm hk hb .nil pass0 ha hdb he hpl) fun _ _ _ h => lcallP h
theorem Rel.after {F : Fra} {Z Z' : Hp} {s : S γ} {σ : St} {H H' : Hp} {g' : γ} (r : Rel G F Z s σ H) (zz : Same Z Z') (zh : Same Z' H') (keep : ∀ a o, H a = some o → ¬ G.foot s.g a → H' a = some o) (nw : ∀ a o, Z' a = some o → Z a = none → H a = none) (hj : G.J g' H')
    (hf : ∀ a, G.foot g' a → Z' a = none ∧ (G.foot s.g a ∨ H a = none)) : Rel G F Z' ⟨s.ρ, g'⟩ σ H' := by
  refine ⟨zh, fun a o e => ?_, fun a h => ?_, r.len, fun i d h => ?_, fun i l h ol => ?_, r.injL, hj, fun a h => (hf a h).1, fun a h => ?_, r.fl.trans zz⟩
  · refine keep a o (r.f _ _ e) fun h => ?_
    have := r.ff a h; rw [e] at this; cases this
  · cases q : Z' a with
    | none => rfl
    | some o =>
      have h1 := nw a o q (r.zb a h)
      obtain ⟨o', e⟩ := F.bf a h
      rw [r.f _ _ e] at h1; cases h1
  · obtain ⟨v, h1, h2⟩ := r.loc i d h
    exact ⟨v, h1, At.mono zz _ _ h2⟩
  · obtain ⟨a, vs, h1, h2, h3, h4, h5, h6⟩ := r.ownL i l h ol
    refine ⟨a, vs, h1, keep _ _ h2 h6, Ats.mono zz _ _ h3, ?_, h5, fun h7 => ?_⟩
    · cases q : Z' a with
      | none => rfl
      | some o => have := nw a o q h4; rw [h2] at this; cases this
    · rcases (hf a h7).2 with h8 | h8
      · exact h6 h8
      · rw [h2] at h8; cases h8
  · rcases (hf a h).2 with h8 | h8
    · exact r.ff a h8
    · exact r.f.free h8
theorem lcallG {f : Spec γ} {σ : St} {H : Hp} {Q : VK} (h : lE G (qCallG f t) σ H Q) : tCall (spG G f) [] E0 (lA G t) σ H Q := by
  obtain ⟨F, Z, s, R, r, t, q⟩ := h
  refine ⟨F, Z, s, _, r, t, fun xs s1 Z1 vs H1 t1 k1 r1 a1 => ?_⟩
  refine ⟨Z1, xs, s1.g, _, r1.z, by rw [List.append_nil]; exact a1, r1.j, r1.zf, t1, fun z g' Z3 v H3 t3 k3 z3 h3 n3 j3 f3 a3 => ?_⟩
  exact q z _ Z3 v H3 t3 (k1.trans k3) (r1.after k3 z3 h3 n3 j3 f3) a3
theorem qe_callG {f : Spec γ} (d : Def X x n (spG G f)) (hg : Gl X x) (ha : QA X G (e :: es) t) (hdb : (x == ("__debug__" : Str)) = false := by decide) (he : starEach (e :: es) X.env = (false, eval e X.env) :: starEach es X.env := by rfl) (hpl : (backTo pos (starEach es X.env)).any (·.1) = false := by rfl) :
    QE X G (.Call (.Name x p) (e :: es) [] pos) (qCallG f t) := by
  obtain ⟨fa, fd, k, ps, F, hr, hm, hk, hb, _⟩ := d.ex
  exact PE.imp (pe_call F hr hg hm hk hb .nil pass0 ha hdb he hpl) fun _ _ _ h => lcallG h
end
end
end Pm
set_option Elab.async false
set_option linter.all false
set_option maxRecDepth 100000
set_option maxHeartbeats 1000000
set_option autoImplicit false
namespace Pm
open PySem PySem.Spec
open PyProof.Rows hiding St
open L2
variable {γ : Type}

section
variable {prog : Program} {w : World} {A : Around} {E : Value → Shared → Prop} {s : Shared}
theorem draw_list {it t : Addr} {items : Array Value} (hne : t ≠ it) : ∀ (n i : Nat) (s : Shared) (Q : List Value → Shared → Prop), s.heap.IsListIter it t i → s.heap.IsList t items → i + n ≤ items.size →
    (∀ h', h'.IsListIter it t (i + n) → Heap.SameBut it s.heap h' → Q ((items.toList.drop i).take n) { s with heap := h' }) → wpAny (model prog w) A (draw (.ref it) n) Q E s
  | 0, i, s, Q, hit, _, _, hQ => by
    show wpAny _ _ (pure []) Q E s
    exact wpAny_pure (by simpa using hQ s.heap hit (Heap.SameBut.refl ..))
  | n + 1, i, s, Q, hit, ht, hle, hQ => by
    have hlt : i < items.size := by omega
    show wpAny _ _ (pyNext (.ref it) >>= _) Q E s
    refine wpAny_bind (wpAny_pyNext_list_item hit ht (x := items[i]) (by simp [hlt]) fun h₁ hit₁ hs₁ => ?_)
    refine wpAny_bind (wpAny_holding (draw_list hne n (i + 1) _ _ hit₁ (ht.extBut hs₁.extBut hne) (by omega) fun h₂ hit₂ hs₂ => wpAny_pure ?_))
    have hd : items.toList.drop i = items[i] :: items.toList.drop (i + 1) := by simp [List.drop_eq_getElem_cons, hlt]
    have := hQ h₂ (by rw [show i + (n + 1) = i + 1 + n by omega]; exact hit₂) (hs₁.trans hs₂)
    rw [hd, List.take_succ_cons] at this
    exact this
theorem unpackItems_list {t : Addr} {items : Array Value} {Q : List Value → Shared → Prop} (hh : A.handled = none) (ht : s.heap.IsList t items)
    (hQ : ∀ h', Heap.ExtBut s.heap.objs.size s.heap h' → Q items.toList { s with heap := h' }) : wpAny (model prog w) A (unpackItems (.ref t) items.size none) Q E s := by
  have hlt : t ≠ s.heap.objs.size := by obtain ⟨o, ho, _⟩ := ht; exact Nat.ne_of_lt (Heap.lt_size ho)
  unfold unpackItems
  refine wpAny_bind ?_
  · unfold notIterableAtAll
    refine wpAny_bind (wpAny_specialOf ht.typeIs PySem.F.slot_list_iter.lookup ?_)
    refine wpAny_pure ?_
    simp only [Bool.false_eq_true, if_false]
    refine wpAny_bind (wpAny_holding (wpAny_pyIter_list ht ?_))
    refine wpAny_bind (wpAny_holding (draw_list hlt items.size 0 _ _ ⟨_, Heap.get?_push_size _ rfl, rfl, rfl⟩ (ht.at fun o e => Heap.get?_push_of_some _ e) (by omega) fun h₁ hit₁ hs₁ => ?_))
    have hall : List.take items.size (List.drop 0 items.toList) = items.toList := by
      rw [List.drop_zero]; exact List.take_of_length_le (by simp)
    rw [hall]
    rw [if_neg (by simp)]
    have ht₁ : h₁.IsList t items := (ht.at fun o e => Heap.get?_push_of_some _ e).extBut hs₁.extBut hlt
    refine wpAny_bind (wpAny_holding (wpAny_pyNext_list_end hh hit₁ ht₁ (by simp) fun h₂ he₂ => ?_))
    simp only [Option.isSome_none, Bool.false_eq_true, if_false]
    refine wpAny_pure (hQ h₂ fun b o hb e => he₂ b o hb (hs₁.extBut b o hb (Heap.get?_push_of_some _ e)))
theorem unpack_list {t : Addr} {items : Array Value} {targets : List (Bool × (Value → Sem Unit))} {Q : Unit → Shared → Prop} (hh : A.handled = none) (ht : s.heap.IsList t items)
    (hn : targets.length = items.size) (hstar : targets.findIdx? (·.1) = none)
    (h : ∀ h', Heap.ExtBut s.heap.objs.size s.heap h' → wpAny (model prog w) A (assignInOrder (targets.map (·.2)) items.toList) Q E { s with heap := h' }) :
    wpAny (model prog w) A (unpack (.ref t) targets) Q E s := by
  unfold unpack
  rw [hn, hstar]
  exact wpAny_bind (wpAny_holding (unpackItems_list hh ht h))
theorem assign_Tuple_list {env : Env} {elts : List Expr} {x1} {pos : Pos} {t : Addr} {items : Array Value} {Q : Unit → Shared → Prop} (hh : A.handled = none) (ht : s.heap.IsList t items)
    (hn : (assignEach elts env).length = items.size) (hstar : (assignEach elts env).findIdx? (·.1) = none)
    (h : ∀ h', Heap.ExtBut s.heap.objs.size s.heap h' → wpAny (model prog w) A (assignInOrder ((assignEach elts env).map (·.2)) items.toList) Q E { s with heap := h' }) :
    wpAny (model prog w) A (assign (.Tuple elts x1 pos) env (.ref t)) Q E s := by
  rw [assign_Tuple]
  exact wpAny_bind (wpAny_standAt (unpack_list hh ht hn hstar h))
end
section
variable {X : Cx} {pos : Pos}
def gLs (K : PySem.W.Frag) (n : Nat) (t : TGs) : TG := fun v σ H Q => ∃ a xs, v = .ref a ∧ SqL K H a xs ∧ xs.length = n ∧ t xs σ H Q
theorem pg_lst {es : List Expr} {k : Nat} {t : TGs} {n : Nat} (hc : X.calm = true) (h : PGs X es t)
    (hn : (assignEach es X.env).length = n := by rfl) (hst : (assignEach es X.env).findIdx? (·.1) = none := by rfl) : PG X (.Tuple es k pos) (gLs X.K n t) := by
  refine ⟨fun pins s σ H v u Q I r hw => ?_⟩
  obtain ⟨a, xs, e1, hq, hl, hw⟩ := hw
  subst e1
  cases r
  obtain ⟨its, rv, ht, hz⟩ := I.list hq
  refine assign_Tuple_list (I.ok.hd hc) ht.isList (by simp [hn, ← hl, rv.length]) hst fun h' hx => ?_
  have I1 : L2.Inv X pins σ H { s with heap := h' } := I.kept (t' := s.toks) fun b o e => hx b o (Nat.ne_of_lt (Heap.lt_size e)) e
  exact h.run pins _ σ H xs _ Q I1 (by simpa using rv) hw
end

end Pm
set_option Elab.async false
set_option linter.all false
set_option maxRecDepth 100000
set_option maxHeartbeats 1000000
set_option autoImplicit false
namespace Pm
open PySem PySem.Spec
open PyProof.Rows hiding St
open L2
variable {γ : Type}

section
variable {X : Cx} {G : GP γ} {a b c e : Expr} {pos : Pos}
def qNext : PSx γ := fun E s => E.nx s
def qSeq (t u : PSx γ) : PSx γ := fun E s => t { E with nx := u E } s
theorem lSeq {t u : PSx γ} {De : Ends} {σ : St} {H : Hp} (h : lS G (qSeq t u) De σ H) : tSeq (lS G t) (lS G u) De σ H := by
  obtain ⟨F, Z, s, E, r, t, n, rt, bk, ct⟩ := h
  refine ⟨F, Z, s, _, r, t, fun s' Z' σ' H' u' k r' => ?_, rt, bk, ct⟩
  exact ⟨F, Z', s', E, r', u', fun s2 Z2 σ2 H2 q k2 r2 => n s2 Z2 σ2 H2 q (k.trans k2) r2, fun d s2 Z2 σ2 v H2 q k2 r2 a2 => rt d s2 Z2 σ2 v H2 q (k.trans k2) r2 a2,
    fun s2 Z2 σ2 H2 q k2 r2 => bk s2 Z2 σ2 H2 q (k.trans k2) r2, fun s2 Z2 σ2 H2 q k2 r2 => ct s2 Z2 σ2 H2 q (k.trans k2) r2⟩
theorem qss_nil : QSs X G [] (qNext : PSx γ) := PSs.imp pss_nil fun De σ H ⟨F, Z, s, E, r, t, n, _⟩ => n s Z σ H t (Same.refl _) r
theorem qss_cons {st : Stmt} {rest : List Stmt} {t u : PSx γ} (h1 : QS X G st t) (h2 : QSs X G rest u) : QSs X G (st :: rest) (qSeq t u) := PSs.imp (pss_cons h1 h2) fun _ _ _ h => lSeq h
theorem qss_one {st : Stmt} {t : PSx γ} (h1 : QS X G st t) : QSs X G [st] t := pss_one h1
def qNever : PSx γ := fun _ _ => False
theorem qs_never {st : Stmt} : QS X G st (qNever : PSx γ) := PS.imp (t := tNever) ps_never fun De σ H ⟨F, Z, s, E, r, t, _⟩ => t.elim
theorem qss_never {st : List Stmt} : QSs X G st (qNever : PSx γ) := PSs.imp (t := tNever) pss_never fun De σ H ⟨F, Z, s, E, r, t, _⟩ => t.elim
def qDrop (te : PEx γ) : PSx γ := fun E s => te s fun _ s1 => E.nx s1
theorem qs_expr {te : PEx γ} (he : QE X G e te) (hs : swapsWith e none pos.line X.env = pure false := by rfl) : QS X G (.Expr e pos) (qDrop te) := by
  refine PS.imp (ps_expr he hs) fun De σ H ⟨F, Z, s, E, r, t, n, _⟩ => ?_
  exact ⟨F, Z, s, _, r, t, fun d s1 Z1 v H1 t1 k1 r1 a1 => n s1 Z1 σ H1 t1 k1 r1⟩
def qRet (te : PEx γ) : PSx γ := fun E s => te s fun d s1 => E.rt d s1.g
theorem qs_ret {te : PEx γ} (he : QE X G e te) : QS X G (.Return (some e) pos) (qRet te) := by
  refine PS.imp (ps_ret he) fun De σ H ⟨F, Z, s, E, r, t, _, rt, _⟩ => ?_
  exact ⟨F, Z, s, _, r, t, fun d s1 Z1 v H1 t1 k1 r1 a1 => rt d s1 Z1 σ v H1 t1 k1 r1 a1⟩
def qIf (c : PTx γ) (t u : PSx γ) : PSx γ := fun E s => c s fun b s1 => Br b (t E s1) (u E s1)
theorem qs_if {c : Expr} {a b : List Stmt} {tc : PTx γ} {t u : PSx γ} (hc : QT X G c tc) (ha : QSs X G a t) (hb : QSs X G b u) : QS X G (.If c a b pos) (qIf tc t u) := by
  refine PS.imp (ps_if hc ha hb) fun De σ H ⟨F, Z, s, E, r, t, n, rt, bk, ct⟩ => ?_
  refine ⟨F, Z, s, _, r, t, fun k s1 Z1 H1 t1 k1 r1 => ?_⟩
  have go : ∀ {t : PSx γ}, t E s1 → lS G t De σ H1 := fun {t} q => ⟨F, Z1, s1, E, r1, q, fun s2 Z2 σ2 H2 q k2 r2 => n s2 Z2 σ2 H2 q (k1.trans k2) r2, fun d s2 Z2 σ2 v H2 q k2 r2 a2 => rt d s2 Z2 σ2 v H2 q (k1.trans k2) r2 a2,
    fun s2 Z2 σ2 H2 q k2 r2 => bk s2 Z2 σ2 H2 q (k1.trans k2) r2, fun s2 Z2 σ2 H2 q k2 r2 => ct s2 Z2 σ2 H2 q (k1.trans k2) r2⟩
  cases k with
  | true => exact iteT (go (t1.1 rfl))
  | false => exact iteF (go (t1.2 rfl))

def qAsg (te : PEx γ) (i : Nat) : PSx γ := fun E s => te s fun d s1 => E.nx ⟨s1.ρ.set i (some (.val d)), s1.g⟩
theorem lasg {te : PEx γ} {i : Nat} {De : Ends} {σ : St} {H : Hp} (h : lS G (qAsg te i) De σ H) : tAsg (lE G te) (gName i) De σ H := by
  obtain ⟨F, Z, s, E, r, t, n, _⟩ := h
  exact ⟨F, Z, s, _, r, t, fun d s1 Z1 v H1 t1 k1 r1 a1 => n _ Z1 _ H1 t1 k1 (r1.put a1)⟩
def qAsgOwn (te : PAx γ) (i : Nat) : PSx γ := fun E s => te s fun ds s1 => E.nx ⟨s1.ρ.set i (some (.own ds)), s1.g⟩
theorem lasgOwn {te : PAx γ} {i : Nat} {De : Ends} {σ : St} {H : Hp} (h : lS G (qAsgOwn te i) De σ H) : tAsg (lF G te) (gName i) De σ H := by
  obtain ⟨F, Z, s, E, r, t, n, _⟩ := h
  exact ⟨F, Z, s, _, r, t, fun ds s1 Z1 a vs H1 t1 k1 r1 ha a1 hz hf hg ho => n _ Z1 _ H1 t1 k1 (r1.putOwn ha a1 hz hf hg ho)⟩
section
variable {i : Nat} {x : Str} {pos' : Pos}
theorem qs_set {te : PEx γ} (hN : X.N.Nodup) (hi : X.N[i]? = some x) (hx : Loc X.env.scope x) (he : QE X G e te) (hs : swapsWith e (some (.Name x pos')) pos.line X.env = pure false := by rfl) (hf : X.fn x = true ∨ X.env.scope.names.lookup x = some .local := by first | exact .inl rfl | exact .inr rfl | assumption) :
    QS X G (.Assign [.Name x pos'] e pos) (qAsg te i) := PS.imp (ps_set hN hi hx he hs hf) fun _ _ _ h => lasg h
theorem qs_setOwn {te : PAx γ} (hN : X.N.Nodup) (hi : X.N[i]? = some x) (hx : Loc X.env.scope x) (he : QF X G e te) (hs : swapsWith e (some (.Name x pos')) pos.line X.env = pure false := by rfl) (hf : X.fn x = true ∨ X.env.scope.names.lookup x = some .local := by first | exact .inl rfl | exact .inr rfl | assumption) :
    QS X G (.Assign [.Name x pos'] e pos) (qAsgOwn te i) := PS.imp (ps_set hN hi hx he hs hf) fun _ _ _ h => lasgOwn h
end
inductive Tg where | nm (i : Nat) | tp (ts : List Tg)
mutual
def Tg.put : Tg → D → List (Option L) → Option (List (Option L))
  | .nm i, d, ρ => some (ρ.set i (some (.val d)))
  | .tp ts, d, ρ => match d with
    | .tup ds => Tg.puts ts ds ρ
    | .lst ds => Tg.puts ts ds ρ
    | _ => none
def Tg.puts : List Tg → List D → List (Option L) → Option (List (Option L))
  | [], [], ρ => some ρ
  | t :: ts, d :: ds, ρ => (t.put d ρ).bind fun ρ' => Tg.puts ts ds ρ'
  | _, _, _ => none
end
mutual
def Tg.js : Tg → List Nat
  | .nm i => [i]
  | .tp ts => Tg.jss ts
def Tg.jss : List Tg → List Nat
  | [] => []
  | t :: ts => t.js ++ Tg.jss ts
end
def qPut (tg : Tg) : PGx γ := fun d s R => match tg.put d s.ρ with
  | some ρ' => R ⟨ρ', s.g⟩
  | none => False
def qPuts (ts : List Tg) : List D → S γ → (S γ → Prop) → Prop := fun ds s R => match Tg.puts ts ds s.ρ with
  | some ρ' => R ⟨ρ', s.g⟩
  | none => False
def lGs (G : GP γ) (js : List Nat) (t : List D → S γ → (S γ → Prop) → Prop) : TGs := fun vs σ H Q => ∃ F Z s ds R, Rel G F Z s σ H ∧ Ats G.K Z ds vs ∧ t ds s R ∧
  ∀ s' Z' σ' H', R s' → Same Z Z' → Rel G F Z' s' σ' H' → H' = H → (∀ j, j ∉ js → σ'[j]? = σ[j]?) → σ'.length = σ.length → Q σ' H'
theorem PGs.imp {es : List Expr} {t t' : TGs} (h : PGs X es t) (k : ∀ v σ H Q, t' v σ H Q → t v σ H Q) : PGs X es t' := ⟨fun pins s σ H v u Q I r w => h.run pins s σ H v u Q I r (k _ _ _ _ w)⟩
abbrev QG' (X : Cx) (G : GP γ) (tg : Expr) (t : Tg) : Prop := PG X tg (lG G t.js (qPut t))
abbrev QGs (X : Cx) (G : GP γ) (es : List Expr) (ts : List Tg) : Prop := PGs X es (lGs G (Tg.jss ts) (qPuts ts))
theorem qg_name {i : Nat} {x : Str} (hN : X.N.Nodup) (hi : X.N[i]? = some x) (hx : Loc X.env.scope x) (hf : X.fn x = true ∨ X.env.scope.names.lookup x = some .local := by first | exact .inl rfl | exact .inr rfl | assumption) : QG' X G (.Name x pos) (.nm i) := by
  refine PG.imp (pg_name hN hi hx hf) fun v σ H Q ⟨F, Z, s, d, R, r, a, t, q⟩ => ?_
  exact q _ Z _ H t (Same.refl _) (r.put a) rfl (fun j hj => List.getElem?_set_ne (by simpa [Tg.js, eq_comm] using hj)) (by simp)
theorem qgs_nil : QGs X G [] [] := by
  refine PGs.imp pgs_nil fun vs σ H Q ⟨F, Z, s, ds, R, r, a, t, q⟩ => ?_
  cases ds with
  | nil => exact ⟨a, q _ Z σ H t (Same.refl _) r rfl (fun _ _ => rfl) rfl⟩
  | cons d ds => exact t.elim
theorem qgs_cons {e : Expr} {es : List Expr} {t : Tg} {ts : List Tg} (h1 : QG' X G e t) (h2 : QGs X G es ts)
    (hs : (assignEach (e :: es) X.env).map (·.2) = assign e X.env :: (assignEach es X.env).map (·.2) := by rfl) : QGs X G (e :: es) (t :: ts) := by
  refine PGs.imp (pgs_cons h1 h2 hs) fun vs σ H Q ⟨F, Z, s, ds, R, r, a, w, q⟩ => ?_
  cases ds with
  | nil => exact w.elim
  | cons d ds =>
    simp only [Ats] at a
    obtain ⟨v, vr, e, a1, a2⟩ := a
    unfold qPuts at w
    simp only [Tg.puts] at w
    cases hp : t.put d s.ρ with
    | none => rw [hp] at w; exact w.elim
    | some ρ' =>
      rw [hp] at w
      simp only [Option.bind_some] at w
      refine ⟨v, vr, e, F, Z, s, d, fun s1 => qPuts ts ds s1 R, r, a1, ?_, fun s1 Z1 σ1 H1 w1 k1 r1 e1 o1 l1 => ?_⟩
      · unfold qPut; rw [hp]; exact w
      · refine ⟨F, Z1, s1, ds, R, r1, Ats.mono k1 _ _ a2, w1, fun s2 Z2 σ2 H2 w2 k2 r2 e2 o2 l2 => ?_⟩
        refine q s2 Z2 σ2 H2 w2 (k1.trans k2) r2 (e2.trans e1) (fun j hj => ?_) (l2.trans l1)
        simp only [Tg.jss, List.mem_append, not_or] at hj
        rw [o2 j hj.2, o1 j hj.1]
theorem Tg.puts_len : ∀ {ts : List Tg} {ds : List D} {ρ ρ' : List (Option L)}, Tg.puts ts ds ρ = some ρ' → ds.length = ts.length
  | [], [], _, _, _ => rfl
  | [], _ :: _, _, _, h => by simp [Tg.puts] at h
  | _ :: _, [], _, _, h => by simp [Tg.puts] at h
  | t :: ts, d :: ds, ρ, ρ', h => by
    simp only [Tg.puts] at h
    cases hp : t.put d ρ with
    | none => rw [hp] at h; simp at h
    | some ρ1 =>
      rw [hp] at h
      simp only [Option.bind_some] at h
      simp [Tg.puts_len h]
theorem qg_tup {es : List Expr} {k : Nat} {ts : List Tg} (hc : X.calm = true) (h : QGs X G es ts) (hK : X.K = G.K := by rfl)
    (hn : (assignEach es X.env).length = ts.length := by rfl) (hst : (assignEach es X.env).findIdx? (·.1) = none := by rfl) : QG' X G (.Tuple es k pos) (.tp ts) := by
  refine ⟨fun pins s0 σ H v u Q I rv hw => ?_⟩
  obtain ⟨F, Z, s, d, R, r, a, w, q⟩ := hw
  unfold qPut at w
  cases d with
  | tup ds =>
    simp only [Tg.put] at w
    simp only [At] at a
    obtain ⟨p, vs, e, hs, a⟩ := a
    have hl : ds.length = ts.length := by
      cases hp : Tg.puts ts ds s.ρ with
      | none => rw [hp] at w; exact w.elim
      | some ρ' => exact Tg.puts_len hp
    exact (pg_tup hc h hn hst).run pins s0 σ H v u Q I rv ⟨p, vs, e, by rw [hK]; exact seqT r.z hs, by rw [a.len]; exact hl, F, Z, s, ds, R, r, a, w, q⟩
  | lst ds =>
    simp only [Tg.put] at w
    simp only [At] at a
    obtain ⟨p, vs, e, hs, a⟩ := a
    have hl : ds.length = ts.length := by
      cases hp : Tg.puts ts ds s.ρ with
      | none => rw [hp] at w; exact w.elim
      | some ρ' => exact Tg.puts_len hp
    exact (pg_lst hc h hn hst).run pins s0 σ H v u Q I rv ⟨p, vs, e, .inl (.inl (r.z _ _ hs)), by rw [a.len]; exact hl, F, Z, s, ds, R, r, a, w, q⟩
  | _ => exact w.elim
def qAsgT (te : PEx γ) (tg : Tg) : PSx γ := fun E s => te s fun d s1 => qPut tg d s1 E.nx
theorem qs_setT {tg : Expr} {te : PEx γ} {t : Tg} (he : QE X G e te) (hg : QG' X G tg t) (hs : swapsWithSole [tg] e pos.line X.env = pure false := by rfl) (hw : swappedStores [tg] e X.env = pure none := by rfl)
    (h1 : (assignEach [tg] X.env).map (·.2) = [assign tg X.env] := by rfl) : QS X G (.Assign [tg] e pos) (qAsgT te t) := by
  refine PS.imp (ps_asg he hg hs hw h1) fun De σ H ⟨F, Z, s, E, r, t, n, _⟩ => ?_
  exact ⟨F, Z, s, _, r, t, fun d s1 Z1 v H1 t1 k1 r1 a1 => ⟨F, Z1, s1, d, E.nx, r1, a1, t1, fun s2 Z2 σ2 H2 q2 k2 r2 _ _ _ => n s2 Z2 σ2 H2 q2 (k1.trans k2) r2⟩⟩
def qPar (i j : Nat) (ta : PAx γ) : PSx γ := fun E s => ta s fun ds s1 => match ds with
  | [d, e] => E.nx ⟨(s1.ρ.set i (some (.val d))).set j (some (.val e)), s1.g⟩
  | _ => False
theorem qs_par {i j : Nat} {x y : Str} {a b : Expr} {ta : PAx γ} {px py pt : Pos} {kt k2 pt2} (hc : X.calm = true) (hN : X.N.Nodup) (hi : X.N[i]? = some x) (hj : X.N[j]? = some y) (hij : i ≠ j)
    (hx : X.env.scope.names.lookup x = some .local) (hy : X.env.scope.names.lookup y = some .local) (ha : QA X G [a, b] ta)
    (hw : swappedStores [.Tuple [.Name x px, .Name y py] kt pt] (.Tuple [a, b] k2 pt2) X.env = pure (some [x, y]))
    (hs : swapsWithSole [.Tuple [.Name x px, .Name y py] kt pt] (.Tuple [a, b] k2 pt2) pos.line X.env = pure false := by rfl) :
    QS X G (.Assign [.Tuple [.Name x px, .Name y py] kt pt] (.Tuple [a, b] k2 pt2) pos) (qPar i j ta) := by
  refine PS.imp (ps_par hc hN hi hj hij hx hy ha hw hs) fun De σ H ⟨F, Z, s, E, r, t, n, _⟩ => ?_
  refine ⟨F, Z, s, _, r, t, fun ds s1 Z1 vs H1 t1 k1 r1 a1 => ?_⟩
  match ds, t1 with
  | [d, e], t1 =>
    simp only [Ats] at a1
    obtain ⟨v, _, rfl, a2, w, _, rfl, a3, rfl⟩ := a1
    exact ⟨v, w, rfl, n _ Z1 _ H1 t1 k1 ((r1.put a2).put a3)⟩

def qWhile (c : PTx γ) (tb : PSx γ) : PSx γ := fun E s => ∃ W : Nat → S γ → Prop, (∃ m s0, Wk s s0 ∧ W m s0) ∧ ∀ m s, W m s → c s fun b s1 => Br b (tb { E with nx := fun s' => ∃ m' s'', m' < m ∧ Wk s' s'' ∧ W m' s'', ct := fun s' => ∃ m' s'', m' < m ∧ Wk s' s'' ∧ W m' s'', bk := E.nx } s1) (E.nx s1)
theorem qs_while {c : Expr} {body : List Stmt} {tc : PTx γ} {tb : PSx γ} (hp : PassesOwn (model X.prog X.w) X.A X.env X.xe) (hc : QT X G c tc) (hb : QSs X G body tb) : QS X G (.While c body [] pos) (qWhile tc tb) := by
  refine PS.imp (ps_while hp hc hb) fun De σ H ⟨F, Z, s, E, r, ⟨W, ⟨m0, s0, wk0, w0⟩, turn⟩, n, rt, bk, ct⟩ => ?_
  refine ⟨fun m σ H => ∃ Z' s', Same Z Z' ∧ Rel G F Z' s' σ H ∧ W m s', ⟨m0, Z, s0, Same.refl _, r.weak wk0, w0⟩, ?_⟩
  rintro m σ1 H1 ⟨Z1, s1, k1, r1, w1⟩
  refine ⟨F, Z1, s1, _, r1, turn m s1 w1, fun b s2 Z2 H2 t2 k2 r2 => ?_⟩
  cases b with
  | true =>
    refine iteT ?_
    refine ⟨fun σ' H' => ∃ m', m' < m ∧ ∃ Z' s', Same Z Z' ∧ Rel G F Z' s' σ' H' ∧ W m' s', fun σ' H' h => h, F, Z2, s2, _, r2, t2.1 rfl, ?_, ?_, ?_, ?_⟩
    · rintro s3 Z3 σ3 H3 ⟨m', s'', hm, wk, w'⟩ k3 r3
      exact ⟨m', hm, Z3, s'', (k1.trans k2).trans k3, r3.weak wk, w'⟩
    · intro d s3 Z3 σ3 v H3 q k3 r3 a3
      exact rt d s3 Z3 σ3 v H3 q ((k1.trans k2).trans k3) r3 a3
    · intro s3 Z3 σ3 H3 q k3 r3
      exact n s3 Z3 σ3 H3 q ((k1.trans k2).trans k3) r3
    · rintro s3 Z3 σ3 H3 ⟨m', s'', hm, wk, w'⟩ k3 r3
      exact ⟨m', hm, Z3, s'', (k1.trans k2).trans k3, r3.weak wk, w'⟩
  | false => exact iteF (n s2 Z2 σ1 H2 (t2.2 rfl) (k1.trans k2) r2)

def Walks (K : PySem.W.Frag) (J : It) (Z : Hp) (ds : List D) : Prop := ∀ (i : Nat) (Z1 H : Hp), Same Z Z1 → Same Z1 H →
  (∀ d, ds[i]? = some d → J.go i H ∧ ∀ x H', J.yld i H x H' → ∃ Z', Ext Z1 H Z' H' ∧ At K Z' d x) ∧ (i = ds.length → J.stop i H)
def lI (G : GP γ) (t : PAx γ) : TI := fun σ H R => ∃ F Z s Rp, Rel G F Z s σ H ∧ t s Rp ∧ ∀ ds s' Z' H' J, Rp ds s' → Same Z Z' → Rel G F Z' s' σ H' → Walks G.K J Z' ds → R J H'
abbrev QI (X : Cx) (G : GP γ) (tg iter : Expr) (t : PAx γ) : Prop := PI X tg iter (lI G t)
theorem PI.imp {tg iter : Expr} {t t' : TI} (h : PI X tg iter t) (k : ∀ σ H R, t' σ H R → t σ H R) : PI X tg iter t' := ⟨fun pins s σ H R I w => h.run pins s σ H R I (k _ _ _ w)⟩

def qFor (ti : PAx γ) (tg : Tg) (tb : PSx γ) : PSx γ := fun E s => ti s fun ds s1 => ∃ I : Nat → S γ → Prop, (∃ s0, Wk s1 s0 ∧ I 0 s0) ∧
  (∀ i d s, ds[i]? = some d → I i s → qPut tg d s fun s2 => tb { E with nx := fun s' => ∃ s'', Wk s' s'' ∧ I (i + 1) s'', ct := fun s' => ∃ s'', Wk s' s'' ∧ I (i + 1) s'', bk := E.nx } s2) ∧ ∀ s, I ds.length s → E.nx s
theorem qs_for {iter tg : Expr} {body : List Stmt} {ti : PAx γ} {t : Tg} {tb : PSx γ} (hp : PassesOwn (model X.prog X.w) X.A X.env X.xe) (hc : X.calm = true) (hi : QI X G tg iter ti) (hg : QG' X G tg t) (hb : QSs X G body tb)
    (hs : ∀ x, foldedSetIterable iter X.env x = pure x := by intro _; rfl) : QS X G (.For tg iter body [] pos) (qFor ti t tb) := by
  refine PS.imp (ps_for hp hc hi hg hb hs) fun De σ H ⟨F, Z, s, E, r, w, n, rt, bk, ct⟩ => ?_
  refine ⟨F, Z, s, _, r, w, fun ds s1 Z1 H1 J w1 k1 r1 wJ => ?_⟩
  obtain ⟨I, ⟨s0, wk0, i0⟩, turn, done⟩ := w1
  refine ⟨fun i m σ H => m = ds.length - i ∧ i ≤ ds.length ∧ ∃ Z' s', Same Z1 Z' ∧ Rel G F Z' s' σ H ∧ I i s', ⟨ds.length, rfl, Nat.zero_le _, Z1, s0, Same.refl _, r1.weak wk0, i0⟩, ?_⟩
  rintro i m σ2 H2 ⟨hm, hi, Z2, s2, k2, r2, i2⟩
  obtain ⟨go, stop⟩ := wJ i Z2 H2 k2 r2.z
  by_cases hlt : i < ds.length
  · obtain ⟨g1, y1⟩ := go ds[i] (List.getElem?_eq_getElem hlt)
    refine .inr ⟨g1, fun σ' H' => ∃ Z' s', Same Z1 Z' ∧ Rel G F Z' s' σ' H' ∧ I (i + 1) s', fun σ' H' h => ⟨ds.length - (i + 1), by omega, rfl, hlt, h⟩, fun x H3 y => ?_⟩
    obtain ⟨Z3, x3, a3⟩ := y1 x H3 y
    have r3 := r2.ext x3
    have k3 := k2.trans x3.zz
    refine ⟨F, Z3, s2, ds[i], _, r3, a3, turn i ds[i] s2 (List.getElem?_eq_getElem hlt) i2, fun s4 Z4 σ4 H4 w4 k4 r4 _ _ _ => ?_⟩
    refine ⟨F, Z4, s4, _, r4, w4, ?_, ?_, ?_, ?_⟩
    · rintro s5 Z5 σ5 H5 ⟨s'', wk, i5⟩ k5 r5
      exact ⟨Z5, s'', (k3.trans k4).trans k5, r5.weak wk, i5⟩
    · intro d s5 Z5 σ5 v H5 q k5 r5 a5
      exact rt d s5 Z5 σ5 v H5 q (((k1.trans k3).trans k4).trans k5) r5 a5
    · intro s5 Z5 σ5 H5 q k5 r5
      exact n s5 Z5 σ5 H5 q (((k1.trans k3).trans k4).trans k5) r5
    · rintro s5 Z5 σ5 H5 ⟨s'', wk, i5⟩ k5 r5
      exact ⟨Z5, s'', (k3.trans k4).trans k5, r5.weak wk, i5⟩
  · have e : i = ds.length := by omega
    subst e
    exact .inl ⟨stop rfl, n s2 Z2 σ2 H2 (done s2 i2) (k1.trans k2) r2⟩
end
end Pm
set_option Elab.async false
set_option linter.all false
set_option maxRecDepth 100000
set_option maxHeartbeats 1000000
set_option autoImplicit false
namespace Pm
open PySem PySem.Spec
open PyProof.Rows hiding St
open L2
variable {γ : Type}

def wipeL (ρ : List (Option L)) : List Nat → List (Option L)
  | [] => ρ
  | v :: vs => (wipeL ρ vs).set v none
def S.wipe (s : S γ) (vs : List Nat) : S γ := ⟨wipeL s.ρ vs, s.g⟩
theorem wipeL_length (ρ : List (Option L)) : ∀ vs : List Nat, (wipeL ρ vs).length = ρ.length
  | [] => rfl
  | v :: vs => by unfold wipeL; rw [List.length_set, wipeL_length ρ vs]
theorem wipeL_some {ρ : List (Option L)} {i : Nat} {x : L} : ∀ {vs : List Nat}, (wipeL ρ vs)[i]? = some (some x) → ρ[i]? = some (some x) ∧ i ∉ vs
  | [], h => ⟨h, by simp⟩
  | v :: vs, h => by
    unfold wipeL at h
    by_cases hi : v = i
    · subst hi
      by_cases hv : v < (wipeL ρ vs).length
      · rw [List.getElem?_set_self hv] at h; cases h
      · rw [List.getElem?_eq_none (by simpa using hv)] at h; cases h
    · rw [List.getElem?_set_ne hi] at h
      obtain ⟨h1, h2⟩ := wipeL_some h
      exact ⟨h1, by simp only [List.mem_cons, not_or]; exact ⟨fun e => hi e.symm, h2⟩⟩
def keepVal : Option (Option L) → Option L
  | some (some (.val d)) => some (.val d)
  | _ => none
def S.back (s1 : S γ) (vs : List Nat) (s : S γ) : S γ := ⟨s.ρ.mapIdx fun j l => if j ∈ vs then keepVal s1.ρ[j]? else l, s.g⟩

section
variable {G : GP γ} {F : Fra} {Z Z1 : Hp} {s s' s1 : S γ} {σ σ' : St} {H H1 : Hp}
theorem Rel.resl (r : Rel G F Z s σ H) (hg : s'.g = s.g) (hl : s'.ρ.length = σ'.length) (k : ∀ (i : Nat) l, s'.ρ[i]? = some (some l) → s.ρ[i]? = some (some l) ∧ σ'[i]? = σ[i]?) : Rel G F Z s' σ' H := by
  obtain ⟨ρ', g'⟩ := s'
  simp only at hg hl k
  subst hg
  refine ⟨r.z, r.f, r.zb, hl.symm, fun i d h => ?_, fun i l h ol => ?_, fun i j l m a n h1 ol h2 om h3 h4 => ?_, r.j, r.zf, r.ff, r.fl⟩
  · obtain ⟨h1, h2⟩ := k i _ h
    obtain ⟨v, h3, h4⟩ := r.loc i d h1
    exact ⟨v, h2.trans h3, h4⟩
  · obtain ⟨h1, h2⟩ := k i _ h
    obtain ⟨a, vs, h3, h4⟩ := r.ownL i l h1 ol
    exact ⟨a, vs, h2.trans h3, h4⟩
  · obtain ⟨k1, k2⟩ := k i _ h1
    obtain ⟨k3, k4⟩ := k j _ h2
    exact r.injL i j l m a n k1 ol k3 om (k2 ▸ h3) (k4 ▸ h4)
theorem Rel.wiped (r : Rel G F Z s σ H) (vs : List Nat) : Rel G F Z (s.wipe vs) (wipe σ vs) H :=
  r.resl rfl (by show (wipeL s.ρ vs).length = _; rw [wipeL_length, wipe_length, r.len]) fun i l h => by
    obtain ⟨h1, h2⟩ := wipeL_some (show (wipeL s.ρ vs)[i]? = some (some l) from h)
    exact ⟨h1, wipe_out h2⟩
theorem Rel.backed (r1 : Rel G F Z1 s1 σ H1) {vs : List Nat} (r : Rel G F Z s (wipe σ vs) H) (k : Same Z1 Z) : Rel G F Z (s1.back vs s) σ H := by
  have out : ∀ (i : Nat) l, (s1.back vs s).ρ[i]? = some (some l) → (i ∈ vs ∧ ∃ d, l = .val d ∧ s1.ρ[i]? = some (some (.val d))) ∨ (i ∉ vs ∧ s.ρ[i]? = some (some l)) := fun i l h => by
    simp only [S.back, List.getElem?_mapIdx] at h
    cases q : s.ρ[i]? with
    | none => rw [q] at h; cases h
    | some o =>
      rw [q] at h
      simp only [Option.map_some, Option.some.injEq] at h
      by_cases hi : i ∈ vs
      · rw [if_pos hi] at h
        left
        refine ⟨hi, ?_⟩
        unfold keepVal at h
        split at h
        · rename_i d hd; cases h; exact ⟨d, rfl, hd⟩
        · cases h
      · rw [if_neg hi] at h; subst h; exact .inr ⟨hi, rfl⟩
  have hl : σ.length = s.ρ.length := by rw [← r.len, wipe_length]
  refine ⟨r.z, r.f, r.zb, by simpa [S.back] using hl, fun i d h => ?_, fun i l h ol => ?_, fun i j l m a n h1 ol h2 om h3 h4 => ?_, r.j, r.zf, r.ff, r.fl⟩
  · rcases out i _ h with ⟨_, d', e, h1⟩ | ⟨hi, h1⟩
    · cases e
      obtain ⟨v, h2, h3⟩ := r1.loc i d h1
      exact ⟨v, h2, At.mono k _ _ h3⟩
    · obtain ⟨v, h2, h3⟩ := r.loc i d h1
      exact ⟨v, by rw [← wipe_out hi]; exact h2, h3⟩
  · rcases out i _ h with ⟨_, d', e, h1⟩ | ⟨hi, h1⟩
    · subst e; cases ol
    · obtain ⟨a, ws, h2, h3⟩ := r.ownL i l h1 ol
      exact ⟨a, ws, by rw [← wipe_out hi]; exact h2, h3⟩
  · rcases out i _ h1 with ⟨_, d', e, _⟩ | ⟨hi, k1⟩
    · subst e; cases ol
    · rcases out j _ h2 with ⟨_, d', e, _⟩ | ⟨hj, k2⟩
      · subst e; cases om
      · exact r.injL i j l m a n k1 ol k2 om (by rw [wipe_out hi]; exact h3) (by rw [wipe_out hj]; exact h4)
end

def qYes : PTx γ := fun s R => R true s
abbrev QTs (X : Cx) (G : GP γ) (ifs : List Expr) (t : PTx γ) : Prop := PTs X ifs (lT G t)
theorem PTs.imp {X : Cx} {ifs : List Expr} {t t' : TT} (h : PTs X ifs t) (k : ∀ σ H Q, t' σ H Q → t σ H Q) : PTs X ifs t' := ⟨fun pins s σ H Q I w => h.run pins s σ H Q I (k _ _ _ w)⟩
theorem qts_nil {X : Cx} {G : GP γ} : QTs X G [] (qYes : PTx γ) := PTs.imp pts_nil fun σ H Q ⟨F, Z, s, R, r, t, q⟩ => q true s Z H t (Same.refl _) r
theorem qts_one {X : Cx} {G : GP γ} {c : Expr} {t : PTx γ} (h : QT X G c t) : QTs X G [c] t := pts_one h

def lcB (tg : Tg) (vs : List Nat) (tt : PTx γ) (te : PEx γ) (R : List D → S γ → Prop) (ds : List D) (s1 : S γ) : Prop := ∃ I : Nat → List D → S γ → Prop, (∃ s0, Wk (s1.wipe vs) s0 ∧ I 0 [] s0) ∧
  (∀ i d acc s, ds[i]? = some d → I i acc s → qPut tg d s fun s2 => tt s2 fun b s3 => Br b (te s3 fun y s4 => acc.length < sizeLine ∧ ∃ s5, Wk (s4.wipe vs) s5 ∧ I (i + 1) (acc ++ [y]) s5) (∃ s5, Wk (s3.wipe vs) s5 ∧ I (i + 1) acc s5)) ∧
  ∀ acc s, I ds.length acc s → R acc (s1.back vs s)
def qLc (ti : PAx γ) (tg : Tg) (vs : List Nat) (tt : PTx γ) (te : PEx γ) : PAx γ := fun s R => ti s fun ds s1 => lcB tg vs tt te R ds s1

def Fra.bar (F : Fra) (D : Addr) (o : HO) : Fra := ⟨upd F.F D o, fun a => F.B a ∨ a = D, fun a h => by
  by_cases e : a = D
  · subst e; exact ⟨o, upd_same⟩
  · rw [upd_ne e]
    rcases h with h | h
    · exact F.bf a h
    · exact absurd h e⟩

section
variable {G : GP γ} {F : Fra} {Z : Hp} {s : S γ} {σ : St} {H : Hp}
theorem Rel.bar (r : Rel G F Z s σ H) {D : Addr} {o : HO} (hD : H D = some o) (hz : Z D = none) (hg : ¬ G.foot s.g D) (ho : Nob s σ D) : Rel G (F.bar D o) Z s σ H := by
  refine ⟨r.z, fun a u e => ?_, fun a h => ?_, r.len, r.loc, fun i l h ol => ?_, r.injL, r.j, r.zf, fun a h => ?_, r.fl⟩
  · by_cases hb : a = D
    · subst hb
      have e' : some o = some u := by rw [← e]; exact upd_same.symm
      rw [hD, e']
    · exact r.f a u (by rw [← e]; exact (upd_ne hb).symm)
  · rcases h with h | h
    · exact r.zb a h
    · rw [h]; exact hz
  · obtain ⟨a, vs, h1, h2, h3, h4, h5⟩ := r.ownL i l h ol
    have : a ≠ D := fun e => ho i l h ol (by rw [← e]; exact h1)
    exact ⟨a, vs, h1, h2, h3, h4, by show upd F.F D o a = none; rw [upd_ne this]; exact h5.1, h5.2⟩
  · have : a ≠ D := fun e => hg (by rw [← e]; exact h)
    show upd F.F D o a = none
    rw [upd_ne this]; exact r.ff a h
theorem Rel.unbar {D : Addr} {o o' : HO} (hF : F.F D = none) (r : Rel G (F.bar D o) Z s σ H) : H D = some o ∧ Z D = none ∧ ¬ G.foot s.g D ∧ Nob s σ D ∧ Rel G F Z s σ (upd H D o') := by
  have e1 : H D = some o := r.f D o upd_same
  have e2 : Z D = none := r.zb D (.inr rfl)
  have e3 : ¬ G.foot s.g D := fun h => by
    have z : upd F.F D o D = none := r.ff D h
    rw [upd_same] at z; cases z
  have e4 : Nob s σ D := fun i l h ol e => by
    obtain ⟨a, vs, h1, h2, h3, h4, h5, _⟩ := r.ownL i l h ol
    rw [h1] at e
    cases e
    have z : upd F.F D o D = none := h5
    rw [upd_same] at z; cases z
  refine ⟨e1, e2, e3, e4, fun a u e => ?_, fun a u e => ?_, fun a h => r.zb a (.inl h), r.len, r.loc, fun i l h ol => ?_, r.injL, G.stay _ _ _ r.j fun a h => ?_, r.zf, fun a h => ?_, r.fl⟩
  · rw [upd_ne (ne_of_none e e2)]; exact r.z a u e
  · have n : a ≠ D := ne_of_none e hF
    rw [upd_ne n]; exact r.f a u (by show upd F.F D o a = some u; rw [upd_ne n]; exact e)
  · obtain ⟨a, vs, h1, h2, h3, h4, h5⟩ := r.ownL i l h ol
    have n : a ≠ D := fun e => e4 i l h ol (by rw [← e]; exact h1)
    refine ⟨a, vs, h1, by rw [upd_ne n]; exact h2, h3, h4, ?_, h5.2⟩
    have z : upd F.F D o a = none := h5.1
    rw [upd_ne n] at z; exact z
  · exact upd_ne fun e => e3 (by rw [← e]; exact h)
  · have n : a ≠ D := fun e => e3 (by rw [← e]; exact h)
    have z : upd F.F D o a = none := r.ff a h
    rw [upd_ne n] at z; exact z
end

theorem llc {K : PySem.W.Frag} {G : GP γ} {ti : PAx γ} {tg : Tg} {vs : List Nat} {tt : PTx γ} {te : PEx γ} (hj : ∀ j ∈ tg.js, j ∈ vs) {σ : St} {H : Hp} {Q : VK} (h : lF G (qLc ti tg vs tt te) σ H Q) :
    tLc (lI G ti) (lG G tg.js (qPut tg)) (lT G tt) (lE G te) vs σ H Q := by
  obtain ⟨F, Z, s, R, r, t, q⟩ := h
  refine ⟨F, Z, s, _, r, t, fun ds s1 Z1 H1 J w1 k1 r1 wJ D hD => ?_⟩
  obtain ⟨I, ⟨s0, wk0, i0⟩, turn, done⟩ := w1
  have FD : F.F D = none := r1.f.free hD
  refine ⟨fun i m H => m = ds.length - i ∧ i ≤ ds.length ∧ ∃ Z' s' acc av, Same Z1 Z' ∧ Rel G (F.bar D (.lst av)) Z' s' (wipe σ vs) H ∧ Ats G.K Z' acc av ∧ I i acc s', ⟨ds.length, rfl, Nat.zero_le _, ?_⟩, ?_⟩
  · obtain ⟨f1, f2, f3, f4⟩ := r1.fresh hD
    have r2 := (r1.grow (same_upd (o := HO.lst []) hD)).bar upd_same f1 f3 f4
    exact ⟨Z1, s0, [], [], Same.refl _, (r2.wiped vs).weak wk0, rfl, i0⟩
  · rintro i m H2 ⟨hm, hi, Z2, s2, acc, av, k2, r2, a2, i2⟩
    obtain ⟨go, stop⟩ := wJ i Z2 H2 k2 r2.z
    by_cases hlt : i < ds.length
    · obtain ⟨g1, y1⟩ := go ds[i] (List.getElem?_eq_getElem hlt)
      refine .inr ⟨g1, fun H' => ∃ Z' s' acc av, Same Z1 Z' ∧ Rel G (F.bar D (.lst av)) Z' s' (wipe σ vs) H' ∧ Ats G.K Z' acc av ∧ I (i + 1) acc s', fun H' h => ⟨ds.length - (i + 1), by omega, rfl, hlt, h⟩, fun x H3 y => ?_⟩
      obtain ⟨Z3, x3, a3⟩ := y1 x H3 y
      have r3 := r2.ext x3
      have k3 := k2.trans x3.zz
      refine ⟨F.bar D (.lst av), Z3, s2, ds[i], _, r3, a3, turn i ds[i] acc s2 (List.getElem?_eq_getElem hlt) i2, fun s4 Z4 σ4 H4 w4 k4 r4 e4 o4 l4 => ?_⟩
      have we : wipe σ4 vs = wipe σ vs := by
        refine List.ext_getElem? fun j => ?_
        by_cases hjv : j ∈ vs
        · have n1 : ∀ (τ : St), τ.length = σ.length → (wipe τ vs)[j]? = if j < σ.length then some none else none := fun τ hl => by
            by_cases hlt : j < σ.length
            · rw [if_pos hlt]
              have hlt' : j < (wipe τ vs).length := by rw [wipe_length, hl]; exact hlt
              rw [List.getElem?_eq_getElem hlt']
              congr 1
              cases e : (wipe τ vs)[j] with
              | none => rfl
              | some v => exact absurd hjv (wipe_some (show (wipe τ vs)[j]? = some (some v) by rw [List.getElem?_eq_getElem hlt', e])).2
            · rw [if_neg hlt, List.getElem?_eq_none (by rw [wipe_length, hl]; omega)]
          rw [n1 σ4 (by rw [l4, wipe_length]), n1 σ rfl]
        · rw [wipe_out hjv, o4 j (fun h => hjv (hj j h))]
      refine ⟨we, F.bar D (.lst av), Z4, s4, _, r4, w4, fun b s5 Z5 H5 w5 k5 r5 => ?_⟩
      cases b with
      | true =>
        refine iteT ⟨F.bar D (.lst av), Z5, s5, _, r5, w5.1 rfl, fun y s6 Z6 v H6 w6 k6 r6 a6 => ?_⟩
        obtain ⟨w6, s7, wk7, i7⟩ := w6
        obtain ⟨e1, e2, e3, e4', r7⟩ := r6.unbar (o' := .lst (av ++ [v])) FD
        have kk := ((x3.zz.trans k4).trans k5).trans k6
        refine ⟨av, e1, by rw [a2.len]; exact w6, Z6, s7, acc ++ [y], av ++ [v], k2.trans kk, ?_, (Ats.mono kk _ _ a2).append ⟨v, [], rfl, a6, rfl⟩, i7⟩
        have r8 := r7.bar (o := .lst (av ++ [v])) upd_same e2 e3 e4'
        have r9 := r8.wiped vs
        rw [we] at r9
        exact r9.weak wk7
      | false =>
        refine iteF ?_
        obtain ⟨s7, wk7, i7⟩ := w5.2 rfl
        have kk := (x3.zz.trans k4).trans k5
        have r9 := r5.wiped vs
        rw [we] at r9
        exact ⟨Z5, s7, acc, av, k2.trans kk, r9.weak wk7, Ats.mono kk _ _ a2, i7⟩
    · have e : i = ds.length := by omega
      subst e
      obtain ⟨e1, e2, e3, e4, r7⟩ := r2.unbar (o' := .lst av) FD
      have hu : upd H2 D (.lst av) = H2 := by
        funext b
        by_cases hb : b = D
        · subst hb; rw [upd_same, e1]
        · rw [upd_ne hb]
      rw [hu] at r7
      refine .inl ⟨stop rfl, q acc _ Z2 D av H2 (done acc s2 i2) (k1.trans k2) (r1.backed r7 k2) e1 a2 e2 FD (by exact e3) fun j l h ol => ?_⟩
      -- no list of one's own is the new one
      intro e
      have r8 := r1.backed r7 k2
      obtain ⟨a, ws, h1, h2, h3, h4, h5, h6⟩ := r8.ownL j l h ol
      rw [h1] at e
      cases e
      simp only [S.back, List.getElem?_mapIdx] at h
      cases q' : s2.ρ[j]? with
      | none => rw [q'] at h; cases h
      | some o =>
        rw [q'] at h
        simp only [Option.map_some, Option.some.injEq] at h
        by_cases hjv : j ∈ vs
        · rw [if_pos hjv] at h
          unfold keepVal at h
          split at h
          · cases h; cases ol
          · cases h
        · rw [if_neg hjv] at h
          subst h
          exact e4 j l q' ol (by rw [wipe_out hjv]; exact h1)

section
variable {X : Cx} {G : GP γ} {elt tg iter : Expr} {ifs : List Expr} {scope : Scope} {own : List (Str × Nat)} {pos : Pos} {ti : PAx γ} {t : Tg} {tt : PTx γ} {te : PEx γ}
theorem qf_lc (hc : X.calm = true) (hN : X.N.Nodup) (hi : QI X G tg iter ti) (ok : BlkOk X.N X.env.scope scope own) (hj : ∀ j ∈ t.js, j ∈ own.map (·.2))
    (hg : ∀ (s : Shared) (H : Hp) (C : Addr) (cl : List (Str × Addr)) (fp : List Addr), QG' (X.blk s H scope (compEnvC scope cl C X.env) fp) G tg t)
    (ht : ∀ (s : Shared) (H : Hp) (C : Addr) (cl : List (Str × Addr)) (fp : List Addr), QTs (X.blk s H scope (compEnvC scope cl C X.env) fp) G ifs tt)
    (he : ∀ (s : Shared) (H : Hp) (C : Addr) (cl : List (Str × Addr)) (fp : List Addr), QE (X.blk s H scope (compEnvC scope cl C X.env) fp) G elt te) (hs : ∀ x, foldedSetIterable iter X.env x = pure x := by intro _; rfl) :
    QF X G (.ListComp elt [⟨tg, iter, ifs, 0⟩] scope pos) (qLc ti t (own.map (·.2)) tt te) :=
  PE.imp (pe_lc hc hN hi ok hg ht he hs) fun _ _ _ h => llc (K := X.K) hj h
theorem qs_lc {i : Nat} {y : Str} {py spos : Pos} (hc : X.calm = true) (hN : X.N.Nodup) (hy : X.N[i]? = some y) (hyl : X.env.scope.names.lookup y = some .local)
    (hsw : swapsWith (.ListComp elt [⟨tg, iter, ifs, 0⟩] scope pos) (some (.Name y py)) spos.line X.env = pure true) (hi : QI X G tg iter ti) (ok : BlkOk X.N X.env.scope scope own) (hj : ∀ j ∈ t.js, j ∈ own.map (·.2))
    (hg : ∀ (s : Shared) (H : Hp) (C : Addr) (cl : List (Str × Addr)) (fp : List Addr), QG' (X.blk s H scope (compEnvC scope cl C X.env) fp) G tg t)
    (ht : ∀ (s : Shared) (H : Hp) (C : Addr) (cl : List (Str × Addr)) (fp : List Addr), QTs (X.blk s H scope (compEnvC scope cl C X.env) fp) G ifs tt)
    (he : ∀ (s : Shared) (H : Hp) (C : Addr) (cl : List (Str × Addr)) (fp : List Addr), QE (X.blk s H scope (compEnvC scope cl C X.env) fp) G elt te) (hs : ∀ x, foldedSetIterable iter X.env x = pure x := by intro _; rfl) :
    QS X G (.Assign [.Name y py] (.ListComp elt [⟨tg, iter, ifs, 0⟩] scope pos) spos) (qAsg (qSet (qLc ti t (own.map (·.2)) tt te)) i) := by
  refine PS.imp (ps_setLc hc hN hy hyl hsw hi ok hg ht he hs) fun De σ H ⟨F, Z, s, E, r, w, n, _⟩ => ?_
  show tLc _ _ _ _ _ σ H _
  refine llc (K := X.K) hj ⟨F, Z, s, _, r, w, fun ds s1 Z1 a vs H1 t1 k1 r1 ha a1 hz hf hg ho => ?_⟩
  have k := same_upd (o := HO.lst vs) hz
  exact n _ (upd Z1 a (.lst vs)) _ H1 t1 (k1.trans k) ((r1.settle ha hz hg (Fra.nb hf) ho).put ⟨a, vs, rfl, upd_same, Ats.mono k _ _ a1⟩)
end

def startL (n : Nat) (ds : List D) : List (Option L) := ds.map (fun d => some (.val d)) ++ List.replicate (n - ds.length) none
theorem start_at {K : PySem.W.Frag} {Z : Hp} {N : List Str} {ds : List D} {vs : List V} (h : Ats K Z ds vs) {i : Nat} {l : L} (e : (startL N.length ds)[i]? = some (some l)) : ∃ d, l = .val d ∧ ∃ v, (L2.start N vs)[i]? = some (some v) ∧ At K Z d v := by
  unfold startL at e
  by_cases hi : i < ds.length
  · rw [List.getElem?_append_left (by simpa using hi), List.getElem?_map] at e
    cases q : ds[i]? with
    | none => rw [q] at e; cases e
    | some d =>
      rw [q] at e
      simp only [Option.map_some, Option.some.injEq] at e
      obtain ⟨v, h1, h2⟩ := h.get q
      refine ⟨d, e.symm, v, ?_, h2⟩
      unfold L2.start
      rw [List.getElem?_append_left (by rw [List.length_map, h.len]; exact hi), List.getElem?_map, h1]; rfl
  · rw [List.getElem?_append_right (by simpa using hi), List.getElem?_replicate] at e
    split at e <;> cases e
section
variable {P : Program} {w : World} {K : PySem.W.Frag} {mg : Str → Option Value} {base : Heap}
abbrev Fn (K : PySem.W.Frag) (x qual : Str) (st : Stmt) (f : Addr) (fd : FuncData) : Prop := FunD K x qual (defArgs st) (defBody st) (defScope st) [] [] f fd
theorem Fn.ok {x qual : Str} {st : Stmt} {f : Addr} {fd : FuncData} {N ps : List Str} {k : Nat} {sp : Sp} (F : Fn K x qual st f fd) (S : FnScope N ps (defScope st)) (len : ∀ vs H Q E, sp vs H Q E → vs.length = ps.length)
    (hbody : ∀ (cdv : Value) (A : Around) (outer : List Env) (s : Shared) (H : Hp) (vs : List V) (Q : VK) (E : XK), Room k (A.deeper (envOfC qual (defScope st) s.heap.objs.size f cdv)) → sp vs H Q E →
      ∃ t, PSs (cxOf CX0 P w K mg base N qual (defScope st) f cdv A outer s H E).nox (defBody st) t ∧ t { nx := fun _ H' => Q .non H', rt := Q } (L2.start N vs) H) : FnOk P w K mg base CX0 (k + 1) f fd ps sp :=
  FunD.ok F S len fun cdv A outer s H vs Q E hr h => by
    obtain ⟨t, h1, h2⟩ := hbody cdv A outer s H vs Q E hr h
    exact ⟨t, PSs.nox h1, h2⟩
theorem okP {x qual : Str} {st : Stmt} {f : Addr} {fd : FuncData} {N ps : List Str} {k : Nat} (F : Fn K x qual st f fd) (S : FnScope N ps (defScope st)) {fs : Spec0} (len : ∀ ds R, fs ds R → ds.length = ps.length)
    (body : ∃ t : PSx Unit, (∀ (cdv : Value) (A : Around) (outer : List Env) (s : Shared) (H : Hp) (E : XK), Room k (A.deeper (envOfC qual (defScope st) s.heap.objs.size f cdv)) →
      QSs (cxOf CX0 P w K mg base N qual (defScope st) f cdv A outer s H E).nox (none0 K) (defBody st) t) ∧ ∀ ds R, fs ds R → t { nx := fun _ => R .non, rt := fun d _ => R d } ⟨startL N.length ds, ()⟩) : FnOk P w K mg base CX0 (k + 1) f fd ps (spP K fs) := by
  refine F.ok S (fun vs H Q E h => ?_) (fun cdv A outer s H vs Q E hr h => ?_)
  · obtain ⟨Z, ds, R, _, a, h, _⟩ := h
    rw [a.len]; exact len _ _ h
  · obtain ⟨t, hb, hp⟩ := body
    refine ⟨_, hb cdv A outer s H E hr, ?_⟩
    obtain ⟨Z, ds, R, k, a, h, q⟩ := h
    have hl : ps.length ≤ N.length := by have := congrArg List.length S.pre; rw [List.length_take] at this; omega
    have hd := len _ _ h
    refine ⟨⟨H, fun b => H b ≠ none ∧ Z b = none, fun b hb => Option.ne_none_iff_exists'.mp hb.1⟩, Z, _, _, ?_, hp ds R h, ?_, ?_, ?_, ?_⟩
    · refine ⟨k, Same.refl _, fun b hb => hb.2, ?_, fun i d e => ?_, fun i l e ol => ?_, fun i j l m b n e1 o1 e2 => ?_, trivial, fun b z => False.elim z, fun b z => False.elim z, fun _ _ z => by cases z⟩
      · unfold L2.start startL
        simp only [List.length_append, List.length_map, List.length_replicate, a.len]
      · obtain ⟨d', e', v, h1, h2⟩ := start_at a e
        cases e'
        exact ⟨v, h1, h2⟩
      · obtain ⟨d', e', _⟩ := start_at a e
        subst e'; cases ol
      · obtain ⟨d', e', _⟩ := start_at a e1
        subst e'; cases o1
    · intro s' Z' σ' H' q' k' r'
      exact q .non Z' .non H' q' k' r'.z r'.f (fun b o e n => by
        cases hb : H b with
        | none => rfl
        | some u => have := r'.zb b ⟨by rw [hb]; simp, n⟩; rw [e] at this; cases this) rfl
    · intro d s' Z' σ' v H' q' k' r' a'
      exact q d Z' v H' q' k' r'.z r'.f (fun b o e n => by
        cases hb : H b with
        | none => rfl
        | some u => have := r'.zb b ⟨by rw [hb]; simp, n⟩; rw [e] at this; cases this) a'
    · intro s' Z' σ' H' q'; exact q'.elim
    · intro s' Z' σ' H' q'; exact q'.elim
theorem liftG {G : GP γ} {N ps : List Str} {fs : Spec γ} {t : PSx γ} (hl : ps.length ≤ N.length) (len : ∀ ds g R, fs ds g R → ds.length = ps.length) (hp : ∀ ds g R, fs ds g R → t { nx := fun s => R .non s.g, rt := R } ⟨startL N.length ds, g⟩)
    (grow : ∀ g g' : γ, ∀ a, G.foot g' a → G.foot g a) (hfl : ∀ a, G.fl a = none) {vs : List V} {H : Hp} {Q : VK} {E : XK} (h : spG G fs vs H Q E) : lS G t { nx := fun _ H' => Q .non H', rt := Q } (L2.start N vs) H := by
  obtain ⟨Z, ds, g, R, k, a, hj, hzf, h, q⟩ := h
  have hd := len _ _ _ h
  classical
  have hF : ∀ (b : Addr) (o : HO), (if G.foot g b then none else H b) = some o → H b = some o ∧ ¬ G.foot g b := fun b o e => by
    by_cases hb : G.foot g b
    · rw [if_pos hb] at e; cases e
    · rw [if_neg hb] at e; exact ⟨e, hb⟩
  refine ⟨⟨fun b => if G.foot g b then none else H b, fun b => H b ≠ none ∧ Z b = none ∧ ¬ G.foot g b, fun b hb => ?_⟩, Z, _, _, ?_, hp ds g R h, ?_, ?_, ?_, ?_⟩
  · simp only [if_neg hb.2.2]; exact Option.ne_none_iff_exists'.mp hb.1
  · refine ⟨k, fun b o e => (hF b o e).1, fun b hb => hb.2.1, ?_, fun i d e => ?_, fun i l e ol => ?_, fun i j l m b n e1 o1 e2 => ?_, hj, hzf, fun b z => if_pos z, fun b _ z => by rw [hfl b] at z; cases z⟩
    · unfold L2.start startL
      simp only [List.length_append, List.length_map, List.length_replicate, a.len]
    · obtain ⟨d', e', v, h1, h2⟩ := start_at a e
      cases e'
      exact ⟨v, h1, h2⟩
    · obtain ⟨d', e', _⟩ := start_at a e
      subst e'; cases ol
    · obtain ⟨d', e', _⟩ := start_at a e1
      subst e'; cases o1
  all_goals
    have fin : ∀ (d : D) (s' : Pm.S γ) (Z' : Hp) (σ' : St) (v : V) (H' : Hp), R d s'.g → Same Z Z' → Rel G ⟨fun b => if G.foot g b then none else H b, fun b => H b ≠ none ∧ Z b = none ∧ ¬ G.foot g b, fun b hb => by simp only [if_neg hb.2.2]; exact Option.ne_none_iff_exists'.mp hb.1⟩ Z' s' σ' H' → At G.K Z' d v → Q v H' :=
      fun d s' Z' σ' v H' q' k' r' a' => q d s'.g Z' v H' q' k' r'.z (fun b o e n => r'.f b o (by simp only [if_neg n]; exact e)) (fun b o e n => by
        cases hb : H b with
        | none => rfl
        | some u =>
          by_cases hf : G.foot g b
          · have := r'.zf b (by first | exact grow _ _ _ hf | exact hf); rw [e] at this; cases this
          · have := r'.zb b ⟨by rw [hb]; simp, n, hf⟩; rw [e] at this; cases this) r'.j (fun b hb => ⟨r'.zf b hb, .inl (grow _ _ b hb)⟩) a'
  · intro s' Z' σ' H' q' k' r'
    exact fin .non s' Z' σ' .non H' q' k' r' rfl
  · exact fin
  · intro s' Z' σ' H' q'; exact q'.elim
  · intro s' Z' σ' H' q'; exact q'.elim
theorem okG {G : GP γ} (hK : G.K = K) {x qual : Str} {st : Stmt} {f : Addr} {fd : FuncData} {N ps : List Str} {k : Nat} (F : Fn K x qual st f fd) (S : FnScope N ps (defScope st)) {fs : Spec γ} (len : ∀ ds g R, fs ds g R → ds.length = ps.length)
    (body : ∃ t : PSx γ, (∀ (cdv : Value) (A : Around) (outer : List Env) (s : Shared) (H : Hp) (E : XK), Room k (A.deeper (envOfC qual (defScope st) s.heap.objs.size f cdv)) →
      QSs (cxOf CX0 P w K mg base N qual (defScope st) f cdv A outer s H E).nox G (defBody st) t) ∧ ∀ ds g R, fs ds g R → t { nx := fun s => R .non s.g, rt := R } ⟨startL N.length ds, g⟩)
    (grow : ∀ g g' : γ, ∀ a, G.foot g' a → G.foot g a) (hfl : ∀ a, G.fl a = none := by intro _; rfl) : FnOk P w K mg base CX0 (k + 1) f fd ps (spG G fs) := by
  subst hK
  refine F.ok S (fun vs H Q E h => ?_) (fun cdv A outer s H vs Q E hr h => ?_)
  · obtain ⟨Z, ds, g, R, _, a, _, _, h, _⟩ := h
    rw [a.len]; exact len _ _ _ h
  · obtain ⟨t, hb, hp⟩ := body
    exact ⟨_, hb cdv A outer s H E hr, liftG (ps := ps) (by have := congrArg List.length S.pre; rw [List.length_take] at this; omega) len hp grow hfl h⟩
end
end Pm
set_option Elab.async false
set_option linter.all false
set_option maxRecDepth 100000
set_option maxHeartbeats 1000000
set_option autoImplicit false
namespace Pm
open PySem PySem.Spec
open PyProof.Rows hiding St
open L2
variable {γ : Type}

def keyPy : Key → PyData
  | .inl i => .int i
  | .inr x => .str x
mutual
def D.py : D → PyData
  | .non => .none
  | .bl b => .bool b
  | .int i => .int i
  | .str x => .str x
  | .lst xs => .list (D.pys xs)
  | .tup xs => .tuple (D.pys xs)
  | .dct ks xs => .dict ((ks.map keyPy).zip (D.pys xs))
  | .obj _ => .none
def D.pys : List D → List PyData
  | [] => []
  | d :: ds => d.py :: D.pys ds
end
mutual
def D.pln : D → Bool
  | .non => true
  | .bl _ => true
  | .int _ => true
  | .str x => PyData.strOk x
  | .lst xs => D.plns xs
  | .tup xs => D.plns xs
  | .dct _ _ => false
  | .obj _ => false
def D.plns : List D → Bool
  | [] => true
  | d :: ds => d.pln && D.plns ds
end
mutual
def D.dep : D → Nat
  | .lst xs => D.deps xs + 1
  | .tup xs => D.deps xs + 1
  | .dct _ xs => D.deps xs + 1
  | _ => 0
def D.deps : List D → Nat
  | [] => 0
  | d :: ds => max d.dep (D.deps ds)
end
mutual
def D.eqv : D → D → Bool
  | .non, .non => true
  | .bl a, .bl b => a == b
  | .bl a, .int j => (if a then 1 else 0) == j
  | .int i, .bl b => i == (if b then 1 else 0)
  | .int i, .int j => i == j
  | .str x, .str y => x == y
  | .lst xs, .lst ys => D.eqvs xs ys
  | .tup xs, .tup ys => D.eqvs xs ys
  | _, _ => false
def D.eqvs : List D → List D → Bool
  | [], [] => true
  | x :: xs, y :: ys => D.eqv x y && D.eqvs xs ys
  | _, _ => false
end
mutual
theorem eqv_py : ∀ (d e : D), d.pln = true → e.pln = true → PyData.eqv d.py e.py = D.eqv d e
  | .lst xs, e, h, h' => by
    cases e <;> simp_all only [D.pln, D.py, D.eqv, PyData.eqv, Bool.false_eq_true]
    exact eqvs_py xs _ h h'
  | .tup xs, e, h, h' => by
    cases e <;> simp_all only [D.pln, D.py, D.eqv, PyData.eqv, Bool.false_eq_true]
    exact eqvs_py xs _ h h'
  | .non, e, h, h' => by cases e <;> simp_all [D.pln, D.py, D.eqv, PyData.eqv]
  | .bl a, e, h, h' => by cases e <;> simp_all [D.pln, D.py, D.eqv, PyData.eqv]
  | .int a, e, h, h' => by cases e <;> simp_all [D.pln, D.py, D.eqv, PyData.eqv]
  | .str a, e, h, h' => by cases e <;> simp_all [D.pln, D.py, D.eqv, PyData.eqv]
  | .dct _ _, e, h, h' => by simp [D.pln] at h
  | .obj _, e, h, h' => by simp [D.pln] at h
theorem eqvs_py : ∀ (xs ys : List D), D.plns xs = true → D.plns ys = true → PyData.eqvAll (D.pys xs) (D.pys ys) = D.eqvs xs ys
  | [], [], _, _ => by simp [D.pys, D.eqvs, PyData.eqvAll]
  | [], _ :: _, _, _ => by simp [D.pys, D.eqvs, PyData.eqvAll]
  | _ :: _, [], _, _ => by simp [D.pys, D.eqvs, PyData.eqvAll]
  | x :: xs, y :: ys, h, h' => by
    simp only [D.plns, Bool.and_eq_true] at h h'
    simp only [D.pys, D.eqvs, PyData.eqvAll]
    rw [eqv_py x y h.1 h'.1, eqvs_py xs ys h.2 h'.2]
end
mutual
theorem canLay_py : ∀ (d : D), d.pln = true → d.py.canLay0 = true
  | .lst xs, h => by simp only [D.pln] at h; simp only [D.py, PyData.canLay0]; exact canLays_py xs h
  | .tup xs, h => by simp only [D.pln] at h; simp only [D.py, PyData.canLay0]; exact canLays_py xs h
  | .non, h => rfl
  | .bl _, h => rfl
  | .int _, h => rfl
  | .str _, h => by simp only [D.pln] at h; simp only [D.py, PyData.canLay0]; exact h
  | .dct _ _, h => by simp [D.pln] at h
  | .obj _, h => by simp [D.pln] at h
theorem canLays_py : ∀ (ds : List D), D.plns ds = true → PyData.canLayAll0 (D.pys ds) = true
  | [], _ => rfl
  | d :: ds, h => by
    simp only [D.plns, Bool.and_eq_true] at h
    simp only [D.pys, PyData.canLayAll0, Bool.and_eq_true]
    exact ⟨canLay_py d h.1, canLays_py ds h.2⟩
end
mutual
theorem dep_py : ∀ (d : D), d.pln = true → d.py.depth = d.dep
  | .lst xs, h => by simp only [D.pln] at h; simp only [D.py, PyData.depth, D.dep, deps_py xs h]
  | .tup xs, h => by simp only [D.pln] at h; simp only [D.py, PyData.depth, D.dep, deps_py xs h]
  | .non, h => by simp [D.py, PyData.depth, D.dep]
  | .bl _, h => by simp [D.py, PyData.depth, D.dep]
  | .int _, h => by simp [D.py, PyData.depth, D.dep]
  | .str _, h => by simp [D.py, PyData.depth, D.dep]
  | .dct _ _, h => by simp [D.pln] at h
  | .obj _, h => by simp [D.pln] at h
theorem deps_py : ∀ (ds : List D), D.plns ds = true → PyData.depthAll (D.pys ds) = D.deps ds
  | [], _ => by simp [D.pys, PyData.depthAll, D.deps]
  | d :: ds, h => by
    simp only [D.plns, Bool.and_eq_true] at h
    simp only [D.pys, PyData.depthAll, D.deps, dep_py d h.1, deps_py ds h.2]
end
section
variable {K : PySem.W.Frag} {Z H : Hp}
mutual
theorem At.dp (k : Same Z H) : ∀ (d : D) (v : V), At K Z d v → d.pln = true → Dp K H v d.py
  | .lst xs, v, h, p => by
    simp only [At] at h; simp only [D.pln] at p; simp only [D.py]
    obtain ⟨a, vs, rfl, h2, h3⟩ := h
    exact .lst (.inl (.inl (k _ _ h2))) (Ats.dp k xs vs h3 p)
  | .tup xs, v, h, p => by
    simp only [At] at h; simp only [D.pln] at p; simp only [D.py]
    obtain ⟨a, vs, rfl, h2, h3⟩ := h
    exact .tup (seqT k h2) (Ats.dp k xs vs h3 p)
  | .non, v, h, p => by simp only [At] at h; subst h; exact .non
  | .bl b, v, h, p => by simp only [At] at h; subst h; exact .bl b
  | .int i, v, h, p => by simp only [At] at h; subst h; exact .int i
  | .str x, v, h, p => by simp only [At] at h; subst h; exact .str x
  | .dct _ _, _, h, p => by simp [D.pln] at p
  | .obj _, _, h, p => by simp [D.pln] at p
theorem Ats.dp (k : Same Z H) : ∀ (ds : List D) (vs : List V), Ats K Z ds vs → D.plns ds = true → DpAll K H vs (D.pys ds)
  | [], vs, h, p => by simp only [Ats] at h; subst h; exact .nil
  | d :: ds, vs, h, p => by
    simp only [Ats] at h; simp only [D.plns, Bool.and_eq_true] at p; simp only [D.pys]
    obtain ⟨w, ws, rfl, h2, h3⟩ := h
    exact .cons (At.dp k d w h2 p.1) (Ats.dp k ds ws h3 p.2)
end
end

theorem dk {K : PySem.W.Frag} {Z H : Hp} {R : DK} {Q : VK} (q : ∀ z Z' v H', R z → Ext Z H Z' H' → At K Z' z v → Q v H') (k : Same Z H) {d : D} {v : V} (h : R d) (a : At K Z d v) : Q v H := q d Z v H h (Ext.refl k) a

section
variable {X : Cx}
def MulOk (i j : Int) : Prop := CMul i j ∨ CMulW i j
theorem MulOk.ok {i j : Int} (h : MulOk i j) : IntMulOk i j := by
  rcases h with h | h
  · exact h.ok
  · exact h.ok
theorem op_mulM : OpR X (binaryOp .Mult) (rI MulOk fun i j => .int (i * j)) := opI fun _ _ _ _ _ _ _ hc q => mul_int q hc.ok
def DivOk (i j : Int) : Prop := j ≠ 0 ∧ j.natAbs.log2 < 9000
theorem op_fdivM : OpR X (binaryOp .FloorDiv) (rI DivOk fun i j => .int (i.fdiv j)) := opI fun i j _ _ _ _ _ hc q => floordiv_int hc.1 q (.inl (PyProof.noPylong_of_log2 hc.2))
def rCatT' (K : PySem.W.Frag) : R2 := fun x y H Q => ∃ a b xs ys, x = .ref a ∧ y = .ref b ∧ SqT K H a xs ∧ SqT K H b ys ∧ xs.length + ys.length ≤ sizeLine ∧
  (ys = [] → Q (.ref a) H) ∧ (xs = [] → Q (.ref b) H) ∧ (∀ p, H p = none → Q (.ref p) (upd H p (.tup (xs ++ ys))))
theorem op_catT' : OpR X (binaryOp .Add) (rCatT' X.K) := by
  intro pins s σ H x y v u Q I rx ry h
  obtain ⟨a, b, xs, ys, rfl, rfl, ha, hb, hz, q1, q3, q2⟩ := h
  by_cases hx : xs = []
  · cases rx
    cases ry
    obtain ⟨its, r1, p1, _⟩ := I.tuple ha
    obtain ⟨its2, r2, p2, _⟩ := I.tuple hb
    subst hx
    cases r1
    obtain ⟨⟨cls, dd, data, sl⟩, ho, hc, n, hd⟩ := id p1
    obtain ⟨⟨cls2, dd2, data2, sl2⟩, ho2, hc2, n2, hd2⟩ := id p2
    simp only at hc hd hc2 hd2
    subst hc hd hc2 hd2
    exact concat_meets ⟨_, ho, rfl⟩ ⟨_, ho2, rfl⟩ noFill_tuple_add seq_tuple_add PySem.F.slot_tuple_add PySem.F.entry_tuple_add (PySem.F.args_tuple_add_2 _ _)
      (tuple_addW0 a b [].toArray its2.toArray n n2 dd dd2 sl sl2 rfl) ⟨ho, ho2, ⟨.ref b, H, I, rfl, q3 rfl⟩⟩
  · exact op_catT pins s σ H _ _ v u Q I rx ry ⟨a, b, xs, ys, rfl, rfl, ha, hb, hx, hz, q1, fun _ => q2⟩

def addD : D → D → DK → Prop
  | .int i, .int j, R => R (.int (i + j))
  | .str x, .str y, R => x.length + y.length ≤ sizeLine ∧ R (.str (x ++ y))
  | .tup xs, .tup ys, R => xs.length + ys.length ≤ sizeLine ∧ R (.tup (xs ++ ys))
  | .lst xs, .lst ys, R => xs.length + ys.length ≤ sizeLine ∧ R (.lst (xs ++ ys))
  | _, _, _ => False
theorem o_add : OpR X (binaryOp .Add) (dOp2 X.K addD) := by
  intro pins s σ H x y v u Q I rx ry ⟨Z, d, e, R, k, ad, ae, h, q⟩
  cases d <;> cases e <;> try exact h.elim
  · simp only [At] at ad ae
    subst ad; subst ae
    exact op_add pins s σ H _ _ v u Q I rx ry ⟨_, _, rfl, rfl, dk q k h rfl⟩
  · simp only [At] at ad ae
    subst ad; subst ae
    exact op_add_str pins s σ H _ _ v u Q I rx ry ⟨_, _, rfl, rfl, h.1, dk q k h.2 rfl⟩
  · simp only [At] at ad ae
    obtain ⟨a, vs, rfl, a2, a3⟩ := ad
    obtain ⟨b, ws, rfl, b2, b3⟩ := ae
    refine op_cat pins s σ H _ _ v u Q I rx ry ⟨a, b, vs, ws, rfl, rfl, k _ _ a2, k _ _ b2, by rw [a3.len, b3.len]; exact h.1, fun p hp => ?_⟩
    have x := Ext.new (o := HO.lst (vs ++ ws)) k hp
    exact q _ _ _ _ h.2 x ⟨p, _, rfl, upd_same, (Ats.mono x.zz _ _ a3).append (Ats.mono x.zz _ _ b3)⟩
  · simp only [At] at ad ae
    obtain ⟨a, vs, rfl, a2, a3⟩ := ad
    obtain ⟨b, ws, rfl, b2, b3⟩ := ae
    refine op_catT' pins s σ H _ _ v u Q I rx ry ⟨a, b, vs, ws, rfl, rfl, seqT k a2, seqT k b2, by rw [a3.len, b3.len]; exact h.1, fun e => ?_, fun e => ?_, fun p hp => ?_⟩
    · subst e
      have := b3.len
      rename_i ys
      cases ys with
      | nil => exact dk (d := .tup _) q k (by simpa using h.2) (show At X.K Z (.tup _) _ from ⟨a, vs, rfl, a2, a3⟩)
      | cons => simp at this
    · subst e
      have := a3.len
      rename_i xs ys
      cases xs with
      | nil => exact dk (d := .tup _) q k (by simpa using h.2) (show At X.K Z (.tup _) _ from ⟨b, ws, rfl, b2, b3⟩)
      | cons => simp at this
    · have x := Ext.new (o := HO.tup (vs ++ ws)) k hp
      exact q _ _ _ _ h.2 x ⟨p, _, rfl, .inl (.inl upd_same), (Ats.mono x.zz _ _ a3).append (Ats.mono x.zz _ _ b3)⟩
def intD2 (C : Int → Int → Prop) (f : Int → Int → D) : D → D → DK → Prop
  | .int i, .int j, R => C i j ∧ R (f i j)
  | _, _, _ => False
theorem o_int {f : Value → Value → Sem Value} {C : Int → Int → Prop} {g : Int → Int → V} {g' : Int → Int → D} (ho : OpR X f (rI C g)) (hg : ∀ i j Z, At X.K Z (g' i j) (g i j)) : OpR X f (dOp2 X.K (intD2 C g')) := by
  intro pins s σ H x y v u Q I rx ry ⟨Z, d, e, R, k, ad, ae, h, q⟩
  cases d <;> cases e <;> try exact h.elim
  simp only [At] at ad ae
  subst ad; subst ae
  exact ho pins s σ H _ _ v u Q I rx ry ⟨_, _, rfl, rfl, h.1, dk q k h.2 (hg _ _ _)⟩
def intD0 (f : Int → Int → D) : D → D → DK → Prop
  | .int i, .int j, R => R (f i j)
  | _, _, _ => False
theorem o_int0 {f : Value → Value → Sem Value} {g : Int → Int → V} {g' : Int → Int → D} (ho : OpR X f (rI0 g)) (hg : ∀ i j Z, At X.K Z (g' i j) (g i j)) : OpR X f (dOp2 X.K (intD0 g')) := by
  intro pins s σ H x y v u Q I rx ry ⟨Z, d, e, R, k, ad, ae, h, q⟩
  cases d <;> cases e <;> try exact h.elim
  simp only [At] at ad ae
  subst ad; subst ae
  exact ho pins s σ H _ _ v u Q I rx ry ⟨_, _, rfl, rfl, dk q k h (hg _ _ _)⟩
abbrev subD := intD0 fun i j => .int (i - j)
theorem o_sub : OpR X (binaryOp .Sub) (dOp2 X.K subD) := o_int0 op_sub fun _ _ _ => rfl
abbrev fdivD := intD2 DivOk fun i j => .int (i.fdiv j)
theorem o_fdiv : OpR X (binaryOp .FloorDiv) (dOp2 X.K fdivD) := o_int op_fdivM fun _ _ _ => rfl
abbrev modD := intD2 (fun _ j => 0 < j) fun i j => .int (i % j)
theorem o_mod : OpR X (binaryOp .Mod) (dOp2 X.K modD) := o_int op_mod fun _ _ _ => rfl
abbrev powD := intD2 CPow fun i j => .int (i ^ j.toNat)
theorem o_pow : OpR X (binaryOp .Pow) (dOp2 X.K powD) := o_int op_pow fun _ _ _ => rfl
def mulD : D → D → DK → Prop
  | .int i, .int j, R => MulOk i j ∧ R (.int (i * j))
  | .lst xs, .int k, R => (-(2 ^ 63) ≤ k ∧ k < 2 ^ 63 ∧ xs.length * k.toNat ≤ sizeLine) ∧ R (.lst (List.replicate k.toNat xs).flatten)
  | _, _, _ => False
theorem Ats.rep {K : PySem.W.Frag} {Z : Hp} {ds : List D} {vs : List V} (h : Ats K Z ds vs) : ∀ n, Ats K Z (List.replicate n ds).flatten (List.replicate n vs).flatten
  | 0 => rfl
  | n + 1 => by
    rw [List.replicate_succ, List.replicate_succ, List.flatten_cons, List.flatten_cons]
    exact h.append (Ats.rep h n)
theorem o_mul : OpR X (binaryOp .Mult) (dOp2 X.K mulD) := by
  intro pins s σ H x y v u Q I rx ry ⟨Z, d, e, R, k, ad, ae, h, q⟩
  cases d <;> cases e <;> try exact h.elim
  · simp only [At] at ad ae
    subst ad; subst ae
    exact op_mulM pins s σ H _ _ v u Q I rx ry ⟨_, _, rfl, rfl, h.1, dk q k h.2 rfl⟩
  · simp only [At] at ad ae
    obtain ⟨a, vs, rfl, a2, a3⟩ := ad
    subst ae
    refine op_rep pins s σ H _ _ v u Q I rx ry ⟨a, _, vs, rfl, rfl, k _ _ a2, h.1.1, h.1.2.1, by rw [a3.len]; exact h.1.2.2, fun p hp => ?_⟩
    rename_i xs n
    have x := Ext.new (o := HO.lst (List.replicate n.toNat vs).flatten) k hp
    exact q _ _ _ _ h.2 x ⟨p, _, rfl, upd_same, Ats.rep (Ats.mono x.zz _ _ a3) _⟩
def mulF : D → D → (List D → Prop) → Prop
  | .lst xs, .int k, R => (-(2 ^ 63) ≤ k ∧ k < 2 ^ 63 ∧ xs.length * k.toNat ≤ sizeLine) ∧ R (List.replicate k.toNat xs).flatten
  | _, _, _ => False
theorem o_mulF : OpR X (binaryOp .Mult) (dOp2F X.K mulF) := by
  intro pins s σ H x y v u Q I rx ry ⟨Z, d, e, R, k, ad, ae, h, q⟩
  cases d <;> cases e <;> try exact h.elim
  simp only [At] at ad ae
  obtain ⟨a, vs, rfl, a2, a3⟩ := ad
  subst ae
  refine op_rep pins s σ H _ _ v u Q I rx ry ⟨a, _, vs, rfl, rfl, k _ _ a2, h.1.1, h.1.2.1, by rw [a3.len]; exact h.1.2.2, fun p hp => ?_⟩
  exact q _ _ _ _ h.2 (same_upd hp) hp upd_same (Ats.rep a3 _)
def negD : D → DK → Prop
  | .int i, R => R (.int (-i))
  | _, _ => False
theorem o_neg : UnR X (unaryOp .USub) (dOp1 X.K negD) := by
  intro pins s σ H x v Q I rx ⟨Z, d, R, k, ad, h, q⟩
  cases d <;> try exact h.elim
  simp only [At] at ad
  subst ad
  exact un_neg pins s σ H _ v Q I rx ⟨_, rfl, dk q k h rfl⟩

def EqOk : D → D → Prop
  | .str _, .str _ => True
  | d, e => d.pln = true ∧ e.pln = true ∧ d.dep ≤ 64 ∧ e.dep ≤ 64
theorem EqOk.two {d e : D} (h : EqOk d e) : (∃ x y, d = .str x ∧ e = .str y) ∨ (d.pln = true ∧ e.pln = true ∧ d.dep ≤ 64 ∧ e.dep ≤ 64) := by
  unfold EqOk at h
  split at h
  · exact .inl ⟨_, _, rfl, rfl⟩
  · exact .inr h
theorem EqOk.of {d e : D} (h : d.pln = true ∧ e.pln = true ∧ d.dep ≤ 64 ∧ e.dep ≤ 64) : EqOk d e := by
  unfold EqOk
  split
  · trivial
  · exact h
def eqD : D → D → DK → Prop := fun d e R => EqOk d e ∧ R (.bl (D.eqv d e))
def neD : D → D → DK → Prop := fun d e R => EqOk d e ∧ R (.bl (!D.eqv d e))
theorem shaped_py {d : D} (h : d.pln = true) (h' : d.dep ≤ 64) : SeqAt.shaped d.py = true := by
  unfold SeqAt.shaped
  rw [canLay_py d h, dep_py d h, decide_eq_true h']; rfl
theorem str_dec (x y : Str) : decide (V.str x = V.str y) = (x == y) := by
  rw [Bool.eq_iff_iff]; simp
theorem o_eq {k : Nat} (hr : Room k X.A) : OpR X (compareOp .Eq) (dOp2 X.K eqD) := by
  intro pins s σ H x y v u Q I rx ry ⟨Z, d, e, R, k, ad, ae, h, q⟩
  rcases h.1.two with ⟨z1, z2, rfl, rfl⟩ | h1
  · simp only [At] at ad ae
    subst ad; subst ae
    refine op_eq pins s σ H _ _ v u Q I rx ry ⟨rfl, ?_⟩
    rw [str_dec]
    exact dk q k h.2 rfl
  refine op_eqD hr.units pins s σ H _ _ v u Q I rx ry ⟨d.py, e.py, At.dp k d x ad h1.1, At.dp k e y ae h1.2.1, shaped_py h1.1 h1.2.2.1, shaped_py h1.2.1 h1.2.2.2, ?_⟩
  rw [eqv_py d e h1.1 h1.2.1]
  exact dk q k h.2 rfl
theorem o_ne {k : Nat} (hr : Room k X.A) : OpR X (compareOp .NotEq) (dOp2 X.K neD) := by
  intro pins s σ H x y v u Q I rx ry ⟨Z, d, e, R, k, ad, ae, h, q⟩
  rcases h.1.two with ⟨z1, z2, rfl, rfl⟩ | h1
  · simp only [At] at ad ae
    subst ad; subst ae
    refine op_ne pins s σ H _ _ v u Q I rx ry ⟨rfl, ?_⟩
    rw [str_dec]
    exact dk q k h.2 rfl
  refine op_neD hr.units pins s σ H _ _ v u Q I rx ry ⟨d.py, e.py, At.dp k d x ad h1.1, At.dp k e y ae h1.2.1, shaped_py h1.1 h1.2.2.1, shaped_py h1.2.1 h1.2.2.2, ?_⟩
  rw [eqv_py d e h1.1 h1.2.1]
  exact dk q k h.2 rfl
abbrev leD := intD0 fun i j => .bl (decide (i ≤ j))
abbrev gtD := intD0 fun i j => .bl (decide (j < i))
abbrev ltD := intD0 fun i j => .bl (decide (i < j))
theorem o_le : OpR X (compareOp .LtE) (dOp2 X.K leD) := o_int0 op_le fun _ _ _ => rfl
theorem o_gt : OpR X (compareOp .Gt) (dOp2 X.K gtD) := o_int0 op_gt fun _ _ _ => rfl
theorem o_lt : OpR X (compareOp .Lt) (dOp2 X.K ltD) := o_int0 op_lt fun _ _ _ => rfl
def inW (neg : Bool) : D → D → DK → Prop := fun d e R => match e with
  | .lst xs => (d.pln = true ∧ D.plns xs = true ∧ d.dep ≤ 60) ∧ R (.bl (neg ^^ xs.any fun y => D.eqv y d))
  | .tup xs => (d.pln = true ∧ D.plns xs = true ∧ d.dep ≤ 60) ∧ R (.bl (neg ^^ xs.any fun y => D.eqv y d))
  | _ => False
abbrev inD := inW false
abbrev notInD := inW true
theorem any_py {xs : List D} {d : D} (h : D.plns xs = true) (hd : d.pln = true) : ((D.pys xs).any fun y => PyData.eqv y d.py) = xs.any fun y => D.eqv y d := by
  induction xs with
  | nil => rfl
  | cons y ys ih =>
    simp only [D.plns, Bool.and_eq_true] at h
    simp only [D.pys, List.any_cons]
    rw [eqv_py y d h.1 hd, ih h.2]
theorem room_in {A : Around} {k n m : Nat} (hr : Room k A) (h : m ≤ 60) : A.units + 1 + min n m < cLine := by
  have := hr.units
  have : min n m ≤ m := Nat.min_le_right _ _
  omega
theorem o_in {k : Nat} (hr : Room k X.A) : OpR X (compareOp .In) (dOp2 X.K inD) := by
  intro pins s σ H x y v u Q I rx ry ⟨Z, d, e, R, k, ad, ae, h, q⟩
  cases e <;> try exact h.elim
  · obtain ⟨⟨h1, h2, h3⟩, h4⟩ := h
    obtain ⟨as, r1⟩ := Dp.reads I _ y u (At.dp k _ y ae h2) ry
    obtain ⟨bs, r2⟩ := Dp.reads I _ x v (At.dp k _ x ad h1) rx
    exact SeqAt.in_list_reads r1 r2 (canLays_py _ h2) (canLay_py _ h1) (by rw [dep_py d h1]; exact room_in hr h3) ⟨.bl _, H, I, rfl, dk q k h4 (by simp [At, any_py h2 h1])⟩
  · obtain ⟨⟨h1, h2, h3⟩, h4⟩ := h
    obtain ⟨as, r1⟩ := Dp.reads I _ y u (At.dp k _ y ae h2) ry
    obtain ⟨bs, r2⟩ := Dp.reads I _ x v (At.dp k _ x ad h1) rx
    exact SeqAt.in_tuple_reads r1 r2 (canLays_py _ h2) (canLay_py _ h1) (by rw [dep_py d h1]; exact room_in hr h3) ⟨.bl _, H, I, rfl, dk q k h4 (by simp [At, any_py h2 h1])⟩
theorem o_notIn {k : Nat} (hr : Room k X.A) : OpR X (compareOp .NotIn) (dOp2 X.K notInD) := by
  intro pins s σ H x y v u Q I rx ry ⟨Z, d, e, R, k, ad, ae, h, q⟩
  cases e <;> try exact h.elim
  · obtain ⟨⟨h1, h2, h3⟩, h4⟩ := h
    obtain ⟨as, r1⟩ := Dp.reads I _ y u (At.dp k _ y ae h2) ry
    obtain ⟨bs, r2⟩ := Dp.reads I _ x v (At.dp k _ x ad h1) rx
    exact SeqAt.notIn_list_reads r1 r2 (canLays_py _ h2) (canLay_py _ h1) (by rw [dep_py d h1]; exact room_in hr h3) ⟨.bl _, H, I, rfl, dk q k h4 (by simp [At, any_py h2 h1])⟩
  · obtain ⟨⟨h1, h2, h3⟩, h4⟩ := h
    obtain ⟨as, r1⟩ := Dp.reads I _ y u (At.dp k _ y ae h2) ry
    obtain ⟨bs, r2⟩ := Dp.reads I _ x v (At.dp k _ x ad h1) rx
    exact SeqAt.notIn_tuple_reads r1 r2 (canLays_py _ h2) (canLay_py _ h1) (by rw [dep_py d h1]; exact room_in hr h3) ⟨.bl _, H, I, rfl, dk q k h4 (by simp [At, any_py h2 h1])⟩
end
end Pm
set_option Elab.async false
set_option linter.all false
set_option maxRecDepth 100000
set_option maxHeartbeats 1000000
set_option autoImplicit false
namespace Pm
open PySem PySem.Spec
open PyProof.Rows hiding St
open L2
variable {γ : Type}

inductive Sk where | l (a : Addr) | t (a : Addr) | s (x : Str) (tk : Tok)
def Sk.it : Sk → Heap → Addr → Nat → Prop
  | .l a, h, it, i => h.IsListIter it a i
  | .t a, h, it, i => h.IsTupleIter it a i
  | .s x tk, h, it, i => h.IsStrIter it (strIterType x) x tk i
def Sk.fp : Sk → List Addr
  | .l a => [a]
  | .t a => [a]
  | .s _ _ => []
def Sk.src (K : PySem.W.Frag) (H : Hp) : Sk → List V → Prop
  | .l a, xs => SqL K H a xs
  | .t a, xs => SqT K H a xs
  | .s x _, xs => xs = x.cps.toList.map fun c => V.str ⟨#[c]⟩
def Sk.mem (h : Heap) : Sk → List Value → Prop
  | .l a, its => h.IsList a its.toArray
  | .t a, its => h.IsTuple a its.toArray
  | .s _ _, _ => True
def Sk.pr : Sk → List Value → Nat → Value → Prop
  | .s x _, _, i, v => ∃ c u, x.cps[i]? = some c ∧ v = .str ⟨#[c]⟩ u
  | _, its, i, v => its.toArray[i]? = some v
def Sk.val : Sk → Value
  | .l a => .ref a
  | .t a => .ref a
  | .s x tk => .str x tk
def Sk.ob : Sk → Obj
  | .l a => { cls := .type "list_iterator", data := .fields #[.ref a, .int 0 0] }
  | .t a => { cls := .type "tuple_iterator", data := .fields #[.ref a, .int 0 0] }
  | .s x tk => { cls := .type (strIterType x), data := .fields #[.str x tk, .int 0 0] }
section
variable {X : Cx} {pins : List (Addr × Obj)} {σ : St} {H : Hp} {s : Shared}
theorem Sk.read (I : L2.Inv X pins σ H s) {k : Sk} {xs : List V} (h : k.src X.K H xs) : ∃ its, k.mem s.heap its ∧ (∀ i v, k.pr its i v → ∃ x, xs[i]? = some x ∧ RelV x v) ∧ ∀ (A : Around), A.handled = none → ∀ it, it ∉ k.fp →
    Draws X.prog X.w A it (it :: k.fp) xs.length (k.pr its) (fun i h => k.it h it i ∧ k.mem h its) := by
  cases k with
  | l a =>
    obtain ⟨its, r, p, _⟩ := I.list h
    refine ⟨its, p.isList, fun i v e => ?_, fun A hA it hne => ?_⟩
    · have e' : its[i]? = some v := by simpa [Sk.pr] using e
      have hl := r.length
      have hi : i < xs.length := by rw [hl]; exact (List.getElem?_eq_some_iff.mp e').1
      obtain ⟨u, h1, h2⟩ := r.get (List.getElem?_eq_getElem hi)
      rw [e'] at h1; cases h1
      exact ⟨_, List.getElem?_eq_getElem hi, h2⟩
    · have := Draws.list (prog := X.prog) (w := X.w) hA it a (fun e => hne (by simp [Sk.fp, e])) its.toArray
      rw [List.size_toArray, ← r.length] at this
      exact this
  | t a =>
    obtain ⟨its, r, p, _⟩ := I.tuple h
    refine ⟨its, p, fun i v e => ?_, fun A hA it hne => ?_⟩
    · have e' : its[i]? = some v := by simpa [Sk.pr] using e
      have hl := r.length
      have hi : i < xs.length := by rw [hl]; exact (List.getElem?_eq_some_iff.mp e').1
      obtain ⟨u, h1, h2⟩ := r.get (List.getElem?_eq_getElem hi)
      rw [e'] at h1; cases h1
      exact ⟨_, List.getElem?_eq_getElem hi, h2⟩
    · have := Draws.tuple (prog := X.prog) (w := X.w) hA it a (fun e => hne (by simp [Sk.fp, e])) its.toArray
      rw [List.size_toArray, ← r.length] at this
      exact this
  | s x tk =>
    have hx : xs = x.cps.toList.map fun c => V.str ⟨#[c]⟩ := h
    refine ⟨[], trivial, fun i v e => ?_, fun A hA it hne => ?_⟩
    · obtain ⟨c, u, h1, rfl⟩ := e
      exact ⟨.str ⟨#[c]⟩, by rw [hx, List.getElem?_map, Array.getElem?_toList, h1]; rfl, ⟨u, rfl⟩⟩
    · have := Draws.text (prog := X.prog) (w := X.w) hA it x tk
      have hl : xs.length = x.cps.size := by rw [hx, List.length_map, Array.length_toList]
      rw [hl]
      exact ⟨fun i h st => this.live i h st.1, fun i h h' st k => ⟨this.frame i h h' st.1 k, trivial⟩, fun i s Q E hi st hQ => this.item i s Q E hi st.1 fun v h' tk p st' sb => hQ v h' tk p ⟨st', trivial⟩ sb,
        fun s Q E st hE => this.done s Q E st.1 hE⟩
theorem Sk.src_inj (I : L2.Inv X pins σ H s) {k : Sk} {xs ys : List V} (h : k.src X.K H xs) (h' : k.src X.K H ys) : xs = ys := by
  cases k with
  | l a => exact I.list_inj h h'
  | t a => exact I.tuple_inj h h'
  | s x tk => exact (show xs = _ from h).trans (show ys = _ from h').symm
theorem Sk.begins (k : Sk) (its : List Value) : Begins k.val k.ob (fun h => k.mem h its) := by
  cases k with
  | l a => exact begins_list a its.toArray
  | t a => exact begins_tuple a its.toArray
  | s x tk => exact begins_text x tk
theorem Sk.it0 {k : Sk} {h : Heap} {it : Addr} (e : h.get? it = some k.ob) : k.it h it 0 := by
  cases k with
  | l a => exact ⟨_, e, rfl, rfl⟩
  | t a => exact ⟨_, e, rfl, rfl⟩
  | s x tk => exact ⟨_, e, rfl, rfl⟩
theorem Sk.itAt {k : Sk} {h h' : Heap} {it : Addr} {i : Nat} (st : k.it h it i) (kp : ∀ o, h.get? it = some o → h'.get? it = some o) : k.it h' it i := by
  cases k with
  | l a => exact Heap.IsListIter.at st kp
  | t a => exact Heap.IsTupleIter.at st kp
  | s x tk => obtain ⟨o, ho, r⟩ := st; exact ⟨o, kp o ho, r⟩
theorem Sk.itOb {k : Sk} {h : Heap} {it : Addr} {i : Nat} (st : k.it h it i) : ∃ o, h.get? it = some o ∧ ∀ v, o.data ≠ .cell v := by
  cases k with
  | l a => obtain ⟨o, e, _, d⟩ := st; exact ⟨o, e, fun v q => by rw [d] at q; cases q⟩
  | t a => obtain ⟨o, e, _, d⟩ := st; exact ⟨o, e, fun v q => by rw [d] at q; cases q⟩
  | s x tk => obtain ⟨o, e, _, d⟩ := st; exact ⟨o, e, fun v q => by rw [d] at q; cases q⟩
end

theorem turnT {X : Cx} {pins : List (Addr × Obj)} {σ : St} {H : Hp} {s : Shared} {I : Addr} {fp wr cells : List Addr} {n i : Nat} {Pt : Nat → Array Value → Prop} {Stt : Nat → Heap → Prop} {Mid : Nat → Addr → Heap → Prop} {elts : List Expr} {kk : Nat} {tpos : Pos} {E : Value → Shared → Prop} {Good : List V → Prop}
    (W : WalksT X.prog X.w X.A I fp wr n Pt Stt Mid) (hi : i < n) (st : Stt i s.heap) (J : L2.Inv X pins σ H s) (hwr : ∀ b ∈ wr, b ∈ cells) (hf : ∀ b ∈ cells, FpOk X pins H b) (hcl : ∀ b ∈ cells, ∃ o, s.heap.get? b = some o)
    (hP : ∀ vals, Pt i vals → ∃ xs, Vals xs vals.toList ∧ xs.length ≤ sizeLine ∧ Good xs) :
    wpAny (model X.prog X.w) X.A (pyNext (.ref I)) (fun r s1 => ∃ u, r = some u ∧ wpAny (model X.prog X.w) X.A (letOwnedTupleGo (.Tuple elts kk tpos) (.ref I) u) (fun _ s2 => ∃ T xs, Good xs ∧ u = .ref T ∧ H T = none ∧
      L2.Inv X pins σ (upd H T (.tup xs)) s2 ∧ Stt (i + 1) s2.heap ∧ ∀ b ∈ cells, (upd H T (.tup xs)) b = none) E s1) E s := by
  refine W.item i s _ E hi st fun T vals h' tk hp hT hIs hMid hk => ⟨_, rfl, ?_⟩
  refine W.go elts kk tpos i T { s with heap := h', toks := tk } _ _ hMid fun h'' st'' hk'' => ?_
  obtain ⟨xs, rv, hz, hg⟩ := hP vals hp
  have hHT : H T = none := J.hok.fresh hT
  have keep : ∀ b o, b ∉ cells → s.heap.get? b = some o → h''.get? b = some o := fun b o hb e => hk'' b o (fun h => hb (hwr b h)) (hk b o (fun h => hb (hwr b h)) e)
  obtain ⟨oT, eT, cT, nT, dT⟩ := hIs
  have new : ObjOk X.prog X.w (upd H T (.tup xs)) h'' T (.tup xs) := ⟨hz, vals.toList, rv, ⟨oT, hk'' T oT (W.apart i T h' hMid) eT, cT, nT, by simpa using dT⟩⟩
  refine ⟨T, xs, hg, rfl, hHT, J.turnedNew (t' := tk) (ch := cells) keep hf hT new, st'', fun b hb => ?_⟩
  obtain ⟨o, e⟩ := hcl b hb
  rw [upd_ne (Nat.ne_of_lt (Nat.lt_of_lt_of_le (Heap.lt_size e) hT))]
  exact (hf b hb).1

def Jz (K : PySem.W.Frag) (k1 k2 : Sk) : It :=
  ⟨fun i H => ∃ (xs ys : List V) (x y : V), k1.src K H xs ∧ k2.src K H ys ∧ xs[i]? = some x ∧ ys[i]? = some y,
    fun i H v H' => ∃ T x y, v = .ref T ∧ H T = none ∧ H' = upd H T (.tup [x, y]) ∧ (∀ xs, k1.src K H xs → xs[i]? = some x) ∧ ∀ ys, k2.src K H ys → ys[i]? = some y,
    fun i H => ∃ xs ys : List V, k1.src K H xs ∧ k2.src K H ys ∧ i = min xs.length ys.length⟩
theorem turn_zipG {P : Program} {w : World} {K : PySem.W.Frag} {elts : List Expr} {kk : Nat} {tpos : Pos} {z TI TO i1 i2 : Addr} {k1 k2 : Sk} (Sp : ZipSep2 z TI TO i1 i2 (i1 :: k1.fp) (i2 :: k2.fp)) (n1 : i1 ∉ k1.fp) (n2 : i2 ∉ k2.fp) :
    Turn P w K (.Tuple elts kk tpos) (Jz K k1 k2) [z, TI, TO, i1, i2] z (fun i h => IsZip h z TI TO .none ∧ IsTupOf2 h TI (.ref i1) (.ref i2) ∧ (∃ a1 a2, IsTupOf2 h TO a1 a2) ∧ k1.it h i1 i ∧ k2.it h i2 i) where
  mem := by simp
  obj := fun i h st c hc => by
    obtain ⟨hz, hTI, ⟨x, y, hTO⟩, h1, h2⟩ := st
    have e' : c = z ∨ c = TI ∨ c = TO ∨ c = i1 ∨ c = i2 := by simpa using hc
    rcases e' with q | q | q | q | q
    · rw [q]; exact ⟨_, hz, fun v q => nomatch q⟩
    · rw [q]; exact ⟨_, hTI, fun v q => nomatch q⟩
    · rw [q]; exact ⟨_, hTO, fun v q => nomatch q⟩
    · rw [q]; exact Sk.itOb h1
    · rw [q]; exact Sk.itOb h2
  keep := fun i h h' st k => by
    obtain ⟨hz, hTI, ⟨x, y, hTO⟩, h1, h2⟩ := st
    exact ⟨k z (by simp) _ hz, k TI (by simp) _ hTI, ⟨x, y, k TO (by simp) _ hTO⟩, Sk.itAt h1 fun o q => k i1 (by simp) o q, Sk.itAt h2 fun o q => k i2 (by simp) o q⟩
  item := by
    intro X hP hw hK hc i pins s σ H E I hf st hg
    subst hP hw hK
    obtain ⟨hz, hTI, ⟨x0, y0, hTO⟩, h1, h2⟩ := st
    obtain ⟨xs, ys, x, y, hqx, hqy, hx, hy⟩ := hg
    obtain ⟨its, m1, p1, d1⟩ := Sk.read I hqx
    obtain ⟨its2, m2, p2, d2⟩ := Sk.read I hqy
    have hd := I.ok.hd hc
    have W := WalksT.zipD2 Sp (d1 X.A.in1 hd i1 n1) (d2 X.A.in1 hd i2 n2)
    have hi : i < min xs.length ys.length := by
      have a := (List.getElem?_eq_some_iff.mp hx).1
      have b := (List.getElem?_eq_some_iff.mp hy).1
      omega
    refine thn (turnT (Good := fun zs => zs = [x, y]) W hi ⟨hz, hTI, ⟨x0, y0, hTO⟩, ⟨h1, m1⟩, h2, m2⟩ I (cells := [z, TI, TO, i1, i2]) (fun b hb => ?_) hf (fun b hb => ?_) fun vals hv => ?_) fun r s1 ⟨u, hr, h⟩ => ⟨u, hr, thn h fun _ s2 ⟨T, zs, e1, e2, e3, e4, e5, e6⟩ => ?_⟩
    · have : b = z ∨ b = TO ∨ b = i1 ∨ b = i2 := by simpa using hb
      simp only [List.mem_cons, List.not_mem_nil, or_false]
      rcases this with h | h | h | h <;> simp [h]
    · have e' : b = z ∨ b = TI ∨ b = TO ∨ b = i1 ∨ b = i2 := by simpa using hb
      rcases e' with q | q | q | q | q
      · rw [q]; exact ⟨_, hz⟩
      · rw [q]; exact ⟨_, hTI⟩
      · rw [q]; exact ⟨_, hTO⟩
      · rw [q]; obtain ⟨o, e, _⟩ := Sk.itOb h1; exact ⟨o, e⟩
      · rw [q]; obtain ⟨o, e, _⟩ := Sk.itOb h2; exact ⟨o, e⟩
    · obtain ⟨x1, x2, q1, q2, rfl⟩ := hv
      obtain ⟨v1, f1, r1⟩ := p1 i x1 q1
      obtain ⟨v2, f2, r2⟩ := p2 i x2 q2
      rw [hx] at f1; rw [hy] at f2
      cases f1; cases f2
      exact ⟨[x, y], .cons r1 (.cons r2 .nil), by show 2 ≤ sizeLine; decide, rfl⟩
    · subst e1; subst e2
      obtain ⟨z', TI', TO', ⟨a1, _⟩, a2, _⟩ := e5
      exact ⟨.ref T, _, e4, rfl, ⟨T, x, y, rfl, e3, rfl, fun l hl => by rw [Sk.src_inj I hl hqx]; exact hx, fun l hl => by rw [Sk.src_inj I hl hqy]; exact hy⟩, ⟨z', TI', TO', a1, a2⟩, e6⟩
  done := by
    intro X hP hw hK hc i pins s σ H E I hf st hg
    subst hP hw hK
    obtain ⟨hz, hTI, ⟨x0, y0, hTO⟩, h1, h2⟩ := st
    obtain ⟨xs, ys, hqx, hqy, rfl⟩ := hg
    obtain ⟨its, m1, p1, d1⟩ := Sk.read I hqx
    obtain ⟨its2, m2, p2, d2⟩ := Sk.read I hqy
    have hd := I.ok.hd hc
    have W := WalksT.zipD2 Sp (d1 X.A.in1 hd i1 n1) (d2 X.A.in1 hd i2 n2)
    refine W.done s _ E ⟨hz, hTI, ⟨x0, y0, hTO⟩, ⟨h1, m1⟩, h2, m2⟩ fun h' tk hk => ⟨rfl, I.turnedL (t' := tk) (ch := [z, TI, TO, i1, i2]) (fun b o hb e => hk b o (fun q => hb ?_) e) hf⟩
    have : b = z ∨ b = TO ∨ b = i1 ∨ b = i2 := by simpa using q
    simp only [List.mem_cons, List.not_mem_nil, or_false]
    rcases this with h | h | h | h <;> simp [h]
  self := fun A i s Q E st h => wpAny_pyIter_zip st.1 h

def Je (K : PySem.W.Frag) (k1 : Sk) : It :=
  ⟨fun i H => ∃ (xs : List V) (x : V), k1.src K H xs ∧ xs[i]? = some x,
    fun i H v H' => ∃ T x, v = .ref T ∧ H T = none ∧ H' = upd H T (.tup [.int (i : Nat), x]) ∧ (∀ xs, k1.src K H xs → xs[i]? = some x),
    fun i H => ∃ xs : List V, k1.src K H xs ∧ i = xs.length⟩
theorem turn_enumG {P : Program} {w : World} {K : PySem.W.Frag} {elts : List Expr} {kk : Nat} {tpos : Pos} {e it : Addr} {k1 : Sk} (hei : e ≠ it) (hef : e ∉ it :: k1.fp) (n1 : it ∉ k1.fp) :
    Turn P w K (.Tuple elts kk tpos) (Je K k1) [e, it] e (fun i h => (∃ old, IsEnum h e it ((0 : Int) + (i : Int)) old) ∧ k1.it h it i) where
  mem := by simp
  obj := fun i h st c hc => by
    obtain ⟨⟨old, he⟩, h1⟩ := st
    have e' : c = e ∨ c = it := by simpa using hc
    rcases e' with q | q
    · rw [q]; exact ⟨_, he, fun v q => nomatch q⟩
    · rw [q]; exact Sk.itOb h1
  keep := fun i h h' st k => by
    obtain ⟨⟨old, he⟩, h1⟩ := st
    exact ⟨⟨old, k e (by simp) _ he⟩, Sk.itAt h1 fun o q => k it (by simp) o q⟩
  item := by
    intro X hP hw hK hc i pins s σ H E I hf st hg
    subst hP hw hK
    obtain ⟨⟨old, he⟩, h1⟩ := st
    obtain ⟨xs, x, hqx, hx⟩ := hg
    obtain ⟨its, m1, p1, d1⟩ := Sk.read I hqx
    have hd := I.ok.hd hc
    have W := WalksT.enumFrom 0 (d1 X.A.in1 hd it n1) e hei hef (by simp)
    have hi : i < xs.length := (List.getElem?_eq_some_iff.mp hx).1
    refine thn (turnT (Good := fun zs => zs = [.int (i : Nat), x]) W hi ⟨⟨old, he⟩, h1, m1⟩ I (cells := [e, it]) (fun b hb => hb) hf (fun b hb => ?_) fun vals hv => ?_) fun r s1 ⟨u, hr, h⟩ => ⟨u, hr, thn h fun _ s2 ⟨T, zs, e1, e2, e3, e4, e5, e6⟩ => ?_⟩
    · have e' : b = e ∨ b = it := by simpa using hb
      rcases e' with q | q
      · rw [q]; exact ⟨_, he⟩
      · rw [q]; obtain ⟨o, e, _⟩ := Sk.itOb h1; exact ⟨o, e⟩
    · obtain ⟨t, x1, q1, rfl⟩ := hv
      obtain ⟨v1, f1, r1⟩ := p1 i x1 q1
      rw [hx] at f1
      cases f1
      exact ⟨[.int (i : Nat), x], .cons ⟨t, by rw [Int.zero_add]⟩ (.cons r1 .nil), by show 2 ≤ sizeLine; decide, rfl⟩
    · subst e1; subst e2
      exact ⟨.ref T, _, e4, rfl, ⟨T, x, rfl, e3, rfl, fun l hl => by rw [Sk.src_inj I hl hqx]; exact hx⟩, ⟨e5.1, e5.2.1⟩, e6⟩
  done := by
    intro X hP hw hK hc i pins s σ H E I hf st hg
    subst hP hw hK
    obtain ⟨⟨old, he⟩, h1⟩ := st
    obtain ⟨xs, hqx, rfl⟩ := hg
    obtain ⟨its, m1, p1, d1⟩ := Sk.read I hqx
    have hd := I.ok.hd hc
    have W := WalksT.enumFrom 0 (d1 X.A.in1 hd it n1) e hei hef (by simp)
    exact W.done s _ E ⟨⟨old, he⟩, h1, m1⟩ fun h' tk hk => ⟨rfl, I.turnedL (t' := tk) (ch := [e, it]) (fun b o hb e => hk b o hb e) hf⟩
  self := fun A i s Q E st h => let ⟨⟨_, he⟩, _⟩ := st; wpAny_pyIter_enum he h

def itemsD : D → Option (List D)
  | .lst xs => some xs
  | .tup xs => some xs
  | .str x => some (x.cps.toList.map fun c => .str ⟨#[c]⟩)
  | _ => none
theorem src_of {K : PySem.W.Frag} {Z : Hp} {d : D} {v : V} {u : Value} {ds : List D} (a : At K Z d v) (r : RelV v u) (e : itemsD d = some ds) :
    ∃ k : Sk, k.val = u ∧ (∀ H, Same Z H → ∃ xs, k.src K H xs ∧ Ats K Z ds xs) := by
  cases d <;> simp only [itemsD, Option.some.injEq, reduceCtorEq] at e
  · simp only [At] at a
    subst a; subst e
    obtain ⟨t, rfl⟩ := r
    rename_i x
    refine ⟨.s x t, rfl, fun H _ => ⟨_, rfl, ?_⟩⟩
    generalize x.cps.toList = l
    induction l with
    | nil => rfl
    | cons c l ih => exact ⟨_, _, rfl, rfl, ih⟩
  · simp only [At] at a
    obtain ⟨p, vs, rfl, h1, h2⟩ := a
    subst e
    cases r
    exact ⟨.l p, rfl, fun H k => ⟨vs, .inl (.inl (k _ _ h1)), h2⟩⟩
  · simp only [At] at a
    obtain ⟨p, vs, rfl, h1, h2⟩ := a
    subst e
    cases r
    exact ⟨.t p, rfl, fun H k => ⟨vs, seqT k h1, h2⟩⟩
theorem Sk.fp_lt {X : Cx} {pins : List (Addr × Obj)} {σ : St} {H : Hp} {s : Shared} (I : L2.Inv X pins σ H s) {k : Sk} {xs : List V} (h : k.src X.K H xs) : ∀ b ∈ k.fp, b < s.heap.objs.size := by
  cases k with
  | l a =>
    intro b hb
    obtain ⟨its, r, p, _⟩ := I.list h
    rw [show b = a by simpa [Sk.fp] using hb]; exact p.lt
  | t a =>
    intro b hb
    obtain ⟨its, r, p, _⟩ := I.tuple h
    rw [show b = a by simpa [Sk.fp] using hb]; exact p.lt
  | s x tk => intro b hb; cases hb

def zipD : List D → List D → List D
  | x :: xs, y :: ys => .tup [x, y] :: zipD xs ys
  | _, _ => []
theorem zipD_len : ∀ xs ys : List D, (zipD xs ys).length = min xs.length ys.length
  | [], _ => by simp [zipD]
  | _ :: _, [] => by simp [zipD]
  | x :: xs, y :: ys => by simp only [zipD, List.length_cons, zipD_len xs ys]; omega
theorem zipD_get : ∀ {xs ys : List D} {i : Nat} {d : D}, (zipD xs ys)[i]? = some d → ∃ x y, xs[i]? = some x ∧ ys[i]? = some y ∧ d = .tup [x, y]
  | [], _, _, _, h => by simp [zipD] at h
  | _ :: _, [], _, _, h => by simp [zipD] at h
  | x :: xs, y :: ys, 0, d, h => by simp [zipD] at h; exact ⟨x, y, rfl, rfl, h.symm⟩
  | x :: xs, y :: ys, i + 1, d, h => zipD_get (xs := xs) (ys := ys) (i := i) (by simpa [zipD] using h)
def enumGo (i : Nat) : List D → List D
  | [] => []
  | d :: ds => .tup [.int (i : Nat), d] :: enumGo (i + 1) ds
def enumD (ds : List D) : List D := enumGo 0 ds
theorem enumGo_len : ∀ (ds : List D) (k : Nat), (enumGo k ds).length = ds.length
  | [], _ => rfl
  | d :: ds, k => by simp only [enumGo, List.length_cons, enumGo_len ds]
theorem enumGo_get : ∀ {ds : List D} {i k : Nat} {d : D}, (enumGo k ds)[i]? = some d → ∃ x, ds[i]? = some x ∧ d = .tup [.int ((k + i : Nat) : Int), x]
  | [], _, _, _, h => by simp [enumGo] at h
  | x :: xs, 0, k, d, h => by simp [enumGo] at h; exact ⟨x, rfl, by rw [Nat.add_zero]; exact h.symm⟩
  | x :: xs, i + 1, k, d, h => by
    obtain ⟨y, h1, h2⟩ := enumGo_get (ds := xs) (i := i) (k := k + 1) (by simpa [enumGo] using h)
    exact ⟨y, by simpa using h1, by rw [show k + (i + 1) = k + 1 + i by omega]; exact h2⟩

section
variable {X : Cx} {G : GP γ} {tg e e2 : Expr} {p pos tpos : Pos} {elts : List Expr} {kk : Nat}
def qItems (te : PEx γ) : PAx γ := fun s R => te s fun d s1 => match itemsD d with
  | some ds => R ds s1
  | none => False
theorem walks_list {K : PySem.W.Frag} {Z : Hp} {a : Addr} {vs : List V} {ds : List D} (h : Z a = some (.lst vs)) (h2 : Ats K Z ds vs) : Walks K (Itl K a) Z ds := by
  intro i Z1 H k1 k2
  have hs : SqL K H a vs := .inl (.inl (k2 _ _ (k1 _ _ h)))
  refine ⟨fun d hd => ?_, fun hl => ⟨vs, hs, by rw [h2.len]; exact Nat.le_of_eq hl.symm⟩⟩
  obtain ⟨v, hv, av⟩ := h2.get hd
  refine ⟨⟨vs, v, hs, hv⟩, fun x H' y => ?_⟩
  obtain ⟨e, y⟩ := y
  subst e
  have := y vs hs
  rw [hv] at this
  cases this
  exact ⟨Z1, Ext.refl k2, At.mono k1 _ _ av⟩
theorem walks_tup {K : PySem.W.Frag} {Z : Hp} {a : Addr} {vs : List V} {ds : List D} (h : SqT K Z a vs) (h2 : Ats K Z ds vs) : Walks K (Itt K a) Z ds := by
  intro i Z1 H k1 k2
  have hs : SqT K H a vs := seqT (k1.trans k2) h
  refine ⟨fun d hd => ?_, fun hl => ⟨vs, hs, by rw [h2.len]; exact Nat.le_of_eq hl.symm⟩⟩
  obtain ⟨v, hv, av⟩ := h2.get hd
  refine ⟨⟨vs, v, hs, hv⟩, fun x H' y => ?_⟩
  obtain ⟨e, y⟩ := y
  subst e
  have := y vs hs
  rw [hv] at this
  cases this
  exact ⟨Z1, Ext.refl k2, At.mono k1 _ _ av⟩
theorem walks_str {K : PySem.W.Frag} {Z : Hp} {x : Str} : Walks K (Its x) Z (x.cps.toList.map fun c => .str ⟨#[c]⟩) := by
  intro i Z1 H k1 k2
  refine ⟨fun d hd => ?_, fun hl => (by have : i = x.cps.size := by simpa using hl
                                        exact Nat.le_of_eq this.symm : x.cps.size ≤ i)⟩
  rw [List.getElem?_map, Array.getElem?_toList] at hd
  cases q : x.cps[i]? with
  | none => rw [q] at hd; cases hd
  | some c =>
    rw [q] at hd
    cases hd
    refine ⟨(Array.getElem?_eq_some_iff.mp q).1, fun v H' y => ?_⟩
    obtain ⟨e, c', h1, h2⟩ := y
    subst e; subst h2
    rw [q] at h1; cases h1
    exact ⟨Z1, Ext.refl k2, rfl⟩
theorem qi_seq {te : PEx γ} (h : QE X G e te) (hK : X.K = G.K := by rfl) : QI X G tg e (qItems te) := by
  refine ⟨fun pins s σ H R I w => ?_⟩
  obtain ⟨F, Z, sg, Rp, r, t, q⟩ := w
  refine thn (h.run pins s σ H (fun v H1 => ∃ d s1 Z1, Rel G F Z1 s1 σ H1 ∧ At G.K Z1 d v ∧ ∃ ds, itemsD d = some ds ∧ ∀ J, Walks G.K J Z1 ds → R J H1) I ⟨F, Z, sg, _, r, t, fun d s1 Z1 v H1 t1 k1 r1 a1 => ?_⟩) fun u s1 ⟨v, H1, I1, rv, d, sg1, Z1, r1, a1, ds, e1, q1⟩ => ?_
  · cases e1 : itemsD d with
    | none => rw [e1] at t1; exact t1.elim
    | some ds => rw [e1] at t1; exact ⟨d, s1, Z1, r1, a1, ds, e1, fun J hJ => q ds s1 Z1 H1 J t1 k1 r1 hJ⟩
  · have fresh : ∀ b ∈ [s1.heap.objs.size], FpOk X pins H1 b := fun b hb => by
      have e : b = s1.heap.objs.size := by simpa using hb
      subst e
      exact I1.fpOk (Nat.le_refl _) (I1.hok.fresh (Nat.le_refl _))
    cases d <;> simp only [itemsD, Option.some.injEq, reduceCtorEq] at e1
    · simp only [At] at a1
      subst a1; subst e1
      rename_i x
      obtain ⟨t, rfl⟩ := rv
      -- a text's iterator
      refine wpAny_pyIter_strU ?_
      have I2 : L2.Inv X pins σ H1 { s1 with heap := s1.heap.push { cls := .type (strIterType x), data := .fields #[.str x t, .int 0 0] } } := I1.kept (t' := s1.toks) fun b o e => Heap.get?_push_of_some _ e
      have st0 : ({ s1 with heap := s1.heap.push { cls := .type (strIterType x), data := .fields #[.str x t, .int 0 0] } } : Shared).heap.IsStrIter s1.heap.objs.size (strIterType x) x t 0 := ⟨_, Heap.get?_push_size _ rfl, rfl, rfl⟩
      first
        | exact ⟨s1.heap.objs.size, [s1.heap.objs.size], _, _, H1, rfl, I2, turn_str s1.heap.objs.size x t (strIterType x) (by unfold strIterType; split <;> simp), st0, fresh, q1 _ walks_str⟩
    · simp only [At] at a1
      obtain ⟨a, vs, rfl, h1, h2⟩ := a1
      subst e1
      cases rv
      obtain ⟨its, rv, p, hz⟩ := I1.list (xs := vs) (.inl (.inl (r1.z _ _ h1)))
      refine wpAny_pyIter_list p.isList ?_
      exact ⟨s1.heap.objs.size, [s1.heap.objs.size], _, _, H1, rfl, I1.kept (t' := s1.toks) fun b o e => Heap.get?_push_of_some _ e, turn_list a _, ⟨_, Heap.get?_push_size _ rfl, rfl, rfl⟩, fresh, q1 _ (by rw [hK]; exact walks_list h1 h2)⟩
    · simp only [At] at a1
      obtain ⟨a, vs, rfl, h1, h2⟩ := a1
      subst e1
      cases rv
      obtain ⟨its, rv, p, hz⟩ := I1.tuple (xs := vs) (by rw [hK]; exact seqT r1.z h1)
      refine wpAny_pyIter_tuple (show s1.heap.IsTuple a its.toArray from p) ?_
      exact ⟨s1.heap.objs.size, [s1.heap.objs.size], _, _, H1, rfl, I1.kept (t' := s1.toks) fun b o e => Heap.get?_push_of_some _ e, turn_tuple a _, ⟨_, Heap.get?_push_size _ rfl, rfl, rfl⟩, fresh, q1 _ (by rw [hK]; exact walks_tup h1 h2)⟩

def qZip (ta : PAx γ) : PAx γ := fun s R => ta s fun ds s1 => match ds with
  | [d1, d2] => match itemsD d1, itemsD d2 with
    | some xs, some ys => R (zipD xs ys) s1
    | _, _ => False
  | _ => False
theorem walks_zip {K : PySem.W.Frag} {Z : Hp} {k1 k2 : Sk} {xs ys : List D} (h1 : ∀ H, Same Z H → ∃ vs, k1.src K H vs ∧ Ats K Z xs vs) (h2 : ∀ H, Same Z H → ∃ vs, k2.src K H vs ∧ Ats K Z ys vs) : Walks K (Jz K k1 k2) Z (zipD xs ys) := by
  intro i Z1 H z1 z2
  obtain ⟨vs, a1, a2⟩ := h1 H (z1.trans z2)
  obtain ⟨ws, b1, b2⟩ := h2 H (z1.trans z2)
  refine ⟨fun d hd => ?_, fun hl => ⟨vs, ws, a1, b1, by rw [hl, zipD_len, a2.len, b2.len]⟩⟩
  obtain ⟨x, y, hx, hy, rfl⟩ := zipD_get hd
  obtain ⟨v, c1, c2⟩ := a2.get hx
  obtain ⟨w, d1, d2⟩ := b2.get hy
  refine ⟨⟨vs, ws, v, w, a1, b1, c1, d1⟩, fun u H' yl => ?_⟩
  obtain ⟨T, x', y', rfl, hT, rfl, f1, f2⟩ := yl
  have e1 := f1 vs a1
  have e2 := f2 ws b1
  rw [c1] at e1; rw [d1] at e2
  cases e1; cases e2
  have x := Ext.new (o := HO.tup [v, w]) z2 hT
  exact ⟨_, x, ⟨T, _, rfl, .inl (.inl upd_same), ⟨_, _, rfl, At.mono (z1.trans x.zz) _ _ c2, ⟨_, _, rfl, At.mono (z1.trans x.zz) _ _ d2, rfl⟩⟩⟩⟩
theorem qi_zip {ta : PAx γ} (hg : Gl X "zip") (hm : X.mg "zip" = none) (ha : QA X G [e, e2] ta) (hK : X.K = G.K := by rfl)
    (hs : starEach [e, e2] X.env = (false, eval e X.env) :: starEach [e2] X.env := by rfl) (hpl : (backTo pos (starEach [e2] X.env)).any (·.1) = false := by rfl) : QI X G (.Tuple elts kk tpos) (.Call (.Name "zip" p) [e, e2] [] pos) (qZip ta) := by
  refine ⟨fun pins s σ H R I w => ?_⟩
  obtain ⟨F, Z, sg, Rp, r, t, q⟩ := w
  refine Call_ (ld_blt I hg hm PyProof.Rows.boot_zip (PyProof.Rows.callWith_type1 (thn (ha.run pos pins s σ H (fun vs H1 => ∃ d1 d2 xs ys s1 Z1, Rel G F Z1 s1 σ H1 ∧ Ats G.K Z1 [d1, d2] vs ∧ itemsD d1 = some xs ∧ itemsD d2 = some ys ∧ ∀ J, Walks G.K J Z1 (zipD xs ys) → R J H1) I ⟨F, Z, sg, _, r, t, fun ds s1 Z1 vs H1 t1 k1 r1 a1 => ?_⟩) fun us s1 ⟨vs, H1, I1, rv, d1, d2, xs, ys, sg1, Z1, r1, a1, e1, e2', q1⟩ => ?_) hs hpl))
  · match ds, t1, a1 with
    | [d1, d2], t1, a1 =>
      cases e1 : itemsD d1 with
      | none => simp only [e1] at t1
      | some xs =>
        cases e2' : itemsD d2 with
        | none => simp only [e1, e2'] at t1
        | some ys =>
          simp only [e1, e2'] at t1
          exact ⟨d1, d2, xs, ys, s1, Z1, r1, a1, e1, e2', fun J hJ => q _ s1 Z1 H1 J t1 k1 r1 hJ⟩
  · simp only [Ats] at a1
    obtain ⟨v1, _, rfl, a1, v2, _, rfl, a2, rfl⟩ := a1
    obtain ⟨u1, u2, rfl, rv1, rv2⟩ := vals2 rv
    rw [← hK] at a1 a2
    obtain ⟨k1, rfl, c1⟩ := src_of a1 rv1 e1
    obtain ⟨k2, rfl, c2⟩ := src_of a2 rv2 e2'
    obtain ⟨ws1, g1, g1'⟩ := c1 H1 r1.z
    obtain ⟨ws2, g2, g2'⟩ := c2 H1 r1.z
    obtain ⟨its1, m1, _⟩ := Sk.read I1 g1
    obtain ⟨its2, m2, _⟩ := Sk.read I1 g2
    have l1 := Sk.fp_lt I1 g1
    have l2 := Sk.fp_lt I1 g2
    refine zip_begins2 (k1.begins its1) (k2.begins its2) m1 m2 fun h' hz hTI hTO o1 o2 hsz hk => wpAny_pyIter_zip hz ?_
    have I2 : L2.Inv X pins σ H1 { s1 with heap := h' } := I1.kept (t' := s1.toks) hk
    refine ⟨s1.heap.objs.size + 4, [s1.heap.objs.size + 4, s1.heap.objs.size + 2, s1.heap.objs.size + 3, s1.heap.objs.size, s1.heap.objs.size + 1], _, _, H1, rfl, I2,
      turn_zipG (k1 := k1) (k2 := k2) (zip_sep2 l1 l2) (fun h => absurd (l1 _ h) (Nat.lt_irrefl _)) (fun h => absurd (l2 _ h) (Nat.not_lt_of_le (Nat.le_succ _))), ⟨hz, hTI, ⟨_, _, hTO⟩, Sk.it0 o1, Sk.it0 o2⟩, fun c hcm => ?_, q1 _ (by rw [← hK]; exact walks_zip c1 c2)⟩
    have e' : c = s1.heap.objs.size + 4 ∨ c = s1.heap.objs.size + 2 ∨ c = s1.heap.objs.size + 3 ∨ c = s1.heap.objs.size ∨ c = s1.heap.objs.size + 1 := by simpa using hcm
    have hle : s1.heap.objs.size ≤ c := by
      rcases e' with z | z | z | z | z
      · rw [z]; exact Nat.le_add_right _ _
      · rw [z]; exact Nat.le_add_right _ _
      · rw [z]; exact Nat.le_add_right _ _
      · rw [z]; exact Nat.le_refl _
      · rw [z]; exact Nat.le_add_right _ _
    exact I1.fpOk hle (I1.hok.fresh hle)
def qEnum (ta : PAx γ) : PAx γ := fun s R => ta s fun ds s1 => match ds with
  | [d1] => match itemsD d1 with
    | some xs => R (enumD xs) s1
    | _ => False
  | _ => False
theorem meets_enumerate_new1 {v : Value} {o : Obj} {H : Heap → Prop} (B : Begins v o H) :
    Meets (Builtin.«enumerate.__new__» ⟨[.type "enumerate", v], []⟩) (fun _ R s => H s.heap ∧
      R (.ok (.ret (.ref (s.heap.push o).objs.size))) { s with heap := (s.heap.push o).push { cls := .type "enumerate", data := .fields #[.none, .bool false, .ref s.heap.objs.size, rawInt 0, .none, .none] } }) :=
  .of_wp fun prog w A R s h => by
    obtain ⟨hp, g, d, tk, os⟩ := s; obtain ⟨h1, h⟩ := h
    have hsub := sub_enumerate
    have q1 : ∀ {A' : Around} {E : Value → Shared → Prop} {Q : Value → Shared → Prop}, Q (.ref hp.objs.size) ⟨hp.push o, g, d, tk, os⟩ → wpAny (model prog w) A' (pyIter v) Q E ⟨hp, g, d, tk, os⟩ :=
      fun q => B.iter prog w _ _ ⟨hp, g, d, tk, os⟩ _ h1 q
    wp_walk using q1
    refine wpAny_stack_any fun st => wpAny_pure ?_
    split
    · rename_i c _ _ _ _ _
      cases (c == Value.type "enumerate")
      · wp_walk using q1
        exact ⟨_, rfl, h⟩
      · wp_walk using q1
        exact ⟨_, rfl, h⟩
    · wp_walk using q1
      exact ⟨_, rfl, h⟩
theorem enum_begins1 {prog : Program} {w : World} {A : Around} {E : Value → Shared → Prop} {s : Shared} {v : Value} {o : Obj} {H : Heap → Prop} {Q : Value → Shared → Prop} (B : Begins v o H) (h1 : H s.heap)
    (h : ∀ h', IsEnum h' (s.heap.objs.size + 1) s.heap.objs.size 0 .none → h'.get? s.heap.objs.size = some o → h'.objs.size = s.heap.objs.size + 2 →
      (∀ b o, s.heap.get? b = some o → h'.get? b = some o) → Q (.ref (s.heap.objs.size + 1)) { s with heap := h' }) :
    wpAny (model prog w) A (call (.type "enumerate") [v]) Q E s := by
  refine callType_new F.called_enumerate (by decide) (F.typeCall_enumerate_1 _) (F.newCall_enumerate_1 _) (fun obj => F.args_object_init_2 obj _) F.entry_enumerate_new
    (meets_enumerate_new1 B) ⟨h1, ?_⟩
  have hz : (s.heap.push o).objs.size = s.heap.objs.size + 1 := Heap.size_push ..
  show _ ∧ _
  rw [hz]
  have he : IsEnum ((s.heap.push o).push { cls := .type "enumerate", data := .fields #[.none, .bool false, .ref s.heap.objs.size, rawInt 0, .none, .none] }) (s.heap.objs.size + 1) s.heap.objs.size 0 .none := by
    have := Heap.get?_push_size (s.heap.push o) (o := { cls := .type "enumerate", data := .fields #[.none, .bool false, .ref s.heap.objs.size, rawInt 0, .none, .none] }) rfl
    rw [hz] at this; exact this
  refine ⟨⟨_, he, rfl⟩, h _ he (Heap.get?_push_of_some _ (Heap.get?_push_size _ B.free)) (by rw [Heap.size_push, hz]) fun b o x => Heap.get?_push_of_some _ (Heap.get?_push_of_some _ x)⟩
theorem walks_enum {K : PySem.W.Frag} {Z : Hp} {k1 : Sk} {xs : List D} (h1 : ∀ H, Same Z H → ∃ vs, k1.src K H vs ∧ Ats K Z xs vs) : Walks K (Je K k1) Z (enumD xs) := by
  intro i Z1 H z1 z2
  obtain ⟨vs, a1, a2⟩ := h1 H (z1.trans z2)
  refine ⟨fun d hd => ?_, fun hl => ⟨vs, a1, by rw [hl, enumD, enumGo_len, a2.len]⟩⟩
  obtain ⟨x, hx, rfl⟩ := enumGo_get hd
  obtain ⟨v, c1, c2⟩ := a2.get hx
  refine ⟨⟨vs, v, a1, c1⟩, fun u H' yl => ?_⟩
  obtain ⟨T, x', rfl, hT, rfl, f1⟩ := yl
  have e1 := f1 vs a1
  rw [c1] at e1
  cases e1
  have x := Ext.new (o := HO.tup [.int (i : Nat), v]) z2 hT
  exact ⟨_, x, ⟨T, _, rfl, .inl (.inl upd_same), ⟨_, _, rfl, by simp [At], ⟨_, _, rfl, At.mono (z1.trans x.zz) _ _ c2, rfl⟩⟩⟩⟩
theorem qi_enum {ta : PAx γ} (hg : Gl X "enumerate") (hm : X.mg "enumerate" = none) (ha : QA X G [e] ta) (hK : X.K = G.K := by rfl) (hs : starEach [e] X.env = [(false, eval e X.env)] := by rfl) :
    QI X G (.Tuple elts kk tpos) (.Call (.Name "enumerate" p) [e] [] pos) (qEnum ta) := by
  refine ⟨fun pins s σ H R I w => ?_⟩
  obtain ⟨F, Z, sg, Rp, r, t, q⟩ := w
  refine Call_ (ld_blt I hg hm PyProof.Rows.boot_enumerate (PyProof.Rows.callWith_type1 (thn (ha.run pos pins s σ H (fun vs H1 => ∃ d1 xs s1 Z1, Rel G F Z1 s1 σ H1 ∧ Ats G.K Z1 [d1] vs ∧ itemsD d1 = some xs ∧ ∀ J, Walks G.K J Z1 (enumD xs) → R J H1) I ⟨F, Z, sg, _, r, t, fun ds s1 Z1 vs H1 t1 k1 r1 a1 => ?_⟩) fun us s1 ⟨vs, H1, I1, rv, d1, xs, sg1, Z1, r1, a1, e1, q1⟩ => ?_) hs rfl))
  · match ds, t1, a1 with
    | [d1], t1, a1 =>
      cases e1 : itemsD d1 with
      | none => simp only [e1] at t1
      | some xs =>
        simp only [e1] at t1
        exact ⟨d1, xs, s1, Z1, r1, a1, e1, fun J hJ => q _ s1 Z1 H1 J t1 k1 r1 hJ⟩
  · simp only [Ats] at a1
    obtain ⟨v1, _, rfl, a1, rfl⟩ := a1
    obtain ⟨u1, rfl, rv1⟩ := vals1 rv
    rw [← hK] at a1
    obtain ⟨k1, rfl, c1⟩ := src_of a1 rv1 e1
    obtain ⟨ws1, g1, g1'⟩ := c1 H1 r1.z
    obtain ⟨its1, m1, _⟩ := Sk.read I1 g1
    have l1 := Sk.fp_lt I1 g1
    refine enum_begins1 (k1.begins its1) m1 fun h' he o1 hsz hk => wpAny_pyIter_enum he ?_
    have I2 : L2.Inv X pins σ H1 { s1 with heap := h' } := I1.kept (t' := s1.toks) hk
    have hn : s1.heap.objs.size + 1 ∉ s1.heap.objs.size :: k1.fp := fun h => by
      rcases List.mem_cons.mp h with h | h
      · exact absurd h (Nat.succ_ne_self _)
      · exact absurd (l1 _ h) (Nat.not_lt_of_le (Nat.le_succ _))
    refine ⟨s1.heap.objs.size + 1, [s1.heap.objs.size + 1, s1.heap.objs.size], _, _, H1, rfl, I2,
      turn_enumG (k1 := k1) (Nat.succ_ne_self _) hn (fun h => absurd (l1 _ h) (Nat.lt_irrefl _)), ⟨⟨.none, he⟩, Sk.it0 o1⟩, fun c hcm => ?_, q1 _ (by rw [← hK]; exact walks_enum c1)⟩
    have hle : s1.heap.objs.size ≤ c := by
      rcases (show c = s1.heap.objs.size + 1 ∨ c = s1.heap.objs.size by simpa using hcm) with z | z
      · rw [z]; exact Nat.le_add_right _ _
      · rw [z]; exact Nat.le_refl _
    exact I1.fpOk hle (I1.hok.fresh hle)
theorem walks_range {K : PySem.W.Frag} {Z : Hp} {lo : Int} {n : Nat} : Walks K (Itr lo n) Z ((List.range n).map fun k => .int (lo + (k : Nat))) := by
  intro i Z1 H z1 z2
  refine ⟨fun d hd => ?_, fun hl => (by simpa using Nat.le_of_eq hl.symm : n ≤ i)⟩
  rw [List.getElem?_map] at hd
  by_cases hi : i < n
  · rw [List.getElem?_range hi] at hd
    cases hd
    refine ⟨hi, fun v H' y => ?_⟩
    obtain ⟨e, h2⟩ := y
    subst e; subst h2
    exact ⟨Z1, Ext.refl z2, by simp [At]⟩
  · rw [List.getElem?_eq_none (by simpa using hi)] at hd
    cases hd
def qRange1 (ta : PAx γ) : PAx γ := fun s R => ta s fun ds s1 => match ds with
  | [.int n] => (-(2 ^ 62) ≤ n ∧ n < 2 ^ 62) ∧ R ((List.range n.toNat).map fun k => .int (k : Nat)) s1
  | _ => False
theorem qi_range1 {ta : PAx γ} (hg : Gl X "range") (hm : X.mg "range" = none) (ha : QA X G [e] ta) (hs : starEach [e] X.env = [(false, eval e X.env)] := by rfl) : QI X G tg (.Call (.Name "range" p) [e] [] pos) (qRange1 ta) := by
  refine PI.imp (pi_range1 hg hm ha hs) fun σ H R ⟨F, Z, s, Rp, r, t, q⟩ => ?_
  refine ⟨F, Z, s, _, r, t, fun ds s1 Z1 vs H1 t1 k1 r1 a1 => ?_⟩
  match ds, t1, a1 with
  | [.int n], t1, a1 =>
    simp only [Ats, At] at a1
    obtain ⟨v, _, rfl, rfl, rfl⟩ := a1
    refine ⟨n, rfl, t1.1.1, t1.1.2, q _ s1 Z1 H1 _ t1.2 k1 r1 ?_⟩
    have := walks_range (K := G.K) (Z := Z1) (lo := 0) (n := n.toNat)
    simpa using this
end
end Pm
set_option Elab.async false
set_option linter.all false
set_option maxRecDepth 100000
set_option maxHeartbeats 1000000
set_option autoImplicit false
namespace Pm
open PySem PySem.Spec
open PyProof.Rows hiding St
open L2
variable {γ : Type}

def idx {α : Type} (xs : List α) (i : Int) : Option α := if i < 0 then (if 0 ≤ i + xs.length then xs[(i + xs.length).toNat]? else none) else xs[i.toNat]?
theorem idx_at {α : Type} {xs : List α} {i : Int} {v : α} (h : idx xs i = some v) : atI xs i = some v := by
  unfold idx at h
  unfold atI ixN
  by_cases hi : i < 0
  · rw [if_pos hi] at h
    by_cases h2 : 0 ≤ i + xs.length
    · rw [if_pos h2] at h
      rw [if_neg (by omega), if_pos (by omega)]
      exact h
    · rw [if_neg h2] at h; cases h
  · rw [if_neg hi] at h
    have hl := (List.getElem?_eq_some_iff.mp h).1
    rw [if_pos (by omega), if_pos (by omega)]
    exact h
theorem idx_nat {α : Type} {xs : List α} {i : Nat} {v : α} (h : xs[i]? = some v) : idx xs (i : Int) = some v := by
  unfold idx
  rw [if_neg (by omega), Int.toNat_natCast]; exact h
theorem idx_nat' {α : Type} {xs : List α} {i : Nat} : idx xs (i : Int) = xs[i]? := by
  unfold idx
  rw [if_neg (by omega), Int.toNat_natCast]
theorem Ats.idx {K : PySem.W.Frag} {Z : Hp} {ds : List D} {vs : List V} (h : Ats K Z ds vs) {i : Int} {d : D} (e : Pm.idx ds i = some d) : ∃ v, atI vs i = some v ∧ At K Z d v := by
  have hl := h.len
  unfold Pm.idx at e
  by_cases hi : i < 0
  · rw [if_pos hi] at e
    by_cases h2 : 0 ≤ i + ds.length
    · rw [if_pos h2] at e
      obtain ⟨v, h3, h4⟩ := h.get e
      refine ⟨v, idx_at ?_, h4⟩
      unfold Pm.idx
      rw [if_pos hi, hl, if_pos h2]; exact h3
    · rw [if_neg h2] at e; cases e
  · rw [if_neg hi] at e
    obtain ⟨v, h3, h4⟩ := h.get e
    refine ⟨v, idx_at ?_, h4⟩
    unfold Pm.idx
    rw [if_neg hi]; exact h3
def ixD : D → D → DK → Prop
  | .lst xs, .int i, R => ∃ d, idx xs i = some d ∧ R d
  | .tup xs, .int i, R => ∃ d, idx xs i = some d ∧ R d
  | .str z, .int i, R => z.length ≤ sizeLine ∧ ∃ c, idx z.cps.toList i = some c ∧ R (.str ⟨#[c]⟩)
  | _, _, _ => False
section
variable {X : Cx}
theorem x_ix : IxR X (dOp2 X.K ixD) := by
  intro value slice pins s σ H x y v u Q I rx ry ⟨Z, d, e, R, k, ad, ae, h, q⟩ hs
  cases d <;> cases e <;> try exact h.elim
  · simp only [At] at ad ae
    subst ad; subst ae
    obtain ⟨h1, c, h2, h3⟩ := h
    exact ix_str value slice pins s σ H _ _ v u Q I rx ry ⟨_, _, c, rfl, rfl, h1, idx_at h2, dk q k h3 rfl⟩ hs
  · simp only [At] at ad ae
    obtain ⟨a, vs, rfl, a2, a3⟩ := ad
    subst ae
    obtain ⟨d, h1, h2⟩ := h
    obtain ⟨w, h3, h4⟩ := a3.idx h1
    exact ix_list value slice pins s σ H _ _ v u Q I rx ry ⟨a, vs, _, w, rfl, rfl, .inl (.inl (k _ _ a2)), h3, dk q k h2 h4⟩ hs
  · simp only [At] at ad ae
    obtain ⟨a, vs, rfl, a2, a3⟩ := ad
    subst ae
    obtain ⟨d, h1, h2⟩ := h
    obtain ⟨w, h3, h4⟩ := a3.idx h1
    exact ix_tup value slice pins s σ H _ _ v u Q I rx ry ⟨a, vs, _, w, rfl, rfl, seqT k a2, h3, dk q k h2 h4⟩ hs
end
section
variable {X : Cx} {G : GP γ} {a b e : Expr} {pos : Pos}
theorem qe_ix {ta tb : PEx γ} (ha : QE X G a ta) (hb : QE X G b tb) (hs : PlainIx b := by intro _ _; rfl) (hK : X.K = G.K := by rfl) : QE X G (.Subscript a b pos) (qBin ixD ta tb) :=
  PE.imp (pe_ix x_ix ha hb hs) fun _ _ _ h => by rw [hK]; exact lbin h

end

def BAt (K : PySem.W.Frag) (Z H : Hp) (d : D) (v : V) : Prop := At K Z d v ∨ ∃ ds a vs, d = .lst ds ∧ v = .ref a ∧ H a = some (.lst vs) ∧ Ats K Z ds vs
theorem BAt.dp {K : PySem.W.Frag} {Z H : Hp} (k : Same Z H) {d : D} {v : V} (h : BAt K Z H d v) (p : d.pln = true) : Dp K H v d.py := by
  rcases h with h | ⟨ds, a, vs, rfl, rfl, h1, h2⟩
  · exact At.dp k d v h p
  · simp only [D.pln] at p; simp only [D.py]
    exact .lst (.inl (.inl h1)) (Ats.dp k ds vs h2 p)
def slotD (s : S γ) (i : Nat) : Option D := match s.ρ[i]? with
  | some (some (.val d)) => some d
  | some (some (.own ds)) => some (.lst ds)
  | _ => none
theorem Rel.slot {G : GP γ} {F : Fra} {Z : Hp} {s : S γ} {σ : St} {H : Hp} (r : Rel G F Z s σ H) {i : Nat} {d : D} (h : slotD s i = some d) : ∃ v, σ[i]? = some (some v) ∧ BAt G.K Z H d v := by
  unfold slotD at h
  split at h
  · rename_i d' hd
    cases h
    obtain ⟨v, h1, h2⟩ := r.loc i _ hd
    exact ⟨v, h1, .inl h2⟩
  · rename_i ds hd
    cases h
    obtain ⟨a, vs, h1, h2, h3, _⟩ := r.own i _ hd
    exact ⟨_, h1, .inr ⟨ds, a, vs, rfl, rfl, h2, h3⟩⟩
  · cases h
def dOp2B (K : PySem.W.Frag) (p : D → D → DK → Prop) : R2 := fun x y H Q => ∃ Z d e R, Same Z H ∧ BAt K Z H d x ∧ BAt K Z H e y ∧ p d e R ∧ ∀ z Z' v H', R z → Ext Z H Z' H' → At K Z' z v → Q v H'
section
variable {X : Cx}
theorem b_ne {k : Nat} (hr : Room k X.A) : OpR X (compareOp .NotEq) (dOp2B X.K neD) := by
  intro pins s σ H x y v u Q I rx ry ⟨Z, d, e, R, k, ad, ae, h, q⟩
  rcases h.1.two with ⟨z1, z2, rfl, rfl⟩ | h1
  · have e1 : x = .str z1 := by
      rcases ad with ad | ⟨_, _, _, z, _⟩
      · simpa only [At] using ad
      · cases z
    have e2 : y = .str z2 := by
      rcases ae with ae | ⟨_, _, _, z, _⟩
      · simpa only [At] using ae
      · cases z
    subst e1; subst e2
    refine op_ne pins s σ H _ _ v u Q I rx ry ⟨rfl, ?_⟩
    rw [str_dec]
    exact dk q k h.2 rfl
  refine op_neD hr.units pins s σ H _ _ v u Q I rx ry ⟨d.py, e.py, ad.dp k h1.1, ae.dp k h1.2.1, shaped_py h1.1 h1.2.2.1, shaped_py h1.2.1 h1.2.2.2, ?_⟩
  rw [eqv_py d e h1.1 h1.2.1]
  exact dk q k h.2 rfl
theorem b_ix : IxR X (dOp2B X.K ixD) := by
  intro value slice pins s σ H x y v u Q I rx ry ⟨Z, d, e, R, k, ad, ae, h, q⟩ hs
  have ae' : At X.K Z e y := by
    rcases ae with ae | ⟨ds, a, vs, rfl, _⟩
    · exact ae
    · cases d <;> exact h.elim
  rcases ad with ad | ⟨ds, a, vs, rfl, rfl, hH, hA⟩
  · exact x_ix value slice pins s σ H x y v u Q I rx ry ⟨Z, d, e, R, k, ad, ae', h, q⟩ hs
  · cases e <;> try exact h.elim
    simp only [At] at ae'
    subst ae'
    obtain ⟨d, h1, h2⟩ := h
    obtain ⟨w, h3, h4⟩ := hA.idx h1
    exact ix_list value slice pins s σ H _ _ v u Q I rx ry ⟨a, vs, _, w, rfl, rfl, .inl (.inl hH), h3, dk q k h2 h4⟩ hs
end
section
variable {X : Cx} {G : GP γ} {a b e : Expr} {pos : Pos} {i : Nat} {x : Str} {xp : Pos}
def qBinN1 (p : D → D → DK → Prop) (i : Nat) (tb : PEx γ) : PEx γ := fun s R => (slotD s i).isSome = true ∧ tb s fun y s1 => ∃ d, slotD s1 i = some d ∧ p d y fun z => R z s1
theorem lbinN1 {p : D → D → DK → Prop} {tb : PEx γ} {σ : St} {H : Hp} {Q : VK} (h : lE G (qBinN1 p i tb) σ H Q) : tOp (dOp2B G.K p) (tVar i) (lE G tb) σ H Q := by
  obtain ⟨F, Z, s, R, r, ⟨t0, t⟩, q⟩ := h
  obtain ⟨d0, hd0⟩ := Option.isSome_iff_exists.mp t0
  obtain ⟨v, hv, _⟩ := r.slot hd0
  refine ⟨v, hv, F, Z, s, _, r, t, fun y s1 Z1 vy H1 t1 k1 r1 a1 => ?_⟩
  obtain ⟨d, hd, t1⟩ := t1
  obtain ⟨v', hv', bd⟩ := r1.slot hd
  rw [hv] at hv'; cases hv'
  exact ⟨Z1, d, y, _, r1.z, bd, .inl a1, t1, fun z Z3 v3 H3 t3 x3 a3 => q z s1 Z3 v3 H3 t3 (k1.trans x3.zz) (r1.ext x3) a3⟩
theorem qe_ixN {tb : PEx γ} (hn : PE X a (tVar i)) (hb : QE X G b tb) (hs : PlainIx b := by intro _ _; rfl) (hK : X.K = G.K := by rfl) : QE X G (.Subscript a b pos) (qBinN1 ixD i tb) :=
  PE.imp (pe_ix b_ix hn hb hs) fun _ _ _ h => by rw [hK]; exact lbinN1 h
theorem qt_cmpN1 {op : CmpOp} {p : D → D → DK → Prop} {tb : PEx γ} (ho : OpR X (compareOp op) (dOp2B G.K p)) (hn : PE X a (tVar i)) (hb : QE X G b tb) (hm : behindInMarks op b = false) : QT X G (.Compare a [op] [b] pos) (qB (qBinN1 p i tb)) :=
  PT.imp (pt_cmpR ho hn hb hm) fun _ _ _ h => lB (te := tOp (dOp2B G.K p) (tVar i) (lE G tb)) (fun _ _ _ h => lbinN1 h) h
def cut {α : Type} (xs : List α) (lo hi : Option Int) : List α := (xs.drop (HT.sIx xs.length 0 lo)).take (HT.sIx xs.length xs.length hi - HT.sIx xs.length 0 lo)
theorem cut_from {α : Type} (xs : List α) (k : Nat) : cut xs (some (k : Int)) none = xs.drop k := by
  unfold cut
  rw [HT.sIx_nat, HT.sIx_none]
  by_cases h : k ≤ xs.length
  · rw [Nat.min_eq_left h, List.take_of_length_le (by rw [List.length_drop]; omega)]
  · rw [Nat.min_eq_right (by omega), List.drop_eq_nil_of_le (Nat.le_refl _), List.drop_eq_nil_of_le (by omega)]; simp
theorem cut_to {α : Type} (xs : List α) (k : Nat) : cut xs none (some (k : Int)) = xs.take k := by
  unfold cut
  rw [HT.sIx_none, HT.sIx_nat, List.drop_zero, Nat.sub_zero]
  by_cases h : k ≤ xs.length
  · rw [Nat.min_eq_left h]
  · rw [Nat.min_eq_right (by omega), List.take_of_length_le (Nat.le_refl _), List.take_of_length_le (by omega)]
theorem Ats.cut {K : PySem.W.Frag} {Z : Hp} {ds : List D} {vs : List V} (h : Ats K Z ds vs) (lo hi : Option Int) : Ats K Z (Pm.cut ds lo hi) (cutV vs lo hi) := by
  unfold Pm.cut cutV
  rw [h.len]
  exact (h.drop _).take _
theorem getItem_tuple_whole {prog : Program} {w : World} {A : Around} {E : Value → Shared → Prop} {s : Shared} {t sl : Addr} {items : Array Value} {vl vu : Value} {lo hi : Option Int} {Q : Value → Shared → Prop} (ht : IsTup s.heap t items) (hs : s.heap.IsSliceOf sl vl vu .none) (pl : IsPart vl lo) (pu : IsPart vu hi)
    (hw : HT.sIx items.size 0 lo = 0 ∧ HT.sIx items.size items.size hi = items.size) (h : Q (.ref t) s) : wpAny (model prog w) A (getItem (.ref t) (.ref sl)) Q E s := by
  obtain ⟨os, hos, hcs, hds⟩ := id hs
  have hTs : s.TypeIs (.ref sl) "slice" := ⟨os, hos, hcs⟩
  unfold getItem
  try with_reducible refine wpAny_holding ?_
  first | refine wpAny_bind (wpAny_pure ?_) | skip
  refine wpAny_bind (wpAny_sequenceKey ht.typeIs (by decide) ?_)
  refine wpAny_bind (wpAny_callSpecial?_slot (name := Str.ofString "__getitem__") ht.typeIs PyProof.Rows.slot_tuple_getitem
    (wpAny_call_entry PyProof.Rows.slot_tuple_getitem ht.typeIs entry_tuple_getitem ?_ (args_tuple_getitem _ _)))
  show wpAny _ _ (Builtin.Tuple.tupleItemsOf (.ref t) >>= _) _ _ s
  refine wpAny_bind (tupleItemsOf_ ht ?_)
  refine wpAny_bind (wpAny_typeOf hTs ?_)
  rw [if_pos (by decide)]
  refine wpAny_bind (HT.sliceApplied_gen hs pl pu ?_)
  have hno : ((((HT.sIx items.size 0 lo : Nat) : Int) == 0 && (1 : Int) == 1 && (HT.sIx items.size items.size hi - HT.sIx items.size 0 lo) == items.size) = true) := by
    rw [hw.1, hw.2]; simp
  show wpAny _ _ (if (((HT.sIx items.size 0 lo : Nat) : Int) == 0 && (1 : Int) == 1 && (HT.sIx items.size items.size hi - HT.sIx items.size 0 lo) == items.size) = true then _ else _) _ _ s
  rw [if_pos hno]
  unfold Builtin.Tuple.tupleIsExact
  refine wpAny_bind (wpAny_bind (wpAny_typeOf ht.typeIs (wpAny_pure ?_)))
  rw [if_pos (by decide)]
  refine wpAny_bind (wpAny_rule ?_)
  exact wpAny_pure ⟨_, rfl, wpAny_pure h⟩
end
def sliceD (d : D) (lo hi : Option Int) (R : DK) : Prop := match d with
  | .lst xs => R (.lst (cut xs lo hi))
  | .tup xs => R (.tup (cut xs lo hi))
  | .str z => z.length ≤ sizeLine ∧ R (.str (cutS z lo hi))
  | _ => False
def dSl (K : PySem.W.Frag) (p : D → Option Int → Option Int → DK → Prop) : V → Option Int → Option Int → Hp → VK → Prop := fun x lo hi H Q => ∃ Z d R, Same Z H ∧ At K Z d x ∧ p d lo hi R ∧ ∀ z Z' v H', R z → Ext Z H Z' H' → At K Z' z v → Q v H'
section
variable {X : Cx}
theorem x_slice : SlR X (dSl X.K sliceD) := by
  intro pins s σ H x v vl vu lo hi sl Q I rx hs pl pu ⟨Z, d, R, k, ad, h, q⟩
  cases d <;> try exact h.elim
  · simp only [At] at ad
    subst ad
    exact sl_str pins s σ H _ v vl vu lo hi sl Q I rx hs pl pu ⟨_, rfl, h.1, dk q k h.2 rfl⟩
  · simp only [At] at ad
    obtain ⟨a, vs, rfl, a2, a3⟩ := ad
    refine sl_list pins s σ H _ v vl vu lo hi sl Q I rx hs pl pu ⟨a, vs, rfl, .inl (.inl (k _ _ a2)), fun p hp => ?_⟩
    have x := Ext.new (o := HO.lst (cutV vs lo hi)) k hp
    exact q _ _ _ _ h x ⟨p, _, rfl, upd_same, (Ats.mono x.zz _ _ a3).cut lo hi⟩
  · simp only [At] at ad
    obtain ⟨a, vs, rfl, a2, a3⟩ := ad
    by_cases hw : HT.sIx vs.length 0 lo = 0 ∧ HT.sIx vs.length vs.length hi = vs.length
    · cases rx
      obtain ⟨its, r, ht, hz⟩ := I.tuple (seqT k a2)
      have hlen : its.toArray.size = vs.length := by rw [List.size_toArray]; exact r.length.symm
      refine ⟨"tuple", _, PyProof.Rows.slot_tuple_getitem.lookup, ht.typeIs, ?_⟩
      refine getItem_tuple_whole ht hs pl pu (by rw [hlen]; exact hw) ⟨.ref a, H, I, rfl, ?_⟩
      refine dk (d := .tup _) q k h (show At X.K Z (.tup _) _ from ⟨a, vs, rfl, a2, ?_⟩)
      have e : cutV vs lo hi = vs := by
        unfold cutV
        rw [hw.1, hw.2, List.drop_zero, Nat.sub_zero, List.take_of_length_le (Nat.le_refl _)]
      have := a3.cut lo hi
      rw [e] at this; exact this
    · refine sl_tup pins s σ H _ v vl vu lo hi sl Q I rx hs pl pu ⟨a, vs, rfl, seqT k a2, hw, fun p hp => ?_⟩
      have x := Ext.new (o := HO.tup (cutV vs lo hi)) k hp
      exact q _ _ _ _ h x ⟨p, _, rfl, .inl (.inl upd_same), (Ats.mono x.zz _ _ a3).cut lo hi⟩
end
section
variable {X : Cx} {G : GP γ} {a b e : Expr} {pos p2 : Pos} {lo hi : Option Expr}
def qNoPart : POx γ := fun s R => R none s
def qPart (te : PEx γ) : POx γ := fun s R => te s fun d s1 => match d with
  | .int i => R (some i) s1
  | _ => False
theorem qo_none : QO X G none (qNoPart : POx γ) := PO.imp po_none fun σ H Q ⟨F, Z, s, R, r, t, q⟩ => q none s Z H t (Same.refl _) r
theorem qo_some {te : PEx γ} (h : QE X G e te) : QO X G (some e) (qPart te) := by
  refine PO.imp (po_some h) fun σ H Q ⟨F, Z, s, R, r, t, q⟩ => ?_
  refine ⟨F, Z, s, _, r, t, fun d s1 Z1 v H1 t1 k1 r1 a1 => ?_⟩
  cases d with
  | int i => exact ⟨i, a1, q _ s1 Z1 H1 t1 k1 r1⟩
  | _ => exact t1.elim
def qSl (te : PEx γ) (tl th : POx γ) : PEx γ := fun s R => te s fun d s1 => tl s1 fun l s2 => th s2 fun h s3 => sliceD d l h fun z => R z s3
theorem qe_slice {te : PEx γ} {tl th : POx γ} (he : QE X G e te) (hl : QO X G lo tl) (hu : QO X G hi th) (hK : X.K = G.K := by rfl) : QE X G (.Subscript e (.Slice lo hi none p2) pos) (qSl te tl th) := by
  refine PE.imp (pe_slice x_slice he hl hu) fun σ H Q ⟨F, Z, s, R, r, t, q⟩ => ?_
  refine ⟨F, Z, s, _, r, t, fun d s1 Z1 v1 H1 t1 k1 r1 a1 => ⟨F, Z1, s1, _, r1, t1, fun l s2 Z2 H2 t2 k2 r2 => ⟨F, Z2, s2, _, r2, t2, fun h s3 Z3 H3 t3 k3 r3 => ?_⟩⟩⟩
  refine ⟨Z3, d, _, r3.z, by rw [hK]; exact At.mono (k2.trans k3) _ _ a1, t3, fun z Z4 v H4 t4 x4 a4 => q z s3 Z4 v H4 t4 (((k1.trans k2).trans k3).trans x4.zz) (r3.ext x4) (by rw [hK] at a4; exact a4)⟩
end

section
variable {X : Cx}
theorem Ats.one {K : PySem.W.Frag} {Z : Hp} {d : D} {vs : List V} (h : Ats K Z [d] vs) : ∃ v, vs = [v] ∧ At K Z d v := by
  simp only [Ats] at h
  obtain ⟨v, _, rfl, h, rfl⟩ := h
  exact ⟨v, rfl, h⟩
theorem Ats.two {K : PySem.W.Frag} {Z : Hp} {d e : D} {vs : List V} (h : Ats K Z [d, e] vs) : ∃ v w, vs = [v, w] ∧ At K Z d v ∧ At K Z e w := by
  simp only [Ats] at h
  obtain ⟨v, _, rfl, h, w, _, rfl, h', rfl⟩ := h
  exact ⟨v, w, rfl, h, h'⟩
def fn1 (p : D → DK → Prop) : List D → DK → Prop
  | [d], R => p d R
  | _, _ => False
theorem c1 {f : Value} {p : D → DK → Prop} (h : ∀ (pins : List (Addr × Obj)) (s : Shared) (σ : St) (H Z : Hp) (d : D) (v : V) (us : List Value) (Q : VK) (R : DK), L2.Inv X pins σ H s → Vals [v] us → Same Z H → At X.K Z d v → p d R → (∀ z Z' v H', R z → Ext Z H Z' H' → At X.K Z' z v → Q v H') →
    wpAny (model X.prog X.w) X.A (call f us) (EP X pins σ Q) X.xe s) : CallR X f (dCall X.K (fn1 p)) := by
  intro pins s σ H xs us Q I r ⟨Z, ds, R, k, a, w, q⟩
  obtain ⟨d, rfl, w⟩ : ∃ d, ds = [d] ∧ p d R := by
    cases ds with
    | nil => exact w.elim
    | cons d ds => cases ds with
      | nil => exact ⟨d, rfl, w⟩
      | cons => exact w.elim
  obtain ⟨v, rfl, a1⟩ := Ats.one a
  exact h pins s σ H Z d v us Q R I r k a1 w q
def lenD : D → DK → Prop
  | .lst xs, R => R (.int xs.length)
  | .tup xs, R => R (.int xs.length)
  | .str x, R => x.length ≤ sizeLine ∧ R (.int x.length)
  | _, _ => False
theorem c_len : CallR X (.builtin "len") (dCall X.K (fn1 lenD)) := c1 fun pins s σ H Z d v us Q R I r k a w q => by
  cases d <;> try exact w.elim
  · simp only [At] at a; subst a
    exact call_len_str pins s σ H _ us Q I r ⟨_, rfl, w.1, dk q k w.2 rfl⟩
  · simp only [At] at a
    obtain ⟨p, vs, rfl, a2, a3⟩ := a
    exact call_len_seq pins s σ H _ us Q I r ⟨p, vs, rfl, .inl (.inl (.inl (k _ _ a2))), dk q k w (by simp [At, a3.len])⟩
  · simp only [At] at a
    obtain ⟨p, vs, rfl, a2, a3⟩ := a
    exact call_len_seq pins s σ H _ us Q I r ⟨p, vs, rfl, .inr (seqT k a2), dk q k w (by simp [At, a3.len])⟩
def absD : D → DK → Prop
  | .int i, R => R (.int i.natAbs)
  | _, _ => False
theorem c_abs : CallR X (.builtin "abs") (dCall X.K (fn1 absD)) := c1 fun pins s σ H Z d v us Q R I r k a w q => by
  cases d <;> try exact w.elim
  simp only [At] at a; subst a
  rename_i i
  refine call_abs pins s σ H _ us Q I r ⟨i, rfl, dk q k w ?_⟩
  have e : (i.natAbs : Int) = if i < 0 then -i else i := by split <;> omega
  rw [e]; rfl
def tupleD : D → DK → Prop
  | .lst xs, R => R (.tup xs)
  | .tup xs, R => R (.tup xs)
  | _, _ => False
theorem c_tuple : CallR X (.type "tuple") (dCall X.K (fn1 tupleD)) := c1 fun pins s σ H Z d v us Q R I r k a w q => by
  cases d <;> try exact w.elim
  · simp only [At] at a
    obtain ⟨p, vs, rfl, a2, a3⟩ := a
    refine call_tuple_of pins s σ H _ us Q I r ⟨p, vs, rfl, .inl ⟨.inl (.inl (k _ _ a2)), fun l hl => ?_⟩⟩
    have x := Ext.new (o := HO.tup vs) k hl
    exact q _ _ _ _ w x ⟨l, _, rfl, .inl (.inl upd_same), Ats.mono x.zz _ _ a3⟩
  · simp only [At] at a
    obtain ⟨p, vs, rfl, a2, a3⟩ := a
    exact call_tuple_of pins s σ H _ us Q I r ⟨p, vs, rfl, .inr ⟨seqT k a2, dk q k w ⟨p, vs, rfl, a2, a3⟩⟩⟩
def asInts : List D → Option (List Int)
  | [] => some []
  | .int i :: ds => (asInts ds).map (i :: ·)
  | _ :: _ => none
theorem asInts_eq : ∀ {ds : List D} {ns : List Int}, asInts ds = some ns → ds = ns.map D.int
  | [], ns, h => by simp [asInts] at h; subst h; rfl
  | .int i :: ds, ns, h => by
    simp only [asInts, Option.map_eq_some_iff] at h
    obtain ⟨ms, h1, rfl⟩ := h
    rw [asInts_eq h1]; rfl
  | .non :: _, _, h => by simp [asInts] at h
  | .bl _ :: _, _, h => by simp [asInts] at h
  | .str _ :: _, _, h => by simp [asInts] at h
  | .lst _ :: _, _, h => by simp [asInts] at h
  | .tup _ :: _, _, h => by simp [asInts] at h
  | .dct _ _ :: _, _, h => by simp [asInts] at h
  | .obj _ :: _, _, h => by simp [asInts] at h
theorem asInts_map : ∀ ns : List Int, asInts (ns.map D.int) = some ns
  | [] => rfl
  | n :: ns => by simp [asInts, asInts_map ns]
def asBls : List D → Option (List Bool)
  | [] => some []
  | .bl i :: ds => (asBls ds).map (i :: ·)
  | _ :: _ => none
theorem asBls_eq : ∀ {ds : List D} {ns : List Bool}, asBls ds = some ns → ds = ns.map D.bl
  | [], ns, h => by simp [asBls] at h; subst h; rfl
  | .bl i :: ds, ns, h => by
    simp only [asBls, Option.map_eq_some_iff] at h
    obtain ⟨ms, h1, rfl⟩ := h
    rw [asBls_eq h1]; rfl
  | .non :: _, _, h => by simp [asBls] at h
  | .int _ :: _, _, h => by simp [asBls] at h
  | .str _ :: _, _, h => by simp [asBls] at h
  | .lst _ :: _, _, h => by simp [asBls] at h
  | .tup _ :: _, _, h => by simp [asBls] at h
  | .dct _ _ :: _, _, h => by simp [asBls] at h
  | .obj _ :: _, _, h => by simp [asBls] at h
theorem asBls_map : ∀ ns : List Bool, asBls (ns.map D.bl) = some ns
  | [] => rfl
  | n :: ns => by simp [asBls, asBls_map ns]
def sumD : D → DK → Prop
  | .lst xs, R => ∃ ns, asInts xs = some ns ∧ R (.int ns.sum)
  | _, _ => False
theorem c_sum (hc : X.calm = true) : CallR X (.builtin "sum") (dCall X.K (fn1 sumD)) := c1 fun pins s σ H Z d v us Q R I r k a w q => by
  cases d <;> try exact w.elim
  obtain ⟨ns, e, w⟩ := w
  rw [asInts_eq e] at a
  simp only [At] at a
  obtain ⟨p, vs, rfl, a2, a3⟩ := a
  rw [a3.ints] at a2
  exact cr_sum hc pins s σ H _ us Q I r ⟨p, ns, rfl, .inl (.inl (k _ _ a2)), dk q k w rfl⟩
def allD : D → DK → Prop
  | .lst xs, R => ∃ bs, asBls xs = some bs ∧ R (.bl (bs.all id))
  | _, _ => False
theorem c_all (hc : X.calm = true) : CallR X (.builtin "all") (dCall X.K (fn1 allD)) := c1 fun pins s σ H Z d v us Q R I r k a w q => by
  cases d <;> try exact w.elim
  obtain ⟨ns, e, w⟩ := w
  rw [asBls_eq e] at a
  simp only [At] at a
  obtain ⟨p, vs, rfl, a2, a3⟩ := a
  rw [a3.bls] at a2
  exact cr_all hc pins s σ H _ us Q I r ⟨p, ns, rfl, .inl (.inl (k _ _ a2)), dk q k w rfl⟩
def fn2 (p : D → D → DK → Prop) : List D → DK → Prop
  | [d, e], R => p d e R
  | _, _ => False
theorem c2 {f : Value} {p : D → D → DK → Prop} (h : ∀ (pins : List (Addr × Obj)) (s : Shared) (σ : St) (H Z : Hp) (d e : D) (v w : V) (us : List Value) (Q : VK) (R : DK), L2.Inv X pins σ H s → Vals [v, w] us → Same Z H → At X.K Z d v → At X.K Z e w → p d e R → (∀ z Z' v H', R z → Ext Z H Z' H' → At X.K Z' z v → Q v H') →
    wpAny (model X.prog X.w) X.A (call f us) (EP X pins σ Q) X.xe s) : CallR X f (dCall X.K (fn2 p)) := by
  intro pins s σ H xs us Q I r ⟨Z, ds, R, k, a, w, q⟩
  obtain ⟨d, e, rfl, w⟩ : ∃ d e, ds = [d, e] ∧ p d e R := by
    cases ds with
    | nil => exact w.elim
    | cons d ds => cases ds with
      | nil => exact w.elim
      | cons e ds => cases ds with
        | nil => exact ⟨d, e, rfl, w⟩
        | cons => exact w.elim
  obtain ⟨v, u, rfl, a1, a2⟩ := Ats.two a
  exact h pins s σ H Z d e v u us Q R I r k a1 a2 w q
abbrev min2 := intD0 fun i j => .int (min i j)
theorem c_min2 (hc : X.calm = true) : CallR X (.builtin "min") (dCall X.K (fn2 min2)) := c2 fun pins s σ H Z d e v u us Q R I r k a b w q => by
  cases d <;> cases e <;> try exact w.elim
  simp only [At] at a b; subst a; subst b
  rename_i i j
  refine call_min2 hc pins s σ H _ us Q I r ⟨i, j, rfl, dk q k w ?_⟩
  show V.int _ = V.int _
  congr 1
  split <;> omega
def isTy (T : String) : D → Bool
  | .non => T == "NoneType"
  | .bl _ => T == "bool" || T == "int"
  | .int _ => T == "int"
  | .str _ => T == "str"
  | .lst _ => T == "list"
  | .tup _ => T == "tuple"
  | .dct _ _ => T == "dict"
  | .obj _ => false
def tyOf : D → String
  | .non => "NoneType" | .bl _ => "bool" | .int _ => "int" | .str _ => "str" | .lst _ => "list" | .tup _ => "tuple" | .dct _ _ => "dict" | .obj _ => ""
theorem tyX_of {K : PySem.W.Frag} {Z H : Hp} (k : Same Z H) {d : D} {v : V} (a : At K Z d v) (ho : ∀ p, d ≠ .obj p) : TyX K H v (.type (tyOf d)) := by
  cases d <;> simp only [At] at a
  · subst a; exact .base .non
  · subst a; exact .base (.bl _)
  · subst a; exact .base (.int _)
  · subst a; exact .base (.str _)
  · obtain ⟨p, vs, rfl, a2, _⟩ := a; exact .base (.lst (k _ _ a2))
  · obtain ⟨p, vs, rfl, a2, _⟩ := a
    rcases a2 with (a2 | ⟨o, a2⟩) | ⟨o, its, n, a2, c, _⟩
    · exact .base (.tup (k _ _ a2))
    · exact .fTuple (k _ _ a2)
    · exact .kTuple a2 c
  · obtain ⟨p, vs, rfl, a2, _⟩ := a; exact .base (.dK (k _ _ a2))
  · exact absurd rfl (ho _)
end
section
variable {X : Cx} {G : GP γ} {e : Expr} {pos p p2 : Pos}
def qIsi (T : String) (te : PEx γ) : PEx γ := fun s R => te s fun d s1 => (∀ p, d ≠ .obj p) ∧ R (.bl (isTy T d)) s1
theorem kit_all (K : PySem.W.Frag) {T : String} (hT : T = "int" ∨ T = "bool" ∨ T = "str" ∨ T = "tuple" ∨ T = "list" ∨ T = "dict") (d : D) (ho : ∀ p, d ≠ .obj p) : PySem.W.kitOne K (.type (tyOf d)) (.type T) = some (isTy T d) := by
  cases d with
  | obj p => exact absurd rfl (ho p)
  | _ => rcases hT with rfl | rfl | rfl | rfl | rfl | rfl <;> exact kit_ty (by simp only [tyOf, isTy]; decide +kernel)
theorem qe_isi {T : Str} {T' : String} {te : PEx γ} (hT : T' = "int" ∨ T' = "bool" ∨ T' = "str" ∨ T' = "tuple" ∨ T' = "list" ∨ T' = "dict") (he : QE X G e te) (hg : Gl X "isinstance") (hm : X.mg "isinstance" = none) (hg2 : Gl X T) (hm2 : X.mg T = none) (hv2 : bootBuiltins T = some (.type T')) (hK : X.K = G.K := by rfl)
    (hn : T ≠ "__name__" := by decide) (hd : (T == ("__debug__" : Str)) = false := by decide)
    (hs : starEach [e, .Name T p2] X.env = (false, eval e X.env) :: starEach [.Name T p2] X.env := by rfl) (hs2 : starEach [.Name T p2] X.env = (false, eval (.Name T p2) X.env) :: starEach [] X.env := by rfl) (hpl : (backTo pos (starEach [.Name T p2] X.env)).any (·.1) = false := by rfl) :
    QE X G (.Call (.Name "isinstance" p) [e, .Name T p2] [] pos) (qIsi T' te) := by
  refine PE.imp (pe_callB call_isi hg hm (by decide +kernel) (pa_cons he (pa_cons (pe_bltn (v := .ty T') hg2 hm2 hv2 rfl hn hd) pa_nil hs2) hs) (by decide) (by decide) hs hpl) fun σ H Q ⟨F, Z, s, R, r, t, q⟩ => ?_
  refine ⟨F, Z, s, _, r, t, fun d s1 Z1 v H1 t1 k1 r1 a1 => ?_⟩
  exact ⟨v, .ty T', .type (tyOf d), .type T', isTy T' d, rfl, .ty _, by rw [hK]; exact tyX_of r1.z a1 t1.1, kit_all _ hT d t1.1, q _ s1 Z1 _ H1 t1.2 k1 r1 rfl⟩

variable {i : Nat} {o : Expr} {apos cpos : Pos}
theorem own_ty {K : PySem.W.Frag} {H : Hp} {a : Addr} {vs : List V} (h : H a = some (.lst vs)) : tyV K "list" (.ref a) H := .inl ⟨rfl, vs, .inl (.inl h)⟩
def qAppend (i : Nat) (te : PEx γ) : PEx γ := fun s R => (∃ es, s.ρ[i]? = some (some (.own es))) ∧ te s fun d s1 => ∃ ds, s1.ρ[i]? = some (some (.own ds)) ∧ ds.length < sizeLine ∧ R .non ⟨s1.ρ.set i (some (.own (ds ++ [d]))), s1.g⟩
theorem qe_append {te : PEx γ} (hn : PE X o (tVar i)) (he : QE X G e te)
    (hbase : attributeBase o "append" X.env (eval o X.env) = eval o X.env := by rfl)
    (hfew : ((backTo cpos (starEach [e] X.env)).all (fun x => !x.1) && (backToKw cpos (keywordEach [] X.env)).all (fun x => x.1.isSome)
      && decide (([e] : List Expr).length + ([] : List Keyword).length + (if ([] : List Keyword).isEmpty then 0 else 1) < 30)) = true := by rfl)
    (hline : (apos.endLine == cpos.line) = true := by rfl) (hs : starEach [e] X.env = (false, eval e X.env) :: starEach [] X.env := by rfl) (hplain : (backTo cpos (starEach [] X.env)).any (·.1) = false := by rfl) :
    QE X G (.Call (.Attribute o "append" apos) [e] [] cpos) (qAppend i te) := by
  refine PE.imp (pe_bm PySem.F.plainAttrs_list PySem.F.slot_list_append PySem.F.type_list_append mt_append hn (pa_cons he pa_nil hs) hbase hfew hline hs hplain) fun σ H Q ⟨F, Z, s, R, r, ⟨⟨es, t0⟩, t⟩, q⟩ => ?_
  obtain ⟨a, vs, h1, h2, _⟩ := r.own i es t0
  refine ⟨.ref a, h1, own_ty h2, F, Z, s, _, r, t, fun d s1 Z1 v H1 ⟨ds, t1, t2, t3⟩ k1 r1 a1 => ?_⟩
  obtain ⟨a', vs', g1, g2, g3, _⟩ := r1.own i ds t1
  rw [h1] at g1; cases g1
  have g4 : Ats G.K Z1 (ds ++ [d]) (vs' ++ [v]) := g3.append ⟨v, [], rfl, a1, rfl⟩
  exact ⟨a, vs', v, rfl, rfl, g2, by rw [g3.len]; exact t2, q _ _ Z1 _ _ t3 k1 (r1.write t1 h1 g4) rfl⟩
def qPop (i : Nat) : PEx γ := fun s R => ∃ ds d, s.ρ[i]? = some (some (.own ds)) ∧ ds[ds.length - 1]? = some d ∧ R d ⟨s.ρ.set i (some (.own ds.dropLast)), s.g⟩
theorem Ats.dropLast {K : PySem.W.Frag} {Z : Hp} {ds : List D} {vs : List V} (h : Ats K Z ds vs) : Ats K Z ds.dropLast vs.dropLast := by
  rw [List.dropLast_eq_take, List.dropLast_eq_take, h.len]
  exact h.take _
theorem qe_pop (hn : PE X o (tVar i)) (hbase : attributeBase o "pop" X.env (eval o X.env) = eval o X.env := by rfl) (hline : (apos.endLine == cpos.line) = true := by rfl) : QE X G (.Call (.Attribute o "pop" apos) [] [] cpos) (qPop i) := by
  refine PE.imp (pe_bm0 PySem.F.plainAttrs_list PySem.F.slot_list_pop PySem.F.type_list_pop mt_pop hn hbase hline) fun σ H Q ⟨F, Z, s, R, r, ⟨ds, d, t1, t2, t3⟩, q⟩ => ?_
  obtain ⟨a, vs, h1, h2, h3, _⟩ := r.own i ds t1
  obtain ⟨v, h4, h5⟩ := h3.get t2
  exact ⟨.ref a, h1, own_ty h2, a, vs, v, rfl, rfl, h2, by rw [h3.len]; exact h4, q _ _ Z _ _ t3 (Same.refl _) (r.write t1 h1 h3.dropLast) h5⟩
def qExtend (i : Nat) (te : PAx γ) : PEx γ := fun s R => (∃ es, s.ρ[i]? = some (some (.own es))) ∧ te s fun es s1 => ∃ ds, s1.ρ[i]? = some (some (.own ds)) ∧ ds.length + es.length ≤ sizeLine ∧ R .non ⟨s1.ρ.set i (some (.own (ds ++ es))), s1.g⟩
theorem qe_extend {te : PAx γ} (hn : PE X o (tVar i)) (he : QF X G e te)
    (hbase : attributeBase o "extend" X.env (eval o X.env) = eval o X.env := by rfl)
    (hfew : ((backTo cpos (starEach [e] X.env)).all (fun x => !x.1) && (backToKw cpos (keywordEach [] X.env)).all (fun x => x.1.isSome)
      && decide (([e] : List Expr).length + ([] : List Keyword).length + (if ([] : List Keyword).isEmpty then 0 else 1) < 30)) = true := by rfl)
    (hline : (apos.endLine == cpos.line) = true := by rfl) (hs : starEach [e] X.env = (false, eval e X.env) :: starEach [] X.env := by rfl) (hplain : (backTo cpos (starEach [] X.env)).any (·.1) = false := by rfl) :
    QE X G (.Call (.Attribute o "extend" apos) [e] [] cpos) (qExtend i te) := by
  refine PE.imp (pe_bm PySem.F.plainAttrs_list PySem.F.slot_list_extend PySem.F.type_list_extend mt_extend hn (pa_cons he pa_nil hs) hbase hfew hline hs hplain) fun σ H Q ⟨F, Z, s, R, r, ⟨⟨es, t0⟩, t⟩, q⟩ => ?_
  obtain ⟨a, vs, h1, h2, _⟩ := r.own i es t0
  refine ⟨.ref a, h1, own_ty h2, F, Z, s, _, r, t, fun zs s1 Z1 b ws H1 ⟨ds, t1, t2, t3⟩ k1 r1 hb ab hz hf hg ho => ?_⟩
  obtain ⟨a', vs', g1, g2, g3, _⟩ := r1.own i ds t1
  rw [h1] at g1; cases g1
  exact ⟨a, b, vs', ws, rfl, rfl, g2, hb, by rw [g3.len, ab.len]; exact t2, q _ _ Z1 _ _ t3 k1 (r1.write t1 h1 (g3.append ab)) rfl⟩
def qSetItem (tv : PEx γ) (i : Nat) (te : PEx γ) : PSx γ := fun E s => tv s fun d s1 => (∃ es, s1.ρ[i]? = some (some (.own es))) ∧ te s1 fun y s2 => match y with
  | .int k => ∃ ds j, s2.ρ[i]? = some (some (.own ds)) ∧ ixN ds.length k = some j ∧ E.nx ⟨s2.ρ.set i (some (.own (ds.set j d))), s2.g⟩
  | _ => False
theorem qs_setItem {v b : Expr} {tv tb : PEx γ} {tpos : Pos} (hv : QE X G v tv) (hn : PE X o (tVar i)) (hb : QE X G b tb) (hs : swapsWithSole [.Subscript o b tpos] v pos.line X.env = pure false := by rfl) (hw : swappedStores [.Subscript o b tpos] v X.env = pure none := by rfl)
    (h1 : (assignEach [.Subscript o b tpos] X.env).map (·.2) = [assign (.Subscript o b tpos) X.env] := by rfl)
    (ha : ∀ v, assign (.Subscript o b tpos) X.env v = (do
      let ov ← holding [v] (eval o X.env)
      let iv ← holding [v, ov] (eval b X.env)
      standAt tpos
      holding [v, ov, iv] (setItem ov iv v)
      release [v, ov, iv] []) := by intro _; rfl) : QS X G (.Assign [.Subscript o b tpos] v pos) (qSetItem tv i tb) := by
  refine PS.imp (ps_asg hv (pg_sub hn hb set_list ha) hs hw h1) fun De σ H ⟨F, Z, s, E, r, t, n, _⟩ => ?_
  refine ⟨F, Z, s, _, r, t, fun d s1 Z1 v1 H1 ⟨⟨es, t0⟩, t1⟩ k1 r1 a1 => ?_⟩
  obtain ⟨a, vs, g1, g2, _⟩ := r1.own i es t0
  refine ⟨.ref a, g1, F, Z1, s1, _, r1, t1, fun y s2 Z2 v2 H2 t2 k2 r2 a2 => ?_⟩
  cases y with
  | int k =>
    obtain ⟨ds, j, e1, e2, e3⟩ := t2
    have a2' : v2 = .int k := a2
    obtain ⟨a', vs', f1, f2, f3, _⟩ := r2.own i ds e1
    rw [g1] at f1; cases f1
    refine ⟨a, vs', k, j, rfl, a2', f2, by rw [f3.len]; exact e2, n _ Z2 _ _ e3 (k1.trans k2) (r2.write e1 g1 (f3.set j (At.mono k2 _ _ a1)))⟩
  | _ => exact t2.elim
end
section
variable {X : Cx} {G : GP γ} {a b : Expr} {pos : Pos}
def qBinF (p : D → D → (List D → Prop) → Prop) (ta tb : PEx γ) : PAx γ := fun s R => ta s fun x s1 => tb s1 fun y s2 => p x y fun z => R z s2
theorem qf_bin {op : Operator} {p : D → D → (List D → Prop) → Prop} {ta tb : PEx γ} (ho : OpR X (binaryOp op) (dOp2F G.K p)) (ha : QE X G a ta) (hb : QE X G b tb) : QF X G (.BinOp a op b pos) (qBinF p ta tb) := by
  refine PE.imp (pe_op ho ha hb) fun σ H Q ⟨F, Z, s, R, r, t, q⟩ => ?_
  refine ⟨F, Z, s, _, r, t, fun x s1 Z1 v1 H1 t1 k1 r1 a1 => ⟨F, Z1, s1, _, r1, t1, fun y s2 Z2 v2 H2 t2 k2 r2 a2 => ?_⟩⟩
  refine ⟨Z2, x, y, _, r2.z, At.mono k2 _ _ a1, a2, t2, fun zs p vs H3 t3 k3 hn hp a3 => ?_⟩
  obtain ⟨f1, f2, f3, f4⟩ := r2.fresh hn
  exact q zs s2 Z2 p vs H3 t3 (k1.trans k2) (r2.grow k3) hp a3 f1 f2 f3 f4
end
end Pm
set_option Elab.async false
set_option linter.all false
set_option maxRecDepth 100000
set_option maxHeartbeats 1000000
set_option autoImplicit false
namespace Pm
open PySem PySem.Spec
open PyProof.Rows hiding St
open L2
section
variable {prog : Program} {w : World} {A : Around} {E : Value → Shared → Prop} {s : Shared}
theorem gather_tup {t : Addr} {u : Obj} {xs : Array Value} {n : Nat} {Q : List Value → Shared → Prop} (hu : s.heap.get? t = some u) (hc : u.cls = .type "tuple") (hd : u.data = .seq xs n) (hz : xs.size ≤ sizeLine)
    (fin : Q xs.toList { s with heap := (s.heap.push (seqObj "list" #[] 0)).update s.heap.objs.size (Obj.mapSeq (· ++ xs)) }) : wpAny (model prog w) A (collect (.ref t)) Q E s := by
  have old : (s.heap.push (seqObj "list" #[] 0)).get? t = some u := Heap.get?_push_of_some _ hu
  have new : (s.heap.push (seqObj "list" #[] 0)).get? s.heap.objs.size = some (seqObj "list" #[] 0) := Heap.get?_push_size _ rfl
  unfold collect
  refine wpAny_bind (wpAny_runValue (codeAny_builtin (id := "proto.collect") entry_proto_collect' ?_))
  show wpAny _ _ (do again (.builtin "list.__iadd__" ⟨[← newList [], .ref t], []⟩)) _ _ s
  refine wpAny_bind (wpAny_newList ?_ (Nat.zero_le _))
  refine wpAny_pure ⟨Code.quiet_builtin _ (by decide +kernel), codeAny_builtin entry_list_iadd' ?_⟩
  show wpAny _ _ (Builtin.List.listExtendWith (.ref s.heap.objs.size) (.ref t) (.ref s.heap.objs.size)) _ _ { s with heap := s.heap.push (seqObj "list" #[] 0) }
  unfold Builtin.List.listExtendWith
  refine wpAny_bind (wpAny_typeOf (T := "tuple") ⟨u, old, hc⟩ ?_)
  rw [if_pos (by have e : (Value.type "tuple" == Value.type "tuple") = true := (by rfl); rw [e]; simp)]
  refine wpAny_bind (listItems_at old hd (wpAny_bind (listItems_at (xs := #[]) (n := 0) new rfl ?_)))
  rw [if_neg (by simp)]
  refine wpAny_bind (listUpdate_at (xs := #[]) (n := 0) new rfl (wpAny_pure ?_) (Nat.zero_le _) (by show (#[] ++ xs).size ≤ sizeLine + 1; simp only [Array.size_append]; simp; omega))
  show wpAny (model prog w) A (do
      let o ← load s.heap.objs.size
      match o.data with
      | .seq ys _ => pure ys.toList
      | _ => unsupported "internal:collect") Q E { s with heap := (s.heap.push (seqObj "list" #[] 0)).update s.heap.objs.size (Obj.mapSeq (· ++ xs)) }
  refine wpAny_bind (wpAny_load (get?_update_seq new _) ?_)
  show wpAny _ _ (pure ((#[] : Array Value) ++ xs).toList) Q E _
  rw [show ((#[] : Array Value) ++ xs).toList = xs.toList by simp]
  exact wpAny_pure fin
end
end Pm
set_option Elab.async false
set_option linter.all false
set_option maxRecDepth 100000
set_option maxHeartbeats 1000000
set_option autoImplicit false
namespace Pm
open PySem PySem.Spec
open PyProof.Rows hiding St
open L2
variable {γ : Type}
section
variable {X : Cx} {G : GP γ} {e tg : Expr} {p p2 pos pos2 : Pos}
def qRevR (ta : PEx γ) : PAx γ := fun s R => ta s fun d s1 => match d with
  | .int n => (-(2 ^ 62) ≤ n ∧ n < 2 ^ 62) ∧ R ((List.range n.toNat).map fun k => .int ((n.toNat : Int) - 1 - (k : Nat))) s1
  | _ => False
def rgD (a b : Int) : List D := (List.range (b - a).toNat).map fun k => .int (a + (k : Nat))
theorem rg_ats {K : PySem.W.Frag} {Z : Hp} (a b : Int) : Ats K Z (rgD a b) (rgV a b) := by
  have e1 : rgD a b = ((List.range (b - a).toNat).map fun k : Nat => a + (k : Int)).map D.int := by unfold rgD; rw [List.map_map]; rfl
  have e2 : rgV a b = ((List.range (b - a).toNat).map fun k : Nat => a + (k : Int)).map V.int := by unfold rgV; rw [List.map_map]; rfl
  rw [e1, e2]
  exact Ats.of_ints _
def qLstRg1 (ta : PEx γ) : PAx γ := fun s R => ta s fun d s1 => match d with
  | .int n => (-(2 ^ 62) ≤ n ∧ n ≤ 2 ^ 24) ∧ R (rgD 0 n) s1
  | _ => False
theorem qf_lstRg1 {ta : PEx γ} (hc : X.calm = true) (hg : Gl X "list") (hm : X.mg "list" = none) (hg2 : Gl X "range") (hm2 : X.mg "range" = none) (ha : QE X G e ta) (na : starEach [e] X.env = (false, eval e X.env) :: starEach [] X.env := by rfl)
    (hs : starEach [.Call (.Name "range" p2) [e] [] pos2] X.env = (false, eval (.Call (.Name "range" p2) [e] [] pos2) X.env) :: starEach [] X.env := by rfl) :
    QF X G (.Call (.Name "list" p) [.Call (.Name "range" p2) [e] [] pos2] [] pos) (qLstRg1 ta) := by
  refine PE.imp (pe_listRg hc hg hm (prg_1 hg2 hm2 ha na) hs) fun σ H Q ⟨F, Z, s, R, r, t, q⟩ => ?_
  refine ⟨F, Z, s, _, r, t, fun d s1 Z1 v H1 t1 k1 r1 a1 => ?_⟩
  match d, t1, a1 with
  | .int n, t1, a1 =>
    simp only [At] at a1
    subst a1
    refine ⟨n, rfl, ⟨by decide, by decide, t1.1.1, by omega, by omega⟩, fun p hp => ?_⟩
    obtain ⟨f1, f2, f3, f4⟩ := r1.fresh hp
    exact q _ s1 Z1 p _ _ t1.2 k1 (r1.grow (same_upd hp)) upd_same (rg_ats 0 n) f1 f2 f3 f4
def qTupRg1 (ta : PEx γ) : PEx γ := fun s R => ta s fun d s1 => match d with
  | .int n => (-(2 ^ 62) ≤ n ∧ n ≤ 2 ^ 24) ∧ R (.tup (rgD 0 n)) s1
  | _ => False
theorem qe_tupRg1 {ta : PEx γ} (hc : X.calm = true) (hg : Gl X "tuple") (hm : X.mg "tuple" = none) (hg2 : Gl X "range") (hm2 : X.mg "range" = none) (ha : QE X G e ta) (na : starEach [e] X.env = (false, eval e X.env) :: starEach [] X.env := by rfl)
    (hs : starEach [.Call (.Name "range" p2) [e] [] pos2] X.env = (false, eval (.Call (.Name "range" p2) [e] [] pos2) X.env) :: starEach [] X.env := by rfl) :
    QE X G (.Call (.Name "tuple" p) [.Call (.Name "range" p2) [e] [] pos2] [] pos) (qTupRg1 ta) := by
  refine PE.imp (pe_tupRg hc hg hm (prg_1 hg2 hm2 ha na) hs) fun σ H Q ⟨F, Z, s, R, r, t, q⟩ => ?_
  refine ⟨F, Z, s, _, r, t, fun d s1 Z1 v H1 t1 k1 r1 a1 => ?_⟩
  match d, t1, a1 with
  | .int n, t1, a1 =>
    simp only [At] at a1
    subst a1
    refine ⟨n, rfl, ⟨by decide, by decide, t1.1.1, by omega, by omega⟩, fun p hp => ?_⟩
    have x := Ext.new (o := HO.tup (rgV 0 n)) r1.z hp
    exact q _ s1 _ _ _ t1.2 (k1.trans x.zz) (r1.ext x) ⟨p, _, rfl, .inl (.inl upd_same), rg_ats 0 n⟩
end
end Pm
set_option Elab.async false
set_option linter.all false
set_option maxRecDepth 100000
set_option maxHeartbeats 1000000
set_option autoImplicit false
namespace Pm
open PySem PySem.Spec
open PyProof.Rows hiding St
open L2
variable {γ : Type}

abbrev drawLine : Nat := 2 ^ 24
structure Rng (r c q : Addr) (n : Nat) (H : Hp) : Prop where
  ex : ∃ cs rs : List Int, H r = some (.lst [.ref c, .int n, .ref q]) ∧ H c = some (.lst (cs.map V.int)) ∧ H q = some (.lst (rs.map V.int)) ∧ cs.length = rs.length ∧ 0 < cs.length
  rc : r ≠ c
  rq : r ≠ q
  cq : c ≠ q
def gr (K : PySem.W.Frag) (r c q : Addr) : GP Nat where
  K := K
  foot := fun _ a => a = r ∨ a = c ∨ a = q
  J := fun n H => Rng r c q n H
  stay := fun n H H' ⟨⟨cs, rs, h1, h2, h3, h4⟩, a, b, d⟩ k => ⟨⟨cs, rs, (k r (.inl rfl)).trans h1, (k c (.inr (.inl rfl))).trans h2, (k q (.inr (.inr rfl))).trans h3, h4⟩, a, b, d⟩
  live := fun n H a ⟨⟨cs, rs, h1, h2, h3, _⟩, _, _, _⟩ h => by
    rcases h with rfl | rfl | rfl
    · exact ⟨_, h1⟩
    · exact ⟨_, h2⟩
    · exact ⟨_, h3⟩
def nextS (r : Addr) : Spec Nat := fun ds g R => ∃ m : Int, ds = [.obj r, .int m] ∧ 0 < m ∧ m ≤ 10 ^ 60 ∧ g < drawLine ∧ ∀ k : Int, 0 ≤ k → k < m → R (.int k) (g + 1)
def tNextB (K : PySem.W.Frag) : TS :=
  tSeq (tAsg (tVar 0) (gLs K 3 (gCons (gName 2) (gCons (gName 3) (gCons (gName 4) gNil)))))
  (tSeq (tAsg (tOp (rI (fun _ j => 0 < j) fun i j => .int (i % j)) (tVar 3) (tCB (fun xs H Q => ∃ p ys, xs = [.ref p] ∧ (SqL K H p ys ∨ SqT K H p ys) ∧ Q (.int ys.length) H) (tCons (tVar 2) tNil))) (gName 5))
  (tSeq (tAsg (tOp (rI0 fun i j => .int (i + j)) (tVar 3) (tC (.int 1))) (gSub (tVar 0) (tC (.int 1)) rSetL))
  (tSeq (tIfS (tTest (tOp (rI0 fun i j => .bl (decide (j < i))) (tOp (rIxL K) (tVar 4) (tVar 5)) (tC (.int 0))))
      (tSeq (tAsg (tOp (rI (fun _ j => 0 < j) fun i j => .int (i % j)) (tOp (rIxL K) (tVar 4) (tVar 5)) (tVar 1)) (gName 6))
      (tSeq (tAsg (tOp (rI DivOk fun i j => .int (i.fdiv j)) (tOp (rIxL K) (tVar 4) (tVar 5)) (tVar 1)) (gSub (tVar 4) (tVar 5) rSetL))
      (tRet (tVar 6)))) tNext)
  (tSeq (tAsg (tOp (rI (fun _ j => 0 < j) fun i j => .int (i % j)) (tOp (rI CPow fun i j => .int (i ^ j.toNat)) (tOp (rI0 fun i j => .int (i + j)) (tOp (rI0 fun i j => .int (i + j)) (tOp (rI (fun _ j => 0 < j) fun i j => .int (i % j)) (tOp (rIxL K) (tVar 2) (tVar 5)) (tC (.int 2147483629))) (tOp (rI CMul fun i j => .int (i * j)) (tC (.int 39119)) (tVar 3))) (tC (.int 9901))) (tC (.int 3))) (tC (.int 2147483587))) (gName 7))
  (tSeq (tAsg (tOp (rI (fun _ j => 0 < j) fun i j => .int (i % j)) (tOp (rI CPow fun i j => .int (i ^ j.toNat)) (tOp (rI0 fun i j => .int (i + j)) (tOp (rI0 fun i j => .int (i + j)) (tVar 7) (tOp (rI CMul fun i j => .int (i * j)) (tOp (rI CMul fun i j => .int (i * j)) (tC (.int 7001)) (tVar 3)) (tVar 3))) (tC (.int 41))) (tC (.int 3))) (tC (.int 2147483563))) (gName 8))
  (tRet (tOp (rI (fun _ j => 0 < j) fun i j => .int (i % j)) (tOp (rI (fun _ j => 0 < j) fun i j => .int (i % j)) (tOp (rI0 fun i j => .int (i + j)) (tOp (rI CMul fun i j => .int (i * j)) (tVar 8) (tC (.int 2147483423))) (tVar 7)) (tC (.int 4611686018427387847))) (tVar 1))))))))
theorem divOk60 {i j : Int} (h : 0 < j) (h2 : j ≤ 10 ^ 60) : DivOk i j := by
  refine ⟨by omega, ?_⟩
  have h3 : j.natAbs < 2 ^ 200 := by
    have : (10 : Int) ^ 60 < 2 ^ 200 := by decide
    omega
  exact Nat.lt_of_lt_of_le (PySem.Flt.log2_lt_of (by decide) h3) (by decide)
theorem spot_get {ns : List Int} {t : Int} (hl : 0 < ns.length) : ∃ (j : Nat) (z : Int), t % (ns.length : Int) = (j : Int) ∧ j < ns.length ∧ ns[j]? = some z := by
  have h1 : 0 ≤ t % (ns.length : Int) := Int.emod_nonneg _ (by omega)
  have h2 : t % (ns.length : Int) < ns.length := Int.emod_lt_of_pos _ (by omega)
  refine ⟨(t % (ns.length : Int)).toNat, ns[(t % (ns.length : Int)).toNat]'(by omega), by omega, by omega, List.getElem?_eq_getElem _⟩
theorem mapV_get {ns : List Int} {j : Nat} {z : Int} (h : ns[j]? = some z) : (ns.map V.int)[j]? = some (.int z) := by
  rw [List.getElem?_map, h]; rfl
theorem mapV_set (ns : List Int) (j : Nat) (z : Int) : (ns.map V.int).set j (.int z) = (ns.set j z).map V.int := by
  rw [List.map_set]
theorem rSetL_at {H : Hp} {p : Addr} {xs : List V} {j : Nat} {v : V} {Q : Hp → Prop} (h : H p = some (.lst xs)) (hj : j < xs.length) (q : Q (upd H p (.lst (xs.set j v)))) : rSetL (.ref p) (.int (j : Nat)) v H Q :=
  ⟨p, xs, j, j, rfl, rfl, h, by unfold ixN; rw [if_pos (by omega), if_pos (by omega), Int.toNat_natCast], q⟩
theorem rIxL_at {K : PySem.W.Frag} {H : Hp} {p : Addr} {xs : List V} {j : Nat} {v : V} {Q : VK} (h : H p = some (.lst xs)) (hj : xs[j]? = some v) (q : Q v H) : rIxL K (.ref p) (.int (j : Nat)) H Q :=
  ⟨p, xs, j, v, rfl, rfl, .inl (.inl h), atI_nat hj, q⟩
theorem next_read {K : PySem.W.Frag} {r c q : Addr} {H : Hp} {many : Int} {n : Nat} {De : Ends} (J : Rng r c q n H) (hm : 0 < many) (hm2 : many ≤ 10 ^ 60) (hn : n < drawLine)
    (fin : ∀ (k : Int) (H' : Hp), 0 ≤ k → k < many → Rng r c q (n + 1) H' → (∀ a, a ≠ r → a ≠ c → a ≠ q → H' a = H a) → De.rt (.int k) H') :
    tNextB K De [some (.ref r), some (.int many), none, none, none, none, none, none, none] H := by
  obtain ⟨⟨cs, rs, h1, h2, h3, hl, hp⟩, rc, rq, cq⟩ := J
  have hd : (n : Int) < 16777216 := by have : drawLine = 16777216 := rfl; omega
  obtain ⟨j, z, hj, hjl, hz⟩ := spot_get (ns := cs) (t := (n : Int)) hp
  refine ⟨.ref r, rfl, r, _, rfl, .inl (.inl h1), rfl, .ref c, _, rfl, .int n, _, rfl, .ref q, _, rfl, rfl, ?_⟩
  refine ⟨.int n, rfl, .ref c, rfl, c, cs.map V.int, rfl, .inl (.inl (.inl h2)), (n : Int), ((cs.map V.int).length : Int), rfl, rfl, by rw [List.length_map]; omega, ?_⟩
  rw [List.length_map, show ((fun i j => V.int (i % j)) (n : Int) (cs.length : Int)) = V.int (j : Nat) from (by show V.int _ = _; rw [hj])]
  refine ⟨.int n, rfl, n, 1, rfl, rfl, .ref r, rfl, ?_⟩
  refine rSetL_at (j := 1) h1 (by simp) ?_
  show tSeq _ _ _ _ (upd H r (.lst [.ref c, .int ((n : Int) + 1), .ref q]))
  generalize hH1 : upd H r (.lst [.ref c, .int ((n : Int) + 1), .ref q]) = H1
  have e1 : H1 r = some (.lst [.ref c, .int ((n + 1 : Nat) : Int), .ref q]) := by rw [← hH1, upd_same]; rfl
  have e2 : H1 c = some (.lst (cs.map V.int)) := by rw [← hH1, upd_ne (Ne.symm rc)]; exact h2
  have e3 : H1 q = some (.lst (rs.map V.int)) := by rw [← hH1, upd_ne (Ne.symm rq)]; exact h3
  have eo : ∀ a, a ≠ r → a ≠ c → a ≠ q → H1 a = H a := fun a ha _ _ => by rw [← hH1, upd_ne ha]
  obtain ⟨zr, hzr⟩ : ∃ zr, rs[j]? = some zr := ⟨rs[j]'(by omega), List.getElem?_eq_getElem _⟩
  refine ⟨.ref q, rfl, .int (j : Nat), rfl, rIxL_at e3 (mapV_get hzr) ?_⟩
  refine ⟨zr, 0, rfl, rfl, decide (0 < zr), rfl, ?_⟩
  by_cases hz0 : 0 < zr
  · rw [decide_eq_true hz0]
    refine iteT ?_
    refine ⟨.ref q, rfl, .int (j : Nat), rfl, rIxL_at e3 (mapV_get hzr) ?_⟩
    refine ⟨.int many, rfl, zr, many, rfl, rfl, hm, ?_⟩
    refine ⟨.ref q, rfl, .int (j : Nat), rfl, rIxL_at e3 (mapV_get hzr) ?_⟩
    refine ⟨.int many, rfl, zr, many, rfl, rfl, divOk60 hm hm2, .ref q, rfl, .int (j : Nat), rfl, ?_⟩
    refine rSetL_at e3 (by rw [List.length_map]; omega) ?_
    refine ⟨.int (zr % many), rfl, fin _ _ (Int.emod_nonneg _ (by omega)) (Int.emod_lt_of_pos _ hm) ⟨⟨cs, rs.set j (zr.fdiv many), ?_, ?_, ?_, by rw [List.length_set]; exact hl, hp⟩, rc, rq, cq⟩ fun a a1 a2 a3 => ?_⟩
    · rw [upd_ne rq]; exact e1
    · rw [upd_ne cq]; exact e2
    · rw [upd_same, mapV_set]
    · rw [upd_ne a3]; exact eo a a1 a2 a3
  · rw [decide_eq_false hz0]
    refine iteF ?_
    have b1 : 0 ≤ z % 2147483629 := Int.emod_nonneg _ (by decide)
    have b2 : z % 2147483629 < 2147483629 := Int.emod_lt_of_pos _ (by decide)
    refine ⟨.ref c, rfl, .int (j : Nat), rfl, rIxL_at e2 (mapV_get hz) ?_⟩
    refine ⟨z, 2147483629, rfl, rfl, (by show (0 : Int) < 2147483629; decide), .int n, rfl, 39119, n, rfl, rfl, .inl ⟨by decide, by decide⟩, _, _, rfl, rfl, _, 9901, rfl, rfl, _, 3, rfl, rfl, ⟨by decide, by decide, by omega⟩, _, 2147483587, rfl, rfl, (by show (0 : Int) < 2147483587; decide), ?_⟩
    show gName 7 (V.int ((z % 2147483629 + 39119 * (n : Int) + 9901) ^ (3 : Int).toNat % 2147483587)) _ _ _
    generalize hmx : (z % 2147483629 + 39119 * (n : Int) + 9901) ^ (3 : Int).toNat % 2147483587 = mx
    have m1 : 0 ≤ mx := by rw [← hmx]; exact Int.emod_nonneg _ (by decide)
    have m2 : mx < 2147483587 := by rw [← hmx]; exact Int.emod_lt_of_pos _ (by decide)
    have n0 : 0 ≤ (n : Int) := Int.natCast_nonneg n
    have n2 : 7001 * (n : Int) * (n : Int) ≤ 7001 * 16777216 * 16777216 := Int.mul_le_mul (by omega) (by omega) n0 (by decide)
    have n3 : 0 ≤ 7001 * (n : Int) * (n : Int) := Int.mul_nonneg (by omega) n0
    refine ⟨.int mx, rfl, .int n, rfl, 7001, n, rfl, rfl, .inl ⟨by decide, by decide⟩, .int n, rfl, _, n, rfl, rfl, .inr ⟨by omega, by omega⟩, mx, _, rfl, rfl, _, 41, rfl, rfl, _, 3, rfl, rfl, ⟨by decide, by decide, by omega⟩, _, 2147483563, rfl, rfl, (by show (0 : Int) < 2147483563; decide), ?_⟩
    show gName 8 (V.int ((mx + 7001 * (n : Int) * (n : Int) + 41) ^ (3 : Int).toNat % 2147483563)) _ _ _
    generalize hag : (mx + 7001 * (n : Int) * (n : Int) + 41) ^ (3 : Int).toNat % 2147483563 = ag
    refine ⟨.int ag, rfl, ag, 2147483423, rfl, rfl, .inr ⟨by decide, by decide⟩, .int mx, rfl, _, mx, rfl, rfl, _, 4611686018427387847, rfl, rfl, (by show (0 : Int) < 4611686018427387847; decide), .int many, rfl, _, many, rfl, rfl, hm, ?_⟩
    exact fin _ _ (Int.emod_nonneg _ (by omega)) (Int.emod_lt_of_pos _ hm) ⟨⟨cs, rs, e1, e2, e3, hl, hp⟩, rc, rq, cq⟩ eo
section
variable {P : Program} {w : World} {K : PySem.W.Frag} {mg : Str → Option Value} {base : Heap}
theorem ok_next {x : Str} {st : Stmt} {f : Addr} {fd : FuncData} {N ps : List Str} {k : Nat} {r c q : Addr} (F : Fn K x x st f fd) (S : FnScope N ps (defScope st)) (hN : N.length = 9) (hp : ps.length = 2)
    (body : ∀ (cdv : Value) (A : Around) (outer : List Env) (s : Shared) (H : Hp) (E : XK), Room k (A.deeper (envOfC x (defScope st) s.heap.objs.size f cdv)) →
      PSs (cxOf CX0 P w K mg base N x (defScope st) f cdv A outer s H E).nox (defBody st) (tNextB K)) : FnOk P w K mg base CX0 (k + 1) f fd ps (spG (gr K r c q) (nextS r)) := by
  refine F.ok S (fun vs H Q E h => ?_) (fun cdv A outer s H vs Q E hr h => ⟨_, body cdv A outer s H E hr, ?_⟩)
  · obtain ⟨Z, ds, g, R, _, a, _, _, ⟨m, rfl, _⟩, _⟩ := h
    rw [a.len, hp]; rfl
  · obtain ⟨Z, ds, g, R, k, a, J, zf, ⟨m, rfl, m1, m2, m3, fin⟩, q'⟩ := h
    obtain ⟨v1, v2, rfl, a1, a2⟩ := Ats.two a
    simp only [At] at a1 a2
    subst a1; subst a2
    have e : L2.start N [V.ref r, V.int m] = [some (.ref r), some (.int m), none, none, none, none, none, none, none] := by
      unfold L2.start
      rw [hN]; rfl
    rw [e]
    refine next_read J m1 m2 m3 fun k0 H' h0 h1 J' keep => ?_
    refine q' (.int k0) (g + 1) Z _ H' (fin k0 h0 h1) (Same.refl _) (fun b o e => ?_) (fun b o e n => ?_) (fun b o e n => by rw [e] at n; cases n) J' (fun b hb => ⟨zf b hb, .inl hb⟩) rfl
    · have hn : ¬ (b = r ∨ b = c ∨ b = q) := fun hb => by rw [zf b hb] at e; cases e
      rw [keep b (fun z => hn (.inl z)) (fun z => hn (.inr (.inl z))) (fun z => hn (.inr (.inr z)))]
      exact k b o e
    · have hn : ¬ (b = r ∨ b = c ∨ b = q) := n
      rw [keep b (fun z => hn (.inl z)) (fun z => hn (.inr (.inl z))) (fun z => hn (.inr (.inr z)))]
      exact e
end

def spDraws (K : PySem.W.Frag) : Sp := fun vs H Q _ => ∃ (a : Addr) (ns : List Int), vs = [.ref a] ∧ SqL K H a (ns.map V.int) ∧ ns.length ≤ 63 ∧
  ∀ (r c q : Addr) H', Same H H' → H r = none → H c = none → H q = none → Rng r c q 0 H' → Q (.ref r) H'
def tDrawsB (K : PySem.W.Frag) (vs : List Nat) : TS :=
  tSeq (tAsg (tOp rCat (tCB (fun xs H Q => ∃ p ys, xs = [.ref p] ∧ (SqL K H p ys ∨ SqT K H p ys) ∧ ∀ l, H l = none → Q (.ref l) (upd H l (.lst ys))) (tCons (tSl (rSlL K) (tVar 0) tNoPart (tPart (tC (.int 63)))) tNil))
      (tOp rRep (tLst (tCons (tC (.int 0)) tNil)) (tCB (fun xs H Q => (∃ i, xs = [.int i] ∧ Q (.int i) H) ∨ ∃ k, xs = [.bl k] ∧ Q (.int (if k then 1 else 0)) H)
        (tCons (tOp rEq (tCB (fun xs H Q => ∃ p ys, xs = [.ref p] ∧ (SqL K H p ys ∨ SqT K H p ys) ∧ Q (.int ys.length) H) (tCons (tVar 0) tNil)) (tC (.int 0))) tNil)))) (gName 1))
  (tRet (tLst (tCons (tVar 1) (tCons (tC (.int 0)) (tCons (tLc (iList K (tVar 1)) (gName 2) tYes
    (tOp (rI CMul fun i j => .int (i * j)) (tVar 2) (tCB (fun xs H Q => (∃ i, xs = [.int i] ∧ Q (.int i) H) ∨ ∃ k, xs = [.bl k] ∧ Q (.int (if k then 1 else 0)) H)
      (tCons (tOp (rI0 fun i j => .bl (decide (j ≤ i))) (tVar 2) (tOp (rI CPow fun i j => .int (i ^ j.toNat)) (tC (.int 10)) (tC (.int 18)))) tNil))) vs) tNil)))))
theorem cut63 (ns : List Int) (h : ns.length ≤ 63) : cutV (ns.map V.int) none (some 63) = ns.map V.int := by
  have : cutV (ns.map V.int) none (some 63) = cut (ns.map V.int) none (some ((63 : Nat) : Int)) := rfl
  rw [this, cut_to, List.take_of_length_le (by rw [List.length_map]; exact h)]
theorem tYes_if {σ : List (Option V)} {H : Hp} {A B : Hp → Prop} (h : A H) : tYes σ H fun b H => if b = true then A H else B H := by
  show (if true = true then A H else B H)
  rw [if_pos rfl]; exact h
theorem draws_read {K : PySem.W.Frag} {a : Addr} {ns : List Int} {H : Hp} {De : Ends} (hs : SqL K H a (ns.map V.int)) (hl : ns.length ≤ 63)
    (fin : ∀ (r c q : Addr) H', Same H H' → H r = none → H c = none → H q = none → Rng r c q 0 H' → De.rt (.ref r) H') : tDrawsB K [2] De [some (.ref a), none, none] H := by
  have lim : (1000 : Nat) ≤ sizeLine := by decide
  refine ⟨.ref a, rfl, 63, rfl, a, ns.map V.int, rfl, hs, fun p1 np1 => ?_⟩
  rw [cut63 ns hl]
  have s1 := same_upd (o := HO.lst (ns.map V.int)) np1
  generalize hH1 : upd H p1 (.lst (ns.map V.int)) = H1 at s1
  have a1 : H1 p1 = some (.lst (ns.map V.int)) := by rw [← hH1, upd_same]
  refine ⟨p1, ns.map V.int, rfl, .inl (.inl (.inl a1)), fun p2 np2 => ?_⟩
  have s2 := s1.trans (same_upd (o := HO.lst (ns.map V.int)) np2)
  generalize hH2 : upd H1 p2 (.lst (ns.map V.int)) = H2 at s2
  have a2 : H2 p2 = some (.lst (ns.map V.int)) := by rw [← hH2, upd_same]
  refine ⟨(by show 1 ≤ sizeLine; decide), fun p3 np3 => ?_⟩
  have s3 := same_upd (o := HO.lst [V.int 0]) np3
  generalize hH3 : upd H2 p3 (.lst [V.int 0]) = H3 at s3
  have a3 : H3 p3 = some (.lst [V.int 0]) := by rw [← hH3, upd_same]
  have a23 : H3 p2 = some (.lst (ns.map V.int)) := s3 _ _ a2
  have sA : Same H H3 := s2.trans s3
  refine ⟨.ref a, rfl, a, ns.map V.int, rfl, .inl (sA.seq hs), rfl, .inr ⟨_, rfl, ?_⟩⟩
  generalize hk : decide (V.int (((ns.map V.int).length : Nat) : Int) = V.int 0) = kz
  have hkz : kz = decide (ns.length = 0) := by
    rw [← hk, Bool.eq_iff_iff, decide_eq_true_iff, decide_eq_true_iff, List.length_map]
    constructor
    · intro h; have := V.int.inj h; omega
    · intro h; rw [h]; rfl
  refine ⟨p3, if kz then 1 else 0, [V.int 0], rfl, rfl, a3, by split <;> decide, by split <;> decide, by split <;> decide, fun p4 np4 => ?_⟩
  generalize hz : (List.replicate (if kz = true then (1 : Int) else 0).toNat [V.int 0]).flatten = zs
  have s4 := same_upd (o := HO.lst zs) np4
  generalize hH4 : upd H3 p4 (.lst zs) = H4 at s4
  have a4 : H4 p4 = some (.lst zs) := by rw [← hH4, upd_same]
  obtain ⟨ms, hms, hmp, hml⟩ : ∃ ms : List Int, ns.map V.int ++ zs = ms.map V.int ∧ 0 < ms.length ∧ ms.length ≤ 64 := by
    by_cases h0 : ns.length = 0
    · have : ns = [] := List.length_eq_zero_iff.mp h0
      subst this
      refine ⟨[0], ?_, by simp, by simp⟩
      rw [← hz, hkz]; rfl
    · refine ⟨ns, ?_, by omega, by omega⟩
      have hf : kz = false := by rw [hkz]; exact decide_eq_false h0
      rw [← hz, hf]
      show ns.map V.int ++ [] = _
      rw [List.append_nil]
  have hlen : (ns.map V.int).length + zs.length ≤ sizeLine := by
    have := congrArg List.length hms
    rw [List.length_append, List.length_map] at this
    rw [List.length_map] at this ⊢
    omega
  refine ⟨p2, p4, ns.map V.int, zs, rfl, rfl, s4 _ _ a23, a4, hlen, fun c nc => ?_⟩
  rw [hms]
  have s5 := same_upd (o := HO.lst (ms.map V.int)) nc
  generalize hH5 : upd H4 c (.lst (ms.map V.int)) = H5 at s5
  have a5 : H5 c = some (.lst (ms.map V.int)) := by rw [← hH5, upd_same]
  have sB : Same H H4 := sA.trans s4
  have hc : H c = none := sB.free nc
  have sC : Same H H5 := sB.trans s5
  -- the list of three
  refine ⟨.ref c, rfl, .ref c, rfl, c, rfl, ⟨_, .inl (.inl a5)⟩, fun D nD => ?_⟩
  have hD : H D = none := sC.free nD
  have hDc : c ≠ D := ne_of_none a5 nD
  refine lc_list (K := K) (xs := ms.map V.int) (fun i H => ∃ rs : List Int, rs.length = i ∧ H D = some (.lst (rs.map V.int)) ∧ (∀ b, b ≠ D → H b = H5 b)) ?_ ?_ ?_ ?_
  · exact ⟨[], rfl, by rw [upd_same]; rfl, fun b hb => upd_ne hb⟩
  · rintro i H' - ⟨rs, _, _, ho⟩
    exact .inl (.inl (by rw [ho c hDc]; exact a5))
  · rintro i x H' hx ⟨rs, hrl, hrD, ho⟩
    rw [List.getElem?_map] at hx
    obtain ⟨z, hz1, hz2⟩ := Option.map_eq_some_iff.mp hx
    subst hz2
    refine ⟨rfl, ?_⟩
    refine tYes_if ?_
    refine ⟨.int z, rfl, .int z, rfl, 10, 18, rfl, rfl, ⟨by decide, by decide, by decide⟩, z, _, rfl, rfl, .inr ⟨_, rfl, z, _, rfl, rfl, .inr (by split <;> constructor <;> decide), rs.map V.int, hrD, ?_, ?_⟩⟩
    · have hi := (List.getElem?_eq_some_iff.mp hz1).1
      rw [List.length_map]
      omega
    · refine ⟨rs ++ [z * if decide (10 ^ (18 : Int).toNat ≤ z) = true then 1 else 0], by rw [List.length_append, hrl]; rfl, ?_, fun b hb => ?_⟩
      · rw [upd_same, List.map_append]; rfl
      · rw [upd_ne hb]; exact ho b hb
  · rintro H' ⟨rs, hrl, hrD, ho⟩
    refine ⟨(by show 3 ≤ sizeLine; decide), fun r nr => ?_⟩
    have e5 : H5 r = none := by
      have : r ≠ D := fun e => by rw [e, hrD] at nr; cases nr
      rw [← ho r this]; exact nr
    have hr : H r = none := sC.free e5
    have rc : r ≠ c := fun e => by rw [e, a5] at e5; cases e5
    have rD : r ≠ D := fun e => by rw [e, hrD] at nr; cases nr
    refine fin r c D _ (fun b o e => ?_) hr hc hD ⟨⟨ms, rs, by rw [upd_same]; rfl, ?_, ?_, ?_, hmp⟩, rc, rD, hDc⟩
    · have b1 : b ≠ r := ne_of_none e hr
      have b2 : b ≠ D := ne_of_none e hD
      rw [upd_ne b1, ho b b2]
      exact sC _ _ e
    · rw [upd_ne (Ne.symm rc), ho c hDc]; exact a5
    · rw [upd_ne (Ne.symm rD)]; exact hrD
    · rw [hrl, List.length_map]
section
variable {P : Program} {w : World} {K : PySem.W.Frag} {mg : Str → Option Value} {base : Heap}
theorem ok_draws {x : Str} {st : Stmt} {f : Addr} {fd : FuncData} {N ps : List Str} {k : Nat} (F : Fn K x x st f fd) (S : FnScope N ps (defScope st)) (hN : N.length = 3) (hp : ps.length = 1)
    (body : ∀ (cdv : Value) (A : Around) (outer : List Env) (s : Shared) (H : Hp) (E : XK), Room k (A.deeper (envOfC x (defScope st) s.heap.objs.size f cdv)) →
      PSs (cxOf CX0 P w K mg base N x (defScope st) f cdv A outer s H E).nox (defBody st) (tDrawsB K [2])) : FnOk P w K mg base CX0 (k + 1) f fd ps (spDraws K) := by
  refine F.ok S (fun vs H Q E h => ?_) (fun cdv A outer s H vs Q E hr h => ⟨_, body cdv A outer s H E hr, ?_⟩)
  · obtain ⟨a, ns, rfl, _⟩ := h
    rw [hp]; rfl
  · obtain ⟨a, ns, rfl, hs, hl, q⟩ := h
    have e : L2.start N [V.ref a] = [some (.ref a), none, none] := by
      unfold L2.start
      rw [hN]; rfl
    rw [e]
    exact draws_read hs hl fun r c q' H' h1 h2 h3 h4 h5 => q r c q' H' h1 h2 h3 h4 h5

def Glo (P : Program) (w : World) (K : PySem.W.Frag) (mg : Str → Option Value) (base : Heap) (x : Str) (n : Nat) (sp : Sp) (k : Nat) : Prop :=
  ∃ f fd ps, FnOk P w K mg base CX0 k f fd ps sp ∧ mg x = some (.ref f) ∧ PySem.W.keepIn K (.ref f) = true ∧ Binds K fd ps [] ∧ ps.length = n
theorem Glo.at {X : Cx} {x : Str} {n : Nat} {sp : Sp} {j k : Nat} (g : Glo X.prog X.w X.K X.mg X.base x n sp j) (hr : Room k X.A) (h : j ≤ k := by decide) : Def X x n sp := by
  obtain ⟨f, fd, ps, F, m, kp, b, e⟩ := g
  exact ⟨f, fd, k, ps, F.mono h, hr, m, kp, b, e⟩
def spLaw (K : PySem.W.Frag) : Sp := fun vs H Q _ => ∃ (a : Addr) (ns : List Int), vs = [.ref a] ∧ SqL K H a (ns.map V.int) ∧ ns.length ≤ 63 ∧ ∀ H', Q (.bl true) H'
theorem ok_law {x : Str} {s0 : Stmt} {rest : List Stmt} {st : Stmt} {f : Addr} {fd : FuncData} {N : List Str} {p : Str} {k i : Nat} (F : Fn K x x st f fd) (S : FnScope N [p] (defScope st)) (hi : 0 < i) (hb : defBody st = s0 :: rest)
    (body : ∃ t : Addr → PSx Nat, (∀ (cdv : Value) (A : Around) (outer : List Env) (s : Shared) (H : Hp) (E : XK), Room k (A.deeper (envOfC x (defScope st) s.heap.objs.size f cdv)) →
      PS (cxOf CX0 P w K mg base N x (defScope st) f cdv A outer s H E).nox s0 (tAsg (tCall (spDraws K) [] E0 (tCons (tVar 0) tNil)) (gName i)) ∧
      ∀ r c q, QSs (cxOf CX0 P w K mg base N x (defScope st) f cdv A outer s H E).nox (gr K r c q) rest (t r)) ∧
      ∀ r, t r { nx := fun _ => False, rt := fun d _ => d = .bl true } ⟨(List.replicate N.length none).set i (some (.val (.obj r))), 0⟩) : FnOk P w K mg base CX0 (k + 1) f fd [p] (spLaw K) := by
  obtain ⟨t, hd, hp⟩ := body
  refine F.ok S (fun vs H Q E h => ?_) (fun cdv A outer s H vs Q E hr h => ?_)
  · obtain ⟨a, ns, rfl, _⟩ := h; rfl
  · obtain ⟨d0, d1⟩ := hd cdv A outer s H E hr
    obtain ⟨a, ns, rfl, hs, hl, q⟩ := h
    rw [hb]
    have dd : PSs (cxOf CX0 P w K mg base N x (defScope st) f cdv A outer s H E).nox rest (fun De σ H' => ∃ r c q', lS (gr K r c q') (t r) De σ H') := ⟨fun pins s1 σ H1 De I ⟨r, c, q', h⟩ => (d1 r c q').run pins s1 σ H1 De I h⟩
    refine ⟨_, pss_cons d0 dd, ?_⟩
    have hN : 0 < N.length := by have := congrArg List.length S.pre; rw [List.length_take] at this; simp at this; omega
    refine ⟨.ref a, ?_, a, ns, rfl, hs, hl, fun r c q' H' k1 hr1 hc1 hq1 J => ?_⟩
    · show (L2.start N [V.ref a])[0]? = _
      rfl
    · refine ⟨r, c, q', ⟨fun _ => none, fun _ => False, fun _ h => h.elim⟩, fun _ => none, _, _, ?_, hp r, ?_, ?_, ?_, ?_⟩
      · have hlen : (L2.start N [V.ref a]).length = N.length := by unfold L2.start; simp; omega
        have at_i : ∀ (j : Nat) l, ((List.replicate N.length (none : Option L)).set i (some (.val (.obj r))))[j]? = some (some l) → j = i ∧ l = .val (.obj r) ∧ i < N.length := fun j l e => by
          by_cases hji : i = j
          · subst hji
            have hl' : i < (List.replicate N.length (none : Option L)).length := by
              have := (List.getElem?_eq_some_iff.mp e).1
              simpa using this
            rw [List.getElem?_set_self hl'] at e
            cases e
            exact ⟨rfl, rfl, by simpa using hl'⟩
          · rw [List.getElem?_set_ne hji, List.getElem?_replicate] at e
            split at e <;> cases e
        refine ⟨fun _ _ h => (by cases h), fun _ _ h => (by cases h), fun _ _ => rfl, by simp [hlen], fun j d e => ?_, fun j l e ol => ?_, fun j j2 l m b _ e ol _ _ => ?_, J, fun _ _ => rfl, fun _ _ => rfl, fun _ _ h => (by cases h)⟩
        · obtain ⟨rfl, e2, hl'⟩ := at_i j _ e
          cases e2
          exact ⟨.ref r, by rw [List.getElem?_set_self (by rw [hlen]; exact hl')], rfl⟩
        · obtain ⟨_, e2, _⟩ := at_i j _ e; subst e2; cases ol
        · obtain ⟨_, e2, _⟩ := at_i j _ e; subst e2; cases ol
      · intro s' Z' σ' H2 h; exact h.elim
      · intro d s' Z' σ' v H2 h _ _ a'
        have h' : d = .bl true := h
        subst h'
        have e : v = .bl true := a'
        rw [e]; exact q _
      · intro s' Z' σ' H2 h; exact h.elim
      · intro s' Z' σ' H2 h; exact h.elim
end
end Pm
set_option Elab.async false
set_option linter.all false
set_option maxRecDepth 100000
set_option maxHeartbeats 1000000
set_option autoImplicit false
namespace Pm
open PySem PySem.Spec
open PyProof.Rows hiding St
open L2

def Sz (b : Nat) (i : Int) : Prop := i.natAbs < 2 ^ b
theorem Sz.le {a b : Nat} {i : Int} (h : Sz a i) (k : a ≤ b) : Sz b i := Nat.lt_of_lt_of_le h (Nat.pow_le_pow_right (by decide) k)
theorem Sz.mul {a b : Nat} {i j : Int} (h : Sz a i) (k : Sz b j) : Sz (a + b) (i * j) := by
  unfold Sz at *
  rw [Int.natAbs_mul, Nat.pow_add]
  exact Nat.mul_lt_mul'' h k
theorem Sz.sub {a : Nat} {i j : Int} (h : Sz a i) (k : Sz a j) : Sz (a + 1) (i - j) := by
  unfold Sz at *
  rw [Nat.pow_succ]; omega
theorem Sz.log {b : Nat} {i : Int} (h : Sz b i) (k : 0 < b) : i.natAbs.log2 < b := PySem.Flt.log2_lt_of k h
theorem Sz.mulOk {a b : Nat} {i j : Int} (h : Sz a i) (k : Sz b j) (l : a + b < 900000 := by omega) : MulOk i j := by
  have h1 := (h.le (Nat.le_succ a)).log (Nat.succ_pos a)
  have h2 := (k.le (Nat.le_succ b)).log (Nat.succ_pos b)
  refine .inr ?_
  unfold CMulW
  omega
theorem divOk_of {b : Nat} {i j : Int} (h : Sz b j) (h0 : j ≠ 0) (l : b ≤ 9000 := by omega) : DivOk i j := ⟨h0, (h.le l).log (by decide)⟩

def frD (x : Rat) : D := .tup [.int x.num, .int x.den]
def SzR (b : Nat) (x : Rat) : Prop := Sz b x.num ∧ Sz b x.den
theorem SzR.le {a b : Nat} {x : Rat} (h : SzR a x) (k : a ≤ b) : SzR b x := ⟨h.1.le k, h.2.le k⟩
theorem natAbs_div_le (a : Int) (b : Nat) : (a / (b : Int)).natAbs ≤ a.natAbs := by
  rcases Nat.eq_zero_or_pos b with rfl | h
  · simp
  · exact Int.natAbs_ediv_le_natAbs a b
theorem SzR.mk {b : Nat} {n : Int} {d : Nat} (hn : Sz b n) (hd : Sz b d) (h0 : d ≠ 0) : SzR b (mkRat n d) := by
  refine ⟨?_, ?_⟩
  · unfold Sz at *
    rw [Rat.num_mkRat, if_neg h0]
    exact Nat.lt_of_le_of_lt (natAbs_div_le _ _) hn
  · unfold Sz at *
    rw [Rat.den_mkRat, if_neg h0]
    refine Nat.lt_of_le_of_lt ?_ hd
    show d / d.gcd n.natAbs ≤ d
    exact Nat.div_le_self _ _
theorem SzR.divInt {b : Nat} {n d : Int} (hn : Sz b n) (hd : Sz b d) (h0 : d ≠ 0) : SzR b (Rat.divInt n d) := by
  rcases Int.lt_or_gt_of_ne h0 with h | h
  · have e : Rat.divInt n d = mkRat (-n) d.natAbs := by
      rw [← Rat.neg_divInt_neg, ← Rat.divInt_ofNat]
      congr 1; omega
    rw [e]
    exact SzR.mk (by unfold Sz at *; omega) (by unfold Sz at *; omega) (by omega)
  · have e : Rat.divInt n d = mkRat n d.natAbs := by
      rw [← Rat.divInt_ofNat]
      congr 1; omega
    rw [e]
    exact SzR.mk hn (by unfold Sz at *; omega) (by omega)
theorem frD_dep (x : Rat) : (frD x).dep ≤ 64 := by show max 0 (max 0 0) + 1 ≤ 64; decide
theorem frD_eqv (x y : Rat) : D.eqv (frD x) (frD y) = decide (x = y) := by
  show (decide (x.num = y.num) && (decide ((x.den : Int) = y.den) && true)) = _
  rw [Bool.and_true, Bool.eq_iff_iff, Bool.and_eq_true, decide_eq_true_iff, decide_eq_true_iff, decide_eq_true_iff]
  constructor
  · rintro ⟨h1, h2⟩; exact Rat.ext h1 (by omega)
  · rintro rfl; exact ⟨rfl, rfl⟩
theorem divInt_parts {n d : Int} (h0 : d ≠ 0) : (Rat.divInt n d).num = n.fdiv (if d < 0 then 0 - (n.natAbs.gcd d.natAbs : Nat) else (n.natAbs.gcd d.natAbs : Nat)) ∧ ((Rat.divInt n d).den : Int) = d.fdiv (if d < 0 then 0 - (n.natAbs.gcd d.natAbs : Nat) else (n.natAbs.gcd d.natAbs : Nat)) := by
  have hg : d.gcd n = n.natAbs.gcd d.natAbs := by show d.natAbs.gcd n.natAbs = _; rw [Nat.gcd_comm]
  have hgp : 0 < n.natAbs.gcd d.natAbs := Nat.gcd_pos_of_pos_right _ (by omega)
  have d1 : ((n.natAbs.gcd d.natAbs : Nat) : Int) ∣ n := Int.ofNat_dvd_left.mpr (Nat.gcd_dvd_left _ _)
  have d2 : ((n.natAbs.gcd d.natAbs : Nat) : Int) ∣ d := Int.ofNat_dvd_left.mpr (Nat.gcd_dvd_right _ _)
  rw [Rat.num_divInt, Rat.den_divInt, if_neg h0, hg]
  generalize n.natAbs.gcd d.natAbs = g at *
  obtain ⟨a, rfl⟩ := d1
  obtain ⟨b, rfl⟩ := d2
  have g0 : (g : Int) ≠ 0 := by omega
  by_cases hb : (g : Int) * b < 0
  · rw [if_pos hb, Int.sign_eq_neg_one_of_neg hb]
    have b0 : b < 0 := by
      rcases Int.lt_or_le b 0 with h | h
      · exact h
      · have := Int.mul_nonneg (show (0 : Int) ≤ g by omega) h; omega
    have e1 : ∀ c : Int, ((g : Int) * c).fdiv (0 - (g : Int)) = -c := fun c => by
      have e : (g : Int) * c = (0 - (g : Int)) * (-c) := by rw [Int.zero_sub, Int.neg_mul_neg]
      rw [e, Int.mul_fdiv_cancel_left _ (by omega)]
    rw [e1, e1]
    constructor
    · have e : -1 * ((g : Int) * a) = (g : Int) * (-a) := by rw [Int.mul_neg, Int.neg_one_mul]
      rw [e, Int.mul_ediv_cancel_left _ g0]
    · rw [Int.natAbs_mul, Int.natAbs_natCast, Nat.mul_div_cancel_left _ hgp]; omega
  · rw [if_neg hb]
    have b0 : 0 < b := by
      rcases Int.lt_or_le 0 b with h | h
      · exact h
      · have h2 : (g : Int) * b ≤ 0 := Int.mul_nonpos_of_nonneg_of_nonpos (by omega) h
        omega
    have hp : 0 < (g : Int) * b := by
      have : (g : Int) * b ≠ 0 := h0
      omega
    rw [Int.sign_eq_one_of_pos hp, Int.one_mul, Int.mul_fdiv_cancel_left _ g0, Int.mul_ediv_cancel_left _ g0, Int.mul_fdiv_cancel_left _ g0]
    refine ⟨rfl, ?_⟩
    rw [Int.natAbs_mul, Int.natAbs_natCast, Nat.mul_div_cancel_left _ hgp]; omega
theorem pe_callD {X : Cx} {x : Str} {n : Nat} {sp : Sp} {e : Expr} {es : List Expr} {ta : TA} {p pos : Pos} (d : Def X x n sp) (hg : Gl X x) (ha : PA X (e :: es) ta) (hdb : (x == ("__debug__" : Str)) = false := by decide) (he : starEach (e :: es) X.env = (false, eval e X.env) :: starEach es X.env := by rfl) (hpl : (backTo pos (starEach es X.env)).any (·.1) = false := by rfl) :
    PE X (.Call (.Name x p) (e :: es) [] pos) (tCall sp [] E0 ta) := by
  obtain ⟨fa, fd, k, ps, F, hr, hm, hk, hb, _⟩ := d.ex
  exact pe_call F hr hg hm hk hb .nil pass0 ha hdb he hpl
def wkL : List (Option L) → List (Option L) → Prop
  | [], [] => True
  | a :: as, b :: bs => (b = none ∨ b = a) ∧ wkL as bs
  | _, _ => False
theorem wkL_at : ∀ {ρ ρ' : List (Option L)}, wkL ρ ρ' → ρ'.length = ρ.length ∧ ∀ (i : Nat) l, ρ'[i]? = some (some l) → ρ[i]? = some (some l)
  | [], [], _ => ⟨rfl, fun _ _ h => h⟩
  | a :: as, b :: bs, h => by
    obtain ⟨h1, h2⟩ := wkL_at h.2
    refine ⟨by simp [h1], fun i l e => ?_⟩
    cases i with
    | zero =>
      simp only [List.getElem?_cons_zero, Option.some.injEq] at e ⊢
      rcases h.1 with h | h
      · rw [h] at e; cases e
      · rw [← h]; exact e
    | succ i => simp only [List.getElem?_cons_succ] at e ⊢; exact h2 i l e
  | [], _ :: _, h => h.elim
  | _ :: _, [], h => h.elim
section
variable {γ : Type}
theorem Wk.of {ρ ρ' : List (Option L)} {g : γ} (h : wkL ρ ρ') : Wk (⟨ρ, g⟩ : S γ) ⟨ρ', g⟩ := ⟨rfl, (wkL_at h).1, (wkL_at h).2⟩
theorem seq_mid {t U : PSx γ} {E : En γ} {s : S γ} (M : S γ → Prop) (hU : ∀ s', M s' → U E s') (h : ∀ N : S γ → Prop, (∀ s', M s' → N s') → t { E with nx := N } s) : qSeq t U E s := h _ hU
end
theorem bl_ne {x y : Bool} (hc : (!D.eqv (.bl x) (.bl y)) = true) (h : x = y) : False := by
  subst h; cases x <;> cases hc
end Pm
set_option Elab.async false
set_option linter.all false
set_option maxRecDepth 100000
set_option maxHeartbeats 1000000
set_option autoImplicit false
namespace Pm
open PySem PySem.Spec
open PyProof.Rows hiding St
open L2
mutual
def D.wid : D → Nat
  | .non => 8
  | .bl _ => 8
  | .int _ => 2000
  | .str x => 10 * x.length + 8
  | .lst xs => D.wids xs + 8
  | .tup xs => D.wids xs + 8
  | .dct _ _ => 8
  | .obj _ => 8
def D.wids : List D → Nat
  | [] => 0
  | d :: ds => d.wid + 8 + D.wids ds
end
theorem D.wid_pos (d : D) : 8 ≤ d.wid := by cases d <;> simp only [D.wid] <;> omega
theorem D.wids_len : ∀ ds : List D, 16 * ds.length ≤ D.wids ds
  | [] => Nat.zero_le _
  | d :: ds => by
    have h := D.wids_len ds
    have := d.wid_pos
    simp only [D.wids, List.length_cons]; omega
theorem D.wids_mem : ∀ {ds : List D} {d : D}, d ∈ ds → d.wid ≤ D.wids ds
  | e :: ds, d, h => by
    rcases List.mem_cons.mp h with rfl | h
    · simp only [D.wids]; omega
    · have := D.wids_mem h
      simp only [D.wids]; omega
theorem D.plns_mem : ∀ {ds : List D} {d : D}, D.plns ds = true → d ∈ ds → d.pln = true
  | e :: ds, d, k, h => by
    simp only [D.plns, Bool.and_eq_true] at k
    rcases List.mem_cons.mp h with rfl | h
    · exact k.1
    · exact D.plns_mem k.2 h
theorem D.deps_mem : ∀ {ds : List D} {d : D}, d ∈ ds → d.dep ≤ D.deps ds
  | e :: ds, d, h => by
    rcases List.mem_cons.mp h with rfl | h
    · simp only [D.deps]; omega
    · have := D.deps_mem h
      simp only [D.deps]; omega
mutual
theorem eqv_refl : ∀ d : D, d.pln = true → D.eqv d d = true
  | .non, _ => rfl
  | .bl b, _ => by simp [D.eqv]
  | .int i, _ => by simp [D.eqv]
  | .str x, _ => by simp [D.eqv]
  | .lst xs, h => by
    simp only [D.eqv]
    exact eqvs_refl xs (by simpa [D.pln] using h)
  | .tup xs, h => by
    simp only [D.eqv]
    exact eqvs_refl xs (by simpa [D.pln] using h)
  | .dct _ _, h => by simp [D.pln] at h
  | .obj _, h => by simp [D.pln] at h
theorem eqvs_refl : ∀ ds : List D, D.plns ds = true → D.eqvs ds ds = true
  | [], _ => rfl
  | d :: ds, h => by
    simp only [D.plns, Bool.and_eq_true] at h
    simp only [D.eqvs, eqv_refl d h.1, eqvs_refl ds h.2, Bool.and_self]
end
theorem pln_obj {d : D} (h : d.pln = true) : ∀ p, d ≠ .obj p := fun p e => by subst e; simp [D.pln] at h
theorem isTy_tup (d : D) : isTy "tuple" d = match d with | .tup _ => true | _ => false := by cases d <;> rfl
theorem isTy_bl (d : D) : isTy "bool" d = match d with | .bl _ => true | _ => false := by cases d <;> rfl
theorem zip_self {xs : List D} {i : Nat} {d : D} (h : (zipD xs xs)[i]? = some d) : ∃ x, xs[i]? = some x ∧ x ∈ xs ∧ d = .tup [x, x] := by
  obtain ⟨x, y, h1, h2, rfl⟩ := zipD_get h
  rw [h1] at h2; cases h2
  exact ⟨x, h1, List.mem_of_getElem? h1, rfl⟩
theorem all_trues (n : Nat) : ((List.replicate n true).all id) = true := by simp
theorem bls_trues (n : Nat) : asBls (List.replicate n (D.bl true)) = some (List.replicate n true) := by
  rw [← List.map_replicate]; exact asBls_map _
theorem eq_no {d : D} (p : d.pln = true) (hc : D.eqv d d = false) : False := by rw [eqv_refl d p] at hc; cases hc
theorem wipeL_get (ρ : List (Option L)) : ∀ (vs : List Nat) (i : Nat), (wipeL ρ vs)[i]? = if i ∈ vs ∧ i < ρ.length then some none else ρ[i]?
  | [], i => by simp [wipeL]
  | v :: vs, i => by
    unfold wipeL
    have ih := wipeL_get ρ vs i
    have ln := wipeL_length ρ vs
    rw [List.getElem?_set, ih, ln]
    by_cases h : v = i
    · subst h
      by_cases h2 : v < ρ.length
      · simp [h2]
      · simp [h2]
    · have : i ≠ v := fun e => h e.symm
      simp [h, this]
mutual
theorem put_out : ∀ {t : Tg} {d : D} {ρ ρ' : List (Option L)}, t.put d ρ = some ρ' → ρ'.length = ρ.length ∧ ∀ i, i ∉ t.js → ρ'[i]? = ρ[i]?
  | .nm j, d, ρ, ρ', h => by
    simp only [Tg.put, Option.some.injEq] at h
    subst h
    exact ⟨by simp, fun i hi => List.getElem?_set_ne (by simpa [Tg.js, eq_comm] using hi)⟩
  | .tp ts, d, ρ, ρ', h => by
    cases d with
    | tup ds =>
      simp only [Tg.put] at h
      exact puts_out h
    | lst ds =>
      simp only [Tg.put] at h
      exact puts_out h
    | _ => simp [Tg.put] at h
theorem puts_out : ∀ {ts : List Tg} {ds : List D} {ρ ρ' : List (Option L)}, Tg.puts ts ds ρ = some ρ' → ρ'.length = ρ.length ∧ ∀ i, i ∉ Tg.jss ts → ρ'[i]? = ρ[i]?
  | [], [], ρ, ρ', h => by
    simp only [Tg.puts, Option.some.injEq] at h
    subst h
    exact ⟨rfl, fun _ _ => rfl⟩
  | [], _ :: _, _, _, h => by simp [Tg.puts] at h
  | _ :: _, [], _, _, h => by simp [Tg.puts] at h
  | t :: ts, d :: ds, ρ, ρ', h => by
    simp only [Tg.puts] at h
    cases hp : t.put d ρ with
    | none => rw [hp] at h; simp at h
    | some ρ1 =>
      rw [hp] at h
      simp only [Option.bind_some] at h
      obtain ⟨a1, a2⟩ := put_out hp
      obtain ⟨b1, b2⟩ := puts_out h
      refine ⟨b1.trans a1, fun i hi => ?_⟩
      simp only [Tg.jss, List.mem_append, not_or] at hi
      rw [b2 i hi.2, a2 i hi.1]
end
theorem put_wipe {t : Tg} {d : D} {ρ ρ' : List (Option L)} {vs : List Nat} (h : t.put d (wipeL ρ vs) = some ρ') (hj : ∀ j ∈ t.js, j ∈ vs) : wipeL ρ' vs = wipeL ρ vs := by
  obtain ⟨a1, a2⟩ := put_out h
  rw [wipeL_length] at a1
  refine List.ext_getElem? fun i => ?_
  rw [wipeL_get, wipeL_get, a1]
  by_cases hi : i ∈ vs
  · by_cases hl : i < ρ.length
    · simp [hi, hl]
    · simp only [hl, and_false, if_false]
      rw [List.getElem?_eq_none (by omega), List.getElem?_eq_none (by omega)]
  · simp only [hi, false_and, if_false]
    rw [a2 i fun e => hi (hj i e), wipeL_get]
    simp [hi]
theorem line_big : (10000000 : Nat) ≤ sizeLine := by rw [sizeLine_eq]; decide
end Pm
set_option Elab.async false
set_option linter.all false
set_option maxRecDepth 100000
set_option maxHeartbeats 1000000
set_option autoImplicit false
namespace Pm
open PySem PySem.Spec
open PyProof.Rows hiding St
open L2
def itD (q : Int × Int) : D := .tup [.int q.1, .int q.2]
structure Pan where
  its : List (Int × Int)
  rus : List (Int × Int)
def panD (p : Pan) : D := .tup [.tup (p.its.map itD), .tup (p.rus.map itD)]
def ItOk (q : Int × Int) : Prop := -(10 ^ 9) ≤ q.1 ∧ q.1 ≤ 10 ^ 9 ∧ 1 ≤ q.2 ∧ q.2 ≤ 10 ^ 6
def RuOk (n : Nat) (q : Int × Int) : Prop := 0 ≤ q.1 ∧ q.1 < n ∧ 0 ≤ q.2 ∧ q.2 < n ∧ q.1 ≠ q.2
structure PanOk (most : Nat) (p : Pan) : Prop where
  one : 1 ≤ p.its.length
  top : p.its.length ≤ most
  it : ∀ q ∈ p.its, ItOk q
  few : p.rus.length ≤ 16
  ru : ∀ q ∈ p.rus, RuOk p.its.length q
end Pm
set_option Elab.async false
set_option linter.all false
set_option maxRecDepth 100000
set_option maxHeartbeats 1000000
set_option autoImplicit false
namespace Pm
open PySem PySem.Spec
open PyProof.Rows hiding St
open L2
theorem divInt_mul {M W : Int} (h : 0 < W) : Rat.divInt M W * (W : Rat) = (M : Rat) := by
  rw [Rat.divInt_eq_div]
  exact Rat.div_mul_cancel (by
    intro e
    have := Rat.intCast_pos.mpr h
    rw [e] at this
    exact Rat.lt_irrefl this)
theorem cross_lt {M W N V : Int} (hW : 0 < W) (hV : 0 < V) : Rat.divInt M W < Rat.divInt N V ↔ M * V < N * W := by
  have pw := Rat.intCast_pos.mpr hW
  have pv := Rat.intCast_pos.mpr hV
  have e1 := divInt_mul (M := M) hW
  have e2 := divInt_mul (M := N) hV
  have pp : (0 : Rat) < W * V := Rat.mul_pos pw pv
  rw [← Rat.mul_lt_mul_right pp]
  have f1 : Rat.divInt M W * ((W : Rat) * V) = ((M * V : Int) : Rat) := by rw [← Rat.mul_assoc, e1, ← Rat.intCast_mul]
  have f2 : Rat.divInt N V * ((W : Rat) * V) = ((N * W : Int) : Rat) := by rw [Rat.mul_comm (W : Rat), ← Rat.mul_assoc, e2, ← Rat.intCast_mul]
  rw [f1, f2, Rat.intCast_lt_intCast]
def selI (its : List (Int × Int)) (gs : List Nat) : List (Int × Int) := gs.map fun i => its.getD i (0, 1)
def sM (l : List (Int × Int)) : Int := (l.map fun q => q.1 * q.2).sum
def sW (l : List (Int × Int)) : Int := (l.map fun q => q.2).sum
def avg (l : List (Int × Int)) : Rat := Rat.divInt (sM l) (sW l)
theorem sM_cons (q : Int × Int) (l : List (Int × Int)) : sM (q :: l) = q.1 * q.2 + sM l := by simp [sM]
theorem sW_cons (q : Int × Int) (l : List (Int × Int)) : sW (q :: l) = q.2 + sW l := by simp [sW]
def ItB (q : Int × Int) : Prop := Sz 70 q.1 ∧ Sz 70 q.2 ∧ 1 ≤ q.2
theorem ItOk.b {q : Int × Int} (h : ItOk q) : ItB q := by
  obtain ⟨a, b, c, d⟩ := h
  have : (10 : Int) ^ 9 < 2 ^ 70 := by decide
  have : (10 : Int) ^ 6 < 2 ^ 70 := by decide
  have e : ((2 ^ 70 : Nat) : Int) = 2 ^ 70 := by decide
  exact ⟨by unfold Sz; omega, by unfold Sz; omega, c⟩
theorem sW_ge {l : List (Int × Int)} (h : ∀ q ∈ l, ItB q) : (l.length : Int) ≤ sW l := by
  induction l with
  | nil => simp [sW]
  | cons q l ih =>
    have := ih fun z hz => h z (by simp [hz])
    have := (h q (by simp)).2.2
    rw [sW_cons, List.length_cons]; omega
theorem sW_le {l : List (Int × Int)} (h : ∀ q ∈ l, ItB q) : (sW l).natAbs ≤ l.length * 2 ^ 70 := by
  induction l with
  | nil => simp [sW]
  | cons q l ih =>
    have h1 := ih fun z hz => h z (by simp [hz])
    have h2 := (h q (by simp)).2.1
    unfold Sz at h2
    rw [sW_cons, List.length_cons, Nat.add_mul]; omega
theorem sM_le {l : List (Int × Int)} (h : ∀ q ∈ l, ItB q) : (sM l).natAbs ≤ l.length * 2 ^ 140 := by
  induction l with
  | nil => simp [sM]
  | cons q l ih =>
    have h1 := ih fun z hz => h z (by simp [hz])
    have h2 := (h q (by simp)).1.mul (h q (by simp)).2.1
    unfold Sz at h2
    rw [sM_cons, List.length_cons, Nat.add_mul]; omega
theorem sz_sums {l : List (Int × Int)} (h : ∀ q ∈ l, ItB q) (hn : l.length ≤ 1000) : Sz 150 (sM l) ∧ Sz 150 (sW l) := by
  have h1 := sM_le h
  have h2 := sW_le h
  unfold Sz
  have e1 : l.length * 2 ^ 140 ≤ 1000 * 2 ^ 140 := Nat.mul_le_mul_right _ hn
  have e2 : l.length * 2 ^ 70 ≤ 1000 * 2 ^ 70 := Nat.mul_le_mul_right _ hn
  have e3 : 1000 * 2 ^ 140 < 2 ^ 150 := by decide
  have e4 : 1000 * 2 ^ 70 < 2 ^ 150 := by decide
  omega
theorem avg_sz {l : List (Int × Int)} (h : ∀ q ∈ l, ItB q) (hn : l.length ≤ 1000) (h0 : l ≠ []) : SzR 150 (avg l) := by
  obtain ⟨a, b⟩ := sz_sums h hn
  have h1 := sW_ge h
  have h2 : 0 < l.length := List.length_pos_iff.mpr h0
  exact SzR.divInt a b (by omega)
theorem sW_pos {l : List (Int × Int)} (h : ∀ q ∈ l, ItB q) (h0 : l ≠ []) : 0 < sW l := by
  have h1 := sW_ge h
  have h2 : 0 < l.length := List.length_pos_iff.mpr h0
  omega
def pD (its : List (Int × Int)) (rd : D) : D := .tup [.tup (its.map itD), rd]
def natD (i : Nat) : D := .int i
def grD (gs : List Nat) : D := .tup (gs.map natD)
theorem sel_mem {its : List (Int × Int)} {gs : List Nat} (h : ∀ i ∈ gs, i < its.length) {q : Int × Int} (hq : q ∈ selI its gs) : q ∈ its := by
  obtain ⟨i, hi, rfl⟩ := List.mem_map.mp hq
  have hl := h i hi
  rw [List.getD_eq_getElem?_getD, List.getElem?_eq_getElem hl]
  exact List.getElem_mem hl
theorem getD_at {its : List (Int × Int)} {i : Nat} (h : i < its.length) : its[i]? = some (its.getD i (0, 1)) := by
  rw [List.getD_eq_getElem?_getD, List.getElem?_eq_getElem h]; rfl
theorem idx_it {its : List (Int × Int)} {i : Nat} (h : i < its.length) : idx (its.map itD) (i : Int) = some (itD (its.getD i (0, 1))) := by
  rw [idx_nat', List.getElem?_map, getD_at h]; rfl
theorem sel_ne {its : List (Int × Int)} {gs : List Nat} (h : gs ≠ []) : selI its gs ≠ [] := by
  unfold selI
  intro e
  exact h (List.map_eq_nil_iff.mp e)
end Pm
set_option Elab.async false
set_option linter.all false
set_option maxRecDepth 100000
set_option maxHeartbeats 1000000
set_option autoImplicit false
namespace Pm
open PySem PySem.Spec
open PyProof.Rows hiding St
open L2
theorem nats_pln (gs : List Nat) : D.plns (gs.map natD) = true := by
  induction gs with
  | nil => rfl
  | cons q l ih => simp only [List.map_cons, D.plns, ih]; rfl
theorem in_nats {gs : List Nat} {k : Nat} : (gs.map natD).any (fun y => D.eqv y (.int k)) = decide (k ∈ gs) := by
  rw [Bool.eq_iff_iff, decide_eq_true_iff, List.any_eq_true]
  constructor
  · rintro ⟨y, hy, e⟩
    obtain ⟨i, hi, rfl⟩ := List.mem_map.mp hy
    have : (i : Int) = k := by simpa [natD, D.eqv] using e
    have : i = k := by omega
    rw [← this]; exact hi
  · intro h
    exact ⟨natD k, List.mem_map.mpr ⟨k, h, rfl⟩, by simp [natD, D.eqv]⟩
theorem notin_nats {gs : List Nat} {k : Nat} : (true ^^ (gs.map natD).any fun y => D.eqv y (.int k)) = !decide (k ∈ gs) := by rw [in_nats]; simp
theorem isin_nats {gs : List Nat} {k : Nat} : (false ^^ (gs.map natD).any fun y => D.eqv y (.int k)) = decide (k ∈ gs) := by rw [in_nats]; simp
theorem notin_natD {gs : List Nat} {k : Nat} : (true ^^ (gs.map natD).any fun y => D.eqv y (natD k)) = !decide (k ∈ gs) := notin_nats
theorem isin_natD {gs : List Nat} {k : Nat} : (false ^^ (gs.map natD).any fun y => D.eqv y (natD k)) = decide (k ∈ gs) := isin_nats
theorem gr_dep (gs : List Nat) : (grD gs).dep ≤ 64 := by
  have : D.deps (gs.map natD) = 0 := by
    induction gs with
    | nil => rfl
    | cons g gs ih => simp only [List.map_cons, D.deps, ih]; rfl
  simp only [grD, D.dep, this]; decide
theorem gr_ok (gs : List Nat) : EqOk (grD gs) (.tup []) := ⟨nats_pln gs, rfl, gr_dep gs, by simp [D.dep, D.deps]⟩
theorem gr_eqv (gs : List Nat) : D.eqv (grD gs) (.tup []) = decide (gs = []) := by
  cases gs with
  | nil => rfl
  | cons g gs => simp [grD, D.eqv, D.eqvs]
def grpS : List Nat → List (List Nat)
  | [] => [[]]
  | i :: l => [] :: ((grpS l).map (i :: ·) ++ (grpS l).tail)
theorem grpS_length : ∀ l : List Nat, (grpS l).length = 2 ^ l.length
  | [] => rfl
  | i :: l => by
    have ih := grpS_length l
    have hp : 0 < 2 ^ l.length := Nat.pow_pos (by decide)
    simp only [grpS, List.length_cons, List.length_append, List.length_map, List.length_tail, ih, Nat.pow_succ]
    omega
theorem grpS_sub : ∀ {l gs : List Nat}, gs ∈ grpS l → gs.Sublist l
  | [], gs, h => by
    have : gs = [] := by simpa [grpS] using h
    rw [this]; exact List.Sublist.refl _
  | i :: l, gs, h => by
    simp only [grpS, List.mem_cons, List.mem_append, List.mem_map] at h
    rcases h with rfl | ⟨k, hk, rfl⟩ | h
    · exact List.nil_sublist _
    · exact (grpS_sub hk).cons_cons i
    · exact (grpS_sub (List.mem_of_mem_tail h)).cons i
theorem grpS_cons_ne : ∀ l : List Nat, ∃ r, grpS l = [] :: r
  | [] => ⟨[], rfl⟩
  | i :: l => ⟨_, rfl⟩
theorem sub_grpS : ∀ {l gs : List Nat}, gs.Sublist l → gs ∈ grpS l
  | [], gs, h => by
    rw [List.sublist_nil.mp h]; simp [grpS]
  | i :: l, gs, h => by
    simp only [grpS, List.mem_cons, List.mem_append, List.mem_map]
    cases h with
    | cons _ h =>
      have := sub_grpS h
      obtain ⟨r, e⟩ := grpS_cons_ne l
      rw [e] at this ⊢
      rcases List.mem_cons.mp this with rfl | h2
      · exact .inl rfl
      · exact .inr (.inr h2)
    | cons_cons _ h => exact .inr (.inl ⟨_, sub_grpS h, rfl⟩)
end Pm
set_option Elab.async false
set_option linter.all false
set_option maxRecDepth 100000
set_option maxHeartbeats 1000000
set_option autoImplicit false
namespace Pm
def sm (f : Nat → Rat) : List Nat → Rat
  | [] => 0
  | i :: l => f i + sm f l
theorem sm_append (f : Nat → Rat) : ∀ l k : List Nat, sm f (l ++ k) = sm f l + sm f k
  | [], k => by simp only [List.nil_append, sm]; grind
  | i :: l, k => by simp only [List.cons_append, sm, sm_append f l k]; grind
theorem sm_perm {f : Nat → Rat} {l k : List Nat} (h : l.Perm k) : sm f l = sm f k := by
  induction h with
  | nil => rfl
  | cons q _ ih => simp only [sm, ih]
  | swap a b l => simp only [sm]; grind
  | trans _ _ a b => exact a.trans b
theorem sm_congr {f g : Nat → Rat} : ∀ {l : List Nat}, (∀ i ∈ l, f i = g i) → sm f l = sm g l
  | [], _ => rfl
  | i :: l, h => by simp only [sm, h i (by simp), sm_congr (l := l) fun j hj => h j (by simp [hj])]
theorem sm_split (f : Nat → Rat) (p : Nat → Bool) : ∀ l : List Nat, sm f (l.filter p) + sm f (l.filter fun i => !p i) = sm f l
  | [] => by simp only [List.filter_nil, sm]; grind
  | i :: l => by
    have := sm_split f p l
    cases h : p i <;> simp only [List.filter_cons, h, sm, Bool.not_true, Bool.not_false, if_true, if_false, Bool.false_eq_true] <;> grind
theorem sm_le {f g : Nat → Rat} : ∀ {l : List Nat}, (∀ i ∈ l, f i ≤ g i) → sm f l ≤ sm g l
  | [], _ => Rat.le_refl
  | i :: l, h => by
    have h1 := h i (by simp)
    have h2 := sm_le (l := l) fun j hj => h j (by simp [hj])
    simp only [sm]; grind
theorem sm_nonneg {f : Nat → Rat} {l : List Nat} (h : ∀ i ∈ l, 0 ≤ f i) : 0 ≤ sm f l := by
  induction l with
  | nil => exact Rat.le_refl
  | cons i l ih =>
    have h1 := h i (by simp)
    have h2 := ih fun j hj => h j (by simp [hj])
    simp only [sm]; grind
theorem sm_pos {f : Nat → Rat} {l : List Nat} (h : ∀ i ∈ l, 0 < f i) (h0 : l ≠ []) : 0 < sm f l := by
  cases l with
  | nil => exact absurd rfl h0
  | cons i l =>
    have h1 := h i (by simp)
    have h2 := sm_nonneg (f := f) (l := l) fun j hj => Rat.le_of_lt (h j (by simp [hj]))
    simp only [sm]; grind
theorem sm_add (f g : Nat → Rat) : ∀ l : List Nat, sm (fun i => f i + g i) l = sm f l + sm g l
  | [] => by simp only [sm]; grind
  | i :: l => by simp only [sm, sm_add f g l]; grind
theorem sm_sub (f g : Nat → Rat) : ∀ l : List Nat, sm (fun i => f i - g i) l = sm f l - sm g l
  | [] => by simp only [sm]; grind
  | i :: l => by simp only [sm, sm_sub f g l]; grind
theorem sm_mul (c : Rat) (f : Nat → Rat) : ∀ l : List Nat, sm (fun i => c * f i) l = c * sm f l
  | [] => by simp only [sm]; grind
  | i :: l => by simp only [sm, sm_mul c f l]; grind
theorem sm_flat (f : Nat → Rat) : ∀ ps : List (List Nat), sm f ps.flatten = (ps.map (sm f)).sum
  | [] => rfl
  | p :: ps => by rw [List.flatten_cons, sm_append, sm_flat f ps, List.map_cons, List.sum_cons]
theorem exists_min {α : Type} (f : α → Rat) : ∀ {l : List α}, l ≠ [] → ∃ i ∈ l, ∀ j ∈ l, f i ≤ f j
  | [], h => absurd rfl h
  | [i], _ => ⟨i, by simp, fun j hj => by simp at hj; subst hj; exact Rat.le_refl⟩
  | i :: k :: l, _ => by
    obtain ⟨x, h1, h2⟩ := exists_min f (l := k :: l) (by simp)
    by_cases h : f i ≤ f x
    · refine ⟨i, by simp, fun j hj => ?_⟩
      rcases List.mem_cons.mp hj with rfl | hj
      · exact Rat.le_refl
      · exact Rat.le_trans h (h2 j hj)
    · refine ⟨x, by simp [List.mem_cons.mp h1], fun j hj => ?_⟩
      rcases List.mem_cons.mp hj with rfl | hj
      · grind
      · exact h2 j hj
section
variable {E : Nat → Nat → Prop} {l : List Nat} {m w r s : Nat → Rat}
def UpS (E : Nat → Nat → Prop) (U : Nat → Bool) : Prop := ∀ a b, E a b → U a = true → U b = true
def Obey (E : Nat → Nat → Prop) (r : Nat → Rat) : Prop := ∀ a b, E a b → r a ≤ r b
def fw (m w r : Nat → Rat) (i : Nat) : Rat := w i * (m i - r i)
def RUp (r : Nat → Rat) (U : Nat → Bool) : Prop := ∀ i j, r i ≤ r j → U i = true → U j = true
structure Best (l : List Nat) (E : Nat → Nat → Prop) (m w r : Nat → Rat) : Prop where
  ob : Obey E r
  up : ∀ U, UpS E U → sm (fw m w r) (l.filter U) ≤ 0
  lv : ∀ U, RUp r U → sm (fw m w r) (l.filter U) = 0
theorem RUp.up {U : Nat → Bool} (o : Obey E r) (h : RUp r U) : UpS E U := fun a b e k => h a b (o a b e) k
theorem layer {g : Nat → Rat} : ∀ (n : Nat) (l : List Nat), l.length ≤ n → (∀ U, RUp s U → sm g (l.filter U) ≤ 0) → ∀ c, (∀ i ∈ l, c ≤ s i) → sm (fun i => g i * s i) l ≤ c * sm g l
  | n, [], _, _, c, _ => by simp only [sm]; grind
  | 0, i :: l, h, _, _, _ => by simp at h
  | n + 1, i :: t, hn, h, c, hc => by
    obtain ⟨x, hx, hm⟩ := exists_min s (l := i :: t) (by simp)
    generalize hl : i :: t = l at *
    have h1 := sm_split g (fun j => decide (s x < s j)) l
    have h2 := sm_split (fun j => g j * s j) (fun j => decide (s x < s j)) l
    have lt : (l.filter fun j => decide (s x < s j)).length ≤ n := by
      have : (l.filter fun j => decide (s x < s j)).length < l.length := by
        have e : (l.filter fun j => decide (s x < s j)).length ≤ l.length := List.length_filter_le _ _
        rcases Nat.lt_or_eq_of_le e with e | e
        · exact e
        · have := List.length_filter_eq_length_iff.mp e x hx
          simp at this
      omega
    have ih := layer (g := g) n (l.filter fun j => decide (s x < s j)) lt (fun U hU => ?_) (s x) (fun j hj => by
      have := (List.mem_filter.mp hj).2
      simp only [decide_eq_true_eq] at this
      exact Rat.le_of_lt this)
    · have e3 : sm (fun j => g j * s j) (l.filter fun j => !decide (s x < s j)) = s x * sm g (l.filter fun j => !decide (s x < s j)) := by
        rw [← sm_mul]
        refine sm_congr fun j hj => ?_
        obtain ⟨a, b⟩ := List.mem_filter.mp hj
        have b' : ¬ s x < s j := by simpa using b
        have := hm j a
        have e : s j = s x := by grind
        rw [e]; exact Rat.mul_comm _ _
      have all : sm g l ≤ 0 := by
        have := h (fun _ => true) fun _ _ _ _ => rfl
        rwa [List.filter_eq_self.mpr fun _ _ => rfl] at this
      have cx : c ≤ s x := hc x hx
      have h3 : 0 ≤ (s x - c) * (0 - sm g l) := Rat.mul_nonneg (by grind) (by grind)
      have h4 : s x * sm g (l.filter fun j => decide (s x < s j)) + s x * sm g (l.filter fun j => !decide (s x < s j)) = s x * sm g l := by rw [← Rat.mul_add, h1]
      have h5 : (s x - c) * (0 - sm g l) = c * sm g l - s x * sm g l := by clear h hc hx hm h1 h2 lt ih e3 all cx h3 h4; grind
      rw [← h2, e3]
      rw [h5] at h3
      generalize s x * sm g l = A at *
      generalize c * sm g l = B at *
      generalize s x * sm g (l.filter fun j => decide (s x < s j)) = C at *
      generalize s x * sm g (l.filter fun j => !decide (s x < s j)) = D at *
      generalize sm (fun i => g i * s i) (l.filter fun j => decide (s x < s j)) = F at *
      clear h1 h2 h hc hm lt hx all e3 h5
      grind
    · rw [List.filter_filter]
      exact h _ fun a b hab hk => by
        simp only [Bool.and_eq_true, decide_eq_true_eq] at hk ⊢
        exact ⟨hU a b hab hk.1, by grind⟩
theorem Best.all (b : Best l E m w r) : sm (fw m w r) l = 0 := by
  have := b.lv (fun _ => true) fun _ _ _ _ => rfl
  rwa [List.filter_eq_self.mpr fun _ _ => rfl] at this
theorem exists_le (f : Nat → Rat) (l : List Nat) : ∃ c, ∀ i ∈ l, c ≤ f i := by
  cases l with
  | nil => exact ⟨0, fun i h => absurd h (by simp)⟩
  | cons a t => obtain ⟨x, _, h⟩ := exists_min f (l := a :: t) (by simp); exact ⟨f x, h⟩
theorem Best.dot_self (b : Best l E m w r) : sm (fun i => fw m w r i * r i) l = 0 := by
  obtain ⟨c, hc⟩ := exists_le r l
  have h1 := layer (s := r) (g := fw m w r) l.length l (Nat.le_refl _) (fun U h => by rw [b.lv U h]; exact Rat.le_refl) c hc
  have e : ∀ k : List Nat, sm (fun i => -1 * fw m w r i) k = -1 * sm (fw m w r) k := sm_mul (-1) (fw m w r)
  have h2 := layer (s := r) (g := fun i => -1 * fw m w r i) l.length l (Nat.le_refl _) (fun U h => by rw [e, b.lv U h]; grind) c hc
  have e2 : sm (fun i => -1 * fw m w r i * r i) l = -1 * sm (fun i => fw m w r i * r i) l := by
    rw [← sm_mul]; exact sm_congr fun i _ => by grind
  rw [e, b.all, e2] at h2
  rw [b.all] at h1
  grind
theorem Best.dot (b : Best l E m w r) (hs : Obey E s) : sm (fun i => fw m w r i * s i) l ≤ 0 := by
  obtain ⟨c, hc⟩ := exists_le s l
  have h1 := layer (s := s) (g := fw m w r) l.length l (Nat.le_refl _) (fun U h => b.up U (h.up hs)) c hc
  rw [b.all] at h1; grind
def costS (l : List Nat) (m w r : Nat → Rat) : Rat := sm (fun i => w i * ((r i - m i) * (r i - m i))) l
theorem Best.cost (b : Best l E m w r) (hs : Obey E s) : costS l m w r + sm (fun i => w i * ((s i - r i) * (s i - r i))) l ≤ costS l m w s := by
  have h1 := b.dot hs
  have h2 := b.dot_self
  have e : costS l m w s = costS l m w r + sm (fun i => w i * ((s i - r i) * (s i - r i))) l + (-2) * (sm (fun i => fw m w r i * s i) l - sm (fun i => fw m w r i * r i) l) := by
    unfold costS
    rw [← sm_sub, ← sm_mul, ← sm_add, ← sm_add]
    exact sm_congr fun i _ => by simp only [fw]; grind
  rw [e, h2]; grind
theorem Best.unique (b : Best l E m w r) (b' : Best l E m w s) (hw : ∀ i ∈ l, 0 < w i) : ∀ i ∈ l, r i = s i := by
  have h1 := b.cost b'.ob
  have h2 := b'.cost b.ob
  have e : sm (fun i => w i * ((r i - s i) * (r i - s i))) l = sm (fun i => w i * ((s i - r i) * (s i - r i))) l := sm_congr fun i _ => by grind
  rw [e] at h2
  have h3 : sm (fun i => w i * ((s i - r i) * (s i - r i))) l ≤ 0 := by grind
  intro i hi
  have sq : ∀ j ∈ l, 0 ≤ w j * ((s j - r j) * (s j - r j)) := fun j hj => Rat.mul_nonneg (Rat.le_of_lt (hw j hj)) (by
    rcases (show 0 ≤ s j - r j ∨ 0 ≤ r j - s j by grind) with h | h
    · exact Rat.mul_nonneg h h
    · have := Rat.mul_nonneg h h; grind)
  by_cases hne : r i = s i
  · exact hne
  exfalso
  have p1 : 0 < (s i - r i) * (s i - r i) := by
    rcases (show 0 < s i - r i ∨ 0 < r i - s i by grind) with h | h
    · exact Rat.mul_pos h h
    · have := Rat.mul_pos h h; grind
  have p2 := Rat.mul_pos (hw i hi) p1
  obtain ⟨a, c, rfl⟩ := List.append_of_mem hi
  rw [sm_append] at h3
  simp only [sm] at h3
  have n1 := sm_nonneg (l := a) fun j hj => sq j (by simp [hj])
  have n2 := sm_nonneg (l := c) fun j hj => sq j (by simp [hj])
  grind
end
section
variable {E : Nat → Nat → Prop} {l : List Nat} {m w : Nat → Rat}
def ex (m w : Nat → Rat) (a : Rat) (k : List Nat) : Rat := sm (fun i => w i * (m i - a)) k
def avS (m w : Nat → Rat) (k : List Nat) : Rat := sm (fun i => w i * m i) k / sm w k
theorem ex_eq (m w : Nat → Rat) (a : Rat) (k : List Nat) : ex m w a k = sm (fun i => w i * m i) k - a * sm w k := by
  unfold ex
  rw [← sm_mul, ← sm_sub]; exact sm_congr fun i _ => by grind
theorem ex_av (k : List Nat) (h : 0 < sm w k) : ex m w (avS m w k) k = 0 := by
  rw [ex_eq]; unfold avS
  rw [Rat.div_mul_cancel (by grind)]; grind
def PUp (E : Nat → Nat → Prop) (p : List Nat) (U : Nat → Bool) : Prop := ∀ a ∈ p, ∀ b ∈ p, E a b → U a = true → U b = true
def HiB (E : Nat → Nat → Prop) (m w : Nat → Rat) (p : List Nat) (a : Rat) : Prop := ∀ U, PUp E p U → ex m w a (p.filter U) ≤ 0
def LoB (E : Nat → Nat → Prop) (m w : Nat → Rat) (p : List Nat) (a : Rat) : Prop := ∀ U, PUp E p U → 0 ≤ ex m w a (p.filter fun i => !U i)
def Below (E : Nat → Nat → Prop) (m w : Nat → Rat) (p q : List Nat) : Prop := (∃ a, HiB E m w p a ∧ LoB E m w q a) ∧ ∀ x ∈ p, ∀ y ∈ q, ¬ E y x
theorem ex_split (a : Rat) (U : Nat → Bool) (p : List Nat) : ex m w a (p.filter U) + ex m w a (p.filter fun i => !U i) = ex m w a p := sm_split _ U p
theorem HiB.all {p : List Nat} {a : Rat} (h : HiB E m w p a) : ex m w a p ≤ 0 := by
  have := h (fun _ => true) fun _ _ _ _ _ _ => rfl
  rwa [List.filter_eq_self.mpr fun _ _ => rfl] at this
theorem LoB.all {p : List Nat} {a : Rat} (h : LoB E m w p a) : 0 ≤ ex m w a p := by
  have := h (fun _ => false) fun _ _ _ _ _ h => h
  have e : (p.filter fun i => !false) = p := List.filter_eq_self.mpr fun _ _ => rfl
  rwa [e] at this
theorem HiB.av {p : List Nat} {a : Rat} (h : HiB E m w p a) (hw : 0 < sm w p) : avS m w p ≤ a := by
  have h1 := h.all
  have h2 := ex_av (m := m) p hw
  rw [ex_eq] at h1 h2
  rcases (show avS m w p ≤ a ∨ a < avS m w p by grind) with z | z
  · exact z
  · have := Rat.mul_pos (show 0 < avS m w p - a by grind) hw
    grind
theorem LoB.av {p : List Nat} {a : Rat} (h : LoB E m w p a) (hw : 0 < sm w p) : a ≤ avS m w p := by
  have h1 := h.all
  have h2 := ex_av (m := m) p hw
  rw [ex_eq] at h1 h2
  rcases (show a ≤ avS m w p ∨ avS m w p < a by grind) with z | z
  · exact z
  · have := Rat.mul_pos (show 0 < a - avS m w p by grind) hw
    grind
structure Split (E : Nat → Nat → Prop) (m w : Nat → Rat) (p : List Nat) (U : Nat → Bool) : Prop where
  up : PUp E p U
  most : ∀ V, PUp E p V → ex m w (avS m w p) (p.filter V) ≤ ex m w (avS m w p) (p.filter U)
theorem ff {p : List Nat} (U V : Nat → Bool) : (p.filter U).filter V = p.filter fun i => V i && U i := List.filter_filter ..
theorem flt {p q : Nat → Bool} (l : List Nat) (h : ∀ i, p i = q i) : l.filter p = l.filter q := congrArg (fun z => List.filter z l) (funext h)
theorem Split.hi {p : List Nat} {U : Nat → Bool} (h : Split E m w p U) : HiB E m w (p.filter fun i => !U i) (avS m w p) := fun V hV => by
  have up : PUp E p fun i => U i || V i := fun a ha b hb e k => by
    simp only [Bool.or_eq_true] at k ⊢
    rcases k with k | k
    · exact .inl (h.up a ha b hb e k)
    · cases q : U b with
      | true => exact .inl rfl
      | false =>
        cases q2 : U a with
        | true => rw [h.up a ha b hb e q2] at q; cases q
        | false => exact .inr (hV a (List.mem_filter.mpr ⟨ha, by simp [q2]⟩) b (List.mem_filter.mpr ⟨hb, by simp [q]⟩) e k)
  have h1 := h.most _ up
  have h2 := ex_split (m := m) (w := w) (avS m w p) U (p.filter fun i => U i || V i)
  rw [ff, ff] at h2
  rw [ff]
  have e1 : (p.filter fun i => U i && (U i || V i)) = p.filter U := flt p fun i => by cases U i <;> simp
  have e2 : (p.filter fun i => !U i && (U i || V i)) = p.filter fun i => V i && !U i := flt p fun i => by cases U i <;> simp
  rw [e1, e2] at h2
  grind
theorem Split.lo {p : List Nat} {U : Nat → Bool} (h : Split E m w p U) : LoB E m w (p.filter U) (avS m w p) := fun V hV => by
  have up : PUp E p fun i => V i && U i := fun a ha b hb e k => by
    simp only [Bool.and_eq_true] at k ⊢
    have := h.up a ha b hb e k.2
    exact ⟨hV a (List.mem_filter.mpr ⟨ha, k.2⟩) b (List.mem_filter.mpr ⟨hb, this⟩) e k.1, this⟩
  have h1 := h.most _ up
  have h2 := ex_split (m := m) (w := w) (avS m w p) V (p.filter U)
  rw [ff, ff] at h2
  rw [ff]
  grind
theorem ex_mono {a b : Rat} {k : List Nat} (h : a ≤ b) (hw : ∀ i ∈ k, 0 ≤ w i) : ex m w b k ≤ ex m w a k := sm_le fun i hi => by
  have := Rat.mul_nonneg (hw i hi) (show 0 ≤ b - a by grind)
  grind
theorem LoB.lower {p : List Nat} {U : Nat → Bool} {a : Rat} (h : LoB E m w p a) (hU : PUp E p U) : LoB E m w (p.filter fun i => !U i) a := fun V hV => by
  have up : PUp E p fun i => U i || V i := fun x hx y hy e k => by
    simp only [Bool.or_eq_true] at k ⊢
    rcases k with k | k
    · exact .inl (hU x hx y hy e k)
    · cases q : U y with
      | true => exact .inl rfl
      | false =>
        cases q2 : U x with
        | true => rw [hU x hx y hy e q2] at q; cases q
        | false => exact .inr (hV x (List.mem_filter.mpr ⟨hx, by simp [q2]⟩) y (List.mem_filter.mpr ⟨hy, by simp [q]⟩) e k)
  have := h _ up
  rw [ff]
  rwa [flt p (q := fun i => !V i && !U i) fun i => by cases U i <;> cases V i <;> rfl] at this
theorem HiB.upper {p : List Nat} {U : Nat → Bool} {a : Rat} (h : HiB E m w p a) (hU : PUp E p U) : HiB E m w (p.filter U) a := fun V hV => by
  have up : PUp E p fun i => V i && U i := fun x hx y hy e k => by
    simp only [Bool.and_eq_true] at k ⊢
    have := hU x hx y hy e k.2
    exact ⟨hV x (List.mem_filter.mpr ⟨hx, k.2⟩) y (List.mem_filter.mpr ⟨hy, this⟩) e k.1, this⟩
  rw [ff]; exact h _ up
theorem LoB.le {p : List Nat} {a b : Rat} (h : LoB E m w p b) (k : a ≤ b) (hw : ∀ i ∈ p, 0 ≤ w i) : LoB E m w p a := fun U hU => by
  have h1 := h U hU
  have h2 := ex_mono (m := m) (w := w) (k := p.filter fun i => !U i) k fun i hi => hw i (List.mem_filter.mp hi).1
  exact Rat.le_trans h1 h2
theorem HiB.le {p : List Nat} {a b : Rat} (h : HiB E m w p a) (k : a ≤ b) (hw : ∀ i ∈ p, 0 ≤ w i) : HiB E m w p b := fun U hU => by
  have h1 := h U hU
  have h2 := ex_mono (m := m) (w := w) (k := p.filter U) k fun i hi => hw i (List.mem_filter.mp hi).1
  exact Rat.le_trans h2 h1
theorem Split.below {p : List Nat} {U : Nat → Bool} (h : Split E m w p U) : Below E m w (p.filter fun i => !U i) (p.filter U) :=
  ⟨⟨_, h.hi, h.lo⟩, fun x hx y hy e => by
    obtain ⟨x1, x2⟩ := List.mem_filter.mp hx
    obtain ⟨y1, y2⟩ := List.mem_filter.mp hy
    have := h.up y y1 x x1 e y2
    simp [this] at x2⟩
theorem Below.left {p q : List Nat} {U : Nat → Bool} (h : Below E m w p q) (s : Split E m w q U) (hw : ∀ i ∈ q, 0 ≤ w i) (hp : 0 < sm w q) : Below E m w p (q.filter U) ∧ Below E m w p (q.filter fun i => !U i) := by
  obtain ⟨⟨a, h1, h2⟩, h3⟩ := h
  refine ⟨⟨⟨a, h1, s.lo.le (h2.av hp) fun i hi => hw i (List.mem_filter.mp hi).1⟩, fun x hx y hy => h3 x hx y (List.mem_filter.mp hy).1⟩, ⟨⟨a, h1, h2.lower s.up⟩, fun x hx y hy => h3 x hx y (List.mem_filter.mp hy).1⟩⟩
theorem Below.right {p q : List Nat} {U : Nat → Bool} (h : Below E m w p q) (s : Split E m w p U) (hw : ∀ i ∈ p, 0 ≤ w i) (hp : 0 < sm w p) : Below E m w (p.filter U) q ∧ Below E m w (p.filter fun i => !U i) q := by
  obtain ⟨⟨a, h1, h2⟩, h3⟩ := h
  refine ⟨⟨⟨a, h1.upper s.up, h2⟩, fun x hx y hy => h3 x (List.mem_filter.mp hx).1 y hy⟩, ⟨⟨a, s.hi.le (h1.av hp) fun i hi => hw i (List.mem_filter.mp hi).1, h2⟩, fun x hx y hy => h3 x (List.mem_filter.mp hx).1 y hy⟩⟩
def Chain (E : Nat → Nat → Prop) (m w : Nat → Rat) (ps : List (List Nat)) : Prop := ps.Pairwise (Below E m w)
theorem Chain.split {a b : List (List Nat)} {p : List Nat} {U : Nat → Bool} (h : Chain E m w (a ++ p :: b)) (s : Split E m w p U) (hw : ∀ i ∈ p, 0 ≤ w i) (hp : 0 < sm w p) : Chain E m w (a ++ (p.filter fun i => !U i) :: (p.filter U) :: b) := by
  unfold Chain at *
  rw [List.pairwise_append, List.pairwise_cons] at h ⊢
  obtain ⟨h1, ⟨h2, h3⟩, h4⟩ := h
  refine ⟨h1, ⟨fun q hq => ?_, List.pairwise_cons.mpr ⟨fun q hq => ((h2 q hq).right s hw hp).1, h3⟩⟩, fun q hq z hz => ?_⟩
  · rcases List.mem_cons.mp hq with rfl | hq
    · exact s.below
    · exact ((h2 q hq).right s hw hp).2
  · have := (h4 q hq p (by simp)).left s hw hp
    rcases List.mem_cons.mp hz with rfl | hz
    · exact this.2
    · rcases List.mem_cons.mp hz with rfl | hz
      · exact this.1
      · exact h4 q hq z (by simp [hz])
def Whole (E : Nat → Nat → Prop) (m w : Nat → Rat) (p : List Nat) : Prop := ∀ U, PUp E p U → ex m w (avS m w p) (p.filter U) ≤ 0
theorem pw_mem {α : Type} {R : α → α → Prop} : ∀ {l : List α}, l.Pairwise R → ∀ {x y}, x ∈ l → y ∈ l → x = y ∨ R x y ∨ R y x
  | [], _, _, _, h, _ => absurd h (by simp)
  | a :: l, h, x, y, hx, hy => by
    rw [List.pairwise_cons] at h
    rcases List.mem_cons.mp hx with rfl | hx
    · rcases List.mem_cons.mp hy with rfl | hy
      · exact .inl rfl
      · exact .inr (.inl (h.1 y hy))
    · rcases List.mem_cons.mp hy with e | hy
      · exact .inr (.inr (e ▸ h.1 x hx))
      · exact pw_mem h.2 hx hy
theorem flat_filter (U : Nat → Bool) : ∀ ps : List (List Nat), ps.flatten.filter U = (ps.map fun p => p.filter U).flatten
  | [] => rfl
  | p :: ps => by simp [List.filter_append, flat_filter U ps]
theorem sum_map_le {ps : List (List Nat)} {f : List Nat → Rat} (h : ∀ p ∈ ps, f p ≤ 0) : (ps.map f).sum ≤ 0 := by
  induction ps with
  | nil => exact Rat.le_refl
  | cons p ps ih =>
    have h1 := h p (by simp)
    have h2 := ih fun q hq => h q (by simp [hq])
    rw [List.map_cons, List.sum_cons]; grind
theorem sum_map_zero {ps : List (List Nat)} {f : List Nat → Rat} (h : ∀ p ∈ ps, f p = 0) : (ps.map f).sum = 0 := by
  induction ps with
  | nil => rfl
  | cons p ps ih =>
    have h1 := h p (by simp)
    have h2 := ih fun q hq => h q (by simp [hq])
    rw [List.map_cons, List.sum_cons]; grind
theorem Chain.best {ps : List (List Nat)} {r : Nat → Rat} (h : Chain E m w ps) (hE : ∀ a b, E a b → a ∈ l ∧ b ∈ l) (hl : ps.flatten.Perm l) (nd : l.Nodup) (hw : ∀ i ∈ l, 0 < w i) (hn : ∀ p ∈ ps, p ≠ []) (hf : ∀ p ∈ ps, Whole E m w p) (hr : ∀ p ∈ ps, ∀ i ∈ p, r i = avS m w p) : Best l E m w r := by
  have pw : ∀ p ∈ ps, 0 < sm w p := fun p hp => sm_pos (fun i hi => hw i (hl.mem_iff.mp (List.mem_flatten.mpr ⟨p, hp, hi⟩))) (hn p hp)
  have eqf : ∀ p ∈ ps, ∀ U : Nat → Bool, sm (fw m w r) (p.filter U) = ex m w (avS m w p) (p.filter U) := fun p hp U => sm_congr fun i hi => by
    simp only [fw]; rw [hr p hp i (List.mem_filter.mp hi).1]
  have tot : ∀ U : Nat → Bool, sm (fw m w r) (l.filter U) = (ps.map fun p => ex m w (avS m w p) (p.filter U)).sum := fun U => by
    rw [← sm_perm (hl.filter U), flat_filter, sm_flat, List.map_map]
    congr 1
    exact List.map_congr_left fun p hp => eqf p hp U
  refine ⟨fun a b e => ?_, fun U hU => ?_, fun U hU => ?_⟩
  · obtain ⟨ha, hb⟩ := hE a b e
    obtain ⟨p, hp, ap⟩ := List.mem_flatten.mp (hl.mem_iff.mpr ha)
    obtain ⟨q, hq, bq⟩ := List.mem_flatten.mp (hl.mem_iff.mpr hb)
    rw [hr p hp a ap, hr q hq b bq]
    by_cases hpq : p = q
    · rw [hpq]; exact Rat.le_refl
    · rcases (pw_mem h hp hq).resolve_left hpq with o | o
      · obtain ⟨⟨c, h1, h2⟩, _⟩ := o
        exact Rat.le_trans (h1.av (pw p hp)) (h2.av (pw q hq))
      · exact absurd e (o.2 b bq a ap)
  · rw [tot]
    exact sum_map_le fun p hp => hf p hp U fun a _ b _ e k => hU a b e k
  · rw [tot]
    refine sum_map_zero fun p hp => ?_
    by_cases hx : ∃ x ∈ p, U x = true
    · obtain ⟨x, hx, hu⟩ := hx
      have : p.filter U = p := List.filter_eq_self.mpr fun y hy => hU x y (by rw [hr p hp x hx, hr p hp y hy]; exact Rat.le_refl) hu
      rw [this]; exact ex_av p (pw p hp)
    · have : p.filter U = [] := List.filter_eq_nil_iff.mpr fun y hy hu => hx ⟨y, hy, hu⟩
      rw [this]; rfl
end
end Pm
set_option Elab.async false
set_option linter.all false
set_option maxRecDepth 100000
set_option maxHeartbeats 1000000
set_option autoImplicit false
namespace Pm
open PySem PySem.Spec
open PyProof.Rows hiding St
open L2
variable {γ : Type}
def noOwn (ρ : List (Option L)) (vs : List Nat) : Bool := vs.all fun v => match ρ[v]? with
  | some (some (.own _)) => false
  | some (some (.dic _)) => false
  | _ => true
theorem back_wipe {s : S γ} {vs : List Nat} (h : noOwn s.ρ vs = true) : s.back vs (s.wipe vs) = s := by
  obtain ⟨ρ, g⟩ := s
  have e : (S.back (⟨ρ, g⟩ : S γ) vs (S.wipe (⟨ρ, g⟩ : S γ) vs)).ρ = ρ := by
    refine List.ext_getElem? fun i => ?_
    simp only [S.back, S.wipe, List.getElem?_mapIdx]
    rw [wipeL_get]
    by_cases hi : i ∈ vs
    · have h1 := List.all_eq_true.mp h i hi
      by_cases hl : i < ρ.length
      · rw [if_pos ⟨hi, hl⟩]
        simp only [Option.map_some, if_pos hi]
        rw [List.getElem?_eq_getElem hl] at h1 ⊢
        unfold keepVal
        cases q : ρ[i] with
        | none => simp [q]
        | some l => cases l with
          | val d => simp [q]
          | own ds => rw [q] at h1; simp at h1
          | dic ds => rw [q] at h1; simp at h1
      · rw [if_neg (fun z => hl z.2), List.getElem?_eq_none (by omega)]; rfl
    · rw [if_neg fun z => hi z.1]
      cases q : ρ[i]? with
      | none => rfl
      | some o => simp [hi]
  show (⟨_, _⟩ : S γ) = _
  exact congrArg (fun z => (⟨z, g⟩ : S γ)) e
theorem back_wipeG {s : S γ} {vs : List Nat} {g : γ} (h : noOwn s.ρ vs = true) : s.back vs ⟨wipeL s.ρ vs, g⟩ = ⟨s.ρ, g⟩ := by
  have e := congrArg S.ρ (back_wipe h)
  show (⟨_, g⟩ : S γ) = _
  exact congrArg (fun z => (⟨z, g⟩ : S γ)) e
theorem lc_runG {tg : Tg} {vs : List Nat} {tt : PTx γ} {te : PEx γ} {R : List D → S γ → Prop} {ds : List D} {s1 : S γ} (J : Nat → List D → γ → Prop) (h0 : J 0 [] s1.g)
    (step : ∀ i d acc g, ds[i]? = some d → J i acc g → ∃ ρ', tg.put d (wipeL s1.ρ vs) = some ρ' ∧ ((∀ g' : γ, Wk ((⟨ρ', g'⟩ : S γ).wipe vs) ⟨wipeL s1.ρ vs, g'⟩) →
      tt ⟨ρ', g⟩ fun b s3 => Br b (te s3 fun y s4 => acc.length + 1 ≤ sizeLine ∧ ∃ s5, Wk (s4.wipe vs) s5 ∧ ∃ g', s5 = ⟨wipeL s1.ρ vs, g'⟩ ∧ J (i + 1) (acc ++ [y]) g') (∃ s5, Wk (s3.wipe vs) s5 ∧ ∃ g', s5 = ⟨wipeL s1.ρ vs, g'⟩ ∧ J (i + 1) acc g')))
    (fin : ∀ acc g, J ds.length acc g → R acc ⟨s1.ρ, g⟩) (hj : ∀ j ∈ tg.js, j ∈ vs := by decide) (ho : noOwn s1.ρ vs = true := by rfl) : lcB tg vs tt te R ds s1 := by
  refine ⟨fun i acc s => ∃ g', s = ⟨wipeL s1.ρ vs, g'⟩ ∧ J i acc g', ⟨_, Wk.refl _, s1.g, rfl, h0⟩, ?_, ?_⟩
  · rintro i d acc s hd ⟨g, rfl, hJ⟩
    obtain ⟨ρ', h1, h2⟩ := step i d acc g hd hJ
    unfold qPut
    show match tg.put d (wipeL s1.ρ vs) with | some ρ' => _ | none => False
    rw [h1]
    refine h2 fun g' => ?_
    show Wk (⟨wipeL ρ' vs, g'⟩ : S γ) _
    rw [put_wipe h1 hj]
    exact Wk.refl _
  · rintro acc s ⟨g, rfl, hJ⟩
    rw [back_wipeG ho]
    exact fin acc g hJ
theorem lc_list {α : Type} {tg : Tg} {vs : List Nat} {tt : PTx γ} {te : PEx γ} {R : List D → S γ → Prop} {s1 : S γ} (l : List α) (e : α → D) (P : α → Bool) (g : α → D) (hn : l.length ≤ 1000000)
    (step : ∀ a ∈ l, ∃ ρ', tg.put (e a) (wipeL s1.ρ vs) = some ρ' ∧ (∀ T : Bool → S γ → Prop, T (P a) ⟨ρ', s1.g⟩ → tt ⟨ρ', s1.g⟩ T) ∧ (P a = true → ∀ T : D → S γ → Prop, T (g a) ⟨ρ', s1.g⟩ → te ⟨ρ', s1.g⟩ T))
    (fin : R ((l.filter P).map g) s1) (hj : ∀ j ∈ tg.js, j ∈ vs) (ho : noOwn s1.ρ vs = true) : lcB tg vs tt te R (l.map e) s1 := by
  have line := sizeLine_eq
  refine lc_runG (fun i acc g' => g' = s1.g ∧ acc = ((l.take i).filter P).map g) ⟨rfl, by simp⟩ ?_ ?_ hj ho
  · rintro i d acc g' hd ⟨rfl, rfl⟩
    rw [List.getElem?_map] at hd
    obtain ⟨a, ha, rfl⟩ := Option.map_eq_some_iff.mp hd
    obtain ⟨ρ', h1, h2, h3⟩ := step a (List.mem_of_getElem? ha)
    refine ⟨ρ', h1, fun W => h2 _ ⟨fun hb => h3 hb _ ⟨?_, _, W _, _, rfl, rfl, ?_⟩, fun hb => ⟨_, W _, _, rfl, rfl, ?_⟩⟩⟩
    · have h1 := List.length_filter_le P (l.take i)
      have h2 := List.length_take_le i l
      have h3 : (l.take i).length ≤ l.length := by rw [List.length_take]; omega
      rw [List.length_map]; omega
    · rw [List.take_add_one, ha, List.filter_append, List.map_append]
      simp [hb]
    · rw [List.take_add_one, ha, List.filter_append, List.map_append]
      simp [hb]
  · rintro acc g' ⟨rfl, rfl⟩
    rw [List.length_map, List.take_of_length_le (Nat.le_refl _)]
    exact fin
theorem lc_mapl {α : Type} {tg : Tg} {vs : List Nat} {te : PEx γ} {R : List D → S γ → Prop} {s1 : S γ} (l : List α) (e : α → D) (g : α → D) (hn : l.length ≤ 1000000)
    (step : ∀ a ∈ l, ∃ ρ', tg.put (e a) (wipeL s1.ρ vs) = some ρ' ∧ (∀ T : D → S γ → Prop, T (g a) ⟨ρ', s1.g⟩ → te ⟨ρ', s1.g⟩ T))
    (fin : R (l.map g) s1) (hj : ∀ j ∈ tg.js, j ∈ vs) (ho : noOwn s1.ρ vs = true) : lcB tg vs qYes te R (l.map e) s1 := by
  refine lc_list l e (fun _ => true) g hn (fun a ha => ?_) ?_ hj ho
  · obtain ⟨ρ', h1, h2⟩ := step a ha
    exact ⟨ρ', h1, fun T h => h, fun _ => h2⟩
  · rw [List.filter_eq_self.mpr fun _ _ => rfl]; exact fin
theorem put_nm {i : Nat} {d : D} {s : S γ} {R : S γ → Prop} (h : R ⟨s.ρ.set i (some (.val d)), s.g⟩) : qPut (.nm i) d s R := h
theorem put_tg {tg : Tg} {d : D} {s : S γ} {R : S γ → Prop} {ρ' : List (Option L)} (e : tg.put d s.ρ = some ρ') (h : R ⟨ρ', s.g⟩) : qPut tg d s R := by
  unfold qPut; rw [e]; exact h
theorem lc_all {tg : Tg} {vs : List Nat} {te : PEx γ} {R : List D → S γ → Prop} {s1 : S γ} {ds : List D} (g : D → D) (hn : ds.length ≤ 1000000)
    (step : ∀ a ∈ ds, ∃ ρ', tg.put a (wipeL s1.ρ vs) = some ρ' ∧ (∀ T : D → S γ → Prop, T (g a) ⟨ρ', s1.g⟩ → te ⟨ρ', s1.g⟩ T))
    (fin : R (ds.map g) s1) (hj : ∀ j ∈ tg.js, j ∈ vs) (ho : noOwn s1.ρ vs = true) : lcB tg vs qYes te R ds s1 := by
  have := lc_mapl (tg := tg) (vs := vs) (te := te) (R := R) (s1 := s1) ds id g hn step fin hj ho
  rw [List.map_id] at this; exact this
end Pm
set_option Elab.async false
set_option linter.all false
set_option maxRecDepth 100000
set_option maxHeartbeats 1000000
set_option autoImplicit false
namespace Pm
open PySem PySem.Spec
open PyProof.Rows hiding St
open L2
theorem sz_one {b : Nat} (h : 1 ≤ b := by decide) : Sz b 1 := by
  unfold Sz
  exact Nat.lt_of_lt_of_le (show Int.natAbs 1 < 2 ^ 1 by decide) (Nat.pow_le_pow_right (by decide) h)
theorem num_den (x : Rat) : (x.num : Rat) = x * ((x.den : Int) : Rat) := by
  have h := divInt_mul (M := x.num) (W := x.den) (by have := x.den_pos; omega)
  rw [Rat.num_divInt_den] at h
  exact h.symm
theorem sub_filter {ss gs : List Nat} (h : ss.Sublist gs) (nd : gs.Nodup) : gs.filter (fun i => decide (i ∈ ss)) = ss := by
  induction h with
  | slnil => rfl
  | @cons l k a h ih =>
    rw [List.nodup_cons] at nd
    rw [List.filter_cons, if_neg (by simpa using fun z => nd.1 (h.subset z))]
    exact ih nd.2
  | @cons_cons l k a h ih =>
    rw [List.nodup_cons] at nd
    rw [List.filter_cons, if_pos (by simp)]
    congr 1
    refine Eq.trans (List.filter_congr fun i hi => ?_) (ih nd.2)
    have : i ≠ a := fun e => nd.1 (e ▸ hi)
    simp [this]
theorem zipD_map {α β : Type} (f : α → D) (g : β → D) : ∀ (xs : List α) (ys : List β), zipD (xs.map f) (ys.map g) = (xs.zip ys).map fun p => .tup [f p.1, g p.2]
  | [], _ => by simp [zipD]
  | _ :: _, [] => by simp [zipD]
  | x :: xs, y :: ys => by simp only [List.map_cons, zipD, List.zip_cons_cons, zipD_map f g xs ys]
end Pm
set_option Elab.async false
set_option linter.all false
set_option maxRecDepth 100000
set_option maxHeartbeats 1000000
set_option autoImplicit false
namespace Pm
open PySem PySem.Spec
open PyProof.Rows hiding St
open L2
theorem obsBG_eq {n : Nat} {fa : List He.Fa} {fn : List He.DefD} {ex : PySem.W.Frag → Bool} {g : Addr → Option Obj} {s : Shared} (h : ∀ a, g a = s.heap.get? a) : obsBG n fa fn ex g = (hookB n fa fn ex).obs s := by
  have e : g = s.heap.get? := funext h
  rw [e] <;> rfl
section
variable {fa : List He.Fa} {fn : List He.DefD} {ex : PySem.W.Frag → Bool} {K : PySem.W.Frag}
theorem SaysB.d (c : SaysB fa fn ex K) : He.SaysD fa fn K := congrArg (fun z : He.AlD × Bool => z.1) c
end
end Pm
set_option Elab.async false
set_option linter.all false
set_option maxRecDepth 100000
set_option maxHeartbeats 1000000
set_option autoImplicit false
namespace Pm
open PySem PySem.Spec
open PyProof.Rows hiding St
open L2
variable {γ : Type}
section
variable {X : Cx} {G : GP γ} {a b c e : Expr} {pos : Pos}
def qAug (p : D → D → DK → Prop) (i : Nat) (te : PEx γ) : PSx γ := fun E s => ∃ x, s.ρ[i]? = some (some (.val x)) ∧ te s fun y s1 => p x y fun z => E.nx ⟨s1.ρ.set i (some (.val z)), s1.g⟩
theorem qs_aug {i : Nat} {x : Str} {op : Operator} {p : D → D → DK → Prop} {te : PEx γ} {pos' : Pos} (ho : OpR X (inplaceOp op) (dOp2 G.K p)) (hN : X.N.Nodup) (hi : X.N[i]? = some x) (hx : Loc X.env.scope x) (he : QE X G e te)
    (hf : X.fn x = true ∨ X.env.scope.names.lookup x = some .local := by first | exact .inl rfl | exact .inr rfl | assumption) : QS X G (.AugAssign (.Name x pos') op e pos) (qAug p i te) := by
  refine PS.imp (ps_aug hN hi hx he ho hf) fun De σ H ⟨F, Z, s, E, r, ⟨d, hd, t⟩, n, _⟩ => ?_
  obtain ⟨v, hv, av⟩ := r.loc i d hd
  refine ⟨v, hv, F, Z, s, _, r, t, fun y s1 Z1 vy H1 t1 k1 r1 a1 => ?_⟩
  exact ⟨Z1, d, y, _, r1.z, At.mono k1 _ _ av, a1, t1, fun z Z3 v3 H3 t3 x3 a3 => n _ Z3 _ H3 t3 (k1.trans x3.zz) ((r1.ext x3).put a3)⟩
theorem iop_mulM : OpR X (inplaceOp .Mult) (rI MulOk fun i j => .int (i * j)) := opI fun _ _ _ _ _ _ _ hc q => imul_int q hc.ok
abbrev imulD := intD2 MulOk fun i j => .int (i * j)
theorem o_imul : OpR X (inplaceOp .Mult) (dOp2 X.K imulD) := o_int iop_mulM fun _ _ _ => rfl
variable {i : Nat} {o : Expr} {apos cpos : Pos}
end
end Pm
set_option Elab.async false
set_option linter.all false
set_option maxRecDepth 100000
set_option maxHeartbeats 1000000
set_option autoImplicit false
namespace Pm
open PySem PySem.Spec
open PyProof.Rows hiding St
open L2
variable {γ : Type}
section
variable {prog : Program} {w : World} {A : Around} {E : Value → Shared → Prop} {s : Shared}
theorem rev_pick (xs : Array Value) : ((List.range xs.size).filterMap fun (k : Nat) => xs[(((xs.size : Int) - 1) + (k : Int) * (-1)).toNat]?).toArray = xs.toList.reverse.toArray := by
  have h := PySem.W.krv_all xs
  have e : (List.range xs.size).filterMap (fun (k : Nat) => xs[(((xs.size : Int) - 1) + (k : Int) * (-1)).toNat]?) = ((List.range xs.size).map fun k => xs.size - 1 - k).filterMap (xs[·]?) := by
    rw [List.filterMap_map]
    have : ∀ l : List Nat, (∀ k ∈ l, k < xs.size) → l.filterMap (fun (k : Nat) => xs[(((xs.size : Int) - 1) + (k : Int) * (-1)).toNat]?) = l.filterMap ((xs[·]?) ∘ fun k => xs.size - 1 - k) := fun l hl => by
      induction l with
      | nil => rfl
      | cons k l ih =>
        have hk := hl k (by simp)
        have e : (((xs.size : Int) - 1) + (k : Int) * (-1)).toNat = xs.size - 1 - k := by omega
        rw [List.filterMap_cons, List.filterMap_cons, e, ih fun j hj => hl j (by simp [hj])]; rfl
    exact this _ fun k hk => List.mem_range.mp hk
  rw [e, PySem.W.krv_range, List.filterMap_reverse, h]
theorem sliceApplied_rev {sl : Addr} {n : Nat} {vk : Value} {Q : Int × Int × Nat → Shared → Prop} (hs : s.heap.IsSliceOf sl .none .none vk) (pk : IsPart vk (some (-1))) (hQ : Q ((n : Int) - 1, -1, n) s) : wpAny (model prog w) A (Builtin.Slice.sliceApplied (.ref sl) (pure (n : Int))) Q E s := by
  obtain ⟨os, hos, hcs, hds⟩ := id hs
  unfold Builtin.Slice.sliceApplied Builtin.Slice.sliceFields
  refine wpAny_bind (wpAny_bind (wpAny_field hos hds (x := .none) rfl (wpAny_bind (wpAny_field hos hds (x := .none) rfl (wpAny_bind (wpAny_field hos hds (x := vk) rfl (wpAny_pure ?_)))))))
  refine wpAny_bind (HT.slicePart_ pk ?_)
  show wpAny _ _ (if ((-1 : Int) == 0) = true then _ else _) _ _ s
  rw [if_neg (by decide)]
  refine wpAny_bind (slicePart_none (wpAny_bind (slicePart_none (wpAny_bind (wpAny_pure ?_)))))
  show wpAny _ _ (match Builtin.Slice.sliceAdjust none none (-1) (n : Int) with | (lo, hi) => pure (lo, (-1 : Int), Builtin.Slice.slicePlaces lo hi (-1))) _ _ s
  have e : Builtin.Slice.sliceAdjust none none (-1) (n : Int) = ((n : Int) - 1, -1) := rfl
  rw [e]
  show wpAny _ _ (pure ((n : Int) - 1, (-1 : Int), Builtin.Slice.slicePlaces ((n : Int) - 1) (-1) (-1))) _ _ s
  have e2 : Builtin.Slice.slicePlaces ((n : Int) - 1) (-1) (-1) = n := by
    unfold Builtin.Slice.slicePlaces
    have h1 : ¬ ((-1 : Int) > 0) := by decide
    simp only [h1, if_false]
    split
    · have : ((n : Int) - 1 - -1 - 1) / (- -1) = (n : Int) - 1 := by
        rw [show (- -1 : Int) = 1 by decide, Int.ediv_one]; omega
      rw [this]; omega
    · omega
  rw [e2]
  exact wpAny_pure hQ
theorem getItem_tuple_rev {t sl : Addr} {items : Array Value} {vk : Value} {Q : Value → Shared → Prop} (ht : IsTup s.heap t items) (hs : s.heap.IsSliceOf sl .none .none vk) (pk : IsPart vk (some (-1)))
    (h : Q (.ref s.heap.objs.size) { s with heap := s.heap.push { cls := .type "tuple", data := .seq items.toList.reverse.toArray } }) (hsz : items.size ≤ sizeLine) : wpAny (model prog w) A (getItem (.ref t) (.ref sl)) Q E s := by
  have htake : sizeOk (.seq items.toList.reverse.toArray) := by
    show items.toList.reverse.toArray.size ≤ sizeLine
    simpa using hsz
  obtain ⟨os, hos, hcs, hds⟩ := id hs
  have hTs : s.TypeIs (.ref sl) "slice" := ⟨os, hos, hcs⟩
  unfold getItem
  try with_reducible refine wpAny_holding ?_
  first | refine wpAny_bind (wpAny_pure ?_) | skip
  refine wpAny_bind (wpAny_sequenceKey ht.typeIs (by decide) ?_)
  refine wpAny_bind (wpAny_callSpecial?_slot (name := Str.ofString "__getitem__") ht.typeIs PyProof.Rows.slot_tuple_getitem
    (wpAny_call_entry PyProof.Rows.slot_tuple_getitem ht.typeIs entry_tuple_getitem ?_ (args_tuple_getitem _ _)))
  show wpAny _ _ (Builtin.Tuple.tupleItemsOf (.ref t) >>= _) _ _ s
  refine wpAny_bind (tupleItemsOf_ ht ?_)
  refine wpAny_bind (wpAny_typeOf hTs ?_)
  rw [if_pos (by decide)]
  refine wpAny_bind (sliceApplied_rev hs pk ?_)
  have hno : ¬ ((((items.size : Int) - 1 == 0) && ((-1 : Int) == 1) && (items.size == items.size)) = true) := by simp
  show wpAny _ _ (if (((items.size : Int) - 1 == 0) && ((-1 : Int) == 1) && (items.size == items.size)) = true then _ else _) _ _ s
  rw [if_neg hno, rev_pick]
  first
    | exact wpAny_bind (m := Builtin.Tuple.tupleExact _) (wpAny_newObj_type (wpAny_pure ⟨_, rfl, wpAny_pure h⟩) htake)
    | exact wpAny_bind (m := Builtin.Tuple.tupleExact _) (wpAny_newObj_type (wpAny_bind (wpAny_pure (wpAny_pure ⟨_, rfl, wpAny_pure h⟩))) htake)
    | exact wpAny_bind (wpAny_bind (m := Builtin.Tuple.tupleExact _) (wpAny_newObj_type (wpAny_pure (wpAny_pure ⟨_, rfl, wpAny_pure h⟩)) htake))
    | exact wpAny_bind (wpAny_bind (m := Builtin.Tuple.tupleExact _) (wpAny_newObj_type (wpAny_pure ⟨_, rfl, wpAny_pure h⟩) htake))
theorem pick_all (items : Array Value) : slicePick items none none (some 1) = items := by
  have e : slicePick items none none (some 1) = slicePick items none none none := rfl
  rw [e]
  unfold slicePick
  have e2 : sliceBounds none none none items.size = (0, (items.size : Int), 1) := rfl
  rw [e2]
  show ((sliceRange 0 (items.size : Int) 1).filterMap (items[·]?)).toArray = items
  have e3 : sliceRange 0 (items.size : Int) 1 = List.range items.size := by
    unfold sliceRange
    have h1 : ((1 : Int) > 0) := by decide
    simp only [h1, if_true]
    by_cases h : (0 : Int) < (items.size : Int)
    · rw [if_pos h]
      have : ((items.size : Int) - 0 + 1 - 1) / 1 = (items.size : Int) := by rw [Int.ediv_one]; omega
      rw [this, Int.toNat_natCast]
      refine (List.map_congr_left fun k _ => ?_).trans (List.map_id _)
      show (0 + 1 * (k : Int)).toNat = k
      omega
    · have : items.size = 0 := by omega
      rw [if_neg h, this]; rfl
  rw [e3, PySem.W.krv_all]
end
section
variable {X : Cx} {G : GP γ} {e c : Expr} {p3 pos : Pos}
def tStep (K : PySem.W.Frag) (te tc : TE) : TE := fun σ H Q => te σ H fun x H1 => tPart tc σ H1 fun o H2 => ∃ a xs k, x = .ref a ∧ o = some k ∧ (k = 1 ∨ k = -1) ∧
  ((SqL K H2 a xs ∧ ∀ p, H2 p = none → Q (.ref p) (upd H2 p (.lst (if k = 1 then xs else xs.reverse)))) ∨ (SqT K H2 a xs ∧ k = -1 ∧ ∀ p, H2 p = none → Q (.ref p) (upd H2 p (.tup xs.reverse))))
theorem pe_step {te tc : TE} (he : PE X e te) (hcx : PE X c tc) : PE X (.Subscript e (.Slice none none (some c) p3) pos) (tStep X.K te tc) := by
  refine ⟨fun pins s σ H Q I h => ?_⟩
  refine Subscript_ (thn (he.run pins s σ H _ I h) fun v s1 ⟨x, H1, I1, r1, q1⟩ => ?_)
  have hst : PO X (some c) (tPart tc) := po_some hcx
  refine wpAny_Slice (thn (po_none.run pins s1 σ H1 (fun o H2 => o = none ∧ H2 = H1) I1 ⟨rfl, rfl⟩) fun vl s2 ⟨l, H2, I2, pl, el, e2⟩ => ?_)
  subst el e2
  refine thn (po_none.run pins s2 σ H2 (fun o H3 => o = none ∧ H3 = H2) I2 ⟨rfl, rfl⟩) fun vu s3 ⟨u, H3, I3, pu, eu, e3⟩ => ?_
  subst eu e3
  refine thn (hst.run pins s3 σ H3 _ I3 q1) fun vs s4 ⟨o, H4, I4, ps, a, xs, k, ex, eo, ek, q⟩ => ?_
  subst ex eo
  cases r1
  cases pl
  cases pu
  have I5 : L2.Inv X pins σ H4 { s4 with heap := s4.heap.push { cls := .type "slice", data := .fields #[.none, .none, vs] } } := I4.kept (t' := s4.toks) fun b ob q => Heap.get?_push_of_some _ q
  rcases q with ⟨hx, q⟩ | ⟨hx, rfl, q⟩
  · obtain ⟨its, r, ht, hz⟩ := I5.list hx
    have hlen := r.length
    refine tail_any (ops := [.ref a, .ref s4.heap.objs.size]) ht.isList.typeIs (PySem.slot_list_getitem.lookup) ?_ (by with_unfolding_all rfl)
    refine wpAny_getItem_list_slice ht.isList (Heap.IsSliceOf.new _ .none .none vs) .none .none ps (by rcases ek with rfl | rfl <;> decide) ?_ (by rw [List.size_toArray]; omega)
    rcases ek with rfl | rfl
    · rw [pick_all]
      refine ⟨.ref _, _, I5.laid (t' := s4.toks) (o := .lst xs) (fun b ob q => Heap.get?_push_of_some _ q) (Nat.le_refl _) ?_, rfl, q _ (I5.hok.fresh (Nat.le_refl _))⟩
      exact ⟨hz, _, 0, r, Heap.get?_push_size _ rfl⟩
    · rw [PySem.W.krv_pick]
      refine ⟨.ref _, _, I5.laid (t' := s4.toks) (o := .lst xs.reverse) (fun b ob q => Heap.get?_push_of_some _ q) (Nat.le_refl _) ?_, rfl, q _ (I5.hok.fresh (Nat.le_refl _))⟩
      exact ⟨by rw [List.length_reverse]; exact hz, _, 0, r.reverse, Heap.get?_push_size _ rfl⟩
  · obtain ⟨its, r, ht, hz⟩ := I5.tuple hx
    have hlen := r.length
    refine tail_any (ops := [.ref a, .ref s4.heap.objs.size]) ht.typeIs (PyProof.Rows.slot_tuple_getitem.lookup) ?_ (by with_unfolding_all rfl)
    refine getItem_tuple_rev (items := its.toArray) ht (Heap.IsSliceOf.new _ .none .none vs) ps ?_ (by rw [List.size_toArray]; omega)
    refine ⟨.ref _, _, I5.laid (t' := s4.toks) (o := .tup xs.reverse) (fun b ob q => Heap.get?_push_of_some _ q) (Nat.le_refl _) ?_, rfl, q _ (I5.hok.fresh (Nat.le_refl _))⟩
    exact ⟨by rw [List.length_reverse]; exact hz, _, r.reverse, IsTup.new _ _⟩
def qStep (te tc : PEx γ) : PEx γ := fun s R => te s fun d s1 => tc s1 fun k s2 => match d, k with
  | .lst xs, .int k => (k = 1 ∨ k = -1) ∧ R (.lst (if k = 1 then xs else xs.reverse)) s2
  | .tup xs, .int k => k = -1 ∧ R (.tup xs.reverse) s2
  | _, _ => False
theorem qe_step {te tc : PEx γ} (he : QE X G e te) (hc : QE X G c tc) (hK : X.K = G.K := by rfl) : QE X G (.Subscript e (.Slice none none (some c) p3) pos) (qStep te tc) := by
  refine PE.imp (pe_step he hc) fun σ H Q ⟨F, Z, s, R, r, t, q⟩ => ?_
  refine ⟨F, Z, s, _, r, t, fun d s1 Z1 v1 H1 t1 k1 r1 a1 => ⟨F, Z1, s1, _, r1, t1, fun y s2 Z2 v2 H2 t2 k2 r2 a2 => ?_⟩⟩
  have a1 := At.mono k2 _ _ a1
  cases d with
  | lst xs =>
    cases y with
    | int k =>
      obtain ⟨a, vs, rfl, h1, h2⟩ := a1
      have a2' : v2 = .int k := a2
      refine ⟨k, a2', a, vs, k, rfl, rfl, t2.1, .inl ⟨.inl (.inl (r2.z _ _ h1)), fun p hp => ?_⟩⟩
      have x := Ext.new (o := HO.lst (if k = 1 then vs else vs.reverse)) r2.z hp
      refine q _ s2 _ _ _ t2.2 ((k1.trans k2).trans x.zz) (r2.ext x) ⟨p, _, rfl, upd_same, ?_⟩
      have h2 := Ats.mono x.zz _ _ h2
      by_cases hk : k = 1
      · simp only [if_pos hk] at h2 ⊢; exact h2
      · simp only [if_neg hk] at h2 ⊢; exact h2.reverse
    | _ => exact t2.elim
  | tup xs =>
    cases y with
    | int k =>
      obtain ⟨a, vs, rfl, h1, h2⟩ := a1
      have a2' : v2 = .int k := a2
      refine ⟨k, a2', a, vs, k, rfl, rfl, .inr t2.1, .inr ⟨by rw [hK]; exact seqT r2.z h1, t2.1, fun p hp => ?_⟩⟩
      have x := Ext.new (o := HO.tup vs.reverse) r2.z hp
      exact q _ s2 _ _ _ t2.2 ((k1.trans k2).trans x.zz) (r2.ext x) ⟨p, _, rfl, .inl (.inl upd_same), (Ats.mono x.zz _ _ h2).reverse⟩
    | _ => exact t2.elim
  | _ => exact t2.elim
end
end Pm
set_option Elab.async false
set_option linter.all false
set_option maxRecDepth 100000
set_option maxHeartbeats 1000000
set_option autoImplicit false
namespace Pm
open PySem PySem.Spec PySem.W
open PyProof.Rows hiding St
open L2
def IsTi (h : Heap) (v : Value) (ns : List Int) : Prop := ∃ (a : Addr) (dd : Option Addr) (items : Array Value) (n : Nat) (sl : Array (Option Value)), v = .ref a ∧ h.get? a = some { cls := .type "tuple", dict := dd, data := .seq items n, slots := sl } ∧ IntsAre items.toList ns
theorem IsTi.keeps {h h' : Heap} {v : Value} {ns : List Int} (x : IsTi h v ns) (k : ∀ b o, v = .ref b → h.get? b = some o → h'.get? b = some o) : IsTi h' v ns := by
  obtain ⟨a, dd, items, n, sl, e, g, i⟩ := x
  exact ⟨a, dd, items, n, sl, e, k _ _ e g, i⟩
theorem IsTi.type {M : Model} {h : Heap} {v : Value} {ns : List Int} (x : IsTi h v ns) : Looks M h (typeOf v) (.type "tuple") := by
  obtain ⟨a, dd, items, n, sl, rfl, g, i⟩ := x
  exact (Looks.ld g).andThen .now
section
variable {prog : Program} {w : World} {A : Around} {E : Value → Shared → Prop} {s : Shared}
theorem IsTi.inst {M : Model} {h : Heap} {v : Value} {ns : List Int} (x : IsTi h v ns) : Looks M h (isInstance v (.type "tuple")) true :=
  (x.type (M := M)).andThen (Looks.of_pure (by rw [isSubtype_type]; kernel_rfl))
theorem call_ltT {a b : Addr} {dd dd2 : Option Addr} {items items2 : Array Value} {n n2 : Nat} {sl sl2 : Array (Option Value)} {ns ms : List Int} {Q : Value → Shared → Prop} (ga : s.heap.get? a = some { cls := .type "tuple", dict := dd, data := .seq items n, slots := sl })
    (gb : s.heap.get? b = some { cls := .type "tuple", dict := dd2, data := .seq items2 n2, slots := sl2 }) (ia : IntsAre items.toList ns) (ib : IntsAre items2.toList ms) (iv : Looks (model prog w) s.heap (isInstance (.ref a) (.type "tuple")) true)
    (iu : ∀ M : Model, Looks M s.heap (isInstance (.ref b) (.type "tuple")) true) (h : Q (.bool (HT.lexLt ns ms)) s) : wpAny (model prog w) A (call (.builtin "tuple.__lt__") [.ref a, .ref b]) Q E s := by
  refine wpAny_call (codeAny_call_builtin PySem.F.slot_tuple_lt.plain PySem.F.entry_tuple_lt (@check_slot (model prog w) _ _ _ "tuple.__lt__" "tuple" "__lt__" (.ref a) [.ref b] [] _ (by decide +kernel) (by decide +kernel) iv (PySem.F.args_tuple_lt_2 _ _) ?_))
  refine wpAny_mono (NtL.nt_lt_ints a b (.type "tuple") (.type "tuple") items items2 n n2 dd dd2 sl sl2 ns ms ia ib prog w _ (wants Q E) s ⟨ga, gb, iu, h⟩) (fun fin s' q => ?_) fun _ _ z => z
  cases fin with
  | done f => exact q
  | again c => exact q
theorem lt_ti {v u : Value} {ns ms : List Int} {Q : Bool → Shared → Prop} (hu : A.units < cLine) (hv : IsTi s.heap v ns) (hw : IsTi s.heap u ms) (h : Q (HT.lexLt ns ms) s) : wpAny (model prog w) A (keyLt' oneType' v u) Q E s := by
  have sp : Looks (model prog w) s.heap (specialOf v "__lt__") (some (.builtin "tuple.__lt__")) := hv.type.andThen (Looks.of_pure PySem.F.slot_tuple_lt.lookup)
  have iv : Looks (model prog w) s.heap (isInstance v (.type "tuple")) true := hv.inst
  have iu : ∀ M : Model, Looks M s.heap (isInstance u (.type "tuple")) true := fun M => hw.inst
  obtain ⟨a, dd, items, n, sl, rfl, ga, ia⟩ := hv
  obtain ⟨b, dd2, items2, n2, sl2, rfl, gb, ib⟩ := hw
  rw [keyLt'_oneType, oneLt'_eq]
  simp only [if_true]
  refine wpAny_bind (wpAny_cRoomFor hu ?_)
  refine wpAny_bind (NtL.csib (E := E) sp (PySem.F.slot_tuple_lt.bind _) (call_ltT ga gb ia ib iv iu ?_))
  exact wpAny_truthy_bool h
theorem ti_cmp {vs : List Value} {k : Value → List Int} (hu : A.units < cLine) (hv : ∀ v ∈ vs, IsTi s.heap v (k v)) : SrtO.Cmp prog w A s oneType' (fun p => p.1 ∈ vs) (SrtO.lt2 fun v u => HT.lexLt (k v) (k u)) := by
  intro p q hp hq
  exact lt_ti (Q := fun r s' => s' = s ∧ r = HT.lexLt (k p.1) (k q.1)) (E := fun _ _ => False) hu (hv p.1 hp) (hv q.1 hq) ⟨rfl, rfl⟩
theorem mapM_wp {β : Type} {M : Model} {A : Around} {E : Value → Shared → Prop} {s : Shared} {f : Value → Sem β} {r : Value → β} : ∀ {vs : List Value} {Q : List β → Shared → Prop}, (∀ v ∈ vs, ∀ Q : β → Shared → Prop, Q (r v) s → wpAny M A (f v) Q E s) → Q (vs.map r) s → wpAny M A (vs.mapM f) Q E s
  | [], Q, _, h => by rw [List.mapM_nil]; exact wpAny_pure h
  | v :: vs, Q, hf, h => by
    rw [List.mapM_cons]
    refine wpAny_bind (hf v (by simp) _ (wpAny_bind (mapM_wp (fun u hu => hf u (by simp [hu])) (wpAny_pure h))))
theorem ti_kind {vs : List Value} {k : Value → List Int} {v0 : Value} {Q : SortKind → Shared → Prop} (hv : ∀ v ∈ v0 :: vs, IsTi s.heap v (k v)) (h0 : k v0 = []) (h : Q oneType' s) : wpAny (model prog w) A (keyKind' (v0 :: vs).toArray) Q E s := by
  have first : ∀ v ∈ v0 :: vs, ∃ r : Option Value, (k v = [] → r = none) ∧ ∀ (A : Around) (Q : Option Value → Shared → Prop), Q r s → wpAny (model prog w) A (firstOfTuple' v) Q E s := fun v hm => by
    have tv := (hv v hm).type (M := model prog w)
    obtain ⟨a, dd, items, n, sl, rfl, g, i⟩ := hv v hm
    refine ⟨items[0]?, fun e => ?_, fun A Q hq => ?_⟩
    · rw [e] at i
      have hz : items.toList.length = 0 := i.length
      have hz2 : items.size = 0 := by simpa using hz
      simp [hz2]
    · rw [kas_first_eq]
      refine wpAny_bind (tv.here ?_)
      rw [if_neg (by decide)]
      refine wpAny_bind (m := Builtin.List.listItems (.ref a)) ?_
      unfold Builtin.List.listItems
      exact wpAny_bind (wpAny_seqItems g rfl (wpAny_pure (wpAny_pure hq)))
  classical
  let r : Value → Option Value := fun v => if hm : v ∈ v0 :: vs then (first v hm).choose else none
  have hr : ∀ v (hm : v ∈ v0 :: vs), (k v = [] → r v = none) ∧ ∀ (A : Around) (Q : Option Value → Shared → Prop), Q (r v) s → wpAny (model prog w) A (firstOfTuple' v) Q E s := fun v hm => by
    have e : r v = (first v hm).choose := dif_pos hm
    rw [e]; exact (first v hm).choose_spec
  have r0 : r v0 = none := (hr v0 (by simp)).1 h0
  rw [keyKind'_eq, List.mapM_toArray, map_eq_pure_bind]
  refine wpAny_bind (wpAny_bind (mapM_wp (r := r) (fun v hm Q' hq => (hr v hm).2 _ _ hq) (wpAny_pure ?_)))
  have e1 : ((List.map r (v0 :: vs)).toArray.all fun x => x.isSome) = false := by
    rw [List.map_cons, r0]; simp
  have e2 : ((List.map r (v0 :: vs)).toArray[0]?.bind id).isSome = false := by
    rw [List.map_cons, r0]; simp
  rw [e1, if_neg (by decide), e2, if_neg (by decide)]
  rw [oneTypeOnly'_eq, List.mapM_toArray, map_eq_pure_bind]
  refine wpAny_bind (wpAny_bind (wpAny_bind (mapM_wp (r := fun _ => Value.type "tuple") (fun v hm Q' hq => ((hv v hm).type).here hq) (wpAny_pure ?_))))
  have hall : ((List.map (fun _ => Value.type "tuple") (v0 :: vs)).toArray.all fun x => x == Value.type "tuple") = true := by
    simp only [List.all_toArray, List.all_map, List.all_eq_true]
    intro _ _
    rfl
  have h0' : (List.map (fun _ => Value.type "tuple") (v0 :: vs)).toArray[0]? = some (Value.type "tuple") := by simp
  rw [h0']
  simp only [hall, if_true]
  exact wpAny_pure (wpAny_pure h)
theorem ti_sortable {a : Addr} {vs : List Value} {v0 : Value} {k : Value → List Int} (hu : A.units < cLine) (hv : ∀ v ∈ v0 :: vs, IsTi s.heap v (k v)) (h0 : k v0 = []) (ha : ∀ v ∈ v0 :: vs, v ≠ .ref a) :
    SrtO.SortableO prog w A s a (v0 :: vs) fun v u => HT.lexLt (k v) (k u) := by
  intro h' keep
  have hv' : ∀ v ∈ v0 :: vs, IsTi h' v (k v) := fun v hm => (hv v hm).keeps fun b o e g => keep b o (fun z => ha v hm (by rw [e, z])) g
  exact ⟨oneType', fun Q E hq => ti_kind (s := { s with heap := h' }) hv' h0 hq, ti_cmp (s := { s with heap := h' }) hu hv'⟩
end
def tiD (ns : List Int) : D := .tup (ns.map .int)
def sortedFT : List D → (List D → Prop) → Prop := fun ds R => ∃ nss : List (List Int), ds = [.lst (([] :: nss).map tiD)] ∧ ∀ out : List (List Int), out.Perm ([] :: nss) → out.Pairwise (fun a b => HT.lexLt b a = false) → R (out.map tiD)
theorem ats_each {K : PySem.W.Frag} {Z : Hp} : ∀ {nss : List (List Int)} {vs : List V}, Ats K Z (nss.map tiD) vs → ∀ (i : Nat) v, vs[i]? = some v → ∃ ns, nss[i]? = some ns ∧ ∃ a, v = .ref a ∧ SqT K Z a (ns.map V.int)
  | [], vs, h, i, v, e => by simp only [List.map_nil, Ats] at h; subst h; simp at e
  | ns :: nss, vs, ⟨w, ws, e1, h1, h2⟩, i, v, e => by
    subst e1
    cases i with
    | zero =>
      simp only [List.getElem?_cons_zero, Option.some.injEq] at e
      subst e
      obtain ⟨a, us, rfl, g1, g2⟩ := h1
      rw [g2.ints] at g1
      exact ⟨ns, rfl, a, rfl, g1⟩
    | succ i =>
      obtain ⟨ms, e2, r⟩ := ats_each h2 i v (by simpa using e)
      exact ⟨ms, by simpa using e2, r⟩
theorem c_sortedT {X : Cx} {k : Nat} (hr : Room k X.A) : CallR X (.builtin "sorted") (dCallF X.K sortedFT) := by
  intro pins s σ H xs us Q I r h
  obtain ⟨Z, ds, R, kz, a, ⟨nss, rfl, w⟩, q⟩ := h
  obtain ⟨v, rfl, a1⟩ := Ats.one a
  obtain ⟨p, vs, rfl, a2, a3⟩ := a1
  have each := ats_each a3
  obtain ⟨its, rv, hl, hz⟩ := I.list (.inl (.inl (kz _ _ a2)))
  rw [Vals.ref1 r]
  obtain ⟨e1, e2⟩ := bkV_refs rv fun x m => by
    obtain ⟨i, hi⟩ := List.mem_iff_getElem?.mp m
    obtain ⟨_, _, t, e, _⟩ := each i x hi
    exact ⟨t, e⟩
  have hu : X.A.units + 64 < cLine := by have := hr.units; omega
  -- the ints of each
  have hints : ∀ (i : Nat) u, its[i]? = some u → ∃ ns, ([] :: nss)[i]? = some ns ∧ TS.TupInts s.heap u ns ∧ At X.K Z (tiD ns) (bkV u) := fun i u hi => by
    have hvi : vs[i]? = some (bkV u) := by rw [e1, List.getElem?_map, hi]; rfl
    obtain ⟨ns, h1, t, h2, h3⟩ := each i _ hvi
    have eu := bkV_ref h2
    refine ⟨ns, h1, ?_, ?_⟩
    · rw [eu]; exact tupI_raw I (seqT kz h3)
    · rw [h2]; exact ⟨t, _, rfl, h3, Ats.of_ints ns⟩
  have isTi : ∀ (s' : Shared) (u : Value) (ns : List Int), TS.TupInts s'.heap u ns → IsTi s'.heap u ns := fun s' u ns ⟨t, items, e, ⟨⟨cls, dd, data, sl⟩, ho, hc, n, hd⟩, i⟩ => by
    simp only at hc hd
    subst hc hd
    exact ⟨t, dd, items, n, sl, e, ho, i⟩
  have hlen : its.length = nss.length + 1 := by
    have h1 := a3.len
    rw [e1, List.length_map, List.length_map, List.length_cons] at h1
    exact h1
  obtain ⟨u0, ur, rfl⟩ : ∃ u0 ur, its = u0 :: ur := by
    cases its with
    | nil => simp at hlen
    | cons u0 ur => exact ⟨u0, ur, rfl⟩
  have kint : ∀ u ∈ u0 :: ur, ∃ ns, TS.TupInts s.heap u ns ∧ At X.K Z (tiD ns) (bkV u) := fun u hm => by
    obtain ⟨i, hi⟩ := List.mem_iff_getElem?.mp hm
    obtain ⟨ns, _, h2, h3⟩ := hints i u hi
    exact ⟨ns, h2, h3⟩
  have k0 : TS.intsOf s.heap u0 = [] := by
    obtain ⟨ns, h1, h2, _⟩ := hints 0 u0 rfl
    cases h1
    exact h2.ints
  have kmap : (u0 :: ur).map (TS.intsOf s.heap) = [] :: nss := by
    refine List.ext_getElem? fun i => ?_
    rw [List.getElem?_map]
    cases hi : (u0 :: ur)[i]? with
    | none =>
      have := List.getElem?_eq_none_iff.mp hi
      rw [List.getElem?_eq_none (by simp only [List.length_cons] at hlen this ⊢; omega)]; rfl
    | some u =>
      obtain ⟨ns, h1, h2, _⟩ := hints i u hi
      rw [h1]
      show some (TS.intsOf s.heap u) = some ns
      rw [h2.ints]
  refine SrtO.sorted_ord (NtL.swo_lexL (TS.intsOf s.heap)) hl.isList (by rw [← rv.length]; exact hz) (fun h2 h₁ b hb kk => ?_) fun out h1 h2 => ?_
  · refine ti_sortable (s := { s with heap := h₁ }) (k := TS.intsOf s.heap) (by show X.A.units + 1 + 1 < cLine; omega) (fun u hm => ?_) k0 fun u hm e => ?_
    · obtain ⟨ns, h3, _⟩ := kint u hm
      have h4 := isTi s u ns h3
      rw [h3.ints]
      exact h4.keeps fun c o _ e => (kk c o e).2
    · obtain ⟨ns, h3, _⟩ := kint u hm
      obtain ⟨t, dd, items, n, sl, e', g, _⟩ := isTi s u ns h3
      rw [e'] at e
      cases e
      exact (kk _ _ g).1 rfl
  · obtain ⟨ep, he'⟩ := PyProof.Rows.sortedAll_at s.heap (u0 :: ur) out.toArray
    have h3 : ∀ u ∈ out, ∃ a, u = Value.ref a := fun u hu => e2 u (h2.perm.mem_iff.mp hu)
    have hp : (out.map bkV).length = vs.length := by rw [e1, List.length_map, List.length_map, h2.perm.length_eq]
    have fr : H (s.heap.objs.size + 1) = none := I.hok.fresh (Nat.le_succ _)
    have ha : ∀ l : List Value, (∀ u ∈ l, u ∈ u0 :: ur) → Ats X.K Z ((l.map (TS.intsOf s.heap)).map tiD) (l.map bkV) := fun l => by
      induction l with
      | nil => intro _; rfl
      | cons u l ih =>
        intro hm
        obtain ⟨ns, h4, h5⟩ := kint u (hm u (by simp))
        refine ⟨_, _, rfl, ?_, ih fun z hz => hm z (by simp [hz])⟩
        rw [h4.ints]; exact h5
    have pk : (out.map (TS.intsOf s.heap)).Perm ([] :: nss) := by
      rw [← kmap]; exact h2.perm.map _
    have sk : (out.map (TS.intsOf s.heap)).Pairwise (fun a b => HT.lexLt b a = false) := List.pairwise_map.mpr h1
    have hq := w _ pk sk
    refine ⟨.ref _, upd H (s.heap.objs.size + 1) (.lst (out.map bkV)), I.laid (t' := s.toks) (fun _ _ => PyProof.Rows.sortedAll_old) (Nat.le_succ _) ⟨by rw [hp]; exact hz, out, ep, bkV_vals h3, he'⟩, rfl, ?_⟩
    exact q _ _ _ _ hq (same_upd fr) fr upd_same (ha out fun u hu => h2.perm.mem_iff.mp hu)
end Pm
set_option Elab.async false
set_option linter.all false
set_option maxRecDepth 100000
set_option maxHeartbeats 1000000
set_option autoImplicit false
namespace Pm
open PySem PySem.Spec
open PyProof.Rows hiding St
open L2
theorem lex_eq : ∀ {a b : List Int}, HT.lexLt a b = false → HT.lexLt b a = false → a = b
  | [], [], _, _ => rfl
  | [], y :: b, h, _ => by simp [HT.lexLt_nil_cons] at h
  | x :: a, [], _, h => by simp [HT.lexLt_nil_cons] at h
  | x :: a, y :: b, h, h' => by
    rw [HT.lexLt_cons] at h h'
    by_cases e : x = y
    · rw [if_pos e] at h
      rw [if_pos e.symm] at h'
      rw [e, lex_eq h h']
    · rw [if_neg e] at h
      rw [if_neg fun z => e z.symm] at h'
      have := of_decide_eq_false h
      have := of_decide_eq_false h'
      omega
theorem sorted_eq {α : Type} {R : α → α → Prop} (anti : ∀ a b, R a b → R b a → a = b) : ∀ {l k : List α}, l.Perm k → l.Pairwise R → k.Pairwise R → l = k
  | [], k, h, _, _ => h.nil_eq
  | a :: l, [], h, _, _ => absurd h.symm.nil_eq (by simp)
  | a :: l, b :: k, h, h1, h2 => by
    have e : a = b := by
      have ha : a ∈ b :: k := h.mem_iff.mp (by simp)
      have hb : b ∈ a :: l := h.mem_iff.mpr (by simp)
      rw [List.pairwise_cons] at h1 h2
      rcases List.mem_cons.mp ha with e | ha
      · exact e
      · rcases List.mem_cons.mp hb with e | hb
        · exact e.symm
        · exact anti a b (h1.1 b hb) (h2.1 a ha)
    subst e
    rw [List.pairwise_cons] at h1 h2
    rw [sorted_eq anti (List.Perm.cons_inv h) h1.2 h2.2]
def natsI (gs : List Nat) : List Int := gs.map fun i : Nat => (i : Int)
theorem grpS_tail_ne : ∀ {l g : List Nat}, g ∈ (grpS l).tail → g ≠ []
  | [], g, h => by simp [grpS] at h
  | i :: l, g, h => by
    simp only [grpS, List.tail_cons, List.mem_append, List.mem_map] at h
    rcases h with ⟨k, _, rfl⟩ | h
    · simp
    · exact grpS_tail_ne h
theorem grpS_sorted : ∀ {l : List Nat}, l.Pairwise (· < ·) → ((grpS l).map natsI).Pairwise (fun a b => HT.lexLt b a = false)
  | [], _ => by simp [grpS]
  | i :: l, h => by
    rw [List.pairwise_cons] at h
    have ih := grpS_sorted h.2
    obtain ⟨r, hr⟩ := grpS_cons_ne l
    rw [hr, List.map_cons, List.pairwise_cons] at ih
    simp only [grpS, List.map_cons, List.map_append, List.map_map, List.pairwise_cons, List.pairwise_append]
    refine ⟨fun b _ => by cases b <;> rfl, ?_, ?_, fun a ha b hb => ?_⟩
    · rw [List.pairwise_map]
      have ih2 : ((grpS l).map natsI).Pairwise (fun a b => HT.lexLt b a = false) := grpS_sorted h.2
      rw [List.pairwise_map] at ih2
      refine ih2.imp fun {a b} hab => ?_
      show HT.lexLt ((i : Int) :: natsI b) ((i : Int) :: natsI a) = false
      rw [HT.lexLt_cons, if_pos rfl]; exact hab
    · rw [hr, List.tail_cons]; exact ih.2
    · obtain ⟨a', _, rfl⟩ := List.mem_map.mp ha
      obtain ⟨b', hb', rfl⟩ := List.mem_map.mp hb
      have hne := grpS_tail_ne hb'
      have hs := grpS_sub (List.mem_of_mem_tail hb')
      cases b' with
      | nil => exact absurd rfl hne
      | cons j b' =>
        have hj := h.1 j (hs.subset (by simp))
        show HT.lexLt ((j : Int) :: natsI b') ((i : Int) :: natsI a') = false
        rw [HT.lexLt_cons, if_neg (by omega)]
        exact decide_eq_false (by omega)
theorem grpS_perm_cons (i : Nat) (l : List Nat) : (grpS (i :: l)).Perm (grpS l ++ (grpS l).map (i :: ·)) := by
  obtain ⟨r, hr⟩ := grpS_cons_ne l
  simp only [grpS, hr, List.tail_cons]
  rw [List.cons_append]
  exact List.Perm.cons _ List.perm_append_comm
theorem grpS_perm_snoc (x : Nat) : ∀ l : List Nat, (grpS (l ++ [x])).Perm (grpS l ++ (grpS l).map (· ++ [x]))
  | [] => by simp [grpS]
  | i :: l => by
    have ih := grpS_perm_snoc x l
    have h1 := grpS_perm_cons i (l ++ [x])
    have h2 := grpS_perm_cons i l
    have e : (List.map (fun g => g ++ [x]) ((grpS l).map (i :: ·))) = ((grpS l).map (· ++ [x])).map (i :: ·) := by rw [List.map_map, List.map_map]; rfl
    refine h1.trans (((ih.append (ih.map _)).trans ?_).trans (h2.append (h2.map _)).symm)
    rw [List.map_append, List.map_append, e]
    generalize grpS l = A
    generalize A.map (· ++ [x]) = B
    generalize A.map (i :: ·) = C
    generalize B.map (i :: ·) = F
    -- A ++ B ++ (C ++ F) ~ A ++ C ++ (B ++ F)
    rw [List.append_assoc, List.append_assoc]
    refine List.Perm.append_left A ?_
    rw [← List.append_assoc, ← List.append_assoc]
    exact List.Perm.append_right F List.perm_append_comm
def isI : D → Bool
  | .int _ => true
  | _ => false
def inI (lo hi : Int) : D → Bool
  | .int i => decide (lo ≤ i) && decide (i ≤ hi)
  | _ => false
def ascI (is : List Int) : Bool := (is.zip (is.drop 1)).all fun p => decide (p.1 < p.2)
def isG (n : Nat) : D → Bool
  | .tup xs => match asInts xs with
    | some is => (is.all fun i => decide (0 ≤ i) && decide (i ≤ (n : Int) - 1)) && ascI is
    | none => false
  | _ => false
theorem ascI_pw : ∀ {is : List Int}, ascI is = true ↔ is.Pairwise (· < ·)
  | [] => by simp [ascI]
  | [i] => by simp [ascI]
  | i :: j :: is => by
    have ih := ascI_pw (is := j :: is)
    have e : ascI (i :: j :: is) = (decide (i < j) && ascI (j :: is)) := by simp [ascI]
    rw [e, Bool.and_eq_true, ih, decide_eq_true_eq, List.pairwise_cons (a := i)]
    constructor
    · rintro ⟨h1, h2⟩
      refine ⟨fun k hk => ?_, h2⟩
      rw [List.pairwise_cons] at h2
      rcases List.mem_cons.mp hk with rfl | hk
      · exact h1
      · have := h2.1 k hk; omega
    · rintro ⟨h1, h2⟩
      exact ⟨h1 j (by simp), h2⟩
def GrOk (n : Nat) (gs : List Nat) : Prop := (∀ i ∈ gs, i < n) ∧ gs.Pairwise (· < ·)
theorem isG_gr {n : Nat} {gs : List Nat} (h : GrOk n gs) : isG n (grD gs) = true := by
  have e : asInts (gs.map natD) = some (natsI gs) := by
    have : gs.map natD = (natsI gs).map D.int := by unfold natsI; rw [List.map_map]; rfl
    rw [this]; exact asInts_map _
  show (match asInts (gs.map natD) with | some is => (is.all fun i => decide (0 ≤ i) && decide (i ≤ (n : Int) - 1)) && ascI is | none => false) = true
  rw [e]
  show ((natsI gs).all fun i => decide (0 ≤ i) && decide (i ≤ (n : Int) - 1)) && ascI (natsI gs)
  rw [Bool.and_eq_true, List.all_eq_true, ascI_pw]
  refine ⟨fun i hi => ?_, ?_⟩
  · obtain ⟨k, hk, rfl⟩ := List.mem_map.mp hi
    have := h.1 k hk
    simp; omega
  · unfold natsI
    rw [List.pairwise_map]
    exact h.2.imp fun {a b} hab => by omega
theorem isG_ex {n : Nat} {d : D} (h : isG n d = true) : ∃ gs, d = grD gs ∧ GrOk n gs := by
  cases d with
  | tup xs =>
    have h : (match asInts xs with | some is => (is.all fun i => decide (0 ≤ i) && decide (i ≤ (n : Int) - 1)) && ascI is | none => false) = true := h
    cases e : asInts xs with
    | none => rw [e] at h; cases h
    | some is =>
      rw [e] at h
      have h : ((is.all fun i => decide (0 ≤ i) && decide (i ≤ (n : Int) - 1)) && ascI is) = true := h
      rw [Bool.and_eq_true, List.all_eq_true, ascI_pw] at h
      have hb : ∀ i ∈ is, 0 ≤ i ∧ i ≤ (n : Int) - 1 := fun i hi => by have := h.1 i hi; simpa using this
      refine ⟨is.map Int.toNat, ?_, ?_, ?_⟩
      · rw [asInts_eq e]
        show D.tup (is.map D.int) = D.tup ((is.map Int.toNat).map natD)
        rw [List.map_map]
        congr 1
        refine List.map_congr_left fun i hi => ?_
        have := hb i hi
        show D.int i = .int ((i.toNat : Nat) : Int)
        congr 1; omega
      · intro i hi
        obtain ⟨k, hk, rfl⟩ := List.mem_map.mp hi
        have := hb k hk
        omega
      · rw [List.pairwise_map]
        refine h.2.imp_of_mem fun {a b} ha hb' hab => ?_
        have := hb a ha
        have := hb b hb'
        omega
  | _ => cases h
theorem GrOk.of_sub {n : Nat} {gs : List Nat} (h : gs.Sublist (List.range n)) : GrOk n gs :=
  ⟨fun i hi => List.mem_range.mp (h.subset hi), List.Pairwise.sublist h (List.pairwise_lt_range)⟩
def upR (gs : List Nat) (q : Int × Int) : Bool := decide (q.2.toNat ∈ gs) || !decide (q.1.toNat ∈ gs)
def upB (p : Pan) (gs : List Nat) : Bool := p.rus.all (upR gs)
def upG (p : Pan) : List (List Nat) := (grpS (List.range p.its.length)).filter (upB p)
def eE (p : Pan) (a b : Nat) : Prop := ((a : Int), (b : Int)) ∈ p.rus
def mR (p : Pan) (i : Nat) : Rat := ((p.its.getD i (0, 1)).1 : Rat)
def wR (p : Pan) (i : Nat) : Rat := ((p.its.getD i (0, 1)).2 : Rat)
theorem upB_iff {m : Nat} {p : Pan} (hp : PanOk m p) {gs : List Nat} : upB p gs = true ↔ UpS (eE p) (fun i => decide (i ∈ gs)) := by
  unfold upB
  rw [List.all_eq_true]
  constructor
  · intro h a b e ha
    have := h _ e
    simp only [upR, Int.toNat_natCast, Bool.or_eq_true, Bool.not_eq_true', decide_eq_true_eq, decide_eq_false_iff_not] at this ha ⊢
    exact this.resolve_right fun z => z ha
  · intro h q hq
    obtain ⟨a1, a2, a3, a4, _⟩ := hp.ru q hq
    have e : eE p q.1.toNat q.2.toNat := by
      unfold eE
      have : (((q.1.toNat : Nat) : Int), ((q.2.toNat : Nat) : Int)) = q := by
        refine Prod.ext ?_ ?_ <;> (simp only; omega)
      rw [this]; exact hq
    have := h _ _ e
    simp only [decide_eq_true_eq] at this
    simp only [upR, Bool.or_eq_true, Bool.not_eq_true', decide_eq_true_eq, decide_eq_false_iff_not]
    by_cases z : q.1.toNat ∈ gs
    · exact .inl (this z)
    · exact .inr z
theorem sM_sm (p : Pan) (gs : List Nat) : ((sM (selI p.its gs) : Int) : Rat) = sm (fun i => wR p i * mR p i) gs := by
  induction gs with
  | nil => rfl
  | cons i gs ih =>
    have e : selI p.its (i :: gs) = p.its.getD i (0, 1) :: selI p.its gs := rfl
    rw [e, sM_cons, Rat.intCast_add, ih, Rat.intCast_mul]
    simp only [sm, wR, mR]; grind
theorem sW_sm (p : Pan) (gs : List Nat) : ((sW (selI p.its gs) : Int) : Rat) = sm (wR p) gs := by
  induction gs with
  | nil => rfl
  | cons i gs ih =>
    have e : selI p.its (i :: gs) = p.its.getD i (0, 1) :: selI p.its gs := rfl
    rw [e, sW_cons, Rat.intCast_add, ih]
    simp only [sm, wR]
theorem avg_avS (p : Pan) (gs : List Nat) : avg (selI p.its gs) = avS (mR p) (wR p) gs := by
  unfold avg avS
  rw [← sM_sm, ← sW_sm, Rat.divInt_eq_div]
theorem wR_pos {m : Nat} {p : Pan} (hp : PanOk m p) {i : Nat} (h : i < p.its.length) : 0 < wR p i := by
  have := (hp.it _ (List.mem_of_getElem? (getD_at h))).2.2.1
  exact Rat.intCast_pos.mpr (by omega)
theorem rule_nats {n : Nat} {q : Int × Int} (h : RuOk n q) : ∃ a b : Nat, q = ((a : Int), (b : Int)) ∧ a < n ∧ b < n ∧ a ≠ b := by
  obtain ⟨h1, h2, h3, h4, h5⟩ := h
  refine ⟨q.1.toNat, q.2.toNat, Prod.ext (by simp only; omega) (by simp only; omega), by omega, by omega, by omega⟩
end Pm
set_option Elab.async false
set_option linter.all false
set_option maxRecDepth 100000
set_option maxHeartbeats 1000000
set_option autoImplicit false
namespace Pm
open PySem PySem.Spec
open PyProof.Rows hiding St
open L2
def BestP (p : Pan) (r : Nat → Rat) : Prop := Best (List.range p.its.length) (eE p) (mR p) (wR p) r
def inB (gs : List Nat) (i : Nat) : Bool := decide (i ∈ gs)
theorem range_filter {n : Nat} {gs : List Nat} (h : gs.Sublist (List.range n)) : (List.range n).filter (inB gs) = gs := sub_filter h List.nodup_range
theorem sub_ext {n : Nat} {a b : List Nat} (ha : a.Sublist (List.range n)) (hb : b.Sublist (List.range n)) (h : ∀ i, i ∈ a ↔ i ∈ b) : a = b := by
  rw [← range_filter ha, ← range_filter hb]
  exact List.filter_congr fun i _ => by unfold inB; rw [decide_eq_decide]; exact h i
def excI (its : List (Int × Int)) (part U : List Nat) : Int := sM (selI its U) * sW (selI its part) - sM (selI its part) * sW (selI its U)
def UPart (its : List (Int × Int)) (cl : List (List Nat)) (part U : List Nat) : Prop := (U = [] ∧ ∀ g ∈ cl, excI its part (g.filter (inB part)) ≤ 0) ∨
  (∃ g ∈ cl, U = g.filter (inB part) ∧ 0 < excI its part U ∧ ∀ g' ∈ cl, excI its part (g'.filter (inB part)) ≤ excI its part U)
section
variable {p : Pan} {m : Nat}
theorem exc_ex (hp : PanOk m p) {part : List Nat} (hn : part ≠ []) (hi : ∀ i ∈ part, i < p.its.length) (U : List Nat) : ((excI p.its part U : Int) : Rat) = ex (mR p) (wR p) (avS (mR p) (wR p) part) U * sm (wR p) part := by
  have hw : 0 < sm (wR p) part := sm_pos (fun i h => wR_pos hp (hi i h)) hn
  unfold excI
  rw [Rat.intCast_sub, Rat.intCast_mul, Rat.intCast_mul, sM_sm, sM_sm, sW_sm, sW_sm, ex_eq]
  unfold avS
  have e : sm (fun i => wR p i * mR p i) part / sm (wR p) part * sm (wR p) part = sm (fun i => wR p i * mR p i) part := Rat.div_mul_cancel (by grind)
  generalize sm (fun i => wR p i * mR p i) part / sm (wR p) part = A at *
  generalize sm (wR p) part = W at *
  generalize sm (fun i => wR p i * mR p i) part = T at *
  generalize sm (wR p) U = V at *
  generalize sm (fun i => wR p i * mR p i) U = M at *
  subst e
  grind
theorem exc_le (hp : PanOk m p) {part : List Nat} (hn : part ≠ []) (hi : ∀ i ∈ part, i < p.its.length) {U V : List Nat} : excI p.its part U ≤ excI p.its part V ↔ ex (mR p) (wR p) (avS (mR p) (wR p) part) U ≤ ex (mR p) (wR p) (avS (mR p) (wR p) part) V := by
  have hw : 0 < sm (wR p) part := sm_pos (fun i h => wR_pos hp (hi i h)) hn
  rw [← Rat.intCast_le_intCast, exc_ex hp hn hi, exc_ex hp hn hi]
  constructor
  · intro h
    rcases (show ex (mR p) (wR p) (avS (mR p) (wR p) part) U ≤ ex (mR p) (wR p) (avS (mR p) (wR p) part) V ∨ ex (mR p) (wR p) (avS (mR p) (wR p) part) V < ex (mR p) (wR p) (avS (mR p) (wR p) part) U by grind) with z | z
    · exact z
    · have := Rat.mul_lt_mul_of_pos_right z hw; grind
  · intro h
    exact Rat.mul_le_mul_of_nonneg_right h (Rat.le_of_lt hw)
theorem exc_nonpos (hp : PanOk m p) {part : List Nat} (hn : part ≠ []) (hi : ∀ i ∈ part, i < p.its.length) {U : List Nat} : excI p.its part U ≤ 0 ↔ ex (mR p) (wR p) (avS (mR p) (wR p) part) U ≤ 0 := by
  have h0 : excI p.its part [] = 0 := by simp [excI, selI, sM, sW]
  have := exc_le hp hn hi (U := U) (V := [])
  rw [h0] at this
  exact this
structure Parts (p : Pan) (ps : List (List Nat)) : Prop where
  ch : Chain (eE p) (mR p) (wR p) ps
  fl : ps.flatten.Perm (List.range p.its.length)
  sb : ∀ q ∈ ps, q.Sublist (List.range p.its.length)
  ne : ∀ q ∈ ps, q ≠ []
theorem Parts.lt {ps : List (List Nat)} (h : Parts p ps) {q : List Nat} (hq : q ∈ ps) : ∀ i ∈ q, i < p.its.length := fun i hi => List.mem_range.mp ((h.sb q hq).subset hi)
theorem eE_lt (hp : PanOk m p) {a b : Nat} (e : eE p a b) : a < p.its.length ∧ b < p.its.length := by
  obtain ⟨h1, h2, h3, h4, _⟩ := hp.ru _ e
  simp only at h2 h4
  omega
theorem Parts.nd {a b : List (List Nat)} {q : List Nat} (h : Parts p (a ++ q :: b)) : ∀ i ∈ q, i ∉ b.flatten ∧ i ∉ a.flatten := by
  have nd : (a ++ q :: b).flatten.Nodup := h.fl.nodup_iff.mpr List.nodup_range
  rw [List.flatten_append, List.flatten_cons, List.nodup_append, List.nodup_append] at nd
  intro i hi
  refine ⟨fun z => ?_, fun z => ?_⟩
  · exact nd.2.1.2.2 i hi i z rfl
  · exact nd.2.2 i z i (List.mem_append_left _ hi) rfl
theorem Parts.cut (hp : PanOk m p) {a b : List (List Nat)} {q : List Nat} (h : Parts p (a ++ q :: b)) {V : Nat → Bool} (hV : PUp (eE p) q V) : ∃ g ∈ upG p, g.filter (inB q) = q.filter V := by
  have ch := h.ch
  unfold Chain at ch
  rw [List.pairwise_append, List.pairwise_cons] at ch
  obtain ⟨c1, ⟨c2, c3⟩, c4⟩ := ch
  have gs : ((List.range p.its.length).filter fun i => (V i && inB q i) || inB b.flatten i).Sublist (List.range p.its.length) := List.filter_sublist
  have mem : ∀ i, i ∈ ((List.range p.its.length).filter fun i => (V i && inB q i) || inB b.flatten i) ↔ i < p.its.length ∧ ((V i = true ∧ i ∈ q) ∨ i ∈ b.flatten) := fun i => by
    simp [List.mem_filter, inB]
  refine ⟨_, List.mem_filter.mpr ⟨sub_grpS gs, (upB_iff hp).mpr fun x y e hx => ?_⟩, ?_⟩
  · obtain ⟨_, hy⟩ := eE_lt hp e
    simp only [decide_eq_true_eq] at hx ⊢
    rw [mem] at hx ⊢
    refine ⟨hy, ?_⟩
    have my : y ∈ (a ++ q :: b).flatten := h.fl.mem_iff.mpr (List.mem_range.mpr hy)
    rw [List.flatten_append, List.flatten_cons, List.mem_append, List.mem_append] at my
    rcases hx.2 with ⟨v, hq⟩ | hb
    · rcases my with my | my | my
      · obtain ⟨r, hr, yr⟩ := List.mem_flatten.mp my
        exact absurd e ((c4 r hr q (by simp)).2 y yr x hq)
      · exact .inl ⟨hV x hq y my e v, my⟩
      · exact .inr my
    · obtain ⟨r, hr, xr⟩ := List.mem_flatten.mp hb
      rcases my with my | my | my
      · obtain ⟨r2, hr2, yr⟩ := List.mem_flatten.mp my
        exact absurd e ((c4 r2 hr2 r (by simp [hr])).2 y yr x xr)
      · exact absurd e ((c2 r hr).2 y my x xr)
      · exact .inr my
  · refine sub_ext (List.filter_sublist.trans gs) (List.filter_sublist.trans (h.sb q (by simp))) fun i => ?_
    rw [List.mem_filter, mem, List.mem_filter]
    simp only [inB, decide_eq_true_eq]
    constructor
    · rintro ⟨⟨_, ⟨v, _⟩ | hb⟩, hq⟩
      · exact ⟨hq, v⟩
      · exact absurd hb (h.nd i hq).1
    · rintro ⟨hq, v⟩
      exact ⟨⟨h.lt (by simp) i hq, .inl ⟨v, hq⟩⟩, hq⟩
theorem Parts.whole (hp : PanOk m p) {a b : List (List Nat)} {q : List Nat} (h : Parts p (a ++ q :: b)) (hU : ∀ g ∈ upG p, excI p.its q (g.filter (inB q)) ≤ 0) : Whole (eE p) (mR p) (wR p) q := fun V hV => by
  obtain ⟨g, hg, e⟩ := h.cut hp hV
  rw [← e]
  exact (exc_nonpos hp (h.ne q (by simp)) (h.lt (by simp))).mp (hU g hg)
theorem Parts.split (hp : PanOk m p) {a b : List (List Nat)} {q U : List Nat} (h : Parts p (a ++ q :: b)) {g : List Nat} (hg : g ∈ upG p) (eU : U = g.filter (inB q)) (h0 : 0 < excI p.its q U) (hm : ∀ g' ∈ upG p, excI p.its q (g'.filter (inB q)) ≤ excI p.its q U) :
    q.filter (inB U) = U ∧ Parts p (a ++ q.filter (fun i => !inB U i) :: U :: b) ∧ U ≠ [] ∧ q.filter (fun i => !inB U i) ≠ [] := by
  have gq := List.mem_filter.mp hg
  have gsub := grpS_sub gq.1
  have qs := h.sb q (by simp)
  have qn := h.ne q (by simp)
  have ql := h.lt (q := q) (by simp)
  have us : U.Sublist (List.range p.its.length) := by rw [eU]; exact List.filter_sublist.trans gsub
  have mU : ∀ i, i ∈ U ↔ i ∈ g ∧ i ∈ q := fun i => by rw [eU, List.mem_filter]; simp [inB]
  have e1 : q.filter (inB U) = U := sub_ext (List.filter_sublist.trans qs) us fun i => by
    rw [List.mem_filter]
    simp only [inB, decide_eq_true_eq, mU]
    exact ⟨fun z => z.2, fun z => ⟨z.2, z⟩⟩
  have gu := (upB_iff hp).mp gq.2
  have sp : Split (eE p) (mR p) (wR p) q (inB U) := by
    refine ⟨fun x hx y hy e k => ?_, fun V hV => ?_⟩
    · simp only [inB, decide_eq_true_eq, mU] at k ⊢
      have := gu x y e (by simpa using k.1)
      exact ⟨by simpa using this, hy⟩
    · obtain ⟨g', hg', e'⟩ := h.cut hp hV
      rw [← e', e1]
      exact (exc_le hp qn ql).mp (hm g' hg')
  have wp : ∀ i ∈ q, 0 < wR p i := fun i hi => wR_pos hp (ql i hi)
  have un : U ≠ [] := fun z => by rw [z] at h0; simp [excI, selI, sM, sW] at h0
  have rn : q.filter (fun i => !inB U i) ≠ [] := fun z => by
    have : q.filter (inB U) = q := by
      refine List.filter_eq_self.mpr fun i hi => ?_
      cases k : inB U i with
      | true => rfl
      | false =>
        have : i ∈ q.filter (fun i => !inB U i) := List.mem_filter.mpr ⟨hi, by simp [k]⟩
        rw [z] at this; cases this
    rw [e1] at this
    rw [this] at h0
    simp [excI] at h0
  have ch := h.ch.split sp (fun i hi => Rat.le_of_lt (wp i hi)) (sm_pos wp qn)
  rw [e1] at ch
  refine ⟨e1, ⟨ch, ?_, ?_, ?_⟩, un, rn⟩
  · refine List.Perm.trans ?_ h.fl
    rw [List.flatten_append, List.flatten_append, List.flatten_cons, List.flatten_cons, List.flatten_cons]
    refine List.Perm.append_left _ ?_
    rw [← List.append_assoc]
    refine List.Perm.append_right _ ?_
    have := List.filter_append_perm (inB U) q
    rw [e1] at this
    exact List.perm_append_comm.trans this
  · intro r hr
    rcases List.mem_append.mp hr with hr | hr
    · exact h.sb r (by simp [hr])
    · rcases List.mem_cons.mp hr with rfl | hr
      · exact List.filter_sublist.trans qs
      · rcases List.mem_cons.mp hr with rfl | hr
        · exact us
        · exact h.sb r (by simp [hr])
  · intro r hr
    rcases List.mem_append.mp hr with hr | hr
    · exact h.ne r (by simp [hr])
    · rcases List.mem_cons.mp hr with rfl | hr
      · exact rn
      · rcases List.mem_cons.mp hr with rfl | hr
        · exact un
        · exact h.ne r (by simp [hr])
theorem Parts.start (hp : PanOk m p) : Parts p [List.range p.its.length] := by
  have h1 := hp.one
  refine ⟨List.pairwise_singleton _ _, by simp, fun q hq => ?_, fun q hq => ?_⟩
  · have : q = List.range p.its.length := by simpa using hq
    rw [this]; exact List.Sublist.refl _
  · have : q = List.range p.its.length := by simpa using hq
    rw [this]
    intro e
    have := congrArg List.length e
    rw [List.length_range] at this
    have : p.its.length = 0 := this
    omega
theorem Parts.best (hp : PanOk m p) {ps : List (List Nat)} (h : Parts p ps) (hf : ∀ q ∈ ps, Whole (eE p) (mR p) (wR p) q) {r : Nat → Rat} (hr : ∀ q ∈ ps, ∀ i ∈ q, r i = avg (selI p.its q)) : BestP p r :=
  h.ch.best (fun a b e => by obtain ⟨h1, h2⟩ := eE_lt hp e; exact ⟨List.mem_range.mpr h1, List.mem_range.mpr h2⟩) h.fl List.nodup_range (fun i hi => wR_pos hp (List.mem_range.mp hi)) h.ne hf fun q hq i hi => by rw [hr q hq i hi, avg_avS]
def meas (st : List (List Nat)) : Nat := (st.map fun q => 2 * q.length - 1).sum
theorem meas_append (a b : List (List Nat)) : meas (a ++ b) = meas a + meas b := by simp [meas]
end
end Pm
namespace Pm
open PySem PySem.Spec
open PyProof.Rows hiding St
open L2
section
variable {p : Pan} {m : Nat}
theorem BestP.eq (hp : PanOk m p) {r s : Nat → Rat} (hr : BestP p r) (hs : BestP p s) {i : Nat} (hi : i < p.its.length) : r i = s i :=
  Best.unique hr hs (fun j hj => wR_pos hp (List.mem_range.mp hj)) i (List.mem_range.mpr hi)
def rtD (n : Nat) (r : Nat → Rat) : D := .tup ((List.range n).map fun i => frD (r i))
theorem rt_eq {n : Nat} {r s : Nat → Rat} (h : ∀ i, i < n → r i = s i) : rtD n r = rtD n s := by
  unfold rtD
  congr 1
  exact List.map_congr_left fun i hi => by rw [h i (List.mem_range.mp hi)]
end
end Pm
namespace Pm
open PySem PySem.Spec
open PyProof.Rows hiding St
open L2
theorem gr_wid (g : List Nat) : (grD g).wid = 2008 * g.length + 8 := by
  have : D.wids (g.map natD) = 2008 * g.length := by
    induction g with
    | nil => rfl
    | cons a g ih =>
      simp only [List.map_cons, D.wids, ih, List.length_cons]
      have : (natD a).wid = 2000 := rfl
      omega
  simp only [grD, D.wid, this]
theorem gr_dep1 (g : List Nat) : (grD g).dep = 1 := by
  have : D.deps (g.map natD) = 0 := by
    induction g with
    | nil => rfl
    | cons a g ih => simp only [List.map_cons, D.deps, ih]; rfl
  simp only [grD, D.dep, this]
end Pm
set_option Elab.async false
set_option linter.all false
set_option maxRecDepth 100000
set_option maxHeartbeats 1000000
set_option autoImplicit false
namespace Pm
open PySem PySem.Spec
open PyProof.Rows hiding St
open L2
theorem enum_rng' (f : Nat → D) : ∀ (m k : Nat), enumGo k ((List.range' k m).map f) = (List.range' k m).map fun j => .tup [natD j, f j]
  | 0, _ => rfl
  | m + 1, k => by rw [List.range'_succ, List.map_cons, enumGo, enum_rng' f m (k + 1)]; rfl
theorem enum_rng (f : Nat → D) (n : Nat) : enumD ((List.range n).map f) = (List.range n).map fun j => .tup [natD j, f j] := by
  unfold enumD
  rw [List.range_eq_range']; exact enum_rng' f n 0
end Pm
set_option Elab.async false
set_option linter.all false
set_option maxRecDepth 100000
set_option maxHeartbeats 1000000
set_option autoImplicit false
namespace Pm
open PySem PySem.Spec PySem.W
open PyProof.Rows hiding St
open L2
section
variable {prog : Program} {w : World} {A : Around} {E : Value → Shared → Prop} {s : Shared}
theorem sorted_tupP {t : Addr} {u : Obj} {xs : Array Value} {n : Nat} {k : Value → Int × Int} {Q : Value → Shared → Prop} (hu : s.heap.get? t = some u) (hc : u.cls = .type "tuple") (hd : u.data = .seq xs n) (hI : ∀ v ∈ xs.toList, Srt.IsPair s.heap v (k v).1 (k v).2) (hz : xs.size ≤ sizeLine)
    (fin : ∀ (h' : Heap) (p : Addr) (out : List Value) (e : Nat), SrtO.Srtd (fun v u => SrtO.lexB (k v) (k u)) out → out.Perm xs.toList → (∀ b o, s.heap.get? b = some o → h'.get? b = some o) → s.heap.objs.size ≤ p → h'.get? p = some (seqObj "list" out.toArray e) → Q (.ref p) { s with heap := h' }) :
    wpAny (model prog w) A (call (.builtin "sorted") [.ref t]) Q E s := by
  have hz2 : xs.toList.length ≤ sizeLine := by rw [Array.length_toList]; exact hz
  refine Calls.call_function_entry (Q := Q) kind_sorted plain_sorted entry_sorted (args_sorted1 _) ?_
  unfold Builtin.«sorted»
  refine wpAny_bind (m := checkCount "sorted" 1 1 _) (wpAny_pure (wpAny_bind (gather_tup hu hc hd hz (wpAny_bind (wpAny_newList ?_ hz2)))))
  generalize hh1 : (s.heap.push (seqObj "list" #[] 0)).update s.heap.objs.size (Obj.mapSeq (· ++ xs)) = h1
  have sz : h1.objs.size = s.heap.objs.size + 1 := by rw [← hh1, Heap.size_update, size_push']
  have grow : s.heap.objs.size ≤ h1.objs.size := by omega
  have k1 : ∀ b o, s.heap.get? b = some o → h1.get? b = some o := fun b o hb => by
    rw [← hh1, Heap.get?_update_ne _ _ _ _ (Nat.ne_of_lt (Heap.lt_size hb))]
    exact Heap.get?_push_of_some _ hb
  have at1 : (h1.push (seqObj "list" xs.toList.toArray 0)).get? h1.objs.size = some (seqObj "list" xs.toList.toArray 0) := Heap.get?_push_size _ rfl
  refine wpAny_bind (wpAny_holding (wpAny_call_entry (s := { s with heap := h1.push (seqObj "list" xs.toList.toArray 0) }) slot_list_sort ⟨_, at1, rfl⟩ entry_list_sort (SrtO.list_sort_ord (SrtO.swo_lex k) at1 hz2 (fun h2 => SrtO.pairs_sortableO (by omega) (fun v hm => (hI v hm).keeps fun b o e _ => Heap.get?_push_of_some _ (k1 b o e)) fun o e => ?_) fun out g1 g2 => ⟨_, rfl, ?_⟩) (args_list_sort _)))
  · rw [at1] at e
    cases e
    show Value.type "list" ≠ Value.type "tuple"
    decide
  obtain ⟨e, at2⟩ := sortedHeap_at (out := out.toArray) at1
  refine wpAny_pure ⟨_, rfl, fin _ _ out e g1 g2.perm (fun b o hb => ?_) grow at2⟩
  have lt1 := Heap.lt_size (k1 b o hb)
  rw [sortedHeap_old (h := h1.push (seqObj "list" xs.toList.toArray 0)) (Nat.ne_of_lt lt1) (by rw [size_push']; exact Nat.lt_succ_of_lt lt1), Heap.get?_push_ne _ _ _ (Nat.ne_of_lt lt1)]
  exact k1 b o hb
end
def sortedFP : List D → (List D → Prop) → Prop := fun ds R => ∃ qs : List (Int × Int), ds = [.tup (qs.map itD)] ∧ ∀ out : List (Int × Int), out.Perm qs → out.Pairwise (fun a b => SrtO.lexB b a = false) → R (out.map itD)
theorem ats_eachP {K : PySem.W.Frag} {Z : Hp} : ∀ {qs : List (Int × Int)} {vs : List V}, Ats K Z (qs.map itD) vs → ∀ (i : Nat) v, vs[i]? = some v → ∃ q, qs[i]? = some q ∧ ∃ a, v = .ref a ∧ SqT K Z a ([q.1, q.2].map V.int)
  | [], vs, h, i, v, e => by simp only [List.map_nil, Ats] at h; subst h; simp at e
  | q :: qs, vs, ⟨w, ws, e1, h1, h2⟩, i, v, e => by
    subst e1
    cases i with
    | zero =>
      simp only [List.getElem?_cons_zero, Option.some.injEq] at e
      subst e
      obtain ⟨a, us, rfl, g1, g2⟩ := h1
      have g3 := Ats.ints (ns := [q.1, q.2]) g2
      rw [g3] at g1
      exact ⟨q, rfl, a, rfl, g1⟩
    | succ i =>
      obtain ⟨ms, e2, r⟩ := ats_eachP h2 i v (by simpa using e)
      exact ⟨ms, by simpa using e2, r⟩
def pairOf (h : Heap) (v : Value) : Int × Int := match TS.intsOf h v with
  | [a, b] => (a, b)
  | _ => (0, 0)
theorem two_ints {l : List Value} {a b : Int} (i : IntsAre l [a, b]) : ∃ t u, l = [.int a t, .int b u] := by
  match l, i with
  | _, .cons _ t1 (.cons _ t2 .nil) => exact ⟨t1, t2, rfl⟩
theorem isPair_of {h : Heap} {v : Value} {a b : Int} (x : TS.TupInts h v [a, b]) : Srt.IsPair h v a b := by
  obtain ⟨t, items, e, ⟨o, ho, hc, n, hd⟩, i⟩ := x
  obtain ⟨l⟩ := items
  obtain ⟨t1, t2, rfl⟩ := two_ints i
  exact ⟨t, o, t1, t2, n, e, ho, hc, hd⟩
theorem c_sortedP {X : Cx} : CallR X (.builtin "sorted") (dCallF X.K sortedFP) := by
  intro pins s σ H xs us Q I r h
  obtain ⟨Z, ds, R, kz, a, ⟨qs, rfl, w⟩, q⟩ := h
  obtain ⟨v, rfl, a1⟩ := Ats.one a
  obtain ⟨p, vs, rfl, a2, a3⟩ := a1
  have each := ats_eachP a3
  obtain ⟨its, rv, ⟨o, ho, hc, n, hd⟩, hz⟩ := I.tuple (seqT kz a2)
  rw [Vals.ref1 r]
  obtain ⟨e1, e2⟩ := bkV_refs rv fun x m => by
    obtain ⟨i, hi⟩ := List.mem_iff_getElem?.mp m
    obtain ⟨_, _, t, e, _⟩ := each i x hi
    exact ⟨t, e⟩
  have hints : ∀ (i : Nat) u, its[i]? = some u → ∃ q, qs[i]? = some q ∧ TS.TupInts s.heap u [q.1, q.2] ∧ At X.K Z (itD q) (bkV u) := fun i u hi => by
    have hvi : vs[i]? = some (bkV u) := by rw [e1, List.getElem?_map, hi]; rfl
    obtain ⟨q, h1, t, h2, h3⟩ := each i _ hvi
    have eu := bkV_ref h2
    refine ⟨q, h1, ?_, ?_⟩
    · rw [eu]; exact tupI_raw I (seqT kz h3)
    · rw [h2]; exact ⟨t, _, rfl, h3, Ats.of_ints [q.1, q.2]⟩
  have kint : ∀ u ∈ its, ∃ q : Int × Int, TS.TupInts s.heap u [q.1, q.2] ∧ At X.K Z (itD q) (bkV u) := fun u hm => by
    obtain ⟨i, hi⟩ := List.mem_iff_getElem?.mp hm
    obtain ⟨q, _, h2, h3⟩ := hints i u hi
    exact ⟨q, h2, h3⟩
  have kp : ∀ {u : Value} {q : Int × Int}, TS.TupInts s.heap u [q.1, q.2] → pairOf s.heap u = q := fun {u q} h => by
    unfold pairOf
    rw [h.ints]
  have hlen : its.length = qs.length := by
    have h1 := a3.len
    rw [e1, List.length_map, List.length_map] at h1
    exact h1
  have kmap : its.map (pairOf s.heap) = qs := by
    refine List.ext_getElem? fun i => ?_
    rw [List.getElem?_map]
    cases hi : its[i]? with
    | none =>
      have := List.getElem?_eq_none_iff.mp hi
      rw [List.getElem?_eq_none (by omega)]; rfl
    | some u =>
      obtain ⟨q, h1, h2, _⟩ := hints i u hi
      rw [h1]
      show some (pairOf s.heap u) = some q
      rw [kp h2]
  refine sorted_tupP (k := pairOf s.heap) ho hc hd (fun u hm => ?_) (by simpa [← rv.length] using hz) fun h' p' out e3 h1 h2 kp' gr at1 => ?_
  · obtain ⟨q, h3, _⟩ := kint u (by simpa using hm)
    rw [kp h3]; exact isPair_of h3
  · have h2 : out.Perm its := by simpa using h2
    have h3 : ∀ u ∈ out, ∃ a, u = Value.ref a := fun u hu => e2 u (h2.mem_iff.mp hu)
    have hp : (out.map bkV).length = vs.length := by rw [e1, List.length_map, List.length_map, h2.length_eq]
    have fr : H p' = none := I.hok.fresh gr
    have ha : ∀ l : List Value, (∀ u ∈ l, u ∈ its) → Ats X.K Z ((l.map (pairOf s.heap)).map itD) (l.map bkV) := fun l => by
      induction l with
      | nil => intro _; rfl
      | cons u l ih =>
        intro hm
        obtain ⟨q, h4, h5⟩ := kint u (hm u (by simp))
        refine ⟨_, _, rfl, ?_, ih fun z hz => hm z (by simp [hz])⟩
        rw [kp h4]; exact h5
    have pk : (out.map (pairOf s.heap)).Perm qs := by
      rw [← kmap]; exact h2.map _
    have sk : (out.map (pairOf s.heap)).Pairwise (fun a b => SrtO.lexB b a = false) := List.pairwise_map.mpr h1
    have hq := w _ pk sk
    refine ⟨.ref p', upd H p' (.lst (out.map bkV)), I.laid (t' := s.toks) kp' gr ⟨by rw [hp]; simpa using hz, out, e3, bkV_vals h3, at1⟩, rfl, ?_⟩
    exact q _ _ _ _ hq (same_upd fr) fr upd_same (ha out fun u hu => h2.mem_iff.mp hu)
end Pm
set_option Elab.async false
set_option linter.all false
set_option maxRecDepth 100000
set_option maxHeartbeats 1000000
set_option autoImplicit false
namespace Pm
open PySem PySem.Spec PySem.W
open PyProof.Rows hiding St
open L2
abbrev Bk := Int × Int × Int
def bkD (b : Bk) : D := .tup [.int b.1, .int b.2.1, .int b.2.2]
def BkOk (b : Bk) : Prop := Sz 110 b.1 ∧ Sz 110 b.2.1 ∧ Sz 110 b.2.2
def stB (l : List (Int × Int)) : List Bk := l.map fun q => (1, q.1 * q.2, q.2)
theorem bkl_eq (l : List Bk) : EqOk (.lst (l.map bkD)) (.lst []) ∧ D.eqv (.lst (l.map bkD)) (.lst []) = decide (l = []) := by
  have h : D.plns (l.map bkD) = true ∧ D.deps (l.map bkD) ≤ 1 := by
    induction l with
    | nil => exact ⟨rfl, Nat.zero_le _⟩
    | cons a l ih =>
      refine ⟨?_, ?_⟩
      · simp only [List.map_cons, D.plns, ih.1, Bool.and_true]; rfl
      · simp only [List.map_cons, D.deps]; have := ih.2; have : (bkD a).dep = 1 := by simp [bkD, D.dep, D.deps]
        omega
  obtain ⟨h1, h2⟩ := h
  exact ⟨⟨by simp only [D.pln, h1], rfl, by simp only [D.dep]; omega, by simp [D.dep, D.deps]⟩, by cases l <;> rfl⟩
theorem idx_bkl {l : List Bk} {z : Bk} : idx ((l ++ [z]).map bkD) (-1) = some (bkD z) := by
  unfold idx
  rw [if_pos (by decide), if_pos (by simp; omega)]
  have e : ((-1 : Int) + ((l ++ [z]).map bkD).length).toNat = l.length := by simp; omega
  rw [e, List.map_append]
  simp
end Pm
set_option Elab.async false
set_option linter.all false
set_option maxRecDepth 100000
set_option maxHeartbeats 1000000
set_option autoImplicit false
namespace Pm
open PySem PySem.Spec PySem.W
open PyProof.Rows hiding St
open L2
def pre (l : List (Int × Int)) (k : Nat) : Int × Int := (((l.take k).map fun q => q.1 * q.2).sum, ((l.take k).map fun q => q.2).sum)
theorem pre_succ {l : List (Int × Int)} {k : Nat} {q : Int × Int} (h : l[k]? = some q) : pre l (k + 1) = ((pre l k).1 + q.1 * q.2, (pre l k).2 + q.2) := by
  unfold pre
  rw [List.take_add_one, h]
  simp
def sub2 (f : Nat → Int × Int) (b e : Nat) : Int × Int := ((f e).1 - (f b).1, (f e).2 - (f b).2)
def falls2 (x y : Int × Int) : Bool := decide (x.1 * y.2 > y.1 * x.2)
def stayB (l : List (Int × Int)) (p : Nat) : Bool := (List.range p).all fun b => (List.range (l.length - p)).all fun k => !falls2 (sub2 (pre l) b p) (sub2 (pre l) p (p + 1 + k))
theorem avg_split {p q t u1 u2 u3 : Int} (h1 : 0 < u1) (h2 : 0 < u2) (h3 : 0 < u3) (a : q * u1 ≤ p * u2) (b : t * (u1 + u2) < (p + q) * u3) : t * u1 < p * u3 := by
  have c : (p + q) * u1 ≤ p * (u1 + u2) := by grind
  have d : (p + q) * u1 * u3 ≤ p * (u1 + u2) * u3 := Int.mul_le_mul_of_nonneg_right c (by omega)
  have e : t * (u1 + u2) * u1 < (p + q) * u3 * u1 := Int.mul_lt_mul_of_pos_right b h1
  have f : (u1 + u2) * (t * u1) < (u1 + u2) * (p * u3) := by grind
  exact Int.lt_of_mul_lt_mul_left f (by omega)
theorem mrg_left {p q t u1 u2 u3 : Int} (h1 : 0 < u1) (h2 : 0 < u2) (h3 : 0 < u3) (a : q * u1 < p * u2) (b : t * (u1 + u2) < (p + q) * u3) : (q + t) * u1 < p * (u2 + u3) := by
  have := avg_split h1 h2 h3 (Int.le_of_lt a) b
  grind
theorem mrg_right {p q t u1 u2 u3 : Int} (h1 : 0 < u1) (h2 : 0 < u2) (h3 : 0 < u3) (a : t * u2 < q * u3) (b : (q + t) * u1 < p * (u2 + u3)) : t * (u1 + u2) < (p + q) * u3 := by
  have c : t * (u2 + u3) ≤ (q + t) * u3 := by grind
  have d : t * (u2 + u3) * u1 ≤ (q + t) * u3 * u1 := Int.mul_le_mul_of_nonneg_right c (by omega)
  have e : (q + t) * u1 * u3 < p * (u2 + u3) * u3 := Int.mul_lt_mul_of_pos_right b h3
  have f : (u2 + u3) * (t * u1) < (u2 + u3) * (p * u3) := by grind
  have g := Int.lt_of_mul_lt_mul_left f (by omega)
  grind

def Gd (l : List (Int × Int)) (a c : Nat) : Prop := a < c ∧ c ≤ l.length ∧ ∀ m, a < m → m < c → (sub2 (pre l) m c).1 * (sub2 (pre l) a m).2 < (sub2 (pre l) a m).1 * (sub2 (pre l) m c).2
theorem sub2_1 (f : Nat → Int × Int) (a b c : Nat) : (sub2 f a c).1 = (sub2 f a b).1 + (sub2 f b c).1 := by
  unfold sub2; simp only; omega
theorem sub2_2 (f : Nat → Int × Int) (a b c : Nat) : (sub2 f a c).2 = (sub2 f a b).2 + (sub2 f b c).2 := by
  unfold sub2; simp only; omega
theorem sub2_pos {l : List (Int × Int)} (h : ∀ q ∈ l, ItOk q) {a : Nat} : ∀ {b : Nat}, a < b → b ≤ l.length → 0 < (sub2 (pre l) a b).2
  | 0, h1, _ => by omega
  | b + 1, h1, h2 => by
    have hb : l[b]? = some l[b] := List.getElem?_eq_getElem (by omega)
    have hw := (h l[b] (List.getElem_mem _)).2.2.1
    have e : (sub2 (pre l) a (b + 1)).2 = (sub2 (pre l) a b).2 + l[b].2 := by
      unfold sub2
      rw [pre_succ hb]
      simp only; omega
    rw [e]
    by_cases z : a = b
    · subst z
      have : (sub2 (pre l) a a).2 = 0 := by unfold sub2; simp only; omega
      omega
    · have := sub2_pos h (a := a) (b := b) (by omega) (by omega)
      omega
theorem Gd.mrg {l : List (Int × Int)} (h : ∀ q ∈ l, ItOk q) {a b c : Nat} (g1 : Gd l a b) (g2 : Gd l b c) (f : falls2 (sub2 (pre l) a b) (sub2 (pre l) b c) = true) : Gd l a c := by
  obtain ⟨a1, a2, a3⟩ := g1
  obtain ⟨b1, b2, b3⟩ := g2
  have f : (sub2 (pre l) b c).1 * (sub2 (pre l) a b).2 < (sub2 (pre l) a b).1 * (sub2 (pre l) b c).2 := of_decide_eq_true f
  refine ⟨by omega, b2, fun m m1 m2 => ?_⟩
  rcases Nat.lt_trichotomy m b with z | z | z
  · rw [sub2_1 _ m b c, sub2_2 _ m b c]
    have f' := f
    rw [sub2_1 _ a m b, sub2_2 _ a m b] at f'
    exact mrg_left (sub2_pos h m1 (by omega)) (sub2_pos h z (by omega)) (sub2_pos h b1 b2) (a3 m m1 z) f'
  · subst z
    exact f
  · rw [sub2_1 _ a b m, sub2_2 _ a b m]
    have f' := f
    rw [sub2_1 _ b m c, sub2_2 _ b m c] at f'
    exact mrg_right (sub2_pos h a1 (by omega)) (sub2_pos h z (by omega)) (sub2_pos h m2 b2) (b3 m z m2) f'
theorem sum_le {B : Nat} : ∀ {l : List Int}, (∀ x ∈ l, x.natAbs ≤ B) → l.sum.natAbs ≤ l.length * B
  | [], _ => by simp
  | x :: l, h => by
    have h1 := h x (by simp)
    have h2 := sum_le (l := l) fun y hy => h y (by simp [hy])
    rw [List.sum_cons, List.length_cons, Nat.succ_mul]
    omega
theorem pre_sz {l : List (Int × Int)} (h : ∀ q ∈ l, ItOk q) (hn : l.length ≤ 1000) (k : Nat) : Sz 70 (pre l k).1 ∧ Sz 70 (pre l k).2 := by
  have tl : (l.take k).length ≤ 1000 := Nat.le_trans (List.length_take_le' k l) hn
  have b1 : ∀ x ∈ (l.take k).map fun q => q.1 * q.2, x.natAbs ≤ 10 ^ 15 := fun x hx => by
    obtain ⟨q, hq, rfl⟩ := List.mem_map.mp hx
    obtain ⟨a, b, c, d⟩ := h q (List.mem_of_mem_take hq)
    rw [Int.natAbs_mul]
    have e1 : q.1.natAbs ≤ 10 ^ 9 := by omega
    have e2 : q.2.natAbs ≤ 10 ^ 6 := by omega
    exact Nat.le_trans (Nat.mul_le_mul e1 e2) (by decide)
  have b2 : ∀ x ∈ (l.take k).map fun q => q.2, x.natAbs ≤ 10 ^ 15 := fun x hx => by
    obtain ⟨q, hq, rfl⟩ := List.mem_map.mp hx
    obtain ⟨a, b, c, d⟩ := h q (List.mem_of_mem_take hq)
    omega
  have s1 := sum_le b1
  have s2 := sum_le b2
  rw [List.length_map] at s1 s2
  have m : (l.take k).length * 10 ^ 15 ≤ 1000 * 10 ^ 15 := Nat.mul_le_mul_right _ tl
  have t : 1000 * 10 ^ 15 < 2 ^ 70 := by decide
  exact ⟨by unfold Sz pre; exact Nat.lt_of_le_of_lt (Nat.le_trans s1 m) t, by unfold Sz pre; exact Nat.lt_of_le_of_lt (Nat.le_trans s2 m) t⟩
theorem sub2_sz {l : List (Int × Int)} (h : ∀ q ∈ l, ItOk q) (hn : l.length ≤ 1000) (b e : Nat) : Sz 71 (sub2 (pre l) b e).1 ∧ Sz 71 (sub2 (pre l) b e).2 :=
  ⟨(pre_sz h hn e).1.sub (pre_sz h hn b).1, (pre_sz h hn e).2.sub (pre_sz h hn b).2⟩
def SegR (l : List (Int × Int)) : List (Nat × Nat) → Nat → Prop
  | [], e => e = 0
  | (b, c) :: qs, e => c = e ∧ Gd l b c ∧ SegR l qs b
def NoFR (l : List (Int × Int)) : List (Nat × Nat) → Prop
  | x :: y :: r => falls2 (sub2 (pre l) y.1 y.2) (sub2 (pre l) x.1 x.2) = false ∧ NoFR l (y :: r)
  | _ => True
def blk (l : List (Int × Int)) (b c : Nat) : Bk := ((c : Int) - b, sub2 (pre l) b c)
theorem blk_ok {l : List (Int × Int)} (h : ∀ q ∈ l, ItOk q) (hn : l.length ≤ 1000) {b c : Nat} (hb : b ≤ 1000) (hc : c ≤ 1000) : BkOk (blk l b c) := by
  have z := sub2_sz h hn b c
  refine ⟨?_, z.1.le (by decide), z.2.le (by decide)⟩
  have e : Sz 11 ((c : Int) - b) := by unfold Sz; omega
  exact e.le (by decide)
theorem blk_one {l : List (Int × Int)} {j : Nat} {q : Int × Int} (h : l[j]? = some q) : ((1 : Int), q.1 * q.2, q.2) = blk l j (j + 1) := by
  unfold blk sub2
  rw [pre_succ h]
  have e1 : ((j + 1 : Nat) : Int) - j = 1 := by omega
  have e2 : (pre l j).1 + q.1 * q.2 - (pre l j).1 = q.1 * q.2 := by omega
  have e3 : (pre l j).2 + q.2 - (pre l j).2 = q.2 := by omega
  rw [e1]
  simp only [e2, e3]
theorem Gd.one {l : List (Int × Int)} {j : Nat} (h : j < l.length) : Gd l j (j + 1) := ⟨by omega, by omega, fun m a b => by omega⟩
end Pm
set_option Elab.async false
set_option linter.all false
set_option maxRecDepth 100000
set_option maxHeartbeats 1000000
set_option autoImplicit false
namespace Pm
open PySem PySem.Spec PySem.W
open PyProof.Rows hiding St
open L2
def le2 (x y : Int × Int) : Prop := x.1 * y.2 ≤ y.1 * x.2
theorem le2_trans {x y z : Int × Int} (hx : 0 < x.2) (hy : 0 < y.2) (hz : 0 < z.2) (a : le2 x y) (b : le2 y z) : le2 x z := by
  unfold le2 at *
  have c : x.1 * y.2 * z.2 ≤ y.1 * x.2 * z.2 := Int.mul_le_mul_of_nonneg_right a (by omega)
  have d : y.1 * z.2 * x.2 ≤ z.1 * y.2 * x.2 := Int.mul_le_mul_of_nonneg_right b (by omega)
  have e : y.2 * (x.1 * z.2) ≤ y.2 * (z.1 * x.2) := by grind
  exact Int.le_of_mul_le_mul_left e hy
theorem le2_sum {l : List (Int × Int)} {a b c : Nat} {t : Int × Int} (h1 : le2 (sub2 (pre l) a b) t) (h2 : le2 (sub2 (pre l) b c) t) : le2 (sub2 (pre l) a c) t := by
  unfold le2 at *
  rw [sub2_1 _ a b c, sub2_2 _ a b c]
  grind
theorem le2_sum' {l : List (Int × Int)} {a b c : Nat} {t : Int × Int} (h1 : le2 t (sub2 (pre l) a b)) (h2 : le2 t (sub2 (pre l) b c)) : le2 t (sub2 (pre l) a c) := by
  unfold le2 at *
  rw [sub2_1 _ a b c, sub2_2 _ a b c]
  grind
theorem le2_rfl (x : Int × Int) : le2 x x := Int.le_refl _
theorem Gd.suf {l : List (Int × Int)} {b c m : Nat} (g : Gd l b c) (h1 : b ≤ m) (h2 : m < c) : le2 (sub2 (pre l) m c) (sub2 (pre l) b c) := by
  by_cases z : b = m
  · subst z; exact le2_rfl _
  · have := g.2.2 m (by omega) h2
    unfold le2
    rw [sub2_1 _ b m c, sub2_2 _ b m c]
    grind
theorem Gd.pre {l : List (Int × Int)} {b c m : Nat} (g : Gd l b c) (h1 : b < m) (h2 : m ≤ c) : le2 (sub2 (pre l) b c) (sub2 (pre l) b m) := by
  by_cases z : m = c
  · subst z; exact le2_rfl _
  · have := g.2.2 m h1 (by omega)
    unfold le2
    rw [sub2_1 _ b m c, sub2_2 _ b m c]
    grind
theorem le2_of {x y : Int × Int} (h : falls2 x y = false) : le2 x y := by
  have := of_decide_eq_false h
  unfold le2; omega
theorem SegR.suf {l : List (Int × Int)} (hq : ∀ q ∈ l, ItOk q) : ∀ {qs : List (Nat × Nat)} {b c e : Nat}, SegR l ((b, c) :: qs) e → NoFR l ((b, c) :: qs) → ∀ a, a < c → le2 (sub2 (pre l) a c) (sub2 (pre l) b c)
  | [], b, c, e, ⟨_, g, hb⟩, _, a, ha => by
    have hb : b = 0 := hb
    exact g.suf (by omega) ha
  | (b', c') :: qs, b, c, e, ⟨_, g, hs⟩, hf, a, ha => by
    by_cases z : b ≤ a
    · exact g.suf z ha
    · have e1 : c' = b := hs.1
      subst e1
      have g' := hs.2.1
      have ih := SegR.suf hq hs hf.2 a (by omega)
      have f := le2_of hf.1
      have p1 := sub2_pos hq (a := a) (b := c') (by omega) (by have := g.2.1; have := g.1; omega)
      have p2 := sub2_pos hq g'.1 g'.2.1
      have p3 := sub2_pos hq g.1 g.2.1
      exact le2_sum (le2_trans p1 p2 p3 ih f) (le2_rfl _)
theorem SegR.top {l : List (Int × Int)} (hq : ∀ q ∈ l, ItOk q) : ∀ {qs : List (Nat × Nat)} {x : Nat × Nat} {e : Nat}, SegR l (x :: qs) e → NoFR l (x :: qs) → ∀ y ∈ qs, le2 (sub2 (pre l) y.1 y.2) (sub2 (pre l) x.1 x.2) ∧ Gd l y.1 y.2
  | [], _, _, _, _, y, hy => by cases hy
  | z :: qs, x, e, hs, hf, y, hy => by
    have hs2 : SegR l (z :: qs) x.1 := hs.2.2
    have gx : Gd l x.1 x.2 := hs.2.1
    have gz : Gd l z.1 z.2 := hs2.2.1
    have f := le2_of hf.1
    rcases List.mem_cons.mp hy with rfl | hy
    · exact ⟨f, gz⟩
    · obtain ⟨h1, h2⟩ := SegR.top hq hs2 hf.2 y hy
      exact ⟨le2_trans (sub2_pos hq h2.1 h2.2.1) (sub2_pos hq gz.1 gz.2.1) (sub2_pos hq gx.1 gx.2.1) h1 f, h2⟩
theorem SegR.pref {l : List (Int × Int)} (hq : ∀ q ∈ l, ItOk q) : ∀ {qs : List (Nat × Nat)} {e : Nat}, SegR l qs e → NoFR l qs → ∀ y ∈ qs, y.2 ≤ e ∧ ∀ m, y.1 < m → m ≤ e → le2 (sub2 (pre l) y.1 y.2) (sub2 (pre l) y.1 m)
  | [], _, _, _, y, hy => by cases hy
  | x :: qs, e, hs, hf, y, hy => by
    have ex : x.2 = e := hs.1
    have gx : Gd l x.1 x.2 := hs.2.1
    rcases List.mem_cons.mp hy with rfl | hy
    · exact ⟨by omega, fun m h1 h2 => gx.pre h1 (by omega)⟩
    · have hf2 : NoFR l qs := by
        cases qs with
        | nil => cases hy
        | cons z r => exact hf.2
      obtain ⟨i1, i2⟩ := SegR.pref hq hs.2.2 hf2 y hy
      obtain ⟨t1, gy⟩ := SegR.top hq hs hf y hy
      have := gx.1
      refine ⟨by omega, fun m h1 h2 => ?_⟩
      by_cases z : m ≤ x.1
      · exact i2 m h1 z
      · have hx : y.1 < x.1 := by have := gy.1; omega
        have a1 := i2 x.1 hx (Nat.le_refl _)
        have a2 := gx.pre (m := m) (by omega) (by omega)
        have p1 := sub2_pos hq gy.1 gy.2.1
        have p2 := sub2_pos hq gx.1 gx.2.1
        have p3 := sub2_pos hq (a := x.1) (b := m) (by omega) (by have := gx.2.1; omega)
        exact le2_sum' a1 (le2_trans p1 p2 p3 t1 a2)
theorem SegR.cut {l : List (Int × Int)} (hq : ∀ q ∈ l, ItOk q) : ∀ {qs : List (Nat × Nat)} {e : Nat}, SegR l qs e → NoFR l qs → ∀ y ∈ qs, 0 < y.1 → ∀ b, b < y.1 → le2 (sub2 (pre l) b y.1) (sub2 (pre l) y.1 y.2)
  | [], _, _, _, y, hy, _, _, _ => by cases hy
  | [x], e, hs, hf, y, hy, h0, b, hb => by
    have : y = x := by simpa using hy
    subst this
    have : y.1 = 0 := hs.2.2
    omega
  | x :: z :: qs, e, hs, hf, y, hy, h0, b, hb => by
    rcases List.mem_cons.mp hy with rfl | hy
    · have hz : z.2 = y.1 := hs.2.2.1
      have gz : Gd l z.1 z.2 := hs.2.2.2.1
      have gy : Gd l y.1 y.2 := hs.2.1
      have s1 := SegR.suf hq hs.2.2 hf.2 b (by omega)
      have f := le2_of hf.1
      have p1 := sub2_pos hq (a := b) (b := z.2) (by omega) gz.2.1
      rw [← hz]
      rw [← hz] at gy f
      exact le2_trans p1 (sub2_pos hq gz.1 gz.2.1) (sub2_pos hq gy.1 gy.2.1) s1 f
    · exact SegR.cut hq hs.2.2 hf.2 y hy h0 b hb
theorem SegR.inner {l : List (Int × Int)} : ∀ {qs : List (Nat × Nat)} {e : Nat}, SegR l qs e → ∀ p, p < e → (∃ y ∈ qs, y.1 = p) ∨ ∃ y ∈ qs, y.1 < p ∧ p < y.2 ∧ Gd l y.1 y.2
  | [], e, h, p, hp => by
    have : e = 0 := h
    omega
  | x :: qs, e, h, p, hp => by
    have hx : x.2 = e := h.1
    rcases Nat.lt_trichotomy p x.1 with z | z | z
    · rcases SegR.inner h.2.2 p z with ⟨y, hy, e⟩ | ⟨y, hy, e⟩
      · exact .inl ⟨y, by simp [hy], e⟩
      · exact .inr ⟨y, by simp [hy], e⟩
    · exact .inl ⟨x, by simp, z.symm⟩
    · exact .inr ⟨x, by simp, z, by omega, h.2.1⟩
theorem stay_iff {l : List (Int × Int)} (hq : ∀ q ∈ l, ItOk q) {qs : List (Nat × Nat)} (hs : SegR l qs l.length) (hf : NoFR l qs) {p : Nat} (h0 : 0 < p) (hp : p < l.length) : stayB l p = true ↔ ∃ y ∈ qs, y.1 = p := by
  constructor
  · intro h
    rcases SegR.inner hs p hp with h1 | ⟨y, hy, a, b, g⟩
    · exact h1
    · unfold stayB at h
      rw [List.all_eq_true] at h
      have h2 := h y.1 (List.mem_range.mpr a)
      rw [List.all_eq_true] at h2
      have gl := g.2.1
      have h3 := h2 (y.2 - p - 1) (List.mem_range.mpr (by omega))
      have e : p + 1 + (y.2 - p - 1) = y.2 := by omega
      rw [e] at h3
      have g3 := g.2.2 p a b
      have : falls2 (sub2 (pre l) y.1 p) (sub2 (pre l) p y.2) = true := decide_eq_true g3
      rw [this] at h3
      cases h3
  · rintro ⟨y, hy, rfl⟩
    unfold stayB
    rw [List.all_eq_true]
    intro b hb
    rw [List.all_eq_true]
    intro k hk
    have hb := List.mem_range.mp hb
    have hk := List.mem_range.mp hk
    have c1 := SegR.cut hq hs hf y hy h0 b hb
    obtain ⟨i1, i2⟩ := SegR.pref hq hs hf y hy
    have c2 := i2 (y.1 + 1 + k) (by omega) (by omega)
    have g : Gd l y.1 y.2 := by
      cases qs with
      | nil => cases hy
      | cons x r =>
        rcases List.mem_cons.mp hy with rfl | hy
        · exact hs.2.1
        · exact (SegR.top hq hs hf y hy).2
    have p1 := sub2_pos hq (a := b) (b := y.1) hb (by omega)
    have p3 := sub2_pos hq (a := y.1) (b := y.1 + 1 + k) (by omega) (by omega)
    have c3 := le2_trans p1 (sub2_pos hq g.1 g.2.1) p3 c1 c2
    have : falls2 (sub2 (pre l) b y.1) (sub2 (pre l) y.1 (y.1 + 1 + k)) = false := by
      unfold le2 at c3
      exact decide_eq_false (by omega)
    rw [this]; rfl
theorem SegR.zip {l : List (Int × Int)} : ∀ {qs : List (Nat × Nat)} {e : Nat}, SegR l qs e → qs.reverse = (qs.reverse.map Prod.fst).zip ((qs.reverse.map Prod.fst).tail ++ [e])
  | [], _, _ => rfl
  | [x], e, h => by
    have : x.2 = e := h.1
    subst this; rfl
  | x :: z :: qs, e, h => by
    have hx : x.2 = e := h.1
    have ih := SegR.zip h.2.2
    have hne : ((z :: qs).reverse.map Prod.fst) ≠ [] := by simp
    rw [List.reverse_cons, List.map_append, List.tail_append_of_ne_nil hne, List.map_singleton]
    rw [List.zip_append (by simp)]
    rw [← ih]
    show _ = _ ++ [(x.1, e)]
    rw [← hx]
theorem SegR.low {l : List (Int × Int)} : ∀ {qs : List (Nat × Nat)} {e : Nat}, SegR l qs e → (∀ y ∈ qs, y.1 < e) ∧ (qs.reverse.map Prod.fst).Pairwise (· < ·)
  | [], _, _ => ⟨fun y hy => (by cases hy), List.Pairwise.nil⟩
  | x :: qs, e, h => by
    obtain ⟨i1, i2⟩ := SegR.low h.2.2
    have g := h.2.1.1
    have hx : x.2 = e := h.1
    refine ⟨fun y hy => ?_, ?_⟩
    · rcases List.mem_cons.mp hy with rfl | hy
      · omega
      · have := i1 y hy; omega
    · rw [List.reverse_cons, List.map_append, List.pairwise_append]
      refine ⟨i2, by simp, fun a ha b hb => ?_⟩
      obtain ⟨y, hy, rfl⟩ := List.mem_map.mp ha
      have : b = x.1 := by simpa using hb
      rw [this]
      exact i1 y (by simpa using hy)
theorem asc_extN : ∀ {l k : List Nat}, l.Pairwise (· < ·) → k.Pairwise (· < ·) → (∀ x, x ∈ l ↔ x ∈ k) → l = k
  | [], [], _, _, _ => rfl
  | [], b :: k, _, _, h => absurd ((h b).mpr (by simp)) (by simp)
  | a :: l, [], _, _, h => absurd ((h a).mp (by simp)) (by simp)
  | a :: l, b :: k, h1, h2, h => by
    rw [List.pairwise_cons] at h1 h2
    have e : a = b := by
      have ha := List.mem_cons.mp ((h a).mp (by simp))
      have hb := List.mem_cons.mp ((h b).mpr (by simp))
      rcases ha with ha | ha
      · exact ha
      · rcases hb with hb | hb
        · exact hb.symm
        · have := h1.1 b hb; have := h2.1 a ha; omega
    subst e
    congr 1
    refine asc_extN h1.2 h2.2 fun x => ⟨fun hx => ?_, fun hx => ?_⟩
    · rcases List.mem_cons.mp ((h x).mp (by simp [hx])) with e | e
      · have := h1.1 x hx; omega
      · exact e
    · rcases List.mem_cons.mp ((h x).mpr (by simp [hx])) with e | e
      · have := h2.1 x hx; omega
      · exact e
def cutsL (l : List (Int × Int)) : List Nat := 0 :: ((((List.range (l.length - 1)).map fun k => 1 + k).filter (stayB l)) ++ [l.length])
def poolB (l : List (Int × Int)) : List Bk := ((cutsL l).zip (cutsL l).tail).map fun p => ((p.2 : Int) - p.1, sub2 (pre l) p.1 p.2)
abbrev stkD (l : List (Int × Int)) (qs : List (Nat × Nat)) : List D := (qs.reverse.map fun p => blk l p.1 p.2).map bkD
theorem stk_eq {l : List (Int × Int)} (hq : ∀ q ∈ l, ItOk q) (hl : 0 < l.length) {qs : List (Nat × Nat)} (hs : SegR l qs l.length) (hf : NoFR l qs) : stkD l qs = (poolB l).map bkD := by
  obtain ⟨lo, asc⟩ := SegR.low hs
  have hS : qs.reverse.map Prod.fst = 0 :: (((List.range (l.length - 1)).map fun k => 1 + k).filter (stayB l)) := by
    refine asc_extN asc ?_ fun x => ?_
    · rw [List.pairwise_cons]
      refine ⟨fun y hy => ?_, ?_⟩
      · obtain ⟨k, _, rfl⟩ := List.mem_map.mp (List.mem_filter.mp hy).1
        omega
      · refine List.Pairwise.filter _ (List.pairwise_map.mpr ?_)
        exact List.pairwise_lt_range.imp fun h => by omega
    · have mem : x ∈ qs.reverse.map Prod.fst ↔ ∃ y ∈ qs, y.1 = x := by simp
      rw [mem, List.mem_cons, List.mem_filter, List.mem_map]
      constructor
      · rintro ⟨y, hy, rfl⟩
        by_cases z : y.1 = 0
        · exact .inl z
        · have := lo y hy
          exact .inr ⟨⟨y.1 - 1, List.mem_range.mpr (by omega), by omega⟩, (stay_iff hq hs hf (by omega) this).mpr ⟨y, hy, rfl⟩⟩
      · rintro (rfl | ⟨⟨k, hk, rfl⟩, h2⟩)
        · rcases SegR.inner hs 0 hl with h | ⟨y, _, h, _⟩
          · exact h
          · omega
        · have hk := List.mem_range.mp hk
          exact (stay_iff hq hs hf (by omega) (by omega)).mp h2
  have ez := SegR.zip hs
  rw [hS, List.tail_cons] at ez
  have ec : (cutsL l).zip (cutsL l).tail = qs.reverse := by
    rw [ez]
    unfold cutsL
    rw [List.tail_cons, ← List.cons_append]
    generalize (((List.range (l.length - 1)).map fun k => 1 + k).filter (stayB l)) = F
    have h1 : (0 :: F).length = (F ++ [l.length]).length := by simp
    have := List.zip_append (l₁ := 0 :: F) (r₁ := [l.length]) (l₂ := F ++ [l.length]) (r₂ := ([] : List Nat)) h1
    rw [List.append_nil] at this
    rw [this]; simp
  unfold poolB stkD
  rw [ec]; rfl
end Pm
set_option Elab.async false
set_option linter.all false
set_option maxRecDepth 100000
set_option maxHeartbeats 1000000
set_option autoImplicit false
namespace Pm
open PySem PySem.Spec PySem.W
open PyProof.Rows hiding St
open L2
def SegF (l : List (Int × Int)) : List (Nat × Nat) → Nat → Nat → Prop
  | [], a, e => a = e
  | (b, c) :: r, a, e => b = a ∧ Gd l b c ∧ SegF l r c e
theorem SegF.rev {l : List (Int × Int)} : ∀ {ps qs : List (Nat × Nat)} {a e : Nat}, SegF l ps a e → SegR l qs a → SegR l (ps.reverse ++ qs) e
  | [], qs, a, e, h, hq => by
    have : a = e := h
    subst this; exact hq
  | (b, c) :: r, qs, a, e, ⟨h1, h2, h3⟩, hq => by
    subst h1
    rw [List.reverse_cons, List.append_assoc]
    exact SegF.rev h3 ⟨rfl, h2, hq⟩
theorem noFR_of {l : List (Int × Int)} : ∀ {qs : List (Nat × Nat)}, (∀ k (h : k + 1 < qs.length), falls2 (sub2 (pre l) qs[k + 1].1 qs[k + 1].2) (sub2 (pre l) qs[k].1 qs[k].2) = false) → NoFR l qs
  | [], _ => trivial
  | [_], _ => trivial
  | x :: y :: r, h => ⟨h 0 (by simp), noFR_of fun k hk => h (k + 1) (by simpa using hk)⟩
theorem SegF.noFR {l : List (Int × Int)} {ps : List (Nat × Nat)} (h : ∀ k (h : k + 1 < ps.length), falls2 (sub2 (pre l) ps[k].1 ps[k].2) (sub2 (pre l) ps[k + 1].1 ps[k + 1].2) = false) : NoFR l ps.reverse := by
  refine noFR_of fun k hk => ?_
  have hk' : k + 1 < ps.length := by simpa using hk
  rw [List.getElem_reverse, List.getElem_reverse]
  have := h (ps.length - 1 - (k + 1)) (by omega)
  have e : ps.length - 1 - (k + 1) + 1 = ps.length - 1 - k := by omega
  simp only [e] at this
  exact this
theorem SegF.mrg {l : List (Int × Int)} (hq : ∀ q ∈ l, ItOk q) : ∀ {A B : List (Nat × Nat)} {x y : Nat × Nat} {a e : Nat}, SegF l (A ++ x :: y :: B) a e → falls2 (sub2 (pre l) x.1 x.2) (sub2 (pre l) y.1 y.2) = true → x.2 = y.1 ∧ SegF l (A ++ (x.1, y.2) :: B) a e
  | [], B, x, y, a, e, h, f => by
    obtain ⟨h1, h2, h3, h4, h5⟩ := h
    obtain ⟨y1, y2⟩ := y
    obtain ⟨x1, x2⟩ := x
    simp only at *
    subst h3
    exact ⟨rfl, h1, Gd.mrg hq h2 h4 f, h5⟩
  | (b, c) :: A, B, x, y, a, e, ⟨h1, h2, h3⟩, f => by
    obtain ⟨i1, i2⟩ := SegF.mrg hq h3 f
    exact ⟨i1, h1, h2, i2⟩
theorem SegF.gd {l : List (Int × Int)} : ∀ {ps : List (Nat × Nat)} {a e : Nat}, SegF l ps a e → ∀ y ∈ ps, Gd l y.1 y.2
  | [], _, _, _, y, hy => by cases hy
  | (b, c) :: r, a, e, ⟨h1, h2, h3⟩, y, hy => by
    rcases List.mem_cons.mp hy with rfl | hy
    · exact h2
    · exact SegF.gd h3 y hy
theorem SegF.start {l : List (Int × Int)} : ∀ (m a : Nat), a + m ≤ l.length → SegF l ((List.range' a m).map fun j => (j, j + 1)) a (a + m)
  | 0, _, _ => rfl
  | m + 1, a, h => by
    rw [List.range'_succ, List.map_cons]
    refine ⟨rfl, Gd.one (by omega), ?_⟩
    have := SegF.start (l := l) m (a + 1) (by omega)
    have e : a + 1 + m = a + (m + 1) := by omega
    rw [← e]; exact this
theorem split2 {α : Type} {ps : List α} {k : Nat} (h : k + 1 < ps.length) : ps = ps.take k ++ ps[k] :: ps[k + 1] :: ps.drop (k + 2) := by
  have e1 : ps = ps.take k ++ ps.drop k := (List.take_append_drop k ps).symm
  have e2 : ps.drop k = ps[k] :: ps.drop (k + 1) := List.drop_eq_getElem_cons (by omega)
  have e3 : ps.drop (k + 1) = ps[k + 1] :: ps.drop (k + 2) := List.drop_eq_getElem_cons (by omega)
  rw [e2, e3] at e1
  exact e1
end Pm
set_option Elab.async false
set_option linter.all false
set_option maxRecDepth 100000
set_option maxHeartbeats 1000000
set_option autoImplicit false
namespace Pm
open PySem PySem.Spec PySem.W
open PyProof.Rows hiding St
open L2
theorem seg_exists {l : List (Int × Int)} (hq : ∀ q ∈ l, ItOk q) : ∀ (n : Nat) (ps : List (Nat × Nat)), ps.length ≤ n → SegF l ps 0 l.length → ∃ qs, SegR l qs l.length ∧ NoFR l qs
  | n, ps, hn, hs => by
    by_cases z : ∃ k, ∃ h : k + 1 < ps.length, falls2 (sub2 (pre l) ps[k].1 ps[k].2) (sub2 (pre l) ps[k + 1].1 ps[k + 1].2) = true
    · obtain ⟨k, hk, f⟩ := z
      have e := split2 hk
      have hs2 := hs
      rw [e] at hs2
      obtain ⟨_, hs'⟩ := SegF.mrg hq hs2 f
      match n, hn with
      | 0, hn => omega
      | n + 1, hn => exact seg_exists hq n _ (by simp; omega) hs'
    · refine ⟨ps.reverse, ?_, SegF.noFR fun k hk => ?_⟩
      · have := SegF.rev (qs := []) hs rfl
        rwa [List.append_nil] at this
      · cases e : falls2 (sub2 (pre l) ps[k].1 ps[k].2) (sub2 (pre l) ps[k + 1].1 ps[k + 1].2) with
        | false => rfl
        | true => exact absurd ⟨k, hk, e⟩ z
theorem stack_exists {l : List (Int × Int)} (hq : ∀ q ∈ l, ItOk q) : ∃ qs, SegR l qs l.length ∧ NoFR l qs := by
  have h := SegF.start (l := l) l.length 0 (by omega)
  rw [Nat.zero_add] at h
  exact seg_exists hq _ _ (Nat.le_refl _) h
theorem bkD_inj {a b : Bk} (h : bkD a = bkD b) : a = b := by
  simp only [bkD, D.tup.injEq, List.cons.injEq, D.int.injEq, and_true] at h
  exact Prod.ext h.1 (Prod.ext h.2.1 h.2.2)
theorem poolB_eq {l : List (Int × Int)} (hq : ∀ q ∈ l, ItOk q) (hl : 0 < l.length) {qs : List (Nat × Nat)} (hs : SegR l qs l.length) (hf : NoFR l qs) : poolB l = qs.reverse.map fun p => blk l p.1 p.2 :=
  ((List.map_inj_right fun _ _ h => bkD_inj h).mp (stk_eq hq hl hs hf)).symm
def tv (l : List (Int × Int)) (p : Nat × Nat) : Rat := Rat.divInt (sub2 (pre l) p.1 p.2).1 (sub2 (pre l) p.1 p.2).2
def rowR (l : List (Int × Int)) : List Rat := (poolB l).flatMap fun b => List.replicate b.1.toNat (Rat.divInt b.2.1 b.2.2)
theorem SegR.segF {l : List (Int × Int)} : ∀ {qs ps : List (Nat × Nat)} {a e : Nat}, SegR l qs a → SegF l ps a e → SegF l (qs.reverse ++ ps) 0 e
  | [], ps, a, e, h, hs => by
    have : a = 0 := h
    subst this; exact hs
  | (b, c) :: qs, ps, a, e, ⟨h1, h2, h3⟩, hs => by
    subst h1
    rw [List.reverse_cons, List.append_assoc]
    exact SegR.segF h3 ⟨rfl, h2, hs⟩
theorem rowR_ps {l : List (Int × Int)} (hq : ∀ q ∈ l, ItOk q) (hl : 0 < l.length) : ∃ ps qs, SegR l qs l.length ∧ NoFR l qs ∧ ps = qs.reverse ∧ SegF l ps 0 l.length ∧ rowR l = ps.flatMap fun p => List.replicate (p.2 - p.1) (tv l p) := by
  obtain ⟨qs, hs, hf⟩ := stack_exists hq
  have sf : SegF l qs.reverse 0 l.length := by
    have := SegR.segF (ps := []) hs rfl
    rwa [List.append_nil] at this
  refine ⟨qs.reverse, qs, hs, hf, rfl, sf, ?_⟩
  unfold rowR
  rw [poolB_eq hq hl hs hf, List.flatMap_map]
  rw [List.flatMap_def, List.flatMap_def]
  congr 1
  refine List.map_congr_left fun p hp => ?_
  have : ((p.2 : Int) - p.1).toNat = p.2 - p.1 := by omega
  simp only [blk, this]; rfl
theorem SegF.at {l : List (Int × Int)} : ∀ {ps : List (Nat × Nat)} {a e : Nat}, SegF l ps a e → a ≤ e ∧ (ps.flatMap fun p => List.replicate (p.2 - p.1) (tv l p)).length = e - a ∧ ∀ i, a ≤ i → i < e → ∃ y ∈ ps, y.1 ≤ i ∧ i < y.2 ∧ (ps.flatMap fun p => List.replicate (p.2 - p.1) (tv l p))[i - a]? = some (tv l y)
  | [], a, e, h => by
    have : a = e := h
    subst this
    exact ⟨Nat.le_refl _, by simp, fun i h1 h2 => by omega⟩
  | (b, c) :: r, a, e, ⟨h1, h2, h3⟩ => by
    subst h1
    obtain ⟨i1, i2, i3⟩ := SegF.at h3
    have hbc := h2.1
    refine ⟨by omega, ?_, fun i hi1 hi2 => ?_⟩
    · rw [List.flatMap_cons, List.length_append, i2, List.length_replicate]; omega
    · rw [List.flatMap_cons]
      by_cases z : i < c
      · refine ⟨(b, c), by simp, hi1, z, ?_⟩
        rw [List.getElem?_append_left (by rw [List.length_replicate]; omega), List.getElem?_replicate, if_pos (by omega)]
      · obtain ⟨y, hy, y1, y2, y3⟩ := i3 i (by omega) hi2
        refine ⟨y, by simp [hy], y1, y2, ?_⟩
        rw [List.getElem?_append_right (by rw [List.length_replicate]; omega), List.length_replicate]
        have : i - b - (c - b) = i - c := by omega
        rw [this]; exact y3
theorem rowR_len {l : List (Int × Int)} (hq : ∀ q ∈ l, ItOk q) (hl : 0 < l.length) : (rowR l).length = l.length := by
  obtain ⟨ps, qs, hs, hf, rfl, sf, e⟩ := rowR_ps hq hl
  rw [e, (SegF.at sf).2.1]; omega
theorem SegR.mono {l : List (Int × Int)} (hq : ∀ q ∈ l, ItOk q) : ∀ {qs : List (Nat × Nat)} {e : Nat}, SegR l qs e → NoFR l qs → ∀ y ∈ qs, ∀ z ∈ qs, y.1 < z.1 → le2 (sub2 (pre l) y.1 y.2) (sub2 (pre l) z.1 z.2)
  | [], _, _, _, y, hy, _, _, _ => by cases hy
  | x :: qs, e, hs, hf, y, hy, z, hz, hyz => by
    rcases List.mem_cons.mp hz with rfl | hz'
    · rcases List.mem_cons.mp hy with rfl | hy'
      · omega
      · exact (SegR.top hq hs hf y hy').1
    · have hf2 : NoFR l qs := by
        cases qs with
        | nil => cases hz'
        | cons z r => exact hf.2
      rcases List.mem_cons.mp hy with rfl | hy'
      · have := (SegR.low hs.2.2).1 z hz'
        have : z.1 < y.1 := this
        omega
      · exact SegR.mono hq hs.2.2 hf2 y hy' z hz' hyz
theorem SegR.gd {l : List (Int × Int)} : ∀ {qs : List (Nat × Nat)} {e : Nat}, SegR l qs e → ∀ y ∈ qs, Gd l y.1 y.2
  | [], _, _, y, hy => by cases hy
  | x :: qs, e, hs, y, hy => by
    rcases List.mem_cons.mp hy with rfl | hy
    · exact hs.2.1
    · exact SegR.gd hs.2.2 y hy
theorem sub2_sz60 {l : List (Int × Int)} (h : ∀ q ∈ l, ItOk q) (hn : l.length ≤ 60) (b e : Nat) : Sz 57 (sub2 (pre l) b e).1 ∧ Sz 57 (sub2 (pre l) b e).2 := by
  have key : ∀ k, Sz 56 (pre l k).1 ∧ Sz 56 (pre l k).2 := fun k => by
    have tl : (l.take k).length ≤ 60 := Nat.le_trans (List.length_take_le' k l) hn
    have b1 : ∀ x ∈ (l.take k).map fun q => q.1 * q.2, x.natAbs ≤ 10 ^ 15 := fun x hx => by
      obtain ⟨q, hq, rfl⟩ := List.mem_map.mp hx
      obtain ⟨a, b, c, d⟩ := h q (List.mem_of_mem_take hq)
      rw [Int.natAbs_mul]
      have e1 : q.1.natAbs ≤ 10 ^ 9 := by omega
      have e2 : q.2.natAbs ≤ 10 ^ 6 := by omega
      exact Nat.le_trans (Nat.mul_le_mul e1 e2) (by decide)
    have b2 : ∀ x ∈ (l.take k).map fun q => q.2, x.natAbs ≤ 10 ^ 15 := fun x hx => by
      obtain ⟨q, hq, rfl⟩ := List.mem_map.mp hx
      obtain ⟨a, b, c, d⟩ := h q (List.mem_of_mem_take hq)
      omega
    have s1 := sum_le b1
    have s2 := sum_le b2
    rw [List.length_map] at s1 s2
    have m : (l.take k).length * 10 ^ 15 ≤ 60 * 10 ^ 15 := Nat.mul_le_mul_right _ tl
    have t : 60 * 10 ^ 15 < 2 ^ 56 := by decide
    exact ⟨by unfold Sz pre; exact Nat.lt_of_le_of_lt (Nat.le_trans s1 m) t, by unfold Sz pre; exact Nat.lt_of_le_of_lt (Nat.le_trans s2 m) t⟩
  exact ⟨(key e).1.sub (key b).1, (key e).2.sub (key b).2⟩
theorem rowR_sz {l : List (Int × Int)} (hq : ∀ q ∈ l, ItOk q) (hn : l.length ≤ 60) (hl : 0 < l.length) : ∀ x ∈ rowR l, SzR 57 x := fun x hx => by
  obtain ⟨ps, qs, hs, hf, rfl, sf, e⟩ := rowR_ps hq hl
  rw [e] at hx
  obtain ⟨y, hy, hx⟩ := List.mem_flatMap.mp hx
  have hx := (List.mem_replicate.mp hx).2
  subst hx
  have gy := SegF.gd sf y hy
  have z := sub2_sz60 hq hn y.1 y.2
  have p := sub2_pos hq gy.1 gy.2.1
  exact SzR.divInt z.1 z.2 (by omega)
def mL (l : List (Int × Int)) (i : Nat) : Rat := ((l.getD i (0, 1)).1 : Rat)
def wL (l : List (Int × Int)) (i : Nat) : Rat := ((l.getD i (0, 1)).2 : Rat)
theorem sm_sub2 {l : List (Int × Int)} {t : Rat} : ∀ (d k : Nat), k + d ≤ l.length → sm (fun i => wL l i * (mL l i - t)) (List.range' k d) = ((sub2 (pre l) k (k + d)).1 : Rat) - t * ((sub2 (pre l) k (k + d)).2 : Rat)
  | 0, k, _ => by
    unfold sub2
    simp [sm]; grind
  | d + 1, k, h => by
    have hk : l[k]? = some l[k] := List.getElem?_eq_getElem (by omega)
    have ih := sm_sub2 (l := l) (t := t) d (k + 1) (by omega)
    have e : k + 1 + d = k + (d + 1) := by omega
    rw [e] at ih
    rw [List.range'_succ]
    simp only [sm]
    rw [ih]
    rw [sub2_1 _ k (k + 1) (k + (d + 1)), sub2_2 _ k (k + 1) (k + (d + 1))]
    have e1 : (sub2 (pre l) k (k + 1)).1 = l[k].1 * l[k].2 := by unfold sub2; rw [pre_succ hk]; simp only; omega
    have e2 : (sub2 (pre l) k (k + 1)).2 = l[k].2 := by unfold sub2; rw [pre_succ hk]; simp only; omega
    have e3 : wL l k = (l[k].2 : Rat) := by unfold wL; rw [List.getD_eq_getElem?_getD, hk]; rfl
    have e4 : mL l k = (l[k].1 : Rat) := by unfold mL; rw [List.getD_eq_getElem?_getD, hk]; rfl
    rw [e1, e2, e3, e4]
    push_cast
    grind
theorem filt_suf {U : Nat → Bool} : ∀ (d k n : Nat), k + d ≤ n → (∀ a, a + 1 < n → U a = true → U (a + 1) = true) → ∃ j, k ≤ j ∧ j ≤ k + d ∧ (List.range' k d).filter U = List.range' j (k + d - j)
  | 0, k, n, _, _ => ⟨k, Nat.le_refl _, by omega, by simp⟩
  | d + 1, k, n, h, hU => by
    rw [List.range'_succ]
    cases e : U k with
    | false =>
      obtain ⟨j, a, b, c⟩ := filt_suf d (k + 1) n (by omega) hU
      refine ⟨j, by omega, by omega, ?_⟩
      rw [List.filter_cons_of_neg (by simp [e]), c]
      congr 1; omega
    | true =>
      have all : ∀ m, k + m < n → U (k + m) = true := fun m => by
        induction m with
        | zero => intro _; exact e
        | succ m ih => intro hm; exact hU (k + m) (by omega) (ih (by omega))
      refine ⟨k, Nat.le_refl _, by omega, ?_⟩
      rw [← List.range'_succ]
      have : k + (d + 1) - k = d + 1 := by omega
      rw [this]
      refine List.filter_eq_self.mpr fun x hx => ?_
      obtain ⟨i, hi, rfl⟩ := List.mem_range'.mp hx
      rw [Nat.one_mul]
      exact all i (by omega)
theorem SegF.ranges {l : List (Int × Int)} : ∀ {ps : List (Nat × Nat)} {a e : Nat}, SegF l ps a e → a ≤ e ∧ List.range' a (e - a) = (ps.map fun p => List.range' p.1 (p.2 - p.1)).flatten
  | [], a, e, h => by
    have : a = e := h
    subst this
    exact ⟨Nat.le_refl _, by simp⟩
  | (b, c) :: r, a, e, ⟨h1, h2, h3⟩ => by
    subst h1
    obtain ⟨i1, i2⟩ := SegF.ranges h3
    have hbc := h2.1
    refine ⟨by omega, ?_⟩
    rw [List.map_cons, List.flatten_cons, ← i2]
    have := List.range'_append_1 (s := b) (m := c - b) (n := e - c)
    have e1 : b + (c - b) = c := by omega
    have e2 : c - b + (e - c) = e - b := by omega
    rw [e1, e2] at this
    exact this.symm
def nxt (n a b : Nat) : Prop := b = a + 1 ∧ b < n
theorem rowR_best {l : List (Int × Int)} (hq : ∀ q ∈ l, ItOk q) (hl : 0 < l.length) : Best (List.range l.length) (nxt l.length) (mL l) (wL l) fun i => (rowR l).getD i 0 := by
  obtain ⟨ps, qs, hs, hf, rfl, sf, e⟩ := rowR_ps hq hl
  have hat : ∀ i, i < l.length → ∃ y ∈ qs, y.1 ≤ i ∧ i < y.2 ∧ (rowR l).getD i 0 = tv l y := fun i hi => by
    obtain ⟨y, hy, y1, y2, y3⟩ := (SegF.at sf).2.2 i (by omega) hi
    rw [Nat.sub_zero, ← e] at y3
    exact ⟨y, by simpa using hy, y1, y2, by rw [List.getD_eq_getElem?_getD, y3]; rfl⟩
  have uniq : ∀ y ∈ qs, ∀ z ∈ qs, ∀ i, y.1 ≤ i → i < y.2 → z.1 ≤ i → i < z.2 → y = z := fun y hy z hz i h1 h2 h3 h4 => by
    have key : ∀ (qs : List (Nat × Nat)) (e : Nat), SegR l qs e → y ∈ qs → z ∈ qs → y = z := fun qs => by
      induction qs with
      | nil => intro e _ hy; cases hy
      | cons x r ih =>
        intro e hs hy hz
        have cov : ∀ w ∈ r, w.2 ≤ x.1 := fun w hw => by
          have : ∀ (r : List (Nat × Nat)) (e : Nat), SegR l r e → w ∈ r → w.2 ≤ e := fun r => by
            induction r with
            | nil => intro e _ h; cases h
            | cons v r ih =>
              intro e h hw
              rcases List.mem_cons.mp hw with rfl | hw
              · exact Nat.le_of_eq h.1
              · have := ih _ h.2.2 hw
                have := h.2.1.1
                have : v.2 = e := h.1
                omega
          exact this r _ hs.2.2 hw
        rcases List.mem_cons.mp hy with e1 | hy' <;> rcases List.mem_cons.mp hz with e2 | hz'
        · rw [e1, e2]
        · have := cov z hz'; rw [e1] at h1; omega
        · have := cov y hy'; rw [e2] at h3; omega
        · exact ih _ hs.2.2 hy' hz'
    exact key qs _ hs hy hz
  have blkv : ∀ y ∈ qs, ∀ i, y.1 ≤ i → i < y.2 → (rowR l).getD i 0 = tv l y := fun y hy i h1 h2 => by
    have := (SegR.gd hs y hy).2.1
    obtain ⟨z, hz, z1, z2, z3⟩ := hat i (by omega)
    rw [z3, uniq z hz y hy i z1 z2 h1 h2]
  have pT : ∀ y ∈ qs, 0 < (sub2 (pre l) y.1 y.2).2 := fun y hy => sub2_pos hq (SegR.gd hs y hy).1 (SegR.gd hs y hy).2.1
  have tot : ∀ U : Nat → Bool, sm (fw (mL l) (wL l) fun i => (rowR l).getD i 0) ((List.range l.length).filter U) = (qs.reverse.map fun p => sm (fun i => wL l i * (mL l i - tv l p)) ((List.range' p.1 (p.2 - p.1)).filter U)).sum := fun U => by
    have rg := (SegF.ranges sf).2
    rw [Nat.sub_zero, ← List.range_eq_range'] at rg
    rw [rg, flat_filter, sm_flat, List.map_map, List.map_map]
    congr 1
    refine List.map_congr_left fun p hp => sm_congr fun i hi => ?_
    have hp : p ∈ qs := by simpa using hp
    obtain ⟨j, hj, rfl⟩ := List.mem_range'.mp (List.mem_filter.mp hi).1
    simp only [fw]
    rw [blkv p hp (p.1 + 1 * j) (by omega) (by omega)]
  have sufs : ∀ y ∈ qs, ∀ j, y.1 ≤ j → j ≤ y.2 → sm (fun i => wL l i * (mL l i - tv l y)) (List.range' j (y.2 - j)) = ((sub2 (pre l) j y.2).1 : Rat) - tv l y * ((sub2 (pre l) j y.2).2 : Rat) := fun y hy j h1 h2 => by
    have := (SegR.gd hs y hy).2.1
    have := sm_sub2 (l := l) (t := tv l y) (y.2 - j) j (by omega)
    have e : j + (y.2 - j) = y.2 := by omega
    rw [e] at this
    exact this
  have zero : ∀ y ∈ qs, sm (fun i => wL l i * (mL l i - tv l y)) (List.range' y.1 (y.2 - y.1)) = 0 := fun y hy => by
    have := (SegR.gd hs y hy).1
    rw [sufs y hy y.1 (Nat.le_refl _) (by omega)]
    unfold tv
    rw [divInt_mul (pT y hy)]; grind
  refine ⟨fun a b hab => ?_, fun U hU => ?_, fun U hU => ?_⟩
  · obtain ⟨rfl, hb⟩ := hab
    obtain ⟨y, hy, y1, y2, y3⟩ := hat a (by omega)
    obtain ⟨z, hz, z1, z2, z3⟩ := hat (a + 1) hb
    simp only [y3, z3]
    rcases Nat.lt_trichotomy y.1 z.1 with h | h | h
    · have := SegR.mono hq hs hf y hy z hz h
      unfold le2 at this
      unfold tv
      by_cases hlt : Rat.divInt (sub2 (pre l) z.1 z.2).1 (sub2 (pre l) z.1 z.2).2 < Rat.divInt (sub2 (pre l) y.1 y.2).1 (sub2 (pre l) y.1 y.2).2
      · have := (cross_lt (pT z hz) (pT y hy)).mp hlt
        omega
      · grind
    · have : y = z := uniq y hy z hz (max y.1 a) (by omega) (by omega) (by omega) (by omega)
      rw [this]; exact Rat.le_refl
    · have : y = z := uniq y hy z hz a y1 y2 (by omega) (by omega)
      rw [this]; exact Rat.le_refl
  · rw [tot]
    have : ∀ p ∈ qs.reverse, sm (fun i => wL l i * (mL l i - tv l p)) ((List.range' p.1 (p.2 - p.1)).filter U) ≤ 0 := fun p hp => by
      have hp : p ∈ qs := by simpa using hp
      have g := SegR.gd hs p hp
      have g1 := g.1
      obtain ⟨j, j1, j2, j3⟩ := filt_suf (U := U) (p.2 - p.1) p.1 l.length (by have := g.2.1; omega) (fun a ha h => hU a (a + 1) ⟨rfl, ha⟩ h)
      have e : p.1 + (p.2 - p.1) = p.2 := by omega
      rw [e] at j2 j3
      rw [j3, sufs p hp j j1 j2]
      by_cases z : j = p.2
      · subst z
        have : sub2 (pre l) p.2 p.2 = (0, 0) := by unfold sub2; simp
        rw [this]; simp; grind
      · have h1 := Gd.suf g j1 (by omega)
        unfold le2 at h1
        have h2 := pT p hp
        have h3 : ((sub2 (pre l) j p.2).1 : Rat) * ((sub2 (pre l) p.1 p.2).2 : Rat) ≤ ((sub2 (pre l) p.1 p.2).1 : Rat) * ((sub2 (pre l) j p.2).2 : Rat) := by exact_mod_cast h1
        have h4 : (0 : Rat) < ((sub2 (pre l) p.1 p.2).2 : Rat) := Rat.intCast_pos.mpr h2
        have h5 : tv l p * ((sub2 (pre l) p.1 p.2).2 : Rat) = ((sub2 (pre l) p.1 p.2).1 : Rat) := divInt_mul h2
        rw [← h5] at h3
        have h6 : ((sub2 (pre l) j p.2).1 : Rat) ≤ tv l p * ((sub2 (pre l) j p.2).2 : Rat) := by
          refine Rat.le_of_mul_le_mul_right ?_ h4
          grind
        grind
    generalize qs.reverse = L at this
    clear tot sf e
    induction L with
    | nil => simp
    | cons x r ih =>
      have a := this x (by simp)
      have b := ih fun p hp => this p (by simp [hp])
      rw [List.map_cons, List.sum_cons]; grind
  · rw [tot]
    have : ∀ p ∈ qs.reverse, sm (fun i => wL l i * (mL l i - tv l p)) ((List.range' p.1 (p.2 - p.1)).filter U) = 0 := fun p hp => by
      have hp : p ∈ qs := by simpa using hp
      have g1 := (SegR.gd hs p hp).1
      have same : ∀ i ∈ List.range' p.1 (p.2 - p.1), U i = U p.1 := fun i hi => by
        obtain ⟨j, hj, rfl⟩ := List.mem_range'.mp hi
        have v1 := blkv p hp (p.1 + 1 * j) (by omega) (by omega)
        have v2 := blkv p hp p.1 (by omega) (by omega)
        cases h1 : U p.1 with
        | true => exact hU p.1 _ (by simp only [v1, v2]; exact Rat.le_refl) h1
        | false =>
          cases h2 : U (p.1 + 1 * j) with
          | false => rfl
          | true =>
            have := hU _ p.1 (by simp only [v1, v2]; exact Rat.le_refl) h2
            rw [h1] at this; cases this
      cases h1 : U p.1 with
      | true =>
        rw [List.filter_eq_self.mpr fun i hi => by rw [same i hi, h1]]
        exact zero p hp
      | false =>
        rw [List.filter_eq_nil_iff.mpr fun i hi => by rw [same i hi, h1]; simp]
        rfl
    generalize qs.reverse = L at this
    clear tot sf e
    induction L with
    | nil => simp
    | cons x r ih =>
      have a := this x (by simp)
      have b := ih fun p hp => this p (by simp [hp])
      rw [List.map_cons, List.sum_cons, a, b]; grind
end Pm
set_option Elab.async false
set_option linter.all false
set_option maxRecDepth 100000
set_option maxHeartbeats 1000000
set_option autoImplicit false
namespace Pm
open PySem PySem.Spec PySem.W
open PyProof.Rows hiding St
open L2
theorem ItOk.sz {q : Int × Int} (h : ItOk q) : Sz 30 q.1 ∧ Sz 20 q.2 := by
  obtain ⟨a, b, c, d⟩ := h
  have e1 : (10 : Int) ^ 9 < 2 ^ 30 := by decide
  have e2 : (10 : Int) ^ 6 < 2 ^ 20 := by decide
  have e3 : ((2 ^ 30 : Nat) : Int) = 2 ^ 30 := by decide
  have e4 : ((2 ^ 20 : Nat) : Int) = 2 ^ 20 := by decide
  unfold Sz
  exact ⟨by omega, by omega⟩
end Pm
set_option Elab.async false
set_option linter.all false
set_option maxRecDepth 100000
set_option maxHeartbeats 1000000
set_option autoImplicit false
namespace Pm
open PySem PySem.Spec PySem.W
open PyProof.Rows hiding St
open L2
theorem frl_ok {α : Type} (f : α → Rat) (l : List α) : D.plns (l.map fun a => frD (f a)) = true ∧ D.deps (l.map fun a => frD (f a)) ≤ 1 ∧ D.wids (l.map fun a => frD (f a)) ≤ 7000 * l.length := by
  induction l with
  | nil => exact ⟨rfl, Nat.zero_le _, Nat.zero_le _⟩
  | cons x rs ih =>
    obtain ⟨a, b, c⟩ := ih
    refine ⟨?_, ?_, ?_⟩
    · simp only [List.map_cons, D.plns, a]; rfl
    · simp only [List.map_cons, D.deps]
      have : (frD (f x)).dep = 1 := by simp [frD, D.dep, D.deps]
      omega
    · simp only [List.map_cons, D.wids, List.length_cons]
      have : (frD (f x)).wid = 4024 := by simp [frD, D.wid, D.wids]
      omega
theorem rt_ok {n : Nat} (hn : n ≤ 100) (f : Nat → Rat) : (rtD n f).pln = true ∧ (rtD n f).dep < 24 ∧ (rtD n f).wid ≤ 10000000 := by
  obtain ⟨a, b, c⟩ := frl_ok f (List.range n)
  rw [List.length_range] at c
  refine ⟨?_, ?_, ?_⟩
  · simp only [rtD, D.pln, a]
  · simp only [rtD, D.dep]; omega
  · simp only [rtD, D.wid]; omega
end Pm
set_option Elab.async false
set_option linter.all false
set_option maxRecDepth 100000
set_option maxHeartbeats 3200000
set_option autoImplicit false
namespace Pm
open PySem PySem.Spec PySem.W
open PyProof.Rows hiding St
open L2
abbrev sob (w : World) : Obj := { cls := .type "set", dict := none, data := .set #[] 0 (.fresh 0 0 (!w.params.followText "set-order")) }
end Pm
set_option Elab.async false
set_option linter.all false
set_option maxRecDepth 100000
set_option maxHeartbeats 1000000
set_option autoImplicit false
namespace Pm
open PySem PySem.Spec
open PyProof.Rows hiding St
open L2
mutual
def D.plz : D → Bool
  | .non => true
  | .bl _ => true
  | .int _ => true
  | .str x => PyData.strOk x
  | .lst xs => D.plzs xs
  | .tup xs => D.plzs xs
  | .dct ks xs => ks.isEmpty && xs.isEmpty
  | .obj _ => false
def D.plzs : List D → Bool
  | [] => true
  | d :: ds => d.plz && D.plzs ds
end
end Pm
set_option Elab.async false
set_option linter.all false
set_option maxRecDepth 100000
set_option maxHeartbeats 1000000
set_option autoImplicit false
namespace Pm
open PySem PySem.Spec
open PyProof.Rows hiding St
open L2
def oddL : List D := [.non, .bl true, .bl false, .int 0, .int (-1), .int 1, .int 2, .int (10 ^ 29), .str "", .str "a", .str "up", .tup [], .lst [], .dct [] [], .tup [.int 0], .lst [.int 0], .tup [.tup []], .tup [.int 1, .int 2], .tup [.int 0, .int 1], .tup [.int 2, .int 4]]
mutual
def D.fit (b : Nat) : D → Prop
  | .int i => Sz b i
  | .lst xs => D.fits b xs
  | .tup xs => D.fits b xs
  | _ => True
def D.fits (b : Nat) : List D → Prop
  | [] => True
  | d :: ds => d.fit b ∧ D.fits b ds
end
structure VOk (b w k : Nat) (d : D) : Prop where
  z : d.plz = true
  f : d.fit b
  w : d.wid ≤ w
  k : d.dep ≤ k
theorem odd_ok {d : D} (h : d ∈ oddL) : VOk 100 4024 2 d := by
  have h : d ∈ oddL := h
  have all : ∀ d ∈ oddL, d.plz = true ∧ d.wid ≤ 4024 ∧ d.dep ≤ 2 := by
    have e : oddL.all (fun d => d.plz && decide (d.wid ≤ 4024) && decide (d.dep ≤ 2)) = true := by decide +kernel
    intro d hd
    have := List.all_eq_true.mp e d hd
    simpa [Bool.and_eq_true, and_assoc] using this
  obtain ⟨h1, h2, h3⟩ := all d h
  refine ⟨h1, ?_, h2, h3⟩
  unfold oddL at h
  simp only [List.mem_cons, List.not_mem_nil, or_false] at h
  rcases h with rfl | rfl | rfl | rfl | rfl | rfl | rfl | rfl | rfl | rfl | rfl | rfl | rfl | rfl | rfl | rfl | rfl | rfl | rfl | rfl
  all_goals first | exact trivial | (show Sz 100 _; unfold Sz; decide) | (refine ⟨?_, trivial⟩; show Sz 100 _; unfold Sz; decide) | (refine ⟨?_, ?_, trivial⟩ <;> (show Sz 100 _; unfold Sz; decide)) | exact ⟨trivial, trivial⟩
theorem deps_le {xs : List D} {k : Nat} : D.deps xs ≤ k ↔ ∀ x ∈ xs, x.dep ≤ k := by
  induction xs with
  | nil => simp [D.deps]
  | cons x xs ih => simp only [D.deps, List.mem_cons, forall_eq_or_imp, ← ih]; omega
def gOk (d : D) : Prop := (∀ p, d ≠ .obj p) ∧ ∀ xs, d = .tup xs → xs.length ≤ 100000 ∧ ∀ x ∈ xs, ∀ p, x ≠ .obj p
theorem gOk_gr {gs : List Nat} (h : gs.length ≤ 100000) : gOk (grD gs) := by
  refine ⟨fun p e => (by cases e), fun xs e => ?_⟩
  have e : D.tup (gs.map natD) = .tup xs := e
  cases e
  refine ⟨by rw [List.length_map]; exact h, fun x hx p e => ?_⟩
  obtain ⟨i, _, rfl⟩ := List.mem_map.mp hx
  cases e
theorem allI_ints {n : Int} : ∀ {xs : List D}, xs.all (inI 0 n) = true → ∃ is, asInts xs = some is ∧ (is.all fun i => decide (0 ≤ i) && decide (i ≤ n)) = true
  | [], _ => ⟨[], rfl, rfl⟩
  | x :: xs, h => by
    rw [List.all_cons, Bool.and_eq_true] at h
    obtain ⟨is, e, hi⟩ := allI_ints h.2
    cases x with
    | int i =>
      refine ⟨i :: is, ?_, ?_⟩
      · have e0 := asInts_eq e
        subst e0
        exact asInts_map (i :: is)
      · rw [List.all_cons, hi, Bool.and_true]; exact h.1
    | _ => exact absurd h.1 (by simp [inI])
theorem allI_not {n : Int} : ∀ {xs : List D} {is : List Int}, asInts xs = some is → xs.all (inI 0 n) = is.all fun i => decide (0 ≤ i) && decide (i ≤ n) := fun {xs is} e => by
  have e0 := asInts_eq e
  subst e0
  rw [List.all_map]; rfl
end Pm
set_option Elab.async false
set_option linter.all false
set_option maxRecDepth 100000
set_option maxHeartbeats 1000000
set_option autoImplicit false
namespace Pm
open PySem PySem.Spec
open PyProof.Rows hiding St
open L2
def falls (a b : Bk) : Bool := decide (a.2.1 * b.2.2 > b.2.1 * a.2.2)
def mrg (a b : Bk) : Bk := (a.1 + b.1, a.2.1 + b.2.1, a.2.2 + b.2.2)
theorem pick3 {a b c : Int} {lo hi : Int} {k : Int} (k0 : 0 ≤ k) (k1 : k < 3) (ha : lo ≤ a ∧ a ≤ hi) (hb : lo ≤ b ∧ b ≤ hi) (hc : lo ≤ c ∧ c ≤ hi) : ∃ m : Int, idx [D.int a, .int b, .int c] k = some (.int m) ∧ lo ≤ m ∧ m ≤ hi := by
  have hi : k = 0 ∨ k = 1 ∨ k = 2 := by omega
  rcases hi with rfl | rfl | rfl
  · exact ⟨a, rfl, ha⟩
  · exact ⟨b, rfl, hb⟩
  · exact ⟨c, rfl, hc⟩
end Pm
set_option Elab.async false
set_option linter.all false
set_option maxRecDepth 100000
set_option maxHeartbeats 3200000
set_option autoImplicit false
namespace Pm
open PySem PySem.Spec PySem.W
open PyProof.Rows hiding St
open L2
abbrev K3 := Int × Int × Int
def nk (k : K3) : NestedKey := .tup [.num k.1, .tup [.num k.2.1, .num k.2.2]]
theorem nk_inj {k q : K3} (h : nk k = nk q) : k = q := by
  obtain ⟨a, b, c⟩ := k
  obtain ⟨a', b', c'⟩ := q
  unfold nk at h
  injection h with h
  injection h with h1 h2
  injection h1 with h1
  injection h2 with h2 _
  injection h2 with h2
  injection h2 with h2 h3
  injection h2 with h2
  injection h3 with h3 _
  injection h3 with h3
  simp only at h1 h2 h3
  rw [h1, h2, h3]
theorem nk_dec (k q : K3) : NestedKey.beq (nk k) (nk q) = decide (k = q) := by
  rw [← NestedKey.decide_eq]
  by_cases c : k = q
  · rw [decide_eq_true c, decide_eq_true (by rw [c])]
  · rw [decide_eq_false c, decide_eq_false fun e => c (nk_inj e)]
@[irreducible] def hk3 (w : World) (k : K3) : Int := (nk k).hash w
def Is3 (h : Heap) (k : K3) (a : Addr) : Prop := ∃ (b : Addr) (t t1 t2 : Tok), h.IsTuple a #[.int k.1 t, .ref b] ∧ h.IsTuple b #[.int k.2.1 t1, .int k.2.2 t2]
theorem Is3.nest {h : Heap} {k : K3} {a : Addr} (x : Is3 h k a) : NestedIs h (nk k) (.ref a) := by
  obtain ⟨b, t, t1, t2, ⟨o, g, c, n, d⟩, ⟨o', g', c', n', d'⟩⟩ := x
  exact .tup g c d (.cons (.int _ t) (.cons (.tup g' c' d' (.cons (.int _ t1) (.cons (.int _ t2) .nil))) .nil))
theorem Is3.inj {h : Heap} {k q : K3} {a : Addr} (x : Is3 h k a) (y : Is3 h q a) : k = q := nk_inj (NestedIs.inj _ _ _ x.nest y.nest)
theorem tup_stay {h h' : Heap} {a : Addr} {vs : Array Value} (x : h.IsTuple a vs) (k : ∀ b o, h.get? b = some o → o.cls = .type "tuple" → h'.get? b = some o) : h'.IsTuple a vs := by
  obtain ⟨o, g, c, r⟩ := x
  exact ⟨o, k a o g c, c, r⟩
theorem Is3.stay {h h' : Heap} {k : K3} {a : Addr} (x : Is3 h k a) (kp : ∀ b o, h.get? b = some o → o.cls = .type "tuple" → h'.get? b = some o) : Is3 h' k a := by
  obtain ⟨b, t, t1, t2, x1, x2⟩ := x
  exact ⟨b, t, t1, t2, tup_stay x1 kp, tup_stay x2 kp⟩
section
variable {P : Program} {w : World} {A : Around} {E : Value → Shared → Prop} {s : Shared}
theorem Is3.hash {k : K3} {a : Addr} {Q : Int → Shared → Prop} (x : Is3 s.heap k a) (hu : A.units + 8 < cLine) (h : Q (hk3 w k) { s with toks := s.toks + (nk k).draws }) : wpAny (model P w) A (pyHash (.ref a)) Q E s :=
  pyHash_key (nk k) _ A s Q x.nest (by simp only [nk, NestedKey.depth, NestedKey.depthAll]; omega) (by unfold hk3 at h; exact h)
theorem Is3.eq {k q : K3} {a b : Addr} {Q : Bool → Shared → Prop} (x : Is3 s.heap k a) (y : Is3 s.heap q b) (hu : A.units + 8 < cLine) (h : Q (decide (k = q)) s) : wpAny (model P w) A (eqBool (.ref a) (.ref b)) Q E s :=
  eqAt_key (nk k) (nk q) A s _ _ x.nest y.nest (by simp only [nk, NestedKey.depth, NestedKey.depthAll]; omega) _ _ _ _ (by rw [nk_dec]; exact h)
theorem Is3.quiet {k : K3} {a : Addr} {Q : Bool → Shared → Prop} (x : Is3 s.heap k a) (h : Q true s) : wpAny (model P w) A (eqIsQuiet 8 (.ref a)) Q E s :=
  quiet_key (nk k) _ 8 s x.nest (by simp only [nk, NestedKey.depth, NestedKey.depthAll]; omega) A E Q h
theorem noCls_at {n : Nat} {a : Addr} {vs : Array Value} {Q : Bool → Shared → Prop} (x : s.heap.IsTuple a vs) (hv : ∀ v ∈ vs.toList, ∀ (A : Around) (E : Value → Shared → Prop) (Q : Bool → Shared → Prop), Q false s → wpAny (model P w) A (ofAClassStatement n v) Q E s) (h : Q false s) :
    wpAny (model P w) A (ofAClassStatement (n + 1) (.ref a)) Q E s := by
  obtain ⟨o, ho, hc, m, hd⟩ := x
  have hT : s.TypeIs (.ref a) "tuple" := ⟨o, ho, hc⟩
  unfold ofAClassStatement
  refine wpAny_bind (wpAny_typeOf hT ?_)
  dsimp only
  have e : (("tuple" : String) == "tuple") = true := by decide
  simp only [e, if_true, Bool.not_true, Bool.false_eq_true, if_false]
  try refine wpAny_bind (wpAny_pure ?_)
  try simp only [Bool.not_true, Bool.false_eq_true, if_false]
  show wpAny _ _ (seqItems? (.ref a) >>= _) _ _ s
  refine wpAny_bind (wpAny_seqItems ho hd ?_)
  dsimp only
  refine wpAny_bind ?_
  show wpAny _ _ (forIn vs _ _) _ _ s
  rw [← Array.forIn_toList]
  refine wpAny_forIn_list _ (fun rest r s' => r.1 = none ∧ s' = s ∧ ∀ v ∈ rest, v ∈ vs.toList) _ ?_ ?_ _ _ ⟨rfl, rfl, fun _ h => h⟩
  · rintro v rest r s' ⟨hr, rfl, hall⟩
    refine wpAny_bind (hv v (hall v (by simp)) _ _ _ ?_)
    simp only [Bool.false_eq_true, if_false]
    exact wpAny_pure ⟨rfl, rfl, fun u hu' => hall u (List.mem_cons_of_mem _ hu')⟩
  · rintro ⟨r1, r2⟩ s' ⟨hr, rfl, _⟩
    simp only at hr
    subst hr
    exact wpAny_pure h
theorem Is3.noCls {k : K3} {a : Addr} {Q : Bool → Shared → Prop} (x : Is3 s.heap k a) (h : Q false s) : wpAny (model P w) A (ofAClassStatement 8 (.ref a)) Q E s := by
  obtain ⟨b, t, t1, t2, x1, x2⟩ := x
  refine noCls_at x1 (fun v hv A E Q h => ?_) h
  simp only [List.mem_cons, List.not_mem_nil, or_false] at hv
  rcases hv with rfl | rfl
  · rw [ofAClass_int]; exact wpAny_pure h
  · refine noCls_at x2 (fun v hv A E Q h => ?_) h
    simp only [List.mem_cons, List.not_mem_nil, or_false] at hv
    rcases hv with rfl | rfl <;> (rw [ofAClass_int]; exact wpAny_pure h)
theorem byVal_at {n : Nat} {a : Addr} {vs : Array Value} {Q : Bool → Shared → Prop} (x : s.heap.IsTuple a vs) (hv : ∀ v ∈ vs.toList, ∀ (A : Around) (E : Value → Shared → Prop) (Q : Bool → Shared → Prop), Q true s → wpAny (model P w) A (hashByValue n v) Q E s) (h : Q true s) :
    wpAny (model P w) A (hashByValue (n + 1) (.ref a)) Q E s := by
  obtain ⟨o, ho, hc, m, hd⟩ := x
  have hT : s.TypeIs (.ref a) "tuple" := ⟨o, ho, hc⟩
  unfold hashByValue
  refine wpAny_bind (wpAny_specialOf hT F.slot_tuple_hash.lookup ?_)
  show wpAny _ _ (seqItems? (.ref a) >>= _) _ _ s
  refine wpAny_bind (wpAny_seqItems ho hd ?_)
  refine wpAny_bind ?_
  show wpAny _ _ (forIn vs _ _) _ _ s
  rw [← Array.forIn_toList]
  refine wpAny_forIn_list _ (fun rest r s' => r.1 = none ∧ s' = s ∧ ∀ v ∈ rest, v ∈ vs.toList) _ ?_ ?_ _ _ ⟨rfl, rfl, fun _ h => h⟩
  · rintro v rest r s' ⟨hr, rfl, hall⟩
    refine wpAny_bind (hv v (hall v (by simp)) _ _ _ ?_)
    simp only [Bool.not_true, Bool.false_eq_true, if_false]
    exact wpAny_pure ⟨rfl, rfl, fun u hu' => hall u (List.mem_cons_of_mem _ hu')⟩
  · rintro ⟨r1, r2⟩ s' ⟨hr, rfl, _⟩
    simp only at hr
    subst hr
    exact wpAny_pure h
theorem Is3.byVal {k : K3} {a : Addr} {Q : Bool → Shared → Prop} (x : Is3 s.heap k a) (h : Q true s) : wpAny (model P w) A (hashByValue 8 (.ref a)) Q E s := by
  obtain ⟨b, t, t1, t2, x1, x2⟩ := x
  refine byVal_at x1 (fun v hv A E Q h => ?_) h
  simp only [List.mem_cons, List.not_mem_nil, or_false] at hv
  rcases hv with rfl | rfl
  · rw [hashBy_int]; exact wpAny_pure h
  · refine byVal_at x2 (fun v hv A E Q h => ?_) h
    simp only [List.mem_cons, List.not_mem_nil, or_false] at hv
    rcases hv with rfl | rfl <;> (rw [hashBy_int]; exact wpAny_pure h)
theorem Is3.unseen {k : K3} {a : Addr} {Q : Bool → Shared → Prop} (x : Is3 s.heap k a) {ys : List Value} (hy : ∀ y ∈ ys, ∃ q c, y = Value.ref c ∧ Is3 s.heap q c) (h : Q false s) :
    wpAny (model P w) A (searchCouldBeSeen (.ref a) ys) Q E s := by
  unfold searchCouldBeSeen
  refine wpAny_bind ?_
  refine wpAny_forIn_list _ (fun rest r s' => r.1 = none ∧ s' = s ∧ ∀ y ∈ rest, ∃ q c, y = Value.ref c ∧ Is3 s.heap q c) _ ?_ ?_ _ _ ⟨rfl, rfl, hy⟩
  · rintro v rest r s' ⟨hr, rfl, hall⟩
    obtain ⟨q, c, rfl, hc⟩ := hall v List.mem_cons_self
    have go := fun u hu' => hall u (List.mem_cons_of_mem _ hu')
    dsimp only
    by_cases hv : (a == c || (carriedByValue (.ref a) && carriedByValue (.ref c))) = true
    · refine wp_if_pos hv (wpAny_pure ⟨rfl, rfl, go⟩)
    · refine wp_if_neg hv ?_
      refine wpAny_bind (x.quiet ?_)
      simp only [Bool.not_true, Bool.false_eq_true, if_false]
      refine wpAny_bind (hc.quiet ?_)
      simp only [Bool.not_true, Bool.false_eq_true, if_false]
      refine wpAny_bind (x.noCls ?_)
      simp only [Bool.false_eq_true, if_false]
      refine wpAny_bind (hc.noCls ?_)
      simp only [Bool.false_eq_true, if_false]
      exact wpAny_pure ⟨rfl, rfl, go⟩
  · rintro ⟨r1, r2⟩ s' ⟨hr, rfl, _⟩
    simp only at hr
    subst hr
    exact wpAny_pure h
end

def row3 (w : World) (p : Addr × K3) : Int × Value := (hk3 w p.2, .ref p.1)
structure Set3 (w : World) (h : Heap) (a : Addr) (L : List (Addr × K3)) (es : Array (Int × Value)) (ep : Nat) (t : SetTable) : Prop where
  ob : ∃ o, h.get? a = some o ∧ o.ExactSet ∧ o.data = .set es ep t
  rows : es.toList = L.map (row3 w)
  tab : TabOk t (L.map fun p => hk3 w p.2)
  nd : (L.map (·.2)).Nodup
  tup : ∀ p ∈ L, Is3 h p.2 p.1
  plain : t.plain = true
  led : w.params.followText "set-order" = true ∨ t.led = true
  room : L.length * 5 < t.mask * 3
  few : L.length < 64
theorem fits_of {t : SetTable} {hs : List Int} {n : Nat} (T : TabOk t hs) (hn : hs.length = n) (hm : n ≤ t.mask) : t.fits n = true := by
  have := T.sz
  unfold SetTable.fits SetTable.fill
  rw [T.dm, Bool.and_eq_true, beq_iff_eq, decide_eq_true_eq]
  show t.place.size = n ∧ t.place.size + 0 ≤ t.mask
  omega
section
variable {P : Program} {w : World} {A : Around} {E : Value → Shared → Prop} {s : Shared} {a : Addr} {L : List (Addr × K3)} {es : Array (Int × Value)} {ep : Nat} {t : SetTable}
theorem Set3.size (R : Set3 w s.heap a L es ep t) : es.size = L.length := by
  have h := congrArg List.length R.rows
  rwa [Array.length_toList, List.length_map] at h
theorem Set3.fits (R : Set3 w s.heap a L es ep t) : t.fits es.size = true := by
  have := R.room
  exact fits_of R.tab (by rw [List.length_map, R.size]) (by rw [R.size]; omega)
theorem Set3.entry (R : Set3 w s.heap a L es ep t) {i : Nat} {p : Addr × K3} (h : L[i]? = some p) : es[i]? = some (hk3 w p.2, Value.ref p.1) := by
  rw [← Array.getElem?_toList, R.rows, List.getElem?_map, h, Option.map_some, row3]
abbrev pth (m : Nat) (h : Int) : SetTable.Probe := runAt m (SetTable.bits h % (m + 1)) (SetTable.bits h)
theorem nth_dm (m : Nat) : ∀ (n : Nat) (p : SetTable.Probe), p.dummy = none → (nth m p n).dummy = none
  | 0, _, h => h
  | n + 1, p, h => nth_dm m n (adv m p) (by unfold adv; split <;> exact h)
theorem Set3.search (R : Set3 w s.heap a L es ep t) {x : Addr} {k : K3} (hx : Is3 s.heap k x) (hu : A.units + 8 < cLine) {K : Nat} (hKf : K < 10 * SetTable.turns t.mask)
    (hK : way t.mask (hk3 w k) K ∉ t.place.toList) (hb : ∀ c, c < K → way t.mask (hk3 w k) c ∈ t.place.toList) {Q : SetFound → Shared → Prop}
    (yes : k ∈ L.map (·.2) → Q (.there none) s) (no : k ∉ L.map (·.2) → Q (.free (way t.mask (hk3 w k) K) false) s) :
    ∀ (f c : Nat) (from_ : Option SetTable.Probe), from_.getD (t.probeStart (hk3 w k)) = nth t.mask (pth t.mask (hk3 w k)) c → c ≤ K → K - c < f →
      (∀ (i : Nat) p, L[i]? = some p → p.2 = k → ∃ c', c ≤ c' ∧ c' < K ∧ t.place.toList[i]? = some (way t.mask (hk3 w k) c')) →
      wpAny (model P w) A (setSearchFrom a (.ref x) (hk3 w k) true f from_) Q E s := by
  intro f
  induction f with
  | zero => intro c _ _ _ hf; exact absurd hf (Nat.not_lt_zero _)
  | succ f ih =>
    intro c from_ hst hc hf hre
    obtain ⟨o, ho, hex, hd⟩ := R.ob
    rw [setSearchFrom_succ]
    refine wpAny_bind (wpAny_setState_of ho hd R.fits ?_)
    dsimp only
    refine wp_if_neg (by unfold SetTable.gaveWay; rw [mask_odd R.tab.mok]; decide) ?_
    try refine wpAny_bind (wpAny_pure ?_)
    have sh : ∀ q, nth t.mask (nth t.mask (pth t.mask (hk3 w k)) c) q = nth t.mask (pth t.mask (hk3 w k)) (c + q) := fun q => (nth_add t.mask c _ q).symm
    have e1 : ∀ q, (nth t.mask (nth t.mask (pth t.mask (hk3 w k)) c) q).j = way t.mask (hk3 w k) (c + q) := fun q => congrArg SetTable.Probe.j (sh q)
    have hashAt : ∀ (i : Nat) p, L[i]? = some p → (es[i]?.map (·.1)).getD 0 = hk3 w p.2 := fun i p hp => by rw [R.entry hp, Option.map_some, Option.getD_some]
    have spec := go_spec t R.tab.ris R.tab.dm (fun i => (es[i]?.map (·.1)).getD 0) (hk3 w k) (10 * SetTable.turns t.mask) (K - c) _ (nth_dm t.mask c (pth t.mask (hk3 w k)) rfl) (by omega)
      (fun q hq => by rw [e1]; exact hb (c + q) (by omega)) (by rw [e1, show c + (K - c) = K by omega]; exact hK)
    rcases spec with ⟨q, i, hq, hi, hh, hno, hpr⟩ | ⟨hno, hpr⟩
    · have hpr' : t.probe (fun i => (es[i]?.map (·.1)).getD 0) (hk3 w k) (from_.getD (t.probeStart (hk3 w k))) = some (.candidate (way t.mask (hk3 w k) (c + q)) i (nth t.mask (pth t.mask (hk3 w k)) (c + (q + 1)))) := by
        rw [hst, ← e1, ← sh]; exact hpr
      rw [hpr']
      dsimp only
      rw [e1] at hi
      have hil : i < L.length := by
        have h1 : i < t.place.toList.length := (List.getElem?_eq_some_iff.mp hi).1
        have h2 := R.tab.sz
        rw [List.length_map] at h2
        rw [Array.length_toList] at h1
        omega
      have hp : L[i]? = some L[i] := List.getElem?_eq_getElem hil
      generalize L[i] = p at hp
      have hmem : p ∈ L := List.mem_of_getElem? hp
      have hsl : t.slot (way t.mask (hk3 w k) (c + q)) = .live i := slot_live R.tab.ris hi
      have rest : wpAny (model P w) A (searchRest a (.ref x) (hk3 w k) true f es t (way t.mask (hk3 w k) (c + q)) i (nth t.mask (pth t.mask (hk3 w k)) (c + (q + 1)))) Q E s := by
        unfold searchRest
        rw [R.entry hp]
        dsimp only
        refine wpAny_bind (wpAny_holding ((R.tup p hmem).eq hx hu ?_))
        refine wpAny_bind (wpAny_setState_of ho hd R.fits ?_)
        dsimp only
        by_cases hkk : p.2 = k
        · refine wp_if_pos (by simp [hkk]) ?_
          exact wpAny_pure (yes (List.mem_map.mpr ⟨p, hmem, hkk⟩))
        · refine wp_if_neg (by simp [hkk]) ?_
          try refine wpAny_bind (wpAny_pure ?_)
          rw [sameMem]
          dsimp only
          simp only [if_true, hsl, R.entry hp]
          refine wpAny_bind (wpAny_isSame_ref_self (wpAny_bind (wpAny_pure ?_)))
          simp only [if_true]
          refine wp_if_neg (by simp [hkk]) ?_
          refine ih (c + (q + 1)) _ rfl (by omega) (by omega) fun i0 p0 h0 hk0 => ?_
          obtain ⟨c', a1, a2, a3⟩ := hre i0 p0 h0 hk0
          refine ⟨c', ?_, a2, a3⟩
          rcases Nat.lt_trichotomy c' (c + q) with z | z | z
          · refine absurd ((hashAt i0 p0 h0).trans (congrArg (hk3 w) hk0)) (hno (c' - c) i0 (by omega) ?_)
            rw [e1, show c + (c' - c) = c' by omega]; exact a3
          · rw [z] at a3
            have s0 := slot_live R.tab.ris a3
            rw [hsl] at s0
            injection s0 with s0
            rw [← s0, hp] at h0
            exact absurd ((congrArg Prod.snd (Option.some.inj h0)).trans hk0) hkk
          · omega
      by_cases hl : t.led = true
      · refine wp_if_neg (by simp [hl]) ?_
        try refine wpAny_bind (wpAny_pure ?_)
        exact rest
      · refine wp_if_pos (by simp [hl]) ?_
        refine wpAny_bind (hx.unseen (fun y hy => ?_) ?_)
        · obtain ⟨e, he, ee⟩ := List.mem_map.mp hy
          have he1 : e ∈ es ∧ e.1 = hk3 w k := by simpa using he
          have he2 : e ∈ es.toList := by simpa using he1.1
          rw [R.rows] at he2
          obtain ⟨p2, hp2, e2⟩ := List.mem_map.mp he2
          exact ⟨p2.2, p2.1, by rw [← ee, ← e2]; rfl, R.tup p2 hp2⟩
        · refine wp_if_neg (by decide) ?_
          try refine wpAny_bind (wpAny_pure ?_)
          exact rest
    · have hpr' : t.probe (fun i => (es[i]?.map (·.1)).getD 0) (hk3 w k) (from_.getD (t.probeStart (hk3 w k))) = some (.empty (way t.mask (hk3 w k) K) none) := by
        have e2 : way t.mask (hk3 w k) K = (nth t.mask (nth t.mask (pth t.mask (hk3 w k)) c) (K - c)).j := by
          rw [e1, show c + (K - c) = K by omega]
        rw [hst, e2]; exact hpr
      rw [hpr']
      dsimp only
      refine wpAny_pure (no fun hm => ?_)
      obtain ⟨p0, h0, hk0⟩ := List.mem_map.mp hm
      obtain ⟨i0, hi0⟩ := List.mem_iff_getElem?.mp h0
      obtain ⟨c', a1, a2, a3⟩ := hre i0 p0 hi0 hk0
      refine absurd ((hashAt i0 p0 hi0).trans (congrArg (hk3 w) hk0)) (hno (c' - c) i0 (by omega) ?_)
      rw [e1, show c + (c' - c) = c' by omega]; exact a3
theorem Set3.find (R : Set3 w s.heap a L es ep t) {x : Addr} {k : K3} (hx : Is3 s.heap k x) (hu : A.units + 8 < cLine) {Q : SetFound → Shared → Prop}
    (yes : k ∈ L.map (·.2) → Q (.there none) s)
    (no : ∀ K, k ∉ L.map (·.2) → way t.mask (hk3 w k) K ∉ t.place.toList → (∀ c, c < K → way t.mask (hk3 w k) c ∈ t.place.toList) → Q (.free (way t.mask (hk3 w k) K) false) s) :
    wpAny (model P w) A (setSearch a (.ref x) (hk3 w k) true) Q E s := by
  have hroom := R.room
  obtain ⟨K, hKf, hK, hb⟩ := R.tab.first (by rw [List.length_map]; omega) (hk3 w k)
  have big : 10 * SetTable.turns t.mask ≤ 1420 := by
    unfold SetTable.turns
    rcases R.tab.mok with e | e | e <;> omega
  unfold setSearch
  refine R.search hx hu hKf hK hb yes (fun hn => no K hn hK hb) 100000 0 none rfl (Nat.zero_le _) (by omega) fun i p hp hk => ?_
  have hi : (L.map fun p => hk3 w p.2)[i]? = some (hk3 w k) := by rw [List.getElem?_map, hp, ← hk, Option.map_some]
  have hil : i < t.place.toList.length := by
    have h1 : i < L.length := (List.getElem?_eq_some_iff.mp hp).1
    have h2 := R.tab.sz
    rw [List.length_map] at h2
    rw [Array.length_toList]; omega
  have hj := List.getElem?_eq_getElem hil
  obtain ⟨c, hc, e⟩ := R.tab.before hK hi hj
  exact ⟨c, Nat.zero_le _, hc, by rw [hj, e]⟩
theorem Is3.but {h h' : Heap} {k : K3} {b : Addr} {o : Obj} (x : Is3 h k b) (ho : h.get? a = some o) (hc : o.ExactSet) (hs : Heap.SameBut a h h') : Is3 h' k b :=
  x.stay fun c o' g hc' => by
    refine (hs.2 c fun e => ?_).trans g
    subst e
    obtain rfl : o' = o := Option.some.inj (g.symm.trans ho)
    have e2 := hc.1
    rw [hc'] at e2
    injection e2 with e2
    exact absurd e2 (by decide)
theorem relay3 {o : Obj} (ho : s.heap.get? a = some o) (hex : o.ExactSet) (hd : o.data = .set es ep t) (hrows : es.toList = L.map (row3 w)) (T0 : TabOk t (L.map fun p => hk3 w p.2)) (hfl : L.length ≤ t.mask)
    (nd : (L.map (·.2)).Nodup) (tup : ∀ p ∈ L, Is3 s.heap p.2 p.1) (pl : t.plain = true) (ld : w.params.followText "set-order" = true ∨ t.led = true) (few : L.length < 64) {wanted M : Nat}
    (hw : SetTable.sizeAbove wanted - 1 = M) (hM : MaskOk M) (hw2 : SetTable.sizeAbove wanted ≤ 128) (hn : L.length * 5 < M * 3) {Q : Unit → Shared → Prop}
    (hQ : ∀ h' L' es' ep' t', Heap.SameBut a s.heap h' → Set3 w h' a L' es' ep' t' → L'.Perm L → Q () { s with heap := h' }) : wpAny (model P w) A (setRelay a wanted) Q E s := by
  have hsl : es.size = L.length := by
    have h := congrArg List.length hrows
    rwa [Array.length_toList, List.length_map] at h
  obtain ⟨t', order, e, hp, T, em, el, ep', ed⟩ := relaid_ok t (hs := es.map (·.1)) (wanted := wanted) hw hM (by rw [Array.size_map, hsl]; omega)
  rw [Array.size_map, hsl] at hp
  -- the rows in their new order
  obtain ⟨L2, e2⟩ : ∃ L2 : List (Addr × K3), L2 = order.toList.filterMap fun i => L[i]? := ⟨_, rfl⟩
  have ent : ∀ i, es[i]? = (L[i]?).map (row3 w) := fun i => by rw [← Array.getElem?_toList, hrows, List.getElem?_map]
  have r1 : (order.filterMap (es[·]?)).toList = L2.map (row3 w) := by
    have : order.toList.filterMap (fun i => es[i]?) = L2.map (row3 w) := by
      rw [e2, List.map_filterMap]
      exact congrArg (fun f => order.toList.filterMap f) (funext ent)
    first | (rw [Array.toList_filterMap]; exact this) | simpa using this
  have r2 : L2.Perm L := by
    have h1 : L2.Perm ((List.range L.length).filterMap fun i => L[i]?) := by rw [e2]; exact hp.filterMap _
    have key : ∀ n, n ≤ L.length → (List.range n).filterMap (fun i => L[i]?) = L.take n := by
      intro n
      induction n with
      | zero => intro _; rfl
      | succ n ih =>
        intro hn
        rw [List.range_succ, List.filterMap_append, ih (by omega), List.take_succ, List.getElem?_eq_getElem hn, List.filterMap_cons_some (List.getElem?_eq_getElem hn)]; rfl
    rwa [key L.length (Nat.le_refl _), List.take_length] at h1
  have r3 : (L2.map fun p => hk3 w p.2) = order.toList.map fun i => (es.map (·.1)).getD i 0 := by
    rw [e2]
    have key : ∀ l : List Nat, (∀ i ∈ l, i < L.length) → (l.filterMap fun i => L[i]?).map (fun p => hk3 w p.2) = l.map fun i => (es.map (·.1)).getD i 0 := by
      intro l
      induction l with
      | nil => intro _; rfl
      | cons i l ih =>
        intro hl
        have hi := hl i (by simp)
        rw [List.filterMap_cons_some (List.getElem?_eq_getElem hi), List.map_cons, List.map_cons, ih fun j hj => hl j (by simp [hj])]
        congr 1
        rw [Array.getD_eq_getD_getElem?, Array.getElem?_map, ent, List.getElem?_eq_getElem hi, Option.map_some, Option.map_some, Option.getD_some, row3]
    exact key _ fun i hi => List.mem_range.mp (hp.mem_iff.mp hi)
  rw [← r3] at T
  have hs2 : (order.filterMap (es[·]?)).size = es.size := by
    have h := congrArg List.length r1
    rw [Array.length_toList, List.length_map, r2.length_eq] at h
    rw [h, hsl]
  rw [setRelay_eq]
  refine wpAny_bind (wpAny_setState_of ho hd (fits_of T0 (by rw [List.length_map, hsl]) (by rw [hsl]; exact hfl)) ?_)
  dsimp only
  refine wp_if_neg (by rw [sizeLine_eq]; omega) ?_
  try refine wpAny_bind (wpAny_pure ?_)
  rw [e]
  dsimp only
  refine wpAny_bind ?_
  refine wp_if_neg (by rw [hs2]; simp) ?_
  try refine wpAny_bind (wpAny_pure ?_)
  refine wpAny_pure ?_
  dsimp only
  refine wpAny_storeSet_of ho hd ?_ (by rw [hs2, hsl, sizeLine_eq]; omega)
  have sb : Heap.SameBut a s.heap (s.heap.update a (Obj.putSet (order.filterMap (es[·]?)) t')) := Heap.SameBut.update ..
  refine hQ _ L2 (order.filterMap (es[·]?)) (ep + 1) t' sb ⟨⟨_, store_at ho hd, ⟨hex.1, hex.2.1, hex.2.2⟩, rfl⟩, r1, T, (r2.map (·.2)).nodup_iff.mpr nd, fun p hpm => (tup p (r2.mem_iff.mp hpm)).but ho hex sb, by rw [ep']; exact pl, by rw [el]; exact ld, by rw [r2.length_eq, em]; exact hn, by rw [r2.length_eq]; exact few⟩ r2
theorem Set3.add (R : Set3 w s.heap a L es ep t) {x : Addr} {k : K3} (hx : Is3 s.heap k x) (hu : A.units + 8 < cLine) (hfew : L.length + 1 < 64) {Q : Bool → Shared → Prop}
    (hQ : ∀ b h' L' es' ep' t', Heap.SameBut a s.heap h' → Set3 w h' a L' es' ep' t' → (k ∈ L.map (·.2) → L' = L) → (k ∉ L.map (·.2) → L'.Perm ((x, k) :: L)) → Q b { s with heap := h' }) :
    wpAny (model P w) A (setAddHashed a (.ref x) (hk3 w k)) Q E s := by
  obtain ⟨o, ho, hex, hd⟩ := R.ob
  have hsl := R.size
  have hroom := R.room
  unfold setAddHashed
  refine wpAny_holding ?_
  rw [show (100000 : Nat) = 99999 + 1 from rfl, setAddHashedIn_succ]
  refine wpAny_bind (wpAny_setState_of ho hd R.fits ?_)
  dsimp only
  refine wp_if_neg (by simp [byScan, Value.scannable]) ?_
  try refine wpAny_bind (wpAny_pure ?_)
  refine wpAny_bind (R.find hx hu (fun hm => ?_) fun K hm hK hb => ?_)
  · dsimp only
    exact wpAny_pure (hQ false s.heap L es ep t (Heap.SameBut.refl a s.heap) R (fun _ => rfl) fun z => absurd hm z)
  · dsimp only
    refine wpAny_bind (wpAny_setState_of ho hd R.fits ?_)
    dsimp only
    obtain ⟨q1, q2, q3, q4, q5, q6, q7, q8, q9⟩ := R.tab.put hK hb
    have hp1 : (t.put (way t.mask (hk3 w k) K)).1.plain = true := by rw [q6]; exact R.plain
    generalize t.put (way t.mask (hk3 w k) K) = pt at q1 q3 q4 q5 q6 q7 q8 q9 hp1 ⊢
    obtain ⟨t1, p⟩ := pt
    dsimp only at q1 q3 q4 q5 q6 q7 q8 q9 hp1 ⊢
    subst q1
    first
      | (refine wpAny_bind ?_; refine wp_if_pos hp1 ?_; refine hx.byVal ?_)
      | refine wp_if_pos hp1 (wpAny_bind (hx.byVal ?_))
    simp only [if_true]
    generalize SetTable.below t.place (way t.mask (hk3 w k) K) = p at q2 q3 ⊢
    have hin : (SetTable.insertAt es p (hk3 w k, Value.ref x)).toList = (L.take p ++ (x, k) :: L.drop p).map (row3 w) := by
      rw [SetTable.toList_insertAt, R.rows, List.map_append, List.map_cons, List.map_take, List.map_drop, row3]
    have pm : (L.take p ++ (x, k) :: L.drop p).Perm ((x, k) :: L) := put_perm L p (x, k)
    have hhs : (L.take p ++ (x, k) :: L.drop p).map (fun p => hk3 w p.2) = (L.map fun p => hk3 w p.2).take p ++ hk3 w k :: (L.map fun p => hk3 w p.2).drop p := by
      rw [List.map_append, List.map_cons, List.map_take, List.map_drop]
    rw [← hhs] at q3
    generalize L.take p ++ (x, k) :: L.drop p = L1 at pm q3 hin
    have hlen : L1.length = L.length + 1 := pm.length_eq
    have nd1 : (L1.map (·.2)).Nodup := by
      refine (pm.map (·.2)).nodup_iff.mpr ?_
      rw [List.map_cons]
      exact List.nodup_cons.mpr ⟨hm, R.nd⟩
    have hes : (SetTable.insertAt es p (hk3 w k, Value.ref x)).size = L.length + 1 := by
      have h := congrArg List.length hin
      rwa [Array.length_toList, List.length_map, hlen] at h
    generalize SetTable.insertAt es p (hk3 w k, Value.ref x) = es1 at hin hes ⊢
    refine wpAny_bind (wpAny_storeSet_of ho hd ?_ (by rw [hes, sizeLine_eq]; omega))
    have sb : Heap.SameBut a s.heap (s.heap.update a (Obj.putSet es1 t1)) := Heap.SameBut.update ..
    have ho1 := store_at (es' := es1) (t' := t1) ho hd
    generalize s.heap.update a (Obj.putSet es1 t1) = h1 at sb ho1 ⊢
    have tup1 : ∀ p ∈ L1, Is3 h1 p.2 p.1 := fun p hp => by
      rcases List.mem_cons.mp (pm.mem_iff.mp hp) with e | hp
      · rw [e]; exact hx.but ho hex sb
      · exact (R.tup p hp).but ho hex sb
    have ld1 : w.params.followText "set-order" = true ∨ t1.led = true := by rw [q5]; exact R.led
    by_cases hf : t1.tooFull = true
    · first
        | (refine wpAny_bind ?_; refine wp_if_pos (by simp [hf]) ?_)
        | (refine wp_if_pos (by simp [hf]) ?_; refine wpAny_bind ?_)
      have hfull : (L.length + 1) * 5 ≥ t1.mask * 3 := by
        have h := hf
        unfold SetTable.tooFull at h
        rw [decide_eq_true_eq, q9, List.length_map] at h
        exact h
      rw [hsl]
      have go : ∀ M, SetTable.sizeAbove (SetTable.grown (L.length + 1)) - 1 = M → MaskOk M → SetTable.sizeAbove (SetTable.grown (L.length + 1)) ≤ 128 → (L.length + 1) * 5 < M * 3 → L.length + 1 ≤ t1.mask →
          wpAny (model P w) A (setRelay a (SetTable.grown (L.length + 1))) (fun _ s' => wpAny (model P w) A (pure true) Q E s') E { s with heap := h1 } := fun M h1' h2' h3' h4' h5' => by
        refine relay3 (s := { s with heap := h1 }) ho1 ⟨hex.1, hex.2.1, hex.2.2⟩ rfl hin q3 (by rw [hlen]; exact h5') nd1 tup1 hp1 ld1 (by rw [hlen]; exact hfew) h1' h2' h3' (by rw [hlen]; exact h4') ?_
        intro h2 L2 es2 ep2 t2 sb2 R2 pm2
        exact wpAny_pure (hQ true h2 L2 es2 ep2 t2 (sb.trans sb2) R2 (fun z => absurd z hm) fun _ => pm2.trans pm)
      rcases R.tab.mok with e | e | e
      · have e2 : L.length = 4 := by rw [q4, e] at hfull; rw [e] at hroom; omega
        refine go 31 (by rw [e2, size_20]) (.inr (.inl rfl)) (by rw [e2, size_20]; decide) (by omega) (by rw [q4, e]; omega)
      · have e2 : L.length = 18 := by rw [q4, e] at hfull; rw [e] at hroom; omega
        refine go 127 (by rw [e2, size_76]) (.inr (.inr rfl)) (by rw [e2, size_76]; decide) (by omega) (by rw [q4, e]; omega)
      · exfalso; rw [q4, e] at hfull; omega
    · first
        | refine wp_if_neg (by simp [hf]) ?_
        | (refine wpAny_bind ?_; refine wp_if_neg (by simp [hf]) ?_; refine wpAny_pure ?_)
      refine wpAny_pure (hQ true h1 L1 es1 (ep + 1) t1 sb ⟨⟨_, ho1, ⟨hex.1, hex.2.1, hex.2.2⟩, rfl⟩, hin, q3, nd1, tup1, hp1, ld1, ?_, by rw [hlen]; exact hfew⟩ (fun z => absurd z hm) fun _ => pm)
      have h := hf
      unfold SetTable.tooFull at h
      rw [decide_eq_true_eq, q9, List.length_map] at h
      rw [hlen]; omega
end
end Pm
set_option Elab.async false
set_option linter.all false
set_option maxRecDepth 100000
set_option maxHeartbeats 3200000
set_option autoImplicit false
namespace Pm
open PySem PySem.Spec PySem.W
open PyProof.Rows hiding St
open L2
def Had3 (ks : List (Addr × K3)) (i : Nat) (L : List (Addr × K3)) : Prop := (∀ p ∈ L, p ∈ ks) ∧ (∀ k, k ∈ (ks.take i).map (·.2) ↔ k ∈ L.map (·.2)) ∧ L.length ≤ i
theorem Had3.zero (ks : List (Addr × K3)) : Had3 ks 0 [] := ⟨fun _ h => absurd h (by simp), fun k => by simp, Nat.le_refl _⟩
theorem Had3.same {ks L : List (Addr × K3)} {i : Nat} {x : Addr × K3} (g : Had3 ks i L) (h : ks[i]? = some x) (m : x.2 ∈ L.map (·.2)) : Had3 ks (i + 1) L := by
  refine ⟨g.1, fun k => ?_, Nat.le_succ_of_le g.2.2⟩
  rw [take_next h, List.map_append, List.mem_append, g.2.1 k]
  constructor
  · rintro (z | z)
    · exact z
    · have : k = x.2 := by simpa using z
      rw [this]; exact m
  · exact .inl
theorem Had3.more {ks L L' : List (Addr × K3)} {i : Nat} {x : Addr × K3} (g : Had3 ks i L) (h : ks[i]? = some x) (pm : L'.Perm (x :: L)) : Had3 ks (i + 1) L' := by
  refine ⟨fun p hp => ?_, fun k => ?_, ?_⟩
  · rcases List.mem_cons.mp (pm.mem_iff.mp hp) with e | z
    · rw [e]; exact List.mem_of_getElem? h
    · exact g.1 p z
  · rw [take_next h, List.map_append, List.mem_append, g.2.1 k, (pm.map (·.2)).mem_iff]
    simp only [List.mem_cons, List.map_cons, List.map_nil, List.not_mem_nil, or_false]
    exact Or.comm
  · rw [pm.length_eq, List.length_cons]; have := g.2.2; omega
theorem Set3.keep {w : World} {h h' : Heap} {a : Addr} {L : List (Addr × K3)} {es : Array (Int × Value)} {ep : Nat} {t : SetTable} (R : Set3 w h a L es ep t) (ha : ∀ o, h.get? a = some o → h'.get? a = some o) (ht : ∀ p ∈ L, Is3 h' p.2 p.1) : Set3 w h' a L es ep t := by
  obtain ⟨o, ho, r⟩ := R.ob
  exact ⟨⟨o, ha o ho, r⟩, R.rows, R.tab, R.nd, ht, R.plain, R.led, R.room, R.few⟩
theorem Set3.new {w : World} {h : Heap} {a : Addr} (ho : h.get? a = some (sob w)) : Set3 w h a [] #[] 0 (.fresh 0 0 (!w.params.followText "set-order")) where
  ob := ⟨_, ho, ⟨rfl, rfl, rfl⟩, rfl⟩
  rows := rfl
  tab := ⟨List.Pairwise.nil, rfl, rfl, .inl rfl, fun x hx => absurd hx (by simp [SetTable.fresh]), fun i h j hi => absurd hi (by simp)⟩
  nd := List.nodup_nil
  tup := fun p hp => absurd hp (by simp)
  plain := rfl
  led := by
    show _ ∨ (!w.params.followText "set-order") = true
    cases w.params.followText "set-order"
    · exact .inr rfl
    · exact .inl rfl
  room := by show 0 * 5 < 7 * 3; decide
  few := by show 0 < 64; decide
theorem Is3.all {h h' : Heap} {k : K3} {b : Addr} (x : Is3 h k b) (hk : ∀ c o, h.get? c = some o → h'.get? c = some o) : Is3 h' k b := x.stay fun c o e _ => hk c o e
section
variable {P : Program} {w : World} {A : Around} {E : Value → Shared → Prop} {s : Shared}
theorem fill3 {I : Addr} {fp wr : List Addr} {G : Array GenState → Array GenState → Prop} {n : Nat} {Pv : Nat → Value → Prop} {St : Nat → Shared → Prop} {R : Result → Shared → Prop}
    (W : WalksS P w A.in1 I fp wr G n Pv St) (S : Addr) (hSf : S ∉ fp) (ks : List (Addr × K3)) (hn : n = ks.length) (hfew : ks.length < 64) (hval : ∀ i v, Pv i v → ∃ p, ks[i]? = some p ∧ v = .ref p.1)
    (h0 : Heap) (hk : ∀ p ∈ ks, Is3 h0 p.2 p.1) (hS0 : h0.get? S = none) (hw0 : ∀ b ∈ wr, h0.get? b = none) (hu : A.in1.units + 8 < cLine) :
    ∀ (k i : Nat) (s : Shared), n - i = k → i ≤ n → St i s → (∀ b o, h0.get? b = some o → s.heap.get? b = some o) → (∃ L es ep t, Set3 w s.heap S L es ep t ∧ Had3 ks i L) →
      (∀ s' L es ep t, Moved (S :: wr) G s s' → Set3 w s'.heap S L es ep t → Had3 ks n L → (∀ b o, h0.get? b = some o → s'.heap.get? b = some o) → R (.ok (.ret .none)) s') →
      codeAny (model P w) A (.builtin "set.update.loop" ⟨[.ref S, .ref I], []⟩) R s := by
  have hSw : S ∉ wr := fun h => hSf (W.sub _ h)
  have hsub : ∀ b ∈ wr, b ∈ S :: wr := fun b hb => List.mem_cons_of_mem _ hb
  have keepM : ∀ {s s' : Shared}, Moved wr G s s' → (∀ b o, h0.get? b = some o → s.heap.get? b = some o) → ∀ b o, h0.get? b = some o → s'.heap.get? b = some o := fun hm hkp b o e =>
    hm.heap b o (fun hb => by rw [hw0 b hb] at e; cases e) (hkp b o e)
  intro k
  induction k with
  | zero =>
    intro i s hk' hi hst hkp ⟨L, es, ep, t, hS, g⟩ hR
    obtain rfl : i = n := by omega
    refine codeAny_builtin F.entry_set_update_loop ?_
    rw [Around.under_plainId F.plain_set_update_loop _]
    show wpAny _ A.in1 (pyNext (.ref I) >>= _) _ _ s
    refine wpAny_bind (W.done s _ _ hst fun s' hm => ?_)
    show wpAny _ A.in1 (ret Value.none) _ _ s'
    have hkp' := keepM hm hkp
    exact wpAny_pure (hR s' L es ep t (hm.mono hsub) (hS.keep (fun o e => hm.heap S o hSw e) fun p hp => (hk p (g.1 p hp)).all hkp') g hkp')
  | succ k ih =>
    intro i s hk' hi hst hkp ⟨L, es, ep, t, hS, g⟩ hR
    have hlt : i < n := by omega
    refine codeAny_builtin F.entry_set_update_loop ?_
    rw [Around.under_plainId F.plain_set_update_loop _]
    show wpAny _ A.in1 (pyNext (.ref I) >>= _) _ _ s
    refine wpAny_bind (W.item i s _ _ hlt hst fun v s' hP hst' hm => ?_)
    obtain ⟨p, hp, rfl⟩ := hval i v hP
    have hkp' := keepM hm hkp
    have hS' : Set3 w s'.heap S L es ep t := hS.keep (fun o e => hm.heap S o hSw e) fun q hq => (hk q (g.1 q hq)).all hkp'
    have hx : Is3 s'.heap p.2 p.1 := (hk p (List.mem_of_getElem? hp)).all hkp'
    show wpAny _ A.in1 (holding [Value.ref p.1] (setAdd S (.ref p.1)) >>= _) _ _ s'
    refine wpAny_bind (wpAny_holding ?_)
    unfold setAdd
    refine wpAny_holding ?_
    refine wpAny_bind (hx.hash hu ?_)
    refine Set3.add (s := { s' with toks := s'.toks + (nk p.2).draws }) hS' hx hu (by have := g.2.2; omega) fun b h' L' es' ep' t' hsb hS2 c1 c2 => ?_
    have g' : Had3 ks (i + 1) L' := by
      rcases Classical.em (p.2 ∈ L.map (·.2)) with c | c
      · rw [c1 c]; exact g.same hp c
      · exact g.more hp (c2 c)
    have hkp2 : ∀ b o, h0.get? b = some o → h'.get? b = some o := fun b o e => (hsb.2 b (fun z => by rw [z, hS0] at e; cases e)).trans (hkp' b o e)
    refine wpAny_pure ⟨plainId_quiet F.plain_set_update_loop _, ih (i + 1) _ (by omega) hlt (W.frame _ s' _ _ hst' (Nat.le_add_right _ _) fun b hb o e => ?_) hkp2 ⟨L', es', ep', t', hS2, g'⟩ fun s'' L2 es2 ep2 t2 hm'' hS'' g'' hkp'' => ?_⟩
    · rw [hsb.2 b (fun h : b = S => hSf (by rw [← h]; exact hb))]; exact e
    · refine hR s'' L2 es2 ep2 t2 (Moved.trans W.gtrans ((hm.mono hsub).then_heap (Nat.le_add_right _ _) fun b o hb e => ?_) hm'') hS'' g'' hkp''
      rw [hsb.2 b (fun h : b = S => hb (by rw [h]; exact List.mem_cons_self))]; exact e
theorem call_set3 {l : Addr} {xs : Array Value} (ks : List (Addr × K3)) {Q : Value → Shared → Prop} (hh : A.handled = none) (hl : s.heap.IsList l xs) (hit : xs.toList = ks.map fun p => Value.ref p.1)
    (hk : ∀ p ∈ ks, Is3 s.heap p.2 p.1) (hfew : ks.length < 64) (hu : A.units + 20 < cLine)
    (h : ∀ (h' : Heap) (tk : Nat) L es ep t, Set3 w h' s.heap.objs.size L es ep t → Had3 ks ks.length L → (∀ b o, s.heap.get? b = some o → h'.get? b = some o) → Q (.ref s.heap.objs.size) { s with heap := h', toks := tk }) :
    wpAny (model P w) A (call (.type "set") [.ref l]) Q E s := by
  have sz : xs.size = ks.length := by
    have q := congrArg List.length hit
    rwa [Array.length_toList, List.length_map] at q
  obtain ⟨c0, tl0, mro0⟩ := F.called_set.mro
  have made0 := F.called_set.made
  have sub0 := F.called_set.sub
  refine wpAny_call (codeAny_of_tree (?_))
  show wpAny _ _ (callAny (.type "set") (_)) _ _ _
  refine wpAny_pure ⟨Code.quiet_builtin (_) (by decide +kernel), codeAny_builtin F.entry_type_call (?_)⟩
  rw [Around.under_plain (weight_type_call_type "set" [.ref l] ([])) rfl]
  have c1 := F.called_set.notType
  have c2 := F.called_set.canCreate
  have c3 := F.typeCall_set_1 (.ref l)
  repeat (any_goals first | assumption | wp_step)
  refine codeAny_mono (code_set_led1 (.ref l) (E := E) (Q₁ := fun obj s₁ => obj = .ref s.heap.objs.size ∧ s₁ = { s with heap := s.heap.push (sob w) }) ⟨rfl, rfl⟩) fun r s₁ hr => (?_)
  cases r with
  | error e => exact hr
  | ok fl =>
    cases fl with
    | ret obj =>
      obtain ⟨rfl, rfl⟩ := hr
      have gS : (s.heap.push (sob w)).get? s.heap.objs.size = some (sob w) := Heap.get?_push_size _ rfl
      have tS : Shared.TypeIs { s with heap := s.heap.push (sob w) } (.ref s.heap.objs.size) "set" := ⟨_, gS, rfl⟩
      have li := F.called_set.init.lookup
      have bi := F.called_set.init.bind (.ref s.heap.objs.size)
      repeat (any_goals first | assumption | wp_step)
      refine codeAny_mono (codeAny_call_builtin (R := wants (fun r s₂ => r = .none ∧ ∃ h' tk L es ep t, s₂ = { s with heap := h', toks := tk } ∧ Set3 w h' s.heap.objs.size L es ep t ∧ Had3 ks ks.length L ∧ (∀ b o, s.heap.get? b = some o → h'.get? b = some o)) E) F.called_set.init.plain F.entry_set_init (check_set_init_1 tS (?_))) fun r₂ s₂ hr₂ => (?_)
      · obtain ⟨ol, gl, cl, nl, dl⟩ := hl
        obtain ⟨ocls, odict, odata, oslots⟩ := ol
        simp only at cl dl
        subst cl; subst dl
        have gl' : (s.heap.push (sob w)).get? l = some { cls := .type "list", dict := odict, data := .seq xs nl, slots := oslots } := Heap.get?_push_of_some _ gl
        have s1 := F.sub_list_set
        have s2 := F.sub_list_frozenset
        have ne : (Value.type "list" == Value.type "dict") = false := by decide
        have hl1 : (s.heap.push (sob w)).IsList l xs := ⟨_, gl', rfl, nl, rfl⟩
        unfold Builtin.«set.__init__» noKeywords Builtin.Frozenset.updateFrom
        generalize hPI : pyIter = PI
        wp_walk
        subst hPI
        refine wpAny_pyIter_list hl1 (?_)
        refine wpAny_bind (wpAny_runValue (?_))
        have lS : l < s.heap.objs.size := Heap.lt_size gl
        have h3 : A.in1.in1.in1.handled = none := by simp [hh]
        have nI : l ≠ (s.heap.push (sob w)).objs.size := by rw [Heap.size_push]; exact Nat.ne_of_lt (Nat.lt_succ_of_lt lS)
        have nS : s.heap.objs.size ∉ [(s.heap.push (sob w)).objs.size, l] := by
          rw [Heap.size_push]; simp only [List.mem_cons, List.not_mem_nil, or_false, not_or]
          exact ⟨Nat.ne_of_lt (Nat.lt_succ_self _), Nat.ne_of_gt lS⟩
        have hv : ∀ (i : Nat) (v : Value), xs[i]? = some v → ∃ p, ks[i]? = some p ∧ v = .ref p.1 := fun i v hv => by
          have q : xs.toList[i]? = some v := by rw [Array.getElem?_toList]; exact hv
          rw [hit, List.getElem?_map] at q
          obtain ⟨p, e1, e2⟩ := Option.map_eq_some_iff.mp q
          exact ⟨p, e1, e2.symm⟩
        have none_of : ∀ b, s.heap.objs.size ≤ b → s.heap.get? b = none := fun b hb => by
          cases q : s.heap.get? b with
          | none => rfl
          | some o => exact absurd (Nat.lt_of_lt_of_le (Heap.lt_size q) hb) (Nat.lt_irrefl _)
        refine fill3 ((Walks.list h3 _ l nI xs).toS) s.heap.objs.size nS ks sz hfew hv s.heap hk (none_of _ (Nat.le_refl _)) (fun b hb => none_of b (by
            rw [List.mem_singleton.mp hb, Heap.size_push]
            exact Nat.le_succ _)) (by show A.units + 1 + 1 + 1 + 8 < cLine; omega) (xs.size - 0) 0 _ (by omega) (Nat.zero_le _) ⟨⟨_, Heap.get?_push_size _ rfl, rfl, rfl⟩, (hl1.push _)⟩ (fun b o e => Heap.get?_push_of_some _ (Heap.get?_push_of_some _ e)) ?hS0 ?hR
        case hS0 =>
          have hg : ((s.heap.push (sob w)).push { cls := .type "list_iterator", data := .fields #[.ref l, .int 0 0] }).get? s.heap.objs.size = some (sob w) := Heap.get?_push_of_some _ gS
          exact ⟨[], #[], 0, _, Set3.new hg, Had3.zero ks⟩
        case hR =>
          intro s' L es ep t hm hS' g' hkp
          obtain ⟨h', g2, d', tk', os'⟩ := s'
          have eg : g2 = s.gens := hm.gens
          have ed : d' = s.drawn := hm.drawn
          have eo : os' = s.os := hm.os
          subst eg; subst ed; subst eo
          show wpAny _ _ _ _ _ _
          refine wpAny_pure (?_)
          show wpAny _ _ (ret Value.none) _ _ _
          rw [sz] at g'
          exact wpAny_pure ⟨rfl, h', tk', L, es, ep, t, rfl, hS', g', hkp⟩
      · cases r₂ with
        | error e => exact hr₂
        | ok f2 =>
          cases f2 with
          | ret r =>
            obtain ⟨rfl, h', tk, L, es, ep, t, rfl, q1, q2, q3⟩ := hr₂
            repeat (any_goals first | assumption | wp_step)
            exact h _ _ _ _ _ _ q1 q2 q3
          | _ => exact hr₂.elim
    | _ => exact hr.elim
def fst3 (h : Heap) (v : Value) : Int := match v with
  | .ref a => match (h.get? a).map (·.data) with
    | some (Data.seq vs _) => match vs[0]? with
      | some (Value.int i _) => i
      | _ => 0
    | _ => 0
  | _ => 0
theorem Is3.fst {h : Heap} {k : K3} {a : Addr} (x : Is3 h k a) : fst3 h (.ref a) = k.1 := by
  obtain ⟨b, t, t1, t2, ⟨o, g, c, n, d⟩, _⟩ := x
  unfold fst3
  simp only [g, Option.map_some, d]
  rfl
theorem firsts3 {h : Heap} : ∀ vs : List Value, (∀ v ∈ vs, ∃ a k, v = .ref a ∧ Is3 h k a) → ∃ fs, PySem.W.KatTups h vs fs ∧ fs.length = vs.length ∧ ∀ f, f ∈ fs → ∃ n t, f = Value.int n t
  | [], _ => ⟨[], PySem.W.KatTups.nil, rfl, fun f hf => absurd hf (by simp)⟩
  | v :: vs, x => by
    obtain ⟨fs, k, hl, hi⟩ := firsts3 vs fun u hu => x u (List.mem_cons_of_mem _ hu)
    obtain ⟨a, q, rfl, b, t, t1, t2, ⟨o, g, c, n, d⟩, _⟩ := x v (by simp)
    refine ⟨.int q.1 t :: fs, PySem.W.KatTups.cons g c d rfl k, by simp [hl], fun f hf => ?_⟩
    rcases List.mem_cons.mp hf with rfl | hf
    · exact ⟨_, _, rfl⟩
    · exact hi f hf
theorem lt3 {k q : K3} {a b : Addr} {Q : Bool → Shared → Prop} {c : Bool} (x : Is3 s.heap k a) (y : Is3 s.heap q b) (one : k.1 = q.1 → k = q) (hu : A.units + 8 < cLine) (h : Q (decide (k.1 < q.1)) s) :
    wpAny (model P w) A (keyLt' (tuples' c) (.ref a) (.ref b)) Q E s := by
  obtain ⟨b1, t, t1, t2, x1, x2⟩ := x
  obtain ⟨b2, u, u1, u2, y1, y2⟩ := y
  obtain ⟨o, g, hc, n, d⟩ := x1
  obtain ⟨o', g', hc', n', d'⟩ := y1
  refine PySem.W.kat_lt g d g' d' ?_
  show PySem.W.KatLex P w A c false Q [(Value.int k.1 t, Value.int q.1 u), (Value.ref b1, Value.ref b2)] 0 s
  refine PySem.W.kat_cons (wpAny_eqBool_int ?_)
  by_cases e : k.1 = q.1
  · have ek := one e
    rw [e, beq_self_eq_true]
    refine PySem.W.kat_yes (PySem.W.kat_cons ?_)
    obtain ⟨p, gp, cp, m, dp⟩ := x2
    obtain ⟨p', gp', cp', m', dp'⟩ := y2
    have n1 : NestedIs s.heap (.tup [.num k.2.1, .num k.2.2]) (.ref b1) := .tup gp cp dp (.cons (.int _ t1) (.cons (.int _ t2) .nil))
    have n2 : NestedIs s.heap (.tup [.num k.2.1, .num k.2.2]) (.ref b2) := by rw [ek]; exact .tup gp' cp' dp' (.cons (.int _ u1) (.cons (.int _ u2) .nil))
    refine eqAt_key _ _ A s _ _ n1 n2 (by simp only [NestedKey.depth, NestedKey.depthAll]; omega) _ _ _ _ ?_
    rw [NestedKey.beq_self]
    refine PySem.W.kat_yes (PySem.W.kat_nil ?_)
    rw [e, decide_eq_false (Int.lt_irrefl _)] at h
    exact h
  · rw [beq_eq_false_iff_ne.mpr e]
    exact PySem.W.kat_no (TS.oneLt_ints _ h)
theorem sort3 {a : Addr} {vs : List Value} {n : Nat} {R : PySem.Fin → Shared → Prop} (ho : s.heap.get? a = some (seqObj "list" vs.toArray n)) (h64 : vs.length < 64) (hu : A.units + 8 < cLine)
    (x : ∀ v ∈ vs, ∃ b k, v = .ref b ∧ Is3 s.heap k b) (one : ∀ v ∈ vs, ∀ u ∈ vs, ∀ b c k q, v = .ref b → u = .ref c → Is3 s.heap k b → Is3 s.heap q c → k.1 = q.1 → k = q)
    (h : ∀ out : Array Value, out.toList.Perm vs → out.toList.Pairwise (fun u v => fst3 s.heap u ≤ fst3 s.heap v) → R (.done (.ret .none)) { s with heap := sortedHeap s.heap a vs out }) :
    wpAny (model P w) A (Builtin.«list.sort» ⟨[.ref a], []⟩) R E s := by
  have keep : ∀ b o, s.heap.get? b = some o → o.cls = .type "tuple" → (TS.midHeap s.heap a vs).get? b = some o := fun b o e hc => by
    refine TS.midHeap_old ?_ e
    rintro rfl
    rw [ho] at e
    have e' : seqObj "list" vs.toArray n = o := Option.some.inj e
    rw [← e'] at hc
    have c' : Value.type "list" = Value.type "tuple" := hc
    injection c' with c''
    exact absurd c'' (by decide)
  have x' : ∀ v ∈ vs, ∃ b k, v = .ref b ∧ Is3 s.heap k b ∧ Is3 (TS.midHeap s.heap a vs) k b := fun v hv => by
    obtain ⟨b, k, e, i⟩ := x v hv
    exact ⟨b, k, e, i, i.stay keep⟩
  refine SK.plain_sort (r := fst3 s.heap) ho h64 (fun h2 Q hQ => ?_) fun ps out h1 h2 h3 => ?_
  · obtain ⟨fs, kt, hl, hi⟩ := firsts3 (h := TS.midHeap s.heap a vs) vs fun v hv => by
      obtain ⟨b, k, e, _, i⟩ := x' v hv
      exact ⟨b, k, e, i⟩
    refine PySem.W.kat_kind (s := { s with heap := TS.midHeap s.heap a vs }) (T := Value.type "int") kt (by omega) (fun f hf => ?_) rfl (hQ _ ?_)
    · obtain ⟨n, t, rfl⟩ := hi f hf
      exact PySem.W.Looks.of_pure rfl
    · intro p q hp hq Q' E' hQ'
      rw [pairsOf_toList] at hp hq
      have mp := (mem_zip_self hp).2
      have mq := (mem_zip_self hq).2
      obtain ⟨b, k, e1, i0, i1⟩ := x' _ mp
      obtain ⟨c, r, e2, j0, j1⟩ := x' _ mq
      have eq0 := one _ mp _ mq b c k r e1 e2 i0 j0
      rw [e1, e2] at hQ' ⊢
      rw [i0.fst, j0.fst] at hQ'
      exact lt3 (s := { s with heap := TS.midHeap s.heap a vs }) i1 j1 eq0 hu hQ'
  · obtain ⟨p, o⟩ := TS.out_rank h1 h2 h3
    exact h out p o
theorem sorted3 {a : Addr} {L : List (Addr × K3)} {es : Array (Int × Value)} {ep : Nat} {t : SetTable} {Q : Value → Shared → Prop} (R : Set3 w s.heap a L es ep t) (hh : A.handled = none) (hu : A.units + 20 < cLine)
    (one : ∀ p ∈ L, ∀ q ∈ L, p.2.1 = q.2.1 → p.2 = q.2)
    (hQ : ∀ s' p (out : Array Value) (c : Nat) (L' : List (Addr × K3)), (∀ b o, s.heap.get? b = some o → s'.heap.get? b = some o) → s'.gens = s.gens → s'.os = s.os → s.heap.objs.size ≤ p →
      s'.heap.get? p = some (seqObj "list" out c) → out.toList = L'.map (fun q => Value.ref q.1) → (∀ p, p ∈ L' → p ∈ L) → (∀ k, k ∈ L'.map (·.2) ↔ k ∈ L.map (·.2)) → L'.length = L.length → L'.Pairwise (fun q r => q.2.1 < r.2.1) → Q (.ref p) s') :
    wpAny (model P w) A (call (.builtin "sorted") [.ref a]) Q E s := by
  obtain ⟨o, ho, hex, hd⟩ := R.ob
  have hsz := R.size
  have hfew := R.few
  refine Calls.call_function_entry kind_sorted plain_sorted entry_sorted (args_sorted1 _) ?_
  unfold Builtin.«sorted»
  refine wpAny_bind (m := checkCount "sorted" 1 1 _) (wpAny_pure ?_)
  refine wpAny_bind (collect_set (A := A.in1) hh ⟨o, ho, hex.1, hd⟩ R.fits (by unfold scanBound; omega) R.tab.ris R.led fun s1 vs k1 hz g1 o1 pm => ?_)
  have hes : es.toList.map (·.2) = L.map fun q => Value.ref q.1 := by
    rw [R.rows, List.map_map]; rfl
  rw [hes] at pm
  have hvl : vs.length < 64 := by rw [pm.length_eq, List.length_map]; exact hfew
  refine wpAny_bind (wpAny_newList ?_ (by rw [sizeLine_eq]; omega))
  have hoL : (s1.heap.push (seqObj "list" vs.toArray 0)).get? s1.heap.objs.size = some (seqObj "list" vs.toArray 0) := Heap.get?_push_size _ rfl
  have tk : ∀ q ∈ L, Is3 (s1.heap.push (seqObj "list" vs.toArray 0)) q.2 q.1 := fun q hq => (R.tup q hq).all fun b u e => Heap.get?_push_of_some _ (k1 b u e)
  have frm : ∀ v, v ∈ vs → ∃ q ∈ L, Value.ref q.1 = v := fun v hv => List.mem_map.mp (pm.mem_iff.mp hv)
  refine wpAny_bind (wpAny_holding (wpAny_call_entry slot_list_sort ⟨_, hoL, rfl⟩ entry_list_sort (sort3 (s := { s1 with heap := s1.heap.push (seqObj "list" vs.toArray 0) }) hoL hvl (by show A.units + 1 + 1 + 8 < cLine; omega) (fun v hv => ?_) (fun v hv u hu' b c k q ev eu ik jq he => ?_) fun out a1 a2 => ⟨_, rfl, ?_⟩) (args_list_sort _)))
  · obtain ⟨q, hq, e⟩ := frm v hv
    exact ⟨q.1, q.2, e.symm, tk q hq⟩
  · obtain ⟨p, hp, e1⟩ := frm v hv
    obtain ⟨r, hr, e2⟩ := frm u hu'
    rw [ev] at e1
    rw [eu] at e2
    injection e1 with e1
    injection e2 with e2
    subst e1 e2
    have h1 := (tk p hp).inj ik
    have h2 := (tk r hr).inj jq
    rw [← h1, ← h2] at he ⊢
    exact one p hp r hr he
  obtain ⟨c, hc⟩ := sortedHeap_at (vs := vs) (out := out) hoL
  have ord : ∀ us : List Value, (∀ v ∈ us, ∃ q ∈ L, Value.ref q.1 = v) → ∃ L1 : List (Addr × K3), us = L1.map (fun q => Value.ref q.1) ∧ ∀ q ∈ L1, q ∈ L := by
    intro us
    induction us with
    | nil => intro _; exact ⟨[], rfl, fun q hq => absurd hq (by simp)⟩
    | cons v us ih =>
      intro hv
      obtain ⟨q, hq, e⟩ := hv v (by simp)
      obtain ⟨L1, e1, hs⟩ := ih fun u hu => hv u (List.mem_cons_of_mem _ hu)
      refine ⟨q :: L1, by rw [List.map_cons, e, e1], fun r hr => ?_⟩
      rcases List.mem_cons.mp hr with z | z
      · rw [z]; exact hq
      · exact hs r z
  obtain ⟨L', e', hs'⟩ := ord out.toList fun v hv => frm v (a1.mem_iff.mp hv)
  have addr1 : ∀ q ∈ L, ∀ r ∈ L, q.1 = r.1 → q = r := fun q hq r hr e => by
    have b1 := R.tup q hq
    have b2 := R.tup r hr
    rw [e] at b1
    exact Prod.ext e (b1.inj b2)
  have pm2 : (L'.map fun q => Value.ref q.1).Perm (L.map fun q => Value.ref q.1) := by rw [← e']; exact a1.trans pm
  have mem : ∀ q, q ∈ L → q ∈ L' := fun q hq => by
    obtain ⟨r, hr, e⟩ := List.mem_map.mp (pm2.mem_iff.mpr (List.mem_map.mpr ⟨q, hq, rfl⟩))
    injection e with e
    rw [← addr1 r (hs' r hr) q hq e]; exact hr
  have hlen : L'.length = L.length := by have := pm2.length_eq; rwa [List.length_map, List.length_map] at this
  have nodL : L.Nodup := nodup_of_map R.nd
  have nodR : (L.map fun q => Value.ref q.1).Nodup := List.pairwise_map.mpr (List.Pairwise.imp_of_mem (fun {q r} hq hr hne e => by
    injection e with e
    exact hne (addr1 q hq r hr e)) nodL)
  have nodL' : L'.Nodup := nodup_of_map (pm2.nodup_iff.mpr nodR)
  have pw : L'.Pairwise (fun q r => q.2.1 < r.2.1) := by
    rw [e'] at a2
    have a3 := List.pairwise_map.mp a2
    refine List.Pairwise.imp_of_mem (fun {q r} hq hr hle => ?_) (a3.and nodL')
    have f1 : fst3 (s1.heap.push (seqObj "list" vs.toArray 0)) (.ref q.1) = q.2.1 := (tk q (hs' q hq)).fst
    have f2 : fst3 (s1.heap.push (seqObj "list" vs.toArray 0)) (.ref r.1) = r.2.1 := (tk r (hs' r hr)).fst
    have h1 := hle.1
    have h2 := hle.2
    rw [f1, f2] at h1
    have ne : q.2.1 ≠ r.2.1 := fun e => h2 (by
      have e2 := one q (hs' q hq) r (hs' r hr) e
      obtain ⟨i, hi⟩ := List.mem_iff_getElem?.mp (hs' q hq)
      obtain ⟨j, hj⟩ := List.mem_iff_getElem?.mp (hs' r hr)
      have hi' : (L.map (·.2))[i]? = some q.2 := by rw [List.getElem?_map, hi, Option.map_some]
      have hj' : (L.map (·.2))[j]? = some q.2 := by rw [List.getElem?_map, hj, Option.map_some, e2]
      have := (List.getElem?_inj (List.getElem?_eq_some_iff.mp hi').1 R.nd).mp (hi'.trans hj'.symm)
      rw [this, hj] at hi
      exact (Option.some.inj hi).symm)
    omega
  refine wpAny_pure ⟨_, rfl, hQ _ s1.heap.objs.size out c L' (fun b u e => ?_) g1 o1 hz hc e' hs' (fun k => ⟨fun h => ?_, fun h => ?_⟩) hlen pw⟩
  · have q := k1 b u e
    have hlt := Heap.lt_size q
    show (sortedHeap (s1.heap.push (seqObj "list" vs.toArray 0)) s1.heap.objs.size vs out).get? b = some u
    rw [sortedHeap_old (Nat.ne_of_lt hlt) (by rw [size_push']; exact Nat.lt_succ_of_lt hlt)]
    exact Heap.get?_push_of_some _ q
  · obtain ⟨p, hp, e⟩ := List.mem_map.mp h
    exact List.mem_map.mpr ⟨p, hs' p hp, e⟩
  · obtain ⟨p, hp, e⟩ := List.mem_map.mp h
    exact List.mem_map.mpr ⟨p, mem p hp, e⟩
end
end Pm
set_option Elab.async false
set_option linter.all false
set_option maxRecDepth 100000
set_option maxHeartbeats 1000000
set_option autoImplicit false
namespace Pm
open PySem PySem.Spec PySem.W
open PyProof.Rows hiding St
open L2
def k3D (k : K3) : D := .tup [.int k.1, .tup [.int k.2.1, .int k.2.2]]
def At3 (K : PySem.W.Frag) (H : Hp) (k : K3) (t : Addr) : Prop := ∃ b, SqT K H t [.int k.1, .ref b] ∧ SqT K H b [.int k.2.1, .int k.2.2]
section
variable {X : Cx}
theorem At3.is {pins : List (Addr × Obj)} {σ : St} {H : Hp} {s : Shared} (I : Inv X pins σ H s) {k : K3} {t : Addr} (h : At3 X.K H k t) : Is3 s.heap k t := by
  obtain ⟨b, h1, h2⟩ := h
  obtain ⟨its, rv, x1, _⟩ := I.tuple h1
  obtain ⟨its', rv', x2, _⟩ := I.tuple h2
  cases rv with
  | cons r1 r =>
    cases r with
    | cons r2 r =>
      cases r
      obtain ⟨t1, rfl⟩ := r1
      cases r2
      cases rv' with
      | cons r3 r' =>
        cases r' with
        | cons r4 r' =>
          cases r'
          obtain ⟨t3, rfl⟩ := r3
          obtain ⟨t4, rfl⟩ := r4
          exact ⟨b, t1, t3, t4, x1, x2⟩
def tSortSet3 (K : PySem.W.Frag) (ta : TE) : TE := fun σ H Q => ta σ H fun x H1 => ∃ (l : Addr) (ks : List (Addr × K3)), x = V.ref l ∧ SqL K H1 l (ks.map fun p => V.ref p.1) ∧ (∀ p ∈ ks, At3 K H1 p.2 p.1) ∧ ks.length < 64 ∧
  (∀ p ∈ ks, ∀ q ∈ ks, p.2.1 = q.2.1 → p.2 = q.2) ∧
  ∀ (L : List (Addr × K3)) (p : Addr), L.Pairwise (fun q r => q.2.1 < r.2.1) → (∀ p ∈ L, p ∈ ks) → (∀ k, k ∈ L.map (·.2) ↔ k ∈ ks.map (·.2)) → H1 p = none → Q (.ref p) (upd H1 p (.lst (L.map fun q => V.ref q.1)))
theorem refs_vals3 : ∀ {ks : List (Addr × K3)} {us : List Value}, Vals (ks.map fun p => V.ref p.1) us → us = ks.map fun p => Value.ref p.1
  | [], _, .nil => rfl
  | p :: ks, _, .cons r t => by
    cases r
    rw [refs_vals3 t]; rfl
theorem vals_refs3 : ∀ (ks : List (Addr × K3)), Vals (ks.map fun p => V.ref p.1) (ks.map fun p => Value.ref p.1)
  | [] => .nil
  | p :: ks => .cons rfl (vals_refs3 ks)
theorem pe_sortSet3 {a : Expr} {ta : TE} {p p2 q pos : Pos} (hu : X.A.units + 60 < cLine) (hc : X.calm = true) (hg : Gl X "sorted") (hm : X.mg "sorted" = none) (hg2 : Gl X "set") (hm2 : X.mg "set" = none) (ha : PE X a ta)
    (na : starEach [a] X.env = (false, eval a X.env) :: starEach [] X.env := by rfl) : PE X (.Call (.Name "sorted" p) [.Call (.Name "set" p2) [a] [] q] [] pos) (tSortSet3 X.K ta) := by
  refine ⟨fun pins s σ H Q I h => ?_⟩
  refine Call_ (ld_blt I hg hm PyProof.Rows.boot_sorted ?_)
  refine PyProof.Rows.callWith_builtin1 (PyProof.Rows.args_cons ?_ rfl) rfl rfl
  refine Call_ (ld_blt I hg2 hm2 PyProof.Rows.boot_set ?_)
  refine PyProof.Rows.callWith_type1 (PyProof.Rows.args_cons (thn (ha.run pins s σ H _ I h) fun v s1 ⟨x, H1, I1, r1, q1⟩ => PyProof.Rows.args_nil ?_) na) na rfl
  obtain ⟨l, ks, rfl, hq, hk, hf, one, q1⟩ := q1
  cases r1
  obtain ⟨its, r, pt, hz⟩ := I1.list hq
  have hd := I1.ok.hd hc
  refine call_set3 ks hd (show s1.heap.IsList l its.toArray from pt.isList) (by simpa using refs_vals3 r) (fun p hp => (hk p hp).is I1) hf (by omega) fun h' tk L es ep t R1 g k => ?_
  refine PyProof.Rows.args_nil ?_
  have I2 : Inv X pins σ H1 { s1 with heap := h', toks := tk } := I1.kept k
  refine sorted3 R1 hd (by show X.A.units + 20 < cLine; omega) (fun p hp q hq => one p (g.1 p hp) q (g.1 q hq)) fun s' p out c' L' k2 gg o hp hget hout hsub hmem hlen hpw => ?_
  have few := R1.few
  have hn : H1 p = none := I2.hok.fresh hp
  have hl : (L'.map fun q => V.ref q.1).length ≤ sizeLine := by rw [List.length_map, sizeLine_eq]; omega
  have hv : Vals (L'.map fun q => V.ref q.1) out.toList := by rw [hout]; exact vals_refs3 L'
  have J : Inv X pins σ (upd H1 p (.lst (L'.map fun q => V.ref q.1))) { ({ s1 with heap := h', toks := tk } : Shared) with heap := s'.heap, gens := s'.gens, drawn := s'.drawn, toks := s'.toks } :=
    I2.call (ch := []) (Un.laid k2 hp hn) (I2.hok.laid k2 hp ⟨hl, out.toList, c', hv, hget⟩) (by rw [gg]; exact I2.bare) (fun _ z => nomatch z)
  have e : s' = { ({ s1 with heap := h', toks := tk } : Shared) with heap := s'.heap, gens := s'.gens, drawn := s'.drawn, toks := s'.toks } := by
    cases s'
    cases s1
    cases o
    rfl
  rw [e]
  refine ⟨.ref p, _, J, rfl, q1 L' p hpw (fun q hq => g.1 q (hsub q hq)) (fun k => ?_) hn⟩
  rw [hmem k, ← g.2.1 k, List.take_length]
end
section
variable {γ : Type} {X : Cx} {G : GP γ}
theorem ats_k3 {K : PySem.W.Frag} {Z : Hp} : ∀ {ks : List K3} {vs : List V}, Ats K Z (ks.map k3D) vs → ∃ L : List (Addr × K3), vs = L.map (fun p => V.ref p.1) ∧ L.map (·.2) = ks ∧ ∀ p ∈ L, At3 K Z p.2 p.1
  | [], vs, h => by
    have h : vs = [] := h
    exact ⟨[], h, rfl, fun _ h => absurd h (by simp)⟩
  | k :: ks, vs, h => by
    obtain ⟨w, ws, rfl, h1, h2⟩ := h
    obtain ⟨L, e1, e2, e3⟩ := ats_k3 h2
    obtain ⟨t, us, rfl, a1, a2⟩ := h1
    obtain ⟨x, us, rfl, b1, b2⟩ := a2
    obtain ⟨y, us, rfl, b2, b3⟩ := b2
    have b3 : us = [] := b3
    subst b3
    obtain ⟨t2, us2, rfl, c1, c2⟩ := b2
    obtain ⟨x2, us2, rfl, d1, d2⟩ := c2
    obtain ⟨y2, us2, rfl, d2, d3⟩ := d2
    have d3 : us2 = [] := d3
    have b1 : x = V.int k.1 := b1
    have d1 : x2 = V.int k.2.1 := d1
    have d2 : y2 = V.int k.2.2 := d2
    subst d3 b1 d1 d2
    refine ⟨(t, k) :: L, by rw [e1]; rfl, by rw [List.map_cons, e2], fun p hp => ?_⟩
    rcases List.mem_cons.mp hp with rfl | hp
    · exact ⟨t2, a1, c1⟩
    · exact e3 p hp
theorem At3.at {K : PySem.W.Frag} {Z : Hp} {k : K3} {t : Addr} (h : At3 K Z k t) : At K Z (k3D k) (.ref t) := by
  obtain ⟨b, h1, h2⟩ := h
  exact ⟨t, _, rfl, h1, _, _, rfl, rfl, _, _, rfl, ⟨b, _, rfl, h2, _, _, rfl, rfl, _, _, rfl, rfl, rfl⟩, rfl⟩
theorem ats_of_k3 {K : PySem.W.Frag} {Z : Hp} : ∀ {L : List (Addr × K3)}, (∀ p ∈ L, At3 K Z p.2 p.1) → Ats K Z ((L.map (·.2)).map k3D) (L.map fun p => V.ref p.1)
  | [], _ => rfl
  | p :: L, h => ⟨_, _, rfl, (h p (by simp)).at, ats_of_k3 fun q hq => h q (List.mem_cons_of_mem _ hq)⟩
def qSortSet3 (te : PEx γ) : PAx γ := fun s R => te s fun d s1 => match d with
  | .lst xs => ∃ ks : List K3, xs = ks.map k3D ∧ ks.length < 64 ∧ (∀ p ∈ ks, ∀ q ∈ ks, p.1 = q.1 → p = q) ∧ ∀ out : List K3, out.Pairwise (fun p q => p.1 < q.1) → (∀ k, k ∈ out ↔ k ∈ ks) → R (out.map k3D) s1
  | _ => False
theorem qf_sortSet3 {k : Nat} {a : Expr} {te : PEx γ} {p p2 q pos : Pos} (hr : Room k X.A) (hc : X.calm = true) (hg : Gl X "sorted") (hm : X.mg "sorted" = none) (hg2 : Gl X "set") (hm2 : X.mg "set" = none) (ha : QE X G a te) (hK : G.K = X.K := by rfl)
    (na : starEach [a] X.env = (false, eval a X.env) :: starEach [] X.env := by rfl) : QF X G (.Call (.Name "sorted" p) [.Call (.Name "set" p2) [a] [] q] [] pos) (qSortSet3 te) := by
  refine PE.imp (pe_sortSet3 (by have := hr.units; omega) hc hg hm hg2 hm2 ha na) fun σ H Q ⟨F, Z, s, R, r, t, q⟩ => ?_
  refine ⟨F, Z, s, _, r, t, fun d s1 Z1 v H1 t1 k1 r1 a1 => ?_⟩
  match d, t1 with
  | .lst xs, ⟨ks, exs, hl, one, t1⟩ =>
    subst exs
    obtain ⟨l, vs, rfl, a2, a3⟩ := a1
    obtain ⟨L, rfl, e2, e3⟩ := ats_k3 a3
    subst e2
    have hl' : L.length < 64 := by simpa using hl
    refine ⟨l, L, rfl, .inl (.inl (r1.z _ _ a2)), fun p hp => ?_, hl', fun p hp q hq => one p.2 (List.mem_map.mpr ⟨p, hp, rfl⟩) q.2 (List.mem_map.mpr ⟨q, hq, rfl⟩), fun L' p hpw hsub hmem hn => ?_⟩
    · obtain ⟨b, h1, h2⟩ := e3 p hp
      exact ⟨b, hK ▸ seqT r1.z h1, hK ▸ seqT r1.z h2⟩
    · obtain ⟨f1, f2, f3, f4⟩ := r1.fresh hn
      exact q _ s1 Z1 p _ _ (t1 (L'.map (·.2)) (List.pairwise_map.mpr hpw) hmem) k1 (r1.grow (same_upd hn)) upd_same (ats_of_k3 fun p hp => e3 p (hsub p hp)) f1 f2 f3 f4
end
end Pm
set_option Elab.async false
set_option linter.all false
set_option maxRecDepth 100000
set_option maxHeartbeats 1000000
set_option autoImplicit false
namespace Pm
open PySem PySem.Spec
open L2
def cmN (r : Nat → Rat) : Nat → Int
  | 0 => 1
  | k + 1 => cmN r k * ((r k).den : Int)
theorem cmN_pos (r : Nat → Rat) : ∀ k, 0 < cmN r k
  | 0 => (by decide : (0 : Int) < 1)
  | k + 1 => Int.mul_pos (cmN_pos r k) (by have := (r k).den_pos; omega)
theorem cmN_sz {r : Nat → Rat} {b : Nat} : ∀ {k : Nat}, (∀ i, i < k → SzR b (r i)) → Sz (1 + k * b) (cmN r k)
  | 0, _ => (sz_one (by decide) : Sz 1 1).le (by omega)
  | k + 1, h => by
    have := (cmN_sz (r := r) (k := k) fun i hi => h i (by omega)).mul (h k (by omega)).2
    exact this.le (by rw [Nat.add_mul]; omega)
theorem cmN_dvd {r : Nat → Rat} : ∀ {k i : Nat}, i < k → ((r i).den : Int) ∣ cmN r k
  | k + 1, i, h => by
    rcases Nat.lt_or_ge i k with z | z
    · exact Int.dvd_trans (cmN_dvd z) (Int.dvd_mul_right _ _)
    · obtain rfl : i = k := by omega
      exact Int.dvd_mul_left _ _
def hvN (c : Int) (x : Rat) : Int := x.num * c.fdiv x.den
theorem hv_eq {c : Int} {x : Rat} (h : ((x.den : Nat) : Int) ∣ c) : ((hvN c x : Int) : Rat) = x * (c : Rat) := by
  obtain ⟨q, rfl⟩ := h
  have d0 : ((x.den : Nat) : Int) ≠ 0 := by have := x.den_pos; omega
  unfold hvN
  rw [Int.mul_fdiv_cancel_left _ d0, Rat.intCast_mul, Rat.intCast_mul, num_den x]
  grind
theorem hv_lt {c : Int} {x y : Rat} (hc : 0 < c) (hx : ((x.den : Nat) : Int) ∣ c) (hy : ((y.den : Nat) : Int) ∣ c) : hvN c x < hvN c y ↔ x < y := by
  rw [← Rat.intCast_lt_intCast, hv_eq hx, hv_eq hy]
  have cp : (0 : Rat) < (c : Rat) := Rat.intCast_pos.mpr hc
  constructor
  · intro h
    rcases (show x < y ∨ y ≤ x by grind) with z | z
    · exact z
    · have := Rat.mul_le_mul_of_nonneg_right z (Rat.le_of_lt cp); grind
  · exact fun h => Rat.mul_lt_mul_of_pos_right h cp
theorem hv_inj {c : Int} {x y : Rat} (hc : 0 < c) (hx : ((x.den : Nat) : Int) ∣ c) (hy : ((y.den : Nat) : Int) ∣ c) (h : hvN c x = hvN c y) : x = y := by
  have h1 := mt (hv_lt hc hx hy).mpr (by omega)
  have h2 := mt (hv_lt hc hy hx).mpr (by omega)
  grind
def kqN (c : Int) (x : Rat) : K3 := (hvN c x, x.num, (x.den : Int))
structure LvP (n : Nat) (r : Nat → Rat) (vs : List Rat) : Prop where
  up : vs.Pairwise (· < ·)
  mem : ∀ v, v ∈ vs ↔ ∃ i, i < n ∧ r i = v
theorem incr_eq : ∀ {a b : List Rat}, a.Pairwise (· < ·) → b.Pairwise (· < ·) → (∀ v, v ∈ a ↔ v ∈ b) → a = b
  | [], [], _, _, _ => rfl
  | [], y :: b, _, _, h => absurd ((h y).mpr (by simp)) (by simp)
  | x :: a, [], _, _, h => absurd ((h x).mp (by simp)) (by simp)
  | x :: a, y :: b, ha, hb, h => by
    obtain ⟨a1, a2⟩ := List.pairwise_cons.mp ha
    obtain ⟨b1, b2⟩ := List.pairwise_cons.mp hb
    have e : x = y := by
      rcases List.mem_cons.mp ((h x).mp (by simp)) with z | z
      · exact z
      · rcases List.mem_cons.mp ((h y).mpr (by simp)) with w | w
        · exact w.symm
        · have := b1 x z; have := a1 y w; grind
    subst e
    congr 1
    refine incr_eq a2 b2 fun v => ⟨fun hv => ?_, fun hv => ?_⟩
    · rcases List.mem_cons.mp ((h v).mp (by simp [hv])) with z | z
      · subst z; have := a1 v hv; grind
      · exact z
    · rcases List.mem_cons.mp ((h v).mpr (by simp [hv])) with z | z
      · subst z; have := b1 v hv; grind
      · exact z
theorem LvP.eq {n : Nat} {r s : Nat → Rat} {vs ws : List Rat} (a : LvP n r vs) (b : LvP n s ws) (h : ∀ i, i < n → r i = s i) : vs = ws :=
  incr_eq a.up b.up fun v => by
    rw [a.mem, b.mem]
    exact ⟨fun ⟨i, hi, e⟩ => ⟨i, hi, by rw [← h i hi]; exact e⟩, fun ⟨i, hi, e⟩ => ⟨i, hi, by rw [h i hi]; exact e⟩⟩
theorem LvP.congr {n : Nat} {r s : Nat → Rat} {vs : List Rat} (a : LvP n r vs) (h : ∀ i, i < n → s i = r i) : LvP n s vs :=
  ⟨a.up, fun v => by
    rw [a.mem]
    exact ⟨fun ⟨i, hi, e⟩ => ⟨i, hi, by rw [h i hi]; exact e⟩, fun ⟨i, hi, e⟩ => ⟨i, hi, by rw [← h i hi]; exact e⟩⟩⟩
theorem nodup_lenR : ∀ {l m : List Rat}, l.Nodup → (∀ k ∈ l, k ∈ m) → l.length ≤ m.length
  | [], m, _, _ => Nat.zero_le _
  | x :: l, m, hn, hs => by
    obtain ⟨h1, h2⟩ := List.nodup_cons.mp hn
    have hx := hs x (by simp)
    have ih := nodup_lenR (l := l) (m := m.erase x) h2 fun k hk => (List.mem_erase_of_ne (fun e => h1 (by rw [← e]; exact hk))).mpr (hs k (by simp [hk]))
    rw [List.length_erase_of_mem hx] at ih
    have := List.length_pos_of_mem hx
    simp only [List.length_cons]; omega
theorem LvP.len {n : Nat} {r : Nat → Rat} {vs : List Rat} (a : LvP n r vs) : vs.length ≤ n := by
  have := nodup_lenR (l := vs) (m := (List.range n).map r) (a.up.imp fun h e => by grind) fun v hv => by
    obtain ⟨i, hi, e⟩ := (a.mem v).mp hv
    exact List.mem_map.mpr ⟨i, List.mem_range.mpr hi, e⟩
  simpa using this
def lvG (n : Nat) (r : Nat → Rat) (v : Rat) : List Nat := (List.range n).filter fun i => decide (r i = v)
def lvE (n : Nat) (r : Nat → Rat) (v : Rat) : D := .tup [frD v, grD (lvG n r v)]
def lvD (n : Nat) (r : Nat → Rat) (vs : List Rat) : D := .tup (vs.map (lvE n r))
theorem lvG_congr {n : Nat} {r s : Nat → Rat} (h : ∀ i, i < n → r i = s i) (v : Rat) : lvG n r v = lvG n s v := by
  unfold lvG
  exact List.filter_congr fun i hi => by rw [h i (List.mem_range.mp hi)]
theorem lvD_congr {n : Nat} {r s : Nat → Rat} (h : ∀ i, i < n → r i = s i) (vs : List Rat) : lvD n r vs = lvD n s vs := by
  unfold lvD lvE
  congr 1
  exact List.map_congr_left fun v _ => by rw [lvG_congr h]
theorem lv_of {n : Nat} {r : Nat → Rat} {c : Int} (hc : 0 < c) (hd : ∀ i, i < n → ((r i).den : Int) ∣ c) {out : List K3} (hp : out.Pairwise fun p q => p.1 < q.1) (hm : ∀ k, k ∈ out ↔ k ∈ (List.range n).map fun i => kqN c (r i)) :
    ∃ vs, LvP n r vs ∧ out = vs.map (kqN c) := by
  have back : ∀ k, k ∈ out → ∃ i, i < n ∧ k = kqN c (r i) ∧ Rat.divInt k.2.1 k.2.2 = r i := fun k hk => by
    obtain ⟨i, hi, e⟩ := List.mem_map.mp ((hm k).mp hk)
    exact ⟨i, List.mem_range.mp hi, e.symm, by rw [← e]; exact Rat.num_divInt_den (r i)⟩
  have e : out = (out.map fun k => Rat.divInt k.2.1 k.2.2).map (kqN c) := by
    rw [List.map_map]
    conv => lhs; rw [← List.map_id out]
    exact List.map_congr_left fun k hk => by
      obtain ⟨i, hi, e1, e2⟩ := back k hk
      show k = kqN c (Rat.divInt k.2.1 k.2.2)
      rw [e2, ← e1]
  refine ⟨out.map fun k => Rat.divInt k.2.1 k.2.2, ⟨List.pairwise_map.mpr (hp.imp_of_mem fun {p q} hp hq h => ?_), fun v => ?_⟩, e⟩
  · obtain ⟨i, hi, a1, a2⟩ := back p hp
    obtain ⟨j, hj, b1, b2⟩ := back q hq
    rw [a2, b2]
    rw [a1, b1] at h
    exact (hv_lt hc (hd i hi) (hd j hj)).mp h
  · rw [List.mem_map]
    constructor
    · rintro ⟨k, hk, rfl⟩
      obtain ⟨i, hi, _, a2⟩ := back k hk
      exact ⟨i, hi, a2.symm⟩
    · rintro ⟨i, hi, rfl⟩
      exact ⟨kqN c (r i), (hm _).mpr (List.mem_map.mpr ⟨i, List.mem_range.mpr hi, rfl⟩), Rat.num_divInt_den (r i)⟩
theorem lvG_len (n : Nat) (r : Nat → Rat) (v : Rat) : (lvG n r v).length ≤ n := by
  unfold lvG
  have := List.length_filter_le (fun i => decide (r i = v)) (List.range n)
  simpa using this
theorem wids_leK {c : Nat} {xs : List D} (h : ∀ x ∈ xs, x.wid ≤ c) : D.wids xs ≤ (c + 8) * xs.length := by
  induction xs with
  | nil => exact Nat.le_refl _
  | cons x xs ih =>
    have := ih fun y hy => h y (by simp [hy])
    have := h x (by simp)
    simp only [D.wids, List.length_cons, Nat.mul_add, Nat.mul_one]; omega
theorem plns_all {xs : List D} (h : ∀ x ∈ xs, x.pln = true) : D.plns xs = true := by
  induction xs with
  | nil => rfl
  | cons x xs ih =>
    show (x.pln && D.plns xs) = true
    rw [h x (by simp), ih fun y hy => h y (by simp [hy])]; rfl
theorem lvD_ok {n : Nat} (hn : n ≤ 10) (r : Nat → Rat) {vs : List Rat} (hv : vs.length ≤ 10) : (lvD n r vs).pln = true ∧ (lvD n r vs).dep < 24 ∧ (lvD n r vs).wid ≤ 10000000 := by
  refine ⟨?_, ?_, ?_⟩
  · show D.plns (vs.map (lvE n r)) = true
    refine plns_all fun x hx => ?_
    obtain ⟨v, _, rfl⟩ := List.mem_map.mp hx
    show ((frD v).pln && ((grD (lvG n r v)).pln && true)) = true
    rw [show (frD v).pln = true from rfl, show (grD (lvG n r v)).pln = true from nats_pln _]; rfl
  · show D.deps (vs.map (lvE n r)) + 1 < 24
    have : D.deps (vs.map (lvE n r)) ≤ 2 := deps_le.mpr fun x hx => by
      obtain ⟨v, _, rfl⟩ := List.mem_map.mp hx
      show max (frD v).dep (max (grD (lvG n r v)).dep 0) + 1 ≤ 2
      rw [gr_dep1]
      exact Nat.le_of_ble_eq_true rfl
    omega
  · show D.wids (vs.map (lvE n r)) + 8 ≤ 10000000
    have := wids_leK (c := 40000) (xs := vs.map (lvE n r)) fun x hx => by
      obtain ⟨v, _, rfl⟩ := List.mem_map.mp hx
      show (frD v).wid + 8 + ((grD (lvG n r v)).wid + 8 + 0) + 8 ≤ 40000
      rw [gr_wid]
      have := lvG_len n r v
      have : (frD v).wid = 4024 := rfl
      omega
    rw [List.length_map] at this
    omega
end Pm
set_option Elab.async false
set_option linter.all false
set_option maxRecDepth 100000
set_option maxHeartbeats 1000000
set_option autoImplicit false
namespace Pm
open PySem PySem.Spec
open L2
def tlS (g : Nat → Rat) (n j : Nat) : Rat := sm g (List.range' j (n - j))
theorem tlS_end (g : Nat → Rat) (n : Nat) : tlS g n n = 0 := by unfold tlS; rw [Nat.sub_self]; rfl
theorem tlS_step (g : Nat → Rat) {n j : Nat} (h : j < n) : tlS g n j = g j + tlS g n (j + 1) := by
  unfold tlS
  obtain ⟨d, e⟩ : ∃ d, n - j = d + 1 := ⟨n - j - 1, by omega⟩
  have e2 : n - (j + 1) = d := by omega
  rw [e, e2, List.range'_succ]; rfl
structure ChP (n : Nat) (m w f : Nat → Rat) : Prop where
  asc : ∀ i, i + 1 < n → f i ≤ f (i + 1)
  le : ∀ j, j ≤ n → tlS (fw m w f) n j ≤ 0
  all : tlS (fw m w f) n 0 = 0
  at_ : ∀ j, 0 < j → j < n → f (j - 1) < f j → tlS (fw m w f) n j = 0
section
variable {n : Nat} {m w f : Nat → Rat}
theorem ChP.mono (h : ChP n m w f) : ∀ (d i : Nat), i + d < n → f i ≤ f (i + d)
  | 0, i, _ => Rat.le_refl
  | d + 1, i, k => Rat.le_trans (h.mono d i (by omega)) (h.asc (i + d) (by omega))
theorem suf_of {U : Nat → Bool} (hU : ∀ a, a + 1 < n → U a = true → U (a + 1) = true) : ∃ j, j ≤ n ∧ (List.range n).filter U = List.range' j (n - j) := by
  obtain ⟨j, h1, h2, h3⟩ := filt_suf n 0 n (by omega) hU
  rw [List.range_eq_range']
  exact ⟨j, by omega, by rw [h3]; congr 1; omega⟩
theorem ChP.best (h : ChP n m w f) : Best (List.range n) (nxt n) m w f := by
  have up : ∀ U : Nat → Bool, (∀ a, a + 1 < n → U a = true → U (a + 1) = true) → ∃ j, j ≤ n ∧ sm (fw m w f) ((List.range n).filter U) = tlS (fw m w f) n j ∧ (∀ i, i < n → (U i = true ↔ j ≤ i)) := fun U hU => by
    obtain ⟨j, hj, e⟩ := suf_of hU
    refine ⟨j, hj, by rw [e]; rfl, fun i hi => ?_⟩
    have : i ∈ (List.range n).filter U ↔ i ∈ List.range' j (n - j) := by rw [e]
    rw [List.mem_filter, List.mem_range, List.mem_range'_1] at this
    constructor
    · intro k; exact (this.mp ⟨hi, k⟩).1
    · intro k; exact (this.mpr ⟨k, by omega⟩).2
  refine ⟨fun a b e => ?_, fun U hU => ?_, fun U hU => ?_⟩
  · obtain ⟨rfl, hb⟩ := e
    exact h.asc a hb
  · obtain ⟨j, hj, e, _⟩ := up U fun a ha k => hU a (a + 1) ⟨rfl, ha⟩ k
    rw [e]; exact h.le j hj
  · obtain ⟨j, hj, e, k⟩ := up U fun a ha k => hU a (a + 1) (h.asc a ha) k
    rw [e]
    rcases Nat.eq_zero_or_pos j with z | z
    · rw [z]; exact h.all
    · rcases Nat.lt_or_ge j n with y | y
      · refine h.at_ j z y ?_
        have u1 : U j = true := (k j y).mpr (Nat.le_refl _)
        have u2 : ¬ U (j - 1) = true := fun c => by have := (k (j - 1) (by omega)).mp c; omega
        rcases (show f (j - 1) < f j ∨ f j ≤ f (j - 1) by grind) with q | q
        · exact q
        · exact absurd (hU j (j - 1) q u1) u2
      · have : j = n := by omega
        rw [this, tlS_end]
theorem ChP.of (b : Best (List.range n) (nxt n) m w f) : ChP n m w f := by
  have asc : ∀ i, i + 1 < n → f i ≤ f (i + 1) := fun i hi => b.ob i (i + 1) ⟨rfl, hi⟩
  have mono : ∀ (d i : Nat), i + d < n → f i ≤ f (i + d) := fun d => by
    induction d with
    | zero => intro i _; exact Rat.le_refl
    | succ d ih => intro i h; exact Rat.le_trans (ih i (by omega)) (asc (i + d) h)
  have cut : ∀ j, j ≤ n → (List.range n).filter (fun i => decide (j ≤ i)) = List.range' j (n - j) := fun j hj => by
    have e1 : List.range n = List.range' 0 j ++ List.range' j (n - j) := by
      rw [List.range_eq_range']
      have := List.range'_append_1 (s := 0) (m := j) (n := n - j)
      rw [Nat.zero_add, show j + (n - j) = n by omega] at this
      exact this.symm
    rw [e1, List.filter_append]
    have a1 : (List.range' 0 j).filter (fun i => decide (j ≤ i)) = [] := List.filter_eq_nil_iff.mpr fun i hi => by
      rw [List.mem_range'_1] at hi
      simp; omega
    have a2 : (List.range' j (n - j)).filter (fun i => decide (j ≤ i)) = List.range' j (n - j) := List.filter_eq_self.mpr fun i hi => by
      rw [List.mem_range'_1] at hi
      simp; omega
    rw [a1, a2]; rfl
  refine ⟨asc, fun j hj => ?_, ?_, fun j j0 jn lt => ?_⟩
  · have := b.up (fun i => decide (j ≤ i)) fun a c e k => by
      obtain ⟨rfl, _⟩ := e
      simp only [decide_eq_true_eq] at k ⊢; omega
    rw [cut j hj] at this; exact this
  · have := b.lv (fun _ => true) fun _ _ _ _ => rfl
    have e : (List.range n).filter (fun _ => true) = List.range' 0 (n - 0) := by rw [List.filter_eq_self.mpr fun _ _ => rfl, List.range_eq_range']; rfl
    rw [e] at this; exact this
  · have := b.lv (fun i => decide (f j ≤ f i)) fun a c h k => by
      simp only [decide_eq_true_eq] at k ⊢; exact Rat.le_trans k h
    have e : (List.range n).filter (fun i => decide (f j ≤ f i)) = (List.range n).filter fun i => decide (j ≤ i) := by
      refine List.filter_congr fun i hi => ?_
      have hi := List.mem_range.mp hi
      rw [decide_eq_decide]
      constructor
      · intro h
        rcases Nat.lt_or_ge i j with z | z
        · have := mono (j - 1 - i) i (by omega)
          rw [show i + (j - 1 - i) = j - 1 by omega] at this
          grind
        · exact z
      · intro h
        have := mono (i - j) j (by omega)
        rwa [show j + (i - j) = i by omega] at this
    rw [e, cut j (by omega)] at this
    exact this
end
def RowOk (l : List (Int × Int)) : Prop := ∀ q ∈ l, ItOk q
theorem wL_pos {l : List (Int × Int)} (hq : RowOk l) {i : Nat} (hi : i < l.length) : 0 < wL l i := by
  unfold wL
  rw [List.getD_eq_getElem?_getD, List.getElem?_eq_getElem hi]
  have := (hq l[i] (List.getElem_mem hi)).2.2.1
  exact Rat.intCast_pos.mpr (by show 0 < l[i].2; omega)
theorem row_is {l : List (Int × Int)} (hq : RowOk l) (hl : 0 < l.length) {f : Nat → Rat} (h : ChP l.length (mL l) (wL l) f) : rowR l = (List.range l.length).map f := by
  have u := Best.unique (rowR_best hq hl) h.best fun i hi => wL_pos hq (List.mem_range.mp hi)
  refine List.ext_getElem (by rw [rowR_len hq hl]; simp) fun i h1 h2 => ?_
  have hi : i < l.length := by simpa using h2
  have := u i (List.mem_range.mpr hi)
  rw [List.getElem_map, List.getElem_range, ← this, List.getD_eq_getElem?_getD, List.getElem?_eq_getElem h1]; rfl
def rwF (l : List (Int × Int)) (i : Nat) : Rat := (rowR l).getD i 0
theorem row_ch {l : List (Int × Int)} (hq : RowOk l) (hl : 0 < l.length) : ChP l.length (mL l) (wL l) (rwF l) := ChP.of (rowR_best hq hl)
theorem row_map {l : List (Int × Int)} (hq : RowOk l) (hl : 0 < l.length) : rowR l = (List.range l.length).map (rwF l) := row_is hq hl (row_ch hq hl)
def RowAt (l : List (Int × Int)) (c : Nat) : Prop := c ≤ l.length ∧ tlS (fw (mL l) (wL l) (rwF l)) l.length c = 0
theorem row_take {l : List (Int × Int)} (hq : RowOk l) {c : Nat} (hc : RowAt l c) (c0 : 0 < c) : rowR (l.take c) = (List.range c).map (rwF l) := by
  have hl : 0 < l.length := by have := hc.1; omega
  have h := row_ch hq hl
  have tl : (l.take c).length = c := by rw [List.length_take]; have := hc.1; omega
  have get : ∀ i, i < c → (l.take c).getD i (0, 1) = l.getD i (0, 1) := fun i hi => by
    rw [List.getD_eq_getElem?_getD, List.getElem?_take, if_pos hi, List.getD_eq_getElem?_getD]
  have ts : ∀ d j, c - j = d → j ≤ c → tlS (fw (mL (l.take c)) (wL (l.take c)) (rwF l)) c j = tlS (fw (mL l) (wL l) (rwF l)) l.length j := fun d => by
    induction d with
    | zero =>
      intro j h1 h2
      have : j = c := by omega
      rw [this, tlS_end, hc.2]
    | succ d ih =>
      intro j h1 h2
      have hj : j < c := by omega
      rw [tlS_step _ hj, ih (j + 1) (by omega) (by omega), tlS_step (n := l.length) (j := j) _ (by have := hc.1; omega)]
      congr 1
      unfold fw mL wL
      rw [get j hj]
  have := row_is (l := l.take c) (f := rwF l) (fun q hq' => hq q (List.mem_of_mem_take hq')) (by omega) (by
    rw [tl]
    exact ⟨fun i hi => h.asc i (by have := hc.1; omega), fun j hj => by rw [ts _ j rfl hj]; exact h.le j (by have := hc.1; omega), by rw [ts _ 0 rfl (by omega)]; exact h.all, fun j j0 jc lt => by rw [ts _ j rfl (by omega)]; exact h.at_ j j0 (by have := hc.1; omega) lt⟩)
  rw [tl] at this; exact this
theorem row_drop {l : List (Int × Int)} (hq : RowOk l) {c : Nat} (hc : RowAt l c) (c1 : c < l.length) : rowR (l.drop c) = (List.range (l.length - c)).map fun i => rwF l (c + i) := by
  have h := row_ch hq (by omega)
  have tl : (l.drop c).length = l.length - c := List.length_drop ..
  have get : ∀ i, (l.drop c).getD i (0, 1) = l.getD (c + i) (0, 1) := fun i => by
    rw [List.getD_eq_getElem?_getD, List.getElem?_drop, List.getD_eq_getElem?_getD]
  have ts : ∀ d j, l.length - c - j = d → j ≤ l.length - c → tlS (fw (mL (l.drop c)) (wL (l.drop c)) fun i => rwF l (c + i)) (l.length - c) j = tlS (fw (mL l) (wL l) (rwF l)) l.length (c + j) := fun d => by
    induction d with
    | zero =>
      intro j h1 h2
      have : j = l.length - c := by omega
      rw [this, tlS_end, show c + (l.length - c) = l.length by omega, tlS_end]
    | succ d ih =>
      intro j h1 h2
      rw [tlS_step _ (show j < l.length - c by omega), ih (j + 1) (by omega) (by omega), tlS_step (n := l.length) (j := c + j) _ (by omega)]
      congr 1
      unfold fw mL wL
      rw [get j]
  have := row_is (l := l.drop c) (f := fun i => rwF l (c + i)) (fun q hq' => hq q (List.mem_of_mem_drop hq')) (by omega) (by
    rw [tl]
    refine ⟨fun i hi => h.asc (c + i) (by omega), fun j hj => by rw [ts _ j rfl hj]; exact h.le (c + j) (by omega), by rw [ts _ 0 rfl (by omega), Nat.add_zero]; exact hc.2, fun j j0 jc lt => ?_⟩
    rw [ts _ j rfl (by omega)]
    refine h.at_ (c + j) (by omega) (by omega) ?_
    have e : c + j - 1 = c + (j - 1) := by omega
    rw [e]; exact lt)
  rw [tl] at this; exact this
theorem row_cut {l : List (Int × Int)} (hq : RowOk l) {c : Nat} (hc : RowAt l c) (c0 : 0 < c) (c1 : c < l.length) : rowR (l.take c) ++ rowR (l.drop c) = rowR l := by
  rw [row_take hq hc c0, row_drop hq hc c1, row_map hq (by omega)]
  have e : List.range l.length = List.range c ++ (List.range (l.length - c)).map (c + ·) := by
    have := List.range_add (n := c) (m := l.length - c)
    rwa [show c + (l.length - c) = l.length by omega] at this
  rw [e, List.map_append, List.map_map]; rfl
def revL (l : List (Int × Int)) : List (Int × Int) := l.reverse.map fun q => (0 - q.1, q.2)
theorem row_rev {l : List (Int × Int)} (hq : RowOk l) (hl : 0 < l.length) : rowR (revL l) = (List.range l.length).map fun i => -rwF l (l.length - 1 - i) := by
  have h := row_ch hq hl
  have tl : (revL l).length = l.length := by simp [revL]
  have get : ∀ i, i < l.length → (revL l).getD i (0, 1) = (0 - (l.getD (l.length - 1 - i) (0, 1)).1, (l.getD (l.length - 1 - i) (0, 1)).2) := fun i hi => by
    unfold revL
    rw [List.getD_eq_getElem?_getD, List.getElem?_map, List.getElem?_reverse hi, List.getD_eq_getElem?_getD, List.getElem?_eq_getElem (show l.length - 1 - i < l.length by omega)]; rfl
  have fwe : ∀ i, i < l.length → fw (mL (revL l)) (wL (revL l)) (fun i => -rwF l (l.length - 1 - i)) i = -fw (mL l) (wL l) (rwF l) (l.length - 1 - i) := fun i hi => by
    unfold fw mL wL
    rw [get i hi]
    simp only [Rat.intCast_sub]
    have z : ((0 : Int) : Rat) = 0 := rfl
    rw [z]; grind
  have ts : ∀ d j, l.length - j = d → j ≤ l.length → tlS (fw (mL (revL l)) (wL (revL l)) fun i => -rwF l (l.length - 1 - i)) l.length j = tlS (fw (mL l) (wL l) (rwF l)) l.length (l.length - j) := fun d => by
    induction d with
    | zero =>
      intro j h1 h2
      have : j = l.length := by omega
      rw [this, tlS_end, Nat.sub_self, h.all]
    | succ d ih =>
      intro j h1 h2
      rw [tlS_step _ (show j < l.length by omega), ih (j + 1) (by omega) (by omega), fwe j (by omega)]
      have := tlS_step (fw (mL l) (wL l) (rwF l)) (n := l.length) (j := l.length - (j + 1)) (by omega)
      rw [show l.length - (j + 1) + 1 = l.length - j by omega] at this
      rw [this, show l.length - 1 - j = l.length - (j + 1) by omega]
      grind
  have := row_is (l := revL l) (f := fun i => -rwF l (l.length - 1 - i)) (fun q hq' => by
      obtain ⟨x, hx, rfl⟩ := List.mem_map.mp hq'
      obtain ⟨h1, h2, h3, h4⟩ := hq x (List.mem_reverse.mp hx)
      exact ⟨by show -(10 ^ 9) ≤ 0 - x.1; omega, by show 0 - x.1 ≤ 10 ^ 9; omega, h3, h4⟩) (by omega) (by
    rw [tl]
    refine ⟨fun i hi => ?_, fun j hj => by rw [ts _ j rfl hj]; exact h.le _ (by omega), by rw [ts _ 0 rfl (by omega), Nat.sub_zero, tlS_end], fun j j0 jc lt => ?_⟩
    · have := h.asc (l.length - 1 - (i + 1)) (by omega)
      rw [show l.length - 1 - (i + 1) + 1 = l.length - 1 - i by omega] at this
      grind
    · rw [ts _ j rfl (by omega)]
      refine h.at_ (l.length - j) (by omega) (by omega) ?_
      rw [show l.length - 1 - (j - 1) = l.length - j by omega, show l.length - 1 - j = l.length - j - 1 by omega] at lt
      grind)
  rw [tl] at this; exact this
def twoL (l : List (Int × Int)) (t : Nat) (a : Int) : List (Int × Int) := l.take t ++ [((l.getD t (0, 1)).1, a), ((l.getD t (0, 1)).1, (l.getD t (0, 1)).2 - a)] ++ l.drop (t + 1)
theorem row_two {l : List (Int × Int)} (hq : RowOk l) {t : Nat} (ht : t < l.length) {a : Int} (a0 : 1 ≤ a) (a1 : a + 1 ≤ (l.getD t (0, 1)).2) : rowR (twoL l t a) = (List.range (l.length + 1)).map fun i => rwF l (if i ≤ t then i else i - 1) := by
  have h := row_ch hq (by omega)
  have tk : (l.take t).length = t := by rw [List.length_take]; omega
  have tl : (twoL l t a).length = l.length + 1 := by
    unfold twoL
    rw [List.length_append, List.length_append, tk, List.length_drop]
    show t + 2 + (l.length - (t + 1)) = _
    omega
  have ql := hq (l.getD t (0, 1)) (by rw [List.getD_eq_getElem?_getD, List.getElem?_eq_getElem ht]; exact List.getElem_mem ht)
  have g1 : ∀ i, i < t → (twoL l t a).getD i (0, 1) = l.getD i (0, 1) := fun i hi => by
    unfold twoL
    rw [List.append_assoc, List.getD_eq_getElem?_getD, List.getElem?_append_left (by omega), List.getElem?_take, if_pos hi, List.getD_eq_getElem?_getD]
  have g2 : (twoL l t a).getD t (0, 1) = ((l.getD t (0, 1)).1, a) := by
    unfold twoL
    rw [List.append_assoc, List.getD_eq_getElem?_getD, List.getElem?_append_right (by omega), tk, Nat.sub_self]; rfl
  have g3 : (twoL l t a).getD (t + 1) (0, 1) = ((l.getD t (0, 1)).1, (l.getD t (0, 1)).2 - a) := by
    unfold twoL
    rw [List.append_assoc, List.getD_eq_getElem?_getD, List.getElem?_append_right (by omega), tk, show t + 1 - t = 1 by omega]; rfl
  have g4 : ∀ i, t + 2 ≤ i → (twoL l t a).getD i (0, 1) = l.getD (i - 1) (0, 1) := fun i hi => by
    unfold twoL
    rw [List.append_assoc, List.getD_eq_getElem?_getD, List.getElem?_append_right (by omega), tk, List.getElem?_append_right (by show 2 ≤ i - t; omega), List.getElem?_drop, List.getD_eq_getElem?_getD]
    congr 2
    show t + 1 + (i - t - 2) = i - 1
    omega
  let F : Nat → Rat := fun i => rwF l (if i ≤ t then i else i - 1)
  have big : ∀ d j, l.length + 1 - j = d → t + 2 ≤ j → j ≤ l.length + 1 → tlS (fw (mL (twoL l t a)) (wL (twoL l t a)) F) (l.length + 1) j = tlS (fw (mL l) (wL l) (rwF l)) l.length (j - 1) := fun d => by
    induction d with
    | zero =>
      intro j h1 h2 h3
      have : j = l.length + 1 := by omega
      rw [this, tlS_end, show l.length + 1 - 1 = l.length by omega, tlS_end]
    | succ d ih =>
      intro j h1 h2 h3
      rw [tlS_step _ (show j < l.length + 1 by omega), ih (j + 1) (by omega) (by omega) (by omega), tlS_step (n := l.length) (j := j - 1) _ (by omega), show j - 1 + 1 = j + 1 - 1 by omega]
      congr 1
      unfold fw mL wL
      rw [g4 j h2]
      show _ * (_ - rwF l (if j ≤ t then j else j - 1)) = _
      rw [if_neg (by omega)]
  have wt : (0 : Rat) < wL l t := wL_pos hq ht
  have ea : wL (twoL l t a) t = (a : Rat) := by unfold wL; rw [g2]
  have eb : wL (twoL l t a) (t + 1) = wL l t - (a : Rat) := by unfold wL; rw [g3, Rat.intCast_sub]
  have m1 : mL (twoL l t a) t = mL l t := by unfold mL; rw [g2]
  have m2 : mL (twoL l t a) (t + 1) = mL l t := by unfold mL; rw [g3]
  have f1 : F t = rwF l t := by show rwF l (if t ≤ t then t else t - 1) = _; rw [if_pos (Nat.le_refl _)]
  have f2 : F (t + 1) = rwF l t := by show rwF l (if t + 1 ≤ t then t + 1 else t + 1 - 1) = _; rw [if_neg (by omega)]; rfl
  have s2 : tlS (fw (mL (twoL l t a)) (wL (twoL l t a)) F) (l.length + 1) (t + 2) = tlS (fw (mL l) (wL l) (rwF l)) l.length (t + 1) := big _ (t + 2) rfl (Nat.le_refl _) (by omega)
  have s1 : tlS (fw (mL (twoL l t a)) (wL (twoL l t a)) F) (l.length + 1) (t + 1) = (wL l t - (a : Rat)) * (mL l t - rwF l t) + tlS (fw (mL l) (wL l) (rwF l)) l.length (t + 1) := by
    rw [tlS_step _ (show t + 1 < l.length + 1 by omega), s2]
    unfold fw
    rw [eb, m2, f2]
  have st := tlS_step (fw (mL l) (wL l) (rwF l)) ht
  have fwt : fw (mL l) (wL l) (rwF l) t = wL l t * (mL l t - rwF l t) := rfl
  have s0 : tlS (fw (mL (twoL l t a)) (wL (twoL l t a)) F) (l.length + 1) t = tlS (fw (mL l) (wL l) (rwF l)) l.length t := by
    rw [tlS_step _ (show t < l.length + 1 by omega), s1, st, fwt]
    unfold fw
    rw [ea, m1, f1]; grind
  have low : ∀ d j, t - j = d → j ≤ t → tlS (fw (mL (twoL l t a)) (wL (twoL l t a)) F) (l.length + 1) j = tlS (fw (mL l) (wL l) (rwF l)) l.length j := fun d => by
    induction d with
    | zero => intro j h1 h2; have : j = t := by omega
              rw [this]; exact s0
    | succ d ih =>
      intro j h1 h2
      rw [tlS_step _ (show j < l.length + 1 by omega), ih (j + 1) (by omega) (by omega), tlS_step (n := l.length) (j := j) _ (by omega)]
      congr 1
      unfold fw mL wL
      rw [g1 j (by omega)]
      show _ * (_ - rwF l (if j ≤ t then j else j - 1)) = _
      rw [if_pos (by omega)]
  have := row_is (l := twoL l t a) (f := F) (fun q hq' => by
      unfold twoL at hq'
      rcases List.mem_append.mp hq' with z | z
      · rcases List.mem_append.mp z with z | z
        · exact hq q (List.mem_of_mem_take z)
        · simp only [List.mem_cons, List.not_mem_nil, or_false] at z
          obtain ⟨q1, q2, q3, q4⟩ := ql
          rcases z with rfl | rfl
          · exact ⟨q1, q2, a0, by show a ≤ 10 ^ 6; omega⟩
          · exact ⟨q1, q2, by show 1 ≤ _ - a; omega, by show _ - a ≤ 10 ^ 6; omega⟩
      · exact hq q (List.mem_of_mem_drop z)) (by omega) (by
    rw [tl]
    refine ⟨fun i hi => ?_, fun j hj => ?_, by rw [low _ 0 rfl (by omega)]; exact h.all, fun j j0 jn lt => ?_⟩
    · show rwF l (if i ≤ t then i else i - 1) ≤ rwF l (if i + 1 ≤ t then i + 1 else i + 1 - 1)
      rcases Nat.lt_trichotomy i t with c | c | c
      · rw [if_pos (by omega), if_pos (by omega)]; exact h.asc i (by omega)
      · rw [if_pos (by omega), if_neg (by omega)]; exact Rat.le_refl
      · rw [if_neg (by omega), if_neg (by omega)]
        have := h.asc (i - 1) (by omega)
        rwa [show i - 1 + 1 = i + 1 - 1 by omega] at this
    · rcases (show j ≤ t ∨ j = t + 1 ∨ t + 2 ≤ j by omega) with c | c | c
      · rw [low _ j rfl c]; exact h.le j (by omega)
      · rw [c, s1]
        have b1 := h.le t (by omega)
        have b2 := h.le (t + 1) (by omega)
        rw [st, fwt] at b1
        have ap : (0 : Rat) ≤ (a : Rat) := Rat.le_of_lt (Rat.intCast_pos.mpr (by omega))
        have aw : (a : Rat) ≤ wL l t := by
          have := Rat.intCast_le_intCast.mpr (show a ≤ (l.getD t (0, 1)).2 by omega)
          exact this
        generalize tlS (fw (mL l) (wL l) (rwF l)) l.length (t + 1) = S at *
        generalize mL l t - rwF l t = X at *
        generalize wL l t = W at *
        generalize (a : Rat) = A at *
        -- W * ((W - A) * X + S) = (W - A) * (W * X + S) + A * S
        have e : W * ((W - A) * X + S) = (W - A) * (W * X + S) + A * S := by grind
        have n1 : (W - A) * (W * X + S) ≤ 0 := by
          have := Rat.mul_le_mul_of_nonneg_left b1 (show 0 ≤ W - A by grind)
          rwa [Rat.mul_zero] at this
        have n2 : A * S ≤ 0 := by
          have := Rat.mul_le_mul_of_nonneg_left b2 ap
          rwa [Rat.mul_zero] at this
        have n3 : W * ((W - A) * X + S) ≤ 0 := by rw [e]; grind
        rcases (show (W - A) * X + S ≤ 0 ∨ 0 < (W - A) * X + S by grind) with z | z
        · exact z
        · have := Rat.mul_pos wt z; grind
      · rw [big _ j rfl c hj]; exact h.le (j - 1) (by omega)
    · have lt : rwF l (if j - 1 ≤ t then j - 1 else j - 1 - 1) < rwF l (if j ≤ t then j else j - 1) := lt
      rcases (show j ≤ t ∨ j = t + 1 ∨ t + 2 ≤ j by omega) with c | c | c
      · rw [if_pos (by omega), if_pos c] at lt
        rw [low _ j rfl c]; exact h.at_ j j0 (by omega) lt
      · rw [if_pos (by omega), if_neg (by omega)] at lt
        grind
      · rw [if_neg (by omega), if_neg (by omega)] at lt
        rw [big _ j rfl c (by omega)]; exact h.at_ (j - 1) (by omega) (by omega) lt)
  rw [tl] at this; exact this
end Pm
set_option Elab.async false
set_option linter.all false
set_option maxRecDepth 100000
set_option maxHeartbeats 1000000
set_option autoImplicit false
namespace Pm
open PySem PySem.Spec
open L2
def chP (l : List (Int × Int)) : Pan := ⟨l, (List.range (l.length - 1)).map fun i : Nat => ((i : Int), (i : Int) + 1)⟩
theorem chP_e {l : List (Int × Int)} {a b : Nat} : eE (chP l) a b ↔ nxt l.length a b := by
  show ((a : Int), (b : Int)) ∈ (List.range (l.length - 1)).map (fun i : Nat => ((i : Int), (i : Int) + 1)) ↔ _
  rw [List.mem_map]
  constructor
  · rintro ⟨i, hi, e⟩
    have hi := List.mem_range.mp hi
    injection e with e1 e2
    exact ⟨by omega, by omega⟩
  · rintro ⟨rfl, h⟩
    exact ⟨a, List.mem_range.mpr (by omega), by simp⟩
theorem chP_ok {l : List (Int × Int)} (hq : RowOk l) (h1 : 1 ≤ l.length) (h8 : l.length ≤ 8) : PanOk 8 (chP l) := by
  refine ⟨h1, h8, hq, by show ((List.range (l.length - 1)).map _).length ≤ 16; rw [List.length_map, List.length_range]; omega, fun q hm => ?_⟩
  obtain ⟨i, hi, rfl⟩ := List.mem_map.mp hm
  have hi := List.mem_range.mp hi
  exact ⟨by show (0 : Int) ≤ i; omega, by show (i : Int) < (l.length : Nat); omega, by show (0 : Int) ≤ (i : Int) + 1; omega, by show (i : Int) + 1 < (l.length : Nat); omega, by show (i : Int) ≠ (i : Int) + 1; omega⟩
theorem chP_best {l : List (Int × Int)} (hq : RowOk l) (hl : 0 < l.length) : BestP (chP l) (rwF l) := by
  have b := rowR_best hq hl
  exact ⟨fun a c e => b.ob a c (chP_e.mp e), fun U hU => b.up U fun a c e k => hU a c (chP_e.mpr e) k, fun U hU => b.lv U hU⟩
theorem rw_at {l : List (Int × Int)} (hq : RowOk l) (hl : 0 < l.length) {i : Nat} (hi : i < l.length) : (rowR l)[i]? = some (rwF l i) := by
  have h : i < (rowR l).length := by rw [rowR_len hq hl]; exact hi
  unfold rwF
  rw [List.getD_eq_getElem?_getD, List.getElem?_eq_getElem h]; rfl
theorem rowR_of {l : List (Int × Int)} (hq : RowOk l) (hl : 0 < l.length) {qs : List (Nat × Nat)} (hs : SegR l qs l.length) (hf : NoFR l qs) : SegF l qs.reverse 0 l.length ∧ rowR l = qs.reverse.flatMap fun p => List.replicate (p.2 - p.1) (tv l p) := by
  have sf : SegF l qs.reverse 0 l.length := by
    have := SegR.segF (ps := []) hs rfl
    rwa [List.append_nil] at this
  refine ⟨sf, ?_⟩
  unfold rowR
  rw [poolB_eq hq hl hs hf, List.flatMap_map, List.flatMap_def, List.flatMap_def]
  congr 1
  refine List.map_congr_left fun p hp => ?_
  have : ((p.2 : Int) - p.1).toNat = p.2 - p.1 := by omega
  simp only [blk, this]; rfl
theorem SegF.val {l : List (Int × Int)} : ∀ {ps : List (Nat × Nat)} {a e : Nat}, SegF l ps a e → ∀ y ∈ ps, a ≤ y.1 ∧ y.1 < y.2 ∧ y.2 ≤ e ∧ ∀ i, y.1 ≤ i → i < y.2 → (ps.flatMap fun p => List.replicate (p.2 - p.1) (tv l p))[i - a]? = some (tv l y)
  | [], _, _, _, y, hy => absurd hy (by simp)
  | (b, c) :: r, a, e, ⟨h1, h2, h3⟩, y, hy => by
    subst h1
    have hbc := h2.1
    have le := (SegF.at h3).1
    rw [List.flatMap_cons]
    rcases List.mem_cons.mp hy with rfl | hy
    · refine ⟨Nat.le_refl _, hbc, le, fun i hi1 hi2 => ?_⟩
      have hi1 : b ≤ i := hi1
      have hi2 : i < c := hi2
      rw [List.getElem?_append_left (by rw [List.length_replicate]; omega), List.getElem?_replicate, if_pos (by omega)]
    · obtain ⟨q1, q2, q3, q4⟩ := SegF.val h3 y hy
      refine ⟨by omega, q2, q3, fun i hi1 hi2 => ?_⟩
      rw [List.getElem?_append_right (by rw [List.length_replicate]; omega), List.length_replicate]
      have : i - b - (c - b) = i - c := by omega
      rw [this]; exact q4 i hi1 hi2
theorem tlS_block (g : Nat → Rat) {n a b : Nat} (h1 : a ≤ b) (h2 : b ≤ n) : tlS g n a = sm g (List.range' a (b - a)) + tlS g n b := by
  unfold tlS
  rw [← sm_append]
  congr 1
  have := List.range'_append_1 (s := a) (m := b - a) (n := n - b)
  rw [show a + (b - a) = b by omega, show b - a + (n - b) = n - a by omega] at this
  exact this.symm
theorem SegF.tail {l : List (Int × Int)} (hq : RowOk l) {f : Nat → Rat} : ∀ {ps : List (Nat × Nat)} {a : Nat}, SegF l ps a l.length → (∀ y ∈ ps, ∀ i, y.1 ≤ i → i < y.2 → f i = tv l y) → tlS (fw (mL l) (wL l) f) l.length a = 0
  | [], a, h, _ => by
    have : a = l.length := h
    rw [this, tlS_end]
  | (b, c) :: r, a, ⟨h1, h2, h3⟩, hf => by
    subst h1
    have hbc := h2.1
    have hcn := h2.2.1
    rw [tlS_block _ (Nat.le_of_lt hbc) hcn, SegF.tail hq h3 fun y hy => hf y (by simp [hy])]
    have e1 : sm (fw (mL l) (wL l) f) (List.range' b (c - b)) = sm (fun i => wL l i * (mL l i - tv l (b, c))) (List.range' b (c - b)) := sm_congr fun i hi => by
      rw [List.mem_range'_1] at hi
      unfold fw
      rw [hf (b, c) (by simp) i hi.1 (by show i < c; omega)]
    rw [e1, sm_sub2 (c - b) b (by omega), show b + (c - b) = c by omega]
    have wp := sub2_pos hq hbc hcn
    have tvd : tv l (b, c) * (((sub2 (pre l) b c).2 : Int) : Rat) = (((sub2 (pre l) b c).1 : Int) : Rat) := by
      have := divInt_mul (M := (sub2 (pre l) b c).1) (W := (sub2 (pre l) b c).2) wp
      exact this
    rw [tvd]; grind
theorem SegF.split {l : List (Int × Int)} : ∀ {ps : List (Nat × Nat)} {a e : Nat} (k : Nat), SegF l ps a e → ∃ b, SegF l (ps.drop k) b e ∧ ((ps.take k).map fun p => ((p.2 : Int) - p.1)).sum = (b : Int) - a ∧ (0 < k → k < ps.length → a < b) ∧ (k < ps.length → b < e)
  | [], a, e, k, h => ⟨a, by rw [List.drop_nil]; exact h, by simp, fun _ h => by simp at h, fun h => by simp at h⟩
  | (b, c) :: r, a, e, 0, h => by
    refine ⟨a, h, by simp, fun h => absurd h (by omega), fun _ => ?_⟩
    obtain ⟨h1, h2, h3⟩ := h
    have := h2.1
    have := (SegF.at h3).1
    omega
  | (b, c) :: r, a, e, k + 1, ⟨h1, h2, h3⟩ => by
    subst h1
    obtain ⟨d, q1, q2, q3, q4⟩ := SegF.split k h3
    have hbc := h2.1
    have le : c ≤ d := by
      rcases Nat.eq_zero_or_pos k with z | z
      · subst z
        have : (([] : List (Nat × Nat)).map fun p => ((p.2 : Int) - p.1)).sum = (d : Int) - c := q2
        simp at this; omega
      · rcases Nat.lt_or_ge k r.length with y | y
        · exact Nat.le_of_lt (q3 z y)
        · rw [List.drop_eq_nil_of_le y] at q1
          have : d = e := q1
          have := (SegF.at h3).1
          omega
    refine ⟨d, q1, ?_, fun _ _ => by omega, fun hk => q4 (by simpa using hk)⟩
    rw [List.take_succ_cons, List.map_cons, List.sum_cons, q2]
    show ((c : Int) - b) + ((d : Int) - c) = _
    omega
theorem cut_mid {α : Type} (xs : List α) (a b : Nat) (h : b ≤ xs.length) : cut xs (some (a : Int)) (some (b : Int)) = (xs.drop a).take (b - a) := by
  unfold cut
  rw [HT.sIx_nat, HT.sIx_nat, Nat.min_eq_left h]
  by_cases c : a ≤ xs.length
  · rw [Nat.min_eq_left c]
  · rw [Nat.min_eq_right (by omega), List.drop_eq_nil_of_le (Nat.le_refl _), List.drop_eq_nil_of_le (by omega)]; simp
theorem sub2_sum {l : List (Int × Int)} {a b : Nat} (h : a ≤ b) : sub2 (pre l) a b = ((((l.drop a).take (b - a)).map fun q => q.1 * q.2).sum, (((l.drop a).take (b - a)).map fun q => q.2).sum) := by
  have e : l.take b = l.take a ++ (l.drop a).take (b - a) := by
    have := List.take_add (l := l) (i := a) (j := b - a)
    rwa [show a + (b - a) = b by omega] at this
  unfold sub2 pre
  rw [e, List.map_append, List.map_append, List.sum_append, List.sum_append]
  ext <;> simp <;> omega
def AscL (rs : List Rat) : Prop := ∀ i, i + 1 < rs.length → rs.getD i 0 ≤ rs.getD (i + 1) 0
theorem AscL.le {rs : List Rat} (h : AscL rs) : ∀ (d i : Nat), i + d < rs.length → rs.getD i 0 ≤ rs.getD (i + d) 0
  | 0, i, _ => Rat.le_refl
  | d + 1, i, k => Rat.le_trans (h.le d i (by omega)) (h (i + d) (by omega))
theorem lv_zero (r : Nat → Rat) : LvP 0 r [] := ⟨List.Pairwise.nil, fun v => ⟨fun h => absurd h (by simp), fun ⟨i, hi, _⟩ => absurd hi (by omega)⟩⟩
theorem lv_same {k : Nat} {r : Nat → Rat} {vs : List Rat} (h : LvP k r vs) (m : r k ∈ vs) : LvP (k + 1) r vs :=
  ⟨h.up, fun v => by
    rw [h.mem]
    constructor
    · rintro ⟨i, hi, e⟩; exact ⟨i, by omega, e⟩
    · rintro ⟨i, hi, e⟩
      rcases Nat.lt_or_ge i k with z | z
      · exact ⟨i, z, e⟩
      · obtain rfl : i = k := by omega
        obtain ⟨j, hj, e2⟩ := (h.mem (r i)).mp m
        exact ⟨j, hj, by rw [e2, e]⟩⟩
theorem lv_more {k : Nat} {r : Nat → Rat} {vs : List Rat} (h : LvP k r vs) (m : ∀ v ∈ vs, v < r k) : LvP (k + 1) r (vs ++ [r k]) :=
  ⟨List.pairwise_append.mpr ⟨h.up, List.pairwise_singleton .., fun v hv w hw => by rw [List.mem_singleton.mp hw]; exact m v hv⟩, fun v => by
    rw [List.mem_append, h.mem, List.mem_singleton]
    constructor
    · rintro (⟨i, hi, e⟩ | e)
      · exact ⟨i, by omega, e⟩
      · exact ⟨k, by omega, e.symm⟩
    · rintro ⟨i, hi, e⟩
      rcases Nat.lt_or_ge i k with z | z
      · exact .inl ⟨i, z, e⟩
      · obtain rfl : i = k := by omega
        exact .inr e.symm⟩
theorem lvG_succ (k : Nat) (r : Nat → Rat) (v : Rat) : lvG (k + 1) r v = if r k = v then lvG k r v ++ [k] else lvG k r v := by
  unfold lvG
  rw [List.range_succ, List.filter_append]
  by_cases c : r k = v
  · rw [if_pos c]; simp [c]
  · rw [if_neg c]; simp [c]
end Pm
set_option Elab.async false
set_option linter.all false
set_option maxRecDepth 100000
set_option maxHeartbeats 0
set_option autoImplicit false
namespace Pm
open PySem PySem.Spec
open PyProof.Rows hiding St
open L2
def t_size_3de8 (r : Addr) : PSx Nat := (qSeq (qAsg (qCallG (nextS r) (qCons (qVar 0) (qCons (qBin addD (qCall (fn2 min2) (qCons (qVar 1) (qCons (qC (.int 3)) qNil))) (qC (.int 1))) qNil))) 2) (qRet (qBin ixD (qSet (qLst (qCons (qVar 2) (qCons (qBin subD (qVar 1) (qVar 2)) (qCons (qCallG (nextS r) (qCons (qVar 0) (qCons (qBin addD (qVar 1) (qC (.int 1))) qNil))) qNil))))) (qCallG (nextS r) (qCons (qVar 0) (qCons (qC (.int 3)) qNil))))))

def sp_size_3de8 (r : Addr) : Spec Nat := fun ds g R => ∃ m : Int, ds = [.obj r, .int m] ∧ 0 ≤ m ∧ m ≤ 10 ^ 50 ∧ g + 2 < drawLine ∧ ∀ v : Int, 0 ≤ v → v ≤ m → R (.int v) (g + 3)
theorem len_size_3de8 (r : Addr) (ds : List D) (g : Nat) (R : D → Nat → Prop) (h : sp_size_3de8 r ds g R) : ds.length = 2 := by
  obtain ⟨m, rfl, _⟩ := h; rfl
theorem p_size_3de8 (r : Addr) (ds : List D) (g : Nat) (R : D → Nat → Prop) (h : sp_size_3de8 r ds g R) : t_size_3de8 r { nx := fun s => R .non s.g, rt := R } ⟨startL 3 ds, g⟩ := by
  obtain ⟨m, rfl, h0, h1, hg, h⟩ := h
  have big : (10 : Int) ^ 50 + 4 ≤ 10 ^ 60 := by decide
  refine ⟨min m 3 + 1, rfl, by omega, by omega, (by show g < drawLine; omega), fun k k0 k1 => ?_⟩
  refine ⟨m + 1, rfl, by omega, by omega, (by show g + 1 < drawLine; omega), fun j j0 j1 => ?_⟩
  refine ⟨(by show 3 ≤ sizeLine; decide), 3, rfl, by decide, by decide, (by show g + 2 < drawLine; omega), fun i i0 i1 => ?_⟩
  have hi : i = 0 ∨ i = 1 ∨ i = 2 := by omega
  rcases hi with rfl | rfl | rfl
  · exact ⟨_, rfl, h k (by omega) (by omega)⟩
  · exact ⟨_, rfl, h (m - k) (by omega) (by omega)⟩
  · exact ⟨_, rfl, h j (by omega) (by omega)⟩

def t_items_cafd (r : Addr) : PSx Nat := (qSeq (qAsg (qBin ixD (qSet (qLst (qCons (qC (.int 2)) (qCons (qC (.int 9)) (qCons (qBin powD (qC (.int 10)) (qC (.int 9))) qNil))))) (qCallG (nextS r) (qCons (qVar 0) (qCons (qC (.int 3)) qNil)))) 2) (qSeq (qAsg (qBin ixD (qSet (qLst (qCons (qC (.int 1)) (qCons (qC (.int 3)) (qCons (qBin powD (qC (.int 10)) (qC (.int 6))) qNil))))) (qCallG (nextS r) (qCons (qVar 0) (qCons (qC (.int 3)) qNil)))) 3) (qSeq (qAsgOwn (qLst qNil) 4) (qSeq (qFor (qRange1 (qCons (qVar 1) qNil)) (.nm 5) (qDrop (qAppend 4 (qTup (qCons (qBin subD (qCallG (sp_size_3de8 r) (qCons (qVar 0) (qCons (qBin mulD (qC (.int 2)) (qVar 2)) qNil))) (qVar 2)) (qCons (qBin addD (qC (.int 1)) (qCallG (sp_size_3de8 r) (qCons (qVar 0) (qCons (qBin subD (qVar 3) (qC (.int 1))) qNil)))) qNil)))))) (qRet (qCall (fn1 tupleD) (qCons (qVar 4) qNil)))))))

def sp_items_cafd (r : Addr) : Spec Nat := fun ds g R => ∃ n : Nat, ds = [.obj r, .int n] ∧ n ≤ 60 ∧ g + 500 < drawLine ∧ ∀ l : List (Int × Int), l.length = n → (∀ q ∈ l, ItOk q) → R (.tup (l.map itD)) (g + 2 + 6 * n)
theorem len_items_cafd (r : Addr) (ds : List D) (g : Nat) (R : D → Nat → Prop) (h : sp_items_cafd r ds g R) : ds.length = 2 := by
  obtain ⟨m, rfl, _⟩ := h; rfl
theorem p_items_cafd (r : Addr) (ds : List D) (g : Nat) (R : D → Nat → Prop) (h : sp_items_cafd r ds g R) : t_items_cafd r { nx := fun s => R .non s.g, rt := R } ⟨startL 6 ds, g⟩ := by
  obtain ⟨n, rfl, hn, hg, h⟩ := h
  have line : (10000000 : Nat) ≤ sizeLine := line_big
  refine ⟨⟨by decide, by decide, by decide⟩, (by show 3 ≤ sizeLine; decide), 3, rfl, by decide, by decide, (by show g < drawLine; omega), fun k k0 k1 => ?_⟩
  obtain ⟨m, e, m0, m1⟩ := pick3 (lo := 2) (hi := 10 ^ 9) (a := 2) (b := 9) (c := 10 ^ (9 : Int).toNat) k0 k1 (by decide) (by decide) (by decide)
  refine ⟨_, e, ?_⟩
  refine ⟨⟨by decide, by decide, by decide⟩, (by show 3 ≤ sizeLine; decide), 3, rfl, by decide, by decide, (by show g + 1 < drawLine; omega), fun k k0 k1 => ?_⟩
  obtain ⟨w, e2, w0, w1⟩ := pick3 (lo := 1) (hi := 10 ^ 6) (a := 1) (b := 3) (c := 10 ^ (6 : Int).toNat) k0 k1 (by decide) (by decide) (by decide)
  refine ⟨_, e2, (by show 0 ≤ sizeLine; omega), ⟨by omega, by omega⟩, ?_⟩
  refine ⟨fun j s => ∃ l : List (Int × Int), l.length = j ∧ (∀ q ∈ l, ItOk q) ∧ s = ⟨[some (.val (.obj r)), some (.val (.int n)), some (.val (.int m)), some (.val (.int w)), some (.own (l.map itD)), none], g + 2 + 6 * j⟩, ⟨_, Wk.refl _, [], rfl, by simp, rfl⟩, ?_, ?_⟩
  · rintro j d s hd ⟨l, hl, hq, rfl⟩
    have hj : j < n := by
      have := (List.getElem?_eq_some_iff.mp hd).1
      simpa using this
    refine ⟨⟨_, rfl⟩, .inl (.inl ⟨by decide, by decide⟩), 2 * m, rfl, by omega, by omega, (by show g + 2 + 6 * j + 2 < drawLine; omega), fun v v0 v1 => ?_⟩
    refine ⟨w - 1, rfl, by omega, by omega, (by show g + 2 + 6 * j + 3 + 2 < drawLine; omega), fun u u0 u1 => ?_⟩
    refine ⟨(by show 2 ≤ sizeLine; omega), l.map itD, rfl, by simp; omega, ?_⟩
    refine ⟨⟨[some (.val (.obj r)), some (.val (.int n)), some (.val (.int m)), some (.val (.int w)), some (.own ((l ++ [(v - m, 1 + u)]).map itD)), none], g + 2 + 6 * j + 3 + 3⟩, ?_, l ++ [(v - m, 1 + u)], by simp [hl], ?_, rfl⟩
    · rw [List.map_append]
      exact Wk.of ⟨.inr rfl, .inr rfl, .inr rfl, .inr rfl, .inr rfl, .inl rfl, trivial⟩
    · intro q hm
      rcases List.mem_append.mp hm with hm | hm
      · exact hq q hm
      · rw [List.mem_singleton] at hm
        subst hm
        exact ⟨by show -(10 ^ 9) ≤ v - m; omega, by show v - m ≤ 10 ^ 9; omega, by show 1 ≤ 1 + u; omega, by show 1 + u ≤ 10 ^ 6; omega⟩
  · rintro s ⟨l, hl, hq, rfl⟩
    have hl' : l.length = n := by simpa using hl
    have e3 : ((List.range (n : Int).toNat).map fun k => D.int (k : Nat)).length = n := by simp
    show R (.tup (l.map itD)) (g + 2 + 6 * _)
    rw [e3]
    exact h l hl' hq

def t_row_75d3 (r : Addr) : PSx Nat := (qSeq (qAsg (qCallG (sp_items_cafd r) (qCons (qVar 0) (qCons (qBin addD (qC (.int 1)) (qCallG (nextS r) (qCons (qVar 0) (qCons (qVar 1) qNil)))) qNil))) 2) (qSeq (qAsg (qCallG (nextS r) (qCons (qVar 0) (qCons (qC (.int 4)) qNil))) 3) (qSeq (qIf (qB (qBin eqD (qVar 3) (qC (.int 1)))) (qAsg (qCall (fn1 tupleD) (qCons (qSet (qCallF sortedFP (qCons (qVar 2) qNil))) qNil)) 2) qNext) (qSeq (qIf (qB (qBin eqD (qVar 3) (qC (.int 2)))) (qAsg (qCall (fn1 tupleD) (qCons (qStep (qSet (qCallF sortedFP (qCons (qVar 2) qNil))) (qUn negD (qC (.int 1)))) qNil)) 2) qNext) (qSeq (qIf (qB (qBin eqD (qVar 3) (qC (.int 3)))) (qAsg (qCall (fn1 tupleD) (qCons (qSet (qLc (qItems (qVar 2)) (.tp [(.nm 4), (.nm 5)]) [4, 5] qYes (qTup (qCons (qBin modD (qVar 4) (qC (.int 3))) (qCons (qVar 5) qNil))))) qNil)) 2) qNext) (qRet (qVar 2)))))))

def sp_row_75d3 (r : Addr) : Spec Nat := fun ds g R => ∃ n : Nat, ds = [.obj r, .int n] ∧ 1 ≤ n ∧ n ≤ 60 ∧ g + 1000 < drawLine ∧ ∀ (l : List (Int × Int)) (g' : Nat), 1 ≤ l.length → l.length ≤ n → (∀ q ∈ l, ItOk q) → g ≤ g' → g' ≤ g + 400 → R (.tup (l.map itD)) g'
theorem len_row_75d3 (r : Addr) (ds : List D) (g : Nat) (R : D → Nat → Prop) (h : sp_row_75d3 r ds g R) : ds.length = 2 := by
  obtain ⟨m, rfl, _⟩ := h; rfl
theorem p_row_75d3 (r : Addr) (ds : List D) (g : Nat) (R : D → Nat → Prop) (h : sp_row_75d3 r ds g R) : t_row_75d3 r { nx := fun s => R .non s.g, rt := R } ⟨startL 6 ds, g⟩ := by
  obtain ⟨n, rfl, hn0, hn, hg, h⟩ := h
  have line : (10000000 : Nat) ≤ sizeLine := line_big
  refine seq_mid (M := fun s' => ∃ (l : List (Int × Int)) (g1 : Nat), 1 ≤ l.length ∧ l.length ≤ n ∧ (∀ q ∈ l, ItOk q) ∧ g ≤ g1 ∧ g1 ≤ g + 390 ∧ s' = ⟨[some (.val (.obj r)), some (.val (.int n)), some (.val (.tup (l.map itD))), none, none, none], g1⟩) ?_ ?_
  rotate_left
  · intro N hN
    refine ⟨n, rfl, by omega, by omega, (by show g < drawLine; omega), fun k k0 k1 => ?_⟩
    have e : (1 : Int) + k = ((1 + k.toNat : Nat) : Int) := by omega
    refine ⟨1 + k.toNat, ?_, by omega, (by show g + 1 + 500 < drawLine; omega), fun its h1 h2 => hN _ ⟨its, g + 1 + 2 + 6 * (1 + k.toNat), by omega, by omega, h2, by omega, by omega, rfl⟩⟩
    rw [← e]
  rintro _ ⟨l, g1, l1, l2, hq, hg1, hg2, rfl⟩
  refine seq_mid (M := fun s' => ∃ k : Int, s' = ⟨[some (.val (.obj r)), some (.val (.int n)), some (.val (.tup (l.map itD))), some (.val (.int k)), none, none], g1 + 1⟩) ?_ ?_
  rotate_left
  · intro N hN
    exact ⟨4, rfl, by decide, by decide, (by show g1 < drawLine; omega), fun k _ _ => hN _ ⟨k, rfl⟩⟩
  rintro _ ⟨k, rfl⟩
  refine seq_mid (M := fun s' => ∃ l : List (Int × Int), 1 ≤ l.length ∧ l.length ≤ n ∧ (∀ q ∈ l, ItOk q) ∧ s' = ⟨[some (.val (.obj r)), some (.val (.int n)), some (.val (.tup (l.map itD))), some (.val (.int k)), none, none], g1 + 1⟩) ?_ ?_
  rotate_left
  · intro N hN
    refine ⟨⟨rfl, rfl, Nat.zero_le 64, Nat.zero_le 64⟩, ⟨fun _ => ?_, fun _ => hN _ ⟨l, l1, l2, hq, rfl⟩⟩⟩
    exact ⟨l, rfl, fun out hp _ => hN _ ⟨out, by rw [hp.length_eq]; exact l1, by rw [hp.length_eq]; exact l2, fun q m => hq q (hp.mem_iff.mp m), rfl⟩⟩
  clear l1 l2 hq
  rintro _ ⟨l, l1, l2, hq, rfl⟩
  refine seq_mid (M := fun s' => ∃ l : List (Int × Int), 1 ≤ l.length ∧ l.length ≤ n ∧ (∀ q ∈ l, ItOk q) ∧ s' = ⟨[some (.val (.obj r)), some (.val (.int n)), some (.val (.tup (l.map itD))), some (.val (.int k)), none, none], g1 + 1⟩) ?_ ?_
  rotate_left
  · intro N hN
    refine ⟨⟨rfl, rfl, Nat.zero_le 64, Nat.zero_le 64⟩, ⟨fun _ => ?_, fun _ => hN _ ⟨l, l1, l2, hq, rfl⟩⟩⟩
    refine ⟨l, rfl, fun out hp _ => ⟨.inr rfl, hN _ ⟨out.reverse, by rw [List.length_reverse, hp.length_eq]; exact l1, by rw [List.length_reverse, hp.length_eq]; exact l2, fun q m => hq q (hp.mem_iff.mp (List.mem_reverse.mp m)), ?_⟩⟩⟩
    rw [List.map_reverse]; rfl
  clear l1 l2 hq
  rintro _ ⟨l, l1, l2, hq, rfl⟩
  refine seq_mid (M := fun s' => ∃ l : List (Int × Int), 1 ≤ l.length ∧ l.length ≤ n ∧ (∀ q ∈ l, ItOk q) ∧ s' = ⟨[some (.val (.obj r)), some (.val (.int n)), some (.val (.tup (l.map itD))), some (.val (.int k)), none, none], g1 + 1⟩) ?_ ?_
  rotate_left
  · intro N hN
    refine ⟨⟨rfl, rfl, Nat.zero_le 64, Nat.zero_le 64⟩, ⟨fun _ => ?_, fun _ => hN _ ⟨l, l1, l2, hq, rfl⟩⟩⟩
    refine lc_mapl l itD (fun q => itD (q.1 % 3, q.2)) (by omega) (fun q _ => ⟨_, rfl, fun T h => ⟨?_, (by show 2 ≤ sizeLine; omega), h⟩⟩) ?_ (by decide) (by rfl)
    · show (0:Int) < 3; decide
    · refine hN _ ⟨l.map fun q => (q.1 % 3, q.2), by simpa using l1, by simpa using l2, fun q m => ?_, ?_⟩
      · obtain ⟨z, hz, rfl⟩ := List.mem_map.mp m
        obtain ⟨a, b, c, d⟩ := hq z hz
        exact ⟨by show -(10 ^ 9) ≤ z.1 % 3; omega, by show z.1 % 3 ≤ 10 ^ 9; omega, c, d⟩
      · rw [List.map_map]; rfl
  clear l1 l2 hq
  rintro _ ⟨l, l1, l2, hq, rfl⟩
  exact h l _ l1 l2 hq (by show g ≤ g1 + 1; omega) (by show g1 + 1 ≤ g + 400; omega)

def t_start_blocks_8d16 : PSx Unit := (qRet (qCall (fn1 tupleD) (qCons (qSet (qLc (qItems (qVar 0)) (.tp [(.nm 1), (.nm 2)]) [1, 2] qYes (qTup (qCons (qC (.int 1)) (qCons (qBin mulD (qVar 1) (qVar 2)) (qCons (qVar 2) qNil)))))) qNil)))

def sp_start_blocks_8d16 : Spec0 := fun ds R => ∃ l : List (Int × Int), ds = [.tup (l.map itD)] ∧ l.length ≤ 1000 ∧ (∀ q ∈ l, ItOk q) ∧ R (.tup ((stB l).map bkD))
theorem len_start_blocks_8d16 (ds : List D) (R : DK) (h : sp_start_blocks_8d16 ds R) : ds.length = 1 := by
  obtain ⟨_, rfl, _⟩ := h; rfl
theorem p_start_blocks_8d16 (ds : List D) (R : DK) (h : sp_start_blocks_8d16 ds R) : t_start_blocks_8d16 { nx := fun _ => R .non, rt := fun d _ => R d } ⟨startL 3 ds, ()⟩ := by
  obtain ⟨l, rfl, hn, hq, h⟩ := h
  have line : (10000000 : Nat) ≤ sizeLine := line_big
  refine lc_mapl l itD (fun q => bkD (1, q.1 * q.2, q.2)) (by omega) (fun q m => ⟨_, rfl, fun T h => ⟨(hq q m).b.1.mulOk (hq q m).b.2.1, (by show 3 ≤ sizeLine; omega), h⟩⟩) ?_ (by decide) (by rfl)
  have e : (l.map fun q => bkD (1, q.1 * q.2, q.2)) = (stB l).map bkD := by unfold stB; rw [List.map_map]; rfl
  rw [e]; exact h

def t_is_falling_c091 : PSx Unit := (qRet (qBin gtD (qBin mulD (qBin ixD (qVar 0) (qC (.int 1))) (qBin ixD (qVar 1) (qC (.int 2)))) (qBin mulD (qBin ixD (qVar 1) (qC (.int 1))) (qBin ixD (qVar 0) (qC (.int 2))))))

def sp_is_falling_c091 : Spec0 := fun ds R => ∃ a b : Bk, ds = [bkD a, bkD b] ∧ BkOk a ∧ BkOk b ∧ R (.bl (falls a b))
theorem len_is_falling_c091 (ds : List D) (R : DK) (h : sp_is_falling_c091 ds R) : ds.length = 2 := by
  obtain ⟨_, _, rfl, _⟩ := h; rfl
theorem p_is_falling_c091 (ds : List D) (R : DK) (h : sp_is_falling_c091 ds R) : t_is_falling_c091 { nx := fun _ => R .non, rt := fun d _ => R d } ⟨startL 2 ds, ()⟩ := by
  obtain ⟨a, b, rfl, ha, hb, h⟩ := h
  exact ⟨_, rfl, _, rfl, ha.2.1.mulOk hb.2.2, _, rfl, _, rfl, hb.2.1.mulOk ha.2.2, h⟩

def t_merged_e28f : PSx Unit := (qRet (qTup (qCons (qBin addD (qBin ixD (qVar 0) (qC (.int 0))) (qBin ixD (qVar 1) (qC (.int 0)))) (qCons (qBin addD (qBin ixD (qVar 0) (qC (.int 1))) (qBin ixD (qVar 1) (qC (.int 1)))) (qCons (qBin addD (qBin ixD (qVar 0) (qC (.int 2))) (qBin ixD (qVar 1) (qC (.int 2)))) qNil)))))

def sp_merged_e28f : Spec0 := fun ds R => ∃ a b : Bk, ds = [bkD a, bkD b] ∧ R (bkD (mrg a b))
theorem len_merged_e28f (ds : List D) (R : DK) (h : sp_merged_e28f ds R) : ds.length = 2 := by
  obtain ⟨_, _, rfl, _⟩ := h; rfl
theorem p_merged_e28f (ds : List D) (R : DK) (h : sp_merged_e28f ds R) : t_merged_e28f { nx := fun _ => R .non, rt := fun d _ => R d } ⟨startL 2 ds, ()⟩ := by
  obtain ⟨a, b, rfl, h⟩ := h
  have line : (10000000 : Nat) ≤ sizeLine := line_big
  exact ⟨_, rfl, _, rfl, _, rfl, _, rfl, _, rfl, _, rfl, (by show 3 ≤ sizeLine; omega), h⟩

def t_pool_row_f687 : PSx Unit := (qSeq (qAsgOwn (qLst qNil) 1) (qSeq (qFor (qItems (qCallP (sp_start_blocks_8d16) (qCons (qVar 0) qNil))) (.nm 2) (qSeq (qWhile (qAnd (qB (qBinN1 neD 1 (qSet (qLst qNil)))) (qB (qCallP (sp_is_falling_c091) (qCons (qBinN1 ixD 1 (qUn negD (qC (.int 1)))) (qCons (qVar 2) qNil))))) (qAsg (qCallP (sp_merged_e28f) (qCons (qPop 1) (qCons (qVar 2) qNil))) 2)) (qDrop (qAppend 1 (qVar 2))))) (qRet (qCall (fn1 tupleD) (qCons (qVar 1) qNil)))))

theorem mrg_blk (l : List (Int × Int)) (a b c : Nat) : mrg (blk l a b) (blk l b c) = blk l a c := by
  unfold mrg blk
  simp only [sub2_1 _ a b c, sub2_2 _ a b c, Prod.mk.injEq]
  refine ⟨by omega, ?_⟩
  exact Prod.ext (sub2_1 _ a b c).symm (sub2_2 _ a b c).symm
def sp_pool_row_f687 : Spec0 := fun ds R => ∃ l : List (Int × Int), ds = [.tup (l.map itD)] ∧ l.length ≤ 1000 ∧ (∀ q ∈ l, ItOk q) ∧ ∀ qs, SegR l qs l.length → NoFR l qs → R (.tup (stkD l qs))
theorem len_pool_row_f687 (ds : List D) (R : DK) (h : sp_pool_row_f687 ds R) : ds.length = 1 := by
  obtain ⟨_, rfl, _⟩ := h; rfl
theorem SegR.len {l : List (Int × Int)} : ∀ {qs : List (Nat × Nat)} {e : Nat}, SegR l qs e → qs.length ≤ e
  | [], e, _ => Nat.zero_le _
  | (b, c) :: qs, e, ⟨h1, h2, h3⟩ => by
    have := SegR.len h3
    have := h2.1
    rw [List.length_cons]; omega
theorem p_pool_row_f687 (ds : List D) (R : DK) (h : sp_pool_row_f687 ds R) : t_pool_row_f687 { nx := fun _ => R .non, rt := fun d _ => R d } ⟨startL 3 ds, ()⟩ := by
  obtain ⟨l, rfl, hn, hq, h⟩ := h
  have line : (10000000 : Nat) ≤ sizeLine := line_big
  refine seq_mid (M := fun s' => s' = ⟨[some (.val (.tup (l.map itD))), some (.own []), none], ()⟩) ?_ ?_
  rotate_left
  · intro N hN
    exact ⟨(by show 0 ≤ sizeLine; omega), hN _ rfl⟩
  rintro _ rfl
  refine ⟨l, rfl, by omega, hq, ?_⟩
  refine ⟨fun j s => ∃ qs, SegR l qs j ∧ NoFR l qs ∧ s = ⟨[some (.val (.tup (l.map itD))), some (.own (stkD l qs)), none], ()⟩, ⟨_, Wk.refl _, [], rfl, trivial, rfl⟩, ?_, ?_⟩
  · rintro j d s hd ⟨qs, hs, hf, rfl⟩
    rw [List.getElem?_map] at hd
    obtain ⟨B, hB, rfl⟩ := Option.map_eq_some_iff.mp hd
    unfold stB at hB
    rw [List.getElem?_map] at hB
    obtain ⟨q, hj, rfl⟩ := Option.map_eq_some_iff.mp hB
    have hlt := (List.getElem?_eq_some_iff.mp hj).1
    rw [blk_one hj]
    refine put_nm ?_
    refine seq_mid (M := fun s' => ∃ (qs : List (Nat × Nat)) (b : Nat), SegR l qs b ∧ NoFR l ((b, j + 1) :: qs) ∧ Gd l b (j + 1) ∧ s' = ⟨[some (.val (.tup (l.map itD))), some (.own (stkD l qs)), some (.val (bkD (blk l b (j + 1))))], ()⟩) ?_ ?_
    rotate_left
    · intro N hN
      refine ⟨fun m s => ∃ (qs : List (Nat × Nat)) (b : Nat), SegR l qs b ∧ NoFR l qs ∧ Gd l b (j + 1) ∧ m = qs.length ∧ s = ⟨[some (.val (.tup (l.map itD))), some (.own (stkD l qs)), some (.val (bkD (blk l b (j + 1))))], ()⟩, ⟨_, _, Wk.refl _, qs, j, hs, hf, Gd.one hlt, rfl, rfl⟩, ?_⟩
      rintro m s ⟨qs, b, hs, hf, hg, rfl, rfl⟩
      have nq := bkl_eq (qs.reverse.map fun p => blk l p.1 p.2)
      have hb := hg.1
      refine ⟨rfl, (by show 0 ≤ sizeLine; omega), _, rfl, nq.1, ⟨fun t => ?_, fun t => ⟨fun z => (by cases z), fun _ => ?_⟩⟩⟩
      · rw [nq.2] at t
        match qs, hs, hf, t with
        | [], _, _, t => simp at t
        | (a, c) :: qz, ⟨e1, g1, hz⟩, hf, t =>
          subst e1
          have el : stkD l ((a, c) :: qz) = ((qz.reverse.map fun p => blk l p.1 p.2) ++ [blk l a c]).map bkD := by simp [stkD]
          have hac := g1.1
          refine ⟨rfl, _, rfl, bkD (blk l a c), by rw [el]; exact idx_bkl, blk l a c, blk l c (j + 1), rfl, blk_ok hq hn (by omega) (by omega), blk_ok hq hn (by omega) (by omega), ⟨fun u => ?_, fun u => ?_⟩⟩
          · have u : falls2 (sub2 (pre l) a c) (sub2 (pre l) c (j + 1)) = true := u
            refine ⟨_, bkD (blk l a c), rfl, by rw [el]; simp, blk l a c, blk l c (j + 1), rfl, ?_⟩
            refine ⟨qz.length, ⟨[some (.val (.tup (l.map itD))), some (.own (stkD l qz)), some (.val (bkD (blk l a (j + 1))))], ()⟩, by simp, ?_, qz, a, hz, ?_, g1.mrg hq hg u, rfl, rfl⟩
            · rw [mrg_blk, el]
              have e3 : (((qz.reverse.map fun p => blk l p.1 p.2) ++ [blk l a c]).map bkD).dropLast = stkD l qz := by simp [stkD]
              rw [e3]
              exact Wk.of (by repeat' first | exact trivial | exact .inr rfl | exact .inl rfl | refine ⟨?_, ?_⟩)
            · cases qz with
              | nil => exact trivial
              | cons y r => exact hf.2
          · have u : falls2 (sub2 (pre l) a c) (sub2 (pre l) c (j + 1)) = false := u
            exact hN _ ⟨(a, c) :: qz, c, ⟨rfl, g1, hz⟩, ⟨u, hf⟩, hg, rfl⟩
      · rw [nq.2] at t
        have e : qs = [] := by simpa using t
        subst e
        exact hN _ ⟨[], b, hs, trivial, hg, rfl⟩
    rintro _ ⟨qs, b, hs, hf, hg, rfl⟩
    have ql := hs.len
    have := hg.1
    refine ⟨⟨_, rfl⟩, _, rfl, by simp; omega, ?_⟩
    refine ⟨⟨[some (.val (.tup (l.map itD))), some (.own (stkD l ((b, j + 1) :: qs))), none], ()⟩, ?_, (b, j + 1) :: qs, ⟨rfl, hg, hs⟩, hf, rfl⟩
    have e : stkD l ((b, j + 1) :: qs) = stkD l qs ++ [bkD (blk l b (j + 1))] := by simp [stkD]
    rw [e]
    exact Wk.of (by repeat' first | exact trivial | exact .inr rfl | exact .inl rfl | refine ⟨?_, ?_⟩)
  · rintro s ⟨qs, hs, hf, rfl⟩
    have e : ((stB l).map bkD).length = l.length := by simp [stB]
    rw [e] at hs
    exact h qs hs hf

def t_common_divisor_2932 : PSx Unit := (qSeq (qWhile (qB (qBin gtD (qVar 1) (qC (.int 0)))) (qPar 0 1 (qCons (qVar 1) (qCons (qBin modD (qVar 0) (qVar 1)) qNil)))) (qRet (qVar 0)))

def sp_common_divisor_2932 : Spec0 := fun ds R => ∃ a b : Nat, ds = [.int a, .int b] ∧ R (.int (Nat.gcd a b : Nat))
theorem len_common_divisor_2932 (ds : List D) (R : DK) (h : sp_common_divisor_2932 ds R) : ds.length = 2 := by
  obtain ⟨a, b, rfl, _⟩ := h; rfl
theorem p_common_divisor_2932 (ds : List D) (R : DK) (h : sp_common_divisor_2932 ds R) : t_common_divisor_2932 { nx := fun _ => R .non, rt := fun d _ => R d } ⟨startL 2 ds, ()⟩ := by
  obtain ⟨a, b, rfl, h⟩ := h
  refine ⟨fun m s => ∃ x y : Nat, s = ⟨[some (.val (.int x)), some (.val (.int y))], ()⟩ ∧ Nat.gcd x y = Nat.gcd a b ∧ m = y, ⟨b, _, Wk.refl _, a, b, rfl, rfl, rfl⟩, ?_⟩
  rintro m s ⟨x, y, rfl, e, hm⟩
  refine ⟨fun hc => ?_, fun hc => ?_⟩
  · have hy : 0 < y := by have := of_decide_eq_true hc; omega
    refine ⟨by omega, x % y, _, by rw [hm]; exact Nat.mod_lt _ hy, Wk.refl _, y, x % y, rfl, ?_, rfl⟩
    rw [← e, Nat.gcd_comm x y, Nat.gcd_rec y x, Nat.gcd_comm]
  · have hy : y = 0 := by have := of_decide_eq_false hc; omega
    subst hy
    rw [Nat.gcd_zero_right] at e
    show R (.int x)
    rw [e]; exact h

def t_make_fraction_15f7 : PSx Unit := (qSeq (qIf (qB (qBin eqD (qVar 1) (qC (.int 0)))) qNever qNext) (qSeq (qAsg (qCallP (sp_common_divisor_2932) (qCons (qCall (fn1 absD) (qCons (qVar 0) qNil)) (qCons (qCall (fn1 absD) (qCons (qVar 1) qNil)) qNil))) 2) (qSeq (qIf (qB (qBin ltD (qVar 1) (qC (.int 0)))) (qAsg (qBin subD (qC (.int 0)) (qVar 2)) 2) qNext) (qRet (qTup (qCons (qBin fdivD (qVar 0) (qVar 2)) (qCons (qBin fdivD (qVar 1) (qVar 2)) qNil)))))))

def sp_make_fraction_15f7 : Spec0 := fun ds R => ∃ n d : Int, ds = [.int n, .int d] ∧ d ≠ 0 ∧ Sz 9000 d ∧ R (frD (Rat.divInt n d))
theorem len_make_fraction_15f7 (ds : List D) (R : DK) (h : sp_make_fraction_15f7 ds R) : ds.length = 2 := by
  obtain ⟨a, b, rfl, _⟩ := h; rfl
theorem p_make_fraction_15f7 (ds : List D) (R : DK) (h : sp_make_fraction_15f7 ds R) : t_make_fraction_15f7 { nx := fun _ => R .non, rt := fun d _ => R d } ⟨startL 3 ds, ()⟩ := by
  obtain ⟨n, d, rfl, h0, hs, h⟩ := h
  have e0 : D.eqv (.int d) (.int 0) = false := decide_eq_false h0
  refine ⟨⟨rfl, rfl, Nat.zero_le 64, Nat.zero_le 64⟩, fun hc => ?_, fun _ => ?_⟩
  · rw [e0] at hc; cases hc
  refine ⟨n.natAbs, d.natAbs, rfl, ?_⟩
  have hgp : 0 < n.natAbs.gcd d.natAbs := Nat.gcd_pos_of_pos_right _ (by omega)
  have hgs : Sz 9000 (n.natAbs.gcd d.natAbs : Nat) := by
    unfold Sz at *
    exact Nat.lt_of_le_of_lt (Nat.gcd_le_right _ (by omega)) hs
  obtain ⟨e1, e2⟩ := divInt_parts (n := n) h0
  refine ⟨fun hc => ?_, fun hc => ?_⟩
  · have hd : d < 0 := of_decide_eq_true hc
    rw [if_pos hd] at e1 e2
    have dz : (0 - (n.natAbs.gcd d.natAbs : Nat) : Int) ≠ 0 := by omega
    have dk : ∀ i, DivOk i (0 - (n.natAbs.gcd d.natAbs : Nat) : Int) := fun i => divOk_of (b := 9000) (by unfold Sz at *; omega) dz
    refine ⟨dk _, dk _, (by show 2 ≤ sizeLine; decide), ?_⟩
    unfold frD at h
    rw [e1, e2] at h; exact h
  · have hd : ¬ d < 0 := of_decide_eq_false hc
    rw [if_neg hd] at e1 e2
    have dz : ((n.natAbs.gcd d.natAbs : Nat) : Int) ≠ 0 := by omega
    have dk : ∀ i, DivOk i ((n.natAbs.gcd d.natAbs : Nat) : Int) := fun i => divOk_of (b := 9000) hgs dz
    refine ⟨dk _, dk _, (by show 2 ≤ sizeLine; decide), ?_⟩
    unfold frD at h
    rw [e1, e2] at h; exact h

def t_rate_row_d172 : PSx Unit := (qSeq (qAsgOwn (qLst qNil) 1) (qSeq (qFor (qItems (qCallP (sp_pool_row_f687) (qCons (qVar 0) qNil))) (.tp [(.nm 2), (.nm 3), (.nm 4)]) (qDrop (qExtend 1 (qBinF mulF (qSet (qLst (qCons (qCallP (sp_make_fraction_15f7) (qCons (qVar 3) (qCons (qVar 4) qNil))) qNil))) (qVar 2))))) (qRet (qCall (fn1 tupleD) (qCons (qVar 1) qNil)))))

def sp_rate_row_d172 : Spec0 := fun ds R => ∃ l : List (Int × Int), ds = [.tup (l.map itD)] ∧ 0 < l.length ∧ l.length ≤ 60 ∧ (∀ q ∈ l, ItOk q) ∧ R (.tup ((rowR l).map frD))
theorem len_rate_row_d172 (ds : List D) (R : DK) (h : sp_rate_row_d172 ds R) : ds.length = 1 := by
  obtain ⟨_, rfl, _⟩ := h; rfl
def fillR (bs : List Bk) : List Rat := bs.flatMap fun b => List.replicate b.1.toNat (Rat.divInt b.2.1 b.2.2)
theorem fill_take {bs : List Bk} {j : Nat} {b : Bk} (h : bs[j]? = some b) : fillR (bs.take (j + 1)) = fillR (bs.take j) ++ List.replicate b.1.toNat (Rat.divInt b.2.1 b.2.2) := by
  unfold fillR
  rw [List.take_add_one, h, List.flatMap_append]; simp
theorem fill_len (bs : List Bk) (j : Nat) : (fillR (bs.take j)).length ≤ (fillR bs).length := by
  have e : fillR bs = fillR (bs.take j) ++ fillR (bs.drop j) := by
    unfold fillR
    rw [← List.flatMap_append, List.take_append_drop]
  rw [e, List.length_append]; omega
theorem p_rate_row_d172 (ds : List D) (R : DK) (h : sp_rate_row_d172 ds R) : t_rate_row_d172 { nx := fun _ => R .non, rt := fun d _ => R d } ⟨startL 5 ds, ()⟩ := by
  obtain ⟨l, rfl, h0, hn, hq, h⟩ := h
  have line : (10000000 : Nat) ≤ sizeLine := line_big
  have fl : (fillR (poolB l)).length = l.length := rowR_len hq h0
  refine seq_mid (M := fun s' => s' = ⟨[some (.val (.tup (l.map itD))), some (.own []), none, none, none], ()⟩) ?_ ?_
  rotate_left
  · intro N hN
    exact ⟨(by show 0 ≤ sizeLine; omega), hN _ rfl⟩
  rintro _ rfl
  refine ⟨l, rfl, by omega, hq, fun qs hs hf => ?_⟩
  have pe := poolB_eq hq h0 hs hf
  have se : stkD l qs = (poolB l).map bkD := stk_eq hq h0 hs hf
  rw [se]
  refine ⟨fun j s => s = ⟨[some (.val (.tup (l.map itD))), some (.own ((fillR ((poolB l).take j)).map frD)), none, none, none], ()⟩, ⟨_, Wk.refl _, rfl⟩, ?_, ?_⟩
  · rintro j d s hd rfl
    rw [List.getElem?_map] at hd
    obtain ⟨b, hb, rfl⟩ := Option.map_eq_some_iff.mp hd
    have hm := List.mem_of_getElem? hb
    have hm' := hm
    rw [pe] at hm'
    obtain ⟨y, hy, rfl⟩ := List.mem_map.mp hm'
    have hy : y ∈ qs := by simpa using hy
    have gy := SegR.gd hs y hy
    have py := sub2_pos hq gy.1 gy.2.1
    have zy := sub2_sz60 hq hn y.1 y.2
    have g1 := gy.1
    have g2 := gy.2.1
    refine put_tg rfl ?_
    have tl := fill_len (poolB l) (j + 1)
    have fe := fill_take hb
    have et : (blk l y.1 y.2).1.toNat = y.2 - y.1 := by show ((y.2 : Int) - y.1).toNat = y.2 - y.1; omega
    have ln : (fillR ((poolB l).take j)).length + (y.2 - y.1) ≤ 60 := by
      rw [fe, List.length_append, List.length_replicate, et] at tl; omega
    refine ⟨⟨_, rfl⟩, _, _, rfl, (by show (blk l y.1 y.2).2.2 ≠ 0; exact Int.ne_of_gt py), zy.2.le (by decide), (by show 1 ≤ sizeLine; omega), ⟨⟨(by show -(2 ^ 63) ≤ (y.2 : Int) - y.1; omega), (by show (y.2 : Int) - y.1 < 2 ^ 63; omega), (by show 1 * (blk l y.1 y.2).1.toNat ≤ sizeLine; omega)⟩, ?_⟩⟩
    have ef : (List.replicate (blk l y.1 y.2).1.toNat [frD (Rat.divInt (blk l y.1 y.2).2.1 (blk l y.1 y.2).2.2)]).flatten = (List.replicate (blk l y.1 y.2).1.toNat (Rat.divInt (blk l y.1 y.2).2.1 (blk l y.1 y.2).2.2)).map frD := by
      rw [List.flatten_replicate_singleton, List.map_replicate]
    refine ⟨_, rfl, ?_, ?_⟩
    · rw [ef, List.length_map, List.length_map, List.length_replicate]; omega
    · rw [ef, ← List.map_append, ← fe]
      exact ⟨_, Wk.of (by repeat' first | exact trivial | exact .inr rfl | exact .inl rfl | refine ⟨?_, ?_⟩), rfl⟩
  · rintro s rfl
    have e : ((poolB l).map bkD).length = (poolB l).length := by simp
    rw [e, List.take_of_length_le (Nat.le_refl _)]
    exact h

def t_equal_17a7 (s : Spec0) : PSx Unit := (qSeq (qIf (qAnd (qB (qIsi "tuple" (qVar 0))) (qB (qIsi "tuple" (qVar 1)))) (qRet (qAndV (qBin eqD (qCall (fn1 lenD) (qCons (qVar 0) qNil)) (qCall (fn1 lenD) (qCons (qVar 1) qNil))) (qCall (fn1 allD) (qCons (qSet (qLc (qZip (qCons (qVar 0) (qCons (qVar 1) qNil))) (.tp [(.nm 2), (.nm 3)]) [2, 3] qYes (qCallP s (qCons (qVar 2) (qCons (qVar 3) qNil))))) qNil)))) qNext) (qSeq (qIf (qOr (qB (qIsi "bool" (qVar 0))) (qB (qIsi "bool" (qVar 1)))) (qRet (qAndV (qIsi "bool" (qVar 0)) (qAndV (qIsi "bool" (qVar 1)) (qBin eqD (qVar 0) (qVar 1))))) qNext) (qSeq (qIf (qB (qBin neD (qIsi "tuple" (qVar 0)) (qIsi "tuple" (qVar 1)))) (qRet (qC (.bl false))) qNext) (qSeq (qIf (qB (qBin neD (qIsi "int" (qVar 0)) (qIsi "int" (qVar 1)))) (qRet (qC (.bl false))) qNext) (qRet (qAndV (qBin eqD (qIsi "str" (qVar 0)) (qIsi "str" (qVar 1))) (qBin eqD (qVar 0) (qVar 1))))))))

def sp_equal_17a7 (n : Nat) : Spec0 := fun ds R => ∃ d : D, ds = [d, d] ∧ d.pln = true ∧ d.dep < n ∧ n ≤ 60 ∧ d.wid ≤ 10000000 ∧ R (.bl true)
theorem len_equal_17a7 (n : Nat) (ds : List D) (R : DK) (h : sp_equal_17a7 n ds R) : ds.length = 2 := by
  obtain ⟨a, rfl, _⟩ := h; rfl
theorem z_equal_17a7 (ds : List D) (R : DK) (h : sp_equal_17a7 0 ds R) : False := by
  obtain ⟨a, rfl, _, h, _⟩ := h; omega
theorem p_equal_17a7 (n : Nat) (ds : List D) (R : DK) (h : sp_equal_17a7 (n + 1) ds R) : t_equal_17a7 (sp_equal_17a7 n) { nx := fun _ => R .non, rt := fun d _ => R d } ⟨startL 4 ds, ()⟩ := by
  obtain ⟨d, rfl, hp, hd, hn, hw, h⟩ := h
  have ho := pln_obj hp
  have tt := isTy_tup d
  have tb := isTy_bl d
  have line := line_big
  by_cases ht : isTy "tuple" d = true
  · cases d <;> simp only [ht] at tt <;> try cases tt
    rename_i xs
    refine ⟨ho, ⟨fun _ => ⟨ho, ⟨fun _ => ?_, fun hc => absurd (hc.symm.trans ht) (by decide)⟩⟩, fun hc => absurd (hc.symm.trans ht) (by decide)⟩⟩
    refine ⟨⟨rfl, rfl, Nat.zero_le 64, Nat.zero_le 64⟩, ⟨fun _ => ?_, fun hc => (eq_no (d := .int xs.length) rfl hc).elim⟩⟩
    have hps : D.plns xs = true := by simpa [D.pln] using hp
    simp only [D.dep] at hd
    simp only [D.wid] at hw
    have hl := D.wids_len xs
    have zl : (zipD xs xs).length = xs.length := by rw [zipD_len]; omega
    refine ⟨fun i acc s => i ≤ xs.length ∧ acc = List.replicate i (.bl true) ∧ s = ⟨[some (.val (.tup xs)), some (.val (.tup xs)), none, none], ()⟩, ⟨⟨[some (.val (.tup xs)), some (.val (.tup xs)), none, none], ()⟩, Wk.of ⟨.inr rfl, .inr rfl, .inl rfl, .inl rfl, trivial⟩, Nat.zero_le _, rfl, rfl⟩, ?_, ?_⟩
    · rintro i e acc s hi ⟨hle, rfl, rfl⟩
      have il : i < xs.length := by have := (List.getElem?_eq_some_iff.mp hi).1; omega
      obtain ⟨x, hx1, hx2, rfl⟩ := zip_self hi
      refine ⟨fun _ => ?_, fun hc => (by cases hc)⟩
      have dx := D.deps_mem hx2
      have wx := D.wids_mem hx2
      refine ⟨x, rfl, D.plns_mem hps hx2, by omega, by omega, by omega, by simp; omega, ⟨[some (.val (.tup xs)), some (.val (.tup xs)), none, none], ()⟩, Wk.of ⟨.inr rfl, .inr rfl, .inl rfl, .inl rfl, trivial⟩, by omega, ?_, rfl⟩
      rw [List.replicate_succ']
    · rintro acc s ⟨_, rfl, rfl⟩
      refine ⟨_, bls_trues _, ?_⟩
      rw [all_trues]; exact h
  · have ht0 : isTy "tuple" d = false := by simpa using ht
    refine ⟨ho, ⟨fun hc => absurd hc ht, fun _ => ⟨fun hc => (by cases hc), fun _ => ?_⟩⟩⟩
    have e64 : d.dep ≤ 64 := by omega
    refine ⟨ho, ⟨fun hb => ?_, fun hb => ⟨ho, ⟨fun hc => absurd (hc.symm.trans hb) (by decide), fun _ => ?_⟩⟩⟩⟩
    · refine ⟨fun _ => ?_, fun hc => (by cases hc)⟩
      refine ⟨ho, ⟨fun _ => ⟨ho, ⟨fun _ => ⟨.of ⟨hp, hp, e64, e64⟩, ?_⟩, fun hc => absurd (hc.symm.trans hb) (by decide)⟩⟩, fun hc => absurd (hc.symm.trans hb) (by decide)⟩⟩
      show R (.bl (D.eqv d d))
      rw [eqv_refl d hp]; exact h
    · refine ⟨ho, ho, ⟨rfl, rfl, Nat.zero_le 64, Nat.zero_le 64⟩, ⟨fun hc => (bl_ne hc rfl).elim, fun _ => ?_⟩⟩
      refine ⟨ho, ho, ⟨rfl, rfl, Nat.zero_le 64, Nat.zero_le 64⟩, ⟨fun hc => (bl_ne hc rfl).elim, fun _ => ?_⟩⟩
      refine ⟨ho, ho, ⟨rfl, rfl, Nat.zero_le 64, Nat.zero_le 64⟩, ⟨fun _ => ⟨.of ⟨hp, hp, e64, e64⟩, ?_⟩, fun hc => (eq_no (d := .bl _) rfl hc).elim⟩⟩
      show R (.bl (D.eqv d d))
      rw [eqv_refl d hp]; exact h

def t_all_groups_7d0b : PSx Unit := (qSeq (qAsg (qSet (qLst (qCons (qTup qNil) qNil))) 1) (qSeq (qFor (qItems (qVar 0)) (.nm 2) (qAsg (qBin addD (qVar 1) (qSet (qLc (qItems (qVar 1)) (.nm 3) [3] qYes (qBin addD (qVar 3) (qTup (qCons (qVar 2) qNil)))))) 1)) (qRet (qSet (qCallF sortedFT (qCons (qVar 1) qNil))))))

def sp_all_groups_7d0b : Spec0 := fun ds R => ∃ l : List Nat, ds = [.lst (l.map natD)] ∧ l.length ≤ 10 ∧ l.Pairwise (· < ·) ∧ R (.lst ((grpS l).map grD))
theorem len_all_groups_7d0b (ds : List D) (R : DK) (h : sp_all_groups_7d0b ds R) : ds.length = 1 := by
  obtain ⟨_, rfl, _⟩ := h; rfl
def growG (found : List (List Nat)) (x : Nat) : List (List Nat) := found ++ found.map (· ++ [x])
theorem grow_perm : ∀ (l : List Nat) (x : Nat) {f : List (List Nat)}, f.Perm (grpS l) → (growG f x).Perm (grpS (l ++ [x])) := fun l x f h =>
  (h.append (h.map _)).trans (grpS_perm_snoc x l).symm
theorem tiD_gr (gs : List Nat) : tiD (natsI gs) = grD gs := by
  show D.tup ((natsI gs).map D.int) = D.tup (gs.map natD)
  unfold natsI; rw [List.map_map]; rfl
theorem p_all_groups_7d0b (ds : List D) (R : DK) (h : sp_all_groups_7d0b ds R) : t_all_groups_7d0b { nx := fun _ => R .non, rt := fun d _ => R d } ⟨startL 4 ds, ()⟩ := by
  obtain ⟨l, rfl, hl, hs, h⟩ := h
  have line : (10000000 : Nat) ≤ sizeLine := line_big
  refine ⟨(by show 0 ≤ sizeLine; omega), (by show 1 ≤ sizeLine; omega), ?_⟩
  refine ⟨fun j s => ∃ f : List (List Nat), ([] :: f).Perm (grpS (l.take j)) ∧ s = ⟨[some (.val (.lst (l.map natD))), some (.val (.lst (([] :: f).map grD))), none, none], ()⟩, ⟨_, Wk.refl _, [], ?_, rfl⟩, ?_, ?_⟩
  · exact List.Perm.refl _
  · rintro j d s hd ⟨f, hf, rfl⟩
    rw [List.getElem?_map] at hd
    obtain ⟨x, hx, rfl⟩ := Option.map_eq_some_iff.mp hd
    have jl := (List.getElem?_eq_some_iff.mp hx).1
    have et : l.take (j + 1) = l.take j ++ [x] := by rw [List.take_add_one, hx]; rfl
    have gl : ([] :: f : List (List Nat)).length ≤ 2 ^ 10 := by
      rw [hf.length_eq, grpS_length]
      exact Nat.pow_le_pow_right (by decide) (by rw [List.length_take]; omega)
    have ga : ∀ g ∈ ([] :: f : List (List Nat)), g.length ≤ 10 := fun g hg => by
      have := (grpS_sub (hf.mem_iff.mp hg)).length_le
      rw [List.length_take] at this; omega
    refine lc_mapl ([] :: f) grD (fun g => grD (g ++ [x])) (by omega) (fun g hg => ⟨_, rfl, fun T h => ⟨(by show 1 ≤ sizeLine; omega), (by show (g.map natD).length + 1 ≤ sizeLine; have := ga g hg; rw [List.length_map]; omega), ?_⟩⟩) ?_ (by decide) (by rfl)
    · have e : grD (g ++ [x]) = .tup (g.map natD ++ [natD x]) := by show D.tup ((g ++ [x]).map natD) = _; rw [List.map_append]; rfl
      rw [e] at h; exact h
    · refine ⟨(by show (([] :: f : List (List Nat)).map grD).length + (([] :: f : List (List Nat)).map fun g => grD (g ++ [x])).length ≤ sizeLine; rw [List.length_map, List.length_map]; omega), ?_⟩
      have eg : growG ([] :: f) x = [] :: (f ++ ([] :: f).map (· ++ [x])) := rfl
      refine ⟨_, ?_, f ++ ([] :: f).map (· ++ [x]), ?_, rfl⟩
      · have e : ([] :: f).map grD ++ ([] :: f).map (fun g => grD (g ++ [x])) = ([] :: (f ++ ([] :: f).map (· ++ [x]))).map grD := by
          rw [← eg]; unfold growG; rw [List.map_append, List.map_map]; rfl
        rw [← e]
        exact Wk.of (by repeat' first | exact trivial | exact .inr rfl | exact .inl rfl | refine ⟨?_, ?_⟩)
      · rw [← eg, et]; exact grow_perm _ _ hf
  · rintro s ⟨f, hf, rfl⟩
    rw [List.length_map, List.take_of_length_le (Nat.le_refl _)] at hf
    refine ⟨f.map natsI, ?_, fun out hp hw => ?_⟩
    · have e : ([] :: f.map natsI).map tiD = ([] :: f).map grD := by
        have : ([] :: f.map natsI) = ([] :: f).map natsI := rfl
        rw [this, List.map_map]
        exact List.map_congr_left fun g _ => tiD_gr g
      rw [e]
    · have hq : out.Perm ((grpS l).map natsI) := by
        have e : ([] :: f.map natsI) = ([] :: f).map natsI := rfl
        rw [e] at hp
        exact hp.trans (hf.map _)
      have e := sorted_eq (fun a b h1 h2 => lex_eq h2 h1) hq hw (grpS_sorted hs)
      rw [e, List.map_map]
      have e2 : (grpS l).map (tiD ∘ natsI) = (grpS l).map grD := List.map_congr_left fun g _ => tiD_gr g
      rw [e2]; exact h

def t_is_integer_8a5f : PSx Unit := (qRet (qAndV (qIsi "int" (qVar 0)) (qNotV (qIsi "bool" (qVar 0)))))

def sp_is_integer_8a5f : Spec0 := fun ds R => ∃ d : D, ds = [d] ∧ (∀ p, d ≠ .obj p) ∧ R (.bl (isI d))
theorem len_is_integer_8a5f (ds : List D) (R : DK) (h : sp_is_integer_8a5f ds R) : ds.length = 1 := by
  obtain ⟨d, rfl, _⟩ := h; rfl
theorem p_is_integer_8a5f (ds : List D) (R : DK) (h : sp_is_integer_8a5f ds R) : t_is_integer_8a5f { nx := fun _ => R .non, rt := fun d _ => R d } ⟨startL 1 ds, ()⟩ := by
  obtain ⟨d, rfl, ho, h⟩ := h
  refine ⟨ho, ⟨fun hc => ⟨ho, ?_⟩, fun hc => ?_⟩⟩
  · cases d <;> first | exact h | cases hc
  · cases d <;> first | exact h | cases hc

def t_is_within_3133 : PSx Unit := (qRet (qAndV (qCallP (sp_is_integer_8a5f) (qCons (qVar 0) qNil)) (qChain leD leD (qVar 1) (qVar 0) (qVar 2))))

def sp_is_within_3133 : Spec0 := fun ds R => ∃ (d : D) (lo hi : Int), ds = [d, .int lo, .int hi] ∧ (∀ p, d ≠ .obj p) ∧ R (.bl (inI lo hi d))
theorem len_is_within_3133 (ds : List D) (R : DK) (h : sp_is_within_3133 ds R) : ds.length = 3 := by
  obtain ⟨d, _, _, rfl, _⟩ := h; rfl
theorem p_is_within_3133 (ds : List D) (R : DK) (h : sp_is_within_3133 ds R) : t_is_within_3133 { nx := fun _ => R .non, rt := fun d _ => R d } ⟨startL 3 ds, ()⟩ := by
  obtain ⟨d, lo, hi, rfl, ho, h⟩ := h
  refine ⟨d, rfl, ho, ⟨fun hc => ?_, fun hc => ?_⟩⟩
  · cases d with
    | int i =>
      by_cases h1 : lo ≤ i
      · show match D.bl (decide (lo ≤ i)) with | .bl true => _ | .bl false => _ | _ => False
        have e : inI lo hi (.int i) = decide (i ≤ hi) := by simp [inI, h1]
        rw [e] at h
        rw [decide_eq_true h1]; exact h
      · show match D.bl (decide (lo ≤ i)) with | .bl true => _ | .bl false => _ | _ => False
        have e : inI lo hi (.int i) = false := by simp [inI, h1]
        rw [e] at h
        rw [decide_eq_false h1]; exact h
    | _ => cases hc
  · cases d <;> first | exact h | cases hc

def t_is_group_a50b : PSx Unit := (qSeq (qIf (qOr (qNot (qB (qIsi "tuple" (qVar 1)))) (qNot (qB (qCall (fn1 allD) (qCons (qSet (qLc (qItems (qVar 1)) (.nm 2) [2] qYes (qCallP (sp_is_within_3133) (qCons (qVar 2) (qCons (qC (.int 0)) (qCons (qBin subD (qCall (fn1 lenD) (qCons (qBin ixD (qVar 0) (qC (.int 0))) qNil)) (qC (.int 1))) qNil)))))) qNil))))) (qRet (qC (.bl false))) qNext) (qRet (qCall (fn1 allD) (qCons (qSet (qLc (qZip (qCons (qVar 1) (qCons (qSl (qVar 1) (qPart (qC (.int 1))) qNoPart) qNil))) (.tp [(.nm 3), (.nm 4)]) [3, 4] qYes (qBin ltD (qVar 3) (qVar 4)))) qNil))))

def sp_is_group_a50b : Spec0 := fun ds R => ∃ (its : List (Int × Int)) (rd d : D), ds = [pD its rd, d] ∧ gOk d ∧ R (.bl (isG its.length d))
theorem len_is_group_a50b (ds : List D) (R : DK) (h : sp_is_group_a50b ds R) : ds.length = 2 := by
  obtain ⟨_, _, _, rfl, _⟩ := h; rfl
theorem p_is_group_a50b (ds : List D) (R : DK) (h : sp_is_group_a50b ds R) : t_is_group_a50b { nx := fun _ => R .non, rt := fun d _ => R d } ⟨startL 5 ds, ()⟩ := by
  obtain ⟨its, rd, d, rfl, ho, h⟩ := h
  have line : (10000000 : Nat) ≤ sizeLine := line_big
  have ml : (its.map itD).length = its.length := by simp
  refine ⟨ho.1, ⟨fun hc => ?_, fun hc => ?_⟩⟩
  · -- not a tuple
    have hc : (!isTy "tuple" d) = true := hc
    refine ⟨fun _ => ?_, fun z => by cases z⟩
    cases d <;> first | exact h | (simp [isTy] at hc)
  · have hc : (!isTy "tuple" d) = false := hc
    obtain ⟨xs, rfl⟩ : ∃ xs, d = .tup xs := by cases d <;> first | exact ⟨_, rfl⟩ | (simp [isTy] at hc)
    obtain ⟨xl, xo⟩ := ho.2 xs rfl
    refine lc_all (fun x => D.bl (inI 0 ((its.length : Int) - 1) x)) (by omega) (fun x hx => ⟨_, rfl, fun T h => ⟨_, rfl, x, 0, (its.length : Int) - 1, ?_, xo x hx, h⟩⟩) ?_ (by decide) (by rfl)
    · rw [← ml]
    refine ⟨xs.map (inI 0 ((its.length : Int) - 1)), ?_, ?_⟩
    · have : (xs.map fun x => D.bl (inI 0 ((its.length : Int) - 1) x)) = (xs.map (inI 0 ((its.length : Int) - 1))).map D.bl := by rw [List.map_map]; rfl
      rw [this]; exact asBls_map _
    rw [List.all_map]
    have ea : (xs.all (id ∘ inI 0 ((its.length : Int) - 1))) = xs.all (inI 0 ((its.length : Int) - 1)) := rfl
    rw [ea]
    refine ⟨fun hn => ?_, fun hn => ?_⟩
    · have hn : (!(xs.all (inI 0 ((its.length : Int) - 1)))) = true := hn
      have hf : xs.all (inI 0 ((its.length : Int) - 1)) = false := by simpa using hn
      have e : isG its.length (.tup xs) = false := by
        show (match asInts xs with | some is => (is.all fun i => decide (0 ≤ i) && decide (i ≤ (its.length : Int) - 1)) && ascI is | none => false) = false
        cases q : asInts xs with
        | none => rfl
        | some is =>
          rw [allI_not q] at hf
          show ((is.all fun i => decide (0 ≤ i) && decide (i ≤ (its.length : Int) - 1)) && ascI is) = false
          rw [hf]; rfl
      rw [e] at h
      exact h
    · have hn : (!(xs.all (inI 0 ((its.length : Int) - 1)))) = false := hn
      have ht : xs.all (inI 0 ((its.length : Int) - 1)) = true := by simpa using hn
      obtain ⟨is, q, hb⟩ := allI_ints ht
      have e : isG its.length (.tup xs) = ascI is := by
        show (match asInts xs with | some is => (is.all fun i => decide (0 ≤ i) && decide (i ≤ (its.length : Int) - 1)) && ascI is | none => false) = ascI is
        rw [q]
        show ((is.all fun i => decide (0 ≤ i) && decide (i ≤ (its.length : Int) - 1)) && ascI is) = ascI is
        rw [hb]; rfl
      rw [e] at h
      have e0 := asInts_eq q
      subst e0
      have c1 : cut (is.map D.int) (some 1) none = (is.drop 1).map D.int := by
        have := cut_from (is.map D.int) 1
        rw [← List.map_drop] at this
        exact this
      have il : is.length ≤ 100000 := by simpa using xl
      dsimp only [qNext]
      show lcB _ _ _ _ _ (zipD (is.map D.int) (cut (is.map D.int) (some 1) none)) _
      rw [c1, zipD_map]
      refine lc_mapl (is.zip (is.drop 1)) (fun p => D.tup [.int p.1, .int p.2]) (fun p => D.bl (decide (p.1 < p.2))) (by rw [List.length_zip]; omega) (fun p hp => ⟨_, rfl, fun T h => h⟩) ?_ (by decide) (by rfl)
      refine ⟨(is.zip (is.drop 1)).map (fun p => decide (p.1 < p.2)), ?_, ?_⟩
      · have : ((is.zip (is.drop 1)).map fun p => D.bl (decide (p.1 < p.2))) = ((is.zip (is.drop 1)).map fun p => decide (p.1 < p.2)).map D.bl := by rw [List.map_map]; rfl
        rw [this]; exact asBls_map _
      rw [List.all_map]; exact h

def t_is_upward_11cd : PSx Unit := (qSeq (qIf (qNot (qB (qCallP (sp_is_group_a50b) (qCons (qVar 0) (qCons (qVar 1) qNil))))) (qRet (qC (.bl false))) qNext) (qRet (qCall (fn1 allD) (qCons (qSet (qLc (qItems (qBin ixD (qVar 0) (qC (.int 1)))) (.tp [(.nm 2), (.nm 3)]) [2, 3] qYes (qOrV (qBin inD (qVar 3) (qVar 1)) (qBin notInD (qVar 2) (qVar 1))))) qNil))))

def sp_is_upward_11cd : Spec0 := fun ds R => ∃ (m : Nat) (p : Pan) (d : D), ds = [panD p, d] ∧ m ≤ 100 ∧ PanOk m p ∧ gOk d ∧ (isG p.its.length d = false → R (.bl false)) ∧ (∀ gs, GrOk p.its.length gs → d = grD gs → R (.bl (upB p gs)))
theorem len_is_upward_11cd (ds : List D) (R : DK) (h : sp_is_upward_11cd ds R) : ds.length = 2 := by
  obtain ⟨_, _, _, rfl, _⟩ := h; rfl
theorem p_is_upward_11cd (ds : List D) (R : DK) (h : sp_is_upward_11cd ds R) : t_is_upward_11cd { nx := fun _ => R .non, rt := fun d _ => R d } ⟨startL 4 ds, ()⟩ := by
  obtain ⟨m, p, d, rfl, hm, hp, ho, h0, h1⟩ := h
  have hf := hp.few
  refine ⟨p.its, _, d, rfl, ho, ⟨fun hc => ?_, fun hc => ?_⟩⟩
  · have hc : (!isG p.its.length d) = true := hc
    exact h0 (by simpa using hc)
  · have hc : (!isG p.its.length d) = false := hc
    obtain ⟨gs, rfl, hg⟩ := isG_ex (show isG p.its.length d = true by simpa using hc)
    have h := h1 gs hg rfl
    dsimp only [qNext]
    refine ⟨_, rfl, ?_⟩
    refine lc_mapl p.rus itD (fun q => D.bl (upR gs q)) (by omega) (fun q hq => ?_) ?_ (by decide) (by rfl)
    · obtain ⟨a, b, rfl, ha, hb, _⟩ := rule_nats (hp.ru q hq)
      refine ⟨_, rfl, fun T h => ⟨⟨rfl, nats_pln gs, Nat.zero_le 60⟩, ?_⟩⟩
      have e1 := isin_nats (gs := gs) (k := b)
      have e2 := notin_nats (gs := gs) (k := a)
      refine ⟨fun hb => ?_, fun hb => ⟨⟨rfl, nats_pln gs, Nat.zero_le 60⟩, ?_⟩⟩
      · have hb : (false ^^ (gs.map natD).any fun y => D.eqv y (.int b)) = true := hb
        rw [e1] at hb
        have e : upR gs ((a : Int), (b : Int)) = true := by simp only [upR, Int.toNat_natCast, hb, Bool.true_or]
        rw [e] at h; exact h
      · have hb : (false ^^ (gs.map natD).any fun y => D.eqv y (.int b)) = false := hb
        rw [e1] at hb
        have e : upR gs ((a : Int), (b : Int)) = (true ^^ (gs.map natD).any fun y => D.eqv y (.int a)) := by rw [e2]; simp only [upR, Int.toNat_natCast, hb, Bool.false_or]
        rw [e] at h; exact h
    · refine ⟨p.rus.map (upR gs), ?_, ?_⟩
      · have : (p.rus.map fun q => D.bl (upR gs q)) = (p.rus.map (upR gs)).map D.bl := by rw [List.map_map]; rfl
        rw [this]; exact asBls_map _
      rw [List.all_map]; exact h

def t_upward_sets_3622 : PSx Unit := (qRet (qCall (fn1 tupleD) (qCons (qSet (qLc (qItems (qCallP (sp_all_groups_7d0b) (qCons (qSet (qLstRg1 (qCall (fn1 lenD) (qCons (qBin ixD (qVar 0) (qC (.int 0))) qNil)))) qNil))) (.nm 1) [1] (qB (qCallP (sp_is_upward_11cd) (qCons (qVar 0) (qCons (qVar 1) qNil)))) (qVar 1))) qNil)))

def sp_upward_sets_3622 : Spec0 := fun ds R => ∃ (m : Nat) (p : Pan), ds = [panD p] ∧ m ≤ 10 ∧ PanOk m p ∧ R (.tup ((upG p).map grD))
theorem len_upward_sets_3622 (ds : List D) (R : DK) (h : sp_upward_sets_3622 ds R) : ds.length = 1 := by
  obtain ⟨_, _, rfl, _⟩ := h; rfl
theorem p_upward_sets_3622 (ds : List D) (R : DK) (h : sp_upward_sets_3622 ds R) : t_upward_sets_3622 { nx := fun _ => R .non, rt := fun d _ => R d } ⟨startL 2 ds, ()⟩ := by
  obtain ⟨m, p, rfl, hm, hp, h⟩ := h
  have ht := hp.top
  have ml : (p.its.map itD).length = p.its.length := by simp
  refine ⟨_, rfl, ⟨by rw [ml]; omega, by rw [ml]; omega⟩, List.range p.its.length, ?_, by rw [List.length_range]; omega, List.pairwise_lt_range, ?_⟩
  · rw [ml]
    have : rgD 0 (p.its.length : Int) = (List.range p.its.length).map natD := by
      unfold rgD
      have e : ((p.its.length : Int) - 0).toNat = p.its.length := by omega
      rw [e]
      exact List.map_congr_left fun k _ => by simp [natD]
    rw [this]
  · have gl : (grpS (List.range p.its.length)).length ≤ 2 ^ 10 := by
      rw [grpS_length, List.length_range]
      exact Nat.pow_le_pow_right (by decide) (by omega)
    refine lc_list (grpS (List.range p.its.length)) grD (upB p) grD (by omega) (fun g hg => ?_) h (by decide) (by rfl)
    have go := GrOk.of_sub (grpS_sub hg)
    have gl := (grpS_sub hg).length_le
    rw [List.length_range] at gl
    refine ⟨_, rfl, fun T h => ⟨m, p, grD g, rfl, by omega, hp, gOk_gr (by omega), fun hc => ?_, fun gs hgs e => ?_⟩, fun _ T h => h⟩
    · rw [isG_gr go] at hc; cases hc
    · have : g = gs := by
        have e : D.tup (g.map natD) = D.tup (gs.map natD) := e
        injection e with e
        have inj : ∀ {a b : List Nat}, a.map natD = b.map natD → a = b := fun {a} => by
          induction a with
          | nil => intro b e; cases b with | nil => rfl | cons => cases e
          | cons x a ih =>
            intro b e
            cases b with
            | nil => cases e
            | cons y b =>
              simp only [List.map_cons, List.cons.injEq, natD, D.int.injEq] at e
              rw [ih e.2, show x = y by omega]
        exact inj e
      rw [← this]; exact h

def t_sums_of_9763 : PSx Unit := (qSeq (qAsg (qSet (qLc (qItems (qVar 1)) (.nm 3) [3] qYes (qBin ixD (qBin ixD (qVar 0) (qC (.int 0))) (qVar 3)))) 2) (qRet (qTup (qCons (qCall (fn1 sumD) (qCons (qSet (qLc (qItems (qVar 2)) (.tp [(.nm 4), (.nm 5)]) [4, 5] qYes (qBin mulD (qVar 4) (qVar 5)))) qNil)) (qCons (qCall (fn1 sumD) (qCons (qSet (qLc (qItems (qVar 2)) (.tp [(.nm 4), (.nm 5)]) [4, 5] qYes (qVar 5))) qNil)) qNil)))))

def sp_sums_of_9763 : Spec0 := fun ds R => ∃ (its : List (Int × Int)) (rd : D) (gs : List Nat), ds = [pD its rd, grD gs] ∧ gs.length ≤ 1000 ∧ (∀ i ∈ gs, i < its.length) ∧ (∀ q ∈ its, ItB q) ∧ R (.tup [.int (sM (selI its gs)), .int (sW (selI its gs))])
theorem len_sums_of_9763 (ds : List D) (R : DK) (h : sp_sums_of_9763 ds R) : ds.length = 2 := by
  obtain ⟨_, _, _, rfl, _⟩ := h; rfl
theorem p_sums_of_9763 (ds : List D) (R : DK) (h : sp_sums_of_9763 ds R) : t_sums_of_9763 { nx := fun _ => R .non, rt := fun d _ => R d } ⟨startL 6 ds, ()⟩ := by
  obtain ⟨its, rd, gs, rfl, hn, hi, hb, h⟩ := h
  have hs : ∀ q ∈ selI its gs, ItB q := fun q hq => hb q (sel_mem hi hq)
  have sl : (selI its gs).length = gs.length := by simp [selI]
  refine lc_mapl gs natD (fun i => itD (its.getD i (0, 1))) (by omega) (fun i hi' => ⟨_, rfl, fun T h => ⟨_, rfl, _, idx_it (hi i hi'), h⟩⟩) ?_ (by decide) (by rfl)
  have e1 : (gs.map fun i => itD (its.getD i (0, 1))) = (selI its gs).map itD := by unfold selI; rw [List.map_map]; rfl
  rw [e1]
  refine lc_mapl (selI its gs) itD (fun q => D.int (q.1 * q.2)) (by omega) (fun q hq => ⟨_, rfl, fun T h => ⟨(hs q hq).1.mulOk (hs q hq).2.1, h⟩⟩) ?_ (by decide) (by rfl)
  have e2 : ((selI its gs).map fun q => D.int (q.1 * q.2)) = ((selI its gs).map fun q => q.1 * q.2).map D.int := by rw [List.map_map]; rfl
  refine ⟨_, by rw [e2]; exact asInts_map _, ?_⟩
  refine lc_mapl (selI its gs) itD (fun q => D.int q.2) (by omega) (fun q hq => ⟨_, rfl, fun T h => h⟩) ?_ (by decide) (by rfl)
  have e3 : ((selI its gs).map fun q => D.int q.2) = ((selI its gs).map fun q => q.2).map D.int := by rw [List.map_map]; rfl
  exact ⟨_, by rw [e3]; exact asInts_map _, (by show 2 ≤ sizeLine; decide), h⟩

def t_upper_part_65f2 : PSx Unit := (qSeq (qAsgT (qCallP (sp_sums_of_9763) (qCons (qVar 0) (qCons (qVar 2) qNil))) (.tp [(.nm 3), (.nm 4)])) (qSeq (qAsgT (qTup (qCons (qTup qNil) (qCons (qC (.int 0)) qNil))) (.tp [(.nm 5), (.nm 6)])) (qSeq (qFor (qItems (qVar 1)) (.nm 7) (qSeq (qAsg (qCall (fn1 tupleD) (qCons (qSet (qLc (qItems (qVar 7)) (.nm 12) [12] (qB (qBin inD (qVar 12) (qVar 2))) (qVar 12))) qNil)) 8) (qSeq (qAsgT (qCallP (sp_sums_of_9763) (qCons (qVar 0) (qCons (qVar 8) qNil))) (.tp [(.nm 9), (.nm 10)])) (qSeq (qAsg (qBin subD (qBin mulD (qVar 9) (qVar 4)) (qBin mulD (qVar 3) (qVar 10))) 11) (qIf (qB (qBin gtD (qVar 11) (qVar 6))) (qPar 5 6 (qCons (qVar 8) (qCons (qVar 11) qNil))) qNext))))) (qRet (qVar 5)))))

def sp_upper_part_65f2 : Spec0 := fun ds R => ∃ (its : List (Int × Int)) (rd : D) (cl : List (List Nat)) (part : List Nat), ds = [pD its rd, .tup (cl.map grD), grD part] ∧ cl.length ≤ 10000 ∧ (∀ g ∈ cl, g.length ≤ 100) ∧ part.length ≤ 100 ∧ (∀ i ∈ part, i < its.length) ∧ (∀ q ∈ its, ItB q) ∧ ∀ U, UPart its cl part U → R (grD U)
theorem len_upper_part_65f2 (ds : List D) (R : DK) (h : sp_upper_part_65f2 ds R) : ds.length = 3 := by
  obtain ⟨_, _, _, _, rfl, _⟩ := h; rfl
theorem p_upper_part_65f2 (ds : List D) (R : DK) (h : sp_upper_part_65f2 ds R) : t_upper_part_65f2 { nx := fun _ => R .non, rt := fun d _ => R d } ⟨startL 13 ds, ()⟩ := by
  obtain ⟨its, rd, cl, part, rfl, hc, hg, hn, hi, hb, h⟩ := h
  have line : (10000000 : Nat) ≤ sizeLine := line_big
  have zs : ∀ gs : List Nat, gs.length ≤ 100 → (∀ i ∈ gs, i < its.length) → Sz 150 (sM (selI its gs)) ∧ Sz 150 (sW (selI its gs)) := fun gs hl hi => sz_sums (fun q hq => hb q (sel_mem hi hq)) (by simp [selI]; omega)
  have zp := zs part hn hi
  refine seq_mid (M := fun s' => s' = ⟨[some (.val (pD its rd)), some (.val (.tup (cl.map grD))), some (.val (grD part)), some (.val (.int (sM (selI its part)))), some (.val (.int (sW (selI its part)))), none, none, none, none, none, none, none, none], ()⟩) ?_ ?_
  rotate_left
  · intro N hN
    exact ⟨its, rd, part, rfl, by omega, hi, hb, hN _ rfl⟩
  rintro _ rfl
  refine ⟨(by show 0 ≤ sizeLine; omega), (by show 2 ≤ sizeLine; omega), ?_⟩
  refine ⟨fun j s => ∃ (F : List Nat) (most : Int), ((F = [] ∧ most = 0) ∨ (∃ g ∈ cl.take j, F = g.filter (inB part) ∧ 0 < most ∧ most = excI its part F)) ∧ (∀ g ∈ cl.take j, excI its part (g.filter (inB part)) ≤ most) ∧
    s = ⟨[some (.val (pD its rd)), some (.val (.tup (cl.map grD))), some (.val (grD part)), some (.val (.int (sM (selI its part)))), some (.val (.int (sW (selI its part)))), some (.val (grD F)), some (.val (.int most)), none, none, none, none, none, none], ()⟩, ⟨_, Wk.refl _, [], 0, .inl ⟨rfl, rfl⟩, by simp, rfl⟩, ?_, ?_⟩
  · rintro j d s hd ⟨F, most, hF, hm, rfl⟩
    rw [List.getElem?_map] at hd
    obtain ⟨g, hgj, rfl⟩ := Option.map_eq_some_iff.mp hd
    have gm := List.mem_of_getElem? hgj
    have gl := hg g gm
    have et : cl.take (j + 1) = cl.take j ++ [g] := by rw [List.take_add_one, hgj]; rfl
    have si : ∀ i ∈ g.filter (inB part), i < its.length := fun i h => hi i (by have := (List.mem_filter.mp h).2; simpa [inB] using this)
    have sl : (g.filter (inB part)).length ≤ 100 := Nat.le_trans (List.length_filter_le _ _) gl
    have z1 := zs _ sl si
    refine put_nm ?_
    refine seq_mid (M := fun s' => s' = ⟨[some (.val (pD its rd)), some (.val (.tup (cl.map grD))), some (.val (grD part)), some (.val (.int (sM (selI its part)))), some (.val (.int (sW (selI its part)))), some (.val (grD F)), some (.val (.int most)), some (.val (grD g)), some (.val (grD (g.filter (inB part)))), none, none, none, none], ()⟩) ?_ ?_
    rotate_left
    · intro N hN
      refine lc_list g natD (inB part) natD (by omega) (fun i hi' => ⟨_, rfl, fun T h => ⟨⟨rfl, nats_pln part, Nat.zero_le 60⟩, by rw [isin_natD]; exact h⟩, fun _ T h => h⟩) ?_ ?_ ?_
      · exact hN _ rfl
      · decide
      · rfl
    rintro _ rfl
    refine seq_mid (M := fun s' => s' = ⟨[some (.val (pD its rd)), some (.val (.tup (cl.map grD))), some (.val (grD part)), some (.val (.int (sM (selI its part)))), some (.val (.int (sW (selI its part)))), some (.val (grD F)), some (.val (.int most)), some (.val (grD g)), some (.val (grD (g.filter (inB part)))), some (.val (.int (sM (selI its (g.filter (inB part)))))), some (.val (.int (sW (selI its (g.filter (inB part)))))), none, none], ()⟩) ?_ ?_
    rotate_left
    · intro N hN
      exact ⟨its, rd, _, rfl, by omega, si, hb, hN _ rfl⟩
    rintro _ rfl
    refine ⟨z1.1.mulOk zp.2, zp.1.mulOk z1.2, ⟨fun hgt => ?_, fun hgt => ?_⟩⟩
    · have hgt : most < excI its part (g.filter (inB part)) := of_decide_eq_true hgt
      refine ⟨_, ?_, g.filter (inB part), excI its part (g.filter (inB part)), .inr ⟨g, by rw [et]; simp, rfl, ?_, rfl⟩, fun g' hg' => ?_, rfl⟩
      · exact Wk.of (by repeat' first | exact trivial | exact .inr rfl | exact .inl rfl | refine ⟨?_, ?_⟩)
      · rcases hF with ⟨_, rfl⟩ | ⟨_, _, _, h0, _⟩ <;> omega
      · rw [et] at hg'
        rcases List.mem_append.mp hg' with hg' | hg'
        · have := hm g' hg'; omega
        · rw [List.mem_singleton.mp hg']; exact Int.le_refl _
    · have hgt : ¬ most < excI its part (g.filter (inB part)) := of_decide_eq_false hgt
      refine ⟨_, ?_, F, most, ?_, fun g' hg' => ?_, rfl⟩
      · exact Wk.of (by repeat' first | exact trivial | exact .inr rfl | exact .inl rfl | refine ⟨?_, ?_⟩)
      · rcases hF with h0 | ⟨g', hg', h0⟩
        · exact .inl h0
        · exact .inr ⟨g', by rw [et]; exact List.mem_append_left _ hg', h0⟩
      · rw [et] at hg'
        rcases List.mem_append.mp hg' with hg' | hg'
        · exact hm g' hg'
        · rw [List.mem_singleton.mp hg']; omega
  · rintro s ⟨F, most, hF, hm, rfl⟩
    rw [List.length_map, List.take_of_length_le (Nat.le_refl _)] at hF hm
    refine h F ?_
    rcases hF with ⟨rfl, rfl⟩ | ⟨g, hg', e, h0, e2⟩
    · exact .inl ⟨rfl, hm⟩
    · subst e2; exact .inr ⟨g, hg', e, h0, hm⟩

def t_average_of_ee61 : PSx Unit := (qSeq (qAsg (qSet (qLc (qItems (qVar 1)) (.nm 4) [4] qYes (qBin ixD (qBin ixD (qVar 0) (qC (.int 0))) (qVar 4)))) 2) (qSeq (qAsg (qCall (fn1 sumD) (qCons (qSet (qLc (qItems (qVar 2)) (.tp [(.nm 5), (.nm 6)]) [5, 6] qYes (qBin mulD (qVar 5) (qVar 6)))) qNil)) 3) (qRet (qCallP (sp_make_fraction_15f7) (qCons (qVar 3) (qCons (qCall (fn1 sumD) (qCons (qSet (qLc (qItems (qVar 2)) (.tp [(.nm 5), (.nm 6)]) [5, 6] qYes (qVar 6))) qNil)) qNil))))))

def sp_average_of_ee61 : Spec0 := fun ds R => ∃ (its : List (Int × Int)) (rd : D) (gs : List Nat), (ds = [pD its rd, grD gs] ∨ ds = [pD its rd, .lst (gs.map natD)]) ∧ gs ≠ [] ∧ gs.length ≤ 1000 ∧ (∀ i ∈ gs, i < its.length) ∧ (∀ q ∈ its, ItB q) ∧ R (frD (avg (selI its gs)))
theorem len_average_of_ee61 (ds : List D) (R : DK) (h : sp_average_of_ee61 ds R) : ds.length = 2 := by
  obtain ⟨a, b, c, rfl | rfl, _⟩ := h <;> rfl
theorem p_average_of_ee61 (ds : List D) (R : DK) (h : sp_average_of_ee61 ds R) : t_average_of_ee61 { nx := fun _ => R .non, rt := fun d _ => R d } ⟨startL 7 ds, ()⟩ := by
  obtain ⟨its, rd, gs, hds, h0, hn, hi, hb, h⟩ := h
  have hs : ∀ q ∈ selI its gs, ItB q := fun q hq => hb q (sel_mem hi hq)
  have sl : (selI its gs).length = gs.length := by simp [selI]
  have wp := sW_pos hs (sel_ne h0)
  have e1 : (gs.map fun i => itD (its.getD i (0, 1))) = (selI its gs).map itD := by unfold selI; rw [List.map_map]; rfl
  have e2 : ((selI its gs).map fun q => D.int (q.1 * q.2)) = ((selI its gs).map fun q => q.1 * q.2).map D.int := by rw [List.map_map]; rfl
  have e3 : ((selI its gs).map fun q => D.int q.2) = ((selI its gs).map fun q => q.2).map D.int := by rw [List.map_map]; rfl
  have key : ∀ E : D, qSeq (qAsg (qCall (fn1 sumD) (qCons (qSet (qLc (qItems (qVar 2)) (.tp [(.nm 5), (.nm 6)]) [5, 6] qYes (qBin mulD (qVar 5) (qVar 6)))) qNil)) 3) (qRet (qCallP (sp_make_fraction_15f7) (qCons (qVar 3) (qCons (qCall (fn1 sumD) (qCons (qSet (qLc (qItems (qVar 2)) (.tp [(.nm 5), (.nm 6)]) [5, 6] qYes (qVar 6))) qNil)) qNil)))) { nx := fun _ => R .non, rt := fun d _ => R d } ⟨[some (.val (pD its rd)), some (.val E), some (.val (.lst ((selI its gs).map itD))), none, none, none, none], ()⟩ := fun E => by
    refine lc_mapl (selI its gs) itD (fun q => D.int (q.1 * q.2)) (by omega) (fun q hq => ⟨_, rfl, fun T h => ⟨(hs q hq).1.mulOk (hs q hq).2.1, h⟩⟩) ?_ (by decide) (by rfl)
    refine ⟨_, by rw [e2]; exact asInts_map _, ?_⟩
    refine lc_mapl (selI its gs) itD (fun q => D.int q.2) (by omega) (fun q hq => ⟨_, rfl, fun T h => h⟩) ?_ (by decide) (by rfl)
    exact ⟨_, by rw [e3]; exact asInts_map _, sM (selI its gs), sW (selI its gs), rfl, by omega, (sz_sums hs (by omega)).2.le (by decide), h⟩
  rcases hds with rfl | rfl
  · refine lc_mapl gs natD (fun i => itD (its.getD i (0, 1))) (by omega) (fun i hi' => ⟨_, rfl, fun T h => ⟨_, rfl, _, idx_it (hi i hi'), h⟩⟩) ?_ (by decide) (by rfl)
    rw [e1]; exact key _
  · refine lc_mapl gs natD (fun i => itD (its.getD i (0, 1))) (by omega) (fun i hi' => ⟨_, rfl, fun T h => ⟨_, rfl, _, idx_it (hi i hi'), h⟩⟩) ?_ (by decide) (by rfl)
    rw [e1]; exact key _

def t_best_rating_b8e6 : PSx Unit := (qSeq (qAsg (qCallP (sp_upward_sets_3622) (qCons (qVar 0) qNil)) 1) (qSeq (qAsgOwn (qBinF mulF (qSet (qLst (qCons (qC .non) qNil))) (qCall (fn1 lenD) (qCons (qBin ixD (qVar 0) (qC (.int 0))) qNil))) 2) (qSeq (qAsgOwn (qLst (qCons (qTupRg1 (qCall (fn1 lenD) (qCons (qBin ixD (qVar 0) (qC (.int 0))) qNil))) qNil)) 3) (qSeq (qWhile (qB (qBinN1 neD 3 (qSet (qLst qNil)))) (qSeq (qAsg (qPop 3) 4) (qSeq (qAsg (qCallP (sp_upper_part_65f2) (qCons (qVar 0) (qCons (qVar 1) (qCons (qVar 4) qNil)))) 5) (qIf (qB (qBin eqD (qVar 5) (qTup qNil))) (qFor (qItems (qVar 4)) (.nm 6) (qSetItem (qCallP (sp_average_of_ee61) (qCons (qVar 0) (qCons (qVar 4) qNil))) 2 (qVar 6))) (qDrop (qExtend 3 (qLst (qCons (qVar 5) (qCons (qCall (fn1 tupleD) (qCons (qSet (qLc (qItems (qVar 4)) (.nm 6) [6] (qB (qBin notInD (qVar 6) (qVar 5))) (qVar 6))) qNil)) qNil))))))))) (qRet (qCall (fn1 tupleD) (qCons (qVar 2) qNil)))))))

def sp_best_rating_b8e6 : Spec0 := fun ds R => ∃ (m : Nat) (p : Pan), ds = [panD p] ∧ m ≤ 10 ∧ PanOk m p ∧ ∀ r : Nat → Rat, BestP p r → (∀ i, i < p.its.length → SzR 150 (r i)) → R (.tup ((List.range p.its.length).map fun i => frD (r i)))
theorem len_best_rating_b8e6 (ds : List D) (R : DK) (h : sp_best_rating_b8e6 ds R) : ds.length = 1 := by
  obtain ⟨_, _, rfl, _⟩ := h; rfl
abbrev sBR (p : Pan) (st : List (List Nat)) (f : Nat → D) (pt up : Option L) : S Unit := ⟨[some (.val (panD p)), some (.val (.tup ((upG p).map grD))), some (.own ((List.range p.its.length).map f)), some (.own (st.map grD)), pt, up, none], ()⟩
theorem set_map {n k : Nat} (f : Nat → D) (d : D) (hk : k < n) : ((List.range n).map f).set k d = (List.range n).map fun i => if i = k then d else f i := by
  refine List.ext_getElem? fun i => ?_
  rw [List.getElem?_set]
  by_cases h : k = i
  · subst h
    simp [hk]
  · have h' : i ≠ k := fun e => h e.symm
    simp [h, h', List.getElem?_map]
    by_cases hi : i < n
    · simp [List.getElem?_range hi, h']
    · rw [List.getElem?_eq_none (by simpa using hi)]; rfl
def ratOf : D → Rat
  | .tup [.int a, .int b] => Rat.divInt a b
  | _ => 0
theorem ratOf_fr (x : Rat) : ratOf (frD x) = x := Rat.num_divInt_den x
theorem p_best_rating_b8e6 (ds : List D) (R : DK) (h : sp_best_rating_b8e6 ds R) : t_best_rating_b8e6 { nx := fun _ => R .non, rt := fun d _ => R d } ⟨startL 7 ds, ()⟩ := by
  obtain ⟨m, p, rfl, hm, hp, h⟩ := h
  have line : (10000000 : Nat) ≤ sizeLine := line_big
  have ht := hp.top
  have h1 := hp.one
  have ml : (p.its.map itD).length = p.its.length := by simp
  have hB : ∀ q ∈ p.its, ItB q := fun q hq => (hp.it q hq).b
  have ugl : ∀ g ∈ upG p, g.length ≤ 10 := fun g hg => by
    have := (grpS_sub (List.mem_filter.mp hg).1).length_le
    rw [List.length_range] at this; omega
  have ul : (upG p).length ≤ 2 ^ 10 := by
    refine Nat.le_trans (List.length_filter_le _ _) ?_
    rw [grpS_length, List.length_range]
    exact Nat.pow_le_pow_right (by decide) (by omega)
  refine seq_mid (M := fun s' => s' = ⟨[some (.val (panD p)), some (.val (.tup ((upG p).map grD))), none, none, none, none, none], ()⟩) ?_ ?_
  rotate_left
  · intro N hN
    exact ⟨m, p, rfl, hm, hp, hN _ rfl⟩
  rintro _ rfl
  refine seq_mid (M := fun s' => s' = ⟨[some (.val (panD p)), some (.val (.tup ((upG p).map grD))), some (.own ((List.range p.its.length).map fun _ => D.non)), none, none, none, none], ()⟩) ?_ ?_
  rotate_left
  · intro N hN
    refine ⟨(by show 1 ≤ sizeLine; omega), _, rfl, ⟨by omega, by rw [ml]; omega, by rw [ml, Int.toNat_natCast]; show 1 * p.its.length ≤ sizeLine; omega⟩, hN _ ?_⟩
    rw [ml, Int.toNat_natCast]
    have e : (List.replicate p.its.length [D.non]).flatten = (List.range p.its.length).map fun _ => D.non := by
      rw [List.map_const', List.length_range]; simp
    rw [e]; rfl
  rintro _ rfl
  refine seq_mid (M := fun s' => s' = sBR p [List.range p.its.length] (fun _ => D.non) none none) ?_ ?_
  rotate_left
  · intro N hN
    refine ⟨_, rfl, ⟨by rw [ml]; omega, by rw [ml]; omega⟩, (by show 1 ≤ sizeLine; omega), hN _ ?_⟩
    have e : rgD 0 (p.its.length : Int) = (List.range p.its.length).map natD := by
      unfold rgD
      have e : ((p.its.length : Int) - 0).toNat = p.its.length := by omega
      rw [e]
      exact List.map_congr_left fun k _ => by simp [natD]
    rw [ml, e]; rfl
  rintro _ rfl
  refine seq_mid (M := fun s' => ∃ (dn : List (List Nat)) (f : Nat → D), Parts p dn ∧ (∀ q ∈ dn, Whole (eE p) (mR p) (wR p) q) ∧ (∀ q ∈ dn, ∀ i ∈ q, f i = frD (avg (selI p.its q))) ∧ s' = sBR p [] f none none) ?_ ?_
  rotate_left
  · intro N hN
    refine ⟨fun μ s => ∃ (st dn : List (List Nat)) (f : Nat → D), μ = meas st ∧ Parts p (dn ++ st.reverse) ∧ (∀ q ∈ dn, Whole (eE p) (mR p) (wR p) q) ∧ (∀ q ∈ dn, ∀ i ∈ q, f i = frD (avg (selI p.its q))) ∧ s = sBR p st f none none, ⟨_, _, Wk.refl _, [List.range p.its.length], [], fun _ => .non, rfl, Parts.start hp, by simp, by simp, rfl⟩, ?_⟩
    rintro μ s ⟨st, dn, f, rfl, hP, hW, hf, rfl⟩
    have ep : D.eqv (.lst (st.map grD)) (.lst []) = decide (st = []) := by cases st <;> rfl
    have pl : (D.lst (st.map grD)).pln = true := by
      have : ∀ l : List (List Nat), D.plns (l.map grD) = true := fun l => by
        induction l with
        | nil => rfl
        | cons a l ih => simp only [List.map_cons, D.plns, ih, Bool.and_true]; exact nats_pln a
      exact this st
    have dp : (D.lst (st.map grD)).dep ≤ 64 := by
      have d0 : ∀ l : List Nat, D.deps (l.map natD) = 0 := fun l => by
        induction l with
        | nil => rfl
        | cons a l ih => simp only [List.map_cons, D.deps, ih]; rfl
      have : ∀ l : List (List Nat), D.deps (l.map grD) ≤ 1 := fun l => by
        induction l with
        | nil => exact Nat.zero_le _
        | cons a l ih =>
          simp only [List.map_cons, D.deps]
          have : (grD a).dep = 1 := by simp only [grD, D.dep, d0]
          omega
      have := this st
      simp only [D.dep]; omega
    refine ⟨rfl, (by show 0 ≤ sizeLine; omega), _, rfl, ⟨pl, rfl, dp, by simp [D.dep, D.deps]⟩, ⟨fun hc => ?_, fun hc => ?_⟩⟩
    · -- a part is taken
      have hc : (!D.eqv (.lst (st.map grD)) (.lst [])) = true := hc
      rw [ep] at hc
      have sn : st ≠ [] := by simpa using hc
      obtain ⟨st', part, rfl⟩ : ∃ a b, st = a ++ [b] := ⟨st.dropLast, st.getLast sn, (List.dropLast_concat_getLast sn).symm⟩
      have er : dn ++ (st' ++ [part]).reverse = dn ++ part :: st'.reverse := by rw [List.reverse_append]; rfl
      rw [er] at hP
      have pin : part ∈ dn ++ part :: st'.reverse := by simp
      have psub := hP.sb part pin
      have pne := hP.ne part pin
      have plt := hP.lt pin
      have pll : part.length ≤ 10 := by have := psub.length_le; rw [List.length_range] at this; omega
      have mpos : 1 ≤ part.length := List.length_pos_iff.mpr pne
      refine seq_mid (M := fun s' => s' = sBR p st' f (some (.val (grD part))) none) ?_ ?_
      rotate_left
      · intro N2 hN2
        refine ⟨_, grD part, rfl, ?_, hN2 _ ?_⟩
        · rw [List.map_append]; simp
        · rw [List.map_append]
          have : (st'.map grD ++ [part].map grD).dropLast = st'.map grD := by rw [List.map_cons, List.map_nil, List.dropLast_concat]
          rw [this]; rfl
      rintro _ rfl
      refine ⟨p.its, _, upG p, part, rfl, by omega, fun g hg => by have := ugl g hg; omega, by omega, plt, hB, fun U hU => ?_⟩
      refine ⟨(by show 0 ≤ sizeLine; omega), gr_ok U, ⟨fun hu => ?_, fun hu => ?_⟩⟩
      · -- whole
        have hu : D.eqv (grD U) (.tup []) = true := hu
        rw [gr_eqv, decide_eq_true_eq] at hu
        subst hu
        have hall : ∀ g ∈ upG p, excI p.its part (g.filter (inB part)) ≤ 0 := by
          rcases hU with ⟨_, h⟩ | ⟨g, _, _, h0, _⟩
          · exact h
          · simp [excI, selI, sM, sW] at h0
        have wh := hP.whole hp hall
        refine ⟨fun j s => ∃ f' : Nat → D, (∀ i ∈ part.take j, f' i = frD (avg (selI p.its part))) ∧ (∀ i, i ∉ part → f' i = f i) ∧ s = sBR p st' f' (some (.val (grD part))) (some (.val (grD []))), ⟨_, Wk.refl _, f, by simp, fun _ _ => rfl, rfl⟩, ?_, ?_⟩
        · rintro j d s hd ⟨f', h2, h3, rfl⟩
          rw [List.getElem?_map] at hd
          obtain ⟨i, hi, rfl⟩ := Option.map_eq_some_iff.mp hd
          have im := List.mem_of_getElem? hi
          have il := plt i im
          refine ⟨p.its, _, part, .inl rfl, pne, by omega, plt, hB, ⟨_, rfl⟩, _, i, rfl, ?_, ?_⟩
          · unfold ixN
            rw [if_pos (by omega), if_pos (by rw [List.length_map, List.length_range]; omega), Int.toNat_natCast]
          · refine ⟨sBR p st' (fun k => if k = i then frD (avg (selI p.its part)) else f' k) (some (.val (grD part))) (some (.val (grD []))), ?_, _, fun k hk => ?_, fun k hk => ?_, rfl⟩
            · have e := set_map (n := p.its.length) f' (frD (avg (selI p.its part))) il
              show Wk (⟨[_, _, some (.own (((List.range p.its.length).map f').set i (frD (avg (selI p.its part))))), _, _, _, _], ()⟩ : S Unit) _
              rw [e]
              exact Wk.of (by repeat' first | exact trivial | exact .inr rfl | exact .inl rfl | refine ⟨?_, ?_⟩)
            · by_cases e : k = i
              · simp [e]
              · have ht : part.take (j + 1) = part.take j ++ [i] := by rw [List.take_add_one, hi]; rfl
                rw [ht] at hk
                have : k ∈ part.take j := by
                  rcases List.mem_append.mp hk with hk | hk
                  · exact hk
                  · exact absurd (List.mem_singleton.mp hk) e
                simp [e, h2 k this]
            · have : k ≠ i := fun e => hk (e ▸ im)
              simp [this, h3 k hk]
        · rintro s ⟨f', h2, h3, rfl⟩
          rw [List.length_map, List.take_of_length_le (Nat.le_refl _)] at h2
          refine ⟨meas st', sBR p st' f' none none, ?_, ?_, st', dn ++ [part], f', rfl, ?_, ?_, ?_, rfl⟩
          · rw [meas_append]
            show meas st' < meas st' + (2 * part.length - 1 + 0)
            omega
          · exact Wk.of (by repeat' first | exact trivial | exact .inr rfl | exact .inl rfl | refine ⟨?_, ?_⟩)
          · rw [List.append_assoc]; exact hP
          · intro q hq
            rcases List.mem_append.mp hq with hq | hq
            · exact hW q hq
            · rw [List.mem_singleton.mp hq]; exact wh
          · intro q hq i hi
            rcases List.mem_append.mp hq with hq | hq
            · have : i ∉ part := fun z => (hP.nd i z).2 (List.mem_flatten.mpr ⟨q, hq, hi⟩)
              rw [h3 i this]; exact hf q hq i hi
            · rw [List.mem_singleton.mp hq] at hi ⊢; exact h2 i hi
      · -- split
        have hu : D.eqv (grD U) (.tup []) = false := hu
        rw [gr_eqv, decide_eq_false_iff_not] at hu
        obtain ⟨g, hg, eU, h0, hmx⟩ : ∃ g ∈ upG p, U = g.filter (inB part) ∧ 0 < excI p.its part U ∧ ∀ g' ∈ upG p, excI p.its part (g'.filter (inB part)) ≤ excI p.its part U := by
          rcases hU with ⟨e, _⟩ | h
          · exact absurd e hu
          · exact h
        obtain ⟨e1, hP2, un, rn⟩ := hP.split hp hg eU h0 hmx
        have ulen : U.length + (part.filter fun i => !inB U i).length = part.length := by
          have := List.filter_append_perm (inB U) part
          rw [e1] at this
          have := this.length_eq
          rw [List.length_append] at this; exact this
        have u1 : 1 ≤ U.length := List.length_pos_iff.mpr un
        have r1 : 1 ≤ (part.filter fun i => !inB U i).length := List.length_pos_iff.mpr rn
        have stl : st'.length ≤ 10 := by
          have l1 : (dn ++ part :: st'.reverse).flatten.length = p.its.length := by rw [hP.fl.length_eq, List.length_range]
          have l2 : ∀ l : List (List Nat), (∀ q ∈ l, q ≠ []) → l.length ≤ l.flatten.length := fun l => by
            induction l with
            | nil => intro _; simp
            | cons q l ih =>
              intro hne
              have := List.length_pos_iff.mpr (hne q (by simp))
              have := ih fun z hz => hne z (by simp [hz])
              rw [List.flatten_cons, List.length_append, List.length_cons]; omega
          have := l2 _ hP.ne
          rw [l1, List.length_append, List.length_cons, List.length_reverse] at this
          omega
        refine ⟨⟨_, rfl⟩, ?_⟩
        refine lc_list part natD (fun i => !inB U i) natD (by omega) (fun i hi => ⟨_, rfl, fun T h => ⟨⟨rfl, nats_pln U, Nat.zero_le 60⟩, by rw [notin_natD]; exact h⟩, fun _ T h => h⟩) ?_ (by decide) (by rfl)
        refine ⟨(by show 2 ≤ sizeLine; omega), _, rfl, (by show (st'.map grD).length + 2 ≤ sizeLine; rw [List.length_map]; omega), ?_⟩
        refine ⟨meas (st' ++ [U, part.filter fun i => !inB U i]), sBR p (st' ++ [U, part.filter fun i => !inB U i]) f none none, ?_, ?_, _, dn, f, rfl, ?_, hW, hf, rfl⟩
        · rw [meas_append, meas_append]
          show meas st' + (2 * U.length - 1 + (2 * (part.filter fun i => !inB U i).length - 1 + 0)) < meas st' + (2 * part.length - 1 + 0)
          omega
        · have e : (st' ++ [U, part.filter fun i => !inB U i]).map grD = st'.map grD ++ [grD U, grD (part.filter fun i => !inB U i)] := by rw [List.map_append]; rfl
          show Wk _ (⟨[_, _, _, some (.own ((st' ++ [U, part.filter fun i => !inB U i]).map grD)), _, _, _], ()⟩ : S Unit)
          rw [e]
          exact Wk.of (by repeat' first | exact trivial | exact .inr rfl | exact .inl rfl | refine ⟨?_, ?_⟩)
        · have e : dn ++ (st' ++ [U, part.filter fun i => !inB U i]).reverse = dn ++ (part.filter fun i => !inB U i) :: U :: st'.reverse := by rw [List.reverse_append]; rfl
          rw [e]; exact hP2
    · have hc : (!D.eqv (.lst (st.map grD)) (.lst [])) = false := hc
      rw [ep] at hc
      have sn : st = [] := by simpa using hc
      subst sn
      rw [List.reverse_nil, List.append_nil] at hP
      exact hN _ ⟨dn, f, hP, hW, hf, rfl⟩
  rintro _ ⟨dn, f, hP, hW, hf, rfl⟩
  have frr : ∀ i, i < p.its.length → ∃ q ∈ dn, i ∈ q := fun i hi => by
    have := hP.fl.mem_iff.mpr (List.mem_range.mpr hi)
    obtain ⟨q, hq, h⟩ := List.mem_flatten.mp this
    exact ⟨q, hq, h⟩
  have h := h (fun i => ratOf (f i)) (hP.best hp hW fun q hq i hi => by rw [hf q hq i hi, ratOf_fr]) fun i hi => by
    obtain ⟨q, hq, iq⟩ := frr i hi
    rw [hf q hq i iq, ratOf_fr]
    have ql : q.length ≤ 10 := by have := (hP.sb q hq).length_le; rw [List.length_range] at this; omega
    exact avg_sz (fun z hz => hB z (sel_mem (hP.lt hq) hz)) (by simp [selI]; omega) (sel_ne (hP.ne q hq))
  have e : (List.range p.its.length).map f = (List.range p.its.length).map fun i => frD (ratOf (f i)) := List.map_congr_left fun i hi => by
    obtain ⟨q, hq, iq⟩ := frr i (List.mem_range.mp hi)
    rw [hf q hq i iq, ratOf_fr]
  rw [← e] at h
  exact h

def t_level_groups_d0a5 : PSx Unit := (qSeq (qAsg (qCallP (sp_best_rating_b8e6) (qCons (qVar 0) qNil)) 1) (qSeq (qAsg (qC (.int 1)) 2) (qSeq (qFor (qItems (qVar 1)) (.tp [(.nm 3), (.nm 4)]) (qAug imulD 2 (qVar 4))) (qSeq (qAsg (qSet (qSortSet3 (qSet (qLc (qItems (qVar 1)) (.tp [(.nm 3), (.nm 4)]) [3, 4] qYes (qTup (qCons (qBin mulD (qVar 3) (qBin fdivD (qVar 2) (qVar 4))) (qCons (qTup (qCons (qVar 3) (qCons (qVar 4) qNil))) qNil))))))) 5) (qSeq (qAsgOwn (qLst qNil) 6) (qSeq (qFor (qItems (qVar 5)) (.tp [(.nm 7), (.nm 8)]) (qDrop (qAppend 6 (qTup (qCons (qVar 8) (qCons (qCall (fn1 tupleD) (qCons (qSet (qLc (qEnum (qCons (qVar 1) qNil)) (.tp [(.nm 9), (.nm 10)]) [9, 10] (qB (qBin eqD (qVar 10) (qVar 8))) (qVar 9))) qNil)) qNil)))))) (qRet (qCall (fn1 tupleD) (qCons (qVar 6) qNil)))))))))

def sp_level_groups_d0a5 : Spec0 := fun ds R => ∃ (m : Nat) (p : Pan), ds = [panD p] ∧ m ≤ 10 ∧ PanOk m p ∧ ∀ (r : Nat → Rat) (vs : List Rat), BestP p r → (∀ i, i < p.its.length → SzR 150 (r i)) → LvP p.its.length r vs → R (lvD p.its.length r vs)
theorem len_level_groups_d0a5 (ds : List D) (R : DK) (h : sp_level_groups_d0a5 ds R) : ds.length = 1 := by
  obtain ⟨_, _, rfl, _⟩ := h; rfl
theorem p_level_groups_d0a5 (ds : List D) (R : DK) (h : sp_level_groups_d0a5 ds R) : t_level_groups_d0a5 { nx := fun _ => R .non, rt := fun d _ => R d } ⟨startL 11 ds, ()⟩ := by
  obtain ⟨m, p, rfl, hm, hp, h⟩ := h
  have line : (10000000 : Nat) ≤ sizeLine := line_big
  have ht : p.its.length ≤ 10 := by have := hp.top; omega
  refine seq_mid (M := fun s' => ∃ r, BestP p r ∧ (∀ i, i < p.its.length → SzR 150 (r i)) ∧ s' = ⟨[some (.val (panD p)), some (.val (rtD p.its.length r)), none, none, none, none, none, none, none, none, none], ()⟩) ?_ ?_
  rotate_left
  · intro N hN
    exact ⟨m, p, rfl, hm, hp, fun r hr hz => hN _ ⟨r, hr, hz, rfl⟩⟩
  rintro _ ⟨r, hr, hz, rfl⟩
  refine seq_mid (M := fun s' => s' = ⟨[some (.val (panD p)), some (.val (rtD p.its.length r)), some (.val (.int 1)), none, none, none, none, none, none, none, none], ()⟩) ?_ ?_
  rotate_left
  · intro N hN
    exact hN _ rfl
  rintro _ rfl
  refine seq_mid (M := fun s' => s' = ⟨[some (.val (panD p)), some (.val (rtD p.its.length r)), some (.val (.int (cmN r p.its.length))), none, none, none, none, none, none, none, none], ()⟩) ?_ ?_
  rotate_left
  · intro N hN
    show ∃ I : Nat → S Unit → Prop, _
    refine ⟨fun k s => s = ⟨[some (.val (panD p)), some (.val (rtD p.its.length r)), some (.val (.int (cmN r k))), none, none, none, none, none, none, none, none], ()⟩, ⟨_, Wk.refl _, rfl⟩, ?_, ?_⟩
    · rintro k d s hd rfl
      have hd : ((List.range p.its.length).map fun i => frD (r i))[k]? = some d := hd
      rw [List.getElem?_map] at hd
      obtain ⟨x, hx, rfl⟩ := Option.map_eq_some_iff.mp hd
      have hx' := List.getElem?_eq_some_iff.mp hx
      have hk : k < p.its.length := by have := hx'.1; simpa using this
      have ex : x = k := by obtain ⟨a, b⟩ := hx'; rw [← b]; simp
      subst ex
      refine put_tg rfl ?_
      have z1 : Sz 1501 (cmN r x) := (cmN_sz (r := r) (b := 150) fun i hi => hz i (by omega)).le (by omega)
      refine ⟨_, rfl, z1.mulOk (hz x hk).2 (by omega), ⟨[some (.val (panD p)), some (.val (rtD p.its.length r)), some (.val (.int (cmN r (x + 1)))), none, none, none, none, none, none, none, none], ()⟩, ?_, rfl⟩
      exact Wk.of (by repeat' first | exact trivial | exact .inr rfl | exact .inl rfl | refine ⟨?_, ?_⟩)
    · rintro s rfl
      have le : ((List.range p.its.length).map fun i => frD (r i)).length = p.its.length := by simp
      rw [le]
      exact hN _ rfl
  rintro _ rfl
  have c0 := cmN_pos r p.its.length
  have cd : ∀ i, i < p.its.length → ((r i).den : Int) ∣ cmN r p.its.length := fun i hi => cmN_dvd hi
  have cz : Sz 1501 (cmN r p.its.length) := (cmN_sz (r := r) (b := 150) fun i hi => hz i hi).le (by omega)
  generalize cmN r p.its.length = c at *
  refine seq_mid (M := fun s' => ∃ vs, LvP p.its.length r vs ∧ s' = ⟨[some (.val (panD p)), some (.val (rtD p.its.length r)), some (.val (.int c)), none, none, some (.val (.lst ((vs.map (kqN c)).map k3D))), none, none, none, none, none], ()⟩) ?_ ?_
  rotate_left
  · intro N hN
    refine lc_mapl (List.range p.its.length) (fun i => frD (r i)) (fun i => k3D (kqN c (r i))) (by rw [List.length_range]; omega) (fun i hi => ?_) ?_ (by decide) (by rfl)
    · have hi := List.mem_range.mp hi
      have d0 : ((r i).den : Int) ≠ 0 := by have := (r i).den_pos; omega
      refine ⟨_, rfl, fun T h => ⟨divOk_of (hz i hi).2 d0 (by omega), ?_, (by show 2 ≤ sizeLine; omega), (by show 2 ≤ sizeLine; omega), h⟩⟩
      have : Sz 1501 (c.fdiv ((r i).den : Int)) := by
        obtain ⟨q, e⟩ := cd i hi
        have z := cz
        rw [e] at z ⊢
        rw [Int.mul_fdiv_cancel_left _ d0]
        unfold Sz at *
        rw [Int.natAbs_mul] at z
        refine Nat.lt_of_le_of_lt ?_ z
        exact Nat.le_mul_of_pos_left _ (by omega)
      exact (hz i hi).1.mulOk this (by omega)
    · refine ⟨(List.range p.its.length).map fun i => kqN c (r i), by rw [List.map_map]; rfl, by rw [List.length_map, List.length_range]; omega, fun a ha b hb e => ?_, fun out hp' hm' => ?_⟩
      · obtain ⟨i, hi, rfl⟩ := List.mem_map.mp ha
        obtain ⟨j, hj, rfl⟩ := List.mem_map.mp hb
        rw [hv_inj c0 (cd i (List.mem_range.mp hi)) (cd j (List.mem_range.mp hj)) e]
      · obtain ⟨vs, hv, rfl⟩ := lv_of c0 cd hp' hm'
        exact hN _ ⟨vs, hv, rfl⟩
  rintro _ ⟨vs, hv, rfl⟩
  have vl := hv.len
  refine seq_mid (M := fun s' => s' = ⟨[some (.val (panD p)), some (.val (rtD p.its.length r)), some (.val (.int c)), none, none, some (.val (.lst ((vs.map (kqN c)).map k3D))), some (.own []), none, none, none, none], ()⟩) ?_ ?_
  rotate_left
  · intro N hN
    exact ⟨(by show 0 ≤ sizeLine; omega), hN _ rfl⟩
  rintro _ rfl
  refine seq_mid (M := fun s' => s' = ⟨[some (.val (panD p)), some (.val (rtD p.its.length r)), some (.val (.int c)), none, none, some (.val (.lst ((vs.map (kqN c)).map k3D))), some (.own (vs.map (lvE p.its.length r))), none, none, none, none], ()⟩) ?_ ?_
  rotate_left
  · intro N hN
    show ∃ I : Nat → S Unit → Prop, _
    refine ⟨fun k s => s = ⟨[some (.val (panD p)), some (.val (rtD p.its.length r)), some (.val (.int c)), none, none, some (.val (.lst ((vs.map (kqN c)).map k3D))), some (.own ((vs.take k).map (lvE p.its.length r))), none, none, none, none], ()⟩, ⟨_, Wk.refl _, rfl⟩, ?_, ?_⟩
    · rintro k d s hd rfl
      have hd : ((vs.map (kqN c)).map k3D)[k]? = some d := hd
      rw [List.map_map, List.getElem?_map] at hd
      obtain ⟨v, hx, rfl⟩ := Option.map_eq_some_iff.mp hd
      have hk := (List.getElem?_eq_some_iff.mp hx).1
      refine put_tg rfl ?_
      refine ⟨⟨_, rfl⟩, ?_⟩
      show lcB _ _ _ _ _ (enumD ((List.range p.its.length).map fun i => frD (r i))) _
      rw [enum_rng]
      refine lc_list (List.range p.its.length) (fun j => D.tup [natD j, frD (r j)]) (fun j => decide (r j = v)) natD (by rw [List.length_range]; omega) (fun i hi => ⟨_, rfl, fun T h => ⟨⟨rfl, rfl, Nat.le_of_ble_eq_true rfl, Nat.le_of_ble_eq_true rfl⟩, by
        have e : D.eqv (frD (r i)) (frD v) = decide (r i = v) := frD_eqv _ _
        rw [← e] at h; exact h⟩, fun _ T h => h⟩) ?_ (by decide) (by rfl)
      refine ⟨(by show 2 ≤ sizeLine; omega), _, rfl, (by rw [List.length_map, List.length_take]; omega), ⟨[some (.val (panD p)), some (.val (rtD p.its.length r)), some (.val (.int c)), none, none, some (.val (.lst ((vs.map (kqN c)).map k3D))), some (.own ((vs.take (k + 1)).map (lvE p.its.length r))), none, none, none, none], ()⟩, ?_, rfl⟩
      have et : (vs.take (k + 1)).map (lvE p.its.length r) = (vs.take k).map (lvE p.its.length r) ++ [lvE p.its.length r v] := by rw [List.take_add_one, hx, List.map_append]; rfl
      rw [et]
      exact Wk.of (by repeat' first | exact trivial | exact .inr rfl | exact .inl rfl | refine ⟨?_, ?_⟩)
    · rintro s rfl
      have le : ((vs.map (kqN c)).map k3D).length = vs.length := by simp
      rw [le, List.take_of_length_le (Nat.le_refl _)]
      exact hN _ rfl
  rintro _ rfl
  exact h r vs hr hz hv

def t_levels_1e0b : PSx Unit := (qSeq (qAsgOwn (qLst qNil) 1) (qSeq (qFor (qEnum (qCons (qVar 0) qNil)) (.tp [(.nm 2), (.nm 3)]) (qIf (qAnd (qB (qBinN1 neD 1 (qSet (qLst qNil)))) (qB (qBin eqD (qBin ixD (qBinN1 ixD 1 (qUn negD (qC (.int 1)))) (qC (.int 0))) (qVar 3)))) (qSetItem (qTup (qCons (qVar 3) (qCons (qBin addD (qBin ixD (qBinN1 ixD 1 (qUn negD (qC (.int 1)))) (qC (.int 1))) (qTup (qCons (qVar 2) qNil))) qNil))) 1 (qUn negD (qC (.int 1)))) (qDrop (qAppend 1 (qTup (qCons (qVar 3) (qCons (qTup (qCons (qVar 2) qNil)) qNil))))))) (qRet (qCall (fn1 tupleD) (qCons (qVar 1) qNil)))))

def sp_levels_1e0b : Spec0 := fun ds R => ∃ rs : List Rat, ds = [.tup (rs.map frD)] ∧ rs.length ≤ 60 ∧ AscL rs ∧ ∀ vs, LvP rs.length (fun i => rs.getD i 0) vs → R (lvD rs.length (fun i => rs.getD i 0) vs)
theorem len_levels_1e0b (ds : List D) (R : DK) (h : sp_levels_1e0b ds R) : ds.length = 1 := by
  obtain ⟨_, rfl, _⟩ := h; rfl
theorem lvl_eq (k : Nat) (r : Nat → Rat) (vs : List Rat) : EqOk (.lst (vs.map (lvE k r))) (.lst []) ∧ D.eqv (.lst (vs.map (lvE k r))) (.lst []) = decide (vs = []) := by
  have h1 : D.plns (vs.map (lvE k r)) = true := plns_all fun x hx => by
    obtain ⟨v, _, rfl⟩ := List.mem_map.mp hx
    show ((frD v).pln && ((grD (lvG k r v)).pln && true)) = true
    rw [show (frD v).pln = true from rfl, show (grD (lvG k r v)).pln = true from nats_pln _]; rfl
  have h2 : D.deps (vs.map (lvE k r)) ≤ 2 := deps_le.mpr fun x hx => by
    obtain ⟨v, _, rfl⟩ := List.mem_map.mp hx
    show max (frD v).dep (max (grD (lvG k r v)).dep 0) + 1 ≤ 2
    rw [gr_dep1]; exact Nat.le_of_ble_eq_true rfl
  exact ⟨⟨h1, rfl, by show D.deps (vs.map (lvE k r)) + 1 ≤ 64; omega, Nat.le_of_ble_eq_true rfl⟩, by cases vs <;> rfl⟩
theorem idx_lastD {l : List D} {z : D} : idx (l ++ [z]) (-1) = some z := by
  unfold idx
  rw [if_pos (by decide), if_pos (by simp; omega)]
  have e : ((-1 : Int) + ((l ++ [z]).length : Nat)).toNat = l.length := by simp; omega
  rw [e]; simp
theorem ixN_last {n : Nat} (h : 0 < n) : ixN n (-1) = some (n - 1) := by
  unfold ixN
  have : ((-1 : Int) + (n : Int)).toNat = n - 1 := by omega
  simp [show ¬ ((-1 : Int) + (n : Int) < 0) by omega, this]
  omega
theorem p_levels_1e0b (ds : List D) (R : DK) (h : sp_levels_1e0b ds R) : t_levels_1e0b { nx := fun _ => R .non, rt := fun d _ => R d } ⟨startL 4 ds, ()⟩ := by
  obtain ⟨rs, rfl, hn, asc, h⟩ := h
  have line : (10000000 : Nat) ≤ sizeLine := line_big
  let r : Nat → Rat := fun i => rs.getD i 0
  let A := some (L.val (.tup (rs.map frD)))
  refine seq_mid (M := fun s' => s' = ⟨[A, some (.own []), none, none], ()⟩) ?_ ?_
  rotate_left
  · intro N hN
    exact ⟨(by show 0 ≤ sizeLine; omega), hN _ rfl⟩
  rintro _ rfl
  have er : rs.map frD = (List.range rs.length).map fun i => frD (r i) := by
    refine List.ext_getElem (by simp) fun i h1 h2 => ?_
    have hi : i < rs.length := by simpa using h1
    rw [List.getElem_map, List.getElem_map, List.getElem_range]
    simp only [r]
    rw [List.getD_eq_getElem?_getD, List.getElem?_eq_getElem hi]; rfl
  refine seq_mid (M := fun s' => ∃ vs, LvP rs.length r vs ∧ s' = ⟨[A, some (.own (vs.map (lvE rs.length r))), none, none], ()⟩) ?_ ?_
  rotate_left
  · intro N hN
    show ∃ I : Nat → S Unit → Prop, _
    refine ⟨fun k s => ∃ vs, LvP k r vs ∧ s = ⟨[A, some (.own (vs.map (lvE k r))), none, none], ()⟩, ⟨_, Wk.refl _, [], lv_zero r, rfl⟩, ?_, ?_⟩
    · rintro k d s hd ⟨vs, hv, rfl⟩
      have hd : (enumD (rs.map frD))[k]? = some d := hd
      rw [er, enum_rng, List.getElem?_map] at hd
      obtain ⟨x, hx, rfl⟩ := Option.map_eq_some_iff.mp hd
      have hx' := List.getElem?_eq_some_iff.mp hx
      have hk : k < rs.length := by have := hx'.1; simpa using this
      have ex : x = k := by obtain ⟨a, b⟩ := hx'; rw [← b]; simp
      subst ex
      have vl := hv.len
      have below : ∀ v ∈ vs, v ≤ r x := fun v hvm => by
        obtain ⟨i, hi, e⟩ := (hv.mem v).mp hvm
        have := asc.le (x - i) i (by omega)
        rw [show i + (x - i) = x by omega] at this
        rw [← e]; exact this
      have le := lvl_eq x r vs
      refine put_tg rfl ?_
      -- a new value
      have new : r x ∉ vs → ∃ s'', Wk (⟨[A, some (.own (vs.map (lvE x r) ++ [.tup [frD (r x), .tup [natD x]]])), some (.val (natD x)), some (.val (frD (r x)))], ()⟩ : S Unit) s'' ∧ ∃ vs, LvP (x + 1) r vs ∧ s'' = ⟨[A, some (.own (vs.map (lvE (x + 1) r))), none, none], ()⟩ := fun nm => by
        have lt : ∀ v ∈ vs, v < r x := fun v hvm => by
          have := below v hvm
          have : v ≠ r x := fun e => nm (by rw [← e]; exact hvm)
          grind
        refine ⟨⟨[A, some (.own ((vs ++ [r x]).map (lvE (x + 1) r))), none, none], ()⟩, ?_, _, lv_more hv lt, rfl⟩
        have e1 : vs.map (lvE (x + 1) r) = vs.map (lvE x r) := List.map_congr_left fun v hvm => by
          unfold lvE
          rw [lvG_succ, if_neg fun e => nm (by rw [e]; exact hvm)]
        have e2 : lvE (x + 1) r (r x) = .tup [frD (r x), .tup [natD x]] := by
          unfold lvE
          rw [lvG_succ, if_pos rfl]
          have : lvG x r (r x) = [] := by
            refine List.filter_eq_nil_iff.mpr fun i hi c => nm ?_
            exact (hv.mem _).mpr ⟨i, List.mem_range.mp hi, of_decide_eq_true c⟩
          rw [this]; rfl
        rw [List.map_append, e1]
        show Wk _ ⟨[A, some (.own (vs.map (lvE x r) ++ [lvE (x + 1) r (r x)])), none, none], ()⟩
        rw [e2]
        exact Wk.of (by repeat' first | exact trivial | exact .inr rfl | exact .inl rfl | refine ⟨?_, ?_⟩)
      rcases (show vs = [] ∨ ∃ us u, vs = us ++ [u] from (List.eq_nil_or_concat vs).imp_right fun ⟨us, u, e⟩ => ⟨us, u, by rw [e, List.concat_eq_append]⟩) with rfl | ⟨us, u, rfl⟩
      · refine ⟨rfl, (by show 0 ≤ sizeLine; omega), _, rfl, le.1, fun hc => ?_, fun _ => ⟨fun hc => Bool.noConfusion hc, fun _ => ?_⟩⟩
        · have hc : (!D.eqv (.lst (([] : List Rat).map (lvE x r))) (.lst [])) = true := hc
          rw [le.2] at hc; exact absurd hc (by decide)
        · refine ⟨⟨_, rfl⟩, by show 1 ≤ sizeLine; omega, by show 2 ≤ sizeLine; omega, _, rfl, by show 0 < sizeLine; omega, ?_⟩
          exact new (by simp)
      · have el : (us ++ [u]).map (lvE x r) = us.map (lvE x r) ++ [lvE x r u] := by rw [List.map_append]; rfl
        refine ⟨rfl, (by show 0 ≤ sizeLine; omega), _, rfl, le.1, fun _ => ?_, fun hc => ?_⟩
        · refine ⟨rfl, _, rfl, lvE x r u, by rw [el]; exact idx_lastD, _, rfl, ⟨rfl, rfl, frD_dep _, frD_dep _⟩, fun hc => ?_, fun hc => ?_⟩
          · have hc : D.eqv (frD u) (frD (r x)) = true := hc
            rw [frD_eqv, decide_eq_true_eq] at hc
            have lvl : (lvG x r u).length ≤ x := lvG_len x r u
            refine ⟨rfl, _, rfl, lvE x r u, by rw [el]; exact idx_lastD, _, rfl, by show 1 ≤ sizeLine; omega, by show ((lvG x r u).map natD).length + 1 ≤ sizeLine; rw [List.length_map]; omega, by show 2 ≤ sizeLine; omega, ⟨_, rfl⟩, _, _, rfl, ixN_last (by rw [el]; simp), ?_⟩
            refine ⟨⟨[A, some (.own ((us ++ [u]).map (lvE (x + 1) r))), none, none], ()⟩, ?_, _, lv_same hv (by rw [← hc]; simp), rfl⟩
            have nu : ∀ v ∈ us, v ≠ r x := fun v hvm e => by
              have := (List.pairwise_append.mp hv.up).2.2 _ hvm u (by simp)
              rw [e, hc] at this
              grind
            have e1 : us.map (lvE (x + 1) r) = us.map (lvE x r) := List.map_congr_left fun v hvm => by
              unfold lvE
              rw [lvG_succ, if_neg fun e => nu v hvm e.symm]
            have e2 : lvE (x + 1) r u = .tup [frD (r x), .tup ((lvG x r u).map natD ++ [natD x])] := by
              unfold lvE
              rw [lvG_succ, if_pos hc.symm, hc]
              show D.tup [frD (r x), .tup ((lvG x r (r x) ++ [x]).map natD)] = _
              rw [List.map_append]; rfl
            have e3 : (us ++ [u]).map (lvE (x + 1) r) = us.map (lvE x r) ++ [.tup [frD (r x), .tup ((lvG x r u).map natD ++ [natD x])]] := by
              rw [List.map_append, e1]
              show _ ++ [lvE (x + 1) r u] = _
              rw [e2]
            have e4 : ((us ++ [u]).map (lvE x r)).set (((us ++ [u]).map (lvE x r)).length - 1) (.tup [frD (r x), .tup ((lvG x r u).map natD ++ [natD x])]) = us.map (lvE x r) ++ [.tup [frD (r x), .tup ((lvG x r u).map natD ++ [natD x])]] := by
              rw [el]
              have : (us.map (lvE x r) ++ [lvE x r u]).length - 1 = (us.map (lvE x r)).length := by simp
              rw [this, List.set_append_right _ _ (Nat.le_refl _), Nat.sub_self]; rfl
            rw [e3]
            show Wk ⟨[A, some (.own (((us ++ [u]).map (lvE x r)).set (((us ++ [u]).map (lvE x r)).length - 1) (.tup [frD (r x), .tup ((lvG x r u).map natD ++ [natD x])]))), some (.val (natD x)), some (.val (frD (r x)))], ()⟩ _
            rw [e4]
            exact Wk.of (by repeat' first | exact trivial | exact .inr rfl | exact .inl rfl | refine ⟨?_, ?_⟩)
          · have hc : D.eqv (frD u) (frD (r x)) = false := hc
            rw [frD_eqv, decide_eq_false_iff_not] at hc
            refine ⟨⟨_, rfl⟩, by show 1 ≤ sizeLine; omega, by show 2 ≤ sizeLine; omega, _, rfl, by rw [List.length_map]; omega, ?_⟩
            refine new fun m => ?_
            rcases List.mem_append.mp m with z | z
            · have := (List.pairwise_append.mp hv.up).2.2 _ z u (by simp)
              have := below u (by simp)
              grind
            · exact hc (List.mem_singleton.mp z).symm
        · have hc : (!D.eqv (.lst ((us ++ [u]).map (lvE x r))) (.lst [])) = false := hc
          rw [le.2] at hc; simp at hc
    · rintro s ⟨vs, hv, rfl⟩
      have e : (enumD (rs.map frD)).length = rs.length := by rw [er, enum_rng]; simp
      rw [e] at hv ⊢
      exact hN _ ⟨vs, hv, rfl⟩
  rintro _ ⟨vs, hv, rfl⟩
  exact h vs hv

def t_panel_right_9357 : PSx Unit := (qSeq (qAsg (qTup (qCons (qVar 0) (qCons (qCall (fn1 tupleD) (qCons (qSet (qLc (qRange1 (qCons (qBin subD (qCall (fn1 lenD) (qCons (qVar 0) qNil)) (qC (.int 1))) qNil)) (.nm 3) [3] qYes (qTup (qCons (qVar 3) (qCons (qBin addD (qVar 3) (qC (.int 1))) qNil))))) qNil)) qNil))) 1) (qSeq (qAsg (qCallP (sp_rate_row_d172) (qCons (qVar 0) qNil)) 2) (qSeq (qIf (qNot (qB (qCallP (sp_equal_17a7 24) (qCons (qCallP (sp_best_rating_b8e6) (qCons (qVar 1) qNil)) (qCons (qVar 2) qNil))))) (qRet (qC (.bl false))) qNext) (qRet (qCallP (sp_equal_17a7 24) (qCons (qCallP (sp_level_groups_d0a5) (qCons (qVar 1) qNil)) (qCons (qCallP (sp_levels_1e0b) (qCons (qVar 2) qNil)) qNil)))))))

def sp_panel_right_9357 : Spec0 := fun ds R => ∃ l : List (Int × Int), ds = [.tup (l.map itD)] ∧ 1 ≤ l.length ∧ l.length ≤ 8 ∧ RowOk l ∧ R (.bl true)
theorem len_panel_right_9357 (ds : List D) (R : DK) (h : sp_panel_right_9357 ds R) : ds.length = 1 := by
  obtain ⟨_, rfl, _⟩ := h; rfl
theorem asc_rw {l : List (Int × Int)} (hq : RowOk l) (hl : 0 < l.length) : AscL (rowR l) := fun i hi => by
  rw [rowR_len hq hl] at hi
  exact (row_ch hq hl).asc i hi
theorem p_panel_right_9357 (ds : List D) (R : DK) (h : sp_panel_right_9357 ds R) : t_panel_right_9357 { nx := fun _ => R .non, rt := fun d _ => R d } ⟨startL 4 ds, ()⟩ := by
  obtain ⟨l, rfl, h1, h8, hq, h⟩ := h
  have line : (10000000 : Nat) ≤ sizeLine := line_big
  have ok := chP_ok hq h1 h8
  have bst := chP_best hq h1
  have rl := rowR_len hq h1
  have rd : D.tup ((rowR l).map frD) = rtD l.length (rwF l) := by
    rw [row_map hq h1, List.map_map]; rfl
  let A := some (L.val (.tup (l.map itD)))
  refine seq_mid (M := fun s' => s' = ⟨[A, some (.val (panD (chP l))), none, none], ()⟩) ?_ ?_
  rotate_left
  · intro N hN
    have ll : (((l.map itD).length : Nat) : Int) - 1 = ((l.length - 1 : Nat) : Int) := by rw [List.length_map]; omega
    refine ⟨?_, ?_⟩
    · rw [ll]; constructor <;> omega
    show lcB _ _ _ _ _ ((List.range ((((l.map itD).length : Nat) : Int) - 1).toNat).map natD) _
    rw [ll, Int.toNat_natCast]
    refine lc_mapl (List.range (l.length - 1)) natD (fun i => itD ((i : Int), (i : Int) + 1)) (by rw [List.length_range]; omega) (fun i hi => ⟨_, rfl, fun T h => ⟨by show 2 ≤ sizeLine; omega, h⟩⟩) ?_ (by decide) (by rfl)
    refine ⟨by show 2 ≤ sizeLine; omega, ?_⟩
    refine hN _ ?_
    have e : panD (chP l) = .tup [.tup (l.map itD), .tup ((List.range (l.length - 1)).map fun i : Nat => itD ((i : Int), (i : Int) + 1))] := by
      show D.tup [.tup (l.map itD), .tup (((List.range (l.length - 1)).map fun i : Nat => ((i : Int), (i : Int) + 1)).map itD)] = _
      rw [List.map_map]; rfl
    rw [e]; rfl
  rintro _ rfl
  let P := some (L.val (panD (chP l)))
  refine seq_mid (M := fun s' => s' = ⟨[A, P, some (.val (.tup ((rowR l).map frD))), none], ()⟩) ?_ ?_
  rotate_left
  · intro N hN
    exact ⟨l, rfl, h1, by omega, hq, hN _ rfl⟩
  rintro _ rfl
  refine seq_mid (M := fun s' => s' = ⟨[A, P, some (.val (.tup ((rowR l).map frD))), none], ()⟩) ?_ ?_
  rotate_left
  · intro N hN
    refine ⟨8, chP l, rfl, by decide, ok, fun s hs hz => ?_⟩
    obtain ⟨o1, o2, o3⟩ := rt_ok (n := l.length) (by omega) (rwF l)
    refine ⟨rtD l.length (rwF l), ?_, o1, o2, by decide, o3, fun hc => Bool.noConfusion hc, fun _ => hN _ rfl⟩
    have e : rtD (chP l).its.length s = rtD l.length (rwF l) := rt_eq fun i hi => (bst.eq ok hs hi).symm
    show [rtD (chP l).its.length s, D.tup ((rowR l).map frD)] = _
    rw [e, rd]
  rintro _ rfl
  refine ⟨8, chP l, rfl, by decide, ok, fun s vs hs hz hv => ?_⟩
  have es : ∀ i, i < l.length → s i = rwF l i := fun i hi => (bst.eq ok hs hi).symm
  refine ⟨rowR l, rfl, by omega, asc_rw hq h1, fun ws hw => ?_⟩
  rw [rl] at hw ⊢
  have hv : LvP l.length s vs := hv
  have hv2 : LvP l.length (rwF l) vs := hv.congr fun i hi => (es i hi).symm
  have ew : ws = vs := LvP.eq (s := rwF l) hw hv2 fun i hi => rfl
  have vl := hv.len
  obtain ⟨l1, l2, l3⟩ := lvD_ok (n := l.length) (by omega) (rwF l) (vs := vs) (by omega)
  refine ⟨lvD l.length (rwF l) vs, ?_, l1, l2, by decide, l3, h⟩
  have e1 : lvD (chP l).its.length s vs = lvD l.length (rwF l) vs := lvD_congr es vs
  show [lvD (chP l).its.length s vs, lvD l.length (fun i => (rowR l).getD i 0) ws] = _
  rw [e1, ew]; rfl

def t_lowest_ba06 : PSx Unit := (qSeq (qPar 2 3 (qCons (qCall (fn1 absD) (qCons (qVar 0) qNil)) (qCons (qVar 1) qNil))) (qSeq (qWhile (qB (qBin gtD (qVar 3) (qC (.int 0)))) (qPar 2 3 (qCons (qVar 3) (qCons (qBin modD (qVar 2) (qVar 3)) qNil)))) (qRet (qTup (qCons (qBin fdivD (qVar 0) (qVar 2)) (qCons (qBin fdivD (qVar 1) (qVar 2)) qNil))))))

def sp_lowest_ba06 : Spec0 := fun ds R => ∃ n d : Int, ds = [.int n, .int d] ∧ 0 < d ∧ Sz 9000 d ∧ R (frD (Rat.divInt n d))
theorem len_lowest_ba06 (ds : List D) (R : DK) (h : sp_lowest_ba06 ds R) : ds.length = 2 := by
  obtain ⟨a, b, rfl, _⟩ := h; rfl
theorem p_lowest_ba06 (ds : List D) (R : DK) (h : sp_lowest_ba06 ds R) : t_lowest_ba06 { nx := fun _ => R .non, rt := fun d _ => R d } ⟨startL 4 ds, ()⟩ := by
  obtain ⟨n, d, rfl, h0, hs, h⟩ := h
  refine ⟨fun m s => ∃ x y : Nat, s = ⟨[some (.val (.int n)), some (.val (.int d)), some (.val (.int x)), some (.val (.int y))], ()⟩ ∧ Nat.gcd x y = Nat.gcd n.natAbs d.natAbs ∧ m = y, ⟨d.natAbs, _, Wk.refl _, n.natAbs, d.natAbs, ?_, rfl, rfl⟩, ?_⟩
  · have e : ((d.natAbs : Nat) : Int) = d := by omega
    rw [e]; rfl
  rintro m s ⟨x, y, rfl, e, hm⟩
  refine ⟨fun hc => ?_, fun hc => ?_⟩
  · have hy : 0 < y := by have := of_decide_eq_true hc; omega
    refine ⟨by omega, x % y, _, by rw [hm]; exact Nat.mod_lt _ hy, Wk.refl _, y, x % y, rfl, ?_, rfl⟩
    rw [← e, Nat.gcd_comm x y, Nat.gcd_rec y x, Nat.gcd_comm]
  · have hy : y = 0 := by have := of_decide_eq_false hc; omega
    subst hy
    rw [Nat.gcd_zero_right] at e
    subst e
    have hgp : 0 < n.natAbs.gcd d.natAbs := Nat.gcd_pos_of_pos_right _ (by omega)
    have hgs : Sz 9000 (n.natAbs.gcd d.natAbs : Nat) := by
      unfold Sz at *
      exact Nat.lt_of_le_of_lt (Nat.gcd_le_right _ (by omega)) hs
    obtain ⟨e1, e2⟩ := divInt_parts (n := n) (d := d) (by omega)
    rw [if_neg (by omega)] at e1 e2
    have dk : ∀ i, DivOk i ((n.natAbs.gcd d.natAbs : Nat) : Int) := fun i => divOk_of (b := 9000) hgs (by omega)
    refine ⟨dk _, dk _, (by show 2 ≤ sizeLine; decide), ?_⟩
    unfold frD at h
    rw [e1, e2] at h; exact h

def t_parts_right_afa2 (r : Addr) : PSx Nat := (qSeq (qPar 2 3 (qCons (qCallP (sp_rate_row_d172) (qCons (qVar 1) qNil)) (qCons (qCallP (sp_pool_row_f687) (qCons (qVar 1) qNil)) qNil))) (qSeq (qAsg (qCall (fn1 sumD) (qCons (qSet (qLc (qItems (qSl (qVar 3) qNoPart (qPart (qCallG (nextS r) (qCons (qVar 0) (qCons (qCall (fn1 lenD) (qCons (qVar 3) qNil)) qNil)))))) (.tp [(.nm 6), (.nm 7), (.nm 8)]) [6, 7, 8] qYes (qVar 6))) qNil)) 4) (qSeq (qIf (qAnd (qB (qBin gtD (qVar 4) (qC (.int 0)))) (qNot (qB (qCallP (sp_equal_17a7 24) (qCons (qBin addD (qCallP (sp_rate_row_d172) (qCons (qSl (qVar 1) qNoPart (qPart (qVar 4))) qNil)) (qCallP (sp_rate_row_d172) (qCons (qSl (qVar 1) (qPart (qVar 4)) qNoPart) qNil))) (qCons (qVar 2) qNil)))))) (qRet (qC (.bl false))) qNext) (qSeq (qAsg (qC (.int 0)) 5) (qSeq (qFor (qItems (qVar 3)) (.tp [(.nm 6), (.nm 7), (.nm 8)]) (qSeq (qAsg (qSl (qVar 1) (qPart (qVar 5)) (qPart (qBin addD (qVar 5) (qVar 6)))) 9) (qSeq (qIf (qB (qBin neD (qSet (qLst (qCons (qVar 7) (qCons (qVar 8) qNil)))) (qSet (qLst (qCons (qCall (fn1 sumD) (qCons (qSet (qLc (qItems (qVar 9)) (.tp [(.nm 10), (.nm 11)]) [10, 11] qYes (qBin mulD (qVar 10) (qVar 11)))) qNil)) (qCons (qCall (fn1 sumD) (qCons (qSet (qLc (qItems (qVar 9)) (.tp [(.nm 10), (.nm 11)]) [10, 11] qYes (qVar 11))) qNil)) qNil)))))) (qRet (qC (.bl false))) qNext) (qSeq (qIf (qB (qBin neD (qSet (qLc (qItems (qSl (qVar 2) (qPart (qVar 5)) (qPart (qBin addD (qVar 5) (qVar 6))))) (.nm 12) [12] (qB (qBin neD (qVar 12) (qCallP (sp_lowest_ba06) (qCons (qVar 7) (qCons (qVar 8) qNil))))) (qVar 12))) (qSet (qLst qNil)))) (qRet (qC (.bl false))) qNext) (qAsg (qBin addD (qVar 5) (qVar 6)) 5))))) (qRet (qBin eqD (qVar 5) (qCall (fn1 lenD) (qCons (qVar 1) qNil)))))))))

def sp_parts_right_afa2 (r : Addr) : Spec Nat := fun ds g R => ∃ l : List (Int × Int), ds = [.obj r, .tup (l.map itD)] ∧ 1 ≤ l.length ∧ l.length ≤ 59 ∧ RowOk l ∧ g < drawLine ∧ R (.bl true) (g + 1)
theorem len_parts_right_afa2 (r : Addr) (ds : List D) (g : Nat) (R : D → Nat → Prop) (h : sp_parts_right_afa2 r ds g R) : ds.length = 2 := by
  obtain ⟨_, rfl, _⟩ := h; rfl
theorem p_parts_right_afa2 (r : Addr) (ds : List D) (g : Nat) (R : D → Nat → Prop) (h : sp_parts_right_afa2 r ds g R) : t_parts_right_afa2 r { nx := fun s => R .non s.g, rt := R } ⟨startL 13 ds, g⟩ := by
  obtain ⟨l, rfl, h1, hn, hq, hg, h⟩ := h
  have line : (10000000 : Nat) ≤ sizeLine := line_big
  let O := some (L.val (.obj r))
  let A := some (L.val (.tup (l.map itD)))
  let T := some (L.val (.tup ((rowR l).map frD)))
  have rl := rowR_len hq h1
  refine seq_mid (M := fun s' => ∃ qs, SegR l qs l.length ∧ NoFR l qs ∧ s' = ⟨[O, A, T, some (.val (.tup (stkD l qs))), none, none, none, none, none, none, none, none, none], g⟩) ?_ ?_
  rotate_left
  · intro N hN
    exact ⟨l, rfl, h1, by omega, hq, l, rfl, by omega, hq, fun qs hs hf => hN _ ⟨qs, hs, hf, rfl⟩⟩
  rintro _ ⟨qs, hs, hf, rfl⟩
  obtain ⟨sf, re⟩ := rowR_of hq h1 hs hf
  obtain ⟨ps, hps⟩ : ∃ ps, ps = qs.reverse := ⟨_, rfl⟩
  have stk : stkD l qs = ps.map fun p => bkD (blk l p.1 p.2) := by
    rw [hps]; show (qs.reverse.map _).map bkD = _; rw [List.map_map]; rfl
  rw [← hps] at sf re
  rw [stk]
  have pval := SegF.val sf
  have pl : ps.length ≤ l.length := by
    have e := (SegF.at sf).2.1
    have : ∀ (ps : List (Nat × Nat)), (∀ y ∈ ps, y.1 < y.2) → ps.length ≤ (ps.flatMap fun p => List.replicate (p.2 - p.1) (tv l p)).length := by
      intro ps
      induction ps with
      | nil => intro _; simp
      | cons y ps ih =>
        intro hy
        have := hy y (by simp)
        rw [List.flatMap_cons, List.length_append, List.length_replicate, List.length_cons]
        have := ih fun z hz => hy z (by simp [hz])
        omega
    have := this ps fun y hy => (pval y hy).2.1
    omega
  have p0 : 0 < ps.length := by
    rcases Nat.eq_zero_or_pos ps.length with z | z
    · have : ps = [] := List.eq_nil_of_length_eq_zero z
      rw [this] at sf
      have : 0 = l.length := sf
      omega
    · exact z
  have fval : ∀ y ∈ ps, ∀ i, y.1 ≤ i → i < y.2 → rwF l i = tv l y := fun y hy i a b => by
    obtain ⟨_, _, q3, q4⟩ := pval y hy
    have := q4 i a b
    rw [← re, Nat.sub_zero] at this
    have k := rw_at hq h1 (show i < l.length by omega)
    rw [k] at this
    exact Option.some.inj this
  let B := some (L.val (.tup (ps.map fun p => bkD (blk l p.1 p.2))))
  refine seq_mid (M := fun s' => ∃ c : Nat, c < l.length ∧ RowAt l c ∧ s' = ⟨[O, A, T, B, some (.val (natD c)), none, none, none, none, none, none, none, none], g + 1⟩) ?_ ?_
  rotate_left
  · intro N hN
    refine ⟨ps.length, ?_, by omega, by omega, (by show g < drawLine; omega), fun k k0 k1 => ?_⟩
    · show [D.obj r, D.int (((ps.map fun p => bkD (blk l p.1 p.2)).length : Nat) : Int)] = _
      rw [List.length_map]
    obtain ⟨k, rfl⟩ : ∃ j : Nat, k = (j : Int) := ⟨k.toNat, by omega⟩
    obtain ⟨b, b1, b2, b3, b4⟩ := SegF.split k sf
    have bl := b4 (by omega)
    have sub : ∀ y ∈ ps.drop k, y ∈ ps := fun y hy => List.mem_of_mem_drop hy
    have at_ : RowAt l b := ⟨by omega, SegF.tail hq b1 fun y hy => fval y (sub y hy)⟩
    show lcB _ _ _ _ _ (cut (ps.map fun p => bkD (blk l p.1 p.2)) none (some (k : Int))) _
    rw [cut_to, ← List.map_take]
    refine lc_mapl (ps.take k) (fun p => bkD (blk l p.1 p.2)) (fun p => D.int ((p.2 : Int) - p.1)) (by rw [List.length_take]; omega) (fun p hp => ⟨_, rfl, fun T h => h⟩) ?_ (by decide) (by rfl)
    have e : ((ps.take k).map fun p => D.int ((p.2 : Int) - p.1)) = ((ps.take k).map fun p => (p.2 : Int) - p.1).map .int := by rw [List.map_map]; rfl
    rw [e]
    refine ⟨_, asInts_map _, hN _ ⟨b, bl, at_, ?_⟩⟩
    rw [b2]
    have : (b : Int) - ((0 : Nat) : Int) = (b : Int) := by omega
    rw [this]; rfl
  rintro _ ⟨c, cl, cat, rfl⟩
  let C := some (L.val (natD c))
  obtain ⟨o1, o2, o3⟩ : (D.tup ((rowR l).map frD)).pln = true ∧ (D.tup ((rowR l).map frD)).dep < 24 ∧ (D.tup ((rowR l).map frD)).wid ≤ 10000000 := by
    have e : D.tup ((rowR l).map frD) = rtD l.length (rwF l) := by rw [row_map hq h1, List.map_map]; rfl
    rw [e]; exact rt_ok (by omega) _
  refine seq_mid (M := fun s' => s' = ⟨[O, A, T, B, C, none, none, none, none, none, none, none, none], g + 1⟩) ?_ ?_
  rotate_left
  · intro N hN
    refine ⟨fun hc => ?_, fun _ => ⟨fun hc => Bool.noConfusion hc, fun _ => hN _ rfl⟩⟩
    have c0 : 0 < c := by
      have : decide ((0 : Int) < (c : Int)) = true := hc
      rw [decide_eq_true_eq] at this; omega
    have tk : (l.take c).length = c := by rw [List.length_take]; omega
    have dl : (l.drop c).length = l.length - c := List.length_drop ..
    have ct : cut (l.map itD) none (some ((c : Nat) : Int)) = (l.take c).map itD := by rw [cut_to, List.map_take]
    have cd : cut (l.map itD) (some ((c : Nat) : Int)) none = (l.drop c).map itD := by rw [cut_from, List.map_drop]
    refine ⟨l.take c, by show [D.tup (cut (l.map itD) none (some ((c : Nat) : Int)))] = _; rw [ct], by omega, by omega, fun q hm => hq q (List.mem_of_mem_take hm), ?_⟩
    refine ⟨l.drop c, by show [D.tup (cut (l.map itD) (some ((c : Nat) : Int)) none)] = _; rw [cd], by omega, by omega, fun q hm => hq q (List.mem_of_mem_drop hm), ?_⟩
    have e := row_cut hq cat c0 cl
    refine ⟨?_, D.tup ((rowR l).map frD), ?_, o1, o2, by decide, o3, fun hc => Bool.noConfusion hc, fun _ => hN _ rfl⟩
    · show ((rowR (l.take c)).map frD).length + ((rowR (l.drop c)).map frD).length ≤ sizeLine
      rw [← List.length_append, ← List.map_append, e, List.length_map, rl]; omega
    · show [D.tup ((rowR (l.take c)).map frD ++ (rowR (l.drop c)).map frD), D.tup ((rowR l).map frD)] = _
      rw [← List.map_append, e]
  rintro _ rfl
  refine seq_mid (M := fun s' => s' = ⟨[O, A, T, B, C, some (.val (natD 0)), none, none, none, none, none, none, none], g + 1⟩) ?_ ?_
  rotate_left
  · intro N hN
    exact hN _ rfl
  rintro _ rfl
  refine seq_mid (M := fun s' => s' = ⟨[O, A, T, B, C, some (.val (natD l.length)), none, none, none, none, none, none, none], g + 1⟩) ?_ ?_
  rotate_left
  · intro N hN
    show ∃ I : Nat → S Nat → Prop, _
    refine ⟨fun k s => ∃ b : Nat, SegF l (ps.drop k) b l.length ∧ s = ⟨[O, A, T, B, C, some (.val (natD b)), none, none, none, none, none, none, none], g + 1⟩, ⟨_, Wk.refl _, 0, sf, rfl⟩, ?_, ?_⟩
    · rintro k d s hd ⟨b, sb, rfl⟩
      have hd : (ps.map fun p => bkD (blk l p.1 p.2))[k]? = some d := hd
      rw [List.getElem?_map] at hd
      obtain ⟨⟨b', e⟩, hy, rfl⟩ := Option.map_eq_some_iff.mp hd
      have hk := (List.getElem?_eq_some_iff.mp hy).1
      have ym := List.mem_of_getElem? hy
      have dk : ps.drop k = (b', e) :: ps.drop (k + 1) := by
        rw [List.drop_eq_getElem_cons hk, (List.getElem?_eq_some_iff.mp hy).2]
      rw [dk] at sb
      obtain ⟨eb, gd, sn⟩ := sb
      subst eb
      have be := gd.1
      have el := gd.2.1
      have wp := sub2_pos hq be el
      refine put_tg (tg := .tp [(.nm 6), (.nm 7), (.nm 8)]) (d := bkD (blk l b' e)) rfl ?_
      let X6 := some (L.val (.int ((e : Int) - b')))
      let X7 := some (L.val (.int (sub2 (pre l) b' e).1))
      let X8 := some (L.val (.int (sub2 (pre l) b' e).2))
      have ae : (b' : Int) + ((e : Int) - (b' : Int)) = ((e : Nat) : Int) := by omega
      let gr := (l.drop b').take (e - b')
      have s2 : sub2 (pre l) b' e = ((gr.map fun q => q.1 * q.2).sum, (gr.map fun q => q.2).sum) := sub2_sum (Nat.le_of_lt be)
      have grl : gr.length ≤ 60 := by simp only [gr, List.length_take, List.length_drop]; omega
      have grq : ∀ q ∈ gr, ItOk q := fun q hm => hq q (List.mem_of_mem_drop (List.mem_of_mem_take hm))
      refine seq_mid (M := fun s' => s' = ⟨[O, A, T, B, C, some (.val (natD b')), X6, X7, X8, some (.val (.tup (gr.map itD))), none, none, none], g + 1⟩) ?_ ?_
      rotate_left
      · intro N hN
        refine hN _ ?_
        have ec : cut (l.map itD) (some (b' : Int)) (some ((b' : Int) + ((e : Int) - (b' : Int)))) = gr.map itD := by
          rw [ae, cut_mid _ _ _ (by rw [List.length_map]; exact el), ← List.map_drop, ← List.map_take]
        show (⟨[O, A, T, B, C, some (.val (natD b')), X6, X7, X8, some (.val (.tup (cut (l.map itD) (some (b' : Int)) (some ((b' : Int) + ((e : Int) - (b' : Int))))))), none, none, none], g + 1⟩ : S Nat) = _
        rw [ec]
      rintro _ rfl
      let X9 := some (L.val (.tup (gr.map itD)))
      refine seq_mid (M := fun s' => s' = ⟨[O, A, T, B, C, some (.val (natD b')), X6, X7, X8, X9, none, none, none], g + 1⟩) ?_ ?_
      rotate_left
      · intro N hN
        refine ⟨by show 2 ≤ sizeLine; omega, ?_⟩
        refine lc_mapl gr itD (fun q => D.int (q.1 * q.2)) (by omega) (fun q hm => ⟨_, rfl, fun T h => ⟨(ItOk.sz (grq q hm)).1.mulOk (ItOk.sz (grq q hm)).2 (by omega), h⟩⟩) ?_ (by decide) (by rfl)
        have e1 : (gr.map fun q => D.int (q.1 * q.2)) = (gr.map fun q => q.1 * q.2).map .int := by rw [List.map_map]; rfl
        rw [e1]
        refine ⟨_, asInts_map _, ?_⟩
        refine lc_mapl gr itD (fun q => D.int q.2) (by omega) (fun q hm => ⟨_, rfl, fun T h => h⟩) ?_ (by decide) (by rfl)
        have e2 : (gr.map fun q => D.int q.2) = (gr.map fun q => q.2).map .int := by rw [List.map_map]; rfl
        rw [e2]
        refine ⟨_, asInts_map _, by show 2 ≤ sizeLine; omega, ⟨rfl, rfl, Nat.le_of_ble_eq_true rfl, Nat.le_of_ble_eq_true rfl⟩, fun hc => ?_, fun _ => hN _ rfl⟩
        have hc : (!D.eqv (.lst [.int (sub2 (pre l) b' e).1, .int (sub2 (pre l) b' e).2]) (.lst [.int (gr.map fun q => q.1 * q.2).sum, .int (gr.map fun q => q.2).sum])) = true := hc
        rw [s2] at hc
        exact absurd hc (by simp [D.eqv, D.eqvs])
      rintro _ rfl
      refine seq_mid (M := fun s' => s' = ⟨[O, A, T, B, C, some (.val (natD b')), X6, X7, X8, X9, none, none, none], g + 1⟩) ?_ ?_
      rotate_left
      · intro N hN
        have ec : cut ((rowR l).map frD) (some (b' : Int)) (some ((b' : Int) + ((e : Int) - (b' : Int)))) = (List.range' b' (e - b')).map fun i => frD (rwF l i) := by
          rw [ae, cut_mid _ _ _ (by rw [List.length_map, rl]; exact el)]
          refine List.ext_getElem? fun i => ?_
          rw [List.getElem?_take, List.getElem?_drop, List.getElem?_map, List.getElem?_map]
          by_cases z : i < e - b'
          · rw [if_pos z, rw_at hq h1 (by omega), List.getElem?_range' z]
            show some _ = some _
            rw [Nat.one_mul]
          · rw [if_neg z, List.getElem?_eq_none (by rw [List.length_range']; omega)]; rfl
        show lcB _ _ _ _ _ (cut ((rowR l).map frD) (some (b' : Int)) (some ((b' : Int) + ((e : Int) - (b' : Int))))) _
        rw [ec]
        refine lc_list (List.range' b' (e - b')) (fun i => frD (rwF l i)) (fun _ => false) (fun i => frD (rwF l i)) (by rw [List.length_range']; omega) (fun i hi => ⟨_, rfl, fun T h => ?_, fun hc => Bool.noConfusion hc⟩) ?_ (by decide) (by rfl)
        · rw [List.mem_range'_1] at hi
          have z2 := (sub2_sz60 hq (by omega) b' e).2
          refine ⟨(sub2 (pre l) b' e).1, (sub2 (pre l) b' e).2, rfl, wp, z2.le (by decide), ⟨rfl, rfl, frD_dep _, frD_dep _⟩, ?_⟩
          have ev : rwF l i = tv l (b', e) := fval (b', e) ym i hi.1 (by show i < e; omega)
          have e0 : (!D.eqv (frD (rwF l i)) (frD (Rat.divInt (sub2 (pre l) b' e).1 (sub2 (pre l) b' e).2))) = false := by
            rw [frD_eqv, decide_eq_true (show rwF l i = Rat.divInt (sub2 (pre l) b' e).1 (sub2 (pre l) b' e).2 from ev)]; rfl
          rw [e0]; exact h
        · have e0 : (List.range' b' (e - b')).filter (fun _ => false) = [] := by simp
          rw [e0]
          exact ⟨(by show 0 ≤ sizeLine; omega), ⟨rfl, rfl, Nat.le_of_ble_eq_true rfl, Nat.le_of_ble_eq_true rfl⟩, fun hc => Bool.noConfusion hc, fun _ => hN _ rfl⟩
      rintro _ rfl
      refine ⟨⟨[O, A, T, B, C, some (.val (natD e)), none, none, none, none, none, none, none], g + 1⟩, ?_, e, sn, rfl⟩
      show Wk ⟨[O, A, T, B, C, some (.val (.int ((b' : Int) + ((e : Int) - (b' : Int))))), X6, X7, X8, X9, none, none, none], g + 1⟩ _
      rw [ae]
      exact Wk.of (by repeat' first | exact trivial | exact .inr rfl | exact .inl rfl | refine ⟨?_, ?_⟩)
    · rintro s ⟨b, sb, rfl⟩
      have le : (ps.map fun p => bkD (blk l p.1 p.2)).length = ps.length := by simp
      have sb : SegF l (ps.drop (ps.map fun p => bkD (blk l p.1 p.2)).length) b l.length := sb
      rw [le, List.drop_length] at sb
      have eb : b = l.length := sb
      rw [eb]
      exact hN _ rfl
  rintro _ rfl
  refine ⟨⟨rfl, rfl, Nat.le_of_ble_eq_true rfl, Nat.le_of_ble_eq_true rfl⟩, ?_⟩
  have e : D.eqv (natD l.length) (.int ((l.map itD).length : Nat)) = true := by
    show decide ((l.length : Int) = (((l.map itD).length : Nat) : Int)) = true
    rw [List.length_map]; simp
  rw [e]
  exact h

def t_changes_right_e813 (r : Addr) : PSx Nat := (qSeq (qAsg (qCallP (sp_rate_row_d172) (qCons (qVar 1) qNil)) 2) (qSeq (qAsg (qCall (fn1 tupleD) (qCons (qSet (qLc (qItems (qStep (qVar 1) (qUn negD (qC (.int 1))))) (.tp [(.nm 5), (.nm 6)]) [5, 6] qYes (qTup (qCons (qBin subD (qC (.int 0)) (qVar 5)) (qCons (qVar 6) qNil))))) qNil)) 3) (qSeq (qIf (qNot (qB (qCallP (sp_equal_17a7 24) (qCons (qCallP (sp_rate_row_d172) (qCons (qVar 3) qNil)) (qCons (qCall (fn1 tupleD) (qCons (qSet (qLc (qItems (qStep (qVar 2) (qUn negD (qC (.int 1))))) (.tp [(.nm 9), (.nm 10)]) [9, 10] qYes (qTup (qCons (qBin subD (qC (.int 0)) (qVar 9)) (qCons (qVar 10) qNil))))) qNil)) qNil))))) (qRet (qC (.bl false))) qNext) (qSeq (qAsg (qCallG (nextS r) (qCons (qVar 0) (qCons (qCall (fn1 lenD) (qCons (qVar 1) qNil)) qNil))) 4) (qSeq (qAsgT (qBin ixD (qVar 1) (qVar 4)) (.tp [(.nm 5), (.nm 6)])) (qSeq (qIf (qB (qBin eqD (qVar 6) (qC (.int 1)))) (qRet (qC (.bl true))) qNext) (qSeq (qAsg (qBin addD (qC (.int 1)) (qCallG (nextS r) (qCons (qVar 0) (qCons (qBin subD (qVar 6) (qC (.int 1))) qNil)))) 7) (qSeq (qAsg (qBin addD (qBin addD (qSl (qVar 1) qNoPart (qPart (qVar 4))) (qTup (qCons (qTup (qCons (qVar 5) (qCons (qVar 7) qNil))) (qCons (qTup (qCons (qVar 5) (qCons (qBin subD (qVar 6) (qVar 7)) qNil))) qNil)))) (qSl (qVar 1) (qPart (qBin addD (qVar 4) (qC (.int 1)))) qNoPart)) 8) (qRet (qCallP (sp_equal_17a7 24) (qCons (qCallP (sp_rate_row_d172) (qCons (qVar 8) qNil)) (qCons (qBin addD (qSl (qVar 2) qNoPart (qPart (qBin addD (qVar 4) (qC (.int 1))))) (qSl (qVar 2) (qPart (qVar 4)) qNoPart)) qNil))))))))))))

def sp_changes_right_e813 (r : Addr) : Spec Nat := fun ds g R => ∃ l : List (Int × Int), ds = [.obj r, .tup (l.map itD)] ∧ 1 ≤ l.length ∧ l.length ≤ 59 ∧ RowOk l ∧ g + 5 < drawLine ∧ ∀ g', g ≤ g' → g' ≤ g + 2 → R (.bl true) g'
theorem len_changes_right_e813 (r : Addr) (ds : List D) (g : Nat) (R : D → Nat → Prop) (h : sp_changes_right_e813 r ds g R) : ds.length = 2 := by
  obtain ⟨_, rfl, _⟩ := h; rfl
theorem frs24R {xs : List Rat} (h : xs.length ≤ 100) : (D.tup (xs.map frD)).pln = true ∧ (D.tup (xs.map frD)).dep < 24 ∧ (D.tup (xs.map frD)).wid ≤ 10000000 := by
  have e : D.tup (xs.map frD) = rtD xs.length fun i => xs.getD i 0 := by
    have : xs.map frD = (List.range xs.length).map fun i => frD (xs.getD i 0) := by
      refine List.ext_getElem (by simp) fun i h1 h2 => ?_
      have hi : i < xs.length := by simpa using h1
      rw [List.getElem_map, List.getElem_map, List.getElem_range, List.getD_eq_getElem?_getD, List.getElem?_eq_getElem hi]; rfl
    unfold rtD
    rw [this]
  rw [e]; exact rt_ok h _
theorem p_changes_right_e813 (r : Addr) (ds : List D) (g : Nat) (R : D → Nat → Prop) (h : sp_changes_right_e813 r ds g R) : t_changes_right_e813 r { nx := fun s => R .non s.g, rt := R } ⟨startL 11 ds, g⟩ := by
  obtain ⟨l, rfl, h1, hn, hq, hg, h⟩ := h
  have line : (10000000 : Nat) ≤ sizeLine := line_big
  let O := some (L.val (.obj r))
  let A := some (L.val (.tup (l.map itD)))
  let T := some (L.val (.tup ((rowR l).map frD)))
  have rl := rowR_len hq h1
  refine seq_mid (M := fun s' => s' = ⟨[O, A, T, none, none, none, none, none, none, none, none], g⟩) ?_ ?_
  rotate_left
  · intro N hN
    exact ⟨l, rfl, h1, by omega, hq, hN _ rfl⟩
  rintro _ rfl
  have vl : (revL l).length = l.length := by simp [revL]
  have vq : RowOk (revL l) := fun q hm => by
    obtain ⟨x, hx, rfl⟩ := List.mem_map.mp hm
    obtain ⟨a1, a2, a3, a4⟩ := hq x (List.mem_reverse.mp hx)
    exact ⟨by show -(10 ^ 9) ≤ 0 - x.1; omega, by show 0 - x.1 ≤ 10 ^ 9; omega, a3, a4⟩
  let V := some (L.val (.tup ((revL l).map itD)))
  refine seq_mid (M := fun s' => s' = ⟨[O, A, T, V, none, none, none, none, none, none, none], g⟩) ?_ ?_
  rotate_left
  · intro N hN
    refine ⟨rfl, ?_⟩
    show lcB _ _ _ _ _ ((l.map itD).reverse) _
    rw [← List.map_reverse]
    refine lc_mapl l.reverse itD (fun q => D.tup [.int (0 - q.1), .int q.2]) (by rw [List.length_reverse]; omega) (fun q hm => ⟨_, rfl, fun T h => ⟨by show 2 ≤ sizeLine; omega, h⟩⟩) ?_ (by decide) (by rfl)
    have e : (l.reverse.map fun q => D.tup [.int (0 - q.1), .int q.2]) = (revL l).map itD := by
      show _ = (l.reverse.map fun q => (0 - q.1, q.2)).map itD
      rw [List.map_map]; rfl
    rw [e]
    exact hN _ rfl
  rintro _ rfl
  have ngf : ∀ x : Rat, D.tup [.int (0 - x.num), .int x.den] = frD (-x) := fun x => by
    show _ = D.tup [.int (-x).num, .int ((-x).den : Nat)]
    rw [Rat.neg_num, Rat.neg_den, Int.zero_sub]
  have er : rowR (revL l) = (rowR l).reverse.map fun x => -x := by
    rw [row_rev hq h1, row_map hq h1, ← List.map_reverse, List.map_map]
    refine List.ext_getElem (by simp) fun i a b => ?_
    have hi : i < l.length := by simpa using a
    rw [List.getElem_map, List.getElem_map, List.getElem_range, List.getElem_reverse, List.getElem_range, List.length_range]; rfl
  refine seq_mid (M := fun s' => s' = ⟨[O, A, T, V, none, none, none, none, none, none, none], g⟩) ?_ ?_
  rotate_left
  · intro N hN
    refine ⟨revL l, rfl, by omega, by omega, vq, rfl, ?_⟩
    show lcB _ _ _ _ _ (((rowR l).map frD).reverse) _
    rw [← List.map_reverse]
    refine lc_mapl (rowR l).reverse frD (fun x => frD (-x)) (by rw [List.length_reverse]; omega) (fun x hm => ⟨_, rfl, fun T h => ⟨by show 2 ≤ sizeLine; omega, by rw [← ngf x] at h; exact h⟩⟩) ?_ (by decide) (by rfl)
    obtain ⟨o1, o2, o3⟩ := frs24R (xs := rowR (revL l)) (by rw [rowR_len vq (by omega)]; omega)
    refine ⟨D.tup ((rowR (revL l)).map frD), ?_, o1, o2, by decide, o3, fun hc => Bool.noConfusion hc, fun _ => hN _ rfl⟩
    have e : ((rowR l).reverse.map fun x => frD (-x)) = (rowR (revL l)).map frD := by rw [er, List.map_map]; rfl
    show [D.tup ((rowR (revL l)).map frD), D.tup ((rowR l).reverse.map fun x => frD (-x))] = _
    rw [e]
  rintro _ rfl
  refine seq_mid (M := fun s' => ∃ t : Nat, t < l.length ∧ s' = ⟨[O, A, T, V, some (.val (natD t)), none, none, none, none, none, none], g + 1⟩) ?_ ?_
  rotate_left
  · intro N hN
    refine ⟨l.length, ?_, by omega, by omega, (by show g < drawLine; omega), fun k k0 k1 => ?_⟩
    · show [D.obj r, D.int (((l.map itD).length : Nat) : Int)] = _
      rw [List.length_map]
    obtain ⟨k, rfl⟩ : ∃ j : Nat, k = (j : Int) := ⟨k.toNat, by omega⟩
    exact hN _ ⟨k, by omega, rfl⟩
  rintro _ ⟨t, tl, rfl⟩
  obtain ⟨q, hqt⟩ : ∃ q, q = l.getD t (0, 1) := ⟨_, rfl⟩
  have qok : ItOk q := by rw [hqt, List.getD_eq_getElem?_getD, List.getElem?_eq_getElem tl]; exact hq _ (List.getElem_mem tl)
  let K := some (L.val (natD t))
  let M5 := some (L.val (.int q.1))
  let W6 := some (L.val (.int q.2))
  refine seq_mid (M := fun s' => s' = ⟨[O, A, T, V, K, M5, W6, none, none, none, none], g + 1⟩) ?_ ?_
  rotate_left
  · intro N hN
    refine ⟨_, idx_it tl, ?_⟩
    rw [← hqt]
    exact put_tg (tg := .tp [(.nm 5), (.nm 6)]) (d := itD q) rfl (hN _ rfl)
  rintro _ rfl
  by_cases w1 : q.2 = 1
  · refine ⟨⟨rfl, rfl, Nat.zero_le _, Nat.zero_le _⟩, fun _ => h (g + 1) (by omega) (by omega), fun hc => ?_⟩
    have hc : decide (q.2 = 1) = false := hc
    rw [decide_eq_true w1] at hc; cases hc
  refine seq_mid (M := fun s' => s' = ⟨[O, A, T, V, K, M5, W6, none, none, none, none], g + 1⟩) ?_ ?_
  rotate_left
  · intro N hN
    refine ⟨⟨rfl, rfl, Nat.zero_le _, Nat.zero_le _⟩, fun hc => ?_, fun _ => hN _ rfl⟩
    have hc : decide (q.2 = 1) = true := hc
    rw [decide_eq_true_eq] at hc
    exact absurd hc w1
  rintro _ rfl
  obtain ⟨q1, q2, q3, q4⟩ := qok
  refine seq_mid (M := fun s' => ∃ a : Int, 1 ≤ a ∧ a + 1 ≤ q.2 ∧ s' = ⟨[O, A, T, V, K, M5, W6, some (.val (.int a)), none, none, none], g + 2⟩) ?_ ?_
  rotate_left
  · intro N hN
    refine ⟨q.2 - 1, rfl, by omega, by omega, (by show g + 1 < drawLine; omega), fun k k0 k1 => ?_⟩
    exact hN _ ⟨1 + k, by omega, by omega, rfl⟩
  rintro _ ⟨a, a0, a1, rfl⟩
  let F7 := some (L.val (.int a))
  have tw := row_two hq tl a0 (by rw [← hqt]; exact a1)
  have tlen : (twoL l t a).length = l.length + 1 := by
    unfold twoL
    rw [List.length_append, List.length_append, List.length_take, List.length_drop]
    show min t l.length + 2 + (l.length - (t + 1)) = _
    omega
  have tok : RowOk (twoL l t a) := fun x hx => by
    unfold twoL at hx
    rw [← hqt] at hx
    rcases List.mem_append.mp hx with z | z
    · rcases List.mem_append.mp z with z | z
      · exact hq x (List.mem_of_mem_take z)
      · simp only [List.mem_cons, List.not_mem_nil, or_false] at z
        rcases z with rfl | rfl
        · exact ⟨q1, q2, a0, by show a ≤ 10 ^ 6; omega⟩
        · exact ⟨q1, q2, by show 1 ≤ q.2 - a; omega, by show q.2 - a ≤ 10 ^ 6; omega⟩
    · exact hq x (List.mem_of_mem_drop z)
  have ct : cut (l.map itD) none (some ((t : Nat) : Int)) = (l.take t).map itD := by rw [cut_to, List.map_take]
  have cd : cut (l.map itD) (some ((t : Int) + 1)) none = (l.drop (t + 1)).map itD := by
    have := cut_from (l.map itD) (t + 1)
    rw [List.map_drop]; exact this
  refine seq_mid (M := fun s' => s' = ⟨[O, A, T, V, K, M5, W6, F7, some (.val (.tup ((twoL l t a).map itD))), none, none], g + 2⟩) ?_ ?_
  rotate_left
  · intro N hN
    have tkl : ((l.take t).map itD).length ≤ 60 := by rw [List.length_map, List.length_take]; omega
    have drl : ((l.drop (t + 1)).map itD).length ≤ 60 := by rw [List.length_map, List.length_drop]; omega
    refine ⟨by show 2 ≤ sizeLine; omega, by show 2 ≤ sizeLine; omega, by show 2 ≤ sizeLine; omega, by show (cut (l.map itD) none (some ((t : Nat) : Int))).length + 2 ≤ sizeLine; rw [ct]; omega, ?_, ?_⟩
    · show (cut (l.map itD) none (some ((t : Nat) : Int)) ++ [D.tup [.int q.1, .int a], .tup [.int q.1, .int (q.2 - a)]]).length + (cut (l.map itD) (some ((t : Int) + 1)) none).length ≤ sizeLine
      rw [ct, cd, List.length_append]
      show _ + 2 + _ ≤ _
      omega
    · refine hN _ ?_
      show (⟨[O, A, T, V, K, M5, W6, F7, some (.val (.tup (cut (l.map itD) none (some ((t : Nat) : Int)) ++ [D.tup [.int q.1, .int a], .tup [.int q.1, .int (q.2 - a)]] ++ cut (l.map itD) (some ((t : Int) + 1)) none))), none, none], g + 2⟩ : S Nat) = _
      rw [ct, cd]
      have e : (twoL l t a).map itD = (l.take t).map itD ++ [D.tup [.int q.1, .int a], .tup [.int q.1, .int (q.2 - a)]] ++ (l.drop (t + 1)).map itD := by
        unfold twoL
        rw [List.map_append, List.map_append, hqt]; rfl
      rw [e]
  rintro _ rfl
  refine ⟨twoL l t a, rfl, by omega, by omega, tok, ?_⟩
  have e1 : cut ((rowR l).map frD) none (some ((t : Int) + 1)) = ((rowR l).take (t + 1)).map frD := by
    have := cut_to ((rowR l).map frD) (t + 1)
    rw [List.map_take]; exact this
  have e2 : cut ((rowR l).map frD) (some ((t : Nat) : Int)) none = ((rowR l).drop t).map frD := by rw [cut_from, List.map_drop]
  have et : rowR (twoL l t a) = (rowR l).take (t + 1) ++ (rowR l).drop t := by
    rw [tw]
    refine List.ext_getElem? fun i => ?_
    rw [List.getElem?_map]
    rcases Nat.lt_or_ge i (l.length + 1) with z | z
    · rw [List.getElem?_range z]
      by_cases c : i ≤ t
      · rw [List.getElem?_append_left (by rw [List.length_take]; omega), List.getElem?_take, if_pos (by omega), rw_at hq h1 (by omega)]
        show some (rwF l (if i ≤ t then i else i - 1)) = _
        rw [if_pos c]
      · rw [List.getElem?_append_right (by rw [List.length_take]; omega), List.getElem?_drop, List.length_take]
        have : t + (i - min (t + 1) (rowR l).length) = i - 1 := by omega
        rw [this, rw_at hq h1 (by omega)]
        show some (rwF l (if i ≤ t then i else i - 1)) = _
        rw [if_neg c]
    · rw [List.getElem?_eq_none (by rw [List.length_range]; exact z), List.getElem?_eq_none (by rw [List.length_append, List.length_take, List.length_drop]; omega)]; rfl
  obtain ⟨o1, o2, o3⟩ := frs24R (xs := rowR (twoL l t a)) (by rw [rowR_len tok (by omega)]; omega)
  refine ⟨?_, D.tup ((rowR (twoL l t a)).map frD), ?_, o1, o2, by decide, o3, h (g + 2) (by omega) (by omega)⟩
  · show (cut ((rowR l).map frD) none (some ((t : Int) + 1))).length + (cut ((rowR l).map frD) (some ((t : Nat) : Int)) none).length ≤ sizeLine
    rw [e1, e2, List.length_map, List.length_map, List.length_take, List.length_drop]; omega
  · show [D.tup ((rowR (twoL l t a)).map frD), D.tup (cut ((rowR l).map frD) none (some ((t : Int) + 1)) ++ cut ((rowR l).map frD) (some ((t : Nat) : Int)) none)] = _
    rw [e1, e2, ← List.map_append, ← et]

def t_less_7322 : PSx Unit := (qRet (qBin ltD (qBin mulD (qBin ixD (qVar 0) (qC (.int 0))) (qBin ixD (qVar 1) (qC (.int 1)))) (qBin mulD (qBin ixD (qVar 1) (qC (.int 0))) (qBin ixD (qVar 0) (qC (.int 1))))))

def sp_less_7322 : Spec0 := fun ds R => ∃ x y : Rat, ds = [frD x, frD y] ∧ SzR 9000 x ∧ SzR 9000 y ∧ R (.bl (decide (x < y)))
theorem len_less_7322 (ds : List D) (R : DK) (h : sp_less_7322 ds R) : ds.length = 2 := by
  obtain ⟨_, _, rfl, _⟩ := h; rfl
theorem p_less_7322 (ds : List D) (R : DK) (h : sp_less_7322 ds R) : t_less_7322 { nx := fun _ => R .non, rt := fun d _ => R d } ⟨startL 2 ds, ()⟩ := by
  obtain ⟨x, y, rfl, hx, hy, h⟩ := h
  refine ⟨_, rfl, _, rfl, hx.1.mulOk hy.2, _, rfl, _, rfl, hy.1.mulOk hx.2, ?_⟩
  have e : decide (x < y) = decide (x.num * y.den < y.num * x.den) := by rw [decide_eq_decide]; exact Rat.lt_iff x y
  rw [e] at h; exact h

def t_law_a480 (r : Addr) : PSx Nat := (qSeq (qFor (qRange1 (qCons (qC (.int 2)) qNil)) (.nm 2) (qSeq (qIf (qNot (qB (qCallP (sp_panel_right_9357) (qCons (qCallG (sp_row_75d3 r) (qCons (qVar 1) (qCons (qC (.int 8)) qNil))) qNil)))) (qRet (qC (.bl false))) qNext) (qSeq (qAsg (qCallG (sp_row_75d3 r) (qCons (qVar 1) (qCons (qC (.int 39)) qNil))) 3) (qSeq (qIf (qOr (qNot (qB (qCallG (sp_parts_right_afa2 r) (qCons (qVar 1) (qCons (qVar 3) qNil))))) (qNot (qB (qCallG (sp_changes_right_e813 r) (qCons (qVar 1) (qCons (qVar 3) qNil)))))) (qRet (qC (.bl false))) qNext) (qSeq (qAsg (qCallP (sp_rate_row_d172) (qCons (qVar 3) qNil)) 4) (qIf (qB (qBin neD (qSet (qLc (qZip (qCons (qVar 4) (qCons (qSl (qVar 4) (qPart (qC (.int 1))) qNoPart) qNil))) (.tp [(.nm 5), (.nm 6)]) [5, 6] (qB (qCallP (sp_less_7322) (qCons (qVar 6) (qCons (qVar 5) qNil)))) (qC (.int 1)))) (qSet (qLst qNil)))) (qRet (qC (.bl false))) qNext)))))) (qRet (qC (.bl true))))

theorem p_law_a480 (r : Addr) : t_law_a480 r { nx := fun _ => False, rt := fun d _ => d = .bl true } ⟨(List.replicate 7 none).set 1 (some (.val (.obj r))), 0⟩ := by
  have lim : drawLine = 16777216 := by decide
  have line : (10000000 : Nat) ≤ sizeLine := line_big
  let O := some (L.val (.obj r))
  refine ⟨⟨by decide, by decide⟩, fun i s => ∃ g, g ≤ 2000 * i ∧ s = ⟨[none, O, none, none, none, none, none], g⟩, ⟨_, Wk.refl _, 0, by omega, rfl⟩, ?_, ?_⟩
  · rintro i d s hd ⟨g, hg, rfl⟩
    have hi : i < 2 := (List.getElem?_eq_some_iff.mp hd).1
    let X := some (L.val d)
    refine put_nm ?_
    refine seq_mid (M := fun s' => ∃ g1 : Nat, g1 ≤ g + 400 ∧ s' = ⟨[none, O, X, none, none, none, none], g1⟩) ?_ ?_
    rotate_left
    · intro N hN
      refine ⟨8, rfl, by decide, by decide, (by show g + 1000 < drawLine; omega), fun l g1 l1 l8 hq ga gb => ?_⟩
      exact ⟨l, rfl, l1, l8, hq, fun hc => Bool.noConfusion hc, fun _ => hN _ ⟨g1, gb, rfl⟩⟩
    rintro _ ⟨g1, gb1, rfl⟩
    refine seq_mid (M := fun s' => ∃ (l : List (Int × Int)) (g2 : Nat), 1 ≤ l.length ∧ l.length ≤ 39 ∧ RowOk l ∧ g2 ≤ g1 + 400 ∧ s' = ⟨[none, O, X, some (.val (.tup (l.map itD))), none, none, none], g2⟩) ?_ ?_
    rotate_left
    · intro N hN
      exact ⟨39, rfl, by decide, by decide, (by show g1 + 1000 < drawLine; omega), fun l g2 l1 l8 hq ga gb => hN _ ⟨l, g2, l1, l8, hq, gb, rfl⟩⟩
    rintro _ ⟨l, g2, l1, l39, hq, gb2, rfl⟩
    let A := some (L.val (.tup (l.map itD)))
    refine seq_mid (M := fun s' => ∃ g3 : Nat, g3 ≤ g2 + 3 ∧ s' = ⟨[none, O, X, A, none, none, none], g3⟩) ?_ ?_
    rotate_left
    · intro N hN
      refine ⟨l, rfl, l1, by omega, hq, (by show g2 < drawLine; omega), fun hc => Bool.noConfusion hc, fun _ => ?_⟩
      refine ⟨l, rfl, l1, by omega, hq, (by show g2 + 1 + 5 < drawLine; omega), fun g3 ga gb => ⟨fun hc => Bool.noConfusion hc, fun _ => ?_⟩⟩
      have gb : g3 ≤ g2 + 1 + 2 := gb
      exact hN _ ⟨g3, by omega, rfl⟩
    rintro _ ⟨g3, gb3, rfl⟩
    let T := some (L.val (.tup ((rowR l).map frD)))
    refine seq_mid (M := fun s' => s' = ⟨[none, O, X, A, T, none, none], g3⟩) ?_ ?_
    rotate_left
    · intro N hN
      exact ⟨l, rfl, l1, by omega, hq, hN _ rfl⟩
    rintro _ rfl
    have rl := rowR_len hq l1
    have asc := asc_rw hq l1
    have fin : ∃ s'', Wk (⟨[none, O, X, A, T, none, none], g3⟩ : S Nat) s'' ∧ ∃ g, g ≤ 2000 * (i + 1) ∧ s'' = ⟨[none, O, none, none, none, none, none], g⟩ :=
      ⟨⟨[none, O, none, none, none, none, none], g3⟩, Wk.of (by repeat' first | exact trivial | exact .inr rfl | exact .inl rfl | refine ⟨?_, ?_⟩), g3, by omega, rfl⟩
    have ec : cut ((rowR l).map frD) (some 1) none = ((rowR l).drop 1).map frD := by
      have := cut_from ((rowR l).map frD) 1
      rw [List.map_drop]; exact this
    show lcB _ _ _ _ _ (zipD ((rowR l).map frD) (cut ((rowR l).map frD) (some 1) none)) _
    rw [ec, zipD_map]
    refine lc_list ((rowR l).zip ((rowR l).drop 1)) (fun q => D.tup [frD q.1, frD q.2]) (fun _ => false) (fun _ => D.int 1) (by rw [List.length_zip]; omega) (fun q hm => ⟨_, rfl, fun T h => ?_, fun hc => Bool.noConfusion hc⟩) ?_ (by decide) (by rfl)
    · obtain ⟨k, hk⟩ := List.mem_iff_getElem?.mp hm
      have hkl := (List.getElem?_eq_some_iff.mp hk).1
      rw [List.length_zip, List.length_drop] at hkl
      have e1 := (List.getElem?_eq_some_iff.mp hk).2
      rw [List.getElem_zip, List.getElem_drop] at e1
      have z := rowR_sz hq (by omega) l1
      have le : q.1 ≤ q.2 := by
        have a := asc k (by omega)
        rw [List.getD_eq_getElem?_getD, List.getElem?_eq_getElem (by omega), List.getD_eq_getElem?_getD, List.getElem?_eq_getElem (by omega)] at a
        rw [← e1]
        show (rowR l)[k] ≤ (rowR l)[1 + k]
        have : (rowR l)[1 + k] = (rowR l)[k + 1] := by congr 1; omega
        rw [this]; exact a
      have m1 : q.1 ∈ rowR l := (List.of_mem_zip hm).1
      have m2 : q.2 ∈ rowR l := List.mem_of_mem_drop (List.of_mem_zip hm).2
      refine ⟨q.2, q.1, rfl, (z _ m2).le (by decide), (z _ m1).le (by decide), ?_⟩
      rw [decide_eq_false (show ¬ q.2 < q.1 by grind)]
      exact h
    · have e0 : ((rowR l).zip ((rowR l).drop 1)).filter (fun _ => false) = [] := by simp
      rw [e0]
      exact ⟨(by show 0 ≤ sizeLine; omega), ⟨rfl, rfl, Nat.le_of_ble_eq_true rfl, Nat.le_of_ble_eq_true rfl⟩, fun hc => Bool.noConfusion hc, fun _ => fin⟩
  · rintro s ⟨g, _, rfl⟩
    exact rfl

end Pm
set_option Elab.async false
set_option linter.all false
set_option maxRecDepth 100000
set_option maxHeartbeats 0
set_option autoImplicit false
namespace Pm
open PySem PySem.Spec
open PyProof.Rows hiding St
open L2
structure Bi (K : PySem.W.Frag) (mg : Str → Option Value) : Prop where
  f_abs : mg "abs" = none
  f_all : mg "all" = none
  f_bool : mg "bool" = none
  f_enumerate : mg "enumerate" = none
  f_int : mg "int" = none
  f_isinstance : mg "isinstance" = none
  f_len : mg "len" = none
  f_list : mg "list" = none
  f_min : mg "min" = none
  f_range : mg "range" = none
  f_set : mg "set" = none
  f_sorted : mg "sorted" = none
  f_str : mg "str" = none
  f_sum : mg "sum" = none
  f_tuple : mg "tuple" = none
  f_zip : mg "zip" = none
theorem bt_abs : bootBuiltins "abs" = some (.builtin "abs") := by decide +kernel
theorem bt_all : bootBuiltins "all" = some (.builtin "all") := by decide +kernel
theorem bt_bool : bootBuiltins "bool" = some (.type "bool") := by decide +kernel
theorem bt_int : bootBuiltins "int" = some (.type "int") := by decide +kernel
theorem bt_len : bootBuiltins "len" = some (.builtin "len") := by decide +kernel
theorem bt_list : bootBuiltins "list" = some (.type "list") := by decide +kernel
theorem bt_min : bootBuiltins "min" = some (.builtin "min") := by decide +kernel
theorem bt_sorted : bootBuiltins "sorted" = some (.builtin "sorted") := by decide +kernel
theorem bt_str : bootBuiltins "str" = some (.type "str") := by decide +kernel
theorem bt_sum : bootBuiltins "sum" = some (.builtin "sum") := by decide +kernel
theorem bt_tuple : bootBuiltins "tuple" = some (.type "tuple") := by decide +kernel
section
variable {P : Program} {w : World} {K : PySem.W.Frag} {mg : Str → Option Value} {base : Heap}
theorem sc_draws : FnScope ["_law_script", "_law_cells", "_law_cell"] ["_law_script"] (defScope st_draws) := ⟨rfl, rfl, rfl, by decide +kernel, rfl, by decide +kernel, by decide +kernel⟩
theorem ok_draws0 {f fd} (b : Bi K mg) (F : Fn K "_law_draws" "_law_draws" st_draws f fd) : FnOk P w K mg base CX0 1 f fd ["_law_script"] (spDraws K) := ok_draws F sc_draws rfl rfl fun cdv A outer s H E hr => by
  have nd := sc_draws.nd
  exact pss_cons (ps_set (i := 1) nd rfl (by first | exact Or.inl rfl | exact Or.inr rfl) (pe_op op_cat (pe_callTy call_list_of rfl b.f_list bt_list (pa_cons (pe_slice sl_list (pv 0) po_none (po_some pe_int)) pa_nil))
      (pe_op op_rep (pe_lst (pa_cons pe_int pa_nil)) (pe_callTy call_int1 rfl b.f_int bt_int (pa_cons (pe_cmpR op_eq (pe_callB call_len_seq rfl b.f_len bt_len (pa_cons (pv 0) pa_nil)) pe_int (nomark _)) pa_nil)))))
    (pss_one (ps_ret (pe_lst (pa_cons (pv 1) (pa_cons pe_int (pa_cons (pe_lc (own := [("_law_cell", 2)]) rfl nd (pi_list (pv 1)) (blkOk_by (by kernel_rfl)) (fun _ _ _ _ _ => pg_name nd rfl (by first | exact Or.inl rfl | exact Or.inr rfl)) (fun _ _ _ _ _ => pts_nil)
      (fun _ _ _ _ _ => pe_op op_mul (pv 2) (pe_callTy call_int1 rfl b.f_int bt_int (pa_cons (pe_cmpR op_ge (pv 2) (pe_op op_pow pe_int pe_int) (nomark _)) pa_nil)))) pa_nil))))))
theorem sc_next : FnScope ["_law_drawn", "_law_many", "_law_cells", "_law_turn", "_law_rests", "_law_spot", "_law_digit", "_law_mixed", "_law_again"] ["_law_drawn", "_law_many"] (defScope st_next) := ⟨rfl, rfl, rfl, by decide +kernel, rfl, by decide +kernel, by decide +kernel⟩
theorem ok_next0 {f fd} {r c q : Addr} (b : Bi K mg) (F : Fn K "_law_next" "_law_next" st_next f fd) : FnOk P w K mg base CX0 1 f fd ["_law_drawn", "_law_many"] (spG (gr K r c q) (nextS r)) := ok_next F sc_next rfl rfl fun cdv A outer s H E hr => by
  have nd := sc_next.nd
  exact pss_cons (ps_asg (pv 0) (pg_lst rfl (pgs_cons (pg_name nd rfl (.inl rfl)) (pgs_cons (pg_name nd rfl (.inl rfl)) (pgs_cons (pg_name nd rfl (.inl rfl)) pgs_nil)))))
    (pss_cons (ps_set (i := 5) nd rfl (.inl rfl) (pe_op op_mod (pv 3) (pe_callB call_len_seq rfl b.f_len bt_len (pa_cons (pv 2) pa_nil))))
    (pss_cons (ps_asg (pe_op op_add (pv 3) pe_int) (pg_sub (pv 0) pe_int set_list (fun _ => rfl)))
    (pss_cons (ps_if (pt_cmpR op_gt (pe_ix ix_list (pv 4) (pv 5) (fun _ _ => rfl)) pe_int (nomark _))
      (pss_cons (ps_set (i := 6) nd rfl (.inl rfl) (pe_op op_mod (pe_ix ix_list (pv 4) (pv 5) (fun _ _ => rfl)) (pv 1)))
      (pss_cons (ps_asg (pe_op op_fdivM (pe_ix ix_list (pv 4) (pv 5) (fun _ _ => rfl)) (pv 1)) (pg_sub (pv 4) (pv 5) set_list (fun _ => rfl)))
      (pss_one (ps_ret (pv 6))))) pss_nil)
    (pss_cons (ps_set (i := 7) nd rfl (.inl rfl) (pe_op op_mod (pe_op op_pow (pe_op op_add (pe_op op_add (pe_op op_mod (pe_ix ix_list (pv 2) (pv 5) (fun _ _ => rfl)) pe_int) (pe_op op_mul pe_int (pv 3))) pe_int) pe_int) pe_int))
    (pss_cons (ps_set (i := 8) nd rfl (.inl rfl) (pe_op op_mod (pe_op op_pow (pe_op op_add (pe_op op_add (pv 7) (pe_op op_mul (pe_op op_mul pe_int (pv 3)) (pv 3))) pe_int) pe_int) pe_int))
    (pss_one (ps_ret (pe_op op_mod (pe_op op_mod (pe_op op_add (pe_op op_mul (pv 8) pe_int) (pv 7)) pe_int) (pv 1)))))))))
theorem sc_size_3de8 : FnScope ["_law_drawn", "_law_great", "_law_few"] ["_law_drawn", "_law_great"] (defScope st_size_3de8) := ⟨rfl, rfl, rfl, by decide +kernel, rfl, by decide +kernel, by decide +kernel⟩
theorem ok_size_3de8 {f fd} {r c q : Addr} (b : Bi K mg) (g_next : ∀ r c q, Glo P w K mg base "_law_next" 2 (spG (gr K r c q) (nextS r)) 1) (F : Fn K "_law_size" "_law_size" st_size_3de8 f fd) : FnOk P w K mg base CX0 2 f fd ["_law_drawn", "_law_great"] (spG (gr K r c q) (sp_size_3de8 r)) :=
  okG (P := P) (w := w) (mg := mg) (base := base) (G := gr K r c q) (k := 1) rfl F sc_size_3de8 (len_size_3de8 r) ⟨t_size_3de8 r, fun cdv A outer s H E hr => by
    have nd := sc_size_3de8.nd
    exact (qss_cons (qs_set (i := 2) nd rfl (by first | exact Or.inl rfl | exact Or.inr rfl) (qe_callG ((g_next _ _ _).at hr (by decide)) rfl (qa_cons (qv 0) (qa_cons (qe_bin o_add (qe_callB (c_min2 rfl) rfl b.f_min bt_min (qa_cons (qv 1) (qa_cons qe_int qa_nil))) qe_int) qa_nil))))
    (qss_one (qs_ret (qe_ix (qe_set (qf_lst (qa_cons (qv 2) (qa_cons (qe_bin o_sub (qv 1) (qv 2)) (qa_cons (qe_callG ((g_next _ _ _).at hr (by decide)) rfl (qa_cons (qv 0) (qa_cons (qe_bin o_add (qv 1) qe_int) qa_nil))) qa_nil))))) (qe_callG ((g_next _ _ _).at hr (by decide)) rfl (qa_cons (qv 0) (qa_cons qe_int qa_nil))))))), p_size_3de8 r⟩ (fun _ _ _ h => h)
theorem sc_items_cafd : FnScope ["_law_drawn", "_law_count", "_law_great", "_law_heavy", "_law_found", "_law_k"] ["_law_drawn", "_law_count"] (defScope st_items_cafd) := ⟨rfl, rfl, rfl, by decide +kernel, rfl, by decide +kernel, by decide +kernel⟩
theorem ok_items_cafd {f fd} {r c q : Addr} (b : Bi K mg) (g_next : ∀ r c q, Glo P w K mg base "_law_next" 2 (spG (gr K r c q) (nextS r)) 1) (g_size_3de8 : ∀ r c q, Glo P w K mg base "_law_size" 2 (spG (gr K r c q) (sp_size_3de8 r)) 2) (F : Fn K "_law_items" "_law_items" st_items_cafd f fd) : FnOk P w K mg base CX0 3 f fd ["_law_drawn", "_law_count"] (spG (gr K r c q) (sp_items_cafd r)) :=
  okG (P := P) (w := w) (mg := mg) (base := base) (G := gr K r c q) (k := 2) rfl F sc_items_cafd (len_items_cafd r) ⟨t_items_cafd r, fun cdv A outer s H E hr => by
    have nd := sc_items_cafd.nd
    exact (qss_cons (qs_set (i := 2) nd rfl (by first | exact Or.inl rfl | exact Or.inr rfl) (qe_ix (qe_set (qf_lst (qa_cons qe_int (qa_cons qe_int (qa_cons (qe_bin o_pow qe_int qe_int) qa_nil))))) (qe_callG ((g_next _ _ _).at hr (by decide)) rfl (qa_cons (qv 0) (qa_cons qe_int qa_nil)))))
    (qss_cons (qs_set (i := 3) nd rfl (by first | exact Or.inl rfl | exact Or.inr rfl) (qe_ix (qe_set (qf_lst (qa_cons qe_int (qa_cons qe_int (qa_cons (qe_bin o_pow qe_int qe_int) qa_nil))))) (qe_callG ((g_next _ _ _).at hr (by decide)) rfl (qa_cons (qv 0) (qa_cons qe_int qa_nil)))))
    (qss_cons (qs_setOwn (i := 4) nd rfl (by first | exact Or.inl rfl | exact Or.inr rfl) (qf_lst qa_nil))
    (qss_cons (qs_for PassesOwn.never rfl (qi_range1 rfl b.f_range (qa_cons (qv 1) qa_nil)) (qg_name nd rfl (by first | exact Or.inl rfl | exact Or.inr rfl)) (qss_one (qs_expr (qe_append (pv 4) (qe_tup (qa_cons (qe_bin o_sub (qe_callG ((g_size_3de8 _ _ _).at hr (by decide)) rfl (qa_cons (qv 0) (qa_cons (qe_bin o_mul qe_int (qv 2)) qa_nil))) (qv 2)) (qa_cons (qe_bin o_add qe_int (qe_callG ((g_size_3de8 _ _ _).at hr (by decide)) rfl (qa_cons (qv 0) (qa_cons (qe_bin o_sub (qv 3) qe_int) qa_nil)))) qa_nil)))))))
    (qss_one (qs_ret (qe_callTy c_tuple rfl b.f_tuple bt_tuple (qa_cons (qv 4) qa_nil)))))))), p_items_cafd r⟩ (fun _ _ _ h => h)
theorem sc_row_75d3 : FnScope ["_law_drawn", "_law_most", "_law_items_here", "_law_way", "_law_mark", "_law_weight"] ["_law_drawn", "_law_most"] (defScope st_row_75d3) := ⟨rfl, rfl, rfl, by decide +kernel, rfl, by decide +kernel, by decide +kernel⟩
theorem ok_row_75d3 {f fd} {r c q : Addr} (b : Bi K mg) (g_items_cafd : ∀ r c q, Glo P w K mg base "_law_items" 2 (spG (gr K r c q) (sp_items_cafd r)) 3) (g_next : ∀ r c q, Glo P w K mg base "_law_next" 2 (spG (gr K r c q) (nextS r)) 1) (F : Fn K "_law_row" "_law_row" st_row_75d3 f fd) : FnOk P w K mg base CX0 4 f fd ["_law_drawn", "_law_most"] (spG (gr K r c q) (sp_row_75d3 r)) :=
  okG (P := P) (w := w) (mg := mg) (base := base) (G := gr K r c q) (k := 3) rfl F sc_row_75d3 (len_row_75d3 r) ⟨t_row_75d3 r, fun cdv A outer s H E hr => by
    have nd := sc_row_75d3.nd
    exact (qss_cons (qs_set (i := 2) nd rfl (by first | exact Or.inl rfl | exact Or.inr rfl) (qe_callG ((g_items_cafd _ _ _).at hr (by decide)) rfl (qa_cons (qv 0) (qa_cons (qe_bin o_add qe_int (qe_callG ((g_next _ _ _).at hr (by decide)) rfl (qa_cons (qv 0) (qa_cons (qv 1) qa_nil)))) qa_nil))))
    (qss_cons (qs_set (i := 3) nd rfl (by first | exact Or.inl rfl | exact Or.inr rfl) (qe_callG ((g_next _ _ _).at hr (by decide)) rfl (qa_cons (qv 0) (qa_cons qe_int qa_nil))))
    (qss_cons (qs_if (qt_cmp (o_eq hr) (qv 3) qe_int (nomark _)) (qss_one (qs_set (i := 2) nd rfl (by first | exact Or.inl rfl | exact Or.inr rfl) (qe_callTy c_tuple rfl b.f_tuple bt_tuple (qa_cons (qe_set (qf_callB c_sortedP rfl b.f_sorted bt_sorted (qa_cons (qv 2) qa_nil))) qa_nil)))) qss_nil)
    (qss_cons (qs_if (qt_cmp (o_eq hr) (qv 3) qe_int (nomark _)) (qss_one (qs_set (i := 2) nd rfl (by first | exact Or.inl rfl | exact Or.inr rfl) (qe_callTy c_tuple rfl b.f_tuple bt_tuple (qa_cons (qe_step (qe_set (qf_callB c_sortedP rfl b.f_sorted bt_sorted (qa_cons (qv 2) qa_nil))) (qe_un o_neg qe_int)) qa_nil)))) qss_nil)
    (qss_cons (qs_if (qt_cmp (o_eq hr) (qv 3) qe_int (nomark _)) (qss_one (qs_set (i := 2) nd rfl (by first | exact Or.inl rfl | exact Or.inr rfl) (qe_callTy c_tuple rfl b.f_tuple bt_tuple (qa_cons (qe_set (qf_lc rfl nd (qi_seq (qv 2)) (own := [("_law_mark", 4), ("_law_weight", 5)]) (blkOk_by (by kernel_rfl)) (by decide) (fun _ _ _ _ _ => (qg_tup rfl (qgs_cons (qg_name nd rfl (by first | exact Or.inl rfl | exact Or.inr rfl)) (qgs_cons (qg_name nd rfl (by first | exact Or.inl rfl | exact Or.inr rfl)) qgs_nil)))) (fun _ _ _ _ _ => qts_nil) (fun _ _ _ _ _ => (qe_tup (qa_cons (qe_bin o_mod (qv 4) qe_int) (qa_cons (qv 5) qa_nil)))))) qa_nil)))) qss_nil)
    (qss_one (qs_ret (qv 2)))))))), p_row_75d3 r⟩ (fun _ _ _ h => h)
theorem sc_start_blocks_8d16 : FnScope ["row", "mark", "weight"] ["row"] (defScope st_start_blocks_8d16) := ⟨rfl, rfl, rfl, by decide +kernel, rfl, by decide +kernel, by decide +kernel⟩
theorem ok_start_blocks_8d16 {f fd} (b : Bi K mg) (F : Fn K "start_blocks" "start_blocks" st_start_blocks_8d16 f fd) : FnOk P w K mg base CX0 1 f fd ["row"] (spP K sp_start_blocks_8d16) :=
  okP F sc_start_blocks_8d16 len_start_blocks_8d16 ⟨t_start_blocks_8d16, fun cdv A outer s H E hr => by
    have nd := sc_start_blocks_8d16.nd
    exact (qss_one (qs_ret (qe_callTy c_tuple rfl b.f_tuple bt_tuple (qa_cons (qe_set (qf_lc rfl nd (qi_seq (qv 0)) (own := [("mark", 1), ("weight", 2)]) (blkOk_by (by kernel_rfl)) (by decide) (fun _ _ _ _ _ => (qg_tup rfl (qgs_cons (qg_name nd rfl (by first | exact Or.inl rfl | exact Or.inr rfl)) (qgs_cons (qg_name nd rfl (by first | exact Or.inl rfl | exact Or.inr rfl)) qgs_nil)))) (fun _ _ _ _ _ => qts_nil) (fun _ _ _ _ _ => (qe_tup (qa_cons qe_int (qa_cons (qe_bin o_mul (qv 1) (qv 2)) (qa_cons (qv 2) qa_nil))))))) qa_nil)))), p_start_blocks_8d16⟩
theorem sc_is_falling_c091 : FnScope ["one", "other"] ["one", "other"] (defScope st_is_falling_c091) := ⟨rfl, rfl, rfl, by decide +kernel, rfl, by decide +kernel, by decide +kernel⟩
theorem ok_is_falling_c091 {f fd} (b : Bi K mg) (F : Fn K "is_falling" "is_falling" st_is_falling_c091 f fd) : FnOk P w K mg base CX0 1 f fd ["one", "other"] (spP K sp_is_falling_c091) :=
  okP F sc_is_falling_c091 len_is_falling_c091 ⟨t_is_falling_c091, fun cdv A outer s H E hr => by
    have nd := sc_is_falling_c091.nd
    exact (qss_one (qs_ret (qe_cmp o_gt (qe_bin o_mul (qe_ix (qv 0) qe_int) (qe_ix (qv 1) qe_int)) (qe_bin o_mul (qe_ix (qv 1) qe_int) (qe_ix (qv 0) qe_int)) (nomark _)))), p_is_falling_c091⟩
theorem sc_merged_e28f : FnScope ["one", "other"] ["one", "other"] (defScope st_merged_e28f) := ⟨rfl, rfl, rfl, by decide +kernel, rfl, by decide +kernel, by decide +kernel⟩
theorem ok_merged_e28f {f fd} (b : Bi K mg) (F : Fn K "merged" "merged" st_merged_e28f f fd) : FnOk P w K mg base CX0 1 f fd ["one", "other"] (spP K sp_merged_e28f) :=
  okP F sc_merged_e28f len_merged_e28f ⟨t_merged_e28f, fun cdv A outer s H E hr => by
    have nd := sc_merged_e28f.nd
    exact (qss_one (qs_ret (qe_tup (qa_cons (qe_bin o_add (qe_ix (qv 0) qe_int) (qe_ix (qv 1) qe_int)) (qa_cons (qe_bin o_add (qe_ix (qv 0) qe_int) (qe_ix (qv 1) qe_int)) (qa_cons (qe_bin o_add (qe_ix (qv 0) qe_int) (qe_ix (qv 1) qe_int)) qa_nil)))))), p_merged_e28f⟩
theorem sc_pool_row_f687 : FnScope ["row", "found", "block"] ["row"] (defScope st_pool_row_f687) := ⟨rfl, rfl, rfl, by decide +kernel, rfl, by decide +kernel, by decide +kernel⟩
theorem ok_pool_row_f687 {f fd} (b : Bi K mg) (g_start_blocks_8d16 : Glo P w K mg base "start_blocks" 1 (spP K (sp_start_blocks_8d16)) 1) (g_is_falling_c091 : Glo P w K mg base "is_falling" 2 (spP K (sp_is_falling_c091)) 1) (g_merged_e28f : Glo P w K mg base "merged" 2 (spP K (sp_merged_e28f)) 1) (F : Fn K "pool_row" "pool_row" st_pool_row_f687 f fd) : FnOk P w K mg base CX0 2 f fd ["row"] (spP K sp_pool_row_f687) :=
  okP F sc_pool_row_f687 len_pool_row_f687 ⟨t_pool_row_f687, fun cdv A outer s H E hr => by
    have nd := sc_pool_row_f687.nd
    exact (qss_cons (qs_setOwn (i := 1) nd rfl (by first | exact Or.inl rfl | exact Or.inr rfl) (qf_lst qa_nil))
    (qss_cons (qs_for PassesOwn.never rfl (qi_seq (qe_call (g_start_blocks_8d16.at hr (by decide)) rfl (qa_cons (qv 0) qa_nil))) (qg_name nd rfl (by first | exact Or.inl rfl | exact Or.inr rfl)) (qss_cons (qs_while PassesOwn.never (PW.pt (qw_and (qt_cmpN1 (b_ne hr) (pv 1) (qe_set (qf_lst qa_nil)) (nomark _)) (qw_and1 (qt_val (qe_call (g_is_falling_c091.at hr (by decide)) rfl (qa_cons (qe_ixN (pv 1) (qe_un o_neg qe_int)) (qa_cons (qv 2) qa_nil))))))) (qss_one (qs_set (i := 2) nd rfl (by first | exact Or.inl rfl | exact Or.inr rfl) (qe_call (g_merged_e28f.at hr (by decide)) rfl (qa_cons (qe_pop (pv 1)) (qa_cons (qv 2) qa_nil))))))
    (qss_one (qs_expr (qe_append (pv 1) (qv 2))))))
    (qss_one (qs_ret (qe_callTy c_tuple rfl b.f_tuple bt_tuple (qa_cons (qv 1) qa_nil)))))), p_pool_row_f687⟩
theorem sc_common_divisor_2932 : FnScope ["one", "other"] ["one", "other"] (defScope st_common_divisor_2932) := ⟨rfl, rfl, rfl, by decide +kernel, rfl, by decide +kernel, by decide +kernel⟩
theorem ok_common_divisor_2932 {f fd} (b : Bi K mg) (F : Fn K "common_divisor" "common_divisor" st_common_divisor_2932 f fd) : FnOk P w K mg base CX0 1 f fd ["one", "other"] (spP K sp_common_divisor_2932) :=
  okP F sc_common_divisor_2932 len_common_divisor_2932 ⟨t_common_divisor_2932, fun cdv A outer s H E hr => by
    have nd := sc_common_divisor_2932.nd
    exact (qss_cons (qs_while PassesOwn.never (qt_cmp o_gt (qv 1) qe_int (nomark _)) (qss_one (qs_par rfl nd rfl rfl (by decide) rfl rfl (qa_cons (qv 1) (qa_cons (qe_bin o_mod (qv 0) (qv 1)) qa_nil)) rfl)))
    (qss_one (qs_ret (qv 0)))), p_common_divisor_2932⟩
theorem sc_make_fraction_15f7 : FnScope ["numerator", "denominator", "divisor"] ["numerator", "denominator"] (defScope st_make_fraction_15f7) := ⟨rfl, rfl, rfl, by decide +kernel, rfl, by decide +kernel, by decide +kernel⟩
theorem ok_make_fraction_15f7 {f fd} (b : Bi K mg) (g_common_divisor_2932 : Glo P w K mg base "common_divisor" 2 (spP K (sp_common_divisor_2932)) 1) (F : Fn K "make_fraction" "make_fraction" st_make_fraction_15f7 f fd) : FnOk P w K mg base CX0 2 f fd ["numerator", "denominator"] (spP K sp_make_fraction_15f7) :=
  okP F sc_make_fraction_15f7 len_make_fraction_15f7 ⟨t_make_fraction_15f7, fun cdv A outer s H E hr => by
    have nd := sc_make_fraction_15f7.nd
    exact (qss_cons (qs_if (qt_cmp (o_eq hr) (qv 1) qe_int (nomark _)) (qss_one qs_never) qss_nil)
    (qss_cons (qs_set (i := 2) nd rfl (by first | exact Or.inl rfl | exact Or.inr rfl) (qe_call (g_common_divisor_2932.at hr (by decide)) rfl (qa_cons (qe_callB c_abs rfl b.f_abs bt_abs (qa_cons (qv 0) qa_nil)) (qa_cons (qe_callB c_abs rfl b.f_abs bt_abs (qa_cons (qv 1) qa_nil)) qa_nil))))
    (qss_cons (qs_if (qt_cmp o_lt (qv 1) qe_int (nomark _)) (qss_one (qs_set (i := 2) nd rfl (by first | exact Or.inl rfl | exact Or.inr rfl) (qe_bin o_sub qe_int (qv 2)))) qss_nil)
    (qss_one (qs_ret (qe_tup (qa_cons (qe_bin o_fdiv (qv 0) (qv 2)) (qa_cons (qe_bin o_fdiv (qv 1) (qv 2)) qa_nil)))))))), p_make_fraction_15f7⟩
theorem sc_rate_row_d172 : FnScope ["row", "found", "size", "total", "weight"] ["row"] (defScope st_rate_row_d172) := ⟨rfl, rfl, rfl, by decide +kernel, rfl, by decide +kernel, by decide +kernel⟩
theorem ok_rate_row_d172 {f fd} (b : Bi K mg) (g_pool_row_f687 : Glo P w K mg base "pool_row" 1 (spP K (sp_pool_row_f687)) 2) (g_make_fraction_15f7 : Glo P w K mg base "make_fraction" 2 (spP K (sp_make_fraction_15f7)) 2) (F : Fn K "rate_row" "rate_row" st_rate_row_d172 f fd) : FnOk P w K mg base CX0 3 f fd ["row"] (spP K sp_rate_row_d172) :=
  okP F sc_rate_row_d172 len_rate_row_d172 ⟨t_rate_row_d172, fun cdv A outer s H E hr => by
    have nd := sc_rate_row_d172.nd
    exact (qss_cons (qs_setOwn (i := 1) nd rfl (by first | exact Or.inl rfl | exact Or.inr rfl) (qf_lst qa_nil))
    (qss_cons (qs_for PassesOwn.never rfl (qi_seq (qe_call (g_pool_row_f687.at hr (by decide)) rfl (qa_cons (qv 0) qa_nil))) (qg_tup rfl (qgs_cons (qg_name nd rfl (by first | exact Or.inl rfl | exact Or.inr rfl)) (qgs_cons (qg_name nd rfl (by first | exact Or.inl rfl | exact Or.inr rfl)) (qgs_cons (qg_name nd rfl (by first | exact Or.inl rfl | exact Or.inr rfl)) qgs_nil)))) (qss_one (qs_expr (qe_extend (pv 1) (qf_bin o_mulF (qe_set (qf_lst (qa_cons (qe_call (g_make_fraction_15f7.at hr (by decide)) rfl (qa_cons (qv 3) (qa_cons (qv 4) qa_nil))) qa_nil))) (qv 2))))))
    (qss_one (qs_ret (qe_callTy c_tuple rfl b.f_tuple bt_tuple (qa_cons (qv 1) qa_nil)))))), p_rate_row_d172⟩
theorem sc_equal_17a7 : FnScope ["_law_one_here", "_law_other", "_law_a", "_law_b"] ["_law_one_here", "_law_other"] (defScope st_equal_17a7) := ⟨rfl, rfl, rfl, by decide +kernel, rfl, by decide +kernel, by decide +kernel⟩
theorem ok_equal_17a7 {f fd} {k : Nat} {s s1 : Spec0} (hk : 1 ≤ k) (ln : ∀ ds R, s1 ds R → ds.length = 2) (pp : ∀ ds R, s1 ds R → t_equal_17a7 s { nx := fun _ => R .non, rt := fun d _ => R d } ⟨startL 4 ds, ()⟩) (g_self : Glo P w K mg base "_law_equal" 2 (spP K s) k) (b : Bi K mg) (F : Fn K "_law_equal" "_law_equal" st_equal_17a7 f fd) : FnOk P w K mg base CX0 (k + 1) f fd ["_law_one_here", "_law_other"] (spP K s1) :=
  okP F sc_equal_17a7 ln ⟨t_equal_17a7 s, fun cdv A outer s H E hr => by
    have nd := sc_equal_17a7.nd
    exact (qss_cons (qs_if (PW.pt (qw_and (qt_val (qe_isi (by decide) (qv 0) rfl b.f_isinstance rfl b.f_tuple bt_tuple)) (qw_and1 (qt_val (qe_isi (by decide) (qv 1) rfl b.f_isinstance rfl b.f_tuple bt_tuple))))) (qss_one (qs_ret (qe_and (qe_cmp (o_eq hr) (qe_callB c_len rfl b.f_len bt_len (qa_cons (qv 0) qa_nil)) (qe_callB c_len rfl b.f_len bt_len (qa_cons (qv 1) qa_nil)) (nomark _)) (qe_one (qe_callB (c_all rfl) rfl b.f_all bt_all (qa_cons (qe_set (qf_lc rfl nd (qi_zip rfl b.f_zip (qa_cons (qv 0) (qa_cons (qv 1) qa_nil))) (own := [("_law_a", 2), ("_law_b", 3)]) (blkOk_by (by kernel_rfl)) (by decide) (fun _ _ _ _ _ => (qg_tup rfl (qgs_cons (qg_name nd rfl (by first | exact Or.inl rfl | exact Or.inr rfl)) (qgs_cons (qg_name nd rfl (by first | exact Or.inl rfl | exact Or.inr rfl)) qgs_nil)))) (fun _ _ _ _ _ => qts_nil) (fun _ _ _ _ _ => (qe_call (g_self.at hr (Nat.le_refl _)) rfl (qa_cons (qv 2) (qa_cons (qv 3) qa_nil)))))) qa_nil)))))) qss_nil)
    (qss_cons (qs_if (PW.pt (qw_or (qt_val (qe_isi (by decide) (qv 0) rfl b.f_isinstance rfl b.f_bool bt_bool)) (qw_and1 (qt_val (qe_isi (by decide) (qv 1) rfl b.f_isinstance rfl b.f_bool bt_bool))))) (qss_one (qs_ret (qe_and (qe_isi (by decide) (qv 0) rfl b.f_isinstance rfl b.f_bool bt_bool) (qe_and (qe_isi (by decide) (qv 1) rfl b.f_isinstance rfl b.f_bool bt_bool) (qe_one (qe_cmp (o_eq hr) (qv 0) (qv 1) (nomark _))))))) qss_nil)
    (qss_cons (qs_if (qt_cmp (o_ne hr) (qe_isi (by decide) (qv 0) rfl b.f_isinstance rfl b.f_tuple bt_tuple) (qe_isi (by decide) (qv 1) rfl b.f_isinstance rfl b.f_tuple bt_tuple) (nomark _)) (qss_one (qs_ret qe_bl)) qss_nil)
    (qss_cons (qs_if (qt_cmp (o_ne hr) (qe_isi (by decide) (qv 0) rfl b.f_isinstance rfl b.f_int bt_int) (qe_isi (by decide) (qv 1) rfl b.f_isinstance rfl b.f_int bt_int) (nomark _)) (qss_one (qs_ret qe_bl)) qss_nil)
    (qss_one (qs_ret (qe_and (qe_cmp (o_eq hr) (qe_isi (by decide) (qv 0) rfl b.f_isinstance rfl b.f_str bt_str) (qe_isi (by decide) (qv 1) rfl b.f_isinstance rfl b.f_str bt_str) (nomark _)) (qe_one (qe_cmp (o_eq hr) (qv 0) (qv 1) (nomark _)))))))))), pp⟩
theorem sc_all_groups_7d0b : FnScope ["items", "found", "item", "group"] ["items"] (defScope st_all_groups_7d0b) := ⟨rfl, rfl, rfl, by decide +kernel, rfl, by decide +kernel, by decide +kernel⟩
theorem ok_all_groups_7d0b {f fd} (b : Bi K mg) (F : Fn K "all_groups" "all_groups" st_all_groups_7d0b f fd) : FnOk P w K mg base CX0 1 f fd ["items"] (spP K sp_all_groups_7d0b) :=
  okP F sc_all_groups_7d0b len_all_groups_7d0b ⟨t_all_groups_7d0b, fun cdv A outer s H E hr => by
    have nd := sc_all_groups_7d0b.nd
    exact (qss_cons (qs_set (i := 1) nd rfl (by first | exact Or.inl rfl | exact Or.inr rfl) (qe_set (qf_lst (qa_cons (qe_tup qa_nil) qa_nil))))
    (qss_cons (qs_for PassesOwn.never rfl (qi_seq (qv 0)) (qg_name nd rfl (by first | exact Or.inl rfl | exact Or.inr rfl)) (qss_one (qs_set (i := 1) nd rfl (by first | exact Or.inl rfl | exact Or.inr rfl) (qe_bin o_add (qv 1) (qe_set (qf_lc rfl nd (qi_seq (qv 1)) (own := [("group", 3)]) (blkOk_by (by kernel_rfl)) (by decide) (fun _ _ _ _ _ => (qg_name nd rfl (by first | exact Or.inl rfl | exact Or.inr rfl))) (fun _ _ _ _ _ => qts_nil) (fun _ _ _ _ _ => (qe_bin o_add (qv 3) (qe_tup (qa_cons (qv 2) qa_nil))))))))))
    (qss_one (qs_ret (qe_set (qf_callB (c_sortedT hr) rfl b.f_sorted bt_sorted (qa_cons (qv 1) qa_nil))))))), p_all_groups_7d0b⟩
theorem sc_is_integer_8a5f : FnScope ["value"] ["value"] (defScope st_is_integer_8a5f) := ⟨rfl, rfl, rfl, by decide +kernel, rfl, by decide +kernel, by decide +kernel⟩
theorem ok_is_integer_8a5f {f fd} (b : Bi K mg) (F : Fn K "is_integer" "is_integer" st_is_integer_8a5f f fd) : FnOk P w K mg base CX0 1 f fd ["value"] (spP K sp_is_integer_8a5f) :=
  okP F sc_is_integer_8a5f len_is_integer_8a5f ⟨t_is_integer_8a5f, fun cdv A outer s H E hr => by
    have nd := sc_is_integer_8a5f.nd
    exact (qss_one (qs_ret (qe_and (qe_isi (by decide) (qv 0) rfl b.f_isinstance rfl b.f_int bt_int) (qe_one (qe_not (qe_isi (by decide) (qv 0) rfl b.f_isinstance rfl b.f_bool bt_bool)))))), p_is_integer_8a5f⟩
theorem sc_is_within_3133 : FnScope ["value", "low", "high"] ["value", "low", "high"] (defScope st_is_within_3133) := ⟨rfl, rfl, rfl, by decide +kernel, rfl, by decide +kernel, by decide +kernel⟩
theorem ok_is_within_3133 {f fd} (b : Bi K mg) (g_is_integer_8a5f : Glo P w K mg base "is_integer" 1 (spP K (sp_is_integer_8a5f)) 1) (F : Fn K "is_within" "is_within" st_is_within_3133 f fd) : FnOk P w K mg base CX0 2 f fd ["value", "low", "high"] (spP K sp_is_within_3133) :=
  okP F sc_is_within_3133 len_is_within_3133 ⟨t_is_within_3133, fun cdv A outer s H E hr => by
    have nd := sc_is_within_3133.nd
    exact (qss_one (qs_ret (qe_and (qe_call (g_is_integer_8a5f.at hr (by decide)) rfl (qa_cons (qv 0) qa_nil)) (qe_one (qe_chain o_le o_le (qv 1) (qv 0) (qv 2)))))), p_is_within_3133⟩
theorem sc_is_group_a50b : FnScope ["panel", "value", "item", "one", "other"] ["panel", "value"] (defScope st_is_group_a50b) := ⟨rfl, rfl, rfl, by decide +kernel, rfl, by decide +kernel, by decide +kernel⟩
theorem ok_is_group_a50b {f fd} (b : Bi K mg) (g_is_within_3133 : Glo P w K mg base "is_within" 3 (spP K (sp_is_within_3133)) 2) (F : Fn K "is_group" "is_group" st_is_group_a50b f fd) : FnOk P w K mg base CX0 3 f fd ["panel", "value"] (spP K sp_is_group_a50b) :=
  okP F sc_is_group_a50b len_is_group_a50b ⟨t_is_group_a50b, fun cdv A outer s H E hr => by
    have nd := sc_is_group_a50b.nd
    exact (qss_cons (qs_if (PW.pt (qw_or (qt_not (qt_val (qe_isi (by decide) (qv 1) rfl b.f_isinstance rfl b.f_tuple bt_tuple))) (qw_and1 (qt_not (qt_val (qe_callB (c_all rfl) rfl b.f_all bt_all (qa_cons (qe_set (qf_lc rfl nd (qi_seq (qv 1)) (own := [("item", 2)]) (blkOk_by (by kernel_rfl)) (by decide) (fun _ _ _ _ _ => (qg_name nd rfl (by first | exact Or.inl rfl | exact Or.inr rfl))) (fun _ _ _ _ _ => qts_nil) (fun _ _ _ _ _ => (qe_call (g_is_within_3133.at hr (by decide)) rfl (qa_cons (qv 2) (qa_cons qe_int (qa_cons (qe_bin o_sub (qe_callB c_len rfl b.f_len bt_len (qa_cons (qe_ix (qv 0) qe_int) qa_nil)) qe_int) qa_nil))))))) qa_nil))))))) (qss_one (qs_ret qe_bl)) qss_nil)
    (qss_one (qs_ret (qe_callB (c_all rfl) rfl b.f_all bt_all (qa_cons (qe_set (qf_lc rfl nd (qi_zip rfl b.f_zip (qa_cons (qv 1) (qa_cons (qe_slice (qv 1) (qo_some qe_int) qo_none) qa_nil))) (own := [("one", 3), ("other", 4)]) (blkOk_by (by kernel_rfl)) (by decide) (fun _ _ _ _ _ => (qg_tup rfl (qgs_cons (qg_name nd rfl (by first | exact Or.inl rfl | exact Or.inr rfl)) (qgs_cons (qg_name nd rfl (by first | exact Or.inl rfl | exact Or.inr rfl)) qgs_nil)))) (fun _ _ _ _ _ => qts_nil) (fun _ _ _ _ _ => (qe_cmp o_lt (qv 3) (qv 4) (nomark _))))) qa_nil))))), p_is_group_a50b⟩
theorem sc_is_upward_11cd : FnScope ["panel", "value", "low", "high"] ["panel", "value"] (defScope st_is_upward_11cd) := ⟨rfl, rfl, rfl, by decide +kernel, rfl, by decide +kernel, by decide +kernel⟩
theorem ok_is_upward_11cd {f fd} (b : Bi K mg) (g_is_group_a50b : Glo P w K mg base "is_group" 2 (spP K (sp_is_group_a50b)) 3) (F : Fn K "is_upward" "is_upward" st_is_upward_11cd f fd) : FnOk P w K mg base CX0 4 f fd ["panel", "value"] (spP K sp_is_upward_11cd) :=
  okP F sc_is_upward_11cd len_is_upward_11cd ⟨t_is_upward_11cd, fun cdv A outer s H E hr => by
    have nd := sc_is_upward_11cd.nd
    exact (qss_cons (qs_if (qt_not (qt_val (qe_call (g_is_group_a50b.at hr (by decide)) rfl (qa_cons (qv 0) (qa_cons (qv 1) qa_nil))))) (qss_one (qs_ret qe_bl)) qss_nil)
    (qss_one (qs_ret (qe_callB (c_all rfl) rfl b.f_all bt_all (qa_cons (qe_set (qf_lc rfl nd (qi_seq (qe_ix (qv 0) qe_int)) (own := [("low", 2), ("high", 3)]) (blkOk_by (by kernel_rfl)) (by decide) (fun _ _ _ _ _ => (qg_tup rfl (qgs_cons (qg_name nd rfl (by first | exact Or.inl rfl | exact Or.inr rfl)) (qgs_cons (qg_name nd rfl (by first | exact Or.inl rfl | exact Or.inr rfl)) qgs_nil)))) (fun _ _ _ _ _ => qts_nil) (fun _ _ _ _ _ => (qe_or (qe_cmp (o_in hr) (qv 3) (qv 1) (by rfl)) (qe_one (qe_cmp (o_notIn hr) (qv 2) (qv 1) (by rfl))))))) qa_nil))))), p_is_upward_11cd⟩
theorem sc_upward_sets_3622 : FnScope ["panel", "group"] ["panel"] (defScope st_upward_sets_3622) := ⟨rfl, rfl, rfl, by decide +kernel, rfl, by decide +kernel, by decide +kernel⟩
theorem ok_upward_sets_3622 {f fd} (b : Bi K mg) (g_all_groups_7d0b : Glo P w K mg base "all_groups" 1 (spP K (sp_all_groups_7d0b)) 1) (g_is_upward_11cd : Glo P w K mg base "is_upward" 2 (spP K (sp_is_upward_11cd)) 4) (F : Fn K "upward_sets" "upward_sets" st_upward_sets_3622 f fd) : FnOk P w K mg base CX0 5 f fd ["panel"] (spP K sp_upward_sets_3622) :=
  okP F sc_upward_sets_3622 len_upward_sets_3622 ⟨t_upward_sets_3622, fun cdv A outer s H E hr => by
    have nd := sc_upward_sets_3622.nd
    exact (qss_one (qs_ret (qe_callTy c_tuple rfl b.f_tuple bt_tuple (qa_cons (qe_set (qf_lc rfl nd (qi_seq (qe_call (g_all_groups_7d0b.at hr (by decide)) rfl (qa_cons (qe_set (qf_lstRg1 rfl rfl b.f_list rfl b.f_range (qe_callB c_len rfl b.f_len bt_len (qa_cons (qe_ix (qv 0) qe_int) qa_nil)))) qa_nil))) (own := [("group", 1)]) (blkOk_by (by kernel_rfl)) (by decide) (fun _ _ _ _ _ => (qg_name nd rfl (by first | exact Or.inl rfl | exact Or.inr rfl))) (fun _ _ _ _ _ => (qts_one (qt_val (qe_call (g_is_upward_11cd.at hr (by decide)) rfl (qa_cons (qv 0) (qa_cons (qv 1) qa_nil)))))) (fun _ _ _ _ _ => (qv 1)))) qa_nil)))), p_upward_sets_3622⟩
theorem sc_sums_of_9763 : FnScope ["panel", "group", "items", "item", "mark", "weight"] ["panel", "group"] (defScope st_sums_of_9763) := ⟨rfl, rfl, rfl, by decide +kernel, rfl, by decide +kernel, by decide +kernel⟩
theorem ok_sums_of_9763 {f fd} (b : Bi K mg) (F : Fn K "sums_of" "sums_of" st_sums_of_9763 f fd) : FnOk P w K mg base CX0 1 f fd ["panel", "group"] (spP K sp_sums_of_9763) :=
  okP F sc_sums_of_9763 len_sums_of_9763 ⟨t_sums_of_9763, fun cdv A outer s H E hr => by
    have nd := sc_sums_of_9763.nd
    exact (qss_cons (qs_lc rfl nd rfl rfl rfl (qi_seq (qv 1)) (own := [("item", 3)]) (blkOk_by (by kernel_rfl)) (by decide) (fun _ _ _ _ _ => (qg_name nd rfl (by first | exact Or.inl rfl | exact Or.inr rfl))) (fun _ _ _ _ _ => qts_nil) (fun _ _ _ _ _ => (qe_ix (qe_ix (qv 0) qe_int) (qv 3))))
    (qss_one (qs_ret (qe_tup (qa_cons (qe_callB (c_sum rfl) rfl b.f_sum bt_sum (qa_cons (qe_set (qf_lc rfl nd (qi_seq (qv 2)) (own := [("mark", 4), ("weight", 5)]) (blkOk_by (by kernel_rfl)) (by decide) (fun _ _ _ _ _ => (qg_tup rfl (qgs_cons (qg_name nd rfl (by first | exact Or.inl rfl | exact Or.inr rfl)) (qgs_cons (qg_name nd rfl (by first | exact Or.inl rfl | exact Or.inr rfl)) qgs_nil)))) (fun _ _ _ _ _ => qts_nil) (fun _ _ _ _ _ => (qe_bin o_mul (qv 4) (qv 5))))) qa_nil)) (qa_cons (qe_callB (c_sum rfl) rfl b.f_sum bt_sum (qa_cons (qe_set (qf_lc rfl nd (qi_seq (qv 2)) (own := [("mark", 4), ("weight", 5)]) (blkOk_by (by kernel_rfl)) (by decide) (fun _ _ _ _ _ => (qg_tup rfl (qgs_cons (qg_name nd rfl (by first | exact Or.inl rfl | exact Or.inr rfl)) (qgs_cons (qg_name nd rfl (by first | exact Or.inl rfl | exact Or.inr rfl)) qgs_nil)))) (fun _ _ _ _ _ => qts_nil) (fun _ _ _ _ _ => (qv 5)))) qa_nil)) qa_nil)))))), p_sums_of_9763⟩
theorem sc_upper_part_65f2 : FnScope ["panel", "closed", "part", "total", "weight", "found", "most", "group", "some", "own_total", "own_weight", "excess", "item"] ["panel", "closed", "part"] (defScope st_upper_part_65f2) := ⟨rfl, rfl, rfl, by decide +kernel, rfl, by decide +kernel, by decide +kernel⟩
theorem ok_upper_part_65f2 {f fd} (b : Bi K mg) (g_sums_of_9763 : Glo P w K mg base "sums_of" 2 (spP K (sp_sums_of_9763)) 1) (F : Fn K "upper_part" "upper_part" st_upper_part_65f2 f fd) : FnOk P w K mg base CX0 2 f fd ["panel", "closed", "part"] (spP K sp_upper_part_65f2) :=
  okP F sc_upper_part_65f2 len_upper_part_65f2 ⟨t_upper_part_65f2, fun cdv A outer s H E hr => by
    have nd := sc_upper_part_65f2.nd
    exact (qss_cons (qs_setT (qe_call (g_sums_of_9763.at hr (by decide)) rfl (qa_cons (qv 0) (qa_cons (qv 2) qa_nil))) (qg_tup rfl (qgs_cons (qg_name nd rfl (by first | exact Or.inl rfl | exact Or.inr rfl)) (qgs_cons (qg_name nd rfl (by first | exact Or.inl rfl | exact Or.inr rfl)) qgs_nil))))
    (qss_cons (qs_setT (qe_tup (qa_cons (qe_tup qa_nil) (qa_cons qe_int qa_nil))) (qg_tup rfl (qgs_cons (qg_name nd rfl (by first | exact Or.inl rfl | exact Or.inr rfl)) (qgs_cons (qg_name nd rfl (by first | exact Or.inl rfl | exact Or.inr rfl)) qgs_nil))))
    (qss_cons (qs_for PassesOwn.never rfl (qi_seq (qv 1)) (qg_name nd rfl (by first | exact Or.inl rfl | exact Or.inr rfl)) (qss_cons (qs_set (i := 8) nd rfl (by first | exact Or.inl rfl | exact Or.inr rfl) (qe_callTy c_tuple rfl b.f_tuple bt_tuple (qa_cons (qe_set (qf_lc rfl nd (qi_seq (qv 7)) (own := [("item", 12)]) (blkOk_by (by kernel_rfl)) (by decide) (fun _ _ _ _ _ => (qg_name nd rfl (by first | exact Or.inl rfl | exact Or.inr rfl))) (fun _ _ _ _ _ => (qts_one (qt_cmp (o_in hr) (qv 12) (qv 2) (by rfl)))) (fun _ _ _ _ _ => (qv 12)))) qa_nil)))
    (qss_cons (qs_setT (qe_call (g_sums_of_9763.at hr (by decide)) rfl (qa_cons (qv 0) (qa_cons (qv 8) qa_nil))) (qg_tup rfl (qgs_cons (qg_name nd rfl (by first | exact Or.inl rfl | exact Or.inr rfl)) (qgs_cons (qg_name nd rfl (by first | exact Or.inl rfl | exact Or.inr rfl)) qgs_nil))))
    (qss_cons (qs_set (i := 11) nd rfl (by first | exact Or.inl rfl | exact Or.inr rfl) (qe_bin o_sub (qe_bin o_mul (qv 9) (qv 4)) (qe_bin o_mul (qv 3) (qv 10))))
    (qss_one (qs_if (qt_cmp o_gt (qv 11) (qv 6) (nomark _)) (qss_one (qs_par rfl nd rfl rfl (by decide) rfl rfl (qa_cons (qv 8) (qa_cons (qv 11) qa_nil)) rfl)) qss_nil))))))
    (qss_one (qs_ret (qv 5)))))), p_upper_part_65f2⟩
theorem sc_average_of_ee61 : FnScope ["panel", "group", "items", "total", "item", "mark", "weight"] ["panel", "group"] (defScope st_average_of_ee61) := ⟨rfl, rfl, rfl, by decide +kernel, rfl, by decide +kernel, by decide +kernel⟩
theorem ok_average_of_ee61 {f fd} (b : Bi K mg) (g_make_fraction_15f7 : Glo P w K mg base "make_fraction" 2 (spP K (sp_make_fraction_15f7)) 2) (F : Fn K "average_of" "average_of" st_average_of_ee61 f fd) : FnOk P w K mg base CX0 3 f fd ["panel", "group"] (spP K sp_average_of_ee61) :=
  okP F sc_average_of_ee61 len_average_of_ee61 ⟨t_average_of_ee61, fun cdv A outer s H E hr => by
    have nd := sc_average_of_ee61.nd
    exact (qss_cons (qs_lc rfl nd rfl rfl rfl (qi_seq (qv 1)) (own := [("item", 4)]) (blkOk_by (by kernel_rfl)) (by decide) (fun _ _ _ _ _ => (qg_name nd rfl (by first | exact Or.inl rfl | exact Or.inr rfl))) (fun _ _ _ _ _ => qts_nil) (fun _ _ _ _ _ => (qe_ix (qe_ix (qv 0) qe_int) (qv 4))))
    (qss_cons (qs_set (i := 3) nd rfl (by first | exact Or.inl rfl | exact Or.inr rfl) (qe_callB (c_sum rfl) rfl b.f_sum bt_sum (qa_cons (qe_set (qf_lc rfl nd (qi_seq (qv 2)) (own := [("mark", 5), ("weight", 6)]) (blkOk_by (by kernel_rfl)) (by decide) (fun _ _ _ _ _ => (qg_tup rfl (qgs_cons (qg_name nd rfl (by first | exact Or.inl rfl | exact Or.inr rfl)) (qgs_cons (qg_name nd rfl (by first | exact Or.inl rfl | exact Or.inr rfl)) qgs_nil)))) (fun _ _ _ _ _ => qts_nil) (fun _ _ _ _ _ => (qe_bin o_mul (qv 5) (qv 6))))) qa_nil)))
    (qss_one (qs_ret (qe_call (g_make_fraction_15f7.at hr (by decide)) rfl (qa_cons (qv 3) (qa_cons (qe_callB (c_sum rfl) rfl b.f_sum bt_sum (qa_cons (qe_set (qf_lc rfl nd (qi_seq (qv 2)) (own := [("mark", 5), ("weight", 6)]) (blkOk_by (by kernel_rfl)) (by decide) (fun _ _ _ _ _ => (qg_tup rfl (qgs_cons (qg_name nd rfl (by first | exact Or.inl rfl | exact Or.inr rfl)) (qgs_cons (qg_name nd rfl (by first | exact Or.inl rfl | exact Or.inr rfl)) qgs_nil)))) (fun _ _ _ _ _ => qts_nil) (fun _ _ _ _ _ => (qv 6)))) qa_nil)) qa_nil))))))), p_average_of_ee61⟩
theorem sc_best_rating_b8e6 : FnScope ["panel", "closed", "found", "parts", "part", "upper", "item"] ["panel"] (defScope st_best_rating_b8e6) := ⟨rfl, rfl, rfl, by decide +kernel, rfl, by decide +kernel, by decide +kernel⟩
theorem ok_best_rating_b8e6 {f fd} (b : Bi K mg) (g_upward_sets_3622 : Glo P w K mg base "upward_sets" 1 (spP K (sp_upward_sets_3622)) 5) (g_upper_part_65f2 : Glo P w K mg base "upper_part" 3 (spP K (sp_upper_part_65f2)) 2) (g_average_of_ee61 : Glo P w K mg base "average_of" 2 (spP K (sp_average_of_ee61)) 3) (F : Fn K "best_rating" "best_rating" st_best_rating_b8e6 f fd) : FnOk P w K mg base CX0 6 f fd ["panel"] (spP K sp_best_rating_b8e6) :=
  okP F sc_best_rating_b8e6 len_best_rating_b8e6 ⟨t_best_rating_b8e6, fun cdv A outer s H E hr => by
    have nd := sc_best_rating_b8e6.nd
    exact (qss_cons (qs_set (i := 1) nd rfl (by first | exact Or.inl rfl | exact Or.inr rfl) (qe_call (g_upward_sets_3622.at hr (by decide)) rfl (qa_cons (qv 0) qa_nil)))
    (qss_cons (qs_setOwn (i := 2) nd rfl (by first | exact Or.inl rfl | exact Or.inr rfl) (qf_bin o_mulF (qe_set (qf_lst (qa_cons qe_non qa_nil))) (qe_callB c_len rfl b.f_len bt_len (qa_cons (qe_ix (qv 0) qe_int) qa_nil))))
    (qss_cons (qs_setOwn (i := 3) nd rfl (by first | exact Or.inl rfl | exact Or.inr rfl) (qf_lst (qa_cons (qe_tupRg1 rfl rfl b.f_tuple rfl b.f_range (qe_callB c_len rfl b.f_len bt_len (qa_cons (qe_ix (qv 0) qe_int) qa_nil))) qa_nil)))
    (qss_cons (qs_while PassesOwn.never (qt_cmpN1 (b_ne hr) (pv 3) (qe_set (qf_lst qa_nil)) (nomark _)) (qss_cons (qs_set (i := 4) nd rfl (by first | exact Or.inl rfl | exact Or.inr rfl) (qe_pop (pv 3)))
    (qss_cons (qs_set (i := 5) nd rfl (by first | exact Or.inl rfl | exact Or.inr rfl) (qe_call (g_upper_part_65f2.at hr (by decide)) rfl (qa_cons (qv 0) (qa_cons (qv 1) (qa_cons (qv 4) qa_nil)))))
    (qss_one (qs_if (qt_cmp (o_eq hr) (qv 5) (qe_tup qa_nil) (nomark _)) (qss_one (qs_for PassesOwn.never rfl (qi_seq (qv 4)) (qg_name nd rfl (by first | exact Or.inl rfl | exact Or.inr rfl)) (qss_one (qs_setItem (qe_call (g_average_of_ee61.at hr (by decide)) rfl (qa_cons (qv 0) (qa_cons (qv 4) qa_nil))) (pv 2) (qv 6) rfl rfl rfl (fun _ => rfl))))) (qss_one (qs_expr (qe_extend (pv 3) (qf_lst (qa_cons (qv 5) (qa_cons (qe_callTy c_tuple rfl b.f_tuple bt_tuple (qa_cons (qe_set (qf_lc rfl nd (qi_seq (qv 4)) (own := [("item", 6)]) (blkOk_by (by kernel_rfl)) (by decide) (fun _ _ _ _ _ => (qg_name nd rfl (by first | exact Or.inl rfl | exact Or.inr rfl))) (fun _ _ _ _ _ => (qts_one (qt_cmp (o_notIn hr) (qv 6) (qv 5) (by rfl)))) (fun _ _ _ _ _ => (qv 6)))) qa_nil)) qa_nil)))))))))))
    (qss_one (qs_ret (qe_callTy c_tuple rfl b.f_tuple bt_tuple (qa_cons (qv 2) qa_nil)))))))), p_best_rating_b8e6⟩
theorem sc_level_groups_d0a5 : FnScope ["panel", "rating", "common", "numerator", "denominator", "values", "levels", "rank", "value", "item", "own"] ["panel"] (defScope st_level_groups_d0a5) := ⟨rfl, rfl, rfl, by decide +kernel, rfl, by decide +kernel, by decide +kernel⟩
theorem ok_level_groups_d0a5 {f fd} (b : Bi K mg) (g_best_rating_b8e6 : Glo P w K mg base "best_rating" 1 (spP K (sp_best_rating_b8e6)) 6) (F : Fn K "level_groups" "level_groups" st_level_groups_d0a5 f fd) : FnOk P w K mg base CX0 7 f fd ["panel"] (spP K sp_level_groups_d0a5) :=
  okP F sc_level_groups_d0a5 len_level_groups_d0a5 ⟨t_level_groups_d0a5, fun cdv A outer s H E hr => by
    have nd := sc_level_groups_d0a5.nd
    exact (qss_cons (qs_set (i := 1) nd rfl (by first | exact Or.inl rfl | exact Or.inr rfl) (qe_call (g_best_rating_b8e6.at hr (by decide)) rfl (qa_cons (qv 0) qa_nil)))
    (qss_cons (qs_set (i := 2) nd rfl (by first | exact Or.inl rfl | exact Or.inr rfl) qe_int)
    (qss_cons (qs_for PassesOwn.never rfl (qi_seq (qv 1)) (qg_tup rfl (qgs_cons (qg_name nd rfl (by first | exact Or.inl rfl | exact Or.inr rfl)) (qgs_cons (qg_name nd rfl (by first | exact Or.inl rfl | exact Or.inr rfl)) qgs_nil))) (qss_one (qs_aug (i := 2) o_imul nd rfl (by first | exact Or.inl rfl | exact Or.inr rfl) (qv 4))))
    (qss_cons (qs_set (i := 5) nd rfl (by first | exact Or.inl rfl | exact Or.inr rfl) (qe_set (qf_sortSet3 hr rfl rfl b.f_sorted rfl b.f_set (qe_set (qf_lc rfl nd (qi_seq (qv 1)) (own := [("numerator", 3), ("denominator", 4)]) (blkOk_by (by kernel_rfl)) (by decide) (fun _ _ _ _ _ => (qg_tup rfl (qgs_cons (qg_name nd rfl (by first | exact Or.inl rfl | exact Or.inr rfl)) (qgs_cons (qg_name nd rfl (by first | exact Or.inl rfl | exact Or.inr rfl)) qgs_nil)))) (fun _ _ _ _ _ => qts_nil) (fun _ _ _ _ _ => (qe_tup (qa_cons (qe_bin o_mul (qv 3) (qe_bin o_fdiv (qv 2) (qv 4))) (qa_cons (qe_tup (qa_cons (qv 3) (qa_cons (qv 4) qa_nil))) qa_nil)))))))))
    (qss_cons (qs_setOwn (i := 6) nd rfl (by first | exact Or.inl rfl | exact Or.inr rfl) (qf_lst qa_nil))
    (qss_cons (qs_for PassesOwn.never rfl (qi_seq (qv 5)) (qg_tup rfl (qgs_cons (qg_name nd rfl (by first | exact Or.inl rfl | exact Or.inr rfl)) (qgs_cons (qg_name nd rfl (by first | exact Or.inl rfl | exact Or.inr rfl)) qgs_nil))) (qss_one (qs_expr (qe_append (pv 6) (qe_tup (qa_cons (qv 8) (qa_cons (qe_callTy c_tuple rfl b.f_tuple bt_tuple (qa_cons (qe_set (qf_lc rfl nd (qi_enum rfl b.f_enumerate (qa_cons (qv 1) qa_nil)) (own := [("item", 9), ("own", 10)]) (blkOk_by (by kernel_rfl)) (by decide) (fun _ _ _ _ _ => (qg_tup rfl (qgs_cons (qg_name nd rfl (by first | exact Or.inl rfl | exact Or.inr rfl)) (qgs_cons (qg_name nd rfl (by first | exact Or.inl rfl | exact Or.inr rfl)) qgs_nil)))) (fun _ _ _ _ _ => (qts_one (qt_cmp (o_eq hr) (qv 10) (qv 8) (nomark _)))) (fun _ _ _ _ _ => (qv 9)))) qa_nil)) qa_nil)))))))
    (qss_one (qs_ret (qe_callTy c_tuple rfl b.f_tuple bt_tuple (qa_cons (qv 6) qa_nil)))))))))), p_level_groups_d0a5⟩
theorem sc_levels_1e0b : FnScope ["_law_rating", "_law_found", "_law_item", "_law_value"] ["_law_rating"] (defScope st_levels_1e0b) := ⟨rfl, rfl, rfl, by decide +kernel, rfl, by decide +kernel, by decide +kernel⟩
theorem ok_levels_1e0b {f fd} (b : Bi K mg) (F : Fn K "_law_levels" "_law_levels" st_levels_1e0b f fd) : FnOk P w K mg base CX0 1 f fd ["_law_rating"] (spP K sp_levels_1e0b) :=
  okP F sc_levels_1e0b len_levels_1e0b ⟨t_levels_1e0b, fun cdv A outer s H E hr => by
    have nd := sc_levels_1e0b.nd
    exact (qss_cons (qs_setOwn (i := 1) nd rfl (by first | exact Or.inl rfl | exact Or.inr rfl) (qf_lst qa_nil))
    (qss_cons (qs_for PassesOwn.never rfl (qi_enum rfl b.f_enumerate (qa_cons (qv 0) qa_nil)) (qg_tup rfl (qgs_cons (qg_name nd rfl (by first | exact Or.inl rfl | exact Or.inr rfl)) (qgs_cons (qg_name nd rfl (by first | exact Or.inl rfl | exact Or.inr rfl)) qgs_nil))) (qss_one (qs_if (PW.pt (qw_and (qt_cmpN1 (b_ne hr) (pv 1) (qe_set (qf_lst qa_nil)) (nomark _)) (qw_and1 (qt_cmp (o_eq hr) (qe_ix (qe_ixN (pv 1) (qe_un o_neg qe_int)) qe_int) (qv 3) (nomark _))))) (qss_one (qs_setItem (qe_tup (qa_cons (qv 3) (qa_cons (qe_bin o_add (qe_ix (qe_ixN (pv 1) (qe_un o_neg qe_int)) qe_int) (qe_tup (qa_cons (qv 2) qa_nil))) qa_nil))) (pv 1) (qe_un o_neg qe_int) rfl rfl rfl (fun _ => rfl))) (qss_one (qs_expr (qe_append (pv 1) (qe_tup (qa_cons (qv 3) (qa_cons (qe_tup (qa_cons (qv 2) qa_nil)) qa_nil)))))))))
    (qss_one (qs_ret (qe_callTy c_tuple rfl b.f_tuple bt_tuple (qa_cons (qv 1) qa_nil)))))), p_levels_1e0b⟩
theorem sc_panel_right_9357 : FnScope ["_law_row_here", "_law_panel", "_law_rating", "_law_item"] ["_law_row_here"] (defScope st_panel_right_9357) := ⟨rfl, rfl, rfl, by decide +kernel, rfl, by decide +kernel, by decide +kernel⟩
theorem ok_panel_right_9357 {f fd} (b : Bi K mg) (g_rate_row_d172 : Glo P w K mg base "rate_row" 1 (spP K (sp_rate_row_d172)) 3) (g_equal_17a7 : Glo P w K mg base "_law_equal" 2 (spP K (sp_equal_17a7 24)) 25) (g_level_groups_d0a5 : Glo P w K mg base "level_groups" 1 (spP K (sp_level_groups_d0a5)) 7) (g_levels_1e0b : Glo P w K mg base "_law_levels" 1 (spP K (sp_levels_1e0b)) 1) (g_best_rating_b8e6 : Glo P w K mg base "best_rating" 1 (spP K (sp_best_rating_b8e6)) 6) (F : Fn K "_law_panel_right" "_law_panel_right" st_panel_right_9357 f fd) : FnOk P w K mg base CX0 26 f fd ["_law_row_here"] (spP K sp_panel_right_9357) :=
  okP F sc_panel_right_9357 len_panel_right_9357 ⟨t_panel_right_9357, fun cdv A outer s H E hr => by
    have nd := sc_panel_right_9357.nd
    exact (qss_cons (qs_set (i := 1) nd rfl (by first | exact Or.inl rfl | exact Or.inr rfl) (qe_tup (qa_cons (qv 0) (qa_cons (qe_callTy c_tuple rfl b.f_tuple bt_tuple (qa_cons (qe_set (qf_lc rfl nd (qi_range1 rfl b.f_range (qa_cons (qe_bin o_sub (qe_callB c_len rfl b.f_len bt_len (qa_cons (qv 0) qa_nil)) qe_int) qa_nil)) (own := [("_law_item", 3)]) (blkOk_by (by kernel_rfl)) (by decide) (fun _ _ _ _ _ => (qg_name nd rfl (by first | exact Or.inl rfl | exact Or.inr rfl))) (fun _ _ _ _ _ => qts_nil) (fun _ _ _ _ _ => (qe_tup (qa_cons (qv 3) (qa_cons (qe_bin o_add (qv 3) qe_int) qa_nil)))))) qa_nil)) qa_nil))))
    (qss_cons (qs_set (i := 2) nd rfl (by first | exact Or.inl rfl | exact Or.inr rfl) (qe_call (g_rate_row_d172.at hr (by decide)) rfl (qa_cons (qv 0) qa_nil)))
    (qss_cons (qs_if (qt_not (qt_val (qe_call (g_equal_17a7.at hr (by decide)) rfl (qa_cons (qe_call (g_best_rating_b8e6.at hr (by decide)) rfl (qa_cons (qv 1) qa_nil)) (qa_cons (qv 2) qa_nil))))) (qss_one (qs_ret qe_bl)) qss_nil)
    (qss_one (qs_ret (qe_call (g_equal_17a7.at hr (by decide)) rfl (qa_cons (qe_call (g_level_groups_d0a5.at hr (by decide)) rfl (qa_cons (qv 1) qa_nil)) (qa_cons (qe_call (g_levels_1e0b.at hr (by decide)) rfl (qa_cons (qv 2) qa_nil)) qa_nil)))))))), p_panel_right_9357⟩
theorem sc_lowest_ba06 : FnScope ["_law_numerator", "_law_denominator", "_law_one_here", "_law_other"] ["_law_numerator", "_law_denominator"] (defScope st_lowest_ba06) := ⟨rfl, rfl, rfl, by decide +kernel, rfl, by decide +kernel, by decide +kernel⟩
theorem ok_lowest_ba06 {f fd} (b : Bi K mg) (F : Fn K "_law_lowest" "_law_lowest" st_lowest_ba06 f fd) : FnOk P w K mg base CX0 1 f fd ["_law_numerator", "_law_denominator"] (spP K sp_lowest_ba06) :=
  okP F sc_lowest_ba06 len_lowest_ba06 ⟨t_lowest_ba06, fun cdv A outer s H E hr => by
    have nd := sc_lowest_ba06.nd
    exact (qss_cons (qs_par rfl nd rfl rfl (by decide) rfl rfl (qa_cons (qe_callB c_abs rfl b.f_abs bt_abs (qa_cons (qv 0) qa_nil)) (qa_cons (qv 1) qa_nil)) rfl)
    (qss_cons (qs_while PassesOwn.never (qt_cmp o_gt (qv 3) qe_int (nomark _)) (qss_one (qs_par rfl nd rfl rfl (by decide) rfl rfl (qa_cons (qv 3) (qa_cons (qe_bin o_mod (qv 2) (qv 3)) qa_nil)) rfl)))
    (qss_one (qs_ret (qe_tup (qa_cons (qe_bin o_fdiv (qv 0) (qv 2)) (qa_cons (qe_bin o_fdiv (qv 1) (qv 2)) qa_nil))))))), p_lowest_ba06⟩
theorem sc_parts_right_afa2 : FnScope ["_law_drawn", "_law_row_here", "_law_rating", "_law_blocks", "_law_cut", "_law_at", "_law_size_here", "_law_total", "_law_weight", "_law_group", "_law_one_here", "_law_other", "_law_value"] ["_law_drawn", "_law_row_here"] (defScope st_parts_right_afa2) := ⟨rfl, rfl, rfl, by decide +kernel, rfl, by decide +kernel, by decide +kernel⟩
theorem ok_parts_right_afa2 {f fd} {r c q : Addr} (b : Bi K mg) (g_rate_row_d172 : Glo P w K mg base "rate_row" 1 (spP K (sp_rate_row_d172)) 3) (g_pool_row_f687 : Glo P w K mg base "pool_row" 1 (spP K (sp_pool_row_f687)) 2) (g_equal_17a7 : Glo P w K mg base "_law_equal" 2 (spP K (sp_equal_17a7 24)) 25) (g_next : ∀ r c q, Glo P w K mg base "_law_next" 2 (spG (gr K r c q) (nextS r)) 1) (g_lowest_ba06 : Glo P w K mg base "_law_lowest" 2 (spP K (sp_lowest_ba06)) 1) (F : Fn K "_law_parts_right" "_law_parts_right" st_parts_right_afa2 f fd) : FnOk P w K mg base CX0 26 f fd ["_law_drawn", "_law_row_here"] (spG (gr K r c q) (sp_parts_right_afa2 r)) :=
  okG (P := P) (w := w) (mg := mg) (base := base) (G := gr K r c q) (k := 25) rfl F sc_parts_right_afa2 (len_parts_right_afa2 r) ⟨t_parts_right_afa2 r, fun cdv A outer s H E hr => by
    have nd := sc_parts_right_afa2.nd
    exact (qss_cons (qs_par rfl nd rfl rfl (by decide) rfl rfl (qa_cons (qe_call (g_rate_row_d172.at hr (by decide)) rfl (qa_cons (qv 1) qa_nil)) (qa_cons (qe_call (g_pool_row_f687.at hr (by decide)) rfl (qa_cons (qv 1) qa_nil)) qa_nil)) rfl)
    (qss_cons (qs_set (i := 4) nd rfl (by first | exact Or.inl rfl | exact Or.inr rfl) (qe_callB (c_sum rfl) rfl b.f_sum bt_sum (qa_cons (qe_set (qf_lc rfl nd (qi_seq (qe_slice (qv 3) qo_none (qo_some (qe_callG ((g_next _ _ _).at hr (by decide)) rfl (qa_cons (qv 0) (qa_cons (qe_callB c_len rfl b.f_len bt_len (qa_cons (qv 3) qa_nil)) qa_nil)))))) (own := [("_law_size_here", 6), ("_law_total", 7), ("_law_weight", 8)]) (blkOk_by (by kernel_rfl)) (by decide) (fun _ _ _ _ _ => (qg_tup rfl (qgs_cons (qg_name nd rfl (by first | exact Or.inl rfl | exact Or.inr rfl)) (qgs_cons (qg_name nd rfl (by first | exact Or.inl rfl | exact Or.inr rfl)) (qgs_cons (qg_name nd rfl (by first | exact Or.inl rfl | exact Or.inr rfl)) qgs_nil))))) (fun _ _ _ _ _ => qts_nil) (fun _ _ _ _ _ => (qv 6)))) qa_nil)))
    (qss_cons (qs_if (PW.pt (qw_and (qt_cmp o_gt (qv 4) qe_int (nomark _)) (qw_and1 (qt_not (qt_val (qe_call (g_equal_17a7.at hr (by decide)) rfl (qa_cons (qe_bin o_add (qe_call (g_rate_row_d172.at hr (by decide)) rfl (qa_cons (qe_slice (qv 1) qo_none (qo_some (qv 4))) qa_nil)) (qe_call (g_rate_row_d172.at hr (by decide)) rfl (qa_cons (qe_slice (qv 1) (qo_some (qv 4)) qo_none) qa_nil))) (qa_cons (qv 2) qa_nil)))))))) (qss_one (qs_ret qe_bl)) qss_nil)
    (qss_cons (qs_set (i := 5) nd rfl (by first | exact Or.inl rfl | exact Or.inr rfl) qe_int)
    (qss_cons (qs_for PassesOwn.never rfl (qi_seq (qv 3)) (qg_tup rfl (qgs_cons (qg_name nd rfl (by first | exact Or.inl rfl | exact Or.inr rfl)) (qgs_cons (qg_name nd rfl (by first | exact Or.inl rfl | exact Or.inr rfl)) (qgs_cons (qg_name nd rfl (by first | exact Or.inl rfl | exact Or.inr rfl)) qgs_nil)))) (qss_cons (qs_set (i := 9) nd rfl (by first | exact Or.inl rfl | exact Or.inr rfl) (qe_slice (qv 1) (qo_some (qv 5)) (qo_some (qe_bin o_add (qv 5) (qv 6)))))
    (qss_cons (qs_if (qt_cmp (o_ne hr) (qe_set (qf_lst (qa_cons (qv 7) (qa_cons (qv 8) qa_nil)))) (qe_set (qf_lst (qa_cons (qe_callB (c_sum rfl) rfl b.f_sum bt_sum (qa_cons (qe_set (qf_lc rfl nd (qi_seq (qv 9)) (own := [("_law_one_here", 10), ("_law_other", 11)]) (blkOk_by (by kernel_rfl)) (by decide) (fun _ _ _ _ _ => (qg_tup rfl (qgs_cons (qg_name nd rfl (by first | exact Or.inl rfl | exact Or.inr rfl)) (qgs_cons (qg_name nd rfl (by first | exact Or.inl rfl | exact Or.inr rfl)) qgs_nil)))) (fun _ _ _ _ _ => qts_nil) (fun _ _ _ _ _ => (qe_bin o_mul (qv 10) (qv 11))))) qa_nil)) (qa_cons (qe_callB (c_sum rfl) rfl b.f_sum bt_sum (qa_cons (qe_set (qf_lc rfl nd (qi_seq (qv 9)) (own := [("_law_one_here", 10), ("_law_other", 11)]) (blkOk_by (by kernel_rfl)) (by decide) (fun _ _ _ _ _ => (qg_tup rfl (qgs_cons (qg_name nd rfl (by first | exact Or.inl rfl | exact Or.inr rfl)) (qgs_cons (qg_name nd rfl (by first | exact Or.inl rfl | exact Or.inr rfl)) qgs_nil)))) (fun _ _ _ _ _ => qts_nil) (fun _ _ _ _ _ => (qv 11)))) qa_nil)) qa_nil)))) (nomark _)) (qss_one (qs_ret qe_bl)) qss_nil)
    (qss_cons (qs_if (qt_cmp (o_ne hr) (qe_set (qf_lc rfl nd (qi_seq (qe_slice (qv 2) (qo_some (qv 5)) (qo_some (qe_bin o_add (qv 5) (qv 6))))) (own := [("_law_value", 12)]) (blkOk_by (by kernel_rfl)) (by decide) (fun _ _ _ _ _ => (qg_name nd rfl (by first | exact Or.inl rfl | exact Or.inr rfl))) (fun _ _ _ _ _ => (qts_one (qt_cmp (o_ne hr) (qv 12) (qe_call (g_lowest_ba06.at hr (by decide)) rfl (qa_cons (qv 7) (qa_cons (qv 8) qa_nil))) (nomark _)))) (fun _ _ _ _ _ => (qv 12)))) (qe_set (qf_lst qa_nil)) (nomark _)) (qss_one (qs_ret qe_bl)) qss_nil)
    (qss_one (qs_set (i := 5) nd rfl (by first | exact Or.inl rfl | exact Or.inr rfl) (qe_bin o_add (qv 5) (qv 6))))))))
    (qss_one (qs_ret (qe_cmp (o_eq hr) (qv 5) (qe_callB c_len rfl b.f_len bt_len (qa_cons (qv 1) qa_nil)) (nomark _))))))))), p_parts_right_afa2 r⟩ (fun _ _ _ h => h)
theorem sc_changes_right_e813 : FnScope ["_law_drawn", "_law_row_here", "_law_rating", "_law_back", "_law_item", "_law_mark", "_law_weight", "_law_first", "_law_more", "_law_above", "_law_below"] ["_law_drawn", "_law_row_here"] (defScope st_changes_right_e813) := ⟨rfl, rfl, rfl, by decide +kernel, rfl, by decide +kernel, by decide +kernel⟩
theorem ok_changes_right_e813 {f fd} {r c q : Addr} (b : Bi K mg) (g_rate_row_d172 : Glo P w K mg base "rate_row" 1 (spP K (sp_rate_row_d172)) 3) (g_next : ∀ r c q, Glo P w K mg base "_law_next" 2 (spG (gr K r c q) (nextS r)) 1) (g_equal_17a7 : Glo P w K mg base "_law_equal" 2 (spP K (sp_equal_17a7 24)) 25) (F : Fn K "_law_changes_right" "_law_changes_right" st_changes_right_e813 f fd) : FnOk P w K mg base CX0 26 f fd ["_law_drawn", "_law_row_here"] (spG (gr K r c q) (sp_changes_right_e813 r)) :=
  okG (P := P) (w := w) (mg := mg) (base := base) (G := gr K r c q) (k := 25) rfl F sc_changes_right_e813 (len_changes_right_e813 r) ⟨t_changes_right_e813 r, fun cdv A outer s H E hr => by
    have nd := sc_changes_right_e813.nd
    exact (qss_cons (qs_set (i := 2) nd rfl (by first | exact Or.inl rfl | exact Or.inr rfl) (qe_call (g_rate_row_d172.at hr (by decide)) rfl (qa_cons (qv 1) qa_nil)))
    (qss_cons (qs_set (i := 3) nd rfl (by first | exact Or.inl rfl | exact Or.inr rfl) (qe_callTy c_tuple rfl b.f_tuple bt_tuple (qa_cons (qe_set (qf_lc rfl nd (qi_seq (qe_step (qv 1) (qe_un o_neg qe_int))) (own := [("_law_mark", 5), ("_law_weight", 6)]) (blkOk_by (by kernel_rfl)) (by decide) (fun _ _ _ _ _ => (qg_tup rfl (qgs_cons (qg_name nd rfl (by first | exact Or.inl rfl | exact Or.inr rfl)) (qgs_cons (qg_name nd rfl (by first | exact Or.inl rfl | exact Or.inr rfl)) qgs_nil)))) (fun _ _ _ _ _ => qts_nil) (fun _ _ _ _ _ => (qe_tup (qa_cons (qe_bin o_sub qe_int (qv 5)) (qa_cons (qv 6) qa_nil)))))) qa_nil)))
    (qss_cons (qs_if (qt_not (qt_val (qe_call (g_equal_17a7.at hr (by decide)) rfl (qa_cons (qe_call (g_rate_row_d172.at hr (by decide)) rfl (qa_cons (qv 3) qa_nil)) (qa_cons (qe_callTy c_tuple rfl b.f_tuple bt_tuple (qa_cons (qe_set (qf_lc rfl nd (qi_seq (qe_step (qv 2) (qe_un o_neg qe_int))) (own := [("_law_above", 9), ("_law_below", 10)]) (blkOk_by (by kernel_rfl)) (by decide) (fun _ _ _ _ _ => (qg_tup rfl (qgs_cons (qg_name nd rfl (by first | exact Or.inl rfl | exact Or.inr rfl)) (qgs_cons (qg_name nd rfl (by first | exact Or.inl rfl | exact Or.inr rfl)) qgs_nil)))) (fun _ _ _ _ _ => qts_nil) (fun _ _ _ _ _ => (qe_tup (qa_cons (qe_bin o_sub qe_int (qv 9)) (qa_cons (qv 10) qa_nil)))))) qa_nil)) qa_nil))))) (qss_one (qs_ret qe_bl)) qss_nil)
    (qss_cons (qs_set (i := 4) nd rfl (by first | exact Or.inl rfl | exact Or.inr rfl) (qe_callG ((g_next _ _ _).at hr (by decide)) rfl (qa_cons (qv 0) (qa_cons (qe_callB c_len rfl b.f_len bt_len (qa_cons (qv 1) qa_nil)) qa_nil))))
    (qss_cons (qs_setT (qe_ix (qv 1) (qv 4)) (qg_tup rfl (qgs_cons (qg_name nd rfl (by first | exact Or.inl rfl | exact Or.inr rfl)) (qgs_cons (qg_name nd rfl (by first | exact Or.inl rfl | exact Or.inr rfl)) qgs_nil))))
    (qss_cons (qs_if (qt_cmp (o_eq hr) (qv 6) qe_int (nomark _)) (qss_one (qs_ret qe_bl)) qss_nil)
    (qss_cons (qs_set (i := 7) nd rfl (by first | exact Or.inl rfl | exact Or.inr rfl) (qe_bin o_add qe_int (qe_callG ((g_next _ _ _).at hr (by decide)) rfl (qa_cons (qv 0) (qa_cons (qe_bin o_sub (qv 6) qe_int) qa_nil)))))
    (qss_cons (qs_set (i := 8) nd rfl (by first | exact Or.inl rfl | exact Or.inr rfl) (qe_bin o_add (qe_bin o_add (qe_slice (qv 1) qo_none (qo_some (qv 4))) (qe_tup (qa_cons (qe_tup (qa_cons (qv 5) (qa_cons (qv 7) qa_nil))) (qa_cons (qe_tup (qa_cons (qv 5) (qa_cons (qe_bin o_sub (qv 6) (qv 7)) qa_nil))) qa_nil)))) (qe_slice (qv 1) (qo_some (qe_bin o_add (qv 4) qe_int)) qo_none)))
    (qss_one (qs_ret (qe_call (g_equal_17a7.at hr (by decide)) rfl (qa_cons (qe_call (g_rate_row_d172.at hr (by decide)) rfl (qa_cons (qv 8) qa_nil)) (qa_cons (qe_bin o_add (qe_slice (qv 2) qo_none (qo_some (qe_bin o_add (qv 4) qe_int))) (qe_slice (qv 2) (qo_some (qv 4)) qo_none)) qa_nil))))))))))))), p_changes_right_e813 r⟩ (fun _ _ _ h => h)
theorem sc_less_7322 : FnScope ["_law_one_here", "_law_other"] ["_law_one_here", "_law_other"] (defScope st_less_7322) := ⟨rfl, rfl, rfl, by decide +kernel, rfl, by decide +kernel, by decide +kernel⟩
theorem ok_less_7322 {f fd} (b : Bi K mg) (F : Fn K "_law_less" "_law_less" st_less_7322 f fd) : FnOk P w K mg base CX0 1 f fd ["_law_one_here", "_law_other"] (spP K sp_less_7322) :=
  okP F sc_less_7322 len_less_7322 ⟨t_less_7322, fun cdv A outer s H E hr => by
    have nd := sc_less_7322.nd
    exact (qss_one (qs_ret (qe_cmp o_lt (qe_bin o_mul (qe_ix (qv 0) qe_int) (qe_ix (qv 1) qe_int)) (qe_bin o_mul (qe_ix (qv 1) qe_int) (qe_ix (qv 0) qe_int)) (nomark _)))), p_less_7322⟩
theorem sc_law_a480 : FnScope ["_law_script", "_law_drawn", "_law_turn", "_law_row_here", "_law_rating", "_law_one_here", "_law_other"] ["_law_script"] (defScope st_law_a480) := ⟨rfl, rfl, rfl, by decide +kernel, rfl, by decide +kernel, by decide +kernel⟩
theorem ok_law_a480 {f fd} (b : Bi K mg) (g_draws : Glo P w K mg base "_law_draws" 1 (spDraws K) 1) (g_row_75d3 : ∀ r c q, Glo P w K mg base "_law_row" 2 (spG (gr K r c q) (sp_row_75d3 r)) 4) (g_rate_row_d172 : Glo P w K mg base "rate_row" 1 (spP K (sp_rate_row_d172)) 3) (g_panel_right_9357 : Glo P w K mg base "_law_panel_right" 1 (spP K (sp_panel_right_9357)) 26) (g_parts_right_afa2 : ∀ r c q, Glo P w K mg base "_law_parts_right" 2 (spG (gr K r c q) (sp_parts_right_afa2 r)) 26) (g_changes_right_e813 : ∀ r c q, Glo P w K mg base "_law_changes_right" 2 (spG (gr K r c q) (sp_changes_right_e813 r)) 26) (g_less_7322 : Glo P w K mg base "_law_less" 2 (spP K (sp_less_7322)) 1) (F : Fn K "law" "law" st_law_a480 f fd) : FnOk P w K mg base CX0 27 f fd ["_law_script"] (spLaw K) :=
  ok_law F sc_law_a480 (i := 1) (by decide) (by rfl) ⟨t_law_a480, fun cdv A outer s H E hr => by
    have nd := sc_law_a480.nd
    exact ⟨ps_set nd rfl (by first | exact Or.inl rfl | exact Or.inr rfl) (pe_callD (g_draws.at hr (by decide)) rfl (pa_cons (pv 0) pa_nil)), fun r c q => (qss_cons (qs_for PassesOwn.never rfl (qi_range1 rfl b.f_range (qa_cons qe_int qa_nil)) (qg_name nd rfl (by first | exact Or.inl rfl | exact Or.inr rfl)) (qss_cons (qs_if (qt_not (qt_val (qe_call (g_panel_right_9357.at hr (by decide)) rfl (qa_cons (qe_callG ((g_row_75d3 _ _ _).at hr (by decide)) rfl (qa_cons (qv 1) (qa_cons qe_int qa_nil))) qa_nil)))) (qss_one (qs_ret qe_bl)) qss_nil)
    (qss_cons (qs_set (i := 3) nd rfl (by first | exact Or.inl rfl | exact Or.inr rfl) (qe_callG ((g_row_75d3 _ _ _).at hr (by decide)) rfl (qa_cons (qv 1) (qa_cons qe_int qa_nil))))
    (qss_cons (qs_if (PW.pt (qw_or (qt_not (qt_val (qe_callG ((g_parts_right_afa2 _ _ _).at hr (by decide)) rfl (qa_cons (qv 1) (qa_cons (qv 3) qa_nil))))) (qw_and1 (qt_not (qt_val (qe_callG ((g_changes_right_e813 _ _ _).at hr (by decide)) rfl (qa_cons (qv 1) (qa_cons (qv 3) qa_nil)))))))) (qss_one (qs_ret qe_bl)) qss_nil)
    (qss_cons (qs_set (i := 4) nd rfl (by first | exact Or.inl rfl | exact Or.inr rfl) (qe_call (g_rate_row_d172.at hr (by decide)) rfl (qa_cons (qv 3) qa_nil)))
    (qss_one (qs_if (qt_cmp (o_ne hr) (qe_set (qf_lc rfl nd (qi_zip rfl b.f_zip (qa_cons (qv 4) (qa_cons (qe_slice (qv 4) (qo_some qe_int) qo_none) qa_nil))) (own := [("_law_one_here", 5), ("_law_other", 6)]) (blkOk_by (by kernel_rfl)) (by decide) (fun _ _ _ _ _ => (qg_tup rfl (qgs_cons (qg_name nd rfl (by first | exact Or.inl rfl | exact Or.inr rfl)) (qgs_cons (qg_name nd rfl (by first | exact Or.inl rfl | exact Or.inr rfl)) qgs_nil)))) (fun _ _ _ _ _ => (qts_one (qt_val (qe_call (g_less_7322.at hr (by decide)) rfl (qa_cons (qv 6) (qa_cons (qv 5) qa_nil)))))) (fun _ _ _ _ _ => qe_int))) (qe_set (qf_lst qa_nil)) (nomark _)) (qss_one (qs_ret qe_bl)) qss_nil)))))))
    (qss_one (qs_ret qe_bl)))⟩, p_law_a480⟩
end
theorem ob_eq (s : PySem.W.SharedT) : ob s = hk.obs s.abs := obsBG_eq (HandSHeadRun.getT_eq s)
theorem facts {P : Program} {w : World} {K : PySem.W.Frag} {h : Heap} {mg : Str → Option Value} {f : Addr} (X : K.In h) (G : h.Ns mainGlobals mg) (hfa : mg ("law" : Str) = some (.ref f)) (c0 : SaysB fal fnl exl K) :
    ∃ fd : FuncData, (∀ (s : Shared) (v : Value), BindsTo s fd ⟨[v], []⟩ [("_law_script", v)]) ∧ ∀ base : Heap, K.In base → base.Ns mainGlobals mg → FnOk P w K mg base CX0 27 f fd ["_law_script"] (spLaw K) := by
  have c := c0.d
  have b : Bi K mg := ⟨He.free_ok X G (c.fact 31 (f := .free "abs") rfl), He.free_ok X G (c.fact 32 (f := .free "all") rfl), He.free_ok X G (c.fact 33 (f := .free "bool") rfl), He.free_ok X G (c.fact 34 (f := .free "enumerate") rfl), He.free_ok X G (c.fact 35 (f := .free "int") rfl), He.free_ok X G (c.fact 36 (f := .free "isinstance") rfl), He.free_ok X G (c.fact 37 (f := .free "len") rfl), He.free_ok X G (c.fact 38 (f := .free "list") rfl), He.free_ok X G (c.fact 39 (f := .free "min") rfl), He.free_ok X G (c.fact 40 (f := .free "range") rfl), He.free_ok X G (c.fact 41 (f := .free "set") rfl), He.free_ok X G (c.fact 42 (f := .free "sorted") rfl), He.free_ok X G (c.fact 43 (f := .free "str") rfl), He.free_ok X G (c.fact 44 (f := .free "sum") rfl), He.free_ok X G (c.fact 45 (f := .free "tuple") rfl), He.free_ok X G (c.fact 46 (f := .free "zip") rfl)⟩
  obtain ⟨fd_draws, F_draws⟩ := c.def_ 0 (d := d_draws) rfl
  have m_draws := He.glo_ok X G (c.fact 0 (f := .glo "_law_draws") rfl)
  obtain ⟨fd_next, F_next⟩ := c.def_ 1 (d := d_next) rfl
  have m_next := He.glo_ok X G (c.fact 1 (f := .glo "_law_next") rfl)
  obtain ⟨fd_size_3de8, F_size_3de8⟩ := c.def_ 2 (d := d_size_3de8) rfl
  have m_size_3de8 := He.glo_ok X G (c.fact 2 (f := .glo "_law_size") rfl)
  obtain ⟨fd_items_cafd, F_items_cafd⟩ := c.def_ 3 (d := d_items_cafd) rfl
  have m_items_cafd := He.glo_ok X G (c.fact 3 (f := .glo "_law_items") rfl)
  obtain ⟨fd_row_75d3, F_row_75d3⟩ := c.def_ 4 (d := d_row_75d3) rfl
  have m_row_75d3 := He.glo_ok X G (c.fact 4 (f := .glo "_law_row") rfl)
  obtain ⟨fd_start_blocks_8d16, F_start_blocks_8d16⟩ := c.def_ 5 (d := d_start_blocks_8d16) rfl
  have m_start_blocks_8d16 := He.glo_ok X G (c.fact 5 (f := .glo "start_blocks") rfl)
  obtain ⟨fd_is_falling_c091, F_is_falling_c091⟩ := c.def_ 6 (d := d_is_falling_c091) rfl
  have m_is_falling_c091 := He.glo_ok X G (c.fact 6 (f := .glo "is_falling") rfl)
  obtain ⟨fd_merged_e28f, F_merged_e28f⟩ := c.def_ 7 (d := d_merged_e28f) rfl
  have m_merged_e28f := He.glo_ok X G (c.fact 7 (f := .glo "merged") rfl)
  obtain ⟨fd_pool_row_f687, F_pool_row_f687⟩ := c.def_ 8 (d := d_pool_row_f687) rfl
  have m_pool_row_f687 := He.glo_ok X G (c.fact 8 (f := .glo "pool_row") rfl)
  obtain ⟨fd_common_divisor_2932, F_common_divisor_2932⟩ := c.def_ 9 (d := d_common_divisor_2932) rfl
  have m_common_divisor_2932 := He.glo_ok X G (c.fact 9 (f := .glo "common_divisor") rfl)
  obtain ⟨fd_make_fraction_15f7, F_make_fraction_15f7⟩ := c.def_ 10 (d := d_make_fraction_15f7) rfl
  have m_make_fraction_15f7 := He.glo_ok X G (c.fact 10 (f := .glo "make_fraction") rfl)
  obtain ⟨fd_rate_row_d172, F_rate_row_d172⟩ := c.def_ 11 (d := d_rate_row_d172) rfl
  have m_rate_row_d172 := He.glo_ok X G (c.fact 11 (f := .glo "rate_row") rfl)
  obtain ⟨fd_equal_17a7, F_equal_17a7⟩ := c.def_ 12 (d := d_equal_17a7) rfl
  have m_equal_17a7 := He.glo_ok X G (c.fact 12 (f := .glo "_law_equal") rfl)
  obtain ⟨fd_all_groups_7d0b, F_all_groups_7d0b⟩ := c.def_ 13 (d := d_all_groups_7d0b) rfl
  have m_all_groups_7d0b := He.glo_ok X G (c.fact 13 (f := .glo "all_groups") rfl)
  obtain ⟨fd_is_integer_8a5f, F_is_integer_8a5f⟩ := c.def_ 14 (d := d_is_integer_8a5f) rfl
  have m_is_integer_8a5f := He.glo_ok X G (c.fact 14 (f := .glo "is_integer") rfl)
  obtain ⟨fd_is_within_3133, F_is_within_3133⟩ := c.def_ 15 (d := d_is_within_3133) rfl
  have m_is_within_3133 := He.glo_ok X G (c.fact 15 (f := .glo "is_within") rfl)
  obtain ⟨fd_is_group_a50b, F_is_group_a50b⟩ := c.def_ 16 (d := d_is_group_a50b) rfl
  have m_is_group_a50b := He.glo_ok X G (c.fact 16 (f := .glo "is_group") rfl)
  obtain ⟨fd_is_upward_11cd, F_is_upward_11cd⟩ := c.def_ 17 (d := d_is_upward_11cd) rfl
  have m_is_upward_11cd := He.glo_ok X G (c.fact 17 (f := .glo "is_upward") rfl)
  obtain ⟨fd_upward_sets_3622, F_upward_sets_3622⟩ := c.def_ 18 (d := d_upward_sets_3622) rfl
  have m_upward_sets_3622 := He.glo_ok X G (c.fact 18 (f := .glo "upward_sets") rfl)
  obtain ⟨fd_sums_of_9763, F_sums_of_9763⟩ := c.def_ 19 (d := d_sums_of_9763) rfl
  have m_sums_of_9763 := He.glo_ok X G (c.fact 19 (f := .glo "sums_of") rfl)
  obtain ⟨fd_upper_part_65f2, F_upper_part_65f2⟩ := c.def_ 20 (d := d_upper_part_65f2) rfl
  have m_upper_part_65f2 := He.glo_ok X G (c.fact 20 (f := .glo "upper_part") rfl)
  obtain ⟨fd_average_of_ee61, F_average_of_ee61⟩ := c.def_ 21 (d := d_average_of_ee61) rfl
  have m_average_of_ee61 := He.glo_ok X G (c.fact 21 (f := .glo "average_of") rfl)
  obtain ⟨fd_best_rating_b8e6, F_best_rating_b8e6⟩ := c.def_ 22 (d := d_best_rating_b8e6) rfl
  have m_best_rating_b8e6 := He.glo_ok X G (c.fact 22 (f := .glo "best_rating") rfl)
  obtain ⟨fd_level_groups_d0a5, F_level_groups_d0a5⟩ := c.def_ 23 (d := d_level_groups_d0a5) rfl
  have m_level_groups_d0a5 := He.glo_ok X G (c.fact 23 (f := .glo "level_groups") rfl)
  obtain ⟨fd_levels_1e0b, F_levels_1e0b⟩ := c.def_ 24 (d := d_levels_1e0b) rfl
  have m_levels_1e0b := He.glo_ok X G (c.fact 24 (f := .glo "_law_levels") rfl)
  obtain ⟨fd_panel_right_9357, F_panel_right_9357⟩ := c.def_ 25 (d := d_panel_right_9357) rfl
  have m_panel_right_9357 := He.glo_ok X G (c.fact 25 (f := .glo "_law_panel_right") rfl)
  obtain ⟨fd_lowest_ba06, F_lowest_ba06⟩ := c.def_ 26 (d := d_lowest_ba06) rfl
  have m_lowest_ba06 := He.glo_ok X G (c.fact 26 (f := .glo "_law_lowest") rfl)
  obtain ⟨fd_parts_right_afa2, F_parts_right_afa2⟩ := c.def_ 27 (d := d_parts_right_afa2) rfl
  have m_parts_right_afa2 := He.glo_ok X G (c.fact 27 (f := .glo "_law_parts_right") rfl)
  obtain ⟨fd_changes_right_e813, F_changes_right_e813⟩ := c.def_ 28 (d := d_changes_right_e813) rfl
  have m_changes_right_e813 := He.glo_ok X G (c.fact 28 (f := .glo "_law_changes_right") rfl)
  obtain ⟨fd_less_7322, F_less_7322⟩ := c.def_ 29 (d := d_less_7322) rfl
  have m_less_7322 := He.glo_ok X G (c.fact 29 (f := .glo "_law_less") rfl)
  obtain ⟨fd_law_a480, F_law_a480⟩ := c.def_ 30 (d := d_law_a480) rfl
  have e := hfa.symm.trans (He.glo_ok X G (c.fact 30 (f := .glo "law") rfl))
  cases e
  have bl := FunD.bindsA (ps := ["_law_script"]) F_law_a480 fun _ _ _ _ _ _ us hl => match us, hl with | [_], _ => rfl
  refine ⟨fd_law_a480, fun s v => bl s [v] rfl, fun base _ _ => ?_⟩
  have g_draws : Glo P w K mg base "_law_draws" 1 (spDraws K) 1 := ⟨_, fd_draws, ["_law_script"], ok_draws0 b  F_draws, m_draws, FunD.kp F_draws, FunD.bindsN F_draws fun _ _ _ _ _ _ us hl => match us, hl with | [_], _ => rfl, rfl⟩
  have g_next : ∀ r c q, Glo P w K mg base "_law_next" 2 (spG (gr K r c q) (nextS r)) 1 := fun r c q => ⟨_, fd_next, ["_law_drawn", "_law_many"], ok_next0 b  F_next, m_next, FunD.kp F_next, FunD.bindsN F_next fun _ _ _ _ _ _ us hl => match us, hl with | [_, _], _ => rfl, rfl⟩
  have g_size_3de8 : ∀ r c q, Glo P w K mg base "_law_size" 2 (spG (gr K r c q) (sp_size_3de8 r)) 2 := fun r c q => ⟨_, fd_size_3de8, ["_law_drawn", "_law_great"], ok_size_3de8 b g_next F_size_3de8, m_size_3de8, FunD.kp F_size_3de8, FunD.bindsN F_size_3de8 fun _ _ _ _ _ _ us hl => match us, hl with | [_, _], _ => rfl, rfl⟩
  have g_items_cafd : ∀ r c q, Glo P w K mg base "_law_items" 2 (spG (gr K r c q) (sp_items_cafd r)) 3 := fun r c q => ⟨_, fd_items_cafd, ["_law_drawn", "_law_count"], ok_items_cafd b g_next g_size_3de8 F_items_cafd, m_items_cafd, FunD.kp F_items_cafd, FunD.bindsN F_items_cafd fun _ _ _ _ _ _ us hl => match us, hl with | [_, _], _ => rfl, rfl⟩
  have g_row_75d3 : ∀ r c q, Glo P w K mg base "_law_row" 2 (spG (gr K r c q) (sp_row_75d3 r)) 4 := fun r c q => ⟨_, fd_row_75d3, ["_law_drawn", "_law_most"], ok_row_75d3 b g_items_cafd g_next F_row_75d3, m_row_75d3, FunD.kp F_row_75d3, FunD.bindsN F_row_75d3 fun _ _ _ _ _ _ us hl => match us, hl with | [_, _], _ => rfl, rfl⟩
  have g_start_blocks_8d16 : Glo P w K mg base "start_blocks" 1 (spP K (sp_start_blocks_8d16)) 1 := ⟨_, fd_start_blocks_8d16, ["row"], ok_start_blocks_8d16 b  F_start_blocks_8d16, m_start_blocks_8d16, FunD.kp F_start_blocks_8d16, FunD.bindsN F_start_blocks_8d16 fun _ _ _ _ _ _ us hl => match us, hl with | [_], _ => rfl, rfl⟩
  have g_is_falling_c091 : Glo P w K mg base "is_falling" 2 (spP K (sp_is_falling_c091)) 1 := ⟨_, fd_is_falling_c091, ["one", "other"], ok_is_falling_c091 b  F_is_falling_c091, m_is_falling_c091, FunD.kp F_is_falling_c091, FunD.bindsN F_is_falling_c091 fun _ _ _ _ _ _ us hl => match us, hl with | [_, _], _ => rfl, rfl⟩
  have g_merged_e28f : Glo P w K mg base "merged" 2 (spP K (sp_merged_e28f)) 1 := ⟨_, fd_merged_e28f, ["one", "other"], ok_merged_e28f b  F_merged_e28f, m_merged_e28f, FunD.kp F_merged_e28f, FunD.bindsN F_merged_e28f fun _ _ _ _ _ _ us hl => match us, hl with | [_, _], _ => rfl, rfl⟩
  have g_pool_row_f687 : Glo P w K mg base "pool_row" 1 (spP K (sp_pool_row_f687)) 2 := ⟨_, fd_pool_row_f687, ["row"], ok_pool_row_f687 b g_start_blocks_8d16 g_is_falling_c091 g_merged_e28f F_pool_row_f687, m_pool_row_f687, FunD.kp F_pool_row_f687, FunD.bindsN F_pool_row_f687 fun _ _ _ _ _ _ us hl => match us, hl with | [_], _ => rfl, rfl⟩
  have g_common_divisor_2932 : Glo P w K mg base "common_divisor" 2 (spP K (sp_common_divisor_2932)) 1 := ⟨_, fd_common_divisor_2932, ["one", "other"], ok_common_divisor_2932 b  F_common_divisor_2932, m_common_divisor_2932, FunD.kp F_common_divisor_2932, FunD.bindsN F_common_divisor_2932 fun _ _ _ _ _ _ us hl => match us, hl with | [_, _], _ => rfl, rfl⟩
  have g_make_fraction_15f7 : Glo P w K mg base "make_fraction" 2 (spP K (sp_make_fraction_15f7)) 2 := ⟨_, fd_make_fraction_15f7, ["numerator", "denominator"], ok_make_fraction_15f7 b g_common_divisor_2932 F_make_fraction_15f7, m_make_fraction_15f7, FunD.kp F_make_fraction_15f7, FunD.bindsN F_make_fraction_15f7 fun _ _ _ _ _ _ us hl => match us, hl with | [_, _], _ => rfl, rfl⟩
  have g_rate_row_d172 : Glo P w K mg base "rate_row" 1 (spP K (sp_rate_row_d172)) 3 := ⟨_, fd_rate_row_d172, ["row"], ok_rate_row_d172 b g_pool_row_f687 g_make_fraction_15f7 F_rate_row_d172, m_rate_row_d172, FunD.kp F_rate_row_d172, FunD.bindsN F_rate_row_d172 fun _ _ _ _ _ _ us hl => match us, hl with | [_], _ => rfl, rfl⟩
  have gn_equal_17a7 : ∀ (r c q : Addr) (n : Nat), Glo P w K mg base "_law_equal" 2 (spP K (sp_equal_17a7 n)) (1 + n) := fun r c q n => by
    induction n with
    | zero => exact ⟨_, fd_equal_17a7, ["_law_one_here", "_law_other"], okP (k := 0) F_equal_17a7 sc_equal_17a7 (len_equal_17a7 0) ⟨qNever, fun _ _ _ _ _ _ _ => qss_never, fun ds R h => (z_equal_17a7 ds R h).elim⟩, m_equal_17a7, FunD.kp F_equal_17a7, FunD.bindsN F_equal_17a7 fun _ _ _ _ _ _ us hl => match us, hl with | [_, _], _ => rfl, rfl⟩
    | succ n ih => exact ⟨_, fd_equal_17a7, ["_law_one_here", "_law_other"], ok_equal_17a7 (k := 1 + n) (by omega) (len_equal_17a7 (n + 1)) (p_equal_17a7 n) ih b  F_equal_17a7, m_equal_17a7, FunD.kp F_equal_17a7, FunD.bindsN F_equal_17a7 fun _ _ _ _ _ _ us hl => match us, hl with | [_, _], _ => rfl, rfl⟩
  have g_equal_17a7 : Glo P w K mg base "_law_equal" 2 (spP K (sp_equal_17a7 24)) 25 := gn_equal_17a7 0 0 0 24
  have g_all_groups_7d0b : Glo P w K mg base "all_groups" 1 (spP K (sp_all_groups_7d0b)) 1 := ⟨_, fd_all_groups_7d0b, ["items"], ok_all_groups_7d0b b  F_all_groups_7d0b, m_all_groups_7d0b, FunD.kp F_all_groups_7d0b, FunD.bindsN F_all_groups_7d0b fun _ _ _ _ _ _ us hl => match us, hl with | [_], _ => rfl, rfl⟩
  have g_is_integer_8a5f : Glo P w K mg base "is_integer" 1 (spP K (sp_is_integer_8a5f)) 1 := ⟨_, fd_is_integer_8a5f, ["value"], ok_is_integer_8a5f b  F_is_integer_8a5f, m_is_integer_8a5f, FunD.kp F_is_integer_8a5f, FunD.bindsN F_is_integer_8a5f fun _ _ _ _ _ _ us hl => match us, hl with | [_], _ => rfl, rfl⟩
  have g_is_within_3133 : Glo P w K mg base "is_within" 3 (spP K (sp_is_within_3133)) 2 := ⟨_, fd_is_within_3133, ["value", "low", "high"], ok_is_within_3133 b g_is_integer_8a5f F_is_within_3133, m_is_within_3133, FunD.kp F_is_within_3133, FunD.bindsN F_is_within_3133 fun _ _ _ _ _ _ us hl => match us, hl with | [_, _, _], _ => rfl, rfl⟩
  have g_is_group_a50b : Glo P w K mg base "is_group" 2 (spP K (sp_is_group_a50b)) 3 := ⟨_, fd_is_group_a50b, ["panel", "value"], ok_is_group_a50b b g_is_within_3133 F_is_group_a50b, m_is_group_a50b, FunD.kp F_is_group_a50b, FunD.bindsN F_is_group_a50b fun _ _ _ _ _ _ us hl => match us, hl with | [_, _], _ => rfl, rfl⟩
  have g_is_upward_11cd : Glo P w K mg base "is_upward" 2 (spP K (sp_is_upward_11cd)) 4 := ⟨_, fd_is_upward_11cd, ["panel", "value"], ok_is_upward_11cd b g_is_group_a50b F_is_upward_11cd, m_is_upward_11cd, FunD.kp F_is_upward_11cd, FunD.bindsN F_is_upward_11cd fun _ _ _ _ _ _ us hl => match us, hl with | [_, _], _ => rfl, rfl⟩
  have g_upward_sets_3622 : Glo P w K mg base "upward_sets" 1 (spP K (sp_upward_sets_3622)) 5 := ⟨_, fd_upward_sets_3622, ["panel"], ok_upward_sets_3622 b g_all_groups_7d0b g_is_upward_11cd F_upward_sets_3622, m_upward_sets_3622, FunD.kp F_upward_sets_3622, FunD.bindsN F_upward_sets_3622 fun _ _ _ _ _ _ us hl => match us, hl with | [_], _ => rfl, rfl⟩
  have g_sums_of_9763 : Glo P w K mg base "sums_of" 2 (spP K (sp_sums_of_9763)) 1 := ⟨_, fd_sums_of_9763, ["panel", "group"], ok_sums_of_9763 b  F_sums_of_9763, m_sums_of_9763, FunD.kp F_sums_of_9763, FunD.bindsN F_sums_of_9763 fun _ _ _ _ _ _ us hl => match us, hl with | [_, _], _ => rfl, rfl⟩
  have g_upper_part_65f2 : Glo P w K mg base "upper_part" 3 (spP K (sp_upper_part_65f2)) 2 := ⟨_, fd_upper_part_65f2, ["panel", "closed", "part"], ok_upper_part_65f2 b g_sums_of_9763 F_upper_part_65f2, m_upper_part_65f2, FunD.kp F_upper_part_65f2, FunD.bindsN F_upper_part_65f2 fun _ _ _ _ _ _ us hl => match us, hl with | [_, _, _], _ => rfl, rfl⟩
  have g_average_of_ee61 : Glo P w K mg base "average_of" 2 (spP K (sp_average_of_ee61)) 3 := ⟨_, fd_average_of_ee61, ["panel", "group"], ok_average_of_ee61 b g_make_fraction_15f7 F_average_of_ee61, m_average_of_ee61, FunD.kp F_average_of_ee61, FunD.bindsN F_average_of_ee61 fun _ _ _ _ _ _ us hl => match us, hl with | [_, _], _ => rfl, rfl⟩
  have g_best_rating_b8e6 : Glo P w K mg base "best_rating" 1 (spP K (sp_best_rating_b8e6)) 6 := ⟨_, fd_best_rating_b8e6, ["panel"], ok_best_rating_b8e6 b g_upward_sets_3622 g_upper_part_65f2 g_average_of_ee61 F_best_rating_b8e6, m_best_rating_b8e6, FunD.kp F_best_rating_b8e6, FunD.bindsN F_best_rating_b8e6 fun _ _ _ _ _ _ us hl => match us, hl with | [_], _ => rfl, rfl⟩
  have g_level_groups_d0a5 : Glo P w K mg base "level_groups" 1 (spP K (sp_level_groups_d0a5)) 7 := ⟨_, fd_level_groups_d0a5, ["panel"], ok_level_groups_d0a5 b g_best_rating_b8e6 F_level_groups_d0a5, m_level_groups_d0a5, FunD.kp F_level_groups_d0a5, FunD.bindsN F_level_groups_d0a5 fun _ _ _ _ _ _ us hl => match us, hl with | [_], _ => rfl, rfl⟩
  have g_levels_1e0b : Glo P w K mg base "_law_levels" 1 (spP K (sp_levels_1e0b)) 1 := ⟨_, fd_levels_1e0b, ["_law_rating"], ok_levels_1e0b b  F_levels_1e0b, m_levels_1e0b, FunD.kp F_levels_1e0b, FunD.bindsN F_levels_1e0b fun _ _ _ _ _ _ us hl => match us, hl with | [_], _ => rfl, rfl⟩
  have g_panel_right_9357 : Glo P w K mg base "_law_panel_right" 1 (spP K (sp_panel_right_9357)) 26 := ⟨_, fd_panel_right_9357, ["_law_row_here"], ok_panel_right_9357 b g_rate_row_d172 g_equal_17a7 g_level_groups_d0a5 g_levels_1e0b g_best_rating_b8e6 F_panel_right_9357, m_panel_right_9357, FunD.kp F_panel_right_9357, FunD.bindsN F_panel_right_9357 fun _ _ _ _ _ _ us hl => match us, hl with | [_], _ => rfl, rfl⟩
  have g_lowest_ba06 : Glo P w K mg base "_law_lowest" 2 (spP K (sp_lowest_ba06)) 1 := ⟨_, fd_lowest_ba06, ["_law_numerator", "_law_denominator"], ok_lowest_ba06 b  F_lowest_ba06, m_lowest_ba06, FunD.kp F_lowest_ba06, FunD.bindsN F_lowest_ba06 fun _ _ _ _ _ _ us hl => match us, hl with | [_, _], _ => rfl, rfl⟩
  have g_parts_right_afa2 : ∀ r c q, Glo P w K mg base "_law_parts_right" 2 (spG (gr K r c q) (sp_parts_right_afa2 r)) 26 := fun r c q => ⟨_, fd_parts_right_afa2, ["_law_drawn", "_law_row_here"], ok_parts_right_afa2 b g_rate_row_d172 g_pool_row_f687 g_equal_17a7 g_next g_lowest_ba06 F_parts_right_afa2, m_parts_right_afa2, FunD.kp F_parts_right_afa2, FunD.bindsN F_parts_right_afa2 fun _ _ _ _ _ _ us hl => match us, hl with | [_, _], _ => rfl, rfl⟩
  have g_changes_right_e813 : ∀ r c q, Glo P w K mg base "_law_changes_right" 2 (spG (gr K r c q) (sp_changes_right_e813 r)) 26 := fun r c q => ⟨_, fd_changes_right_e813, ["_law_drawn", "_law_row_here"], ok_changes_right_e813 b g_rate_row_d172 g_next g_equal_17a7 F_changes_right_e813, m_changes_right_e813, FunD.kp F_changes_right_e813, FunD.bindsN F_changes_right_e813 fun _ _ _ _ _ _ us hl => match us, hl with | [_, _], _ => rfl, rfl⟩
  have g_less_7322 : Glo P w K mg base "_law_less" 2 (spP K (sp_less_7322)) 1 := ⟨_, fd_less_7322, ["_law_one_here", "_law_other"], ok_less_7322 b  F_less_7322, m_less_7322, FunD.kp F_less_7322, FunD.bindsN F_less_7322 fun _ _ _ _ _ _ us hl => match us, hl with | [_, _], _ => rfl, rfl⟩
  exact ok_law_a480 b g_draws g_row_75d3 g_rate_row_d172 g_panel_right_9357 g_parts_right_afa2 g_changes_right_e813 g_less_7322 F_law_a480
end Pm
open PySem PySem.W PySem.Calls PyProof.Rows
theorem PySem.Challenge.cw_poolmarks_k57_whole_rows_and_panels_holds : PySem.Challenge.rw_poolmarks_k57_whole_rows_and_panels.Holds := by
  w_on; o_law
  refine HandSHeadRun.head_any (r := OpenLaw.row PySem.Challenge.rw_poolmarks_k57_whole_rows_and_panels) (q := view (OpenLaw.row PySem.Challenge.rw_poolmarks_k57_whole_rows_and_panels).prog [40]) (H := Pm.hk) (ob := Pm.ob) (M := 4000) (loose := Pm.loose) (d := HandSHeadRun.topDef (OpenLaw.row PySem.Challenge.rw_poolmarks_k57_whole_rows_and_panels).prog 40) (kwd := []) Pm.ob_eq
    (by kernel_rfl) (fun s => by kernel_rfl) Pm.run (by kernel_rfl) (by kernel_rfl) (by kernel_rfl) (by rfl) (by first | assumption | decide +kernel) (by decide +kernel) ⟨rfl, rfl, rfl, rfl, rfl, by decide +kernel⟩ ?hw ?hc
  case hw => w_witness2
  case hc =>
    refine L2.walk_ofE (l := PySem.Challenge.rw_poolmarks_k57_whole_rows_and_panels) (n := 63) (k := 27) (x := "_law_script") (CX := L2.CX0) rfl (by decide) (by kernel_rfl) ⟨rfl, by decide, by decide⟩ ?F (fun _ _ _ _ z => z)
    intro w mg fa h Y G hmg0
    obtain ⟨K, KX, c⟩ := Y
    have hmg : mg ("law" : PySem.Str) = some (.ref fa) := by
      have e : (HandSHeadRun.topDef (OpenLaw.row PySem.Challenge.rw_poolmarks_k57_whole_rows_and_panels).prog 40).name = ("law" : PySem.Str) := by kernel_rfl
      rw [← e]
      exact hmg0
    obtain ⟨fd, hb, hF⟩ := Pm.facts (P := (PySem.Challenge.rw_poolmarks_k57_whole_rows_and_panels).prog) (w := w) KX G hmg c
    exact ⟨K, fd, Pm.spLaw K, KX, hb, fun H a ns hl _ hS => ⟨a, ns, rfl, hS, hl, fun _ => rfl⟩, hF⟩

