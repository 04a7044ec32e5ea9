import PyProof.Rows.All
import HandS.ForMost
import HandS.ForExc
import HandS.IsInst
import HandS.Wide
import HandS.Flow
import HandS.Zip
import HandS.Rev
import HandS.Sort
import HandS.SortInts
import HandS.SortRule
import HandS.Defaults
import PyProof.Rows.SeqMore
import KE.GoesEnum
import HandS.RevRange
import HandS.Conv
import HandS.Ends
import HandS.HeadEnd
import HandS.Head0
import HandS.Head1
import HandS.Head2
import HandS.HeadHook1
import HandS.HeadHook2
import HandS.Style
import KE.KRevSl
import HandS.NamedTupSort
import HandS.TupSets
import HandS.SortOrd
import HandS.TupMul
import HandS.TupLe
import HandS.SetFor
import KE.KDictZip
import KE.DataMinKey
import KE.KMinBuiltin
import HandS.SortKw
import HandS.WordsExc
import HandS.TryOnly
import HandS.ExcIs
import HandS.ExcOwn
import HandS.ExcField
import KE.KExcIs
import HandS.ExcInit
import Wide.All
import OpenK.AllK
import Wide.FinOn
import KE.KStateDown
import Lean
import HandS.Base
import HandS.Call
import HandS.More
import HandS.Words
import PySem.Challenge.RW_poolmarks_k54_merged_blocks
set_option Elab.async false
set_option linter.all false
set_option maxRecDepth 100000
set_option maxHeartbeats 1000000
namespace Pm
set_option autoImplicit false
open PySem PySem.Spec
open PyProof.Rows hiding St
open L2

inductive D where
  | non | bl (b : Bool) | int (i : Int) | str (x : Str)
  | lst (xs : List D) | tup (xs : List D) | dct (ks : List Key) (xs : List D) | obj (a : Addr)

mutual
def At (K : PySem.W.Frag) (Z : Hp) : D → V → Prop
  | .non, v => v = .non
  | .bl b, v => v = .bl b
  | .int i, v => v = .int i
  | .str x, v => v = .str x
  | .lst xs, v => ∃ a vs, v = .ref a ∧ Z a = some (.lst vs) ∧ Ats K Z xs vs
  | .tup xs, v => ∃ a vs, v = .ref a ∧ SqT K Z a vs ∧ Ats K Z xs vs
  | .dct ks xs, v => ∃ a kvs, v = .ref a ∧ Z a = some (.dK kvs) ∧ kvs.map (·.1) = ks ∧ Ats K Z xs (kvs.map (·.2))
  | .obj a, v => v = .ref a
def Ats (K : PySem.W.Frag) (Z : Hp) : List D → List V → Prop
  | [], vs => vs = []
  | d :: ds, vs => ∃ w ws, vs = w :: ws ∧ At K Z d w ∧ Ats K Z ds ws
end

theorem seqT {K : PySem.W.Frag} {H H' : Hp} {a : Addr} {xs : List V} (e : Same H H') (h : SqT K H a xs) : SqT K H' a xs := by
  rcases h with (h | ⟨o, h⟩) | h
  · exact .inl (.inl (e _ _ h))
  · exact .inl (.inr ⟨o, e _ _ h⟩)
  · exact .inr h
section
variable {K : PySem.W.Frag} {Z Z' : Hp}
mutual
theorem At.mono (e : Same Z Z') : ∀ (d : D) (v : V), At K Z d v → At K Z' d v
  | .non, _, h => h
  | .bl _, _, h => h
  | .int _, _, h => h
  | .str _, _, h => h
  | .lst xs, v, h => by
    simp only [At] at h ⊢
    obtain ⟨a, vs, h1, h2, h3⟩ := h
    exact ⟨a, vs, h1, e _ _ h2, Ats.mono e xs vs h3⟩
  | .tup xs, v, h => by
    simp only [At] at h ⊢
    obtain ⟨a, vs, h1, h2, h3⟩ := h
    exact ⟨a, vs, h1, seqT e h2, Ats.mono e xs vs h3⟩
  | .dct ks xs, v, h => by
    simp only [At] at h ⊢
    obtain ⟨a, vs, h1, h2, h3, h4⟩ := h
    exact ⟨a, vs, h1, e _ _ h2, h3, Ats.mono e xs _ h4⟩
  | .obj _, _, h => h
theorem Ats.mono (e : Same Z Z') : ∀ (ds : List D) (vs : List V), Ats K Z ds vs → Ats K Z' ds vs
  | [], _, h => h
  | d :: ds, vs, h => by
    simp only [Ats] at h ⊢
    obtain ⟨w, ws, h1, h2, h3⟩ := h
    exact ⟨w, ws, h1, At.mono e d w h2, Ats.mono e ds ws h3⟩
end
theorem Ats.len : ∀ {ds : List D} {vs : List V}, Ats K Z ds vs → vs.length = ds.length
  | [], _, h => by simp only [Ats] at h; subst h; rfl
  | d :: ds, vs, h => by
    simp only [Ats] at h
    obtain ⟨w, ws, rfl, _, h3⟩ := h
    simp [Ats.len h3]
theorem Ats.get : ∀ {ds : List D} {vs : List V} {i : Nat} {d : D}, Ats K Z ds vs → ds[i]? = some d → ∃ v, vs[i]? = some v ∧ At K Z d v
  | [], _, _, _, _, e => by simp at e
  | d :: ds, vs, i, d', h, e => by
    simp only [Ats] at h
    obtain ⟨w, ws, rfl, h2, h3⟩ := h
    cases i with
    | zero => simp at e; subst e; exact ⟨w, rfl, h2⟩
    | succ i =>
      obtain ⟨v, h4, h5⟩ := Ats.get (i := i) h3 (by simpa using e)
      exact ⟨v, by simpa using h4, h5⟩
theorem Ats.append : ∀ {ds es : List D} {vs ws : List V}, Ats K Z ds vs → Ats K Z es ws → Ats K Z (ds ++ es) (vs ++ ws)
  | [], _, _, _, h, h' => by simp only [Ats] at h; subst h; exact h'
  | d :: ds, es, vs, ws, h, h' => by
    simp only [Ats] at h
    obtain ⟨w, vs, rfl, h2, h3⟩ := h
    exact ⟨w, vs ++ ws, rfl, h2, Ats.append h3 h'⟩
theorem Ats.take : ∀ {ds : List D} {vs : List V} (n : Nat), Ats K Z ds vs → Ats K Z (ds.take n) (vs.take n)
  | _, _, 0, _ => by simp [Ats]
  | [], _, n + 1, h => by simp only [Ats] at h; subst h; simp [Ats]
  | d :: ds, vs, n + 1, h => by
    simp only [Ats] at h
    obtain ⟨w, vs, rfl, h2, h3⟩ := h
    exact ⟨w, vs.take n, rfl, h2, Ats.take n h3⟩
theorem Ats.drop : ∀ {ds : List D} {vs : List V} (n : Nat), Ats K Z ds vs → Ats K Z (ds.drop n) (vs.drop n)
  | _, _, 0, h => h
  | [], _, n + 1, h => by simp only [Ats] at h; subst h; simp [Ats]
  | d :: ds, vs, n + 1, h => by
    simp only [Ats] at h
    obtain ⟨w, vs, rfl, h2, h3⟩ := h
    exact Ats.drop n h3
theorem Ats.set : ∀ {ds : List D} {vs : List V} (n : Nat) {d : D} {v : V}, Ats K Z ds vs → At K Z d v → Ats K Z (ds.set n d) (vs.set n v)
  | [], _, _, _, _, h, _ => by simp only [Ats] at h; subst h; simp [Ats]
  | d :: ds, vs, 0, _, _, h, h' => by
    simp only [Ats] at h
    obtain ⟨w, vs, rfl, h2, h3⟩ := h
    exact ⟨_, vs, rfl, h', h3⟩
  | d :: ds, vs, n + 1, d', v', h, h' => by
    simp only [Ats] at h
    obtain ⟨w, vs, rfl, h2, h3⟩ := h
    exact ⟨w, vs.set n v', rfl, h2, Ats.set n h3 h'⟩
theorem Ats.of_append : ∀ {ds es : List D} {us : List V}, Ats K Z (ds ++ es) us → ∃ vs ws, us = vs ++ ws ∧ Ats K Z ds vs ∧ Ats K Z es ws
  | [], _, us, h => ⟨[], us, rfl, rfl, h⟩
  | d :: ds, es, us, h => by
    simp only [List.cons_append, Ats] at h
    obtain ⟨w, us, rfl, h2, h3⟩ := h
    obtain ⟨vs, ws, rfl, h4, h5⟩ := Ats.of_append h3
    exact ⟨w :: vs, ws, rfl, ⟨w, vs, rfl, h2, h4⟩, h5⟩
theorem Ats.reverse : ∀ {ds : List D} {vs : List V}, Ats K Z ds vs → Ats K Z ds.reverse vs.reverse
  | [], _, h => by simp only [Ats] at h; subst h; simp [Ats]
  | d :: ds, vs, h => by
    simp only [Ats] at h
    obtain ⟨w, vs, rfl, h2, h3⟩ := h
    simp only [List.reverse_cons]
    exact Ats.append (Ats.reverse h3) ⟨w, [], rfl, h2, rfl⟩
theorem Ats.ints : ∀ {ns : List Int} {vs : List V}, Ats K Z (ns.map D.int) vs → vs = ns.map V.int
  | [], _, h => h
  | n :: ns, vs, h => by
    simp only [List.map_cons, Ats] at h
    obtain ⟨w, ws, rfl, h2, h3⟩ := h
    simp only [At] at h2
    subst h2
    rw [Ats.ints h3]; rfl
theorem Ats.of_ints : ∀ (ns : List Int), Ats K Z (ns.map D.int) (ns.map V.int)
  | [] => rfl
  | n :: ns => ⟨_, _, rfl, rfl, Ats.of_ints ns⟩
theorem Ats.bls : ∀ {ns : List Bool} {vs : List V}, Ats K Z (ns.map D.bl) vs → vs = ns.map V.bl
  | [], _, h => h
  | n :: ns, vs, h => by
    simp only [List.map_cons, Ats] at h
    obtain ⟨w, ws, rfl, h2, h3⟩ := h
    simp only [At] at h2
    subst h2
    rw [Ats.bls h3]; rfl
theorem Ats.strs : ∀ {ns : List Str} {vs : List V}, Ats K Z (ns.map D.str) vs → vs = ns.map V.str
  | [], _, h => h
  | n :: ns, vs, h => by
    simp only [List.map_cons, Ats] at h
    obtain ⟨w, ws, rfl, h2, h3⟩ := h
    simp only [At] at h2
    subst h2
    rw [Ats.strs h3]; rfl
end

inductive L where | val (d : D) | own (ds : List D)
structure S (γ : Type) where
  ρ : List (Option L)
  g : γ
structure GP (γ : Type) where
  K : PySem.W.Frag
  foot : γ → Addr → Prop
  J : γ → Hp → Prop
  stay : ∀ g H H', J g H → (∀ a, foot g a → H' a = H a) → J g H'
  live : ∀ g H a, J g H → foot g a → ∃ o, H a = some o
  /-- what is known to be settled -/
  fl : Hp := fun _ => none
def none0 (K : PySem.W.Frag) : GP Unit := ⟨K, fun _ _ => False, fun _ _ => True, fun _ _ _ _ _ => trivial, fun _ _ _ _ h => h.elim, fun _ => none⟩

structure Fra where
  F : Hp
  B : Addr → Prop
  bf : ∀ a, B a → ∃ o, F a = some o
variable {γ : Type}
structure Rel (G : GP γ) (F : Fra) (Z : Hp) (s : S γ) (σ : St) (H : Hp) : Prop where
  z : Same Z H
  f : Same F.F H
  zb : ∀ a, F.B a → Z a = none
  len : σ.length = s.ρ.length
  loc : ∀ (i : Nat) (d : D), s.ρ[i]? = some (some (.val d)) → ∃ v, σ[i]? = some (some v) ∧ At G.K Z d v
  own : ∀ (i : Nat) (ds : List D), s.ρ[i]? = some (some (.own ds)) → ∃ a vs, σ[i]? = some (some (.ref a)) ∧ H a = some (.lst vs) ∧ Ats G.K Z ds vs ∧ Z a = none ∧ F.F a = none ∧ ¬ G.foot s.g a
  inj : ∀ (i j : Nat) (ds es : List D) (a : Addr), i ≠ j → s.ρ[i]? = some (some (.own ds)) → s.ρ[j]? = some (some (.own es)) → σ[i]? = some (some (.ref a)) → σ[j]? = some (some (.ref a)) → False
  j : G.J s.g H
  zf : ∀ a, G.foot s.g a → Z a = none
  ff : ∀ a, G.foot s.g a → F.F a = none
  fl : Same G.fl Z
structure Wk (s s' : S γ) : Prop where
  g : s'.g = s.g
  len : s'.ρ.length = s.ρ.length
  le : ∀ (i : Nat) l, s'.ρ[i]? = some (some l) → s.ρ[i]? = some (some l)
theorem Wk.refl (s : S γ) : Wk s s := ⟨rfl, rfl, fun _ _ h => h⟩
section
variable {G : GP γ} {F : Fra} {Z : Hp} {s s' : S γ} {σ : St} {H H' : Hp}
theorem Fra.nb {F : Fra} {a : Addr} (h : F.F a = none) : ¬ F.B a := fun b => by
  obtain ⟨o, e⟩ := F.bf a b
  rw [h] at e; cases e
theorem Rel.weak (r : Rel G F Z s σ H) (w : Wk s s') : Rel G F Z s' σ H := by
  obtain ⟨g', ρ'⟩ := s'
  obtain ⟨hg, hl, he⟩ := w
  simp only at hg
  subst hg
  exact ⟨r.z, r.f, r.zb, r.len.trans hl.symm, fun i d h => r.loc i d (he _ _ h), fun i ds h => r.own i ds (he _ _ h), fun i j ds es a n h1 h2 => r.inj i j ds es a n (he _ _ h1) (he _ _ h2), r.j, r.zf, r.ff, r.fl⟩
theorem Rel.grow (r : Rel G F Z s σ H) (k : Same H H') : Rel G F Z s σ H' :=
  ⟨r.z.trans k, r.f.trans k, r.zb, r.len, r.loc, fun i ds h => let ⟨a, vs, h1, h2, h3⟩ := r.own i ds h; ⟨a, vs, h1, k _ _ h2, h3⟩, r.inj,
    G.stay _ _ _ r.j fun a h => by
      obtain ⟨o, e⟩ := G.live _ _ _ r.j h
      rw [e, k _ _ e], r.zf, r.ff, r.fl⟩
theorem same_upd {p : Addr} {o : HO} (h : H p = none) : Same H (upd H p o) := fun b x e => by
  rw [upd_ne (ne_of_none e h)]
  exact e
theorem same_upd2 {p : Addr} {o : HO} (k : Same Z H) (h : H p = some o) (hz : Z p = none) : Same (upd Z p o) H := fun b x e => by
  by_cases hb : b = p
  · subst hb; rw [upd_same] at e; rw [h, ← e]
  · rw [upd_ne hb] at e; exact k _ _ e
theorem Rel.settle (r : Rel G F Z s σ H) {p : Addr} {o : HO} (hp : H p = some o) (hz : Z p = none) (hf : ¬ G.foot s.g p) (hb : ¬ F.B p)
    (ho : ∀ (i : Nat) (ds : List D), s.ρ[i]? = some (some (.own ds)) → σ[i]? ≠ some (some (.ref p))) : Rel G F (upd Z p o) s σ H := by
  have k := same_upd (o := o) hz
  refine ⟨same_upd2 r.z hp hz, r.f, fun a h => by rw [upd_ne (show a ≠ p from fun e => hb (by rw [← e]; exact h))]; exact r.zb a h, r.len, fun i d h => ?_, fun i ds h => ?_, r.inj, r.j, fun a h => ?_, r.ff, r.fl.trans k⟩
  · obtain ⟨v, h1, h2⟩ := r.loc i d h
    exact ⟨v, h1, At.mono k _ _ h2⟩
  · obtain ⟨a, vs, h1, h2, h3, h4, h5⟩ := r.own i ds h
    refine ⟨a, vs, h1, h2, Ats.mono k _ _ h3, ?_, h5⟩
    rw [upd_ne (show a ≠ p from fun e => ho i ds h (by rw [← e]; exact h1))]
    exact h4
  · rw [upd_ne (show a ≠ p from fun e => hf (by rw [← e]; exact h))]
    exact r.zf a h
theorem Rel.new (r : Rel G F Z s σ H) {p : Addr} {o : HO} (hp : H p = none) : Rel G F (upd Z p o) s σ (upd H p o) := by
  have k := same_upd (o := o) hp
  refine (r.grow k).settle upd_same (r.z.free hp) (fun h => ?_) (Fra.nb (r.f.free hp)) fun i ds h e => ?_
  · obtain ⟨o, e⟩ := G.live _ _ _ r.j h
    rw [hp] at e; cases e
  · obtain ⟨a, vs, h1, h2, _⟩ := r.own i ds h
    rw [h1] at e
    cases e
    rw [hp] at h2; cases h2
theorem Rel.put (r : Rel G F Z s σ H) {i : Nat} {d : D} {v : V} (h : At G.K Z d v) : Rel G F Z ⟨s.ρ.set i (some (.val d)), s.g⟩ (σ.set i (some v)) H := by
  refine ⟨r.z, r.f, r.zb, by simpa using r.len, fun j e hj => ?_, fun j ds hj => ?_, fun j k ds es a n h1 h2 h3 h4 => ?_, r.j, r.zf, r.ff, r.fl⟩
  · by_cases hij : i = j
    · subst hij
      have hl : i < s.ρ.length := by
        have := (List.getElem?_eq_some_iff.mp hj).1
        simpa using this
      rw [List.getElem?_set_self hl] at hj
      cases hj
      exact ⟨v, by rw [List.getElem?_set_self (by rw [r.len]; exact hl)], h⟩
    · rw [List.getElem?_set_ne hij] at hj
      rw [List.getElem?_set_ne hij]
      exact r.loc j e hj
  · have hij : i ≠ j := by
      intro e
      subst e
      have hl : i < s.ρ.length := by
        have := (List.getElem?_eq_some_iff.mp hj).1
        simpa using this
      rw [List.getElem?_set_self hl] at hj
      cases hj
    rw [List.getElem?_set_ne hij] at hj
    rw [List.getElem?_set_ne hij]
    exact r.own j ds hj
  · have ne : ∀ {j : Nat} {ds : List D}, (s.ρ.set i (some (L.val d)))[j]? = some (some (.own ds)) → i ≠ j := fun {j ds} hj e => by
      subst e
      have hl : i < s.ρ.length := by
        have := (List.getElem?_eq_some_iff.mp hj).1
        simpa using this
      rw [List.getElem?_set_self hl] at hj
      cases hj
    have n1 := ne h1
    have n2 := ne h2
    rw [List.getElem?_set_ne n1] at h1 h3
    rw [List.getElem?_set_ne n2] at h2 h4
    exact r.inj j k ds es a n h1 h2 h3 h4
theorem Rel.putOwn (r : Rel G F Z s σ H) {i : Nat} {ds : List D} {a : Addr} {vs : List V} (ha : H a = some (.lst vs)) (h : Ats G.K Z ds vs) (hz : Z a = none) (hF : F.F a = none) (hf : ¬ G.foot s.g a)
    (ho : ∀ (i : Nat) (ds : List D), s.ρ[i]? = some (some (.own ds)) → σ[i]? ≠ some (some (.ref a))) : Rel G F Z ⟨s.ρ.set i (some (.own ds)), s.g⟩ (σ.set i (some (.ref a))) H := by
  have at_i : ∀ {l : L}, (s.ρ.set i (some (L.own ds)))[i]? = some (some l) → i < s.ρ.length ∧ l = .own ds := fun {l} hj => by
    have hl : i < s.ρ.length := by
      have := (List.getElem?_eq_some_iff.mp hj).1
      simpa using this
    rw [List.getElem?_set_self hl] at hj
    cases hj
    exact ⟨hl, rfl⟩
  have other : ∀ {j : Nat} {es : List D}, i ≠ j → (s.ρ.set i (some (L.own ds)))[j]? = some (some (.own es)) → (σ.set i (some (V.ref a)))[j]? ≠ some (some (.ref a)) := fun {j es} n h1 => by
    rw [List.getElem?_set_ne n] at h1 ⊢
    exact ho j es h1
  refine ⟨r.z, r.f, r.zb, by simpa using r.len, fun j e hj => ?_, fun j es hj => ?_, fun j k es fs b n h1 h2 h3 h4 => ?_, r.j, r.zf, r.ff, r.fl⟩
  · have hij : i ≠ j := by
      intro e; subst e
      obtain ⟨_, e⟩ := at_i hj
      cases e
    rw [List.getElem?_set_ne hij] at hj ⊢
    exact r.loc j e hj
  · by_cases hij : i = j
    · subst hij
      obtain ⟨hl, e⟩ := at_i hj
      cases e
      exact ⟨a, vs, List.getElem?_set_self (by rw [r.len]; exact hl), ha, h, hz, hF, hf⟩
    · rw [List.getElem?_set_ne hij] at hj ⊢
      exact r.own j es hj
  · by_cases hij : i = j
    · subst hij
      obtain ⟨hl, e⟩ := at_i h1
      rw [List.getElem?_set_self (by rw [r.len]; exact hl)] at h3
      cases h3
      exact other n h2 h4
    · by_cases hik : i = k
      · subst hik
        obtain ⟨hl, e⟩ := at_i h2
        rw [List.getElem?_set_self (by rw [r.len]; exact hl)] at h4
        cases h4
        exact other (Ne.symm n) h1 h3
      · rw [List.getElem?_set_ne hij] at h1 h3
        rw [List.getElem?_set_ne hik] at h2 h4
        exact r.inj j k es fs b n h1 h2 h3 h4
theorem Rel.write (r : Rel G F Z s σ H) {i : Nat} {ds es : List D} {a : Addr} {ws : List V} (hi : s.ρ[i]? = some (some (.own ds))) (ha : σ[i]? = some (some (.ref a))) (h : Ats G.K Z es ws) :
    Rel G F Z ⟨s.ρ.set i (some (.own es)), s.g⟩ σ (upd H a (.lst ws)) := by
  obtain ⟨b, vs, h1, h2, h3, h4, h5, h6⟩ := r.own i ds hi
  rw [ha] at h1
  cases h1
  have hl : i < s.ρ.length := (List.getElem?_eq_some_iff.mp hi).1
  have back : ∀ {j : Nat} {fs : List D}, (s.ρ.set i (some (L.own es)))[j]? = some (some (.own fs)) → ∃ fs', s.ρ[j]? = some (some (.own fs')) := fun {j fs} hj => by
    by_cases hij : i = j
    · subst hij; exact ⟨ds, hi⟩
    · rw [List.getElem?_set_ne hij] at hj; exact ⟨fs, hj⟩
  refine ⟨fun b o e => ?_, fun b o e => ?_, r.zb, by simpa using r.len, fun j e hj => ?_, fun j fs hj => ?_, fun j k fs gs b n h1 h2 h3 h4 => ?_, G.stay _ _ _ r.j fun b hb => ?_, r.zf, r.ff, r.fl⟩
  · rw [upd_ne (ne_of_none e h4)]; exact r.z _ _ e
  · rw [upd_ne (ne_of_none e h5)]; exact r.f _ _ e
  · have hij : i ≠ j := by
      intro e; subst e
      rw [List.getElem?_set_self hl] at hj
      cases hj
    rw [List.getElem?_set_ne hij] at hj
    exact r.loc j e hj
  · by_cases hij : i = j
    · subst hij
      rw [List.getElem?_set_self hl] at hj
      cases hj
      exact ⟨a, ws, ha, upd_same, h, h4, h5, h6⟩
    · rw [List.getElem?_set_ne hij] at hj
      obtain ⟨c, us, k1, k2, k3⟩ := r.own j fs hj
      refine ⟨c, us, k1, ?_, k3⟩
      rw [upd_ne]
      · exact k2
      · intro e; subst e
        exact r.inj i j ds fs c hij hi hj ha k1
  · obtain ⟨fs', e1⟩ := back h1
    obtain ⟨gs', e2⟩ := back h2
    exact r.inj j k fs' gs' b n e1 e2 h3 h4
  · exact upd_ne fun e => h6 (e ▸ hb)
theorem Rel.freeze (r : Rel G F Z s σ H) {i : Nat} {ds : List D} (hi : s.ρ[i]? = some (some (.own ds))) :
    ∃ a Z', Same Z Z' ∧ σ[i]? = some (some (.ref a)) ∧ At G.K Z' (.lst ds) (.ref a) ∧ Rel G F Z' ⟨s.ρ.set i (some (.val (.lst ds))), s.g⟩ σ H := by
  obtain ⟨a, vs, h1, h2, h3, h4, h5, h6⟩ := r.own i ds hi
  have hl : i < s.ρ.length := (List.getElem?_eq_some_iff.mp hi).1
  have k := same_upd (o := HO.lst vs) h4
  have at' : At G.K (upd Z a (.lst vs)) (.lst ds) (.ref a) := ⟨a, vs, rfl, upd_same, Ats.mono k _ _ h3⟩
  refine ⟨a, upd Z a (.lst vs), k, h1, at', same_upd2 r.z h2 h4, r.f, fun b hb => by rw [upd_ne (show b ≠ a from fun e => Fra.nb h5 (by rw [← e]; exact hb))]; exact r.zb b hb, by simpa using r.len, fun j e hj => ?_, fun j fs hj => ?_, fun j k fs gs b n q1 q2 q3 q4 => ?_, r.j, fun b hb => ?_, r.ff, r.fl.trans k⟩
  · by_cases hij : i = j
    · subst hij
      rw [List.getElem?_set_self hl] at hj
      cases hj
      exact ⟨_, h1, at'⟩
    · rw [List.getElem?_set_ne hij] at hj
      obtain ⟨v, k1, k2⟩ := r.loc j e hj
      exact ⟨v, k1, At.mono k _ _ k2⟩
  · have hij : i ≠ j := by
      intro e; subst e
      rw [List.getElem?_set_self hl] at hj
      cases hj
    rw [List.getElem?_set_ne hij] at hj
    obtain ⟨c, us, k1, k2, k3, k4, k5⟩ := r.own j fs hj
    refine ⟨c, us, k1, k2, Ats.mono k _ _ k3, ?_, k5⟩
    rw [upd_ne]
    · exact k4
    · intro e; subst e
      exact r.inj i j ds fs c hij hi hj h1 k1
  · have ne : ∀ {j : Nat} {fs : List D}, (s.ρ.set i (some (L.val (.lst ds))))[j]? = some (some (.own fs)) → s.ρ[j]? = some (some (.own fs)) := fun {j fs} hj => by
      by_cases hij : i = j
      · subst hij
        rw [List.getElem?_set_self hl] at hj
        cases hj
      · rw [List.getElem?_set_ne hij] at hj; exact hj
    exact r.inj j k fs gs b n (ne q1) (ne q2) q3 q4
  · rw [upd_ne (show b ≠ a from fun e => h6 (by rw [← e]; exact hb))]
    exact r.zf b hb
end
end Pm

set_option Elab.async false
set_option linter.all false
set_option maxRecDepth 100000
set_option maxHeartbeats 1000000
set_option autoImplicit false
namespace Pm
open PySem PySem.Spec
open PyProof.Rows hiding St
open L2
variable {γ : Type}

abbrev PEx (γ : Type) := S γ → (D → S γ → Prop) → Prop
abbrev PTx (γ : Type) := S γ → (Bool → S γ → Prop) → Prop
abbrev PAx (γ : Type) := S γ → (List D → S γ → Prop) → Prop
abbrev POx (γ : Type) := S γ → (Option Int → S γ → Prop) → Prop
structure En (γ : Type) where
  nx : S γ → Prop
  rt : D → γ → Prop
  bk : S γ → Prop := fun _ => False
  ct : S γ → Prop := fun _ => False
abbrev PSx (γ : Type) := En γ → S γ → Prop
abbrev PGx (γ : Type) := D → S γ → (S γ → Prop) → Prop
abbrev DK := D → Prop

def lE (G : GP γ) (t : PEx γ) : TE := fun σ H Q => ∃ F Z s R, Rel G F Z s σ H ∧ t s R ∧ ∀ d s' Z' v H', R d s' → Same Z Z' → Rel G F Z' s' σ H' → At G.K Z' d v → Q v H'
def lT (G : GP γ) (t : PTx γ) : TT := fun σ H Q => ∃ F Z s R, Rel G F Z s σ H ∧ t s R ∧ ∀ b s' Z' H', R b s' → Same Z Z' → Rel G F Z' s' σ H' → Q b H'
def lA (G : GP γ) (t : PAx γ) : TA := fun σ H Q => ∃ F Z s R, Rel G F Z s σ H ∧ t s R ∧ ∀ ds s' Z' vs H', R ds s' → Same Z Z' → Rel G F Z' s' σ H' → Ats G.K Z' ds vs → Q vs H'
def lO (G : GP γ) (t : POx γ) : TO := fun σ H Q => ∃ F Z s R, Rel G F Z s σ H ∧ t s R ∧ ∀ o s' Z' H', R o s' → Same Z Z' → Rel G F Z' s' σ H' → Q o H'
def lF (G : GP γ) (t : PAx γ) : TE := fun σ H Q => ∃ F Z s R, Rel G F Z s σ H ∧ t s R ∧ ∀ ds s' Z' a vs H', R ds s' → Same Z Z' → Rel G F Z' s' σ H' → H' a = some (.lst vs) → Ats G.K Z' ds vs → Z' a = none → F.F a = none → ¬ G.foot s'.g a →
  (∀ (i : Nat) (es : List D), s'.ρ[i]? = some (some (.own es)) → σ[i]? ≠ some (some (.ref a))) → Q (.ref a) H'
def lS (G : GP γ) (t : PSx γ) : TS := fun De σ H => ∃ F Z s E, Rel G F Z s σ H ∧ t E s ∧
  (∀ s' Z' σ' H', E.nx s' → Same Z Z' → Rel G F Z' s' σ' H' → De.nx σ' H') ∧
  (∀ d s' Z' σ' v H', E.rt d s'.g → Same Z Z' → Rel G F Z' s' σ' H' → At G.K Z' d v → De.rt v H') ∧
  (∀ s' Z' σ' H', E.bk s' → Same Z Z' → Rel G F Z' s' σ' H' → De.bk σ' H') ∧
  (∀ s' Z' σ' H', E.ct s' → Same Z Z' → Rel G F Z' s' σ' H' → De.ct σ' H')
def lG (G : GP γ) (js : List Nat) (t : PGx γ) : TG := fun v σ H Q => ∃ F Z s d R, Rel G F Z s σ H ∧ At G.K Z d v ∧ t d s R ∧
  ∀ s' Z' σ' H', R s' → Same Z Z' → Rel G F Z' s' σ' H' → H' = H → (∀ j, j ∉ js → σ'[j]? = σ[j]?) → σ'.length = σ.length → Q σ' H'

abbrev QE (X : Cx) (G : GP γ) (e : Expr) (t : PEx γ) : Prop := PE X e (lE G t)
abbrev QF (X : Cx) (G : GP γ) (e : Expr) (t : PAx γ) : Prop := PE X e (lF G t)
abbrev QT (X : Cx) (G : GP γ) (e : Expr) (t : PTx γ) : Prop := PT X e (lT G t)
abbrev QW (X : Cx) (G : GP γ) (e : Expr) (t : PTx γ) : Prop := PW X e (lT G t)
abbrev QA (X : Cx) (G : GP γ) (es : List Expr) (t : PAx γ) : Prop := PA X es (lA G t)
abbrev QO (X : Cx) (G : GP γ) (e : Option Expr) (t : POx γ) : Prop := PO X e (lO G t)
abbrev QS (X : Cx) (G : GP γ) (st : Stmt) (t : PSx γ) : Prop := PS X st (lS G t)
abbrev QSs (X : Cx) (G : GP γ) (st : List Stmt) (t : PSx γ) : Prop := PSs X st (lS G t)
abbrev QG (X : Cx) (G : GP γ) (js : List Nat) (tg : Expr) (t : PGx γ) : Prop := PG X tg (lG G js t)

theorem PE.imp {X : Cx} {e : Expr} {t t' : TE} (h : PE X e t) (k : ∀ σ H Q, t' σ H Q → t σ H Q) : PE X e t' := ⟨fun pins s σ H Q I w => h.run pins s σ H Q I (k _ _ _ w)⟩
theorem PT.imp {X : Cx} {e : Expr} {t t' : TT} (h : PT X e t) (k : ∀ σ H Q, t' σ H Q → t σ H Q) : PT X e t' := ⟨fun pins s σ H Q I w => h.run pins s σ H Q I (k _ _ _ w)⟩
theorem PW.imp {X : Cx} {e : Expr} {t t' : TT} (h : PW X e t) (k : ∀ σ H Q, t' σ H Q → t σ H Q) : PW X e t' := ⟨fun wh pins s σ H Q I w => h.run wh pins s σ H Q I (k _ _ _ w)⟩
theorem PA.imp {X : Cx} {e : List Expr} {t t' : TA} (h : PA X e t) (k : ∀ σ H Q, t' σ H Q → t σ H Q) : PA X e t' := ⟨fun pos pins s σ H Q I w => h.run pos pins s σ H Q I (k _ _ _ w)⟩
theorem PO.imp {X : Cx} {e : Option Expr} {t t' : TO} (h : PO X e t) (k : ∀ σ H Q, t' σ H Q → t σ H Q) : PO X e t' := ⟨fun pins s σ H Q I w => h.run pins s σ H Q I (k _ _ _ w)⟩
theorem PS.imp {X : Cx} {e : Stmt} {t t' : TS} (h : PS X e t) (k : ∀ De σ H, t' De σ H → t De σ H) : PS X e t' := ⟨fun pins s σ H De I w => h.run pins s σ H De I (k _ _ _ w)⟩
theorem PSs.imp {X : Cx} {e : List Stmt} {t t' : TS} (h : PSs X e t) (k : ∀ De σ H, t' De σ H → t De σ H) : PSs X e t' := ⟨fun pins s σ H De I w => h.run pins s σ H De I (k _ _ _ w)⟩
theorem PG.imp {X : Cx} {e : Expr} {t t' : TG} (h : PG X e t) (k : ∀ v σ H Q, t' v σ H Q → t v σ H Q) : PG X e t' := ⟨fun pins s σ H v u Q I r w => h.run pins s σ H v u Q I r (k _ _ _ _ w)⟩

structure Ext (Z H Z' H' : Hp) : Prop where
  hh : Same H H'
  zz : Same Z Z'
  zh : Same Z' H'
  nw : ∀ a o, Z' a = some o → Z a = none → H a = none
theorem Ext.refl {Z H : Hp} (k : Same Z H) : Ext Z H Z H := ⟨Same.refl _, Same.refl _, k, fun a o h h' => by rw [h] at h'; cases h'⟩
theorem Ext.new {Z H : Hp} {p : Addr} {o : HO} (k : Same Z H) (hp : H p = none) : Ext Z H (upd Z p o) (upd H p o) := by
  have zp := k.free hp
  refine ⟨same_upd hp, same_upd zp, fun a u e => ?_, fun a u e n => ?_⟩
  · by_cases h : a = p
    · subst h; rw [upd_same] at e ⊢; exact e
    · rw [upd_ne h] at e ⊢; exact k _ _ e
  · by_cases h : a = p
    · rw [h]; exact hp
    · rw [upd_ne h, n] at e; cases e
theorem Ext.trans {Z H Z1 H1 Z2 H2 : Hp} (a : Ext Z H Z1 H1) (b : Ext Z1 H1 Z2 H2) : Ext Z H Z2 H2 := by
  refine ⟨a.hh.trans b.hh, a.zz.trans b.zz, b.zh, fun c o e n => ?_⟩
  cases q : Z1 c with
  | none => exact a.hh.free (b.nw c o e q)
  | some u => exact a.nw c u q n
section
variable {G : GP γ} {F : Fra} {Z Z' : Hp} {s : S γ} {σ : St} {H H' : Hp}
theorem Rel.ext (r : Rel G F Z s σ H) (x : Ext Z H Z' H') : Rel G F Z' s σ H' := by
  have zn : ∀ {a : Addr}, Z a = none → (∃ o, H a = some o) → Z' a = none := fun {a} n ⟨o, e⟩ => by
    cases q : Z' a with
    | none => rfl
    | some u => have := x.nw a u q n; rw [e] at this; cases this
  refine ⟨x.zh, r.f.trans x.hh, fun a h => zn (r.zb a h) (let ⟨o, e⟩ := F.bf a h; ⟨o, r.f _ _ e⟩), r.len, fun i d h => ?_, fun i ds h => ?_, r.inj, (r.grow x.hh).j, fun a h => zn (r.zf a h) (G.live _ _ _ r.j h), r.ff, r.fl.trans x.zz⟩
  · obtain ⟨v, h1, h2⟩ := r.loc i d h
    exact ⟨v, h1, At.mono x.zz _ _ h2⟩
  · obtain ⟨a, vs, h1, h2, h3, h4, h5⟩ := r.own i ds h
    exact ⟨a, vs, h1, x.hh _ _ h2, Ats.mono x.zz _ _ h3, zn h4 ⟨_, h2⟩, h5⟩
end

def dOp2 (K : PySem.W.Frag) (p : D → D → DK → Prop) : R2 := fun x y H Q => ∃ Z d e R, Same Z H ∧ At K Z d x ∧ At K Z e y ∧ p d e R ∧ ∀ z Z' v H', R z → Ext Z H Z' H' → At K Z' z v → Q v H'
def dOp1 (K : PySem.W.Frag) (p : D → DK → Prop) : V → Hp → VK → Prop := fun x H Q => ∃ Z d R, Same Z H ∧ At K Z d x ∧ p d R ∧ ∀ z Z' v H', R z → Ext Z H Z' H' → At K Z' z v → Q v H'
def dCall (K : PySem.W.Frag) (p : List D → DK → Prop) : List V → Hp → VK → Prop := fun xs H Q => ∃ Z ds R, Same Z H ∧ Ats K Z ds xs ∧ p ds R ∧ ∀ z Z' v H', R z → Ext Z H Z' H' → At K Z' z v → Q v H'
def dCallF (K : PySem.W.Frag) (p : List D → (List D → Prop) → Prop) : List V → Hp → VK → Prop := fun xs H Q => ∃ Z ds R, Same Z H ∧ Ats K Z ds xs ∧ p ds R ∧ ∀ zs a vs H', R zs → Same H H' → H a = none → H' a = some (.lst vs) → Ats K Z zs vs → Q (.ref a) H'
def dOp2F (K : PySem.W.Frag) (p : D → D → (List D → Prop) → Prop) : R2 := fun x y H Q => ∃ Z d e R, Same Z H ∧ At K Z d x ∧ At K Z e y ∧ p d e R ∧ ∀ zs a vs H', R zs → Same H H' → H a = none → H' a = some (.lst vs) → Ats K Z zs vs → Q (.ref a) H'

section
variable {X : Cx} {G : GP γ} {a b c e : Expr} {pos : Pos}

def qC (d : D) : PEx γ := fun s R => R d s
theorem qe_of_C {v : V} {d : D} (h : PE X e (tC v)) (k : ∀ Z, At G.K Z d v) : QE X G e (qC d) :=
  PE.imp h fun σ H Q ⟨F, Z, s, R, r, t, q⟩ => q d s Z v H t (Same.refl _) r (k Z)
theorem qe_int {i j} : QE X G (.Constant (.int i) j pos) (qC (.int i)) := qe_of_C pe_int fun _ => rfl
theorem qe_bl {i j} : QE X G (.Constant (.bool i) j pos) (qC (.bl i)) := qe_of_C pe_bl fun _ => rfl
theorem qe_non {j} : QE X G (.Constant .none j pos) (qC .non) := qe_of_C pe_non fun _ => rfl
theorem qe_str {i j} : QE X G (.Constant (.str i) j pos) (qC (.str i)) := qe_of_C pe_str fun _ => rfl
def qVar (i : Nat) : PEx γ := fun s R => match s.ρ[i]? with
  | some (some (.val d)) => R d s
  | some (some (.own ds)) => R (.lst ds) ⟨s.ρ.set i (some (.val (.lst ds))), s.g⟩
  | _ => False
theorem qe_of_var {i : Nat} (h : PE X e (tVar i)) : QE X G e (qVar i) := by
  refine PE.imp h fun σ H Q ⟨F, Z, s, R, r, t, q⟩ => ?_
  unfold qVar at t
  split at t
  · rename_i d hd
    obtain ⟨v, h1, h2⟩ := r.loc i d hd
    exact ⟨v, h1, q d s Z v H t (Same.refl _) r h2⟩
  · rename_i ds hd
    obtain ⟨a, Z', k, h1, h2, r'⟩ := r.freeze hd
    exact ⟨.ref a, h1, q _ _ Z' _ H t k r' h2⟩
  · exact t.elim
theorem qv (i : Nat) {x : Str} {pos : Pos} (hN : X.N[i]? = some x := by rfl) (hv : Vis X.env.scope x := by first | exact Or.inl rfl | exact Or.inr (Or.inl rfl) | exact Or.inr (Or.inr rfl)) (hd : (x == ("__debug__" : Str)) = false := by decide)
    (hcd : (x == ("__classdict__" : Str)) = false := by decide) : QE X G (.Name x pos) (qVar i) := qe_of_var (pe_var hN hv hd hcd)
theorem qe_glob {x : Str} {u : Value} {v : V} {d : D} (hg : Gl X x) (hm : X.mg x = some u) (r : RelV v u) (k : ∀ Z, At G.K Z d v) (hd : (x == ("__debug__" : Str)) = false := by decide) : QE X G (.Name x pos) (qC d) := qe_of_C (pe_glob hg hm r hd) k

def qBin (p : D → D → DK → Prop) (ta tb : PEx γ) : PEx γ := fun s R => ta s fun x s1 => tb s1 fun y s2 => p x y fun z => R z s2
theorem lbin {p : D → D → DK → Prop} {ta tb : PEx γ} {σ : St} {H : Hp} {Q : VK} (h : lE G (qBin p ta tb) σ H Q) : tOp (dOp2 G.K p) (lE G ta) (lE G tb) σ H Q := by
  obtain ⟨F, Z, s, R, r, t, q⟩ := h
  refine ⟨F, Z, s, _, r, t, fun x s1 Z1 v1 H1 t1 k1 r1 a1 => ⟨F, Z1, s1, _, r1, t1, fun y s2 Z2 v2 H2 t2 k2 r2 a2 => ?_⟩⟩
  exact ⟨Z2, x, y, _, r2.z, At.mono k2 _ _ a1, a2, t2, fun z Z3 v H3 t3 x3 a3 => q z s2 Z3 v H3 t3 ((k1.trans k2).trans x3.zz) (r2.ext x3) a3⟩
theorem qe_bin {op : Operator} {p : D → D → DK → Prop} {ta tb : PEx γ} (ho : OpR X (binaryOp op) (dOp2 G.K p)) (ha : QE X G a ta) (hb : QE X G b tb) : QE X G (.BinOp a op b pos) (qBin p ta tb) :=
  PE.imp (pe_op ho ha hb) fun _ _ _ h => lbin h
theorem qe_cmp {op : CmpOp} {p : D → D → DK → Prop} {ta tb : PEx γ} (ho : OpR X (compareOp op) (dOp2 G.K p)) (ha : QE X G a ta) (hb : QE X G b tb) (hm : behindInMarks op b = false) : QE X G (.Compare a [op] [b] pos) (qBin p ta tb) :=
  PE.imp (pe_cmpR ho ha hb hm) fun _ _ _ h => lbin h
def qB (t : PEx γ) : PTx γ := fun s R => t s fun x s1 => match x with | .bl b => R b s1 | _ => False
theorem lB {t : PEx γ} {te : TE} (k : ∀ σ H Q, lE G t σ H Q → te σ H Q) {σ : St} {H : Hp} {Q : Bool → Hp → Prop} (h : lT G (qB t) σ H Q) : te σ H fun x H1 => ∃ c, x = .bl c ∧ Q c H1 := by
  obtain ⟨F, Z, s, R, r, t, q⟩ := h
  refine k _ _ _ ⟨F, Z, s, _, r, t, fun d s1 Z1 v H1 t1 k1 r1 a1 => ?_⟩
  cases d with
  | bl b =>
    have e : v = .bl b := a1
    exact ⟨b, e, q b s1 Z1 H1 t1 k1 r1⟩
  | _ => exact t1.elim
theorem qt_cmp {op : CmpOp} {p : D → D → DK → Prop} {ta tb : PEx γ} (ho : OpR X (compareOp op) (dOp2 G.K p)) (ha : QE X G a ta) (hb : QE X G b tb) (hm : behindInMarks op b = false) : QT X G (.Compare a [op] [b] pos) (qB (qBin p ta tb)) :=
  PT.imp (pt_cmpR ho ha hb hm) fun _ _ _ h => lB (te := tOp (dOp2 G.K p) (lE G ta) (lE G tb)) (fun _ _ _ h => lbin h) h
theorem qt_val {t : PEx γ} (h : QE X G e t) (he : ∀ whole, isTrue e X.env whole = (do let v ← whole; standAt e.pos; holding [v] (truthy v)) := by intro _; rfl) : QT X G e (qB t) :=
  PT.imp (pt_val h he) fun _ _ _ h => lB (fun _ _ _ h => h) h
def qChain (p p' : D → D → DK → Prop) (ta tb tc : PEx γ) : PEx γ := fun s R => ta s fun x s1 => tb s1 fun y s2 => p x y fun z => match z with
  | .bl true => tc s2 fun w s3 => p' y w fun u => R u s3
  | .bl false => R (.bl false) s2
  | _ => False
theorem lchain {p p' : D → D → DK → Prop} {ta tb tc : PEx γ} {σ : St} {H : Hp} {Q : VK} (h : lE G (qChain p p' ta tb tc) σ H Q) : tChain (dOp2 G.K p) (dOp2 G.K p') (lE G ta) (lE G tb) (lE G tc) σ H Q := by
  obtain ⟨F, Z, s, R, r, t, q⟩ := h
  refine ⟨F, Z, s, _, r, t, fun x s1 Z1 v1 H1 t1 k1 r1 a1 => ⟨F, Z1, s1, _, r1, t1, fun y s2 Z2 v2 H2 t2 k2 r2 a2 => ?_⟩⟩
  refine ⟨Z2, x, y, _, r2.z, At.mono k2 _ _ a1, a2, t2, fun z Z3 v H3 t3 x3 a3 => ?_⟩
  have r3 := r2.ext x3
  cases z with
  | bl b =>
    have e : v = .bl b := a3
    refine ⟨b, e, ?_⟩
    cases b with
    | true =>
      rw [if_pos rfl]
      refine ⟨F, Z3, s2, _, r3, t3, fun w s4 Z4 v4 H4 t4 k4 r4 a4 => ?_⟩
      exact ⟨Z4, y, w, _, r4.z, At.mono (x3.zz.trans k4) _ _ a2, a4, t4, fun u Z5 v5 H5 t5 x5 a5 => q u s4 Z5 v5 H5 t5 ((((k1.trans k2).trans x3.zz).trans k4).trans x5.zz) (r4.ext x5) a5⟩
    | false =>
      rw [if_neg Bool.false_ne_true]
      exact q _ s2 Z3 _ H3 t3 ((k1.trans k2).trans x3.zz) r3 rfl
  | _ => exact t3.elim
theorem qe_chain {op op' : CmpOp} {p p' : D → D → DK → Prop} {ta tb tc : PEx γ} (ho : OpR X (compareOp op) (dOp2 G.K p)) (ho' : OpR X (compareOp op') (dOp2 G.K p')) (ha : QE X G a ta) (hb : QE X G b tb) (hc : QE X G c tc)
    (hm : lastMarks [op, op'] [b, c] = false := by rfl) : QE X G (.Compare a [op, op'] [b, c] pos) (qChain p p' ta tb tc) :=
  PE.imp (pe_chain ho ho' ha hb hc hm) fun _ _ _ h => lchain h
theorem qt_chain {op op' : CmpOp} {p p' : D → D → DK → Prop} {ta tb tc : PEx γ} (ho : OpR X (compareOp op) (dOp2 G.K p)) (ho' : OpR X (compareOp op') (dOp2 G.K p')) (ha : QE X G a ta) (hb : QE X G b tb) (hc : QE X G c tc)
    (hm : lastMarks [op, op'] [b, c] = false := by rfl) : QT X G (.Compare a [op, op'] [b, c] pos) (qB (qChain p p' ta tb tc)) :=
  PT.imp (pt_chain ho ho' ha hb hc hm) fun _ _ _ h => lB (te := tChain (dOp2 G.K p) (dOp2 G.K p') (lE G ta) (lE G tb) (lE G tc)) (fun _ _ _ h => lchain h) h
def qUn (p : D → DK → Prop) (ta : PEx γ) : PEx γ := fun s R => ta s fun x s1 => p x fun z => R z s1
theorem qe_un {op : UnaryOp} {p : D → DK → Prop} {ta : PEx γ} (ho : UnR X (unaryOp op) (dOp1 G.K p)) (ha : QE X G a ta) : QE X G (.UnaryOp op a pos) (qUn p ta) := by
  refine PE.imp (pe_un ho ha) fun σ H Q ⟨F, Z, s, R, r, t, q⟩ => ?_
  exact ⟨F, Z, s, _, r, t, fun x s1 Z1 v1 H1 t1 k1 r1 a1 => ⟨Z1, x, _, r1.z, a1, t1, fun z Z3 v H3 t3 x3 a3 => q z s1 Z3 v H3 t3 (k1.trans x3.zz) (r1.ext x3) a3⟩⟩

def Br (b : Bool) (A B : Prop) : Prop := (b = true → A) ∧ (b = false → B)
theorem Br.ite {b : Bool} {A B : Prop} (h : Br b A B) : if b = true then A else B := by
  cases b with
  | true => rw [if_pos rfl]; exact h.1 rfl
  | false => rw [if_neg Bool.false_ne_true]; exact h.2 rfl
def qAndV (ta tb : PEx γ) : PEx γ := fun s R => qB ta s fun b s1 => Br b (tb s1 R) (R (.bl false) s1)
def qOrV (ta tb : PEx γ) : PEx γ := fun s R => qB ta s fun b s1 => Br b (R (.bl true) s1) (tb s1 R)
def qNotV (ta : PEx γ) : PEx γ := fun s R => qB ta s fun b s1 => R (.bl (!b)) s1
theorem lQB {ta : PEx γ} {σ : St} {H : Hp} {F : Fra} {Z : Hp} {s : S γ} {R : Bool → S γ → Prop} {Q : Bool → Hp → Prop} (r : Rel G F Z s σ H) (t : qB ta s R) (q : ∀ b s' Z' H', R b s' → Same Z Z' → Rel G F Z' s' σ H' → Q b H') :
    lE G ta σ H fun x H1 => ∃ c, x = .bl c ∧ Q c H1 := lB (fun _ _ _ h => h) ⟨F, Z, s, R, r, t, q⟩
theorem qe_one {op : BoolOp} {ta : PEx γ} (ha : QE X G a ta) : QE X G (.BoolOp op [a] pos) ta := pe_one ha
theorem qe_and {rest : List Expr} {ta tb : PEx γ} (ha : QE X G a ta) (hb : QE X G (.BoolOp .And (b :: rest) pos) tb) : QE X G (.BoolOp .And (a :: b :: rest) pos) (qAndV ta tb) := by
  refine PE.imp (pe_and ha hb) fun σ H Q ⟨F, Z, s, R, r, t, q⟩ => ?_
  refine lQB r t fun b s1 Z1 H1 t1 k1 r1 => ?_
  cases b with
  | true => rw [if_pos rfl]; exact ⟨F, Z1, s1, R, r1, t1.1 rfl, fun d s' Z' v H' t' k' => q d s' Z' v H' t' (k1.trans k')⟩
  | false => rw [if_neg Bool.false_ne_true]; exact q _ s1 Z1 _ H1 (t1.2 rfl) k1 r1 rfl
theorem qe_or {rest : List Expr} {ta tb : PEx γ} (ha : QE X G a ta) (hb : QE X G (.BoolOp .Or (b :: rest) pos) tb) : QE X G (.BoolOp .Or (a :: b :: rest) pos) (qOrV ta tb) := by
  refine PE.imp (pe_or ha hb) fun σ H Q ⟨F, Z, s, R, r, t, q⟩ => ?_
  refine lQB r t fun b s1 Z1 H1 t1 k1 r1 => ?_
  cases b with
  | true => rw [if_pos rfl]; exact q _ s1 Z1 _ H1 (t1.1 rfl) k1 r1 rfl
  | false => rw [if_neg Bool.false_ne_true]; exact ⟨F, Z1, s1, R, r1, t1.2 rfl, fun d s' Z' v H' t' k' => q d s' Z' v H' t' (k1.trans k')⟩
theorem qe_not {ta : PEx γ} (ha : QE X G a ta) : QE X G (.UnaryOp .Not a pos) (qNotV ta) := by
  refine PE.imp (pe_not ha) fun σ H Q ⟨F, Z, s, R, r, t, q⟩ => ?_
  exact lQB r t fun b s1 Z1 H1 t1 k1 r1 => q _ s1 Z1 _ H1 t1 k1 r1 rfl
def qAnd (ta tb : PTx γ) : PTx γ := fun s R => ta s fun b s1 => Br b (tb s1 R) (R false s1)
def qOr (ta tb : PTx γ) : PTx γ := fun s R => ta s fun b s1 => Br b (R true s1) (tb s1 R)
def qNot (ta : PTx γ) : PTx γ := fun s R => ta s fun b s1 => R (!b) s1
theorem qw_and1 {op : BoolOp} {ta : PTx γ} (ha : QT X G a ta) : QW X G (.BoolOp op [a] pos) ta := by
  first
    | exact pw_and1 ha
    | (cases op; exact pw_and1 ha; exact pw_or1 ha)
theorem qw_and {rest : List Expr} {ta tb : PTx γ} (ha : QT X G a ta) (hb : QW X G (.BoolOp .And (b :: rest) pos) tb) : QW X G (.BoolOp .And (a :: b :: rest) pos) (qAnd ta tb) := by
  refine PW.imp (pw_and ha hb) fun σ H Q ⟨F, Z, s, R, r, t, q⟩ => ?_
  refine ⟨F, Z, s, _, r, t, fun b s1 Z1 H1 t1 k1 r1 => ?_⟩
  cases b with
  | true => rw [if_pos rfl]; exact ⟨F, Z1, s1, R, r1, t1.1 rfl, fun b s' Z' H' t' k' => q b s' Z' H' t' (k1.trans k')⟩
  | false => rw [if_neg Bool.false_ne_true]; exact q _ s1 Z1 H1 (t1.2 rfl) k1 r1
theorem qw_or {rest : List Expr} {ta tb : PTx γ} (ha : QT X G a ta) (hb : QW X G (.BoolOp .Or (b :: rest) pos) tb) : QW X G (.BoolOp .Or (a :: b :: rest) pos) (qOr ta tb) := by
  refine PW.imp (pw_or ha hb) fun σ H Q ⟨F, Z, s, R, r, t, q⟩ => ?_
  refine ⟨F, Z, s, _, r, t, fun b s1 Z1 H1 t1 k1 r1 => ?_⟩
  cases b with
  | true => rw [if_pos rfl]; exact q _ s1 Z1 H1 (t1.1 rfl) k1 r1
  | false => rw [if_neg Bool.false_ne_true]; exact ⟨F, Z1, s1, R, r1, t1.2 rfl, fun b s' Z' H' t' k' => q b s' Z' H' t' (k1.trans k')⟩
theorem qt_not {ta : PTx γ} (ha : QT X G a ta) : QT X G (.UnaryOp .Not a pos) (qNot ta) := by
  refine PT.imp (pt_not ha) fun σ H Q ⟨F, Z, s, R, r, t, q⟩ => ?_
  exact ⟨F, Z, s, _, r, t, fun b s1 Z1 H1 t1 k1 r1 => q _ s1 Z1 H1 t1 k1 r1⟩
def qIfE (tc : PTx γ) (ta tb : PEx γ) : PEx γ := fun s R => tc s fun k s1 => Br k (ta s1 R) (tb s1 R)
theorem qe_if {tc : PTx γ} {ta tb : PEx γ} (hc : QT X G c tc) (ha : QE X G a ta) (hb : QE X G b tb) : QE X G (.IfExp c a b pos) (qIfE tc ta tb) := by
  refine PE.imp (pe_ifExp hc ha hb) fun σ H Q ⟨F, Z, s, R, r, t, q⟩ => ?_
  refine ⟨F, Z, s, _, r, t, fun k s1 Z1 H1 t1 k1 r1 => ?_⟩
  cases k with
  | true => rw [if_pos rfl]; exact ⟨F, Z1, s1, R, r1, t1.1 rfl, fun d s' Z' v H' t' k' => q d s' Z' v H' t' (k1.trans k')⟩
  | false => rw [if_neg Bool.false_ne_true]; exact ⟨F, Z1, s1, R, r1, t1.2 rfl, fun d s' Z' v H' t' k' => q d s' Z' v H' t' (k1.trans k')⟩

def qNil : PAx γ := fun s R => R [] s
def qCons (ta : PEx γ) (tr : PAx γ) : PAx γ := fun s R => ta s fun x s1 => tr s1 fun xs s2 => R (x :: xs) s2
theorem qa_nil : QA X G [] (qNil : PAx γ) := PA.imp pa_nil fun σ H Q ⟨F, Z, s, R, r, t, q⟩ => q [] s Z [] H t (Same.refl _) r rfl
theorem qa_cons {es : List Expr} {ta : PEx γ} {tr : PAx γ} (ha : QE X G e ta) (hr : QA X G es tr) (hs : starEach (e :: es) X.env = (false, eval e X.env) :: starEach es X.env := by rfl) : QA X G (e :: es) (qCons ta tr) := by
  refine PA.imp (pa_cons ha hr hs) fun σ H Q ⟨F, Z, s, R, r, t, q⟩ => ?_
  refine ⟨F, Z, s, _, r, t, fun x s1 Z1 v1 H1 t1 k1 r1 a1 => ⟨F, Z1, s1, _, r1, t1, fun xs s2 Z2 vs H2 t2 k2 r2 a2 => ?_⟩⟩
  exact q _ s2 Z2 _ H2 t2 (k1.trans k2) r2 ⟨v1, vs, rfl, At.mono k2 _ _ a1, a2⟩
def qTup (t : PAx γ) : PEx γ := fun s R => t s fun xs s1 => xs.length ≤ sizeLine ∧ R (.tup xs) s1
def qLst (t : PAx γ) : PAx γ := fun s R => t s fun xs s1 => xs.length ≤ sizeLine ∧ R xs s1
theorem qe_tup {es : List Expr} {t : PAx γ} {x1} (h : QA X G es t) : QE X G (.Tuple es x1 pos) (qTup t) := by
  refine PE.imp (pe_tup h) fun σ H Q ⟨F, Z, s, R, r, t, q⟩ => ?_
  refine ⟨F, Z, s, _, r, t, fun xs s1 Z1 vs H1 t1 k1 r1 a1 => ⟨by rw [a1.len]; exact t1.1, fun p hp => ?_⟩⟩
  have x := Ext.new (o := HO.tup vs) r1.z hp
  exact q _ s1 _ _ _ t1.2 (k1.trans x.zz) (r1.ext x) ⟨p, vs, rfl, .inl (.inl upd_same), Ats.mono x.zz _ _ a1⟩
theorem Rel.fresh {F : Fra} {Z : Hp} {s : S γ} {σ : St} {H : Hp} (r : Rel G F Z s σ H) {p : Addr} (hp : H p = none) : Z p = none ∧ F.F p = none ∧ ¬ G.foot s.g p ∧ ∀ (i : Nat) (es : List D), s.ρ[i]? = some (some (.own es)) → σ[i]? ≠ some (some (.ref p)) := by
  refine ⟨r.z.free hp, r.f.free hp, fun h => ?_, fun i es h e => ?_⟩
  · obtain ⟨o, e⟩ := G.live _ _ _ r.j h
    rw [hp] at e; cases e
  · obtain ⟨a, vs, h1, h2, _⟩ := r.own i es h
    rw [h1] at e; cases e
    rw [hp] at h2; cases h2
theorem qf_lst {es : List Expr} {t : PAx γ} (h : QA X G es t) : QF X G (.List es pos) (qLst t) := by
  refine PE.imp (pe_lst h) fun σ H Q ⟨F, Z, s, R, r, t, q⟩ => ?_
  refine ⟨F, Z, s, _, r, t, fun xs s1 Z1 vs H1 t1 k1 r1 a1 => ⟨by rw [a1.len]; exact t1.1, fun p hp => ?_⟩⟩
  obtain ⟨f1, f2, f3, f4⟩ := r1.fresh hp
  exact q _ s1 Z1 p vs _ t1.2 k1 (r1.grow (same_upd hp)) upd_same a1 f1 f2 f3 f4
def qSet (t : PAx γ) : PEx γ := fun s R => t s fun ds s1 => R (.lst ds) s1
theorem qe_set {t : PAx γ} (h : QF X G e t) : QE X G e (qSet t) := by
  refine PE.imp h fun σ H Q ⟨F, Z, s, R, r, t, q⟩ => ?_
  refine ⟨F, Z, s, _, r, t, fun ds s1 Z1 a vs H1 t1 k1 r1 ha a1 hz hf hg ho => ?_⟩
  have k := same_upd (o := HO.lst vs) hz
  exact q _ s1 (upd Z1 a (.lst vs)) _ H1 t1 (k1.trans k) (r1.settle ha hz hg (Fra.nb hf) ho) ⟨a, vs, rfl, upd_same, Ats.mono k _ _ a1⟩

def qCall (p : List D → DK → Prop) (t : PAx γ) : PEx γ := fun s R => t s fun xs s1 => p xs fun z => R z s1
def qCallF (p : List D → (List D → Prop) → Prop) (t : PAx γ) : PAx γ := fun s R => t s fun xs s1 => p xs fun z => R z s1
theorem lcall {p : List D → DK → Prop} {t : PAx γ} {σ : St} {H : Hp} {Q : VK} (h : lE G (qCall p t) σ H Q) : tCB (dCall G.K p) (lA G t) σ H Q := by
  obtain ⟨F, Z, s, R, r, t, q⟩ := h
  refine ⟨F, Z, s, _, r, t, fun xs s1 Z1 vs H1 t1 k1 r1 a1 => ?_⟩
  exact ⟨Z1, xs, _, r1.z, a1, t1, fun z Z3 v H3 t3 x3 a3 => q z s1 Z3 v H3 t3 (k1.trans x3.zz) (r1.ext x3) a3⟩
theorem lcallF {p : List D → (List D → Prop) → Prop} {t : PAx γ} {σ : St} {H : Hp} {Q : VK} (h : lF G (qCallF p t) σ H Q) : tCB (dCallF G.K p) (lA G t) σ H Q := by
  obtain ⟨F, Z, s, R, r, t, q⟩ := h
  refine ⟨F, Z, s, _, r, t, fun xs s1 Z1 vs H1 t1 k1 r1 a1 => ?_⟩
  refine ⟨Z1, xs, _, r1.z, a1, t1, fun zs a ws H3 t3 k3 hn ha a3 => ?_⟩
  obtain ⟨f1, f2, f3, f4⟩ := r1.fresh hn
  exact q zs s1 Z1 a ws H3 t3 k1 (r1.grow k3) ha a3 f1 f2 f3 f4
section
variable {x : Str} {p : Pos} {es : List Expr} {t : PAx γ} {id T : String}
theorem qe_callB {pr : List D → DK → Prop} (hc : CallR X (.builtin id) (dCall G.K pr)) (hg : Gl X x) (hm : X.mg x = none) (hv : bootBuiltins x = some (.builtin id)) (ha : QA X G (e :: es) t) (hn : x ≠ "__name__" := by decide) (hdb : (x == ("__debug__" : Str)) = false := by decide)
    (he : starEach (e :: es) X.env = (false, eval e X.env) :: starEach es X.env := by rfl) (hpl : (backTo pos (starEach es X.env)).any (·.1) = false := by rfl) : QE X G (.Call (.Name x p) (e :: es) [] pos) (qCall pr t) :=
  PE.imp (pe_callB hc hg hm hv ha hn hdb he hpl) fun _ _ _ h => lcall h
theorem qe_callTy {pr : List D → DK → Prop} (hc : CallR X (.type T) (dCall G.K pr)) (hg : Gl X x) (hm : X.mg x = none) (hv : bootBuiltins x = some (.type T)) (ha : QA X G (e :: es) t) (hn : x ≠ "__name__" := by decide) (hdb : (x == ("__debug__" : Str)) = false := by decide)
    (he : starEach (e :: es) X.env = (false, eval e X.env) :: starEach es X.env := by rfl) (hpl : (backTo pos (starEach es X.env)).any (·.1) = false := by rfl) : QE X G (.Call (.Name x p) (e :: es) [] pos) (qCall pr t) :=
  PE.imp (pe_callTy hc hg hm hv ha hn hdb he hpl) fun _ _ _ h => lcall h
theorem qf_callB {pr : List D → (List D → Prop) → Prop} (hc : CallR X (.builtin id) (dCallF G.K pr)) (hg : Gl X x) (hm : X.mg x = none) (hv : bootBuiltins x = some (.builtin id)) (ha : QA X G (e :: es) t) (hn : x ≠ "__name__" := by decide) (hdb : (x == ("__debug__" : Str)) = false := by decide)
    (he : starEach (e :: es) X.env = (false, eval e X.env) :: starEach es X.env := by rfl) (hpl : (backTo pos (starEach es X.env)).any (·.1) = false := by rfl) : QF X G (.Call (.Name x p) (e :: es) [] pos) (qCallF pr t) :=
  PE.imp (pe_callB hc hg hm hv ha hn hdb he hpl) fun _ _ _ h => lcallF h
theorem qf_callTy {pr : List D → (List D → Prop) → Prop} (hc : CallR X (.type T) (dCallF G.K pr)) (hg : Gl X x) (hm : X.mg x = none) (hv : bootBuiltins x = some (.type T)) (ha : QA X G (e :: es) t) (hn : x ≠ "__name__" := by decide) (hdb : (x == ("__debug__" : Str)) = false := by decide)
    (he : starEach (e :: es) X.env = (false, eval e X.env) :: starEach es X.env := by rfl) (hpl : (backTo pos (starEach es X.env)).any (·.1) = false := by rfl) : QF X G (.Call (.Name x p) (e :: es) [] pos) (qCallF pr t) :=
  PE.imp (pe_callTy hc hg hm hv ha hn hdb he hpl) fun _ _ _ h => lcallF h
end

abbrev Spec (γ : Type) := List D → γ → (D → γ → Prop) → Prop
def spG (G : GP γ) (f : Spec γ) : Sp := fun vs H Q _ => ∃ Z ds g R, Same Z H ∧ Ats G.K Z ds vs ∧ G.J g H ∧ (∀ a, G.foot g a → Z a = none) ∧ f ds g R ∧
  ∀ d g' Z' v H', R d g' → Same Z Z' → Same Z' H' → (∀ a o, H a = some o → ¬ G.foot g a → H' a = some o) → (∀ a o, Z' a = some o → Z a = none → H a = none) → G.J g' H' → (∀ a, G.foot g' a → Z' a = none ∧ (G.foot g a ∨ H a = none)) → At G.K Z' d v → Q v H'
abbrev Spec0 := List D → DK → Prop
def spP (K : PySem.W.Frag) (f : Spec0) : Sp := fun vs H Q _ => ∃ Z ds R, Same Z H ∧ Ats K Z ds vs ∧ f ds R ∧ ∀ d Z' v H', R d → Same Z Z' → Same Z' H' → Same H H' → (∀ a o, Z' a = some o → Z a = none → H a = none) → At K Z' d v → Q v H'
structure Def (X : Cx) (x : Str) (n : Nat) (sp : Sp) : Prop where
  ex : ∃ f fd k ps, FnOk X.prog X.w X.K X.mg X.base CX0 k f fd ps sp ∧ Room k X.A ∧ X.mg x = some (.ref f) ∧ PySem.W.keepIn X.K (.ref f) = true ∧ Binds X.K fd ps [] ∧ ps.length = n
def qCallP (f : Spec0) (t : PAx γ) : PEx γ := fun s R => t s fun xs s1 => f xs fun z => R z s1
def qCallG (f : Spec γ) (t : PAx γ) : PEx γ := fun s R => t s fun xs s1 => f xs s1.g fun z g' => R z ⟨s1.ρ, g'⟩
section
variable {x : Str} {p : Pos} {es : List Expr} {t : PAx γ} {n : Nat}
theorem lcallP {f : Spec0} {σ : St} {H : Hp} {Q : VK} (h : lE G (qCallP f t) σ H Q) : tCall (spP G.K f) [] E0 (lA G t) σ H Q := by
  obtain ⟨F, Z, s, R, r, t, q⟩ := h
  refine ⟨F, Z, s, _, r, t, fun xs s1 Z1 vs H1 t1 k1 r1 a1 => ?_⟩
  refine ⟨Z1, xs, _, r1.z, by rw [List.append_nil]; exact a1, t1, fun z Z3 v H3 t3 k3 z3 h3 n3 a3 => ?_⟩
  exact q z s1 Z3 v H3 t3 (k1.trans k3) (r1.ext ⟨h3, k3, z3, n3⟩) a3
theorem qe_call {f : Spec0} (d : Def X x n (spP G.K f)) (hg : Gl X x) (ha : QA X G (e :: es) t) (hdb : (x == ("__debug__" : Str)) = false := by decide) (he : starEach (e :: es) X.env = (false, eval e X.env) :: starEach es X.env := by rfl) (hpl : (backTo pos (starEach es X.env)).any (·.1) = false := by rfl) :
    QE X G (.Call (.Name x p) (e :: es) [] pos) (qCallP f t) := by
  obtain ⟨fa, fd, k, ps, F, hr, hm, hk, hb, _⟩ := d.ex
  exact PE.imp (pe_call F hr hg hm hk hb .nil pass0 ha hdb he hpl) fun _ _ _ h => lcallP h
theorem qe_call0 {f : Spec0} (d : Def X x n (spP G.K f)) (hg : Gl X x) (hdb : (x == ("__debug__" : Str)) = false := by decide) :
    QE X G (.Call (.Name x p) [] [] pos) (qCallP f (qNil : PAx γ)) := by
  obtain ⟨fa, fd, k, ps, F, hr, hm, hk, hb, _⟩ := d.ex
  refine PE.imp (pe_call0 F hr hg hm hk hb .nil pass0 hdb) fun σ H Q h => ?_
  obtain ⟨F, Z, s, R, r, t, q⟩ := h
  exact ⟨Z, [], _, r.z, rfl, t, fun z Z3 v H3 t3 k3 z3 h3 n3 a3 => q z s Z3 v H3 t3 k3 (r.ext ⟨h3, k3, z3, n3⟩) a3⟩
theorem Rel.after {F : Fra} {Z Z' : Hp} {s : S γ} {σ : St} {H H' : Hp} {g' : γ} (r : Rel G F Z s σ H) (zz : Same Z Z') (zh : Same Z' H') (keep : ∀ a o, H a = some o → ¬ G.foot s.g a → H' a = some o) (nw : ∀ a o, Z' a = some o → Z a = none → H a = none) (hj : G.J g' H')
    (hf : ∀ a, G.foot g' a → Z' a = none ∧ (G.foot s.g a ∨ H a = none)) : Rel G F Z' ⟨s.ρ, g'⟩ σ H' := by
  refine ⟨zh, fun a o e => ?_, fun a h => ?_, r.len, fun i d h => ?_, fun i ds h => ?_, r.inj, hj, fun a h => (hf a h).1, fun a h => ?_, r.fl.trans zz⟩
  · refine keep a o (r.f _ _ e) fun h => ?_
    have := r.ff a h; rw [e] at this; cases this
  · cases q : Z' a with
    | none => rfl
    | some o =>
      have h1 := nw a o q (r.zb a h)
      obtain ⟨o', e⟩ := F.bf a h
      rw [r.f _ _ e] at h1; cases h1
  · obtain ⟨v, h1, h2⟩ := r.loc i d h
    exact ⟨v, h1, At.mono zz _ _ h2⟩
  · obtain ⟨a, vs, h1, h2, h3, h4, h5, h6⟩ := r.own i ds h
    refine ⟨a, vs, h1, keep _ _ h2 h6, Ats.mono zz _ _ h3, ?_, h5, fun h7 => ?_⟩
    · cases q : Z' a with
      | none => rfl
      | some o => have := nw a o q h4; rw [h2] at this; cases this
    · rcases (hf a h7).2 with h8 | h8
      · exact h6 h8
      · rw [h2] at h8; cases h8
  · rcases (hf a h).2 with h8 | h8
    · exact r.ff a h8
    · exact r.f.free h8
theorem lcallG {f : Spec γ} {σ : St} {H : Hp} {Q : VK} (h : lE G (qCallG f t) σ H Q) : tCall (spG G f) [] E0 (lA G t) σ H Q := by
  obtain ⟨F, Z, s, R, r, t, q⟩ := h
  refine ⟨F, Z, s, _, r, t, fun xs s1 Z1 vs H1 t1 k1 r1 a1 => ?_⟩
  refine ⟨Z1, xs, s1.g, _, r1.z, by rw [List.append_nil]; exact a1, r1.j, r1.zf, t1, fun z g' Z3 v H3 t3 k3 z3 h3 n3 j3 f3 a3 => ?_⟩
  exact q z _ Z3 v H3 t3 (k1.trans k3) (r1.after k3 z3 h3 n3 j3 f3) a3
theorem qe_callG {f : Spec γ} (d : Def X x n (spG G f)) (hg : Gl X x) (ha : QA X G (e :: es) t) (hdb : (x == ("__debug__" : Str)) = false := by decide) (he : starEach (e :: es) X.env = (false, eval e X.env) :: starEach es X.env := by rfl) (hpl : (backTo pos (starEach es X.env)).any (·.1) = false := by rfl) :
    QE X G (.Call (.Name x p) (e :: es) [] pos) (qCallG f t) := by
  obtain ⟨fa, fd, k, ps, F, hr, hm, hk, hb, _⟩ := d.ex
  exact PE.imp (pe_call F hr hg hm hk hb .nil pass0 ha hdb he hpl) fun _ _ _ h => lcallG h
end
end
end Pm

set_option Elab.async false
set_option linter.all false
set_option maxRecDepth 100000
set_option maxHeartbeats 1000000
set_option autoImplicit false
namespace Pm
open PySem PySem.Spec
open PyProof.Rows hiding St
open L2
variable {γ : Type}

section
variable {prog : Program} {w : World} {A : Around} {E : Value → Shared → Prop} {s : Shared}
theorem draw_list {it t : Addr} {items : Array Value} (hne : t ≠ it) : ∀ (n i : Nat) (s : Shared) (Q : List Value → Shared → Prop), s.heap.IsListIter it t i → s.heap.IsList t items → i + n ≤ items.size →
    (∀ h', h'.IsListIter it t (i + n) → Heap.SameBut it s.heap h' → Q ((items.toList.drop i).take n) { s with heap := h' }) → wpAny (model prog w) A (draw (.ref it) n) Q E s
  | 0, i, s, Q, hit, _, _, hQ => by
    show wpAny _ _ (pure []) Q E s
    exact wpAny_pure (by simpa using hQ s.heap hit (Heap.SameBut.refl ..))
  | n + 1, i, s, Q, hit, ht, hle, hQ => by
    have hlt : i < items.size := by omega
    show wpAny _ _ (pyNext (.ref it) >>= _) Q E s
    refine wpAny_bind (wpAny_pyNext_list_item hit ht (x := items[i]) (by simp [hlt]) fun h₁ hit₁ hs₁ => ?_)
    refine wpAny_bind (wpAny_holding (draw_list hne n (i + 1) _ _ hit₁ (ht.extBut hs₁.extBut hne) (by omega) fun h₂ hit₂ hs₂ => wpAny_pure ?_))
    have hd : items.toList.drop i = items[i] :: items.toList.drop (i + 1) := by simp [List.drop_eq_getElem_cons, hlt]
    have := hQ h₂ (by rw [show i + (n + 1) = i + 1 + n by omega]; exact hit₂) (hs₁.trans hs₂)
    rw [hd, List.take_succ_cons] at this
    exact this
theorem unpackItems_list {t : Addr} {items : Array Value} {Q : List Value → Shared → Prop} (hh : A.handled = none) (ht : s.heap.IsList t items)
    (hQ : ∀ h', Heap.ExtBut s.heap.objs.size s.heap h' → Q items.toList { s with heap := h' }) : wpAny (model prog w) A (unpackItems (.ref t) items.size none) Q E s := by
  have hlt : t ≠ s.heap.objs.size := by obtain ⟨o, ho, _⟩ := ht; exact Nat.ne_of_lt (Heap.lt_size ho)
  unfold unpackItems
  refine wpAny_bind ?_
  · unfold notIterableAtAll
    refine wpAny_bind (wpAny_specialOf ht.typeIs PySem.F.slot_list_iter.lookup ?_)
    refine wpAny_pure ?_
    simp only [Bool.false_eq_true, if_false]
    refine wpAny_bind (wpAny_holding (wpAny_pyIter_list ht ?_))
    refine wpAny_bind (wpAny_holding (draw_list hlt items.size 0 _ _ ⟨_, Heap.get?_push_size _ rfl, rfl, rfl⟩ (ht.at fun o e => Heap.get?_push_of_some _ e) (by omega) fun h₁ hit₁ hs₁ => ?_))
    have hall : List.take items.size (List.drop 0 items.toList) = items.toList := by
      rw [List.drop_zero]; exact List.take_of_length_le (by simp)
    rw [hall]
    rw [if_neg (by simp)]
    have ht₁ : h₁.IsList t items := (ht.at fun o e => Heap.get?_push_of_some _ e).extBut hs₁.extBut hlt
    refine wpAny_bind (wpAny_holding (wpAny_pyNext_list_end hh hit₁ ht₁ (by simp) fun h₂ he₂ => ?_))
    simp only [Option.isSome_none, Bool.false_eq_true, if_false]
    refine wpAny_pure (hQ h₂ fun b o hb e => he₂ b o hb (hs₁.extBut b o hb (Heap.get?_push_of_some _ e)))
theorem unpack_list {t : Addr} {items : Array Value} {targets : List (Bool × (Value → Sem Unit))} {Q : Unit → Shared → Prop} (hh : A.handled = none) (ht : s.heap.IsList t items)
    (hn : targets.length = items.size) (hstar : targets.findIdx? (·.1) = none)
    (h : ∀ h', Heap.ExtBut s.heap.objs.size s.heap h' → wpAny (model prog w) A (assignInOrder (targets.map (·.2)) items.toList) Q E { s with heap := h' }) :
    wpAny (model prog w) A (unpack (.ref t) targets) Q E s := by
  unfold unpack
  rw [hn, hstar]
  exact wpAny_bind (wpAny_holding (unpackItems_list hh ht h))
theorem assign_Tuple_list {env : Env} {elts : List Expr} {x1} {pos : Pos} {t : Addr} {items : Array Value} {Q : Unit → Shared → Prop} (hh : A.handled = none) (ht : s.heap.IsList t items)
    (hn : (assignEach elts env).length = items.size) (hstar : (assignEach elts env).findIdx? (·.1) = none)
    (h : ∀ h', Heap.ExtBut s.heap.objs.size s.heap h' → wpAny (model prog w) A (assignInOrder ((assignEach elts env).map (·.2)) items.toList) Q E { s with heap := h' }) :
    wpAny (model prog w) A (assign (.Tuple elts x1 pos) env (.ref t)) Q E s := by
  rw [assign_Tuple]
  exact wpAny_bind (wpAny_standAt (unpack_list hh ht hn hstar h))
end
section
variable {X : Cx} {pos : Pos}
def gLs (K : PySem.W.Frag) (n : Nat) (t : TGs) : TG := fun v σ H Q => ∃ a xs, v = .ref a ∧ SqL K H a xs ∧ xs.length = n ∧ t xs σ H Q
theorem pg_lst {es : List Expr} {k : Nat} {t : TGs} {n : Nat} (hc : X.calm = true) (h : PGs X es t)
    (hn : (assignEach es X.env).length = n := by rfl) (hst : (assignEach es X.env).findIdx? (·.1) = none := by rfl) : PG X (.Tuple es k pos) (gLs X.K n t) := by
  refine ⟨fun pins s σ H v u Q I r hw => ?_⟩
  obtain ⟨a, xs, e1, hq, hl, hw⟩ := hw
  subst e1
  cases r
  obtain ⟨its, rv, ht, hz⟩ := I.list hq
  refine assign_Tuple_list (I.ok.hd hc) ht.isList (by simp [hn, ← hl, rv.length]) hst fun h' hx => ?_
  have I1 : L2.Inv X pins σ H { s with heap := h' } := I.kept (t' := s.toks) fun b o e => hx b o (Nat.ne_of_lt (Heap.lt_size e)) e
  exact h.run pins _ σ H xs _ Q I1 (by simpa using rv) hw
end

end Pm

set_option Elab.async false
set_option linter.all false
set_option maxRecDepth 100000
set_option maxHeartbeats 1000000
set_option autoImplicit false
namespace Pm
open PySem PySem.Spec
open PyProof.Rows hiding St
open L2
variable {γ : Type}

section
variable {X : Cx} {G : GP γ} {a b c e : Expr} {pos : Pos}
def qNext : PSx γ := fun E s => E.nx s
def qSeq (t u : PSx γ) : PSx γ := fun E s => t { E with nx := u E } s
theorem lSeq {t u : PSx γ} {De : Ends} {σ : St} {H : Hp} (h : lS G (qSeq t u) De σ H) : tSeq (lS G t) (lS G u) De σ H := by
  obtain ⟨F, Z, s, E, r, t, n, rt, bk, ct⟩ := h
  refine ⟨F, Z, s, _, r, t, fun s' Z' σ' H' u' k r' => ?_, rt, bk, ct⟩
  exact ⟨F, Z', s', E, r', u', fun s2 Z2 σ2 H2 q k2 r2 => n s2 Z2 σ2 H2 q (k.trans k2) r2, fun d s2 Z2 σ2 v H2 q k2 r2 a2 => rt d s2 Z2 σ2 v H2 q (k.trans k2) r2 a2,
    fun s2 Z2 σ2 H2 q k2 r2 => bk s2 Z2 σ2 H2 q (k.trans k2) r2, fun s2 Z2 σ2 H2 q k2 r2 => ct s2 Z2 σ2 H2 q (k.trans k2) r2⟩
theorem qss_nil : QSs X G [] (qNext : PSx γ) := PSs.imp pss_nil fun De σ H ⟨F, Z, s, E, r, t, n, _⟩ => n s Z σ H t (Same.refl _) r
theorem qss_cons {st : Stmt} {rest : List Stmt} {t u : PSx γ} (h1 : QS X G st t) (h2 : QSs X G rest u) : QSs X G (st :: rest) (qSeq t u) := PSs.imp (pss_cons h1 h2) fun _ _ _ h => lSeq h
theorem qss_one {st : Stmt} {t : PSx γ} (h1 : QS X G st t) : QSs X G [st] t := pss_one h1
theorem qs_pass : QS X G (.Pass pos) (qNext : PSx γ) := PS.imp ps_pass fun De σ H ⟨F, Z, s, E, r, t, n, _⟩ => n s Z σ H t (Same.refl _) r
def qBreak : PSx γ := fun E s => E.bk s
def qCont : PSx γ := fun E s => E.ct s
theorem qs_break : QS X G (.Break pos) (qBreak : PSx γ) := PS.imp ps_break fun De σ H ⟨F, Z, s, E, r, t, _, _, bk, _⟩ => bk s Z σ H t (Same.refl _) r
theorem qs_continue : QS X G (.Continue pos) (qCont : PSx γ) := PS.imp ps_continue fun De σ H ⟨F, Z, s, E, r, t, _, _, _, ct⟩ => ct s Z σ H t (Same.refl _) r
theorem qs_doc {x j pos'} : QS X G (.Expr (.Constant (.str x) j pos) pos') (qNext : PSx γ) := PS.imp ps_doc fun De σ H ⟨F, Z, s, E, r, t, n, _⟩ => n s Z σ H t (Same.refl _) r
def qNever : PSx γ := fun _ _ => False
theorem qs_never {st : Stmt} : QS X G st (qNever : PSx γ) := PS.imp (t := tNever) ps_never fun De σ H ⟨F, Z, s, E, r, t, _⟩ => t.elim
theorem qss_never {st : List Stmt} : QSs X G st (qNever : PSx γ) := PSs.imp (t := tNever) pss_never fun De σ H ⟨F, Z, s, E, r, t, _⟩ => t.elim
def qDrop (te : PEx γ) : PSx γ := fun E s => te s fun _ s1 => E.nx s1
theorem qs_expr {te : PEx γ} (he : QE X G e te) (hs : swapsWith e none pos.line X.env = pure false := by rfl) : QS X G (.Expr e pos) (qDrop te) := by
  refine PS.imp (ps_expr he hs) fun De σ H ⟨F, Z, s, E, r, t, n, _⟩ => ?_
  exact ⟨F, Z, s, _, r, t, fun d s1 Z1 v H1 t1 k1 r1 a1 => n s1 Z1 σ H1 t1 k1 r1⟩
def qRet (te : PEx γ) : PSx γ := fun E s => te s fun d s1 => E.rt d s1.g
theorem qs_ret {te : PEx γ} (he : QE X G e te) : QS X G (.Return (some e) pos) (qRet te) := by
  refine PS.imp (ps_ret he) fun De σ H ⟨F, Z, s, E, r, t, _, rt, _⟩ => ?_
  exact ⟨F, Z, s, _, r, t, fun d s1 Z1 v H1 t1 k1 r1 a1 => rt d s1 Z1 σ v H1 t1 k1 r1 a1⟩
def qRetN : PSx γ := fun E s => E.rt .non s.g
theorem qs_retN : QS X G (.Return none pos) (qRetN : PSx γ) := PS.imp ps_retN fun De σ H ⟨F, Z, s, E, r, t, _, rt, _⟩ => rt .non s Z σ _ H t (Same.refl _) r rfl
def qIf (c : PTx γ) (t u : PSx γ) : PSx γ := fun E s => c s fun b s1 => Br b (t E s1) (u E s1)
theorem qs_if {c : Expr} {a b : List Stmt} {tc : PTx γ} {t u : PSx γ} (hc : QT X G c tc) (ha : QSs X G a t) (hb : QSs X G b u) : QS X G (.If c a b pos) (qIf tc t u) := by
  refine PS.imp (ps_if hc ha hb) fun De σ H ⟨F, Z, s, E, r, t, n, rt, bk, ct⟩ => ?_
  refine ⟨F, Z, s, _, r, t, fun k s1 Z1 H1 t1 k1 r1 => ?_⟩
  have go : ∀ {t : PSx γ}, t E s1 → lS G t De σ H1 := fun {t} q => ⟨F, Z1, s1, E, r1, q, fun s2 Z2 σ2 H2 q k2 r2 => n s2 Z2 σ2 H2 q (k1.trans k2) r2, fun d s2 Z2 σ2 v H2 q k2 r2 a2 => rt d s2 Z2 σ2 v H2 q (k1.trans k2) r2 a2,
    fun s2 Z2 σ2 H2 q k2 r2 => bk s2 Z2 σ2 H2 q (k1.trans k2) r2, fun s2 Z2 σ2 H2 q k2 r2 => ct s2 Z2 σ2 H2 q (k1.trans k2) r2⟩
  cases k with
  | true => exact iteT (go (t1.1 rfl))
  | false => exact iteF (go (t1.2 rfl))

def qAsg (te : PEx γ) (i : Nat) : PSx γ := fun E s => te s fun d s1 => E.nx ⟨s1.ρ.set i (some (.val d)), s1.g⟩
theorem lasg {te : PEx γ} {i : Nat} {De : Ends} {σ : St} {H : Hp} (h : lS G (qAsg te i) De σ H) : tAsg (lE G te) (gName i) De σ H := by
  obtain ⟨F, Z, s, E, r, t, n, _⟩ := h
  exact ⟨F, Z, s, _, r, t, fun d s1 Z1 v H1 t1 k1 r1 a1 => n _ Z1 _ H1 t1 k1 (r1.put a1)⟩
def qAsgOwn (te : PAx γ) (i : Nat) : PSx γ := fun E s => te s fun ds s1 => E.nx ⟨s1.ρ.set i (some (.own ds)), s1.g⟩
theorem lasgOwn {te : PAx γ} {i : Nat} {De : Ends} {σ : St} {H : Hp} (h : lS G (qAsgOwn te i) De σ H) : tAsg (lF G te) (gName i) De σ H := by
  obtain ⟨F, Z, s, E, r, t, n, _⟩ := h
  exact ⟨F, Z, s, _, r, t, fun ds s1 Z1 a vs H1 t1 k1 r1 ha a1 hz hf hg ho => n _ Z1 _ H1 t1 k1 (r1.putOwn ha a1 hz hf hg ho)⟩
section
variable {i : Nat} {x : Str} {pos' : Pos}
theorem qs_set {te : PEx γ} (hN : X.N.Nodup) (hi : X.N[i]? = some x) (hx : Loc X.env.scope x) (he : QE X G e te) (hs : swapsWith e (some (.Name x pos')) pos.line X.env = pure false := by rfl) (hf : X.fn x = true ∨ X.env.scope.names.lookup x = some .local := by first | exact .inl rfl | exact .inr rfl | assumption) :
    QS X G (.Assign [.Name x pos'] e pos) (qAsg te i) := PS.imp (ps_set hN hi hx he hs hf) fun _ _ _ h => lasg h
theorem qs_setOwn {te : PAx γ} (hN : X.N.Nodup) (hi : X.N[i]? = some x) (hx : Loc X.env.scope x) (he : QF X G e te) (hs : swapsWith e (some (.Name x pos')) pos.line X.env = pure false := by rfl) (hf : X.fn x = true ∨ X.env.scope.names.lookup x = some .local := by first | exact .inl rfl | exact .inr rfl | assumption) :
    QS X G (.Assign [.Name x pos'] e pos) (qAsgOwn te i) := PS.imp (ps_set hN hi hx he hs hf) fun _ _ _ h => lasgOwn h
end
inductive Tg where | nm (i : Nat) | tp (ts : List Tg)
mutual
def Tg.put : Tg → D → List (Option L) → Option (List (Option L))
  | .nm i, d, ρ => some (ρ.set i (some (.val d)))
  | .tp ts, d, ρ => match d with
    | .tup ds => Tg.puts ts ds ρ
    | .lst ds => Tg.puts ts ds ρ
    | _ => none
def Tg.puts : List Tg → List D → List (Option L) → Option (List (Option L))
  | [], [], ρ => some ρ
  | t :: ts, d :: ds, ρ => (t.put d ρ).bind fun ρ' => Tg.puts ts ds ρ'
  | _, _, _ => none
end
mutual
def Tg.js : Tg → List Nat
  | .nm i => [i]
  | .tp ts => Tg.jss ts
def Tg.jss : List Tg → List Nat
  | [] => []
  | t :: ts => t.js ++ Tg.jss ts
end
def qPut (tg : Tg) : PGx γ := fun d s R => match tg.put d s.ρ with
  | some ρ' => R ⟨ρ', s.g⟩
  | none => False
def qPuts (ts : List Tg) : List D → S γ → (S γ → Prop) → Prop := fun ds s R => match Tg.puts ts ds s.ρ with
  | some ρ' => R ⟨ρ', s.g⟩
  | none => False
def lGs (G : GP γ) (js : List Nat) (t : List D → S γ → (S γ → Prop) → Prop) : TGs := fun vs σ H Q => ∃ F Z s ds R, Rel G F Z s σ H ∧ Ats G.K Z ds vs ∧ t ds s R ∧
  ∀ s' Z' σ' H', R s' → Same Z Z' → Rel G F Z' s' σ' H' → H' = H → (∀ j, j ∉ js → σ'[j]? = σ[j]?) → σ'.length = σ.length → Q σ' H'
theorem PGs.imp {es : List Expr} {t t' : TGs} (h : PGs X es t) (k : ∀ v σ H Q, t' v σ H Q → t v σ H Q) : PGs X es t' := ⟨fun pins s σ H v u Q I r w => h.run pins s σ H v u Q I r (k _ _ _ _ w)⟩
abbrev QG' (X : Cx) (G : GP γ) (tg : Expr) (t : Tg) : Prop := PG X tg (lG G t.js (qPut t))
abbrev QGs (X : Cx) (G : GP γ) (es : List Expr) (ts : List Tg) : Prop := PGs X es (lGs G (Tg.jss ts) (qPuts ts))
theorem qg_name {i : Nat} {x : Str} (hN : X.N.Nodup) (hi : X.N[i]? = some x) (hx : Loc X.env.scope x) (hf : X.fn x = true ∨ X.env.scope.names.lookup x = some .local := by first | exact .inl rfl | exact .inr rfl | assumption) : QG' X G (.Name x pos) (.nm i) := by
  refine PG.imp (pg_name hN hi hx hf) fun v σ H Q ⟨F, Z, s, d, R, r, a, t, q⟩ => ?_
  exact q _ Z _ H t (Same.refl _) (r.put a) rfl (fun j hj => List.getElem?_set_ne (by simpa [Tg.js, eq_comm] using hj)) (by simp)
theorem qgs_nil : QGs X G [] [] := by
  refine PGs.imp pgs_nil fun vs σ H Q ⟨F, Z, s, ds, R, r, a, t, q⟩ => ?_
  cases ds with
  | nil => exact ⟨a, q _ Z σ H t (Same.refl _) r rfl (fun _ _ => rfl) rfl⟩
  | cons d ds => exact t.elim
theorem qgs_cons {e : Expr} {es : List Expr} {t : Tg} {ts : List Tg} (h1 : QG' X G e t) (h2 : QGs X G es ts)
    (hs : (assignEach (e :: es) X.env).map (·.2) = assign e X.env :: (assignEach es X.env).map (·.2) := by rfl) : QGs X G (e :: es) (t :: ts) := by
  refine PGs.imp (pgs_cons h1 h2 hs) fun vs σ H Q ⟨F, Z, s, ds, R, r, a, w, q⟩ => ?_
  cases ds with
  | nil => exact w.elim
  | cons d ds =>
    simp only [Ats] at a
    obtain ⟨v, vr, e, a1, a2⟩ := a
    unfold qPuts at w
    simp only [Tg.puts] at w
    cases hp : t.put d s.ρ with
    | none => rw [hp] at w; exact w.elim
    | some ρ' =>
      rw [hp] at w
      simp only [Option.bind_some] at w
      refine ⟨v, vr, e, F, Z, s, d, fun s1 => qPuts ts ds s1 R, r, a1, ?_, fun s1 Z1 σ1 H1 w1 k1 r1 e1 o1 l1 => ?_⟩
      · unfold qPut; rw [hp]; exact w
      · refine ⟨F, Z1, s1, ds, R, r1, Ats.mono k1 _ _ a2, w1, fun s2 Z2 σ2 H2 w2 k2 r2 e2 o2 l2 => ?_⟩
        refine q s2 Z2 σ2 H2 w2 (k1.trans k2) r2 (e2.trans e1) (fun j hj => ?_) (l2.trans l1)
        simp only [Tg.jss, List.mem_append, not_or] at hj
        rw [o2 j hj.2, o1 j hj.1]
theorem Tg.puts_len : ∀ {ts : List Tg} {ds : List D} {ρ ρ' : List (Option L)}, Tg.puts ts ds ρ = some ρ' → ds.length = ts.length
  | [], [], _, _, _ => rfl
  | [], _ :: _, _, _, h => by simp [Tg.puts] at h
  | _ :: _, [], _, _, h => by simp [Tg.puts] at h
  | t :: ts, d :: ds, ρ, ρ', h => by
    simp only [Tg.puts] at h
    cases hp : t.put d ρ with
    | none => rw [hp] at h; simp at h
    | some ρ1 =>
      rw [hp] at h
      simp only [Option.bind_some] at h
      simp [Tg.puts_len h]
theorem qg_tup {es : List Expr} {k : Nat} {ts : List Tg} (hc : X.calm = true) (h : QGs X G es ts) (hK : X.K = G.K := by rfl)
    (hn : (assignEach es X.env).length = ts.length := by rfl) (hst : (assignEach es X.env).findIdx? (·.1) = none := by rfl) : QG' X G (.Tuple es k pos) (.tp ts) := by
  refine ⟨fun pins s0 σ H v u Q I rv hw => ?_⟩
  obtain ⟨F, Z, s, d, R, r, a, w, q⟩ := hw
  unfold qPut at w
  cases d with
  | tup ds =>
    simp only [Tg.put] at w
    simp only [At] at a
    obtain ⟨p, vs, e, hs, a⟩ := a
    have hl : ds.length = ts.length := by
      cases hp : Tg.puts ts ds s.ρ with
      | none => rw [hp] at w; exact w.elim
      | some ρ' => exact Tg.puts_len hp
    exact (pg_tup hc h hn hst).run pins s0 σ H v u Q I rv ⟨p, vs, e, by rw [hK]; exact seqT r.z hs, by rw [a.len]; exact hl, F, Z, s, ds, R, r, a, w, q⟩
  | lst ds =>
    simp only [Tg.put] at w
    simp only [At] at a
    obtain ⟨p, vs, e, hs, a⟩ := a
    have hl : ds.length = ts.length := by
      cases hp : Tg.puts ts ds s.ρ with
      | none => rw [hp] at w; exact w.elim
      | some ρ' => exact Tg.puts_len hp
    exact (pg_lst hc h hn hst).run pins s0 σ H v u Q I rv ⟨p, vs, e, .inl (.inl (r.z _ _ hs)), by rw [a.len]; exact hl, F, Z, s, ds, R, r, a, w, q⟩
  | _ => exact w.elim
def qAsgT (te : PEx γ) (tg : Tg) : PSx γ := fun E s => te s fun d s1 => qPut tg d s1 E.nx
theorem qs_setT {tg : Expr} {te : PEx γ} {t : Tg} (he : QE X G e te) (hg : QG' X G tg t) (hs : swapsWithSole [tg] e pos.line X.env = pure false := by rfl) (hw : swappedStores [tg] e X.env = pure none := by rfl)
    (h1 : (assignEach [tg] X.env).map (·.2) = [assign tg X.env] := by rfl) : QS X G (.Assign [tg] e pos) (qAsgT te t) := by
  refine PS.imp (ps_asg he hg hs hw h1) fun De σ H ⟨F, Z, s, E, r, t, n, _⟩ => ?_
  exact ⟨F, Z, s, _, r, t, fun d s1 Z1 v H1 t1 k1 r1 a1 => ⟨F, Z1, s1, d, E.nx, r1, a1, t1, fun s2 Z2 σ2 H2 q2 k2 r2 _ _ _ => n s2 Z2 σ2 H2 q2 (k1.trans k2) r2⟩⟩
def qPar (i j : Nat) (ta : PAx γ) : PSx γ := fun E s => ta s fun ds s1 => match ds with
  | [d, e] => E.nx ⟨(s1.ρ.set i (some (.val d))).set j (some (.val e)), s1.g⟩
  | _ => False
theorem qs_par {i j : Nat} {x y : Str} {a b : Expr} {ta : PAx γ} {px py pt : Pos} {kt k2 pt2} (hc : X.calm = true) (hN : X.N.Nodup) (hi : X.N[i]? = some x) (hj : X.N[j]? = some y) (hij : i ≠ j)
    (hx : X.env.scope.names.lookup x = some .local) (hy : X.env.scope.names.lookup y = some .local) (ha : QA X G [a, b] ta)
    (hw : swappedStores [.Tuple [.Name x px, .Name y py] kt pt] (.Tuple [a, b] k2 pt2) X.env = pure (some [x, y]))
    (hs : swapsWithSole [.Tuple [.Name x px, .Name y py] kt pt] (.Tuple [a, b] k2 pt2) pos.line X.env = pure false := by rfl) :
    QS X G (.Assign [.Tuple [.Name x px, .Name y py] kt pt] (.Tuple [a, b] k2 pt2) pos) (qPar i j ta) := by
  refine PS.imp (ps_par hc hN hi hj hij hx hy ha hw hs) fun De σ H ⟨F, Z, s, E, r, t, n, _⟩ => ?_
  refine ⟨F, Z, s, _, r, t, fun ds s1 Z1 vs H1 t1 k1 r1 a1 => ?_⟩
  match ds, t1 with
  | [d, e], t1 =>
    simp only [Ats] at a1
    obtain ⟨v, _, rfl, a2, w, _, rfl, a3, rfl⟩ := a1
    exact ⟨v, w, rfl, n _ Z1 _ H1 t1 k1 ((r1.put a2).put a3)⟩

def qWhile (c : PTx γ) (tb : PSx γ) : PSx γ := fun E s => ∃ W : Nat → S γ → Prop, (∃ m s0, Wk s s0 ∧ W m s0) ∧ ∀ m s, W m s → c s fun b s1 => Br b (tb { E with nx := fun s' => ∃ m' s'', m' < m ∧ Wk s' s'' ∧ W m' s'', ct := fun s' => ∃ m' s'', m' < m ∧ Wk s' s'' ∧ W m' s'', bk := E.nx } s1) (E.nx s1)
theorem qs_while {c : Expr} {body : List Stmt} {tc : PTx γ} {tb : PSx γ} (hp : PassesOwn (model X.prog X.w) X.A X.env X.xe) (hc : QT X G c tc) (hb : QSs X G body tb) : QS X G (.While c body [] pos) (qWhile tc tb) := by
  refine PS.imp (ps_while hp hc hb) fun De σ H ⟨F, Z, s, E, r, ⟨W, ⟨m0, s0, wk0, w0⟩, turn⟩, n, rt, bk, ct⟩ => ?_
  refine ⟨fun m σ H => ∃ Z' s', Same Z Z' ∧ Rel G F Z' s' σ H ∧ W m s', ⟨m0, Z, s0, Same.refl _, r.weak wk0, w0⟩, ?_⟩
  rintro m σ1 H1 ⟨Z1, s1, k1, r1, w1⟩
  refine ⟨F, Z1, s1, _, r1, turn m s1 w1, fun b s2 Z2 H2 t2 k2 r2 => ?_⟩
  cases b with
  | true =>
    refine iteT ?_
    refine ⟨fun σ' H' => ∃ m', m' < m ∧ ∃ Z' s', Same Z Z' ∧ Rel G F Z' s' σ' H' ∧ W m' s', fun σ' H' h => h, F, Z2, s2, _, r2, t2.1 rfl, ?_, ?_, ?_, ?_⟩
    · rintro s3 Z3 σ3 H3 ⟨m', s'', hm, wk, w'⟩ k3 r3
      exact ⟨m', hm, Z3, s'', (k1.trans k2).trans k3, r3.weak wk, w'⟩
    · intro d s3 Z3 σ3 v H3 q k3 r3 a3
      exact rt d s3 Z3 σ3 v H3 q ((k1.trans k2).trans k3) r3 a3
    · intro s3 Z3 σ3 H3 q k3 r3
      exact n s3 Z3 σ3 H3 q ((k1.trans k2).trans k3) r3
    · rintro s3 Z3 σ3 H3 ⟨m', s'', hm, wk, w'⟩ k3 r3
      exact ⟨m', hm, Z3, s'', (k1.trans k2).trans k3, r3.weak wk, w'⟩
  | false => exact iteF (n s2 Z2 σ1 H2 (t2.2 rfl) (k1.trans k2) r2)

def Walks (K : PySem.W.Frag) (J : It) (Z : Hp) (ds : List D) : Prop := ∀ (i : Nat) (Z1 H : Hp), Same Z Z1 → Same Z1 H →
  (∀ d, ds[i]? = some d → J.go i H ∧ ∀ x H', J.yld i H x H' → ∃ Z', Ext Z1 H Z' H' ∧ At K Z' d x) ∧ (i = ds.length → J.stop i H)
def lI (G : GP γ) (t : PAx γ) : TI := fun σ H R => ∃ F Z s Rp, Rel G F Z s σ H ∧ t s Rp ∧ ∀ ds s' Z' H' J, Rp ds s' → Same Z Z' → Rel G F Z' s' σ H' → Walks G.K J Z' ds → R J H'
abbrev QI (X : Cx) (G : GP γ) (tg iter : Expr) (t : PAx γ) : Prop := PI X tg iter (lI G t)
theorem PI.imp {tg iter : Expr} {t t' : TI} (h : PI X tg iter t) (k : ∀ σ H R, t' σ H R → t σ H R) : PI X tg iter t' := ⟨fun pins s σ H R I w => h.run pins s σ H R I (k _ _ _ w)⟩

def qFor (ti : PAx γ) (tg : Tg) (tb : PSx γ) : PSx γ := fun E s => ti s fun ds s1 => ∃ I : Nat → S γ → Prop, (∃ s0, Wk s1 s0 ∧ I 0 s0) ∧
  (∀ i d s, ds[i]? = some d → I i s → qPut tg d s fun s2 => tb { E with nx := fun s' => ∃ s'', Wk s' s'' ∧ I (i + 1) s'', ct := fun s' => ∃ s'', Wk s' s'' ∧ I (i + 1) s'', bk := E.nx } s2) ∧ ∀ s, I ds.length s → E.nx s
theorem qs_for {iter tg : Expr} {body : List Stmt} {ti : PAx γ} {t : Tg} {tb : PSx γ} (hp : PassesOwn (model X.prog X.w) X.A X.env X.xe) (hc : X.calm = true) (hi : QI X G tg iter ti) (hg : QG' X G tg t) (hb : QSs X G body tb)
    (hs : ∀ x, foldedSetIterable iter X.env x = pure x := by intro _; rfl) : QS X G (.For tg iter body [] pos) (qFor ti t tb) := by
  refine PS.imp (ps_for hp hc hi hg hb hs) fun De σ H ⟨F, Z, s, E, r, w, n, rt, bk, ct⟩ => ?_
  refine ⟨F, Z, s, _, r, w, fun ds s1 Z1 H1 J w1 k1 r1 wJ => ?_⟩
  obtain ⟨I, ⟨s0, wk0, i0⟩, turn, done⟩ := w1
  refine ⟨fun i m σ H => m = ds.length - i ∧ i ≤ ds.length ∧ ∃ Z' s', Same Z1 Z' ∧ Rel G F Z' s' σ H ∧ I i s', ⟨ds.length, rfl, Nat.zero_le _, Z1, s0, Same.refl _, r1.weak wk0, i0⟩, ?_⟩
  rintro i m σ2 H2 ⟨hm, hi, Z2, s2, k2, r2, i2⟩
  obtain ⟨go, stop⟩ := wJ i Z2 H2 k2 r2.z
  by_cases hlt : i < ds.length
  · obtain ⟨g1, y1⟩ := go ds[i] (List.getElem?_eq_getElem hlt)
    refine .inr ⟨g1, fun σ' H' => ∃ Z' s', Same Z1 Z' ∧ Rel G F Z' s' σ' H' ∧ I (i + 1) s', fun σ' H' h => ⟨ds.length - (i + 1), by omega, rfl, hlt, h⟩, fun x H3 y => ?_⟩
    obtain ⟨Z3, x3, a3⟩ := y1 x H3 y
    have r3 := r2.ext x3
    have k3 := k2.trans x3.zz
    refine ⟨F, Z3, s2, ds[i], _, r3, a3, turn i ds[i] s2 (List.getElem?_eq_getElem hlt) i2, fun s4 Z4 σ4 H4 w4 k4 r4 _ _ _ => ?_⟩
    refine ⟨F, Z4, s4, _, r4, w4, ?_, ?_, ?_, ?_⟩
    · rintro s5 Z5 σ5 H5 ⟨s'', wk, i5⟩ k5 r5
      exact ⟨Z5, s'', (k3.trans k4).trans k5, r5.weak wk, i5⟩
    · intro d s5 Z5 σ5 v H5 q k5 r5 a5
      exact rt d s5 Z5 σ5 v H5 q (((k1.trans k3).trans k4).trans k5) r5 a5
    · intro s5 Z5 σ5 H5 q k5 r5
      exact n s5 Z5 σ5 H5 q (((k1.trans k3).trans k4).trans k5) r5
    · rintro s5 Z5 σ5 H5 ⟨s'', wk, i5⟩ k5 r5
      exact ⟨Z5, s'', (k3.trans k4).trans k5, r5.weak wk, i5⟩
  · have e : i = ds.length := by omega
    subst e
    exact .inl ⟨stop rfl, n s2 Z2 σ2 H2 (done s2 i2) (k1.trans k2) r2⟩
end
end Pm

set_option Elab.async false
set_option linter.all false
set_option maxRecDepth 100000
set_option maxHeartbeats 1000000
set_option autoImplicit false
namespace Pm
open PySem PySem.Spec
open PyProof.Rows hiding St
open L2
variable {γ : Type}

def wipeL (ρ : List (Option L)) : List Nat → List (Option L)
  | [] => ρ
  | v :: vs => (wipeL ρ vs).set v none
def S.wipe (s : S γ) (vs : List Nat) : S γ := ⟨wipeL s.ρ vs, s.g⟩
theorem wipeL_length (ρ : List (Option L)) : ∀ vs : List Nat, (wipeL ρ vs).length = ρ.length
  | [] => rfl
  | v :: vs => by unfold wipeL; rw [List.length_set, wipeL_length ρ vs]
theorem wipeL_some {ρ : List (Option L)} {i : Nat} {x : L} : ∀ {vs : List Nat}, (wipeL ρ vs)[i]? = some (some x) → ρ[i]? = some (some x) ∧ i ∉ vs
  | [], h => ⟨h, by simp⟩
  | v :: vs, h => by
    unfold wipeL at h
    by_cases hi : v = i
    · subst hi
      by_cases hv : v < (wipeL ρ vs).length
      · rw [List.getElem?_set_self hv] at h; cases h
      · rw [List.getElem?_eq_none (by simpa using hv)] at h; cases h
    · rw [List.getElem?_set_ne hi] at h
      obtain ⟨h1, h2⟩ := wipeL_some h
      exact ⟨h1, by simp only [List.mem_cons, not_or]; exact ⟨fun e => hi e.symm, h2⟩⟩
def keepVal : Option (Option L) → Option L
  | some (some (.val d)) => some (.val d)
  | _ => none
def S.back (s1 : S γ) (vs : List Nat) (s : S γ) : S γ := ⟨s.ρ.mapIdx fun j l => if j ∈ vs then keepVal s1.ρ[j]? else l, s.g⟩

section
variable {G : GP γ} {F : Fra} {Z Z1 : Hp} {s s' s1 : S γ} {σ σ' : St} {H H1 : Hp}
theorem Rel.resl (r : Rel G F Z s σ H) (hg : s'.g = s.g) (hl : s'.ρ.length = σ'.length) (k : ∀ (i : Nat) l, s'.ρ[i]? = some (some l) → s.ρ[i]? = some (some l) ∧ σ'[i]? = σ[i]?) : Rel G F Z s' σ' H := by
  obtain ⟨ρ', g'⟩ := s'
  simp only at hg hl k
  subst hg
  refine ⟨r.z, r.f, r.zb, hl.symm, fun i d h => ?_, fun i ds h => ?_, fun i j ds es a n h1 h2 h3 h4 => ?_, r.j, r.zf, r.ff, r.fl⟩
  · obtain ⟨h1, h2⟩ := k i _ h
    obtain ⟨v, h3, h4⟩ := r.loc i d h1
    exact ⟨v, h2.trans h3, h4⟩
  · obtain ⟨h1, h2⟩ := k i _ h
    obtain ⟨a, vs, h3, h4⟩ := r.own i ds h1
    exact ⟨a, vs, h2.trans h3, h4⟩
  · obtain ⟨k1, k2⟩ := k i _ h1
    obtain ⟨k3, k4⟩ := k j _ h2
    exact r.inj i j ds es a n k1 k3 (k2 ▸ h3) (k4 ▸ h4)
theorem Rel.wiped (r : Rel G F Z s σ H) (vs : List Nat) : Rel G F Z (s.wipe vs) (wipe σ vs) H :=
  r.resl rfl (by show (wipeL s.ρ vs).length = _; rw [wipeL_length, wipe_length, r.len]) fun i l h => by
    obtain ⟨h1, h2⟩ := wipeL_some (show (wipeL s.ρ vs)[i]? = some (some l) from h)
    exact ⟨h1, wipe_out h2⟩
theorem Rel.backed (r1 : Rel G F Z1 s1 σ H1) {vs : List Nat} (r : Rel G F Z s (wipe σ vs) H) (k : Same Z1 Z) : Rel G F Z (s1.back vs s) σ H := by
  have out : ∀ (i : Nat) l, (s1.back vs s).ρ[i]? = some (some l) → (i ∈ vs ∧ ∃ d, l = .val d ∧ s1.ρ[i]? = some (some (.val d))) ∨ (i ∉ vs ∧ s.ρ[i]? = some (some l)) := fun i l h => by
    simp only [S.back, List.getElem?_mapIdx] at h
    cases q : s.ρ[i]? with
    | none => rw [q] at h; cases h
    | some o =>
      rw [q] at h
      simp only [Option.map_some, Option.some.injEq] at h
      by_cases hi : i ∈ vs
      · rw [if_pos hi] at h
        left
        refine ⟨hi, ?_⟩
        unfold keepVal at h
        split at h
        · rename_i d hd; cases h; exact ⟨d, rfl, hd⟩
        · cases h
      · rw [if_neg hi] at h; subst h; exact .inr ⟨hi, rfl⟩
  have hl : σ.length = s.ρ.length := by rw [← r.len, wipe_length]
  refine ⟨r.z, r.f, r.zb, by simpa [S.back] using hl, fun i d h => ?_, fun i ds h => ?_, fun i j ds es a n h1 h2 h3 h4 => ?_, r.j, r.zf, r.ff, r.fl⟩
  · rcases out i _ h with ⟨_, d', e, h1⟩ | ⟨hi, h1⟩
    · cases e
      obtain ⟨v, h2, h3⟩ := r1.loc i d h1
      exact ⟨v, h2, At.mono k _ _ h3⟩
    · obtain ⟨v, h2, h3⟩ := r.loc i d h1
      exact ⟨v, by rw [← wipe_out hi]; exact h2, h3⟩
  · rcases out i _ h with ⟨_, d', e, h1⟩ | ⟨hi, h1⟩
    · cases e
    · obtain ⟨a, ws, h2, h3⟩ := r.own i ds h1
      exact ⟨a, ws, by rw [← wipe_out hi]; exact h2, h3⟩
  · rcases out i _ h1 with ⟨_, d', e, _⟩ | ⟨hi, k1⟩
    · cases e
    · rcases out j _ h2 with ⟨_, d', e, _⟩ | ⟨hj, k2⟩
      · cases e
      · exact r.inj i j ds es a n k1 k2 (by rw [wipe_out hi]; exact h3) (by rw [wipe_out hj]; exact h4)
end

def qYes : PTx γ := fun s R => R true s
abbrev QTs (X : Cx) (G : GP γ) (ifs : List Expr) (t : PTx γ) : Prop := PTs X ifs (lT G t)
theorem PTs.imp {X : Cx} {ifs : List Expr} {t t' : TT} (h : PTs X ifs t) (k : ∀ σ H Q, t' σ H Q → t σ H Q) : PTs X ifs t' := ⟨fun pins s σ H Q I w => h.run pins s σ H Q I (k _ _ _ w)⟩
theorem qts_nil {X : Cx} {G : GP γ} : QTs X G [] (qYes : PTx γ) := PTs.imp pts_nil fun σ H Q ⟨F, Z, s, R, r, t, q⟩ => q true s Z H t (Same.refl _) r
theorem qts_one {X : Cx} {G : GP γ} {c : Expr} {t : PTx γ} (h : QT X G c t) : QTs X G [c] t := pts_one h

def lcB (tg : Tg) (vs : List Nat) (tt : PTx γ) (te : PEx γ) (R : List D → S γ → Prop) (ds : List D) (s1 : S γ) : Prop := ∃ I : Nat → List D → S γ → Prop, (∃ s0, Wk (s1.wipe vs) s0 ∧ I 0 [] s0) ∧
  (∀ i d acc s, ds[i]? = some d → I i acc s → qPut tg d s fun s2 => tt s2 fun b s3 => Br b (te s3 fun y s4 => acc.length < sizeLine ∧ ∃ s5, Wk (s4.wipe vs) s5 ∧ I (i + 1) (acc ++ [y]) s5) (∃ s5, Wk (s3.wipe vs) s5 ∧ I (i + 1) acc s5)) ∧
  ∀ acc s, I ds.length acc s → R acc (s1.back vs s)
def qLc (ti : PAx γ) (tg : Tg) (vs : List Nat) (tt : PTx γ) (te : PEx γ) : PAx γ := fun s R => ti s fun ds s1 => lcB tg vs tt te R ds s1

def Fra.bar (F : Fra) (D : Addr) (o : HO) : Fra := ⟨upd F.F D o, fun a => F.B a ∨ a = D, fun a h => by
  by_cases e : a = D
  · subst e; exact ⟨o, upd_same⟩
  · rw [upd_ne e]
    rcases h with h | h
    · exact F.bf a h
    · exact absurd h e⟩

section
variable {G : GP γ} {F : Fra} {Z : Hp} {s : S γ} {σ : St} {H : Hp}
theorem Rel.bar (r : Rel G F Z s σ H) {D : Addr} {o : HO} (hD : H D = some o) (hz : Z D = none) (hg : ¬ G.foot s.g D) (ho : ∀ (i : Nat) (es : List Pm.D), s.ρ[i]? = some (some (.own es)) → σ[i]? ≠ some (some (.ref D))) : Rel G (F.bar D o) Z s σ H := by
  refine ⟨r.z, fun a u e => ?_, fun a h => ?_, r.len, r.loc, fun i ds h => ?_, r.inj, r.j, r.zf, fun a h => ?_, r.fl⟩
  · by_cases hb : a = D
    · subst hb
      have e' : some o = some u := by rw [← e]; exact upd_same.symm
      rw [hD, e']
    · exact r.f a u (by rw [← e]; exact (upd_ne hb).symm)
  · rcases h with h | h
    · exact r.zb a h
    · rw [h]; exact hz
  · obtain ⟨a, vs, h1, h2, h3, h4, h5⟩ := r.own i ds h
    have : a ≠ D := fun e => ho i ds h (by rw [← e]; exact h1)
    exact ⟨a, vs, h1, h2, h3, h4, by show upd F.F D o a = none; rw [upd_ne this]; exact h5.1, h5.2⟩
  · have : a ≠ D := fun e => hg (by rw [← e]; exact h)
    show upd F.F D o a = none
    rw [upd_ne this]; exact r.ff a h
theorem Rel.unbar {D : Addr} {o o' : HO} (hF : F.F D = none) (r : Rel G (F.bar D o) Z s σ H) : H D = some o ∧ Z D = none ∧ ¬ G.foot s.g D ∧ (∀ (i : Nat) (es : List Pm.D), s.ρ[i]? = some (some (.own es)) → σ[i]? ≠ some (some (.ref D))) ∧ Rel G F Z s σ (upd H D o') := by
  have e1 : H D = some o := r.f D o upd_same
  have e2 : Z D = none := r.zb D (.inr rfl)
  have e3 : ¬ G.foot s.g D := fun h => by
    have z : upd F.F D o D = none := r.ff D h
    rw [upd_same] at z; cases z
  have e4 : ∀ (i : Nat) (es : List Pm.D), s.ρ[i]? = some (some (.own es)) → σ[i]? ≠ some (some (.ref D)) := fun i es h e => by
    obtain ⟨a, vs, h1, h2, h3, h4, h5, _⟩ := r.own i es h
    rw [h1] at e
    cases e
    have z : upd F.F D o D = none := h5
    rw [upd_same] at z; cases z
  refine ⟨e1, e2, e3, e4, fun a u e => ?_, fun a u e => ?_, fun a h => r.zb a (.inl h), r.len, r.loc, fun i ds h => ?_, r.inj, G.stay _ _ _ r.j fun a h => ?_, r.zf, fun a h => ?_, r.fl⟩
  · rw [upd_ne (ne_of_none e e2)]; exact r.z a u e
  · have n : a ≠ D := ne_of_none e hF
    rw [upd_ne n]; exact r.f a u (by show upd F.F D o a = some u; rw [upd_ne n]; exact e)
  · obtain ⟨a, vs, h1, h2, h3, h4, h5⟩ := r.own i ds h
    have n : a ≠ D := fun e => e4 i ds h (by rw [← e]; exact h1)
    refine ⟨a, vs, h1, by rw [upd_ne n]; exact h2, h3, h4, ?_, h5.2⟩
    have z : upd F.F D o a = none := h5.1
    rw [upd_ne n] at z; exact z
  · exact upd_ne fun e => e3 (by rw [← e]; exact h)
  · have n : a ≠ D := fun e => e3 (by rw [← e]; exact h)
    have z : upd F.F D o a = none := r.ff a h
    rw [upd_ne n] at z; exact z
end

theorem llc {K : PySem.W.Frag} {G : GP γ} {ti : PAx γ} {tg : Tg} {vs : List Nat} {tt : PTx γ} {te : PEx γ} (hj : ∀ j ∈ tg.js, j ∈ vs) {σ : St} {H : Hp} {Q : VK} (h : lF G (qLc ti tg vs tt te) σ H Q) :
    tLc (lI G ti) (lG G tg.js (qPut tg)) (lT G tt) (lE G te) vs σ H Q := by
  obtain ⟨F, Z, s, R, r, t, q⟩ := h
  refine ⟨F, Z, s, _, r, t, fun ds s1 Z1 H1 J w1 k1 r1 wJ D hD => ?_⟩
  obtain ⟨I, ⟨s0, wk0, i0⟩, turn, done⟩ := w1
  have FD : F.F D = none := r1.f.free hD
  refine ⟨fun i m H => m = ds.length - i ∧ i ≤ ds.length ∧ ∃ Z' s' acc av, Same Z1 Z' ∧ Rel G (F.bar D (.lst av)) Z' s' (wipe σ vs) H ∧ Ats G.K Z' acc av ∧ I i acc s', ⟨ds.length, rfl, Nat.zero_le _, ?_⟩, ?_⟩
  · obtain ⟨f1, f2, f3, f4⟩ := r1.fresh hD
    have r2 := (r1.grow (same_upd (o := HO.lst []) hD)).bar upd_same f1 f3 f4
    exact ⟨Z1, s0, [], [], Same.refl _, (r2.wiped vs).weak wk0, rfl, i0⟩
  · rintro i m H2 ⟨hm, hi, Z2, s2, acc, av, k2, r2, a2, i2⟩
    obtain ⟨go, stop⟩ := wJ i Z2 H2 k2 r2.z
    by_cases hlt : i < ds.length
    · obtain ⟨g1, y1⟩ := go ds[i] (List.getElem?_eq_getElem hlt)
      refine .inr ⟨g1, fun H' => ∃ Z' s' acc av, Same Z1 Z' ∧ Rel G (F.bar D (.lst av)) Z' s' (wipe σ vs) H' ∧ Ats G.K Z' acc av ∧ I (i + 1) acc s', fun H' h => ⟨ds.length - (i + 1), by omega, rfl, hlt, h⟩, fun x H3 y => ?_⟩
      obtain ⟨Z3, x3, a3⟩ := y1 x H3 y
      have r3 := r2.ext x3
      have k3 := k2.trans x3.zz
      refine ⟨F.bar D (.lst av), Z3, s2, ds[i], _, r3, a3, turn i ds[i] acc s2 (List.getElem?_eq_getElem hlt) i2, fun s4 Z4 σ4 H4 w4 k4 r4 e4 o4 l4 => ?_⟩
      have we : wipe σ4 vs = wipe σ vs := by
        refine List.ext_getElem? fun j => ?_
        by_cases hjv : j ∈ vs
        · have n1 : ∀ (τ : St), τ.length = σ.length → (wipe τ vs)[j]? = if j < σ.length then some none else none := fun τ hl => by
            by_cases hlt : j < σ.length
            · rw [if_pos hlt]
              have hlt' : j < (wipe τ vs).length := by rw [wipe_length, hl]; exact hlt
              rw [List.getElem?_eq_getElem hlt']
              congr 1
              cases e : (wipe τ vs)[j] with
              | none => rfl
              | some v => exact absurd hjv (wipe_some (show (wipe τ vs)[j]? = some (some v) by rw [List.getElem?_eq_getElem hlt', e])).2
            · rw [if_neg hlt, List.getElem?_eq_none (by rw [wipe_length, hl]; omega)]
          rw [n1 σ4 (by rw [l4, wipe_length]), n1 σ rfl]
        · rw [wipe_out hjv, o4 j (fun h => hjv (hj j h))]
      refine ⟨we, F.bar D (.lst av), Z4, s4, _, r4, w4, fun b s5 Z5 H5 w5 k5 r5 => ?_⟩
      cases b with
      | true =>
        refine iteT ⟨F.bar D (.lst av), Z5, s5, _, r5, w5.1 rfl, fun y s6 Z6 v H6 w6 k6 r6 a6 => ?_⟩
        obtain ⟨w6, s7, wk7, i7⟩ := w6
        obtain ⟨e1, e2, e3, e4', r7⟩ := r6.unbar (o' := .lst (av ++ [v])) FD
        have kk := ((x3.zz.trans k4).trans k5).trans k6
        refine ⟨av, e1, by rw [a2.len]; exact w6, Z6, s7, acc ++ [y], av ++ [v], k2.trans kk, ?_, (Ats.mono kk _ _ a2).append ⟨v, [], rfl, a6, rfl⟩, i7⟩
        have r8 := r7.bar (o := .lst (av ++ [v])) upd_same e2 e3 e4'
        have r9 := r8.wiped vs
        rw [we] at r9
        exact r9.weak wk7
      | false =>
        refine iteF ?_
        obtain ⟨s7, wk7, i7⟩ := w5.2 rfl
        have kk := (x3.zz.trans k4).trans k5
        have r9 := r5.wiped vs
        rw [we] at r9
        exact ⟨Z5, s7, acc, av, k2.trans kk, r9.weak wk7, Ats.mono kk _ _ a2, i7⟩
    · have e : i = ds.length := by omega
      subst e
      obtain ⟨e1, e2, e3, e4, r7⟩ := r2.unbar (o' := .lst av) FD
      have hu : upd H2 D (.lst av) = H2 := by
        funext b
        by_cases hb : b = D
        · subst hb; rw [upd_same, e1]
        · rw [upd_ne hb]
      rw [hu] at r7
      refine .inl ⟨stop rfl, q acc _ Z2 D av H2 (done acc s2 i2) (k1.trans k2) (r1.backed r7 k2) e1 a2 e2 FD (by exact e3) fun j es h => ?_⟩
      -- no list of one's own is the new one
      intro e
      have r8 := r1.backed r7 k2
      obtain ⟨a, ws, h1, h2, h3, h4, h5, h6⟩ := r8.own j es h
      rw [h1] at e
      cases e
      simp only [S.back, List.getElem?_mapIdx] at h
      cases q' : s2.ρ[j]? with
      | none => rw [q'] at h; cases h
      | some o =>
        rw [q'] at h
        simp only [Option.map_some, Option.some.injEq] at h
        by_cases hjv : j ∈ vs
        · rw [if_pos hjv] at h
          unfold keepVal at h
          split at h
          · cases h
          · cases h
        · rw [if_neg hjv] at h
          subst h
          exact e4 j es q' (by rw [wipe_out hjv]; exact h1)

section
variable {X : Cx} {G : GP γ} {elt tg iter : Expr} {ifs : List Expr} {scope : Scope} {own : List (Str × Nat)} {pos : Pos} {ti : PAx γ} {t : Tg} {tt : PTx γ} {te : PEx γ}
theorem qf_lc (hc : X.calm = true) (hN : X.N.Nodup) (hi : QI X G tg iter ti) (ok : BlkOk X.N X.env.scope scope own) (hj : ∀ j ∈ t.js, j ∈ own.map (·.2))
    (hg : ∀ (s : Shared) (H : Hp) (C : Addr) (cl : List (Str × Addr)) (fp : List Addr), QG' (X.blk s H scope (compEnvC scope cl C X.env) fp) G tg t)
    (ht : ∀ (s : Shared) (H : Hp) (C : Addr) (cl : List (Str × Addr)) (fp : List Addr), QTs (X.blk s H scope (compEnvC scope cl C X.env) fp) G ifs tt)
    (he : ∀ (s : Shared) (H : Hp) (C : Addr) (cl : List (Str × Addr)) (fp : List Addr), QE (X.blk s H scope (compEnvC scope cl C X.env) fp) G elt te) (hs : ∀ x, foldedSetIterable iter X.env x = pure x := by intro _; rfl) :
    QF X G (.ListComp elt [⟨tg, iter, ifs, 0⟩] scope pos) (qLc ti t (own.map (·.2)) tt te) :=
  PE.imp (pe_lc hc hN hi ok hg ht he hs) fun _ _ _ h => llc (K := X.K) hj h
theorem qs_lc {i : Nat} {y : Str} {py spos : Pos} (hc : X.calm = true) (hN : X.N.Nodup) (hy : X.N[i]? = some y) (hyl : X.env.scope.names.lookup y = some .local)
    (hsw : swapsWith (.ListComp elt [⟨tg, iter, ifs, 0⟩] scope pos) (some (.Name y py)) spos.line X.env = pure true) (hi : QI X G tg iter ti) (ok : BlkOk X.N X.env.scope scope own) (hj : ∀ j ∈ t.js, j ∈ own.map (·.2))
    (hg : ∀ (s : Shared) (H : Hp) (C : Addr) (cl : List (Str × Addr)) (fp : List Addr), QG' (X.blk s H scope (compEnvC scope cl C X.env) fp) G tg t)
    (ht : ∀ (s : Shared) (H : Hp) (C : Addr) (cl : List (Str × Addr)) (fp : List Addr), QTs (X.blk s H scope (compEnvC scope cl C X.env) fp) G ifs tt)
    (he : ∀ (s : Shared) (H : Hp) (C : Addr) (cl : List (Str × Addr)) (fp : List Addr), QE (X.blk s H scope (compEnvC scope cl C X.env) fp) G elt te) (hs : ∀ x, foldedSetIterable iter X.env x = pure x := by intro _; rfl) :
    QS X G (.Assign [.Name y py] (.ListComp elt [⟨tg, iter, ifs, 0⟩] scope pos) spos) (qAsg (qSet (qLc ti t (own.map (·.2)) tt te)) i) := by
  refine PS.imp (ps_setLc hc hN hy hyl hsw hi ok hg ht he hs) fun De σ H ⟨F, Z, s, E, r, w, n, _⟩ => ?_
  show tLc _ _ _ _ _ σ H _
  refine llc (K := X.K) hj ⟨F, Z, s, _, r, w, fun ds s1 Z1 a vs H1 t1 k1 r1 ha a1 hz hf hg ho => ?_⟩
  have k := same_upd (o := HO.lst vs) hz
  exact n _ (upd Z1 a (.lst vs)) _ H1 t1 (k1.trans k) ((r1.settle ha hz hg (Fra.nb hf) ho).put ⟨a, vs, rfl, upd_same, Ats.mono k _ _ a1⟩)
theorem qs_lcOwn {i : Nat} {y : Str} {py spos : Pos} (hc : X.calm = true) (hN : X.N.Nodup) (hy : X.N[i]? = some y) (hyl : X.env.scope.names.lookup y = some .local)
    (hsw : swapsWith (.ListComp elt [⟨tg, iter, ifs, 0⟩] scope pos) (some (.Name y py)) spos.line X.env = pure true) (hi : QI X G tg iter ti) (ok : BlkOk X.N X.env.scope scope own) (hj : ∀ j ∈ t.js, j ∈ own.map (·.2))
    (hg : ∀ (s : Shared) (H : Hp) (C : Addr) (cl : List (Str × Addr)) (fp : List Addr), QG' (X.blk s H scope (compEnvC scope cl C X.env) fp) G tg t)
    (ht : ∀ (s : Shared) (H : Hp) (C : Addr) (cl : List (Str × Addr)) (fp : List Addr), QTs (X.blk s H scope (compEnvC scope cl C X.env) fp) G ifs tt)
    (he : ∀ (s : Shared) (H : Hp) (C : Addr) (cl : List (Str × Addr)) (fp : List Addr), QE (X.blk s H scope (compEnvC scope cl C X.env) fp) G elt te) (hs : ∀ x, foldedSetIterable iter X.env x = pure x := by intro _; rfl) :
    QS X G (.Assign [.Name y py] (.ListComp elt [⟨tg, iter, ifs, 0⟩] scope pos) spos) (qAsgOwn (qLc ti t (own.map (·.2)) tt te) i) := by
  refine PS.imp (ps_setLc hc hN hy hyl hsw hi ok hg ht he hs) fun De σ H ⟨F, Z, s, E, r, w, n, _⟩ => ?_
  show tLc _ _ _ _ _ σ H _
  refine llc (K := X.K) hj ⟨F, Z, s, _, r, w, fun ds s1 Z1 a vs H1 t1 k1 r1 ha a1 hz hf hg ho => ?_⟩
  exact n _ Z1 _ H1 t1 k1 (r1.putOwn ha a1 hz hf hg ho)
end

def startL (n : Nat) (ds : List D) : List (Option L) := ds.map (fun d => some (.val d)) ++ List.replicate (n - ds.length) none
theorem start_at {K : PySem.W.Frag} {Z : Hp} {N : List Str} {ds : List D} {vs : List V} (h : Ats K Z ds vs) {i : Nat} {l : L} (e : (startL N.length ds)[i]? = some (some l)) : ∃ d, l = .val d ∧ ∃ v, (L2.start N vs)[i]? = some (some v) ∧ At K Z d v := by
  unfold startL at e
  by_cases hi : i < ds.length
  · rw [List.getElem?_append_left (by simpa using hi), List.getElem?_map] at e
    cases q : ds[i]? with
    | none => rw [q] at e; cases e
    | some d =>
      rw [q] at e
      simp only [Option.map_some, Option.some.injEq] at e
      obtain ⟨v, h1, h2⟩ := h.get q
      refine ⟨d, e.symm, v, ?_, h2⟩
      unfold L2.start
      rw [List.getElem?_append_left (by rw [List.length_map, h.len]; exact hi), List.getElem?_map, h1]; rfl
  · rw [List.getElem?_append_right (by simpa using hi), List.getElem?_replicate] at e
    split at e <;> cases e
section
variable {P : Program} {w : World} {K : PySem.W.Frag} {mg : Str → Option Value} {base : Heap}
abbrev Fn (K : PySem.W.Frag) (x qual : Str) (st : Stmt) (f : Addr) (fd : FuncData) : Prop := FunD K x qual (defArgs st) (defBody st) (defScope st) [] [] f fd
theorem Fn.ok {x qual : Str} {st : Stmt} {f : Addr} {fd : FuncData} {N ps : List Str} {k : Nat} {sp : Sp} (F : Fn K x qual st f fd) (S : FnScope N ps (defScope st)) (len : ∀ vs H Q E, sp vs H Q E → vs.length = ps.length)
    (hbody : ∀ (cdv : Value) (A : Around) (outer : List Env) (s : Shared) (H : Hp) (vs : List V) (Q : VK) (E : XK), Room k (A.deeper (envOfC qual (defScope st) s.heap.objs.size f cdv)) → sp vs H Q E →
      ∃ t, PSs (cxOf CX0 P w K mg base N qual (defScope st) f cdv A outer s H E).nox (defBody st) t ∧ t { nx := fun _ H' => Q .non H', rt := Q } (L2.start N vs) H) : FnOk P w K mg base CX0 (k + 1) f fd ps sp :=
  FunD.ok F S len fun cdv A outer s H vs Q E hr h => by
    obtain ⟨t, h1, h2⟩ := hbody cdv A outer s H vs Q E hr h
    exact ⟨t, PSs.nox h1, h2⟩
theorem okP {x qual : Str} {st : Stmt} {f : Addr} {fd : FuncData} {N ps : List Str} {k : Nat} (F : Fn K x qual st f fd) (S : FnScope N ps (defScope st)) {fs : Spec0} (len : ∀ ds R, fs ds R → ds.length = ps.length)
    (body : ∃ t : PSx Unit, (∀ (cdv : Value) (A : Around) (outer : List Env) (s : Shared) (H : Hp) (E : XK), Room k (A.deeper (envOfC qual (defScope st) s.heap.objs.size f cdv)) →
      QSs (cxOf CX0 P w K mg base N qual (defScope st) f cdv A outer s H E).nox (none0 K) (defBody st) t) ∧ ∀ ds R, fs ds R → t { nx := fun _ => R .non, rt := fun d _ => R d } ⟨startL N.length ds, ()⟩) : FnOk P w K mg base CX0 (k + 1) f fd ps (spP K fs) := by
  refine F.ok S (fun vs H Q E h => ?_) (fun cdv A outer s H vs Q E hr h => ?_)
  · obtain ⟨Z, ds, R, _, a, h, _⟩ := h
    rw [a.len]; exact len _ _ h
  · obtain ⟨t, hb, hp⟩ := body
    refine ⟨_, hb cdv A outer s H E hr, ?_⟩
    obtain ⟨Z, ds, R, k, a, h, q⟩ := h
    have hl : ps.length ≤ N.length := by have := congrArg List.length S.pre; rw [List.length_take] at this; omega
    have hd := len _ _ h
    refine ⟨⟨H, fun b => H b ≠ none ∧ Z b = none, fun b hb => Option.ne_none_iff_exists'.mp hb.1⟩, Z, _, _, ?_, hp ds R h, ?_, ?_, ?_, ?_⟩
    · refine ⟨k, Same.refl _, fun b hb => hb.2, ?_, fun i d e => ?_, fun i ds' e => ?_, fun i j ds' es b n e1 e2 => ?_, trivial, fun b z => False.elim z, fun b z => False.elim z, fun _ _ z => by cases z⟩
      · unfold L2.start startL
        simp only [List.length_append, List.length_map, List.length_replicate, a.len]
      · obtain ⟨d', e', v, h1, h2⟩ := start_at a e
        cases e'
        exact ⟨v, h1, h2⟩
      · obtain ⟨d', e', _⟩ := start_at a e
        cases e'
      · obtain ⟨d', e', _⟩ := start_at a e1
        cases e'
    · intro s' Z' σ' H' q' k' r'
      exact q .non Z' .non H' q' k' r'.z r'.f (fun b o e n => by
        cases hb : H b with
        | none => rfl
        | some u => have := r'.zb b ⟨by rw [hb]; simp, n⟩; rw [e] at this; cases this) rfl
    · intro d s' Z' σ' v H' q' k' r' a'
      exact q d Z' v H' q' k' r'.z r'.f (fun b o e n => by
        cases hb : H b with
        | none => rfl
        | some u => have := r'.zb b ⟨by rw [hb]; simp, n⟩; rw [e] at this; cases this) a'
    · intro s' Z' σ' H' q'; exact q'.elim
    · intro s' Z' σ' H' q'; exact q'.elim
theorem liftG {G : GP γ} {N ps : List Str} {fs : Spec γ} {t : PSx γ} (hl : ps.length ≤ N.length) (len : ∀ ds g R, fs ds g R → ds.length = ps.length) (hp : ∀ ds g R, fs ds g R → t { nx := fun s => R .non s.g, rt := R } ⟨startL N.length ds, g⟩)
    (grow : ∀ g g' : γ, ∀ a, G.foot g' a → G.foot g a) (hfl : ∀ a, G.fl a = none) {vs : List V} {H : Hp} {Q : VK} {E : XK} (h : spG G fs vs H Q E) : lS G t { nx := fun _ H' => Q .non H', rt := Q } (L2.start N vs) H := by
  obtain ⟨Z, ds, g, R, k, a, hj, hzf, h, q⟩ := h
  have hd := len _ _ _ h
  classical
  have hF : ∀ (b : Addr) (o : HO), (if G.foot g b then none else H b) = some o → H b = some o ∧ ¬ G.foot g b := fun b o e => by
    by_cases hb : G.foot g b
    · rw [if_pos hb] at e; cases e
    · rw [if_neg hb] at e; exact ⟨e, hb⟩
  refine ⟨⟨fun b => if G.foot g b then none else H b, fun b => H b ≠ none ∧ Z b = none ∧ ¬ G.foot g b, fun b hb => ?_⟩, Z, _, _, ?_, hp ds g R h, ?_, ?_, ?_, ?_⟩
  · simp only [if_neg hb.2.2]; exact Option.ne_none_iff_exists'.mp hb.1
  · refine ⟨k, fun b o e => (hF b o e).1, fun b hb => hb.2.1, ?_, fun i d e => ?_, fun i ds' e => ?_, fun i j ds' es b n e1 e2 => ?_, hj, hzf, fun b z => if_pos z, fun b _ z => by rw [hfl b] at z; cases z⟩
    · unfold L2.start startL
      simp only [List.length_append, List.length_map, List.length_replicate, a.len]
    · obtain ⟨d', e', v, h1, h2⟩ := start_at a e
      cases e'
      exact ⟨v, h1, h2⟩
    · obtain ⟨d', e', _⟩ := start_at a e
      cases e'
    · obtain ⟨d', e', _⟩ := start_at a e1
      cases e'
  all_goals
    have fin : ∀ (d : D) (s' : Pm.S γ) (Z' : Hp) (σ' : St) (v : V) (H' : Hp), R d s'.g → Same Z Z' → Rel G ⟨fun b => if G.foot g b then none else H b, fun b => H b ≠ none ∧ Z b = none ∧ ¬ G.foot g b, fun b hb => by simp only [if_neg hb.2.2]; exact Option.ne_none_iff_exists'.mp hb.1⟩ Z' s' σ' H' → At G.K Z' d v → Q v H' :=
      fun d s' Z' σ' v H' q' k' r' a' => q d s'.g Z' v H' q' k' r'.z (fun b o e n => r'.f b o (by simp only [if_neg n]; exact e)) (fun b o e n => by
        cases hb : H b with
        | none => rfl
        | some u =>
          by_cases hf : G.foot g b
          · have := r'.zf b (by first | exact grow _ _ _ hf | exact hf); rw [e] at this; cases this
          · have := r'.zb b ⟨by rw [hb]; simp, n, hf⟩; rw [e] at this; cases this) r'.j (fun b hb => ⟨r'.zf b hb, .inl (grow _ _ b hb)⟩) a'
  · intro s' Z' σ' H' q' k' r'
    exact fin .non s' Z' σ' .non H' q' k' r' rfl
  · exact fin
  · intro s' Z' σ' H' q'; exact q'.elim
  · intro s' Z' σ' H' q'; exact q'.elim
theorem okG {G : GP γ} (hK : G.K = K) {x qual : Str} {st : Stmt} {f : Addr} {fd : FuncData} {N ps : List Str} {k : Nat} (F : Fn K x qual st f fd) (S : FnScope N ps (defScope st)) {fs : Spec γ} (len : ∀ ds g R, fs ds g R → ds.length = ps.length)
    (body : ∃ t : PSx γ, (∀ (cdv : Value) (A : Around) (outer : List Env) (s : Shared) (H : Hp) (E : XK), Room k (A.deeper (envOfC qual (defScope st) s.heap.objs.size f cdv)) →
      QSs (cxOf CX0 P w K mg base N qual (defScope st) f cdv A outer s H E).nox G (defBody st) t) ∧ ∀ ds g R, fs ds g R → t { nx := fun s => R .non s.g, rt := R } ⟨startL N.length ds, g⟩)
    (grow : ∀ g g' : γ, ∀ a, G.foot g' a → G.foot g a) (hfl : ∀ a, G.fl a = none := by intro _; rfl) : FnOk P w K mg base CX0 (k + 1) f fd ps (spG G fs) := by
  subst hK
  refine F.ok S (fun vs H Q E h => ?_) (fun cdv A outer s H vs Q E hr h => ?_)
  · obtain ⟨Z, ds, g, R, _, a, _, _, h, _⟩ := h
    rw [a.len]; exact len _ _ _ h
  · obtain ⟨t, hb, hp⟩ := body
    exact ⟨_, hb cdv A outer s H E hr, liftG (ps := ps) (by have := congrArg List.length S.pre; rw [List.length_take] at this; omega) len hp grow hfl h⟩
end
end Pm

set_option Elab.async false
set_option linter.all false
set_option maxRecDepth 100000
set_option maxHeartbeats 1000000
set_option autoImplicit false
namespace Pm
open PySem PySem.Spec
open PyProof.Rows hiding St
open L2
variable {γ : Type}

def keyPy : Key → PyData
  | .inl i => .int i
  | .inr x => .str x
mutual
def D.py : D → PyData
  | .non => .none
  | .bl b => .bool b
  | .int i => .int i
  | .str x => .str x
  | .lst xs => .list (D.pys xs)
  | .tup xs => .tuple (D.pys xs)
  | .dct ks xs => .dict ((ks.map keyPy).zip (D.pys xs))
  | .obj _ => .none
def D.pys : List D → List PyData
  | [] => []
  | d :: ds => d.py :: D.pys ds
end
theorem D.pys_map : ∀ ds : List D, D.pys ds = ds.map D.py
  | [] => rfl
  | d :: ds => by rw [D.pys, D.pys_map ds]; rfl
mutual
def D.pln : D → Bool
  | .non => true
  | .bl _ => true
  | .int _ => true
  | .str x => PyData.strOk x
  | .lst xs => D.plns xs
  | .tup xs => D.plns xs
  | .dct _ _ => false
  | .obj _ => false
def D.plns : List D → Bool
  | [] => true
  | d :: ds => d.pln && D.plns ds
end
mutual
def D.dep : D → Nat
  | .lst xs => D.deps xs + 1
  | .tup xs => D.deps xs + 1
  | .dct _ xs => D.deps xs + 1
  | _ => 0
def D.deps : List D → Nat
  | [] => 0
  | d :: ds => max d.dep (D.deps ds)
end
mutual
def D.eqv : D → D → Bool
  | .non, .non => true
  | .bl a, .bl b => a == b
  | .bl a, .int j => (if a then 1 else 0) == j
  | .int i, .bl b => i == (if b then 1 else 0)
  | .int i, .int j => i == j
  | .str x, .str y => x == y
  | .lst xs, .lst ys => D.eqvs xs ys
  | .tup xs, .tup ys => D.eqvs xs ys
  | _, _ => false
def D.eqvs : List D → List D → Bool
  | [], [] => true
  | x :: xs, y :: ys => D.eqv x y && D.eqvs xs ys
  | _, _ => false
end
mutual
theorem eqv_py : ∀ (d e : D), d.pln = true → e.pln = true → PyData.eqv d.py e.py = D.eqv d e
  | .lst xs, e, h, h' => by
    cases e <;> simp_all only [D.pln, D.py, D.eqv, PyData.eqv, Bool.false_eq_true]
    exact eqvs_py xs _ h h'
  | .tup xs, e, h, h' => by
    cases e <;> simp_all only [D.pln, D.py, D.eqv, PyData.eqv, Bool.false_eq_true]
    exact eqvs_py xs _ h h'
  | .non, e, h, h' => by cases e <;> simp_all [D.pln, D.py, D.eqv, PyData.eqv]
  | .bl a, e, h, h' => by cases e <;> simp_all [D.pln, D.py, D.eqv, PyData.eqv]
  | .int a, e, h, h' => by cases e <;> simp_all [D.pln, D.py, D.eqv, PyData.eqv]
  | .str a, e, h, h' => by cases e <;> simp_all [D.pln, D.py, D.eqv, PyData.eqv]
  | .dct _ _, e, h, h' => by simp [D.pln] at h
  | .obj _, e, h, h' => by simp [D.pln] at h
theorem eqvs_py : ∀ (xs ys : List D), D.plns xs = true → D.plns ys = true → PyData.eqvAll (D.pys xs) (D.pys ys) = D.eqvs xs ys
  | [], [], _, _ => by simp [D.pys, D.eqvs, PyData.eqvAll]
  | [], _ :: _, _, _ => by simp [D.pys, D.eqvs, PyData.eqvAll]
  | _ :: _, [], _, _ => by simp [D.pys, D.eqvs, PyData.eqvAll]
  | x :: xs, y :: ys, h, h' => by
    simp only [D.plns, Bool.and_eq_true] at h h'
    simp only [D.pys, D.eqvs, PyData.eqvAll]
    rw [eqv_py x y h.1 h'.1, eqvs_py xs ys h.2 h'.2]
end
mutual
theorem canLay_py : ∀ (d : D), d.pln = true → d.py.canLay0 = true
  | .lst xs, h => by simp only [D.pln] at h; simp only [D.py, PyData.canLay0]; exact canLays_py xs h
  | .tup xs, h => by simp only [D.pln] at h; simp only [D.py, PyData.canLay0]; exact canLays_py xs h
  | .non, h => rfl
  | .bl _, h => rfl
  | .int _, h => rfl
  | .str _, h => by simp only [D.pln] at h; simp only [D.py, PyData.canLay0]; exact h
  | .dct _ _, h => by simp [D.pln] at h
  | .obj _, h => by simp [D.pln] at h
theorem canLays_py : ∀ (ds : List D), D.plns ds = true → PyData.canLayAll0 (D.pys ds) = true
  | [], _ => rfl
  | d :: ds, h => by
    simp only [D.plns, Bool.and_eq_true] at h
    simp only [D.pys, PyData.canLayAll0, Bool.and_eq_true]
    exact ⟨canLay_py d h.1, canLays_py ds h.2⟩
end
mutual
theorem dep_py : ∀ (d : D), d.pln = true → d.py.depth = d.dep
  | .lst xs, h => by simp only [D.pln] at h; simp only [D.py, PyData.depth, D.dep, deps_py xs h]
  | .tup xs, h => by simp only [D.pln] at h; simp only [D.py, PyData.depth, D.dep, deps_py xs h]
  | .non, h => by simp [D.py, PyData.depth, D.dep]
  | .bl _, h => by simp [D.py, PyData.depth, D.dep]
  | .int _, h => by simp [D.py, PyData.depth, D.dep]
  | .str _, h => by simp [D.py, PyData.depth, D.dep]
  | .dct _ _, h => by simp [D.pln] at h
  | .obj _, h => by simp [D.pln] at h
theorem deps_py : ∀ (ds : List D), D.plns ds = true → PyData.depthAll (D.pys ds) = D.deps ds
  | [], _ => by simp [D.pys, PyData.depthAll, D.deps]
  | d :: ds, h => by
    simp only [D.plns, Bool.and_eq_true] at h
    simp only [D.pys, PyData.depthAll, D.deps, dep_py d h.1, deps_py ds h.2]
end
section
variable {K : PySem.W.Frag} {Z H : Hp}
mutual
theorem At.dp (k : Same Z H) : ∀ (d : D) (v : V), At K Z d v → d.pln = true → Dp K H v d.py
  | .lst xs, v, h, p => by
    simp only [At] at h; simp only [D.pln] at p; simp only [D.py]
    obtain ⟨a, vs, rfl, h2, h3⟩ := h
    exact .lst (.inl (.inl (k _ _ h2))) (Ats.dp k xs vs h3 p)
  | .tup xs, v, h, p => by
    simp only [At] at h; simp only [D.pln] at p; simp only [D.py]
    obtain ⟨a, vs, rfl, h2, h3⟩ := h
    exact .tup (seqT k h2) (Ats.dp k xs vs h3 p)
  | .non, v, h, p => by simp only [At] at h; subst h; exact .non
  | .bl b, v, h, p => by simp only [At] at h; subst h; exact .bl b
  | .int i, v, h, p => by simp only [At] at h; subst h; exact .int i
  | .str x, v, h, p => by simp only [At] at h; subst h; exact .str x
  | .dct _ _, _, h, p => by simp [D.pln] at p
  | .obj _, _, h, p => by simp [D.pln] at p
theorem Ats.dp (k : Same Z H) : ∀ (ds : List D) (vs : List V), Ats K Z ds vs → D.plns ds = true → DpAll K H vs (D.pys ds)
  | [], vs, h, p => by simp only [Ats] at h; subst h; exact .nil
  | d :: ds, vs, h, p => by
    simp only [Ats] at h; simp only [D.plns, Bool.and_eq_true] at p; simp only [D.pys]
    obtain ⟨w, ws, rfl, h2, h3⟩ := h
    exact .cons (At.dp k d w h2 p.1) (Ats.dp k ds ws h3 p.2)
end
end

theorem dk {K : PySem.W.Frag} {Z H : Hp} {R : DK} {Q : VK} (q : ∀ z Z' v H', R z → Ext Z H Z' H' → At K Z' z v → Q v H') (k : Same Z H) {d : D} {v : V} (h : R d) (a : At K Z d v) : Q v H := q d Z v H h (Ext.refl k) a

section
variable {X : Cx}
def MulOk (i j : Int) : Prop := CMul i j ∨ CMulW i j
theorem MulOk.ok {i j : Int} (h : MulOk i j) : IntMulOk i j := by
  rcases h with h | h
  · exact h.ok
  · exact h.ok
theorem op_mulM : OpR X (binaryOp .Mult) (rI MulOk fun i j => .int (i * j)) := opI fun _ _ _ _ _ _ _ hc q => mul_int q hc.ok
def DivOk (i j : Int) : Prop := j ≠ 0 ∧ j.natAbs.log2 < 9000
theorem op_fdivM : OpR X (binaryOp .FloorDiv) (rI DivOk fun i j => .int (i.fdiv j)) := opI fun i j _ _ _ _ _ hc q => floordiv_int hc.1 q (.inl (PyProof.noPylong_of_log2 hc.2))
def rCatT' (K : PySem.W.Frag) : R2 := fun x y H Q => ∃ a b xs ys, x = .ref a ∧ y = .ref b ∧ SqT K H a xs ∧ SqT K H b ys ∧ xs.length + ys.length ≤ sizeLine ∧
  (ys = [] → Q (.ref a) H) ∧ (xs = [] → Q (.ref b) H) ∧ (∀ p, H p = none → Q (.ref p) (upd H p (.tup (xs ++ ys))))
theorem op_catT' : OpR X (binaryOp .Add) (rCatT' X.K) := by
  intro pins s σ H x y v u Q I rx ry h
  obtain ⟨a, b, xs, ys, rfl, rfl, ha, hb, hz, q1, q3, q2⟩ := h
  by_cases hx : xs = []
  · cases rx
    cases ry
    obtain ⟨its, r1, p1, _⟩ := I.tuple ha
    obtain ⟨its2, r2, p2, _⟩ := I.tuple hb
    subst hx
    cases r1
    obtain ⟨⟨cls, dd, data, sl⟩, ho, hc, n, hd⟩ := id p1
    obtain ⟨⟨cls2, dd2, data2, sl2⟩, ho2, hc2, n2, hd2⟩ := id p2
    simp only at hc hd hc2 hd2
    subst hc hd hc2 hd2
    exact concat_meets ⟨_, ho, rfl⟩ ⟨_, ho2, rfl⟩ noFill_tuple_add seq_tuple_add PySem.F.slot_tuple_add PySem.F.entry_tuple_add (PySem.F.args_tuple_add_2 _ _)
      (tuple_addW0 a b [].toArray its2.toArray n n2 dd dd2 sl sl2 rfl) ⟨ho, ho2, ⟨.ref b, H, I, rfl, q3 rfl⟩⟩
  · exact op_catT pins s σ H _ _ v u Q I rx ry ⟨a, b, xs, ys, rfl, rfl, ha, hb, hx, hz, q1, fun _ => q2⟩

def addD : D → D → DK → Prop
  | .int i, .int j, R => R (.int (i + j))
  | .str x, .str y, R => x.length + y.length ≤ sizeLine ∧ R (.str (x ++ y))
  | .tup xs, .tup ys, R => xs.length + ys.length ≤ sizeLine ∧ R (.tup (xs ++ ys))
  | .lst xs, .lst ys, R => xs.length + ys.length ≤ sizeLine ∧ R (.lst (xs ++ ys))
  | _, _, _ => False
theorem o_add : OpR X (binaryOp .Add) (dOp2 X.K addD) := by
  intro pins s σ H x y v u Q I rx ry ⟨Z, d, e, R, k, ad, ae, h, q⟩
  cases d <;> cases e <;> try exact h.elim
  · simp only [At] at ad ae
    subst ad; subst ae
    exact op_add pins s σ H _ _ v u Q I rx ry ⟨_, _, rfl, rfl, dk q k h rfl⟩
  · simp only [At] at ad ae
    subst ad; subst ae
    exact op_add_str pins s σ H _ _ v u Q I rx ry ⟨_, _, rfl, rfl, h.1, dk q k h.2 rfl⟩
  · simp only [At] at ad ae
    obtain ⟨a, vs, rfl, a2, a3⟩ := ad
    obtain ⟨b, ws, rfl, b2, b3⟩ := ae
    refine op_cat pins s σ H _ _ v u Q I rx ry ⟨a, b, vs, ws, rfl, rfl, k _ _ a2, k _ _ b2, by rw [a3.len, b3.len]; exact h.1, fun p hp => ?_⟩
    have x := Ext.new (o := HO.lst (vs ++ ws)) k hp
    exact q _ _ _ _ h.2 x ⟨p, _, rfl, upd_same, (Ats.mono x.zz _ _ a3).append (Ats.mono x.zz _ _ b3)⟩
  · simp only [At] at ad ae
    obtain ⟨a, vs, rfl, a2, a3⟩ := ad
    obtain ⟨b, ws, rfl, b2, b3⟩ := ae
    refine op_catT' pins s σ H _ _ v u Q I rx ry ⟨a, b, vs, ws, rfl, rfl, seqT k a2, seqT k b2, by rw [a3.len, b3.len]; exact h.1, fun e => ?_, fun e => ?_, fun p hp => ?_⟩
    · subst e
      have := b3.len
      rename_i ys
      cases ys with
      | nil => exact dk (d := .tup _) q k (by simpa using h.2) (show At X.K Z (.tup _) _ from ⟨a, vs, rfl, a2, a3⟩)
      | cons => simp at this
    · subst e
      have := a3.len
      rename_i xs ys
      cases xs with
      | nil => exact dk (d := .tup _) q k (by simpa using h.2) (show At X.K Z (.tup _) _ from ⟨b, ws, rfl, b2, b3⟩)
      | cons => simp at this
    · have x := Ext.new (o := HO.tup (vs ++ ws)) k hp
      exact q _ _ _ _ h.2 x ⟨p, _, rfl, .inl (.inl upd_same), (Ats.mono x.zz _ _ a3).append (Ats.mono x.zz _ _ b3)⟩
def addF : D → D → (List D → Prop) → Prop
  | .lst xs, .lst ys, R => xs.length + ys.length ≤ sizeLine ∧ R (xs ++ ys)
  | _, _, _ => False
theorem o_addF : OpR X (binaryOp .Add) (dOp2F X.K addF) := by
  intro pins s σ H x y v u Q I rx ry ⟨Z, d, e, R, k, ad, ae, h, q⟩
  cases d <;> cases e <;> try exact h.elim
  simp only [At] at ad ae
  obtain ⟨a, vs, rfl, a2, a3⟩ := ad
  obtain ⟨b, ws, rfl, b2, b3⟩ := ae
  refine op_cat pins s σ H _ _ v u Q I rx ry ⟨a, b, vs, ws, rfl, rfl, k _ _ a2, k _ _ b2, by rw [a3.len, b3.len]; exact h.1, fun p hp => ?_⟩
  exact q _ _ _ _ h.2 (same_upd hp) hp upd_same (a3.append b3)
def intD2 (C : Int → Int → Prop) (f : Int → Int → D) : D → D → DK → Prop
  | .int i, .int j, R => C i j ∧ R (f i j)
  | _, _, _ => False
theorem o_int {f : Value → Value → Sem Value} {C : Int → Int → Prop} {g : Int → Int → V} {g' : Int → Int → D} (ho : OpR X f (rI C g)) (hg : ∀ i j Z, At X.K Z (g' i j) (g i j)) : OpR X f (dOp2 X.K (intD2 C g')) := by
  intro pins s σ H x y v u Q I rx ry ⟨Z, d, e, R, k, ad, ae, h, q⟩
  cases d <;> cases e <;> try exact h.elim
  simp only [At] at ad ae
  subst ad; subst ae
  exact ho pins s σ H _ _ v u Q I rx ry ⟨_, _, rfl, rfl, h.1, dk q k h.2 (hg _ _ _)⟩
def intD0 (f : Int → Int → D) : D → D → DK → Prop
  | .int i, .int j, R => R (f i j)
  | _, _, _ => False
theorem o_int0 {f : Value → Value → Sem Value} {g : Int → Int → V} {g' : Int → Int → D} (ho : OpR X f (rI0 g)) (hg : ∀ i j Z, At X.K Z (g' i j) (g i j)) : OpR X f (dOp2 X.K (intD0 g')) := by
  intro pins s σ H x y v u Q I rx ry ⟨Z, d, e, R, k, ad, ae, h, q⟩
  cases d <;> cases e <;> try exact h.elim
  simp only [At] at ad ae
  subst ad; subst ae
  exact ho pins s σ H _ _ v u Q I rx ry ⟨_, _, rfl, rfl, dk q k h (hg _ _ _)⟩
abbrev subD := intD0 fun i j => .int (i - j)
theorem o_sub : OpR X (binaryOp .Sub) (dOp2 X.K subD) := o_int0 op_sub fun _ _ _ => rfl
abbrev fdivD := intD2 DivOk fun i j => .int (i.fdiv j)
theorem o_fdiv : OpR X (binaryOp .FloorDiv) (dOp2 X.K fdivD) := o_int op_fdivM fun _ _ _ => rfl
abbrev modD := intD2 (fun _ j => 0 < j) fun i j => .int (i % j)
theorem o_mod : OpR X (binaryOp .Mod) (dOp2 X.K modD) := o_int op_mod fun _ _ _ => rfl
abbrev powD := intD2 CPow fun i j => .int (i ^ j.toNat)
theorem o_pow : OpR X (binaryOp .Pow) (dOp2 X.K powD) := o_int op_pow fun _ _ _ => rfl
def mulD : D → D → DK → Prop
  | .int i, .int j, R => MulOk i j ∧ R (.int (i * j))
  | .lst xs, .int k, R => (-(2 ^ 63) ≤ k ∧ k < 2 ^ 63 ∧ xs.length * k.toNat ≤ sizeLine) ∧ R (.lst (List.replicate k.toNat xs).flatten)
  | _, _, _ => False
theorem Ats.rep {K : PySem.W.Frag} {Z : Hp} {ds : List D} {vs : List V} (h : Ats K Z ds vs) : ∀ n, Ats K Z (List.replicate n ds).flatten (List.replicate n vs).flatten
  | 0 => rfl
  | n + 1 => by
    rw [List.replicate_succ, List.replicate_succ, List.flatten_cons, List.flatten_cons]
    exact h.append (Ats.rep h n)
theorem o_mul : OpR X (binaryOp .Mult) (dOp2 X.K mulD) := by
  intro pins s σ H x y v u Q I rx ry ⟨Z, d, e, R, k, ad, ae, h, q⟩
  cases d <;> cases e <;> try exact h.elim
  · simp only [At] at ad ae
    subst ad; subst ae
    exact op_mulM pins s σ H _ _ v u Q I rx ry ⟨_, _, rfl, rfl, h.1, dk q k h.2 rfl⟩
  · simp only [At] at ad ae
    obtain ⟨a, vs, rfl, a2, a3⟩ := ad
    subst ae
    refine op_rep pins s σ H _ _ v u Q I rx ry ⟨a, _, vs, rfl, rfl, k _ _ a2, h.1.1, h.1.2.1, by rw [a3.len]; exact h.1.2.2, fun p hp => ?_⟩
    rename_i xs n
    have x := Ext.new (o := HO.lst (List.replicate n.toNat vs).flatten) k hp
    exact q _ _ _ _ h.2 x ⟨p, _, rfl, upd_same, Ats.rep (Ats.mono x.zz _ _ a3) _⟩
def mulF : D → D → (List D → Prop) → Prop
  | .lst xs, .int k, R => (-(2 ^ 63) ≤ k ∧ k < 2 ^ 63 ∧ xs.length * k.toNat ≤ sizeLine) ∧ R (List.replicate k.toNat xs).flatten
  | _, _, _ => False
theorem o_mulF : OpR X (binaryOp .Mult) (dOp2F X.K mulF) := by
  intro pins s σ H x y v u Q I rx ry ⟨Z, d, e, R, k, ad, ae, h, q⟩
  cases d <;> cases e <;> try exact h.elim
  simp only [At] at ad ae
  obtain ⟨a, vs, rfl, a2, a3⟩ := ad
  subst ae
  refine op_rep pins s σ H _ _ v u Q I rx ry ⟨a, _, vs, rfl, rfl, k _ _ a2, h.1.1, h.1.2.1, by rw [a3.len]; exact h.1.2.2, fun p hp => ?_⟩
  exact q _ _ _ _ h.2 (same_upd hp) hp upd_same (Ats.rep a3 _)
def negD : D → DK → Prop
  | .int i, R => R (.int (-i))
  | _, _ => False
theorem o_neg : UnR X (unaryOp .USub) (dOp1 X.K negD) := by
  intro pins s σ H x v Q I rx ⟨Z, d, R, k, ad, h, q⟩
  cases d <;> try exact h.elim
  simp only [At] at ad
  subst ad
  exact un_neg pins s σ H _ v Q I rx ⟨_, rfl, dk q k h rfl⟩

def EqOk : D → D → Prop
  | .str _, .str _ => True
  | d, e => d.pln = true ∧ e.pln = true ∧ d.dep ≤ 64 ∧ e.dep ≤ 64
theorem EqOk.two {d e : D} (h : EqOk d e) : (∃ x y, d = .str x ∧ e = .str y) ∨ (d.pln = true ∧ e.pln = true ∧ d.dep ≤ 64 ∧ e.dep ≤ 64) := by
  unfold EqOk at h
  split at h
  · exact .inl ⟨_, _, rfl, rfl⟩
  · exact .inr h
theorem EqOk.of {d e : D} (h : d.pln = true ∧ e.pln = true ∧ d.dep ≤ 64 ∧ e.dep ≤ 64) : EqOk d e := by
  unfold EqOk
  split
  · trivial
  · exact h
def eqD : D → D → DK → Prop := fun d e R => EqOk d e ∧ R (.bl (D.eqv d e))
def neD : D → D → DK → Prop := fun d e R => EqOk d e ∧ R (.bl (!D.eqv d e))
theorem shaped_py {d : D} (h : d.pln = true) (h' : d.dep ≤ 64) : SeqAt.shaped d.py = true := by
  unfold SeqAt.shaped
  rw [canLay_py d h, dep_py d h, decide_eq_true h']; rfl
theorem str_dec (x y : Str) : decide (V.str x = V.str y) = (x == y) := by
  rw [Bool.eq_iff_iff]; simp
theorem o_eq {k : Nat} (hr : Room k X.A) : OpR X (compareOp .Eq) (dOp2 X.K eqD) := by
  intro pins s σ H x y v u Q I rx ry ⟨Z, d, e, R, k, ad, ae, h, q⟩
  rcases h.1.two with ⟨z1, z2, rfl, rfl⟩ | h1
  · simp only [At] at ad ae
    subst ad; subst ae
    refine op_eq pins s σ H _ _ v u Q I rx ry ⟨rfl, ?_⟩
    rw [str_dec]
    exact dk q k h.2 rfl
  refine op_eqD hr.units pins s σ H _ _ v u Q I rx ry ⟨d.py, e.py, At.dp k d x ad h1.1, At.dp k e y ae h1.2.1, shaped_py h1.1 h1.2.2.1, shaped_py h1.2.1 h1.2.2.2, ?_⟩
  rw [eqv_py d e h1.1 h1.2.1]
  exact dk q k h.2 rfl
theorem o_ne {k : Nat} (hr : Room k X.A) : OpR X (compareOp .NotEq) (dOp2 X.K neD) := by
  intro pins s σ H x y v u Q I rx ry ⟨Z, d, e, R, k, ad, ae, h, q⟩
  rcases h.1.two with ⟨z1, z2, rfl, rfl⟩ | h1
  · simp only [At] at ad ae
    subst ad; subst ae
    refine op_ne pins s σ H _ _ v u Q I rx ry ⟨rfl, ?_⟩
    rw [str_dec]
    exact dk q k h.2 rfl
  refine op_neD hr.units pins s σ H _ _ v u Q I rx ry ⟨d.py, e.py, At.dp k d x ad h1.1, At.dp k e y ae h1.2.1, shaped_py h1.1 h1.2.2.1, shaped_py h1.2.1 h1.2.2.2, ?_⟩
  rw [eqv_py d e h1.1 h1.2.1]
  exact dk q k h.2 rfl
abbrev leD := intD0 fun i j => .bl (decide (i ≤ j))
abbrev gtD := intD0 fun i j => .bl (decide (j < i))
abbrev geD := intD0 fun i j => .bl (decide (j ≤ i))
abbrev ltD := intD0 fun i j => .bl (decide (i < j))
theorem o_le : OpR X (compareOp .LtE) (dOp2 X.K leD) := o_int0 op_le fun _ _ _ => rfl
theorem o_gt : OpR X (compareOp .Gt) (dOp2 X.K gtD) := o_int0 op_gt fun _ _ _ => rfl
theorem o_ge : OpR X (compareOp .GtE) (dOp2 X.K geD) := o_int0 op_ge fun _ _ _ => rfl
theorem o_lt : OpR X (compareOp .Lt) (dOp2 X.K ltD) := o_int0 op_lt fun _ _ _ => rfl
def isND : D → D → DK → Prop
  | .non, .non, R => R (.bl true)
  | .bl _, .non, R => R (.bl false)
  | .int _, .non, R => R (.bl false)
  | .str _, .non, R => R (.bl false)
  | .lst _, .non, R => R (.bl false)
  | .tup _, .non, R => R (.bl false)
  | .dct _ _, .non, R => R (.bl false)
  | .obj _, .non, R => R (.bl false)
  | _, _, _ => False
def notND : D → D → DK → Prop := fun d e R => isND d e fun z => match z with
  | .bl b => R (.bl (!b))
  | _ => False
theorem isND_at {K : PySem.W.Frag} {Z : Hp} {d e : D} {x y : V} {R : DK} (ad : At K Z d x) (ae : At K Z e y) (h : isND d e R) : y = .non ∧ R (.bl (decide (x = .non))) := by
  cases e <;> (cases d <;> try exact h.elim) <;> simp only [At] at ad ae
  all_goals subst ae
  all_goals first
    | (subst ad; exact ⟨rfl, by simpa [isND] using h⟩)
    | (obtain ⟨a, vs, rfl, _⟩ := ad; exact ⟨rfl, by simpa [isND] using h⟩)
theorem o_isN : OpR X (compareOp .Is) (dOp2 X.K isND) := by
  intro pins s σ H x y v u Q I rx ry ⟨Z, d, e, R, k, ad, ae, h, q⟩
  obtain ⟨h1, h2⟩ := isND_at ad ae h
  exact op_isN pins s σ H _ _ v u Q I rx ry ⟨h1, dk q k h2 rfl⟩
theorem o_notN : OpR X (compareOp .IsNot) (dOp2 X.K notND) := by
  intro pins s σ H x y v u Q I rx ry ⟨Z, d, e, R, k, ad, ae, h, q⟩
  obtain ⟨h1, h2⟩ := isND_at ad ae h
  exact op_notN pins s σ H _ _ v u Q I rx ry ⟨h1, dk q k h2 rfl⟩
def inW (neg : Bool) : D → D → DK → Prop := fun d e R => match e with
  | .lst xs => (d.pln = true ∧ D.plns xs = true ∧ d.dep ≤ 60) ∧ R (.bl (neg ^^ xs.any fun y => D.eqv y d))
  | .tup xs => (d.pln = true ∧ D.plns xs = true ∧ d.dep ≤ 60) ∧ R (.bl (neg ^^ xs.any fun y => D.eqv y d))
  | _ => False
abbrev inD := inW false
abbrev notInD := inW true
theorem any_py {xs : List D} {d : D} (h : D.plns xs = true) (hd : d.pln = true) : ((D.pys xs).any fun y => PyData.eqv y d.py) = xs.any fun y => D.eqv y d := by
  induction xs with
  | nil => rfl
  | cons y ys ih =>
    simp only [D.plns, Bool.and_eq_true] at h
    simp only [D.pys, List.any_cons]
    rw [eqv_py y d h.1 hd, ih h.2]
theorem room_in {A : Around} {k n m : Nat} (hr : Room k A) (h : m ≤ 60) : A.units + 1 + min n m < cLine := by
  have := hr.units
  have : min n m ≤ m := Nat.min_le_right _ _
  omega
theorem o_in {k : Nat} (hr : Room k X.A) : OpR X (compareOp .In) (dOp2 X.K inD) := by
  intro pins s σ H x y v u Q I rx ry ⟨Z, d, e, R, k, ad, ae, h, q⟩
  cases e <;> try exact h.elim
  · obtain ⟨⟨h1, h2, h3⟩, h4⟩ := h
    obtain ⟨as, r1⟩ := Dp.reads I _ y u (At.dp k _ y ae h2) ry
    obtain ⟨bs, r2⟩ := Dp.reads I _ x v (At.dp k _ x ad h1) rx
    exact SeqAt.in_list_reads r1 r2 (canLays_py _ h2) (canLay_py _ h1) (by rw [dep_py d h1]; exact room_in hr h3) ⟨.bl _, H, I, rfl, dk q k h4 (by simp [At, any_py h2 h1])⟩
  · obtain ⟨⟨h1, h2, h3⟩, h4⟩ := h
    obtain ⟨as, r1⟩ := Dp.reads I _ y u (At.dp k _ y ae h2) ry
    obtain ⟨bs, r2⟩ := Dp.reads I _ x v (At.dp k _ x ad h1) rx
    exact SeqAt.in_tuple_reads r1 r2 (canLays_py _ h2) (canLay_py _ h1) (by rw [dep_py d h1]; exact room_in hr h3) ⟨.bl _, H, I, rfl, dk q k h4 (by simp [At, any_py h2 h1])⟩
theorem o_notIn {k : Nat} (hr : Room k X.A) : OpR X (compareOp .NotIn) (dOp2 X.K notInD) := by
  intro pins s σ H x y v u Q I rx ry ⟨Z, d, e, R, k, ad, ae, h, q⟩
  cases e <;> try exact h.elim
  · obtain ⟨⟨h1, h2, h3⟩, h4⟩ := h
    obtain ⟨as, r1⟩ := Dp.reads I _ y u (At.dp k _ y ae h2) ry
    obtain ⟨bs, r2⟩ := Dp.reads I _ x v (At.dp k _ x ad h1) rx
    exact SeqAt.notIn_list_reads r1 r2 (canLays_py _ h2) (canLay_py _ h1) (by rw [dep_py d h1]; exact room_in hr h3) ⟨.bl _, H, I, rfl, dk q k h4 (by simp [At, any_py h2 h1])⟩
  · obtain ⟨⟨h1, h2, h3⟩, h4⟩ := h
    obtain ⟨as, r1⟩ := Dp.reads I _ y u (At.dp k _ y ae h2) ry
    obtain ⟨bs, r2⟩ := Dp.reads I _ x v (At.dp k _ x ad h1) rx
    exact SeqAt.notIn_tuple_reads r1 r2 (canLays_py _ h2) (canLay_py _ h1) (by rw [dep_py d h1]; exact room_in hr h3) ⟨.bl _, H, I, rfl, dk q k h4 (by simp [At, any_py h2 h1])⟩
end
end Pm

set_option Elab.async false
set_option linter.all false
set_option maxRecDepth 100000
set_option maxHeartbeats 1000000
set_option autoImplicit false
namespace Pm
open PySem PySem.Spec
open PyProof.Rows hiding St
open L2
variable {γ : Type}

inductive Sk where | l (a : Addr) | t (a : Addr) | s (x : Str) (tk : Tok)
def Sk.it : Sk → Heap → Addr → Nat → Prop
  | .l a, h, it, i => h.IsListIter it a i
  | .t a, h, it, i => h.IsTupleIter it a i
  | .s x tk, h, it, i => h.IsStrIter it (strIterType x) x tk i
def Sk.fp : Sk → List Addr
  | .l a => [a]
  | .t a => [a]
  | .s _ _ => []
def Sk.src (K : PySem.W.Frag) (H : Hp) : Sk → List V → Prop
  | .l a, xs => SqL K H a xs
  | .t a, xs => SqT K H a xs
  | .s x _, xs => xs = x.cps.toList.map fun c => V.str ⟨#[c]⟩
def Sk.mem (h : Heap) : Sk → List Value → Prop
  | .l a, its => h.IsList a its.toArray
  | .t a, its => h.IsTuple a its.toArray
  | .s _ _, _ => True
def Sk.pr : Sk → List Value → Nat → Value → Prop
  | .s x _, _, i, v => ∃ c u, x.cps[i]? = some c ∧ v = .str ⟨#[c]⟩ u
  | _, its, i, v => its.toArray[i]? = some v
def Sk.val : Sk → Value
  | .l a => .ref a
  | .t a => .ref a
  | .s x tk => .str x tk
def Sk.ob : Sk → Obj
  | .l a => { cls := .type "list_iterator", data := .fields #[.ref a, .int 0 0] }
  | .t a => { cls := .type "tuple_iterator", data := .fields #[.ref a, .int 0 0] }
  | .s x tk => { cls := .type (strIterType x), data := .fields #[.str x tk, .int 0 0] }
section
variable {X : Cx} {pins : List (Addr × Obj)} {σ : St} {H : Hp} {s : Shared}
theorem Sk.read (I : L2.Inv X pins σ H s) {k : Sk} {xs : List V} (h : k.src X.K H xs) : ∃ its, k.mem s.heap its ∧ (∀ i v, k.pr its i v → ∃ x, xs[i]? = some x ∧ RelV x v) ∧ ∀ (A : Around), A.handled = none → ∀ it, it ∉ k.fp →
    Draws X.prog X.w A it (it :: k.fp) xs.length (k.pr its) (fun i h => k.it h it i ∧ k.mem h its) := by
  cases k with
  | l a =>
    obtain ⟨its, r, p, _⟩ := I.list h
    refine ⟨its, p.isList, fun i v e => ?_, fun A hA it hne => ?_⟩
    · have e' : its[i]? = some v := by simpa [Sk.pr] using e
      have hl := r.length
      have hi : i < xs.length := by rw [hl]; exact (List.getElem?_eq_some_iff.mp e').1
      obtain ⟨u, h1, h2⟩ := r.get (List.getElem?_eq_getElem hi)
      rw [e'] at h1; cases h1
      exact ⟨_, List.getElem?_eq_getElem hi, h2⟩
    · have := Draws.list (prog := X.prog) (w := X.w) hA it a (fun e => hne (by simp [Sk.fp, e])) its.toArray
      rw [List.size_toArray, ← r.length] at this
      exact this
  | t a =>
    obtain ⟨its, r, p, _⟩ := I.tuple h
    refine ⟨its, p, fun i v e => ?_, fun A hA it hne => ?_⟩
    · have e' : its[i]? = some v := by simpa [Sk.pr] using e
      have hl := r.length
      have hi : i < xs.length := by rw [hl]; exact (List.getElem?_eq_some_iff.mp e').1
      obtain ⟨u, h1, h2⟩ := r.get (List.getElem?_eq_getElem hi)
      rw [e'] at h1; cases h1
      exact ⟨_, List.getElem?_eq_getElem hi, h2⟩
    · have := Draws.tuple (prog := X.prog) (w := X.w) hA it a (fun e => hne (by simp [Sk.fp, e])) its.toArray
      rw [List.size_toArray, ← r.length] at this
      exact this
  | s x tk =>
    have hx : xs = x.cps.toList.map fun c => V.str ⟨#[c]⟩ := h
    refine ⟨[], trivial, fun i v e => ?_, fun A hA it hne => ?_⟩
    · obtain ⟨c, u, h1, rfl⟩ := e
      exact ⟨.str ⟨#[c]⟩, by rw [hx, List.getElem?_map, Array.getElem?_toList, h1]; rfl, ⟨u, rfl⟩⟩
    · have := Draws.text (prog := X.prog) (w := X.w) hA it x tk
      have hl : xs.length = x.cps.size := by rw [hx, List.length_map, Array.length_toList]
      rw [hl]
      exact ⟨fun i h st => this.live i h st.1, fun i h h' st k => ⟨this.frame i h h' st.1 k, trivial⟩, fun i s Q E hi st hQ => this.item i s Q E hi st.1 fun v h' tk p st' sb => hQ v h' tk p ⟨st', trivial⟩ sb,
        fun s Q E st hE => this.done s Q E st.1 hE⟩
theorem Sk.src_inj (I : L2.Inv X pins σ H s) {k : Sk} {xs ys : List V} (h : k.src X.K H xs) (h' : k.src X.K H ys) : xs = ys := by
  cases k with
  | l a => exact I.list_inj h h'
  | t a => exact I.tuple_inj h h'
  | s x tk => exact (show xs = _ from h).trans (show ys = _ from h').symm
theorem Sk.begins (k : Sk) (its : List Value) : Begins k.val k.ob (fun h => k.mem h its) := by
  cases k with
  | l a => exact begins_list a its.toArray
  | t a => exact begins_tuple a its.toArray
  | s x tk => exact begins_text x tk
theorem Sk.it0 {k : Sk} {h : Heap} {it : Addr} (e : h.get? it = some k.ob) : k.it h it 0 := by
  cases k with
  | l a => exact ⟨_, e, rfl, rfl⟩
  | t a => exact ⟨_, e, rfl, rfl⟩
  | s x tk => exact ⟨_, e, rfl, rfl⟩
theorem Sk.itAt {k : Sk} {h h' : Heap} {it : Addr} {i : Nat} (st : k.it h it i) (kp : ∀ o, h.get? it = some o → h'.get? it = some o) : k.it h' it i := by
  cases k with
  | l a => exact Heap.IsListIter.at st kp
  | t a => exact Heap.IsTupleIter.at st kp
  | s x tk => obtain ⟨o, ho, r⟩ := st; exact ⟨o, kp o ho, r⟩
theorem Sk.itOb {k : Sk} {h : Heap} {it : Addr} {i : Nat} (st : k.it h it i) : ∃ o, h.get? it = some o ∧ ∀ v, o.data ≠ .cell v := by
  cases k with
  | l a => obtain ⟨o, e, _, d⟩ := st; exact ⟨o, e, fun v q => by rw [d] at q; cases q⟩
  | t a => obtain ⟨o, e, _, d⟩ := st; exact ⟨o, e, fun v q => by rw [d] at q; cases q⟩
  | s x tk => obtain ⟨o, e, _, d⟩ := st; exact ⟨o, e, fun v q => by rw [d] at q; cases q⟩
end

theorem turnT {X : Cx} {pins : List (Addr × Obj)} {σ : St} {H : Hp} {s : Shared} {I : Addr} {fp wr cells : List Addr} {n i : Nat} {Pt : Nat → Array Value → Prop} {Stt : Nat → Heap → Prop} {Mid : Nat → Addr → Heap → Prop} {elts : List Expr} {kk : Nat} {tpos : Pos} {E : Value → Shared → Prop} {Good : List V → Prop}
    (W : WalksT X.prog X.w X.A I fp wr n Pt Stt Mid) (hi : i < n) (st : Stt i s.heap) (J : L2.Inv X pins σ H s) (hwr : ∀ b ∈ wr, b ∈ cells) (hf : ∀ b ∈ cells, FpOk X pins H b) (hcl : ∀ b ∈ cells, ∃ o, s.heap.get? b = some o)
    (hP : ∀ vals, Pt i vals → ∃ xs, Vals xs vals.toList ∧ xs.length ≤ sizeLine ∧ Good xs) :
    wpAny (model X.prog X.w) X.A (pyNext (.ref I)) (fun r s1 => ∃ u, r = some u ∧ wpAny (model X.prog X.w) X.A (letOwnedTupleGo (.Tuple elts kk tpos) (.ref I) u) (fun _ s2 => ∃ T xs, Good xs ∧ u = .ref T ∧ H T = none ∧
      L2.Inv X pins σ (upd H T (.tup xs)) s2 ∧ Stt (i + 1) s2.heap ∧ ∀ b ∈ cells, (upd H T (.tup xs)) b = none) E s1) E s := by
  refine W.item i s _ E hi st fun T vals h' tk hp hT hIs hMid hk => ⟨_, rfl, ?_⟩
  refine W.go elts kk tpos i T { s with heap := h', toks := tk } _ _ hMid fun h'' st'' hk'' => ?_
  obtain ⟨xs, rv, hz, hg⟩ := hP vals hp
  have hHT : H T = none := J.hok.fresh hT
  have keep : ∀ b o, b ∉ cells → s.heap.get? b = some o → h''.get? b = some o := fun b o hb e => hk'' b o (fun h => hb (hwr b h)) (hk b o (fun h => hb (hwr b h)) e)
  obtain ⟨oT, eT, cT, nT, dT⟩ := hIs
  have new : ObjOk X.prog X.w (upd H T (.tup xs)) h'' T (.tup xs) := ⟨hz, vals.toList, rv, ⟨oT, hk'' T oT (W.apart i T h' hMid) eT, cT, nT, by simpa using dT⟩⟩
  refine ⟨T, xs, hg, rfl, hHT, J.turnedNew (t' := tk) (ch := cells) keep hf hT new, st'', fun b hb => ?_⟩
  obtain ⟨o, e⟩ := hcl b hb
  rw [upd_ne (Nat.ne_of_lt (Nat.lt_of_lt_of_le (Heap.lt_size e) hT))]
  exact (hf b hb).1

def Jz (K : PySem.W.Frag) (k1 k2 : Sk) : It :=
  ⟨fun i H => ∃ (xs ys : List V) (x y : V), k1.src K H xs ∧ k2.src K H ys ∧ xs[i]? = some x ∧ ys[i]? = some y,
    fun i H v H' => ∃ T x y, v = .ref T ∧ H T = none ∧ H' = upd H T (.tup [x, y]) ∧ (∀ xs, k1.src K H xs → xs[i]? = some x) ∧ ∀ ys, k2.src K H ys → ys[i]? = some y,
    fun i H => ∃ xs ys : List V, k1.src K H xs ∧ k2.src K H ys ∧ i = min xs.length ys.length⟩
theorem turn_zipG {P : Program} {w : World} {K : PySem.W.Frag} {elts : List Expr} {kk : Nat} {tpos : Pos} {z TI TO i1 i2 : Addr} {k1 k2 : Sk} (Sp : ZipSep2 z TI TO i1 i2 (i1 :: k1.fp) (i2 :: k2.fp)) (n1 : i1 ∉ k1.fp) (n2 : i2 ∉ k2.fp) :
    Turn P w K (.Tuple elts kk tpos) (Jz K k1 k2) [z, TI, TO, i1, i2] z (fun i h => IsZip h z TI TO .none ∧ IsTupOf2 h TI (.ref i1) (.ref i2) ∧ (∃ a1 a2, IsTupOf2 h TO a1 a2) ∧ k1.it h i1 i ∧ k2.it h i2 i) where
  mem := by simp
  obj := fun i h st c hc => by
    obtain ⟨hz, hTI, ⟨x, y, hTO⟩, h1, h2⟩ := st
    have e' : c = z ∨ c = TI ∨ c = TO ∨ c = i1 ∨ c = i2 := by simpa using hc
    rcases e' with q | q | q | q | q
    · rw [q]; exact ⟨_, hz, fun v q => nomatch q⟩
    · rw [q]; exact ⟨_, hTI, fun v q => nomatch q⟩
    · rw [q]; exact ⟨_, hTO, fun v q => nomatch q⟩
    · rw [q]; exact Sk.itOb h1
    · rw [q]; exact Sk.itOb h2
  keep := fun i h h' st k => by
    obtain ⟨hz, hTI, ⟨x, y, hTO⟩, h1, h2⟩ := st
    exact ⟨k z (by simp) _ hz, k TI (by simp) _ hTI, ⟨x, y, k TO (by simp) _ hTO⟩, Sk.itAt h1 fun o q => k i1 (by simp) o q, Sk.itAt h2 fun o q => k i2 (by simp) o q⟩
  item := by
    intro X hP hw hK hc i pins s σ H E I hf st hg
    subst hP hw hK
    obtain ⟨hz, hTI, ⟨x0, y0, hTO⟩, h1, h2⟩ := st
    obtain ⟨xs, ys, x, y, hqx, hqy, hx, hy⟩ := hg
    obtain ⟨its, m1, p1, d1⟩ := Sk.read I hqx
    obtain ⟨its2, m2, p2, d2⟩ := Sk.read I hqy
    have hd := I.ok.hd hc
    have W := WalksT.zipD2 Sp (d1 X.A.in1 hd i1 n1) (d2 X.A.in1 hd i2 n2)
    have hi : i < min xs.length ys.length := by
      have a := (List.getElem?_eq_some_iff.mp hx).1
      have b := (List.getElem?_eq_some_iff.mp hy).1
      omega
    refine thn (turnT (Good := fun zs => zs = [x, y]) W hi ⟨hz, hTI, ⟨x0, y0, hTO⟩, ⟨h1, m1⟩, h2, m2⟩ I (cells := [z, TI, TO, i1, i2]) (fun b hb => ?_) hf (fun b hb => ?_) fun vals hv => ?_) fun r s1 ⟨u, hr, h⟩ => ⟨u, hr, thn h fun _ s2 ⟨T, zs, e1, e2, e3, e4, e5, e6⟩ => ?_⟩
    · have : b = z ∨ b = TO ∨ b = i1 ∨ b = i2 := by simpa using hb
      simp only [List.mem_cons, List.not_mem_nil, or_false]
      rcases this with h | h | h | h <;> simp [h]
    · have e' : b = z ∨ b = TI ∨ b = TO ∨ b = i1 ∨ b = i2 := by simpa using hb
      rcases e' with q | q | q | q | q
      · rw [q]; exact ⟨_, hz⟩
      · rw [q]; exact ⟨_, hTI⟩
      · rw [q]; exact ⟨_, hTO⟩
      · rw [q]; obtain ⟨o, e, _⟩ := Sk.itOb h1; exact ⟨o, e⟩
      · rw [q]; obtain ⟨o, e, _⟩ := Sk.itOb h2; exact ⟨o, e⟩
    · obtain ⟨x1, x2, q1, q2, rfl⟩ := hv
      obtain ⟨v1, f1, r1⟩ := p1 i x1 q1
      obtain ⟨v2, f2, r2⟩ := p2 i x2 q2
      rw [hx] at f1; rw [hy] at f2
      cases f1; cases f2
      exact ⟨[x, y], .cons r1 (.cons r2 .nil), by show 2 ≤ sizeLine; decide, rfl⟩
    · subst e1; subst e2
      obtain ⟨z', TI', TO', ⟨a1, _⟩, a2, _⟩ := e5
      exact ⟨.ref T, _, e4, rfl, ⟨T, x, y, rfl, e3, rfl, fun l hl => by rw [Sk.src_inj I hl hqx]; exact hx, fun l hl => by rw [Sk.src_inj I hl hqy]; exact hy⟩, ⟨z', TI', TO', a1, a2⟩, e6⟩
  done := by
    intro X hP hw hK hc i pins s σ H E I hf st hg
    subst hP hw hK
    obtain ⟨hz, hTI, ⟨x0, y0, hTO⟩, h1, h2⟩ := st
    obtain ⟨xs, ys, hqx, hqy, rfl⟩ := hg
    obtain ⟨its, m1, p1, d1⟩ := Sk.read I hqx
    obtain ⟨its2, m2, p2, d2⟩ := Sk.read I hqy
    have hd := I.ok.hd hc
    have W := WalksT.zipD2 Sp (d1 X.A.in1 hd i1 n1) (d2 X.A.in1 hd i2 n2)
    refine W.done s _ E ⟨hz, hTI, ⟨x0, y0, hTO⟩, ⟨h1, m1⟩, h2, m2⟩ fun h' tk hk => ⟨rfl, I.turnedL (t' := tk) (ch := [z, TI, TO, i1, i2]) (fun b o hb e => hk b o (fun q => hb ?_) e) hf⟩
    have : b = z ∨ b = TO ∨ b = i1 ∨ b = i2 := by simpa using q
    simp only [List.mem_cons, List.not_mem_nil, or_false]
    rcases this with h | h | h | h <;> simp [h]
  self := fun A i s Q E st h => wpAny_pyIter_zip st.1 h

def Je (K : PySem.W.Frag) (k1 : Sk) : It :=
  ⟨fun i H => ∃ (xs : List V) (x : V), k1.src K H xs ∧ xs[i]? = some x,
    fun i H v H' => ∃ T x, v = .ref T ∧ H T = none ∧ H' = upd H T (.tup [.int (i : Nat), x]) ∧ (∀ xs, k1.src K H xs → xs[i]? = some x),
    fun i H => ∃ xs : List V, k1.src K H xs ∧ i = xs.length⟩
theorem turn_enumG {P : Program} {w : World} {K : PySem.W.Frag} {elts : List Expr} {kk : Nat} {tpos : Pos} {e it : Addr} {k1 : Sk} (hei : e ≠ it) (hef : e ∉ it :: k1.fp) (n1 : it ∉ k1.fp) :
    Turn P w K (.Tuple elts kk tpos) (Je K k1) [e, it] e (fun i h => (∃ old, IsEnum h e it ((0 : Int) + (i : Int)) old) ∧ k1.it h it i) where
  mem := by simp
  obj := fun i h st c hc => by
    obtain ⟨⟨old, he⟩, h1⟩ := st
    have e' : c = e ∨ c = it := by simpa using hc
    rcases e' with q | q
    · rw [q]; exact ⟨_, he, fun v q => nomatch q⟩
    · rw [q]; exact Sk.itOb h1
  keep := fun i h h' st k => by
    obtain ⟨⟨old, he⟩, h1⟩ := st
    exact ⟨⟨old, k e (by simp) _ he⟩, Sk.itAt h1 fun o q => k it (by simp) o q⟩
  item := by
    intro X hP hw hK hc i pins s σ H E I hf st hg
    subst hP hw hK
    obtain ⟨⟨old, he⟩, h1⟩ := st
    obtain ⟨xs, x, hqx, hx⟩ := hg
    obtain ⟨its, m1, p1, d1⟩ := Sk.read I hqx
    have hd := I.ok.hd hc
    have W := WalksT.enumFrom 0 (d1 X.A.in1 hd it n1) e hei hef (by simp)
    have hi : i < xs.length := (List.getElem?_eq_some_iff.mp hx).1
    refine thn (turnT (Good := fun zs => zs = [.int (i : Nat), x]) W hi ⟨⟨old, he⟩, h1, m1⟩ I (cells := [e, it]) (fun b hb => hb) hf (fun b hb => ?_) fun vals hv => ?_) fun r s1 ⟨u, hr, h⟩ => ⟨u, hr, thn h fun _ s2 ⟨T, zs, e1, e2, e3, e4, e5, e6⟩ => ?_⟩
    · have e' : b = e ∨ b = it := by simpa using hb
      rcases e' with q | q
      · rw [q]; exact ⟨_, he⟩
      · rw [q]; obtain ⟨o, e, _⟩ := Sk.itOb h1; exact ⟨o, e⟩
    · obtain ⟨t, x1, q1, rfl⟩ := hv
      obtain ⟨v1, f1, r1⟩ := p1 i x1 q1
      rw [hx] at f1
      cases f1
      exact ⟨[.int (i : Nat), x], .cons ⟨t, by rw [Int.zero_add]⟩ (.cons r1 .nil), by show 2 ≤ sizeLine; decide, rfl⟩
    · subst e1; subst e2
      exact ⟨.ref T, _, e4, rfl, ⟨T, x, rfl, e3, rfl, fun l hl => by rw [Sk.src_inj I hl hqx]; exact hx⟩, ⟨e5.1, e5.2.1⟩, e6⟩
  done := by
    intro X hP hw hK hc i pins s σ H E I hf st hg
    subst hP hw hK
    obtain ⟨⟨old, he⟩, h1⟩ := st
    obtain ⟨xs, hqx, rfl⟩ := hg
    obtain ⟨its, m1, p1, d1⟩ := Sk.read I hqx
    have hd := I.ok.hd hc
    have W := WalksT.enumFrom 0 (d1 X.A.in1 hd it n1) e hei hef (by simp)
    exact W.done s _ E ⟨⟨old, he⟩, h1, m1⟩ fun h' tk hk => ⟨rfl, I.turnedL (t' := tk) (ch := [e, it]) (fun b o hb e => hk b o hb e) hf⟩
  self := fun A i s Q E st h => let ⟨⟨_, he⟩, _⟩ := st; wpAny_pyIter_enum he h

def itemsD : D → Option (List D)
  | .lst xs => some xs
  | .tup xs => some xs
  | .str x => some (x.cps.toList.map fun c => .str ⟨#[c]⟩)
  | _ => none
theorem src_of {K : PySem.W.Frag} {Z : Hp} {d : D} {v : V} {u : Value} {ds : List D} (a : At K Z d v) (r : RelV v u) (e : itemsD d = some ds) :
    ∃ k : Sk, k.val = u ∧ (∀ H, Same Z H → ∃ xs, k.src K H xs ∧ Ats K Z ds xs) := by
  cases d <;> simp only [itemsD, Option.some.injEq, reduceCtorEq] at e
  · simp only [At] at a
    subst a; subst e
    obtain ⟨t, rfl⟩ := r
    rename_i x
    refine ⟨.s x t, rfl, fun H _ => ⟨_, rfl, ?_⟩⟩
    generalize x.cps.toList = l
    induction l with
    | nil => rfl
    | cons c l ih => exact ⟨_, _, rfl, rfl, ih⟩
  · simp only [At] at a
    obtain ⟨p, vs, rfl, h1, h2⟩ := a
    subst e
    cases r
    exact ⟨.l p, rfl, fun H k => ⟨vs, .inl (.inl (k _ _ h1)), h2⟩⟩
  · simp only [At] at a
    obtain ⟨p, vs, rfl, h1, h2⟩ := a
    subst e
    cases r
    exact ⟨.t p, rfl, fun H k => ⟨vs, seqT k h1, h2⟩⟩
theorem Sk.fp_lt {X : Cx} {pins : List (Addr × Obj)} {σ : St} {H : Hp} {s : Shared} (I : L2.Inv X pins σ H s) {k : Sk} {xs : List V} (h : k.src X.K H xs) : ∀ b ∈ k.fp, b < s.heap.objs.size := by
  cases k with
  | l a =>
    intro b hb
    obtain ⟨its, r, p, _⟩ := I.list h
    rw [show b = a by simpa [Sk.fp] using hb]; exact p.lt
  | t a =>
    intro b hb
    obtain ⟨its, r, p, _⟩ := I.tuple h
    rw [show b = a by simpa [Sk.fp] using hb]; exact p.lt
  | s x tk => intro b hb; cases hb

def zipD : List D → List D → List D
  | x :: xs, y :: ys => .tup [x, y] :: zipD xs ys
  | _, _ => []
theorem zipD_len : ∀ xs ys : List D, (zipD xs ys).length = min xs.length ys.length
  | [], _ => by simp [zipD]
  | _ :: _, [] => by simp [zipD]
  | x :: xs, y :: ys => by simp only [zipD, List.length_cons, zipD_len xs ys]; omega
theorem zipD_get : ∀ {xs ys : List D} {i : Nat} {d : D}, (zipD xs ys)[i]? = some d → ∃ x y, xs[i]? = some x ∧ ys[i]? = some y ∧ d = .tup [x, y]
  | [], _, _, _, h => by simp [zipD] at h
  | _ :: _, [], _, _, h => by simp [zipD] at h
  | x :: xs, y :: ys, 0, d, h => by simp [zipD] at h; exact ⟨x, y, rfl, rfl, h.symm⟩
  | x :: xs, y :: ys, i + 1, d, h => zipD_get (xs := xs) (ys := ys) (i := i) (by simpa [zipD] using h)
def enumGo (i : Nat) : List D → List D
  | [] => []
  | d :: ds => .tup [.int (i : Nat), d] :: enumGo (i + 1) ds
def enumD (ds : List D) : List D := enumGo 0 ds
theorem enumGo_len : ∀ (ds : List D) (k : Nat), (enumGo k ds).length = ds.length
  | [], _ => rfl
  | d :: ds, k => by simp only [enumGo, List.length_cons, enumGo_len ds]
theorem enumGo_get : ∀ {ds : List D} {i k : Nat} {d : D}, (enumGo k ds)[i]? = some d → ∃ x, ds[i]? = some x ∧ d = .tup [.int ((k + i : Nat) : Int), x]
  | [], _, _, _, h => by simp [enumGo] at h
  | x :: xs, 0, k, d, h => by simp [enumGo] at h; exact ⟨x, rfl, by rw [Nat.add_zero]; exact h.symm⟩
  | x :: xs, i + 1, k, d, h => by
    obtain ⟨y, h1, h2⟩ := enumGo_get (ds := xs) (i := i) (k := k + 1) (by simpa [enumGo] using h)
    exact ⟨y, by simpa using h1, by rw [show k + (i + 1) = k + 1 + i by omega]; exact h2⟩

section
variable {X : Cx} {G : GP γ} {tg e e2 : Expr} {p pos tpos : Pos} {elts : List Expr} {kk : Nat}
def qItems (te : PEx γ) : PAx γ := fun s R => te s fun d s1 => match itemsD d with
  | some ds => R ds s1
  | none => False
theorem walks_list {K : PySem.W.Frag} {Z : Hp} {a : Addr} {vs : List V} {ds : List D} (h : Z a = some (.lst vs)) (h2 : Ats K Z ds vs) : Walks K (Itl K a) Z ds := by
  intro i Z1 H k1 k2
  have hs : SqL K H a vs := .inl (.inl (k2 _ _ (k1 _ _ h)))
  refine ⟨fun d hd => ?_, fun hl => ⟨vs, hs, by rw [h2.len]; exact Nat.le_of_eq hl.symm⟩⟩
  obtain ⟨v, hv, av⟩ := h2.get hd
  refine ⟨⟨vs, v, hs, hv⟩, fun x H' y => ?_⟩
  obtain ⟨e, y⟩ := y
  subst e
  have := y vs hs
  rw [hv] at this
  cases this
  exact ⟨Z1, Ext.refl k2, At.mono k1 _ _ av⟩
theorem walks_tup {K : PySem.W.Frag} {Z : Hp} {a : Addr} {vs : List V} {ds : List D} (h : SqT K Z a vs) (h2 : Ats K Z ds vs) : Walks K (Itt K a) Z ds := by
  intro i Z1 H k1 k2
  have hs : SqT K H a vs := seqT (k1.trans k2) h
  refine ⟨fun d hd => ?_, fun hl => ⟨vs, hs, by rw [h2.len]; exact Nat.le_of_eq hl.symm⟩⟩
  obtain ⟨v, hv, av⟩ := h2.get hd
  refine ⟨⟨vs, v, hs, hv⟩, fun x H' y => ?_⟩
  obtain ⟨e, y⟩ := y
  subst e
  have := y vs hs
  rw [hv] at this
  cases this
  exact ⟨Z1, Ext.refl k2, At.mono k1 _ _ av⟩
theorem walks_str {K : PySem.W.Frag} {Z : Hp} {x : Str} : Walks K (Its x) Z (x.cps.toList.map fun c => .str ⟨#[c]⟩) := by
  intro i Z1 H k1 k2
  refine ⟨fun d hd => ?_, fun hl => (by have : i = x.cps.size := by simpa using hl
                                        exact Nat.le_of_eq this.symm : x.cps.size ≤ i)⟩
  rw [List.getElem?_map, Array.getElem?_toList] at hd
  cases q : x.cps[i]? with
  | none => rw [q] at hd; cases hd
  | some c =>
    rw [q] at hd
    cases hd
    refine ⟨(Array.getElem?_eq_some_iff.mp q).1, fun v H' y => ?_⟩
    obtain ⟨e, c', h1, h2⟩ := y
    subst e; subst h2
    rw [q] at h1; cases h1
    exact ⟨Z1, Ext.refl k2, rfl⟩
theorem qi_seq {te : PEx γ} (h : QE X G e te) (hK : X.K = G.K := by rfl) : QI X G tg e (qItems te) := by
  refine ⟨fun pins s σ H R I w => ?_⟩
  obtain ⟨F, Z, sg, Rp, r, t, q⟩ := w
  refine thn (h.run pins s σ H (fun v H1 => ∃ d s1 Z1, Rel G F Z1 s1 σ H1 ∧ At G.K Z1 d v ∧ ∃ ds, itemsD d = some ds ∧ ∀ J, Walks G.K J Z1 ds → R J H1) I ⟨F, Z, sg, _, r, t, fun d s1 Z1 v H1 t1 k1 r1 a1 => ?_⟩) fun u s1 ⟨v, H1, I1, rv, d, sg1, Z1, r1, a1, ds, e1, q1⟩ => ?_
  · cases e1 : itemsD d with
    | none => rw [e1] at t1; exact t1.elim
    | some ds => rw [e1] at t1; exact ⟨d, s1, Z1, r1, a1, ds, e1, fun J hJ => q ds s1 Z1 H1 J t1 k1 r1 hJ⟩
  · have fresh : ∀ b ∈ [s1.heap.objs.size], FpOk X pins H1 b := fun b hb => by
      have e : b = s1.heap.objs.size := by simpa using hb
      subst e
      exact I1.fpOk (Nat.le_refl _) (I1.hok.fresh (Nat.le_refl _))
    cases d <;> simp only [itemsD, Option.some.injEq, reduceCtorEq] at e1
    · simp only [At] at a1
      subst a1; subst e1
      rename_i x
      obtain ⟨t, rfl⟩ := rv
      -- a text's iterator
      refine wpAny_pyIter_strU ?_
      have I2 : L2.Inv X pins σ H1 { s1 with heap := s1.heap.push { cls := .type (strIterType x), data := .fields #[.str x t, .int 0 0] } } := I1.kept (t' := s1.toks) fun b o e => Heap.get?_push_of_some _ e
      have st0 : ({ s1 with heap := s1.heap.push { cls := .type (strIterType x), data := .fields #[.str x t, .int 0 0] } } : Shared).heap.IsStrIter s1.heap.objs.size (strIterType x) x t 0 := ⟨_, Heap.get?_push_size _ rfl, rfl, rfl⟩
      first
        | exact ⟨s1.heap.objs.size, [s1.heap.objs.size], _, _, H1, rfl, I2, turn_str s1.heap.objs.size x t (strIterType x) (by unfold strIterType; split <;> simp), st0, fresh, q1 _ walks_str⟩
    · simp only [At] at a1
      obtain ⟨a, vs, rfl, h1, h2⟩ := a1
      subst e1
      cases rv
      obtain ⟨its, rv, p, hz⟩ := I1.list (xs := vs) (.inl (.inl (r1.z _ _ h1)))
      refine wpAny_pyIter_list p.isList ?_
      exact ⟨s1.heap.objs.size, [s1.heap.objs.size], _, _, H1, rfl, I1.kept (t' := s1.toks) fun b o e => Heap.get?_push_of_some _ e, turn_list a _, ⟨_, Heap.get?_push_size _ rfl, rfl, rfl⟩, fresh, q1 _ (by rw [hK]; exact walks_list h1 h2)⟩
    · simp only [At] at a1
      obtain ⟨a, vs, rfl, h1, h2⟩ := a1
      subst e1
      cases rv
      obtain ⟨its, rv, p, hz⟩ := I1.tuple (xs := vs) (by rw [hK]; exact seqT r1.z h1)
      refine wpAny_pyIter_tuple (show s1.heap.IsTuple a its.toArray from p) ?_
      exact ⟨s1.heap.objs.size, [s1.heap.objs.size], _, _, H1, rfl, I1.kept (t' := s1.toks) fun b o e => Heap.get?_push_of_some _ e, turn_tuple a _, ⟨_, Heap.get?_push_size _ rfl, rfl, rfl⟩, fresh, q1 _ (by rw [hK]; exact walks_tup h1 h2)⟩

def qZip (ta : PAx γ) : PAx γ := fun s R => ta s fun ds s1 => match ds with
  | [d1, d2] => match itemsD d1, itemsD d2 with
    | some xs, some ys => R (zipD xs ys) s1
    | _, _ => False
  | _ => False
theorem walks_zip {K : PySem.W.Frag} {Z : Hp} {k1 k2 : Sk} {xs ys : List D} (h1 : ∀ H, Same Z H → ∃ vs, k1.src K H vs ∧ Ats K Z xs vs) (h2 : ∀ H, Same Z H → ∃ vs, k2.src K H vs ∧ Ats K Z ys vs) : Walks K (Jz K k1 k2) Z (zipD xs ys) := by
  intro i Z1 H z1 z2
  obtain ⟨vs, a1, a2⟩ := h1 H (z1.trans z2)
  obtain ⟨ws, b1, b2⟩ := h2 H (z1.trans z2)
  refine ⟨fun d hd => ?_, fun hl => ⟨vs, ws, a1, b1, by rw [hl, zipD_len, a2.len, b2.len]⟩⟩
  obtain ⟨x, y, hx, hy, rfl⟩ := zipD_get hd
  obtain ⟨v, c1, c2⟩ := a2.get hx
  obtain ⟨w, d1, d2⟩ := b2.get hy
  refine ⟨⟨vs, ws, v, w, a1, b1, c1, d1⟩, fun u H' yl => ?_⟩
  obtain ⟨T, x', y', rfl, hT, rfl, f1, f2⟩ := yl
  have e1 := f1 vs a1
  have e2 := f2 ws b1
  rw [c1] at e1; rw [d1] at e2
  cases e1; cases e2
  have x := Ext.new (o := HO.tup [v, w]) z2 hT
  exact ⟨_, x, ⟨T, _, rfl, .inl (.inl upd_same), ⟨_, _, rfl, At.mono (z1.trans x.zz) _ _ c2, ⟨_, _, rfl, At.mono (z1.trans x.zz) _ _ d2, rfl⟩⟩⟩⟩
theorem qi_zip {ta : PAx γ} (hg : Gl X "zip") (hm : X.mg "zip" = none) (ha : QA X G [e, e2] ta) (hK : X.K = G.K := by rfl)
    (hs : starEach [e, e2] X.env = (false, eval e X.env) :: starEach [e2] X.env := by rfl) (hpl : (backTo pos (starEach [e2] X.env)).any (·.1) = false := by rfl) : QI X G (.Tuple elts kk tpos) (.Call (.Name "zip" p) [e, e2] [] pos) (qZip ta) := by
  refine ⟨fun pins s σ H R I w => ?_⟩
  obtain ⟨F, Z, sg, Rp, r, t, q⟩ := w
  refine Call_ (ld_blt I hg hm PyProof.Rows.boot_zip (PyProof.Rows.callWith_type1 (thn (ha.run pos pins s σ H (fun vs H1 => ∃ d1 d2 xs ys s1 Z1, Rel G F Z1 s1 σ H1 ∧ Ats G.K Z1 [d1, d2] vs ∧ itemsD d1 = some xs ∧ itemsD d2 = some ys ∧ ∀ J, Walks G.K J Z1 (zipD xs ys) → R J H1) I ⟨F, Z, sg, _, r, t, fun ds s1 Z1 vs H1 t1 k1 r1 a1 => ?_⟩) fun us s1 ⟨vs, H1, I1, rv, d1, d2, xs, ys, sg1, Z1, r1, a1, e1, e2', q1⟩ => ?_) hs hpl))
  · match ds, t1, a1 with
    | [d1, d2], t1, a1 =>
      cases e1 : itemsD d1 with
      | none => simp only [e1] at t1
      | some xs =>
        cases e2' : itemsD d2 with
        | none => simp only [e1, e2'] at t1
        | some ys =>
          simp only [e1, e2'] at t1
          exact ⟨d1, d2, xs, ys, s1, Z1, r1, a1, e1, e2', fun J hJ => q _ s1 Z1 H1 J t1 k1 r1 hJ⟩
  · simp only [Ats] at a1
    obtain ⟨v1, _, rfl, a1, v2, _, rfl, a2, rfl⟩ := a1
    obtain ⟨u1, u2, rfl, rv1, rv2⟩ := vals2 rv
    rw [← hK] at a1 a2
    obtain ⟨k1, rfl, c1⟩ := src_of a1 rv1 e1
    obtain ⟨k2, rfl, c2⟩ := src_of a2 rv2 e2'
    obtain ⟨ws1, g1, g1'⟩ := c1 H1 r1.z
    obtain ⟨ws2, g2, g2'⟩ := c2 H1 r1.z
    obtain ⟨its1, m1, _⟩ := Sk.read I1 g1
    obtain ⟨its2, m2, _⟩ := Sk.read I1 g2
    have l1 := Sk.fp_lt I1 g1
    have l2 := Sk.fp_lt I1 g2
    refine zip_begins2 (k1.begins its1) (k2.begins its2) m1 m2 fun h' hz hTI hTO o1 o2 hsz hk => wpAny_pyIter_zip hz ?_
    have I2 : L2.Inv X pins σ H1 { s1 with heap := h' } := I1.kept (t' := s1.toks) hk
    refine ⟨s1.heap.objs.size + 4, [s1.heap.objs.size + 4, s1.heap.objs.size + 2, s1.heap.objs.size + 3, s1.heap.objs.size, s1.heap.objs.size + 1], _, _, H1, rfl, I2,
      turn_zipG (k1 := k1) (k2 := k2) (zip_sep2 l1 l2) (fun h => absurd (l1 _ h) (Nat.lt_irrefl _)) (fun h => absurd (l2 _ h) (Nat.not_lt_of_le (Nat.le_succ _))), ⟨hz, hTI, ⟨_, _, hTO⟩, Sk.it0 o1, Sk.it0 o2⟩, fun c hcm => ?_, q1 _ (by rw [← hK]; exact walks_zip c1 c2)⟩
    have e' : c = s1.heap.objs.size + 4 ∨ c = s1.heap.objs.size + 2 ∨ c = s1.heap.objs.size + 3 ∨ c = s1.heap.objs.size ∨ c = s1.heap.objs.size + 1 := by simpa using hcm
    have hle : s1.heap.objs.size ≤ c := by
      rcases e' with z | z | z | z | z
      · rw [z]; exact Nat.le_add_right _ _
      · rw [z]; exact Nat.le_add_right _ _
      · rw [z]; exact Nat.le_add_right _ _
      · rw [z]; exact Nat.le_refl _
      · rw [z]; exact Nat.le_add_right _ _
    exact I1.fpOk hle (I1.hok.fresh hle)
def qEnum (ta : PAx γ) : PAx γ := fun s R => ta s fun ds s1 => match ds with
  | [d1] => match itemsD d1 with
    | some xs => R (enumD xs) s1
    | _ => False
  | _ => False
theorem meets_enumerate_new1 {v : Value} {o : Obj} {H : Heap → Prop} (B : Begins v o H) :
    Meets (Builtin.«enumerate.__new__» ⟨[.type "enumerate", v], []⟩) (fun _ R s => H s.heap ∧
      R (.ok (.ret (.ref (s.heap.push o).objs.size))) { s with heap := (s.heap.push o).push { cls := .type "enumerate", data := .fields #[.none, .bool false, .ref s.heap.objs.size, rawInt 0, .none, .none] } }) :=
  .of_wp fun prog w A R s h => by
    obtain ⟨hp, g, d, tk, os⟩ := s; obtain ⟨h1, h⟩ := h
    have hsub := sub_enumerate
    have q1 : ∀ {A' : Around} {E : Value → Shared → Prop} {Q : Value → Shared → Prop}, Q (.ref hp.objs.size) ⟨hp.push o, g, d, tk, os⟩ → wpAny (model prog w) A' (pyIter v) Q E ⟨hp, g, d, tk, os⟩ :=
      fun q => B.iter prog w _ _ ⟨hp, g, d, tk, os⟩ _ h1 q
    wp_walk using q1
    refine wpAny_stack_any fun st => wpAny_pure ?_
    split
    · rename_i c _ _ _ _ _
      cases (c == Value.type "enumerate")
      · wp_walk using q1
        exact ⟨_, rfl, h⟩
      · wp_walk using q1
        exact ⟨_, rfl, h⟩
    · wp_walk using q1
      exact ⟨_, rfl, h⟩
theorem enum_begins1 {prog : Program} {w : World} {A : Around} {E : Value → Shared → Prop} {s : Shared} {v : Value} {o : Obj} {H : Heap → Prop} {Q : Value → Shared → Prop} (B : Begins v o H) (h1 : H s.heap)
    (h : ∀ h', IsEnum h' (s.heap.objs.size + 1) s.heap.objs.size 0 .none → h'.get? s.heap.objs.size = some o → h'.objs.size = s.heap.objs.size + 2 →
      (∀ b o, s.heap.get? b = some o → h'.get? b = some o) → Q (.ref (s.heap.objs.size + 1)) { s with heap := h' }) :
    wpAny (model prog w) A (call (.type "enumerate") [v]) Q E s := by
  refine callType_new F.called_enumerate (by decide) (F.typeCall_enumerate_1 _) (F.newCall_enumerate_1 _) (fun obj => F.args_object_init_2 obj _) F.entry_enumerate_new
    (meets_enumerate_new1 B) ⟨h1, ?_⟩
  have hz : (s.heap.push o).objs.size = s.heap.objs.size + 1 := Heap.size_push ..
  show _ ∧ _
  rw [hz]
  have he : IsEnum ((s.heap.push o).push { cls := .type "enumerate", data := .fields #[.none, .bool false, .ref s.heap.objs.size, rawInt 0, .none, .none] }) (s.heap.objs.size + 1) s.heap.objs.size 0 .none := by
    have := Heap.get?_push_size (s.heap.push o) (o := { cls := .type "enumerate", data := .fields #[.none, .bool false, .ref s.heap.objs.size, rawInt 0, .none, .none] }) rfl
    rw [hz] at this; exact this
  refine ⟨⟨_, he, rfl⟩, h _ he (Heap.get?_push_of_some _ (Heap.get?_push_size _ B.free)) (by rw [Heap.size_push, hz]) fun b o x => Heap.get?_push_of_some _ (Heap.get?_push_of_some _ x)⟩
theorem walks_enum {K : PySem.W.Frag} {Z : Hp} {k1 : Sk} {xs : List D} (h1 : ∀ H, Same Z H → ∃ vs, k1.src K H vs ∧ Ats K Z xs vs) : Walks K (Je K k1) Z (enumD xs) := by
  intro i Z1 H z1 z2
  obtain ⟨vs, a1, a2⟩ := h1 H (z1.trans z2)
  refine ⟨fun d hd => ?_, fun hl => ⟨vs, a1, by rw [hl, enumD, enumGo_len, a2.len]⟩⟩
  obtain ⟨x, hx, rfl⟩ := enumGo_get hd
  obtain ⟨v, c1, c2⟩ := a2.get hx
  refine ⟨⟨vs, v, a1, c1⟩, fun u H' yl => ?_⟩
  obtain ⟨T, x', rfl, hT, rfl, f1⟩ := yl
  have e1 := f1 vs a1
  rw [c1] at e1
  cases e1
  have x := Ext.new (o := HO.tup [.int (i : Nat), v]) z2 hT
  exact ⟨_, x, ⟨T, _, rfl, .inl (.inl upd_same), ⟨_, _, rfl, by simp [At], ⟨_, _, rfl, At.mono (z1.trans x.zz) _ _ c2, rfl⟩⟩⟩⟩
theorem qi_enum {ta : PAx γ} (hg : Gl X "enumerate") (hm : X.mg "enumerate" = none) (ha : QA X G [e] ta) (hK : X.K = G.K := by rfl) (hs : starEach [e] X.env = [(false, eval e X.env)] := by rfl) :
    QI X G (.Tuple elts kk tpos) (.Call (.Name "enumerate" p) [e] [] pos) (qEnum ta) := by
  refine ⟨fun pins s σ H R I w => ?_⟩
  obtain ⟨F, Z, sg, Rp, r, t, q⟩ := w
  refine Call_ (ld_blt I hg hm PyProof.Rows.boot_enumerate (PyProof.Rows.callWith_type1 (thn (ha.run pos pins s σ H (fun vs H1 => ∃ d1 xs s1 Z1, Rel G F Z1 s1 σ H1 ∧ Ats G.K Z1 [d1] vs ∧ itemsD d1 = some xs ∧ ∀ J, Walks G.K J Z1 (enumD xs) → R J H1) I ⟨F, Z, sg, _, r, t, fun ds s1 Z1 vs H1 t1 k1 r1 a1 => ?_⟩) fun us s1 ⟨vs, H1, I1, rv, d1, xs, sg1, Z1, r1, a1, e1, q1⟩ => ?_) hs rfl))
  · match ds, t1, a1 with
    | [d1], t1, a1 =>
      cases e1 : itemsD d1 with
      | none => simp only [e1] at t1
      | some xs =>
        simp only [e1] at t1
        exact ⟨d1, xs, s1, Z1, r1, a1, e1, fun J hJ => q _ s1 Z1 H1 J t1 k1 r1 hJ⟩
  · simp only [Ats] at a1
    obtain ⟨v1, _, rfl, a1, rfl⟩ := a1
    obtain ⟨u1, rfl, rv1⟩ := vals1 rv
    rw [← hK] at a1
    obtain ⟨k1, rfl, c1⟩ := src_of a1 rv1 e1
    obtain ⟨ws1, g1, g1'⟩ := c1 H1 r1.z
    obtain ⟨its1, m1, _⟩ := Sk.read I1 g1
    have l1 := Sk.fp_lt I1 g1
    refine enum_begins1 (k1.begins its1) m1 fun h' he o1 hsz hk => wpAny_pyIter_enum he ?_
    have I2 : L2.Inv X pins σ H1 { s1 with heap := h' } := I1.kept (t' := s1.toks) hk
    have hn : s1.heap.objs.size + 1 ∉ s1.heap.objs.size :: k1.fp := fun h => by
      rcases List.mem_cons.mp h with h | h
      · exact absurd h (Nat.succ_ne_self _)
      · exact absurd (l1 _ h) (Nat.not_lt_of_le (Nat.le_succ _))
    refine ⟨s1.heap.objs.size + 1, [s1.heap.objs.size + 1, s1.heap.objs.size], _, _, H1, rfl, I2,
      turn_enumG (k1 := k1) (Nat.succ_ne_self _) hn (fun h => absurd (l1 _ h) (Nat.lt_irrefl _)), ⟨⟨.none, he⟩, Sk.it0 o1⟩, fun c hcm => ?_, q1 _ (by rw [← hK]; exact walks_enum c1)⟩
    have hle : s1.heap.objs.size ≤ c := by
      rcases (show c = s1.heap.objs.size + 1 ∨ c = s1.heap.objs.size by simpa using hcm) with z | z
      · rw [z]; exact Nat.le_add_right _ _
      · rw [z]; exact Nat.le_refl _
    exact I1.fpOk hle (I1.hok.fresh hle)
theorem walks_range {K : PySem.W.Frag} {Z : Hp} {lo : Int} {n : Nat} : Walks K (Itr lo n) Z ((List.range n).map fun k => .int (lo + (k : Nat))) := by
  intro i Z1 H z1 z2
  refine ⟨fun d hd => ?_, fun hl => (by simpa using Nat.le_of_eq hl.symm : n ≤ i)⟩
  rw [List.getElem?_map] at hd
  by_cases hi : i < n
  · rw [List.getElem?_range hi] at hd
    cases hd
    refine ⟨hi, fun v H' y => ?_⟩
    obtain ⟨e, h2⟩ := y
    subst e; subst h2
    exact ⟨Z1, Ext.refl z2, by simp [At]⟩
  · rw [List.getElem?_eq_none (by simpa using hi)] at hd
    cases hd
def qRange1 (ta : PAx γ) : PAx γ := fun s R => ta s fun ds s1 => match ds with
  | [.int n] => (-(2 ^ 62) ≤ n ∧ n < 2 ^ 62) ∧ R ((List.range n.toNat).map fun k => .int (k : Nat)) s1
  | _ => False
def qRange2 (ta : PAx γ) : PAx γ := fun s R => ta s fun ds s1 => match ds with
  | [.int m, .int n] => (-(2 ^ 62) ≤ m ∧ m < 2 ^ 62 ∧ -(2 ^ 62) ≤ n ∧ n < 2 ^ 62) ∧ R ((List.range (n - m).toNat).map fun k => .int (m + (k : Nat))) s1
  | _ => False
theorem qi_range1 {ta : PAx γ} (hg : Gl X "range") (hm : X.mg "range" = none) (ha : QA X G [e] ta) (hs : starEach [e] X.env = [(false, eval e X.env)] := by rfl) : QI X G tg (.Call (.Name "range" p) [e] [] pos) (qRange1 ta) := by
  refine PI.imp (pi_range1 hg hm ha hs) fun σ H R ⟨F, Z, s, Rp, r, t, q⟩ => ?_
  refine ⟨F, Z, s, _, r, t, fun ds s1 Z1 vs H1 t1 k1 r1 a1 => ?_⟩
  match ds, t1, a1 with
  | [.int n], t1, a1 =>
    simp only [Ats, At] at a1
    obtain ⟨v, _, rfl, rfl, rfl⟩ := a1
    refine ⟨n, rfl, t1.1.1, t1.1.2, q _ s1 Z1 H1 _ t1.2 k1 r1 ?_⟩
    have := walks_range (K := G.K) (Z := Z1) (lo := 0) (n := n.toNat)
    simpa using this
theorem qi_range2 {ta : PAx γ} (hg : Gl X "range") (hm : X.mg "range" = none) (ha : QA X G [e, e2] ta) (hs : starEach [e, e2] X.env = [(false, eval e X.env), (false, eval e2 X.env)] := by rfl) (hs2 : starEach [e2] X.env = [(false, eval e2 X.env)] := by rfl) :
    QI X G tg (.Call (.Name "range" p) [e, e2] [] pos) (qRange2 ta) := by
  refine PI.imp (pi_range2 hg hm ha hs hs2) fun σ H R ⟨F, Z, s, Rp, r, t, q⟩ => ?_
  refine ⟨F, Z, s, _, r, t, fun ds s1 Z1 vs H1 t1 k1 r1 a1 => ?_⟩
  match ds, t1, a1 with
  | [.int m, .int n], t1, a1 =>
    simp only [Ats, At] at a1
    obtain ⟨v, _, rfl, rfl, v2, _, rfl, rfl, rfl⟩ := a1
    exact ⟨m, n, rfl, t1.1, q _ s1 Z1 H1 _ t1.2 k1 r1 walks_range⟩
end
end Pm

set_option Elab.async false
set_option linter.all false
set_option maxRecDepth 100000
set_option maxHeartbeats 1000000
set_option autoImplicit false
namespace Pm
open PySem PySem.Spec
open PyProof.Rows hiding St
open L2
variable {γ : Type}

def idx {α : Type} (xs : List α) (i : Int) : Option α := if i < 0 then (if 0 ≤ i + xs.length then xs[(i + xs.length).toNat]? else none) else xs[i.toNat]?
theorem idx_at {α : Type} {xs : List α} {i : Int} {v : α} (h : idx xs i = some v) : atI xs i = some v := by
  unfold idx at h
  unfold atI ixN
  by_cases hi : i < 0
  · rw [if_pos hi] at h
    by_cases h2 : 0 ≤ i + xs.length
    · rw [if_pos h2] at h
      rw [if_neg (by omega), if_pos (by omega)]
      exact h
    · rw [if_neg h2] at h; cases h
  · rw [if_neg hi] at h
    have hl := (List.getElem?_eq_some_iff.mp h).1
    rw [if_pos (by omega), if_pos (by omega)]
    exact h
theorem idx_nat {α : Type} {xs : List α} {i : Nat} {v : α} (h : xs[i]? = some v) : idx xs (i : Int) = some v := by
  unfold idx
  rw [if_neg (by omega), Int.toNat_natCast]; exact h
theorem idx_nat' {α : Type} {xs : List α} {i : Nat} : idx xs (i : Int) = xs[i]? := by
  unfold idx
  rw [if_neg (by omega), Int.toNat_natCast]
theorem Ats.idx {K : PySem.W.Frag} {Z : Hp} {ds : List D} {vs : List V} (h : Ats K Z ds vs) {i : Int} {d : D} (e : Pm.idx ds i = some d) : ∃ v, atI vs i = some v ∧ At K Z d v := by
  have hl := h.len
  unfold Pm.idx at e
  by_cases hi : i < 0
  · rw [if_pos hi] at e
    by_cases h2 : 0 ≤ i + ds.length
    · rw [if_pos h2] at e
      obtain ⟨v, h3, h4⟩ := h.get e
      refine ⟨v, idx_at ?_, h4⟩
      unfold Pm.idx
      rw [if_pos hi, hl, if_pos h2]; exact h3
    · rw [if_neg h2] at e; cases e
  · rw [if_neg hi] at e
    obtain ⟨v, h3, h4⟩ := h.get e
    refine ⟨v, idx_at ?_, h4⟩
    unfold Pm.idx
    rw [if_neg hi]; exact h3
def ixD : D → D → DK → Prop
  | .lst xs, .int i, R => ∃ d, idx xs i = some d ∧ R d
  | .tup xs, .int i, R => ∃ d, idx xs i = some d ∧ R d
  | .str z, .int i, R => z.length ≤ sizeLine ∧ ∃ c, idx z.cps.toList i = some c ∧ R (.str ⟨#[c]⟩)
  | _, _, _ => False
section
variable {X : Cx}
theorem x_ix : IxR X (dOp2 X.K ixD) := by
  intro value slice pins s σ H x y v u Q I rx ry ⟨Z, d, e, R, k, ad, ae, h, q⟩ hs
  cases d <;> cases e <;> try exact h.elim
  · simp only [At] at ad ae
    subst ad; subst ae
    obtain ⟨h1, c, h2, h3⟩ := h
    exact ix_str value slice pins s σ H _ _ v u Q I rx ry ⟨_, _, c, rfl, rfl, h1, idx_at h2, dk q k h3 rfl⟩ hs
  · simp only [At] at ad ae
    obtain ⟨a, vs, rfl, a2, a3⟩ := ad
    subst ae
    obtain ⟨d, h1, h2⟩ := h
    obtain ⟨w, h3, h4⟩ := a3.idx h1
    exact ix_list value slice pins s σ H _ _ v u Q I rx ry ⟨a, vs, _, w, rfl, rfl, .inl (.inl (k _ _ a2)), h3, dk q k h2 h4⟩ hs
  · simp only [At] at ad ae
    obtain ⟨a, vs, rfl, a2, a3⟩ := ad
    subst ae
    obtain ⟨d, h1, h2⟩ := h
    obtain ⟨w, h3, h4⟩ := a3.idx h1
    exact ix_tup value slice pins s σ H _ _ v u Q I rx ry ⟨a, vs, _, w, rfl, rfl, seqT k a2, h3, dk q k h2 h4⟩ hs
end
section
variable {X : Cx} {G : GP γ} {a b e : Expr} {pos : Pos}
theorem qe_ix {ta tb : PEx γ} (ha : QE X G a ta) (hb : QE X G b tb) (hs : PlainIx b := by intro _ _; rfl) (hK : X.K = G.K := by rfl) : QE X G (.Subscript a b pos) (qBin ixD ta tb) :=
  PE.imp (pe_ix x_ix ha hb hs) fun _ _ _ h => by rw [hK]; exact lbin h

end

def BAt (K : PySem.W.Frag) (Z H : Hp) (d : D) (v : V) : Prop := At K Z d v ∨ ∃ ds a vs, d = .lst ds ∧ v = .ref a ∧ H a = some (.lst vs) ∧ Ats K Z ds vs
theorem BAt.dp {K : PySem.W.Frag} {Z H : Hp} (k : Same Z H) {d : D} {v : V} (h : BAt K Z H d v) (p : d.pln = true) : Dp K H v d.py := by
  rcases h with h | ⟨ds, a, vs, rfl, rfl, h1, h2⟩
  · exact At.dp k d v h p
  · simp only [D.pln] at p; simp only [D.py]
    exact .lst (.inl (.inl h1)) (Ats.dp k ds vs h2 p)
def slotD (s : S γ) (i : Nat) : Option D := match s.ρ[i]? with
  | some (some (.val d)) => some d
  | some (some (.own ds)) => some (.lst ds)
  | _ => none
theorem Rel.slot {G : GP γ} {F : Fra} {Z : Hp} {s : S γ} {σ : St} {H : Hp} (r : Rel G F Z s σ H) {i : Nat} {d : D} (h : slotD s i = some d) : ∃ v, σ[i]? = some (some v) ∧ BAt G.K Z H d v := by
  unfold slotD at h
  split at h
  · rename_i d' hd
    cases h
    obtain ⟨v, h1, h2⟩ := r.loc i _ hd
    exact ⟨v, h1, .inl h2⟩
  · rename_i ds hd
    cases h
    obtain ⟨a, vs, h1, h2, h3, _⟩ := r.own i _ hd
    exact ⟨_, h1, .inr ⟨ds, a, vs, rfl, rfl, h2, h3⟩⟩
  · cases h
def dOp2B (K : PySem.W.Frag) (p : D → D → DK → Prop) : R2 := fun x y H Q => ∃ Z d e R, Same Z H ∧ BAt K Z H d x ∧ BAt K Z H e y ∧ p d e R ∧ ∀ z Z' v H', R z → Ext Z H Z' H' → At K Z' z v → Q v H'
section
variable {X : Cx}
theorem b_eq {k : Nat} (hr : Room k X.A) : OpR X (compareOp .Eq) (dOp2B X.K eqD) := by
  intro pins s σ H x y v u Q I rx ry ⟨Z, d, e, R, k, ad, ae, h, q⟩
  rcases h.1.two with ⟨z1, z2, rfl, rfl⟩ | h1
  · have e1 : x = .str z1 := by
      rcases ad with ad | ⟨_, _, _, z, _⟩
      · simpa only [At] using ad
      · cases z
    have e2 : y = .str z2 := by
      rcases ae with ae | ⟨_, _, _, z, _⟩
      · simpa only [At] using ae
      · cases z
    subst e1; subst e2
    refine op_eq pins s σ H _ _ v u Q I rx ry ⟨rfl, ?_⟩
    rw [str_dec]
    exact dk q k h.2 rfl
  refine op_eqD hr.units pins s σ H _ _ v u Q I rx ry ⟨d.py, e.py, ad.dp k h1.1, ae.dp k h1.2.1, shaped_py h1.1 h1.2.2.1, shaped_py h1.2.1 h1.2.2.2, ?_⟩
  rw [eqv_py d e h1.1 h1.2.1]
  exact dk q k h.2 rfl
theorem b_ne {k : Nat} (hr : Room k X.A) : OpR X (compareOp .NotEq) (dOp2B X.K neD) := by
  intro pins s σ H x y v u Q I rx ry ⟨Z, d, e, R, k, ad, ae, h, q⟩
  rcases h.1.two with ⟨z1, z2, rfl, rfl⟩ | h1
  · have e1 : x = .str z1 := by
      rcases ad with ad | ⟨_, _, _, z, _⟩
      · simpa only [At] using ad
      · cases z
    have e2 : y = .str z2 := by
      rcases ae with ae | ⟨_, _, _, z, _⟩
      · simpa only [At] using ae
      · cases z
    subst e1; subst e2
    refine op_ne pins s σ H _ _ v u Q I rx ry ⟨rfl, ?_⟩
    rw [str_dec]
    exact dk q k h.2 rfl
  refine op_neD hr.units pins s σ H _ _ v u Q I rx ry ⟨d.py, e.py, ad.dp k h1.1, ae.dp k h1.2.1, shaped_py h1.1 h1.2.2.1, shaped_py h1.2.1 h1.2.2.2, ?_⟩
  rw [eqv_py d e h1.1 h1.2.1]
  exact dk q k h.2 rfl
theorem b_in {k : Nat} (hr : Room k X.A) : OpR X (compareOp .In) (dOp2B X.K inD) := by
  intro pins s σ H x y v u Q I rx ry ⟨Z, d, e, R, k, ad, ae, h, q⟩
  cases e <;> try exact h.elim
  all_goals
    obtain ⟨⟨h1, h2, h3⟩, h4⟩ := h
    obtain ⟨as, r1⟩ := Dp.reads I _ y u (ae.dp k h2) ry
    obtain ⟨bs, r2⟩ := Dp.reads I _ x v (ad.dp k h1) rx
    first
      | exact SeqAt.in_list_reads r1 r2 (canLays_py _ h2) (canLay_py _ h1) (by rw [dep_py d h1]; exact room_in hr h3) ⟨.bl _, H, I, rfl, dk q k h4 (by simp [At, any_py h2 h1])⟩
      | exact SeqAt.in_tuple_reads r1 r2 (canLays_py _ h2) (canLay_py _ h1) (by rw [dep_py d h1]; exact room_in hr h3) ⟨.bl _, H, I, rfl, dk q k h4 (by simp [At, any_py h2 h1])⟩
theorem b_notIn {k : Nat} (hr : Room k X.A) : OpR X (compareOp .NotIn) (dOp2B X.K notInD) := by
  intro pins s σ H x y v u Q I rx ry ⟨Z, d, e, R, k, ad, ae, h, q⟩
  cases e <;> try exact h.elim
  all_goals
    obtain ⟨⟨h1, h2, h3⟩, h4⟩ := h
    obtain ⟨as, r1⟩ := Dp.reads I _ y u (ae.dp k h2) ry
    obtain ⟨bs, r2⟩ := Dp.reads I _ x v (ad.dp k h1) rx
    first
      | exact SeqAt.notIn_list_reads r1 r2 (canLays_py _ h2) (canLay_py _ h1) (by rw [dep_py d h1]; exact room_in hr h3) ⟨.bl _, H, I, rfl, dk q k h4 (by simp [At, any_py h2 h1])⟩
      | exact SeqAt.notIn_tuple_reads r1 r2 (canLays_py _ h2) (canLay_py _ h1) (by rw [dep_py d h1]; exact room_in hr h3) ⟨.bl _, H, I, rfl, dk q k h4 (by simp [At, any_py h2 h1])⟩
theorem b_ix : IxR X (dOp2B X.K ixD) := by
  intro value slice pins s σ H x y v u Q I rx ry ⟨Z, d, e, R, k, ad, ae, h, q⟩ hs
  have ae' : At X.K Z e y := by
    rcases ae with ae | ⟨ds, a, vs, rfl, _⟩
    · exact ae
    · cases d <;> exact h.elim
  rcases ad with ad | ⟨ds, a, vs, rfl, rfl, hH, hA⟩
  · exact x_ix value slice pins s σ H x y v u Q I rx ry ⟨Z, d, e, R, k, ad, ae', h, q⟩ hs
  · cases e <;> try exact h.elim
    simp only [At] at ae'
    subst ae'
    obtain ⟨d, h1, h2⟩ := h
    obtain ⟨w, h3, h4⟩ := hA.idx h1
    exact ix_list value slice pins s σ H _ _ v u Q I rx ry ⟨a, vs, _, w, rfl, rfl, .inl (.inl hH), h3, dk q k h2 h4⟩ hs
end
section
variable {X : Cx} {G : GP γ} {a b e : Expr} {pos : Pos} {i : Nat} {x : Str} {xp : Pos}
def qBinN1 (p : D → D → DK → Prop) (i : Nat) (tb : PEx γ) : PEx γ := fun s R => (slotD s i).isSome = true ∧ tb s fun y s1 => ∃ d, slotD s1 i = some d ∧ p d y fun z => R z s1
def qBinN2 (p : D → D → DK → Prop) (ta : PEx γ) (i : Nat) : PEx γ := fun s R => ta s fun x s1 => ∃ d, slotD s1 i = some d ∧ p x d fun z => R z s1
theorem lbinN1 {p : D → D → DK → Prop} {tb : PEx γ} {σ : St} {H : Hp} {Q : VK} (h : lE G (qBinN1 p i tb) σ H Q) : tOp (dOp2B G.K p) (tVar i) (lE G tb) σ H Q := by
  obtain ⟨F, Z, s, R, r, ⟨t0, t⟩, q⟩ := h
  obtain ⟨d0, hd0⟩ := Option.isSome_iff_exists.mp t0
  obtain ⟨v, hv, _⟩ := r.slot hd0
  refine ⟨v, hv, F, Z, s, _, r, t, fun y s1 Z1 vy H1 t1 k1 r1 a1 => ?_⟩
  obtain ⟨d, hd, t1⟩ := t1
  obtain ⟨v', hv', bd⟩ := r1.slot hd
  rw [hv] at hv'; cases hv'
  exact ⟨Z1, d, y, _, r1.z, bd, .inl a1, t1, fun z Z3 v3 H3 t3 x3 a3 => q z s1 Z3 v3 H3 t3 (k1.trans x3.zz) (r1.ext x3) a3⟩
theorem lbinN2 {p : D → D → DK → Prop} {ta : PEx γ} {σ : St} {H : Hp} {Q : VK} (h : lE G (qBinN2 p ta i) σ H Q) : tOp (dOp2B G.K p) (lE G ta) (tVar i) σ H Q := by
  obtain ⟨F, Z, s, R, r, t, q⟩ := h
  refine ⟨F, Z, s, _, r, t, fun x s1 Z1 v1 H1 t1 k1 r1 a1 => ?_⟩
  obtain ⟨d, hd, t1⟩ := t1
  obtain ⟨v, hv, bd⟩ := r1.slot hd
  exact ⟨v, hv, Z1, x, d, _, r1.z, .inl a1, bd, t1, fun z Z3 v3 H3 t3 x3 a3 => q z s1 Z3 v3 H3 t3 (k1.trans x3.zz) (r1.ext x3) a3⟩
theorem qe_ixN {tb : PEx γ} (hn : PE X a (tVar i)) (hb : QE X G b tb) (hs : PlainIx b := by intro _ _; rfl) (hK : X.K = G.K := by rfl) : QE X G (.Subscript a b pos) (qBinN1 ixD i tb) :=
  PE.imp (pe_ix b_ix hn hb hs) fun _ _ _ h => by rw [hK]; exact lbinN1 h
theorem qe_cmpN1 {op : CmpOp} {p : D → D → DK → Prop} {tb : PEx γ} (ho : OpR X (compareOp op) (dOp2B G.K p)) (hn : PE X a (tVar i)) (hb : QE X G b tb) (hm : behindInMarks op b = false) : QE X G (.Compare a [op] [b] pos) (qBinN1 p i tb) :=
  PE.imp (pe_cmpR ho hn hb hm) fun _ _ _ h => lbinN1 h
theorem qt_cmpN1 {op : CmpOp} {p : D → D → DK → Prop} {tb : PEx γ} (ho : OpR X (compareOp op) (dOp2B G.K p)) (hn : PE X a (tVar i)) (hb : QE X G b tb) (hm : behindInMarks op b = false) : QT X G (.Compare a [op] [b] pos) (qB (qBinN1 p i tb)) :=
  PT.imp (pt_cmpR ho hn hb hm) fun _ _ _ h => lB (te := tOp (dOp2B G.K p) (tVar i) (lE G tb)) (fun _ _ _ h => lbinN1 h) h
theorem qe_cmpN2 {op : CmpOp} {p : D → D → DK → Prop} {ta : PEx γ} (ho : OpR X (compareOp op) (dOp2B G.K p)) (ha : QE X G a ta) (hn : PE X b (tVar i)) (hm : behindInMarks op b = false) : QE X G (.Compare a [op] [b] pos) (qBinN2 p ta i) :=
  PE.imp (pe_cmpR ho ha hn hm) fun _ _ _ h => lbinN2 h
theorem qt_cmpN2 {op : CmpOp} {p : D → D → DK → Prop} {ta : PEx γ} (ho : OpR X (compareOp op) (dOp2B G.K p)) (ha : QE X G a ta) (hn : PE X b (tVar i)) (hm : behindInMarks op b = false) : QT X G (.Compare a [op] [b] pos) (qB (qBinN2 p ta i)) :=
  PT.imp (pt_cmpR ho ha hn hm) fun _ _ _ h => lB (te := tOp (dOp2B G.K p) (lE G ta) (tVar i)) (fun _ _ _ h => lbinN2 h) h

def cut {α : Type} (xs : List α) (lo hi : Option Int) : List α := (xs.drop (HT.sIx xs.length 0 lo)).take (HT.sIx xs.length xs.length hi - HT.sIx xs.length 0 lo)
theorem cut_from {α : Type} (xs : List α) (k : Nat) : cut xs (some (k : Int)) none = xs.drop k := by
  unfold cut
  rw [HT.sIx_nat, HT.sIx_none]
  by_cases h : k ≤ xs.length
  · rw [Nat.min_eq_left h, List.take_of_length_le (by rw [List.length_drop]; omega)]
  · rw [Nat.min_eq_right (by omega), List.drop_eq_nil_of_le (Nat.le_refl _), List.drop_eq_nil_of_le (by omega)]; simp
theorem cut_to {α : Type} (xs : List α) (k : Nat) : cut xs none (some (k : Int)) = xs.take k := by
  unfold cut
  rw [HT.sIx_none, HT.sIx_nat, List.drop_zero, Nat.sub_zero]
  by_cases h : k ≤ xs.length
  · rw [Nat.min_eq_left h]
  · rw [Nat.min_eq_right (by omega), List.take_of_length_le (Nat.le_refl _), List.take_of_length_le (by omega)]
theorem cut_all {α : Type} (xs : List α) : cut xs none none = xs := by
  unfold cut
  rw [HT.sIx_none, HT.sIx_none, List.drop_zero, Nat.sub_zero, List.take_of_length_le (Nat.le_refl _)]
theorem cut_back {α : Type} (xs : List α) : cut xs none (some (-1)) = xs.dropLast := by
  unfold cut
  have : HT.sIx xs.length xs.length (some (-1)) = xs.length - 1 := by
    show (if (-1 : Int) < 0 then ((-1 : Int) + (xs.length : Int)).toNat else min (-1 : Int).toNat xs.length) = _
    rw [if_pos (by decide)]; omega
  rw [HT.sIx_none, this, List.drop_zero, Nat.sub_zero, List.dropLast_eq_take]
theorem cut_length {α : Type} (xs : List α) (lo hi : Option Int) : (cut xs lo hi).length ≤ xs.length := by
  unfold cut
  rw [List.length_take, List.length_drop]; omega
theorem Ats.cut {K : PySem.W.Frag} {Z : Hp} {ds : List D} {vs : List V} (h : Ats K Z ds vs) (lo hi : Option Int) : Ats K Z (Pm.cut ds lo hi) (cutV vs lo hi) := by
  unfold Pm.cut cutV
  rw [h.len]
  exact (h.drop _).take _
theorem getItem_tuple_whole {prog : Program} {w : World} {A : Around} {E : Value → Shared → Prop} {s : Shared} {t sl : Addr} {items : Array Value} {vl vu : Value} {lo hi : Option Int} {Q : Value → Shared → Prop} (ht : IsTup s.heap t items) (hs : s.heap.IsSliceOf sl vl vu .none) (pl : IsPart vl lo) (pu : IsPart vu hi)
    (hw : HT.sIx items.size 0 lo = 0 ∧ HT.sIx items.size items.size hi = items.size) (h : Q (.ref t) s) : wpAny (model prog w) A (getItem (.ref t) (.ref sl)) Q E s := by
  obtain ⟨os, hos, hcs, hds⟩ := id hs
  have hTs : s.TypeIs (.ref sl) "slice" := ⟨os, hos, hcs⟩
  unfold getItem
  try with_reducible refine wpAny_holding ?_
  first | refine wpAny_bind (wpAny_pure ?_) | skip
  refine wpAny_bind (wpAny_sequenceKey ht.typeIs (by decide) ?_)
  refine wpAny_bind (wpAny_callSpecial?_slot (name := Str.ofString "__getitem__") ht.typeIs PyProof.Rows.slot_tuple_getitem
    (wpAny_call_entry PyProof.Rows.slot_tuple_getitem ht.typeIs entry_tuple_getitem ?_ (args_tuple_getitem _ _)))
  show wpAny _ _ (Builtin.Tuple.tupleItemsOf (.ref t) >>= _) _ _ s
  refine wpAny_bind (tupleItemsOf_ ht ?_)
  refine wpAny_bind (wpAny_typeOf hTs ?_)
  rw [if_pos (by decide)]
  refine wpAny_bind (HT.sliceApplied_gen hs pl pu ?_)
  have hno : ((((HT.sIx items.size 0 lo : Nat) : Int) == 0 && (1 : Int) == 1 && (HT.sIx items.size items.size hi - HT.sIx items.size 0 lo) == items.size) = true) := by
    rw [hw.1, hw.2]; simp
  show wpAny _ _ (if (((HT.sIx items.size 0 lo : Nat) : Int) == 0 && (1 : Int) == 1 && (HT.sIx items.size items.size hi - HT.sIx items.size 0 lo) == items.size) = true then _ else _) _ _ s
  rw [if_pos hno]
  unfold Builtin.Tuple.tupleIsExact
  refine wpAny_bind (wpAny_bind (wpAny_typeOf ht.typeIs (wpAny_pure ?_)))
  rw [if_pos (by decide)]
  refine wpAny_bind (wpAny_rule ?_)
  exact wpAny_pure ⟨_, rfl, wpAny_pure h⟩
end
def sliceD (d : D) (lo hi : Option Int) (R : DK) : Prop := match d with
  | .lst xs => R (.lst (cut xs lo hi))
  | .tup xs => R (.tup (cut xs lo hi))
  | .str z => z.length ≤ sizeLine ∧ R (.str (cutS z lo hi))
  | _ => False
def dSl (K : PySem.W.Frag) (p : D → Option Int → Option Int → DK → Prop) : V → Option Int → Option Int → Hp → VK → Prop := fun x lo hi H Q => ∃ Z d R, Same Z H ∧ At K Z d x ∧ p d lo hi R ∧ ∀ z Z' v H', R z → Ext Z H Z' H' → At K Z' z v → Q v H'
section
variable {X : Cx}
theorem x_slice : SlR X (dSl X.K sliceD) := by
  intro pins s σ H x v vl vu lo hi sl Q I rx hs pl pu ⟨Z, d, R, k, ad, h, q⟩
  cases d <;> try exact h.elim
  · simp only [At] at ad
    subst ad
    exact sl_str pins s σ H _ v vl vu lo hi sl Q I rx hs pl pu ⟨_, rfl, h.1, dk q k h.2 rfl⟩
  · simp only [At] at ad
    obtain ⟨a, vs, rfl, a2, a3⟩ := ad
    refine sl_list pins s σ H _ v vl vu lo hi sl Q I rx hs pl pu ⟨a, vs, rfl, .inl (.inl (k _ _ a2)), fun p hp => ?_⟩
    have x := Ext.new (o := HO.lst (cutV vs lo hi)) k hp
    exact q _ _ _ _ h x ⟨p, _, rfl, upd_same, (Ats.mono x.zz _ _ a3).cut lo hi⟩
  · simp only [At] at ad
    obtain ⟨a, vs, rfl, a2, a3⟩ := ad
    by_cases hw : HT.sIx vs.length 0 lo = 0 ∧ HT.sIx vs.length vs.length hi = vs.length
    · cases rx
      obtain ⟨its, r, ht, hz⟩ := I.tuple (seqT k a2)
      have hlen : its.toArray.size = vs.length := by rw [List.size_toArray]; exact r.length.symm
      refine ⟨"tuple", _, PyProof.Rows.slot_tuple_getitem.lookup, ht.typeIs, ?_⟩
      refine getItem_tuple_whole ht hs pl pu (by rw [hlen]; exact hw) ⟨.ref a, H, I, rfl, ?_⟩
      refine dk (d := .tup _) q k h (show At X.K Z (.tup _) _ from ⟨a, vs, rfl, a2, ?_⟩)
      have e : cutV vs lo hi = vs := by
        unfold cutV
        rw [hw.1, hw.2, List.drop_zero, Nat.sub_zero, List.take_of_length_le (Nat.le_refl _)]
      have := a3.cut lo hi
      rw [e] at this; exact this
    · refine sl_tup pins s σ H _ v vl vu lo hi sl Q I rx hs pl pu ⟨a, vs, rfl, seqT k a2, hw, fun p hp => ?_⟩
      have x := Ext.new (o := HO.tup (cutV vs lo hi)) k hp
      exact q _ _ _ _ h x ⟨p, _, rfl, .inl (.inl upd_same), (Ats.mono x.zz _ _ a3).cut lo hi⟩
end
section
variable {X : Cx} {G : GP γ} {a b e : Expr} {pos p2 : Pos} {lo hi : Option Expr}
def qNoPart : POx γ := fun s R => R none s
def qPart (te : PEx γ) : POx γ := fun s R => te s fun d s1 => match d with
  | .int i => R (some i) s1
  | _ => False
theorem qo_none : QO X G none (qNoPart : POx γ) := PO.imp po_none fun σ H Q ⟨F, Z, s, R, r, t, q⟩ => q none s Z H t (Same.refl _) r
theorem qo_some {te : PEx γ} (h : QE X G e te) : QO X G (some e) (qPart te) := by
  refine PO.imp (po_some h) fun σ H Q ⟨F, Z, s, R, r, t, q⟩ => ?_
  refine ⟨F, Z, s, _, r, t, fun d s1 Z1 v H1 t1 k1 r1 a1 => ?_⟩
  cases d with
  | int i => exact ⟨i, a1, q _ s1 Z1 H1 t1 k1 r1⟩
  | _ => exact t1.elim
def qSl (te : PEx γ) (tl th : POx γ) : PEx γ := fun s R => te s fun d s1 => tl s1 fun l s2 => th s2 fun h s3 => sliceD d l h fun z => R z s3
theorem qe_slice {te : PEx γ} {tl th : POx γ} (he : QE X G e te) (hl : QO X G lo tl) (hu : QO X G hi th) (hK : X.K = G.K := by rfl) : QE X G (.Subscript e (.Slice lo hi none p2) pos) (qSl te tl th) := by
  refine PE.imp (pe_slice x_slice he hl hu) fun σ H Q ⟨F, Z, s, R, r, t, q⟩ => ?_
  refine ⟨F, Z, s, _, r, t, fun d s1 Z1 v1 H1 t1 k1 r1 a1 => ⟨F, Z1, s1, _, r1, t1, fun l s2 Z2 H2 t2 k2 r2 => ⟨F, Z2, s2, _, r2, t2, fun h s3 Z3 H3 t3 k3 r3 => ?_⟩⟩⟩
  refine ⟨Z3, d, _, r3.z, by rw [hK]; exact At.mono (k2.trans k3) _ _ a1, t3, fun z Z4 v H4 t4 x4 a4 => q z s3 Z4 v H4 t4 (((k1.trans k2).trans k3).trans x4.zz) (r3.ext x4) (by rw [hK] at a4; exact a4)⟩
end

section
variable {X : Cx}
theorem Ats.one {K : PySem.W.Frag} {Z : Hp} {d : D} {vs : List V} (h : Ats K Z [d] vs) : ∃ v, vs = [v] ∧ At K Z d v := by
  simp only [Ats] at h
  obtain ⟨v, _, rfl, h, rfl⟩ := h
  exact ⟨v, rfl, h⟩
theorem Ats.two {K : PySem.W.Frag} {Z : Hp} {d e : D} {vs : List V} (h : Ats K Z [d, e] vs) : ∃ v w, vs = [v, w] ∧ At K Z d v ∧ At K Z e w := by
  simp only [Ats] at h
  obtain ⟨v, _, rfl, h, w, _, rfl, h', rfl⟩ := h
  exact ⟨v, w, rfl, h, h'⟩
def fn1 (p : D → DK → Prop) : List D → DK → Prop
  | [d], R => p d R
  | _, _ => False
theorem c1 {f : Value} {p : D → DK → Prop} (h : ∀ (pins : List (Addr × Obj)) (s : Shared) (σ : St) (H Z : Hp) (d : D) (v : V) (us : List Value) (Q : VK) (R : DK), L2.Inv X pins σ H s → Vals [v] us → Same Z H → At X.K Z d v → p d R → (∀ z Z' v H', R z → Ext Z H Z' H' → At X.K Z' z v → Q v H') →
    wpAny (model X.prog X.w) X.A (call f us) (EP X pins σ Q) X.xe s) : CallR X f (dCall X.K (fn1 p)) := by
  intro pins s σ H xs us Q I r ⟨Z, ds, R, k, a, w, q⟩
  obtain ⟨d, rfl, w⟩ : ∃ d, ds = [d] ∧ p d R := by
    cases ds with
    | nil => exact w.elim
    | cons d ds => cases ds with
      | nil => exact ⟨d, rfl, w⟩
      | cons => exact w.elim
  obtain ⟨v, rfl, a1⟩ := Ats.one a
  exact h pins s σ H Z d v us Q R I r k a1 w q
def lenD : D → DK → Prop
  | .lst xs, R => R (.int xs.length)
  | .tup xs, R => R (.int xs.length)
  | .str x, R => x.length ≤ sizeLine ∧ R (.int x.length)
  | _, _ => False
theorem c_len : CallR X (.builtin "len") (dCall X.K (fn1 lenD)) := c1 fun pins s σ H Z d v us Q R I r k a w q => by
  cases d <;> try exact w.elim
  · simp only [At] at a; subst a
    exact call_len_str pins s σ H _ us Q I r ⟨_, rfl, w.1, dk q k w.2 rfl⟩
  · simp only [At] at a
    obtain ⟨p, vs, rfl, a2, a3⟩ := a
    exact call_len_seq pins s σ H _ us Q I r ⟨p, vs, rfl, .inl (.inl (.inl (k _ _ a2))), dk q k w (by simp [At, a3.len])⟩
  · simp only [At] at a
    obtain ⟨p, vs, rfl, a2, a3⟩ := a
    exact call_len_seq pins s σ H _ us Q I r ⟨p, vs, rfl, .inr (seqT k a2), dk q k w (by simp [At, a3.len])⟩
def absD : D → DK → Prop
  | .int i, R => R (.int i.natAbs)
  | _, _ => False
theorem c_abs : CallR X (.builtin "abs") (dCall X.K (fn1 absD)) := c1 fun pins s σ H Z d v us Q R I r k a w q => by
  cases d <;> try exact w.elim
  simp only [At] at a; subst a
  rename_i i
  refine call_abs pins s σ H _ us Q I r ⟨i, rfl, dk q k w ?_⟩
  have e : (i.natAbs : Int) = if i < 0 then -i else i := by split <;> omega
  rw [e]; rfl
def intD : D → DK → Prop
  | .int i, R => R (.int i)
  | .bl b, R => R (.int (if b = true then 1 else 0))
  | _, _ => False
theorem c_int : CallR X (.type "int") (dCall X.K (fn1 intD)) := c1 fun pins s σ H Z d v us Q R I r k a w q => by
  cases d <;> try exact w.elim
  · simp only [At] at a; subst a
    exact call_int1 pins s σ H _ us Q I r (.inr ⟨_, rfl, dk q k w rfl⟩)
  · simp only [At] at a; subst a
    exact call_int1 pins s σ H _ us Q I r (.inl ⟨_, rfl, dk q k w rfl⟩)
def tupleD : D → DK → Prop
  | .lst xs, R => R (.tup xs)
  | .tup xs, R => R (.tup xs)
  | _, _ => False
theorem c_tuple : CallR X (.type "tuple") (dCall X.K (fn1 tupleD)) := c1 fun pins s σ H Z d v us Q R I r k a w q => by
  cases d <;> try exact w.elim
  · simp only [At] at a
    obtain ⟨p, vs, rfl, a2, a3⟩ := a
    refine call_tuple_of pins s σ H _ us Q I r ⟨p, vs, rfl, .inl ⟨.inl (.inl (k _ _ a2)), fun l hl => ?_⟩⟩
    have x := Ext.new (o := HO.tup vs) k hl
    exact q _ _ _ _ w x ⟨l, _, rfl, .inl (.inl upd_same), Ats.mono x.zz _ _ a3⟩
  · simp only [At] at a
    obtain ⟨p, vs, rfl, a2, a3⟩ := a
    exact call_tuple_of pins s σ H _ us Q I r ⟨p, vs, rfl, .inr ⟨seqT k a2, dk q k w ⟨p, vs, rfl, a2, a3⟩⟩⟩
def listF : List D → (List D → Prop) → Prop
  | [.lst xs], R => R xs
  | [.tup xs], R => R xs
  | _, _ => False
theorem c_list : CallR X (.type "list") (dCallF X.K listF) := by
  intro pins s σ H xs us Q I r ⟨Z, ds, R, k, a, w, q⟩
  cases ds with
  | nil => exact w.elim
  | cons d ds =>
    cases ds with
    | cons e ds => cases d <;> exact w.elim
    | nil =>
      obtain ⟨v, rfl, a1⟩ := Ats.one a
      cases d <;> try exact w.elim
      · simp only [At] at a1
        obtain ⟨p, vs, rfl, a2, a3⟩ := a1
        exact call_list_of pins s σ H _ us Q I r ⟨p, vs, rfl, .inl (.inl (.inl (k _ _ a2))), fun l hl => q _ _ _ _ w (same_upd hl) hl upd_same a3⟩
      · simp only [At] at a1
        obtain ⟨p, vs, rfl, a2, a3⟩ := a1
        exact call_list_of pins s σ H _ us Q I r ⟨p, vs, rfl, .inr (seqT k a2), fun l hl => q _ _ _ _ w (same_upd hl) hl upd_same a3⟩
def asInts : List D → Option (List Int)
  | [] => some []
  | .int i :: ds => (asInts ds).map (i :: ·)
  | _ :: _ => none
theorem asInts_eq : ∀ {ds : List D} {ns : List Int}, asInts ds = some ns → ds = ns.map D.int
  | [], ns, h => by simp [asInts] at h; subst h; rfl
  | .int i :: ds, ns, h => by
    simp only [asInts, Option.map_eq_some_iff] at h
    obtain ⟨ms, h1, rfl⟩ := h
    rw [asInts_eq h1]; rfl
  | .non :: _, _, h => by simp [asInts] at h
  | .bl _ :: _, _, h => by simp [asInts] at h
  | .str _ :: _, _, h => by simp [asInts] at h
  | .lst _ :: _, _, h => by simp [asInts] at h
  | .tup _ :: _, _, h => by simp [asInts] at h
  | .dct _ _ :: _, _, h => by simp [asInts] at h
  | .obj _ :: _, _, h => by simp [asInts] at h
theorem asInts_map : ∀ ns : List Int, asInts (ns.map D.int) = some ns
  | [] => rfl
  | n :: ns => by simp [asInts, asInts_map ns]
def asBls : List D → Option (List Bool)
  | [] => some []
  | .bl i :: ds => (asBls ds).map (i :: ·)
  | _ :: _ => none
theorem asBls_eq : ∀ {ds : List D} {ns : List Bool}, asBls ds = some ns → ds = ns.map D.bl
  | [], ns, h => by simp [asBls] at h; subst h; rfl
  | .bl i :: ds, ns, h => by
    simp only [asBls, Option.map_eq_some_iff] at h
    obtain ⟨ms, h1, rfl⟩ := h
    rw [asBls_eq h1]; rfl
  | .non :: _, _, h => by simp [asBls] at h
  | .int _ :: _, _, h => by simp [asBls] at h
  | .str _ :: _, _, h => by simp [asBls] at h
  | .lst _ :: _, _, h => by simp [asBls] at h
  | .tup _ :: _, _, h => by simp [asBls] at h
  | .dct _ _ :: _, _, h => by simp [asBls] at h
  | .obj _ :: _, _, h => by simp [asBls] at h
theorem asBls_map : ∀ ns : List Bool, asBls (ns.map D.bl) = some ns
  | [] => rfl
  | n :: ns => by simp [asBls, asBls_map ns]
def sumD : D → DK → Prop
  | .lst xs, R => ∃ ns, asInts xs = some ns ∧ R (.int ns.sum)
  | _, _ => False
theorem c_sum (hc : X.calm = true) : CallR X (.builtin "sum") (dCall X.K (fn1 sumD)) := c1 fun pins s σ H Z d v us Q R I r k a w q => by
  cases d <;> try exact w.elim
  obtain ⟨ns, e, w⟩ := w
  rw [asInts_eq e] at a
  simp only [At] at a
  obtain ⟨p, vs, rfl, a2, a3⟩ := a
  rw [a3.ints] at a2
  exact cr_sum hc pins s σ H _ us Q I r ⟨p, ns, rfl, .inl (.inl (k _ _ a2)), dk q k w rfl⟩
def allD : D → DK → Prop
  | .lst xs, R => ∃ bs, asBls xs = some bs ∧ R (.bl (bs.all id))
  | _, _ => False
theorem c_all (hc : X.calm = true) : CallR X (.builtin "all") (dCall X.K (fn1 allD)) := c1 fun pins s σ H Z d v us Q R I r k a w q => by
  cases d <;> try exact w.elim
  obtain ⟨ns, e, w⟩ := w
  rw [asBls_eq e] at a
  simp only [At] at a
  obtain ⟨p, vs, rfl, a2, a3⟩ := a
  rw [a3.bls] at a2
  exact cr_all hc pins s σ H _ us Q I r ⟨p, ns, rfl, .inl (.inl (k _ _ a2)), dk q k w rfl⟩
def anyD : D → DK → Prop
  | .lst xs, R => ∃ bs, asBls xs = some bs ∧ R (.bl (bs.any id))
  | _, _ => False
theorem c_any (hc : X.calm = true) : CallR X (.builtin "any") (dCall X.K (fn1 anyD)) := c1 fun pins s σ H Z d v us Q R I r k a w q => by
  cases d <;> try exact w.elim
  obtain ⟨ns, e, w⟩ := w
  rw [asBls_eq e] at a
  simp only [At] at a
  obtain ⟨p, vs, rfl, a2, a3⟩ := a
  rw [a3.bls] at a2
  exact cr_any hc pins s σ H _ us Q I r ⟨p, ns, rfl, .inl (.inl (k _ _ a2)), dk q k w rfl⟩
def maxL : D → DK → Prop
  | .lst xs, R => ∃ ns, asInts xs = some ns ∧ 0 < ns.length ∧ ∀ m, m ∈ ns → (∀ y, y ∈ ns → y ≤ m) → R (.int m)
  | _, _ => False
def minL : D → DK → Prop
  | .lst xs, R => ∃ ns, asInts xs = some ns ∧ 0 < ns.length ∧ ∀ m, m ∈ ns → (∀ y, y ∈ ns → m ≤ y) → R (.int m)
  | _, _ => False
def fn2 (p : D → D → DK → Prop) : List D → DK → Prop
  | [d, e], R => p d e R
  | _, _ => False
theorem c2 {f : Value} {p : D → D → DK → Prop} (h : ∀ (pins : List (Addr × Obj)) (s : Shared) (σ : St) (H Z : Hp) (d e : D) (v w : V) (us : List Value) (Q : VK) (R : DK), L2.Inv X pins σ H s → Vals [v, w] us → Same Z H → At X.K Z d v → At X.K Z e w → p d e R → (∀ z Z' v H', R z → Ext Z H Z' H' → At X.K Z' z v → Q v H') →
    wpAny (model X.prog X.w) X.A (call f us) (EP X pins σ Q) X.xe s) : CallR X f (dCall X.K (fn2 p)) := by
  intro pins s σ H xs us Q I r ⟨Z, ds, R, k, a, w, q⟩
  obtain ⟨d, e, rfl, w⟩ : ∃ d e, ds = [d, e] ∧ p d e R := by
    cases ds with
    | nil => exact w.elim
    | cons d ds => cases ds with
      | nil => exact w.elim
      | cons e ds => cases ds with
        | nil => exact ⟨d, e, rfl, w⟩
        | cons => exact w.elim
  obtain ⟨v, u, rfl, a1, a2⟩ := Ats.two a
  exact h pins s σ H Z d e v u us Q R I r k a1 a2 w q
abbrev max2 := intD0 fun i j => .int (max i j)
abbrev min2 := intD0 fun i j => .int (min i j)
theorem c_max (hc : X.calm = true) : CallR X (.builtin "max") (dCall X.K (fn1 maxL)) := c1 fun pins s σ H Z d v us Q R I r k a w q => by
  cases d <;> try exact w.elim
  obtain ⟨ns, e, hl, w⟩ := w
  rw [asInts_eq e] at a
  simp only [At] at a
  obtain ⟨p, vs, rfl, a2, a3⟩ := a
  rw [a3.ints] at a2
  exact cr_max hc pins s σ H _ us Q I r ⟨p, ns, rfl, .inl (.inl (k _ _ a2)), hl, fun m h1 h2 => dk q k (w m h1 h2) rfl⟩
theorem c_min (hc : X.calm = true) : CallR X (.builtin "min") (dCall X.K (fn1 minL)) := c1 fun pins s σ H Z d v us Q R I r k a w q => by
  cases d <;> try exact w.elim
  obtain ⟨ns, e, hl, w⟩ := w
  rw [asInts_eq e] at a
  simp only [At] at a
  obtain ⟨p, vs, rfl, a2, a3⟩ := a
  rw [a3.ints] at a2
  exact cr_min hc pins s σ H _ us Q I r ⟨p, ns, rfl, .inl (.inl (k _ _ a2)), hl, fun m h1 h2 => dk q k (w m h1 h2) rfl⟩
theorem c_max2 (hc : X.calm = true) : CallR X (.builtin "max") (dCall X.K (fn2 max2)) := c2 fun pins s σ H Z d e v u us Q R I r k a b w q => by
  cases d <;> cases e <;> try exact w.elim
  simp only [At] at a b; subst a; subst b
  rename_i i j
  refine call_max2 hc pins s σ H _ us Q I r ⟨i, j, rfl, dk q k w ?_⟩
  show V.int _ = V.int _
  congr 1
  split <;> omega
theorem c_min2 (hc : X.calm = true) : CallR X (.builtin "min") (dCall X.K (fn2 min2)) := c2 fun pins s σ H Z d e v u us Q R I r k a b w q => by
  cases d <;> cases e <;> try exact w.elim
  simp only [At] at a b; subst a; subst b
  rename_i i j
  refine call_min2 hc pins s σ H _ us Q I r ⟨i, j, rfl, dk q k w ?_⟩
  show V.int _ = V.int _
  congr 1
  split <;> omega
def sortedF : List D → (List D → Prop) → Prop
  | [.lst xs], R => ∃ ns, asInts xs = some ns ∧ ∀ ns' : List Int, ns'.Perm ns → ns'.Pairwise (· ≤ ·) → R (ns'.map D.int)
  | _, _ => False
theorem c_sorted : CallR X (.builtin "sorted") (dCallF X.K sortedF) := by
  intro pins s σ H xs us Q I r ⟨Z, ds, R, k, a, w, q⟩
  cases ds with
  | nil => exact w.elim
  | cons d ds =>
    cases ds with
    | cons e ds => cases d <;> exact w.elim
    | nil =>
      obtain ⟨v, rfl, a1⟩ := Ats.one a
      cases d <;> try exact w.elim
      obtain ⟨ns, e, w⟩ := w
      rw [asInts_eq e] at a1
      simp only [At] at a1
      obtain ⟨p, vs, rfl, a2, a3⟩ := a1
      rw [a3.ints] at a2
      exact cr_sortedI pins s σ H _ us Q I r ⟨p, ns, rfl, .inl (.inl (k _ _ a2)), fun ns' l h1 h2 hl => q _ _ _ _ (w ns' h1 h2) (same_upd hl) hl upd_same (Ats.of_ints ns')⟩

def isTy (T : String) : D → Bool
  | .non => T == "NoneType"
  | .bl _ => T == "bool" || T == "int"
  | .int _ => T == "int"
  | .str _ => T == "str"
  | .lst _ => T == "list"
  | .tup _ => T == "tuple"
  | .dct _ _ => T == "dict"
  | .obj _ => false
def tyOf : D → String
  | .non => "NoneType" | .bl _ => "bool" | .int _ => "int" | .str _ => "str" | .lst _ => "list" | .tup _ => "tuple" | .dct _ _ => "dict" | .obj _ => ""
theorem tyX_of {K : PySem.W.Frag} {Z H : Hp} (k : Same Z H) {d : D} {v : V} (a : At K Z d v) (ho : ∀ p, d ≠ .obj p) : TyX K H v (.type (tyOf d)) := by
  cases d <;> simp only [At] at a
  · subst a; exact .base .non
  · subst a; exact .base (.bl _)
  · subst a; exact .base (.int _)
  · subst a; exact .base (.str _)
  · obtain ⟨p, vs, rfl, a2, _⟩ := a; exact .base (.lst (k _ _ a2))
  · obtain ⟨p, vs, rfl, a2, _⟩ := a
    rcases a2 with (a2 | ⟨o, a2⟩) | ⟨o, its, n, a2, c, _⟩
    · exact .base (.tup (k _ _ a2))
    · exact .fTuple (k _ _ a2)
    · exact .kTuple a2 c
  · obtain ⟨p, vs, rfl, a2, _⟩ := a; exact .base (.dK (k _ _ a2))
  · exact absurd rfl (ho _)
end
section
variable {X : Cx} {G : GP γ} {e : Expr} {pos p p2 : Pos}
def qIsi (T : String) (te : PEx γ) : PEx γ := fun s R => te s fun d s1 => (∀ p, d ≠ .obj p) ∧ R (.bl (isTy T d)) s1
theorem kit_all (K : PySem.W.Frag) {T : String} (hT : T = "int" ∨ T = "bool" ∨ T = "str" ∨ T = "tuple" ∨ T = "list" ∨ T = "dict") (d : D) (ho : ∀ p, d ≠ .obj p) : PySem.W.kitOne K (.type (tyOf d)) (.type T) = some (isTy T d) := by
  cases d with
  | obj p => exact absurd rfl (ho p)
  | _ => rcases hT with rfl | rfl | rfl | rfl | rfl | rfl <;> exact kit_ty (by simp only [tyOf, isTy]; decide +kernel)
theorem qe_isi {T : Str} {T' : String} {te : PEx γ} (hT : T' = "int" ∨ T' = "bool" ∨ T' = "str" ∨ T' = "tuple" ∨ T' = "list" ∨ T' = "dict") (he : QE X G e te) (hg : Gl X "isinstance") (hm : X.mg "isinstance" = none) (hg2 : Gl X T) (hm2 : X.mg T = none) (hv2 : bootBuiltins T = some (.type T')) (hK : X.K = G.K := by rfl)
    (hn : T ≠ "__name__" := by decide) (hd : (T == ("__debug__" : Str)) = false := by decide)
    (hs : starEach [e, .Name T p2] X.env = (false, eval e X.env) :: starEach [.Name T p2] X.env := by rfl) (hs2 : starEach [.Name T p2] X.env = (false, eval (.Name T p2) X.env) :: starEach [] X.env := by rfl) (hpl : (backTo pos (starEach [.Name T p2] X.env)).any (·.1) = false := by rfl) :
    QE X G (.Call (.Name "isinstance" p) [e, .Name T p2] [] pos) (qIsi T' te) := by
  refine PE.imp (pe_callB call_isi hg hm (by decide +kernel) (pa_cons he (pa_cons (pe_bltn (v := .ty T') hg2 hm2 hv2 rfl hn hd) pa_nil hs2) hs) (by decide) (by decide) hs hpl) fun σ H Q ⟨F, Z, s, R, r, t, q⟩ => ?_
  refine ⟨F, Z, s, _, r, t, fun d s1 Z1 v H1 t1 k1 r1 a1 => ?_⟩
  exact ⟨v, .ty T', .type (tyOf d), .type T', isTy T' d, rfl, .ty _, by rw [hK]; exact tyX_of r1.z a1 t1.1, kit_all _ hT d t1.1, q _ s1 Z1 _ H1 t1.2 k1 r1 rfl⟩

variable {i : Nat} {o : Expr} {apos cpos : Pos}
theorem own_ty {K : PySem.W.Frag} {H : Hp} {a : Addr} {vs : List V} (h : H a = some (.lst vs)) : tyV K "list" (.ref a) H := .inl ⟨rfl, vs, .inl (.inl h)⟩
def qAppend (i : Nat) (te : PEx γ) : PEx γ := fun s R => (∃ es, s.ρ[i]? = some (some (.own es))) ∧ te s fun d s1 => ∃ ds, s1.ρ[i]? = some (some (.own ds)) ∧ ds.length < sizeLine ∧ R .non ⟨s1.ρ.set i (some (.own (ds ++ [d]))), s1.g⟩
theorem qe_append {te : PEx γ} (hn : PE X o (tVar i)) (he : QE X G e te)
    (hbase : attributeBase o "append" X.env (eval o X.env) = eval o X.env := by rfl)
    (hfew : ((backTo cpos (starEach [e] X.env)).all (fun x => !x.1) && (backToKw cpos (keywordEach [] X.env)).all (fun x => x.1.isSome)
      && decide (([e] : List Expr).length + ([] : List Keyword).length + (if ([] : List Keyword).isEmpty then 0 else 1) < 30)) = true := by rfl)
    (hline : (apos.endLine == cpos.line) = true := by rfl) (hs : starEach [e] X.env = (false, eval e X.env) :: starEach [] X.env := by rfl) (hplain : (backTo cpos (starEach [] X.env)).any (·.1) = false := by rfl) :
    QE X G (.Call (.Attribute o "append" apos) [e] [] cpos) (qAppend i te) := by
  refine PE.imp (pe_bm PySem.F.plainAttrs_list PySem.F.slot_list_append PySem.F.type_list_append mt_append hn (pa_cons he pa_nil hs) hbase hfew hline hs hplain) fun σ H Q ⟨F, Z, s, R, r, ⟨⟨es, t0⟩, t⟩, q⟩ => ?_
  obtain ⟨a, vs, h1, h2, _⟩ := r.own i es t0
  refine ⟨.ref a, h1, own_ty h2, F, Z, s, _, r, t, fun d s1 Z1 v H1 ⟨ds, t1, t2, t3⟩ k1 r1 a1 => ?_⟩
  obtain ⟨a', vs', g1, g2, g3, _⟩ := r1.own i ds t1
  rw [h1] at g1; cases g1
  have g4 : Ats G.K Z1 (ds ++ [d]) (vs' ++ [v]) := g3.append ⟨v, [], rfl, a1, rfl⟩
  exact ⟨a, vs', v, rfl, rfl, g2, by rw [g3.len]; exact t2, q _ _ Z1 _ _ t3 k1 (r1.write t1 h1 g4) rfl⟩
def qPop (i : Nat) : PEx γ := fun s R => ∃ ds d, s.ρ[i]? = some (some (.own ds)) ∧ ds[ds.length - 1]? = some d ∧ R d ⟨s.ρ.set i (some (.own ds.dropLast)), s.g⟩
theorem Ats.dropLast {K : PySem.W.Frag} {Z : Hp} {ds : List D} {vs : List V} (h : Ats K Z ds vs) : Ats K Z ds.dropLast vs.dropLast := by
  rw [List.dropLast_eq_take, List.dropLast_eq_take, h.len]
  exact h.take _
theorem qe_pop (hn : PE X o (tVar i)) (hbase : attributeBase o "pop" X.env (eval o X.env) = eval o X.env := by rfl) (hline : (apos.endLine == cpos.line) = true := by rfl) : QE X G (.Call (.Attribute o "pop" apos) [] [] cpos) (qPop i) := by
  refine PE.imp (pe_bm0 PySem.F.plainAttrs_list PySem.F.slot_list_pop PySem.F.type_list_pop mt_pop hn hbase hline) fun σ H Q ⟨F, Z, s, R, r, ⟨ds, d, t1, t2, t3⟩, q⟩ => ?_
  obtain ⟨a, vs, h1, h2, h3, _⟩ := r.own i ds t1
  obtain ⟨v, h4, h5⟩ := h3.get t2
  exact ⟨.ref a, h1, own_ty h2, a, vs, v, rfl, rfl, h2, by rw [h3.len]; exact h4, q _ _ Z _ _ t3 (Same.refl _) (r.write t1 h1 h3.dropLast) h5⟩
def qPop0 (i : Nat) : PEx γ := fun s R => ∃ d ds, s.ρ[i]? = some (some (.own (d :: ds))) ∧ R d ⟨s.ρ.set i (some (.own ds)), s.g⟩
theorem qe_pop0 {j : Nat} {p0 : Pos} (hn : PE X o (tVar i)) (hbase : attributeBase o "pop" X.env (eval o X.env) = eval o X.env := by rfl)
    (hfew : ((backTo cpos (starEach [.Constant (.int 0) j p0] X.env)).all (fun x => !x.1) && (backToKw cpos (keywordEach [] X.env)).all (fun x => x.1.isSome)
      && decide (([.Constant (.int 0) j p0] : List Expr).length + ([] : List Keyword).length + (if ([] : List Keyword).isEmpty then 0 else 1) < 30)) = true := by rfl)
    (hline : (apos.endLine == cpos.line) = true := by rfl) (hs : starEach [.Constant (.int 0) j p0] X.env = (false, eval (.Constant (.int 0) j p0) X.env) :: starEach [] X.env := by rfl) (hplain : (backTo cpos (starEach [] X.env)).any (·.1) = false := by rfl) :
    QE X G (.Call (.Attribute o "pop" apos) [.Constant (.int 0) j p0] [] cpos) (qPop0 i) := by
  refine PE.imp (pe_bm PySem.F.plainAttrs_list PySem.F.slot_list_pop PySem.F.type_list_pop mt_popAt hn (pa_cons pe_int pa_nil hs) hbase hfew hline hs hplain) fun σ H Q ⟨F, Z, s, R, r, ⟨d, ds, t1, t2⟩, q⟩ => ?_
  obtain ⟨a, vs, h1, h2, h3, _⟩ := r.own i _ t1
  simp only [Ats] at h3
  obtain ⟨w, ws, rfl, h4, h5⟩ := h3
  refine ⟨.ref a, h1, own_ty h2, a, w :: ws, 0, 0, w, rfl, rfl, h2, by decide, by decide, ?_, rfl, q _ _ Z _ _ t2 (Same.refl _) (r.write t1 h1 (by simpa using h5)) h4⟩
  rw [seqIndex_of (by decide) (by rw [List.length_cons]; omega)]; rfl
def qExtend (i : Nat) (te : PAx γ) : PEx γ := fun s R => (∃ es, s.ρ[i]? = some (some (.own es))) ∧ te s fun es s1 => ∃ ds, s1.ρ[i]? = some (some (.own ds)) ∧ ds.length + es.length ≤ sizeLine ∧ R .non ⟨s1.ρ.set i (some (.own (ds ++ es))), s1.g⟩
theorem qe_extend {te : PAx γ} (hn : PE X o (tVar i)) (he : QF X G e te)
    (hbase : attributeBase o "extend" X.env (eval o X.env) = eval o X.env := by rfl)
    (hfew : ((backTo cpos (starEach [e] X.env)).all (fun x => !x.1) && (backToKw cpos (keywordEach [] X.env)).all (fun x => x.1.isSome)
      && decide (([e] : List Expr).length + ([] : List Keyword).length + (if ([] : List Keyword).isEmpty then 0 else 1) < 30)) = true := by rfl)
    (hline : (apos.endLine == cpos.line) = true := by rfl) (hs : starEach [e] X.env = (false, eval e X.env) :: starEach [] X.env := by rfl) (hplain : (backTo cpos (starEach [] X.env)).any (·.1) = false := by rfl) :
    QE X G (.Call (.Attribute o "extend" apos) [e] [] cpos) (qExtend i te) := by
  refine PE.imp (pe_bm PySem.F.plainAttrs_list PySem.F.slot_list_extend PySem.F.type_list_extend mt_extend hn (pa_cons he pa_nil hs) hbase hfew hline hs hplain) fun σ H Q ⟨F, Z, s, R, r, ⟨⟨es, t0⟩, t⟩, q⟩ => ?_
  obtain ⟨a, vs, h1, h2, _⟩ := r.own i es t0
  refine ⟨.ref a, h1, own_ty h2, F, Z, s, _, r, t, fun zs s1 Z1 b ws H1 ⟨ds, t1, t2, t3⟩ k1 r1 hb ab hz hf hg ho => ?_⟩
  obtain ⟨a', vs', g1, g2, g3, _⟩ := r1.own i ds t1
  rw [h1] at g1; cases g1
  exact ⟨a, b, vs', ws, rfl, rfl, g2, hb, by rw [g3.len, ab.len]; exact t2, q _ _ Z1 _ _ t3 k1 (r1.write t1 h1 (g3.append ab)) rfl⟩
def qSetItem (tv : PEx γ) (i : Nat) (te : PEx γ) : PSx γ := fun E s => tv s fun d s1 => (∃ es, s1.ρ[i]? = some (some (.own es))) ∧ te s1 fun y s2 => match y with
  | .int k => ∃ ds j, s2.ρ[i]? = some (some (.own ds)) ∧ ixN ds.length k = some j ∧ E.nx ⟨s2.ρ.set i (some (.own (ds.set j d))), s2.g⟩
  | _ => False
theorem qs_setItem {v b : Expr} {tv tb : PEx γ} {tpos : Pos} (hv : QE X G v tv) (hn : PE X o (tVar i)) (hb : QE X G b tb) (hs : swapsWithSole [.Subscript o b tpos] v pos.line X.env = pure false := by rfl) (hw : swappedStores [.Subscript o b tpos] v X.env = pure none := by rfl)
    (h1 : (assignEach [.Subscript o b tpos] X.env).map (·.2) = [assign (.Subscript o b tpos) X.env] := by rfl)
    (ha : ∀ v, assign (.Subscript o b tpos) X.env v = (do
      let ov ← holding [v] (eval o X.env)
      let iv ← holding [v, ov] (eval b X.env)
      standAt tpos
      holding [v, ov, iv] (setItem ov iv v)
      release [v, ov, iv] []) := by intro _; rfl) : QS X G (.Assign [.Subscript o b tpos] v pos) (qSetItem tv i tb) := by
  refine PS.imp (ps_asg hv (pg_sub hn hb set_list ha) hs hw h1) fun De σ H ⟨F, Z, s, E, r, t, n, _⟩ => ?_
  refine ⟨F, Z, s, _, r, t, fun d s1 Z1 v1 H1 ⟨⟨es, t0⟩, t1⟩ k1 r1 a1 => ?_⟩
  obtain ⟨a, vs, g1, g2, _⟩ := r1.own i es t0
  refine ⟨.ref a, g1, F, Z1, s1, _, r1, t1, fun y s2 Z2 v2 H2 t2 k2 r2 a2 => ?_⟩
  cases y with
  | int k =>
    obtain ⟨ds, j, e1, e2, e3⟩ := t2
    have a2' : v2 = .int k := a2
    obtain ⟨a', vs', f1, f2, f3, _⟩ := r2.own i ds e1
    rw [g1] at f1; cases f1
    refine ⟨a, vs', k, j, rfl, a2', f2, by rw [f3.len]; exact e2, n _ Z2 _ _ e3 (k1.trans k2) (r2.write e1 g1 (f3.set j (At.mono k2 _ _ a1)))⟩
  | _ => exact t2.elim
end
section
variable {X : Cx} {G : GP γ} {a b : Expr} {pos : Pos}
def qBinF (p : D → D → (List D → Prop) → Prop) (ta tb : PEx γ) : PAx γ := fun s R => ta s fun x s1 => tb s1 fun y s2 => p x y fun z => R z s2
theorem qf_bin {op : Operator} {p : D → D → (List D → Prop) → Prop} {ta tb : PEx γ} (ho : OpR X (binaryOp op) (dOp2F G.K p)) (ha : QE X G a ta) (hb : QE X G b tb) : QF X G (.BinOp a op b pos) (qBinF p ta tb) := by
  refine PE.imp (pe_op ho ha hb) fun σ H Q ⟨F, Z, s, R, r, t, q⟩ => ?_
  refine ⟨F, Z, s, _, r, t, fun x s1 Z1 v1 H1 t1 k1 r1 a1 => ⟨F, Z1, s1, _, r1, t1, fun y s2 Z2 v2 H2 t2 k2 r2 a2 => ?_⟩⟩
  refine ⟨Z2, x, y, _, r2.z, At.mono k2 _ _ a1, a2, t2, fun zs p vs H3 t3 k3 hn hp a3 => ?_⟩
  obtain ⟨f1, f2, f3, f4⟩ := r2.fresh hn
  exact q zs s2 Z2 p vs H3 t3 (k1.trans k2) (r2.grow k3) hp a3 f1 f2 f3 f4
end
end Pm

set_option Elab.async false
set_option linter.all false
set_option maxRecDepth 100000
set_option maxHeartbeats 1000000
set_option autoImplicit false
namespace Pm
open PySem PySem.Spec
open PyProof.Rows hiding St
open L2
section
variable {prog : Program} {w : World} {A : Around} {E : Value → Shared → Prop} {s : Shared}
theorem gather_tup {t : Addr} {u : Obj} {xs : Array Value} {n : Nat} {Q : List Value → Shared → Prop} (hu : s.heap.get? t = some u) (hc : u.cls = .type "tuple") (hd : u.data = .seq xs n) (hz : xs.size ≤ sizeLine)
    (fin : Q xs.toList { s with heap := (s.heap.push (seqObj "list" #[] 0)).update s.heap.objs.size (Obj.mapSeq (· ++ xs)) }) : wpAny (model prog w) A (collect (.ref t)) Q E s := by
  have old : (s.heap.push (seqObj "list" #[] 0)).get? t = some u := Heap.get?_push_of_some _ hu
  have new : (s.heap.push (seqObj "list" #[] 0)).get? s.heap.objs.size = some (seqObj "list" #[] 0) := Heap.get?_push_size _ rfl
  unfold collect
  refine wpAny_bind (wpAny_runValue (codeAny_builtin (id := "proto.collect") entry_proto_collect' ?_))
  show wpAny _ _ (do again (.builtin "list.__iadd__" ⟨[← newList [], .ref t], []⟩)) _ _ s
  refine wpAny_bind (wpAny_newList ?_ (Nat.zero_le _))
  refine wpAny_pure ⟨Code.quiet_builtin _ (by decide +kernel), codeAny_builtin entry_list_iadd' ?_⟩
  show wpAny _ _ (Builtin.List.listExtendWith (.ref s.heap.objs.size) (.ref t) (.ref s.heap.objs.size)) _ _ { s with heap := s.heap.push (seqObj "list" #[] 0) }
  unfold Builtin.List.listExtendWith
  refine wpAny_bind (wpAny_typeOf (T := "tuple") ⟨u, old, hc⟩ ?_)
  rw [if_pos (by have e : (Value.type "tuple" == Value.type "tuple") = true := (by rfl); rw [e]; simp)]
  refine wpAny_bind (listItems_at old hd (wpAny_bind (listItems_at (xs := #[]) (n := 0) new rfl ?_)))
  rw [if_neg (by simp)]
  refine wpAny_bind (listUpdate_at (xs := #[]) (n := 0) new rfl (wpAny_pure ?_) (Nat.zero_le _) (by show (#[] ++ xs).size ≤ sizeLine + 1; simp only [Array.size_append]; simp; omega))
  show wpAny (model prog w) A (do
      let o ← load s.heap.objs.size
      match o.data with
      | .seq ys _ => pure ys.toList
      | _ => unsupported "internal:collect") Q E { s with heap := (s.heap.push (seqObj "list" #[] 0)).update s.heap.objs.size (Obj.mapSeq (· ++ xs)) }
  refine wpAny_bind (wpAny_load (get?_update_seq new _) ?_)
  show wpAny _ _ (pure ((#[] : Array Value) ++ xs).toList) Q E _
  rw [show ((#[] : Array Value) ++ xs).toList = xs.toList by simp]
  exact wpAny_pure fin
theorem sorted_tupI {t : Addr} {u : Obj} {xs : Array Value} {n : Nat} {ns : List Int} {Q : Value → Shared → Prop} (hu : s.heap.get? t = some u) (hc : u.cls = .type "tuple") (hd : u.data = .seq xs n) (hI : IntsAre xs.toList ns) (hz : xs.size ≤ sizeLine)
    (fin : ∀ (h' : Heap) (p : Addr) (out : List Value) (ms : List Int) (e : Nat), IntsAre out ms → ms.Perm ns → ms.Pairwise (· ≤ ·) → (∀ b o, s.heap.get? b = some o → h'.get? b = some o) → s.heap.objs.size ≤ p → h'.get? p = some (seqObj "list" out.toArray e) → Q (.ref p) { s with heap := h' }) :
    wpAny (model prog w) A (call (.builtin "sorted") [.ref t]) Q E s := by
  have hz2 : xs.toList.length ≤ sizeLine := by rw [Array.length_toList]; exact hz
  refine Calls.call_function_entry (Q := Q) kind_sorted plain_sorted entry_sorted (args_sorted1 _) ?_
  unfold Builtin.«sorted»
  refine wpAny_bind (m := checkCount "sorted" 1 1 _) (wpAny_pure (wpAny_bind (gather_tup hu hc hd hz (wpAny_bind (wpAny_newList ?_ hz2)))))
  generalize hh1 : (s.heap.push (seqObj "list" #[] 0)).update s.heap.objs.size (Obj.mapSeq (· ++ xs)) = h1
  have sz : h1.objs.size = s.heap.objs.size + 1 := by rw [← hh1, Heap.size_update, size_push']
  have grow : s.heap.objs.size ≤ h1.objs.size := by omega
  have k1 : ∀ b o, s.heap.get? b = some o → h1.get? b = some o := fun b o hb => by
    rw [← hh1, Heap.get?_update_ne _ _ _ _ (Nat.ne_of_lt (Heap.lt_size hb))]
    exact Heap.get?_push_of_some _ hb
  have at1 : (h1.push (seqObj "list" xs.toList.toArray 0)).get? h1.objs.size = some (seqObj "list" xs.toList.toArray 0) := Heap.get?_push_size _ rfl
  refine wpAny_bind (wpAny_holding (wpAny_call_entry (s := { s with heap := h1.push (seqObj "list" xs.toList.toArray 0) }) slot_list_sort ⟨_, at1, rfl⟩ entry_list_sort (SrtO.list_sort_ord SrtO.swo_int at1 hz2 (fun h2 => SrtO.ints_sortable hI h2) fun out g1 g2 => ⟨_, rfl, ?_⟩) (args_list_sort _)))
  obtain ⟨c1, c2, c3⟩ := SrtO.ints_out hI g1 g2
  obtain ⟨e, at2⟩ := sortedHeap_at (out := out.toArray) at1
  refine wpAny_pure ⟨_, rfl, fin _ _ out _ e c1 c2 c3 (fun b o hb => ?_) grow at2⟩
  have lt1 := Heap.lt_size (k1 b o hb)
  rw [sortedHeap_old (h := h1.push (seqObj "list" xs.toList.toArray 0)) (Nat.ne_of_lt lt1) (by rw [size_push']; exact Nat.lt_succ_of_lt lt1), Heap.get?_push_ne _ _ _ (Nat.ne_of_lt lt1)]
  exact k1 b o hb
end
def sortedF2 : List D → (List D → Prop) → Prop
  | [.lst xs], R => ∃ ns, asInts xs = some ns ∧ ∀ ns' : List Int, ns'.Perm ns → ns'.Pairwise (· ≤ ·) → R (ns'.map D.int)
  | [.tup xs], R => ∃ ns, asInts xs = some ns ∧ ∀ ns' : List Int, ns'.Perm ns → ns'.Pairwise (· ≤ ·) → R (ns'.map D.int)
  | _, _ => False
theorem c_sorted2 {X : Cx} : CallR X (.builtin "sorted") (dCallF X.K sortedF2) := by
  intro pins s σ H xs us Q I r ⟨Z, ds, R, k, a, w, q⟩
  match ds, w with
  | [.lst ys], w => exact c_sorted pins s σ H xs us Q I r ⟨Z, [.lst ys], R, k, a, w, q⟩
  | [.tup ys], ⟨ns, e, w⟩ =>
    obtain ⟨v, rfl, a1⟩ := Ats.one a
    rw [asInts_eq e] at a1
    simp only [At] at a1
    obtain ⟨p, vs, rfl, a2, a3⟩ := a1
    rw [a3.ints] at a2
    obtain ⟨its, rv, ⟨o, ho, hc, n, hd⟩, hz⟩ := I.tuple (seqT k a2)
    rw [Vals.ref1 r]
    refine sorted_tupI ho hc hd (by simpa using rv.ints) (by simpa [← rv.length] using hz) fun h' p' out ms e1 i1 i2 i3 kp gr at1 => ?_
    have fr : H p' = none := I.hok.fresh gr
    have hl : (ms.map V.int).length ≤ sizeLine := by rw [List.length_map, i2.length_eq]; simpa using hz
    refine ⟨.ref p', upd H p' (.lst (ms.map V.int)), I.laid (t' := s.toks) kp gr ⟨hl, out, e1, vals_of_ints i1, at1⟩, rfl, ?_⟩
    exact q _ _ _ _ (w ms i2 i3) (same_upd fr) fr upd_same (Ats.of_ints ms)
end Pm

set_option Elab.async false
set_option linter.all false
set_option maxRecDepth 100000
set_option maxHeartbeats 1000000
set_option autoImplicit false
namespace Pm
open PySem PySem.Spec
open PyProof.Rows hiding St
open L2
variable {γ : Type}
section
variable {X : Cx} {G : GP γ} {e tg : Expr} {p p2 pos pos2 : Pos}
theorem walks_down {K : PySem.W.Frag} {Z : Hp} {lo : Int} {n : Nat} : Walks K (Itc lo (-1) n) Z ((List.range n).map fun k => .int (lo - (k : Nat))) := by
  intro i Z1 H z1 z2
  refine ⟨fun d hd => ?_, fun hl => (by simpa using Nat.le_of_eq hl.symm : n ≤ i)⟩
  rw [List.getElem?_map] at hd
  by_cases hi : i < n
  · rw [List.getElem?_range hi] at hd
    cases hd
    refine ⟨hi, fun v H' y => ?_⟩
    obtain ⟨e, h2⟩ := y
    subst e; subst h2
    refine ⟨Z1, Ext.refl z2, ?_⟩
    simp only [At]
    congr 1; omega
  · rw [List.getElem?_eq_none (by simpa using hi)] at hd
    cases hd
def qRevR (ta : PEx γ) : PAx γ := fun s R => ta s fun d s1 => match d with
  | .int n => (-(2 ^ 62) ≤ n ∧ n < 2 ^ 62) ∧ R ((List.range n.toNat).map fun k => .int ((n.toNat : Int) - 1 - (k : Nat))) s1
  | _ => False
theorem qi_revR {ta : PEx γ} (hg : Gl X "reversed") (hm : X.mg "reversed" = none) (hg2 : Gl X "range") (hm2 : X.mg "range" = none) (ha : QE X G e ta) (na : starEach [e] X.env = (false, eval e X.env) :: starEach [] X.env := by rfl)
    (hs : starEach [.Call (.Name "range" p2) [e] [] pos2] X.env = (false, eval (.Call (.Name "range" p2) [e] [] pos2) X.env) :: starEach [] X.env := by rfl) :
    QI X G tg (.Call (.Name "reversed" p) [.Call (.Name "range" p2) [e] [] pos2] [] pos) (qRevR ta) := by
  refine PI.imp (pi_revR hg hm (prg_1 hg2 hm2 ha na) hs) fun σ H R ⟨F, Z, s, Rp, r, t, q⟩ => ?_
  refine ⟨F, Z, s, _, r, t, fun d s1 Z1 v H1 t1 k1 r1 a1 => ?_⟩
  match d, t1, a1 with
  | .int n, t1, a1 =>
    simp only [At] at a1
    subst a1
    refine ⟨n, rfl, by decide, by decide, t1.1.1, t1.1.2, q _ s1 Z1 H1 _ t1.2 k1 r1 ?_⟩
    have := walks_down (K := G.K) (Z := Z1) (lo := (n.toNat : Int) - 1) (n := n.toNat)
    have e1 : (0 : Int) + (((n - 0).toNat : Nat) : Int) - 1 = (n.toNat : Int) - 1 := by simp
    have e2 : (n - 0).toNat = n.toNat := by simp
    rw [e1, e2]
    exact this
def rgD (a b : Int) : List D := (List.range (b - a).toNat).map fun k => .int (a + (k : Nat))
theorem rg_ats {K : PySem.W.Frag} {Z : Hp} (a b : Int) : Ats K Z (rgD a b) (rgV a b) := by
  have e1 : rgD a b = ((List.range (b - a).toNat).map fun k : Nat => a + (k : Int)).map D.int := by unfold rgD; rw [List.map_map]; rfl
  have e2 : rgV a b = ((List.range (b - a).toNat).map fun k : Nat => a + (k : Int)).map V.int := by unfold rgV; rw [List.map_map]; rfl
  rw [e1, e2]
  exact Ats.of_ints _
def qLstRg1 (ta : PEx γ) : PAx γ := fun s R => ta s fun d s1 => match d with
  | .int n => (-(2 ^ 62) ≤ n ∧ n ≤ 2 ^ 24) ∧ R (rgD 0 n) s1
  | _ => False
theorem qf_lstRg1 {ta : PEx γ} (hc : X.calm = true) (hg : Gl X "list") (hm : X.mg "list" = none) (hg2 : Gl X "range") (hm2 : X.mg "range" = none) (ha : QE X G e ta) (na : starEach [e] X.env = (false, eval e X.env) :: starEach [] X.env := by rfl)
    (hs : starEach [.Call (.Name "range" p2) [e] [] pos2] X.env = (false, eval (.Call (.Name "range" p2) [e] [] pos2) X.env) :: starEach [] X.env := by rfl) :
    QF X G (.Call (.Name "list" p) [.Call (.Name "range" p2) [e] [] pos2] [] pos) (qLstRg1 ta) := by
  refine PE.imp (pe_listRg hc hg hm (prg_1 hg2 hm2 ha na) hs) fun σ H Q ⟨F, Z, s, R, r, t, q⟩ => ?_
  refine ⟨F, Z, s, _, r, t, fun d s1 Z1 v H1 t1 k1 r1 a1 => ?_⟩
  match d, t1, a1 with
  | .int n, t1, a1 =>
    simp only [At] at a1
    subst a1
    refine ⟨n, rfl, ⟨by decide, by decide, t1.1.1, by omega, by omega⟩, fun p hp => ?_⟩
    obtain ⟨f1, f2, f3, f4⟩ := r1.fresh hp
    exact q _ s1 Z1 p _ _ t1.2 k1 (r1.grow (same_upd hp)) upd_same (rg_ats 0 n) f1 f2 f3 f4
def qTupRg1 (ta : PEx γ) : PEx γ := fun s R => ta s fun d s1 => match d with
  | .int n => (-(2 ^ 62) ≤ n ∧ n ≤ 2 ^ 24) ∧ R (.tup (rgD 0 n)) s1
  | _ => False
theorem qe_tupRg1 {ta : PEx γ} (hc : X.calm = true) (hg : Gl X "tuple") (hm : X.mg "tuple" = none) (hg2 : Gl X "range") (hm2 : X.mg "range" = none) (ha : QE X G e ta) (na : starEach [e] X.env = (false, eval e X.env) :: starEach [] X.env := by rfl)
    (hs : starEach [.Call (.Name "range" p2) [e] [] pos2] X.env = (false, eval (.Call (.Name "range" p2) [e] [] pos2) X.env) :: starEach [] X.env := by rfl) :
    QE X G (.Call (.Name "tuple" p) [.Call (.Name "range" p2) [e] [] pos2] [] pos) (qTupRg1 ta) := by
  refine PE.imp (pe_tupRg hc hg hm (prg_1 hg2 hm2 ha na) hs) fun σ H Q ⟨F, Z, s, R, r, t, q⟩ => ?_
  refine ⟨F, Z, s, _, r, t, fun d s1 Z1 v H1 t1 k1 r1 a1 => ?_⟩
  match d, t1, a1 with
  | .int n, t1, a1 =>
    simp only [At] at a1
    subst a1
    refine ⟨n, rfl, ⟨by decide, by decide, t1.1.1, by omega, by omega⟩, fun p hp => ?_⟩
    have x := Ext.new (o := HO.tup (rgV 0 n)) r1.z hp
    exact q _ s1 _ _ _ t1.2 (k1.trans x.zz) (r1.ext x) ⟨p, _, rfl, .inl (.inl upd_same), rg_ats 0 n⟩
end
end Pm

set_option Elab.async false
set_option linter.all false
set_option maxRecDepth 100000
set_option maxHeartbeats 1000000
set_option autoImplicit false
namespace Pm
open PySem PySem.Spec
open PyProof.Rows hiding St
open L2
variable {γ : Type}

abbrev drawLine : Nat := 2 ^ 24
structure Rng (r c q : Addr) (n : Nat) (H : Hp) : Prop where
  ex : ∃ cs rs : List Int, H r = some (.lst [.ref c, .int n, .ref q]) ∧ H c = some (.lst (cs.map V.int)) ∧ H q = some (.lst (rs.map V.int)) ∧ cs.length = rs.length ∧ 0 < cs.length
  rc : r ≠ c
  rq : r ≠ q
  cq : c ≠ q
def gr (K : PySem.W.Frag) (r c q : Addr) : GP Nat where
  K := K
  foot := fun _ a => a = r ∨ a = c ∨ a = q
  J := fun n H => Rng r c q n H
  stay := fun n H H' ⟨⟨cs, rs, h1, h2, h3, h4⟩, a, b, d⟩ k => ⟨⟨cs, rs, (k r (.inl rfl)).trans h1, (k c (.inr (.inl rfl))).trans h2, (k q (.inr (.inr rfl))).trans h3, h4⟩, a, b, d⟩
  live := fun n H a ⟨⟨cs, rs, h1, h2, h3, _⟩, _, _, _⟩ h => by
    rcases h with rfl | rfl | rfl
    · exact ⟨_, h1⟩
    · exact ⟨_, h2⟩
    · exact ⟨_, h3⟩
def nextS (r : Addr) : Spec Nat := fun ds g R => ∃ m : Int, ds = [.obj r, .int m] ∧ 0 < m ∧ m ≤ 10 ^ 60 ∧ g < drawLine ∧ ∀ k : Int, 0 ≤ k → k < m → R (.int k) (g + 1)
def tNextB (K : PySem.W.Frag) : TS :=
  tSeq (tAsg (tVar 0) (gLs K 3 (gCons (gName 2) (gCons (gName 3) (gCons (gName 4) gNil)))))
  (tSeq (tAsg (tOp (rI (fun _ j => 0 < j) fun i j => .int (i % j)) (tVar 3) (tCB (fun xs H Q => ∃ p ys, xs = [.ref p] ∧ (SqL K H p ys ∨ SqT K H p ys) ∧ Q (.int ys.length) H) (tCons (tVar 2) tNil))) (gName 5))
  (tSeq (tAsg (tOp (rI0 fun i j => .int (i + j)) (tVar 3) (tC (.int 1))) (gSub (tVar 0) (tC (.int 1)) rSetL))
  (tSeq (tIfS (tTest (tOp (rI0 fun i j => .bl (decide (j < i))) (tOp (rIxL K) (tVar 4) (tVar 5)) (tC (.int 0))))
      (tSeq (tAsg (tOp (rI (fun _ j => 0 < j) fun i j => .int (i % j)) (tOp (rIxL K) (tVar 4) (tVar 5)) (tVar 1)) (gName 6))
      (tSeq (tAsg (tOp (rI DivOk fun i j => .int (i.fdiv j)) (tOp (rIxL K) (tVar 4) (tVar 5)) (tVar 1)) (gSub (tVar 4) (tVar 5) rSetL))
      (tRet (tVar 6)))) tNext)
  (tSeq (tAsg (tOp (rI (fun _ j => 0 < j) fun i j => .int (i % j)) (tOp (rI CPow fun i j => .int (i ^ j.toNat)) (tOp (rI0 fun i j => .int (i + j)) (tOp (rI0 fun i j => .int (i + j)) (tOp (rI (fun _ j => 0 < j) fun i j => .int (i % j)) (tOp (rIxL K) (tVar 2) (tVar 5)) (tC (.int 2147483629))) (tOp (rI CMul fun i j => .int (i * j)) (tC (.int 39119)) (tVar 3))) (tC (.int 9901))) (tC (.int 3))) (tC (.int 2147483587))) (gName 7))
  (tSeq (tAsg (tOp (rI (fun _ j => 0 < j) fun i j => .int (i % j)) (tOp (rI CPow fun i j => .int (i ^ j.toNat)) (tOp (rI0 fun i j => .int (i + j)) (tOp (rI0 fun i j => .int (i + j)) (tVar 7) (tOp (rI CMul fun i j => .int (i * j)) (tOp (rI CMul fun i j => .int (i * j)) (tC (.int 7001)) (tVar 3)) (tVar 3))) (tC (.int 41))) (tC (.int 3))) (tC (.int 2147483563))) (gName 8))
  (tRet (tOp (rI (fun _ j => 0 < j) fun i j => .int (i % j)) (tOp (rI (fun _ j => 0 < j) fun i j => .int (i % j)) (tOp (rI0 fun i j => .int (i + j)) (tOp (rI CMul fun i j => .int (i * j)) (tVar 8) (tC (.int 2147483423))) (tVar 7)) (tC (.int 4611686018427387847))) (tVar 1))))))))
theorem divOk60 {i j : Int} (h : 0 < j) (h2 : j ≤ 10 ^ 60) : DivOk i j := by
  refine ⟨by omega, ?_⟩
  have h3 : j.natAbs < 2 ^ 200 := by
    have : (10 : Int) ^ 60 < 2 ^ 200 := by decide
    omega
  exact Nat.lt_of_lt_of_le (PySem.Flt.log2_lt_of (by decide) h3) (by decide)
theorem spot_get {ns : List Int} {t : Int} (hl : 0 < ns.length) : ∃ (j : Nat) (z : Int), t % (ns.length : Int) = (j : Int) ∧ j < ns.length ∧ ns[j]? = some z := by
  have h1 : 0 ≤ t % (ns.length : Int) := Int.emod_nonneg _ (by omega)
  have h2 : t % (ns.length : Int) < ns.length := Int.emod_lt_of_pos _ (by omega)
  refine ⟨(t % (ns.length : Int)).toNat, ns[(t % (ns.length : Int)).toNat]'(by omega), by omega, by omega, List.getElem?_eq_getElem _⟩
theorem mapV_get {ns : List Int} {j : Nat} {z : Int} (h : ns[j]? = some z) : (ns.map V.int)[j]? = some (.int z) := by
  rw [List.getElem?_map, h]; rfl
theorem mapV_set (ns : List Int) (j : Nat) (z : Int) : (ns.map V.int).set j (.int z) = (ns.set j z).map V.int := by
  rw [List.map_set]
theorem rSetL_at {H : Hp} {p : Addr} {xs : List V} {j : Nat} {v : V} {Q : Hp → Prop} (h : H p = some (.lst xs)) (hj : j < xs.length) (q : Q (upd H p (.lst (xs.set j v)))) : rSetL (.ref p) (.int (j : Nat)) v H Q :=
  ⟨p, xs, j, j, rfl, rfl, h, by unfold ixN; rw [if_pos (by omega), if_pos (by omega), Int.toNat_natCast], q⟩
theorem rIxL_at {K : PySem.W.Frag} {H : Hp} {p : Addr} {xs : List V} {j : Nat} {v : V} {Q : VK} (h : H p = some (.lst xs)) (hj : xs[j]? = some v) (q : Q v H) : rIxL K (.ref p) (.int (j : Nat)) H Q :=
  ⟨p, xs, j, v, rfl, rfl, .inl (.inl h), atI_nat hj, q⟩
theorem next_read {K : PySem.W.Frag} {r c q : Addr} {H : Hp} {many : Int} {n : Nat} {De : Ends} (J : Rng r c q n H) (hm : 0 < many) (hm2 : many ≤ 10 ^ 60) (hn : n < drawLine)
    (fin : ∀ (k : Int) (H' : Hp), 0 ≤ k → k < many → Rng r c q (n + 1) H' → (∀ a, a ≠ r → a ≠ c → a ≠ q → H' a = H a) → De.rt (.int k) H') :
    tNextB K De [some (.ref r), some (.int many), none, none, none, none, none, none, none] H := by
  obtain ⟨⟨cs, rs, h1, h2, h3, hl, hp⟩, rc, rq, cq⟩ := J
  have hd : (n : Int) < 16777216 := by have : drawLine = 16777216 := rfl; omega
  obtain ⟨j, z, hj, hjl, hz⟩ := spot_get (ns := cs) (t := (n : Int)) hp
  refine ⟨.ref r, rfl, r, _, rfl, .inl (.inl h1), rfl, .ref c, _, rfl, .int n, _, rfl, .ref q, _, rfl, rfl, ?_⟩
  refine ⟨.int n, rfl, .ref c, rfl, c, cs.map V.int, rfl, .inl (.inl (.inl h2)), (n : Int), ((cs.map V.int).length : Int), rfl, rfl, by rw [List.length_map]; omega, ?_⟩
  rw [List.length_map, show ((fun i j => V.int (i % j)) (n : Int) (cs.length : Int)) = V.int (j : Nat) from (by show V.int _ = _; rw [hj])]
  refine ⟨.int n, rfl, n, 1, rfl, rfl, .ref r, rfl, ?_⟩
  refine rSetL_at (j := 1) h1 (by simp) ?_
  show tSeq _ _ _ _ (upd H r (.lst [.ref c, .int ((n : Int) + 1), .ref q]))
  generalize hH1 : upd H r (.lst [.ref c, .int ((n : Int) + 1), .ref q]) = H1
  have e1 : H1 r = some (.lst [.ref c, .int ((n + 1 : Nat) : Int), .ref q]) := by rw [← hH1, upd_same]; rfl
  have e2 : H1 c = some (.lst (cs.map V.int)) := by rw [← hH1, upd_ne (Ne.symm rc)]; exact h2
  have e3 : H1 q = some (.lst (rs.map V.int)) := by rw [← hH1, upd_ne (Ne.symm rq)]; exact h3
  have eo : ∀ a, a ≠ r → a ≠ c → a ≠ q → H1 a = H a := fun a ha _ _ => by rw [← hH1, upd_ne ha]
  obtain ⟨zr, hzr⟩ : ∃ zr, rs[j]? = some zr := ⟨rs[j]'(by omega), List.getElem?_eq_getElem _⟩
  refine ⟨.ref q, rfl, .int (j : Nat), rfl, rIxL_at e3 (mapV_get hzr) ?_⟩
  refine ⟨zr, 0, rfl, rfl, decide (0 < zr), rfl, ?_⟩
  by_cases hz0 : 0 < zr
  · rw [decide_eq_true hz0]
    refine iteT ?_
    refine ⟨.ref q, rfl, .int (j : Nat), rfl, rIxL_at e3 (mapV_get hzr) ?_⟩
    refine ⟨.int many, rfl, zr, many, rfl, rfl, hm, ?_⟩
    refine ⟨.ref q, rfl, .int (j : Nat), rfl, rIxL_at e3 (mapV_get hzr) ?_⟩
    refine ⟨.int many, rfl, zr, many, rfl, rfl, divOk60 hm hm2, .ref q, rfl, .int (j : Nat), rfl, ?_⟩
    refine rSetL_at e3 (by rw [List.length_map]; omega) ?_
    refine ⟨.int (zr % many), rfl, fin _ _ (Int.emod_nonneg _ (by omega)) (Int.emod_lt_of_pos _ hm) ⟨⟨cs, rs.set j (zr.fdiv many), ?_, ?_, ?_, by rw [List.length_set]; exact hl, hp⟩, rc, rq, cq⟩ fun a a1 a2 a3 => ?_⟩
    · rw [upd_ne rq]; exact e1
    · rw [upd_ne cq]; exact e2
    · rw [upd_same, mapV_set]
    · rw [upd_ne a3]; exact eo a a1 a2 a3
  · rw [decide_eq_false hz0]
    refine iteF ?_
    have b1 : 0 ≤ z % 2147483629 := Int.emod_nonneg _ (by decide)
    have b2 : z % 2147483629 < 2147483629 := Int.emod_lt_of_pos _ (by decide)
    refine ⟨.ref c, rfl, .int (j : Nat), rfl, rIxL_at e2 (mapV_get hz) ?_⟩
    refine ⟨z, 2147483629, rfl, rfl, (by show (0 : Int) < 2147483629; decide), .int n, rfl, 39119, n, rfl, rfl, .inl ⟨by decide, by decide⟩, _, _, rfl, rfl, _, 9901, rfl, rfl, _, 3, rfl, rfl, ⟨by decide, by decide, by omega⟩, _, 2147483587, rfl, rfl, (by show (0 : Int) < 2147483587; decide), ?_⟩
    show gName 7 (V.int ((z % 2147483629 + 39119 * (n : Int) + 9901) ^ (3 : Int).toNat % 2147483587)) _ _ _
    generalize hmx : (z % 2147483629 + 39119 * (n : Int) + 9901) ^ (3 : Int).toNat % 2147483587 = mx
    have m1 : 0 ≤ mx := by rw [← hmx]; exact Int.emod_nonneg _ (by decide)
    have m2 : mx < 2147483587 := by rw [← hmx]; exact Int.emod_lt_of_pos _ (by decide)
    have n0 : 0 ≤ (n : Int) := Int.natCast_nonneg n
    have n2 : 7001 * (n : Int) * (n : Int) ≤ 7001 * 16777216 * 16777216 := Int.mul_le_mul (by omega) (by omega) n0 (by decide)
    have n3 : 0 ≤ 7001 * (n : Int) * (n : Int) := Int.mul_nonneg (by omega) n0
    refine ⟨.int mx, rfl, .int n, rfl, 7001, n, rfl, rfl, .inl ⟨by decide, by decide⟩, .int n, rfl, _, n, rfl, rfl, .inr ⟨by omega, by omega⟩, mx, _, rfl, rfl, _, 41, rfl, rfl, _, 3, rfl, rfl, ⟨by decide, by decide, by omega⟩, _, 2147483563, rfl, rfl, (by show (0 : Int) < 2147483563; decide), ?_⟩
    show gName 8 (V.int ((mx + 7001 * (n : Int) * (n : Int) + 41) ^ (3 : Int).toNat % 2147483563)) _ _ _
    generalize hag : (mx + 7001 * (n : Int) * (n : Int) + 41) ^ (3 : Int).toNat % 2147483563 = ag
    refine ⟨.int ag, rfl, ag, 2147483423, rfl, rfl, .inr ⟨by decide, by decide⟩, .int mx, rfl, _, mx, rfl, rfl, _, 4611686018427387847, rfl, rfl, (by show (0 : Int) < 4611686018427387847; decide), .int many, rfl, _, many, rfl, rfl, hm, ?_⟩
    exact fin _ _ (Int.emod_nonneg _ (by omega)) (Int.emod_lt_of_pos _ hm) ⟨⟨cs, rs, e1, e2, e3, hl, hp⟩, rc, rq, cq⟩ eo
section
variable {P : Program} {w : World} {K : PySem.W.Frag} {mg : Str → Option Value} {base : Heap}
theorem ok_next {x : Str} {st : Stmt} {f : Addr} {fd : FuncData} {N ps : List Str} {k : Nat} {r c q : Addr} (F : Fn K x x st f fd) (S : FnScope N ps (defScope st)) (hN : N.length = 9) (hp : ps.length = 2)
    (body : ∀ (cdv : Value) (A : Around) (outer : List Env) (s : Shared) (H : Hp) (E : XK), Room k (A.deeper (envOfC x (defScope st) s.heap.objs.size f cdv)) →
      PSs (cxOf CX0 P w K mg base N x (defScope st) f cdv A outer s H E).nox (defBody st) (tNextB K)) : FnOk P w K mg base CX0 (k + 1) f fd ps (spG (gr K r c q) (nextS r)) := by
  refine F.ok S (fun vs H Q E h => ?_) (fun cdv A outer s H vs Q E hr h => ⟨_, body cdv A outer s H E hr, ?_⟩)
  · obtain ⟨Z, ds, g, R, _, a, _, _, ⟨m, rfl, _⟩, _⟩ := h
    rw [a.len, hp]; rfl
  · obtain ⟨Z, ds, g, R, k, a, J, zf, ⟨m, rfl, m1, m2, m3, fin⟩, q'⟩ := h
    obtain ⟨v1, v2, rfl, a1, a2⟩ := Ats.two a
    simp only [At] at a1 a2
    subst a1; subst a2
    have e : L2.start N [V.ref r, V.int m] = [some (.ref r), some (.int m), none, none, none, none, none, none, none] := by
      unfold L2.start
      rw [hN]; rfl
    rw [e]
    refine next_read J m1 m2 m3 fun k0 H' h0 h1 J' keep => ?_
    refine q' (.int k0) (g + 1) Z _ H' (fin k0 h0 h1) (Same.refl _) (fun b o e => ?_) (fun b o e n => ?_) (fun b o e n => by rw [e] at n; cases n) J' (fun b hb => ⟨zf b hb, .inl hb⟩) rfl
    · have hn : ¬ (b = r ∨ b = c ∨ b = q) := fun hb => by rw [zf b hb] at e; cases e
      rw [keep b (fun z => hn (.inl z)) (fun z => hn (.inr (.inl z))) (fun z => hn (.inr (.inr z)))]
      exact k b o e
    · have hn : ¬ (b = r ∨ b = c ∨ b = q) := n
      rw [keep b (fun z => hn (.inl z)) (fun z => hn (.inr (.inl z))) (fun z => hn (.inr (.inr z)))]
      exact e
end

def spDraws (K : PySem.W.Frag) : Sp := fun vs H Q _ => ∃ (a : Addr) (ns : List Int), vs = [.ref a] ∧ SqL K H a (ns.map V.int) ∧ ns.length ≤ 63 ∧
  ∀ (r c q : Addr) H', Same H H' → H r = none → H c = none → H q = none → Rng r c q 0 H' → Q (.ref r) H'
def tDrawsB (K : PySem.W.Frag) (vs : List Nat) : TS :=
  tSeq (tAsg (tOp rCat (tCB (fun xs H Q => ∃ p ys, xs = [.ref p] ∧ (SqL K H p ys ∨ SqT K H p ys) ∧ ∀ l, H l = none → Q (.ref l) (upd H l (.lst ys))) (tCons (tSl (rSlL K) (tVar 0) tNoPart (tPart (tC (.int 63)))) tNil))
      (tOp rRep (tLst (tCons (tC (.int 0)) tNil)) (tCB (fun xs H Q => (∃ i, xs = [.int i] ∧ Q (.int i) H) ∨ ∃ k, xs = [.bl k] ∧ Q (.int (if k then 1 else 0)) H)
        (tCons (tOp rEq (tCB (fun xs H Q => ∃ p ys, xs = [.ref p] ∧ (SqL K H p ys ∨ SqT K H p ys) ∧ Q (.int ys.length) H) (tCons (tVar 0) tNil)) (tC (.int 0))) tNil)))) (gName 1))
  (tRet (tLst (tCons (tVar 1) (tCons (tC (.int 0)) (tCons (tLc (iList K (tVar 1)) (gName 2) tYes
    (tOp (rI CMul fun i j => .int (i * j)) (tVar 2) (tCB (fun xs H Q => (∃ i, xs = [.int i] ∧ Q (.int i) H) ∨ ∃ k, xs = [.bl k] ∧ Q (.int (if k then 1 else 0)) H)
      (tCons (tOp (rI0 fun i j => .bl (decide (j ≤ i))) (tVar 2) (tOp (rI CPow fun i j => .int (i ^ j.toNat)) (tC (.int 10)) (tC (.int 18)))) tNil))) vs) tNil)))))
theorem cut63 (ns : List Int) (h : ns.length ≤ 63) : cutV (ns.map V.int) none (some 63) = ns.map V.int := by
  have : cutV (ns.map V.int) none (some 63) = cut (ns.map V.int) none (some ((63 : Nat) : Int)) := rfl
  rw [this, cut_to, List.take_of_length_le (by rw [List.length_map]; exact h)]
theorem tYes_if {σ : List (Option V)} {H : Hp} {A B : Hp → Prop} (h : A H) : tYes σ H fun b H => if b = true then A H else B H := by
  show (if true = true then A H else B H)
  rw [if_pos rfl]; exact h
theorem draws_read {K : PySem.W.Frag} {a : Addr} {ns : List Int} {H : Hp} {De : Ends} (hs : SqL K H a (ns.map V.int)) (hl : ns.length ≤ 63)
    (fin : ∀ (r c q : Addr) H', Same H H' → H r = none → H c = none → H q = none → Rng r c q 0 H' → De.rt (.ref r) H') : tDrawsB K [2] De [some (.ref a), none, none] H := by
  have lim : (1000 : Nat) ≤ sizeLine := by decide
  refine ⟨.ref a, rfl, 63, rfl, a, ns.map V.int, rfl, hs, fun p1 np1 => ?_⟩
  rw [cut63 ns hl]
  have s1 := same_upd (o := HO.lst (ns.map V.int)) np1
  generalize hH1 : upd H p1 (.lst (ns.map V.int)) = H1 at s1
  have a1 : H1 p1 = some (.lst (ns.map V.int)) := by rw [← hH1, upd_same]
  refine ⟨p1, ns.map V.int, rfl, .inl (.inl (.inl a1)), fun p2 np2 => ?_⟩
  have s2 := s1.trans (same_upd (o := HO.lst (ns.map V.int)) np2)
  generalize hH2 : upd H1 p2 (.lst (ns.map V.int)) = H2 at s2
  have a2 : H2 p2 = some (.lst (ns.map V.int)) := by rw [← hH2, upd_same]
  refine ⟨(by show 1 ≤ sizeLine; decide), fun p3 np3 => ?_⟩
  have s3 := same_upd (o := HO.lst [V.int 0]) np3
  generalize hH3 : upd H2 p3 (.lst [V.int 0]) = H3 at s3
  have a3 : H3 p3 = some (.lst [V.int 0]) := by rw [← hH3, upd_same]
  have a23 : H3 p2 = some (.lst (ns.map V.int)) := s3 _ _ a2
  have sA : Same H H3 := s2.trans s3
  refine ⟨.ref a, rfl, a, ns.map V.int, rfl, .inl (sA.seq hs), rfl, .inr ⟨_, rfl, ?_⟩⟩
  generalize hk : decide (V.int (((ns.map V.int).length : Nat) : Int) = V.int 0) = kz
  have hkz : kz = decide (ns.length = 0) := by
    rw [← hk, Bool.eq_iff_iff, decide_eq_true_iff, decide_eq_true_iff, List.length_map]
    constructor
    · intro h; have := V.int.inj h; omega
    · intro h; rw [h]; rfl
  refine ⟨p3, if kz then 1 else 0, [V.int 0], rfl, rfl, a3, by split <;> decide, by split <;> decide, by split <;> decide, fun p4 np4 => ?_⟩
  generalize hz : (List.replicate (if kz = true then (1 : Int) else 0).toNat [V.int 0]).flatten = zs
  have s4 := same_upd (o := HO.lst zs) np4
  generalize hH4 : upd H3 p4 (.lst zs) = H4 at s4
  have a4 : H4 p4 = some (.lst zs) := by rw [← hH4, upd_same]
  obtain ⟨ms, hms, hmp, hml⟩ : ∃ ms : List Int, ns.map V.int ++ zs = ms.map V.int ∧ 0 < ms.length ∧ ms.length ≤ 64 := by
    by_cases h0 : ns.length = 0
    · have : ns = [] := List.length_eq_zero_iff.mp h0
      subst this
      refine ⟨[0], ?_, by simp, by simp⟩
      rw [← hz, hkz]; rfl
    · refine ⟨ns, ?_, by omega, by omega⟩
      have hf : kz = false := by rw [hkz]; exact decide_eq_false h0
      rw [← hz, hf]
      show ns.map V.int ++ [] = _
      rw [List.append_nil]
  have hlen : (ns.map V.int).length + zs.length ≤ sizeLine := by
    have := congrArg List.length hms
    rw [List.length_append, List.length_map] at this
    rw [List.length_map] at this ⊢
    omega
  refine ⟨p2, p4, ns.map V.int, zs, rfl, rfl, s4 _ _ a23, a4, hlen, fun c nc => ?_⟩
  rw [hms]
  have s5 := same_upd (o := HO.lst (ms.map V.int)) nc
  generalize hH5 : upd H4 c (.lst (ms.map V.int)) = H5 at s5
  have a5 : H5 c = some (.lst (ms.map V.int)) := by rw [← hH5, upd_same]
  have sB : Same H H4 := sA.trans s4
  have hc : H c = none := sB.free nc
  have sC : Same H H5 := sB.trans s5
  -- the list of three
  refine ⟨.ref c, rfl, .ref c, rfl, c, rfl, ⟨_, .inl (.inl a5)⟩, fun D nD => ?_⟩
  have hD : H D = none := sC.free nD
  have hDc : c ≠ D := ne_of_none a5 nD
  refine lc_list (K := K) (xs := ms.map V.int) (fun i H => ∃ rs : List Int, rs.length = i ∧ H D = some (.lst (rs.map V.int)) ∧ (∀ b, b ≠ D → H b = H5 b)) ?_ ?_ ?_ ?_
  · exact ⟨[], rfl, by rw [upd_same]; rfl, fun b hb => upd_ne hb⟩
  · rintro i H' - ⟨rs, _, _, ho⟩
    exact .inl (.inl (by rw [ho c hDc]; exact a5))
  · rintro i x H' hx ⟨rs, hrl, hrD, ho⟩
    rw [List.getElem?_map] at hx
    obtain ⟨z, hz1, hz2⟩ := Option.map_eq_some_iff.mp hx
    subst hz2
    refine ⟨rfl, ?_⟩
    refine tYes_if ?_
    refine ⟨.int z, rfl, .int z, rfl, 10, 18, rfl, rfl, ⟨by decide, by decide, by decide⟩, z, _, rfl, rfl, .inr ⟨_, rfl, z, _, rfl, rfl, .inr (by split <;> constructor <;> decide), rs.map V.int, hrD, ?_, ?_⟩⟩
    · have hi := (List.getElem?_eq_some_iff.mp hz1).1
      rw [List.length_map]
      omega
    · refine ⟨rs ++ [z * if decide (10 ^ (18 : Int).toNat ≤ z) = true then 1 else 0], by rw [List.length_append, hrl]; rfl, ?_, fun b hb => ?_⟩
      · rw [upd_same, List.map_append]; rfl
      · rw [upd_ne hb]; exact ho b hb
  · rintro H' ⟨rs, hrl, hrD, ho⟩
    refine ⟨(by show 3 ≤ sizeLine; decide), fun r nr => ?_⟩
    have e5 : H5 r = none := by
      have : r ≠ D := fun e => by rw [e, hrD] at nr; cases nr
      rw [← ho r this]; exact nr
    have hr : H r = none := sC.free e5
    have rc : r ≠ c := fun e => by rw [e, a5] at e5; cases e5
    have rD : r ≠ D := fun e => by rw [e, hrD] at nr; cases nr
    refine fin r c D _ (fun b o e => ?_) hr hc hD ⟨⟨ms, rs, by rw [upd_same]; rfl, ?_, ?_, ?_, hmp⟩, rc, rD, hDc⟩
    · have b1 : b ≠ r := ne_of_none e hr
      have b2 : b ≠ D := ne_of_none e hD
      rw [upd_ne b1, ho b b2]
      exact sC _ _ e
    · rw [upd_ne (Ne.symm rc), ho c hDc]; exact a5
    · rw [upd_ne (Ne.symm rD)]; exact hrD
    · rw [hrl, List.length_map]
section
variable {P : Program} {w : World} {K : PySem.W.Frag} {mg : Str → Option Value} {base : Heap}
theorem ok_draws {x : Str} {st : Stmt} {f : Addr} {fd : FuncData} {N ps : List Str} {k : Nat} (F : Fn K x x st f fd) (S : FnScope N ps (defScope st)) (hN : N.length = 3) (hp : ps.length = 1)
    (body : ∀ (cdv : Value) (A : Around) (outer : List Env) (s : Shared) (H : Hp) (E : XK), Room k (A.deeper (envOfC x (defScope st) s.heap.objs.size f cdv)) →
      PSs (cxOf CX0 P w K mg base N x (defScope st) f cdv A outer s H E).nox (defBody st) (tDrawsB K [2])) : FnOk P w K mg base CX0 (k + 1) f fd ps (spDraws K) := by
  refine F.ok S (fun vs H Q E h => ?_) (fun cdv A outer s H vs Q E hr h => ⟨_, body cdv A outer s H E hr, ?_⟩)
  · obtain ⟨a, ns, rfl, _⟩ := h
    rw [hp]; rfl
  · obtain ⟨a, ns, rfl, hs, hl, q⟩ := h
    have e : L2.start N [V.ref a] = [some (.ref a), none, none] := by
      unfold L2.start
      rw [hN]; rfl
    rw [e]
    exact draws_read hs hl fun r c q' H' h1 h2 h3 h4 h5 => q r c q' H' h1 h2 h3 h4 h5

def Glo (P : Program) (w : World) (K : PySem.W.Frag) (mg : Str → Option Value) (base : Heap) (x : Str) (n : Nat) (sp : Sp) (k : Nat) : Prop :=
  ∃ f fd ps, FnOk P w K mg base CX0 k f fd ps sp ∧ mg x = some (.ref f) ∧ PySem.W.keepIn K (.ref f) = true ∧ Binds K fd ps [] ∧ ps.length = n
theorem Glo.at {X : Cx} {x : Str} {n : Nat} {sp : Sp} {j k : Nat} (g : Glo X.prog X.w X.K X.mg X.base x n sp j) (hr : Room k X.A) (h : j ≤ k := by decide) : Def X x n sp := by
  obtain ⟨f, fd, ps, F, m, kp, b, e⟩ := g
  exact ⟨f, fd, k, ps, F.mono h, hr, m, kp, b, e⟩
def TopDef (K : PySem.W.Frag) (mg : Str → Option Value) (x : Str) (st : Stmt) : Prop := ∃ f fd, Fn K x x st f fd ∧ mg x = some (.ref f)
theorem TopDef.glo {x : Str} {st : Stmt} {ps : List Str} {sp : Sp} {k : Nat} (t : TopDef K mg x st) (ok : ∀ {f fd}, Fn K x x st f fd → FnOk P w K mg base CX0 k f fd ps sp)
    (hb : ∀ (kV doc pm : Value) (an : Option Addr) (cdv ct : Value) (us : List Value), us.length = ps.length → bindArgs (PySem.W.fnOf x x (defArgs st) (defBody st) (defScope st) .none kV doc pm an cdv ct) ⟨us, []⟩ = pure (ps.zip us)) :
    Glo P w K mg base x ps.length sp k := by
  obtain ⟨f, fd, F, m⟩ := t
  exact ⟨f, fd, ps, ok F, m, F.kp, F.bindsN hb, rfl⟩
theorem Glo.mono {x : Str} {n : Nat} {sp : Sp} {j k : Nat} (g : Glo P w K mg base x n sp j) (h : j ≤ k) : Glo P w K mg base x n sp k := by
  obtain ⟨f, fd, ps, F, r⟩ := g
  exact ⟨f, fd, ps, F.mono h, r⟩

def spLaw (K : PySem.W.Frag) : Sp := fun vs H Q _ => ∃ (a : Addr) (ns : List Int), vs = [.ref a] ∧ SqL K H a (ns.map V.int) ∧ ns.length ≤ 63 ∧ ∀ H', Q (.bl true) H'
theorem ok_law {x : Str} {s0 : Stmt} {rest : List Stmt} {st : Stmt} {f : Addr} {fd : FuncData} {N : List Str} {p : Str} {k i : Nat} (F : Fn K x x st f fd) (S : FnScope N [p] (defScope st)) (hi : 0 < i) (hb : defBody st = s0 :: rest)
    (body : ∃ t : Addr → PSx Nat, (∀ (cdv : Value) (A : Around) (outer : List Env) (s : Shared) (H : Hp) (E : XK), Room k (A.deeper (envOfC x (defScope st) s.heap.objs.size f cdv)) →
      PS (cxOf CX0 P w K mg base N x (defScope st) f cdv A outer s H E).nox s0 (tAsg (tCall (spDraws K) [] E0 (tCons (tVar 0) tNil)) (gName i)) ∧
      ∀ r c q, QSs (cxOf CX0 P w K mg base N x (defScope st) f cdv A outer s H E).nox (gr K r c q) rest (t r)) ∧
      ∀ r, t r { nx := fun _ => False, rt := fun d _ => d = .bl true } ⟨(List.replicate N.length none).set i (some (.val (.obj r))), 0⟩) : FnOk P w K mg base CX0 (k + 1) f fd [p] (spLaw K) := by
  obtain ⟨t, hd, hp⟩ := body
  refine F.ok S (fun vs H Q E h => ?_) (fun cdv A outer s H vs Q E hr h => ?_)
  · obtain ⟨a, ns, rfl, _⟩ := h; rfl
  · obtain ⟨d0, d1⟩ := hd cdv A outer s H E hr
    obtain ⟨a, ns, rfl, hs, hl, q⟩ := h
    rw [hb]
    have dd : PSs (cxOf CX0 P w K mg base N x (defScope st) f cdv A outer s H E).nox rest (fun De σ H' => ∃ r c q', lS (gr K r c q') (t r) De σ H') := ⟨fun pins s1 σ H1 De I ⟨r, c, q', h⟩ => (d1 r c q').run pins s1 σ H1 De I h⟩
    refine ⟨_, pss_cons d0 dd, ?_⟩
    have hN : 0 < N.length := by have := congrArg List.length S.pre; rw [List.length_take] at this; simp at this; omega
    refine ⟨.ref a, ?_, a, ns, rfl, hs, hl, fun r c q' H' k1 hr1 hc1 hq1 J => ?_⟩
    · show (L2.start N [V.ref a])[0]? = _
      rfl
    · refine ⟨r, c, q', ⟨fun _ => none, fun _ => False, fun _ h => h.elim⟩, fun _ => none, _, _, ?_, hp r, ?_, ?_, ?_, ?_⟩
      · have hlen : (L2.start N [V.ref a]).length = N.length := by unfold L2.start; simp; omega
        have at_i : ∀ (j : Nat) l, ((List.replicate N.length (none : Option L)).set i (some (.val (.obj r))))[j]? = some (some l) → j = i ∧ l = .val (.obj r) ∧ i < N.length := fun j l e => by
          by_cases hji : i = j
          · subst hji
            have hl' : i < (List.replicate N.length (none : Option L)).length := by
              have := (List.getElem?_eq_some_iff.mp e).1
              simpa using this
            rw [List.getElem?_set_self hl'] at e
            cases e
            exact ⟨rfl, rfl, by simpa using hl'⟩
          · rw [List.getElem?_set_ne hji, List.getElem?_replicate] at e
            split at e <;> cases e
        refine ⟨fun _ _ h => (by cases h), fun _ _ h => (by cases h), fun _ _ => rfl, by simp [hlen], fun j d e => ?_, fun j ds e => ?_, fun j j2 ds es b _ e _ => ?_, J, fun _ _ => rfl, fun _ _ => rfl, fun _ _ h => (by cases h)⟩
        · obtain ⟨rfl, e2, hl'⟩ := at_i j _ e
          cases e2
          exact ⟨.ref r, by rw [List.getElem?_set_self (by rw [hlen]; exact hl')], rfl⟩
        · obtain ⟨_, e2, _⟩ := at_i j _ e; cases e2
        · obtain ⟨_, e2, _⟩ := at_i j _ e; cases e2
      · intro s' Z' σ' H2 h; exact h.elim
      · intro d s' Z' σ' v H2 h _ _ a'
        have h' : d = .bl true := h
        subst h'
        have e : v = .bl true := a'
        rw [e]; exact q _
      · intro s' Z' σ' H2 h; exact h.elim
      · intro s' Z' σ' H2 h; exact h.elim
end
end Pm

set_option Elab.async false
set_option linter.all false
set_option maxRecDepth 100000
set_option maxHeartbeats 1000000
set_option autoImplicit false
namespace Pm
open PySem PySem.Spec
open PyProof.Rows hiding St
open L2

def Sz (b : Nat) (i : Int) : Prop := i.natAbs < 2 ^ b
theorem Sz.le {a b : Nat} {i : Int} (h : Sz a i) (k : a ≤ b) : Sz b i := Nat.lt_of_lt_of_le h (Nat.pow_le_pow_right (by decide) k)
theorem Sz.mul {a b : Nat} {i j : Int} (h : Sz a i) (k : Sz b j) : Sz (a + b) (i * j) := by
  unfold Sz at *
  rw [Int.natAbs_mul, Nat.pow_add]
  exact Nat.mul_lt_mul'' h k
theorem Sz.add {a : Nat} {i j : Int} (h : Sz a i) (k : Sz a j) : Sz (a + 1) (i + j) := by
  unfold Sz at *
  rw [Nat.pow_succ]; omega
theorem Sz.sub {a : Nat} {i j : Int} (h : Sz a i) (k : Sz a j) : Sz (a + 1) (i - j) := by
  unfold Sz at *
  rw [Nat.pow_succ]; omega
theorem Sz.log {b : Nat} {i : Int} (h : Sz b i) (k : 0 < b) : i.natAbs.log2 < b := PySem.Flt.log2_lt_of k h
theorem Sz.mulOk {a b : Nat} {i j : Int} (h : Sz a i) (k : Sz b j) (l : a + b < 900000 := by omega) : MulOk i j := by
  have h1 := (h.le (Nat.le_succ a)).log (Nat.succ_pos a)
  have h2 := (k.le (Nat.le_succ b)).log (Nat.succ_pos b)
  refine .inr ?_
  unfold CMulW
  omega
theorem Sz.divOk {b : Nat} {j : Int} (h : Sz b j) (h0 : j ≠ 0) (l : b ≤ 9000 := by omega) : DivOk j j := ⟨h0, (h.le l).log (by decide)⟩
theorem divOk_of {b : Nat} {i j : Int} (h : Sz b j) (h0 : j ≠ 0) (l : b ≤ 9000 := by omega) : DivOk i j := ⟨h0, (h.le l).log (by decide)⟩

def frD (x : Rat) : D := .tup [.int x.num, .int x.den]
def SzR (b : Nat) (x : Rat) : Prop := Sz b x.num ∧ Sz b x.den
theorem SzR.le {a b : Nat} {x : Rat} (h : SzR a x) (k : a ≤ b) : SzR b x := ⟨h.1.le k, h.2.le k⟩
theorem natAbs_div_le (a : Int) (b : Nat) : (a / (b : Int)).natAbs ≤ a.natAbs := by
  rcases Nat.eq_zero_or_pos b with rfl | h
  · simp
  · exact Int.natAbs_ediv_le_natAbs a b
theorem SzR.mk {b : Nat} {n : Int} {d : Nat} (hn : Sz b n) (hd : Sz b d) (h0 : d ≠ 0) : SzR b (mkRat n d) := by
  refine ⟨?_, ?_⟩
  · unfold Sz at *
    rw [Rat.num_mkRat, if_neg h0]
    exact Nat.lt_of_le_of_lt (natAbs_div_le _ _) hn
  · unfold Sz at *
    rw [Rat.den_mkRat, if_neg h0]
    refine Nat.lt_of_le_of_lt ?_ hd
    show d / d.gcd n.natAbs ≤ d
    exact Nat.div_le_self _ _
theorem SzR.divInt {b : Nat} {n d : Int} (hn : Sz b n) (hd : Sz b d) (h0 : d ≠ 0) : SzR b (Rat.divInt n d) := by
  rcases Int.lt_or_gt_of_ne h0 with h | h
  · have e : Rat.divInt n d = mkRat (-n) d.natAbs := by
      rw [← Rat.neg_divInt_neg, ← Rat.divInt_ofNat]
      congr 1; omega
    rw [e]
    exact SzR.mk (by unfold Sz at *; omega) (by unfold Sz at *; omega) (by omega)
  · have e : Rat.divInt n d = mkRat n d.natAbs := by
      rw [← Rat.divInt_ofNat]
      congr 1; omega
    rw [e]
    exact SzR.mk hn (by unfold Sz at *; omega) (by omega)
theorem SzR.mul {a b : Nat} {x y : Rat} (h : SzR a x) (k : SzR b y) : SzR (a + b) (x * y) := by
  rw [Rat.mul_def']
  refine SzR.mk (h.1.mul k.1) ?_ (Nat.mul_ne_zero x.den_nz y.den_nz)
  rw [Int.natCast_mul]
  exact h.2.mul k.2
theorem SzR.add {a b : Nat} {x y : Rat} (h : SzR a x) (k : SzR b y) : SzR (a + b + 1) (x + y) := by
  rw [Rat.add_def']
  refine SzR.mk ((h.1.mul k.2).add ((k.1.mul h.2).le (by omega))) ?_ (Nat.mul_ne_zero x.den_nz y.den_nz)
  rw [Int.natCast_mul]
  exact (h.2.mul k.2).le (by omega)
theorem SzR.sub {a b : Nat} {x y : Rat} (h : SzR a x) (k : SzR b y) : SzR (a + b + 1) (x - y) := by
  rw [Rat.sub_def']
  refine SzR.mk ((h.1.mul k.2).sub ((k.1.mul h.2).le (by omega))) ?_ (Nat.mul_ne_zero x.den_nz y.den_nz)
  rw [Int.natCast_mul]
  exact (h.2.mul k.2).le (by omega)
theorem SzR.neg {a : Nat} {x : Rat} (h : SzR a x) : SzR a (-x) := ⟨by unfold SzR Sz at *; rw [Rat.neg_num]; omega, by rw [Rat.neg_den]; exact h.2⟩
theorem frD_pln (x : Rat) : (frD x).pln = true := rfl
theorem frD_dep (x : Rat) : (frD x).dep ≤ 64 := by show max 0 (max 0 0) + 1 ≤ 64; decide
theorem frD_eqv (x y : Rat) : D.eqv (frD x) (frD y) = decide (x = y) := by
  show (decide (x.num = y.num) && (decide ((x.den : Int) = y.den) && true)) = _
  rw [Bool.and_true, Bool.eq_iff_iff, Bool.and_eq_true, decide_eq_true_iff, decide_eq_true_iff, decide_eq_true_iff]
  constructor
  · rintro ⟨h1, h2⟩; exact Rat.ext h1 (by omega)
  · rintro rfl; exact ⟨rfl, rfl⟩
theorem divInt_parts {n d : Int} (h0 : d ≠ 0) : (Rat.divInt n d).num = n.fdiv (if d < 0 then 0 - (n.natAbs.gcd d.natAbs : Nat) else (n.natAbs.gcd d.natAbs : Nat)) ∧ ((Rat.divInt n d).den : Int) = d.fdiv (if d < 0 then 0 - (n.natAbs.gcd d.natAbs : Nat) else (n.natAbs.gcd d.natAbs : Nat)) := by
  have hg : d.gcd n = n.natAbs.gcd d.natAbs := by show d.natAbs.gcd n.natAbs = _; rw [Nat.gcd_comm]
  have hgp : 0 < n.natAbs.gcd d.natAbs := Nat.gcd_pos_of_pos_right _ (by omega)
  have d1 : ((n.natAbs.gcd d.natAbs : Nat) : Int) ∣ n := Int.ofNat_dvd_left.mpr (Nat.gcd_dvd_left _ _)
  have d2 : ((n.natAbs.gcd d.natAbs : Nat) : Int) ∣ d := Int.ofNat_dvd_left.mpr (Nat.gcd_dvd_right _ _)
  rw [Rat.num_divInt, Rat.den_divInt, if_neg h0, hg]
  generalize n.natAbs.gcd d.natAbs = g at *
  obtain ⟨a, rfl⟩ := d1
  obtain ⟨b, rfl⟩ := d2
  have g0 : (g : Int) ≠ 0 := by omega
  by_cases hb : (g : Int) * b < 0
  · rw [if_pos hb, Int.sign_eq_neg_one_of_neg hb]
    have b0 : b < 0 := by
      rcases Int.lt_or_le b 0 with h | h
      · exact h
      · have := Int.mul_nonneg (show (0 : Int) ≤ g by omega) h; omega
    have e1 : ∀ c : Int, ((g : Int) * c).fdiv (0 - (g : Int)) = -c := fun c => by
      have e : (g : Int) * c = (0 - (g : Int)) * (-c) := by rw [Int.zero_sub, Int.neg_mul_neg]
      rw [e, Int.mul_fdiv_cancel_left _ (by omega)]
    rw [e1, e1]
    constructor
    · have e : -1 * ((g : Int) * a) = (g : Int) * (-a) := by rw [Int.mul_neg, Int.neg_one_mul]
      rw [e, Int.mul_ediv_cancel_left _ g0]
    · rw [Int.natAbs_mul, Int.natAbs_natCast, Nat.mul_div_cancel_left _ hgp]; omega
  · rw [if_neg hb]
    have b0 : 0 < b := by
      rcases Int.lt_or_le 0 b with h | h
      · exact h
      · have h2 : (g : Int) * b ≤ 0 := Int.mul_nonpos_of_nonneg_of_nonpos (by omega) h
        omega
    have hp : 0 < (g : Int) * b := by
      have : (g : Int) * b ≠ 0 := h0
      omega
    rw [Int.sign_eq_one_of_pos hp, Int.one_mul, Int.mul_fdiv_cancel_left _ g0, Int.mul_ediv_cancel_left _ g0, Int.mul_fdiv_cancel_left _ g0]
    refine ⟨rfl, ?_⟩
    rw [Int.natAbs_mul, Int.natAbs_natCast, Nat.mul_div_cancel_left _ hgp]; omega
theorem add_div (x y : Rat) : Rat.divInt (x.num * y.den + y.num * x.den) (x.den * y.den) = x + y := by
  rw [Rat.add_def', ← Rat.divInt_ofNat, Int.natCast_mul]
theorem sub_div (x y : Rat) : Rat.divInt (x.num * y.den - y.num * x.den) (x.den * y.den) = x - y := by
  rw [Rat.sub_def', ← Rat.divInt_ofNat, Int.natCast_mul]
theorem mul_div (x y : Rat) : Rat.divInt (x.num * y.num) (x.den * y.den) = x * y := by
  rw [Rat.mul_def', ← Rat.divInt_ofNat, Int.natCast_mul]
def cmpR (x y : Rat) : Int := if x < y then -1 else if x = y then 0 else 1
theorem pe_callD {X : Cx} {x : Str} {n : Nat} {sp : Sp} {e : Expr} {es : List Expr} {ta : TA} {p pos : Pos} (d : Def X x n sp) (hg : Gl X x) (ha : PA X (e :: es) ta) (hdb : (x == ("__debug__" : Str)) = false := by decide) (he : starEach (e :: es) X.env = (false, eval e X.env) :: starEach es X.env := by rfl) (hpl : (backTo pos (starEach es X.env)).any (·.1) = false := by rfl) :
    PE X (.Call (.Name x p) (e :: es) [] pos) (tCall sp [] E0 ta) := by
  obtain ⟨fa, fd, k, ps, F, hr, hm, hk, hb, _⟩ := d.ex
  exact pe_call F hr hg hm hk hb .nil pass0 ha hdb he hpl
theorem pow60 : (2 : Int) ^ 60 = 1152921504606846976 := by decide

def wkL : List (Option L) → List (Option L) → Prop
  | [], [] => True
  | a :: as, b :: bs => (b = none ∨ b = a) ∧ wkL as bs
  | _, _ => False
theorem wkL_at : ∀ {ρ ρ' : List (Option L)}, wkL ρ ρ' → ρ'.length = ρ.length ∧ ∀ (i : Nat) l, ρ'[i]? = some (some l) → ρ[i]? = some (some l)
  | [], [], _ => ⟨rfl, fun _ _ h => h⟩
  | a :: as, b :: bs, h => by
    obtain ⟨h1, h2⟩ := wkL_at h.2
    refine ⟨by simp [h1], fun i l e => ?_⟩
    cases i with
    | zero =>
      simp only [List.getElem?_cons_zero, Option.some.injEq] at e ⊢
      rcases h.1 with h | h
      · rw [h] at e; cases e
      · rw [← h]; exact e
    | succ i => simp only [List.getElem?_cons_succ] at e ⊢; exact h2 i l e
  | [], _ :: _, h => h.elim
  | _ :: _, [], h => h.elim
section
variable {γ : Type}
theorem Wk.of {ρ ρ' : List (Option L)} {g : γ} (h : wkL ρ ρ') : Wk (⟨ρ, g⟩ : S γ) ⟨ρ', g⟩ := ⟨rfl, (wkL_at h).1, (wkL_at h).2⟩
theorem seq_mid {t U : PSx γ} {E : En γ} {s : S γ} (M : S γ → Prop) (hU : ∀ s', M s' → U E s') (h : ∀ N : S γ → Prop, (∀ s', M s' → N s') → t { E with nx := N } s) : qSeq t U E s := h _ hU
end
theorem fr_ne {x y : Rat} (hc : (!D.eqv (frD x) (frD y)) = true) (h : x = y) : False := by
  rw [frD_eqv, decide_eq_true h] at hc; cases hc
theorem fr_eq {x y : Rat} (hc : D.eqv (frD x) (frD y) = false) (h : x = y) : False := by
  rw [frD_eqv, decide_eq_true h] at hc; cases hc
theorem int_ne {x y : Int} (hc : (!D.eqv (.int x) (.int y)) = true) (h : x = y) : False := by
  rw [show D.eqv (.int x) (.int y) = decide (x = y) from rfl, decide_eq_true h] at hc; cases hc
theorem bl_ne {x y : Bool} (hc : (!D.eqv (.bl x) (.bl y)) = true) (h : x = y) : False := by
  subst h; cases x <;> cases hc
theorem cmpR_swap (x y : Rat) : cmpR y x = 0 - cmpR x y := by
  unfold cmpR
  split <;> split <;> first | rfl | (split <;> first | rfl | grind) | grind
theorem cmpR_zero (x y : Rat) : cmpR x y = 0 ↔ x = y := by
  unfold cmpR
  split
  · rename_i h
    constructor
    · intro h; cases h
    · rintro rfl; exact absurd h Rat.lt_irrefl
  · split
    · rename_i h; exact ⟨fun _ => h, fun _ => rfl⟩
    · rename_i h; exact ⟨fun z => (by cases z), fun z => absurd z h⟩
theorem cmpR_add (x y z : Rat) : cmpR (x + z) (y + z) = cmpR x y := by
  unfold cmpR
  have h1 : (x + z < y + z) = (x < y) := by rw [Rat.add_lt_add_right]
  have h2 : (x + z = y + z) = (x = y) := propext ⟨fun h => Rat.add_right_cancel z h, fun h => by rw [h]⟩
  simp only [h1, h2]
theorem cmpR_le (x y : Rat) : cmpR x y ≤ 0 ↔ x ≤ y := by
  unfold cmpR
  split
  · rename_i h; exact ⟨fun _ => Rat.le_of_lt h, fun _ => by decide⟩
  · split
    · rename_i h; subst h; exact ⟨fun _ => Rat.le_refl, fun _ => by decide⟩
    · rename_i h1 h2; exact ⟨fun z => by omega, fun z => absurd (Rat.lt_of_le_of_ne z h2) h1⟩
theorem cmpR_pos {x y : Rat} (h : y < x) : cmpR x y = 1 := by
  have := cmpR_swap y x
  unfold cmpR at this ⊢
  rw [if_pos h] at this
  exact this
theorem cmpR_neg {x y : Rat} (h : x < y) : cmpR x y = -1 := by unfold cmpR; rw [if_pos h]
theorem cmpR_mul (x y z : Rat) : cmpR (x * z) (y * z) = cmpR x y * cmpR z 0 := by
  by_cases h0 : z = 0
  · subst h0
    rw [Rat.mul_zero, Rat.mul_zero, (cmpR_zero 0 0).mpr rfl, Int.mul_zero]
  rcases (show x < y ∨ x = y ∨ y < x by grind) with h | h | h
  · rcases (show z < 0 ∨ 0 < z by grind) with hz | hz
    · have := Rat.mul_lt_mul_of_pos_right h (show 0 < -z by grind)
      rw [cmpR_neg h, cmpR_neg hz, cmpR_pos (by grind)]; rfl
    · have := Rat.mul_lt_mul_of_pos_right h hz
      rw [cmpR_neg h, cmpR_pos hz, cmpR_neg this]; rfl
  · subst h
    rw [(cmpR_zero _ _).mpr rfl, (cmpR_zero x x).mpr rfl, Int.zero_mul]
  · rcases (show z < 0 ∨ 0 < z by grind) with hz | hz
    · have := Rat.mul_lt_mul_of_pos_right h (show 0 < -z by grind)
      rw [cmpR_pos h, cmpR_neg hz, cmpR_neg (by grind)]; rfl
    · have := Rat.mul_lt_mul_of_pos_right h hz
      rw [cmpR_pos h, cmpR_pos hz, cmpR_pos this]; rfl
end Pm

set_option Elab.async false
set_option linter.all false
set_option maxRecDepth 100000
set_option maxHeartbeats 1000000
set_option autoImplicit false
namespace Pm
open PySem PySem.Spec
open PyProof.Rows hiding St
open L2

structure FnG (P : Program) (w : World) (K : PySem.W.Frag) (mg : Str → Option Value) (base : Heap) (k : Nat) (f : Addr) (fd : FuncData) (ps : List Str) (sp : Sp) : Prop where
  len : ∀ vs H Q E, sp vs H Q E → vs.length = ps.length
  go : ∀ (A : Around), A.guards = some [] → Room k A → ∀ (outer : List Env) (s : Shared) (H : Hp) (args : Args) (us : List Value) (vs : List V) (Q : VK) (E : XK), Env0 P w K mg base A outer s H → BindsTo s fd args (ps.zip us) → Vals vs us → sp vs H Q E →
    codeAny (model P w) A (.call (.ref f) args) (CR CX0 outer P w H s Q E) s
section
variable {P : Program} {w : World} {K : PySem.W.Frag} {mg : Str → Option Value} {base : Heap} {k : Nat} {f : Addr} {fd : FuncData} {ps : List Str} {sp : Sp}
theorem FnG.of (F : FnOk P w K mg base CX0 k f fd ps sp) : FnG P w K mg base k f fd ps sp := ⟨F.len, fun A _ hr outer s H args us vs Q E => F.run A outer s H args us vs Q E hr⟩
theorem FnG.mono {j : Nat} (F : FnG P w K mg base j f fd ps sp) (h : j ≤ k) : FnG P w K mg base k f fd ps sp := ⟨F.len, fun A g hr => F.go A g (hr.mono h)⟩
theorem Fn.okGd {x qual : Str} {st : Stmt} {N : List Str} (F : Fn K x qual st f fd) (S : FnScope N ps (defScope st)) (len : ∀ vs H Q E, sp vs H Q E → vs.length = ps.length)
    (hbody : ∀ (cdv : Value) (A : Around) (outer : List Env) (s : Shared) (H : Hp) (vs : List V) (Q : VK) (E : XK), A.guards = some [] → Room k (A.deeper (envOfC qual (defScope st) s.heap.objs.size f cdv)) → sp vs H Q E →
      ∃ t, PSs (cxOf CX0 P w K mg base N qual (defScope st) f cdv A outer s H E).nox (defBody st) t ∧ t { nx := fun _ H' => Q .non H', rt := Q } (L2.start N vs) H) : FnG P w K mg base (k + 1) f fd ps sp := by
  obtain ⟨oc, od, dV, kV, doc, pm, an, cdv, ct, osl, rfl, lk, hcd, _, _⟩ := F.ex
  refine ⟨len, fun A gd hr outer s H args us vs Q E e0 hb rv hq => ?_⟩
  have inH : K.In s.heap := e0.mod.kin.keeps fun c u z => (e0.bs c u z).1
  refine codeAny_call_function hr.depth (inH _ _ lk) rfl S.co S.gen rfl (PySem.W.codeRec_of inH hcd) (hb _ _ _ _ ?_)
  refine wpAny_newFunctionEnv_cells S.kind (fun y hy => ?_) fun env he s1 xx => ?_
  · rcases S.par y.1 (List.of_mem_zip (a := y.1) (b := y.2) hy).1 with z | z
    · exact Or.inl z
    · exact Or.inr ⟨z, PySem.W.cellsFrom_some _ _ _ (Or.inl z)⟩
  subst he
  have nol : s.heap.NoLimit := e0.mod.nolimit.keeps fun c u z => (e0.bs c u z).1
  refine ⟨nol.keeps xx.toInCall.keep, codeAny_func ?_⟩
  obtain ⟨t, ht, hw⟩ := hbody cdv A outer s H vs Q E gd (hr.deeper _) hq
  have J0 := inv_start (CX := CX0) (E := E) S hr.hd e0 (len _ _ _ _ hq) rv xx
  refine wpAny_mono ((PSs.nox ht).run [] s1 (L2.start N vs) H _ J0 hw) (fun fl s' z => ?_) fun _ _ z => z
  cases fl with
  | ret u =>
    obtain ⟨v, _, H', J, r1, q1⟩ := z
    exact ⟨v, H', J.os, J.bare, J.base, J.hok, r1, q1⟩
  | next =>
    obtain ⟨_, H', J, q1⟩ := z
    exact ⟨.non, H', J.os, J.bare, J.base, J.hok, rfl, q1⟩
  | brk =>
    obtain ⟨_, _, _, q1⟩ := z
    exact q1.elim
  | cont =>
    obtain ⟨_, _, _, q1⟩ := z
    exact q1.elim
end
theorem law_callG {P : Program} {w : World} {K : PySem.W.Frag} {mg mb : Str → Option Value} {k : Nat} {fa a : Addr} {fd : FuncData} {x : Str} {sp : Sp} {s0 : Shared} {vs : List Value} {ns : List Int}
    (KX : K.In s0.heap) (hns : s0.heap.Ns mainGlobals mg) (hb : s0.heap.Ns builtinsNs mb) (hbb : ∀ y : Str, y ≠ "__name__" → mb y = bootBuiltins y) (hlim : s0.heap.NoLimit) (hg : s0.gens = #[])
    (ha : s0.heap.get? a = some { cls := .type "list", data := .seq vs.toArray }) (hi : IntsAre vs ns) (hl : ns.length ≤ sizeLine) (hr : Room k callerA)
    (F : ∀ base : Heap, K.In base → base.Ns mainGlobals mg → FnG P w K mg base k fa fd [x] sp) (hbind : ∀ (s : Shared) (u : Value), BindsTo s fd ⟨[u], []⟩ [(x, u)])
    (hsp : ∀ T : Hp, Only T → SqL K T a (ns.map V.int) → sp [.ref a] T (fun v _ => v = .bl true) fun _ _ _ => False) :
    codeAny (model P w) callerA (.call (.ref fa) ⟨[.ref a], []⟩) (fun r z => r = .ok (.ret (.bool true)) ∧ OldK s0.heap z.heap ∧ z.os = s0.os ∧ AllBare z.gens) s0 := by
  have rel := vals_ints hi
  have ln := hi.length
  have main : ∀ T : Hp, Only T → SqL K T a (ns.map V.int) → HOk P w T s0.heap → (∀ c, T c ≠ none → c = a) → (T a ≠ none → K.lookup a = none) →
      codeAny (model P w) callerA (.call (.ref fa) ⟨[.ref a], []⟩) (fun r z => r = .ok (.ret (.bool true)) ∧ OldK s0.heap z.heap ∧ z.os = s0.os ∧ AllBare z.gens) s0 := by
    intro T oT sT okT onT kT
    have un : ∀ {c : Addr} {u : Obj}, s0.heap.get? c = some u → (∀ vs' n, u.data ≠ .seq vs' n) → T c = none := fun {c u} e d => by
      cases q : T c with
      | none => rfl
      | some y =>
        have z : c = a := onT c (by rw [q]; simp)
        rw [z, ha] at e
        cases e
        exact absurd rfl (d _ _)
    have nsT : ∀ {c : Addr} {m : Str → Option Value}, s0.heap.Ns c m → (hidT s0.heap T).Ns c m := fun {c m} ⟨u, es, ep, e, d, r⟩ => ⟨u, es, ep, hidT_get e (un e fun _ _ z => by rw [d] at z; cases z), d, r⟩
    have inT : K.In (hidT s0.heap T) := fun c u e => hidT_get (KX c u e) (by
      cases q : T c with
      | none => rfl
      | some y =>
        have z : c = a := onT c (by rw [q]; simp)
        subst z
        rw [kT (by rw [q]; simp)] at e
        cases e)
    have md : Mod K mg (hidT s0.heap T) := ⟨inT, nsT hns, ⟨mb, nsT hb, hbb⟩, let ⟨mc, y1, y2⟩ := hlim; ⟨mc, nsT y1, y2⟩⟩
    have env : Env0 P w K mg (hidT s0.heap T) callerA [] s0 T := ⟨rfl, md, fun c u e => of_hidT e, Nat.le_of_eq (hidT_size _ _), trivial, fun c hc => absurd (show c ∈ ([] : List Addr) from hc) (by simp), okT, .of_eq hg⟩
    refine codeAny_mono ((F _ inT (nsT hns)).go callerA rfl hr [] s0 T ⟨[.ref a], []⟩ [.ref a] [.ref a] _ _ env (hbind s0 (.ref a)) (.cons rfl .nil) (hsp T oT sT)) fun r z h => ?_
    cases r with
    | error e => exact h.elim
    | ok fl =>
      cases fl with
      | next => exact h.elim
      | brk => exact h.elim
      | cont => exact h.elim
      | ret u =>
        obtain ⟨v, T', os, bare, unt, okT', rv, q⟩ := h
        have qq : v = .bl true := q
        subst qq
        obtain rfl : u = Value.bool true := rv
        refine ⟨rfl, OldK.of_keep fun c y e => ?_, os, bare⟩
        cases qc : T c with
        | none => exact unt.keep c y e qc (fun z => absurd (show c ∈ ([] : List Addr) from z) (by simp)) (by simp)
        | some y2 =>
          rcases oT c with z1 | ⟨ob, xs, z1⟩
          · rw [qc] at z1; cases z1
          · obtain ⟨w1, _⟩ := okT c _ z1
            obtain ⟨w2, _⟩ := okT' c _ (unt.frzs c ob _ z1)
            rw [e] at w1; cases w1
            exact w2
  cases hk : K.lookup a with
  | some u =>
    have e := KX a u hk
    rw [ha] at e
    cases e
    exact main (fun _ => none) (fun _ => Or.inl rfl) (Or.inr ⟨_, vs.toArray, _, hk, rfl, rfl, rfl, by rw [List.size_toArray, ln]; exact hl, by simpa using rel⟩) (fun c y z => by cases z) (fun c z => absurd rfl z) (fun z => absurd rfl z)
  | none =>
    have e1 : ∀ c, c ≠ a → (if c = a then some (HO.frz { cls := .type "list", data := .seq vs.toArray } (.lst (ns.map V.int))) else none) = none := fun c hc => if_neg hc
    refine main (fun c => if c = a then some (.frz { cls := .type "list", data := .seq vs.toArray } (.lst (ns.map V.int))) else none) (fun c => ?_) (Or.inl (Or.inr ⟨_, if_pos rfl⟩)) (fun c y z => ?_) (fun c z => ?_) fun _ => hk
    · by_cases hc : c = a
      · exact Or.inr ⟨_, _, if_pos hc⟩
      · exact Or.inl (e1 c hc)
    · by_cases hc : c = a
      · have z2 := (if_pos hc).symm.trans z
        cases z2
        subst hc
        exact ⟨ha, by rw [List.length_map]; exact hl, vs, _, rel, ha⟩
      · have z2 := (e1 c hc).symm.trans z
        cases z2
    · by_cases hc : c = a
      · exact hc
      · exact absurd (e1 c hc) z
theorem walk_ofG {l : PySem.W.OpenLaw} {n k : Nat} {q : Program} {loose : List Str} {XP : (Str → Option Value) → Heap → Prop} {YP : World → Heap → Prop} {d : DefRec} {x : Str}
    (most : l.most = some n) (most2 : n ≤ sizeLine) (dfl : d.params.defaults = []) (hr : Room k callerA)
    (F : ∀ (w : World) (mg : Str → Option Value) (fa : Addr) (h : Heap), YP w h → h.Ns mainGlobals mg → mg d.name = some (.ref fa) →
      ∃ (K : PySem.W.Frag) (fd : FuncData) (sp : Sp), K.In h ∧ (∀ (s : Shared) (u : Value), BindsTo s fd ⟨[u], []⟩ [(x, u)]) ∧
        (∀ (T : Hp) (a : Addr) (ns : List Int), ns.length ≤ n → Only T → SqL K T a (ns.map V.int) → sp [.ref a] T (fun v _ => v = .bl true) fun _ _ _ => False) ∧
        ∀ base : Heap, K.In base → base.Ns mainGlobals mg → FnG l.prog w K mg base k fa fd [x] sp) : PySem.W.WalkO q loose XP YP l.row.toRowW d [] (fun f vs => PySem.call f vs) := by
  refine Att.attach_call most dfl fun w s₀ s₁ mg mb fa o pm cd doc a vs ns G Y ho hd hcd hmg hobj hints hlen hg => ?_
  obtain ⟨K, fd, sp, KX, hb, hsp, hF⟩ := F w mg fa _ Y G.T.g hmg
  exact law_callG KX G.T.g G.T.b G.T.builtins G.T.nolimit hg hobj hints (Nat.le_trans hlen most2) hr hF hb fun T oT sT => hsp T a ns hlen oT sT

section
variable {P : Program} {w : World} {K : PySem.W.Frag} {mg : Str → Option Value} {base : Heap}
theorem ok_lawG {x : Str} {s0 : Stmt} {rest : List Stmt} {st : Stmt} {f : Addr} {fd : FuncData} {N : List Str} {p : Str} {k i : Nat} (F : Fn K x x st f fd) (S : FnScope N [p] (defScope st)) (hi : 0 < i) (hb : defBody st = s0 :: rest)
    (body : ∃ t : Addr → PSx Nat, (∀ (cdv : Value) (A : Around) (outer : List Env) (s : Shared) (H : Hp) (E : XK), Room k (A.deeper (envOfC x (defScope st) s.heap.objs.size f cdv)) → (A.deeper (envOfC x (defScope st) s.heap.objs.size f cdv)).guards = some [] →
      PS (cxOf CX0 P w K mg base N x (defScope st) f cdv A outer s H E).nox s0 (tAsg (tCall (spDraws K) [] E0 (tCons (tVar 0) tNil)) (gName i)) ∧
      ∀ r c q, QSs (cxOf CX0 P w K mg base N x (defScope st) f cdv A outer s H E).nox (gr K r c q) rest (t r)) ∧
      ∀ r, t r { nx := fun _ => False, rt := fun d _ => d = .bl true } ⟨(List.replicate N.length none).set i (some (.val (.obj r))), 0⟩) : FnG P w K mg base (k + 1) f fd [p] (spLaw K) := by
  obtain ⟨t, hd, hp⟩ := body
  refine F.okGd S (fun vs H Q E h => ?_) (fun cdv A outer s H vs Q E gd hr h => ?_)
  · obtain ⟨a, ns, rfl, _⟩ := h; rfl
  · obtain ⟨d0, d1⟩ := hd cdv A outer s H E hr gd
    obtain ⟨a, ns, rfl, hs, hl, q⟩ := h
    rw [hb]
    have dd : PSs (cxOf CX0 P w K mg base N x (defScope st) f cdv A outer s H E).nox rest (fun De σ H' => ∃ r c q', lS (gr K r c q') (t r) De σ H') := ⟨fun pins s1 σ H1 De I ⟨r, c, q', h⟩ => (d1 r c q').run pins s1 σ H1 De I h⟩
    refine ⟨_, pss_cons d0 dd, ?_⟩
    have hN : 0 < N.length := by have := congrArg List.length S.pre; rw [List.length_take] at this; simp at this; omega
    refine ⟨.ref a, ?_, a, ns, rfl, hs, hl, fun r c q' H' k1 hr1 hc1 hq1 J => ?_⟩
    · show (L2.start N [V.ref a])[0]? = _
      rfl
    · refine ⟨r, c, q', ⟨fun _ => none, fun _ => False, fun _ h => h.elim⟩, fun _ => none, _, _, ?_, hp r, ?_, ?_, ?_, ?_⟩
      · have hlen : (L2.start N [V.ref a]).length = N.length := by unfold L2.start; simp; omega
        have at_i : ∀ (j : Nat) l, ((List.replicate N.length (none : Option L)).set i (some (.val (.obj r))))[j]? = some (some l) → j = i ∧ l = .val (.obj r) ∧ i < N.length := fun j l e => by
          by_cases hji : i = j
          · subst hji
            have hl' : i < (List.replicate N.length (none : Option L)).length := by
              have := (List.getElem?_eq_some_iff.mp e).1
              simpa using this
            rw [List.getElem?_set_self hl'] at e
            cases e
            exact ⟨rfl, rfl, by simpa using hl'⟩
          · rw [List.getElem?_set_ne hji, List.getElem?_replicate] at e
            split at e <;> cases e
        refine ⟨fun _ _ h => (by cases h), fun _ _ h => (by cases h), fun _ _ => rfl, by simp [hlen], fun j d e => ?_, fun j ds e => ?_, fun j j2 ds es b _ e _ => ?_, J, fun _ _ => rfl, fun _ _ => rfl, fun _ _ h => (by cases h)⟩
        · obtain ⟨rfl, e2, hl'⟩ := at_i j _ e
          cases e2
          exact ⟨.ref r, by rw [List.getElem?_set_self (by rw [hlen]; exact hl')], rfl⟩
        · obtain ⟨_, e2, _⟩ := at_i j _ e; cases e2
        · obtain ⟨_, e2, _⟩ := at_i j _ e; cases e2
      · intro s' Z' σ' H2 h; exact h.elim
      · intro d s' Z' σ' v H2 h _ _ a'
        have h' : d = .bl true := h
        subst h'
        have e : v = .bl true := a'
        rw [e]; exact q _
      · intro s' Z' σ' H2 h; exact h.elim
      · intro s' Z' σ' H2 h; exact h.elim
end
def rprD : D → DK → Prop := fun d R => (match d with | .lst _ => True | .tup _ => True | _ => False) ∧ (d.pln = true ∧ d.py.showable = true ∧ d.dep ≤ 60 ∧ d.py.hasDict = false ∧ d.py.shown.length ≤ sizeLine) ∧ R (.str d.py.shown)
theorem c_repr {X : Cx} {k : Nat} (hr : Room k X.A) (hg : X.A.guards = some []) : CallR X (.builtin "repr") (dCall X.K (fn1 rprD)) := c1 fun pins s σ H Z d v us Q R I r q a w hq => by
  obtain ⟨w1, ⟨p1, p2, p3, p4, p5⟩, w3⟩ := w
  obtain ⟨u, rfl, ru⟩ : ∃ u, us = [u] ∧ RelV v u := by
    cases r with
    | cons r1 r2 => cases r2; exact ⟨_, rfl, r1⟩
  obtain ⟨as, rd⟩ := Dp.reads I d.py v u (At.dp q d v a p1) ru
  have hv : ∃ b, u = .ref b := by
    cases d <;> first | exact w1.elim | (simp only [At] at a; obtain ⟨b, vs, rfl, _⟩ := a; cases ru; exact ⟨b, rfl⟩)
  obtain ⟨b, rfl⟩ := hv
  have un := hr.un
  refine repr_of_reads' rd p2 (fun z => by rw [p4] at z; cases z) hg (by rw [dep_py _ p1]; omega) (fun _ _ z => z) (fun h' u tk kp => ?_) p5
  exact ⟨.str _, H, I.kept (t' := tk) kp, ⟨u, rfl⟩, dk hq q w3 rfl⟩
section
variable {γ : Type} {P : Program} {w : World} {K : PySem.W.Frag} {mg : Str → Option Value} {base : Heap}
structure DefS (X : Cx) (x : Str) (n : Nat) (sp : Sp) : Prop where
  ex : ∃ f fd k ps, FnG X.prog X.w X.K X.mg X.base k f fd ps sp ∧ X.A.guards = some [] ∧ Room k X.A ∧ X.mg x = some (.ref f) ∧ PySem.W.keepIn X.K (.ref f) = true ∧ Binds X.K fd ps [] ∧ ps.length = n
def GloS (P : Program) (w : World) (K : PySem.W.Frag) (mg : Str → Option Value) (base : Heap) (x : Str) (n : Nat) (sp : Sp) (k : Nat) : Prop :=
  ∃ f fd ps, FnG P w K mg base k f fd ps sp ∧ mg x = some (.ref f) ∧ PySem.W.keepIn K (.ref f) = true ∧ Binds K fd ps [] ∧ ps.length = n
theorem GloS.at {X : Cx} {x : Str} {n : Nat} {sp : Sp} {j k : Nat} (g : GloS X.prog X.w X.K X.mg X.base x n sp j) (hr : Room k X.A) (gd : X.A.guards = some []) (h : j ≤ k := by decide) : DefS X x n sp := by
  obtain ⟨f, fd, ps, F, m, kp, b, e⟩ := g
  exact ⟨f, fd, k, ps, F.mono h, gd, hr, m, kp, b, e⟩
theorem pe_callS {X : Cx} {x : Str} {n : Nat} {sp : Sp} {e : Expr} {es : List Expr} {ta : TA} {p pos : Pos} (d : DefS X x n sp) (hg : Gl X x) (ha : PA X (e :: es) ta) (hdb : (x == ("__debug__" : Str)) = false := by decide) (he : starEach (e :: es) X.env = (false, eval e X.env) :: starEach es X.env := by rfl) (hpl : (backTo pos (starEach es X.env)).any (·.1) = false := by rfl) :
    PE X (.Call (.Name x p) (e :: es) [] pos) (tCall sp [] E0 ta) := by
  obtain ⟨f, fd, k, ps, F, gd, hr, hm, hk, hb, _⟩ := d.ex
  refine ⟨fun pins s σ H Q I hw => wpAny_Call_Name_kw (ld_glob I hg hm (PySem.W.callWith_K (h₀ := X.base) I.ok.mod.kin hk (thn (ha.run pos pins s σ H _ I hw) fun us s1 ⟨vs, H1, I1, rv, q⟩ => ⟨I1.kIn, ?_⟩) he hpl) hdb)⟩
  have q : sp vs H1 Q E0 := by
    have q' : sp (vs ++ []) H1 Q E0 := q
    rw [List.append_nil] at q'; exact q'
  have ln : us.length = ps.length := by rw [← rv.length]; exact F.len _ _ _ _ q
  have bd := hb s1 us I1.kIn (by rw [List.append_nil]; exact ln)
  rw [List.append_nil] at bd
  refine wpAny_call (codeAny_mono (F.go X.A gd hr X.stack s1 H1 ⟨us, []⟩ us vs Q E0 I1.env0 bd rv q) fun fl s2 z => ?_)
  cases fl with
  | error e => exact pass0 pins σ H1 s1 e s2 I1 z
  | ok fl =>
    cases fl with
    | ret u => exact I1.after z
    | next => exact z.elim
    | brk => exact z.elim
    | cont => exact z.elim
theorem qe_callGS {X : Cx} {G : GP γ} {x : Str} {n : Nat} {f : Spec γ} {e : Expr} {es : List Expr} {t : PAx γ} {p pos : Pos} (d : DefS X x n (spG G f)) (hg : Gl X x) (ha : QA X G (e :: es) t) (hdb : (x == ("__debug__" : Str)) = false := by decide) (he : starEach (e :: es) X.env = (false, eval e X.env) :: starEach es X.env := by rfl) (hpl : (backTo pos (starEach es X.env)).any (·.1) = false := by rfl) :
    QE X G (.Call (.Name x p) (e :: es) [] pos) (qCallG f t) := PE.imp (pe_callS d hg ha hdb he hpl) fun _ _ _ h => lcallG h
theorem qe_callPS {X : Cx} {G : GP γ} {x : Str} {n : Nat} {f : Spec0} {e : Expr} {es : List Expr} {t : PAx γ} {p pos : Pos} (d : DefS X x n (spP G.K f)) (hg : Gl X x) (ha : QA X G (e :: es) t) (hdb : (x == ("__debug__" : Str)) = false := by decide) (he : starEach (e :: es) X.env = (false, eval e X.env) :: starEach es X.env := by rfl) (hpl : (backTo pos (starEach es X.env)).any (·.1) = false := by rfl) :
    QE X G (.Call (.Name x p) (e :: es) [] pos) (qCallP f t) := PE.imp (pe_callS d hg ha hdb he hpl) fun _ _ _ h => lcallP h
theorem okGS {G : GP γ} (hK : G.K = K) {x qual : Str} {st : Stmt} {f : Addr} {fd : FuncData} {N ps : List Str} {k : Nat} (F : Fn K x qual st f fd) (S : FnScope N ps (defScope st)) {fs : Spec γ} (len : ∀ ds g R, fs ds g R → ds.length = ps.length)
    (body : ∃ t : PSx γ, (∀ (cdv : Value) (A : Around) (outer : List Env) (s : Shared) (H : Hp) (E : XK), Room k (A.deeper (envOfC qual (defScope st) s.heap.objs.size f cdv)) → (A.deeper (envOfC qual (defScope st) s.heap.objs.size f cdv)).guards = some [] →
      QSs (cxOf CX0 P w K mg base N qual (defScope st) f cdv A outer s H E).nox G (defBody st) t) ∧ ∀ ds g R, fs ds g R → t { nx := fun s => R .non s.g, rt := R } ⟨startL N.length ds, g⟩)
    (grow : ∀ g g' : γ, ∀ a, G.foot g' a → G.foot g a) (hfl : ∀ a, G.fl a = none := by intro _; rfl) : FnG P w K mg base (k + 1) f fd ps (spG G fs) := by
  subst hK
  refine F.okGd S (fun vs H Q E h => ?_) (fun cdv A outer s H vs Q E gd hr h => ?_)
  · obtain ⟨Z, ds, g, R, _, a, _, _, h, _⟩ := h
    rw [a.len]; exact len _ _ _ h
  · obtain ⟨t, hb, hp⟩ := body
    exact ⟨_, hb cdv A outer s H E hr gd, liftG (ps := ps) (by have := congrArg List.length S.pre; rw [List.length_take] at this; omega) len hp grow hfl h⟩
end
end Pm

set_option Elab.async false
set_option linter.all false
set_option maxRecDepth 100000
set_option maxHeartbeats 1000000
set_option autoImplicit false
namespace Pm
open PySem PySem.Spec
open PyProof.Rows hiding St
open L2
mutual
def D.wid : D → Nat
  | .non => 8
  | .bl _ => 8
  | .int _ => 2000
  | .str x => 10 * x.length + 8
  | .lst xs => D.wids xs + 8
  | .tup xs => D.wids xs + 8
  | .dct _ _ => 8
  | .obj _ => 8
def D.wids : List D → Nat
  | [] => 0
  | d :: ds => d.wid + 8 + D.wids ds
end
theorem D.wid_pos (d : D) : 8 ≤ d.wid := by cases d <;> simp only [D.wid] <;> omega
theorem D.wids_len : ∀ ds : List D, 16 * ds.length ≤ D.wids ds
  | [] => Nat.zero_le _
  | d :: ds => by
    have h := D.wids_len ds
    have := d.wid_pos
    simp only [D.wids, List.length_cons]; omega
theorem D.wids_mem : ∀ {ds : List D} {d : D}, d ∈ ds → d.wid ≤ D.wids ds
  | e :: ds, d, h => by
    rcases List.mem_cons.mp h with rfl | h
    · simp only [D.wids]; omega
    · have := D.wids_mem h
      simp only [D.wids]; omega
theorem D.plns_mem : ∀ {ds : List D} {d : D}, D.plns ds = true → d ∈ ds → d.pln = true
  | e :: ds, d, k, h => by
    simp only [D.plns, Bool.and_eq_true] at k
    rcases List.mem_cons.mp h with rfl | h
    · exact k.1
    · exact D.plns_mem k.2 h
theorem D.deps_mem : ∀ {ds : List D} {d : D}, d ∈ ds → d.dep ≤ D.deps ds
  | e :: ds, d, h => by
    rcases List.mem_cons.mp h with rfl | h
    · simp only [D.deps]; omega
    · have := D.deps_mem h
      simp only [D.deps]; omega
mutual
theorem eqv_refl : ∀ d : D, d.pln = true → D.eqv d d = true
  | .non, _ => rfl
  | .bl b, _ => by simp [D.eqv]
  | .int i, _ => by simp [D.eqv]
  | .str x, _ => by simp [D.eqv]
  | .lst xs, h => by
    simp only [D.eqv]
    exact eqvs_refl xs (by simpa [D.pln] using h)
  | .tup xs, h => by
    simp only [D.eqv]
    exact eqvs_refl xs (by simpa [D.pln] using h)
  | .dct _ _, h => by simp [D.pln] at h
  | .obj _, h => by simp [D.pln] at h
theorem eqvs_refl : ∀ ds : List D, D.plns ds = true → D.eqvs ds ds = true
  | [], _ => rfl
  | d :: ds, h => by
    simp only [D.plns, Bool.and_eq_true] at h
    simp only [D.eqvs, eqv_refl d h.1, eqvs_refl ds h.2, Bool.and_self]
end
theorem pln_obj {d : D} (h : d.pln = true) : ∀ p, d ≠ .obj p := fun p e => by subst e; simp [D.pln] at h
theorem isTy_tup (d : D) : isTy "tuple" d = match d with | .tup _ => true | _ => false := by cases d <;> rfl
theorem isTy_lst (d : D) : isTy "list" d = match d with | .lst _ => true | _ => false := by cases d <;> rfl
theorem isTy_bl (d : D) : isTy "bool" d = match d with | .bl _ => true | _ => false := by cases d <;> rfl
theorem isTy_int (d : D) : isTy "int" d = match d with | .int _ => true | .bl _ => true | _ => false := by cases d <;> rfl
theorem isTy_str (d : D) : isTy "str" d = match d with | .str _ => true | _ => false := by cases d <;> rfl
theorem zip_self {xs : List D} {i : Nat} {d : D} (h : (zipD xs xs)[i]? = some d) : ∃ x, xs[i]? = some x ∧ x ∈ xs ∧ d = .tup [x, x] := by
  obtain ⟨x, y, h1, h2, rfl⟩ := zipD_get h
  rw [h1] at h2; cases h2
  exact ⟨x, h1, List.mem_of_getElem? h1, rfl⟩
theorem all_trues (n : Nat) : ((List.replicate n true).all id) = true := by simp
theorem bls_trues (n : Nat) : asBls (List.replicate n (D.bl true)) = some (List.replicate n true) := by
  rw [← List.map_replicate]; exact asBls_map _
theorem eq_no {d : D} (p : d.pln = true) (hc : D.eqv d d = false) : False := by rw [eqv_refl d p] at hc; cases hc
theorem ne_no {d : D} (p : d.pln = true) (hc : (!D.eqv d d) = true) : False := by rw [eqv_refl d p] at hc; cases hc

theorem wipeL_get (ρ : List (Option L)) : ∀ (vs : List Nat) (i : Nat), (wipeL ρ vs)[i]? = if i ∈ vs ∧ i < ρ.length then some none else ρ[i]?
  | [], i => by simp [wipeL]
  | v :: vs, i => by
    unfold wipeL
    have ih := wipeL_get ρ vs i
    have ln := wipeL_length ρ vs
    rw [List.getElem?_set, ih, ln]
    by_cases h : v = i
    · subst h
      by_cases h2 : v < ρ.length
      · simp [h2]
      · simp [h2]
    · have : i ≠ v := fun e => h e.symm
      simp [h, this]
mutual
theorem put_out : ∀ {t : Tg} {d : D} {ρ ρ' : List (Option L)}, t.put d ρ = some ρ' → ρ'.length = ρ.length ∧ ∀ i, i ∉ t.js → ρ'[i]? = ρ[i]?
  | .nm j, d, ρ, ρ', h => by
    simp only [Tg.put, Option.some.injEq] at h
    subst h
    exact ⟨by simp, fun i hi => List.getElem?_set_ne (by simpa [Tg.js, eq_comm] using hi)⟩
  | .tp ts, d, ρ, ρ', h => by
    cases d with
    | tup ds =>
      simp only [Tg.put] at h
      exact puts_out h
    | lst ds =>
      simp only [Tg.put] at h
      exact puts_out h
    | _ => simp [Tg.put] at h
theorem puts_out : ∀ {ts : List Tg} {ds : List D} {ρ ρ' : List (Option L)}, Tg.puts ts ds ρ = some ρ' → ρ'.length = ρ.length ∧ ∀ i, i ∉ Tg.jss ts → ρ'[i]? = ρ[i]?
  | [], [], ρ, ρ', h => by
    simp only [Tg.puts, Option.some.injEq] at h
    subst h
    exact ⟨rfl, fun _ _ => rfl⟩
  | [], _ :: _, _, _, h => by simp [Tg.puts] at h
  | _ :: _, [], _, _, h => by simp [Tg.puts] at h
  | t :: ts, d :: ds, ρ, ρ', h => by
    simp only [Tg.puts] at h
    cases hp : t.put d ρ with
    | none => rw [hp] at h; simp at h
    | some ρ1 =>
      rw [hp] at h
      simp only [Option.bind_some] at h
      obtain ⟨a1, a2⟩ := put_out hp
      obtain ⟨b1, b2⟩ := puts_out h
      refine ⟨b1.trans a1, fun i hi => ?_⟩
      simp only [Tg.jss, List.mem_append, not_or] at hi
      rw [b2 i hi.2, a2 i hi.1]
end
theorem put_wipe {t : Tg} {d : D} {ρ ρ' : List (Option L)} {vs : List Nat} (h : t.put d (wipeL ρ vs) = some ρ') (hj : ∀ j ∈ t.js, j ∈ vs) : wipeL ρ' vs = wipeL ρ vs := by
  obtain ⟨a1, a2⟩ := put_out h
  rw [wipeL_length] at a1
  refine List.ext_getElem? fun i => ?_
  rw [wipeL_get, wipeL_get, a1]
  by_cases hi : i ∈ vs
  · by_cases hl : i < ρ.length
    · simp [hi, hl]
    · simp only [hl, and_false, if_false]
      rw [List.getElem?_eq_none (by omega), List.getElem?_eq_none (by omega)]
  · simp only [hi, false_and, if_false]
    rw [a2 i fun e => hi (hj i e), wipeL_get]
    simp [hi]
section
variable {γ : Type}
theorem lc_run {tg : Tg} {vs : List Nat} {tt : PTx γ} {te : PEx γ} {R : List D → S γ → Prop} {ds : List D} {s1 : S γ} (f : D → Option D) (hn : ds.length ≤ 1000000) (hj : ∀ j ∈ tg.js, j ∈ vs)
    (step : ∀ d, d ∈ ds → ∃ ρ' b, tg.put d (wipeL s1.ρ vs) = some ρ' ∧ (∀ T : Bool → S γ → Prop, T b ⟨ρ', s1.g⟩ → tt ⟨ρ', s1.g⟩ T) ∧ (b = false → f d = none) ∧ (b = true → ∃ y, f d = some y ∧ ∀ T : D → S γ → Prop, T y ⟨ρ', s1.g⟩ → te ⟨ρ', s1.g⟩ T))
    (fin : R (ds.filterMap f) (s1.back vs (s1.wipe vs))) : lcB tg vs tt te R ds s1 := by
  have line := sizeLine_eq
  refine ⟨fun i acc s => i ≤ ds.length ∧ acc = (ds.take i).filterMap f ∧ s = s1.wipe vs, ⟨_, Wk.refl _, Nat.zero_le _, by simp, rfl⟩, ?_, ?_⟩
  · rintro i d acc s hd ⟨hi, rfl, rfl⟩
    have il := (List.getElem?_eq_some_iff.mp hd).1
    obtain ⟨ρ', b, h1, h2, h3, h4⟩ := step d (List.mem_of_getElem? hd)
    have hw : (⟨wipeL ρ' vs, s1.g⟩ : S γ) = s1.wipe vs := by rw [put_wipe h1 hj]; rfl
    have ht : (ds.take (i + 1)).filterMap f = (ds.take i).filterMap f ++ (f d).toList := by
      rw [List.take_add_one, hd, List.filterMap_append]
      cases q : f d <;> simp [q]
    have h1' : tg.put d (s1.wipe vs).ρ = some ρ' := h1
    unfold qPut
    rw [h1']
    refine h2 _ ⟨fun hb => ?_, fun hb => ?_⟩
    · obtain ⟨y, e1, e2⟩ := h4 hb
      refine e2 _ ⟨?_, s1.wipe vs, ?_, by omega, ?_, rfl⟩
      · have := List.length_filterMap_le f (ds.take i)
        rw [List.length_take] at this
        omega
      · rw [← hw]; exact Wk.refl _
      · rw [ht, e1]; rfl
    · refine ⟨s1.wipe vs, ?_, by omega, ?_, rfl⟩
      · rw [← hw]; exact Wk.refl _
      · rw [ht, h3 hb]; simp
  · rintro acc s ⟨_, rfl, rfl⟩
    rw [List.take_of_length_le (Nat.le_refl _)]
    exact fin
theorem fm_map {α : Type} (g : α → D) (h : α → D) (f : D → Option D) (l : List α) (e : ∀ a ∈ l, f (g a) = some (h a)) : (l.map g).filterMap f = l.map h := by
  induction l with
  | nil => rfl
  | cons a l ih =>
    rw [List.map_cons, List.filterMap_cons, e a (by simp), List.map_cons, ih fun b hb => e b (by simp [hb])]
end
theorem listText_len (ts : List Str) : (listText ts).length ≤ piled ts + 2 := by
  cases ts with
  | nil => show 2 ≤ _; omega
  | cons t r =>
    have e1 := textFrom_length_pos r 1 (("[" : Str) ++ (if (0 : Nat) > 0 then ", " else "" : String) ++ t) (Nat.succ_pos 0)
    have e2 : ((("[" : Str) ++ (if (0 : Nat) > 0 then ", " else "" : String) ++ t)).length = 1 + t.length := by rw [strLen_append, strLen_append]; rfl
    have e3 : (listText (t :: r)).length = (textFrom 1 (("[" : Str) ++ (if (0 : Nat) > 0 then ", " else "" : String) ++ t) r).length + 1 := by
      show (textFrom 0 "[" (t :: r) ++ "]").length = _
      rw [strLen_append]; rfl
    rw [e3, e1, e2, piled_cons]; omega
theorem tupleText_len (ts : List Str) : (tupleText ts).length ≤ piled ts + 3 := by
  have e0 : (Str.join ", " ts).length ≤ piled ts := by
    by_cases h : ts = []
    · subst h; exact Nat.le_refl _
    · have := join_length_add ts h; omega
  have e1 : ((("(" : String) : Str)).length = 1 := rfl
  have e2 : (((if ts.length == 1 then ",)" else ")" : String) : Str)).length ≤ 2 := by split <;> decide
  unfold tupleText
  rw [strLen_append, strLen_append, e1]; omega
mutual
theorem shown_wid : ∀ d : D, d.pln = true → d.py.showable = true → d.py.shown.length ≤ d.wid
  | .non, _, _ => by show (4 : Nat) ≤ 8; decide
  | .bl b, _, _ => by cases b <;> (show (_ : Nat) ≤ 8; decide)
  | .int i, _, h => by
    have h' : i.natAbs.log2 < 1920 := of_decide_eq_true h
    have := int_text_length_le (k := 1920) (by decide) h'
    show (Str.ofString (toString i)).length ≤ 2000
    rw [PySem.ofString_length]; omega
  | .str x, h, _ => by
    have h' : PyData.strOk x = true := h
    show (reprText x).length ≤ 10 * x.length + 8
    have := StrLaws.reprText_len x fun c hc => by
      unfold PyData.strOk at h'
      have := Array.all_eq_true_iff_forall_mem.mp h' c (by simpa using hc)
      have := of_decide_eq_true this
      omega
    omega
  | .lst xs, h, k => by
    show (listText (PyData.shownAll (D.pys xs))).length ≤ D.wids xs + 8
    have h1 := listText_len (PyData.shownAll (D.pys xs))
    have h2 := showns_wid xs (by simpa [D.pln] using h) k
    omega
  | .tup xs, h, k => by
    show (tupleText (PyData.shownAll (D.pys xs))).length ≤ D.wids xs + 8
    have h1 := tupleText_len (PyData.shownAll (D.pys xs))
    have h2 := showns_wid xs (by simpa [D.pln] using h) k
    omega
  | .dct _ _, h, _ => by simp [D.pln] at h
  | .obj _, h, _ => by simp [D.pln] at h
theorem showns_wid : ∀ ds : List D, D.plns ds = true → PyData.showableAll (D.pys ds) = true → piled (PyData.shownAll (D.pys ds)) ≤ D.wids ds
  | [], _, _ => Nat.le_refl _
  | d :: ds, h, k => by
    simp only [D.plns, Bool.and_eq_true] at h
    have k' : (d.py.showable && PyData.showableAll (D.pys ds)) = true := k
    rw [Bool.and_eq_true] at k'
    have h1 := shown_wid d h.1 k'.1
    have h2 := showns_wid ds h.2 k'.2
    show piled (d.py.shown :: PyData.shownAll (D.pys ds)) ≤ d.wid + 8 + D.wids ds
    rw [piled_cons]; omega
end
mutual
theorem noDict : ∀ d : D, d.pln = true → d.py.hasDict = false
  | .non, _ => rfl
  | .bl _, _ => rfl
  | .int _, _ => rfl
  | .str _, _ => rfl
  | .lst xs, h => noDicts xs (by simpa [D.pln] using h)
  | .tup xs, h => noDicts xs (by simpa [D.pln] using h)
  | .dct _ _, h => by simp [D.pln] at h
  | .obj _, h => by simp [D.pln] at h
theorem noDicts : ∀ ds : List D, D.plns ds = true → PyData.hasDictAll (D.pys ds) = false
  | [], _ => rfl
  | d :: ds, h => by
    simp only [D.plns, Bool.and_eq_true] at h
    show (d.py.hasDict || PyData.hasDictAll (D.pys ds)) = false
    rw [noDict d h.1, noDicts ds h.2]; rfl
end
def ShOk (d : D) : Prop := d.pln = true ∧ d.py.showable = true ∧ d.dep ≤ 60 ∧ d.wid ≤ 10000000
theorem line_big : (10000000 : Nat) ≤ sizeLine := by rw [sizeLine_eq]; decide
theorem ShOk.go {d : D} (h : ShOk d) : d.pln = true ∧ d.py.showable = true ∧ d.dep ≤ 60 ∧ d.py.hasDict = false ∧ d.py.shown.length ≤ sizeLine :=
  ⟨h.1, h.2.1, h.2.2.1, noDict d h.1, Nat.le_trans (shown_wid d h.1 h.2.1) (Nat.le_trans h.2.2.2 line_big)⟩
theorem frD_show {x : Rat} {b : Nat} (h : SzR b x) (hb : b ≤ 1920 := by decide) (h0 : 0 < b := by decide) : (frD x).py.showable = true := by
  show (decide (x.num.natAbs.log2 < 1920) && (decide ((x.den : Int).natAbs.log2 < 1920) && true)) = true
  have h1 := (h.1.le hb).log (by decide)
  have h2 := (h.2.le hb).log (by decide)
  rw [decide_eq_true h1, decide_eq_true h2]; rfl
end Pm

set_option Elab.async false
set_option linter.all false
set_option maxRecDepth 100000
set_option maxHeartbeats 1000000
set_option autoImplicit false
namespace Pm
open PySem PySem.Spec
open PyProof.Rows hiding St
open L2
def itD (q : Int × Int) : D := .tup [.int q.1, .int q.2]
structure Pan where
  its : List (Int × Int)
  rus : List (Int × Int)
def panD (p : Pan) : D := .tup [.tup (p.its.map itD), .tup (p.rus.map itD)]
def ItOk (q : Int × Int) : Prop := -(10 ^ 9) ≤ q.1 ∧ q.1 ≤ 10 ^ 9 ∧ 1 ≤ q.2 ∧ q.2 ≤ 10 ^ 6
def RuOk (n : Nat) (q : Int × Int) : Prop := 0 ≤ q.1 ∧ q.1 < n ∧ 0 ≤ q.2 ∧ q.2 < n ∧ q.1 ≠ q.2
structure PanOk (most : Nat) (p : Pan) : Prop where
  one : 1 ≤ p.its.length
  top : p.its.length ≤ most
  it : ∀ q ∈ p.its, ItOk q
  few : p.rus.length ≤ 16
  ru : ∀ q ∈ p.rus, RuOk p.its.length q
theorem its_pln (l : List (Int × Int)) : D.plns (l.map itD) = true := by
  induction l with
  | nil => rfl
  | cons q l ih => simp only [List.map_cons, D.plns, ih]; rfl
theorem its_dep (l : List (Int × Int)) : D.deps (l.map itD) ≤ 1 := by
  induction l with
  | nil => exact Nat.zero_le _
  | cons q l ih =>
    simp only [List.map_cons, D.deps]
    have : (itD q).dep = 1 := by simp [itD, D.dep, D.deps]
    omega
theorem its_wid (l : List (Int × Int)) : D.wids (l.map itD) = 4032 * l.length := by
  induction l with
  | nil => rfl
  | cons q l ih =>
    simp only [List.map_cons, D.wids, ih, List.length_cons]
    have : (itD q).wid = 4024 := by simp [itD, D.wid, D.wids]
    omega
theorem small_show {i : Int} (h1 : -(10 ^ 100) ≤ i) (h2 : i ≤ 10 ^ 100) : (D.int i).py.showable = true := by
  have h : i.natAbs < 2 ^ 400 := by
    have : (10 : Int) ^ 100 < 2 ^ 400 := by decide
    omega
  exact decide_eq_true (Nat.lt_trans (PySem.Flt.log2_lt_of (by decide) h) (by decide))
theorem its_show (l : List (Int × Int)) (h : ∀ q ∈ l, (-(10 ^ 9) ≤ q.1 ∧ q.1 ≤ 10 ^ 9) ∧ -(10 ^ 9) ≤ q.2 ∧ q.2 ≤ 10 ^ 9) : PyData.showableAll (D.pys (l.map itD)) = true := by
  induction l with
  | nil => rfl
  | cons q l ih =>
    have hq := h q (by simp)
    have a := small_show (i := q.1) (by omega) (by omega)
    have b := small_show (i := q.2) (by omega) (by omega)
    have c := ih fun z hz => h z (by simp [hz])
    show (((D.int q.1).py.showable && ((D.int q.2).py.showable && true)) && PyData.showableAll (D.pys (l.map itD))) = true
    rw [a, b, c]; rfl
theorem PanOk.its9 {m : Nat} {p : Pan} (h : PanOk m p) : ∀ q ∈ p.its, (-(10 ^ 9) ≤ q.1 ∧ q.1 ≤ 10 ^ 9) ∧ -(10 ^ 9) ≤ q.2 ∧ q.2 ≤ 10 ^ 9 := fun q hq => by
  obtain ⟨a, b, c, d⟩ := h.it q hq
  exact ⟨⟨a, b⟩, by omega, by omega⟩
theorem PanOk.rus9 {m : Nat} {p : Pan} (h : PanOk m p) (hm : m ≤ 100) : ∀ q ∈ p.rus, (-(10 ^ 9) ≤ q.1 ∧ q.1 ≤ 10 ^ 9) ∧ -(10 ^ 9) ≤ q.2 ∧ q.2 ≤ 10 ^ 9 := fun q hq => by
  obtain ⟨a, b, c, d, _⟩ := h.ru q hq
  have := h.top
  exact ⟨⟨by omega, by omega⟩, by omega, by omega⟩
theorem panD_ok {m : Nat} {p : Pan} (h : PanOk m p) (hm : m ≤ 100) : (panD p).pln = true ∧ (panD p).py.showable = true ∧ (panD p).dep ≤ 3 ∧ (panD p).wid ≤ 500000 := by
  refine ⟨?_, ?_, ?_, ?_⟩
  · simp [panD, D.pln, D.plns, its_pln]
  · show (PyData.showableAll (D.pys (p.its.map itD)) && (PyData.showableAll (D.pys (p.rus.map itD)) && true)) = true
    rw [its_show _ h.its9, its_show _ (h.rus9 hm)]; rfl
  · have h1 := its_dep p.its
    have h2 := its_dep p.rus
    simp only [panD, D.dep, D.deps]; omega
  · have h1 := h.top
    have h2 := h.few
    simp only [panD, D.wid, D.wids, its_wid]; omega
end Pm

set_option Elab.async false
set_option linter.all false
set_option maxRecDepth 100000
set_option maxHeartbeats 1000000
set_option autoImplicit false
namespace Pm
open PySem PySem.Spec
open PyProof.Rows hiding St
open L2
def cmpI (a b : Int) : Int := if a < b then -1 else if a = b then 0 else 1
theorem divInt_mul {M W : Int} (h : 0 < W) : Rat.divInt M W * (W : Rat) = (M : Rat) := by
  rw [Rat.divInt_eq_div]
  exact Rat.div_mul_cancel (by
    intro e
    have := Rat.intCast_pos.mpr h
    rw [e] at this
    exact Rat.lt_irrefl this)
theorem cross_lt {M W N V : Int} (hW : 0 < W) (hV : 0 < V) : Rat.divInt M W < Rat.divInt N V ↔ M * V < N * W := by
  have pw := Rat.intCast_pos.mpr hW
  have pv := Rat.intCast_pos.mpr hV
  have e1 := divInt_mul (M := M) hW
  have e2 := divInt_mul (M := N) hV
  have pp : (0 : Rat) < W * V := Rat.mul_pos pw pv
  rw [← Rat.mul_lt_mul_right pp]
  have f1 : Rat.divInt M W * ((W : Rat) * V) = ((M * V : Int) : Rat) := by rw [← Rat.mul_assoc, e1, ← Rat.intCast_mul]
  have f2 : Rat.divInt N V * ((W : Rat) * V) = ((N * W : Int) : Rat) := by rw [Rat.mul_comm (W : Rat), ← Rat.mul_assoc, e2, ← Rat.intCast_mul]
  rw [f1, f2, Rat.intCast_lt_intCast]
theorem cross_eq {M W N V : Int} (hW : 0 < W) (hV : 0 < V) : Rat.divInt M W = Rat.divInt N V ↔ M * V = N * W := Rat.divInt_eq_divInt_iff (by omega) (by omega)
theorem cmpR_div {M W N V : Int} (hW : 0 < W) (hV : 0 < V) : cmpR (Rat.divInt M W) (Rat.divInt N V) = cmpI (M * V) (N * W) := by
  unfold cmpR cmpI
  simp only [cross_lt hW hV, cross_eq hW hV]
theorem cmpI_add (a b c : Int) : cmpI (a + c) (b + c) = cmpI a b := by
  unfold cmpI
  have h1 : (a + c < b + c) = (a < b) := by simp
  have h2 : (a + c = b + c) = (a = b) := by simp
  simp only [h1, h2]
def selI (its : List (Int × Int)) (gs : List Nat) : List (Int × Int) := gs.map fun i => its.getD i (0, 1)
def sM (l : List (Int × Int)) : Int := (l.map fun q => q.1 * q.2).sum
def sW (l : List (Int × Int)) : Int := (l.map fun q => q.2).sum
def avg (l : List (Int × Int)) : Rat := Rat.divInt (sM l) (sW l)
theorem sM_cons (q : Int × Int) (l : List (Int × Int)) : sM (q :: l) = q.1 * q.2 + sM l := by simp [sM]
theorem sW_cons (q : Int × Int) (l : List (Int × Int)) : sW (q :: l) = q.2 + sW l := by simp [sW]
theorem sM_append (l k : List (Int × Int)) : sM (l ++ k) = sM l + sM k := by simp [sM]
theorem sW_append (l k : List (Int × Int)) : sW (l ++ k) = sW l + sW k := by simp [sW]
def ItB (q : Int × Int) : Prop := Sz 70 q.1 ∧ Sz 70 q.2 ∧ 1 ≤ q.2
theorem ItOk.b {q : Int × Int} (h : ItOk q) : ItB q := by
  obtain ⟨a, b, c, d⟩ := h
  have : (10 : Int) ^ 9 < 2 ^ 70 := by decide
  have : (10 : Int) ^ 6 < 2 ^ 70 := by decide
  have e : ((2 ^ 70 : Nat) : Int) = 2 ^ 70 := by decide
  exact ⟨by unfold Sz; omega, by unfold Sz; omega, c⟩
theorem sW_ge {l : List (Int × Int)} (h : ∀ q ∈ l, ItB q) : (l.length : Int) ≤ sW l := by
  induction l with
  | nil => simp [sW]
  | cons q l ih =>
    have := ih fun z hz => h z (by simp [hz])
    have := (h q (by simp)).2.2
    rw [sW_cons, List.length_cons]; omega
theorem sW_le {l : List (Int × Int)} (h : ∀ q ∈ l, ItB q) : (sW l).natAbs ≤ l.length * 2 ^ 70 := by
  induction l with
  | nil => simp [sW]
  | cons q l ih =>
    have h1 := ih fun z hz => h z (by simp [hz])
    have h2 := (h q (by simp)).2.1
    unfold Sz at h2
    rw [sW_cons, List.length_cons, Nat.add_mul]; omega
theorem sM_le {l : List (Int × Int)} (h : ∀ q ∈ l, ItB q) : (sM l).natAbs ≤ l.length * 2 ^ 140 := by
  induction l with
  | nil => simp [sM]
  | cons q l ih =>
    have h1 := ih fun z hz => h z (by simp [hz])
    have h2 := (h q (by simp)).1.mul (h q (by simp)).2.1
    unfold Sz at h2
    rw [sM_cons, List.length_cons, Nat.add_mul]; omega
theorem sz_sums {l : List (Int × Int)} (h : ∀ q ∈ l, ItB q) (hn : l.length ≤ 1000) : Sz 150 (sM l) ∧ Sz 150 (sW l) := by
  have h1 := sM_le h
  have h2 := sW_le h
  unfold Sz
  have e1 : l.length * 2 ^ 140 ≤ 1000 * 2 ^ 140 := Nat.mul_le_mul_right _ hn
  have e2 : l.length * 2 ^ 70 ≤ 1000 * 2 ^ 70 := Nat.mul_le_mul_right _ hn
  have e3 : 1000 * 2 ^ 140 < 2 ^ 150 := by decide
  have e4 : 1000 * 2 ^ 70 < 2 ^ 150 := by decide
  omega
theorem avg_sz {l : List (Int × Int)} (h : ∀ q ∈ l, ItB q) (hn : l.length ≤ 1000) (h0 : l ≠ []) : SzR 150 (avg l) := by
  obtain ⟨a, b⟩ := sz_sums h hn
  have h1 := sW_ge h
  have h2 : 0 < l.length := List.length_pos_iff.mpr h0
  exact SzR.divInt a b (by omega)
theorem sW_pos {l : List (Int × Int)} (h : ∀ q ∈ l, ItB q) (h0 : l ≠ []) : 0 < sW l := by
  have h1 := sW_ge h
  have h2 : 0 < l.length := List.length_pos_iff.mpr h0
  omega
def mapI (a t h : Int) (q : Int × Int) : Int × Int := (q.1 * t + a, q.2 * h)
theorem sM_map (a t h : Int) (l : List (Int × Int)) : sM (l.map (mapI a t h)) = t * h * sM l + a * h * sW l := by
  induction l with
  | nil => simp [sM, sW]
  | cons q l ih => rw [List.map_cons, sM_cons, sM_cons, sW_cons, ih]; simp only [mapI]; grind
theorem sW_map (a t h : Int) (l : List (Int × Int)) : sW (l.map (mapI a t h)) = h * sW l := by
  induction l with
  | nil => simp [sW]
  | cons q l ih => rw [List.map_cons, sW_cons, sW_cons, ih]; simp only [mapI]; grind
theorem avg_shift (a : Int) (l : List (Int × Int)) (h : 0 < sW l) : avg (l.map (mapI a 1 1)) = avg l + (a : Rat) := by
  unfold avg
  have e : (a : Rat) = Rat.divInt a 1 := (Rat.num_divInt_den (a : Rat)).symm
  rw [sM_map, sW_map, e, Rat.divInt_add_divInt _ _ (by omega) (by decide)]
  congr 1 <;> grind
theorem avg_times (t : Int) (l : List (Int × Int)) (h : 0 < sW l) : avg (l.map (mapI 0 t 1)) = avg l * (t : Rat) := by
  unfold avg
  have e : (t : Rat) = Rat.divInt t 1 := (Rat.num_divInt_den (t : Rat)).symm
  rw [sM_map, sW_map, e, Rat.divInt_mul_divInt]
  congr 1 <;> grind
theorem avg_heavy (k : Int) (hk : k ≠ 0) (l : List (Int × Int)) : avg (l.map (mapI 0 1 k)) = avg l := by
  unfold avg
  rw [sM_map, sW_map]
  have e : 1 * k * sM l + 0 * k * sW l = k * sM l := by grind
  rw [e, Rat.divInt_mul_left hk]
theorem avg_between {l k : List (Int × Int)} (hl : 0 < sW l) (hk : 0 < sW k) : cmpR (avg l) (avg (l ++ k)) = cmpR (avg l) (avg k) ∧ cmpR (avg (l ++ k)) (avg k) = cmpR (avg l) (avg k) := by
  unfold avg
  rw [sM_append, sW_append, cmpR_div hl (by omega), cmpR_div hl hk, cmpR_div (by omega) hk]
  constructor
  · have e1 : sM l * (sW l + sW k) = sM l * sW k + sM l * sW l := by grind
    have e2 : (sM l + sM k) * sW l = sM k * sW l + sM l * sW l := by grind
    rw [e1, e2, cmpI_add]
  · have e1 : (sM l + sM k) * sW k = sM l * sW k + sM k * sW k := by grind
    have e2 : sM k * (sW l + sW k) = sM k * sW l + sM k * sW k := by grind
    rw [e1, e2, cmpI_add]
theorem sM_perm {l k : List (Int × Int)} (h : l.Perm k) : sM l = sM k := by
  induction h with
  | nil => rfl
  | cons q _ ih => rw [sM_cons, sM_cons, ih]
  | swap a b l => rw [sM_cons, sM_cons, sM_cons, sM_cons]; omega
  | trans _ _ a b => exact a.trans b
theorem sW_perm {l k : List (Int × Int)} (h : l.Perm k) : sW l = sW k := by
  induction h with
  | nil => rfl
  | cons q _ ih => rw [sW_cons, sW_cons, ih]
  | swap a b l => rw [sW_cons, sW_cons, sW_cons, sW_cons]; omega
  | trans _ _ a b => exact a.trans b
def pD (its : List (Int × Int)) (rd : D) : D := .tup [.tup (its.map itD), rd]
def natD (i : Nat) : D := .int i
def grD (gs : List Nat) : D := .tup (gs.map natD)
theorem sel_mem {its : List (Int × Int)} {gs : List Nat} (h : ∀ i ∈ gs, i < its.length) {q : Int × Int} (hq : q ∈ selI its gs) : q ∈ its := by
  obtain ⟨i, hi, rfl⟩ := List.mem_map.mp hq
  have hl := h i hi
  rw [List.getD_eq_getElem?_getD, List.getElem?_eq_getElem hl]
  exact List.getElem_mem hl
theorem getD_at {its : List (Int × Int)} {i : Nat} (h : i < its.length) : its[i]? = some (its.getD i (0, 1)) := by
  rw [List.getD_eq_getElem?_getD, List.getElem?_eq_getElem h]; rfl
theorem idx_it {its : List (Int × Int)} {i : Nat} (h : i < its.length) : idx (its.map itD) (i : Int) = some (itD (its.getD i (0, 1))) := by
  rw [idx_nat', List.getElem?_map, getD_at h]; rfl
theorem sel_map {its : List (Int × Int)} {gs : List Nat} {f : Int × Int → Int × Int} (h : ∀ i ∈ gs, i < its.length) : selI (its.map f) gs = (selI its gs).map f := by
  unfold selI
  rw [List.map_map]
  refine List.map_congr_left fun i hi => ?_
  have hl := h i hi
  simp only [Function.comp, List.getD_eq_getElem?_getD, List.getElem?_map, List.getElem?_eq_getElem hl]
  rfl
theorem sel_ne {its : List (Int × Int)} {gs : List Nat} (h : gs ≠ []) : selI its gs ≠ [] := by
  unfold selI
  intro e
  exact h (List.map_eq_nil_iff.mp e)
def prodF : D → Option D
  | .tup [.int a, .int b] => some (.int (a * b))
  | _ => none
def sndF : D → Option D
  | .tup [.int _, .int b] => some (.int b)
  | _ => none
end Pm

set_option Elab.async false
set_option linter.all false
set_option maxRecDepth 100000
set_option maxHeartbeats 1000000
set_option autoImplicit false
namespace Pm
open PySem PySem.Spec
open PyProof.Rows hiding St
open L2
theorem nats_pln (gs : List Nat) : D.plns (gs.map natD) = true := by
  induction gs with
  | nil => rfl
  | cons q l ih => simp only [List.map_cons, D.plns, ih]; rfl
theorem in_nats {gs : List Nat} {k : Nat} : (gs.map natD).any (fun y => D.eqv y (.int k)) = decide (k ∈ gs) := by
  rw [Bool.eq_iff_iff, decide_eq_true_iff, List.any_eq_true]
  constructor
  · rintro ⟨y, hy, e⟩
    obtain ⟨i, hi, rfl⟩ := List.mem_map.mp hy
    have : (i : Int) = k := by simpa [natD, D.eqv] using e
    have : i = k := by omega
    rw [← this]; exact hi
  · intro h
    exact ⟨natD k, List.mem_map.mpr ⟨k, h, rfl⟩, by simp [natD, D.eqv]⟩
theorem notin_nats {gs : List Nat} {k : Nat} : (true ^^ (gs.map natD).any fun y => D.eqv y (.int k)) = !decide (k ∈ gs) := by rw [in_nats]; simp
theorem isin_nats {gs : List Nat} {k : Nat} : (false ^^ (gs.map natD).any fun y => D.eqv y (.int k)) = decide (k ∈ gs) := by rw [in_nats]; simp
theorem notin_natD {gs : List Nat} {k : Nat} : (true ^^ (gs.map natD).any fun y => D.eqv y (natD k)) = !decide (k ∈ gs) := notin_nats
theorem isin_natD {gs : List Nat} {k : Nat} : (false ^^ (gs.map natD).any fun y => D.eqv y (natD k)) = decide (k ∈ gs) := isin_nats
theorem gr_dep (gs : List Nat) : (grD gs).dep ≤ 64 := by
  have : D.deps (gs.map natD) = 0 := by
    induction gs with
    | nil => rfl
    | cons g gs ih => simp only [List.map_cons, D.deps, ih]; rfl
  simp only [grD, D.dep, this]; decide
theorem gr_ok (gs : List Nat) : EqOk (grD gs) (.tup []) := ⟨nats_pln gs, rfl, gr_dep gs, by simp [D.dep, D.deps]⟩
theorem gr_eqv (gs : List Nat) : D.eqv (grD gs) (.tup []) = decide (gs = []) := by
  cases gs with
  | nil => rfl
  | cons g gs => simp [grD, D.eqv, D.eqvs]
theorem sz_of {b : Nat} {n : Int} (hb : 50 ≤ b) (h1 : -(10 ^ 12) ≤ n) (h2 : n ≤ 10 ^ 12) : Sz b n := by
  have : Sz 50 n := by
    unfold Sz
    have e : (10 : Int) ^ 12 < 2 ^ 50 := by decide
    have e2 : ((2 ^ 50 : Nat) : Int) = 2 ^ 50 := by decide
    omega
  exact this.le hb
def grpS : List Nat → List (List Nat)
  | [] => [[]]
  | i :: l => [] :: ((grpS l).map (i :: ·) ++ (grpS l).tail)
theorem grpS_length : ∀ l : List Nat, (grpS l).length = 2 ^ l.length
  | [] => rfl
  | i :: l => by
    have ih := grpS_length l
    have hp : 0 < 2 ^ l.length := Nat.pow_pos (by decide)
    simp only [grpS, List.length_cons, List.length_append, List.length_map, List.length_tail, ih, Nat.pow_succ]
    omega
theorem grpS_sub : ∀ {l gs : List Nat}, gs ∈ grpS l → gs.Sublist l
  | [], gs, h => by
    have : gs = [] := by simpa [grpS] using h
    rw [this]; exact List.Sublist.refl _
  | i :: l, gs, h => by
    simp only [grpS, List.mem_cons, List.mem_append, List.mem_map] at h
    rcases h with rfl | ⟨k, hk, rfl⟩ | h
    · exact List.nil_sublist _
    · exact (grpS_sub hk).cons_cons i
    · exact (grpS_sub (List.mem_of_mem_tail h)).cons i
theorem grpS_cons_ne : ∀ l : List Nat, ∃ r, grpS l = [] :: r
  | [] => ⟨[], rfl⟩
  | i :: l => ⟨_, rfl⟩
theorem sub_grpS : ∀ {l gs : List Nat}, gs.Sublist l → gs ∈ grpS l
  | [], gs, h => by
    rw [List.sublist_nil.mp h]; simp [grpS]
  | i :: l, gs, h => by
    simp only [grpS, List.mem_cons, List.mem_append, List.mem_map]
    cases h with
    | cons _ h =>
      have := sub_grpS h
      obtain ⟨r, e⟩ := grpS_cons_ne l
      rw [e] at this ⊢
      rcases List.mem_cons.mp this with rfl | h2
      · exact .inl rfl
      · exact .inr (.inr h2)
    | cons_cons _ h => exact .inr (.inl ⟨_, sub_grpS h, rfl⟩)
end Pm

set_option Elab.async false
set_option linter.all false
set_option maxRecDepth 100000
set_option maxHeartbeats 1000000
set_option autoImplicit false
namespace Pm
def sm (f : Nat → Rat) : List Nat → Rat
  | [] => 0
  | i :: l => f i + sm f l
theorem sm_append (f : Nat → Rat) : ∀ l k : List Nat, sm f (l ++ k) = sm f l + sm f k
  | [], k => by simp only [List.nil_append, sm]; grind
  | i :: l, k => by simp only [List.cons_append, sm, sm_append f l k]; grind
theorem sm_perm {f : Nat → Rat} {l k : List Nat} (h : l.Perm k) : sm f l = sm f k := by
  induction h with
  | nil => rfl
  | cons q _ ih => simp only [sm, ih]
  | swap a b l => simp only [sm]; grind
  | trans _ _ a b => exact a.trans b
theorem sm_congr {f g : Nat → Rat} : ∀ {l : List Nat}, (∀ i ∈ l, f i = g i) → sm f l = sm g l
  | [], _ => rfl
  | i :: l, h => by simp only [sm, h i (by simp), sm_congr (l := l) fun j hj => h j (by simp [hj])]
theorem sm_split (f : Nat → Rat) (p : Nat → Bool) : ∀ l : List Nat, sm f (l.filter p) + sm f (l.filter fun i => !p i) = sm f l
  | [] => by simp only [List.filter_nil, sm]; grind
  | i :: l => by
    have := sm_split f p l
    cases h : p i <;> simp only [List.filter_cons, h, sm, Bool.not_true, Bool.not_false, if_true, if_false, Bool.false_eq_true] <;> grind
theorem sm_le {f g : Nat → Rat} : ∀ {l : List Nat}, (∀ i ∈ l, f i ≤ g i) → sm f l ≤ sm g l
  | [], _ => Rat.le_refl
  | i :: l, h => by
    have h1 := h i (by simp)
    have h2 := sm_le (l := l) fun j hj => h j (by simp [hj])
    simp only [sm]; grind
theorem sm_nonneg {f : Nat → Rat} {l : List Nat} (h : ∀ i ∈ l, 0 ≤ f i) : 0 ≤ sm f l := by
  induction l with
  | nil => exact Rat.le_refl
  | cons i l ih =>
    have h1 := h i (by simp)
    have h2 := ih fun j hj => h j (by simp [hj])
    simp only [sm]; grind
theorem sm_pos {f : Nat → Rat} {l : List Nat} (h : ∀ i ∈ l, 0 < f i) (h0 : l ≠ []) : 0 < sm f l := by
  cases l with
  | nil => exact absurd rfl h0
  | cons i l =>
    have h1 := h i (by simp)
    have h2 := sm_nonneg (f := f) (l := l) fun j hj => Rat.le_of_lt (h j (by simp [hj]))
    simp only [sm]; grind
theorem sm_add (f g : Nat → Rat) : ∀ l : List Nat, sm (fun i => f i + g i) l = sm f l + sm g l
  | [] => by simp only [sm]; grind
  | i :: l => by simp only [sm, sm_add f g l]; grind
theorem sm_sub (f g : Nat → Rat) : ∀ l : List Nat, sm (fun i => f i - g i) l = sm f l - sm g l
  | [] => by simp only [sm]; grind
  | i :: l => by simp only [sm, sm_sub f g l]; grind
theorem sm_mul (c : Rat) (f : Nat → Rat) : ∀ l : List Nat, sm (fun i => c * f i) l = c * sm f l
  | [] => by simp only [sm]; grind
  | i :: l => by simp only [sm, sm_mul c f l]; grind
theorem sm_flat (f : Nat → Rat) : ∀ ps : List (List Nat), sm f ps.flatten = (ps.map (sm f)).sum
  | [] => rfl
  | p :: ps => by rw [List.flatten_cons, sm_append, sm_flat f ps, List.map_cons, List.sum_cons]
theorem exists_min {α : Type} (f : α → Rat) : ∀ {l : List α}, l ≠ [] → ∃ i ∈ l, ∀ j ∈ l, f i ≤ f j
  | [], h => absurd rfl h
  | [i], _ => ⟨i, by simp, fun j hj => by simp at hj; subst hj; exact Rat.le_refl⟩
  | i :: k :: l, _ => by
    obtain ⟨x, h1, h2⟩ := exists_min f (l := k :: l) (by simp)
    by_cases h : f i ≤ f x
    · refine ⟨i, by simp, fun j hj => ?_⟩
      rcases List.mem_cons.mp hj with rfl | hj
      · exact Rat.le_refl
      · exact Rat.le_trans h (h2 j hj)
    · refine ⟨x, by simp [List.mem_cons.mp h1], fun j hj => ?_⟩
      rcases List.mem_cons.mp hj with rfl | hj
      · grind
      · exact h2 j hj
theorem mul_nonneg' {a b : Rat} (h : 0 ≤ a) (k : 0 ≤ b) : 0 ≤ a * b := Rat.mul_nonneg h k

section
variable {E : Nat → Nat → Prop} {l : List Nat} {m w r s : Nat → Rat}
def UpS (E : Nat → Nat → Prop) (U : Nat → Bool) : Prop := ∀ a b, E a b → U a = true → U b = true
def Obey (E : Nat → Nat → Prop) (r : Nat → Rat) : Prop := ∀ a b, E a b → r a ≤ r b
def fw (m w r : Nat → Rat) (i : Nat) : Rat := w i * (m i - r i)
def RUp (r : Nat → Rat) (U : Nat → Bool) : Prop := ∀ i j, r i ≤ r j → U i = true → U j = true
structure Best (l : List Nat) (E : Nat → Nat → Prop) (m w r : Nat → Rat) : Prop where
  ob : Obey E r
  up : ∀ U, UpS E U → sm (fw m w r) (l.filter U) ≤ 0
  lv : ∀ U, RUp r U → sm (fw m w r) (l.filter U) = 0
theorem RUp.up {U : Nat → Bool} (o : Obey E r) (h : RUp r U) : UpS E U := fun a b e k => h a b (o a b e) k
theorem rup_ge (v : Rat) : RUp r fun i => decide (v ≤ r i) := fun i j h k => by
  simp only [decide_eq_true_eq] at k ⊢; exact Rat.le_trans k h
theorem rup_gt (v : Rat) : RUp r fun i => decide (v < r i) := fun i j h k => by
  simp only [decide_eq_true_eq] at k ⊢; grind
theorem layer {g : Nat → Rat} : ∀ (n : Nat) (l : List Nat), l.length ≤ n → (∀ U, RUp s U → sm g (l.filter U) ≤ 0) → ∀ c, (∀ i ∈ l, c ≤ s i) → sm (fun i => g i * s i) l ≤ c * sm g l
  | n, [], _, _, c, _ => by simp only [sm]; grind
  | 0, i :: l, h, _, _, _ => by simp at h
  | n + 1, i :: t, hn, h, c, hc => by
    obtain ⟨x, hx, hm⟩ := exists_min s (l := i :: t) (by simp)
    generalize hl : i :: t = l at *
    have h1 := sm_split g (fun j => decide (s x < s j)) l
    have h2 := sm_split (fun j => g j * s j) (fun j => decide (s x < s j)) l
    have lt : (l.filter fun j => decide (s x < s j)).length ≤ n := by
      have : (l.filter fun j => decide (s x < s j)).length < l.length := by
        have e : (l.filter fun j => decide (s x < s j)).length ≤ l.length := List.length_filter_le _ _
        rcases Nat.lt_or_eq_of_le e with e | e
        · exact e
        · have := List.length_filter_eq_length_iff.mp e x hx
          simp at this
      omega
    have ih := layer (g := g) n (l.filter fun j => decide (s x < s j)) lt (fun U hU => ?_) (s x) (fun j hj => by
      have := (List.mem_filter.mp hj).2
      simp only [decide_eq_true_eq] at this
      exact Rat.le_of_lt this)
    · have e3 : sm (fun j => g j * s j) (l.filter fun j => !decide (s x < s j)) = s x * sm g (l.filter fun j => !decide (s x < s j)) := by
        rw [← sm_mul]
        refine sm_congr fun j hj => ?_
        obtain ⟨a, b⟩ := List.mem_filter.mp hj
        have b' : ¬ s x < s j := by simpa using b
        have := hm j a
        have e : s j = s x := by grind
        rw [e]; exact Rat.mul_comm _ _
      have all : sm g l ≤ 0 := by
        have := h (fun _ => true) fun _ _ _ _ => rfl
        rwa [List.filter_eq_self.mpr fun _ _ => rfl] at this
      have cx : c ≤ s x := hc x hx
      have h3 : 0 ≤ (s x - c) * (0 - sm g l) := Rat.mul_nonneg (by grind) (by grind)
      have h4 : s x * sm g (l.filter fun j => decide (s x < s j)) + s x * sm g (l.filter fun j => !decide (s x < s j)) = s x * sm g l := by rw [← Rat.mul_add, h1]
      have h5 : (s x - c) * (0 - sm g l) = c * sm g l - s x * sm g l := by clear h hc hx hm h1 h2 lt ih e3 all cx h3 h4; grind
      rw [← h2, e3]
      rw [h5] at h3
      generalize s x * sm g l = A at *
      generalize c * sm g l = B at *
      generalize s x * sm g (l.filter fun j => decide (s x < s j)) = C at *
      generalize s x * sm g (l.filter fun j => !decide (s x < s j)) = D at *
      generalize sm (fun i => g i * s i) (l.filter fun j => decide (s x < s j)) = F at *
      clear h1 h2 h hc hm lt hx all e3 h5
      grind
    · rw [List.filter_filter]
      exact h _ fun a b hab hk => by
        simp only [Bool.and_eq_true, decide_eq_true_eq] at hk ⊢
        exact ⟨hU a b hab hk.1, by grind⟩
theorem Best.all (b : Best l E m w r) : sm (fw m w r) l = 0 := by
  have := b.lv (fun _ => true) fun _ _ _ _ => rfl
  rwa [List.filter_eq_self.mpr fun _ _ => rfl] at this
theorem exists_le (f : Nat → Rat) (l : List Nat) : ∃ c, ∀ i ∈ l, c ≤ f i := by
  cases l with
  | nil => exact ⟨0, fun i h => absurd h (by simp)⟩
  | cons a t => obtain ⟨x, _, h⟩ := exists_min f (l := a :: t) (by simp); exact ⟨f x, h⟩
theorem Best.dot_self (b : Best l E m w r) : sm (fun i => fw m w r i * r i) l = 0 := by
  obtain ⟨c, hc⟩ := exists_le r l
  have h1 := layer (s := r) (g := fw m w r) l.length l (Nat.le_refl _) (fun U h => by rw [b.lv U h]; exact Rat.le_refl) c hc
  have e : ∀ k : List Nat, sm (fun i => -1 * fw m w r i) k = -1 * sm (fw m w r) k := sm_mul (-1) (fw m w r)
  have h2 := layer (s := r) (g := fun i => -1 * fw m w r i) l.length l (Nat.le_refl _) (fun U h => by rw [e, b.lv U h]; grind) c hc
  have e2 : sm (fun i => -1 * fw m w r i * r i) l = -1 * sm (fun i => fw m w r i * r i) l := by
    rw [← sm_mul]; exact sm_congr fun i _ => by grind
  rw [e, b.all, e2] at h2
  rw [b.all] at h1
  grind
theorem Best.dot (b : Best l E m w r) (hs : Obey E s) : sm (fun i => fw m w r i * s i) l ≤ 0 := by
  obtain ⟨c, hc⟩ := exists_le s l
  have h1 := layer (s := s) (g := fw m w r) l.length l (Nat.le_refl _) (fun U h => b.up U (h.up hs)) c hc
  rw [b.all] at h1; grind
def costS (l : List Nat) (m w r : Nat → Rat) : Rat := sm (fun i => w i * ((r i - m i) * (r i - m i))) l
theorem Best.cost (b : Best l E m w r) (hs : Obey E s) : costS l m w r + sm (fun i => w i * ((s i - r i) * (s i - r i))) l ≤ costS l m w s := by
  have h1 := b.dot hs
  have h2 := b.dot_self
  have e : costS l m w s = costS l m w r + sm (fun i => w i * ((s i - r i) * (s i - r i))) l + (-2) * (sm (fun i => fw m w r i * s i) l - sm (fun i => fw m w r i * r i) l) := by
    unfold costS
    rw [← sm_sub, ← sm_mul, ← sm_add, ← sm_add]
    exact sm_congr fun i _ => by simp only [fw]; grind
  rw [e, h2]; grind
theorem Best.unique (b : Best l E m w r) (b' : Best l E m w s) (hw : ∀ i ∈ l, 0 < w i) : ∀ i ∈ l, r i = s i := by
  have h1 := b.cost b'.ob
  have h2 := b'.cost b.ob
  have e : sm (fun i => w i * ((r i - s i) * (r i - s i))) l = sm (fun i => w i * ((s i - r i) * (s i - r i))) l := sm_congr fun i _ => by grind
  rw [e] at h2
  have h3 : sm (fun i => w i * ((s i - r i) * (s i - r i))) l ≤ 0 := by grind
  intro i hi
  have sq : ∀ j ∈ l, 0 ≤ w j * ((s j - r j) * (s j - r j)) := fun j hj => Rat.mul_nonneg (Rat.le_of_lt (hw j hj)) (by
    rcases (show 0 ≤ s j - r j ∨ 0 ≤ r j - s j by grind) with h | h
    · exact Rat.mul_nonneg h h
    · have := Rat.mul_nonneg h h; grind)
  by_cases hne : r i = s i
  · exact hne
  exfalso
  have p1 : 0 < (s i - r i) * (s i - r i) := by
    rcases (show 0 < s i - r i ∨ 0 < r i - s i by grind) with h | h
    · exact Rat.mul_pos h h
    · have := Rat.mul_pos h h; grind
  have p2 := Rat.mul_pos (hw i hi) p1
  obtain ⟨a, c, rfl⟩ := List.append_of_mem hi
  rw [sm_append] at h3
  simp only [sm] at h3
  have n1 := sm_nonneg (l := a) fun j hj => sq j (by simp [hj])
  have n2 := sm_nonneg (l := c) fun j hj => sq j (by simp [hj])
  grind
end
section
variable {E : Nat → Nat → Prop} {l : List Nat} {m w r s : Nat → Rat}
def DnS (E : Nat → Nat → Prop) (U : Nat → Bool) : Prop := ∀ a b, E a b → U b = true → U a = true
theorem UpS.not {U : Nat → Bool} (h : UpS E U) : DnS E fun i => !U i := fun a b e k => by
  show (!U a) = true
  have k : (!U b) = true := k
  cases q : U a with
  | false => rfl
  | true => rw [h a b e q] at k; cases k
theorem DnS.not {U : Nat → Bool} (h : DnS E U) : UpS E fun i => !U i := fun a b e k => by
  show (!U b) = true
  have k : (!U a) = true := k
  cases q : U b with
  | false => rfl
  | true => rw [h a b e q] at k; cases k
theorem UpS.and {U V : Nat → Bool} (h : UpS E U) (k : UpS E V) : UpS E fun i => U i && V i := fun a b e q => by
  simp only [Bool.and_eq_true] at q ⊢; exact ⟨h a b e q.1, k a b e q.2⟩
theorem UpS.or {U V : Nat → Bool} (h : UpS E U) (k : UpS E V) : UpS E fun i => U i || V i := fun a b e q => by
  simp only [Bool.or_eq_true] at q ⊢; exact q.imp (h a b e) (k a b e)
theorem sm_and (f : Nat → Rat) (p q : Nat → Bool) (l : List Nat) : sm f (l.filter fun i => p i && q i) + sm f (l.filter fun i => p i && !q i) = sm f (l.filter p) := by
  have := sm_split f q (l.filter p)
  rw [List.filter_filter, List.filter_filter] at this
  rw [← this]
  congr 2
  · refine congrArg (fun z => List.filter z l) (funext fun i => Bool.and_comm _ _)
  · refine congrArg (fun z => List.filter z l) (funext fun i => Bool.and_comm _ _)
theorem Best.low (b : Best l E m w r) {U D : Nat → Bool} (hU : RUp r U) (hD : DnS E D) : 0 ≤ sm (fw m w r) (l.filter fun i => U i && D i) := by
  have h1 := sm_and (fw m w r) U D l
  have h2 := b.up _ ((hU.up b.ob).and hD.not)
  rw [b.lv U hU] at h1
  grind
theorem Best.high (b : Best l E m w r) {U V : Nat → Bool} (hU : UpS E U) (hV : RUp r V) : sm (fw m w r) (l.filter fun i => U i && !V i) ≤ 0 := by
  have h0 := b.up _ (hU.or (hV.up b.ob))
  have h1 := sm_split (fw m w r) V (l.filter fun i => U i || V i)
  have h2 := b.lv V hV
  rw [List.filter_filter, List.filter_filter] at h1
  have e1 : (l.filter fun i => V i && (U i || V i)) = l.filter V := congrArg (fun z => List.filter z l) (funext fun i => by cases V i <;> simp)
  have e2 : (l.filter fun i => !V i && (U i || V i)) = l.filter fun i => U i && !V i := congrArg (fun z => List.filter z l) (funext fun i => by cases V i <;> simp)
  rw [e1, e2, h2] at h1
  grind
theorem sm_fw_ge {v : Rat} {k : List Nat} (hw : ∀ i ∈ k, 0 ≤ w i) (h : 0 ≤ sm (fw m w r) k) (hv : ∀ i ∈ k, v ≤ r i) : v * sm w k ≤ sm (fun i => w i * m i) k := by
  have e : sm (fw m w r) k = sm (fun i => w i * m i) k - sm (fun i => w i * r i) k := by
    rw [← sm_sub]; exact sm_congr fun i _ => by simp only [fw]; grind
  have e2 : v * sm w k ≤ sm (fun i => w i * r i) k := by
    rw [← sm_mul]; exact sm_le fun i hi => by
      have := Rat.mul_nonneg (hw i hi) (show 0 ≤ r i - v by have := hv i hi; grind)
      grind
  rw [e] at h; grind
theorem sm_fw_le {v : Rat} {k : List Nat} (hw : ∀ i ∈ k, 0 ≤ w i) (h : sm (fw m w r) k ≤ 0) (hv : ∀ i ∈ k, r i ≤ v) : sm (fun i => w i * m i) k ≤ v * sm w k := by
  have e : sm (fw m w r) k = sm (fun i => w i * m i) k - sm (fun i => w i * r i) k := by
    rw [← sm_sub]; exact sm_congr fun i _ => by simp only [fw]; grind
  have e2 : sm (fun i => w i * r i) k ≤ v * sm w k := by
    rw [← sm_mul]; exact sm_le fun i hi => by
      have := Rat.mul_nonneg (hw i hi) (show 0 ≤ v - r i by have := hv i hi; grind)
      grind
  rw [e] at h; grind
end
section
variable {E : Nat → Nat → Prop} {l : List Nat} {m w : Nat → Rat}
def ex (m w : Nat → Rat) (a : Rat) (k : List Nat) : Rat := sm (fun i => w i * (m i - a)) k
def avS (m w : Nat → Rat) (k : List Nat) : Rat := sm (fun i => w i * m i) k / sm w k
theorem ex_eq (m w : Nat → Rat) (a : Rat) (k : List Nat) : ex m w a k = sm (fun i => w i * m i) k - a * sm w k := by
  unfold ex
  rw [← sm_mul, ← sm_sub]; exact sm_congr fun i _ => by grind
theorem ex_av (k : List Nat) (h : 0 < sm w k) : ex m w (avS m w k) k = 0 := by
  rw [ex_eq]; unfold avS
  rw [Rat.div_mul_cancel (by grind)]; grind
def PUp (E : Nat → Nat → Prop) (p : List Nat) (U : Nat → Bool) : Prop := ∀ a ∈ p, ∀ b ∈ p, E a b → U a = true → U b = true
def HiB (E : Nat → Nat → Prop) (m w : Nat → Rat) (p : List Nat) (a : Rat) : Prop := ∀ U, PUp E p U → ex m w a (p.filter U) ≤ 0
def LoB (E : Nat → Nat → Prop) (m w : Nat → Rat) (p : List Nat) (a : Rat) : Prop := ∀ U, PUp E p U → 0 ≤ ex m w a (p.filter fun i => !U i)
def Below (E : Nat → Nat → Prop) (m w : Nat → Rat) (p q : List Nat) : Prop := (∃ a, HiB E m w p a ∧ LoB E m w q a) ∧ ∀ x ∈ p, ∀ y ∈ q, ¬ E y x
theorem ex_split (a : Rat) (U : Nat → Bool) (p : List Nat) : ex m w a (p.filter U) + ex m w a (p.filter fun i => !U i) = ex m w a p := sm_split _ U p
theorem HiB.all {p : List Nat} {a : Rat} (h : HiB E m w p a) : ex m w a p ≤ 0 := by
  have := h (fun _ => true) fun _ _ _ _ _ _ => rfl
  rwa [List.filter_eq_self.mpr fun _ _ => rfl] at this
theorem LoB.all {p : List Nat} {a : Rat} (h : LoB E m w p a) : 0 ≤ ex m w a p := by
  have := h (fun _ => false) fun _ _ _ _ _ h => h
  have e : (p.filter fun i => !false) = p := List.filter_eq_self.mpr fun _ _ => rfl
  rwa [e] at this
theorem HiB.av {p : List Nat} {a : Rat} (h : HiB E m w p a) (hw : 0 < sm w p) : avS m w p ≤ a := by
  have h1 := h.all
  have h2 := ex_av (m := m) p hw
  rw [ex_eq] at h1 h2
  rcases (show avS m w p ≤ a ∨ a < avS m w p by grind) with z | z
  · exact z
  · have := Rat.mul_pos (show 0 < avS m w p - a by grind) hw
    grind
theorem LoB.av {p : List Nat} {a : Rat} (h : LoB E m w p a) (hw : 0 < sm w p) : a ≤ avS m w p := by
  have h1 := h.all
  have h2 := ex_av (m := m) p hw
  rw [ex_eq] at h1 h2
  rcases (show a ≤ avS m w p ∨ avS m w p < a by grind) with z | z
  · exact z
  · have := Rat.mul_pos (show 0 < a - avS m w p by grind) hw
    grind
structure Split (E : Nat → Nat → Prop) (m w : Nat → Rat) (p : List Nat) (U : Nat → Bool) : Prop where
  up : PUp E p U
  most : ∀ V, PUp E p V → ex m w (avS m w p) (p.filter V) ≤ ex m w (avS m w p) (p.filter U)
theorem ff {p : List Nat} (U V : Nat → Bool) : (p.filter U).filter V = p.filter fun i => V i && U i := List.filter_filter ..
theorem flt {p q : Nat → Bool} (l : List Nat) (h : ∀ i, p i = q i) : l.filter p = l.filter q := congrArg (fun z => List.filter z l) (funext h)
theorem Split.hi {p : List Nat} {U : Nat → Bool} (h : Split E m w p U) : HiB E m w (p.filter fun i => !U i) (avS m w p) := fun V hV => by
  have up : PUp E p fun i => U i || V i := fun a ha b hb e k => by
    simp only [Bool.or_eq_true] at k ⊢
    rcases k with k | k
    · exact .inl (h.up a ha b hb e k)
    · cases q : U b with
      | true => exact .inl rfl
      | false =>
        cases q2 : U a with
        | true => rw [h.up a ha b hb e q2] at q; cases q
        | false => exact .inr (hV a (List.mem_filter.mpr ⟨ha, by simp [q2]⟩) b (List.mem_filter.mpr ⟨hb, by simp [q]⟩) e k)
  have h1 := h.most _ up
  have h2 := ex_split (m := m) (w := w) (avS m w p) U (p.filter fun i => U i || V i)
  rw [ff, ff] at h2
  rw [ff]
  have e1 : (p.filter fun i => U i && (U i || V i)) = p.filter U := flt p fun i => by cases U i <;> simp
  have e2 : (p.filter fun i => !U i && (U i || V i)) = p.filter fun i => V i && !U i := flt p fun i => by cases U i <;> simp
  rw [e1, e2] at h2
  grind
theorem Split.lo {p : List Nat} {U : Nat → Bool} (h : Split E m w p U) : LoB E m w (p.filter U) (avS m w p) := fun V hV => by
  have up : PUp E p fun i => V i && U i := fun a ha b hb e k => by
    simp only [Bool.and_eq_true] at k ⊢
    have := h.up a ha b hb e k.2
    exact ⟨hV a (List.mem_filter.mpr ⟨ha, k.2⟩) b (List.mem_filter.mpr ⟨hb, this⟩) e k.1, this⟩
  have h1 := h.most _ up
  have h2 := ex_split (m := m) (w := w) (avS m w p) V (p.filter U)
  rw [ff, ff] at h2
  rw [ff]
  grind
theorem ex_mono {a b : Rat} {k : List Nat} (h : a ≤ b) (hw : ∀ i ∈ k, 0 ≤ w i) : ex m w b k ≤ ex m w a k := sm_le fun i hi => by
  have := Rat.mul_nonneg (hw i hi) (show 0 ≤ b - a by grind)
  grind
theorem LoB.lower {p : List Nat} {U : Nat → Bool} {a : Rat} (h : LoB E m w p a) (hU : PUp E p U) : LoB E m w (p.filter fun i => !U i) a := fun V hV => by
  have up : PUp E p fun i => U i || V i := fun x hx y hy e k => by
    simp only [Bool.or_eq_true] at k ⊢
    rcases k with k | k
    · exact .inl (hU x hx y hy e k)
    · cases q : U y with
      | true => exact .inl rfl
      | false =>
        cases q2 : U x with
        | true => rw [hU x hx y hy e q2] at q; cases q
        | false => exact .inr (hV x (List.mem_filter.mpr ⟨hx, by simp [q2]⟩) y (List.mem_filter.mpr ⟨hy, by simp [q]⟩) e k)
  have := h _ up
  rw [ff]
  rwa [flt p (q := fun i => !V i && !U i) fun i => by cases U i <;> cases V i <;> rfl] at this
theorem HiB.upper {p : List Nat} {U : Nat → Bool} {a : Rat} (h : HiB E m w p a) (hU : PUp E p U) : HiB E m w (p.filter U) a := fun V hV => by
  have up : PUp E p fun i => V i && U i := fun x hx y hy e k => by
    simp only [Bool.and_eq_true] at k ⊢
    have := hU x hx y hy e k.2
    exact ⟨hV x (List.mem_filter.mpr ⟨hx, k.2⟩) y (List.mem_filter.mpr ⟨hy, this⟩) e k.1, this⟩
  rw [ff]; exact h _ up
theorem LoB.le {p : List Nat} {a b : Rat} (h : LoB E m w p b) (k : a ≤ b) (hw : ∀ i ∈ p, 0 ≤ w i) : LoB E m w p a := fun U hU => by
  have h1 := h U hU
  have h2 := ex_mono (m := m) (w := w) (k := p.filter fun i => !U i) k fun i hi => hw i (List.mem_filter.mp hi).1
  exact Rat.le_trans h1 h2
theorem HiB.le {p : List Nat} {a b : Rat} (h : HiB E m w p a) (k : a ≤ b) (hw : ∀ i ∈ p, 0 ≤ w i) : HiB E m w p b := fun U hU => by
  have h1 := h U hU
  have h2 := ex_mono (m := m) (w := w) (k := p.filter U) k fun i hi => hw i (List.mem_filter.mp hi).1
  exact Rat.le_trans h2 h1
theorem Split.below {p : List Nat} {U : Nat → Bool} (h : Split E m w p U) : Below E m w (p.filter fun i => !U i) (p.filter U) :=
  ⟨⟨_, h.hi, h.lo⟩, fun x hx y hy e => by
    obtain ⟨x1, x2⟩ := List.mem_filter.mp hx
    obtain ⟨y1, y2⟩ := List.mem_filter.mp hy
    have := h.up y y1 x x1 e y2
    simp [this] at x2⟩
theorem Below.left {p q : List Nat} {U : Nat → Bool} (h : Below E m w p q) (s : Split E m w q U) (hw : ∀ i ∈ q, 0 ≤ w i) (hp : 0 < sm w q) : Below E m w p (q.filter U) ∧ Below E m w p (q.filter fun i => !U i) := by
  obtain ⟨⟨a, h1, h2⟩, h3⟩ := h
  refine ⟨⟨⟨a, h1, s.lo.le (h2.av hp) fun i hi => hw i (List.mem_filter.mp hi).1⟩, fun x hx y hy => h3 x hx y (List.mem_filter.mp hy).1⟩, ⟨⟨a, h1, h2.lower s.up⟩, fun x hx y hy => h3 x hx y (List.mem_filter.mp hy).1⟩⟩
theorem Below.right {p q : List Nat} {U : Nat → Bool} (h : Below E m w p q) (s : Split E m w p U) (hw : ∀ i ∈ p, 0 ≤ w i) (hp : 0 < sm w p) : Below E m w (p.filter U) q ∧ Below E m w (p.filter fun i => !U i) q := by
  obtain ⟨⟨a, h1, h2⟩, h3⟩ := h
  refine ⟨⟨⟨a, h1.upper s.up, h2⟩, fun x hx y hy => h3 x (List.mem_filter.mp hx).1 y hy⟩, ⟨⟨a, s.hi.le (h1.av hp) fun i hi => hw i (List.mem_filter.mp hi).1, h2⟩, fun x hx y hy => h3 x (List.mem_filter.mp hx).1 y hy⟩⟩
def Chain (E : Nat → Nat → Prop) (m w : Nat → Rat) (ps : List (List Nat)) : Prop := ps.Pairwise (Below E m w)
theorem Chain.split {a b : List (List Nat)} {p : List Nat} {U : Nat → Bool} (h : Chain E m w (a ++ p :: b)) (s : Split E m w p U) (hw : ∀ i ∈ p, 0 ≤ w i) (hp : 0 < sm w p) : Chain E m w (a ++ (p.filter fun i => !U i) :: (p.filter U) :: b) := by
  unfold Chain at *
  rw [List.pairwise_append, List.pairwise_cons] at h ⊢
  obtain ⟨h1, ⟨h2, h3⟩, h4⟩ := h
  refine ⟨h1, ⟨fun q hq => ?_, List.pairwise_cons.mpr ⟨fun q hq => ((h2 q hq).right s hw hp).1, h3⟩⟩, fun q hq z hz => ?_⟩
  · rcases List.mem_cons.mp hq with rfl | hq
    · exact s.below
    · exact ((h2 q hq).right s hw hp).2
  · have := (h4 q hq p (by simp)).left s hw hp
    rcases List.mem_cons.mp hz with rfl | hz
    · exact this.2
    · rcases List.mem_cons.mp hz with rfl | hz
      · exact this.1
      · exact h4 q hq z (by simp [hz])
def Whole (E : Nat → Nat → Prop) (m w : Nat → Rat) (p : List Nat) : Prop := ∀ U, PUp E p U → ex m w (avS m w p) (p.filter U) ≤ 0
theorem pw_mem {α : Type} {R : α → α → Prop} : ∀ {l : List α}, l.Pairwise R → ∀ {x y}, x ∈ l → y ∈ l → x = y ∨ R x y ∨ R y x
  | [], _, _, _, h, _ => absurd h (by simp)
  | a :: l, h, x, y, hx, hy => by
    rw [List.pairwise_cons] at h
    rcases List.mem_cons.mp hx with rfl | hx
    · rcases List.mem_cons.mp hy with rfl | hy
      · exact .inl rfl
      · exact .inr (.inl (h.1 y hy))
    · rcases List.mem_cons.mp hy with e | hy
      · exact .inr (.inr (e ▸ h.1 x hx))
      · exact pw_mem h.2 hx hy
theorem flat_filter (U : Nat → Bool) : ∀ ps : List (List Nat), ps.flatten.filter U = (ps.map fun p => p.filter U).flatten
  | [] => rfl
  | p :: ps => by simp [List.filter_append, flat_filter U ps]
theorem sum_map_le {ps : List (List Nat)} {f : List Nat → Rat} (h : ∀ p ∈ ps, f p ≤ 0) : (ps.map f).sum ≤ 0 := by
  induction ps with
  | nil => exact Rat.le_refl
  | cons p ps ih =>
    have h1 := h p (by simp)
    have h2 := ih fun q hq => h q (by simp [hq])
    rw [List.map_cons, List.sum_cons]; grind
theorem sum_map_zero {ps : List (List Nat)} {f : List Nat → Rat} (h : ∀ p ∈ ps, f p = 0) : (ps.map f).sum = 0 := by
  induction ps with
  | nil => rfl
  | cons p ps ih =>
    have h1 := h p (by simp)
    have h2 := ih fun q hq => h q (by simp [hq])
    rw [List.map_cons, List.sum_cons]; grind
theorem Chain.best {ps : List (List Nat)} {r : Nat → Rat} (h : Chain E m w ps) (hE : ∀ a b, E a b → a ∈ l ∧ b ∈ l) (hl : ps.flatten.Perm l) (nd : l.Nodup) (hw : ∀ i ∈ l, 0 < w i) (hn : ∀ p ∈ ps, p ≠ []) (hf : ∀ p ∈ ps, Whole E m w p) (hr : ∀ p ∈ ps, ∀ i ∈ p, r i = avS m w p) : Best l E m w r := by
  have pw : ∀ p ∈ ps, 0 < sm w p := fun p hp => sm_pos (fun i hi => hw i (hl.mem_iff.mp (List.mem_flatten.mpr ⟨p, hp, hi⟩))) (hn p hp)
  have eqf : ∀ p ∈ ps, ∀ U : Nat → Bool, sm (fw m w r) (p.filter U) = ex m w (avS m w p) (p.filter U) := fun p hp U => sm_congr fun i hi => by
    simp only [fw]; rw [hr p hp i (List.mem_filter.mp hi).1]
  have tot : ∀ U : Nat → Bool, sm (fw m w r) (l.filter U) = (ps.map fun p => ex m w (avS m w p) (p.filter U)).sum := fun U => by
    rw [← sm_perm (hl.filter U), flat_filter, sm_flat, List.map_map]
    congr 1
    exact List.map_congr_left fun p hp => eqf p hp U
  refine ⟨fun a b e => ?_, fun U hU => ?_, fun U hU => ?_⟩
  · obtain ⟨ha, hb⟩ := hE a b e
    obtain ⟨p, hp, ap⟩ := List.mem_flatten.mp (hl.mem_iff.mpr ha)
    obtain ⟨q, hq, bq⟩ := List.mem_flatten.mp (hl.mem_iff.mpr hb)
    rw [hr p hp a ap, hr q hq b bq]
    by_cases hpq : p = q
    · rw [hpq]; exact Rat.le_refl
    · rcases (pw_mem h hp hq).resolve_left hpq with o | o
      · obtain ⟨⟨c, h1, h2⟩, _⟩ := o
        exact Rat.le_trans (h1.av (pw p hp)) (h2.av (pw q hq))
      · exact absurd e (o.2 b bq a ap)
  · rw [tot]
    exact sum_map_le fun p hp => hf p hp U fun a _ b _ e k => hU a b e k
  · rw [tot]
    refine sum_map_zero fun p hp => ?_
    by_cases hx : ∃ x ∈ p, U x = true
    · obtain ⟨x, hx, hu⟩ := hx
      have : p.filter U = p := List.filter_eq_self.mpr fun y hy => hU x y (by rw [hr p hp x hx, hr p hp y hy]; exact Rat.le_refl) hu
      rw [this]; exact ex_av p (pw p hp)
    · have : p.filter U = [] := List.filter_eq_nil_iff.mpr fun y hy hu => hx ⟨y, hy, hu⟩
      rw [this]; rfl
end
end Pm

set_option Elab.async false
set_option linter.all false
set_option maxRecDepth 100000
set_option maxHeartbeats 1000000
set_option autoImplicit false
namespace Pm
open PySem PySem.Spec
open PyProof.Rows hiding St
open L2
variable {γ : Type}
def noOwn (ρ : List (Option L)) (vs : List Nat) : Bool := vs.all fun v => match ρ[v]? with
  | some (some (.own _)) => false
  | _ => true
theorem back_wipe {s : S γ} {vs : List Nat} (h : noOwn s.ρ vs = true) : s.back vs (s.wipe vs) = s := by
  obtain ⟨ρ, g⟩ := s
  have e : (S.back (⟨ρ, g⟩ : S γ) vs (S.wipe (⟨ρ, g⟩ : S γ) vs)).ρ = ρ := by
    refine List.ext_getElem? fun i => ?_
    simp only [S.back, S.wipe, List.getElem?_mapIdx]
    rw [wipeL_get]
    by_cases hi : i ∈ vs
    · have h1 := List.all_eq_true.mp h i hi
      by_cases hl : i < ρ.length
      · rw [if_pos ⟨hi, hl⟩]
        simp only [Option.map_some, if_pos hi]
        rw [List.getElem?_eq_getElem hl] at h1 ⊢
        unfold keepVal
        cases q : ρ[i] with
        | none => simp [q]
        | some l => cases l with
          | val d => simp [q]
          | own ds => rw [q] at h1; simp at h1
      · rw [if_neg (fun z => hl z.2), List.getElem?_eq_none (by omega)]; rfl
    · rw [if_neg fun z => hi z.1]
      cases q : ρ[i]? with
      | none => rfl
      | some o => simp [hi]
  show (⟨_, _⟩ : S γ) = _
  exact congrArg (fun z => (⟨z, g⟩ : S γ)) e
theorem lc_run2 {tg : Tg} {vs : List Nat} {tt : PTx γ} {te : PEx γ} {R : List D → S γ → Prop} {ds : List D} {s1 : S γ} (f : D → Option D) (hn : ds.length ≤ 1000000)
    (step : ∀ d, d ∈ ds → ∃ ρ' b, tg.put d (wipeL s1.ρ vs) = some ρ' ∧ (∀ T : Bool → S γ → Prop, T b ⟨ρ', s1.g⟩ → tt ⟨ρ', s1.g⟩ T) ∧ (b = false → f d = none) ∧ (b = true → ∃ y, f d = some y ∧ ∀ T : D → S γ → Prop, T y ⟨ρ', s1.g⟩ → te ⟨ρ', s1.g⟩ T))
    (fin : R (ds.filterMap f) s1) (hj : ∀ j ∈ tg.js, j ∈ vs := by decide) (ho : noOwn s1.ρ vs = true := by rfl) : lcB tg vs tt te R ds s1 :=
  lc_run f hn hj step (by rw [back_wipe ho]; exact fin)
theorem back_wipeG {s : S γ} {vs : List Nat} {g : γ} (h : noOwn s.ρ vs = true) : s.back vs ⟨wipeL s.ρ vs, g⟩ = ⟨s.ρ, g⟩ := by
  have e := congrArg S.ρ (back_wipe h)
  show (⟨_, g⟩ : S γ) = _
  exact congrArg (fun z => (⟨z, g⟩ : S γ)) e
theorem lc_runG {tg : Tg} {vs : List Nat} {tt : PTx γ} {te : PEx γ} {R : List D → S γ → Prop} {ds : List D} {s1 : S γ} (J : Nat → List D → γ → Prop) (h0 : J 0 [] s1.g)
    (step : ∀ i d acc g, ds[i]? = some d → J i acc g → ∃ ρ', tg.put d (wipeL s1.ρ vs) = some ρ' ∧ ((∀ g' : γ, Wk ((⟨ρ', g'⟩ : S γ).wipe vs) ⟨wipeL s1.ρ vs, g'⟩) →
      tt ⟨ρ', g⟩ fun b s3 => Br b (te s3 fun y s4 => acc.length + 1 ≤ sizeLine ∧ ∃ s5, Wk (s4.wipe vs) s5 ∧ ∃ g', s5 = ⟨wipeL s1.ρ vs, g'⟩ ∧ J (i + 1) (acc ++ [y]) g') (∃ s5, Wk (s3.wipe vs) s5 ∧ ∃ g', s5 = ⟨wipeL s1.ρ vs, g'⟩ ∧ J (i + 1) acc g')))
    (fin : ∀ acc g, J ds.length acc g → R acc ⟨s1.ρ, g⟩) (hj : ∀ j ∈ tg.js, j ∈ vs := by decide) (ho : noOwn s1.ρ vs = true := by rfl) : lcB tg vs tt te R ds s1 := by
  refine ⟨fun i acc s => ∃ g', s = ⟨wipeL s1.ρ vs, g'⟩ ∧ J i acc g', ⟨_, Wk.refl _, s1.g, rfl, h0⟩, ?_, ?_⟩
  · rintro i d acc s hd ⟨g, rfl, hJ⟩
    obtain ⟨ρ', h1, h2⟩ := step i d acc g hd hJ
    unfold qPut
    show match tg.put d (wipeL s1.ρ vs) with | some ρ' => _ | none => False
    rw [h1]
    refine h2 fun g' => ?_
    show Wk (⟨wipeL ρ' vs, g'⟩ : S γ) _
    rw [put_wipe h1 hj]
    exact Wk.refl _
  · rintro acc s ⟨g, rfl, hJ⟩
    rw [back_wipeG ho]
    exact fin acc g hJ
theorem lc_list {α : Type} {tg : Tg} {vs : List Nat} {tt : PTx γ} {te : PEx γ} {R : List D → S γ → Prop} {s1 : S γ} (l : List α) (e : α → D) (P : α → Bool) (g : α → D) (hn : l.length ≤ 1000000)
    (step : ∀ a ∈ l, ∃ ρ', tg.put (e a) (wipeL s1.ρ vs) = some ρ' ∧ (∀ T : Bool → S γ → Prop, T (P a) ⟨ρ', s1.g⟩ → tt ⟨ρ', s1.g⟩ T) ∧ (P a = true → ∀ T : D → S γ → Prop, T (g a) ⟨ρ', s1.g⟩ → te ⟨ρ', s1.g⟩ T))
    (fin : R ((l.filter P).map g) s1) (hj : ∀ j ∈ tg.js, j ∈ vs) (ho : noOwn s1.ρ vs = true) : lcB tg vs tt te R (l.map e) s1 := by
  have line := sizeLine_eq
  refine lc_runG (fun i acc g' => g' = s1.g ∧ acc = ((l.take i).filter P).map g) ⟨rfl, by simp⟩ ?_ ?_ hj ho
  · rintro i d acc g' hd ⟨rfl, rfl⟩
    rw [List.getElem?_map] at hd
    obtain ⟨a, ha, rfl⟩ := Option.map_eq_some_iff.mp hd
    obtain ⟨ρ', h1, h2, h3⟩ := step a (List.mem_of_getElem? ha)
    refine ⟨ρ', h1, fun W => h2 _ ⟨fun hb => h3 hb _ ⟨?_, _, W _, _, rfl, rfl, ?_⟩, fun hb => ⟨_, W _, _, rfl, rfl, ?_⟩⟩⟩
    · have h1 := List.length_filter_le P (l.take i)
      have h2 := List.length_take_le i l
      have h3 : (l.take i).length ≤ l.length := by rw [List.length_take]; omega
      rw [List.length_map]; omega
    · rw [List.take_add_one, ha, List.filter_append, List.map_append]
      simp [hb]
    · rw [List.take_add_one, ha, List.filter_append, List.map_append]
      simp [hb]
  · rintro acc g' ⟨rfl, rfl⟩
    rw [List.length_map, List.take_of_length_le (Nat.le_refl _)]
    exact fin
theorem lc_mapl {α : Type} {tg : Tg} {vs : List Nat} {te : PEx γ} {R : List D → S γ → Prop} {s1 : S γ} (l : List α) (e : α → D) (g : α → D) (hn : l.length ≤ 1000000)
    (step : ∀ a ∈ l, ∃ ρ', tg.put (e a) (wipeL s1.ρ vs) = some ρ' ∧ (∀ T : D → S γ → Prop, T (g a) ⟨ρ', s1.g⟩ → te ⟨ρ', s1.g⟩ T))
    (fin : R (l.map g) s1) (hj : ∀ j ∈ tg.js, j ∈ vs) (ho : noOwn s1.ρ vs = true) : lcB tg vs qYes te R (l.map e) s1 := by
  refine lc_list l e (fun _ => true) g hn (fun a ha => ?_) ?_ hj ho
  · obtain ⟨ρ', h1, h2⟩ := step a ha
    exact ⟨ρ', h1, fun T h => h, fun _ => h2⟩
  · rw [List.filter_eq_self.mpr fun _ _ => rfl]; exact fin
theorem put_nm {i : Nat} {d : D} {s : S γ} {R : S γ → Prop} (h : R ⟨s.ρ.set i (some (.val d)), s.g⟩) : qPut (.nm i) d s R := h
theorem put_tg {tg : Tg} {d : D} {s : S γ} {R : S γ → Prop} {ρ' : List (Option L)} (e : tg.put d s.ρ = some ρ') (h : R ⟨ρ', s.g⟩) : qPut tg d s R := by
  unfold qPut; rw [e]; exact h
theorem lc_all {tg : Tg} {vs : List Nat} {te : PEx γ} {R : List D → S γ → Prop} {s1 : S γ} {ds : List D} (g : D → D) (hn : ds.length ≤ 1000000)
    (step : ∀ a ∈ ds, ∃ ρ', tg.put a (wipeL s1.ρ vs) = some ρ' ∧ (∀ T : D → S γ → Prop, T (g a) ⟨ρ', s1.g⟩ → te ⟨ρ', s1.g⟩ T))
    (fin : R (ds.map g) s1) (hj : ∀ j ∈ tg.js, j ∈ vs) (ho : noOwn s1.ρ vs = true) : lcB tg vs qYes te R ds s1 := by
  have := lc_mapl (tg := tg) (vs := vs) (te := te) (R := R) (s1 := s1) ds id g hn step fin hj ho
  rw [List.map_id] at this; exact this
end Pm

set_option Elab.async false
set_option linter.all false
set_option maxRecDepth 100000
set_option maxHeartbeats 1000000
set_option autoImplicit false
namespace Pm
open PySem PySem.Spec
open PyProof.Rows hiding St
open L2
theorem sz_one {b : Nat} (h : 1 ≤ b := by decide) : Sz b 1 := by
  unfold Sz
  exact Nat.lt_of_lt_of_le (show Int.natAbs 1 < 2 ^ 1 by decide) (Nat.pow_le_pow_right (by decide) h)
theorem sz_zero {b : Nat} : Sz b 0 := Nat.pow_pos (by decide)
theorem SzR.int {b : Nat} {n : Int} (h : Sz b n) (hb : 1 ≤ b := by decide) : SzR b (n : Rat) := ⟨h, sz_one hb⟩
def scS (l : List (Int × Int)) (n d : Int) : Int := (l.map fun q => q.2 * (q.1 * d - n)).sum
theorem scS_eq (l : List (Int × Int)) (n d : Int) : scS l n d = sM l * d - sW l * n := by
  induction l with
  | nil => simp [scS, sM, sW]
  | cons q l ih =>
    have e : scS (q :: l) n d = q.2 * (q.1 * d - n) + scS l n d := by simp [scS]
    rw [e, ih, sM_cons, sW_cons]; grind
def surF (n d : Int) : D → Option D
  | .tup [.int a, .int b] => some (.int (b * (a * d - n)))
  | _ => none
def surR (l : List (Int × Int)) (t : Rat) : Rat := (sM l : Rat) - (sW l : Rat) * t
theorem num_den (x : Rat) : (x.num : Rat) = x * ((x.den : Int) : Rat) := by
  have h := divInt_mul (M := x.num) (W := x.den) (by have := x.den_pos; omega)
  rw [Rat.num_divInt_den] at h
  exact h.symm
theorem den_pos (x : Rat) : (0 : Rat) < ((x.den : Int) : Rat) := Rat.intCast_pos.mpr (by have := x.den_pos; omega)
theorem divInt_is {n d : Int} {x : Rat} (h : 0 < d) (e : (n : Rat) = x * (d : Rat)) : Rat.divInt n d = x := by
  have h1 := divInt_mul (M := n) h
  have h0 := Rat.intCast_pos.mpr h
  rw [e] at h1
  have : (Rat.divInt n d - x) * (d : Rat) = 0 := by grind
  rcases Rat.mul_eq_zero.mp this with h2 | h2
  · grind
  · rw [h2] at h0; exact absurd h0 (by decide)
theorem surR_eq (l : List (Int × Int)) (t : Rat) : Rat.divInt (scS l t.num t.den) t.den = surR l t := by
  refine divInt_is (by have := t.den_pos; omega) ?_
  rw [scS_eq]
  unfold surR
  rw [Rat.intCast_sub, Rat.intCast_mul, Rat.intCast_mul, num_den t]
  generalize ((t.den : Int) : Rat) = d at *
  grind
theorem int_of_rat {a b : Int} (h : (a : Rat) = (b : Rat)) : a = b := Rat.intCast_inj.mp h
theorem surR_sz {l : List (Int × Int)} (h : ∀ q ∈ l, ItB q) (hn : l.length ≤ 1000) {t : Rat} {b : Nat} (ht : SzR b t) : SzR (b + 302) (surR l t) := by
  obtain ⟨z1, z2⟩ := sz_sums h hn
  have r1 : SzR 150 (sM l : Rat) := SzR.int z1
  have r2 : SzR 150 (sW l : Rat) := SzR.int z2
  exact (r1.sub (r2.mul ht)).le (by omega)
theorem surR_nil (t : Rat) : surR [] t = 0 := by
  show ((0 : Int) : Rat) - ((0 : Int) : Rat) * t = 0
  grind
theorem surR_append (l k : List (Int × Int)) (t : Rat) : surR (l ++ k) t = surR l t + surR k t := by
  unfold surR
  rw [sM_append, sW_append, Rat.intCast_add, Rat.intCast_add]; grind
theorem surR_perm {l k : List (Int × Int)} (h : l.Perm k) (t : Rat) : surR l t = surR k t := by
  unfold surR
  rw [sM_perm h, sW_perm h]
theorem sub_filter {ss gs : List Nat} (h : ss.Sublist gs) (nd : gs.Nodup) : gs.filter (fun i => decide (i ∈ ss)) = ss := by
  induction h with
  | slnil => rfl
  | @cons l k a h ih =>
    rw [List.nodup_cons] at nd
    rw [List.filter_cons, if_neg (by simpa using fun z => nd.1 (h.subset z))]
    exact ih nd.2
  | @cons_cons l k a h ih =>
    rw [List.nodup_cons] at nd
    rw [List.filter_cons, if_pos (by simp)]
    congr 1
    refine Eq.trans (List.filter_congr fun i hi => ?_) (ih nd.2)
    have : i ≠ a := fun e => nd.1 (e ▸ hi)
    simp [this]
theorem rest_perm {ss gs : List Nat} (h : ss.Sublist gs) (nd : gs.Nodup) : (ss ++ gs.filter (fun i => !decide (i ∈ ss))).Perm gs := by
  have := List.filter_append_perm (fun i => decide (i ∈ ss)) gs
  rw [sub_filter h nd] at this
  exact this
theorem surR_rest {its : List (Int × Int)} {ss gs : List Nat} (h : ss.Sublist gs) (nd : gs.Nodup) (t : Rat) : surR (selI its ss) t + surR (selI its (gs.filter fun i => !decide (i ∈ ss))) t = surR (selI its gs) t := by
  rw [← surR_append]
  refine surR_perm ?_ t
  have := (rest_perm h nd).map fun i => its.getD i (0, 1)
  rw [List.map_append] at this
  exact this
theorem divInt_mulI {x : Rat} {k : Int} : Rat.divInt (x.num * k) x.den = x * (k : Rat) := by
  refine divInt_is (by have := x.den_pos; omega) ?_
  rw [Rat.intCast_mul, num_den x]
  generalize ((x.den : Int) : Rat) = d at *
  grind
theorem zipD_map {α β : Type} (f : α → D) (g : β → D) : ∀ (xs : List α) (ys : List β), zipD (xs.map f) (ys.map g) = (xs.zip ys).map fun p => .tup [f p.1, g p.2]
  | [], _ => by simp [zipD]
  | _ :: _, [] => by simp [zipD]
  | x :: xs, y :: ys => by simp only [List.map_cons, zipD, List.zip_cons_cons, zipD_map f g xs ys]
theorem enumGo_map {α : Type} (f : α → D) : ∀ (xs : List α) (k : Nat), enumGo k (xs.map f) = (xs.zipIdx k).map fun p => .tup [.int (p.2 : Nat), f p.1]
  | [], _ => rfl
  | x :: xs, k => by simp only [List.map_cons, enumGo, List.zipIdx_cons, enumGo_map f xs (k + 1)]
def costT (p : (Int × Int) × Rat) : Rat := ((p.2 - (p.1.1 : Rat)) * (p.2 - (p.1.1 : Rat))) * (p.1.2 : Rat)
def costL (its : List (Int × Int)) (rs : List Rat) : Rat := ((its.zip rs).map costT).sum
theorem sum_take {α : Type} (f : α → Rat) (l : List α) {i : Nat} {a : α} (h : l[i]? = some a) : ((l.take (i + 1)).map f).sum = ((l.take i).map f).sum + f a := by
  
  rw [List.take_add_one, h, List.map_append, List.sum_append]
  show _ + (f a + 0) = _
  rw [Rat.add_zero]
theorem SzR.zero {b : Nat} (h : 1 ≤ b) : SzR b 0 := SzR.int (n := 0) sz_zero h
theorem SzR.take {α : Type} {f : α → Rat} {s : Nat} : ∀ {l : List α}, (∀ a ∈ l, SzR s (f a)) → SzR (1 + l.length * (s + 1)) ((l.map f).sum)
  | [], _ => SzR.zero (by omega)
  | a :: l, h => by
    have h1 := h a (by simp)
    have h2 := SzR.take (l := l) fun b hb => h b (by simp [hb])
    rw [List.map_cons, List.sum_cons]
    refine (h1.add h2).le ?_
    rw [List.length_cons, Nat.add_mul]; omega
theorem fr_dep24 (x : Rat) : (frD x).dep < 24 := Nat.lt_of_le_of_lt (show (frD x).dep ≤ 1 from Nat.le_refl 1) (by decide)
theorem fr_wid7 (x : Rat) : (frD x).wid ≤ 10000000 := by show 2000 + 8 + (2000 + 8 + 0) + 8 ≤ 10000000; decide
end Pm

set_option Elab.async false
set_option linter.all false
set_option maxRecDepth 100000
set_option maxHeartbeats 1000000
set_option autoImplicit false
namespace Pm
open PySem PySem.Spec
open PyProof.Rows hiding St
open L2
def obsB (fa : List He.Fa) (fn : List He.DefD) (ex : PySem.W.Frag → Bool) (K : PySem.W.Frag) : He.AlD × Bool := (He.obsD fa fn K, ex K)
def valB (fn : List He.DefD) : He.AlD × Bool := (He.valD fn, true)
def SaysB (fa : List He.Fa) (fn : List He.DefD) (ex : PySem.W.Frag → Bool) (K : PySem.W.Frag) : Prop := obsB fa fn ex K = valB fn
def obsBG (n : Nat) (fa : List He.Fa) (fn : List He.DefD) (ex : PySem.W.Frag → Bool) (g : Addr → Option Obj) : He.AlD × Bool := obsB fa fn ex (He.frG g (He.asD g n))
def hookB (n : Nat) (fa : List He.Fa) (fn : List He.DefD) (ex : PySem.W.Frag → Bool) : PySem.W.Hook where
  α := He.AlD × Bool
  obs := fun s => obsBG n fa fn ex s.heap.get?
  val := fun _ => valB fn
  says := fun _ h => ∃ K : PySem.W.Frag, K.In h ∧ SaysB fa fn ex K
  of := fun _ _ e => ⟨_, He.frG_in, e⟩
  keeps := fun _ _ _ ⟨K, hK, c⟩ k => ⟨K, PySem.W.Frag.In.keeps hK k, c⟩
theorem obsBG_eq {n : Nat} {fa : List He.Fa} {fn : List He.DefD} {ex : PySem.W.Frag → Bool} {g : Addr → Option Obj} {s : Shared} (h : ∀ a, g a = s.heap.get? a) : obsBG n fa fn ex g = (hookB n fa fn ex).obs s := by
  have e : g = s.heap.get? := funext h
  rw [e] <;> rfl
section
variable {fa : List He.Fa} {fn : List He.DefD} {ex : PySem.W.Frag → Bool} {K : PySem.W.Frag}
theorem SaysB.d (c : SaysB fa fn ex K) : He.SaysD fa fn K := congrArg (fun z : He.AlD × Bool => z.1) c
theorem SaysB.own (c : SaysB fa fn ex K) : ex K = true := congrArg (fun z : He.AlD × Bool => z.2) c
end
def GlD (K : PySem.W.Frag) (mg : Str → Option Value) (x : Str) (d : D) : Prop := ∃ u v, mg x = some u ∧ RelV v u ∧ ∀ Z, At K Z d v
def intsB (K : PySem.W.Frag) (x : Str) (is : List Int) : Bool := (He.Fa.glo x).ok K && He.tupB K x (is.map He.Dv.int)
theorem Ats.dvI {K : PySem.W.Frag} {Z : Hp} (is : List Int) : Ats K Z (is.map D.int) ((is.map He.Dv.int).map (He.Dv.v K)) := by
  rw [List.map_map]
  exact Ats.of_ints is
theorem gl_ints {K : PySem.W.Frag} {mg : Str → Option Value} {h : Heap} (X : K.In h) (G : h.Ns mainGlobals mg) {x : Str} {is : List Int} (c : intsB K x is = true) : GlD K mg x (.tup (is.map D.int)) := by
  obtain ⟨c1, c2⟩ := He.ba c
  exact ⟨_, .ref _, He.glo_ok X G c1, rfl, fun Z => ⟨_, _, rfl, He.tupB_ok c2 Z, Ats.dvI is⟩⟩
theorem gl_int {K : PySem.W.Frag} {mg : Str → Option Value} {h : Heap} (X : K.In h) (G : h.Ns mainGlobals mg) {x : Str} {i : Int} (c : (He.Fa.int x i).ok K = true) : GlD K mg x (.int i) := by
  obtain ⟨t, e⟩ := He.int_ok X G c
  exact ⟨_, .int i, e, ⟨t, rfl⟩, fun Z => rfl⟩
theorem gl_str {K : PySem.W.Frag} {mg : Str → Option Value} {h : Heap} (X : K.In h) (G : h.Ns mainGlobals mg) {x z : Str} (c : (He.Fa.str x z).ok K = true) : GlD K mg x (.str z) := by
  obtain ⟨t, e⟩ := He.str_ok X G c
  exact ⟨_, .str z, e, ⟨t, rfl⟩, fun Z => rfl⟩
theorem qe_gl {γ : Type} {X : Cx} {G : GP γ} {x : Str} {d : D} {pos : Pos} (hg : Gl X x) (h : GlD G.K X.mg x d) (hd : (x == ("__debug__" : Str)) = false := by decide) : QE X G (.Name x pos) (qC d) := by
  obtain ⟨u, v, e, r, k⟩ := h
  exact qe_glob hg e r k hd
end Pm

set_option Elab.async false
set_option linter.all false
set_option maxRecDepth 100000
set_option maxHeartbeats 1000000
set_option autoImplicit false
namespace Pm
open PySem PySem.Spec
open PyProof.Rows hiding St
open L2
variable {γ : Type}
section
variable {X : Cx} {G : GP γ} {a b c e : Expr} {pos : Pos}
def qAug (p : D → D → DK → Prop) (i : Nat) (te : PEx γ) : PSx γ := fun E s => ∃ x, s.ρ[i]? = some (some (.val x)) ∧ te s fun y s1 => p x y fun z => E.nx ⟨s1.ρ.set i (some (.val z)), s1.g⟩
theorem qs_aug {i : Nat} {x : Str} {op : Operator} {p : D → D → DK → Prop} {te : PEx γ} {pos' : Pos} (ho : OpR X (inplaceOp op) (dOp2 G.K p)) (hN : X.N.Nodup) (hi : X.N[i]? = some x) (hx : Loc X.env.scope x) (he : QE X G e te)
    (hf : X.fn x = true ∨ X.env.scope.names.lookup x = some .local := by first | exact .inl rfl | exact .inr rfl | assumption) : QS X G (.AugAssign (.Name x pos') op e pos) (qAug p i te) := by
  refine PS.imp (ps_aug hN hi hx he ho hf) fun De σ H ⟨F, Z, s, E, r, ⟨d, hd, t⟩, n, _⟩ => ?_
  obtain ⟨v, hv, av⟩ := r.loc i d hd
  refine ⟨v, hv, F, Z, s, _, r, t, fun y s1 Z1 vy H1 t1 k1 r1 a1 => ?_⟩
  exact ⟨Z1, d, y, _, r1.z, At.mono k1 _ _ av, a1, t1, fun z Z3 v3 H3 t3 x3 a3 => n _ Z3 _ H3 t3 (k1.trans x3.zz) ((r1.ext x3).put a3)⟩
abbrev iaddD := intD0 fun i j => .int (i + j)
theorem o_iadd : OpR X (inplaceOp .Add) (dOp2 X.K iaddD) := o_int0 iop_add fun _ _ _ => rfl
abbrev isubD := intD0 fun i j => .int (i - j)
theorem o_isub : OpR X (inplaceOp .Sub) (dOp2 X.K isubD) := o_int0 iop_sub fun _ _ _ => rfl
theorem iop_mulM : OpR X (inplaceOp .Mult) (rI MulOk fun i j => .int (i * j)) := opI fun _ _ _ _ _ _ _ hc q => imul_int q hc.ok
abbrev imulD := intD2 MulOk fun i j => .int (i * j)
theorem o_imul : OpR X (inplaceOp .Mult) (dOp2 X.K imulD) := o_int iop_mulM fun _ _ _ => rfl
theorem get_list : PGet X (fun x y H Q => ∃ p xs i z, x = .ref p ∧ y = .int i ∧ SqL X.K H p xs ∧ 0 ≤ i ∧ xs[i.toNat]? = some z ∧ Q z H) := by
  intro pins s σ H o i ov iv Q I ro ri h
  obtain ⟨p, xs, k, z, rfl, rfl, hq, h0, he, q⟩ := h
  cases ro
  obtain ⟨t, rfl⟩ := ri
  obtain ⟨its, r, pl, hz⟩ := I.list hq
  obtain ⟨w, ew, rw'⟩ := r.get he
  have hl := r.length
  have hn := line63
  have hlt := (List.getElem?_eq_some_iff.mp he).1
  have fin : EP X pins σ Q w s := ⟨z, H, I, rw', q⟩
  exact wpAny_getItem_list pl.isList h0 (by omega) (by simpa using ew) fin
def qAugS (p : D → D → DK → Prop) (i : Nat) (te tf : PEx γ) : PSx γ := fun E s => (∃ es, s.ρ[i]? = some (some (.own es))) ∧ te s fun y s1 => match y with
  | .int k => ∃ ds d, s1.ρ[i]? = some (some (.own ds)) ∧ 0 ≤ k ∧ ds[k.toNat]? = some d ∧ tf s1 fun f s2 => p d f fun z => ∃ ds2, s2.ρ[i]? = some (some (.own ds2)) ∧ k.toNat < ds2.length ∧ E.nx ⟨s2.ρ.set i (some (.own (ds2.set k.toNat z))), s2.g⟩
  | _ => False
theorem qs_augS {i : Nat} {o f : Expr} {op : Operator} {p : D → D → DK → Prop} {te tf : PEx γ} {tpos : Pos} (ho : OpR X (inplaceOp op) (dOp2 G.K p)) (hn : PE X o (tVar i)) (he : QE X G e te) (hf : QE X G f tf)
    (ha : ∀ ov iv new, augStore e ov iv new = (do holding [new, ov, iv] (setItem ov iv new); release [new, ov, iv] []; pure .next) := by intros; rfl) :
    QS X G (.AugAssign (.Subscript o e tpos) op f pos) (qAugS p i te tf) := by
  refine PS.imp (ps_augS hn he get_list hf ho set_list ha) fun De σ H ⟨F, Z, s, E, r, ⟨⟨es, t0⟩, t⟩, n, _⟩ => ?_
  obtain ⟨a, vs, g1, g2, _⟩ := r.own i es t0
  refine ⟨.ref a, g1, F, Z, s, _, r, t, fun y s1 Z1 vy H1 t1 k1 r1 a1 => ?_⟩
  cases y with
  | int k =>
    obtain ⟨ds, d, e1, k0, e2, t2⟩ := t1
    have a1' : vy = .int k := a1
    obtain ⟨a', vs', f1, f2, f3, _⟩ := r1.own i ds e1
    rw [g1] at f1; cases f1
    obtain ⟨v, e3, av⟩ := f3.get e2
    refine ⟨a, vs', k, v, rfl, a1', .inl (.inl f2), k0, e3, F, Z1, s1, _, r1, t2, fun fd s2 Z2 vf H2 t3 k2 r2 a2 => ?_⟩
    refine ⟨Z2, d, fd, _, r2.z, At.mono k2 _ _ av, a2, t3, fun z Z3 vz H3 t4 x3 a3 => ?_⟩
    obtain ⟨ds2, e4, e5, e6⟩ := t4
    have r3 := r2.ext x3
    obtain ⟨a', vs2, f4, f5, f6, _⟩ := r3.own i ds2 e4
    rw [g1] at f4; cases f4
    have hz : vs2.length = ds2.length := f6.len
    refine ⟨a, vs2, k, k.toNat, rfl, a1', f5, ?_, n _ Z3 _ _ e6 ((k1.trans k2).trans x3.zz) (r3.write e4 g1 (f6.set k.toNat a3))⟩
    unfold ixN
    rw [if_pos k0, if_pos (by omega)]
  | _ => exact t1.elim
def MatL (G : GP γ) (F : Fra) (Z : Hp) (s : S γ) (σ : St) (H : Hp) : L → V → Prop
  | .val d, v => At G.K Z d v
  | .own ds, v => ∃ a us, v = .ref a ∧ H a = some (.lst us) ∧ Ats G.K Z ds us ∧ Z a = none ∧ F.F a = none ∧ ¬ G.foot s.g a ∧ ∀ (i : Nat) (es : List D), s.ρ[i]? = some (some (.own es)) → σ[i]? ≠ some (some (.ref a))
def Apart : List L → List V → Prop
  | .own _ :: ls, v :: vs => (∀ (k : Nat) (es : List D), ls[k]? = some (.own es) → vs[k]? ≠ some v) ∧ Apart ls vs
  | _ :: ls, _ :: vs => Apart ls vs
  | _, _ => True
def Mats (G : GP γ) (F : Fra) (Z : Hp) (s : S γ) (σ : St) (H : Hp) : List L → List V → Prop
  | [], vs => vs = []
  | l :: ls, vs => ∃ w ws, vs = w :: ws ∧ MatL G F Z s σ H l w ∧ Mats G F Z s σ H ls ws
abbrev PMx (γ : Type) := S γ → (List L → S γ → Prop) → Prop
def lM (G : GP γ) (t : PMx γ) : TA := fun σ H Q => ∃ F Z s R, Rel G F Z s σ H ∧ t s R ∧ ∀ ls s' Z' vs H', R ls s' → Same Z Z' → Rel G F Z' s' σ H' → Mats G F Z' s' σ H' ls vs → Apart ls vs → Q vs H'
abbrev QM (X : Cx) (G : GP γ) (es : List Expr) (t : PMx γ) : Prop := PA X es (lM G t)
def qmNil : PMx γ := fun s R => R [] s
def qmVal (te : PEx γ) (tr : PMx γ) : PMx γ := fun s R => te s fun d s1 => tr s1 fun ls s2 => R (.val d :: ls) s2
def qmOwn (te : PAx γ) (tr : PMx γ) : PMx γ := fun s R => te s fun ds s1 => tr s1 fun ls s2 => R (.own ds :: ls) s2
theorem qm_nil : QM X G [] (qmNil : PMx γ) := PA.imp pa_nil fun σ H Q ⟨F, Z, s, R, r, t, q⟩ => q [] s Z [] H t (Same.refl _) r rfl trivial
theorem qm_val {es : List Expr} {te : PEx γ} {tr : PMx γ} (ha : QE X G e te) (hr : QM X G es tr) (hs : starEach (e :: es) X.env = (false, eval e X.env) :: starEach es X.env := by rfl) : QM X G (e :: es) (qmVal te tr) := by
  refine PA.imp (pa_cons ha hr hs) fun σ H Q ⟨F, Z, s, R, r, t, q⟩ => ?_
  refine ⟨F, Z, s, _, r, t, fun x s1 Z1 v1 H1 t1 k1 r1 a1 => ⟨F, Z1, s1, _, r1, t1, fun ls s2 Z2 vs H2 t2 k2 r2 a2 ap => ?_⟩⟩
  exact q _ s2 Z2 _ H2 t2 (k1.trans k2) r2 ⟨v1, vs, rfl, At.mono k2 _ _ a1, a2⟩ ap
theorem Mats.unbar {F : Fra} {Z : Hp} {s : S γ} {σ : St} {H : Hp} {a : Addr} {o : HO} : ∀ {ls : List L} {vs : List V}, Mats G (F.bar a o) Z s σ H ls vs → Mats G F Z s σ H ls vs ∧ ∀ (k : Nat) (es : List D), ls[k]? = some (.own es) → vs[k]? ≠ some (.ref a)
  | [], vs, h => ⟨h, fun k es e => by simp at e⟩
  | .val d :: ls, vs, ⟨w, ws, e, h1, h2⟩ => by
    obtain ⟨i1, i2⟩ := Mats.unbar h2
    subst e
    refine ⟨⟨w, ws, rfl, h1, i1⟩, fun k es e => ?_⟩
    cases k with
    | zero => simp at e
    | succ k => simpa using i2 k es (by simpa using e)
  | .own ds :: ls, vs, ⟨w, ws, e, ⟨b, us, e2, c1, c2, c3, c4, c5⟩, h2⟩ => by
    obtain ⟨i1, i2⟩ := Mats.unbar h2
    subst e; subst e2
    have hb : b ≠ a := fun z => by
      subst z
      have z : upd F.F b o b = none := c4
      rw [upd_same] at z; cases z
    have c4' : F.F b = none := by
      have z : upd F.F a o b = none := c4
      rw [upd_ne hb] at z; exact z
    refine ⟨⟨_, ws, rfl, ⟨b, us, rfl, c1, c2, c3, c4', c5⟩, i1⟩, fun k es e => ?_⟩
    cases k with
    | zero => intro z; simp only [List.getElem?_cons_zero, Option.some.injEq, V.ref.injEq] at z; exact hb z
    | succ k => simpa using i2 k es (by simpa using e)
theorem qm_own {es : List Expr} {te : PAx γ} {tr : PMx γ} (ha : QF X G e te) (hr : QM X G es tr) (hs : starEach (e :: es) X.env = (false, eval e X.env) :: starEach es X.env := by rfl) : QM X G (e :: es) (qmOwn te tr) := by
  refine PA.imp (pa_cons ha hr hs) fun σ H Q ⟨F, Z, s, R, r, t, q⟩ => ?_
  refine ⟨F, Z, s, _, r, t, fun ds s1 Z1 a us H1 t1 k1 r1 ha1 a1 hz hF hf ho => ?_⟩
  have rb := r1.bar ha1 hz hf ho
  refine ⟨F.bar a (.lst us), Z1, s1, _, rb, t1, fun ls s2 Z2 vs H2 t2 k2 r2 m2 ap => ?_⟩
  obtain ⟨e1, e2, e3, e4, r3⟩ := r2.unbar (o' := .lst us) hF
  have hu : upd H2 a (.lst us) = H2 := by
    funext b
    by_cases hb : b = a
    · subst hb; rw [upd_same, e1]
    · rw [upd_ne hb]
  rw [hu] at r3
  obtain ⟨i1, i2⟩ := m2.unbar
  exact q _ s2 Z2 _ H2 t2 (k1.trans k2) r3 ⟨_, vs, rfl, ⟨a, us, rfl, e1, Ats.mono k2 _ _ a1, e2, hF, e3, e4⟩, i1⟩ ⟨i2, ap⟩
theorem Rel.putL {F : Fra} {Z : Hp} {s : S γ} {σ : St} {H : Hp} (r : Rel G F Z s σ H) {i : Nat} {l : L} {v : V} (m : MatL G F Z s σ H l v) : Rel G F Z ⟨s.ρ.set i (some l), s.g⟩ (σ.set i (some v)) H := by
  cases l with
  | val d => exact r.put m
  | own ds =>
    obtain ⟨a, us, rfl, h1, h2, h3, h4, h5, h6⟩ := m
    exact r.putOwn h1 h2 h3 h4 h5 h6
theorem MatL.after {F : Fra} {Z : Hp} {s : S γ} {σ : St} {H : Hp} {i : Nat} {l l' : L} {v v' : V} (hl : s.ρ.length = σ.length) (m : MatL G F Z s σ H l v) (hne : ∀ es es', l = .own es → l' = .own es' → v ≠ v') : MatL G F Z ⟨s.ρ.set i (some l'), s.g⟩ (σ.set i (some v')) H l v := by
  cases l with
  | val d => exact m
  | own ds =>
    obtain ⟨a, us, rfl, h1, h2, h3, h4, h5, h6⟩ := m
    refine ⟨a, us, rfl, h1, h2, h3, h4, h5, fun j es e => ?_⟩
    by_cases hij : i = j
    · subst hij
      have hi : i < s.ρ.length := by
        have := (List.getElem?_eq_some_iff.mp e).1
        simpa using this
      rw [List.getElem?_set_self hi] at e
      rw [List.getElem?_set_self (by omega)]
      cases e
      intro z
      cases z
      exact hne ds es rfl rfl rfl
    · rw [List.getElem?_set_ne hij] at e
      rw [List.getElem?_set_ne hij]
      exact h6 j es e
def qParM (i j : Nat) (ta : PMx γ) : PSx γ := fun E s => ta s fun ls s1 => match ls with
  | [d, e] => E.nx ⟨(s1.ρ.set i (some d)).set j (some e), s1.g⟩
  | _ => False
theorem apart2 {l m : L} {v w : V} (h : Apart [l, m] [v, w]) : ∀ es es', m = .own es → l = .own es' → w ≠ v := fun es es' h1 h2 => by
  subst h1; subst h2
  intro z
  subst z
  exact h.1 0 es rfl rfl
theorem qs_parM {i j : Nat} {x y : Str} {ta : PMx γ} {px py pt : Pos} {kt k2 pt2} (hc : X.calm = true) (hN : X.N.Nodup) (hi : X.N[i]? = some x) (hj : X.N[j]? = some y) (hij : i ≠ j)
    (hx : X.env.scope.names.lookup x = some .local) (hy : X.env.scope.names.lookup y = some .local) (ha : QM X G [a, b] ta)
    (hw : swappedStores [.Tuple [.Name x px, .Name y py] kt pt] (.Tuple [a, b] k2 pt2) X.env = pure (some [x, y]))
    (hs : swapsWithSole [.Tuple [.Name x px, .Name y py] kt pt] (.Tuple [a, b] k2 pt2) pos.line X.env = pure false := by rfl) :
    QS X G (.Assign [.Tuple [.Name x px, .Name y py] kt pt] (.Tuple [a, b] k2 pt2) pos) (qParM i j ta) := by
  refine PS.imp (ps_par hc hN hi hj hij hx hy ha hw hs) fun De σ H ⟨F, Z, s, E, r, t, n, _⟩ => ?_
  refine ⟨F, Z, s, _, r, t, fun ls s1 Z1 vs H1 t1 k1 r1 m1 ap => ?_⟩
  match ls, t1 with
  | [d, e], t1 =>
    obtain ⟨v, _, rfl, m2, w, _, rfl, m3, rfl⟩ := m1
    refine ⟨v, w, rfl, n _ Z1 _ H1 t1 k1 ?_⟩
    exact (r1.putL m2).putL (m3.after r1.len.symm (apart2 ap))
def qParM3 (i j l : Nat) (ta : PMx γ) : PSx γ := fun E s => ta s fun ls s1 => match ls with
  | [d, e, f] => E.nx ⟨((s1.ρ.set i (some d)).set j (some e)).set l (some f), s1.g⟩
  | _ => False
theorem apart3 {l m n : L} {v w u : V} (h : Apart [l, m, n] [v, w, u]) : (∀ es es', m = .own es → l = .own es' → w ≠ v) ∧ (∀ es es', n = .own es → l = .own es' → u ≠ v) ∧ (∀ es es', n = .own es → m = .own es' → u ≠ w) := by
  refine ⟨fun es es' h1 h2 z => ?_, fun es es' h1 h2 z => ?_, fun es es' h1 h2 z => ?_⟩
  · subst h1; subst h2; subst z; exact h.1 0 es rfl rfl
  · subst h1; subst h2; subst z; exact h.1 1 es rfl rfl
  · subst h1; subst h2; subst z
    have h' : Apart [.own es', .own es] [u, u] := by cases l <;> first | exact h | exact h.2
    exact h'.1 0 es rfl rfl
theorem qs_parM3 {i j l : Nat} {x y z : Str} {ta : PMx γ} {px py pz pt : Pos} {kt k2 pt2} (hc : X.calm = true) (hN : X.N.Nodup) (hi : X.N[i]? = some x) (hj : X.N[j]? = some y) (hl : X.N[l]? = some z) (hij : i ≠ j) (hil : i ≠ l) (hjl : j ≠ l)
    (hx : X.env.scope.names.lookup x = some .local) (hy : X.env.scope.names.lookup y = some .local) (hz : X.env.scope.names.lookup z = some .local) (ha : QM X G [a, b, c] ta)
    (hw : swappedStores [.Tuple [.Name x px, .Name y py, .Name z pz] kt pt] (.Tuple [a, b, c] k2 pt2) X.env = pure (some [x, y, z]))
    (hs : swapsWithSole [.Tuple [.Name x px, .Name y py, .Name z pz] kt pt] (.Tuple [a, b, c] k2 pt2) pos.line X.env = pure false := by rfl) :
    QS X G (.Assign [.Tuple [.Name x px, .Name y py, .Name z pz] kt pt] (.Tuple [a, b, c] k2 pt2) pos) (qParM3 i j l ta) := by
  refine PS.imp (ps_par3 hc hN hi hj hl hij hil hjl hx hy hz ha hw hs) fun De σ H ⟨F, Z, s, E, r, t, n, _⟩ => ?_
  refine ⟨F, Z, s, _, r, t, fun ls s1 Z1 vs H1 t1 k1 r1 m1 ap => ?_⟩
  match ls, t1 with
  | [d, e, f], t1 =>
    obtain ⟨v, _, rfl, m2, w, _, rfl, m3, u, _, rfl, m4, rfl⟩ := m1
    obtain ⟨p1, p2, p3⟩ := apart3 ap
    refine ⟨v, w, u, rfl, n _ Z1 _ H1 t1 k1 ?_⟩
    have ra := r1.putL (i := i) m2
    have ma := m3.after (i := i) (l' := d) (v' := v) r1.len.symm p1
    have mb := m4.after (i := i) (l' := d) (v' := v) r1.len.symm p2
    exact (ra.putL ma).putL (mb.after ra.len.symm p3)
variable {i : Nat} {o : Expr} {apos cpos : Pos}
def qPopAt (i : Nat) (te : PEx γ) : PEx γ := fun s R => (∃ es, s.ρ[i]? = some (some (.own es))) ∧ te s fun y s1 => match y with
  | .int k => ∃ ds d, s1.ρ[i]? = some (some (.own ds)) ∧ (0 ≤ k ∧ k < 2 ^ 63) ∧ ds[k.toNat]? = some d ∧ R d ⟨s1.ρ.set i (some (.own (ds.eraseIdx k.toNat))), s1.g⟩
  | _ => False
theorem Ats.eraseIdx {K : PySem.W.Frag} {Z : Hp} : ∀ {ds : List D} {vs : List V} (k : Nat), Ats K Z ds vs → Ats K Z (ds.eraseIdx k) (vs.eraseIdx k)
  | [], _, _, h => by simp only [Ats] at h; subst h; simp [Ats]
  | d :: ds, vs, 0, ⟨w, ws, e, h2, h3⟩ => by subst e; simpa using h3
  | d :: ds, vs, k + 1, ⟨w, ws, e, h2, h3⟩ => by subst e; simp only [List.eraseIdx_cons_succ]; exact ⟨w, _, rfl, h2, Ats.eraseIdx k h3⟩
theorem qe_popAt {te : PEx γ} (hn : PE X o (tVar i)) (he : QE X G e te) (hbase : attributeBase o "pop" X.env (eval o X.env) = eval o X.env := by rfl)
    (hfew : ((backTo cpos (starEach [e] X.env)).all (fun x => !x.1) && (backToKw cpos (keywordEach [] X.env)).all (fun x => x.1.isSome)
      && decide (([e] : List Expr).length + ([] : List Keyword).length + (if ([] : List Keyword).isEmpty then 0 else 1) < 30)) = true := by rfl)
    (hline : (apos.endLine == cpos.line) = true := by rfl) (hs : starEach [e] X.env = (false, eval e X.env) :: starEach [] X.env := by rfl) (hplain : (backTo cpos (starEach [] X.env)).any (·.1) = false := by rfl) :
    QE X G (.Call (.Attribute o "pop" apos) [e] [] cpos) (qPopAt i te) := by
  refine PE.imp (pe_bm PySem.F.plainAttrs_list PySem.F.slot_list_pop PySem.F.type_list_pop mt_popAt hn (pa_cons he pa_nil hs) hbase hfew hline hs hplain) fun σ H Q ⟨F, Z, s, R, r, ⟨⟨es, t0⟩, t⟩, q⟩ => ?_
  obtain ⟨a, vs, h1, h2, _⟩ := r.own i es t0
  refine ⟨.ref a, h1, own_ty h2, F, Z, s, _, r, t, fun y s1 Z1 vy H1 t1 k1 r1 a1 => ?_⟩
  cases y with
  | int k =>
    obtain ⟨ds, d, e1, ⟨k0, k63⟩, e2, t2⟩ := t1
    have a1' : vy = .int k := a1
    obtain ⟨a', vs', g1, g2, g3, _⟩ := r1.own i ds e1
    rw [h1] at g1; cases g1
    obtain ⟨v, e3, av⟩ := g3.get e2
    have hlt : k.toNat < vs'.length := by rw [g3.len]; exact (List.getElem?_eq_some_iff.mp e2).1
    subst a1'
    exact ⟨a, vs', k, k.toNat, v, rfl, rfl, g2, by omega, k63, seqIndex_of k0 (by omega), e3, q _ _ Z1 _ _ t2 k1 (r1.write e1 h1 (g3.eraseIdx k.toNat)) av⟩
  | _ => exact t1.elim
end
end Pm

set_option Elab.async false
set_option linter.all false
set_option maxRecDepth 100000
set_option maxHeartbeats 1000000
set_option autoImplicit false
namespace Pm
open PySem PySem.Spec
open PyProof.Rows hiding St
open L2
variable {γ : Type}
section
variable {prog : Program} {w : World} {A : Around} {E : Value → Shared → Prop} {s : Shared}
theorem rev_pick (xs : Array Value) : ((List.range xs.size).filterMap fun (k : Nat) => xs[(((xs.size : Int) - 1) + (k : Int) * (-1)).toNat]?).toArray = xs.toList.reverse.toArray := by
  have h := PySem.W.krv_all xs
  have e : (List.range xs.size).filterMap (fun (k : Nat) => xs[(((xs.size : Int) - 1) + (k : Int) * (-1)).toNat]?) = ((List.range xs.size).map fun k => xs.size - 1 - k).filterMap (xs[·]?) := by
    rw [List.filterMap_map]
    have : ∀ l : List Nat, (∀ k ∈ l, k < xs.size) → l.filterMap (fun (k : Nat) => xs[(((xs.size : Int) - 1) + (k : Int) * (-1)).toNat]?) = l.filterMap ((xs[·]?) ∘ fun k => xs.size - 1 - k) := fun l hl => by
      induction l with
      | nil => rfl
      | cons k l ih =>
        have hk := hl k (by simp)
        have e : (((xs.size : Int) - 1) + (k : Int) * (-1)).toNat = xs.size - 1 - k := by omega
        rw [List.filterMap_cons, List.filterMap_cons, e, ih fun j hj => hl j (by simp [hj])]; rfl
    exact this _ fun k hk => List.mem_range.mp hk
  rw [e, PySem.W.krv_range, List.filterMap_reverse, h]
theorem sliceApplied_rev {sl : Addr} {n : Nat} {vk : Value} {Q : Int × Int × Nat → Shared → Prop} (hs : s.heap.IsSliceOf sl .none .none vk) (pk : IsPart vk (some (-1))) (hQ : Q ((n : Int) - 1, -1, n) s) : wpAny (model prog w) A (Builtin.Slice.sliceApplied (.ref sl) (pure (n : Int))) Q E s := by
  obtain ⟨os, hos, hcs, hds⟩ := id hs
  unfold Builtin.Slice.sliceApplied Builtin.Slice.sliceFields
  refine wpAny_bind (wpAny_bind (wpAny_field hos hds (x := .none) rfl (wpAny_bind (wpAny_field hos hds (x := .none) rfl (wpAny_bind (wpAny_field hos hds (x := vk) rfl (wpAny_pure ?_)))))))
  refine wpAny_bind (HT.slicePart_ pk ?_)
  show wpAny _ _ (if ((-1 : Int) == 0) = true then _ else _) _ _ s
  rw [if_neg (by decide)]
  refine wpAny_bind (slicePart_none (wpAny_bind (slicePart_none (wpAny_bind (wpAny_pure ?_)))))
  show wpAny _ _ (match Builtin.Slice.sliceAdjust none none (-1) (n : Int) with | (lo, hi) => pure (lo, (-1 : Int), Builtin.Slice.slicePlaces lo hi (-1))) _ _ s
  have e : Builtin.Slice.sliceAdjust none none (-1) (n : Int) = ((n : Int) - 1, -1) := rfl
  rw [e]
  show wpAny _ _ (pure ((n : Int) - 1, (-1 : Int), Builtin.Slice.slicePlaces ((n : Int) - 1) (-1) (-1))) _ _ s
  have e2 : Builtin.Slice.slicePlaces ((n : Int) - 1) (-1) (-1) = n := by
    unfold Builtin.Slice.slicePlaces
    have h1 : ¬ ((-1 : Int) > 0) := by decide
    simp only [h1, if_false]
    split
    · have : ((n : Int) - 1 - -1 - 1) / (- -1) = (n : Int) - 1 := by
        rw [show (- -1 : Int) = 1 by decide, Int.ediv_one]; omega
      rw [this]; omega
    · omega
  rw [e2]
  exact wpAny_pure hQ
theorem getItem_tuple_rev {t sl : Addr} {items : Array Value} {vk : Value} {Q : Value → Shared → Prop} (ht : IsTup s.heap t items) (hs : s.heap.IsSliceOf sl .none .none vk) (pk : IsPart vk (some (-1)))
    (h : Q (.ref s.heap.objs.size) { s with heap := s.heap.push { cls := .type "tuple", data := .seq items.toList.reverse.toArray } }) (hsz : items.size ≤ sizeLine) : wpAny (model prog w) A (getItem (.ref t) (.ref sl)) Q E s := by
  have htake : sizeOk (.seq items.toList.reverse.toArray) := by
    show items.toList.reverse.toArray.size ≤ sizeLine
    simpa using hsz
  obtain ⟨os, hos, hcs, hds⟩ := id hs
  have hTs : s.TypeIs (.ref sl) "slice" := ⟨os, hos, hcs⟩
  unfold getItem
  try with_reducible refine wpAny_holding ?_
  first | refine wpAny_bind (wpAny_pure ?_) | skip
  refine wpAny_bind (wpAny_sequenceKey ht.typeIs (by decide) ?_)
  refine wpAny_bind (wpAny_callSpecial?_slot (name := Str.ofString "__getitem__") ht.typeIs PyProof.Rows.slot_tuple_getitem
    (wpAny_call_entry PyProof.Rows.slot_tuple_getitem ht.typeIs entry_tuple_getitem ?_ (args_tuple_getitem _ _)))
  show wpAny _ _ (Builtin.Tuple.tupleItemsOf (.ref t) >>= _) _ _ s
  refine wpAny_bind (tupleItemsOf_ ht ?_)
  refine wpAny_bind (wpAny_typeOf hTs ?_)
  rw [if_pos (by decide)]
  refine wpAny_bind (sliceApplied_rev hs pk ?_)
  have hno : ¬ ((((items.size : Int) - 1 == 0) && ((-1 : Int) == 1) && (items.size == items.size)) = true) := by simp
  show wpAny _ _ (if (((items.size : Int) - 1 == 0) && ((-1 : Int) == 1) && (items.size == items.size)) = true then _ else _) _ _ s
  rw [if_neg hno, rev_pick]
  first
    | exact wpAny_bind (m := Builtin.Tuple.tupleExact _) (wpAny_newObj_type (wpAny_pure ⟨_, rfl, wpAny_pure h⟩) htake)
    | exact wpAny_bind (m := Builtin.Tuple.tupleExact _) (wpAny_newObj_type (wpAny_bind (wpAny_pure (wpAny_pure ⟨_, rfl, wpAny_pure h⟩))) htake)
    | exact wpAny_bind (wpAny_bind (m := Builtin.Tuple.tupleExact _) (wpAny_newObj_type (wpAny_pure (wpAny_pure ⟨_, rfl, wpAny_pure h⟩)) htake))
    | exact wpAny_bind (wpAny_bind (m := Builtin.Tuple.tupleExact _) (wpAny_newObj_type (wpAny_pure ⟨_, rfl, wpAny_pure h⟩) htake))
theorem pick_all (items : Array Value) : slicePick items none none (some 1) = items := by
  have e : slicePick items none none (some 1) = slicePick items none none none := rfl
  rw [e]
  unfold slicePick
  have e2 : sliceBounds none none none items.size = (0, (items.size : Int), 1) := rfl
  rw [e2]
  show ((sliceRange 0 (items.size : Int) 1).filterMap (items[·]?)).toArray = items
  have e3 : sliceRange 0 (items.size : Int) 1 = List.range items.size := by
    unfold sliceRange
    have h1 : ((1 : Int) > 0) := by decide
    simp only [h1, if_true]
    by_cases h : (0 : Int) < (items.size : Int)
    · rw [if_pos h]
      have : ((items.size : Int) - 0 + 1 - 1) / 1 = (items.size : Int) := by rw [Int.ediv_one]; omega
      rw [this, Int.toNat_natCast]
      refine (List.map_congr_left fun k _ => ?_).trans (List.map_id _)
      show (0 + 1 * (k : Int)).toNat = k
      omega
    · have : items.size = 0 := by omega
      rw [if_neg h, this]; rfl
  rw [e3, PySem.W.krv_all]
end
section
variable {X : Cx} {G : GP γ} {e c : Expr} {p3 pos : Pos}
def tStep (K : PySem.W.Frag) (te tc : TE) : TE := fun σ H Q => te σ H fun x H1 => tPart tc σ H1 fun o H2 => ∃ a xs k, x = .ref a ∧ o = some k ∧ (k = 1 ∨ k = -1) ∧
  ((SqL K H2 a xs ∧ ∀ p, H2 p = none → Q (.ref p) (upd H2 p (.lst (if k = 1 then xs else xs.reverse)))) ∨ (SqT K H2 a xs ∧ k = -1 ∧ ∀ p, H2 p = none → Q (.ref p) (upd H2 p (.tup xs.reverse))))
theorem pe_step {te tc : TE} (he : PE X e te) (hcx : PE X c tc) : PE X (.Subscript e (.Slice none none (some c) p3) pos) (tStep X.K te tc) := by
  refine ⟨fun pins s σ H Q I h => ?_⟩
  refine Subscript_ (thn (he.run pins s σ H _ I h) fun v s1 ⟨x, H1, I1, r1, q1⟩ => ?_)
  have hst : PO X (some c) (tPart tc) := po_some hcx
  refine wpAny_Slice (thn (po_none.run pins s1 σ H1 (fun o H2 => o = none ∧ H2 = H1) I1 ⟨rfl, rfl⟩) fun vl s2 ⟨l, H2, I2, pl, el, e2⟩ => ?_)
  subst el e2
  refine thn (po_none.run pins s2 σ H2 (fun o H3 => o = none ∧ H3 = H2) I2 ⟨rfl, rfl⟩) fun vu s3 ⟨u, H3, I3, pu, eu, e3⟩ => ?_
  subst eu e3
  refine thn (hst.run pins s3 σ H3 _ I3 q1) fun vs s4 ⟨o, H4, I4, ps, a, xs, k, ex, eo, ek, q⟩ => ?_
  subst ex eo
  cases r1
  cases pl
  cases pu
  have I5 : L2.Inv X pins σ H4 { s4 with heap := s4.heap.push { cls := .type "slice", data := .fields #[.none, .none, vs] } } := I4.kept (t' := s4.toks) fun b ob q => Heap.get?_push_of_some _ q
  rcases q with ⟨hx, q⟩ | ⟨hx, rfl, q⟩
  · obtain ⟨its, r, ht, hz⟩ := I5.list hx
    have hlen := r.length
    refine tail_any (ops := [.ref a, .ref s4.heap.objs.size]) ht.isList.typeIs (PySem.slot_list_getitem.lookup) ?_ (by with_unfolding_all rfl)
    refine wpAny_getItem_list_slice ht.isList (Heap.IsSliceOf.new _ .none .none vs) .none .none ps (by rcases ek with rfl | rfl <;> decide) ?_ (by rw [List.size_toArray]; omega)
    rcases ek with rfl | rfl
    · rw [pick_all]
      refine ⟨.ref _, _, I5.laid (t' := s4.toks) (o := .lst xs) (fun b ob q => Heap.get?_push_of_some _ q) (Nat.le_refl _) ?_, rfl, q _ (I5.hok.fresh (Nat.le_refl _))⟩
      exact ⟨hz, _, 0, r, Heap.get?_push_size _ rfl⟩
    · rw [PySem.W.krv_pick]
      refine ⟨.ref _, _, I5.laid (t' := s4.toks) (o := .lst xs.reverse) (fun b ob q => Heap.get?_push_of_some _ q) (Nat.le_refl _) ?_, rfl, q _ (I5.hok.fresh (Nat.le_refl _))⟩
      exact ⟨by rw [List.length_reverse]; exact hz, _, 0, r.reverse, Heap.get?_push_size _ rfl⟩
  · obtain ⟨its, r, ht, hz⟩ := I5.tuple hx
    have hlen := r.length
    refine tail_any (ops := [.ref a, .ref s4.heap.objs.size]) ht.typeIs (PyProof.Rows.slot_tuple_getitem.lookup) ?_ (by with_unfolding_all rfl)
    refine getItem_tuple_rev (items := its.toArray) ht (Heap.IsSliceOf.new _ .none .none vs) ps ?_ (by rw [List.size_toArray]; omega)
    refine ⟨.ref _, _, I5.laid (t' := s4.toks) (o := .tup xs.reverse) (fun b ob q => Heap.get?_push_of_some _ q) (Nat.le_refl _) ?_, rfl, q _ (I5.hok.fresh (Nat.le_refl _))⟩
    exact ⟨by rw [List.length_reverse]; exact hz, _, r.reverse, IsTup.new _ _⟩
def qStep (te tc : PEx γ) : PEx γ := fun s R => te s fun d s1 => tc s1 fun k s2 => match d, k with
  | .lst xs, .int k => (k = 1 ∨ k = -1) ∧ R (.lst (if k = 1 then xs else xs.reverse)) s2
  | .tup xs, .int k => k = -1 ∧ R (.tup xs.reverse) s2
  | _, _ => False
theorem qe_step {te tc : PEx γ} (he : QE X G e te) (hc : QE X G c tc) (hK : X.K = G.K := by rfl) : QE X G (.Subscript e (.Slice none none (some c) p3) pos) (qStep te tc) := by
  refine PE.imp (pe_step he hc) fun σ H Q ⟨F, Z, s, R, r, t, q⟩ => ?_
  refine ⟨F, Z, s, _, r, t, fun d s1 Z1 v1 H1 t1 k1 r1 a1 => ⟨F, Z1, s1, _, r1, t1, fun y s2 Z2 v2 H2 t2 k2 r2 a2 => ?_⟩⟩
  have a1 := At.mono k2 _ _ a1
  cases d with
  | lst xs =>
    cases y with
    | int k =>
      obtain ⟨a, vs, rfl, h1, h2⟩ := a1
      have a2' : v2 = .int k := a2
      refine ⟨k, a2', a, vs, k, rfl, rfl, t2.1, .inl ⟨.inl (.inl (r2.z _ _ h1)), fun p hp => ?_⟩⟩
      have x := Ext.new (o := HO.lst (if k = 1 then vs else vs.reverse)) r2.z hp
      refine q _ s2 _ _ _ t2.2 ((k1.trans k2).trans x.zz) (r2.ext x) ⟨p, _, rfl, upd_same, ?_⟩
      have h2 := Ats.mono x.zz _ _ h2
      by_cases hk : k = 1
      · simp only [if_pos hk] at h2 ⊢; exact h2
      · simp only [if_neg hk] at h2 ⊢; exact h2.reverse
    | _ => exact t2.elim
  | tup xs =>
    cases y with
    | int k =>
      obtain ⟨a, vs, rfl, h1, h2⟩ := a1
      have a2' : v2 = .int k := a2
      refine ⟨k, a2', a, vs, k, rfl, rfl, .inr t2.1, .inr ⟨by rw [hK]; exact seqT r2.z h1, t2.1, fun p hp => ?_⟩⟩
      have x := Ext.new (o := HO.tup vs.reverse) r2.z hp
      exact q _ s2 _ _ _ t2.2 ((k1.trans k2).trans x.zz) (r2.ext x) ⟨p, _, rfl, .inl (.inl upd_same), (Ats.mono x.zz _ _ h2).reverse⟩
    | _ => exact t2.elim
  | _ => exact t2.elim
end
end Pm

set_option Elab.async false
set_option linter.all false
set_option maxRecDepth 100000
set_option maxHeartbeats 1000000
set_option autoImplicit false
namespace Pm
open PySem PySem.Spec PySem.W
open PyProof.Rows hiding St
open L2
def IsTi (h : Heap) (v : Value) (ns : List Int) : Prop := ∃ (a : Addr) (dd : Option Addr) (items : Array Value) (n : Nat) (sl : Array (Option Value)), v = .ref a ∧ h.get? a = some { cls := .type "tuple", dict := dd, data := .seq items n, slots := sl } ∧ IntsAre items.toList ns
theorem IsTi.keeps {h h' : Heap} {v : Value} {ns : List Int} (x : IsTi h v ns) (k : ∀ b o, v = .ref b → h.get? b = some o → h'.get? b = some o) : IsTi h' v ns := by
  obtain ⟨a, dd, items, n, sl, e, g, i⟩ := x
  exact ⟨a, dd, items, n, sl, e, k _ _ e g, i⟩
theorem IsTi.type {M : Model} {h : Heap} {v : Value} {ns : List Int} (x : IsTi h v ns) : Looks M h (typeOf v) (.type "tuple") := by
  obtain ⟨a, dd, items, n, sl, rfl, g, i⟩ := x
  exact (Looks.ld g).andThen .now
section
variable {prog : Program} {w : World} {A : Around} {E : Value → Shared → Prop} {s : Shared}
theorem IsTi.inst {M : Model} {h : Heap} {v : Value} {ns : List Int} (x : IsTi h v ns) : Looks M h (isInstance v (.type "tuple")) true :=
  (x.type (M := M)).andThen (Looks.of_pure (by rw [isSubtype_type]; kernel_rfl))
theorem call_ltT {a b : Addr} {dd dd2 : Option Addr} {items items2 : Array Value} {n n2 : Nat} {sl sl2 : Array (Option Value)} {ns ms : List Int} {Q : Value → Shared → Prop} (ga : s.heap.get? a = some { cls := .type "tuple", dict := dd, data := .seq items n, slots := sl })
    (gb : s.heap.get? b = some { cls := .type "tuple", dict := dd2, data := .seq items2 n2, slots := sl2 }) (ia : IntsAre items.toList ns) (ib : IntsAre items2.toList ms) (iv : Looks (model prog w) s.heap (isInstance (.ref a) (.type "tuple")) true)
    (iu : ∀ M : Model, Looks M s.heap (isInstance (.ref b) (.type "tuple")) true) (h : Q (.bool (HT.lexLt ns ms)) s) : wpAny (model prog w) A (call (.builtin "tuple.__lt__") [.ref a, .ref b]) Q E s := by
  refine wpAny_call (codeAny_call_builtin PySem.F.slot_tuple_lt.plain PySem.F.entry_tuple_lt (@check_slot (model prog w) _ _ _ "tuple.__lt__" "tuple" "__lt__" (.ref a) [.ref b] [] _ (by decide +kernel) (by decide +kernel) iv (PySem.F.args_tuple_lt_2 _ _) ?_))
  refine wpAny_mono (NtL.nt_lt_ints a b (.type "tuple") (.type "tuple") items items2 n n2 dd dd2 sl sl2 ns ms ia ib prog w _ (wants Q E) s ⟨ga, gb, iu, h⟩) (fun fin s' q => ?_) fun _ _ z => z
  cases fin with
  | done f => exact q
  | again c => exact q
theorem lt_ti {v u : Value} {ns ms : List Int} {Q : Bool → Shared → Prop} (hu : A.units < cLine) (hv : IsTi s.heap v ns) (hw : IsTi s.heap u ms) (h : Q (HT.lexLt ns ms) s) : wpAny (model prog w) A (keyLt' oneType' v u) Q E s := by
  have sp : Looks (model prog w) s.heap (specialOf v "__lt__") (some (.builtin "tuple.__lt__")) := hv.type.andThen (Looks.of_pure PySem.F.slot_tuple_lt.lookup)
  have iv : Looks (model prog w) s.heap (isInstance v (.type "tuple")) true := hv.inst
  have iu : ∀ M : Model, Looks M s.heap (isInstance u (.type "tuple")) true := fun M => hw.inst
  obtain ⟨a, dd, items, n, sl, rfl, ga, ia⟩ := hv
  obtain ⟨b, dd2, items2, n2, sl2, rfl, gb, ib⟩ := hw
  rw [keyLt'_oneType, oneLt'_eq]
  simp only [if_true]
  refine wpAny_bind (wpAny_cRoomFor hu ?_)
  refine wpAny_bind (NtL.csib (E := E) sp (PySem.F.slot_tuple_lt.bind _) (call_ltT ga gb ia ib iv iu ?_))
  exact wpAny_truthy_bool h
theorem ti_cmp {vs : List Value} {k : Value → List Int} (hu : A.units < cLine) (hv : ∀ v ∈ vs, IsTi s.heap v (k v)) : SrtO.Cmp prog w A s oneType' (fun p => p.1 ∈ vs) (SrtO.lt2 fun v u => HT.lexLt (k v) (k u)) := by
  intro p q hp hq
  exact lt_ti (Q := fun r s' => s' = s ∧ r = HT.lexLt (k p.1) (k q.1)) (E := fun _ _ => False) hu (hv p.1 hp) (hv q.1 hq) ⟨rfl, rfl⟩
theorem mapM_wp {β : Type} {M : Model} {A : Around} {E : Value → Shared → Prop} {s : Shared} {f : Value → Sem β} {r : Value → β} : ∀ {vs : List Value} {Q : List β → Shared → Prop}, (∀ v ∈ vs, ∀ Q : β → Shared → Prop, Q (r v) s → wpAny M A (f v) Q E s) → Q (vs.map r) s → wpAny M A (vs.mapM f) Q E s
  | [], Q, _, h => by rw [List.mapM_nil]; exact wpAny_pure h
  | v :: vs, Q, hf, h => by
    rw [List.mapM_cons]
    refine wpAny_bind (hf v (by simp) _ (wpAny_bind (mapM_wp (fun u hu => hf u (by simp [hu])) (wpAny_pure h))))
theorem ti_kind {vs : List Value} {k : Value → List Int} {v0 : Value} {Q : SortKind → Shared → Prop} (hv : ∀ v ∈ v0 :: vs, IsTi s.heap v (k v)) (h0 : k v0 = []) (h : Q oneType' s) : wpAny (model prog w) A (keyKind' (v0 :: vs).toArray) Q E s := by
  have first : ∀ v ∈ v0 :: vs, ∃ r : Option Value, (k v = [] → r = none) ∧ ∀ (A : Around) (Q : Option Value → Shared → Prop), Q r s → wpAny (model prog w) A (firstOfTuple' v) Q E s := fun v hm => by
    have tv := (hv v hm).type (M := model prog w)
    obtain ⟨a, dd, items, n, sl, rfl, g, i⟩ := hv v hm
    refine ⟨items[0]?, fun e => ?_, fun A Q hq => ?_⟩
    · rw [e] at i
      have hz : items.toList.length = 0 := i.length
      have hz2 : items.size = 0 := by simpa using hz
      simp [hz2]
    · rw [kas_first_eq]
      refine wpAny_bind (tv.here ?_)
      rw [if_neg (by decide)]
      refine wpAny_bind (m := Builtin.List.listItems (.ref a)) ?_
      unfold Builtin.List.listItems
      exact wpAny_bind (wpAny_seqItems g rfl (wpAny_pure (wpAny_pure hq)))
  classical
  let r : Value → Option Value := fun v => if hm : v ∈ v0 :: vs then (first v hm).choose else none
  have hr : ∀ v (hm : v ∈ v0 :: vs), (k v = [] → r v = none) ∧ ∀ (A : Around) (Q : Option Value → Shared → Prop), Q (r v) s → wpAny (model prog w) A (firstOfTuple' v) Q E s := fun v hm => by
    have e : r v = (first v hm).choose := dif_pos hm
    rw [e]; exact (first v hm).choose_spec
  have r0 : r v0 = none := (hr v0 (by simp)).1 h0
  rw [keyKind'_eq, List.mapM_toArray, map_eq_pure_bind]
  refine wpAny_bind (wpAny_bind (mapM_wp (r := r) (fun v hm Q' hq => (hr v hm).2 _ _ hq) (wpAny_pure ?_)))
  have e1 : ((List.map r (v0 :: vs)).toArray.all fun x => x.isSome) = false := by
    rw [List.map_cons, r0]; simp
  have e2 : ((List.map r (v0 :: vs)).toArray[0]?.bind id).isSome = false := by
    rw [List.map_cons, r0]; simp
  rw [e1, if_neg (by decide), e2, if_neg (by decide)]
  rw [oneTypeOnly'_eq, List.mapM_toArray, map_eq_pure_bind]
  refine wpAny_bind (wpAny_bind (wpAny_bind (mapM_wp (r := fun _ => Value.type "tuple") (fun v hm Q' hq => ((hv v hm).type).here hq) (wpAny_pure ?_))))
  have hall : ((List.map (fun _ => Value.type "tuple") (v0 :: vs)).toArray.all fun x => x == Value.type "tuple") = true := by
    simp only [List.all_toArray, List.all_map, List.all_eq_true]
    intro _ _
    rfl
  have h0' : (List.map (fun _ => Value.type "tuple") (v0 :: vs)).toArray[0]? = some (Value.type "tuple") := by simp
  rw [h0']
  simp only [hall, if_true]
  exact wpAny_pure (wpAny_pure h)
theorem ti_sortable {a : Addr} {vs : List Value} {v0 : Value} {k : Value → List Int} (hu : A.units < cLine) (hv : ∀ v ∈ v0 :: vs, IsTi s.heap v (k v)) (h0 : k v0 = []) (ha : ∀ v ∈ v0 :: vs, v ≠ .ref a) :
    SrtO.SortableO prog w A s a (v0 :: vs) fun v u => HT.lexLt (k v) (k u) := by
  intro h' keep
  have hv' : ∀ v ∈ v0 :: vs, IsTi h' v (k v) := fun v hm => (hv v hm).keeps fun b o e g => keep b o (fun z => ha v hm (by rw [e, z])) g
  exact ⟨oneType', fun Q E hq => ti_kind (s := { s with heap := h' }) hv' h0 hq, ti_cmp (s := { s with heap := h' }) hu hv'⟩
end
def tiD (ns : List Int) : D := .tup (ns.map .int)
def sortedFT : List D → (List D → Prop) → Prop := fun ds R => ∃ nss : List (List Int), ds = [.lst (([] :: nss).map tiD)] ∧ ∀ out : List (List Int), out.Perm ([] :: nss) → out.Pairwise (fun a b => HT.lexLt b a = false) → R (out.map tiD)
theorem ats_each {K : PySem.W.Frag} {Z : Hp} : ∀ {nss : List (List Int)} {vs : List V}, Ats K Z (nss.map tiD) vs → ∀ (i : Nat) v, vs[i]? = some v → ∃ ns, nss[i]? = some ns ∧ ∃ a, v = .ref a ∧ SqT K Z a (ns.map V.int)
  | [], vs, h, i, v, e => by simp only [List.map_nil, Ats] at h; subst h; simp at e
  | ns :: nss, vs, ⟨w, ws, e1, h1, h2⟩, i, v, e => by
    subst e1
    cases i with
    | zero =>
      simp only [List.getElem?_cons_zero, Option.some.injEq] at e
      subst e
      obtain ⟨a, us, rfl, g1, g2⟩ := h1
      rw [g2.ints] at g1
      exact ⟨ns, rfl, a, rfl, g1⟩
    | succ i =>
      obtain ⟨ms, e2, r⟩ := ats_each h2 i v (by simpa using e)
      exact ⟨ms, by simpa using e2, r⟩
theorem c_sortedT {X : Cx} {k : Nat} (hr : Room k X.A) : CallR X (.builtin "sorted") (dCallF X.K sortedFT) := by
  intro pins s σ H xs us Q I r h
  obtain ⟨Z, ds, R, kz, a, ⟨nss, rfl, w⟩, q⟩ := h
  obtain ⟨v, rfl, a1⟩ := Ats.one a
  obtain ⟨p, vs, rfl, a2, a3⟩ := a1
  have each := ats_each a3
  obtain ⟨its, rv, hl, hz⟩ := I.list (.inl (.inl (kz _ _ a2)))
  rw [Vals.ref1 r]
  obtain ⟨e1, e2⟩ := bkV_refs rv fun x m => by
    obtain ⟨i, hi⟩ := List.mem_iff_getElem?.mp m
    obtain ⟨_, _, t, e, _⟩ := each i x hi
    exact ⟨t, e⟩
  have hu : X.A.units + 64 < cLine := by have := hr.units; omega
  -- the ints of each
  have hints : ∀ (i : Nat) u, its[i]? = some u → ∃ ns, ([] :: nss)[i]? = some ns ∧ TS.TupInts s.heap u ns ∧ At X.K Z (tiD ns) (bkV u) := fun i u hi => by
    have hvi : vs[i]? = some (bkV u) := by rw [e1, List.getElem?_map, hi]; rfl
    obtain ⟨ns, h1, t, h2, h3⟩ := each i _ hvi
    have eu := bkV_ref h2
    refine ⟨ns, h1, ?_, ?_⟩
    · rw [eu]; exact tupI_raw I (seqT kz h3)
    · rw [h2]; exact ⟨t, _, rfl, h3, Ats.of_ints ns⟩
  have isTi : ∀ (s' : Shared) (u : Value) (ns : List Int), TS.TupInts s'.heap u ns → IsTi s'.heap u ns := fun s' u ns ⟨t, items, e, ⟨⟨cls, dd, data, sl⟩, ho, hc, n, hd⟩, i⟩ => by
    simp only at hc hd
    subst hc hd
    exact ⟨t, dd, items, n, sl, e, ho, i⟩
  have hlen : its.length = nss.length + 1 := by
    have h1 := a3.len
    rw [e1, List.length_map, List.length_map, List.length_cons] at h1
    exact h1
  obtain ⟨u0, ur, rfl⟩ : ∃ u0 ur, its = u0 :: ur := by
    cases its with
    | nil => simp at hlen
    | cons u0 ur => exact ⟨u0, ur, rfl⟩
  have kint : ∀ u ∈ u0 :: ur, ∃ ns, TS.TupInts s.heap u ns ∧ At X.K Z (tiD ns) (bkV u) := fun u hm => by
    obtain ⟨i, hi⟩ := List.mem_iff_getElem?.mp hm
    obtain ⟨ns, _, h2, h3⟩ := hints i u hi
    exact ⟨ns, h2, h3⟩
  have k0 : TS.intsOf s.heap u0 = [] := by
    obtain ⟨ns, h1, h2, _⟩ := hints 0 u0 rfl
    cases h1
    exact h2.ints
  have kmap : (u0 :: ur).map (TS.intsOf s.heap) = [] :: nss := by
    refine List.ext_getElem? fun i => ?_
    rw [List.getElem?_map]
    cases hi : (u0 :: ur)[i]? with
    | none =>
      have := List.getElem?_eq_none_iff.mp hi
      rw [List.getElem?_eq_none (by simp only [List.length_cons] at hlen this ⊢; omega)]; rfl
    | some u =>
      obtain ⟨ns, h1, h2, _⟩ := hints i u hi
      rw [h1]
      show some (TS.intsOf s.heap u) = some ns
      rw [h2.ints]
  refine SrtO.sorted_ord (NtL.swo_lexL (TS.intsOf s.heap)) hl.isList (by rw [← rv.length]; exact hz) (fun h2 h₁ b hb kk => ?_) fun out h1 h2 => ?_
  · refine ti_sortable (s := { s with heap := h₁ }) (k := TS.intsOf s.heap) (by show X.A.units + 1 + 1 < cLine; omega) (fun u hm => ?_) k0 fun u hm e => ?_
    · obtain ⟨ns, h3, _⟩ := kint u hm
      have h4 := isTi s u ns h3
      rw [h3.ints]
      exact h4.keeps fun c o _ e => (kk c o e).2
    · obtain ⟨ns, h3, _⟩ := kint u hm
      obtain ⟨t, dd, items, n, sl, e', g, _⟩ := isTi s u ns h3
      rw [e'] at e
      cases e
      exact (kk _ _ g).1 rfl
  · obtain ⟨ep, he'⟩ := PyProof.Rows.sortedAll_at s.heap (u0 :: ur) out.toArray
    have h3 : ∀ u ∈ out, ∃ a, u = Value.ref a := fun u hu => e2 u (h2.perm.mem_iff.mp hu)
    have hp : (out.map bkV).length = vs.length := by rw [e1, List.length_map, List.length_map, h2.perm.length_eq]
    have fr : H (s.heap.objs.size + 1) = none := I.hok.fresh (Nat.le_succ _)
    have ha : ∀ l : List Value, (∀ u ∈ l, u ∈ u0 :: ur) → Ats X.K Z ((l.map (TS.intsOf s.heap)).map tiD) (l.map bkV) := fun l => by
      induction l with
      | nil => intro _; rfl
      | cons u l ih =>
        intro hm
        obtain ⟨ns, h4, h5⟩ := kint u (hm u (by simp))
        refine ⟨_, _, rfl, ?_, ih fun z hz => hm z (by simp [hz])⟩
        rw [h4.ints]; exact h5
    have pk : (out.map (TS.intsOf s.heap)).Perm ([] :: nss) := by
      rw [← kmap]; exact h2.perm.map _
    have sk : (out.map (TS.intsOf s.heap)).Pairwise (fun a b => HT.lexLt b a = false) := List.pairwise_map.mpr h1
    have hq := w _ pk sk
    refine ⟨.ref _, upd H (s.heap.objs.size + 1) (.lst (out.map bkV)), I.laid (t' := s.toks) (fun _ _ => PyProof.Rows.sortedAll_old) (Nat.le_succ _) ⟨by rw [hp]; exact hz, out, ep, bkV_vals h3, he'⟩, rfl, ?_⟩
    exact q _ _ _ _ hq (same_upd fr) fr upd_same (ha out fun u hu => h2.perm.mem_iff.mp hu)
end Pm

set_option Elab.async false
set_option linter.all false
set_option maxRecDepth 100000
set_option maxHeartbeats 1000000
set_option autoImplicit false
namespace Pm
open PySem PySem.Spec
open PyProof.Rows hiding St
open L2
theorem lex_eq : ∀ {a b : List Int}, HT.lexLt a b = false → HT.lexLt b a = false → a = b
  | [], [], _, _ => rfl
  | [], y :: b, h, _ => by simp [HT.lexLt_nil_cons] at h
  | x :: a, [], _, h => by simp [HT.lexLt_nil_cons] at h
  | x :: a, y :: b, h, h' => by
    rw [HT.lexLt_cons] at h h'
    by_cases e : x = y
    · rw [if_pos e] at h
      rw [if_pos e.symm] at h'
      rw [e, lex_eq h h']
    · rw [if_neg e] at h
      rw [if_neg fun z => e z.symm] at h'
      have := of_decide_eq_false h
      have := of_decide_eq_false h'
      omega
theorem sorted_eq {α : Type} {R : α → α → Prop} (anti : ∀ a b, R a b → R b a → a = b) : ∀ {l k : List α}, l.Perm k → l.Pairwise R → k.Pairwise R → l = k
  | [], k, h, _, _ => h.nil_eq
  | a :: l, [], h, _, _ => absurd h.symm.nil_eq (by simp)
  | a :: l, b :: k, h, h1, h2 => by
    have e : a = b := by
      have ha : a ∈ b :: k := h.mem_iff.mp (by simp)
      have hb : b ∈ a :: l := h.mem_iff.mpr (by simp)
      rw [List.pairwise_cons] at h1 h2
      rcases List.mem_cons.mp ha with e | ha
      · exact e
      · rcases List.mem_cons.mp hb with e | hb
        · exact e.symm
        · exact anti a b (h1.1 b hb) (h2.1 a ha)
    subst e
    rw [List.pairwise_cons] at h1 h2
    rw [sorted_eq anti (List.Perm.cons_inv h) h1.2 h2.2]
def natsI (gs : List Nat) : List Int := gs.map fun i : Nat => (i : Int)
theorem grpS_tail_ne : ∀ {l g : List Nat}, g ∈ (grpS l).tail → g ≠ []
  | [], g, h => by simp [grpS] at h
  | i :: l, g, h => by
    simp only [grpS, List.tail_cons, List.mem_append, List.mem_map] at h
    rcases h with ⟨k, _, rfl⟩ | h
    · simp
    · exact grpS_tail_ne h
theorem grpS_sorted : ∀ {l : List Nat}, l.Pairwise (· < ·) → ((grpS l).map natsI).Pairwise (fun a b => HT.lexLt b a = false)
  | [], _ => by simp [grpS]
  | i :: l, h => by
    rw [List.pairwise_cons] at h
    have ih := grpS_sorted h.2
    obtain ⟨r, hr⟩ := grpS_cons_ne l
    rw [hr, List.map_cons, List.pairwise_cons] at ih
    simp only [grpS, List.map_cons, List.map_append, List.map_map, List.pairwise_cons, List.pairwise_append]
    refine ⟨fun b _ => by cases b <;> rfl, ?_, ?_, fun a ha b hb => ?_⟩
    · rw [List.pairwise_map]
      have ih2 : ((grpS l).map natsI).Pairwise (fun a b => HT.lexLt b a = false) := grpS_sorted h.2
      rw [List.pairwise_map] at ih2
      refine ih2.imp fun {a b} hab => ?_
      show HT.lexLt ((i : Int) :: natsI b) ((i : Int) :: natsI a) = false
      rw [HT.lexLt_cons, if_pos rfl]; exact hab
    · rw [hr, List.tail_cons]; exact ih.2
    · obtain ⟨a', _, rfl⟩ := List.mem_map.mp ha
      obtain ⟨b', hb', rfl⟩ := List.mem_map.mp hb
      have hne := grpS_tail_ne hb'
      have hs := grpS_sub (List.mem_of_mem_tail hb')
      cases b' with
      | nil => exact absurd rfl hne
      | cons j b' =>
        have hj := h.1 j (hs.subset (by simp))
        show HT.lexLt ((j : Int) :: natsI b') ((i : Int) :: natsI a') = false
        rw [HT.lexLt_cons, if_neg (by omega)]
        exact decide_eq_false (by omega)
theorem grpS_perm_cons (i : Nat) (l : List Nat) : (grpS (i :: l)).Perm (grpS l ++ (grpS l).map (i :: ·)) := by
  obtain ⟨r, hr⟩ := grpS_cons_ne l
  simp only [grpS, hr, List.tail_cons]
  rw [List.cons_append]
  exact List.Perm.cons _ List.perm_append_comm
theorem grpS_perm_snoc (x : Nat) : ∀ l : List Nat, (grpS (l ++ [x])).Perm (grpS l ++ (grpS l).map (· ++ [x]))
  | [] => by simp [grpS]
  | i :: l => by
    have ih := grpS_perm_snoc x l
    have h1 := grpS_perm_cons i (l ++ [x])
    have h2 := grpS_perm_cons i l
    have e : (List.map (fun g => g ++ [x]) ((grpS l).map (i :: ·))) = ((grpS l).map (· ++ [x])).map (i :: ·) := by rw [List.map_map, List.map_map]; rfl
    refine h1.trans (((ih.append (ih.map _)).trans ?_).trans (h2.append (h2.map _)).symm)
    rw [List.map_append, List.map_append, e]
    generalize grpS l = A
    generalize A.map (· ++ [x]) = B
    generalize A.map (i :: ·) = C
    generalize B.map (i :: ·) = F
    -- A ++ B ++ (C ++ F) ~ A ++ C ++ (B ++ F)
    rw [List.append_assoc, List.append_assoc]
    refine List.Perm.append_left A ?_
    rw [← List.append_assoc, ← List.append_assoc]
    exact List.Perm.append_right F List.perm_append_comm
def isI : D → Bool
  | .int _ => true
  | _ => false
def inI (lo hi : Int) : D → Bool
  | .int i => decide (lo ≤ i) && decide (i ≤ hi)
  | _ => false
def ascI (is : List Int) : Bool := (is.zip (is.drop 1)).all fun p => decide (p.1 < p.2)
def isG (n : Nat) : D → Bool
  | .tup xs => match asInts xs with
    | some is => (is.all fun i => decide (0 ≤ i) && decide (i ≤ (n : Int) - 1)) && ascI is
    | none => false
  | _ => false
theorem ascI_pw : ∀ {is : List Int}, ascI is = true ↔ is.Pairwise (· < ·)
  | [] => by simp [ascI]
  | [i] => by simp [ascI]
  | i :: j :: is => by
    have ih := ascI_pw (is := j :: is)
    have e : ascI (i :: j :: is) = (decide (i < j) && ascI (j :: is)) := by simp [ascI]
    rw [e, Bool.and_eq_true, ih, decide_eq_true_eq, List.pairwise_cons (a := i)]
    constructor
    · rintro ⟨h1, h2⟩
      refine ⟨fun k hk => ?_, h2⟩
      rw [List.pairwise_cons] at h2
      rcases List.mem_cons.mp hk with rfl | hk
      · exact h1
      · have := h2.1 k hk; omega
    · rintro ⟨h1, h2⟩
      exact ⟨h1 j (by simp), h2⟩
def GrOk (n : Nat) (gs : List Nat) : Prop := (∀ i ∈ gs, i < n) ∧ gs.Pairwise (· < ·)
theorem isG_gr {n : Nat} {gs : List Nat} (h : GrOk n gs) : isG n (grD gs) = true := by
  have e : asInts (gs.map natD) = some (natsI gs) := by
    have : gs.map natD = (natsI gs).map D.int := by unfold natsI; rw [List.map_map]; rfl
    rw [this]; exact asInts_map _
  show (match asInts (gs.map natD) with | some is => (is.all fun i => decide (0 ≤ i) && decide (i ≤ (n : Int) - 1)) && ascI is | none => false) = true
  rw [e]
  show ((natsI gs).all fun i => decide (0 ≤ i) && decide (i ≤ (n : Int) - 1)) && ascI (natsI gs)
  rw [Bool.and_eq_true, List.all_eq_true, ascI_pw]
  refine ⟨fun i hi => ?_, ?_⟩
  · obtain ⟨k, hk, rfl⟩ := List.mem_map.mp hi
    have := h.1 k hk
    simp; omega
  · unfold natsI
    rw [List.pairwise_map]
    exact h.2.imp fun {a b} hab => by omega
theorem isG_ex {n : Nat} {d : D} (h : isG n d = true) : ∃ gs, d = grD gs ∧ GrOk n gs := by
  cases d with
  | tup xs =>
    have h : (match asInts xs with | some is => (is.all fun i => decide (0 ≤ i) && decide (i ≤ (n : Int) - 1)) && ascI is | none => false) = true := h
    cases e : asInts xs with
    | none => rw [e] at h; cases h
    | some is =>
      rw [e] at h
      have h : ((is.all fun i => decide (0 ≤ i) && decide (i ≤ (n : Int) - 1)) && ascI is) = true := h
      rw [Bool.and_eq_true, List.all_eq_true, ascI_pw] at h
      have hb : ∀ i ∈ is, 0 ≤ i ∧ i ≤ (n : Int) - 1 := fun i hi => by have := h.1 i hi; simpa using this
      refine ⟨is.map Int.toNat, ?_, ?_, ?_⟩
      · rw [asInts_eq e]
        show D.tup (is.map D.int) = D.tup ((is.map Int.toNat).map natD)
        rw [List.map_map]
        congr 1
        refine List.map_congr_left fun i hi => ?_
        have := hb i hi
        show D.int i = .int ((i.toNat : Nat) : Int)
        congr 1; omega
      · intro i hi
        obtain ⟨k, hk, rfl⟩ := List.mem_map.mp hi
        have := hb k hk
        omega
      · rw [List.pairwise_map]
        refine h.2.imp_of_mem fun {a b} ha hb' hab => ?_
        have := hb a ha
        have := hb b hb'
        omega
  | _ => cases h
theorem GrOk.sub {n : Nat} {gs : List Nat} (h : GrOk n gs) : gs.Sublist (List.range n) := by
  have key : ∀ (m k : Nat) (gs : List Nat), (∀ i ∈ gs, k ≤ i ∧ i < k + m) → gs.Pairwise (· < ·) → gs.Sublist (List.range' k m) := by
    intro m
    induction m with
    | zero =>
      intro k gs h _
      cases gs with
      | nil => exact List.Sublist.refl _
      | cons a _ => have := h a (by simp); omega
    | succ m ih =>
      intro k gs h1 h2
      rw [List.range'_succ]
      cases gs with
      | nil => exact List.nil_sublist _
      | cons a gs =>
        rw [List.pairwise_cons] at h2
        by_cases e : a = k
        · subst e
          exact (ih (a + 1) gs (fun i hi => by have := h1 i (by simp [hi]); have := h2.1 i hi; omega) h2.2).cons_cons a
        · refine (ih (k + 1) (a :: gs) (fun i hi => ?_) (List.pairwise_cons.mpr h2)).cons k
          have := h1 i hi
          rcases List.mem_cons.mp hi with rfl | hi
          · omega
          · have := h2.1 i hi
            have := h1 a (by simp)
            omega
  rw [List.range_eq_range']
  exact key n 0 gs (fun i hi => ⟨by omega, by have := h.1 i hi; omega⟩) h.2
theorem GrOk.of_sub {n : Nat} {gs : List Nat} (h : gs.Sublist (List.range n)) : GrOk n gs :=
  ⟨fun i hi => List.mem_range.mp (h.subset hi), List.Pairwise.sublist h (List.pairwise_lt_range)⟩
def upR (gs : List Nat) (q : Int × Int) : Bool := decide (q.2.toNat ∈ gs) || !decide (q.1.toNat ∈ gs)
def upB (p : Pan) (gs : List Nat) : Bool := p.rus.all (upR gs)
def upG (p : Pan) : List (List Nat) := (grpS (List.range p.its.length)).filter (upB p)
def dnR (gs : List Nat) (q : Int × Int) : Bool := decide (q.1.toNat ∈ gs) || !decide (q.2.toNat ∈ gs)
def dnB (p : Pan) (gs : List Nat) : Bool := p.rus.all (dnR gs)
def dnG (p : Pan) : List (List Nat) := (grpS (List.range p.its.length)).filter (dnB p)
def eE (p : Pan) (a b : Nat) : Prop := ((a : Int), (b : Int)) ∈ p.rus
def mR (p : Pan) (i : Nat) : Rat := ((p.its.getD i (0, 1)).1 : Rat)
def wR (p : Pan) (i : Nat) : Rat := ((p.its.getD i (0, 1)).2 : Rat)
theorem upB_iff {m : Nat} {p : Pan} (hp : PanOk m p) {gs : List Nat} : upB p gs = true ↔ UpS (eE p) (fun i => decide (i ∈ gs)) := by
  unfold upB
  rw [List.all_eq_true]
  constructor
  · intro h a b e ha
    have := h _ e
    simp only [upR, Int.toNat_natCast, Bool.or_eq_true, Bool.not_eq_true', decide_eq_true_eq, decide_eq_false_iff_not] at this ha ⊢
    exact this.resolve_right fun z => z ha
  · intro h q hq
    obtain ⟨a1, a2, a3, a4, _⟩ := hp.ru q hq
    have e : eE p q.1.toNat q.2.toNat := by
      unfold eE
      have : (((q.1.toNat : Nat) : Int), ((q.2.toNat : Nat) : Int)) = q := by
        refine Prod.ext ?_ ?_ <;> (simp only; omega)
      rw [this]; exact hq
    have := h _ _ e
    simp only [decide_eq_true_eq] at this
    simp only [upR, Bool.or_eq_true, Bool.not_eq_true', decide_eq_true_eq, decide_eq_false_iff_not]
    by_cases z : q.1.toNat ∈ gs
    · exact .inl (this z)
    · exact .inr z
theorem dnB_iff {m : Nat} {p : Pan} (hp : PanOk m p) {gs : List Nat} : dnB p gs = true ↔ DnS (eE p) (fun i => decide (i ∈ gs)) := by
  unfold dnB
  rw [List.all_eq_true]
  constructor
  · intro h a b e ha
    have := h _ e
    simp only [dnR, Int.toNat_natCast, Bool.or_eq_true, Bool.not_eq_true', decide_eq_true_eq, decide_eq_false_iff_not] at this ha ⊢
    exact this.resolve_right fun z => z ha
  · intro h q hq
    obtain ⟨a1, a2, a3, a4, _⟩ := hp.ru q hq
    have e : eE p q.1.toNat q.2.toNat := by
      unfold eE
      have : (((q.1.toNat : Nat) : Int), ((q.2.toNat : Nat) : Int)) = q := by
        refine Prod.ext ?_ ?_ <;> (simp only; omega)
      rw [this]; exact hq
    have := h _ _ e
    simp only [decide_eq_true_eq] at this
    simp only [dnR, Bool.or_eq_true, Bool.not_eq_true', decide_eq_true_eq, decide_eq_false_iff_not]
    by_cases z : q.2.toNat ∈ gs
    · exact .inl (this z)
    · exact .inr z
theorem sM_sm (p : Pan) (gs : List Nat) : ((sM (selI p.its gs) : Int) : Rat) = sm (fun i => wR p i * mR p i) gs := by
  induction gs with
  | nil => rfl
  | cons i gs ih =>
    have e : selI p.its (i :: gs) = p.its.getD i (0, 1) :: selI p.its gs := rfl
    rw [e, sM_cons, Rat.intCast_add, ih, Rat.intCast_mul]
    simp only [sm, wR, mR]; grind
theorem sW_sm (p : Pan) (gs : List Nat) : ((sW (selI p.its gs) : Int) : Rat) = sm (wR p) gs := by
  induction gs with
  | nil => rfl
  | cons i gs ih =>
    have e : selI p.its (i :: gs) = p.its.getD i (0, 1) :: selI p.its gs := rfl
    rw [e, sW_cons, Rat.intCast_add, ih]
    simp only [sm, wR]
theorem avg_avS (p : Pan) (gs : List Nat) : avg (selI p.its gs) = avS (mR p) (wR p) gs := by
  unfold avg avS
  rw [← sM_sm, ← sW_sm, Rat.divInt_eq_div]
theorem wR_pos {m : Nat} {p : Pan} (hp : PanOk m p) {i : Nat} (h : i < p.its.length) : 0 < wR p i := by
  have := (hp.it _ (List.mem_of_getElem? (getD_at h))).2.2.1
  exact Rat.intCast_pos.mpr (by omega)
theorem rule_nats {n : Nat} {q : Int × Int} (h : RuOk n q) : ∃ a b : Nat, q = ((a : Int), (b : Int)) ∧ a < n ∧ b < n ∧ a ≠ b := by
  obtain ⟨h1, h2, h3, h4, h5⟩ := h
  refine ⟨q.1.toNat, q.2.toNat, Prod.ext (by simp only; omega) (by simp only; omega), by omega, by omega, by omega⟩
end Pm

set_option Elab.async false
set_option linter.all false
set_option maxRecDepth 100000
set_option maxHeartbeats 1000000
set_option autoImplicit false
namespace Pm
open PySem PySem.Spec
open PyProof.Rows hiding St
open L2
def BestP (p : Pan) (r : Nat → Rat) : Prop := Best (List.range p.its.length) (eE p) (mR p) (wR p) r
def inB (gs : List Nat) (i : Nat) : Bool := decide (i ∈ gs)
theorem range_filter {n : Nat} {gs : List Nat} (h : gs.Sublist (List.range n)) : (List.range n).filter (inB gs) = gs := sub_filter h List.nodup_range
theorem sub_ext {n : Nat} {a b : List Nat} (ha : a.Sublist (List.range n)) (hb : b.Sublist (List.range n)) (h : ∀ i, i ∈ a ↔ i ∈ b) : a = b := by
  rw [← range_filter ha, ← range_filter hb]
  exact List.filter_congr fun i _ => by unfold inB; rw [decide_eq_decide]; exact h i
def excI (its : List (Int × Int)) (part U : List Nat) : Int := sM (selI its U) * sW (selI its part) - sM (selI its part) * sW (selI its U)
def UPart (its : List (Int × Int)) (cl : List (List Nat)) (part U : List Nat) : Prop := (U = [] ∧ ∀ g ∈ cl, excI its part (g.filter (inB part)) ≤ 0) ∨
  (∃ g ∈ cl, U = g.filter (inB part) ∧ 0 < excI its part U ∧ ∀ g' ∈ cl, excI its part (g'.filter (inB part)) ≤ excI its part U)
section
variable {p : Pan} {m : Nat}
theorem exc_ex (hp : PanOk m p) {part : List Nat} (hn : part ≠ []) (hi : ∀ i ∈ part, i < p.its.length) (U : List Nat) : ((excI p.its part U : Int) : Rat) = ex (mR p) (wR p) (avS (mR p) (wR p) part) U * sm (wR p) part := by
  have hw : 0 < sm (wR p) part := sm_pos (fun i h => wR_pos hp (hi i h)) hn
  unfold excI
  rw [Rat.intCast_sub, Rat.intCast_mul, Rat.intCast_mul, sM_sm, sM_sm, sW_sm, sW_sm, ex_eq]
  unfold avS
  have e : sm (fun i => wR p i * mR p i) part / sm (wR p) part * sm (wR p) part = sm (fun i => wR p i * mR p i) part := Rat.div_mul_cancel (by grind)
  generalize sm (fun i => wR p i * mR p i) part / sm (wR p) part = A at *
  generalize sm (wR p) part = W at *
  generalize sm (fun i => wR p i * mR p i) part = T at *
  generalize sm (wR p) U = V at *
  generalize sm (fun i => wR p i * mR p i) U = M at *
  subst e
  grind
theorem exc_le (hp : PanOk m p) {part : List Nat} (hn : part ≠ []) (hi : ∀ i ∈ part, i < p.its.length) {U V : List Nat} : excI p.its part U ≤ excI p.its part V ↔ ex (mR p) (wR p) (avS (mR p) (wR p) part) U ≤ ex (mR p) (wR p) (avS (mR p) (wR p) part) V := by
  have hw : 0 < sm (wR p) part := sm_pos (fun i h => wR_pos hp (hi i h)) hn
  rw [← Rat.intCast_le_intCast, exc_ex hp hn hi, exc_ex hp hn hi]
  constructor
  · intro h
    rcases (show ex (mR p) (wR p) (avS (mR p) (wR p) part) U ≤ ex (mR p) (wR p) (avS (mR p) (wR p) part) V ∨ ex (mR p) (wR p) (avS (mR p) (wR p) part) V < ex (mR p) (wR p) (avS (mR p) (wR p) part) U by grind) with z | z
    · exact z
    · have := Rat.mul_lt_mul_of_pos_right z hw; grind
  · intro h
    exact Rat.mul_le_mul_of_nonneg_right h (Rat.le_of_lt hw)
theorem exc_nonpos (hp : PanOk m p) {part : List Nat} (hn : part ≠ []) (hi : ∀ i ∈ part, i < p.its.length) {U : List Nat} : excI p.its part U ≤ 0 ↔ ex (mR p) (wR p) (avS (mR p) (wR p) part) U ≤ 0 := by
  have h0 : excI p.its part [] = 0 := by simp [excI, selI, sM, sW]
  have := exc_le hp hn hi (U := U) (V := [])
  rw [h0] at this
  exact this
structure Parts (p : Pan) (ps : List (List Nat)) : Prop where
  ch : Chain (eE p) (mR p) (wR p) ps
  fl : ps.flatten.Perm (List.range p.its.length)
  sb : ∀ q ∈ ps, q.Sublist (List.range p.its.length)
  ne : ∀ q ∈ ps, q ≠ []
theorem Parts.lt {ps : List (List Nat)} (h : Parts p ps) {q : List Nat} (hq : q ∈ ps) : ∀ i ∈ q, i < p.its.length := fun i hi => List.mem_range.mp ((h.sb q hq).subset hi)
theorem eE_lt (hp : PanOk m p) {a b : Nat} (e : eE p a b) : a < p.its.length ∧ b < p.its.length := by
  obtain ⟨h1, h2, h3, h4, _⟩ := hp.ru _ e
  simp only at h2 h4
  omega
theorem Parts.nd {a b : List (List Nat)} {q : List Nat} (h : Parts p (a ++ q :: b)) : ∀ i ∈ q, i ∉ b.flatten ∧ i ∉ a.flatten := by
  have nd : (a ++ q :: b).flatten.Nodup := h.fl.nodup_iff.mpr List.nodup_range
  rw [List.flatten_append, List.flatten_cons, List.nodup_append, List.nodup_append] at nd
  intro i hi
  refine ⟨fun z => ?_, fun z => ?_⟩
  · exact nd.2.1.2.2 i hi i z rfl
  · exact nd.2.2 i z i (List.mem_append_left _ hi) rfl
theorem Parts.cut (hp : PanOk m p) {a b : List (List Nat)} {q : List Nat} (h : Parts p (a ++ q :: b)) {V : Nat → Bool} (hV : PUp (eE p) q V) : ∃ g ∈ upG p, g.filter (inB q) = q.filter V := by
  have ch := h.ch
  unfold Chain at ch
  rw [List.pairwise_append, List.pairwise_cons] at ch
  obtain ⟨c1, ⟨c2, c3⟩, c4⟩ := ch
  have gs : ((List.range p.its.length).filter fun i => (V i && inB q i) || inB b.flatten i).Sublist (List.range p.its.length) := List.filter_sublist
  have mem : ∀ i, i ∈ ((List.range p.its.length).filter fun i => (V i && inB q i) || inB b.flatten i) ↔ i < p.its.length ∧ ((V i = true ∧ i ∈ q) ∨ i ∈ b.flatten) := fun i => by
    simp [List.mem_filter, inB]
  refine ⟨_, List.mem_filter.mpr ⟨sub_grpS gs, (upB_iff hp).mpr fun x y e hx => ?_⟩, ?_⟩
  · obtain ⟨_, hy⟩ := eE_lt hp e
    simp only [decide_eq_true_eq] at hx ⊢
    rw [mem] at hx ⊢
    refine ⟨hy, ?_⟩
    have my : y ∈ (a ++ q :: b).flatten := h.fl.mem_iff.mpr (List.mem_range.mpr hy)
    rw [List.flatten_append, List.flatten_cons, List.mem_append, List.mem_append] at my
    rcases hx.2 with ⟨v, hq⟩ | hb
    · rcases my with my | my | my
      · obtain ⟨r, hr, yr⟩ := List.mem_flatten.mp my
        exact absurd e ((c4 r hr q (by simp)).2 y yr x hq)
      · exact .inl ⟨hV x hq y my e v, my⟩
      · exact .inr my
    · obtain ⟨r, hr, xr⟩ := List.mem_flatten.mp hb
      rcases my with my | my | my
      · obtain ⟨r2, hr2, yr⟩ := List.mem_flatten.mp my
        exact absurd e ((c4 r2 hr2 r (by simp [hr])).2 y yr x xr)
      · exact absurd e ((c2 r hr).2 y my x xr)
      · exact .inr my
  · refine sub_ext (List.filter_sublist.trans gs) (List.filter_sublist.trans (h.sb q (by simp))) fun i => ?_
    rw [List.mem_filter, mem, List.mem_filter]
    simp only [inB, decide_eq_true_eq]
    constructor
    · rintro ⟨⟨_, ⟨v, _⟩ | hb⟩, hq⟩
      · exact ⟨hq, v⟩
      · exact absurd hb (h.nd i hq).1
    · rintro ⟨hq, v⟩
      exact ⟨⟨h.lt (by simp) i hq, .inl ⟨v, hq⟩⟩, hq⟩
theorem Parts.whole (hp : PanOk m p) {a b : List (List Nat)} {q : List Nat} (h : Parts p (a ++ q :: b)) (hU : ∀ g ∈ upG p, excI p.its q (g.filter (inB q)) ≤ 0) : Whole (eE p) (mR p) (wR p) q := fun V hV => by
  obtain ⟨g, hg, e⟩ := h.cut hp hV
  rw [← e]
  exact (exc_nonpos hp (h.ne q (by simp)) (h.lt (by simp))).mp (hU g hg)
theorem Parts.split (hp : PanOk m p) {a b : List (List Nat)} {q U : List Nat} (h : Parts p (a ++ q :: b)) {g : List Nat} (hg : g ∈ upG p) (eU : U = g.filter (inB q)) (h0 : 0 < excI p.its q U) (hm : ∀ g' ∈ upG p, excI p.its q (g'.filter (inB q)) ≤ excI p.its q U) :
    q.filter (inB U) = U ∧ Parts p (a ++ q.filter (fun i => !inB U i) :: U :: b) ∧ U ≠ [] ∧ q.filter (fun i => !inB U i) ≠ [] := by
  have gq := List.mem_filter.mp hg
  have gsub := grpS_sub gq.1
  have qs := h.sb q (by simp)
  have qn := h.ne q (by simp)
  have ql := h.lt (q := q) (by simp)
  have us : U.Sublist (List.range p.its.length) := by rw [eU]; exact List.filter_sublist.trans gsub
  have mU : ∀ i, i ∈ U ↔ i ∈ g ∧ i ∈ q := fun i => by rw [eU, List.mem_filter]; simp [inB]
  have e1 : q.filter (inB U) = U := sub_ext (List.filter_sublist.trans qs) us fun i => by
    rw [List.mem_filter]
    simp only [inB, decide_eq_true_eq, mU]
    exact ⟨fun z => z.2, fun z => ⟨z.2, z⟩⟩
  have gu := (upB_iff hp).mp gq.2
  have sp : Split (eE p) (mR p) (wR p) q (inB U) := by
    refine ⟨fun x hx y hy e k => ?_, fun V hV => ?_⟩
    · simp only [inB, decide_eq_true_eq, mU] at k ⊢
      have := gu x y e (by simpa using k.1)
      exact ⟨by simpa using this, hy⟩
    · obtain ⟨g', hg', e'⟩ := h.cut hp hV
      rw [← e', e1]
      exact (exc_le hp qn ql).mp (hm g' hg')
  have wp : ∀ i ∈ q, 0 < wR p i := fun i hi => wR_pos hp (ql i hi)
  have un : U ≠ [] := fun z => by rw [z] at h0; simp [excI, selI, sM, sW] at h0
  have rn : q.filter (fun i => !inB U i) ≠ [] := fun z => by
    have : q.filter (inB U) = q := by
      refine List.filter_eq_self.mpr fun i hi => ?_
      cases k : inB U i with
      | true => rfl
      | false =>
        have : i ∈ q.filter (fun i => !inB U i) := List.mem_filter.mpr ⟨hi, by simp [k]⟩
        rw [z] at this; cases this
    rw [e1] at this
    rw [this] at h0
    simp [excI] at h0
  have ch := h.ch.split sp (fun i hi => Rat.le_of_lt (wp i hi)) (sm_pos wp qn)
  rw [e1] at ch
  refine ⟨e1, ⟨ch, ?_, ?_, ?_⟩, un, rn⟩
  · refine List.Perm.trans ?_ h.fl
    rw [List.flatten_append, List.flatten_append, List.flatten_cons, List.flatten_cons, List.flatten_cons]
    refine List.Perm.append_left _ ?_
    rw [← List.append_assoc]
    refine List.Perm.append_right _ ?_
    have := List.filter_append_perm (inB U) q
    rw [e1] at this
    exact List.perm_append_comm.trans this
  · intro r hr
    rcases List.mem_append.mp hr with hr | hr
    · exact h.sb r (by simp [hr])
    · rcases List.mem_cons.mp hr with rfl | hr
      · exact List.filter_sublist.trans qs
      · rcases List.mem_cons.mp hr with rfl | hr
        · exact us
        · exact h.sb r (by simp [hr])
  · intro r hr
    rcases List.mem_append.mp hr with hr | hr
    · exact h.ne r (by simp [hr])
    · rcases List.mem_cons.mp hr with rfl | hr
      · exact rn
      · rcases List.mem_cons.mp hr with rfl | hr
        · exact un
        · exact h.ne r (by simp [hr])
theorem Parts.start (hp : PanOk m p) : Parts p [List.range p.its.length] := by
  have h1 := hp.one
  refine ⟨List.pairwise_singleton _ _, by simp, fun q hq => ?_, fun q hq => ?_⟩
  · have : q = List.range p.its.length := by simpa using hq
    rw [this]; exact List.Sublist.refl _
  · have : q = List.range p.its.length := by simpa using hq
    rw [this]
    intro e
    have := congrArg List.length e
    rw [List.length_range] at this
    have : p.its.length = 0 := this
    omega
theorem Parts.best (hp : PanOk m p) {ps : List (List Nat)} (h : Parts p ps) (hf : ∀ q ∈ ps, Whole (eE p) (mR p) (wR p) q) {r : Nat → Rat} (hr : ∀ q ∈ ps, ∀ i ∈ q, r i = avg (selI p.its q)) : BestP p r :=
  h.ch.best (fun a b e => by obtain ⟨h1, h2⟩ := eE_lt hp e; exact ⟨List.mem_range.mpr h1, List.mem_range.mpr h2⟩) h.fl List.nodup_range (fun i hi => wR_pos hp (List.mem_range.mp hi)) h.ne hf fun q hq i hi => by rw [hr q hq i hi, avg_avS]
def meas (st : List (List Nat)) : Nat := (st.map fun q => 2 * q.length - 1).sum
theorem meas_append (a b : List (List Nat)) : meas (a ++ b) = meas a + meas b := by simp [meas]
end
end Pm
namespace Pm
open PySem PySem.Spec
open PyProof.Rows hiding St
open L2
def IsMin (p : Pan) (i : Nat) (U : List Nat) (x : Rat) : Prop := (∃ D ∈ dnG p, i ∈ D ∧ x = avg (selI p.its (U.filter (inB D)))) ∧ ∀ D ∈ dnG p, i ∈ D → x ≤ avg (selI p.its (U.filter (inB D)))
def MaxMin (p : Pan) (i : Nat) (x : Rat) : Prop := (∃ U ∈ upG p, i ∈ U ∧ IsMin p i U x) ∧ ∀ U ∈ upG p, i ∈ U → ∃ y, IsMin p i U y ∧ y ≤ x
section
variable {p : Pan} {m : Nat}
theorem avg_ge (hp : PanOk m p) {gs : List Nat} (hn : gs ≠ []) (hi : ∀ i ∈ gs, i < p.its.length) {v : Rat} : v ≤ avg (selI p.its gs) ↔ v * sm (wR p) gs ≤ sm (fun i => wR p i * mR p i) gs := by
  have hw : 0 < sm (wR p) gs := sm_pos (fun i h => wR_pos hp (hi i h)) hn
  rw [avg_avS]
  have e : avS (mR p) (wR p) gs * sm (wR p) gs = sm (fun i => wR p i * mR p i) gs := Rat.div_mul_cancel (by grind)
  rw [← e]
  constructor
  · intro h; exact Rat.mul_le_mul_of_nonneg_right h (Rat.le_of_lt hw)
  · intro h
    rcases (show v ≤ avS (mR p) (wR p) gs ∨ avS (mR p) (wR p) gs < v by grind) with z | z
    · exact z
    · have := Rat.mul_lt_mul_of_pos_right z hw; grind
theorem avg_le (hp : PanOk m p) {gs : List Nat} (hn : gs ≠ []) (hi : ∀ i ∈ gs, i < p.its.length) {v : Rat} : avg (selI p.its gs) ≤ v ↔ sm (fun i => wR p i * mR p i) gs ≤ v * sm (wR p) gs := by
  have hw : 0 < sm (wR p) gs := sm_pos (fun i h => wR_pos hp (hi i h)) hn
  rw [avg_avS]
  have e : avS (mR p) (wR p) gs * sm (wR p) gs = sm (fun i => wR p i * mR p i) gs := Rat.div_mul_cancel (by grind)
  rw [← e]
  constructor
  · intro h; exact Rat.mul_le_mul_of_nonneg_right h (Rat.le_of_lt hw)
  · intro h
    rcases (show avS (mR p) (wR p) gs ≤ v ∨ v < avS (mR p) (wR p) gs by grind) with z | z
    · exact z
    · have := Rat.mul_lt_mul_of_pos_right z hw; grind
theorem upG_of (hp : PanOk m p) {U : Nat → Bool} (h : UpS (eE p) U) : (List.range p.its.length).filter U ∈ upG p := by
  refine List.mem_filter.mpr ⟨sub_grpS List.filter_sublist, (upB_iff hp).mpr fun a b e k => ?_⟩
  simp only [decide_eq_true_eq, List.mem_filter, List.mem_range] at k ⊢
  exact ⟨(eE_lt hp e).2, h a b e k.2⟩
theorem dnG_of (hp : PanOk m p) {U : Nat → Bool} (h : DnS (eE p) U) : (List.range p.its.length).filter U ∈ dnG p := by
  refine List.mem_filter.mpr ⟨sub_grpS List.filter_sublist, (dnB_iff hp).mpr fun a b e k => ?_⟩
  simp only [decide_eq_true_eq, List.mem_filter, List.mem_range] at k ⊢
  exact ⟨(eE_lt hp e).1, h a b e k.2⟩
theorem filt2 {n : Nat} {g : List Nat} (hg : g.Sublist (List.range n)) (U : Nat → Bool) : g.filter U = (List.range n).filter fun i => inB g i && U i := by
  have e := range_filter hg
  have : ((List.range n).filter (inB g)).filter U = (List.range n).filter fun i => inB g i && U i := by
    rw [List.filter_filter]; exact List.filter_congr fun i _ => Bool.and_comm _ _
  rw [e] at this; exact this
theorem MaxMin.eq (hp : PanOk m p) {r : Nat → Rat} (b : BestP p r) {i : Nat} (hi : i < p.its.length) {x : Rat} (h : MaxMin p i x) : x = r i := by
  have sU : ∀ {g}, g ∈ upG p → g.Sublist (List.range p.its.length) := fun {g} hg => grpS_sub (List.mem_filter.mp hg).1
  have sD : ∀ {g}, g ∈ dnG p → g.Sublist (List.range p.its.length) := fun {g} hg => grpS_sub (List.mem_filter.mp hg).1
  have ir : i ∈ List.range p.its.length := List.mem_range.mpr hi
  apply Rat.le_antisymm
  · obtain ⟨⟨U, hU, iU, _, hmin⟩, _⟩ := h
    have upU : UpS (eE p) (inB U) := (upB_iff hp).mp (List.mem_filter.mp hU).2
    have hD : (List.range p.its.length).filter (fun j => !decide (r i < r j)) ∈ dnG p := dnG_of hp ((rup_gt (r := r) (r i)).up b.ob).not
    have iD : i ∈ (List.range p.its.length).filter (fun j => !decide (r i < r j)) := List.mem_filter.mpr ⟨ir, by simp⟩
    refine Rat.le_trans (hmin _ hD iD) ?_
    have e : U.filter (inB ((List.range p.its.length).filter fun j => !decide (r i < r j))) = (List.range p.its.length).filter fun j => inB U j && !decide (r i < r j) := by
      rw [filt2 (sU hU)]
      refine List.filter_congr fun j hj => ?_
      simp [inB, List.mem_range.mp hj]
    rw [e]
    have hgi : ∀ j ∈ (List.range p.its.length).filter (fun j => inB U j && !decide (r i < r j)), j < p.its.length := fun j hj => List.mem_range.mp (List.mem_filter.mp hj).1
    rw [avg_le hp (List.ne_nil_of_mem (List.mem_filter.mpr ⟨ir, by simp [inB, iU]⟩ : i ∈ _)) hgi]
    refine sm_fw_le (fun j hj => Rat.le_of_lt (wR_pos hp (hgi j hj))) (b.high upU (rup_gt (r i))) fun j hj => ?_
    have := (List.mem_filter.mp hj).2
    simp only [Bool.and_eq_true, Bool.not_eq_true', decide_eq_false_iff_not] at this
    exact Rat.not_lt.mp this.2
  · obtain ⟨_, h2⟩ := h
    have hU : (List.range p.its.length).filter (fun j => decide (r i ≤ r j)) ∈ upG p := upG_of hp ((rup_ge (r := r) (r i)).up b.ob)
    have iU : i ∈ (List.range p.its.length).filter (fun j => decide (r i ≤ r j)) := List.mem_filter.mpr ⟨ir, by simp⟩
    obtain ⟨y, ⟨⟨D, hD, iD, rfl⟩, _⟩, hy⟩ := h2 _ hU iU
    refine Rat.le_trans ?_ hy
    have dnD : DnS (eE p) (inB D) := (dnB_iff hp).mp (List.mem_filter.mp hD).2
    have e : ((List.range p.its.length).filter fun j => decide (r i ≤ r j)).filter (inB D) = (List.range p.its.length).filter fun j => decide (r i ≤ r j) && inB D j := by
      rw [List.filter_filter]; exact List.filter_congr fun j _ => Bool.and_comm _ _
    rw [e]
    have hgi : ∀ j ∈ (List.range p.its.length).filter (fun j => decide (r i ≤ r j) && inB D j), j < p.its.length := fun j hj => List.mem_range.mp (List.mem_filter.mp hj).1
    rw [avg_ge hp (List.ne_nil_of_mem (List.mem_filter.mpr ⟨ir, by simp [inB, iD]⟩ : i ∈ _)) hgi]
    refine sm_fw_ge (fun j hj => Rat.le_of_lt (wR_pos hp (hgi j hj))) (b.low (rup_ge (r i)) dnD) fun j hj => ?_
    have := (List.mem_filter.mp hj).2
    simp only [Bool.and_eq_true, decide_eq_true_eq] at this
    exact this.1
theorem all_upG (hp : PanOk m p) : List.range p.its.length ∈ upG p := by
  have := upG_of hp (U := fun _ => true) fun _ _ _ _ => rfl
  rwa [List.filter_eq_self.mpr fun _ _ => rfl] at this
theorem all_dnG (hp : PanOk m p) : List.range p.its.length ∈ dnG p := by
  have := dnG_of hp (U := fun _ => true) fun _ _ _ _ => rfl
  rwa [List.filter_eq_self.mpr fun _ _ => rfl] at this
theorem parts_exist (hp : PanOk m p) : ∀ (k : Nat) (dn st : List (List Nat)), meas st ≤ k → Parts p (dn ++ st.reverse) → (∀ q ∈ dn, Whole (eE p) (mR p) (wR p) q) → ∃ ps, Parts p ps ∧ ∀ q ∈ ps, Whole (eE p) (mR p) (wR p) q := by
  intro k
  induction k with
  | zero =>
    intro dn st hm hP hW
    cases st with
    | nil => rw [List.reverse_nil, List.append_nil] at hP; exact ⟨dn, hP, hW⟩
    | cons q st =>
      have := List.length_pos_iff.mpr (hP.ne q (by simp))
      simp only [meas, List.map_cons, List.sum_cons] at hm
      omega
  | succ k ih =>
    intro dn st hm hP hW
    by_cases hs : st = []
    · subst hs; rw [List.reverse_nil, List.append_nil] at hP; exact ⟨dn, hP, hW⟩
    · obtain ⟨st', part, rfl⟩ : ∃ a b, st = a ++ [b] := ⟨st.dropLast, st.getLast hs, (List.dropLast_concat_getLast hs).symm⟩
      have er : dn ++ (st' ++ [part]).reverse = dn ++ part :: st'.reverse := by rw [List.reverse_append]; rfl
      rw [er] at hP
      have p1 := List.length_pos_iff.mpr (hP.ne part (by simp))
      rw [meas_append] at hm
      have hm : meas st' + (2 * part.length - 1 + 0) ≤ k + 1 := hm
      by_cases hall : ∀ g ∈ upG p, excI p.its part (g.filter (inB part)) ≤ 0
      · refine ih (dn ++ [part]) st' (by omega) (by rw [List.append_assoc]; exact hP) fun q hq => ?_
        rcases List.mem_append.mp hq with hq | hq
        · exact hW q hq
        · rw [List.mem_singleton.mp hq]; exact hP.whole hp hall
      · have hne : upG p ≠ [] := List.ne_nil_of_mem (all_upG hp)
        obtain ⟨g, hg, hmin⟩ := exists_min (fun g => ((-(excI p.its part (g.filter (inB part))) : Int) : Rat)) hne
        have hmax : ∀ g' ∈ upG p, excI p.its part (g'.filter (inB part)) ≤ excI p.its part (g.filter (inB part)) := fun g' hg' => by
          have := Rat.intCast_le_intCast.mp (hmin g' hg'); omega
        have h0 : 0 < excI p.its part (g.filter (inB part)) := by
          apply Int.not_le.mp
          intro z
          exact hall fun g' hg' => Int.le_trans (hmax g' hg') z
        obtain ⟨e1, hP2, un, rn⟩ := hP.split hp hg rfl h0 hmax
        generalize g.filter (inB part) = U at *
        have ulen : U.length + (part.filter fun i => !inB U i).length = part.length := by
          have := List.filter_append_perm (inB U) part
          rw [e1] at this
          have := this.length_eq
          rw [List.length_append] at this; exact this
        have u1 : 1 ≤ U.length := List.length_pos_iff.mpr un
        have r1 : 1 ≤ (part.filter fun i => !inB U i).length := List.length_pos_iff.mpr rn
        refine ih dn (st' ++ [U, part.filter fun i => !inB U i]) ?_ ?_ hW
        · rw [meas_append]
          show meas st' + (2 * U.length - 1 + (2 * (part.filter fun i => !inB U i).length - 1 + 0)) ≤ k
          omega
        · have e : dn ++ (st' ++ [U, part.filter fun i => !inB U i]).reverse = dn ++ (part.filter fun i => !inB U i) :: U :: st'.reverse := by rw [List.reverse_append]; rfl
          rw [e]; exact hP2
theorem best_exists (hp : PanOk m p) (hm : m ≤ 100) : ∃ r, BestP p r ∧ ∀ i, i < p.its.length → SzR 150 (r i) := by
  classical
  obtain ⟨ps, hP, hW⟩ := parts_exist hp _ [] [List.range p.its.length] (Nat.le_refl _) (Parts.start hp) (by simp)
  have uniq : ∀ q ∈ ps, ∀ q' ∈ ps, ∀ i, i ∈ q → i ∈ q' → q' = q := fun q hq q' hq' i iq iq' => by
    obtain ⟨a, b, rfl⟩ := List.append_of_mem hq
    have nd := hP.nd i iq
    rcases List.mem_append.mp hq' with h | h
    · exact absurd (List.mem_flatten.mpr ⟨q', h, iq'⟩) nd.2
    · rcases List.mem_cons.mp h with h | h
      · exact h
      · exact absurd (List.mem_flatten.mpr ⟨q', h, iq'⟩) nd.1
  have hr : ∀ q ∈ ps, ∀ i ∈ q, (if h : ∃ q ∈ ps, i ∈ q then avg (selI p.its h.choose) else 0) = avg (selI p.its q) := fun q hq i hi => by
    have h : ∃ q ∈ ps, i ∈ q := ⟨q, hq, hi⟩
    rw [dif_pos h, uniq q hq h.choose h.choose_spec.1 i hi h.choose_spec.2]
  refine ⟨_, hP.best hp hW hr, fun i hi => ?_⟩
  obtain ⟨q, hq, iq⟩ := List.mem_flatten.mp (hP.fl.mem_iff.mpr (List.mem_range.mpr hi))
  rw [hr q hq i iq]
  have ht := hp.top
  have ql : q.length ≤ 100 := by have := (hP.sb q hq).length_le; rw [List.length_range] at this; omega
  exact avg_sz (fun z hz => (hp.it z (sel_mem (hP.lt hq) hz)).b) (by simp [selI]; omega) (sel_ne (hP.ne q hq))
theorem BestP.eq (hp : PanOk m p) {r s : Nat → Rat} (hr : BestP p r) (hs : BestP p s) {i : Nat} (hi : i < p.its.length) : r i = s i :=
  Best.unique hr hs (fun j hj => wR_pos hp (List.mem_range.mp hj)) i (List.mem_range.mpr hi)
def rtD (n : Nat) (r : Nat → Rat) : D := .tup ((List.range n).map fun i => frD (r i))
theorem rt_eq {n : Nat} {r s : Nat → Rat} (h : ∀ i, i < n → r i = s i) : rtD n r = rtD n s := by
  unfold rtD
  congr 1
  exact List.map_congr_left fun i hi => by rw [h i (List.mem_range.mp hi)]
end
end Pm
namespace Pm
open PySem PySem.Spec
open PyProof.Rows hiding St
open L2
theorem gr_wid (g : List Nat) : (grD g).wid = 2008 * g.length + 8 := by
  have : D.wids (g.map natD) = 2008 * g.length := by
    induction g with
    | nil => rfl
    | cons a g ih =>
      simp only [List.map_cons, D.wids, ih, List.length_cons]
      have : (natD a).wid = 2000 := rfl
      omega
  simp only [grD, D.wid, this]
theorem gr_dep1 (g : List Nat) : (grD g).dep = 1 := by
  have : D.deps (g.map natD) = 0 := by
    induction g with
    | nil => rfl
    | cons a g ih => simp only [List.map_cons, D.deps, ih]; rfl
  simp only [grD, D.dep, this]
theorem grs_ok {n : Nat} : ∀ {l : List (List Nat)}, (∀ g ∈ l, g.length ≤ n) → D.plns (l.map grD) = true ∧ D.deps (l.map grD) ≤ 1 ∧ D.wids (l.map grD) ≤ (2008 * n + 16) * l.length
  | [], _ => ⟨rfl, Nat.zero_le _, Nat.zero_le _⟩
  | g :: l, h => by
    obtain ⟨a1, a2, a3⟩ := grs_ok (l := l) fun z hz => h z (by simp [hz])
    have hg := h g (by simp)
    refine ⟨?_, ?_, ?_⟩
    · simp only [List.map_cons, D.plns, a1, Bool.and_true]; exact nats_pln g
    · simp only [List.map_cons, D.deps, gr_dep1]; omega
    · simp only [List.map_cons, D.wids, gr_wid, List.length_cons, Nat.mul_add]
      have := Nat.mul_le_mul_left 2008 hg
      omega
theorem upG_len {m : Nat} {p : Pan} (hp : PanOk m p) (hm : m ≤ 8) : (∀ g ∈ upG p, g.length ≤ 8) ∧ (upG p).length ≤ 256 := by
  have ht := hp.top
  refine ⟨fun g hg => ?_, ?_⟩
  · have := (grpS_sub (List.mem_filter.mp hg).1).length_le
    rw [List.length_range] at this; omega
  · refine Nat.le_trans (List.length_filter_le _ _) ?_
    rw [grpS_length, List.length_range]
    exact Nat.le_trans (Nat.pow_le_pow_right (by decide) (show p.its.length ≤ 8 by omega)) (by decide)
theorem upG_eq {m : Nat} {p : Pan} (hp : PanOk m p) (hm : m ≤ 8) : (D.tup ((upG p).map grD)).pln = true ∧ (D.tup ((upG p).map grD)).dep < 24 ∧ (D.tup ((upG p).map grD)).wid ≤ 10000000 := by
  obtain ⟨h1, h2⟩ := upG_len hp hm
  obtain ⟨a1, a2, a3⟩ := grs_ok h1
  refine ⟨by simp only [D.pln, a1], by simp only [D.dep]; omega, by simp only [D.wid]; omega⟩
end Pm

set_option Elab.async false
set_option linter.all false
set_option maxRecDepth 100000
set_option maxHeartbeats 1000000
set_option autoImplicit false
namespace Pm
open PySem PySem.Spec
open PyProof.Rows hiding St
open L2
def scT (p : Pan) (t : Rat) (g : List Nat) : Int := scS (selI p.its g) t.num t.den
def mxG (p : Pan) (t : Rat) : List (List Nat) := (upG p).filter fun g => (upG p).all fun h => decide (scT p t h ≤ scT p t g)
def topIn (p : Pan) (t : Rat) : List Nat := (List.range p.its.length).filter fun i => (mxG p t).all fun g => inB g i
def topOut (p : Pan) (t : Rat) : List Nat := (List.range p.its.length).filter fun i => (mxG p t).any fun g => inB g i
def topD (p : Pan) (t : Rat) : D := .tup [grD (topIn p t), grD (topOut p t)]
section
variable {p : Pan} {n : Nat} {t : Rat}
theorem mx_is {m : Int} (h1 : m ∈ (upG p).map (scT p t)) (h2 : ∀ y ∈ (upG p).map (scT p t), y ≤ m) : (upG p).filter (fun g => decide (scT p t g = m)) = mxG p t := by
  unfold mxG
  refine List.filter_congr fun g hg => ?_
  rw [Bool.eq_iff_iff, decide_eq_true_eq, List.all_eq_true]
  constructor
  · intro e h hh
    rw [decide_eq_true_eq, e]
    exact h2 _ (List.mem_map.mpr ⟨h, hh, rfl⟩)
  · intro e
    obtain ⟨h, hh, rfl⟩ := List.mem_map.mp h1
    have a1 := of_decide_eq_true (e h hh)
    have a2 := h2 _ (List.mem_map.mpr ⟨g, hg, rfl⟩)
    omega
theorem mx_ne (hp : PanOk n p) : mxG p t ≠ [] := by
  have hne : upG p ≠ [] := List.ne_nil_of_mem (all_upG hp)
  obtain ⟨g, hg, hmin⟩ := exists_min (fun g => ((-(scT p t g) : Int) : Rat)) hne
  refine List.ne_nil_of_mem (List.mem_filter.mpr ⟨hg, ?_⟩ : g ∈ mxG p t)
  rw [List.all_eq_true]
  intro h hh
  have := Rat.intCast_le_intCast.mp (hmin h hh)
  rw [decide_eq_true_eq]; omega
theorem sc_sz (hp : PanOk n p) {g : List Nat} (hg : g ∈ upG p) : (∀ i ∈ g, i < p.its.length) ∧ g.length ≤ p.its.length := by
  have hs := grpS_sub (List.mem_filter.mp hg).1
  refine ⟨fun i hi => List.mem_range.mp (hs.subset hi), ?_⟩
  have := hs.length_le
  rwa [List.length_range] at this
theorem topIn_of {g : List Nat} {r : List (List Nat)} (hs : g.Sublist (List.range p.its.length)) (e : mxG p t = g :: r) : (g.filter fun i => (mxG p t).all fun h => inB h i) = topIn p t := by
  refine sub_ext (List.filter_sublist.trans hs) List.filter_sublist fun i => ?_
  unfold topIn
  rw [List.mem_filter, List.mem_filter]
  constructor
  · rintro ⟨a, b⟩; exact ⟨hs.subset a, b⟩
  · rintro ⟨a, b⟩
    refine ⟨?_, b⟩
    rw [e, List.all_cons, Bool.and_eq_true] at b
    simpa [inB] using b.1
theorem topD_eq (hp : PanOk n p) (hn : n ≤ 8) (t : Rat) : (topD p t).pln = true ∧ (topD p t).dep < 24 ∧ (topD p t).wid ≤ 10000000 := by
  have ht := hp.top
  have l1 : (topIn p t).length ≤ 8 := by have := List.length_filter_le (fun i => (mxG p t).all fun g => inB g i) (List.range p.its.length); rw [List.length_range] at this; unfold topIn; omega
  have l2 : (topOut p t).length ≤ 8 := by have := List.length_filter_le (fun i => (mxG p t).any fun g => inB g i) (List.range p.its.length); rw [List.length_range] at this; unfold topOut; omega
  refine ⟨?_, ?_, ?_⟩
  · have a : (grD (topIn p t)).pln = true := nats_pln _
    have b : (grD (topOut p t)).pln = true := nats_pln _
    simp only [topD, D.pln, D.plns, Bool.and_eq_true] at a b ⊢
    exact ⟨nats_pln _, nats_pln _, trivial⟩
  · simp only [topD, D.dep, D.deps, gr_dep1]; omega
  · simp only [topD, D.wid, D.wids, gr_wid]; omega
end
theorem enum_rng' (f : Nat → D) : ∀ (m k : Nat), enumGo k ((List.range' k m).map f) = (List.range' k m).map fun j => .tup [natD j, f j]
  | 0, _ => rfl
  | m + 1, k => by rw [List.range'_succ, List.map_cons, enumGo, enum_rng' f m (k + 1)]; rfl
theorem enum_rng (f : Nat → D) (n : Nat) : enumD ((List.range n).map f) = (List.range n).map fun j => .tup [natD j, f j] := by
  unfold enumD
  rw [List.range_eq_range']; exact enum_rng' f n 0
theorem idx_rng (f : Nat → D) {n k : Nat} (h : k < n) : idx ((List.range n).map f) (k : Int) = some (f k) := by
  rw [idx_nat', List.getElem?_map, List.getElem?_range h]; rfl
def geI (n : Nat) (r : Nat → Rat) (i : Nat) : List Nat := (List.range n).filter fun j => !decide (r j < r i)
def leI (n : Nat) (r : Nat → Rat) (i : Nat) : List Nat := (List.range n).filter fun j => !decide (r i < r j)
def witD (n : Nat) (r : Nat → Rat) (i : Nat) : D := .tup [frD (r i), grD (geI n r i), grD (leI n r i)]
theorem wit_eq {n : Nat} {r s : Nat → Rat} {i : Nat} (hi : i < n) (h : ∀ j, j < n → r j = s j) : witD n r i = witD n s i := by
  have e1 : geI n r i = geI n s i := List.filter_congr fun j hj => by rw [h j (List.mem_range.mp hj), h i hi]
  have e2 : leI n r i = leI n s i := List.filter_congr fun j hj => by rw [h j (List.mem_range.mp hj), h i hi]
  unfold witD
  rw [h i hi, e1, e2]
theorem wit_ok {n : Nat} (hn : n ≤ 100) (r : Nat → Rat) (i : Nat) : (witD n r i).pln = true ∧ (witD n r i).dep < 24 ∧ (witD n r i).wid ≤ 10000000 := by
  have l1 : (geI n r i).length ≤ n := by have := List.length_filter_le (fun j => !decide (r j < r i)) (List.range n); rw [List.length_range] at this; exact this
  have l2 : (leI n r i).length ≤ n := by have := List.length_filter_le (fun j => !decide (r i < r j)) (List.range n); rw [List.length_range] at this; exact this
  have d : (frD (r i)).dep = 1 := by simp [frD, D.dep, D.deps]
  have w : (frD (r i)).wid = 4024 := by simp [frD, D.wid, D.wids]
  have p1 : (grD (geI n r i)).pln = true := nats_pln _
  have p2 : (grD (leI n r i)).pln = true := nats_pln _
  refine ⟨?_, ?_, ?_⟩
  · show ((frD (r i)).pln && ((grD (geI n r i)).pln && ((grD (leI n r i)).pln && true))) = true
    rw [frD_pln, p1, p2]; rfl
  · show max (frD (r i)).dep (max (grD (geI n r i)).dep (max (grD (leI n r i)).dep 0)) + 1 < 24
    rw [d, gr_dep1, gr_dep1]; decide
  · show (frD (r i)).wid + 8 + ((grD (geI n r i)).wid + 8 + ((grD (leI n r i)).wid + 8 + 0)) + 8 ≤ 10000000
    rw [w, gr_wid, gr_wid]; omega
end Pm

set_option Elab.async false
set_option linter.all false
set_option maxRecDepth 100000
set_option maxHeartbeats 1000000
set_option autoImplicit false
namespace Pm
open PySem PySem.Spec PySem.W
open PyProof.Rows hiding St
open L2
section
variable {prog : Program} {w : World} {A : Around} {E : Value → Shared → Prop} {s : Shared}
theorem sorted_tupP {t : Addr} {u : Obj} {xs : Array Value} {n : Nat} {k : Value → Int × Int} {Q : Value → Shared → Prop} (hu : s.heap.get? t = some u) (hc : u.cls = .type "tuple") (hd : u.data = .seq xs n) (hI : ∀ v ∈ xs.toList, Srt.IsPair s.heap v (k v).1 (k v).2) (hz : xs.size ≤ sizeLine)
    (fin : ∀ (h' : Heap) (p : Addr) (out : List Value) (e : Nat), SrtO.Srtd (fun v u => SrtO.lexB (k v) (k u)) out → out.Perm xs.toList → (∀ b o, s.heap.get? b = some o → h'.get? b = some o) → s.heap.objs.size ≤ p → h'.get? p = some (seqObj "list" out.toArray e) → Q (.ref p) { s with heap := h' }) :
    wpAny (model prog w) A (call (.builtin "sorted") [.ref t]) Q E s := by
  have hz2 : xs.toList.length ≤ sizeLine := by rw [Array.length_toList]; exact hz
  refine Calls.call_function_entry (Q := Q) kind_sorted plain_sorted entry_sorted (args_sorted1 _) ?_
  unfold Builtin.«sorted»
  refine wpAny_bind (m := checkCount "sorted" 1 1 _) (wpAny_pure (wpAny_bind (gather_tup hu hc hd hz (wpAny_bind (wpAny_newList ?_ hz2)))))
  generalize hh1 : (s.heap.push (seqObj "list" #[] 0)).update s.heap.objs.size (Obj.mapSeq (· ++ xs)) = h1
  have sz : h1.objs.size = s.heap.objs.size + 1 := by rw [← hh1, Heap.size_update, size_push']
  have grow : s.heap.objs.size ≤ h1.objs.size := by omega
  have k1 : ∀ b o, s.heap.get? b = some o → h1.get? b = some o := fun b o hb => by
    rw [← hh1, Heap.get?_update_ne _ _ _ _ (Nat.ne_of_lt (Heap.lt_size hb))]
    exact Heap.get?_push_of_some _ hb
  have at1 : (h1.push (seqObj "list" xs.toList.toArray 0)).get? h1.objs.size = some (seqObj "list" xs.toList.toArray 0) := Heap.get?_push_size _ rfl
  refine wpAny_bind (wpAny_holding (wpAny_call_entry (s := { s with heap := h1.push (seqObj "list" xs.toList.toArray 0) }) slot_list_sort ⟨_, at1, rfl⟩ entry_list_sort (SrtO.list_sort_ord (SrtO.swo_lex k) at1 hz2 (fun h2 => SrtO.pairs_sortableO (by omega) (fun v hm => (hI v hm).keeps fun b o e _ => Heap.get?_push_of_some _ (k1 b o e)) fun o e => ?_) fun out g1 g2 => ⟨_, rfl, ?_⟩) (args_list_sort _)))
  · rw [at1] at e
    cases e
    show Value.type "list" ≠ Value.type "tuple"
    decide
  obtain ⟨e, at2⟩ := sortedHeap_at (out := out.toArray) at1
  refine wpAny_pure ⟨_, rfl, fin _ _ out e g1 g2.perm (fun b o hb => ?_) grow at2⟩
  have lt1 := Heap.lt_size (k1 b o hb)
  rw [sortedHeap_old (h := h1.push (seqObj "list" xs.toList.toArray 0)) (Nat.ne_of_lt lt1) (by rw [size_push']; exact Nat.lt_succ_of_lt lt1), Heap.get?_push_ne _ _ _ (Nat.ne_of_lt lt1)]
  exact k1 b o hb
end
def sortedFP : List D → (List D → Prop) → Prop := fun ds R => ∃ qs : List (Int × Int), ds = [.tup (qs.map itD)] ∧ ∀ out : List (Int × Int), out.Perm qs → out.Pairwise (fun a b => SrtO.lexB b a = false) → R (out.map itD)
theorem ats_eachP {K : PySem.W.Frag} {Z : Hp} : ∀ {qs : List (Int × Int)} {vs : List V}, Ats K Z (qs.map itD) vs → ∀ (i : Nat) v, vs[i]? = some v → ∃ q, qs[i]? = some q ∧ ∃ a, v = .ref a ∧ SqT K Z a ([q.1, q.2].map V.int)
  | [], vs, h, i, v, e => by simp only [List.map_nil, Ats] at h; subst h; simp at e
  | q :: qs, vs, ⟨w, ws, e1, h1, h2⟩, i, v, e => by
    subst e1
    cases i with
    | zero =>
      simp only [List.getElem?_cons_zero, Option.some.injEq] at e
      subst e
      obtain ⟨a, us, rfl, g1, g2⟩ := h1
      have g3 := Ats.ints (ns := [q.1, q.2]) g2
      rw [g3] at g1
      exact ⟨q, rfl, a, rfl, g1⟩
    | succ i =>
      obtain ⟨ms, e2, r⟩ := ats_eachP h2 i v (by simpa using e)
      exact ⟨ms, by simpa using e2, r⟩
def pairOf (h : Heap) (v : Value) : Int × Int := match TS.intsOf h v with
  | [a, b] => (a, b)
  | _ => (0, 0)
theorem two_ints {l : List Value} {a b : Int} (i : IntsAre l [a, b]) : ∃ t u, l = [.int a t, .int b u] := by
  match l, i with
  | _, .cons _ t1 (.cons _ t2 .nil) => exact ⟨t1, t2, rfl⟩
theorem isPair_of {h : Heap} {v : Value} {a b : Int} (x : TS.TupInts h v [a, b]) : Srt.IsPair h v a b := by
  obtain ⟨t, items, e, ⟨o, ho, hc, n, hd⟩, i⟩ := x
  obtain ⟨l⟩ := items
  obtain ⟨t1, t2, rfl⟩ := two_ints i
  exact ⟨t, o, t1, t2, n, e, ho, hc, hd⟩
theorem c_sortedP {X : Cx} : CallR X (.builtin "sorted") (dCallF X.K sortedFP) := by
  intro pins s σ H xs us Q I r h
  obtain ⟨Z, ds, R, kz, a, ⟨qs, rfl, w⟩, q⟩ := h
  obtain ⟨v, rfl, a1⟩ := Ats.one a
  obtain ⟨p, vs, rfl, a2, a3⟩ := a1
  have each := ats_eachP a3
  obtain ⟨its, rv, ⟨o, ho, hc, n, hd⟩, hz⟩ := I.tuple (seqT kz a2)
  rw [Vals.ref1 r]
  obtain ⟨e1, e2⟩ := bkV_refs rv fun x m => by
    obtain ⟨i, hi⟩ := List.mem_iff_getElem?.mp m
    obtain ⟨_, _, t, e, _⟩ := each i x hi
    exact ⟨t, e⟩
  have hints : ∀ (i : Nat) u, its[i]? = some u → ∃ q, qs[i]? = some q ∧ TS.TupInts s.heap u [q.1, q.2] ∧ At X.K Z (itD q) (bkV u) := fun i u hi => by
    have hvi : vs[i]? = some (bkV u) := by rw [e1, List.getElem?_map, hi]; rfl
    obtain ⟨q, h1, t, h2, h3⟩ := each i _ hvi
    have eu := bkV_ref h2
    refine ⟨q, h1, ?_, ?_⟩
    · rw [eu]; exact tupI_raw I (seqT kz h3)
    · rw [h2]; exact ⟨t, _, rfl, h3, Ats.of_ints [q.1, q.2]⟩
  have kint : ∀ u ∈ its, ∃ q : Int × Int, TS.TupInts s.heap u [q.1, q.2] ∧ At X.K Z (itD q) (bkV u) := fun u hm => by
    obtain ⟨i, hi⟩ := List.mem_iff_getElem?.mp hm
    obtain ⟨q, _, h2, h3⟩ := hints i u hi
    exact ⟨q, h2, h3⟩
  have kp : ∀ {u : Value} {q : Int × Int}, TS.TupInts s.heap u [q.1, q.2] → pairOf s.heap u = q := fun {u q} h => by
    unfold pairOf
    rw [h.ints]
  have hlen : its.length = qs.length := by
    have h1 := a3.len
    rw [e1, List.length_map, List.length_map] at h1
    exact h1
  have kmap : its.map (pairOf s.heap) = qs := by
    refine List.ext_getElem? fun i => ?_
    rw [List.getElem?_map]
    cases hi : its[i]? with
    | none =>
      have := List.getElem?_eq_none_iff.mp hi
      rw [List.getElem?_eq_none (by omega)]; rfl
    | some u =>
      obtain ⟨q, h1, h2, _⟩ := hints i u hi
      rw [h1]
      show some (pairOf s.heap u) = some q
      rw [kp h2]
  refine sorted_tupP (k := pairOf s.heap) ho hc hd (fun u hm => ?_) (by simpa [← rv.length] using hz) fun h' p' out e3 h1 h2 kp' gr at1 => ?_
  · obtain ⟨q, h3, _⟩ := kint u (by simpa using hm)
    rw [kp h3]; exact isPair_of h3
  · have h2 : out.Perm its := by simpa using h2
    have h3 : ∀ u ∈ out, ∃ a, u = Value.ref a := fun u hu => e2 u (h2.mem_iff.mp hu)
    have hp : (out.map bkV).length = vs.length := by rw [e1, List.length_map, List.length_map, h2.length_eq]
    have fr : H p' = none := I.hok.fresh gr
    have ha : ∀ l : List Value, (∀ u ∈ l, u ∈ its) → Ats X.K Z ((l.map (pairOf s.heap)).map itD) (l.map bkV) := fun l => by
      induction l with
      | nil => intro _; rfl
      | cons u l ih =>
        intro hm
        obtain ⟨q, h4, h5⟩ := kint u (hm u (by simp))
        refine ⟨_, _, rfl, ?_, ih fun z hz => hm z (by simp [hz])⟩
        rw [kp h4]; exact h5
    have pk : (out.map (pairOf s.heap)).Perm qs := by
      rw [← kmap]; exact h2.map _
    have sk : (out.map (pairOf s.heap)).Pairwise (fun a b => SrtO.lexB b a = false) := List.pairwise_map.mpr h1
    have hq := w _ pk sk
    refine ⟨.ref p', upd H p' (.lst (out.map bkV)), I.laid (t' := s.toks) kp' gr ⟨by rw [hp]; simpa using hz, out, e3, bkV_vals h3, at1⟩, rfl, ?_⟩
    exact q _ _ _ _ hq (same_upd fr) fr upd_same (ha out fun u hu => h2.mem_iff.mp hu)
def mulT : D → D → DK → Prop
  | .tup xs, .int k, R => (xs ≠ [] ∧ 2 ≤ k ∧ k ≤ 1000 ∧ xs.length ≤ 1000) ∧ R (.tup (List.replicate k.toNat xs).flatten)
  | _, _, _ => False
theorem o_mulT {X : Cx} : OpR X (binaryOp .Mult) (dOp2 X.K mulT) := by
  intro pins s σ H x y v u Q I rx ry ⟨Z, d, e, R, k, ad, ae, h, q⟩
  cases d <;> cases e <;> try exact h.elim
  simp only [At] at ad ae
  obtain ⟨a, vs, rfl, a2, a3⟩ := ad
  subst ae
  have hne : vs ≠ [] := fun z => h.1.1 (List.eq_nil_of_length_eq_zero (by have := a3.len; rw [z] at this; simpa using this.symm))
  refine op_repT pins s σ H _ _ v u Q I rx ry ⟨a, _, vs, rfl, rfl, seqT k a2, hne, h.1.2.1, h.1.2.2.1, by rw [a3.len]; exact h.1.2.2.2, fun p hp => ?_⟩
  rename_i xs n
  have x := Ext.new (o := HO.tup (List.replicate n.toNat vs).flatten) k hp
  exact q _ _ _ _ h.2 x ⟨p, _, rfl, .inl (.inl upd_same), Ats.rep (Ats.mono x.zz _ _ a3) _⟩
def qLenN {γ : Type} (i : Nat) : PEx γ := fun s R => ∃ ds, s.ρ[i]? = some (some (.own ds)) ∧ R (.int (ds.length : Nat)) s
theorem qe_lenN {γ : Type} {X : Cx} {G : GP γ} {i : Nat} {a : Expr} {p pos : Pos} (hn : PE X a (tVar i)) (hg : Gl X "len") (hm : X.mg "len" = none) (hv : bootBuiltins "len" = some (.builtin "len"))
    (hs : starEach [a] X.env = (false, eval a X.env) :: starEach [] X.env := by rfl) (hpl : (backTo pos (starEach [] X.env)).any (·.1) = false := by rfl) : QE X G (.Call (.Name "len" p) [a] [] pos) (qLenN i) := by
  refine PE.imp (pe_callB call_len_seq hg hm hv (pa_cons hn pa_nil hs) (by decide) (by decide) hs hpl) fun σ H Q ⟨F, Z, s, R, r, ⟨ds, t1, t2⟩, q⟩ => ?_
  obtain ⟨b, vs, h1, h2, h3, _⟩ := r.own i ds t1
  exact ⟨.ref b, h1, b, vs, rfl, .inl (.inl (.inl h2)), q _ _ Z _ _ t2 (Same.refl _) r (by rw [h3.len]; rfl)⟩
end Pm

set_option Elab.async false
set_option linter.all false
set_option maxRecDepth 100000
set_option maxHeartbeats 1000000
set_option autoImplicit false
namespace Pm
open PySem PySem.Spec PySem.W
open PyProof.Rows hiding St
open L2
abbrev Bk := Int × Int × Int
def bkD (b : Bk) : D := .tup [.int b.1, .int b.2.1, .int b.2.2]
def BkOk (b : Bk) : Prop := Sz 110 b.1 ∧ Sz 110 b.2.1 ∧ Sz 110 b.2.2
def stB (l : List (Int × Int)) : List Bk := l.map fun q => (1, q.1 * q.2, q.2)
theorem bkl_eq (l : List Bk) : EqOk (.lst (l.map bkD)) (.lst []) ∧ D.eqv (.lst (l.map bkD)) (.lst []) = decide (l = []) := by
  have h : D.plns (l.map bkD) = true ∧ D.deps (l.map bkD) ≤ 1 := by
    induction l with
    | nil => exact ⟨rfl, Nat.zero_le _⟩
    | cons a l ih =>
      refine ⟨?_, ?_⟩
      · simp only [List.map_cons, D.plns, ih.1, Bool.and_true]; rfl
      · simp only [List.map_cons, D.deps]; have := ih.2; have : (bkD a).dep = 1 := by simp [bkD, D.dep, D.deps]
        omega
  obtain ⟨h1, h2⟩ := h
  exact ⟨⟨by simp only [D.pln, h1], rfl, by simp only [D.dep]; omega, by simp [D.dep, D.deps]⟩, by cases l <;> rfl⟩
theorem idx_bkl {l : List Bk} {z : Bk} : idx ((l ++ [z]).map bkD) (-1) = some (bkD z) := by
  unfold idx
  rw [if_pos (by decide), if_pos (by simp; omega)]
  have e : ((-1 : Int) + ((l ++ [z]).map bkD).length).toNat = l.length := by simp; omega
  rw [e, List.map_append]
  simp
theorem bks_ok {L : List Bk} (h : ∀ b ∈ L, BkOk b) : D.plns (L.map bkD) = true ∧ PyData.showableAll (D.pys (L.map bkD)) = true ∧ D.deps (L.map bkD) ≤ 1 ∧ D.wids (L.map bkD) ≤ 7000 * L.length := by
  induction L with
  | nil => exact ⟨rfl, rfl, Nat.zero_le _, Nat.zero_le _⟩
  | cons x rs ih =>
    obtain ⟨a, c, d, e⟩ := ih (fun y hy => h y (by simp [hy]))
    have hx := h x (by simp)
    refine ⟨?_, ?_, ?_, ?_⟩
    · simp only [List.map_cons, D.plns, a]; rfl
    · show ((bkD x).py.showable && PyData.showableAll (D.pys (rs.map bkD))) = true
      have s : (bkD x).py.showable = true := by
        show (decide (x.1.natAbs.log2 < 1920) && (decide (x.2.1.natAbs.log2 < 1920) && (decide (x.2.2.natAbs.log2 < 1920) && true))) = true
        have h1 := (hx.1.le (by decide : 110 ≤ 1920)).log (by decide)
        have h2 := (hx.2.1.le (by decide : 110 ≤ 1920)).log (by decide)
        have h3 := (hx.2.2.le (by decide : 110 ≤ 1920)).log (by decide)
        rw [decide_eq_true h1, decide_eq_true h2, decide_eq_true h3]; rfl
      rw [s, c]; rfl
    · simp only [List.map_cons, D.deps]
      have : (bkD x).dep = 1 := by simp [bkD, D.dep, D.deps]
      omega
    · simp only [List.map_cons, D.wids, List.length_cons]
      have : (bkD x).wid = 6032 := by simp [bkD, D.wid, D.wids]
      omega
theorem row_sh {l : List (Int × Int)} (h : ∀ q ∈ l, ItOk q) (hn : l.length ≤ 100) : ShOk (.tup (l.map itD)) := by
  have hs := its_show l fun q m => by obtain ⟨a, b, c, d⟩ := h q m; omega
  have hd := its_dep l
  have hw := its_wid l
  refine ⟨?_, ?_, ?_, ?_⟩
  · simp only [D.pln, its_pln]
  · exact hs
  · simp only [D.dep]; omega
  · simp only [D.wid]; omega
theorem rowbk_sh {l : List (Int × Int)} (h : ∀ q ∈ l, ItOk q) (hn : l.length ≤ 100) {L : List Bk} (hb : ∀ b ∈ L, BkOk b) (hL : L.length ≤ 100) : ShOk (.lst [.tup (l.map itD), .tup (L.map bkD)]) := by
  obtain ⟨o1, o2, o3, o4⟩ := row_sh h hn
  obtain ⟨q1, q2, q3, q4⟩ := bks_ok hb
  refine ⟨?_, ?_, ?_, ?_⟩
  · simp only [D.pln, D.plns] at o1 ⊢; rw [o1, q1]; rfl
  · show ((D.tup (l.map itD)).py.showable && (PyData.showableAll (D.pys (L.map bkD)) && true)) = true
    rw [o2, q2]; rfl
  · have hd := its_dep l
    simp only [D.dep, D.deps]; omega
  · have hw := its_wid l
    simp only [D.wid, D.wids]; omega
theorem stB_ok {l : List (Int × Int)} (h : ∀ q ∈ l, ItOk q) : ∀ b ∈ stB l, BkOk b := fun b m => by
  obtain ⟨q, hq, rfl⟩ := List.mem_map.mp m
  have hb := (h q hq).b
  obtain ⟨a, c, d, e⟩ := h q hq
  have e1 : (10 : Int) ^ 9 < 2 ^ 40 := by decide
  have e2 : (10 : Int) ^ 6 < 2 ^ 40 := by decide
  have e3 : ((2 ^ 40 : Nat) : Int) = 2 ^ 40 := by decide
  have s1 : Sz 40 q.1 := by unfold Sz; omega
  have s2 : Sz 40 q.2 := by unfold Sz; omega
  exact ⟨(by show (1 : Int).natAbs < 2 ^ 110; decide), (s1.mul s2).le (by decide), s2.le (by decide)⟩
end Pm

set_option Elab.async false
set_option linter.all false
set_option maxRecDepth 100000
set_option maxHeartbeats 1000000
set_option autoImplicit false
namespace Pm
open PySem PySem.Spec PySem.W
open PyProof.Rows hiding St
open L2
def pre (l : List (Int × Int)) (k : Nat) : Int × Int := (((l.take k).map fun q => q.1 * q.2).sum, ((l.take k).map fun q => q.2).sum)
def preD (l : List (Int × Int)) : D := .lst ((List.range (l.length + 1)).map fun k => itD (pre l k))
theorem pre_succ {l : List (Int × Int)} {k : Nat} {q : Int × Int} (h : l[k]? = some q) : pre l (k + 1) = ((pre l k).1 + q.1 * q.2, (pre l k).2 + q.2) := by
  unfold pre
  rw [List.take_add_one, h]
  simp
def sub2 (f : Nat → Int × Int) (b e : Nat) : Int × Int := ((f e).1 - (f b).1, (f e).2 - (f b).2)
def falls2 (x y : Int × Int) : Bool := decide (x.1 * y.2 > y.1 * x.2)
def stayB (l : List (Int × Int)) (p : Nat) : Bool := (List.range p).all fun b => (List.range (l.length - p)).all fun k => !falls2 (sub2 (pre l) b p) (sub2 (pre l) p (p + 1 + k))
theorem avg_split {p q t u1 u2 u3 : Int} (h1 : 0 < u1) (h2 : 0 < u2) (h3 : 0 < u3) (a : q * u1 ≤ p * u2) (b : t * (u1 + u2) < (p + q) * u3) : t * u1 < p * u3 := by
  have c : (p + q) * u1 ≤ p * (u1 + u2) := by grind
  have d : (p + q) * u1 * u3 ≤ p * (u1 + u2) * u3 := Int.mul_le_mul_of_nonneg_right c (by omega)
  have e : t * (u1 + u2) * u1 < (p + q) * u3 * u1 := Int.mul_lt_mul_of_pos_right b h1
  have f : (u1 + u2) * (t * u1) < (u1 + u2) * (p * u3) := by grind
  exact Int.lt_of_mul_lt_mul_left f (by omega)
theorem mrg_left {p q t u1 u2 u3 : Int} (h1 : 0 < u1) (h2 : 0 < u2) (h3 : 0 < u3) (a : q * u1 < p * u2) (b : t * (u1 + u2) < (p + q) * u3) : (q + t) * u1 < p * (u2 + u3) := by
  have := avg_split h1 h2 h3 (Int.le_of_lt a) b
  grind
theorem mrg_right {p q t u1 u2 u3 : Int} (h1 : 0 < u1) (h2 : 0 < u2) (h3 : 0 < u3) (a : t * u2 < q * u3) (b : (q + t) * u1 < p * (u2 + u3)) : t * (u1 + u2) < (p + q) * u3 := by
  have c : t * (u2 + u3) ≤ (q + t) * u3 := by grind
  have d : t * (u2 + u3) * u1 ≤ (q + t) * u3 * u1 := Int.mul_le_mul_of_nonneg_right c (by omega)
  have e : (q + t) * u1 * u3 < p * (u2 + u3) * u3 := Int.mul_lt_mul_of_pos_right b h3
  have f : (u2 + u3) * (t * u1) < (u2 + u3) * (p * u3) := by grind
  have g := Int.lt_of_mul_lt_mul_left f (by omega)
  grind

def Gd (l : List (Int × Int)) (a c : Nat) : Prop := a < c ∧ c ≤ l.length ∧ ∀ m, a < m → m < c → (sub2 (pre l) m c).1 * (sub2 (pre l) a m).2 < (sub2 (pre l) a m).1 * (sub2 (pre l) m c).2
theorem sub2_1 (f : Nat → Int × Int) (a b c : Nat) : (sub2 f a c).1 = (sub2 f a b).1 + (sub2 f b c).1 := by
  unfold sub2; simp only; omega
theorem sub2_2 (f : Nat → Int × Int) (a b c : Nat) : (sub2 f a c).2 = (sub2 f a b).2 + (sub2 f b c).2 := by
  unfold sub2; simp only; omega
theorem sub2_pos {l : List (Int × Int)} (h : ∀ q ∈ l, ItOk q) {a : Nat} : ∀ {b : Nat}, a < b → b ≤ l.length → 0 < (sub2 (pre l) a b).2
  | 0, h1, _ => by omega
  | b + 1, h1, h2 => by
    have hb : l[b]? = some l[b] := List.getElem?_eq_getElem (by omega)
    have hw := (h l[b] (List.getElem_mem _)).2.2.1
    have e : (sub2 (pre l) a (b + 1)).2 = (sub2 (pre l) a b).2 + l[b].2 := by
      unfold sub2
      rw [pre_succ hb]
      simp only; omega
    rw [e]
    by_cases z : a = b
    · subst z
      have : (sub2 (pre l) a a).2 = 0 := by unfold sub2; simp only; omega
      omega
    · have := sub2_pos h (a := a) (b := b) (by omega) (by omega)
      omega
theorem Gd.mrg {l : List (Int × Int)} (h : ∀ q ∈ l, ItOk q) {a b c : Nat} (g1 : Gd l a b) (g2 : Gd l b c) (f : falls2 (sub2 (pre l) a b) (sub2 (pre l) b c) = true) : Gd l a c := by
  obtain ⟨a1, a2, a3⟩ := g1
  obtain ⟨b1, b2, b3⟩ := g2
  have f : (sub2 (pre l) b c).1 * (sub2 (pre l) a b).2 < (sub2 (pre l) a b).1 * (sub2 (pre l) b c).2 := of_decide_eq_true f
  refine ⟨by omega, b2, fun m m1 m2 => ?_⟩
  rcases Nat.lt_trichotomy m b with z | z | z
  · rw [sub2_1 _ m b c, sub2_2 _ m b c]
    have f' := f
    rw [sub2_1 _ a m b, sub2_2 _ a m b] at f'
    exact mrg_left (sub2_pos h m1 (by omega)) (sub2_pos h z (by omega)) (sub2_pos h b1 b2) (a3 m m1 z) f'
  · subst z
    exact f
  · rw [sub2_1 _ a b m, sub2_2 _ a b m]
    have f' := f
    rw [sub2_1 _ b m c, sub2_2 _ b m c] at f'
    exact mrg_right (sub2_pos h a1 (by omega)) (sub2_pos h z (by omega)) (sub2_pos h m2 b2) (b3 m z m2) f'
theorem sum_le {B : Nat} : ∀ {l : List Int}, (∀ x ∈ l, x.natAbs ≤ B) → l.sum.natAbs ≤ l.length * B
  | [], _ => by simp
  | x :: l, h => by
    have h1 := h x (by simp)
    have h2 := sum_le (l := l) fun y hy => h y (by simp [hy])
    rw [List.sum_cons, List.length_cons, Nat.succ_mul]
    omega
theorem pre_sz {l : List (Int × Int)} (h : ∀ q ∈ l, ItOk q) (hn : l.length ≤ 1000) (k : Nat) : Sz 70 (pre l k).1 ∧ Sz 70 (pre l k).2 := by
  have tl : (l.take k).length ≤ 1000 := Nat.le_trans (List.length_take_le' k l) hn
  have b1 : ∀ x ∈ (l.take k).map fun q => q.1 * q.2, x.natAbs ≤ 10 ^ 15 := fun x hx => by
    obtain ⟨q, hq, rfl⟩ := List.mem_map.mp hx
    obtain ⟨a, b, c, d⟩ := h q (List.mem_of_mem_take hq)
    rw [Int.natAbs_mul]
    have e1 : q.1.natAbs ≤ 10 ^ 9 := by omega
    have e2 : q.2.natAbs ≤ 10 ^ 6 := by omega
    exact Nat.le_trans (Nat.mul_le_mul e1 e2) (by decide)
  have b2 : ∀ x ∈ (l.take k).map fun q => q.2, x.natAbs ≤ 10 ^ 15 := fun x hx => by
    obtain ⟨q, hq, rfl⟩ := List.mem_map.mp hx
    obtain ⟨a, b, c, d⟩ := h q (List.mem_of_mem_take hq)
    omega
  have s1 := sum_le b1
  have s2 := sum_le b2
  rw [List.length_map] at s1 s2
  have m : (l.take k).length * 10 ^ 15 ≤ 1000 * 10 ^ 15 := Nat.mul_le_mul_right _ tl
  have t : 1000 * 10 ^ 15 < 2 ^ 70 := by decide
  exact ⟨by unfold Sz pre; exact Nat.lt_of_le_of_lt (Nat.le_trans s1 m) t, by unfold Sz pre; exact Nat.lt_of_le_of_lt (Nat.le_trans s2 m) t⟩
theorem sub2_sz {l : List (Int × Int)} (h : ∀ q ∈ l, ItOk q) (hn : l.length ≤ 1000) (b e : Nat) : Sz 71 (sub2 (pre l) b e).1 ∧ Sz 71 (sub2 (pre l) b e).2 :=
  ⟨(pre_sz h hn e).1.sub (pre_sz h hn b).1, (pre_sz h hn e).2.sub (pre_sz h hn b).2⟩
def SegR (l : List (Int × Int)) : List (Nat × Nat) → Nat → Prop
  | [], e => e = 0
  | (b, c) :: qs, e => c = e ∧ Gd l b c ∧ SegR l qs b
def NoFR (l : List (Int × Int)) : List (Nat × Nat) → Prop
  | x :: y :: r => falls2 (sub2 (pre l) y.1 y.2) (sub2 (pre l) x.1 x.2) = false ∧ NoFR l (y :: r)
  | _ => True
def blk (l : List (Int × Int)) (b c : Nat) : Bk := ((c : Int) - b, sub2 (pre l) b c)
theorem blk_ok {l : List (Int × Int)} (h : ∀ q ∈ l, ItOk q) (hn : l.length ≤ 1000) {b c : Nat} (hb : b ≤ 1000) (hc : c ≤ 1000) : BkOk (blk l b c) := by
  have z := sub2_sz h hn b c
  refine ⟨?_, z.1.le (by decide), z.2.le (by decide)⟩
  have e : Sz 11 ((c : Int) - b) := by unfold Sz; omega
  exact e.le (by decide)
theorem blk_one {l : List (Int × Int)} {j : Nat} {q : Int × Int} (h : l[j]? = some q) : ((1 : Int), q.1 * q.2, q.2) = blk l j (j + 1) := by
  unfold blk sub2
  rw [pre_succ h]
  have e1 : ((j + 1 : Nat) : Int) - j = 1 := by omega
  have e2 : (pre l j).1 + q.1 * q.2 - (pre l j).1 = q.1 * q.2 := by omega
  have e3 : (pre l j).2 + q.2 - (pre l j).2 = q.2 := by omega
  rw [e1]
  simp only [e2, e3]
theorem Gd.one {l : List (Int × Int)} {j : Nat} (h : j < l.length) : Gd l j (j + 1) := ⟨by omega, by omega, fun m a b => by omega⟩
end Pm

set_option Elab.async false
set_option linter.all false
set_option maxRecDepth 100000
set_option maxHeartbeats 1000000
set_option autoImplicit false
namespace Pm
open PySem PySem.Spec PySem.W
open PyProof.Rows hiding St
open L2
def le2 (x y : Int × Int) : Prop := x.1 * y.2 ≤ y.1 * x.2
theorem le2_trans {x y z : Int × Int} (hx : 0 < x.2) (hy : 0 < y.2) (hz : 0 < z.2) (a : le2 x y) (b : le2 y z) : le2 x z := by
  unfold le2 at *
  have c : x.1 * y.2 * z.2 ≤ y.1 * x.2 * z.2 := Int.mul_le_mul_of_nonneg_right a (by omega)
  have d : y.1 * z.2 * x.2 ≤ z.1 * y.2 * x.2 := Int.mul_le_mul_of_nonneg_right b (by omega)
  have e : y.2 * (x.1 * z.2) ≤ y.2 * (z.1 * x.2) := by grind
  exact Int.le_of_mul_le_mul_left e hy
theorem le2_sum {l : List (Int × Int)} {a b c : Nat} {t : Int × Int} (h1 : le2 (sub2 (pre l) a b) t) (h2 : le2 (sub2 (pre l) b c) t) : le2 (sub2 (pre l) a c) t := by
  unfold le2 at *
  rw [sub2_1 _ a b c, sub2_2 _ a b c]
  grind
theorem le2_sum' {l : List (Int × Int)} {a b c : Nat} {t : Int × Int} (h1 : le2 t (sub2 (pre l) a b)) (h2 : le2 t (sub2 (pre l) b c)) : le2 t (sub2 (pre l) a c) := by
  unfold le2 at *
  rw [sub2_1 _ a b c, sub2_2 _ a b c]
  grind
theorem le2_rfl (x : Int × Int) : le2 x x := Int.le_refl _
theorem Gd.suf {l : List (Int × Int)} {b c m : Nat} (g : Gd l b c) (h1 : b ≤ m) (h2 : m < c) : le2 (sub2 (pre l) m c) (sub2 (pre l) b c) := by
  by_cases z : b = m
  · subst z; exact le2_rfl _
  · have := g.2.2 m (by omega) h2
    unfold le2
    rw [sub2_1 _ b m c, sub2_2 _ b m c]
    grind
theorem Gd.pre {l : List (Int × Int)} {b c m : Nat} (g : Gd l b c) (h1 : b < m) (h2 : m ≤ c) : le2 (sub2 (pre l) b c) (sub2 (pre l) b m) := by
  by_cases z : m = c
  · subst z; exact le2_rfl _
  · have := g.2.2 m h1 (by omega)
    unfold le2
    rw [sub2_1 _ b m c, sub2_2 _ b m c]
    grind
theorem le2_of {x y : Int × Int} (h : falls2 x y = false) : le2 x y := by
  have := of_decide_eq_false h
  unfold le2; omega
theorem SegR.suf {l : List (Int × Int)} (hq : ∀ q ∈ l, ItOk q) : ∀ {qs : List (Nat × Nat)} {b c e : Nat}, SegR l ((b, c) :: qs) e → NoFR l ((b, c) :: qs) → ∀ a, a < c → le2 (sub2 (pre l) a c) (sub2 (pre l) b c)
  | [], b, c, e, ⟨_, g, hb⟩, _, a, ha => by
    have hb : b = 0 := hb
    exact g.suf (by omega) ha
  | (b', c') :: qs, b, c, e, ⟨_, g, hs⟩, hf, a, ha => by
    by_cases z : b ≤ a
    · exact g.suf z ha
    · have e1 : c' = b := hs.1
      subst e1
      have g' := hs.2.1
      have ih := SegR.suf hq hs hf.2 a (by omega)
      have f := le2_of hf.1
      have p1 := sub2_pos hq (a := a) (b := c') (by omega) (by have := g.2.1; have := g.1; omega)
      have p2 := sub2_pos hq g'.1 g'.2.1
      have p3 := sub2_pos hq g.1 g.2.1
      exact le2_sum (le2_trans p1 p2 p3 ih f) (le2_rfl _)
theorem SegR.top {l : List (Int × Int)} (hq : ∀ q ∈ l, ItOk q) : ∀ {qs : List (Nat × Nat)} {x : Nat × Nat} {e : Nat}, SegR l (x :: qs) e → NoFR l (x :: qs) → ∀ y ∈ qs, le2 (sub2 (pre l) y.1 y.2) (sub2 (pre l) x.1 x.2) ∧ Gd l y.1 y.2
  | [], _, _, _, _, y, hy => by cases hy
  | z :: qs, x, e, hs, hf, y, hy => by
    have hs2 : SegR l (z :: qs) x.1 := hs.2.2
    have gx : Gd l x.1 x.2 := hs.2.1
    have gz : Gd l z.1 z.2 := hs2.2.1
    have f := le2_of hf.1
    rcases List.mem_cons.mp hy with rfl | hy
    · exact ⟨f, gz⟩
    · obtain ⟨h1, h2⟩ := SegR.top hq hs2 hf.2 y hy
      exact ⟨le2_trans (sub2_pos hq h2.1 h2.2.1) (sub2_pos hq gz.1 gz.2.1) (sub2_pos hq gx.1 gx.2.1) h1 f, h2⟩
theorem SegR.pref {l : List (Int × Int)} (hq : ∀ q ∈ l, ItOk q) : ∀ {qs : List (Nat × Nat)} {e : Nat}, SegR l qs e → NoFR l qs → ∀ y ∈ qs, y.2 ≤ e ∧ ∀ m, y.1 < m → m ≤ e → le2 (sub2 (pre l) y.1 y.2) (sub2 (pre l) y.1 m)
  | [], _, _, _, y, hy => by cases hy
  | x :: qs, e, hs, hf, y, hy => by
    have ex : x.2 = e := hs.1
    have gx : Gd l x.1 x.2 := hs.2.1
    rcases List.mem_cons.mp hy with rfl | hy
    · exact ⟨by omega, fun m h1 h2 => gx.pre h1 (by omega)⟩
    · have hf2 : NoFR l qs := by
        cases qs with
        | nil => cases hy
        | cons z r => exact hf.2
      obtain ⟨i1, i2⟩ := SegR.pref hq hs.2.2 hf2 y hy
      obtain ⟨t1, gy⟩ := SegR.top hq hs hf y hy
      have := gx.1
      refine ⟨by omega, fun m h1 h2 => ?_⟩
      by_cases z : m ≤ x.1
      · exact i2 m h1 z
      · have hx : y.1 < x.1 := by have := gy.1; omega
        have a1 := i2 x.1 hx (Nat.le_refl _)
        have a2 := gx.pre (m := m) (by omega) (by omega)
        have p1 := sub2_pos hq gy.1 gy.2.1
        have p2 := sub2_pos hq gx.1 gx.2.1
        have p3 := sub2_pos hq (a := x.1) (b := m) (by omega) (by have := gx.2.1; omega)
        exact le2_sum' a1 (le2_trans p1 p2 p3 t1 a2)
theorem SegR.cut {l : List (Int × Int)} (hq : ∀ q ∈ l, ItOk q) : ∀ {qs : List (Nat × Nat)} {e : Nat}, SegR l qs e → NoFR l qs → ∀ y ∈ qs, 0 < y.1 → ∀ b, b < y.1 → le2 (sub2 (pre l) b y.1) (sub2 (pre l) y.1 y.2)
  | [], _, _, _, y, hy, _, _, _ => by cases hy
  | [x], e, hs, hf, y, hy, h0, b, hb => by
    have : y = x := by simpa using hy
    subst this
    have : y.1 = 0 := hs.2.2
    omega
  | x :: z :: qs, e, hs, hf, y, hy, h0, b, hb => by
    rcases List.mem_cons.mp hy with rfl | hy
    · have hz : z.2 = y.1 := hs.2.2.1
      have gz : Gd l z.1 z.2 := hs.2.2.2.1
      have gy : Gd l y.1 y.2 := hs.2.1
      have s1 := SegR.suf hq hs.2.2 hf.2 b (by omega)
      have f := le2_of hf.1
      have p1 := sub2_pos hq (a := b) (b := z.2) (by omega) gz.2.1
      rw [← hz]
      rw [← hz] at gy f
      exact le2_trans p1 (sub2_pos hq gz.1 gz.2.1) (sub2_pos hq gy.1 gy.2.1) s1 f
    · exact SegR.cut hq hs.2.2 hf.2 y hy h0 b hb
theorem SegR.inner {l : List (Int × Int)} : ∀ {qs : List (Nat × Nat)} {e : Nat}, SegR l qs e → ∀ p, p < e → (∃ y ∈ qs, y.1 = p) ∨ ∃ y ∈ qs, y.1 < p ∧ p < y.2 ∧ Gd l y.1 y.2
  | [], e, h, p, hp => by
    have : e = 0 := h
    omega
  | x :: qs, e, h, p, hp => by
    have hx : x.2 = e := h.1
    rcases Nat.lt_trichotomy p x.1 with z | z | z
    · rcases SegR.inner h.2.2 p z with ⟨y, hy, e⟩ | ⟨y, hy, e⟩
      · exact .inl ⟨y, by simp [hy], e⟩
      · exact .inr ⟨y, by simp [hy], e⟩
    · exact .inl ⟨x, by simp, z.symm⟩
    · exact .inr ⟨x, by simp, z, by omega, h.2.1⟩
theorem stay_iff {l : List (Int × Int)} (hq : ∀ q ∈ l, ItOk q) {qs : List (Nat × Nat)} (hs : SegR l qs l.length) (hf : NoFR l qs) {p : Nat} (h0 : 0 < p) (hp : p < l.length) : stayB l p = true ↔ ∃ y ∈ qs, y.1 = p := by
  constructor
  · intro h
    rcases SegR.inner hs p hp with h1 | ⟨y, hy, a, b, g⟩
    · exact h1
    · unfold stayB at h
      rw [List.all_eq_true] at h
      have h2 := h y.1 (List.mem_range.mpr a)
      rw [List.all_eq_true] at h2
      have gl := g.2.1
      have h3 := h2 (y.2 - p - 1) (List.mem_range.mpr (by omega))
      have e : p + 1 + (y.2 - p - 1) = y.2 := by omega
      rw [e] at h3
      have g3 := g.2.2 p a b
      have : falls2 (sub2 (pre l) y.1 p) (sub2 (pre l) p y.2) = true := decide_eq_true g3
      rw [this] at h3
      cases h3
  · rintro ⟨y, hy, rfl⟩
    unfold stayB
    rw [List.all_eq_true]
    intro b hb
    rw [List.all_eq_true]
    intro k hk
    have hb := List.mem_range.mp hb
    have hk := List.mem_range.mp hk
    have c1 := SegR.cut hq hs hf y hy h0 b hb
    obtain ⟨i1, i2⟩ := SegR.pref hq hs hf y hy
    have c2 := i2 (y.1 + 1 + k) (by omega) (by omega)
    have g : Gd l y.1 y.2 := by
      cases qs with
      | nil => cases hy
      | cons x r =>
        rcases List.mem_cons.mp hy with rfl | hy
        · exact hs.2.1
        · exact (SegR.top hq hs hf y hy).2
    have p1 := sub2_pos hq (a := b) (b := y.1) hb (by omega)
    have p3 := sub2_pos hq (a := y.1) (b := y.1 + 1 + k) (by omega) (by omega)
    have c3 := le2_trans p1 (sub2_pos hq g.1 g.2.1) p3 c1 c2
    have : falls2 (sub2 (pre l) b y.1) (sub2 (pre l) y.1 (y.1 + 1 + k)) = false := by
      unfold le2 at c3
      exact decide_eq_false (by omega)
    rw [this]; rfl
theorem SegR.zip {l : List (Int × Int)} : ∀ {qs : List (Nat × Nat)} {e : Nat}, SegR l qs e → qs.reverse = (qs.reverse.map Prod.fst).zip ((qs.reverse.map Prod.fst).tail ++ [e])
  | [], _, _ => rfl
  | [x], e, h => by
    have : x.2 = e := h.1
    subst this; rfl
  | x :: z :: qs, e, h => by
    have hx : x.2 = e := h.1
    have ih := SegR.zip h.2.2
    have hne : ((z :: qs).reverse.map Prod.fst) ≠ [] := by simp
    rw [List.reverse_cons, List.map_append, List.tail_append_of_ne_nil hne, List.map_singleton]
    rw [List.zip_append (by simp)]
    rw [← ih]
    show _ = _ ++ [(x.1, e)]
    rw [← hx]
theorem SegR.low {l : List (Int × Int)} : ∀ {qs : List (Nat × Nat)} {e : Nat}, SegR l qs e → (∀ y ∈ qs, y.1 < e) ∧ (qs.reverse.map Prod.fst).Pairwise (· < ·)
  | [], _, _ => ⟨fun y hy => (by cases hy), List.Pairwise.nil⟩
  | x :: qs, e, h => by
    obtain ⟨i1, i2⟩ := SegR.low h.2.2
    have g := h.2.1.1
    have hx : x.2 = e := h.1
    refine ⟨fun y hy => ?_, ?_⟩
    · rcases List.mem_cons.mp hy with rfl | hy
      · omega
      · have := i1 y hy; omega
    · rw [List.reverse_cons, List.map_append, List.pairwise_append]
      refine ⟨i2, by simp, fun a ha b hb => ?_⟩
      obtain ⟨y, hy, rfl⟩ := List.mem_map.mp ha
      have : b = x.1 := by simpa using hb
      rw [this]
      exact i1 y (by simpa using hy)
theorem asc_extN : ∀ {l k : List Nat}, l.Pairwise (· < ·) → k.Pairwise (· < ·) → (∀ x, x ∈ l ↔ x ∈ k) → l = k
  | [], [], _, _, _ => rfl
  | [], b :: k, _, _, h => absurd ((h b).mpr (by simp)) (by simp)
  | a :: l, [], _, _, h => absurd ((h a).mp (by simp)) (by simp)
  | a :: l, b :: k, h1, h2, h => by
    rw [List.pairwise_cons] at h1 h2
    have e : a = b := by
      have ha := List.mem_cons.mp ((h a).mp (by simp))
      have hb := List.mem_cons.mp ((h b).mpr (by simp))
      rcases ha with ha | ha
      · exact ha
      · rcases hb with hb | hb
        · exact hb.symm
        · have := h1.1 b hb; have := h2.1 a ha; omega
    subst e
    congr 1
    refine asc_extN h1.2 h2.2 fun x => ⟨fun hx => ?_, fun hx => ?_⟩
    · rcases List.mem_cons.mp ((h x).mp (by simp [hx])) with e | e
      · have := h1.1 x hx; omega
      · exact e
    · rcases List.mem_cons.mp ((h x).mpr (by simp [hx])) with e | e
      · have := h2.1 x hx; omega
      · exact e
def cutsL (l : List (Int × Int)) : List Nat := 0 :: ((((List.range (l.length - 1)).map fun k => 1 + k).filter (stayB l)) ++ [l.length])
def poolB (l : List (Int × Int)) : List Bk := ((cutsL l).zip (cutsL l).tail).map fun p => ((p.2 : Int) - p.1, sub2 (pre l) p.1 p.2)
abbrev stkD (l : List (Int × Int)) (qs : List (Nat × Nat)) : List D := (qs.reverse.map fun p => blk l p.1 p.2).map bkD
theorem stk_eq {l : List (Int × Int)} (hq : ∀ q ∈ l, ItOk q) (hl : 0 < l.length) {qs : List (Nat × Nat)} (hs : SegR l qs l.length) (hf : NoFR l qs) : stkD l qs = (poolB l).map bkD := by
  obtain ⟨lo, asc⟩ := SegR.low hs
  have hS : qs.reverse.map Prod.fst = 0 :: (((List.range (l.length - 1)).map fun k => 1 + k).filter (stayB l)) := by
    refine asc_extN asc ?_ fun x => ?_
    · rw [List.pairwise_cons]
      refine ⟨fun y hy => ?_, ?_⟩
      · obtain ⟨k, _, rfl⟩ := List.mem_map.mp (List.mem_filter.mp hy).1
        omega
      · refine List.Pairwise.filter _ (List.pairwise_map.mpr ?_)
        exact List.pairwise_lt_range.imp fun h => by omega
    · have mem : x ∈ qs.reverse.map Prod.fst ↔ ∃ y ∈ qs, y.1 = x := by simp
      rw [mem, List.mem_cons, List.mem_filter, List.mem_map]
      constructor
      · rintro ⟨y, hy, rfl⟩
        by_cases z : y.1 = 0
        · exact .inl z
        · have := lo y hy
          exact .inr ⟨⟨y.1 - 1, List.mem_range.mpr (by omega), by omega⟩, (stay_iff hq hs hf (by omega) this).mpr ⟨y, hy, rfl⟩⟩
      · rintro (rfl | ⟨⟨k, hk, rfl⟩, h2⟩)
        · rcases SegR.inner hs 0 hl with h | ⟨y, _, h, _⟩
          · exact h
          · omega
        · have hk := List.mem_range.mp hk
          exact (stay_iff hq hs hf (by omega) (by omega)).mp h2
  have ez := SegR.zip hs
  rw [hS, List.tail_cons] at ez
  have ec : (cutsL l).zip (cutsL l).tail = qs.reverse := by
    rw [ez]
    unfold cutsL
    rw [List.tail_cons, ← List.cons_append]
    generalize (((List.range (l.length - 1)).map fun k => 1 + k).filter (stayB l)) = F
    have h1 : (0 :: F).length = (F ++ [l.length]).length := by simp
    have := List.zip_append (l₁ := 0 :: F) (r₁ := [l.length]) (l₂ := F ++ [l.length]) (r₂ := ([] : List Nat)) h1
    rw [List.append_nil] at this
    rw [this]; simp
  unfold poolB stkD
  rw [ec]; rfl
end Pm

set_option Elab.async false
set_option linter.all false
set_option maxRecDepth 100000
set_option maxHeartbeats 1000000
set_option autoImplicit false
namespace Pm
open PySem PySem.Spec PySem.W
open PyProof.Rows hiding St
open L2
def SegF (l : List (Int × Int)) : List (Nat × Nat) → Nat → Nat → Prop
  | [], a, e => a = e
  | (b, c) :: r, a, e => b = a ∧ Gd l b c ∧ SegF l r c e
theorem SegF.rev {l : List (Int × Int)} : ∀ {ps qs : List (Nat × Nat)} {a e : Nat}, SegF l ps a e → SegR l qs a → SegR l (ps.reverse ++ qs) e
  | [], qs, a, e, h, hq => by
    have : a = e := h
    subst this; exact hq
  | (b, c) :: r, qs, a, e, ⟨h1, h2, h3⟩, hq => by
    subst h1
    rw [List.reverse_cons, List.append_assoc]
    exact SegF.rev h3 ⟨rfl, h2, hq⟩
theorem noFR_of {l : List (Int × Int)} : ∀ {qs : List (Nat × Nat)}, (∀ k (h : k + 1 < qs.length), falls2 (sub2 (pre l) qs[k + 1].1 qs[k + 1].2) (sub2 (pre l) qs[k].1 qs[k].2) = false) → NoFR l qs
  | [], _ => trivial
  | [_], _ => trivial
  | x :: y :: r, h => ⟨h 0 (by simp), noFR_of fun k hk => h (k + 1) (by simpa using hk)⟩
theorem SegF.noFR {l : List (Int × Int)} {ps : List (Nat × Nat)} (h : ∀ k (h : k + 1 < ps.length), falls2 (sub2 (pre l) ps[k].1 ps[k].2) (sub2 (pre l) ps[k + 1].1 ps[k + 1].2) = false) : NoFR l ps.reverse := by
  refine noFR_of fun k hk => ?_
  have hk' : k + 1 < ps.length := by simpa using hk
  rw [List.getElem_reverse, List.getElem_reverse]
  have := h (ps.length - 1 - (k + 1)) (by omega)
  have e : ps.length - 1 - (k + 1) + 1 = ps.length - 1 - k := by omega
  simp only [e] at this
  exact this
theorem SegF.mrg {l : List (Int × Int)} (hq : ∀ q ∈ l, ItOk q) : ∀ {A B : List (Nat × Nat)} {x y : Nat × Nat} {a e : Nat}, SegF l (A ++ x :: y :: B) a e → falls2 (sub2 (pre l) x.1 x.2) (sub2 (pre l) y.1 y.2) = true → x.2 = y.1 ∧ SegF l (A ++ (x.1, y.2) :: B) a e
  | [], B, x, y, a, e, h, f => by
    obtain ⟨h1, h2, h3, h4, h5⟩ := h
    obtain ⟨y1, y2⟩ := y
    obtain ⟨x1, x2⟩ := x
    simp only at *
    subst h3
    exact ⟨rfl, h1, Gd.mrg hq h2 h4 f, h5⟩
  | (b, c) :: A, B, x, y, a, e, ⟨h1, h2, h3⟩, f => by
    obtain ⟨i1, i2⟩ := SegF.mrg hq h3 f
    exact ⟨i1, h1, h2, i2⟩
theorem SegF.gd {l : List (Int × Int)} : ∀ {ps : List (Nat × Nat)} {a e : Nat}, SegF l ps a e → ∀ y ∈ ps, Gd l y.1 y.2
  | [], _, _, _, y, hy => by cases hy
  | (b, c) :: r, a, e, ⟨h1, h2, h3⟩, y, hy => by
    rcases List.mem_cons.mp hy with rfl | hy
    · exact h2
    · exact SegF.gd h3 y hy
theorem SegF.start {l : List (Int × Int)} : ∀ (m a : Nat), a + m ≤ l.length → SegF l ((List.range' a m).map fun j => (j, j + 1)) a (a + m)
  | 0, _, _ => rfl
  | m + 1, a, h => by
    rw [List.range'_succ, List.map_cons]
    refine ⟨rfl, Gd.one (by omega), ?_⟩
    have := SegF.start (l := l) m (a + 1) (by omega)
    have e : a + 1 + m = a + (m + 1) := by omega
    rw [← e]; exact this
theorem split2 {α : Type} {ps : List α} {k : Nat} (h : k + 1 < ps.length) : ps = ps.take k ++ ps[k] :: ps[k + 1] :: ps.drop (k + 2) := by
  have e1 : ps = ps.take k ++ ps.drop k := (List.take_append_drop k ps).symm
  have e2 : ps.drop k = ps[k] :: ps.drop (k + 1) := List.drop_eq_getElem_cons (by omega)
  have e3 : ps.drop (k + 1) = ps[k + 1] :: ps.drop (k + 2) := List.drop_eq_getElem_cons (by omega)
  rw [e2, e3] at e1
  exact e1
end Pm

set_option Elab.async false
set_option linter.all false
set_option maxRecDepth 100000
set_option maxHeartbeats 1000000
set_option autoImplicit false
namespace Pm
open PySem PySem.Spec PySem.W
open PyProof.Rows hiding St
open L2
theorem seg_exists {l : List (Int × Int)} (hq : ∀ q ∈ l, ItOk q) : ∀ (n : Nat) (ps : List (Nat × Nat)), ps.length ≤ n → SegF l ps 0 l.length → ∃ qs, SegR l qs l.length ∧ NoFR l qs
  | n, ps, hn, hs => by
    by_cases z : ∃ k, ∃ h : k + 1 < ps.length, falls2 (sub2 (pre l) ps[k].1 ps[k].2) (sub2 (pre l) ps[k + 1].1 ps[k + 1].2) = true
    · obtain ⟨k, hk, f⟩ := z
      have e := split2 hk
      have hs2 := hs
      rw [e] at hs2
      obtain ⟨_, hs'⟩ := SegF.mrg hq hs2 f
      match n, hn with
      | 0, hn => omega
      | n + 1, hn => exact seg_exists hq n _ (by simp; omega) hs'
    · refine ⟨ps.reverse, ?_, SegF.noFR fun k hk => ?_⟩
      · have := SegF.rev (qs := []) hs rfl
        rwa [List.append_nil] at this
      · cases e : falls2 (sub2 (pre l) ps[k].1 ps[k].2) (sub2 (pre l) ps[k + 1].1 ps[k + 1].2) with
        | false => rfl
        | true => exact absurd ⟨k, hk, e⟩ z
theorem stack_exists {l : List (Int × Int)} (hq : ∀ q ∈ l, ItOk q) : ∃ qs, SegR l qs l.length ∧ NoFR l qs := by
  have h := SegF.start (l := l) l.length 0 (by omega)
  rw [Nat.zero_add] at h
  exact seg_exists hq _ _ (Nat.le_refl _) h
theorem bkD_inj {a b : Bk} (h : bkD a = bkD b) : a = b := by
  simp only [bkD, D.tup.injEq, List.cons.injEq, D.int.injEq, and_true] at h
  exact Prod.ext h.1 (Prod.ext h.2.1 h.2.2)
theorem poolB_eq {l : List (Int × Int)} (hq : ∀ q ∈ l, ItOk q) (hl : 0 < l.length) {qs : List (Nat × Nat)} (hs : SegR l qs l.length) (hf : NoFR l qs) : poolB l = qs.reverse.map fun p => blk l p.1 p.2 :=
  ((List.map_inj_right fun _ _ h => bkD_inj h).mp (stk_eq hq hl hs hf)).symm
def tv (l : List (Int × Int)) (p : Nat × Nat) : Rat := Rat.divInt (sub2 (pre l) p.1 p.2).1 (sub2 (pre l) p.1 p.2).2
def rowR (l : List (Int × Int)) : List Rat := (poolB l).flatMap fun b => List.replicate b.1.toNat (Rat.divInt b.2.1 b.2.2)
theorem SegR.segF {l : List (Int × Int)} : ∀ {qs ps : List (Nat × Nat)} {a e : Nat}, SegR l qs a → SegF l ps a e → SegF l (qs.reverse ++ ps) 0 e
  | [], ps, a, e, h, hs => by
    have : a = 0 := h
    subst this; exact hs
  | (b, c) :: qs, ps, a, e, ⟨h1, h2, h3⟩, hs => by
    subst h1
    rw [List.reverse_cons, List.append_assoc]
    exact SegR.segF h3 ⟨rfl, h2, hs⟩
theorem rowR_ps {l : List (Int × Int)} (hq : ∀ q ∈ l, ItOk q) (hl : 0 < l.length) : ∃ ps qs, SegR l qs l.length ∧ NoFR l qs ∧ ps = qs.reverse ∧ SegF l ps 0 l.length ∧ rowR l = ps.flatMap fun p => List.replicate (p.2 - p.1) (tv l p) := by
  obtain ⟨qs, hs, hf⟩ := stack_exists hq
  have sf : SegF l qs.reverse 0 l.length := by
    have := SegR.segF (ps := []) hs rfl
    rwa [List.append_nil] at this
  refine ⟨qs.reverse, qs, hs, hf, rfl, sf, ?_⟩
  unfold rowR
  rw [poolB_eq hq hl hs hf, List.flatMap_map]
  rw [List.flatMap_def, List.flatMap_def]
  congr 1
  refine List.map_congr_left fun p hp => ?_
  have : ((p.2 : Int) - p.1).toNat = p.2 - p.1 := by omega
  simp only [blk, this]; rfl
theorem SegF.at {l : List (Int × Int)} : ∀ {ps : List (Nat × Nat)} {a e : Nat}, SegF l ps a e → a ≤ e ∧ (ps.flatMap fun p => List.replicate (p.2 - p.1) (tv l p)).length = e - a ∧ ∀ i, a ≤ i → i < e → ∃ y ∈ ps, y.1 ≤ i ∧ i < y.2 ∧ (ps.flatMap fun p => List.replicate (p.2 - p.1) (tv l p))[i - a]? = some (tv l y)
  | [], a, e, h => by
    have : a = e := h
    subst this
    exact ⟨Nat.le_refl _, by simp, fun i h1 h2 => by omega⟩
  | (b, c) :: r, a, e, ⟨h1, h2, h3⟩ => by
    subst h1
    obtain ⟨i1, i2, i3⟩ := SegF.at h3
    have hbc := h2.1
    refine ⟨by omega, ?_, fun i hi1 hi2 => ?_⟩
    · rw [List.flatMap_cons, List.length_append, i2, List.length_replicate]; omega
    · rw [List.flatMap_cons]
      by_cases z : i < c
      · refine ⟨(b, c), by simp, hi1, z, ?_⟩
        rw [List.getElem?_append_left (by rw [List.length_replicate]; omega), List.getElem?_replicate, if_pos (by omega)]
      · obtain ⟨y, hy, y1, y2, y3⟩ := i3 i (by omega) hi2
        refine ⟨y, by simp [hy], y1, y2, ?_⟩
        rw [List.getElem?_append_right (by rw [List.length_replicate]; omega), List.length_replicate]
        have : i - b - (c - b) = i - c := by omega
        rw [this]; exact y3
theorem rowR_len {l : List (Int × Int)} (hq : ∀ q ∈ l, ItOk q) (hl : 0 < l.length) : (rowR l).length = l.length := by
  obtain ⟨ps, qs, hs, hf, rfl, sf, e⟩ := rowR_ps hq hl
  rw [e, (SegF.at sf).2.1]; omega
theorem SegR.sufs {l : List (Int × Int)} (hq : ∀ q ∈ l, ItOk q) : ∀ {qs : List (Nat × Nat)} {e : Nat}, SegR l qs e → NoFR l qs → ∀ y ∈ qs, ∀ a, a < y.2 → le2 (sub2 (pre l) a y.2) (sub2 (pre l) y.1 y.2)
  | [], _, _, _, y, hy, _, _ => by cases hy
  | x :: qs, e, hs, hf, y, hy, a, ha => by
    rcases List.mem_cons.mp hy with rfl | hy
    · exact SegR.suf hq (b := y.1) (c := y.2) hs hf a ha
    · have hf2 : NoFR l qs := by
        cases qs with
        | nil => cases hy
        | cons z r => exact hf.2
      exact SegR.sufs hq hs.2.2 hf2 y hy a ha
theorem SegR.mono {l : List (Int × Int)} (hq : ∀ q ∈ l, ItOk q) : ∀ {qs : List (Nat × Nat)} {e : Nat}, SegR l qs e → NoFR l qs → ∀ y ∈ qs, ∀ z ∈ qs, y.1 < z.1 → le2 (sub2 (pre l) y.1 y.2) (sub2 (pre l) z.1 z.2)
  | [], _, _, _, y, hy, _, _, _ => by cases hy
  | x :: qs, e, hs, hf, y, hy, z, hz, hyz => by
    rcases List.mem_cons.mp hz with rfl | hz'
    · rcases List.mem_cons.mp hy with rfl | hy'
      · omega
      · exact (SegR.top hq hs hf y hy').1
    · have hf2 : NoFR l qs := by
        cases qs with
        | nil => cases hz'
        | cons z r => exact hf.2
      rcases List.mem_cons.mp hy with rfl | hy'
      · have := (SegR.low hs.2.2).1 z hz'
        have : z.1 < y.1 := this
        omega
      · exact SegR.mono hq hs.2.2 hf2 y hy' z hz' hyz
theorem SegR.gd {l : List (Int × Int)} : ∀ {qs : List (Nat × Nat)} {e : Nat}, SegR l qs e → ∀ y ∈ qs, Gd l y.1 y.2
  | [], _, _, y, hy => by cases hy
  | x :: qs, e, hs, y, hy => by
    rcases List.mem_cons.mp hy with rfl | hy
    · exact hs.2.1
    · exact SegR.gd hs.2.2 y hy
theorem rate_is {l : List (Int × Int)} (hq : ∀ q ∈ l, ItOk q) {i : Nat} (hi : i < l.length) {B : Int × Int} (h1 : ∃ a e, a ≤ i ∧ i < e ∧ e ≤ l.length ∧ B = sub2 (pre l) a e ∧ ∀ e', i < e' → e' ≤ l.length → le2 B (sub2 (pre l) a e')) (h2 : ∀ a, a ≤ i → ∃ e, i < e ∧ e ≤ l.length ∧ le2 (sub2 (pre l) a e) B) : (rowR l)[i]? = some (Rat.divInt B.1 B.2) := by
  obtain ⟨ps, qs, hs, hf, rfl, sf, e⟩ := rowR_ps hq (by omega)
  obtain ⟨y, hy, y1, y2, y3⟩ := (SegF.at sf).2.2 i (by omega) hi
  rw [Nat.sub_zero] at y3
  rw [e, y3]
  have hy : y ∈ qs := by simpa using hy
  have gy := SegR.gd hs y hy
  have t1 := gy.1
  have t2 := gy.2.1
  obtain ⟨a, e0, ha, he, hel, rfl, hmin⟩ := h1
  have pB := sub2_pos hq (a := a) (b := e0) (by omega) hel
  have pT := sub2_pos hq t1 t2
  have c1 := hmin y.2 y2 t2
  have c2 := SegR.sufs hq hs hf y hy a (by omega)
  have p3 := sub2_pos hq (a := a) (b := y.2) (by omega) t2
  have d1 := le2_trans pB p3 pT c1 c2
  obtain ⟨e1, f1, f2, f3⟩ := h2 y.1 y1
  have c3 := (SegR.pref hq hs hf y hy).2 e1 (by omega) f2
  have p4 := sub2_pos hq (a := y.1) (b := e1) (by omega) f2
  have d2 := le2_trans pT p4 pB c3 f3
  unfold le2 at d1 d2
  congr 1
  unfold tv
  exact (cross_eq pT pB).mpr (by omega)
theorem sub2_sz60 {l : List (Int × Int)} (h : ∀ q ∈ l, ItOk q) (hn : l.length ≤ 60) (b e : Nat) : Sz 57 (sub2 (pre l) b e).1 ∧ Sz 57 (sub2 (pre l) b e).2 := by
  have key : ∀ k, Sz 56 (pre l k).1 ∧ Sz 56 (pre l k).2 := fun k => by
    have tl : (l.take k).length ≤ 60 := Nat.le_trans (List.length_take_le' k l) hn
    have b1 : ∀ x ∈ (l.take k).map fun q => q.1 * q.2, x.natAbs ≤ 10 ^ 15 := fun x hx => by
      obtain ⟨q, hq, rfl⟩ := List.mem_map.mp hx
      obtain ⟨a, b, c, d⟩ := h q (List.mem_of_mem_take hq)
      rw [Int.natAbs_mul]
      have e1 : q.1.natAbs ≤ 10 ^ 9 := by omega
      have e2 : q.2.natAbs ≤ 10 ^ 6 := by omega
      exact Nat.le_trans (Nat.mul_le_mul e1 e2) (by decide)
    have b2 : ∀ x ∈ (l.take k).map fun q => q.2, x.natAbs ≤ 10 ^ 15 := fun x hx => by
      obtain ⟨q, hq, rfl⟩ := List.mem_map.mp hx
      obtain ⟨a, b, c, d⟩ := h q (List.mem_of_mem_take hq)
      omega
    have s1 := sum_le b1
    have s2 := sum_le b2
    rw [List.length_map] at s1 s2
    have m : (l.take k).length * 10 ^ 15 ≤ 60 * 10 ^ 15 := Nat.mul_le_mul_right _ tl
    have t : 60 * 10 ^ 15 < 2 ^ 56 := by decide
    exact ⟨by unfold Sz pre; exact Nat.lt_of_le_of_lt (Nat.le_trans s1 m) t, by unfold Sz pre; exact Nat.lt_of_le_of_lt (Nat.le_trans s2 m) t⟩
  exact ⟨(key e).1.sub (key b).1, (key e).2.sub (key b).2⟩
theorem rowR_sz {l : List (Int × Int)} (hq : ∀ q ∈ l, ItOk q) (hn : l.length ≤ 60) (hl : 0 < l.length) : ∀ x ∈ rowR l, SzR 57 x := fun x hx => by
  obtain ⟨ps, qs, hs, hf, rfl, sf, e⟩ := rowR_ps hq hl
  rw [e] at hx
  obtain ⟨y, hy, hx⟩ := List.mem_flatMap.mp hx
  have hx := (List.mem_replicate.mp hx).2
  subst hx
  have gy := SegF.gd sf y hy
  have z := sub2_sz60 hq hn y.1 y.2
  have p := sub2_pos hq gy.1 gy.2.1
  exact SzR.divInt z.1 z.2 (by omega)
def mL (l : List (Int × Int)) (i : Nat) : Rat := ((l.getD i (0, 1)).1 : Rat)
def wL (l : List (Int × Int)) (i : Nat) : Rat := ((l.getD i (0, 1)).2 : Rat)
theorem sm_sub2 {l : List (Int × Int)} {t : Rat} : ∀ (d k : Nat), k + d ≤ l.length → sm (fun i => wL l i * (mL l i - t)) (List.range' k d) = ((sub2 (pre l) k (k + d)).1 : Rat) - t * ((sub2 (pre l) k (k + d)).2 : Rat)
  | 0, k, _ => by
    unfold sub2
    simp [sm]; grind
  | d + 1, k, h => by
    have hk : l[k]? = some l[k] := List.getElem?_eq_getElem (by omega)
    have ih := sm_sub2 (l := l) (t := t) d (k + 1) (by omega)
    have e : k + 1 + d = k + (d + 1) := by omega
    rw [e] at ih
    rw [List.range'_succ]
    simp only [sm]
    rw [ih]
    rw [sub2_1 _ k (k + 1) (k + (d + 1)), sub2_2 _ k (k + 1) (k + (d + 1))]
    have e1 : (sub2 (pre l) k (k + 1)).1 = l[k].1 * l[k].2 := by unfold sub2; rw [pre_succ hk]; simp only; omega
    have e2 : (sub2 (pre l) k (k + 1)).2 = l[k].2 := by unfold sub2; rw [pre_succ hk]; simp only; omega
    have e3 : wL l k = (l[k].2 : Rat) := by unfold wL; rw [List.getD_eq_getElem?_getD, hk]; rfl
    have e4 : mL l k = (l[k].1 : Rat) := by unfold mL; rw [List.getD_eq_getElem?_getD, hk]; rfl
    rw [e1, e2, e3, e4]
    push_cast
    grind
theorem filt_suf {U : Nat → Bool} : ∀ (d k n : Nat), k + d ≤ n → (∀ a, a + 1 < n → U a = true → U (a + 1) = true) → ∃ j, k ≤ j ∧ j ≤ k + d ∧ (List.range' k d).filter U = List.range' j (k + d - j)
  | 0, k, n, _, _ => ⟨k, Nat.le_refl _, by omega, by simp⟩
  | d + 1, k, n, h, hU => by
    rw [List.range'_succ]
    cases e : U k with
    | false =>
      obtain ⟨j, a, b, c⟩ := filt_suf d (k + 1) n (by omega) hU
      refine ⟨j, by omega, by omega, ?_⟩
      rw [List.filter_cons_of_neg (by simp [e]), c]
      congr 1; omega
    | true =>
      have all : ∀ m, k + m < n → U (k + m) = true := fun m => by
        induction m with
        | zero => intro _; exact e
        | succ m ih => intro hm; exact hU (k + m) (by omega) (ih (by omega))
      refine ⟨k, Nat.le_refl _, by omega, ?_⟩
      rw [← List.range'_succ]
      have : k + (d + 1) - k = d + 1 := by omega
      rw [this]
      refine List.filter_eq_self.mpr fun x hx => ?_
      obtain ⟨i, hi, rfl⟩ := List.mem_range'.mp hx
      rw [Nat.one_mul]
      exact all i (by omega)
theorem SegF.ranges {l : List (Int × Int)} : ∀ {ps : List (Nat × Nat)} {a e : Nat}, SegF l ps a e → a ≤ e ∧ List.range' a (e - a) = (ps.map fun p => List.range' p.1 (p.2 - p.1)).flatten
  | [], a, e, h => by
    have : a = e := h
    subst this
    exact ⟨Nat.le_refl _, by simp⟩
  | (b, c) :: r, a, e, ⟨h1, h2, h3⟩ => by
    subst h1
    obtain ⟨i1, i2⟩ := SegF.ranges h3
    have hbc := h2.1
    refine ⟨by omega, ?_⟩
    rw [List.map_cons, List.flatten_cons, ← i2]
    have := List.range'_append_1 (s := b) (m := c - b) (n := e - c)
    have e1 : b + (c - b) = c := by omega
    have e2 : c - b + (e - c) = e - b := by omega
    rw [e1, e2] at this
    exact this.symm
def nxt (n a b : Nat) : Prop := b = a + 1 ∧ b < n
theorem rowR_best {l : List (Int × Int)} (hq : ∀ q ∈ l, ItOk q) (hl : 0 < l.length) : Best (List.range l.length) (nxt l.length) (mL l) (wL l) fun i => (rowR l).getD i 0 := by
  obtain ⟨ps, qs, hs, hf, rfl, sf, e⟩ := rowR_ps hq hl
  have hat : ∀ i, i < l.length → ∃ y ∈ qs, y.1 ≤ i ∧ i < y.2 ∧ (rowR l).getD i 0 = tv l y := fun i hi => by
    obtain ⟨y, hy, y1, y2, y3⟩ := (SegF.at sf).2.2 i (by omega) hi
    rw [Nat.sub_zero, ← e] at y3
    exact ⟨y, by simpa using hy, y1, y2, by rw [List.getD_eq_getElem?_getD, y3]; rfl⟩
  have uniq : ∀ y ∈ qs, ∀ z ∈ qs, ∀ i, y.1 ≤ i → i < y.2 → z.1 ≤ i → i < z.2 → y = z := fun y hy z hz i h1 h2 h3 h4 => by
    have key : ∀ (qs : List (Nat × Nat)) (e : Nat), SegR l qs e → y ∈ qs → z ∈ qs → y = z := fun qs => by
      induction qs with
      | nil => intro e _ hy; cases hy
      | cons x r ih =>
        intro e hs hy hz
        have cov : ∀ w ∈ r, w.2 ≤ x.1 := fun w hw => by
          have : ∀ (r : List (Nat × Nat)) (e : Nat), SegR l r e → w ∈ r → w.2 ≤ e := fun r => by
            induction r with
            | nil => intro e _ h; cases h
            | cons v r ih =>
              intro e h hw
              rcases List.mem_cons.mp hw with rfl | hw
              · exact Nat.le_of_eq h.1
              · have := ih _ h.2.2 hw
                have := h.2.1.1
                have : v.2 = e := h.1
                omega
          exact this r _ hs.2.2 hw
        rcases List.mem_cons.mp hy with e1 | hy' <;> rcases List.mem_cons.mp hz with e2 | hz'
        · rw [e1, e2]
        · have := cov z hz'; rw [e1] at h1; omega
        · have := cov y hy'; rw [e2] at h3; omega
        · exact ih _ hs.2.2 hy' hz'
    exact key qs _ hs hy hz
  have blkv : ∀ y ∈ qs, ∀ i, y.1 ≤ i → i < y.2 → (rowR l).getD i 0 = tv l y := fun y hy i h1 h2 => by
    have := (SegR.gd hs y hy).2.1
    obtain ⟨z, hz, z1, z2, z3⟩ := hat i (by omega)
    rw [z3, uniq z hz y hy i z1 z2 h1 h2]
  have pT : ∀ y ∈ qs, 0 < (sub2 (pre l) y.1 y.2).2 := fun y hy => sub2_pos hq (SegR.gd hs y hy).1 (SegR.gd hs y hy).2.1
  have tot : ∀ U : Nat → Bool, sm (fw (mL l) (wL l) fun i => (rowR l).getD i 0) ((List.range l.length).filter U) = (qs.reverse.map fun p => sm (fun i => wL l i * (mL l i - tv l p)) ((List.range' p.1 (p.2 - p.1)).filter U)).sum := fun U => by
    have rg := (SegF.ranges sf).2
    rw [Nat.sub_zero, ← List.range_eq_range'] at rg
    rw [rg, flat_filter, sm_flat, List.map_map, List.map_map]
    congr 1
    refine List.map_congr_left fun p hp => sm_congr fun i hi => ?_
    have hp : p ∈ qs := by simpa using hp
    obtain ⟨j, hj, rfl⟩ := List.mem_range'.mp (List.mem_filter.mp hi).1
    simp only [fw]
    rw [blkv p hp (p.1 + 1 * j) (by omega) (by omega)]
  have sufs : ∀ y ∈ qs, ∀ j, y.1 ≤ j → j ≤ y.2 → sm (fun i => wL l i * (mL l i - tv l y)) (List.range' j (y.2 - j)) = ((sub2 (pre l) j y.2).1 : Rat) - tv l y * ((sub2 (pre l) j y.2).2 : Rat) := fun y hy j h1 h2 => by
    have := (SegR.gd hs y hy).2.1
    have := sm_sub2 (l := l) (t := tv l y) (y.2 - j) j (by omega)
    have e : j + (y.2 - j) = y.2 := by omega
    rw [e] at this
    exact this
  have zero : ∀ y ∈ qs, sm (fun i => wL l i * (mL l i - tv l y)) (List.range' y.1 (y.2 - y.1)) = 0 := fun y hy => by
    have := (SegR.gd hs y hy).1
    rw [sufs y hy y.1 (Nat.le_refl _) (by omega)]
    unfold tv
    rw [divInt_mul (pT y hy)]; grind
  refine ⟨fun a b hab => ?_, fun U hU => ?_, fun U hU => ?_⟩
  · obtain ⟨rfl, hb⟩ := hab
    obtain ⟨y, hy, y1, y2, y3⟩ := hat a (by omega)
    obtain ⟨z, hz, z1, z2, z3⟩ := hat (a + 1) hb
    simp only [y3, z3]
    rcases Nat.lt_trichotomy y.1 z.1 with h | h | h
    · have := SegR.mono hq hs hf y hy z hz h
      unfold le2 at this
      unfold tv
      by_cases hlt : Rat.divInt (sub2 (pre l) z.1 z.2).1 (sub2 (pre l) z.1 z.2).2 < Rat.divInt (sub2 (pre l) y.1 y.2).1 (sub2 (pre l) y.1 y.2).2
      · have := (cross_lt (pT z hz) (pT y hy)).mp hlt
        omega
      · grind
    · have : y = z := uniq y hy z hz (max y.1 a) (by omega) (by omega) (by omega) (by omega)
      rw [this]; exact Rat.le_refl
    · have : y = z := uniq y hy z hz a y1 y2 (by omega) (by omega)
      rw [this]; exact Rat.le_refl
  · rw [tot]
    have : ∀ p ∈ qs.reverse, sm (fun i => wL l i * (mL l i - tv l p)) ((List.range' p.1 (p.2 - p.1)).filter U) ≤ 0 := fun p hp => by
      have hp : p ∈ qs := by simpa using hp
      have g := SegR.gd hs p hp
      have g1 := g.1
      obtain ⟨j, j1, j2, j3⟩ := filt_suf (U := U) (p.2 - p.1) p.1 l.length (by have := g.2.1; omega) (fun a ha h => hU a (a + 1) ⟨rfl, ha⟩ h)
      have e : p.1 + (p.2 - p.1) = p.2 := by omega
      rw [e] at j2 j3
      rw [j3, sufs p hp j j1 j2]
      by_cases z : j = p.2
      · subst z
        have : sub2 (pre l) p.2 p.2 = (0, 0) := by unfold sub2; simp
        rw [this]; simp; grind
      · have h1 := Gd.suf g j1 (by omega)
        unfold le2 at h1
        have h2 := pT p hp
        have h3 : ((sub2 (pre l) j p.2).1 : Rat) * ((sub2 (pre l) p.1 p.2).2 : Rat) ≤ ((sub2 (pre l) p.1 p.2).1 : Rat) * ((sub2 (pre l) j p.2).2 : Rat) := by exact_mod_cast h1
        have h4 : (0 : Rat) < ((sub2 (pre l) p.1 p.2).2 : Rat) := Rat.intCast_pos.mpr h2
        have h5 : tv l p * ((sub2 (pre l) p.1 p.2).2 : Rat) = ((sub2 (pre l) p.1 p.2).1 : Rat) := divInt_mul h2
        rw [← h5] at h3
        have h6 : ((sub2 (pre l) j p.2).1 : Rat) ≤ tv l p * ((sub2 (pre l) j p.2).2 : Rat) := by
          refine Rat.le_of_mul_le_mul_right ?_ h4
          grind
        grind
    generalize qs.reverse = L at this
    clear tot sf e
    induction L with
    | nil => simp
    | cons x r ih =>
      have a := this x (by simp)
      have b := ih fun p hp => this p (by simp [hp])
      rw [List.map_cons, List.sum_cons]; grind
  · rw [tot]
    have : ∀ p ∈ qs.reverse, sm (fun i => wL l i * (mL l i - tv l p)) ((List.range' p.1 (p.2 - p.1)).filter U) = 0 := fun p hp => by
      have hp : p ∈ qs := by simpa using hp
      have g1 := (SegR.gd hs p hp).1
      have same : ∀ i ∈ List.range' p.1 (p.2 - p.1), U i = U p.1 := fun i hi => by
        obtain ⟨j, hj, rfl⟩ := List.mem_range'.mp hi
        have v1 := blkv p hp (p.1 + 1 * j) (by omega) (by omega)
        have v2 := blkv p hp p.1 (by omega) (by omega)
        cases h1 : U p.1 with
        | true => exact hU p.1 _ (by simp only [v1, v2]; exact Rat.le_refl) h1
        | false =>
          cases h2 : U (p.1 + 1 * j) with
          | false => rfl
          | true =>
            have := hU _ p.1 (by simp only [v1, v2]; exact Rat.le_refl) h2
            rw [h1] at this; cases this
      cases h1 : U p.1 with
      | true =>
        rw [List.filter_eq_self.mpr fun i hi => by rw [same i hi, h1]]
        exact zero p hp
      | false =>
        rw [List.filter_eq_nil_iff.mpr fun i hi => by rw [same i hi, h1]; simp]
        rfl
    generalize qs.reverse = L at this
    clear tot sf e
    induction L with
    | nil => simp
    | cons x r ih =>
      have a := this x (by simp)
      have b := ih fun p hp => this p (by simp [hp])
      rw [List.map_cons, List.sum_cons, a, b]; grind
theorem sm_range (f : Nat → Rat) : ∀ l : List Nat, sm f l = (l.map f).sum
  | [] => by simp [sm]
  | i :: l => by rw [List.map_cons, List.sum_cons, ← sm_range f l]; rfl
theorem costL_S {l : List (Int × Int)} {rs : List Rat} (h : rs.length = l.length) : costL l rs = costS (List.range l.length) (mL l) (wL l) fun i => rs.getD i 0 := by
  unfold costL costS
  rw [sm_range]
  congr 1
  refine List.ext_getElem (by simp [h]) fun i h1 h2 => ?_
  have hi : i < l.length := by simpa using h2
  simp only [List.getElem_map, List.getElem_zip, List.getElem_range]
  unfold costT mL wL
  rw [List.getD_eq_getElem?_getD, List.getElem?_eq_getElem hi, List.getD_eq_getElem?_getD, List.getElem?_eq_getElem (by omega)]
  simp only [Option.getD_some]
  grind
theorem rowR_cost {l : List (Int × Int)} (hq : ∀ q ∈ l, ItOk q) (hl : 0 < l.length) {rs : List Rat} (h : rs.length = l.length) (ha : ∀ i, i + 1 < rs.length → rs.getD i 0 ≤ rs.getD (i + 1) 0) : costL l (rowR l) ≤ costL l rs := by
  rw [costL_S (rowR_len hq hl), costL_S h]
  have ob : Obey (nxt l.length) fun i => rs.getD i 0 := fun a b hab => by
    obtain ⟨rfl, hb⟩ := hab
    exact ha a (by omega)
  have c := (rowR_best hq hl).cost ob
  have p : 0 ≤ sm (fun i => wL l i * ((rs.getD i 0 - (rowR l).getD i 0) * (rs.getD i 0 - (rowR l).getD i 0))) (List.range l.length) := sm_nonneg fun i hi => by
    have hi : i < l.length := List.mem_range.mp hi
    refine mul_nonneg' ?_ ?_
    · unfold wL
      rw [List.getD_eq_getElem?_getD, List.getElem?_eq_getElem hi]
      have := (hq l[i] (List.getElem_mem _)).2.2.1
      exact Rat.intCast_nonneg.mpr (by simp only [Option.getD_some]; omega)
    · rcases (Rat.le_total : 0 ≤ (rs.getD i 0 - (rowR l).getD i 0) ∨ (rs.getD i 0 - (rowR l).getD i 0) ≤ 0) with z | z
      · exact mul_nonneg' z z
      · have : 0 ≤ (-(rs.getD i 0 - (rowR l).getD i 0)) * (-(rs.getD i 0 - (rowR l).getD i 0)) := mul_nonneg' (by grind) (by grind)
        grind
  grind
end Pm

set_option Elab.async false
set_option linter.all false
set_option maxRecDepth 100000
set_option maxHeartbeats 4000000
set_option autoImplicit false
namespace Pm
open PySem PySem.Spec PySem.W
open PyProof.Rows hiding St
open L2
theorem tuple_mul1W (l : Addr) (items : Array Value) (n : Nat) (dd : Option Addr) (sl : Array (Option Value)) (x : Int) (u : Tok) (c0 : (decide (x < -(2 ^ 63)) || decide (x ≥ 2 ^ 63)) = false) (c1 : (items.isEmpty || x == 1) = true) :
    Meets (Builtin.«tuple.__mul__» ⟨[.ref l, .int x u], []⟩) (fun _ R s => s.heap.get? l = some { cls := .type "tuple", dict := dd, data := .seq items n, slots := sl } ∧
      R (.ok (.ret (Value.ref l))) s) :=
  .of_wp fun prog w A R s h => by
    obtain ⟨hp, g, d, tk, os⟩ := s
    obtain ⟨hl, h⟩ := h
    have f1 := AutoSeq1.idx_int
    wp_walk using wpAny_loadPart' hl
    repeat (first
      | (refine wpAny_ite_false (decide_eq_false (by rw [c0]; exact Bool.false_ne_true)) ?_; wp_walk using wpAny_loadPart' hl)
      | (refine wpAny_ite_true (decide_eq_true c1) ?_; wp_walk using wpAny_loadPart' hl))
    exact ⟨_, rfl, h⟩
theorem tuple_mul0W (l : Addr) (items : Array Value) (n : Nat) (dd : Option Addr) (sl : Array (Option Value)) (x : Int) (u : Tok) (c0 : (decide (x < -(2 ^ 63)) || decide (x ≥ 2 ^ 63)) = false) (c1 : (items.isEmpty || x == 1) = false) (c2 : (decide (x ≤ 0) || items.isEmpty) = true) :
    Meets (Builtin.«tuple.__mul__» ⟨[.ref l, .int x u], []⟩) (fun _ R s => s.heap.get? l = some { cls := .type "tuple", dict := dd, data := .seq items n, slots := sl } ∧
      R (.ok (.ret (Value.ref s.heap.objs.size))) { s with heap := s.heap.push { cls := Value.type "tuple", data := Data.seq #[] }, toks := s.toks }) :=
  .of_wp fun prog w A R s h => by
    obtain ⟨hp, g, d, tk, os⟩ := s
    obtain ⟨hl, h⟩ := h
    have f1 := AutoSeq1.idx_int
    wp_walk using wpAny_loadPart' hl
    repeat (first
      | (refine wpAny_ite_false (decide_eq_false (by rw [c0]; exact Bool.false_ne_true)) ?_; wp_walk using wpAny_loadPart' hl)
      | (refine wpAny_ite_false (decide_eq_false (by rw [c1]; exact Bool.false_ne_true)) ?_; wp_walk using wpAny_loadPart' hl)
      | (refine wpAny_ite_true (decide_eq_true c2) ?_; wp_walk using wpAny_loadPart' hl))
    exact ⟨_, rfl, h⟩
def rRepT1 (K : PySem.W.Frag) : R2 := fun x y H Q => ∃ l k xs, x = .ref l ∧ y = .int k ∧ SqT K H l xs ∧ -(2 ^ 63) ≤ k ∧ k < 2 ^ 63 ∧ ((xs = [] ∨ k = 1) ∧ Q (.ref l) H ∨ xs ≠ [] ∧ k ≤ 0 ∧ ∀ p, H p = none → Q (.ref p) (upd H p (.tup [])))
theorem op_repT1 {X : Cx} : OpR X (binaryOp .Mult) (rRepT1 X.K) := by
  intro pins s σ H x y v u Q I rx ry h
  obtain ⟨l, k, xs, rfl, rfl, hT, h1, h2, q⟩ := h
  cases rx
  obtain ⟨t, rfl⟩ := ry
  obtain ⟨its, r, ⟨⟨cls, dd, data, sl⟩, ho, hc, n, hd⟩, hs⟩ := I.tuple hT
  simp only at hc hd
  subst hc hd
  have hle : its.length = xs.length := r.length.symm
  have c0 : (decide (k < -(2 ^ 63)) || decide (k ≥ 2 ^ 63)) = false := by
    rw [decide_eq_false (by omega), decide_eq_false (by omega)] <;> rfl
  rcases q with ⟨hx, q⟩ | ⟨hx, hk, q⟩
  · have c1 : (its.toArray.isEmpty || k == 1) = true := by
      rcases hx with rfl | rfl
      · have : its = [] := List.eq_nil_of_length_eq_zero hle
        subst this; rfl
      · simp
    refine wpAny_binaryOp_repeat_ref (T := "tuple") (U := "int") (by decide) ⟨_, ho, rfl⟩ (fun s' => typeIs_int s' k t) noFill_tuple_mul F.fills_int_mul F.slot_int_rmul repeat_tuple F.slot_int_index.lookup
      (call_meets F.slot_int_rmul (typeIs_int s k t) F.entry_int_rmul (F.args_int_rmul_2 _ _) (int_rmul_tuple k t l its.toArray n dd sl)
        ⟨ho, rfl, ⟨_, ho, rfl⟩, call_meets F.slot_tuple_mul ⟨_, ho, rfl⟩ F.entry_tuple_mul (F.args_tuple_mul_2 _ _) (tuple_mul1W l its.toArray n dd sl k t c0 c1) ⟨ho, ?_⟩⟩)
    exact ⟨.ref l, _, I, rfl, q⟩
  · have hn : its ≠ [] := fun e => hx (by
      rw [e] at hle
      exact List.eq_nil_of_length_eq_zero hle.symm)
    have hi : its.toArray.isEmpty = false := by
      cases its with
      | nil => exact absurd rfl hn
      | cons a b => rfl
    have c1 : (its.toArray.isEmpty || k == 1) = false := by
      rw [hi, Bool.false_or]
      exact beq_eq_false_iff_ne.mpr (by omega)
    have c2 : (decide (k ≤ 0) || its.toArray.isEmpty) = true := by
      rw [decide_eq_true hk]; rfl
    refine wpAny_binaryOp_repeat_ref (T := "tuple") (U := "int") (by decide) ⟨_, ho, rfl⟩ (fun s' => typeIs_int s' k t) noFill_tuple_mul F.fills_int_mul F.slot_int_rmul repeat_tuple F.slot_int_index.lookup
      (call_meets F.slot_int_rmul (typeIs_int s k t) F.entry_int_rmul (F.args_int_rmul_2 _ _) (int_rmul_tuple k t l its.toArray n dd sl)
        ⟨ho, rfl, ⟨_, ho, rfl⟩, call_meets F.slot_tuple_mul ⟨_, ho, rfl⟩ F.entry_tuple_mul (F.args_tuple_mul_2 _ _) (tuple_mul0W l its.toArray n dd sl k t c0 c1 c2) ⟨ho, ?_⟩⟩)
    refine ⟨.ref s.heap.objs.size, _, I.laid (t' := s.toks) (o := .tup []) (fun b ob q => Heap.get?_push_of_some _ q) (Nat.le_refl _) ?_, rfl, q _ (I.hok.fresh (Nat.le_refl _))⟩
    exact ⟨by show 0 ≤ sizeLine; omega, _, .nil, IsTup.new _ _⟩
def mulT2 : D → D → DK → Prop
  | .tup xs, .int k, R => (0 ≤ k ∧ k ≤ 1000 ∧ xs.length ≤ 1000) ∧ R (.tup (List.replicate k.toNat xs).flatten)
  | _, _, _ => False
theorem o_mulT2 {X : Cx} : OpR X (binaryOp .Mult) (dOp2 X.K mulT2) := by
  intro pins s σ H x y v u Q I rx ry ⟨Z, d, e, R, k, ad, ae, h, q⟩
  cases d <;> cases e <;> try exact h.elim
  have ad' := ad
  simp only [At] at ad ae
  obtain ⟨a, vs, rfl, a2, a3⟩ := ad
  subst ae
  rename_i xs n
  have h := h
  obtain ⟨⟨h1, h2, h3⟩, h⟩ := h
  by_cases c : xs ≠ [] ∧ 2 ≤ n
  · exact o_mulT pins s σ H _ _ v u Q I rx ry ⟨Z, .tup xs, .int n, R, k, ad', rfl, ⟨⟨c.1, c.2, h2, h3⟩, h⟩, q⟩
  · have hl := a3.len
    refine op_repT1 pins s σ H _ _ v u Q I rx ry ⟨a, _, vs, rfl, rfl, seqT k a2, by omega, by omega, ?_⟩
    by_cases c2 : xs = [] ∨ n = 1
    · refine .inl ⟨?_, ?_⟩
      · rcases c2 with rfl | c2
        · exact .inl (List.eq_nil_of_length_eq_zero hl)
        · exact .inr c2
      · have e : (List.replicate n.toNat xs).flatten = xs := by
          rcases c2 with rfl | rfl
          · simp
          · simp
        rw [e] at h
        exact dk q k h ad'
    · have hx : xs ≠ [] := fun z => c2 (.inl z)
      have hn : n ≤ 0 := by
        have : ¬ 2 ≤ n := fun z => c ⟨hx, z⟩
        have : n ≠ 1 := fun z => c2 (.inr z)
        omega
      refine .inr ⟨fun z => hx (List.eq_nil_of_length_eq_zero (by rw [← hl, z]; rfl)), hn, fun p hp => ?_⟩
      have x := Ext.new (o := HO.tup []) k hp
      have e : (List.replicate n.toNat xs).flatten = [] := by
        have : n.toNat = 0 := by omega
        rw [this]; rfl
      rw [e] at h
      exact q _ _ _ _ h x ⟨p, _, rfl, .inl (.inl upd_same), rfl⟩
end Pm

set_option Elab.async false
set_option linter.all false
set_option maxRecDepth 100000
set_option maxHeartbeats 1000000
set_option autoImplicit false
namespace Pm
open PySem PySem.Spec PySem.W
open PyProof.Rows hiding St
open L2
section
variable {E : Nat → Nat → Prop} {l : List Nat} {m m' w r s : Nat → Rat}
theorem sq_nonneg' (x : Rat) : 0 ≤ x * x := by
  rcases (show 0 ≤ x ∨ 0 ≤ -x by grind) with h | h
  · exact mul_nonneg' h h
  · have := mul_nonneg' h h; grind
theorem sq_zero {x : Rat} (h : x * x ≤ 0) : x = 0 := by
  by_cases z : x = 0
  · exact z
  · exfalso
    rcases (show 0 < x ∨ 0 < -x by grind) with h1 | h1
    · have := Rat.mul_pos h1 h1; grind
    · have := Rat.mul_pos h1 h1; grind
theorem sm_sq_zero {d : Nat → Rat} : ∀ {l : List Nat}, (∀ i ∈ l, 0 < w i) → sm (fun i => w i * (d i * d i)) l ≤ 0 → ∀ i ∈ l, d i = 0
  | [], _, _, i, hi => by cases hi
  | a :: l, hw, h, i, hi => by
    have p : 0 ≤ sm (fun i => w i * (d i * d i)) l := sm_nonneg fun j hj => mul_nonneg' (Rat.le_of_lt (hw j (by simp [hj]))) (sq_nonneg' _)
    have q : 0 ≤ w a * (d a * d a) := mul_nonneg' (Rat.le_of_lt (hw a (by simp))) (sq_nonneg' _)
    simp only [sm] at h
    rcases List.mem_cons.mp hi with rfl | hi
    · have e : w i * (d i * d i) ≤ 0 := by grind
      have hp := hw i (by simp)
      refine sq_zero ?_
      rcases (show d i * d i ≤ 0 ∨ 0 < d i * d i by grind) with z | z
      · exact z
      · have := Rat.mul_pos hp z; grind
    · exact sm_sq_zero (fun j hj => hw j (by simp [hj])) (by grind) i hi
theorem Best.dot0 (b : Best l E m w r) (hs : Obey E s) : sm (fun i => fw m w r i * (s i - r i)) l ≤ 0 := by
  have h1 := b.dot hs
  have h2 := b.dot_self
  have e : sm (fun i => fw m w r i * (s i - r i)) l = sm (fun i => fw m w r i * s i) l - sm (fun i => fw m w r i * r i) l := by
    rw [← sm_sub]
    exact sm_congr fun i _ => by grind
  rw [e, h2]; grind
def posp (x : Rat) : Rat := if 0 ≤ x then x else 0
theorem posp_sq (x : Rat) : x * posp x = posp x * posp x := by unfold posp; split <;> grind
theorem posp_nonneg (x : Rat) : 0 ≤ posp x := by unfold posp; split <;> grind
theorem Best.mono (b : Best l E m w r) (b' : Best l E m' w s) (hw : ∀ i ∈ l, 0 < w i) (h : ∀ i ∈ l, m i ≤ m' i) : ∀ i ∈ l, r i ≤ s i := by
  have o1 : Obey E fun i => r i - posp (r i - s i) := fun x y e => by
    have := b.ob x y e; have := b'.ob x y e
    simp only [posp]; split <;> split <;> grind
  have o2 : Obey E fun i => s i + posp (r i - s i) := fun x y e => by
    have := b.ob x y e; have := b'.ob x y e
    simp only [posp]; split <;> split <;> grind
  have d1 := b.dot0 o1
  have d2 := b'.dot0 o2
  have e : sm (fun i => w i * (posp (r i - s i) * posp (r i - s i))) l + sm (fun i => w i * ((m' i - m i) * posp (r i - s i))) l = sm (fun i => fw m w r i * (r i - posp (r i - s i) - r i)) l + sm (fun i => fw m' w s i * (s i + posp (r i - s i) - s i)) l := by
    rw [← sm_add, ← sm_add]
    refine sm_congr fun i _ => ?_
    simp only [fw]
    have := posp_sq (r i - s i)
    grind
  have p : 0 ≤ sm (fun i => w i * ((m' i - m i) * posp (r i - s i))) l := sm_nonneg fun i hi => mul_nonneg' (Rat.le_of_lt (hw i hi)) (mul_nonneg' (by have := h i hi; grind) (posp_nonneg _))
  have z := sm_sq_zero (d := fun i => posp (r i - s i)) hw (by grind)
  intro i hi
  have := z i hi
  unfold posp at this
  split at this <;> grind
theorem Best.shift (b : Best l E m w r) (a : Rat) : Best l E (fun i => m i + a) w fun i => r i + a := by
  have e : fw (fun i => m i + a) w (fun i => r i + a) = fw m w r := by
    funext i; simp only [fw]; grind
  refine ⟨fun x y h => ?_, fun U hU => ?_, fun U hU => ?_⟩
  · have := b.ob x y h; grind
  · rw [e]; exact b.up U hU
  · rw [e]
    refine b.lv U fun x y h => hU x y ?_
    show r x + a ≤ r y + a
    grind
theorem Best.near (b : Best l E m w r) (b' : Best l E m' w s) (hw : ∀ i ∈ l, 0 < w i) {a : Rat} (h : ∀ i ∈ l, m' i ≤ m i + a) : ∀ i ∈ l, s i ≤ r i + a :=
  b'.mono (b.shift a) hw h
theorem Best.local (b : Best l E m w r) (b' : Best l E m' w s) (hw : ∀ i ∈ l, 0 < w i) {C : Nat → Bool} (hC : ∀ x y, E x y → C x = C y) (h : ∀ i ∈ l, C i = true → m i = m' i) : ∀ i ∈ l, C i = true → r i = s i := by
  have o1 : Obey E fun i => if C i = true then s i else r i := fun x y e => by
    have h1 := b.ob x y e; have h2 := b'.ob x y e
    have h3 := hC x y e
    simp only [h3]; split <;> assumption
  have o2 : Obey E fun i => if C i = true then r i else s i := fun x y e => by
    have h1 := b.ob x y e; have h2 := b'.ob x y e
    have h3 := hC x y e
    simp only [h3]; split <;> assumption
  have d1 := b.dot0 o1
  have d2 := b'.dot0 o2
  have e : sm (fun i => w i * ((if C i = true then s i - r i else 0) * (if C i = true then s i - r i else 0))) l = sm (fun i => fw m w r i * ((if C i = true then s i else r i) - r i)) l + sm (fun i => fw m' w s i * ((if C i = true then r i else s i) - s i)) l := by
    rw [← sm_add]
    refine sm_congr fun i hi => ?_
    simp only [fw]
    have := h i hi
    split
    · rename_i c
      rw [this c]; grind
    · grind
  have z := sm_sq_zero (d := fun i => if C i = true then s i - r i else 0) hw (by grind)
  intro i hi c
  have := z i hi
  simp only [c] at this
  grind
theorem Best.total (b : Best l E m w r) : sm (fun i => w i * r i) l = sm (fun i => w i * m i) l := by
  have h := b.all
  have e : sm (fw m w r) l = sm (fun i => w i * m i) l - sm (fun i => w i * r i) l := by
    rw [← sm_sub]
    exact sm_congr fun i _ => by simp only [fw]; grind
  rw [e] at h
  grind
theorem Best.rules {E' : Nat → Nat → Prop} (b : Best l E m w r) (h : ∀ x y, E x y → E' x y) (ho : Obey E' r) : Best l E' m w r :=
  ⟨ho, fun U hU => b.up U fun x y e => hU x y (h x y e), b.lv⟩
end
end Pm

set_option Elab.async false
set_option linter.all false
set_option maxRecDepth 100000
set_option maxHeartbeats 1000000
set_option autoImplicit false
namespace Pm
open PySem PySem.Spec PySem.W
open PyProof.Rows hiding St
open L2
theorem Best.congr {E : Nat → Nat → Prop} {l : List Nat} {m m' w w' r : Nat → Rat} (b : Best l E m w r) (hm : ∀ i ∈ l, m i = m' i) (hw : ∀ i ∈ l, w i = w' i) : Best l E m' w' r := by
  have e : ∀ U : Nat → Bool, sm (fw m' w' r) (l.filter U) = sm (fw m w r) (l.filter U) := fun U => sm_congr fun i hi => by
    have h := (List.mem_filter.mp hi).1
    simp only [fw, hm i h, hw i h]
  exact ⟨b.ob, fun U hU => by rw [e]; exact b.up U hU, fun U hU => by rw [e]; exact b.lv U hU⟩
theorem BestP.as {p p' : Pan} {s : Nat → Rat} (b : BestP p' s) (hl : p'.its.length = p.its.length) (hr : p'.rus = p.rus) (hw : ∀ j, j < p.its.length → wR p' j = wR p j) : Best (List.range p.its.length) (eE p) (mR p') (wR p) s := by
  unfold BestP at b
  rw [hl] at b
  have eE' : eE p' = eE p := by funext a c; unfold eE; rw [hr]
  rw [eE'] at b
  exact b.congr (fun _ _ => rfl) fun i hi => hw i (List.mem_range.mp hi)
theorem wR_pos' {m : Nat} {p : Pan} (hp : PanOk m p) : ∀ i ∈ List.range p.its.length, 0 < wR p i := fun i hi => wR_pos hp (List.mem_range.mp hi)
theorem mR_set {p : Pan} {i : Nat} {x : Int × Int} (hi : i < p.its.length) (j : Nat) : mR ⟨p.its.set i x, p.rus⟩ j = if j = i then (x.1 : Rat) else mR p j := by
  unfold mR
  simp only [List.getD_eq_getElem?_getD, List.getElem?_set]
  by_cases h : i = j
  · subst h; simp [hi]
  · rw [if_neg h, if_neg (fun z => h z.symm)]
theorem wR_set {p : Pan} {i : Nat} {x : Int × Int} (hi : i < p.its.length) (j : Nat) : wR ⟨p.its.set i x, p.rus⟩ j = if j = i then (x.2 : Rat) else wR p j := by
  unfold wR
  simp only [List.getD_eq_getElem?_getD, List.getElem?_set]
  by_cases h : i = j
  · subst h; simp [hi]
  · rw [if_neg h, if_neg (fun z => h z.symm)]
theorem PanOk.set {m : Nat} {p : Pan} (hp : PanOk m p) {i : Nat} {x : Int × Int} (hx : ItOk x) : PanOk m ⟨p.its.set i x, p.rus⟩ := by
  refine ⟨by simpa using hp.one, by simpa using hp.top, fun q hq => ?_, hp.few, fun q hq => ?_⟩
  · rcases List.mem_or_eq_of_mem_set hq with h | h
    · exact hp.it q h
    · rw [h]; exact hx
  · have := hp.ru q hq
    simpa using this
theorem zipD_rng (n : Nat) (f g : Nat → D) : zipD ((List.range n).map f) ((List.range n).map g) = (List.range n).map fun j => .tup [f j, g j] := by
  rw [zipD_map]
  have e : (List.range n).zip (List.range n) = (List.range n).map fun j => (j, j) := by
    refine List.ext_getElem (by simp) fun j h1 h2 => ?_
    simp
  rw [e, List.map_map]; rfl
theorem ItOk.sz {q : Int × Int} (h : ItOk q) : Sz 30 q.1 ∧ Sz 20 q.2 := by
  obtain ⟨a, b, c, d⟩ := h
  have e1 : (10 : Int) ^ 9 < 2 ^ 30 := by decide
  have e2 : (10 : Int) ^ 6 < 2 ^ 20 := by decide
  have e3 : ((2 ^ 30 : Nat) : Int) = 2 ^ 30 := by decide
  have e4 : ((2 ^ 20 : Nat) : Int) = 2 ^ 20 := by decide
  unfold Sz
  exact ⟨by omega, by omega⟩
section
variable {γ : Type}
theorem lc_none {α : Type} {tg : Tg} {vs : List Nat} {tt : PTx γ} {te : PEx γ} {R : List D → S γ → Prop} {s1 : S γ} (l : List α) (e : α → D) (hn : l.length ≤ 1000000)
    (step : ∀ a ∈ l, ∃ ρ', tg.put (e a) (wipeL s1.ρ vs) = some ρ' ∧ (∀ T : Bool → S γ → Prop, T false ⟨ρ', s1.g⟩ → tt ⟨ρ', s1.g⟩ T))
    (fin : R [] s1) (hj : ∀ j ∈ tg.js, j ∈ vs) (ho : noOwn s1.ρ vs = true) : lcB tg vs tt te R (l.map e) s1 := by
  refine lc_list l e (fun _ => false) (fun _ => .non) hn (fun a ha => ?_) ?_ hj ho
  · obtain ⟨ρ', h1, h2⟩ := step a ha
    exact ⟨ρ', h1, h2, fun hc => (by cases hc)⟩
  · have : (l.filter fun _ => false) = [] := by simp
    rw [this]; exact fin
end
end Pm

set_option Elab.async false
set_option linter.all false
set_option maxRecDepth 100000
set_option maxHeartbeats 1000000
set_option autoImplicit false
namespace Pm
open PySem PySem.Spec PySem.W
open PyProof.Rows hiding St
open L2
def frB : D → D → Bool
  | .int a, .int b => decide (1 ≤ b) && decide (((Nat.gcd a.natAbs b.natAbs : Nat) : Int) = 1)
  | _, _ => false
def isFr : D → Bool
  | .tup [x, y] => frB x y
  | _ => false
theorem isFr_frD (x : Rat) : isFr (frD x) = true := by
  have h1 := x.den_pos
  have h2 : Nat.gcd x.num.natAbs x.den = 1 := x.reduced
  have e : (x.den : Int).natAbs = x.den := by omega
  exact Bool.and_eq_true_iff.mpr ⟨decide_eq_true (by omega), decide_eq_true (by rw [e, h2]; rfl)⟩
theorem isFr_ex {v : D} (h : isFr v = true) : ∃ x : Rat, v = frD x := by
  cases v with
  | tup xs =>
    match xs, h with
    | [x, y], h0 =>
      have h : frB x y = true := h0
      clear h0
      obtain ⟨a, rfl⟩ : ∃ a, x = .int a := by cases x <;> first | exact ⟨_, rfl⟩ | cases h
      obtain ⟨b, rfl⟩ : ∃ b, y = .int b := by cases y <;> first | exact ⟨_, rfl⟩ | cases h
      have h : (decide (1 ≤ b) && decide (((Nat.gcd a.natAbs b.natAbs : Nat) : Int) = 1)) = true := h
      rw [Bool.and_eq_true, decide_eq_true_eq, decide_eq_true_eq] at h
      refine ⟨⟨a, b.natAbs, by omega, Int.natCast_inj.mp h.2⟩, ?_⟩
      have : ((b.natAbs : Nat) : Int) = b := by omega
      simp only [frD, this]
  | _ => cases h
theorem mem_ge {n : Nat} {r : Nat → Rat} {i k : Nat} : k ∈ geI n r i ↔ k < n ∧ r i ≤ r k := by
  unfold geI
  rw [List.mem_filter, List.mem_range]
  simp [Rat.not_lt]
theorem mem_le {n : Nat} {r : Nat → Rat} {i k : Nat} : k ∈ leI n r i ↔ k < n ∧ r k ≤ r i := by
  unfold leI
  rw [List.mem_filter, List.mem_range]
  simp [Rat.not_lt]
end Pm

set_option Elab.async false
set_option linter.all false
set_option maxRecDepth 100000
set_option maxHeartbeats 1000000
set_option autoImplicit false
namespace Pm
open PySem PySem.Spec PySem.W
open PyProof.Rows hiding St
open L2
def chkB (p : Pan) (i : Nat) (x : Rat) (u d : List Nat) : Bool := (upG p).all fun g =>
  !(decide (i ∈ g) && decide (cmpR (avg (selI p.its (d.filter (inB g)))) x > 0)) && !(!decide (i ∈ g) && decide (cmpR (avg (selI p.its (u.filter (inB ((List.range p.its.length).filter fun k => !inB g k))))) x < 0))
structure WSh (p : Pan) (i : Nat) (u d : List Nat) : Prop where
  gu : GrOk p.its.length u
  gd : GrOk p.its.length d
  bu : upB p u = true
  bd : dnB p d = true
  mu : i ∈ u
  md : i ∈ d
section
variable {p : Pan} {m : Nat} {r : Nat → Rat} {i : Nat}
theorem rup_nlt (v : Rat) : RUp r fun j => !decide (r j < v) := fun a b h k => by
  simp only [Bool.not_eq_true', decide_eq_false_iff_not] at k ⊢
  exact fun z => k (by grind)
theorem upG_sub {g : List Nat} (hg : g ∈ upG p) : g.Sublist (List.range p.its.length) := grpS_sub (List.mem_filter.mp hg).1
theorem dnG_sub {g : List Nat} (hg : g ∈ dnG p) : g.Sublist (List.range p.its.length) := grpS_sub (List.mem_filter.mp hg).1
theorem upG_up (hp : PanOk m p) {g : List Nat} (hg : g ∈ upG p) : UpS (eE p) (inB g) := (upB_iff hp).mp (List.mem_filter.mp hg).2
theorem dnG_dn (hp : PanOk m p) {g : List Nat} (hg : g ∈ dnG p) : DnS (eE p) (inB g) := (dnB_iff hp).mp (List.mem_filter.mp hg).2
theorem avg_low (hp : PanOk m p) (b : BestP p r) {U Dn : Nat → Bool} (hU : RUp r U) (hD : DnS (eE p) Dn) {v : Rat} (hv : ∀ j, U j = true → v ≤ r j) (ne : ∃ j, j < p.its.length ∧ U j = true ∧ Dn j = true) : v ≤ avg (selI p.its ((List.range p.its.length).filter fun j => U j && Dn j)) := by
  obtain ⟨j0, h0, u0, d0⟩ := ne
  have hgi : ∀ j ∈ (List.range p.its.length).filter (fun j => U j && Dn j), j < p.its.length := fun j hj => List.mem_range.mp (List.mem_filter.mp hj).1
  rw [avg_ge hp (List.ne_nil_of_mem (List.mem_filter.mpr ⟨List.mem_range.mpr h0, by simp [u0, d0]⟩ : j0 ∈ _)) hgi]
  refine sm_fw_ge (fun j hj => Rat.le_of_lt (wR_pos hp (hgi j hj))) (b.low hU hD) fun j hj => ?_
  have := (List.mem_filter.mp hj).2
  rw [Bool.and_eq_true] at this
  exact hv j this.1
theorem avg_high (hp : PanOk m p) (b : BestP p r) {U V : Nat → Bool} (hU : UpS (eE p) U) (hV : RUp r V) {v : Rat} (hv : ∀ j, V j = false → r j ≤ v) (ne : ∃ j, j < p.its.length ∧ U j = true ∧ V j = false) : avg (selI p.its ((List.range p.its.length).filter fun j => U j && !V j)) ≤ v := by
  obtain ⟨j0, h0, u0, d0⟩ := ne
  have hgi : ∀ j ∈ (List.range p.its.length).filter (fun j => U j && !V j), j < p.its.length := fun j hj => List.mem_range.mp (List.mem_filter.mp hj).1
  rw [avg_le hp (List.ne_nil_of_mem (List.mem_filter.mpr ⟨List.mem_range.mpr h0, by simp [u0, d0]⟩ : j0 ∈ _)) hgi]
  refine sm_fw_le (fun j hj => Rat.le_of_lt (wR_pos hp (hgi j hj))) (b.high hU hV) fun j hj => ?_
  have := (List.mem_filter.mp hj).2
  rw [Bool.and_eq_true, Bool.not_eq_true'] at this
  exact hv j this.2
theorem sub_of {n : Nat} {u : List Nat} (h : GrOk n u) : u.Sublist (List.range n) := h.sub
theorem chkB_sound (hp : PanOk m p) (b : BestP p r) (hi : i < p.its.length) {x : Rat} {u d : List Nat} (hw : WSh p i u d) (h : chkB p i x u d = true) : x = r i := by
  have H := List.all_eq_true.mp h
  have upU : UpS (eE p) (inB u) := (upB_iff hp).mp hw.bu
  have dnD : DnS (eE p) (inB d) := (dnB_iff hp).mp hw.bd
  have ir : i ∈ List.range p.its.length := List.mem_range.mpr hi
  apply Rat.le_antisymm
  · -- the group of what is rated above i
    have hg : (List.range p.its.length).filter (fun j => decide (r i < r j)) ∈ upG p := upG_of hp ((rup_gt (r := r) (r i)).up b.ob)
    have c := H _ hg
    have ig : decide (i ∈ (List.range p.its.length).filter (fun j => decide (r i < r j))) = false := decide_eq_false (fun z => by
      have := (List.mem_filter.mp z).2
      simp only [decide_eq_true_eq] at this; grind)
    rw [ig] at c
    simp only [Bool.false_and, Bool.not_false, Bool.true_and, Bool.not_eq_true', decide_eq_false_iff_not] at c
    have e : u.filter (inB ((List.range p.its.length).filter fun k => !inB ((List.range p.its.length).filter (fun j => decide (r i < r j))) k)) = (List.range p.its.length).filter fun j => inB u j && !decide (r i < r j) := by
      rw [filt2 hw.gu.sub]
      refine List.filter_congr fun j hj => ?_
      have hj := List.mem_range.mp hj
      simp [inB, hj]
    rw [e] at c
    have le := avg_high hp b upU (rup_gt (r i)) (v := r i) (fun j hj => by simpa [Rat.not_lt] using hj) ⟨i, hi, by simpa [inB] using hw.mu, by simp⟩
    by_cases z : x ≤ r i
    · exact z
    · have lt := Rat.not_le.mp z
      have : cmpR (avg (selI p.its ((List.range p.its.length).filter fun j => inB u j && !decide (r i < r j)))) x = -1 := cmpR_neg (by grind)
      rw [this] at c; exact absurd (by decide) c
  · have hg : (List.range p.its.length).filter (fun j => decide (r i ≤ r j)) ∈ upG p := upG_of hp ((rup_ge (r := r) (r i)).up b.ob)
    have c := H _ hg
    have ig : decide (i ∈ (List.range p.its.length).filter (fun j => decide (r i ≤ r j))) = true := decide_eq_true (List.mem_filter.mpr ⟨ir, decide_eq_true Rat.le_refl⟩)
    rw [ig] at c
    simp only [Bool.true_and, Bool.not_true, Bool.false_and, Bool.not_false, Bool.and_true, Bool.not_eq_true', decide_eq_false_iff_not] at c
    have e : d.filter (inB ((List.range p.its.length).filter fun j => decide (r i ≤ r j))) = (List.range p.its.length).filter fun j => decide (r i ≤ r j) && inB d j := by
      rw [filt2 hw.gd.sub]
      refine List.filter_congr fun j hj => ?_
      have hj := List.mem_range.mp hj
      simp [inB, hj, Bool.and_comm]
    rw [e] at c
    have le := avg_low hp b (rup_ge (r i)) dnD (v := r i) (fun j hj => of_decide_eq_true hj) ⟨i, hi, decide_eq_true Rat.le_refl, by simpa [inB] using hw.md⟩
    by_cases z : r i ≤ x
    · exact z
    · have lt := Rat.not_le.mp z
      have : cmpR (avg (selI p.its ((List.range p.its.length).filter fun j => decide (r i ≤ r j) && inB d j))) x = 1 := cmpR_pos (by grind)
      rw [this] at c; exact absurd (by decide) c
theorem wit_sh (hp : PanOk m p) (b : BestP p r) (hi : i < p.its.length) : WSh p i (geI p.its.length r i) (leI p.its.length r i) := by
  have up : UpS (eE p) fun j => !decide (r j < r i) := (rup_nlt (r := r) (r i)).up b.ob
  have dn : DnS (eE p) fun j => !decide (r i < r j) := ((rup_gt (r := r) (r i)).up b.ob).not
  refine ⟨GrOk.of_sub List.filter_sublist, GrOk.of_sub List.filter_sublist, (List.mem_filter.mp (upG_of hp up)).2, (List.mem_filter.mp (dnG_of hp dn)).2, mem_ge.mpr ⟨hi, Rat.le_refl⟩, mem_le.mpr ⟨hi, Rat.le_refl⟩⟩
theorem chkB_wit (hp : PanOk m p) (b : BestP p r) (hi : i < p.its.length) : chkB p i (r i) (geI p.its.length r i) (leI p.its.length r i) = true := by
  refine List.all_eq_true.mpr fun g hg => ?_
  have upg := upG_up hp hg
  by_cases ig : i ∈ g
  · rw [decide_eq_true ig]
    simp only [Bool.true_and, Bool.not_true, Bool.false_and, Bool.not_false, Bool.and_true, Bool.not_eq_true', decide_eq_false_iff_not]
    have e : (leI p.its.length r i).filter (inB g) = (List.range p.its.length).filter fun j => inB g j && !decide (r i < r j) := by
      unfold leI
      rw [List.filter_filter]
    rw [e]
    have le := avg_high hp b upg (rup_gt (r i)) (v := r i) (fun j hj => by simpa [Rat.not_lt] using hj) ⟨i, hi, by simpa [inB] using ig, by simp⟩
    have := (cmpR_le _ (r i)).mpr le
    omega
  · rw [decide_eq_false ig]
    simp only [Bool.false_and, Bool.not_false, Bool.true_and, Bool.not_eq_true', decide_eq_false_iff_not]
    have e : (geI p.its.length r i).filter (inB ((List.range p.its.length).filter fun k => !inB g k)) = (List.range p.its.length).filter fun j => (!decide (r j < r i)) && !inB g j := by
      unfold geI
      rw [List.filter_filter]
      refine List.filter_congr fun j hj => ?_
      have hj := List.mem_range.mp hj
      simp [inB, hj, Bool.and_comm]
    rw [e]
    have ge := avg_low hp b (rup_nlt (r i)) upg.not (v := r i) (fun j hj => by simpa [Rat.not_lt] using hj) ⟨i, hi, by simp, by simpa [inB] using ig⟩
    intro c
    have : avg (selI p.its ((List.range p.its.length).filter fun j => (!decide (r j < r i)) && !inB g j)) < r i := by
      unfold cmpR at c
      split at c
      · assumption
      · split at c <;> omega
    grind
end
end Pm

set_option Elab.async false
set_option linter.all false
set_option maxRecDepth 100000
set_option maxHeartbeats 1000000
set_option autoImplicit false
namespace Pm
open PySem PySem.Spec PySem.W
open PyProof.Rows hiding St
open L2
def isBD : D → D → DK → Prop
  | .bl a, .bl b, R => R (.bl (decide (a = b)))
  | _, _, _ => False
theorem o_isB {X : Cx} : OpR X (compareOp .Is) (dOp2 X.K isBD) := by
  intro pins s σ H x y v u Q I rx ry ⟨Z, d, e, R, k, ad, ae, h, q⟩
  cases d <;> cases e <;> try exact h.elim
  simp only [At] at ad ae
  subst ad; subst ae
  exact op_is_bl pins s σ H _ _ v u Q I rx ry ⟨_, _, rfl, rfl, dk q k h rfl⟩
def notBD : D → D → DK → Prop
  | .bl a, .bl b, R => R (.bl (!decide (a = b)))
  | _, _, _ => False
theorem o_notB {X : Cx} : OpR X (compareOp .IsNot) (dOp2 X.K notBD) := by
  intro pins s σ H x y v u Q I rx ry ⟨Z, d, e, R, k, ad, ae, h, q⟩
  cases d <;> cases e <;> try exact h.elim
  simp only [At] at ad ae
  subst ad; subst ae
  exact op_isnot_bl pins s σ H _ _ v u Q I rx ry ⟨_, _, rfl, rfl, dk q k h rfl⟩
theorem grpS_len : ∀ l : List Nat, (grpS l).length = 2 ^ l.length
  | [] => rfl
  | i :: l => by
    have h := (grpS_perm_cons i l).length_eq
    rw [h, List.length_append, List.length_map, grpS_len l, List.length_cons, Nat.pow_succ]; omega
theorem dnG_len {m : Nat} {p : Pan} (hp : PanOk m p) (hm : m ≤ 8) : (dnG p).length ≤ 256 := by
  have h1 := List.length_filter_le (dnB p) (grpS (List.range p.its.length))
  have h3 : 2 ^ p.its.length ≤ 2 ^ 8 := Nat.pow_le_pow_right (by decide) (by have := hp.top; omega)
  rw [grpS_len, List.length_range] at h1
  unfold dnG; omega
theorem frl_ok {α : Type} (f : α → Rat) (l : List α) : D.plns (l.map fun a => frD (f a)) = true ∧ D.deps (l.map fun a => frD (f a)) ≤ 1 ∧ D.wids (l.map fun a => frD (f a)) ≤ 7000 * l.length := by
  induction l with
  | nil => exact ⟨rfl, Nat.zero_le _, Nat.zero_le _⟩
  | cons x rs ih =>
    obtain ⟨a, b, c⟩ := ih
    refine ⟨?_, ?_, ?_⟩
    · simp only [List.map_cons, D.plns, a]; rfl
    · simp only [List.map_cons, D.deps]
      have : (frD (f x)).dep = 1 := by simp [frD, D.dep, D.deps]
      omega
    · simp only [List.map_cons, D.wids, List.length_cons]
      have : (frD (f x)).wid = 4024 := by simp [frD, D.wid, D.wids]
      omega
theorem rt_ok {n : Nat} (hn : n ≤ 100) (f : Nat → Rat) : (rtD n f).pln = true ∧ (rtD n f).dep < 24 ∧ (rtD n f).wid ≤ 10000000 := by
  obtain ⟨a, b, c⟩ := frl_ok f (List.range n)
  rw [List.length_range] at c
  refine ⟨?_, ?_, ?_⟩
  · simp only [rtD, D.pln, a]
  · simp only [rtD, D.dep]; omega
  · simp only [rtD, D.wid]; omega
end Pm

set_option Elab.async false
set_option linter.all false
set_option maxRecDepth 100000
set_option maxHeartbeats 1000000
set_option autoImplicit false
namespace Pm
open PySem PySem.Spec PySem.W
open PyProof.Rows hiding St
open L2
def clipR (lo hi x : Rat) : Rat := if x < lo then lo else if hi < x then hi else x
theorem clipR_mono {lo hi x y : Rat} (h : lo ≤ hi) (k : x ≤ y) : clipR lo hi x ≤ clipR lo hi y := by
  simp only [clipR]; split <;> split <;> (try split) <;> (try split) <;> grind
theorem clipR_in {lo hi : Rat} (h : lo ≤ hi) (x : Rat) : lo ≤ clipR lo hi x ∧ clipR lo hi x ≤ hi := by
  simp only [clipR]; split <;> (try split) <;> grind
theorem clipR_hi {lo hi x : Rat} (h : lo ≤ hi) (k : clipR lo hi x ≠ hi) : x ≤ clipR lo hi x := by
  simp only [clipR] at *; split at * <;> (try split at *) <;> grind
theorem clipR_lo {lo hi x : Rat} (h : lo ≤ hi) (k : clipR lo hi x ≠ lo) : clipR lo hi x ≤ x := by
  simp only [clipR] at *; split at * <;> (try split at *) <;> grind
theorem clipR_rest {lo hi x y : Rat} (h : lo ≤ hi) (k : x ≤ y) : x - clipR lo hi x ≤ y - clipR lo hi y := by
  simp only [clipR]; split <;> split <;> (try split) <;> (try split) <;> grind
theorem clipR_side {lo hi x s : Rat} (h : lo ≤ hi) (h1 : lo ≤ s) (h2 : s ≤ hi) : (x - clipR lo hi x) * (s - clipR lo hi x) ≤ 0 := by
  simp only [clipR]
  split
  · have := mul_nonneg' (a := lo - x) (b := s - lo) (by grind) (by grind)
    grind
  · split
    · have := mul_nonneg' (a := x - hi) (b := hi - s) (by grind) (by grind)
      grind
    · grind
section
variable {E : Nat → Nat → Prop} {l : List Nat} {m w r s : Nat → Rat}
theorem Best.tight (b : Best l E m w r) {U : Nat → Bool} {k : Rat} (k0 : 0 ≤ k) (hk : ∀ x y, E x y → r x < r y → 1 ≤ k * (r y - r x)) (hU : ∀ x y, E x y → r x = r y → U x = true → U y = true) : sm (fw m w r) (l.filter U) ≤ 0 := by
  have o : Obey E fun i => k * r i + (if U i = true then 1 else 0) := fun x y e => by
    have h1 := b.ob x y e
    by_cases z : r x = r y
    · have := hU x y e z
      simp only [z]
      by_cases c : U x = true
      · rw [if_pos c, if_pos (this c)]; exact Rat.le_refl
      · rw [if_neg c]; split <;> grind
    · have := hk x y e (by grind)
      simp only
      split <;> split <;> grind
  have d := b.dot o
  have d2 := b.dot_self
  have e1 : sm (fun i => fw m w r i * (k * r i + (if U i = true then 1 else 0))) l = k * sm (fun i => fw m w r i * r i) l + sm (fun i => if U i = true then fw m w r i else 0) l := by
    rw [← sm_mul, ← sm_add]
    exact sm_congr fun i _ => by split <;> grind
  have e2 : ∀ l : List Nat, sm (fun i => if U i = true then fw m w r i else 0) l = sm (fw m w r) (l.filter U) := fun l => by
    induction l with
    | nil => rfl
    | cons a l ih =>
      by_cases c : U a = true
      · rw [List.filter_cons_of_pos c]
        simp only [sm, ih, c, if_true]
      · rw [List.filter_cons_of_neg c]
        simp only [sm, ih, c]
        grind
  rw [e1, d2, e2] at d
  grind
theorem Best.clip (b : Best l E m w r) (hw : ∀ i ∈ l, 0 < w i) {lo hi : Rat} (h : lo ≤ hi) (hs : Obey E s) (hb : ∀ i ∈ l, lo ≤ s i ∧ s i ≤ hi) : costS l m w (fun i => clipR lo hi (r i)) ≤ costS l m w s := by
  have o : Obey E fun i => s i + (r i - clipR lo hi (r i)) := fun x y e => by
    have h1 := hs x y e
    have h2 := clipR_rest h (b.ob x y e)
    grind
  have d := b.dot0 o
  have p1 : 0 ≤ sm (fun i => w i * ((s i - clipR lo hi (r i)) * (s i - clipR lo hi (r i)))) l := sm_nonneg fun i hi => mul_nonneg' (Rat.le_of_lt (hw i hi)) (sq_nonneg' _)
  have p2 : 0 ≤ sm (fun i => w i * (-((r i - clipR lo hi (r i)) * (s i - clipR lo hi (r i))))) l := sm_nonneg fun i hi' => mul_nonneg' (Rat.le_of_lt (hw i hi')) (by
    have := clipR_side (x := r i) h (hb i hi').1 (hb i hi').2
    grind)
  have e : costS l m w s = costS l m w (fun i => clipR lo hi (r i)) + sm (fun i => w i * ((s i - clipR lo hi (r i)) * (s i - clipR lo hi (r i)))) l + 2 * sm (fun i => w i * (-((r i - clipR lo hi (r i)) * (s i - clipR lo hi (r i))))) l + (-2) * sm (fun i => fw m w r i * (s i + (r i - clipR lo hi (r i)) - r i)) l := by
    unfold costS
    rw [← sm_mul, ← sm_mul, ← sm_add, ← sm_add, ← sm_add]
    refine sm_congr fun i _ => ?_
    simp only [fw]
    generalize clipR lo hi (r i) = c
    grind
  grind
theorem Best.le_top (b : Best l E m w r) (hw : ∀ i ∈ l, 0 < w i) {M : Rat} (hM : ∀ i ∈ l, m i ≤ M) : ∀ i ∈ l, r i ≤ M := fun i hi => by
  by_cases z : r i ≤ M
  · exact z
  exfalso
  have z := Rat.not_le.mp z
  have h := b.lv _ (rup_gt (r := r) M)
  have p : 0 < sm (fun j => w j * (r j - m j)) (l.filter fun j => decide (M < r j)) := by
    refine sm_pos (fun j hj => ?_) (List.ne_nil_of_mem (List.mem_filter.mpr ⟨hi, decide_eq_true z⟩))
    obtain ⟨h1, h2⟩ := List.mem_filter.mp hj
    have h2 := of_decide_eq_true h2
    exact Rat.mul_pos (hw j h1) (by have := hM j h1; grind)
  have e : sm (fun j => w j * (r j - m j)) (l.filter fun j => decide (M < r j)) = -1 * sm (fw m w r) (l.filter fun j => decide (M < r j)) := by
    rw [← sm_mul]; exact sm_congr fun j _ => by simp only [fw]; grind
  rw [e, h] at p
  grind
theorem Best.ge_low (b : Best l E m w r) (hw : ∀ i ∈ l, 0 < w i) {M : Rat} (hM : ∀ i ∈ l, M ≤ m i) : ∀ i ∈ l, M ≤ r i := fun i hi => by
  by_cases z : M ≤ r i
  · exact z
  exfalso
  have z := Rat.not_le.mp z
  have h := b.lv _ (rup_ge (r := r) M)
  have h2 := sm_split (fw m w r) (fun j => decide (M ≤ r j)) l
  rw [h, b.all] at h2
  have p : 0 < sm (fw m w r) (l.filter fun j => !decide (M ≤ r j)) := by
    refine sm_pos (fun j hj => ?_) (List.ne_nil_of_mem (List.mem_filter.mpr ⟨hi, by simp; grind⟩))
    obtain ⟨h1, h2⟩ := List.mem_filter.mp hj
    have h2 : r j < M := Rat.not_le.mp (by simpa using h2)
    exact Rat.mul_pos (hw j h1) (by have := hM j h1; grind)
  grind
end
theorem exists_k (r : Nat → Rat) : ∀ rus : List (Int × Int), ∃ k : Rat, 0 ≤ k ∧ ∀ q ∈ rus, r q.1.toNat < r q.2.toNat → 1 ≤ k * (r q.2.toNat - r q.1.toNat)
  | [] => ⟨0, Rat.le_refl, fun q hq => by cases hq⟩
  | q :: rus => by
    obtain ⟨k, k0, hk⟩ := exists_k r rus
    by_cases z : r q.1.toNat < r q.2.toNat
    · have d : 0 < r q.2.toNat - r q.1.toNat := by grind
      have inv : (r q.2.toNat - r q.1.toNat)⁻¹ * (r q.2.toNat - r q.1.toNat) = 1 := Rat.inv_mul_cancel _ (by grind)
      have ip : 0 < (r q.2.toNat - r q.1.toNat)⁻¹ := Rat.inv_pos.mpr d
      refine ⟨k + (r q.2.toNat - r q.1.toNat)⁻¹, by grind, fun q' hq' h => ?_⟩
      rcases List.mem_cons.mp hq' with rfl | hq'
      · have := mul_nonneg' k0 (Rat.le_of_lt d)
        grind
      · have h1 := hk q' hq' h
        have := mul_nonneg' (Rat.le_of_lt ip) (show 0 ≤ r q'.2.toNat - r q'.1.toNat by grind)
        grind
    · refine ⟨k, k0, fun q' hq' h => ?_⟩
      rcases List.mem_cons.mp hq' with rfl | hq'
      · exact absurd h z
      · exact hk q' hq' h
theorem BestP.tight {m : Nat} {p : Pan} {r : Nat → Rat} (hp : PanOk m p) (b : BestP p r) {U : Nat → Bool} (hU : ∀ x y, eE p x y → r x = r y → U x = true → U y = true) : sm (fw (mR p) (wR p) r) ((List.range p.its.length).filter U) ≤ 0 := by
  obtain ⟨k, k0, hk⟩ := exists_k r p.rus
  exact Best.tight b k0 (fun x y e h => by have := hk _ e (by simpa using h); simpa using this) hU
theorem BestP.tightD {m : Nat} {p : Pan} {r : Nat → Rat} (hp : PanOk m p) (b : BestP p r) {U : Nat → Bool} (hU : ∀ x y, eE p x y → r x = r y → U y = true → U x = true) : 0 ≤ sm (fw (mR p) (wR p) r) ((List.range p.its.length).filter U) := by
  have h := BestP.tight hp b (U := fun i => !U i) fun x y e z c => by
    cases h : U y with
    | false => rfl
    | true => rw [hU x y e z h] at c; cases c
  have h2 := sm_split (fw (mR p) (wR p) r) U (List.range p.its.length)
  rw [Best.all b] at h2
  grind
def obB (p : Pan) (rs : List Rat) : Bool := p.rus.all fun q => decide (rs.getD q.1.toNat 0 ≤ rs.getD q.2.toNat 0)
theorem obB_iff {m : Nat} {p : Pan} (hp : PanOk m p) {rs : List Rat} : obB p rs = true ↔ Obey (eE p) fun i => rs.getD i 0 := by
  unfold obB
  rw [List.all_eq_true]
  constructor
  · intro h a b e
    have := of_decide_eq_true (h _ e)
    simpa using this
  · intro h q hq
    obtain ⟨a, b, rfl, _⟩ := rule_nats (hp.ru q hq)
    exact decide_eq_true (by simpa using h a b hq)
theorem flat_eq {l : List D} (h : ∀ d ∈ l, d.pln = true ∧ d.dep ≤ 50) : EqOk (.lst l) (.lst []) ∧ D.eqv (.lst l) (.lst []) = decide (l = []) := by
  have k : D.plns l = true ∧ D.deps l ≤ 50 := by
    induction l with
    | nil => exact ⟨rfl, Nat.zero_le _⟩
    | cons a l ih =>
      obtain ⟨i1, i2⟩ := ih fun d hd => h d (by simp [hd])
      obtain ⟨a1, a2⟩ := h a (by simp)
      exact ⟨by simp only [D.plns, a1, i1]; rfl, by simp only [D.deps]; omega⟩
  exact ⟨EqOk.of ⟨by simp only [D.pln, k.1], rfl, by simp only [D.dep]; omega, by simp [D.dep, D.deps]⟩, by cases l <;> rfl⟩
theorem filter_nil {α : Type} {P : α → Bool} {l : List α} (h : l.filter P = []) : ∀ a ∈ l, P a = false := fun a ha => by
  have := List.filter_eq_nil_iff.mp h a ha
  simpa using this
theorem frD_injC {x y : Rat} (h : frD x = frD y) : x = y := by
  have : D.eqv (frD x) (frD y) = true := by rw [h, frD_eqv]; exact decide_eq_true rfl
  rw [frD_eqv] at this; exact of_decide_eq_true this
end Pm

set_option Elab.async false
set_option linter.all false
set_option maxRecDepth 100000
set_option maxHeartbeats 1000000
set_option autoImplicit false
namespace Pm
open PySem PySem.Spec PySem.W
open PyProof.Rows hiding St
open L2
section
variable {X : Cx}
def tSortSetI (K : PySem.W.Frag) (ta : TE) : TE := fun σ H Q => ta σ H fun x H1 => ∃ (l : Addr) (ns : List Int), x = V.ref l ∧ SqT K H1 l (ns.map V.int) ∧ ns.length < 64 ∧
  ∀ (out : List Int) (p : Addr), out.Pairwise (· < ·) → (∀ k, k ∈ out ↔ k ∈ ns) → H1 p = none → Q (.ref p) (upd H1 p (.lst (out.map V.int)))
theorem pe_sortSetI {a : Expr} {ta : TE} {p p2 q pos : Pos} (hc : X.calm = true) (hg : Gl X "sorted") (hm : X.mg "sorted" = none) (hg2 : Gl X "set") (hm2 : X.mg "set" = none) (ha : PE X a ta)
    (na : starEach [a] X.env = (false, eval a X.env) :: starEach [] X.env := by rfl) : PE X (.Call (.Name "sorted" p) [.Call (.Name "set" p2) [a] [] q] [] pos) (tSortSetI X.K ta) := by
  refine ⟨fun pins s σ H Q I h => ?_⟩
  refine Call_ (ld_blt I hg hm PyProof.Rows.boot_sorted ?_)
  refine PyProof.Rows.callWith_builtin1 (PyProof.Rows.args_cons ?_ rfl) rfl rfl
  refine Call_ (ld_blt I hg2 hm2 PyProof.Rows.boot_set ?_)
  refine PyProof.Rows.callWith_type1 (PyProof.Rows.args_cons (thn (ha.run pins s σ H _ I h) fun v s1 ⟨x, H1, I1, r1, q1⟩ => PyProof.Rows.args_nil ?_) na) na rfl
  obtain ⟨l, ns, rfl, hq, h1, q1⟩ := q1
  cases r1
  obtain ⟨its, r, pt, hz⟩ := I1.tuple hq
  have hd := I1.ok.hd hc
  refine call_set_tupI ns hd (show s1.heap.IsTuple l its.toArray from pt) (by simpa using r.ints) (by unfold scanBound; omega) fun h' tk c R1 hcn k => ?_
  refine PyProof.Rows.args_nil ?_
  have I2 : Inv X pins σ H1 { s1 with heap := h', toks := tk } := I1.kept k
  refine sorted_set R1 hd (by omega) fun s' p out c' ns' k2 g o hp hget hi hpw hmem hlen => ?_
  have hn : H1 p = none := I2.hok.fresh hp
  have hl : (ns'.map V.int).length ≤ sizeLine := by rw [List.length_map, sizeLine_eq]; omega
  have J : Inv X pins σ (upd H1 p (.lst (ns'.map V.int))) { ({ s1 with heap := h', toks := tk } : Shared) with heap := s'.heap, gens := s'.gens, drawn := s'.drawn, toks := s'.toks } :=
    I2.call (ch := []) (Un.laid k2 hp hn) (I2.hok.laid k2 hp ⟨hl, out.toList, c', vals_of_ints hi, hget⟩) (by rw [g]; exact I2.bare) (fun _ z => nomatch z)
  have e : s' = { ({ s1 with heap := h', toks := tk } : Shared) with heap := s'.heap, gens := s'.gens, drawn := s'.drawn, toks := s'.toks } := by
    cases s'
    cases s1
    cases o
    rfl
  rw [e]
  exact ⟨.ref p, _, J, rfl, q1 ns' p hpw (fun k => by rw [hmem k, decide_eq_true_eq]) hn⟩
end
section
variable {γ : Type} {X : Cx} {G : GP γ}
def qSortSet (te : PEx γ) : PAx γ := fun s R => te s fun d s1 => match d with
  | .tup xs => ∃ ns, asInts xs = some ns ∧ ns.length < 64 ∧ ∀ out : List Int, out.Pairwise (· < ·) → (∀ k, k ∈ out ↔ k ∈ ns) → R (out.map D.int) s1
  | _ => False
theorem qf_sortSet {a : Expr} {te : PEx γ} {p p2 q pos : Pos} (hc : X.calm = true) (hg : Gl X "sorted") (hm : X.mg "sorted" = none) (hg2 : Gl X "set") (hm2 : X.mg "set" = none) (ha : QE X G a te) (hK : G.K = X.K := by rfl)
    (na : starEach [a] X.env = (false, eval a X.env) :: starEach [] X.env := by rfl) : QF X G (.Call (.Name "sorted" p) [.Call (.Name "set" p2) [a] [] q] [] pos) (qSortSet te) := by
  refine PE.imp (pe_sortSetI hc hg hm hg2 hm2 ha na) fun σ H Q ⟨F, Z, s, R, r, t, q⟩ => ?_
  refine ⟨F, Z, s, _, r, t, fun d s1 Z1 v H1 t1 k1 r1 a1 => ?_⟩
  match d, t1 with
  | .tup xs, ⟨ns, e, hl, t1⟩ =>
    obtain ⟨l, vs, rfl, a2, a3⟩ := a1
    rw [asInts_eq e] at a3
    rw [a3.ints] at a2
    refine ⟨l, ns, rfl, hK ▸ seqT r1.z a2, hl, fun out p hp hm hn => ?_⟩
    obtain ⟨f1, f2, f3, f4⟩ := r1.fresh hn
    exact q _ s1 Z1 p _ _ (t1 out hp hm) k1 (r1.grow (same_upd hn)) upd_same (Ats.of_ints out) f1 f2 f3 f4
end
end Pm

set_option Elab.async false
set_option linter.all false
set_option maxRecDepth 100000
set_option maxHeartbeats 1000000
set_option autoImplicit false
namespace Pm
open PySem PySem.Spec PySem.W
open PyProof.Rows hiding St
open L2
theorem lexAt_lexLt (N M : List Int) : ∀ (k i : Nat), k = min N.length M.length - i → i ≤ min N.length M.length →
    Ob.lexAt (fun j => decide (N.getD j 0 = M.getD j 0)) (fun j => decide (N.getD j 0 < M.getD j 0)) (decide (N.length < M.length)) i k = HT.lexLt (N.drop i) (M.drop i)
  | 0, i, hk, hi => by
    rw [Ob.lexAt_zero]
    rcases Nat.lt_or_ge i N.length with h1 | h1
    · have h2 : M.length ≤ i := by omega
      rw [List.drop_eq_nil_of_le h2, List.drop_eq_getElem_cons h1]
      rw [decide_eq_false (by omega)]; rfl
    · rw [List.drop_eq_nil_of_le h1]
      rcases Nat.lt_or_ge i M.length with h2 | h2
      · rw [List.drop_eq_getElem_cons h2, decide_eq_true (by omega)]; rfl
      · rw [List.drop_eq_nil_of_le h2, decide_eq_false (by omega)]; rfl
  | k + 1, i, hk, hi => by
    have h1 : i < N.length := by omega
    have h2 : i < M.length := by omega
    have e1 : N.getD i 0 = N[i] := by rw [List.getD_eq_getElem?_getD, List.getElem?_eq_getElem h1]; rfl
    have e2 : M.getD i 0 = M[i] := by rw [List.getD_eq_getElem?_getD, List.getElem?_eq_getElem h2]; rfl
    rw [Ob.lexAt_succ, List.drop_eq_getElem_cons h1, List.drop_eq_getElem_cons h2, HT.lexLt_cons, lexAt_lexLt N M k (i + 1) (by omega) (by omega), e1, e2]
    by_cases c : N[i] = M[i]
    · rw [if_pos c, decide_eq_true c, if_pos rfl]
    · rw [if_neg c, decide_eq_false c, if_neg (by decide)]
section
variable {prog : Program} {w : World} {A : Around} {E : Value → Shared → Prop} {s : Shared}
theorem lt_tiG {v u : Value} {ns ms : List Int} {Q : Bool → Shared → Prop} (hu : A.units < cLine) (hv : IsTi s.heap v ns) (hw : IsTi s.heap u ms) (h : Q (HT.lexLt ns ms) s) : wpAny (model prog w) A (keyLt' general' v u) Q E s := by
  obtain ⟨a, dd, items, n, sl, rfl, ga, ia⟩ := hv
  obtain ⟨b, dd2, items2, n2, sl2, rfl, gb, ib⟩ := hw
  have z1 : items.size = ns.length := by have := ia.length; simpa using this
  have z2 : items2.size = ms.length := by have := ib.length; simpa using this
  have at1 : ∀ j (h1 : j < items.size), ∃ t, items[j] = .int (ns.getD j 0) t := fun j h1 => PyProof.Rows.IntsAre.int_at ia _ _ (by simp [h1])
  have at2 : ∀ j (h1 : j < items2.size), ∃ t, items2[j] = .int (ms.getD j 0) t := fun j h1 => PyProof.Rows.IntsAre.int_at ib _ _ (by simp [h1])
  have R := Ob.RcOp.tuples_lt (A := A) (s := s) (l := a) (b := b) (items := items) (items2 := items2) (e := fun j => decide (ns.getD j 0 = ms.getD j 0)) (r := fun j => decide (ns.getD j 0 < ms.getD j 0)) ⟨_, ga, rfl, n, rfl⟩ ⟨_, gb, rfl, n2, rfl⟩ hu (fun j h1 h2 => by
    obtain ⟨t, et⟩ := at1 j h1
    obtain ⟨t', et'⟩ := at2 j h2
    rw [et, et']
    have z : (ns.getD j 0 == ms.getD j 0) = decide (ns.getD j 0 = ms.getD j 0) := by
      by_cases q : ns.getD j 0 = ms.getD j 0
      · rw [decide_eq_true q]; exact beq_iff_eq.mpr q
      · rw [decide_eq_false q]; exact beq_eq_false_iff_ne.mpr q
    rw [← z]
    exact SeqAt.EqAt.int_int _ _ _ _) (fun j h1 h2 _ => by
    obtain ⟨t, et⟩ := at1 j h1
    obtain ⟨t', et'⟩ := at2 j h2
    rw [et, et']
    exact Ob.RcOp.lt_int _ _ _ _)
  rw [z1, z2, lexAt_lexLt ns ms _ 0 (by omega) (by omega), List.drop_zero, List.drop_zero] at R
  show wpAny (model prog w) A (oneLt' false (.ref a) (.ref b)) Q E s
  rw [oneLt'_eq]
  simp only [Bool.false_eq_true, if_false]
  refine wpAny_bind (R prog w E _ ?_)
  exact wpAny_truthy_bool h
theorem tiG_cmp {vs : List Value} {k : Value → List Int} (hu : A.units < cLine) (hv : ∀ v ∈ vs, IsTi s.heap v (k v)) : SrtO.Cmp prog w A s general' (fun p => p.1 ∈ vs) (SrtO.lt2 fun v u => HT.lexLt (k v) (k u)) := by
  intro p q hp hq
  exact lt_tiG (Q := fun r s' => s' = s ∧ r = HT.lexLt (k p.1) (k q.1)) (E := fun _ _ => False) hu (hv p.1 hp) (hv q.1 hq) ⟨rfl, rfl⟩
theorem tiG_kind {vs : List Value} {k : Value → List Int} {v0 : Value} {Q : SortKind → Shared → Prop} (hv : ∀ v ∈ v0 :: vs, IsTi s.heap v (k v)) (h0 : k v0 ≠ []) (h1 : ∃ u ∈ vs, k u = []) (h : Q general' s) : wpAny (model prog w) A (keyKind' (v0 :: vs).toArray) Q E s := by
  have first : ∀ v ∈ v0 :: vs, ∃ r : Option Value, (k v = [] ↔ r = none) ∧ ∀ (A : Around) (Q : Option Value → Shared → Prop), Q r s → wpAny (model prog w) A (firstOfTuple' v) Q E s := fun v hm => by
    have tv := (hv v hm).type (M := model prog w)
    obtain ⟨a, dd, items, n, sl, rfl, g, i⟩ := hv v hm
    have hz : items.size = (k (.ref a)).length := by have := i.length; simpa using this
    refine ⟨items[0]?, ⟨fun e => ?_, fun e => ?_⟩, fun A Q hq => ?_⟩
    · rw [e] at hz
      simp [show items.size = 0 from hz]
    · have : items.size ≤ 0 := Array.getElem?_eq_none_iff.mp e
      exact List.eq_nil_of_length_eq_zero (by omega)
    · rw [kas_first_eq]
      refine wpAny_bind (tv.here ?_)
      rw [if_neg (by decide)]
      refine wpAny_bind (m := Builtin.List.listItems (.ref a)) ?_
      unfold Builtin.List.listItems
      exact wpAny_bind (wpAny_seqItems g rfl (wpAny_pure (wpAny_pure hq)))
  classical
  let r : Value → Option Value := fun v => if hm : v ∈ v0 :: vs then (first v hm).choose else none
  have hr : ∀ v (hm : v ∈ v0 :: vs), (k v = [] ↔ r v = none) ∧ ∀ (A : Around) (Q : Option Value → Shared → Prop), Q (r v) s → wpAny (model prog w) A (firstOfTuple' v) Q E s := fun v hm => by
    have e : r v = (first v hm).choose := dif_pos hm
    rw [e]; exact (first v hm).choose_spec
  have r0 : (r v0).isSome = true := by
    cases e : r v0 with
    | none => exact absurd ((hr v0 (by simp)).1.mpr e) h0
    | some _ => rfl
  obtain ⟨u, hum, hu0⟩ := h1
  have ru : r u = none := (hr u (by simp [hum])).1.mp hu0
  rw [keyKind'_eq, List.mapM_toArray, map_eq_pure_bind]
  refine wpAny_bind (wpAny_bind (mapM_wp (r := r) (fun v hm Q' hq => (hr v hm).2 _ _ hq) (wpAny_pure ?_)))
  have e1 : ((List.map r (v0 :: vs)).toArray.all fun x => x.isSome) = false := by
    rw [Array.all_eq_false]
    obtain ⟨i, hi, e⟩ := List.getElem_of_mem (show r u ∈ List.map r (v0 :: vs) from List.mem_map.mpr ⟨u, by simp [hum], rfl⟩)
    refine ⟨i, by simpa using hi, ?_⟩
    simp only [List.getElem_toArray]
    rw [e, ru]; simp
  have e2 : ((List.map r (v0 :: vs)).toArray[0]?.bind id).isSome = true := by
    rw [List.map_cons]; simpa using r0
  rw [e1, if_neg (by decide), e2, if_pos rfl]
  exact wpAny_pure h
theorem tiG_sortable {a : Addr} {vs : List Value} {v0 : Value} {k : Value → List Int} (hu : A.units < cLine) (hv : ∀ v ∈ v0 :: vs, IsTi s.heap v (k v)) (h0 : k v0 ≠ []) (h1 : ∃ u ∈ vs, k u = []) (ha : ∀ v ∈ v0 :: vs, v ≠ .ref a) :
    SrtO.SortableO prog w A s a (v0 :: vs) fun v u => HT.lexLt (k v) (k u) := by
  intro h' keep
  have hv' : ∀ v ∈ v0 :: vs, IsTi h' v (k v) := fun v hm => (hv v hm).keeps fun b o e g => keep b o (fun z => ha v hm (by rw [e, z])) g
  exact ⟨general', fun Q E hq => tiG_kind (s := { s with heap := h' }) hv' h0 h1 hq, tiG_cmp (s := { s with heap := h' }) hu hv'⟩
end
def sortedFG : List D → (List D → Prop) → Prop := fun ds R => ∃ (n0 : List Int) (nss : List (List Int)), ds = [.lst ((n0 :: nss).map tiD)] ∧ n0 ≠ [] ∧ [] ∈ nss ∧ ∀ out : List (List Int), out.Perm (n0 :: nss) → out.Pairwise (fun a b => HT.lexLt b a = false) → R (out.map tiD)
theorem c_sortedG {X : Cx} {k : Nat} (hr : Room k X.A) : CallR X (.builtin "sorted") (dCallF X.K sortedFG) := by
  intro pins s σ H xs us Q I r h
  obtain ⟨Z, ds, R, kz, a, ⟨n0, nss, rfl, hn0, hmt, w⟩, q⟩ := h
  obtain ⟨v, rfl, a1⟩ := Ats.one a
  obtain ⟨p, vs, rfl, a2, a3⟩ := a1
  have each := ats_each a3
  obtain ⟨its, rv, hl, hz⟩ := I.list (.inl (.inl (kz _ _ a2)))
  rw [Vals.ref1 r]
  obtain ⟨e1, e2⟩ := bkV_refs rv fun x m => by
    obtain ⟨i, hi⟩ := List.mem_iff_getElem?.mp m
    obtain ⟨_, _, t, e, _⟩ := each i x hi
    exact ⟨t, e⟩
  have hu : X.A.units + 64 < cLine := by have := hr.units; omega
  have hints : ∀ (i : Nat) u, its[i]? = some u → ∃ ns, (n0 :: nss)[i]? = some ns ∧ TS.TupInts s.heap u ns ∧ At X.K Z (tiD ns) (bkV u) := fun i u hi => by
    have hvi : vs[i]? = some (bkV u) := by rw [e1, List.getElem?_map, hi]; rfl
    obtain ⟨ns, h1, t, h2, h3⟩ := each i _ hvi
    have eu := bkV_ref h2
    refine ⟨ns, h1, ?_, ?_⟩
    · rw [eu]; exact tupI_raw I (seqT kz h3)
    · rw [h2]; exact ⟨t, _, rfl, h3, Ats.of_ints ns⟩
  have isTi : ∀ (s' : Shared) (u : Value) (ns : List Int), TS.TupInts s'.heap u ns → IsTi s'.heap u ns := fun s' u ns ⟨t, items, e, ⟨⟨cls, dd, data, sl⟩, ho, hc, n, hd⟩, i⟩ => by
    simp only at hc hd
    subst hc hd
    exact ⟨t, dd, items, n, sl, e, ho, i⟩
  have hlen : its.length = nss.length + 1 := by
    have h1 := a3.len
    rw [e1, List.length_map, List.length_map, List.length_cons] at h1
    exact h1
  obtain ⟨u0, ur, rfl⟩ : ∃ u0 ur, its = u0 :: ur := by
    cases its with
    | nil => simp at hlen
    | cons u0 ur => exact ⟨u0, ur, rfl⟩
  have kint : ∀ u ∈ u0 :: ur, ∃ ns, TS.TupInts s.heap u ns ∧ At X.K Z (tiD ns) (bkV u) := fun u hm => by
    obtain ⟨i, hi⟩ := List.mem_iff_getElem?.mp hm
    obtain ⟨ns, _, h2, h3⟩ := hints i u hi
    exact ⟨ns, h2, h3⟩
  have kmap : (u0 :: ur).map (TS.intsOf s.heap) = n0 :: nss := by
    refine List.ext_getElem? fun i => ?_
    rw [List.getElem?_map]
    cases hi : (u0 :: ur)[i]? with
    | none =>
      have := List.getElem?_eq_none_iff.mp hi
      rw [List.getElem?_eq_none (by simp only [List.length_cons] at hlen this ⊢; omega)]; rfl
    | some u =>
      obtain ⟨ns, h1, h2, _⟩ := hints i u hi
      rw [h1]
      show some (TS.intsOf s.heap u) = some ns
      rw [h2.ints]
  have km := kmap
  rw [List.map_cons] at km
  injection km with k0 k1
  have k0' : TS.intsOf s.heap u0 ≠ [] := by rw [k0]; exact hn0
  have kE : ∃ u ∈ ur, TS.intsOf s.heap u = [] := by
    rw [← k1] at hmt
    obtain ⟨u, hu, e⟩ := List.mem_map.mp hmt
    exact ⟨u, hu, e⟩
  refine SrtO.sorted_ord (NtL.swo_lexL (TS.intsOf s.heap)) hl.isList (by rw [← rv.length]; exact hz) (fun h2 h₁ b hb kk => ?_) fun out h1 h2 => ?_
  · refine tiG_sortable (s := { s with heap := h₁ }) (k := TS.intsOf s.heap) (by show X.A.units + 1 + 1 < cLine; omega) (fun u hm => ?_) k0' kE fun u hm e => ?_
    · obtain ⟨ns, h3, _⟩ := kint u hm
      have h4 := isTi s u ns h3
      rw [h3.ints]
      exact h4.keeps fun c o _ e => (kk c o e).2
    · obtain ⟨ns, h3, _⟩ := kint u hm
      obtain ⟨t, dd, items, n, sl, e', g, _⟩ := isTi s u ns h3
      rw [e'] at e
      cases e
      exact (kk _ _ g).1 rfl
  · obtain ⟨ep, he'⟩ := PyProof.Rows.sortedAll_at s.heap (u0 :: ur) out.toArray
    have h3 : ∀ u ∈ out, ∃ a, u = Value.ref a := fun u hu => e2 u (h2.perm.mem_iff.mp hu)
    have hp : (out.map bkV).length = vs.length := by rw [e1, List.length_map, List.length_map, h2.perm.length_eq]
    have fr : H (s.heap.objs.size + 1) = none := I.hok.fresh (Nat.le_succ _)
    have ha : ∀ l : List Value, (∀ u ∈ l, u ∈ u0 :: ur) → Ats X.K Z ((l.map (TS.intsOf s.heap)).map tiD) (l.map bkV) := fun l => by
      induction l with
      | nil => intro _; rfl
      | cons u l ih =>
        intro hm
        obtain ⟨ns, h4, h5⟩ := kint u (hm u (by simp))
        refine ⟨_, _, rfl, ?_, ih fun z hz => hm z (by simp [hz])⟩
        rw [h4.ints]; exact h5
    have pk : (out.map (TS.intsOf s.heap)).Perm (n0 :: nss) := by
      rw [← kmap]; exact h2.perm.map _
    have sk : (out.map (TS.intsOf s.heap)).Pairwise (fun a b => HT.lexLt b a = false) := List.pairwise_map.mpr h1
    have hq := w _ pk sk
    refine ⟨.ref _, upd H (s.heap.objs.size + 1) (.lst (out.map bkV)), I.laid (t' := s.toks) (fun _ _ => PyProof.Rows.sortedAll_old) (Nat.le_succ _) ⟨by rw [hp]; exact hz, out, ep, bkV_vals h3, he'⟩, rfl, ?_⟩
    exact q _ _ _ _ hq (same_upd fr) fr upd_same (ha out fun u hu => h2.perm.mem_iff.mp hu)
end Pm

set_option Elab.async false
set_option linter.all false
set_option maxRecDepth 100000
set_option maxHeartbeats 1000000
set_option autoImplicit false
namespace Pm
open PySem PySem.Spec PySem.W
open PyProof.Rows hiding St
open L2
def edD (e : Nat × Nat) : D := .tup [natD e.1, natD e.2]
def rowT (n : Nat) (f : Nat → Bool) : D := .lst ((List.range n).map fun j => D.bl (f j))
def matT (n : Nat) (M : Nat → Nat → Bool) : List D := (List.range n).map fun i => rowT n (M i)
abbrev pE (its : List (Int × Int)) (eds : List (Nat × Nat)) : D := .tup [.tup (its.map itD), .tup (eds.map edD)]
def W (eds : List (Nat × Nat)) : Nat → Nat → Nat → Bool
  | 0, i, j => decide (i = j) || decide ((i, j) ∈ eds)
  | k + 1, i, j => W eds k i j || (W eds k i k && W eds k k j)
theorem eds_pln (eds : List (Nat × Nat)) : D.plns (eds.map edD) = true := by
  induction eds with
  | nil => rfl
  | cons q l ih => simp only [List.map_cons, D.plns, ih]; rfl
def edsP (p : Pan) : List (Nat × Nat) := p.rus.map fun q => (q.1.toNat, q.2.toNat)
theorem rus_edsP {m : Nat} {p : Pan} (hp : PanOk m p) : p.rus.map itD = (edsP p).map edD := by
  unfold edsP
  rw [List.map_map]
  refine List.map_congr_left fun q hq => ?_
  obtain ⟨a, b, rfl, _⟩ := rule_nats (hp.ru q hq)
  rfl
theorem panD_pE {m : Nat} {p : Pan} (hp : PanOk m p) : panD p = pE p.its (edsP p) := by
  unfold panD pE
  rw [rus_edsP hp]
theorem mem_edsP {m : Nat} {p : Pan} (hp : PanOk m p) {a b : Nat} : (a, b) ∈ edsP p ↔ eE p a b := by
  unfold edsP eE
  rw [List.mem_map]
  constructor
  · rintro ⟨q, hq, e⟩
    obtain ⟨x, y, rfl, _⟩ := rule_nats (hp.ru q hq)
    simp only [Int.toNat_natCast, Prod.mk.injEq] at e
    rw [← e.1, ← e.2]; exact hq
  · intro h
    exact ⟨_, h, by simp⟩
theorem edsP_lt {m : Nat} {p : Pan} (hp : PanOk m p) : ∀ e ∈ edsP p, e.1 < p.its.length ∧ e.2 < p.its.length := fun e he => by
  obtain ⟨a, b⟩ := e
  exact eE_lt hp ((mem_edsP hp).mp he)
theorem natD_injC {a b : Nat} (h : natD a = natD b) : a = b := by
  simp only [natD, D.int.injEq] at h; omega
theorem grD_injC {a b : List Nat} (h : grD a = grD b) : a = b := by
  simp only [grD, D.tup.injEq] at h
  exact (List.map_inj_right fun _ _ h => natD_injC h).mp h
end Pm

set_option Elab.async false
set_option linter.all false
set_option maxRecDepth 100000
set_option maxHeartbeats 1000000
set_option autoImplicit false
namespace Pm
open PySem PySem.Spec
open PyProof.Rows hiding St
open L2
variable {γ : Type}
def Jz3 (K : PySem.W.Frag) (k1 k2 k3 : Sk) : It :=
  ⟨fun i H => ∃ (xs ys zs : List V) (x y z : V), k1.src K H xs ∧ k2.src K H ys ∧ k3.src K H zs ∧ xs[i]? = some x ∧ ys[i]? = some y ∧ zs[i]? = some z,
    fun i H v H' => ∃ T x y z, v = .ref T ∧ H T = none ∧ H' = upd H T (.tup [x, y, z]) ∧ (∀ xs, k1.src K H xs → xs[i]? = some x) ∧ (∀ ys, k2.src K H ys → ys[i]? = some y) ∧ ∀ zs, k3.src K H zs → zs[i]? = some z,
    fun i H => ∃ xs ys zs : List V, k1.src K H xs ∧ k2.src K H ys ∧ k3.src K H zs ∧ i = min (min xs.length ys.length) zs.length⟩
theorem turn_zip3 {P : Program} {w : World} {K : PySem.W.Frag} {elts : List Expr} {kk : Nat} {tpos : Pos} {z TI TO i1 i2 i3 : Addr} {k1 k2 k3 : Sk} (Sp : ZipSep3 z TI TO i1 i2 i3 (i1 :: k1.fp) (i2 :: k2.fp) (i3 :: k3.fp)) (n1 : i1 ∉ k1.fp) (n2 : i2 ∉ k2.fp) (n3 : i3 ∉ k3.fp) :
    Turn P w K (.Tuple elts kk tpos) (Jz3 K k1 k2 k3) [z, TI, TO, i1, i2, i3] z (fun i h => IsZip h z TI TO .none ∧ IsTupOf3 h TI (.ref i1) (.ref i2) (.ref i3) ∧ (∃ a1 a2 a3, IsTupOf3 h TO a1 a2 a3) ∧ k1.it h i1 i ∧ k2.it h i2 i ∧ k3.it h i3 i) where
  mem := by simp
  obj := fun i h st c hc => by
    obtain ⟨hz, hTI, ⟨x, y, u, hTO⟩, h1, h2, h3⟩ := st
    have e' : c = z ∨ c = TI ∨ c = TO ∨ c = i1 ∨ c = i2 ∨ c = i3 := by simpa using hc
    rcases e' with q | q | q | q | q | q
    · rw [q]; exact ⟨_, hz, fun v q => nomatch q⟩
    · rw [q]; exact ⟨_, hTI, fun v q => nomatch q⟩
    · rw [q]; exact ⟨_, hTO, fun v q => nomatch q⟩
    · rw [q]; exact Sk.itOb h1
    · rw [q]; exact Sk.itOb h2
    · rw [q]; exact Sk.itOb h3
  keep := fun i h h' st k => by
    obtain ⟨hz, hTI, ⟨x, y, u, hTO⟩, h1, h2, h3⟩ := st
    exact ⟨k z (by simp) _ hz, k TI (by simp) _ hTI, ⟨x, y, u, k TO (by simp) _ hTO⟩, Sk.itAt h1 fun o q => k i1 (by simp) o q, Sk.itAt h2 fun o q => k i2 (by simp) o q, Sk.itAt h3 fun o q => k i3 (by simp) o q⟩
  item := by
    intro X hP hw hK hc i pins s σ H E I hf st hg
    subst hP hw hK
    obtain ⟨hz, hTI, ⟨x0, y0, z0, hTO⟩, h1, h2, h3⟩ := st
    obtain ⟨xs, ys, zs, x, y, u, hqx, hqy, hqz, hx, hy, hu⟩ := hg
    obtain ⟨its, m1, p1, d1⟩ := Sk.read I hqx
    obtain ⟨its2, m2, p2, d2⟩ := Sk.read I hqy
    obtain ⟨its3, m3, p3, d3⟩ := Sk.read I hqz
    have hd := I.ok.hd hc
    have W := WalksT.zipD3 Sp (d1 X.A.in1 hd i1 n1) (d2 X.A.in1 hd i2 n2) (d3 X.A.in1 hd i3 n3)
    have hi : i < min (min xs.length ys.length) zs.length := by
      have a := (List.getElem?_eq_some_iff.mp hx).1
      have b := (List.getElem?_eq_some_iff.mp hy).1
      have c := (List.getElem?_eq_some_iff.mp hu).1
      omega
    refine thn (turnT (Good := fun vs => vs = [x, y, u]) W hi ⟨hz, hTI, ⟨x0, y0, z0, hTO⟩, ⟨h1, m1⟩, ⟨h2, m2⟩, h3, m3⟩ I (cells := [z, TI, TO, i1, i2, i3]) (fun b hb => ?_) hf (fun b hb => ?_) fun vals hv => ?_) fun r s1 ⟨u, hr, h⟩ => ⟨u, hr, thn h fun _ s2 ⟨T, zs, e1, e2, e3, e4, e5, e6⟩ => ?_⟩
    · have : b = z ∨ b = TO ∨ b = i1 ∨ b = i2 ∨ b = i3 := by simpa using hb
      simp only [List.mem_cons, List.not_mem_nil, or_false]
      rcases this with h | h | h | h | h <;> simp [h]
    · have e' : b = z ∨ b = TI ∨ b = TO ∨ b = i1 ∨ b = i2 ∨ b = i3 := by simpa using hb
      rcases e' with q | q | q | q | q | q
      · rw [q]; exact ⟨_, hz⟩
      · rw [q]; exact ⟨_, hTI⟩
      · rw [q]; exact ⟨_, hTO⟩
      · rw [q]; obtain ⟨o, e, _⟩ := Sk.itOb h1; exact ⟨o, e⟩
      · rw [q]; obtain ⟨o, e, _⟩ := Sk.itOb h2; exact ⟨o, e⟩
      · rw [q]; obtain ⟨o, e, _⟩ := Sk.itOb h3; exact ⟨o, e⟩
    · obtain ⟨x1, x2, x3, q1, q2, q3, rfl⟩ := hv
      obtain ⟨v1, f1, r1⟩ := p1 i x1 q1
      obtain ⟨v2, f2, r2⟩ := p2 i x2 q2
      obtain ⟨v3, f3, r3⟩ := p3 i x3 q3
      rw [hx] at f1; rw [hy] at f2; rw [hu] at f3
      cases f1; cases f2; cases f3
      exact ⟨[x, y, u], .cons r1 (.cons r2 (.cons r3 .nil)), by show 3 ≤ sizeLine; decide, rfl⟩
    · subst e1; subst e2
      obtain ⟨z', TI', TO', ⟨a1, _⟩, ⟨a2, _⟩, a3, _⟩ := e5
      exact ⟨.ref T, _, e4, rfl, ⟨T, x, y, _, rfl, e3, rfl, fun l hl => by rw [Sk.src_inj I hl hqx]; exact hx, fun l hl => by rw [Sk.src_inj I hl hqy]; exact hy, fun l hl => by rw [Sk.src_inj I hl hqz]; exact hu⟩, ⟨z', TI', TO', a1, a2, a3⟩, e6⟩
  done := by
    intro X hP hw hK hc i pins s σ H E I hf st hg
    subst hP hw hK
    obtain ⟨hz, hTI, ⟨x0, y0, z0, hTO⟩, h1, h2, h3⟩ := st
    obtain ⟨xs, ys, zs, hqx, hqy, hqz, rfl⟩ := hg
    obtain ⟨its, m1, p1, d1⟩ := Sk.read I hqx
    obtain ⟨its2, m2, p2, d2⟩ := Sk.read I hqy
    obtain ⟨its3, m3, p3, d3⟩ := Sk.read I hqz
    have hd := I.ok.hd hc
    have W := WalksT.zipD3 Sp (d1 X.A.in1 hd i1 n1) (d2 X.A.in1 hd i2 n2) (d3 X.A.in1 hd i3 n3)
    refine W.done s _ E ⟨hz, hTI, ⟨x0, y0, z0, hTO⟩, ⟨h1, m1⟩, ⟨h2, m2⟩, h3, m3⟩ fun h' tk hk => ⟨rfl, I.turnedL (t' := tk) (ch := [z, TI, TO, i1, i2, i3]) (fun b o hb e => hk b o (fun q => hb ?_) e) hf⟩
    have : b = z ∨ b = TO ∨ b = i1 ∨ b = i2 ∨ b = i3 := by simpa using q
    simp only [List.mem_cons, List.not_mem_nil, or_false]
    rcases this with h | h | h | h | h <;> simp [h]
  self := fun A i s Q E st h => wpAny_pyIter_zip st.1 h
def zipD3 : List D → List D → List D → List D
  | x :: xs, y :: ys, z :: zs => .tup [x, y, z] :: zipD3 xs ys zs
  | _, _, _ => []
theorem zipD3_len : ∀ xs ys zs : List D, (zipD3 xs ys zs).length = min (min xs.length ys.length) zs.length
  | [], _, _ => by simp [zipD3]
  | _ :: _, [], _ => by simp [zipD3]
  | _ :: _, _ :: _, [] => by simp [zipD3]
  | x :: xs, y :: ys, z :: zs => by simp only [zipD3, List.length_cons, zipD3_len xs ys zs]; omega
theorem zipD3_get : ∀ {xs ys zs : List D} {i : Nat} {d : D}, (zipD3 xs ys zs)[i]? = some d → ∃ x y z, xs[i]? = some x ∧ ys[i]? = some y ∧ zs[i]? = some z ∧ d = .tup [x, y, z]
  | [], _, _, _, _, h => by simp [zipD3] at h
  | _ :: _, [], _, _, _, h => by simp [zipD3] at h
  | _ :: _, _ :: _, [], _, _, h => by simp [zipD3] at h
  | x :: xs, y :: ys, z :: zs, 0, d, h => by simp [zipD3] at h; exact ⟨x, y, z, rfl, rfl, rfl, h.symm⟩
  | x :: xs, y :: ys, z :: zs, i + 1, d, h => zipD3_get (xs := xs) (ys := ys) (zs := zs) (i := i) (by simpa [zipD3] using h)
def qZip3 (ta : PAx γ) : PAx γ := fun s R => ta s fun ds s1 => match ds with
  | [d1, d2, d3] => match itemsD d1, itemsD d2, itemsD d3 with
    | some xs, some ys, some zs => R (zipD3 xs ys zs) s1
    | _, _, _ => False
  | _ => False
theorem walks_zip3 {K : PySem.W.Frag} {Z : Hp} {k1 k2 k3 : Sk} {xs ys zs : List D} (h1 : ∀ H, Same Z H → ∃ vs, k1.src K H vs ∧ Ats K Z xs vs) (h2 : ∀ H, Same Z H → ∃ vs, k2.src K H vs ∧ Ats K Z ys vs) (h3 : ∀ H, Same Z H → ∃ vs, k3.src K H vs ∧ Ats K Z zs vs) : Walks K (Jz3 K k1 k2 k3) Z (zipD3 xs ys zs) := by
  intro i Z1 H z1 z2
  obtain ⟨vs, a1, a2⟩ := h1 H (z1.trans z2)
  obtain ⟨ws, b1, b2⟩ := h2 H (z1.trans z2)
  obtain ⟨us, c1, c2⟩ := h3 H (z1.trans z2)
  refine ⟨fun d hd => ?_, fun hl => ⟨vs, ws, us, a1, b1, c1, by rw [hl, zipD3_len, a2.len, b2.len, c2.len]⟩⟩
  obtain ⟨x, y, z, hx, hy, hz, rfl⟩ := zipD3_get hd
  obtain ⟨v, d1, d2⟩ := a2.get hx
  obtain ⟨w, e1, e2⟩ := b2.get hy
  obtain ⟨u, f1, f2⟩ := c2.get hz
  refine ⟨⟨vs, ws, us, v, w, u, a1, b1, c1, d1, e1, f1⟩, fun u' H' yl => ?_⟩
  obtain ⟨T, x', y', z', rfl, hT, rfl, g1, g2, g3⟩ := yl
  have q1 := g1 vs a1
  have q2 := g2 ws b1
  have q3 := g3 us c1
  rw [d1] at q1; rw [e1] at q2; rw [f1] at q3
  cases q1; cases q2; cases q3
  have x := Ext.new (o := HO.tup [v, w, u]) z2 hT
  exact ⟨_, x, ⟨T, _, rfl, .inl (.inl upd_same), ⟨_, _, rfl, At.mono (z1.trans x.zz) _ _ d2, ⟨_, _, rfl, At.mono (z1.trans x.zz) _ _ e2, ⟨_, _, rfl, At.mono (z1.trans x.zz) _ _ f2, rfl⟩⟩⟩⟩⟩
theorem vals3' {x y z : V} {us : List Value} (h : Vals [x, y, z] us) : ∃ u v w, us = [u, v, w] ∧ RelV x u ∧ RelV y v ∧ RelV z w := by
  match us, h with
  | _, .cons a (.cons b (.cons c .nil)) => exact ⟨_, _, _, rfl, a, b, c⟩
theorem qi_zip3 {X : Cx} {G : GP γ} {elts : List Expr} {kk : Nat} {tpos : Pos} {e e2 e3 : Expr} {p pos : Pos} {ta : PAx γ} (hg : Gl X "zip") (hm : X.mg "zip" = none) (ha : QA X G [e, e2, e3] ta) (hK : X.K = G.K := by rfl)
    (hs : starEach [e, e2, e3] X.env = (false, eval e X.env) :: starEach [e2, e3] X.env := by rfl) (hpl : (backTo pos (starEach [e2, e3] X.env)).any (·.1) = false := by rfl) : QI X G (.Tuple elts kk tpos) (.Call (.Name "zip" p) [e, e2, e3] [] pos) (qZip3 ta) := by
  refine ⟨fun pins s σ H R I w => ?_⟩
  obtain ⟨F, Z, sg, Rp, r, t, q⟩ := w
  refine Call_ (ld_blt I hg hm PyProof.Rows.boot_zip (PyProof.Rows.callWith_type1 (thn (ha.run pos pins s σ H (fun vs H1 => ∃ d1 d2 d3 xs ys zs s1 Z1, Rel G F Z1 s1 σ H1 ∧ Ats G.K Z1 [d1, d2, d3] vs ∧ itemsD d1 = some xs ∧ itemsD d2 = some ys ∧ itemsD d3 = some zs ∧ ∀ J, Walks G.K J Z1 (zipD3 xs ys zs) → R J H1) I ⟨F, Z, sg, _, r, t, fun ds s1 Z1 vs H1 t1 k1 r1 a1 => ?_⟩) fun us s1 ⟨vs, H1, I1, rv, d1, d2, d3, xs, ys, zs, sg1, Z1, r1, a1, e1, e2', e3', q1⟩ => ?_) hs hpl))
  · match ds, t1, a1 with
    | [d1, d2, d3], t1, a1 =>
      cases e1 : itemsD d1 with
      | none => simp only [e1] at t1
      | some xs =>
        cases e2' : itemsD d2 with
        | none => simp only [e1, e2'] at t1
        | some ys =>
          cases e3' : itemsD d3 with
          | none => simp only [e1, e2', e3'] at t1
          | some zs =>
            simp only [e1, e2', e3'] at t1
            exact ⟨d1, d2, d3, xs, ys, zs, s1, Z1, r1, a1, e1, e2', e3', fun J hJ => q _ s1 Z1 H1 J t1 k1 r1 hJ⟩
  · simp only [Ats] at a1
    obtain ⟨v1, _, rfl, a1, v2, _, rfl, a2, v3, _, rfl, a3, rfl⟩ := a1
    obtain ⟨u1, u2, u3, rfl, rv1, rv2, rv3⟩ := vals3' rv
    rw [← hK] at a1 a2 a3
    obtain ⟨k1, rfl, c1⟩ := src_of a1 rv1 e1
    obtain ⟨k2, rfl, c2⟩ := src_of a2 rv2 e2'
    obtain ⟨k3, rfl, c3⟩ := src_of a3 rv3 e3'
    obtain ⟨ws1, g1, g1'⟩ := c1 H1 r1.z
    obtain ⟨ws2, g2, g2'⟩ := c2 H1 r1.z
    obtain ⟨ws3, g3, g3'⟩ := c3 H1 r1.z
    obtain ⟨its1, m1, _⟩ := Sk.read I1 g1
    obtain ⟨its2, m2, _⟩ := Sk.read I1 g2
    obtain ⟨its3, m3, _⟩ := Sk.read I1 g3
    have l1 := Sk.fp_lt I1 g1
    have l2 := Sk.fp_lt I1 g2
    have l3 := Sk.fp_lt I1 g3
    refine zip_begins3 (k1.begins its1) (k2.begins its2) (k3.begins its3) m1 m2 m3 fun h' hz hTI hTO o1 o2 o3 hsz hk => wpAny_pyIter_zip hz ?_
    have I2 : L2.Inv X pins σ H1 { s1 with heap := h' } := I1.kept (t' := s1.toks) hk
    refine ⟨s1.heap.objs.size + 5, [s1.heap.objs.size + 5, s1.heap.objs.size + 3, s1.heap.objs.size + 4, s1.heap.objs.size, s1.heap.objs.size + 1, s1.heap.objs.size + 2], _, _, H1, rfl, I2,
      turn_zip3 (k1 := k1) (k2 := k2) (k3 := k3) (zip_sep3 l1 l2 l3) (fun h => absurd (l1 _ h) (Nat.lt_irrefl _)) (fun h => absurd (l2 _ h) (Nat.not_lt_of_le (Nat.le_succ _))) (fun h => absurd (l3 _ h) (Nat.not_lt_of_le (Nat.le_add_right _ 2))), ⟨hz, hTI, ⟨_, _, _, hTO⟩, Sk.it0 o1, Sk.it0 o2, Sk.it0 o3⟩, fun c hcm => ?_, q1 _ (by rw [← hK]; exact walks_zip3 c1 c2 c3)⟩
    have e' : c = s1.heap.objs.size + 5 ∨ c = s1.heap.objs.size + 3 ∨ c = s1.heap.objs.size + 4 ∨ c = s1.heap.objs.size ∨ c = s1.heap.objs.size + 1 ∨ c = s1.heap.objs.size + 2 := by simpa using hcm
    have hle : s1.heap.objs.size ≤ c := by
      rcases e' with z | z | z | z | z | z
      · rw [z]; exact Nat.le_add_right _ _
      · rw [z]; exact Nat.le_add_right _ _
      · rw [z]; exact Nat.le_add_right _ _
      · rw [z]; exact Nat.le_refl _
      · rw [z]; exact Nat.le_add_right _ _
      · rw [z]; exact Nat.le_add_right _ _
    exact I1.fpOk hle (I1.hok.fresh hle)
end Pm

set_option Elab.async false
set_option linter.all false
set_option maxRecDepth 100000
set_option maxHeartbeats 1000000
set_option autoImplicit false
namespace Pm
open PySem PySem.Spec PySem.W
open PyProof.Rows hiding St
open L2
def stepF (q : Nat × Nat) (f : Nat → Int) : Nat → Int := fun x => if x = q.2 then max (f q.2) (f q.1) else f x
def passF : List (Nat × Nat) → (Nat → Int) → Nat → Int
  | [], f => f
  | q :: qs, f => passF qs (stepF q f)
def runF (qs : List (Nat × Nat)) : Nat → (Nat → Int) → Nat → Int
  | 0, f => f
  | t + 1, f => passF qs (runF qs t f)
theorem stepF_ge (q : Nat × Nat) (f : Nat → Int) (x : Nat) : f x ≤ stepF q f x := by
  unfold stepF; split
  · rename_i e; rw [e]; omega
  · omega
theorem passF_ge : ∀ (qs : List (Nat × Nat)) (f : Nat → Int) (x : Nat), f x ≤ passF qs f x
  | [], f, x => Int.le_refl _
  | q :: qs, f, x => Int.le_trans (stepF_ge q f x) (passF_ge qs _ x)
theorem passF_hit : ∀ {qs : List (Nat × Nat)} {f : Nat → Int} {q : Nat × Nat}, q ∈ qs → f q.1 ≤ passF qs f q.2
  | q' :: qs, f, q, h => by
    rcases List.mem_cons.mp h with rfl | h
    · refine Int.le_trans ?_ (passF_ge qs _ q.2)
      unfold stepF
      rw [if_pos rfl]; omega
    · exact Int.le_trans (stepF_ge q' f q.1) (passF_hit (f := stepF q' f) h)
theorem passF_same {v : Int} : ∀ {qs rs : List (Nat × Nat)} {f : Nat → Int}, (∀ q ∈ qs, q ∈ rs) → (∀ q ∈ rs, v ≤ f q.1 → v ≤ f q.2) → ∀ x, v ≤ passF qs f x ↔ v ≤ f x
  | [], _, _, _, _, x => Iff.rfl
  | q :: qs, rs, f, hs, hc, x => by
    have one : ∀ y, v ≤ stepF q f y ↔ v ≤ f y := fun y => by
      unfold stepF
      split
      · rename_i e
        rw [e]
        constructor
        · intro h
          by_cases z : v ≤ f q.2
          · exact z
          · exact hc q (hs q (by simp)) (by omega)
        · intro h; omega
      · exact Iff.rfl
    rw [← one x]
    exact passF_same (qs := qs) (rs := rs) (f := stepF q f) (fun p hp => hs p (by simp [hp])) (fun p hp h => (one p.2).mpr (hc p hp ((one p.1).mp h))) x
def upF (n : Nat) (v : Int) (f : Nat → Int) : List Nat := (List.range n).filter fun x => decide (v ≤ f x)
theorem upF_mem {n : Nat} {v : Int} {f : Nat → Int} {x : Nat} : x ∈ upF n v f ↔ x < n ∧ v ≤ f x := by
  unfold upF
  rw [List.mem_filter, List.mem_range, decide_eq_true_eq]
theorem upF_nodup (n : Nat) (v : Int) (f : Nat → Int) : (upF n v f).Nodup := List.nodup_range.filter _
theorem run_closed {n : Nat} {qs : List (Nat × Nat)} (hq : ∀ q ∈ qs, q.1 < n ∧ q.2 < n) (f : Nat → Int) (v : Int) : ∀ t, (∀ q ∈ qs, v ≤ runF qs t f q.1 → v ≤ runF qs t f q.2) ∨ t + 1 ≤ (upF n v (runF qs t f)).length
  | 0 => by
    by_cases z : ∀ q ∈ qs, v ≤ f q.1 → v ≤ f q.2
    · exact .inl z
    · refine .inr ?_
      have : ∃ q ∈ qs, v ≤ f q.1 ∧ ¬ v ≤ f q.2 := by
        by_cases w : ∃ q ∈ qs, v ≤ f q.1 ∧ ¬ v ≤ f q.2
        · exact w
        · refine absurd (fun q hq h => ?_) z
          by_cases y : v ≤ f q.2
          · exact y
          · exact absurd ⟨q, hq, h, y⟩ w
      obtain ⟨q, hm, h1, _⟩ := this
      exact List.length_pos_of_mem (upF_mem.mpr ⟨(hq q hm).1, h1⟩)
  | t + 1 => by
    have ih := run_closed hq f v t
    by_cases z : ∀ q ∈ qs, v ≤ runF qs t f q.1 → v ≤ runF qs t f q.2
    · refine .inl fun q hm h => ?_
      have e := passF_same (qs := qs) (rs := qs) (f := runF qs t f) (fun _ h => h) z
      exact (e q.2).mpr (z q hm ((e q.1).mp h))
    · have ih := ih.resolve_left z
      have : ∃ q ∈ qs, v ≤ runF qs t f q.1 ∧ ¬ v ≤ runF qs t f q.2 := by
        by_cases w : ∃ q ∈ qs, v ≤ runF qs t f q.1 ∧ ¬ v ≤ runF qs t f q.2
        · exact w
        · refine absurd (fun q hq h => ?_) z
          by_cases y : v ≤ runF qs t f q.2
          · exact y
          · exact absurd ⟨q, hq, h, y⟩ w
      obtain ⟨q, hm, h1, h2⟩ := this
      refine .inr ?_
      have nd : (q.2 :: upF n v (runF qs t f)).Nodup := List.nodup_cons.mpr ⟨fun c => h2 (upF_mem.mp c).2, upF_nodup _ _ _⟩
      have := nat_nodup_len _ (upF n v (runF qs (t + 1) f)) nd fun x hx => by
        rcases List.mem_cons.mp hx with rfl | hx
        · exact upF_mem.mpr ⟨(hq q hm).2, Int.le_trans h1 (passF_hit hm)⟩
        · obtain ⟨a, b⟩ := upF_mem.mp hx
          exact upF_mem.mpr ⟨a, Int.le_trans b (passF_ge _ _ _)⟩
      rw [List.length_cons] at this
      omega
theorem run_obeys {n : Nat} {qs : List (Nat × Nat)} (hq : ∀ q ∈ qs, q.1 < n ∧ q.2 < n) (f : Nat → Int) : ∀ q ∈ qs, runF qs n f q.1 ≤ runF qs n f q.2 := fun q hm => by
  rcases run_closed hq f (runF qs n f q.1) n with h | h
  · exact h q hm (Int.le_refl _)
  · have : (upF n (runF qs n f q.1) (runF qs n f)).length ≤ (List.range n).length := List.length_filter_le _ _
    rw [List.length_range] at this
    omega
theorem passF_bd {B : Int} : ∀ {qs : List (Nat × Nat)} {f : Nat → Int}, (∀ x, -B ≤ f x ∧ f x ≤ B) → ∀ x, -B ≤ passF qs f x ∧ passF qs f x ≤ B
  | [], f, h, x => h x
  | q :: qs, f, h, x => passF_bd (qs := qs) (f := stepF q f) (fun y => by
    unfold stepF
    have := h y; have := h q.1; have := h q.2
    split <;> omega) x
theorem runF_bd {B : Int} {qs : List (Nat × Nat)} {f : Nat → Int} (h : ∀ x, -B ≤ f x ∧ f x ≤ B) : ∀ t x, -B ≤ runF qs t f x ∧ runF qs t f x ≤ B
  | 0, x => h x
  | t + 1, x => passF_bd (runF_bd h t) x
theorem rng_set {α : Type} {n i : Nat} {g : Nat → α} {x : α} : ((List.range n).map g).set i x = (List.range n).map fun a => if a = i then x else g a := by
  refine List.ext_getElem? fun k => ?_
  rw [List.getElem?_set, List.getElem?_map, List.getElem?_map]
  by_cases hk : k < n
  · rw [List.getElem?_range hk]
    by_cases e : i = k
    · subst e; simp [hk]
    · rw [if_neg e]
      simp [Ne.symm e]
  · have : (List.range n)[k]? = none := List.getElem?_eq_none (by simpa using hk)
    rw [this]
    by_cases e : i = k
    · subst e; simp [hk]
    · rw [if_neg e]; rfl
theorem sm_ind {a : Nat} {d : Rat} : ∀ {l : List Nat}, l.Nodup → sm (fun x => if x = a then d else 0) l = if a ∈ l then d else 0
  | [], _ => by simp [sm]
  | b :: l, h => by
    rw [List.nodup_cons] at h
    simp only [sm]
    rw [sm_ind h.2]
    by_cases e : b = a
    · subst e
      simp [h.1]; grind
    · simp [e, fun z => e (Eq.symm z)]
      by_cases m : a ∈ l
      · simp [m]; grind
      · simp [m, fun z : a = b => e z.symm]; grind
structure Flow (n : Nat) (rus : List (Int × Int)) (L : Nat → Rat) (F : Nat → Int) : Prop where
  up : ∀ U, UpS (eE ⟨[], rus⟩) U → sm (fun x => (F x : Rat)) ((List.range n).filter U) ≤ 0
  lv : ∀ U, RUp L U → sm (fun x => (F x : Rat)) ((List.range n).filter U) = 0
theorem sm_zero (l : List Nat) : sm (fun _ => (0 : Rat)) l = 0 := by
  induction l with
  | nil => rfl
  | cons _ l ih => simp only [sm, ih]; grind
theorem Flow.zero {n : Nat} {rus : List (Int × Int)} {L : Nat → Rat} : Flow n rus L fun _ => 0 :=
  ⟨fun U _ => by simp only [Rat.intCast_zero, sm_zero]; exact Rat.le_refl, fun U _ => by simp only [Rat.intCast_zero, sm_zero]⟩
theorem Flow.add {n : Nat} {rus : List (Int × Int)} {L : Nat → Rat} {F : Nat → Int} (h : Flow n rus L F) {a b : Nat} {d : Int} (d0 : 0 ≤ d) (hr : ((a : Int), (b : Int)) ∈ rus) (hab : a ≠ b) (ha : a < n) (hb : b < n) (hd : d = 0 ∨ L a = L b) : Flow n rus L fun x => if x = b then F x - d else if x = a then F x + d else F x := by
  have e : ∀ U : Nat → Bool, sm (fun x => ((if x = b then F x - d else if x = a then F x + d else F x : Int) : Rat)) ((List.range n).filter U) = sm (fun x => (F x : Rat)) ((List.range n).filter U) + (if U a = true then (d : Rat) else 0) - (if U b = true then (d : Rat) else 0) := fun U => by
    have i1 := sm_ind (a := a) (d := (d : Rat)) (l := (List.range n).filter U) (List.nodup_range.filter _)
    have i2 := sm_ind (a := b) (d := (d : Rat)) (l := (List.range n).filter U) (List.nodup_range.filter _)
    have m1 : (a ∈ (List.range n).filter U) = (U a = true) := by rw [List.mem_filter, List.mem_range]; simp [ha]
    have m2 : (b ∈ (List.range n).filter U) = (U b = true) := by rw [List.mem_filter, List.mem_range]; simp [hb]
    simp only [m1] at i1
    simp only [m2] at i2
    rw [← i1, ← i2, ← sm_add, ← sm_sub]
    refine sm_congr fun x _ => ?_
    by_cases xb : x = b
    · have xa : x ≠ a := fun z => hab (z.symm.trans xb)
      simp only [xb, if_true, if_neg (fun z : b = a => hab z.symm), Rat.intCast_sub]; grind
    · by_cases xa : x = a
      · simp only [xa, if_neg hab, if_true, Rat.intCast_add]; grind
      · simp only [if_neg xb, if_neg xa]; grind
  have dR : (0 : Rat) ≤ (d : Rat) := Rat.intCast_nonneg.mpr d0
  refine ⟨fun U hU => ?_, fun U hU => ?_⟩
  · rw [e]
    have := h.up U hU
    have k := hU a b hr
    by_cases ua : U a = true
    · rw [if_pos ua, if_pos (k ua)]; grind
    · rw [if_neg ua]; split <;> grind
  · rw [e, h.lv U hU]
    rcases hd with hd | hd
    · have z : (d : Rat) = 0 := by rw [hd]; rfl
      rw [z]; split <;> split <;> grind
    · have k1 := hU a b (by rw [hd]; exact Rat.le_refl)
      have k2 := hU b a (by rw [hd]; exact Rat.le_refl)
      by_cases ua : U a = true
      · rw [if_pos ua, if_pos (k1 ua)]; grind
      · rw [if_neg ua, if_neg (fun z => ua (k2 z))]; grind
theorem Flow.best {p : Pan} {L : Nat → Rat} {F : Nat → Int} (h : Flow p.its.length p.rus L F) (ob : Obey (eE p) L) (hw : ∀ i, i < p.its.length → wR p i * (mR p i - L i) = 60 * (F i : Rat)) : BestP p L := by
  have e : ∀ U : Nat → Bool, sm (fw (mR p) (wR p) L) ((List.range p.its.length).filter U) = 60 * sm (fun x => (F x : Rat)) ((List.range p.its.length).filter U) := fun U => by
    rw [← sm_mul]
    exact sm_congr fun i hi => hw i (List.mem_range.mp (List.mem_filter.mp hi).1)
  refine ⟨ob, fun U hU => ?_, fun U hU => ?_⟩
  · rw [e]
    have := h.up U hU
    grind
  · rw [e, h.lv U hU]; grind
theorem passF_snoc (q : Nat × Nat) : ∀ (qs : List (Nat × Nat)) (f : Nat → Int), passF (qs ++ [q]) f = stepF q (passF qs f)
  | [], f => rfl
  | p :: qs, f => passF_snoc q qs (stepF p f)
theorem ixN_nat {n k : Nat} (h : k < n) : ixN n (k : Int) = some k := by
  unfold ixN
  rw [if_pos (by omega), if_pos (by omega), Int.toNat_natCast]
end Pm

set_option Elab.async false
set_option linter.all false
set_option maxRecDepth 100000
set_option maxHeartbeats 1000000
set_option autoImplicit false
namespace Pm
open PySem PySem.Spec PySem.W
open PyProof.Rows hiding St
open L2
theorem den_le {n d : Int} (h : 0 < d) : ((Rat.divInt n d).den : Int) ≤ d := by
  rw [Rat.den_divInt, if_neg (by omega)]
  have := Nat.div_le_self d.natAbs (d.gcd n)
  omega
theorem den_sz {n d : Int} {b : Nat} (h : 0 < d) (hd : Sz b d) : Sz b ((Rat.divInt n d).den : Int) := by
  have := den_le (n := n) h
  unfold Sz at *
  omega
theorem BestP.level {m : Nat} {p : Pan} {r : Nat → Rat} (hp : PanOk m p) (b : BestP p r) {i : Nat} (hi : i < p.its.length) : ∃ gs : List Nat, gs.Sublist (List.range p.its.length) ∧ i ∈ gs ∧ r i = Rat.divInt (sM (selI p.its gs)) (sW (selI p.its gs)) ∧ 0 < sW (selI p.its gs) := by
  have h1 := b.lv _ (rup_ge (r := r) (r i))
  have h2 := b.lv _ (rup_gt (r := r) (r i))
  have h3 := sm_split (fw (mR p) (wR p) r) (fun j => decide (r i < r j)) ((List.range p.its.length).filter fun j => decide (r i ≤ r j))
  rw [List.filter_filter, List.filter_filter, h1] at h3
  have e1 : ((List.range p.its.length).filter fun j => decide (r i < r j) && decide (r i ≤ r j)) = (List.range p.its.length).filter fun j => decide (r i < r j) := by
    refine List.filter_congr fun j _ => ?_
    by_cases z : r i < r j
    · rw [decide_eq_true z, decide_eq_true (Rat.le_of_lt z)]; rfl
    · rw [decide_eq_false z]; rfl
  rw [e1, h2] at h3
  generalize hgs : ((List.range p.its.length).filter fun j => !decide (r i < r j) && decide (r i ≤ r j)) = gs at h3
  have sub : gs.Sublist (List.range p.its.length) := by rw [← hgs]; exact List.filter_sublist
  have mem : i ∈ gs := by
    rw [← hgs]
    exact List.mem_filter.mpr ⟨List.mem_range.mpr hi, by simp [Rat.le_refl]⟩
  have same : ∀ j ∈ gs, r j = r i := fun j hj => by
    rw [← hgs] at hj
    have := (List.mem_filter.mp hj).2
    simp only [Bool.and_eq_true, Bool.not_eq_true', decide_eq_false_iff_not, decide_eq_true_eq] at this
    exact Rat.le_antisymm (Rat.not_lt.mp this.1) this.2
  have lt : ∀ j ∈ gs, j < p.its.length := fun j hj => List.mem_range.mp (sub.subset hj)
  have e2 : sm (fw (mR p) (wR p) r) gs = sm (fun j => wR p j * mR p j) gs - r i * sm (wR p) gs := by
    rw [← sm_mul, ← sm_sub]
    exact sm_congr fun j hj => by simp only [fw, same j hj]; grind
  have wp : 0 < sW (selI p.its gs) := sW_pos (fun q hq => (hp.it q (sel_mem lt hq)).b) (sel_ne (List.ne_nil_of_mem mem))
  refine ⟨gs, sub, mem, ?_, wp⟩
  refine (divInt_is wp ?_).symm
  rw [sM_sm, sW_sm]
  rw [e2] at h3
  grind
theorem sW_23 {l : List (Int × Int)} (h : ∀ q ∈ l, ItOk q) (hn : l.length ≤ 8) : Sz 23 (sW l) := by
  have key : ∀ l : List (Int × Int), (∀ q ∈ l, ItOk q) → 0 ≤ sW l ∧ sW l ≤ l.length * 10 ^ 6 := fun l => by
    induction l with
    | nil => intro _; exact ⟨by decide, by decide⟩
    | cons q l ih =>
      intro h
      obtain ⟨a, b⟩ := ih fun x hx => h x (by simp [hx])
      obtain ⟨_, _, c, d⟩ := h q (by simp)
      rw [sW_cons, List.length_cons]
      constructor
      · omega
      · have : ((l.length + 1 : Nat) : Int) * 10 ^ 6 = l.length * 10 ^ 6 + 10 ^ 6 := by push_cast; omega
        omega
  obtain ⟨a, b⟩ := key l h
  have c : (l.length : Int) * 10 ^ 6 ≤ 8 * 10 ^ 6 := Int.mul_le_mul_of_nonneg_right (by omega) (by decide)
  have e : ((2 ^ 23 : Nat) : Int) = 8388608 := by decide
  have e2 : (8 : Int) * 10 ^ 6 = 8000000 := by decide
  unfold Sz; omega
theorem BestP.den {p : Pan} {r : Nat → Rat} (hp : PanOk 8 p) (b : BestP p r) {i : Nat} (hi : i < p.its.length) : Sz 23 ((r i).den : Int) := by
  obtain ⟨gs, sub, _, e, wp⟩ := b.level hp hi
  rw [e]
  have lt : ∀ j ∈ gs, j < p.its.length := fun j hj => List.mem_range.mp (sub.subset hj)
  refine den_sz wp (sW_23 (fun q hq => hp.it q (sel_mem lt hq)) ?_)
  have := sub.length_le
  simp [selI] at this ⊢
  have := hp.top
  omega
theorem zipD3_rng (n : Nat) (f g h : Nat → D) : zipD3 ((List.range n).map f) ((List.range n).map g) ((List.range n).map h) = (List.range n).map fun j => .tup [f j, g j, h j] := by
  have key : ∀ l : List Nat, zipD3 (l.map f) (l.map g) (l.map h) = l.map fun j => .tup [f j, g j, h j] := fun l => by
    induction l with
    | nil => rfl
    | cons a l ih => simp only [List.map_cons, zipD3, ih]
  exact key _
end Pm

set_option Elab.async false
set_option linter.all false
set_option maxRecDepth 100000
set_option maxHeartbeats 1000000
set_option autoImplicit false
namespace Pm
open PySem PySem.Spec PySem.W
open PyProof.Rows hiding St
open L2
section
variable {prog : Program} {w : World} {A : Around} {E : Value → Shared → Prop} {s : Shared} {z TI TO T i1 i2 : Addr} {fp1 fp2 : List Addr} {n1 n2 i : Nat} {P1 P2 : Nat → Value → Prop} {St1 St2 : Nat → Heap → Prop} {f : Bool} {oT : Obj}
theorem lz_item {Q : Value → Shared → Prop} (S : ZipSep2 z TI TO i1 i2 fp1 fp2) (D1 : Draws prog w A i1 fp1 n1 P1 St1) (D2 : Draws prog w A i2 fp2 n2 P2 St2)
    (zh : IsZipHeld s.heap z TI TO T f) (th : s.heap.get? T = some oT) (ti : IsTupOf2 s.heap TI (.ref i1) (.ref i2)) (st1 : St1 i s.heap) (st2 : St2 i s.heap) (l1 : i < n1) (l2 : i < n2)
    (hQ : ∀ x1 x2 h' tk, P1 i x1 → P2 i x2 → IsZipHeld h' z TI TO T true → St1 (i + 1) h' → St2 (i + 1) h' → IsTupOf2 h' s.heap.objs.size x1 x2 → h'.objs.size = s.heap.objs.size + 1 →
      (∀ c o, c ≠ z → c ≠ i1 → c ≠ i2 → s.heap.get? c = some o → h'.get? c = some o) → Q (.ref s.heap.objs.size) { s with heap := h', toks := tk }) :
    wpAny (model prog w) A (Builtin.«zip.__next__» ⟨[.ref z], []⟩) (fun fin s' => ∃ v, fin = .done (.ret v) ∧ Q v s') E s := by
  obtain ⟨hp, gg, dr, tk0, os⟩ := s
  show wpAny _ _ (field (.ref z) 2 >>= fun _ => _) _ _ _
  refine wpAny_bind (wpAny_field zh rfl (x := .bool false) rfl (?_))
  show wpAny _ _ (field (.ref z) 3 >>= fun _ => _) _ _ _
  refine wpAny_bind (wpAny_field zh rfl (x := .ref TI) rfl (?_))
  refine wpAny_bind (wpAny_seqItems ti rfl (?_))
  show wpAny _ _ (Builtin.SmallTypes.ownedTupleIsFree (.ref z) >>= fun _ => _) _ _ _
  refine wpAny_bind (wpAny_tupleHeld_zip zh th fun g0 z0 b0 => (?_))
  simp only [Bool.false_eq_true, if_false]
  refine wpAny_bind ?_
  rw [← Array.forIn_toList]
  simp only [List.forIn_cons, List.forIn_nil]
  replace b0 : Heap.SameBut z hp g0 := b0
  refine wpAny_bind (wpAny_bind (wpAny_holding (?_)))
  show wpAny _ _ (Builtin.SmallTypes.nextOf (.ref i1) >>= fun _ => _) _ _ ⟨g0, gg, dr, tk0, os⟩
  refine wpAny_bind (D1.item i _ _ _ l1 (D1.over st1 b0 S.zf1) fun x1 p1 tk1 q1 sn1 b1 => wpAny_pure (wpAny_pure ?_))
  replace b1 : Heap.SameBut i1 g0 p1 := b1
  refine wpAny_bind (wpAny_bind (wpAny_holding (?_)))
  show wpAny _ _ (Builtin.SmallTypes.nextOf (.ref i2) >>= fun _ => _) _ _ ⟨p1, gg, dr, tk1, os⟩
  refine wpAny_bind (D2.item i _ _ _ l2 (D2.over (D2.over st2 b0 S.zf2) b1 S.sep1_2) fun x2 p2 tk2 q2 sn2 b2 => wpAny_pure (wpAny_pure (wpAny_pure ?_)))
  replace b2 : Heap.SameBut i2 p1 p2 := b2
  show wpAny _ _ (newTuple [x1, x2] >>= fun _ => _) _ _ _
  refine wpAny_bind (wpAny_newTuple (?_))
  have sz : p2.objs.size = hp.objs.size := by rw [b2.1, b1.1, b0.1]
  have zz : IsZipHeld p2 z TI TO T true := b2.extBut _ _ S.zi2 (b1.extBut _ _ S.zi1 z0)
  have kk : ∀ c o, c ≠ z → c ≠ i1 → c ≠ i2 → hp.get? c = some o → p2.get? c = some o := fun c o c1 c2 c3 e => b2.extBut _ _ c3 (b1.extBut _ _ c2 (b0.extBut _ _ c1 e))
  refine wpAny_pure ⟨_, rfl, ?_⟩
  show Q (.ref p2.objs.size) _
  have tp : IsTupOf2 (p2.push { cls := .type "tuple", data := .seq #[x1, x2] }) p2.objs.size x1 x2 := Heap.get?_push_size _ rfl
  have s4 : (p2.push { cls := .type "tuple", data := .seq #[x1, x2] }).objs.size = p2.objs.size + 1 := Heap.size_push ..
  rw [sz] at tp s4 ⊢
  exact hQ x1 x2 _ tk2 q1 q2 (Heap.get?_push_of_some _ zz) (D1.frame _ _ _ (D1.over sn1 b2 S.sep2_1) fun b _ o e => Heap.get?_push_of_some _ e) (D2.frame _ _ _ sn2 fun b _ o e => Heap.get?_push_of_some _ e) tp s4 fun c o c1 c2 c3 e => Heap.get?_push_of_some _ (kk c o c1 c2 c3 e)
theorem lz_end {Q : Fin → Shared → Prop} (S : ZipSep2 z TI TO i1 i2 fp1 fp2) (D1 : Draws prog w A i1 fp1 n1 P1 St1) (D2 : Draws prog w A i2 fp2 n2 P2 St2)
    (zh : IsZipHeld s.heap z TI TO T f) (th : s.heap.get? T = some oT) (ti : IsTupOf2 s.heap TI (.ref i1) (.ref i2)) (st1 : St1 i s.heap) (st2 : St2 i s.heap) (l1 : i ≤ n1) (l2 : i ≤ n2) (le : i = n1 ∨ i = n2)
    (hE : ∀ h' tk e, (∀ c o, c ≠ z → c ≠ i1 → c ≠ i2 → s.heap.get? c = some o → h'.get? c = some o) → (∃ o, h'.get? e = some o ∧ o.cls = .type "StopIteration") → E (.ref e) { s with heap := h', toks := tk }) :
    wpAny (model prog w) A (Builtin.«zip.__next__» ⟨[.ref z], []⟩) Q E s := by
  obtain ⟨hp, gg, dr, tk0, os⟩ := s
  show wpAny _ _ (field (.ref z) 2 >>= fun _ => _) _ _ _
  refine wpAny_bind (wpAny_field zh rfl (x := .bool false) rfl (?_))
  show wpAny _ _ (field (.ref z) 3 >>= fun _ => _) _ _ _
  refine wpAny_bind (wpAny_field zh rfl (x := .ref TI) rfl (?_))
  refine wpAny_bind (wpAny_seqItems ti rfl (?_))
  show wpAny _ _ (Builtin.SmallTypes.ownedTupleIsFree (.ref z) >>= fun _ => _) _ _ _
  refine wpAny_bind (wpAny_tupleHeld_zip zh th fun g0 z0 b0 => (?_))
  simp only [Bool.false_eq_true, if_false]
  refine wpAny_bind ?_
  rw [← Array.forIn_toList]
  simp only [List.forIn_cons, List.forIn_nil]
  replace b0 : Heap.SameBut z hp g0 := b0
  refine wpAny_bind (wpAny_bind (wpAny_holding (?_)))
  show wpAny _ _ (Builtin.SmallTypes.nextOf (.ref i1) >>= fun _ => _) _ _ ⟨g0, gg, dr, tk0, os⟩
  by_cases hlt : i < n1
  · refine wpAny_bind (D1.item i _ _ _ hlt (D1.over st1 b0 S.zf1) fun x1 p1 tk1 q1 sn1 b1 => wpAny_pure (wpAny_pure ?_))
    replace b1 : Heap.SameBut i1 g0 p1 := b1
    have e2 : i = n2 := by omega
    refine wpAny_bind (wpAny_bind (wpAny_holding (?_)))
    show wpAny _ _ (Builtin.SmallTypes.nextOf (.ref i2) >>= fun _ => _) _ _ ⟨p1, gg, dr, tk1, os⟩
    refine wpAny_bind (D2.done ⟨p1, gg, dr, tk1, os⟩ _ _ (by rw [← e2]; exact D2.over (D2.over st2 b0 S.zf2) b1 S.sep1_2) fun q e b2 he => (?_))
    exact hE q tk1 e (fun c o c1 c2 c3 x => b2 _ _ c3 (b1.extBut _ _ c2 (b0.extBut _ _ c1 x))) he
  · have e1 : i = n1 := by omega
    refine wpAny_bind (D1.done ⟨g0, gg, dr, tk0, os⟩ _ _ (by rw [← e1]; exact D1.over st1 b0 S.zf1) fun q e b1 he => (?_))
    exact hE q tk0 e (fun c o c1 c2 c3 x => b1 _ _ c2 (b0.extBut _ _ c1 x)) he
def LzSt (h : Heap) (z TI TO i1 i2 S : Addr) (P1 P2 : Nat → Heap → Prop) (i : Nat) : Prop :=
  IsTupOf2 h TI (.ref i1) (.ref i2) ∧ P1 i h ∧ P2 i h ∧ ((IsZip h z TI TO .none ∧ ∃ a b, IsTupOf2 h TO a b) ∨ ∃ T f oT, IsZipHeld h z TI TO T f ∧ h.get? T = some oT ∧ T ≠ z ∧ T ≠ i1 ∧ T ≠ i2 ∧ T ≠ S)
theorem lz_next {Q : Option Value → Shared → Prop} {S : Addr} (Z : ZipSep2 z TI TO i1 i2 fp1 fp2) (D1 : Draws prog w A.in1 i1 fp1 n1 P1 St1) (D2 : Draws prog w A.in1 i2 fp2 n2 P2 St2)
    (st : LzSt s.heap z TI TO i1 i2 S St1 St2 i) (hS : S < s.heap.objs.size) (l1 : i < n1) (l2 : i < n2)
    (hQ : ∀ x1 x2 h' tk, P1 i x1 → P2 i x2 → LzSt h' z TI TO i1 i2 S St1 St2 (i + 1) → IsTupOf2 h' s.heap.objs.size x1 x2 → h'.objs.size = s.heap.objs.size + 1 →
      (∀ c o, c ≠ z → c ≠ TO → c ≠ i1 → c ≠ i2 → s.heap.get? c = some o → h'.get? c = some o) → Q (some (.ref s.heap.objs.size)) { s with heap := h', toks := tk }) :
    wpAny (model prog w) A (pyNext (.ref z)) Q E s := by
  obtain ⟨ti, s1, s2, zo⟩ := st
  have lt : ∀ {c o}, s.heap.get? c = some o → s.heap.objs.size ≠ c := fun e => Nat.ne_of_gt (Heap.lt_size e)
  obtain ⟨o1, e1⟩ := D1.live _ _ s1
  obtain ⟨o2, e2⟩ := D2.live _ _ s2
  rcases zo with ⟨hz, a, b, ho⟩ | ⟨T, f, oT, hz, hT, r1, r2, r3, r4⟩
  · refine wpAny_pyNext_zipD2_item Z D1 D2 hz ti ho s1 s2 l1 l2 fun x1 x2 h' tk y1 y2 c1 c2 t1 t2 c5 c6 hk => ?_
    exact hQ x1 x2 h' tk y1 y2 ⟨hk _ _ Z.TIz Z.TITO Z.TIi1 Z.TIi2 ti, t1, t2, .inr ⟨s.heap.objs.size, false, _, c1, c5, lt hz, lt e1, lt e2, Nat.ne_of_gt hS⟩⟩ c5 c6 hk
  · have ty : s.TypeIs (.ref z) "zip" := ⟨_, hz, rfl⟩
    unfold pyNext
    refine wpAny_bind (wpAny_attempt (wpAny_callSpecial?_slot (name := Str.ofString "__next__") ty F.slot_zip_next (wpAny_call_entry F.slot_zip_next ty F.entry_zip_next
      (lz_item Z D1 D2 hz hT ti s1 s2 l1 l2 fun x1 x2 h' tk y1 y2 c1 t1 t2 c5 c6 hk => wpAny_pure ?_) (F.args_zip_next_1 _))))
    exact hQ x1 x2 h' tk y1 y2 ⟨hk _ _ Z.TIz Z.TIi1 Z.TIi2 ti, t1, t2, .inr ⟨T, true, oT, c1, hk _ _ r1 r2 r3 hT, r1, r2, r3, r4⟩⟩ c5 c6 fun c o q1 _ q3 q4 e => hk c o q1 q3 q4 e
theorem lz_done {Q : Option Value → Shared → Prop} {S : Addr} (Z : ZipSep2 z TI TO i1 i2 fp1 fp2) (D1 : Draws prog w A.in1 i1 fp1 n1 P1 St1) (D2 : Draws prog w A.in1 i2 fp2 n2 P2 St2)
    (st : LzSt s.heap z TI TO i1 i2 S St1 St2 i) (l1 : i ≤ n1) (l2 : i ≤ n2) (le : i = n1 ∨ i = n2)
    (hQ : ∀ h' tk, (∀ c o, c ≠ z → c ≠ TO → c ≠ i1 → c ≠ i2 → s.heap.get? c = some o → h'.get? c = some o) → Q none { s with heap := h', toks := tk }) : wpAny (model prog w) A (pyNext (.ref z)) Q E s := by
  obtain ⟨ti, s1, s2, zo⟩ := st
  rcases zo with ⟨hz, a, b, ho⟩ | ⟨T, f, oT, hz, hT, r1, r2, r3, r4⟩
  · exact wpAny_pyNext_zipD2_end Z D1 D2 hz ti ho s1 s2 l1 l2 le hQ
  · have ty : s.TypeIs (.ref z) "zip" := ⟨_, hz, rfl⟩
    unfold pyNext
    refine wpAny_bind (wpAny_attempt (wpAny_callSpecial?_slot (name := Str.ofString "__next__") ty F.slot_zip_next (wpAny_call_entry F.slot_zip_next ty F.entry_zip_next
      (lz_end Z D1 D2 hz hT ti s1 s2 l1 l2 le fun h' tk e hk he => ?_) (F.args_zip_next_1 _))))
    obtain ⟨o, ho, hc⟩ := he
    refine wpAny_bind (wpAny_isInstance (b := true) (T := "StopIteration") ⟨o, ho, hc⟩ isSubtype_stop (wpAny_pure (hQ _ _ fun c o q1 _ q3 q4 e => hk c o q1 q3 q4 e)))
end
structure LzG (P1 P2 : Nat → Value → Prop) (lo : Addr) (h : Heap) (as : List Addr) : Prop where
  rise : as.Pairwise (· < ·)
  above : ∀ a ∈ as, lo < a
  pairs : ∀ (j : Nat) (a : Addr), as[j]? = some a → ∃ x y, P1 j x ∧ P2 j y ∧ IsTupOf2 h a x y
theorem LzG.there {P1 P2 : Nat → Value → Prop} {lo : Addr} {h : Heap} {as : List Addr} (g : LzG P1 P2 lo h as) {a : Addr} (ha : a ∈ as) : a < h.objs.size := by
  obtain ⟨j, hj⟩ := List.mem_iff_getElem?.mp ha
  obtain ⟨_, _, _, _, e⟩ := g.pairs j a hj
  exact Heap.lt_size e
theorem LzG.low {P1 P2 : Nat → Value → Prop} {lo lo' : Addr} {h : Heap} {as : List Addr} (g : LzG P1 P2 lo h as) (hl : lo' ≤ lo) : LzG P1 P2 lo' h as := ⟨g.rise, fun a ha => Nat.lt_of_le_of_lt hl (g.above a ha), g.pairs⟩
theorem LzSt.keep {prog : Program} {w : World} {A : Around} {h h' : Heap} {z TI TO i1 i2 S : Addr} {fp1 fp2 : List Addr} {n1 n2 i : Nat} {P1 P2 : Nat → Value → Prop} {St1 St2 : Nat → Heap → Prop} (st : LzSt h z TI TO i1 i2 S St1 St2 i) (D1 : Draws prog w A i1 fp1 n1 P1 St1) (D2 : Draws prog w A i2 fp2 n2 P2 St2)
    (k : ∀ b o, b ≠ S → h.get? b = some o → h'.get? b = some o) (zS : z ≠ S) (TS : TI ≠ S) (OS : TO ≠ S) (s1 : S ∉ fp1) (s2 : S ∉ fp2) : LzSt h' z TI TO i1 i2 S St1 St2 i := by
  obtain ⟨ti, a1, a2, zo⟩ := st
  refine ⟨k _ _ TS ti, D1.frame _ _ _ a1 fun b hb o e => k b o (fun q => s1 (q ▸ hb)) e, D2.frame _ _ _ a2 fun b hb o e => k b o (fun q => s2 (q ▸ hb)) e, ?_⟩
  rcases zo with ⟨hz, a, b, ho⟩ | ⟨T, f, oT, hz, hT, r1, r2, r3, r4⟩
  · exact .inl ⟨k _ _ zS hz, a, b, k _ _ OS ho⟩
  · exact .inr ⟨T, f, oT, k _ _ zS hz, k _ _ r4 hT, r1, r2, r3, r4⟩
section
variable {prog : Program} {w : World} {A : Around} {s : Shared} {R : Result → Shared → Prop} {z TI TO i1 i2 S : Addr} {fp1 fp2 : List Addr} {n1 n2 : Nat} {P1 P2 : Nat → Value → Prop} {St1 St2 : Nat → Heap → Prop}
theorem lz_loop (Z : ZipSep2 z TI TO i1 i2 fp1 fp2) (D1 : Draws prog w A.in1.in1 i1 fp1 n1 P1 St1) (D2 : Draws prog w A.in1.in1 i2 fp2 n2 P2 St2) (zS : z ≠ S) (TS : TI ≠ S) (OS : TO ≠ S) (s1 : S ∉ fp1) (s2 : S ∉ fp2) (zl : z < S) (Ol : TO < S) (l1 : i1 < S) (l2 : i2 < S) (hn : min n1 n2 ≤ sizeLine) (res : Value) {h₁ : Heap}
    (hR : ∀ h' tk acc c as, (∀ b o, b ≠ S → b ≠ z → b ≠ TO → b ≠ i1 → b ≠ i2 → h₁.get? b = some o → h'.get? b = some o) → h'.get? S = some { cls := .type "list", dict := none, data := .seq acc c, slots := #[] } → as.length = min n1 n2 → LzG P1 P2 S h' as →
      acc.toList = as.map Value.ref → R (.ok (.ret res)) { s with heap := h', toks := tk }) :
    ∀ (k i : Nat) (h : Heap) (tk c : Nat) (acc : Array Value) (as : List Addr), min n1 n2 - i = k → i ≤ min n1 n2 → LzSt h z TI TO i1 i2 S St1 St2 i → (∀ b o, b ≠ S → b ≠ z → b ≠ TO → b ≠ i1 → b ≠ i2 → h₁.get? b = some o → h.get? b = some o) →
      h.get? S = some { cls := .type "list", dict := none, data := .seq acc c, slots := #[] } → acc.toList = as.map Value.ref → as.length = i → LzG P1 P2 S h as →
      codeAny (model prog w) A (.builtin "list.extend.loop" ⟨[.ref S, .ref z, res], []⟩) R { s with heap := h, toks := tk } := by
  have i1S : i1 ≠ S := Nat.ne_of_lt l1
  have i2S : i2 ≠ S := Nat.ne_of_lt l2
  intro k
  induction k with
  | zero =>
    intro i h tk c acc as hk hi st hkeep hS hacc hal hG
    have ei : i = min n1 n2 := by omega
    refine codeAny_builtin PySem.F.entry_extend_loop (?_)
    rw [Around.under_plainId PySem.F.plain_extend_loop (_)]
    show wpAny _ A.in1 (pyNext (.ref z) >>= fun _ => _) _ _ _
    refine wpAny_bind (lz_done (s := { s with heap := h, toks := tk }) Z D1 D2 st (by omega) (by omega) (by omega) fun h' tk' he => wpAny_pure ?_)
    have up : ∀ b, S ≤ b → b ≠ z ∧ b ≠ TO ∧ b ≠ i1 ∧ b ≠ i2 := fun b hb => ⟨Nat.ne_of_gt (Nat.lt_of_lt_of_le zl hb), Nat.ne_of_gt (Nat.lt_of_lt_of_le Ol hb), Nat.ne_of_gt (Nat.lt_of_lt_of_le l1 hb), Nat.ne_of_gt (Nat.lt_of_lt_of_le l2 hb)⟩
    refine hR h' tk' acc c as (fun b o q q1 q2 q3 q4 e => he b o q1 q2 q3 q4 (hkeep b o q q1 q2 q3 q4 e)) (he S _ zS.symm OS.symm i1S.symm i2S.symm hS) (by omega) ⟨hG.rise, hG.above, fun j a hj => ?_⟩ hacc
    obtain ⟨x, y, p1, p2, e⟩ := hG.pairs j a hj
    obtain ⟨u1, u2, u3, u4⟩ := up a (Nat.le_of_lt (hG.above a (List.mem_of_getElem? hj)))
    exact ⟨x, y, p1, p2, he a _ u1 u2 u3 u4 e⟩
  | succ k ih =>
    intro i h tk c acc as hk hi st hkeep hS hacc hal hG
    have sz : acc.size = i := by rw [← Array.length_toList, hacc, List.length_map, hal]
    refine codeAny_builtin PySem.F.entry_extend_loop (?_)
    rw [Around.under_plainId PySem.F.plain_extend_loop (_)]
    show wpAny _ A.in1 (pyNext (.ref z) >>= fun _ => _) _ _ _
    have up : ∀ b, S ≤ b → b ≠ z ∧ b ≠ TO ∧ b ≠ i1 ∧ b ≠ i2 := fun b hb => ⟨Nat.ne_of_gt (Nat.lt_of_lt_of_le zl hb), Nat.ne_of_gt (Nat.lt_of_lt_of_le Ol hb), Nat.ne_of_gt (Nat.lt_of_lt_of_le l1 hb), Nat.ne_of_gt (Nat.lt_of_lt_of_le l2 hb)⟩
    have Sl : S < h.objs.size := Heap.lt_size hS
    refine wpAny_bind (lz_next (s := { s with heap := h, toks := tk }) (S := S) Z D1 D2 st Sl (by omega) (by omega) fun x1 x2 h' tk' y1 y2 st' ht hz hkp => ?_)
    dsimp only at ht hz hkp ⊢
    have hS' := hkp S _ zS.symm OS.symm i1S.symm i2S.symm hS
    have oth : ∀ b o, b ≠ S → h'.get? b = some o → (h'.update S (Obj.mapSeq (·.push (Value.ref h.objs.size)))).get? b = some o := fun b o hb e => (Heap.get?_update_other _ _ hb.symm).trans e
    show wpAny _ A.in1 (updateSeq S (·.push (Value.ref h.objs.size)) >>= fun _ => _) _ _ _
    refine wpAny_bind (wpAny_updateSeq hS' rfl (wpAny_pure ⟨plainId_quiet PySem.F.plain_extend_loop _, ih (i + 1) _ tk' _ (acc.push (Value.ref h.objs.size)) (as ++ [h.objs.size]) (by omega) (by omega) (st'.keep D1 D2 oth zS TS OS s1 s2)
      (fun b o q q1 q2 q3 q4 e => oth b o q (hkp b o q1 q2 q3 q4 (hkeep b o q q1 q2 q3 q4 e))) (Heap.get?_update_self _ hS' rfl) (by rw [Array.toList_push, hacc, List.map_append]; rfl) (by rw [List.length_append, hal]; rfl) ⟨?_, ?_, ?_⟩⟩) (by rw [sz]; omega) (by show (acc.push (Value.ref h.objs.size)).size ≤ sizeLine + 1; rw [Array.size_push, sz]; omega))
    · refine List.pairwise_append.mpr ⟨hG.rise, List.pairwise_singleton .., fun a ha b hb => ?_⟩
      rw [List.mem_singleton.mp hb]; exact hG.there ha
    · intro a ha
      rcases List.mem_append.mp ha with ha | ha
      · exact hG.above a ha
      · rw [List.mem_singleton.mp ha]; exact Sl
    · intro j b hj
      rcases Nat.lt_trichotomy j as.length with q | q | q
      · rw [List.getElem?_append_left q] at hj
        obtain ⟨x, y, p1, p2, e⟩ := hG.pairs j b hj
        have hb := hG.above b (List.mem_of_getElem? hj)
        obtain ⟨u1, u2, u3, u4⟩ := up b (Nat.le_of_lt hb)
        exact ⟨x, y, p1, p2, oth b _ (Nat.ne_of_gt hb) (hkp b _ u1 u2 u3 u4 e)⟩
      · subst q
        have hb : h.objs.size = b := by simpa using hj
        subst hb
        rw [hal]
        exact ⟨x1, x2, y1, y2, oth _ _ (Nat.ne_of_gt Sl) ht⟩
      · rw [List.getElem?_eq_none (by rw [List.length_append, List.length_singleton]; omega)] at hj; cases hj
end
theorem lz_no_len : typeLookup (.type "zip") "__len__" = pure none := am_miss_of_fast (by decide +kernel)
theorem lz_no_hint : typeLookup (.type "zip") "__length_hint__" = pure none := am_miss_of_fast (by decide +kernel)
section
variable {prog : Program} {w : World} {A : Around} {E : Value → Shared → Prop} {s : Shared} {z TI TO i1 i2 : Addr} {fp1 fp2 : List Addr} {n1 n2 : Nat} {P1 P2 : Nat → Value → Prop} {St1 St2 : Nat → Heap → Prop}
theorem lz_call {Q : Value → Shared → Prop} {a b : Value} (Z : ZipSep2 z TI TO i1 i2 fp1 fp2) (D1 : Draws prog w A.in1.in1.in1 i1 fp1 n1 P1 St1) (D2 : Draws prog w A.in1.in1.in1 i2 fp2 n2 P2 St2)
    (hz : IsZip s.heap z TI TO .none) (ti : IsTupOf2 s.heap TI (.ref i1) (.ref i2)) (ho : IsTupOf2 s.heap TO a b) (t1 : St1 0 s.heap) (t2 : St2 0 s.heap) (f1 : ∀ b ∈ fp1, b < s.heap.objs.size) (f2 : ∀ b ∈ fp2, b < s.heap.objs.size) (hn : min n1 n2 ≤ sizeLine)
    (hQ : ∀ h' tk acc c as, (∀ b o, b ≠ z → b ≠ TO → b ≠ i1 → b ≠ i2 → s.heap.get? b = some o → h'.get? b = some o) → h'.get? s.heap.objs.size = some { cls := .type "list", dict := none, data := .seq acc c, slots := #[] } → as.length = min n1 n2 → LzG P1 P2 s.heap.objs.size h' as →
      acc.toList = as.map Value.ref → Q (.ref s.heap.objs.size) { s with heap := h', toks := tk }) :
    wpAny (model prog w) A (call (.type "list") [.ref z]) Q E s := by
  refine callType_codes (Q₁ := fun obj s₁ => obj = .ref s.heap.objs.size ∧ s₁ = { s with heap := s.heap.push { cls := .type "list", data := .seq #[] } }) PySem.F.called_list (PySem.F.typeCall_list_1 _) PySem.F.entry_list_init (code_list_new _ ⟨rfl, rfl⟩) fun obj s₁ q₁ => ?_
  obtain ⟨rfl, rfl⟩ := q₁
  have zl : z < s.heap.objs.size := Heap.lt_size hz
  have Tl : TI < s.heap.objs.size := Heap.lt_size ti
  have Ol : TO < s.heap.objs.size := Heap.lt_size ho
  have l1 := f1 _ Z.mem1
  have l2 := f2 _ Z.mem2
  generalize hg : s.heap.objs.size = S at *
  have hS : (s.heap.push { cls := .type "list", data := .seq #[] }).get? S = some { cls := .type "list", data := .seq #[] } := by rw [← hg]; exact Heap.get?_push_size _ rfl
  have st : LzSt s.heap z TI TO i1 i2 S St1 St2 0 := ⟨ti, t1, t2, .inl ⟨hz, a, b, ho⟩⟩
  refine ⟨⟨_, hS, rfl⟩, PySem.F.args_list_init_2 _ _, ?_⟩
  show wpAny _ A.in1.in1 (do let old ← Builtin.List.listItems (.ref S); Builtin.List.listUpdate (.ref S) (fun _ => #[]); letGo old.toList.reverse; Builtin.List.listExtendWith (.ref S) (.ref z) .none) _ _ _
  refine wpAny_bind (?_)
  unfold Builtin.List.listItems
  refine wpAny_bind (wpAny_seqItems hS rfl (wpAny_pure (?_)))
  show wpAny _ A.in1.in1 (updateSeq S (fun _ => #[]) >>= fun _ => letGo (#[] : Array Value).toList.reverse >>= fun _ => Builtin.List.listExtendWith (.ref S) (.ref z) .none) _ _ _
  refine wpAny_bind (wpAny_updateSeq hS rfl (?_))
  have hS2 := Heap.get?_update_self (Obj.mapSeq (fun _ => (#[] : Array Value))) hS rfl
  have up : ∀ (h : Heap) (f : Obj → Obj), (∀ b o, s.heap.get? b = some o → h.get? b = some o) → ∀ b o, s.heap.get? b = some o → (h.update S f).get? b = some o := fun h f q b o e =>
    (Heap.get?_update_other _ _ (Nat.ne_of_gt (by rw [← hg]; exact Heap.lt_size e))).trans (q b o e)
  have k1 : ∀ b o, s.heap.get? b = some o → (s.heap.push { cls := .type "list", data := .seq #[] }).get? b = some o := fun b o e => Heap.get?_push_of_some _ e
  have k2 := up _ (Obj.mapSeq (fun _ => (#[] : Array Value))) k1
  refine wpAny_bind (wpAny_letGo (?_))
  unfold Builtin.List.listExtendWith
  have ty : ∀ {h : Heap}, (∀ b o, s.heap.get? b = some o → h.get? b = some o) → Shared.TypeIs { s with heap := h } (.ref z) "zip" := fun {h} q => ⟨_, q _ _ hz, rfl⟩
  refine wpAny_bind (wpAny_typeOf (ty k2) (?_))
  have e1 : Builtin.List.listSameRef (.ref S) (.ref z) = false := by simp [Builtin.List.listSameRef, Nat.ne_of_gt zl]
  have e2 : (Value.type "zip" == Value.type "list") = false := by decide
  have e3 : (Value.type "zip" == Value.type "tuple") = false := by decide
  simp only [e1, e2, e3, Bool.or_false, Bool.false_eq_true, if_false]
  refine wpAny_bind (wpAny_pyIter_zip (k2 _ _ hz) (?_))
  refine wpAny_bind (wpAny_holding (?_))
  unfold Builtin.List.listLengthHint
  refine wpAny_bind (wpAny_specialOf (ty k2) lz_no_len (?_))
  show wpAny _ A.in1.in1 (specialOf (Value.ref z) (Str.ofString "__length_hint__") >>= fun _ => _) _ _ _
  refine wpAny_bind (wpAny_specialOf (ty k2) lz_no_hint (wpAny_pure ?_))
  show wpAny _ A.in1.in1 (rule "list.extend.makes-room" >>= fun _ => Builtin.List.listTouch (.ref S) >>= fun _ => again (.builtin "list.extend.loop" ⟨[.ref S, .ref z, .none], []⟩)) _ _ _
  refine wpAny_bind (wpAny_rule (wpAny_bind (?_)))
  show wpAny _ A.in1.in1 (updateSeq S (·.push .none) >>= fun _ => updateSeq S (·.pop)) _ _ _
  refine wpAny_bind (wpAny_updateSeq hS2 rfl (?_))
  have hS3 := Heap.get?_update_self (Obj.mapSeq (·.push Value.none)) hS2 rfl
  refine wpAny_updateSeq (hz := by seq_fits) hS3 rfl (?_)
  have hS4 := Heap.get?_update_self (Obj.mapSeq (·.pop)) hS3 rfl
  have k4 := up _ (Obj.mapSeq (·.pop)) (up _ (Obj.mapSeq (·.push Value.none)) k2)
  refine wpAny_pure ⟨plainId_quiet PySem.F.plain_extend_loop _, ?_⟩
  have n1S : S ∉ fp1 := fun q => Nat.lt_irrefl _ (f1 _ q)
  have n2S : S ∉ fp2 := fun q => Nat.lt_irrefl _ (f2 _ q)
  refine lz_loop (A := A.in1) (R := _) (h₁ := s.heap) Z D1 D2 (Nat.ne_of_lt zl) (Nat.ne_of_lt Tl) (Nat.ne_of_lt Ol) n1S n2S zl Ol l1 l2 hn .none (fun h' tk acc c as q1 q2 q3 q4 q5 => ?_) _ 0 _ s.toks _ #[] [] rfl (Nat.zero_le _)
    (st.keep D1 D2 (fun b o _ e => k4 b o e) (Nat.ne_of_lt zl) (Nat.ne_of_lt Tl) (Nat.ne_of_lt Ol) n1S n2S) (fun b o _ _ _ _ _ e => k4 b o e) hS4 rfl rfl ⟨List.Pairwise.nil, (fun _ ha => nomatch ha), (fun j a hj => by simp at hj)⟩
  exact ⟨rfl, hQ h' tk acc c as (fun b o z1 z2 z3 z4 e => q1 b o (Nat.ne_of_lt (by rw [← hg]; exact Heap.lt_size e)) z1 z2 z3 z4 e) q2 q3 q4 q5⟩
end
def putP : Hp → List Addr → List (V × V) → Hp
  | H, a :: as, p :: ps => putP (upd H a (.tup [p.1, p.2])) as ps
  | H, _, _ => H
theorem putP_off {b : Addr} : ∀ (as : List Addr) (ps : List (V × V)) (H : Hp), b ∉ as → putP H as ps b = H b
  | [], _, _, _ => rfl
  | _ :: _, [], _, _ => rfl
  | a :: as, p :: ps, H, h => by
    show putP (upd H a (.tup [p.1, p.2])) as ps b = H b
    rw [putP_off as ps _ fun z => h (List.mem_cons_of_mem _ z), upd_ne fun z => h (by rw [z]; exact List.mem_cons_self)]
theorem putP_at : ∀ (as : List Addr) (ps : List (V × V)) (H : Hp), as.Nodup → ∀ (j : Nat) (a : Addr) (p : V × V), as[j]? = some a → ps[j]? = some p → putP H as ps a = some (.tup [p.1, p.2])
  | [], _, _, _, _, _, _, h, _ => by simp at h
  | _ :: _, [], _, _, _, _, _, _, h => by simp at h
  | a :: as, q :: ps, H, hn, 0, b, p, h1, h2 => by
    have hn' := List.nodup_cons.mp hn
    simp only [List.getElem?_cons_zero, Option.some.injEq] at h1 h2
    subst h1; subst h2
    show putP (upd H a (.tup [q.1, q.2])) as ps a = _
    rw [putP_off as ps _ hn'.1, upd_same]
  | a :: as, q :: ps, H, hn, j + 1, b, p, h1, h2 => putP_at as ps _ (List.nodup_cons.mp hn).2 j b p (by simpa using h1) (by simpa using h2)
theorem putP_rel {γ : Type} {G : GP γ} {F : Fra} {s : S γ} {σ : L2.St} : ∀ (as : List Addr) (ps : List (V × V)) (Z H : Hp), Rel G F Z s σ H → as.Nodup → (∀ a ∈ as, H a = none) → Rel G F (putP Z as ps) s σ (putP H as ps)
  | [], _, _, _, r, _, _ => r
  | _ :: _, [], _, _, r, _, _ => r
  | a :: as, p :: ps, Z, H, r, hn, hf => by
    have hn' := List.nodup_cons.mp hn
    refine putP_rel as ps _ _ (r.new (hf a (by simp))) hn'.2 fun b hb => ?_
    rw [upd_ne (show b ≠ a from fun e => hn'.1 (by rw [← e]; exact hb))]
    exact hf b (by simp [hb])
theorem putP_same (as : List Addr) (ps : List (V × V)) {H : Hp} (hf : ∀ a ∈ as, H a = none) : Same H (putP H as ps) := fun b o e => by
  rw [putP_off as ps H fun hb => by rw [hf b hb] at e; cases e]; exact e
theorem zipV : ∀ {K : PySem.W.Frag} {Z : Hp} {xs ys : List D} {vs ws : List V} {as : List Addr}, Ats K Z xs vs → Ats K Z ys ws → as.length = min vs.length ws.length → (∀ (j : Nat) (a : Addr) (p : V × V), as[j]? = some a → (vs.zip ws)[j]? = some p → Z a = some (.tup [p.1, p.2])) → Ats K Z (zipD xs ys) (as.map V.ref)
  | K, Z, [], ys, vs, ws, as, h1, h2, hl, hp => by
    simp only [Ats] at h1; subst h1
    have : as = [] := by simpa using hl
    subst this
    simp [zipD, Ats]
  | K, Z, x :: xs, [], vs, ws, as, h1, h2, hl, hp => by
    simp only [Ats] at h2; subst h2
    have : as = [] := by simpa using hl
    subst this
    simp [zipD, Ats]
  | K, Z, x :: xs, y :: ys, vs, ws, as, h1, h2, hl, hp => by
    simp only [Ats] at h1 h2
    obtain ⟨v, vs, rfl, a1, b1⟩ := h1
    obtain ⟨w, ws, rfl, a2, b2⟩ := h2
    cases as with
    | nil => simp only [List.length_nil, List.length_cons] at hl; omega
    | cons a as =>
      have h0 := hp 0 a (v, w) rfl rfl
      refine ⟨.ref a, as.map V.ref, rfl, ⟨a, [v, w], rfl, .inl (.inl h0), ⟨_, _, rfl, a1, _, _, rfl, a2, rfl⟩⟩, zipV b1 b2 ?_ fun j a p e1 e2 => hp (j + 1) a p (by simpa using e1) (by simpa using e2)⟩
      simp only [List.length_cons] at hl; omega
def qListZip {γ : Type} (ta : PAx γ) : PAx γ := fun s R => ta s fun ds s1 => match ds with
  | [d1, d2] => ∃ xs ys, itemsD d1 = some xs ∧ itemsD d2 = some ys ∧ min xs.length ys.length ≤ sizeLine ∧ R (zipD xs ys) s1
  | _ => False
theorem qf_listZip {γ : Type} {X : Cx} {G : GP γ} {e e2 : Expr} {p p2 pos2 pos : Pos} {ta : PAx γ} (hc : X.calm = true) (hg0 : Gl X "list") (hm0 : X.mg "list" = none) (hg : Gl X "zip") (hm : X.mg "zip" = none) (ha : QA X G [e, e2] ta) (hK : X.K = G.K := by rfl)
    (hs : starEach [e, e2] X.env = (false, eval e X.env) :: starEach [e2] X.env := by rfl) (hpl : (backTo pos2 (starEach [e2] X.env)).any (·.1) = false := by rfl)
    (hs0 : starEach [.Call (.Name "zip" p2) [e, e2] [] pos2] X.env = (false, eval (.Call (.Name "zip" p2) [e, e2] [] pos2) X.env) :: starEach [] X.env := by rfl) : QF X G (.Call (.Name "list" p) [.Call (.Name "zip" p2) [e, e2] [] pos2] [] pos) (qListZip ta) := by
  refine ⟨fun pins s σ H Q I w => ?_⟩
  obtain ⟨F, Z, sg, Rp, r, t, q⟩ := w
  refine Call_ (ld_blt I hg0 hm0 PyProof.Rows.boot_list (PyProof.Rows.callWith_type1 (PyProof.Rows.args_cons ?_ hs0) hs0 rfl))
  refine Call_ (ld_blt I hg hm PyProof.Rows.boot_zip (PyProof.Rows.callWith_type1 (thn (ha.run pos2 pins s σ H (fun vs H1 => ∃ d1 d2 xs ys s1 Z1, Rel G F Z1 s1 σ H1 ∧ Same Z Z1 ∧ Ats G.K Z1 [d1, d2] vs ∧ itemsD d1 = some xs ∧ itemsD d2 = some ys ∧ min xs.length ys.length ≤ sizeLine ∧ Rp (zipD xs ys) s1) I ⟨F, Z, sg, _, r, t, fun ds s1 Z1 vs H1 t1 k1 r1 a1 => ?_⟩) fun us s1 ⟨vs, H1, I1, rv, d1, d2, xs, ys, sg1, Z1, r1, k1', a1, e1, e2', hn, q1⟩ => ?_) hs hpl))
  · match ds, t1, a1 with
    | [d1, d2], ⟨xs, ys, e1, e2', hn, t1⟩, a1 => exact ⟨d1, d2, xs, ys, s1, Z1, r1, k1, a1, e1, e2', hn, t1⟩
  · simp only [Ats] at a1
    obtain ⟨v1, _, rfl, a1, v2, _, rfl, a2, rfl⟩ := a1
    obtain ⟨u1, u2, rfl, rv1, rv2⟩ := vals2 rv
    rw [← hK] at a1 a2
    obtain ⟨k1, rfl, c1⟩ := src_of a1 rv1 e1
    obtain ⟨k2, rfl, c2⟩ := src_of a2 rv2 e2'
    obtain ⟨ws1, g1, g1'⟩ := c1 H1 r1.z
    obtain ⟨ws2, g2, g2'⟩ := c2 H1 r1.z
    obtain ⟨its1, m1, p1, dr1⟩ := Sk.read I1 g1
    obtain ⟨its2, m2, p2, dr2⟩ := Sk.read I1 g2
    have l1 := Sk.fp_lt I1 g1
    have l2 := Sk.fp_lt I1 g2
    have hd := I1.ok.hd hc
    refine zip_begins2 (k1.begins its1) (k2.begins its2) m1 m2 fun h' hz hTI hTO o1 o2 hsz hk => PyProof.Rows.args_nil ?_
    have n1 : s1.heap.objs.size ∉ k1.fp := fun h => absurd (l1 _ h) (Nat.lt_irrefl _)
    have n2 : s1.heap.objs.size + 1 ∉ k2.fp := fun h => absurd (l2 _ h) (Nat.not_lt_of_le (Nat.le_succ _))
    have I2 : L2.Inv X pins σ H1 { s1 with heap := h' } := I1.kept (t' := s1.toks) hk
    have lw1 : ws1.length = xs.length := g1'.len
    have lw2 : ws2.length = ys.length := g2'.len
    obtain ⟨jts1, m1', p1', dr1'⟩ := Sk.read I2 g1
    obtain ⟨jts2, m2', p2', dr2'⟩ := Sk.read I2 g2
    clear dr1 dr2 p1 p2 m1 m2
    generalize hN : s1.heap.objs.size = N at *
    have sz' : h'.objs.size = N + 5 := hsz
    refine lz_call (s := { s1 with heap := h' }) (zip_sep2 l1 l2) (dr1' X.A.in1.in1.in1 hd _ n1) (dr2' X.A.in1.in1.in1 hd _ n2) hz hTI hTO ⟨Sk.it0 o1, m1'⟩ ⟨Sk.it0 o2, m2'⟩ (fun b hb => ?_) (fun b hb => ?_) (by omega) fun h2 tk acc c as hk2 hS hl hG hacc => ?_
    · show b < h'.objs.size
      rw [sz']
      rcases List.mem_cons.mp hb with e | hb
      · rw [e]; exact Nat.lt_add_of_pos_right (by decide)
      · exact Nat.lt_of_lt_of_le (l1 b hb) (Nat.le_add_right _ _)
    · show b < h'.objs.size
      rw [sz']
      rcases List.mem_cons.mp hb with e | hb
      · rw [e]; exact Nat.add_lt_add_left (by decide) _
      · exact Nat.lt_of_lt_of_le (l2 b hb) (Nat.le_add_right _ _)
    replace hS : h2.get? h'.objs.size = some { cls := .type "list", dict := none, data := .seq acc c, slots := #[] } := hS
    replace hG : LzG (k1.pr jts1) (k2.pr jts2) h'.objs.size h2 as := hG
    have hkk : ∀ b o, s1.heap.get? b = some o → h2.get? b = some o := fun b o e => by
      have lb : b < N := by rw [← hN]; exact Heap.lt_size e
      refine hk2 b o (Nat.ne_of_lt (Nat.lt_add_right _ lb)) (Nat.ne_of_lt (Nat.lt_add_right _ lb)) (Nat.ne_of_lt lb) (Nat.ne_of_lt (Nat.lt_add_right _ lb)) (hk b o e)
    show ∃ v H2, _
    have Nl : N ≤ h'.objs.size := by rw [sz']; exact Nat.le_add_right _ _
    generalize h'.objs.size = S at *
    have fresh : ∀ a, N ≤ a → H1 a = none := fun a ha => I1.hok.fresh (by rw [hN]; exact ha)
    have nd : as.Nodup := List.Pairwise.imp (fun {a b} (h : a < b) => Nat.ne_of_lt h) hG.rise
    have newA : ∀ t ∈ as, H1 t = none := fun t ht => fresh t (Nat.le_trans Nl (Nat.le_of_lt (hG.above t ht)))
    have newS : H1 S = none := fresh S Nl
    have nS : S ∉ as := fun z => Nat.lt_irrefl _ (hG.above _ z)
    have Ps : putP H1 as (ws1.zip ws2) S = none := by rw [putP_off _ _ _ nS]; exact newS
    have sm := putP_same as (ws1.zip ws2) newA
    have atP := putP_at as (ws1.zip ws2) H1 nd
    have kp : ∀ b u, H1 b = some u → upd (putP H1 as (ws1.zip ws2)) S (.lst (as.map V.ref)) b = some u := fun b u e => by
      rw [upd_ne (ne_of_none e newS)]; exact sm _ _ e
    have J : L2.Inv X pins σ (upd (putP H1 as (ws1.zip ws2)) S (.lst (as.map V.ref))) { s1 with heap := h2, toks := tk } := by
      refine I1.call' (ch := []) rfl ⟨fun b o q _ _ _ => hkk b o q, fun b o q _ _ _ => ⟨o.slots, hkk b o q⟩, fun b o q n _ => ?_, fun b o q _ => ⟨o, hkk b o q⟩, fun b xs q => kp b _ q, fun b o u q => kp b _ q, fun b ps q => ⟨#[], by rw [kp b _ q]; simp⟩⟩ (fun b u q => ?_) I1.bare fun b z => by simp at z
      · have lb : b < N := by rw [← hN]; exact Heap.lt_size q
        have b1 : b ∉ as := fun z => Nat.lt_irrefl _ (Nat.lt_trans (Nat.lt_of_lt_of_le lb Nl) (hG.above _ z))
        rw [upd_ne (Nat.ne_of_lt (Nat.lt_of_lt_of_le lb Nl)), putP_off _ _ _ b1]
        exact n
      · by_cases hb2 : b = S
        · subst hb2
          rw [upd_same] at q; cases q
          refine ⟨by rw [List.length_map]; omega, acc.toList, c, ?_, ?_⟩
          · rw [hacc]
            clear hacc hG hl nd newA nS Ps sm atP kp
            induction as with
            | nil => exact .nil
            | cons a as ih => exact .cons rfl ih
          · rw [Array.toArray_toList]; exact hS
        · rw [upd_ne hb2] at q
          by_cases hb : b ∈ as
          · obtain ⟨j, hj⟩ := List.mem_iff_getElem?.mp hb
            obtain ⟨x, y, y1, y2, et⟩ := hG.pairs j b hj
            obtain ⟨v1, f1, r1'⟩ := p1' j x y1
            obtain ⟨v2, f2, r2'⟩ := p2' j y y2
            have ez : (ws1.zip ws2)[j]? = some (v1, v2) := List.getElem?_zip_eq_some.mpr ⟨f1, f2⟩
            rw [atP j b _ hj ez] at q
            cases q
            exact ⟨by show 2 ≤ sizeLine; decide, [x, y], .cons r1' (.cons r2' .nil), ⟨_, et, rfl, _, rfl⟩⟩
          · rw [putP_off _ _ _ hb] at q
            exact (I1.hok b u q).stay (fun d v _ y => hkk d v y) (fun d y => kp d _ y) fun d xs y => kp d _ y
    have r2 := putP_rel as (ws1.zip ws2) Z1 H1 r1 nd newA
    have zn : ∀ a ∈ as, Z1 a = none := fun a ha => r1.z.free (newA a ha)
    have zs := putP_same as (ws1.zip ws2) zn
    obtain ⟨f1, f2, f3, f4⟩ := r2.fresh Ps
    rw [hK] at g1' g2'
    exact ⟨.ref S, _, J, rfl, q _ _ _ S (as.map V.ref) _ q1 (k1'.trans zs) (r2.grow (same_upd Ps)) upd_same
      (zipV (Ats.mono zs _ _ g1') (Ats.mono zs _ _ g2') hl fun j a p e1 e2 => putP_at as _ Z1 nd j a p e1 e2) f1 f2 f3 f4⟩
end Pm

set_option Elab.async false
set_option linter.all false
set_option maxRecDepth 100000
set_option maxHeartbeats 1000000
set_option autoImplicit false
namespace Pm
open PySem PySem.Spec
open L2
abbrev RA := (Int × Int) × Rat
def sgnA (q : Int × Int) (i : Nat) : Int := (if q.2 = (i : Int) then 1 else 0) - (if q.1 = (i : Int) then 1 else 0)
def leaveA (z : List RA) (i : Nat) : List Rat := (z.filter fun p => decide (p.1.1 = (i : Int))).map (·.2)
def enterA (z : List RA) (i : Nat) : List Rat := (z.filter fun p => decide (p.1.2 = (i : Int))).map (·.2)
def outA (z : List RA) (i : Nat) : Rat := (leaveA z i).sum - (enterA z i).sum
def accA (m w : Rat) (i : Nat) (z : List RA) : Rat := m + (z.map fun p => (sgnA p.1 i : Rat) * p.2 / w).sum
theorem accA_eq (m w : Rat) (i : Nat) (z : List RA) : accA m w i z = m - outA z i / w := by
  unfold accA outA
  suffices h : (z.map fun p => (sgnA p.1 i : Rat) * p.2 / w).sum = ((enterA z i).sum - (leaveA z i).sum) / w by
    rw [h]; simp only [Rat.div_def]; grind
  unfold leaveA enterA
  induction z with
  | nil => show (0 : Rat) = (0 - 0) / w; rw [Rat.div_def]; grind
  | cons p z ih =>
    rw [List.map_cons, List.sum_cons, ih]
    simp only [List.filter_cons, sgnA, decide_eq_true_eq]
    simp only [Rat.div_def]
    by_cases h1 : p.1.1 = (i : Int) <;> by_cases h2 : p.1.2 = (i : Int) <;> simp only [h1, h2, if_true, if_false, List.map_cons, List.sum_cons]
    all_goals first | (have : ((1 - 1 : Int) : Rat) = 0 := rfl; rw [this]; grind) | (have : ((1 - 0 : Int) : Rat) = 1 := rfl; rw [this]; grind) | (have : ((0 - 1 : Int) : Rat) = -1 := rfl; rw [this]; grind) | (have : ((0 - 0 : Int) : Rat) = 0 := rfl; rw [this]; grind)
def rateA (p : Pan) (am : List Rat) (i : Nat) : Rat := mR p i - outA (p.rus.zip am) i / wR p i
theorem sum_sz {l : List Rat} {b : Nat} (h : ∀ x ∈ l, SzR b x) : SzR (1 + l.length * (b + 1)) l.sum := by
  have := SzR.take (f := fun x : Rat => x) (l := l) h
  rw [List.map_id'] at this; exact this
theorem le_en {z : List RA} (hz : ∀ p ∈ z, p.1.1 ≠ p.1.2) (i : Nat) : (leaveA z i).length + (enterA z i).length ≤ z.length := by
  unfold leaveA enterA
  simp only [List.length_map]
  induction z with
  | nil => simp
  | cons p z ih =>
    have ih := ih fun q hq => hz q (by simp [hq])
    have hp := hz p (by simp)
    simp only [List.filter_cons, decide_eq_true_eq]
    by_cases h1 : p.1.1 = (i : Int) <;> by_cases h2 : p.1.2 = (i : Int) <;> simp only [h1, h2, if_true, if_false, List.length_cons] <;> first | omega | (exact absurd (h1.trans h2.symm) hp)
theorem leave_mem {z : List RA} {i : Nat} {x : Rat} (h : x ∈ leaveA z i) : ∃ p ∈ z, p.2 = x := by
  obtain ⟨p, hp, e⟩ := List.mem_map.mp h
  exact ⟨p, (List.mem_filter.mp hp).1, e⟩
theorem enter_mem {z : List RA} {i : Nat} {x : Rat} (h : x ∈ enterA z i) : ∃ p ∈ z, p.2 = x := by
  obtain ⟨p, hp, e⟩ := List.mem_map.mp h
  exact ⟨p, (List.mem_filter.mp hp).1, e⟩
theorem out_sz {p : Pan} {m b : Nat} {am : List Rat} (hp : PanOk m p) (ha : ∀ x ∈ am, SzR b x) (hb : b ≤ 110) (i : Nat) : SzR 3000 (leaveA (p.rus.zip am) i).sum ∧ SzR 3000 (enterA (p.rus.zip am) i).sum ∧ SzR 2000 (outA (p.rus.zip am) i) := by
  have hz : ∀ q ∈ p.rus.zip am, q.1.1 ≠ q.1.2 := fun q hq => (hp.ru _ (List.of_mem_zip hq).1).2.2.2.2
  have ln := le_en hz i
  have lz : (p.rus.zip am).length ≤ 16 := by rw [List.length_zip]; have := hp.few; omega
  have h1 := sum_sz (b := b) (l := leaveA (p.rus.zip am) i) fun x hx => by obtain ⟨q, hq, rfl⟩ := leave_mem hx; exact ha _ (List.of_mem_zip hq).2
  have h2 := sum_sz (b := b) (l := enterA (p.rus.zip am) i) fun x hx => by obtain ⟨q, hq, rfl⟩ := enter_mem hx; exact ha _ (List.of_mem_zip hq).2
  have m1 := Nat.mul_le_mul (show (leaveA (p.rus.zip am) i).length ≤ 16 by omega) (show b + 1 ≤ 111 by omega)
  have m2 := Nat.mul_le_mul (show (enterA (p.rus.zip am) i).length ≤ 16 by omega) (show b + 1 ≤ 111 by omega)
  refine ⟨h1.le (by omega), h2.le (by omega), (h1.sub h2).le ?_⟩
  have m3 := Nat.mul_le_mul (show (leaveA (p.rus.zip am) i).length + (enterA (p.rus.zip am) i).length ≤ 16 by omega) (show b + 1 ≤ 111 by omega)
  rw [Nat.add_mul] at m3
  omega
theorem rate_sz {p : Pan} {m b : Nat} {am : List Rat} (hp : PanOk m p) (ha : ∀ x ∈ am, SzR b x) (hb : b ≤ 110) {i : Nat} (hi : i < p.its.length) : SzR 2100 (rateA p am i) := by
  have h := (out_sz hp ha hb i).2.2
  obtain ⟨q1, q2⟩ := ItOk.sz (hp.it _ (List.mem_of_getElem? (getD_at hi)))
  have q0 : 1 ≤ (p.its.getD i (0, 1)).2 := (hp.it _ (List.mem_of_getElem? (getD_at hi))).2.2.1
  unfold rateA mR wR
  have e : outA (p.rus.zip am) i / ((p.its.getD i (0, 1)).2 : Rat) = Rat.divInt (outA (p.rus.zip am) i).num ((outA (p.rus.zip am) i).den * (p.its.getD i (0, 1)).2) := by
    refine (divInt_is (Int.mul_pos (by have := (outA (p.rus.zip am) i).den_pos; omega) (by omega)) ?_).symm
    rw [num_den, Rat.intCast_mul, Rat.div_def]
    have w0 : ((p.its.getD i (0, 1)).2 : Rat) ≠ 0 := fun h => by have := Rat.intCast_eq_zero_iff.mp h; omega
    have := Rat.mul_inv_cancel _ w0
    generalize ((p.its.getD i (0, 1)).2 : Rat) = w at *
    grind
  rw [e]
  have := (SzR.int q1 (by decide)).sub (SzR.divInt (b := 2020) (h.1.le (by decide)) ((h.2.mul q2).le (by decide)) (by have := Int.mul_pos (a := ((outA (p.rus.zip am) i).den : Int)) (b := (p.its.getD i (0, 1)).2) (by have := (outA (p.rus.zip am) i).den_pos; omega) (by omega); omega))
  exact this.le (by decide)
theorem frs_ok {rs : List Rat} {b : Nat} (h : ∀ x ∈ rs, SzR b x) (hb : b ≤ 1920) (hn : rs.length ≤ 40) : D.plns (rs.map frD) = true ∧ PyData.showableAll (D.pys (rs.map frD)) = true ∧ D.deps (rs.map frD) ≤ 1 ∧ D.wids (rs.map frD) ≤ 5000 * rs.length := by
  induction rs with
  | nil => exact ⟨rfl, rfl, Nat.zero_le _, Nat.zero_le _⟩
  | cons x rs ih =>
    obtain ⟨a, c, d, e⟩ := ih (fun y hy => h y (by simp [hy])) (by simp at hn; omega)
    have hx := h x (by simp)
    refine ⟨?_, ?_, ?_, ?_⟩
    · simp only [List.map_cons, D.plns, a]; rfl
    · show ((frD x).py.showable && PyData.showableAll (D.pys (rs.map frD))) = true
      have s : (frD x).py.showable = true := frD_show (hx.le hb)
      rw [s, c]; rfl
    · simp only [List.map_cons, D.deps]
      have : (frD x).dep = 1 := by simp [frD, D.dep, D.deps]
      omega
    · simp only [List.map_cons, D.wids, List.length_cons]
      have : (frD x).wid = 4024 := by simp [frD, D.wid, D.wids]
      omega
theorem pan_frs_sh {m : Nat} {p : Pan} (hp : PanOk m p) (hm : m ≤ 100) {rs : List Rat} {b : Nat} (h : ∀ x ∈ rs, SzR b x) (hb : b ≤ 1920) (hn : rs.length ≤ 40) : ShOk (.lst [panD p, .tup (rs.map frD)]) := by
  obtain ⟨o1, o2, o3, o4⟩ := panD_ok hp hm
  obtain ⟨q1, q2, q3, q4⟩ := frs_ok h hb hn
  refine ⟨?_, ?_, ?_, ?_⟩
  · simp only [D.pln, D.plns, o1, q1]; rfl
  · show ((panD p).py.showable && (PyData.showableAll (D.pys (rs.map frD)) && true)) = true
    rw [o2, q2]; rfl
  · simp only [D.dep, D.deps]; omega
  · simp only [D.wid, D.wids]; omega
theorem enum_its (its : List (Int × Int)) : enumD (its.map itD) = (List.range its.length).map fun j => .tup [natD j, itD (its.getD j (0, 1))] := by
  have e : its.map itD = (List.range its.length).map fun j => itD (its.getD j (0, 1)) := by
    refine List.ext_getElem (by simp) fun i h1 h2 => ?_
    have hi : i < its.length := by simpa using h1
    rw [List.getElem_map, List.getElem_map, List.getElem_range, List.getD_eq_getElem?_getD, List.getElem?_eq_getElem hi]; rfl
  rw [e]; exact enum_rng _ _
end Pm

set_option Elab.async false
set_option linter.all false
set_option maxRecDepth 100000
set_option maxHeartbeats 1000000
set_option autoImplicit false
namespace Pm
open PySem PySem.Spec
open PyProof.Rows hiding St
open L2
variable {γ : Type}
def lendL : Nat → List D → List (Option L) → List (Option L)
  | _, _, [] => []
  | 0, ds, _ :: ρ => some (.val (.lst ds)) :: hideL ρ
  | i + 1, ds, some (.own _) :: ρ => none :: lendL i ds ρ
  | i + 1, ds, o :: ρ => o :: lendL i ds ρ
where hideL : List (Option L) → List (Option L)
  | [] => []
  | some (.own _) :: ρ => none :: hideL ρ
  | o :: ρ => o :: hideL ρ
theorem hideL_get : ∀ {ρ : List (Option L)} {j : Nat} {l : L}, (lendL.hideL ρ)[j]? = some (some l) → ρ[j]? = some (some l) ∧ ∃ d, l = .val d
  | [], _, _, h => by simp [lendL.hideL] at h
  | some (.own _) :: ρ, 0, _, h => by simp [lendL.hideL] at h
  | some (.val d) :: ρ, 0, l, h => by simp [lendL.hideL] at h; subst h; exact ⟨rfl, _, rfl⟩
  | none :: ρ, 0, _, h => by simp [lendL.hideL] at h
  | some (.own _) :: ρ, j + 1, _, h => hideL_get (ρ := ρ) (by simpa [lendL.hideL] using h)
  | some (.val d) :: ρ, j + 1, l, h => hideL_get (ρ := ρ) (by simpa [lendL.hideL] using h)
  | none :: ρ, j + 1, _, h => hideL_get (ρ := ρ) (by simpa [lendL.hideL] using h)
theorem hideL_len : ∀ ρ : List (Option L), (lendL.hideL ρ).length = ρ.length
  | [] => rfl
  | some (.own _) :: ρ => by simp [lendL.hideL, hideL_len ρ]
  | some (.val _) :: ρ => by simp [lendL.hideL, hideL_len ρ]
  | none :: ρ => by simp [lendL.hideL, hideL_len ρ]
theorem lendL_get : ∀ {i : Nat} {ds : List D} {ρ : List (Option L)} {j : Nat} {l : L}, (lendL i ds ρ)[j]? = some (some l) → (j = i ∧ l = .val (.lst ds)) ∨ (j ≠ i ∧ ρ[j]? = some (some l) ∧ ∃ d, l = .val d)
  | i, _, [], _, _, h => by cases i <;> simp [lendL] at h
  | 0, ds, o :: ρ, 0, l, h => by simp [lendL] at h; exact .inl ⟨rfl, h.symm⟩
  | 0, ds, o :: ρ, j + 1, l, h => .inr ⟨Nat.succ_ne_zero j, by obtain ⟨a, b⟩ := hideL_get (ρ := ρ) (j := j) (l := l) (by simpa [lendL] using h); exact ⟨by simpa using a, b⟩⟩
  | i + 1, ds, some (.own _) :: ρ, 0, l, h => by simp [lendL] at h
  | i + 1, ds, some (.val d) :: ρ, 0, l, h => by simp [lendL] at h; subst h; exact .inr ⟨Ne.symm (Nat.succ_ne_zero i), rfl, _, rfl⟩
  | i + 1, ds, none :: ρ, 0, l, h => by simp [lendL] at h
  | i + 1, ds, some (.own _) :: ρ, j + 1, l, h => (lendL_get (i := i) (ds := ds) (ρ := ρ) (j := j) (l := l) (by simpa [lendL] using h)).imp (fun ⟨a, b⟩ => ⟨by omega, b⟩) fun ⟨a, b⟩ => ⟨by omega, b⟩
  | i + 1, ds, some (.val d) :: ρ, j + 1, l, h => (lendL_get (i := i) (ds := ds) (ρ := ρ) (j := j) (l := l) (by simpa [lendL] using h)).imp (fun ⟨a, b⟩ => ⟨by omega, b⟩) fun ⟨a, b⟩ => ⟨by omega, b⟩
  | i + 1, ds, none :: ρ, j + 1, l, h => (lendL_get (i := i) (ds := ds) (ρ := ρ) (j := j) (l := l) (by simpa [lendL] using h)).imp (fun ⟨a, b⟩ => ⟨by omega, b⟩) fun ⟨a, b⟩ => ⟨by omega, b⟩
theorem lendL_len : ∀ (i : Nat) (ds : List D) (ρ : List (Option L)), (lendL i ds ρ).length = ρ.length
  | i, _, [] => by cases i <;> rfl
  | 0, ds, o :: ρ => by simp [lendL, hideL_len]
  | i + 1, ds, some (.own _) :: ρ => by simp [lendL, lendL_len i ds ρ]
  | i + 1, ds, some (.val _) :: ρ => by simp [lendL, lendL_len i ds ρ]
  | i + 1, ds, none :: ρ => by simp [lendL, lendL_len i ds ρ]
def D.flt : D → Bool
  | .non | .bl _ | .int _ | .str _ | .obj _ => true
  | .tup xs => xs.all fun x => match x with | .non | .bl _ | .int _ | .str _ => true | _ => false
  | _ => false
def qLend (i : Nat) (te : PEx γ) : PEx γ := fun s R => ∃ ds, s.ρ[i]? = some (some (.own ds)) ∧ te ⟨lendL i ds s.ρ, s.g⟩ fun d s1 => d.flt = true ∧ s1.ρ = lendL i ds s.ρ ∧ R d ⟨s.ρ, s1.g⟩
section
variable {X : Cx} {G : GP γ}
open Classical in
theorem qe_lend {e : Expr} {te : PEx γ} (i : Nat) (h : QE X G e te) : QE X G e (qLend i te) := by
  refine PE.imp h fun σ H Q ⟨F, Z, s, R, r, ⟨ds, hi, t⟩, q⟩ => ?_
  obtain ⟨a, vs, h1, h2, h3, h4, h5, h6⟩ := r.own i ds hi
  let oth : Addr → Prop := fun b => ∃ j es, j ≠ i ∧ s.ρ[j]? = some (some (.own es)) ∧ σ[j]? = some (some (.ref b))
  have nob : ∀ b, oth b → b ≠ a ∧ Z b = none ∧ F.F b = none ∧ ¬ G.foot s.g b ∧ ∃ o, H b = some o := fun b ⟨j, es, jn, e1, e2⟩ => by
    obtain ⟨b', ws, k1, k2, k3, k4, k5, k6⟩ := r.own j es e1
    rw [k1] at e2; cases e2
    exact ⟨fun e => r.inj j i es ds a jn e1 hi (by rw [k1, e]) h1, k4, k5, k6, _, k2⟩
  let F' : Fra := ⟨fun b => if oth b then H b else F.F b, fun b => F.B b ∨ oth b, fun b hb => by
    by_cases ob : oth b
    · obtain ⟨_, _, _, _, o, e⟩ := nob b ob
      exact ⟨o, by show (if oth b then H b else F.F b) = _; rw [if_pos ob]; exact e⟩
    · obtain ⟨o, e⟩ := F.bf b (hb.resolve_right ob)
      exact ⟨o, by show (if oth b then H b else F.F b) = _; rw [if_neg ob]; exact e⟩⟩
  have FF : ∀ b, F'.F b = if oth b then H b else F.F b := fun _ => rfl
  have kz : Same Z (upd Z a (.lst vs)) := same_upd h4
  have R1 : Rel G F' (upd Z a (.lst vs)) ⟨lendL i ds s.ρ, s.g⟩ σ H := by
    refine ⟨same_upd2 r.z h2 h4, fun b o e => ?_, fun b hb => ?_, r.len.trans (lendL_len ..).symm, fun j d e => ?_, fun j es e => ?_, fun j k es fs b _ e _ _ _ => ?_, r.j, fun b hb => ?_, fun b hb => ?_, r.fl.trans kz⟩
    · rw [FF] at e
      by_cases ob : oth b
      · rw [if_pos ob] at e; exact e
      · rw [if_neg ob] at e; exact r.f b o e
    · rcases hb with hb | hb
      · rw [upd_ne (show b ≠ a from fun e => Fra.nb h5 (e ▸ hb))]; exact r.zb b hb
      · obtain ⟨n, z, _⟩ := nob b hb
        rw [upd_ne n]; exact z
    · rcases lendL_get e with ⟨rfl, e2⟩ | ⟨_, e2, _⟩
      · cases e2
        exact ⟨.ref a, h1, a, vs, rfl, upd_same, Ats.mono kz _ _ h3⟩
      · obtain ⟨v, k1, k2⟩ := r.loc j d e2
        exact ⟨v, k1, At.mono kz _ _ k2⟩
    · rcases lendL_get e with ⟨_, e2⟩ | ⟨_, _, d, e2⟩ <;> cases e2
    · rcases lendL_get e with ⟨_, e2⟩ | ⟨_, _, d, e2⟩ <;> cases e2
    · rw [upd_ne (show b ≠ a from fun e => h6 (e ▸ hb))]; exact r.zf b hb
    · rw [FF, if_neg fun ob => (nob b ob).2.2.2.1 hb]; exact r.ff b hb
  refine ⟨F', _, _, _, R1, t, fun d s1 Z1 v H1 t1 k1 r1 a1 => ?_⟩
  obtain ⟨fl, sr, t1⟩ := t1
  let Z2 : Hp := fun b => if b = a then none else Z1 b
  have Z2n : ∀ b, b ≠ a → Z2 b = Z1 b := fun b hb => if_neg hb
  have k2 : Same Z Z2 := fun b o e => by
    have : b ≠ a := fun hb => by rw [hb, h4] at e; cases e
    rw [Z2n b this]; exact k1 b o (kz b o e)
  have Za : Z1 a = some (.lst vs) := k1 a _ upd_same
  have Ha : H1 a = some (.lst vs) := r1.z a _ Za
  have R2 : Rel G F Z2 ⟨s.ρ, s1.g⟩ σ H1 := by
    refine ⟨fun b o e => ?_, fun b o e => ?_, fun b hb => ?_, r.len, fun j d e => ?_, fun j es e => ?_, r.inj, r1.j, fun b hb => ?_, fun b hb => ?_, r.fl.trans k2⟩
    · by_cases hb : b = a
      · have : Z2 b = none := if_pos hb
        rw [this] at e; cases e
      · rw [Z2n b hb] at e; exact r1.z b o e
    · have no : ¬ oth b := fun ob => by rw [(nob b ob).2.2.1] at e; cases e
      exact r1.f b o (by rw [FF, if_neg no]; exact e)
    · by_cases hb' : b = a
      · exact if_pos hb'
      · rw [Z2n b hb']; exact r1.zb b (.inl hb)
    · obtain ⟨v', e1, e2⟩ := r.loc j d e
      exact ⟨v', e1, At.mono k2 _ _ e2⟩
    · by_cases ji : j = i
      · subst ji
        have e0 : es = ds := by
          have e' : s.ρ[j]? = some (some (.own es)) := e
          rw [hi] at e'; cases e'; rfl
        subst e0
        exact ⟨a, vs, h1, Ha, Ats.mono k2 _ _ h3, if_pos rfl, h5, fun hf => by have := r1.zf a hf; rw [Za] at this; cases this⟩
      · obtain ⟨b, ws, e1, e2, e3, e4, e5, e6⟩ := r.own j es e
        have ob : oth b := ⟨j, es, ji, e, e1⟩
        have fb : F'.F b = some (.lst ws) := by rw [FF, if_pos ob]; exact e2
        refine ⟨b, ws, e1, r1.f b _ fb, Ats.mono k2 _ _ e3, ?_, e5, fun hf => by have := r1.ff b hf; rw [fb] at this; cases this⟩
        rw [Z2n b (nob b ob).1]; exact r1.zb b (.inr ob)
    · by_cases hb' : b = a
      · exact if_pos hb'
      · rw [Z2n b hb']; exact r1.zf b hb
    · have := r1.ff b hb
      rw [FF] at this
      by_cases ob : oth b
      · rw [if_pos ob] at this
        obtain ⟨_, _, _, _, o, e⟩ := nob b ob
        rw [e] at this; cases this
      · rw [if_neg ob] at this; exact this
  have sq : ∀ b ws, SqT G.K Z1 b ws → SqT G.K Z2 b ws := fun b ws hs => by
    by_cases hb : b = a
    · subst hb
      rcases hs with (hs | ⟨o, hs⟩) | hs
      · rw [Za] at hs; cases hs
      · rw [Za] at hs; cases hs
      · exact .inr hs
    · rcases hs with (hs | ⟨o, hs⟩) | hs
      · exact .inl (.inl (by rw [Z2n b hb]; exact hs))
      · exact .inl (.inr ⟨o, by rw [Z2n b hb]; exact hs⟩)
      · exact .inr hs
  refine q d _ Z2 v H1 t1 k2 R2 ?_
  cases d with
  | non => exact a1
  | bl b => exact a1
  | int n => exact a1
  | str x => exact a1
  | obj b => exact a1
  | lst xs => cases fl
  | dct ks xs => cases fl
  | tup xs =>
    simp only [At] at a1 ⊢
    obtain ⟨b, ws, e1, e2, e3⟩ := a1
    refine ⟨b, ws, e1, sq b ws e2, ?_⟩
    have fl' : ∀ x ∈ xs, (match x with | .non | .bl _ | .int _ | .str _ => true | _ => false) = true := by simpa [D.flt] using fl
    clear e2 fl t1 e1
    induction xs generalizing ws with
    | nil => exact e3
    | cons x xs ih =>
      simp only [Ats] at e3 ⊢
      obtain ⟨w, ws', f1, f2, f3⟩ := e3
      refine ⟨w, ws', f1, ?_, ih ws' f3 fun y hy => fl' y (by simp [hy])⟩
      have hx := fl' x (by simp)
      cases x <;> first | exact f2 | cases hx
end
end Pm

set_option Elab.async false
set_option linter.all false
set_option maxRecDepth 100000
set_option maxHeartbeats 1000000
set_option autoImplicit false
namespace Pm
open PySem PySem.Spec
open L2
theorem drop_low {f : Nat → Rat} {m : Nat → Rat} {c : Rat} (hf : ∀ i, (c ≤ m i → 0 ≤ f i) ∧ (m i ≤ c → f i ≤ 0)) : ∀ (ch : List Nat), ch.Pairwise (fun i j => m j ≤ m i) → sm f ch ≤ 0 → ∀ t, sm f (ch.drop t) ≤ 0
  | [], _, _, t => by rw [List.drop_nil]; simp only [sm]; exact Rat.le_refl
  | x :: xs, hp, hs, 0 => hs
  | x :: xs, hp, hs, t + 1 => by
    obtain ⟨h1, h2⟩ := List.pairwise_cons.mp hp
    refine drop_low hf xs h2 ?_ t
    simp only [sm] at hs
    by_cases h : c ≤ m x
    · have := (hf x).1 h
      grind
    · have all : ∀ y ∈ xs, 0 ≤ (-1) * f y := fun y hy => by
        have := (hf y).2 (Rat.le_trans (h1 y hy) (by grind))
        grind
      have := sm_nonneg all
      rw [sm_mul] at this
      grind
theorem up_all {U : Nat → Bool} : ∀ (x : Nat) (xs : List Nat), (∀ e ∈ (x :: xs).zip xs, U e.1 = true → U e.2 = true) → U x = true → ∀ y ∈ xs, U y = true
  | x, [], _, _, y, hy => by cases hy
  | x, z :: xs, h, hx, y, hy => by
    have hz : U z = true := h (x, z) (by simp) hx
    rcases List.mem_cons.mp hy with rfl | hy
    · exact hz
    · exact up_all z xs (fun e he => h e (by rw [List.zip_cons_cons]; exact List.mem_cons_of_mem _ he)) hz y hy
theorem up_drop {U : Nat → Bool} : ∀ ch : List Nat, (∀ e ∈ ch.zip ch.tail, U e.1 = true → U e.2 = true) → ∃ t, ch.filter U = ch.drop t
  | [], _ => ⟨0, rfl⟩
  | x :: xs, h => by
    have h : ∀ e ∈ (x :: xs).zip xs, U e.1 = true → U e.2 = true := h
    by_cases hx : U x = true
    · refine ⟨0, ?_⟩
      rw [List.drop_zero]
      refine List.filter_eq_self.mpr fun y hy => ?_
      rcases List.mem_cons.mp hy with rfl | hy
      · exact hx
      · exact up_all x xs h hx y hy
    · obtain ⟨t, e⟩ := up_drop xs fun e he => h e (by
        cases xs with
        | nil => simp at he
        | cons z zs => rw [List.zip_cons_cons]; exact List.mem_cons_of_mem _ he)
      exact ⟨t + 1, by rw [List.filter_cons_of_neg hx, e]; rfl⟩
def Kn (n : Nat) (p : Pan) (f : Nat → Rat) (cl : Nat → Nat) : Prop :=
  ∀ q, q < n → ∃ ch : List Nat, ch.Perm ((List.range p.its.length).filter fun k => decide (cl k = q)) ∧ ch.Pairwise (fun i j => mR p j ≤ mR p i) ∧ (∀ e ∈ ch.zip ch.tail, eE p e.1 e.2) ∧ ∀ k ∈ ch, f k = avg (selI p.its ch)
theorem Kn.best {n m : Nat} {p : Pan} {f : Nat → Rat} {cl : Nat → Nat} (hp : PanOk m p) (h : Kn n p f cl) (hc : ∀ k, k < p.its.length → cl k < n) (ob : Obey (eE p) f) : BestP p f := by
  have sums : ∀ q, q < n → ∃ ch : List Nat, ∃ c : Rat, ch.Perm ((List.range p.its.length).filter fun k => decide (cl k = q)) ∧ ch.Pairwise (fun i j => mR p j ≤ mR p i) ∧ (∀ e ∈ ch.zip ch.tail, eE p e.1 e.2) ∧ (∀ k ∈ ch, f k = c) ∧ sm (fun i => wR p i * (mR p i - c)) ch = 0 ∧ ∀ k ∈ ch, k < p.its.length := fun q hq => by
    obtain ⟨ch, c1, c2, c3, c4⟩ := h q hq
    have lt : ∀ k ∈ ch, k < p.its.length := fun k hk => List.mem_range.mp (List.mem_filter.mp (c1.subset hk)).1
    refine ⟨ch, _, c1, c2, c3, c4, ?_, lt⟩
    by_cases e : ch = []
    · rw [e]; rfl
    · rw [avg_avS]
      exact ex_av ch (sm_pos (fun i hi => wR_pos' hp i (List.mem_range.mpr (lt i hi))) e)
  have ind : ∀ (U : Nat → Bool), ∀ j, j ≤ n → (UpS (eE p) U → sm (fw (mR p) (wR p) f) ((List.range p.its.length).filter fun k => decide (cl k < j) && U k) ≤ 0) ∧ (RUp f U → sm (fw (mR p) (wR p) f) ((List.range p.its.length).filter fun k => decide (cl k < j) && U k) = 0) := fun U j => by
    induction j with
    | zero =>
      intro _
      have e : (List.range p.its.length).filter (fun k => decide (cl k < 0) && U k) = [] := List.filter_eq_nil_iff.mpr fun k _ => by simp
      rw [e]
      exact ⟨fun _ => Rat.le_refl, fun _ => rfl⟩
    | succ j ih =>
      intro hj
      obtain ⟨i1, i2⟩ := ih (by omega)
      have sp := sm_split (fw (mR p) (wR p) f) (fun k => decide (cl k < j)) ((List.range p.its.length).filter fun k => decide (cl k < j + 1) && U k)
      have e1 : ((List.range p.its.length).filter fun k => decide (cl k < j + 1) && U k).filter (fun k => decide (cl k < j)) = (List.range p.its.length).filter fun k => decide (cl k < j) && U k := by
        rw [List.filter_filter]
        refine List.filter_congr fun k _ => ?_
        by_cases a : cl k < j
        · have b : cl k < j + 1 := by omega
          simp [a, b]
        · simp [a]
      have e2 : ((List.range p.its.length).filter fun k => decide (cl k < j + 1) && U k).filter (fun k => !decide (cl k < j)) = ((List.range p.its.length).filter fun k => decide (cl k = j)).filter U := by
        rw [List.filter_filter, List.filter_filter]
        refine List.filter_congr fun k _ => ?_
        by_cases a : cl k = j
        · have b : cl k < j + 1 := by omega
          have c : ¬ cl k < j := by omega
          simp [a]
        · by_cases b : cl k < j
          · simp [a, b]
          · have c : ¬ cl k < j + 1 := by omega
            simp [a, c]
      rw [e1, e2] at sp
      obtain ⟨ch, c, c1, c2, c3, c4, c5, lt⟩ := sums j (by omega)
      have pe : sm (fw (mR p) (wR p) f) (((List.range p.its.length).filter fun k => decide (cl k = j)).filter U) = sm (fun i => wR p i * (mR p i - c)) (ch.filter U) := by
        rw [← sm_perm (c1.filter U)]
        exact sm_congr fun i hi => by unfold fw; rw [c4 i (List.mem_filter.mp hi).1]
      rw [pe] at sp
      refine ⟨fun hU => ?_, fun hU => ?_⟩
      · obtain ⟨t, et⟩ := up_drop (U := U) ch fun e he => hU _ _ (c3 e he)
        have low := drop_low (f := fun i => if i < p.its.length then wR p i * (mR p i - c) else (mR p i - c)) (m := mR p) (c := c) (fun i => ?_) ch c2 ?_ t
        · have e3 : sm (fun i => if i < p.its.length then wR p i * (mR p i - c) else (mR p i - c)) (ch.drop t) = sm (fun i => wR p i * (mR p i - c)) (ch.drop t) := sm_congr fun i hi => if_pos (lt i (List.mem_of_mem_drop hi))
          rw [e3] at low
          rw [et] at sp
          have := i1 hU
          grind
        · split
          · rename_i hi
            have w := wR_pos' hp i (List.mem_range.mpr hi)
            exact ⟨fun a => mul_nonneg' (Rat.le_of_lt w) (by grind), fun a => by have := mul_nonneg' (Rat.le_of_lt w) (show 0 ≤ c - mR p i by grind); grind⟩
          · exact ⟨fun a => by grind, fun a => by grind⟩
        · have e3 : sm (fun i => if i < p.its.length then wR p i * (mR p i - c) else (mR p i - c)) ch = sm (fun i => wR p i * (mR p i - c)) ch := sm_congr fun i hi => if_pos (lt i hi)
          rw [e3, c5]; exact Rat.le_refl
      · have z : sm (fun i => wR p i * (mR p i - c)) (ch.filter U) = 0 := by
          by_cases ex : ∃ x ∈ ch, U x = true
          · obtain ⟨x, hx, ux⟩ := ex
            have : ch.filter U = ch := List.filter_eq_self.mpr fun y hy => hU x y (by rw [c4 x hx, c4 y hy]; exact Rat.le_refl) ux
            rw [this, c5]
          · have : ch.filter U = [] := List.filter_eq_nil_iff.mpr fun y hy uy => ex ⟨y, hy, uy⟩
            rw [this]; rfl
        have := i2 hU
        grind
  have fin : ∀ U : Nat → Bool, (List.range p.its.length).filter (fun k => decide (cl k < n) && U k) = (List.range p.its.length).filter U := fun U => List.filter_congr fun k hk => by
    have := hc k (List.mem_range.mp hk)
    simp [this]
  refine ⟨ob, fun U hU => ?_, fun U hU => ?_⟩
  · have := (ind U n (Nat.le_refl n)).1 hU
    rw [fin] at this; exact this
  · have := (ind U n (Nat.le_refl n)).2 hU
    rw [fin] at this; exact this
theorem zip_tail {R : Nat → Nat → Prop} : ∀ {ch : List Nat}, ch.Pairwise R → ∀ e ∈ ch.zip ch.tail, e.1 ∈ ch ∧ e.2 ∈ ch ∧ R e.1 e.2
  | [], _, e, h => by simp at h
  | [x], _, e, h => by simp at h
  | x :: y :: xs, hp, e, h => by
    obtain ⟨h1, h2⟩ := List.pairwise_cons.mp hp
    rw [List.tail_cons, List.zip_cons_cons] at h
    rcases List.mem_cons.mp h with rfl | h
    · exact ⟨by simp, by simp, h1 y (by simp)⟩
    · obtain ⟨a, b, c⟩ := zip_tail h2 e h
      exact ⟨List.mem_cons_of_mem _ a, List.mem_cons_of_mem _ b, c⟩
def clsA (n : Nat) (cl : Nat → Nat) (q : Nat) : List Nat := (List.range n).filter fun k => decide (cl k = q)
theorem mem_clsA {n : Nat} {cl : Nat → Nat} {q k : Nat} : k ∈ clsA n cl q ↔ k < n ∧ cl k = q := by unfold clsA; simp
structure KnI (n j : Nat) (cl : Nat → Nat) (its : List (Int × Int)) (rat : List Rat) (rus : List (Nat × Nat)) : Prop where
  li : its.length = n
  lr : rat.length = n
  it : ∀ q ∈ its, ItOk q
  rz : ∀ x ∈ rat, SzR 150 x
  ru : ∀ e ∈ rus, e.1 < n ∧ e.2 < n ∧ e.1 ≠ e.2 ∧ cl e.1 < j ∧ cl e.2 < j ∧ rat.getD e.1 0 = rat.getD e.2 0
  few : rus.length ≤ ((List.range n).filter fun k => decide (cl k < j)).length
  ch : ∀ q, q < j → ∃ ch : List Nat, ch.Perm (clsA n cl q) ∧ ch.Pairwise (fun a b => (its.getD b (0, 1)).1 ≤ (its.getD a (0, 1)).1) ∧ (∀ e ∈ ch.zip ch.tail, e ∈ rus) ∧ ∀ k ∈ ch, rat.getD k 0 = avg (selI its ch)
theorem sel_congr {its its' : List (Int × Int)} {gs : List Nat} (h : ∀ k ∈ gs, its'.getD k (0, 1) = its.getD k (0, 1)) : selI its' gs = selI its gs := List.map_congr_left h
theorem KnI.step {n j : Nat} {cl : Nat → Nat} {its its' : List (Int × Int)} {rat rat' : List Rat} {rus : List (Nat × Nat)} {c : List Nat} (K : KnI n j cl its rat rus) (hc : c.Perm (clsA n cl j)) (l1 : its'.length = n) (l2 : rat'.length = n) (it : ∀ q ∈ its', ItOk q) (rz : ∀ x ∈ rat', SzR 150 x)
    (k1 : ∀ k, k ∉ c → its'.getD k (0, 1) = its.getD k (0, 1)) (k2 : ∀ k, k ∉ c → rat'.getD k 0 = rat.getD k 0) (an : c.Pairwise (fun a b => (its'.getD b (0, 1)).1 ≤ (its'.getD a (0, 1)).1)) (hr : ∀ k ∈ c, rat'.getD k 0 = avg (selI its' c)) : KnI n (j + 1) cl its' rat' (rus ++ c.zip c.tail) := by
  have mc : ∀ {k}, k ∈ c → k < n ∧ cl k = j := fun {k} h => mem_clsA.mp (hc.mem_iff.mp h)
  have nd : c.Nodup := hc.symm.nodup (List.nodup_range.filter _)
  have zt := zip_tail nd
  have no : ∀ {k}, cl k < j → k ∉ c := fun {k} h hk => by have := (mc hk).2; omega
  refine ⟨l1, l2, it, rz, fun e he => ?_, ?_, fun q hq => ?_⟩
  · rcases List.mem_append.mp he with he | he
    · obtain ⟨a, b, d, e1, e2, e3⟩ := K.ru e he
      exact ⟨a, b, d, by omega, by omega, by rw [k2 _ (no e1), k2 _ (no e2)]; exact e3⟩
    · obtain ⟨a, b, d⟩ := zt e he
      obtain ⟨a1, a2⟩ := mc a
      obtain ⟨b1, b2⟩ := mc b
      exact ⟨a1, b1, d, by omega, by omega, by rw [hr _ a, hr _ b]⟩
  · rw [List.length_append, List.length_zip, List.length_tail]
    have h1 := K.few
    have h2 : c.length = (clsA n cl j).length := hc.length_eq
    have h3 : ((List.range n).filter fun k => decide (cl k < j + 1)).length = ((List.range n).filter fun k => decide (cl k < j)).length + (clsA n cl j).length := by
      unfold clsA
      generalize List.range n = l
      induction l with
      | nil => rfl
      | cons x l ih =>
        simp only [List.filter_cons, decide_eq_true_eq]
        by_cases a : cl x < j
        · have b : cl x < j + 1 := by omega
          have d : ¬ cl x = j := by omega
          simp only [a, b, d, if_true, if_false, List.length_cons]; omega
        · by_cases d : cl x = j
          · have b : cl x < j + 1 := by omega
            simp only [a, b, d, if_true, if_false, List.length_cons]
            rw [if_pos (by omega), List.length_cons, if_neg (by omega)]; omega
          · have b : ¬ cl x < j + 1 := by omega
            simp only [a, b, d, if_false]; omega
    omega
  · by_cases e : q = j
    · subst e
      exact ⟨c, hc, an, fun e he => List.mem_append_right _ he, hr⟩
    · obtain ⟨ch, c1, c2, c3, c4⟩ := K.ch q (by omega)
      have nk : ∀ k ∈ ch, k ∉ c := fun k hk => no (by have := (mem_clsA.mp (c1.mem_iff.mp hk)).2; omega)
      refine ⟨ch, c1, ?_, fun e he => List.mem_append_left _ (c3 e he), fun k hk => ?_⟩
      · refine c2.imp_of_mem fun {a b} ha hb h => ?_
        rw [k1 a (nk a ha), k1 b (nk b hb)]; exact h
      · rw [k2 k (nk k hk), c4 k hk, sel_congr fun k hk => k1 k (nk k hk)]
def nnP (e : Nat × Nat) : Int × Int := ((e.1 : Int), (e.2 : Int))
theorem KnI.best {n : Nat} {cl : Nat → Nat} {its : List (Int × Int)} {rat : List Rat} {rus more : List (Nat × Nat)} (K : KnI n n cl its rat rus) (hn : 1 ≤ n) (h8 : n ≤ 8) (hc : ∀ k, k < n → cl k < n) (hl : more.length ≤ 8) (hm : ∀ e ∈ more, e.1 < n ∧ e.2 < n ∧ e.1 ≠ e.2 ∧ rat.getD e.1 0 ≤ rat.getD e.2 0) {all : List (Nat × Nat)} (hp : all.Perm (rus ++ more)) :
    PanOk 8 ⟨its, all.map nnP⟩ ∧ BestP ⟨its, all.map nnP⟩ fun i => rat.getD i 0 := by
  have mem : ∀ {e}, e ∈ all → e ∈ rus ∨ e ∈ more := fun {e} h => List.mem_append.mp (hp.mem_iff.mp h)
  have lf : rus.length ≤ 8 := by
    have := K.few
    have h2 := List.length_filter_le (fun k => decide (cl k < n)) (List.range n)
    rw [List.length_range] at h2; omega
  have ok : PanOk 8 ⟨its, all.map nnP⟩ := by
    refine ⟨by show 1 ≤ its.length; rw [K.li]; exact hn, by show its.length ≤ 8; rw [K.li]; exact h8, K.it, ?_, fun q hq => ?_⟩
    · show (all.map nnP).length ≤ 16
      rw [List.length_map, hp.length_eq, List.length_append]; omega
    · obtain ⟨e, he, rfl⟩ := List.mem_map.mp hq
      have : e.1 < n ∧ e.2 < n ∧ e.1 ≠ e.2 := by
        rcases mem he with h | h
        · obtain ⟨a, b, c, _⟩ := K.ru e h; exact ⟨a, b, c⟩
        · obtain ⟨a, b, c, _⟩ := hm e h; exact ⟨a, b, c⟩
      obtain ⟨a, b, c⟩ := this
      have := K.li
      exact ⟨by show (0 : Int) ≤ (e.1 : Int); omega, by show (e.1 : Int) < (its.length : Int); omega, by show (0 : Int) ≤ (e.2 : Int); omega, by show (e.2 : Int) < (its.length : Int); omega, by show (e.1 : Int) ≠ (e.2 : Int); omega⟩
  refine ⟨ok, Kn.best (n := n) (cl := cl) ok (fun q hq => ?_) (fun k hk => hc k (by rw [← K.li]; exact hk)) fun a b e => ?_⟩
  · obtain ⟨ch, c1, c2, c3, c4⟩ := K.ch q hq
    refine ⟨ch, ?_, c2.imp fun {a b} h => Rat.intCast_le_intCast.mpr h, fun e he => ?_, c4⟩
    · show ch.Perm ((List.range its.length).filter fun k => decide (cl k = q))
      rw [K.li]; exact c1
    · exact List.mem_map.mpr ⟨e, hp.mem_iff.mpr (List.mem_append_left _ (c3 e he)), rfl⟩
  · obtain ⟨⟨x, y⟩, he, h⟩ := List.mem_map.mp e
    have h1 : (x : Int) = (a : Int) := congrArg Prod.fst h
    have h2 : (y : Int) = (b : Int) := congrArg Prod.snd h
    have h1 : x = a := by omega
    have h2 : y = b := by omega
    subst h1; subst h2
    rcases mem he with h | h
    · have := (K.ru _ h).2.2.2.2.2
      simp only at this ⊢
      rw [this]; exact Rat.le_refl
    · exact (hm _ h).2.2.2
theorem perm_map {α β : Type} (f : α → β) : ∀ {ys zs : List β}, ys.Perm zs → ∀ l, zs = l.map f → ∃ l' : List α, l'.Perm l ∧ ys = l'.map f := by
  intro ys zs h
  induction h with
  | nil => intro l e; exact ⟨[], by rw [List.eq_nil_of_map_eq_nil e.symm], rfl⟩
  | cons x h ih =>
    intro l e
    cases l with
    | nil => cases e
    | cons a l =>
      simp only [List.map_cons, List.cons.injEq] at e
      obtain ⟨l', p, e2⟩ := ih l e.2
      exact ⟨a :: l', p.cons a, by rw [List.map_cons, e.1, e2]⟩
  | swap x y l =>
    intro m e
    match m, e with
    | a :: b :: m, e =>
      simp only [List.map_cons, List.cons.injEq] at e
      exact ⟨b :: a :: m, .swap .., by rw [List.map_cons, List.map_cons, e.1, e.2.1, e.2.2]⟩
  | trans h1 h2 ih1 ih2 =>
    intro l e
    obtain ⟨l2, p2, e2⟩ := ih2 l e
    obtain ⟨l1, p1, e1⟩ := ih1 l2 e2
    exact ⟨l1, p1.trans p2, e1⟩
end Pm

set_option Elab.async false
set_option linter.all false
set_option maxRecDepth 100000
set_option maxHeartbeats 1000000
set_option autoImplicit false
namespace Pm
open PySem PySem.Spec
open L2
def exT (p : Pan) (t : Rat) (g : List Nat) : Rat := sm (fun i => wR p i * (mR p i - t)) g
theorem scT_ex (p : Pan) (t : Rat) (g : List Nat) : ((scT p t g : Int) : Rat) = exT p t g * ((t.den : Int) : Rat) := by
  unfold scT exT
  induction g with
  | nil => show ((0 : Int) : Rat) = 0 * _; rw [Rat.zero_mul]; rfl
  | cons i g ih =>
    have e : scS (selI p.its (i :: g)) t.num t.den = (p.its.getD i (0, 1)).2 * ((p.its.getD i (0, 1)).1 * t.den - t.num) + scS (selI p.its g) t.num t.den := by unfold scS selI; simp
    rw [e, Rat.intCast_add, ih, Rat.intCast_mul, Rat.intCast_sub, Rat.intCast_mul, num_den t]
    simp only [sm]
    unfold wR mR
    grind
theorem sm_if (h : Nat → Rat) (U : Nat → Bool) : ∀ l : List Nat, sm h (l.filter U) = sm (fun i => if U i = true then h i else 0) l
  | [] => rfl
  | i :: l => by
    rw [List.filter_cons]
    by_cases e : U i = true
    · rw [if_pos e]; simp only [sm, e, if_true, sm_if h U l]
    · rw [if_neg e, sm_if h U l]; simp only [sm, e, if_false]; simp [Rat.zero_add]
theorem sm_all0 {d : Nat → Rat} : ∀ {l : List Nat}, (∀ i ∈ l, 0 ≤ d i) → sm d l ≤ 0 → ∀ i ∈ l, d i = 0
  | [], _, _, i, hi => by cases hi
  | x :: l, h, h0, i, hi => by
    have hx := h x (by simp)
    have hl := sm_nonneg fun i hi => h i (List.mem_cons_of_mem _ hi)
    simp only [sm] at h0
    rcases List.mem_cons.mp hi with rfl | hi
    · grind
    · exact sm_all0 (fun i hi => h i (List.mem_cons_of_mem _ hi)) (by grind) i hi
section
variable {m : Nat} {p : Pan} {r : Nat → Rat} {t : Rat}
def above (p : Pan) (r : Nat → Rat) (t : Rat) : List Nat := (List.range p.its.length).filter fun i => decide (t < r i)
def atLeast (p : Pan) (r : Nat → Rat) (t : Rat) : List Nat := (List.range p.its.length).filter fun i => decide (t ≤ r i)
theorem exT_split (p : Pan) (r : Nat → Rat) (t : Rat) (g : List Nat) : exT p t g = sm (fw (mR p) (wR p) r) g + sm (fun i => wR p i * (r i - t)) g := by
  unfold exT
  rw [← sm_add]
  exact sm_congr fun i _ => by unfold fw; grind
theorem exT_above (b : BestP p r) : exT p t (above p r t) = sm (fun i => wR p i * (r i - t)) (above p r t) := by
  rw [exT_split p r]
  unfold above
  rw [b.lv _ (rup_gt t), Rat.zero_add]
theorem exT_least (b : BestP p r) (hp : PanOk m p) : exT p t (atLeast p r t) = sm (fun i => wR p i * (r i - t)) (above p r t) := by
  rw [exT_split p r]
  unfold atLeast above
  rw [b.lv _ (rup_ge t), Rat.zero_add, sm_if, sm_if]
  refine sm_congr fun i _ => ?_
  simp only [decide_eq_true_eq]
  by_cases h : t < r i
  · rw [if_pos h, if_pos (Rat.le_of_lt h)]
  · by_cases h2 : t ≤ r i
    · rw [if_pos h2, if_neg h]
      have : r i = t := by grind
      rw [this]; grind
    · rw [if_neg h2, if_neg h]
theorem up_le (b : BestP p r) (hp : PanOk m p) {g : List Nat} (hg : g ∈ upG p) : exT p t g ≤ sm (fun i => if inB g i = true then wR p i * (r i - t) else 0) (List.range p.its.length) := by
  have g1 := List.mem_filter.mp hg
  have sub := grpS_sub g1.1
  have e := range_filter sub
  have up : UpS (eE p) (inB g) := (upB_iff hp).mp g1.2
  have := b.up _ up
  rw [e] at this
  rw [exT_split p r, ← sm_if, e]
  grind
theorem pw_le (hp : PanOk m p) (g : List Nat) : ∀ i ∈ List.range p.its.length, (if inB g i = true then wR p i * (r i - t) else 0) ≤ (if decide (t < r i) = true then wR p i * (r i - t) else 0) := fun i hi => by
  have w := Rat.le_of_lt (wR_pos' hp i hi)
  simp only [decide_eq_true_eq]
  by_cases a : inB g i = true <;> by_cases c : t < r i <;> simp only [a, c, if_true, if_false]
  · exact Rat.le_refl
  · have := mul_nonneg' w (show 0 ≤ t - r i by grind)
    simp; grind
  · have := mul_nonneg' w (show 0 ≤ r i - t by grind)
    simp; grind
  · exact Rat.le_refl
theorem above_up (b : BestP p r) (hp : PanOk m p) : above p r t ∈ upG p := upG_of hp (RUp.up b.ob (rup_gt t))
theorem least_up (b : BestP p r) (hp : PanOk m p) : atLeast p r t ∈ upG p := upG_of hp (RUp.up b.ob (rup_ge t))
theorem sc_le (g h : List Nat) : scT p t g ≤ scT p t h ↔ exT p t g ≤ exT p t h := by
  have d := den_pos t
  rw [← Rat.intCast_le_intCast, scT_ex, scT_ex]
  constructor
  · intro h
    exact Rat.not_lt.mp fun c => by
      have := Rat.mul_lt_mul_of_pos_right c d
      grind
  · intro h; exact Rat.mul_le_mul_of_nonneg_right h (Rat.le_of_lt d)
theorem all_le (b : BestP p r) (hp : PanOk m p) {g : List Nat} (hg : g ∈ upG p) : exT p t g ≤ exT p t (above p r t) := by
  refine Rat.le_trans (up_le b hp hg) ?_
  rw [exT_above b]
  unfold above
  rw [sm_if]
  exact sm_le (pw_le hp g)
theorem above_mx (b : BestP p r) (hp : PanOk m p) : above p r t ∈ mxG p t := by
  refine List.mem_filter.mpr ⟨above_up b hp, List.all_eq_true.mpr fun h hh => decide_eq_true ((sc_le _ _).mpr (all_le b hp hh))⟩
theorem least_mx (b : BestP p r) (hp : PanOk m p) : atLeast p r t ∈ mxG p t := by
  refine List.mem_filter.mpr ⟨least_up b hp, List.all_eq_true.mpr fun h hh => decide_eq_true ((sc_le _ _).mpr ?_)⟩
  rw [exT_least b hp, ← exT_above b]
  exact all_le b hp hh
theorem mx_mem (b : BestP p r) (hp : PanOk m p) {g : List Nat} (hg : g ∈ mxG p t) : ∀ i, i < p.its.length → (t < r i → i ∈ g) ∧ (r i < t → i ∉ g) := by
  have g1 := List.mem_filter.mp hg
  have le := (sc_le _ _).mp (of_decide_eq_true (List.all_eq_true.mp g1.2 _ (above_up (t := t) b hp)))
  have l2 := up_le (t := t) b hp g1.1
  rw [exT_above b] at le
  unfold above at le
  rw [sm_if] at le
  have z := sm_all0 (d := fun i => (if decide (t < r i) = true then wR p i * (r i - t) else 0) - (if inB g i = true then wR p i * (r i - t) else 0)) (l := List.range p.its.length) (fun i hi => by have := pw_le (r := r) (t := t) hp g i hi; grind) (by rw [sm_sub]; grind)
  intro i hi
  have zi := z i (List.mem_range.mpr hi)
  have w := wR_pos' hp i (List.mem_range.mpr hi)
  simp only [decide_eq_true_eq] at zi
  constructor
  · intro h
    rw [if_pos h] at zi
    by_cases a : inB g i = true
    · exact of_decide_eq_true a
    · rw [if_neg a] at zi
      have := Rat.mul_pos w (show 0 < r i - t by grind)
      grind
  · intro h hm
    have a : inB g i = true := decide_eq_true hm
    rw [if_neg (by grind), if_pos a] at zi
    have := Rat.mul_pos w (show 0 < t - r i by grind)
    grind
theorem topIn_eq (b : BestP p r) (hp : PanOk m p) : topIn p t = above p r t := by
  refine List.filter_congr fun i hi => ?_
  have hi := List.mem_range.mp hi
  rw [Bool.eq_iff_iff, decide_eq_true_eq, List.all_eq_true]
  constructor
  · intro h
    have := of_decide_eq_true (h _ (above_mx b hp))
    exact of_decide_eq_true (List.mem_filter.mp this).2
  · intro h g hg
    exact decide_eq_true ((mx_mem b hp hg i hi).1 h)
theorem topOut_eq (b : BestP p r) (hp : PanOk m p) : topOut p t = atLeast p r t := by
  refine List.filter_congr fun i hi => ?_
  have hi' := List.mem_range.mp hi
  rw [Bool.eq_iff_iff, decide_eq_true_eq, List.any_eq_true]
  constructor
  · rintro ⟨g, hg, h⟩
    exact Rat.not_lt.mp fun c => (mx_mem b hp hg i hi').2 c (of_decide_eq_true h)
  · intro h
    exact ⟨_, least_mx b hp, decide_eq_true (List.mem_filter.mpr ⟨hi, decide_eq_true h⟩)⟩
end
end Pm

set_option Elab.async false
set_option linter.all false
set_option maxRecDepth 100000
set_option maxHeartbeats 1000000
set_option autoImplicit false
namespace Pm
open PySem PySem.Spec
open L2
def revP (p : Pan) : Pan := ⟨p.its.map fun q => (0 - q.1, q.2), p.rus.map fun q => (q.2, q.1)⟩
theorem revP_len (p : Pan) : (revP p).its.length = p.its.length := List.length_map ..
theorem revP_ok {m : Nat} {p : Pan} (hp : PanOk m p) : PanOk m (revP p) := by
  refine ⟨by rw [revP_len]; exact hp.one, by rw [revP_len]; exact hp.top, fun q hq => ?_, by show (p.rus.map _).length ≤ 16; rw [List.length_map]; exact hp.few, fun q hq => ?_⟩
  · obtain ⟨a, ha, rfl⟩ := List.mem_map.mp hq
    obtain ⟨h1, h2, h3, h4⟩ := hp.it a ha
    exact ⟨by show -(10 ^ 9) ≤ 0 - a.1; omega, by show 0 - a.1 ≤ 10 ^ 9; omega, h3, h4⟩
  · obtain ⟨a, ha, rfl⟩ := List.mem_map.mp hq
    obtain ⟨h1, h2, h3, h4, h5⟩ := hp.ru a ha
    rw [revP_len]
    exact ⟨h3, h4, h1, h2, fun e => h5 e.symm⟩
theorem revP_e {p : Pan} {a b : Nat} : eE (revP p) a b ↔ eE p b a := by
  unfold eE revP
  constructor
  · intro h
    obtain ⟨⟨x, y⟩, hx, e⟩ := List.mem_map.mp h
    cases e; exact hx
  · intro h
    exact List.mem_map.mpr ⟨_, h, rfl⟩
theorem revP_w {p : Pan} {i : Nat} (h : i < p.its.length) : wR (revP p) i = wR p i ∧ mR (revP p) i = -mR p i := by
  unfold wR mR revP
  simp only [List.getD_eq_getElem?_getD, List.getElem?_map, List.getElem?_eq_getElem h]
  refine ⟨rfl, ?_⟩
  show ((0 - p.its[i].1 : Int) : Rat) = -((p.its[i].1 : Int) : Rat)
  rw [Int.zero_sub, Rat.intCast_neg]
theorem BestP.rev {m : Nat} {p : Pan} {f : Nat → Rat} (hp : PanOk m p) (b : BestP p f) : BestP (revP p) fun i => -f i := by
  have tot := Best.all b
  have comp : ∀ U : Nat → Bool, sm (fw (mR (revP p)) (wR (revP p)) fun i => -f i) ((List.range (revP p).its.length).filter U) = sm (fw (mR p) (wR p) f) ((List.range p.its.length).filter fun i => !U i) := fun U => by
    have sp := sm_split (fw (mR p) (wR p) f) U (List.range p.its.length)
    rw [tot] at sp
    have e : sm (fw (mR (revP p)) (wR (revP p)) fun i => -f i) ((List.range (revP p).its.length).filter U) = (-1) * sm (fw (mR p) (wR p) f) ((List.range p.its.length).filter U) := by
      rw [revP_len, ← sm_mul]
      refine sm_congr fun i hi => ?_
      have hi := List.mem_range.mp (List.mem_filter.mp hi).1
      obtain ⟨e1, e2⟩ := revP_w hi
      unfold fw
      rw [e1, e2]; grind
    rw [e]; grind
  refine ⟨fun a c e => ?_, fun U hU => ?_, fun U hU => ?_⟩
  · have := b.ob _ _ (revP_e.mp e)
    show -f a ≤ -f c
    grind
  · rw [comp]
    refine b.up _ fun x y e hx => ?_
    by_cases hy : U y = true
    · have := hU y x (revP_e.mpr e) hy
      rw [this] at hx; cases hx
    · simpa using hy
  · rw [comp]
    refine b.lv _ fun x y e hx => ?_
    by_cases hy : U y = true
    · have := hU y x (by simp only; grind) hy
      rw [this] at hx; cases hx
    · simpa using hy
theorem geI_neg (n : Nat) (f : Nat → Rat) (i : Nat) : geI n (fun i => -f i) i = leI n f i := List.filter_congr fun j _ => by
  congr 1
  rw [decide_eq_decide]
  constructor <;> intro h <;> grind
theorem leI_neg (n : Nat) (f : Nat → Rat) (i : Nat) : leI n (fun i => -f i) i = geI n f i := List.filter_congr fun j _ => by
  congr 1
  rw [decide_eq_decide]
  constructor <;> intro h <;> grind
theorem frD_neg (x : Rat) : frD (-x) = .tup [.int (0 - x.num), .int x.den] := by
  unfold frD
  rw [Rat.neg_num, Rat.neg_den, Int.zero_sub]
end Pm

set_option Elab.async false
set_option linter.all false
set_option maxRecDepth 100000
set_option maxHeartbeats 1000000
set_option autoImplicit false
namespace Pm
open PySem PySem.Spec
open PyProof.Rows hiding St
open L2
section
variable {γ : Type} {X : Cx} {G : GP γ} {a b c : Expr} {pos : Pos}
theorem MatL.grow {F : Fra} {Z : Hp} {s : S γ} {σ : L2.St} {H H' : Hp} {l : L} {v : V} (m : MatL G F Z s σ H l v) (k : Same H H') : MatL G F Z s σ H' l v := by
  cases l with
  | val d => exact m
  | own ds =>
    obtain ⟨a, us, e, h1, h⟩ := m
    exact ⟨a, us, e, k _ _ h1, h⟩
theorem qs_parC3 {i j l : Nat} {x y z : Str} {ta : PMx γ} {px py pz pt : Pos} {kt k2 pt2} (hc : X.calm = true) (hN : X.N.Nodup) (hi : X.N[i]? = some x) (hj : X.N[j]? = some y) (hl : X.N[l]? = some z)
    (hx : Loc X.env.scope x) (hy : Loc X.env.scope y) (hz : Loc X.env.scope z) (ha : QM X G [a, b, c] ta)
    (fx : X.fn x = true ∨ X.env.scope.names.lookup x = some .local) (fy : X.fn y = true ∨ X.env.scope.names.lookup y = some .local) (fz : X.fn z = true ∨ X.env.scope.names.lookup z = some .local)
    (hs : swapsWithSole [.Tuple [.Name x px, .Name y py, .Name z pz] kt pt] (.Tuple [a, b, c] k2 pt2) pos.line X.env = pure false := by rfl)
    (hw : swappedStores [.Tuple [.Name x px, .Name y py, .Name z pz] kt pt] (.Tuple [a, b, c] k2 pt2) X.env = pure none := by rfl) :
    QS X G (.Assign [.Tuple [.Name x px, .Name y py, .Name z pz] kt pt] (.Tuple [a, b, c] k2 pt2) pos) (qParM3 i j l ta) := by
  refine PS.imp (ps_asg (pe_tup ha) (pg_tup hc (pgs_cons (pg_name hN hi hx fx) (pgs_cons (pg_name hN hj hy fy) (pgs_cons (pg_name hN hl hz fz) pgs_nil)))) hs hw) fun De σ H ⟨F, Z, s, E, r, t, n, _⟩ => ?_
  refine ⟨F, Z, s, _, r, t, fun ls s1 Z1 vs H1 t1 k1 r1 m1 ap => ?_⟩
  match ls, t1 with
  | [d, e, f], t1 =>
    obtain ⟨v, _, rfl, m2, w, _, rfl, m3, u, _, rfl, m4, rfl⟩ := m1
    obtain ⟨p1, p2, p3⟩ := apart3 ap
    refine ⟨by show 3 ≤ sizeLine; decide, fun p hp => ⟨p, _, rfl, .inl (.inl upd_same), rfl, v, _, rfl, w, _, rfl, u, _, rfl, rfl, n _ Z1 _ _ t1 k1 ?_⟩⟩
    have k := same_upd (o := HO.tup [v, w, u]) hp
    have rg := r1.grow k
    have ra := rg.putL (i := i) (m2.grow k)
    have ma := (m3.grow k).after (i := i) (l' := d) (v' := v) rg.len.symm p1
    have mb := (m4.grow k).after (i := i) (l' := d) (v' := v) rg.len.symm p2
    exact (ra.putL ma).putL (mb.after ra.len.symm p3)
end
end Pm

set_option Elab.async false
set_option linter.all false
set_option maxRecDepth 100000
set_option maxHeartbeats 3200000
set_option autoImplicit false
namespace Pm
open PySem PySem.Spec PySem.W
open PyProof.Rows hiding St
open L2
abbrev sob (w : World) : Obj := { cls := .type "set", dict := none, data := .set #[] 0 (.fresh 0 0 (!w.params.followText "set-order")) }
section
variable {P : Program} {w : World} {A : Around} {E : Value → Shared → Prop} {s : Shared}
theorem call_set_lst {l : Addr} {xs : Array Value} (ns : List Int) {Q : Value → Shared → Prop} (hh : A.handled = none) (hl : s.heap.IsList l xs) (hit : IntsAre xs.toList ns) (hb : ns.length + 1 < scanBound)
    (h : ∀ (h' : Heap) (tk c : Nat), SetR w h' s.heap.objs.size (fun j => decide (j ∈ ns)) c → c ≤ ns.length → (∀ b o, s.heap.get? b = some o → h'.get? b = some o) → Q (.ref s.heap.objs.size) { s with heap := h', toks := tk }) :
    wpAny (model P w) A (call (.type "set") [.ref l]) Q E s := by
  have sz : xs.size = ns.length := by
    have q := IntsAre.length hit
    rwa [Array.length_toList] at q
  obtain ⟨c0, tl0, mro0⟩ := F.called_set.mro
  have made0 := F.called_set.made
  have sub0 := F.called_set.sub
  refine wpAny_call (codeAny_of_tree (?_))
  show wpAny _ _ (callAny (.type "set") (_)) _ _ _
  refine wpAny_pure ⟨Code.quiet_builtin (_) (by decide +kernel), codeAny_builtin F.entry_type_call (?_)⟩
  rw [Around.under_plain (weight_type_call_type "set" [.ref l] ([])) rfl]
  have c1 := F.called_set.notType
  have c2 := F.called_set.canCreate
  have c3 := F.typeCall_set_1 (.ref l)
  repeat (any_goals first | assumption | wp_step)
  refine codeAny_mono (code_set_led1 (.ref l) (E := E) (Q₁ := fun obj s₁ => obj = .ref s.heap.objs.size ∧ s₁ = { s with heap := s.heap.push (sob w) }) ⟨rfl, rfl⟩) fun r s₁ hr => (?_)
  cases r with
  | error e => exact hr
  | ok fl =>
    cases fl with
    | ret obj =>
      obtain ⟨rfl, rfl⟩ := hr
      have gS : (s.heap.push (sob w)).get? s.heap.objs.size = some (sob w) := Heap.get?_push_size _ rfl
      have tS : Shared.TypeIs { s with heap := s.heap.push (sob w) } (.ref s.heap.objs.size) "set" := ⟨_, gS, rfl⟩
      have li := F.called_set.init.lookup
      have bi := F.called_set.init.bind (.ref s.heap.objs.size)
      repeat (any_goals first | assumption | wp_step)
      refine codeAny_mono (codeAny_call_builtin (R := wants (fun r s₂ => r = .none ∧ ∃ h' tk c, s₂ = { s with heap := h', toks := tk } ∧ SetR w h' s.heap.objs.size (fun j => decide (j ∈ ns)) c ∧ c ≤ ns.length ∧ (∀ b o, s.heap.get? b = some o → h'.get? b = some o)) E) F.called_set.init.plain F.entry_set_init (check_set_init_1 tS (?_))) fun r₂ s₂ hr₂ => (?_)
      · obtain ⟨ol, gl, cl, nl, dl⟩ := hl
        obtain ⟨ocls, odict, odata, oslots⟩ := ol
        simp only at cl dl
        subst cl; subst dl
        have gl' : (s.heap.push (sob w)).get? l = some { cls := .type "list", dict := odict, data := .seq xs nl, slots := oslots } := Heap.get?_push_of_some _ gl
        have s1 := F.sub_list_set
        have s2 := F.sub_list_frozenset
        have ne : (Value.type "list" == Value.type "dict") = false := by decide
        have hl1 : (s.heap.push (sob w)).IsList l xs := ⟨_, gl', rfl, nl, rfl⟩
        unfold Builtin.«set.__init__» noKeywords Builtin.Frozenset.updateFrom
        generalize hPI : pyIter = PI
        wp_walk
        subst hPI
        refine wpAny_pyIter_list hl1 (?_)
        refine wpAny_bind (wpAny_runValue (?_))
        have lS : l < s.heap.objs.size := Heap.lt_size gl
        have h3 : A.in1.in1.in1.handled = none := by simp [hh]
        have nI : l ≠ (s.heap.push (sob w)).objs.size := by rw [Heap.size_push]; exact Nat.ne_of_lt (Nat.lt_succ_of_lt lS)
        have nS : s.heap.objs.size ∉ [(s.heap.push (sob w)).objs.size, l] := by
          rw [Heap.size_push]; simp only [List.mem_cons, List.not_mem_nil, or_false, not_or]
          exact ⟨Nat.ne_of_lt (Nat.lt_succ_self _), Nat.ne_of_gt lS⟩
        have hv : ∀ (i : Nat) (v : Value), xs[i]? = some v → ∃ k t, ns[i]? = some k ∧ v = .int k t := fun i v hv => by
          have hi : i < ns.length := by rw [← sz]; exact (Array.getElem?_eq_some_iff.mp hv).1
          obtain ⟨t, e⟩ := PyProof.Rows.IntsAre.int_at hit i v (by rw [Array.getElem?_toList]; exact hv)
          exact ⟨ns[i], t, List.getElem?_eq_getElem hi, by rw [e, List.getD_eq_getElem?_getD, List.getElem?_eq_getElem hi] <;> rfl⟩
        refine set_update_ints ((Walks.list h3 _ l nI xs).toS) s.heap.objs.size nS ns sz hb hv (xs.size - 0) 0 _ (by omega) (Nat.zero_le _) ⟨⟨_, Heap.get?_push_size _ rfl, rfl, rfl⟩, (hl1.push _)⟩ ?hS0 ?hR
        case hS0 =>
          have hg : ((s.heap.push (sob w)).push { cls := .type "list_iterator", data := .fields #[.ref l, .int 0 0] }).get? s.heap.objs.size = some (sob w) := Heap.get?_push_of_some _ gS
          exact ⟨0, Nat.le_refl 0, setR_new_at hg⟩
        case hR =>
          intro s' c' hm hc' hS'
          obtain ⟨h', g2, d', tk', os'⟩ := s'
          have eg : g2 = s.gens := hm.gens
          have ed : d' = s.drawn := hm.drawn
          have eo : os' = s.os := hm.os
          subst eg; subst ed; subst eo
          show wpAny _ _ _ _ _ _
          refine wpAny_pure (?_)
          show wpAny _ _ (ret Value.none) _ _ _
          rw [sz] at hc'
          refine wpAny_pure ⟨rfl, h', tk', c', rfl, hS', hc', fun b o e => (?_)⟩
          have b0 : b < s.heap.objs.size := Heap.lt_size e
          have b1 : b ≠ s.heap.objs.size := Nat.ne_of_lt b0
          have b2 : b ≠ (s.heap.push (sob w)).objs.size := by rw [Heap.size_push]; exact Nat.ne_of_lt (Nat.lt_succ_of_lt b0)
          exact hm.heap b o (by simp only [List.mem_cons, List.not_mem_nil, or_false, not_or]; exact ⟨b1, b2⟩) (Heap.get?_push_of_some _ (Heap.get?_push_of_some _ e))
      · cases r₂ with
        | error e => exact hr₂
        | ok f2 =>
          cases f2 with
          | ret r =>
            obtain ⟨rfl, h', tk, c', rfl, q1, q2, q3⟩ := hr₂
            repeat (any_goals first | assumption | wp_step)
            exact h _ _ _ q1 q2 q3
          | _ => exact hr₂.elim
    | _ => exact hr.elim
end
theorem nodup_leS : ∀ (l m : List Int), l.Nodup → (∀ k ∈ l, k ∈ m) → l.length ≤ m.length
  | [], m, _, _ => Nat.zero_le _
  | x :: l, m, hn, hs => by
    obtain ⟨h1, h2⟩ := List.nodup_cons.mp hn
    have hx := hs x (by simp)
    have ih := nodup_leS l (m.erase x) h2 fun k hk => (List.mem_erase_of_ne (fun e => h1 (by rw [← e]; exact hk))).mpr (hs k (by simp [hk]))
    rw [List.length_erase_of_mem hx] at ih
    have := List.length_pos_of_mem hx
    simp only [List.length_cons]; omega
theorem setR_few {w : World} {h : Heap} {a : Addr} {ns m : List Int} {c : Nat} (R : SetR w h a (fun j => decide (j ∈ ns)) c) (hm : ∀ k ∈ ns, k ∈ m) : c ≤ m.length := by
  obtain ⟨o, es, ep, t, _, _, _, _, nd, mem, _, _, hc, _⟩ := R
  have := nodup_leS (es.toList.map keyOf) m nd fun k hk => hm k (of_decide_eq_true ((mem k).mpr hk))
  rw [List.length_map, Array.length_toList] at this
  omega
section
variable {X : Cx}
def tSortSetL (K : PySem.W.Frag) (ta : TE) : TE := fun σ H Q => ta σ H fun x H1 => ∃ (l : Addr) (ns : List Int), x = V.ref l ∧ SqL K H1 l (ns.map V.int) ∧ ns.length ≤ 4000 ∧ (∃ m : List Int, (∀ k ∈ ns, k ∈ m) ∧ m.length < 64) ∧
  ∀ (out : List Int) (p : Addr), out.Pairwise (· < ·) → (∀ k, k ∈ out ↔ k ∈ ns) → H1 p = none → Q (.ref p) (upd H1 p (.lst (out.map V.int)))
theorem pe_sortSetL {a : Expr} {ta : TE} {p p2 q pos : Pos} (hc : X.calm = true) (hg : Gl X "sorted") (hm : X.mg "sorted" = none) (hg2 : Gl X "set") (hm2 : X.mg "set" = none) (ha : PE X a ta)
    (na : starEach [a] X.env = (false, eval a X.env) :: starEach [] X.env := by rfl) : PE X (.Call (.Name "sorted" p) [.Call (.Name "set" p2) [a] [] q] [] pos) (tSortSetL X.K ta) := by
  refine ⟨fun pins s σ H Q I h => ?_⟩
  refine Call_ (ld_blt I hg hm PyProof.Rows.boot_sorted ?_)
  refine PyProof.Rows.callWith_builtin1 (PyProof.Rows.args_cons ?_ rfl) rfl rfl
  refine Call_ (ld_blt I hg2 hm2 PyProof.Rows.boot_set ?_)
  refine PyProof.Rows.callWith_type1 (PyProof.Rows.args_cons (thn (ha.run pins s σ H _ I h) fun v s1 ⟨x, H1, I1, r1, q1⟩ => PyProof.Rows.args_nil ?_) na) na rfl
  obtain ⟨l, ns, rfl, hq, h1, ⟨m, hm1, hm2⟩, q1⟩ := q1
  cases r1
  obtain ⟨its, r, pt, hz⟩ := I1.list hq
  have hd := I1.ok.hd hc
  refine call_set_lst ns hd (show s1.heap.IsList l its.toArray from pt.isList) (by simpa using r.ints) (by unfold scanBound; omega) fun h' tk c R1 hcn k => ?_
  refine PyProof.Rows.args_nil ?_
  have I2 : Inv X pins σ H1 { s1 with heap := h', toks := tk } := I1.kept k
  have few := setR_few R1 hm1
  refine sorted_set R1 hd (by omega) fun s' p out c' ns' k2 g o hp hget hi hpw hmem hlen => ?_
  have hn : H1 p = none := I2.hok.fresh hp
  have hl : (ns'.map V.int).length ≤ sizeLine := by rw [List.length_map, sizeLine_eq]; omega
  have J : Inv X pins σ (upd H1 p (.lst (ns'.map V.int))) { ({ s1 with heap := h', toks := tk } : Shared) with heap := s'.heap, gens := s'.gens, drawn := s'.drawn, toks := s'.toks } :=
    I2.call (ch := []) (Un.laid k2 hp hn) (I2.hok.laid k2 hp ⟨hl, out.toList, c', vals_of_ints hi, hget⟩) (by rw [g]; exact I2.bare) (fun _ z => nomatch z)
  have e : s' = { ({ s1 with heap := h', toks := tk } : Shared) with heap := s'.heap, gens := s'.gens, drawn := s'.drawn, toks := s'.toks } := by
    cases s'
    cases s1
    cases o
    rfl
  rw [e]
  exact ⟨.ref p, _, J, rfl, q1 ns' p hpw (fun k => by rw [hmem k, decide_eq_true_eq]) hn⟩
end
section
variable {γ : Type} {X : Cx} {G : GP γ}
def qSortSetL (te : PEx γ) : PAx γ := fun s R => te s fun d s1 => match d with
  | .lst xs => ∃ ns, asInts xs = some ns ∧ ns.length ≤ 4000 ∧ (∃ m : List Int, (∀ k ∈ ns, k ∈ m) ∧ m.length < 64) ∧ ∀ out : List Int, out.Pairwise (· < ·) → (∀ k, k ∈ out ↔ k ∈ ns) → R (out.map D.int) s1
  | _ => False
theorem qf_sortSetL {a : Expr} {te : PEx γ} {p p2 q pos : Pos} (hc : X.calm = true) (hg : Gl X "sorted") (hm : X.mg "sorted" = none) (hg2 : Gl X "set") (hm2 : X.mg "set" = none) (ha : QE X G a te) (hK : G.K = X.K := by rfl)
    (na : starEach [a] X.env = (false, eval a X.env) :: starEach [] X.env := by rfl) : QF X G (.Call (.Name "sorted" p) [.Call (.Name "set" p2) [a] [] q] [] pos) (qSortSetL te) := by
  refine PE.imp (pe_sortSetL hc hg hm hg2 hm2 ha na) fun σ H Q ⟨F, Z, s, R, r, t, q⟩ => ?_
  refine ⟨F, Z, s, _, r, t, fun d s1 Z1 v H1 t1 k1 r1 a1 => ?_⟩
  match d, t1 with
  | .lst xs, ⟨ns, e, hl, hm', t1⟩ =>
    obtain ⟨l, vs, rfl, a2, a3⟩ := a1
    rw [asInts_eq e] at a3
    rw [a3.ints] at a2
    refine ⟨l, ns, rfl, .inl (.inl (r1.z _ _ a2)), hl, hm', fun out p hp hm hn => ?_⟩
    obtain ⟨f1, f2, f3, f4⟩ := r1.fresh hn
    exact q _ s1 Z1 p _ _ (t1 out hp hm) k1 (r1.grow (same_upd hn)) upd_same (Ats.of_ints out) f1 f2 f3 f4
end
end Pm

set_option Elab.async false
set_option linter.all false
set_option maxRecDepth 100000
set_option maxHeartbeats 1000000
set_option autoImplicit false
namespace Pm
open PySem PySem.Spec
open PyProof.Rows hiding St
open L2
mutual
def D.plz : D → Bool
  | .non => true
  | .bl _ => true
  | .int _ => true
  | .str x => PyData.strOk x
  | .lst xs => D.plzs xs
  | .tup xs => D.plzs xs
  | .dct ks xs => ks.isEmpty && xs.isEmpty
  | .obj _ => false
def D.plzs : List D → Bool
  | [] => true
  | d :: ds => d.plz && D.plzs ds
end
mutual
theorem plz_pln : ∀ d : D, d.pln = true → d.plz = true
  | .non, _ => rfl
  | .bl _, _ => rfl
  | .int _, _ => rfl
  | .str _, h => h
  | .lst xs, h => plzs_plns xs h
  | .tup xs, h => plzs_plns xs h
  | .dct _ _, h => by cases h
  | .obj _, h => by cases h
theorem plzs_plns : ∀ ds : List D, D.plns ds = true → D.plzs ds = true
  | [], _ => rfl
  | d :: ds, h => by
    simp only [D.plns, Bool.and_eq_true] at h
    simp only [D.plzs, Bool.and_eq_true]
    exact ⟨plz_pln d h.1, plzs_plns ds h.2⟩
end
theorem plzs_iff {ds : List D} : D.plzs ds = true ↔ ∀ d ∈ ds, d.plz = true := by
  induction ds with
  | nil => simp [D.plzs]
  | cons d ds ih => simp [D.plzs, ih]
mutual
theorem dep_pyZ : ∀ (d : D), d.plz = true → d.py.depth ≤ d.dep
  | .lst xs, h => by
    have := deps_pyZ xs h
    simp only [D.py, PyData.depth, D.dep]; omega
  | .tup xs, h => by
    have := deps_pyZ xs h
    simp only [D.py, PyData.depth, D.dep]; omega
  | .non, h => by simp [D.py, PyData.depth, D.dep]
  | .bl _, h => by simp [D.py, PyData.depth, D.dep]
  | .int _, h => by simp [D.py, PyData.depth, D.dep]
  | .str _, h => by simp [D.py, PyData.depth, D.dep]
  | .dct ks xs, h => by
    simp only [D.plz, Bool.and_eq_true, List.isEmpty_iff] at h
    obtain ⟨rfl, rfl⟩ := h
    simp [D.py, PyData.depth, D.dep, D.pys, D.deps, PyData.depthKv]
  | .obj _, h => by cases h
theorem deps_pyZ : ∀ (ds : List D), D.plzs ds = true → PyData.depthAll (D.pys ds) ≤ D.deps ds
  | [], _ => by simp [D.pys, PyData.depthAll, D.deps]
  | d :: ds, h => by
    simp only [D.plzs, Bool.and_eq_true] at h
    have h1 := dep_pyZ d h.1
    have h2 := deps_pyZ ds h.2
    simp only [D.pys, PyData.depthAll, D.deps]; omega
end
mutual
theorem shown_widZ : ∀ d : D, d.plz = true → d.py.showable = true → d.py.shown.length ≤ d.wid
  | .non, _, _ => by show (4 : Nat) ≤ 8; decide
  | .bl b, _, _ => by cases b <;> (show (_ : Nat) ≤ 8; decide)
  | .int i, h, k => shown_wid (.int i) rfl k
  | .str x, h, k => shown_wid (.str x) h k
  | .lst xs, h, k => by
    show (listText (PyData.shownAll (D.pys xs))).length ≤ D.wids xs + 8
    have h1 := listText_len (PyData.shownAll (D.pys xs))
    have h2 := showns_widZ xs h k
    omega
  | .tup xs, h, k => by
    show (tupleText (PyData.shownAll (D.pys xs))).length ≤ D.wids xs + 8
    have h1 := tupleText_len (PyData.shownAll (D.pys xs))
    have h2 := showns_widZ xs h k
    omega
  | .dct ks xs, h, _ => by
    simp only [D.plz, Bool.and_eq_true, List.isEmpty_iff] at h
    obtain ⟨rfl, rfl⟩ := h
    show (2 : Nat) ≤ 8
    decide
  | .obj _, h, _ => by cases h
theorem showns_widZ : ∀ ds : List D, D.plzs ds = true → PyData.showableAll (D.pys ds) = true → piled (PyData.shownAll (D.pys ds)) ≤ D.wids ds
  | [], _, _ => Nat.le_refl _
  | d :: ds, h, k => by
    simp only [D.plzs, Bool.and_eq_true] at h
    have k' : (d.py.showable && PyData.showableAll (D.pys ds)) = true := k
    rw [Bool.and_eq_true] at k'
    have h1 := shown_widZ d h.1 k'.1
    have h2 := showns_widZ ds h.2 k'.2
    show piled (d.py.shown :: PyData.shownAll (D.pys ds)) ≤ d.wid + 8 + D.wids ds
    rw [piled_cons]; omega
end
def sysB (K : PySem.W.Frag) : Bool := match K.lookup sysModules with
  | some o => (match o.data with | .dict _ _ => true | _ => false)
  | none => false
section
variable {X : Cx} {pins : List (Addr × Obj)} {σ : St} {Z H : Hp} {s : Shared}
theorem sys_ne {K : PySem.W.Frag} {h : Heap} (k : sysB K = true) (i : K.In h) {a : Addr} {o : Obj} {xs : Array Value} {n : Nat} (e : h.get? a = some o) (d : o.data = .seq xs n) : sysModules ≠ a := fun q => by
  unfold sysB at k
  cases z : K.lookup sysModules with
  | none => rw [z] at k; cases k
  | some u =>
    have e2 := i _ _ z
    rw [q, e] at e2
    cases e2
    rw [z] at k
    simp only [d] at k
    cases k
mutual
theorem At.readsZ (k0 : sysB X.K = true) (I : Inv X pins σ H s) (k : Same Z H) : ∀ (d : D) (v : V) (u : Value), At X.K Z d v → d.plz = true → RelV v u → ∃ as, Reads s.heap u d.py as ∧ sysModules ∉ as
  | .non, _, _, h, _, r => by
    simp only [At] at h; subst h; cases r
    exact ⟨_, Reads.none, by simp⟩
  | .bl b, _, _, h, _, r => by
    simp only [At] at h; subst h; cases r
    exact ⟨_, Reads.bool b, by simp⟩
  | .int i, _, _, h, _, r => by
    simp only [At] at h; subst h
    obtain ⟨t, rfl⟩ := r
    exact ⟨_, Reads.int i t, by simp⟩
  | .str x, _, _, h, _, r => by
    simp only [At] at h; subst h
    obtain ⟨t, rfl⟩ := r
    exact ⟨_, Reads.str x t, by simp⟩
  | .lst xs, v, u, h, p, r => by
    simp only [At] at h
    obtain ⟨a, vs, rfl, h2, h3⟩ := h
    cases r
    obtain ⟨its, rv, ⟨o, n, ho, hc, _, hd⟩, _⟩ := I.list (.inl (.inl (k _ _ h2)) : SqL X.K H a vs)
    obtain ⟨as, hr, hn⟩ := Ats.readsZ k0 I k xs vs its h3 p rv
    refine ⟨_, Reads.list ho hc hd hr, ?_⟩
    rw [List.mem_cons, not_or]
    exact ⟨sys_ne k0 I.kIn ho hd, hn⟩
  | .tup xs, v, u, h, p, r => by
    simp only [At] at h
    obtain ⟨a, vs, rfl, h2, h3⟩ := h
    cases r
    obtain ⟨its, rv, ⟨o, ho, hc, n, hd⟩, _⟩ := I.tuple (seqT k h2)
    obtain ⟨as, hr, hn⟩ := Ats.readsZ k0 I k xs vs its h3 p rv
    exact ⟨_, Reads.tuple ho hc hd hr, hn⟩
  | .dct ks xs, v, u, h, p, r => by
    simp only [D.plz, Bool.and_eq_true, List.isEmpty_iff] at p
    obtain ⟨rfl, rfl⟩ := p
    simp only [At] at h
    obtain ⟨a, kvs, rfl, h2, h3, _⟩ := h
    cases r
    have : kvs = [] := List.map_eq_nil_iff.mp h3
    subst this
    obtain ⟨_, hm, vs, rel, o, es, ep, ho, hx, hd, _, hp, _⟩ := dk_of I.hok (k _ _ h2)
    cases rel
    have he : es.toList = [] := by cases h : es.toList with
      | nil => rfl
      | cons _ _ => rw [h] at hp; cases hp
    refine ⟨_, Reads.dict (kvs := []) ho hx.1 hd (by rw [he]; exact ReadsAll.nil) (by rw [he]; exact ReadsAll.nil), ?_⟩
    simp only [List.append_nil, List.mem_cons, List.not_mem_nil, or_false]
    exact fun e => by rw [← e] at hm; simp at hm
  | .obj _, _, _, _, p, _ => by cases p
theorem Ats.readsZ (k0 : sysB X.K = true) (I : Inv X pins σ H s) (k : Same Z H) : ∀ (ds : List D) (vs : List V) (us : List Value), Ats X.K Z ds vs → D.plzs ds = true → Vals vs us → ∃ as, ReadsAll s.heap us (D.pys ds) as ∧ sysModules ∉ as
  | [], vs, us, h, _, r => by
    simp only [Ats] at h; subst h
    cases r
    exact ⟨_, ReadsAll.nil, by simp⟩
  | d :: ds, vs, us, h, p, r => by
    simp only [Ats] at h
    obtain ⟨w, ws, rfl, h2, h3⟩ := h
    simp only [D.plzs, Bool.and_eq_true] at p
    cases r with
    | cons r1 r2 =>
      obtain ⟨as, q1, n1⟩ := At.readsZ k0 I k d w _ h2 p.1 r1
      obtain ⟨bs, q2, n2⟩ := Ats.readsZ k0 I k ds ws _ h3 p.2 r2
      exact ⟨_, ReadsAll.cons q1 q2, by rw [List.mem_append, not_or]; exact ⟨n1, n2⟩⟩
end
end
def ShZ (d : D) : Prop := d.plz = true ∧ d.py.showable = true ∧ d.dep ≤ 60 ∧ d.wid ≤ 10000000
def rprZ : D → DK → Prop := fun d R => ShZ d ∧ R (.str d.py.shown)
theorem c_reprZ {X : Cx} {k : Nat} (k0 : sysB X.K = true) (hr : Room k X.A) (hg : X.A.guards = some []) : CallR X (.builtin "repr") (dCall X.K (fn1 rprZ)) := c1 fun pins s σ H Z d v us Q R I r q a w hq => by
  obtain ⟨⟨p1, p2, p3, p4⟩, w3⟩ := w
  obtain ⟨u, rfl, ru⟩ : ∃ u, us = [u] ∧ RelV v u := by
    cases r with
    | cons r1 r2 => cases r2; exact ⟨_, rfl, r1⟩
  have sz : d.py.shown.length ≤ sizeLine := Nat.le_trans (shown_widZ d p1 p2) (Nat.le_trans p4 line_big)
  have fin : ∀ tk t, ∃ v' H', Inv X pins σ H' { s with toks := tk } ∧ RelV v' (Value.str d.py.shown t) ∧ Q v' H' := fun tk t =>
    ⟨.str _, H, I.kept (h' := s.heap) (t' := tk) (fun _ _ e => e), ⟨t, rfl⟩, dk hq q w3 rfl⟩
  have big : ∀ b, u = .ref b → wpAny (model X.prog X.w) X.A (call (.builtin "repr") [u]) (fun r s' => ∃ v' H', Inv X pins σ H' s' ∧ RelV v' r ∧ Q v' H') X.xe s := fun b e => by
    subst e
    obtain ⟨as, rd, hn⟩ := At.readsZ k0 I q d v _ a p1 ru
    have un := hr.un
    have dp := dep_pyZ d p1
    refine repr_of_reads' rd p2 (fun _ => hn) hg (by omega) (fun _ _ z => z) (fun h' u tk kp => ?_) sz
    exact ⟨.str _, H, I.kept (t' := tk) kp, ⟨u, rfl⟩, dk hq q w3 rfl⟩
  cases d with
  | non => simp only [At] at a; subst a; cases ru; exact P.repr_of_none (fin _ _)
  | bl b => simp only [At] at a; subst a; cases ru; exact P.repr_of_bool (fin _ _)
  | int i =>
    simp only [At] at a; subst a
    obtain ⟨t, rfl⟩ := ru
    exact P.repr_of_int (of_decide_eq_true p2) (fin _ _)
  | str x =>
    simp only [At] at a; subst a
    obtain ⟨t, rfl⟩ := ru
    exact P.repr_of_str (fin _ _) sz
  | lst xs => simp only [At] at a; obtain ⟨b, vs, rfl, _⟩ := a; cases ru; exact big b rfl
  | tup xs => simp only [At] at a; obtain ⟨b, vs, rfl, _⟩ := a; cases ru; exact big b rfl
  | dct ks xs => simp only [At] at a; obtain ⟨b, vs, rfl, _⟩ := a; cases ru; exact big b rfl
  | obj _ => cases p1
section
variable {γ : Type} {X : Cx} {G : GP γ} {pos : Pos}
theorem qe_dict0 : QE X G (.Dict [] [] pos) (qC (.dct [] []) : PEx γ) := by
  refine PE.imp pe_dnewK fun σ H Q ⟨F, Z, s, R, r, t, q⟩ p hp => ?_
  have hz := (r.fresh hp).1
  have k := same_upd (o := HO.dK []) hz
  exact q _ s (upd Z p (.dK [])) _ _ t k (r.new hp) ⟨p, [], rfl, upd_same, rfl, rfl⟩
end
def neED : D → D → DK → Prop
  | .tup xs, .tup [], R => R (.bl (!xs.isEmpty))
  | _, _, _ => False
theorem o_neE {X : Cx} {k : Nat} (hr : Room k X.A) : OpR X (compareOp .NotEq) (dOp2 X.K neED) := by
  intro pins s σ H x y v u Q I rx ry ⟨Z, d, e, R, k, ad, ae, h, q⟩
  cases d <;> try exact h.elim
  cases e <;> try exact h.elim
  rename_i xs ys
  cases ys with
  | cons _ _ => exact h.elim
  | nil =>
    simp only [At, Ats] at ad ae
    obtain ⟨a, vs, rfl, h2, h3⟩ := ad
    obtain ⟨b, ws, rfl, g2, rfl⟩ := ae
    cases rx
    cases ry
    obtain ⟨its, rv, it1, _⟩ := I.tuple (seqT k h2)
    obtain ⟨its2, rv2, it2, _⟩ := I.tuple (seqT k g2)
    cases rv2
    have ln : its.length = xs.length := by rw [← rv.length, h3.len]
    have un := hr.un
    refine SeqAt.RcNeAt.tuples (A := X.A) (e := fun _ => true) it1 it2 (by omega) (fun j h1 h2 => by simp at h2) X.prog X.w X.xe _ ?_
    have e : (!((List.range (min its.toArray.size ([] : List Value).toArray.size)).all (fun _ => true) && its.toArray.size == ([] : List Value).toArray.size)) = !xs.isEmpty := by
      have : (its.length == 0) = xs.isEmpty := by rw [ln]; cases xs <;> rfl
      simp only [List.size_toArray, List.length_nil, Nat.min_zero, List.range_zero, List.all_nil, Bool.true_and]
      rw [this]
    rw [e]
    exact ⟨.bl _, H, I, rfl, dk q k h rfl⟩
def obsSG (n : Nat) (fa : List He.Fa) (fn : List He.DefD) (ex : PySem.W.Frag → Bool) (g : Addr → Option Obj) : He.AlD × Bool := obsB fa fn ex (He.frG g (He.asD g n ++ [sysModules]))
def hookS (n : Nat) (fa : List He.Fa) (fn : List He.DefD) (ex : PySem.W.Frag → Bool) : PySem.W.Hook where
  α := He.AlD × Bool
  obs := fun s => obsSG n fa fn ex s.heap.get?
  val := fun _ => valB fn
  says := fun _ h => ∃ K : PySem.W.Frag, K.In h ∧ SaysB fa fn ex K
  of := fun _ _ e => ⟨_, He.frG_in, e⟩
  keeps := fun _ _ _ ⟨K, hK, c⟩ k => ⟨K, PySem.W.Frag.In.keeps hK k, c⟩
theorem obsSG_eq {n : Nat} {fa : List He.Fa} {fn : List He.DefD} {ex : PySem.W.Frag → Bool} {g : Addr → Option Obj} {s : Shared} (h : ∀ a, g a = s.heap.get? a) : obsSG n fa fn ex g = (hookS n fa fn ex).obs s := by
  have e : g = s.heap.get? := funext h
  rw [e] <;> rfl
end Pm

set_option Elab.async false
set_option linter.all false
set_option maxRecDepth 100000
set_option maxHeartbeats 1000000
set_option autoImplicit false
namespace Pm
open PySem PySem.Spec
open PyProof.Rows hiding St
open L2
def oddL : List D := [.non, .bl true, .bl false, .int 0, .int (-1), .int 1, .int 2, .int (10 ^ 29), .str "", .str "a", .str "up", .tup [], .lst [], .dct [] [], .tup [.int 0], .lst [.int 0], .tup [.tup []], .tup [.int 1, .int 2], .tup [.int 0, .int 1], .tup [.int 2, .int 4]]
inductive Chg : D → D → Prop
  | sub {xs : List D} {i : Nat} {x y : D} : xs[i]? = some x → Chg x y → Chg (.tup xs) (.tup (xs.set i y))
  | up (i : Int) : Chg (.int i) (.int (i + 1))
  | down (i : Int) : Chg (.int i) (.int (i - 1))
  | neg (i : Int) : Chg (.int i) (.int (0 - i))
  | one (i : Int) : Chg (.int i) (.bl (i == 1))
  | init (xs : List D) : Chg (.tup xs) (.tup xs.dropLast)
  | more (xs : List D) : Chg (.tup xs) (.tup (xs ++ xs.take 1))
  | lst (xs : List D) : Chg (.tup xs) (.lst xs)
  | rev (xs : List D) : Chg (.tup xs) (.tup xs.reverse)
  | odd (v : D) {d : D} : d ∈ oddL → Chg v d
mutual
def D.fit (b : Nat) : D → Prop
  | .int i => Sz b i
  | .lst xs => D.fits b xs
  | .tup xs => D.fits b xs
  | _ => True
def D.fits (b : Nat) : List D → Prop
  | [] => True
  | d :: ds => d.fit b ∧ D.fits b ds
end
theorem fits_iff {b : Nat} {ds : List D} : D.fits b ds ↔ ∀ d ∈ ds, d.fit b := by
  induction ds with
  | nil => simp [D.fits]
  | cons d ds ih => simp [D.fits, ih]
mutual
theorem D.fit.le {a b : Nat} (k : a ≤ b) : ∀ d : D, d.fit a → d.fit b
  | .int i, h => Sz.le (show Sz a i from h) k
  | .lst xs, h => D.fits.le k xs h
  | .tup xs, h => D.fits.le k xs h
  | .non, _ => trivial
  | .bl _, _ => trivial
  | .str _, _ => trivial
  | .dct _ _, _ => trivial
  | .obj _, _ => trivial
theorem D.fits.le {a b : Nat} (k : a ≤ b) : ∀ ds : List D, D.fits a ds → D.fits b ds
  | [], _ => trivial
  | d :: ds, h => ⟨D.fit.le k d h.1, D.fits.le k ds h.2⟩
end
mutual
theorem fit_show {b : Nat} (hb : b ≤ 1920) (h0 : 0 < b) : ∀ d : D, d.fit b → d.plz = true → d.py.showable = true
  | .int i, h, _ => decide_eq_true (((show Sz b i from h).le hb).log (by decide))
  | .lst xs, h, p => fits_show hb h0 xs h p
  | .tup xs, h, p => fits_show hb h0 xs h p
  | .non, _, _ => rfl
  | .bl _, _, _ => rfl
  | .str _, _, _ => rfl
  | .dct ks xs, _, p => by
    simp only [D.plz, Bool.and_eq_true, List.isEmpty_iff] at p
    obtain ⟨rfl, rfl⟩ := p
    rfl
  | .obj _, _, p => by cases p
theorem fits_show {b : Nat} (hb : b ≤ 1920) (h0 : 0 < b) : ∀ ds : List D, D.fits b ds → D.plzs ds = true → PyData.showableAll (D.pys ds) = true
  | [], _, _ => rfl
  | d :: ds, h, p => by
    simp only [D.plzs, Bool.and_eq_true] at p
    show (d.py.showable && PyData.showableAll (D.pys ds)) = true
    rw [fit_show hb h0 d h.1 p.1, fits_show hb h0 ds h.2 p.2]; rfl
end
structure VOk (b w k : Nat) (d : D) : Prop where
  z : d.plz = true
  f : d.fit b
  w : d.wid ≤ w
  k : d.dep ≤ k
theorem VOk.le {b w k b' w' k' : Nat} {d : D} (h : VOk b w k d) (h1 : b ≤ b') (h2 : w ≤ w') (h3 : k ≤ k') : VOk b' w' k' d := ⟨h.z, D.fit.le h1 d h.f, Nat.le_trans h.w h2, Nat.le_trans h.k h3⟩
theorem VOk.sh {b w k : Nat} {d : D} (h : VOk b w k d) (hb : b ≤ 1920 := by decide) (h0 : 0 < b := by decide) (hw : w ≤ 10000000 := by decide) (hk : k ≤ 60 := by decide) : ShZ d := ⟨h.z, fit_show hb h0 d h.f h.z, Nat.le_trans h.k hk, Nat.le_trans h.w hw⟩
theorem odd_ok {d : D} (h : d ∈ oddL) : VOk 100 4024 2 d := by
  have h : d ∈ oddL := h
  have all : ∀ d ∈ oddL, d.plz = true ∧ d.wid ≤ 4024 ∧ d.dep ≤ 2 := by
    have e : oddL.all (fun d => d.plz && decide (d.wid ≤ 4024) && decide (d.dep ≤ 2)) = true := by decide +kernel
    intro d hd
    have := List.all_eq_true.mp e d hd
    simpa [Bool.and_eq_true, and_assoc] using this
  obtain ⟨h1, h2, h3⟩ := all d h
  refine ⟨h1, ?_, h2, h3⟩
  unfold oddL at h
  simp only [List.mem_cons, List.not_mem_nil, or_false] at h
  rcases h with rfl | rfl | rfl | rfl | rfl | rfl | rfl | rfl | rfl | rfl | rfl | rfl | rfl | rfl | rfl | rfl | rfl | rfl | rfl | rfl
  all_goals first | exact trivial | (show Sz 100 _; unfold Sz; decide) | (refine ⟨?_, trivial⟩; show Sz 100 _; unfold Sz; decide) | (refine ⟨?_, ?_, trivial⟩ <;> (show Sz 100 _; unfold Sz; decide)) | exact ⟨trivial, trivial⟩
theorem wids_append : ∀ (xs ys : List D), D.wids (xs ++ ys) = D.wids xs + D.wids ys
  | [], ys => by simp [D.wids]
  | x :: xs, ys => by simp only [List.cons_append, D.wids, wids_append xs ys]; omega
theorem wids_rev : ∀ xs : List D, D.wids xs.reverse = D.wids xs
  | [] => rfl
  | x :: xs => by rw [List.reverse_cons, wids_append, wids_rev xs]; simp only [D.wids]; omega
theorem wids_take (n : Nat) (xs : List D) : D.wids (xs.take n) ≤ D.wids xs := by
  have := wids_append (xs.take n) (xs.drop n)
  rw [List.take_append_drop] at this; omega
theorem wids_set : ∀ {xs : List D} {i : Nat} {x y : D}, xs[i]? = some x → D.wids (xs.set i y) + x.wid = D.wids xs + y.wid
  | [], _, _, _, h => by simp at h
  | z :: xs, 0, x, y, h => by
    simp only [List.getElem?_cons_zero, Option.some.injEq] at h
    subst h
    simp only [List.set_cons_zero, D.wids]; omega
  | z :: xs, i + 1, x, y, h => by
    have := wids_set (xs := xs) (y := y) (by simpa using h)
    simp only [List.set_cons_succ, D.wids]; omega
theorem deps_le {xs : List D} {k : Nat} : D.deps xs ≤ k ↔ ∀ x ∈ xs, x.dep ≤ k := by
  induction xs with
  | nil => simp [D.deps]
  | cons x xs ih => simp only [D.deps, List.mem_cons, forall_eq_or_imp, ← ih]; omega
theorem VOk.of_tup {b w k : Nat} {xs : List D} (h : VOk b w (k + 1) (.tup xs)) : (∀ x ∈ xs, VOk b w k x) ∧ D.wids xs + 8 ≤ w := by
  have hw : D.wids xs + 8 ≤ w := h.w
  refine ⟨fun x hx => ⟨plzs_iff.mp h.z x hx, fits_iff.mp h.f x hx, ?_, ?_⟩, hw⟩
  · have := D.wids_mem hx; omega
  · have : D.deps xs + 1 ≤ k + 1 := h.k
    exact deps_le.mp (by omega) x hx
theorem VOk.to_tup {b w k : Nat} {xs : List D} (h : ∀ x ∈ xs, x.plz = true ∧ x.fit b ∧ x.dep ≤ k) (hw : D.wids xs + 8 ≤ w) : VOk b w (k + 1) (.tup xs) :=
  ⟨plzs_iff.mpr fun x hx => (h x hx).1, fits_iff.mpr fun x hx => (h x hx).2.1, hw, by show D.deps xs + 1 ≤ k + 1; have := deps_le.mpr fun x hx => (h x hx).2.2; omega⟩
theorem VOk.to_lst {b w k : Nat} {xs : List D} (h : ∀ x ∈ xs, x.plz = true ∧ x.fit b ∧ x.dep ≤ k) (hw : D.wids xs + 8 ≤ w) : VOk b w (k + 1) (.lst xs) :=
  ⟨plzs_iff.mpr fun x hx => (h x hx).1, fits_iff.mpr fun x hx => (h x hx).2.1, hw, by show D.deps xs + 1 ≤ k + 1; have := deps_le.mpr fun x hx => (h x hx).2.2; omega⟩
theorem dep_tup {xs : List D} : (D.tup xs).dep = D.deps xs + 1 := by simp [D.dep]
theorem Chg.ok {b : Nat} (hb : 100 ≤ b) {v d : D} (c : Chg v d) : ∀ {w k : Nat}, VOk b w k v → VOk (b + 1) (2 * w + 5000) (k + 2) d := by
  induction c with
  | @sub xs i x y hx c ih =>
    intro w k h
    obtain ⟨k, rfl⟩ : ∃ j, k = j + 1 := ⟨k - 1, by have := h.k; rw [dep_tup] at this; omega⟩
    obtain ⟨h1, h2⟩ := h.of_tup
    have hm := List.mem_of_getElem? hx
    have hxx := h1 x hm
    have hy := ih (w := x.wid) ⟨hxx.z, hxx.f, Nat.le_refl _, hxx.k⟩
    refine VOk.to_tup (fun z hz => ?_) ?_
    · rcases List.mem_or_eq_of_mem_set hz with hz | rfl
      · have := h1 z hz; exact ⟨this.z, D.fit.le (by omega) z this.f, by have := this.k; omega⟩
      · exact ⟨hy.z, hy.f, by have := hy.k; omega⟩
    · have := wids_set (y := y) hx
      have := hy.w
      have := D.wids_mem hm
      omega
  | up i => exact fun h => ⟨rfl, Sz.add (show Sz b i from h.f) (sz_one (by omega)), by show 2000 ≤ _; have : 2000 ≤ _ := h.w; omega, Nat.zero_le _⟩
  | down i => exact fun h => ⟨rfl, Sz.sub (show Sz b i from h.f) (sz_one (by omega)), by show 2000 ≤ _; have : 2000 ≤ _ := h.w; omega, Nat.zero_le _⟩
  | neg i => exact fun h => ⟨rfl, Sz.sub sz_zero (show Sz b i from h.f), by show 2000 ≤ _; have : 2000 ≤ _ := h.w; omega, Nat.zero_le _⟩
  | one i => exact fun h => ⟨rfl, trivial, by show 8 ≤ _; omega, Nat.zero_le _⟩
  | init xs =>
    intro w k h
    obtain ⟨k, rfl⟩ : ∃ j, k = j + 1 := ⟨k - 1, by have := h.k; rw [dep_tup] at this; omega⟩
    obtain ⟨h1, h2⟩ := h.of_tup
    refine VOk.to_tup (fun z hz => ?_) ?_
    · have := h1 z (List.dropLast_subset _ hz); exact ⟨this.z, D.fit.le (by omega) z this.f, by have := this.k; omega⟩
    · have := wids_take (xs.length - 1) xs
      rw [← List.dropLast_eq_take] at this; omega
  | more xs =>
    intro w k h
    obtain ⟨k, rfl⟩ : ∃ j, k = j + 1 := ⟨k - 1, by have := h.k; rw [dep_tup] at this; omega⟩
    obtain ⟨h1, h2⟩ := h.of_tup
    refine VOk.to_tup (fun z hz => ?_) ?_
    · have hz : z ∈ xs := by
        rcases List.mem_append.mp hz with hz | hz
        · exact hz
        · exact List.mem_of_mem_take hz
      have := h1 z hz; exact ⟨this.z, D.fit.le (by omega) z this.f, by have := this.k; omega⟩
    · have := wids_take 1 xs
      rw [wids_append]; omega
  | lst xs =>
    intro w k h
    obtain ⟨k, rfl⟩ : ∃ j, k = j + 1 := ⟨k - 1, by have := h.k; rw [dep_tup] at this; omega⟩
    obtain ⟨h1, h2⟩ := h.of_tup
    refine VOk.to_lst (fun z hz => ?_) (by omega)
    have := h1 z hz; exact ⟨this.z, D.fit.le (by omega) z this.f, by have := this.k; omega⟩
  | rev xs =>
    intro w k h
    obtain ⟨k, rfl⟩ : ∃ j, k = j + 1 := ⟨k - 1, by have := h.k; rw [dep_tup] at this; omega⟩
    obtain ⟨h1, h2⟩ := h.of_tup
    refine VOk.to_tup (fun z hz => ?_) (by rw [wids_rev]; omega)
    have := h1 z (List.mem_reverse.mp hz); exact ⟨this.z, D.fit.le (by omega) z this.f, by have := this.k; omega⟩
  | odd v hd => exact fun h => (odd_ok hd).le (by omega) (by omega) (by omega)
def frOk (v : D) : Prop := (∀ p, v ≠ .obj p) ∧ ∀ xs, v = .tup xs → (∀ x ∈ xs, ∀ p, x ≠ .obj p) ∧ ∀ i, .int i ∈ xs → Sz 9000 i
theorem frOk_frD {x : Rat} (h : SzR 9000 x) : frOk (frD x) := by
  refine ⟨fun p e => (by cases e), fun xs e => ?_⟩
  have e : D.tup [.int x.num, .int x.den] = .tup xs := e
  cases e
  refine ⟨fun y hy p e => ?_, fun i hi => ?_⟩
  · simp only [List.mem_cons, List.not_mem_nil, or_false] at hy
    rcases hy with rfl | rfl <;> cases e
  · simp only [List.mem_cons, List.not_mem_nil, or_false, D.int.injEq] at hi
    rcases hi with rfl | rfl
    · exact h.1
    · exact h.2
theorem plz_obj {d : D} (h : d.plz = true) : ∀ p, d ≠ .obj p := fun p e => by subst e; cases h
theorem VOk.fr {b w k : Nat} {d : D} (h : VOk b w k d) (hb : b ≤ 9000 := by decide) : frOk d := by
  refine ⟨plz_obj h.z, fun xs e => ?_⟩
  subst e
  exact ⟨fun x hx => plz_obj (plzs_iff.mp h.z x hx), fun i hi => Sz.le (show Sz b i from fits_iff.mp h.f _ hi) hb⟩
theorem fr_eqv {a b : Int} (hb : 1 ≤ b) : D.eqv (frD (Rat.divInt a b)) (.tup [.int a, .int b]) = frB (.int a) (.int b) := by
  have eb : b = ((b.natAbs : Nat) : Int) := by omega
  have e1 : D.eqv (frD (Rat.divInt a b)) (.tup [.int a, .int b]) = ((Rat.divInt a b).num == a && ((((Rat.divInt a b).den : Nat) : Int) == b && true)) := rfl
  rw [e1]
  show _ = (decide (1 ≤ b) && decide (((Nat.gcd a.natAbs b.natAbs : Nat) : Int) = 1))
  rw [decide_eq_true hb, Bool.true_and, Bool.and_true, Bool.eq_iff_iff, Bool.and_eq_true, decide_eq_true_eq, beq_iff_eq, beq_iff_eq]
  constructor
  · rintro ⟨h1, h2⟩
    have := (Rat.divInt a b).reduced
    have h3 : b.natAbs = (Rat.divInt a b).den := by omega
    rw [h3]
    have h4 : a.natAbs = (Rat.divInt a b).num.natAbs := by rw [h1]
    rw [h4]
    exact Int.natCast_inj.mpr this
  · intro h
    have hc : Nat.Coprime a.natAbs b.natAbs := Int.natCast_inj.mp h
    have : Rat.divInt a b = ⟨a, b.natAbs, by omega, hc⟩ := by
      have := Rat.num_divInt_den (⟨a, b.natAbs, by omega, hc⟩ : Rat)
      rw [← this]
      show Rat.divInt a b = Rat.divInt a ((b.natAbs : Nat) : Int)
      rw [← eb]
    rw [this]
    exact ⟨rfl, eb.symm⟩
def neLD : D → D → DK → Prop
  | .lst xs, .lst [], R => R (.bl (!xs.isEmpty))
  | _, _, _ => False
theorem o_neL {X : Cx} {k : Nat} (hr : Room k X.A) : OpR X (compareOp .NotEq) (dOp2 X.K neLD) := by
  intro pins s σ H x y v u Q I rx ry ⟨Z, d, e, R, k, ad, ae, h, q⟩
  cases d <;> try exact h.elim
  cases e <;> try exact h.elim
  rename_i xs ys
  cases ys with
  | cons _ _ => exact h.elim
  | nil =>
    simp only [At, Ats] at ad ae
    obtain ⟨a, vs, rfl, h2, h3⟩ := ad
    obtain ⟨b, ws, rfl, g2, rfl⟩ := ae
    cases rx
    cases ry
    obtain ⟨its, rv, it1, _⟩ := I.list (.inl (.inl (k _ _ h2)) : SqL X.K H a vs)
    obtain ⟨its2, rv2, it2, _⟩ := I.list (.inl (.inl (k _ _ g2)) : SqL X.K H b [])
    cases rv2
    have ln : its.length = xs.length := by rw [← rv.length, h3.len]
    have un := hr.un
    have fin : (∃ v' H', Inv X pins σ H' s ∧ RelV v' (Value.bool (!xs.isEmpty)) ∧ Q v' H') := ⟨.bl _, H, I, rfl, dk q k h rfl⟩
    cases xs with
    | nil =>
      have : its = [] := List.eq_nil_of_length_eq_zero ln
      subst this
      exact SeqAt.RcNeAt.lists (A := X.A) (e := fun _ => true) it1.isList it2.isList rfl (by omega) (fun j h1 h2 => by simp at h2) X.prog X.w X.xe _ fin
    | cons x xs =>
      exact SeqAt.RcNeAt.lists_lengths (A := X.A) it1.isList it2.isList (by simp [ln]) (by omega) X.prog X.w X.xe _ fin
section
variable {γ : Type}
theorem lc_filt {tg : Tg} {vs : List Nat} {tt : PTx γ} {te : PEx γ} {R : List D → S γ → Prop} {s1 : S γ} (ds : List D) (P : D → Bool) (hn : ds.length ≤ 1000000)
    (step : ∀ a ∈ ds, ∃ ρ', tg.put a (wipeL s1.ρ vs) = some ρ' ∧ (∀ T : Bool → S γ → Prop, T (P a) ⟨ρ', s1.g⟩ → tt ⟨ρ', s1.g⟩ T) ∧ (P a = true → ∀ T : D → S γ → Prop, T a ⟨ρ', s1.g⟩ → te ⟨ρ', s1.g⟩ T))
    (fin : R (ds.filter P) s1) (hj : ∀ j ∈ tg.js, j ∈ vs) (ho : noOwn s1.ρ vs = true) : lcB tg vs tt te R ds s1 := by
  have := lc_list (tg := tg) (vs := vs) (tt := tt) (te := te) (R := R) (s1 := s1) ds id P id hn step (by rw [List.map_id]; exact fin) hj ho
  rw [List.map_id] at this; exact this
end
def gOk (d : D) : Prop := (∀ p, d ≠ .obj p) ∧ ∀ xs, d = .tup xs → xs.length ≤ 100000 ∧ ∀ x ∈ xs, ∀ p, x ≠ .obj p
theorem gOk_gr {gs : List Nat} (h : gs.length ≤ 100000) : gOk (grD gs) := by
  refine ⟨fun p e => (by cases e), fun xs e => ?_⟩
  have e : D.tup (gs.map natD) = .tup xs := e
  cases e
  refine ⟨by rw [List.length_map]; exact h, fun x hx p e => ?_⟩
  obtain ⟨i, _, rfl⟩ := List.mem_map.mp hx
  cases e
theorem allI_ints {n : Int} : ∀ {xs : List D}, xs.all (inI 0 n) = true → ∃ is, asInts xs = some is ∧ (is.all fun i => decide (0 ≤ i) && decide (i ≤ n)) = true
  | [], _ => ⟨[], rfl, rfl⟩
  | x :: xs, h => by
    rw [List.all_cons, Bool.and_eq_true] at h
    obtain ⟨is, e, hi⟩ := allI_ints h.2
    cases x with
    | int i =>
      refine ⟨i :: is, ?_, ?_⟩
      · have e0 := asInts_eq e
        subst e0
        exact asInts_map (i :: is)
      · rw [List.all_cons, hi, Bool.and_true]; exact h.1
    | _ => exact absurd h.1 (by simp [inI])
theorem allI_not {n : Int} : ∀ {xs : List D} {is : List Int}, asInts xs = some is → xs.all (inI 0 n) = is.all fun i => decide (0 ≤ i) && decide (i ≤ n) := fun {xs is} e => by
  have e0 := asInts_eq e
  subst e0
  rw [List.all_map]; rfl
theorem VOk.gr {b w k : Nat} {d : D} (h : VOk b w k d) (hw : w ≤ 1600000 := by decide) : gOk d := by
  refine ⟨plz_obj h.z, fun xs e => ?_⟩
  subst e
  have h1 := D.wids_len xs
  have h2 : D.wids xs + 8 ≤ w := h.w
  exact ⟨by omega, fun x hx => plz_obj (plzs_iff.mp h.z x hx)⟩
theorem plzs_ints (is : List Int) : D.plzs (is.map D.int) = true := plzs_iff.mpr fun x hx => by
  obtain ⟨i, _, rfl⟩ := List.mem_map.mp hx; rfl
theorem wids_ints : ∀ is : List Int, D.wids (is.map D.int) = 2008 * is.length
  | [] => rfl
  | i :: is => by
    have := wids_ints is
    simp only [List.map_cons, D.wids, List.length_cons, this]
    show 2000 + 8 + _ = _
    omega
theorem deps_ints (is : List Int) : D.deps (is.map D.int) = 0 := Nat.le_zero.mp (deps_le.mpr fun x hx => by
  obtain ⟨i, _, rfl⟩ := List.mem_map.mp hx; exact Nat.le_refl 0)
theorem VOk.ints {b m : Nat} {is : List Int} (h : ∀ i ∈ is, Sz b i) (hl : is.length ≤ m) : VOk b (2008 * m + 8) 1 (.tup (is.map D.int)) :=
  ⟨plzs_ints is, fits_iff.mpr fun x hx => by
    obtain ⟨i, hi, rfl⟩ := List.mem_map.mp hx; exact h i hi, by show D.wids (is.map D.int) + 8 ≤ _; rw [wids_ints]; omega, by show D.deps (is.map D.int) + 1 ≤ 1; rw [deps_ints]; exact Nat.le_refl 1⟩
theorem VOk.intsL {b m : Nat} {is : List Int} (h : ∀ i ∈ is, Sz b i) (hl : is.length ≤ m) : VOk b (2008 * m + 8) 1 (.lst (is.map D.int)) :=
  ⟨plzs_ints is, fits_iff.mpr fun x hx => by
    obtain ⟨i, hi, rfl⟩ := List.mem_map.mp hx; exact h i hi, by show D.wids (is.map D.int) + 8 ≤ _; rw [wids_ints]; omega, by show D.deps (is.map D.int) + 1 ≤ 1; rw [deps_ints]; exact Nat.le_refl 1⟩
theorem natD_ints (ks : List Nat) : ks.map natD = (ks.map fun k : Nat => (k : Int)).map D.int := by rw [List.map_map]; rfl
theorem sz_nat {b k : Nat} (h : k < 2 ^ b) : Sz b (k : Int) := by unfold Sz; simpa using h
theorem VOk.gr8 {m : Nat} {ks : List Nat} (h : ∀ k ∈ ks, k < 1024) (hl : ks.length ≤ m) : VOk 10 (2008 * m + 8) 1 (grD ks) := by
  unfold grD
  rw [natD_ints]
  exact VOk.ints (fun i hi => by
    obtain ⟨k, hk, rfl⟩ := List.mem_map.mp hi; exact sz_nat (h k hk)) (by rw [List.length_map]; exact hl)
theorem VOk.pair {b w k : Nat} {d e : D} (h : VOk b w k d) (h' : VOk b w k e) : VOk b (2 * w + 24) (k + 1) (.lst [d, e]) := by
  refine VOk.to_lst (fun x hx => ?_) ?_
  · simp only [List.mem_cons, List.not_mem_nil, or_false] at hx
    rcases hx with rfl | rfl
    · exact ⟨h.z, h.f, h.k⟩
    · exact ⟨h'.z, h'.f, h'.k⟩
  · have := h.w
    have := h'.w
    simp only [D.wids]; omega
theorem fits_its {l : List (Int × Int)} (h : ∀ q ∈ l, (-(10 ^ 9) ≤ q.1 ∧ q.1 ≤ 10 ^ 9) ∧ -(10 ^ 9) ≤ q.2 ∧ q.2 ≤ 10 ^ 9) : D.fits 50 (l.map itD) := fits_iff.mpr fun x hx => by
  obtain ⟨q, hq, rfl⟩ := List.mem_map.mp hx
  have := h q hq
  exact ⟨sz_of (by decide) (by omega) (by omega), sz_of (by decide) (by omega) (by omega), trivial⟩
theorem VOk.pan {m : Nat} {p : Pan} (h : PanOk m p) (hm : m ≤ 100) : VOk 50 500000 3 (panD p) := by
  obtain ⟨a, b, c, d⟩ := panD_ok h hm
  exact ⟨plz_pln _ a, ⟨fits_its h.its9, fits_its (h.rus9 hm), trivial⟩, d, c⟩
theorem ints_of {b : Nat} : ∀ {xs : List D}, (∀ x ∈ xs, ∃ i : Int, x = .int i ∧ Sz b i) → ∃ is : List Int, xs = is.map D.int ∧ ∀ i ∈ is, Sz b i
  | [], _ => ⟨[], rfl, by simp⟩
  | x :: xs, h => by
    obtain ⟨i, rfl, hi⟩ := h x (by simp)
    obtain ⟨is, rfl, his⟩ := ints_of (xs := xs) fun x hx => h x (by simp [hx])
    exact ⟨i :: is, rfl, fun j hj => by
      rcases List.mem_cons.mp hj with rfl | hj
      · exact hi
      · exact his j hj⟩
theorem VOk.tupI {b m : Nat} {xs : List D} (h : ∀ x ∈ xs, ∃ i : Int, x = .int i ∧ Sz b i) (hl : xs.length ≤ m) : VOk b (2008 * m + 8) 1 (.tup xs) := by
  obtain ⟨is, rfl, hi⟩ := ints_of h
  exact VOk.ints hi (by simpa using hl)
theorem VOk.lstI {b m : Nat} {xs : List D} (h : ∀ x ∈ xs, ∃ i : Int, x = .int i ∧ Sz b i) (hl : xs.length ≤ m) : VOk b (2008 * m + 8) 1 (.lst xs) := by
  obtain ⟨is, rfl, hi⟩ := ints_of h
  exact VOk.intsL hi (by simpa using hl)
theorem cut_mem {α : Type} {xs : List α} {lo hi : Option Int} {x : α} (h : x ∈ cut xs lo hi) : x ∈ xs := List.mem_of_mem_drop (List.mem_of_mem_take h)
theorem rgD_nats (n : Nat) : rgD 0 (n : Int) = (List.range n).map natD := by
  unfold rgD
  have : ((n : Int) - 0).toNat = n := by omega
  rw [this]
  exact List.map_congr_left fun k _ => by show D.int (0 + (k : Int)) = .int (k : Int); rw [Int.zero_add]
theorem nat_int {b : Nat} {ks : List Nat} (h : ∀ k ∈ ks, k < 2 ^ b) : ∀ x ∈ ks.map natD, ∃ i : Int, x = .int i ∧ Sz b i := fun x hx => by
  obtain ⟨k, hk, rfl⟩ := List.mem_map.mp hx
  exact ⟨k, rfl, sz_nat (h k hk)⟩
def isTup (lo hi : Int) : D → Bool
  | .tup xs => decide (lo ≤ (xs.length : Int)) && decide ((xs.length : Int) ≤ hi)
  | _ => false
mutual
def D.tdp : D → Nat
  | .tup xs => D.tdps xs + 1
  | _ => 0
def D.tdps : List D → Nat
  | [] => 0
  | d :: ds => max d.tdp (D.tdps ds)
end
theorem tdps_mem : ∀ {ds : List D} {d : D}, d ∈ ds → d.tdp ≤ D.tdps ds
  | e :: ds, d, h => by
    rcases List.mem_cons.mp h with rfl | h
    · simp only [D.tdps]; omega
    · have := tdps_mem h
      simp only [D.tdps]; omega
mutual
theorem tdp_dep : ∀ d : D, d.tdp ≤ d.dep
  | .tup xs => by
    have := tdps_deps xs
    simp only [D.tdp, D.dep]; omega
  | .non => Nat.zero_le _
  | .bl _ => Nat.zero_le _
  | .int _ => Nat.zero_le _
  | .str _ => Nat.zero_le _
  | .lst _ => Nat.zero_le _
  | .dct _ _ => Nat.zero_le _
  | .obj _ => Nat.zero_le _
theorem tdps_deps : ∀ ds : List D, D.tdps ds ≤ D.deps ds
  | [] => Nat.le_refl _
  | d :: ds => by
    have h1 := tdp_dep d
    have h2 := tdps_deps ds
    simp only [D.tdps, D.deps]; omega
end
theorem VOk.tdp {b w k : Nat} {d : D} (h : VOk b w k d) (hk : k < 24 := by decide) : d.tdp < 24 := by
  have := tdp_dep d
  have := h.k
  omega
theorem VOk.frs {b m : Nat} {rs : List Rat} (h : ∀ x ∈ rs, SzR b x) (hl : rs.length ≤ m) : VOk b (4032 * m + 8) 2 (.tup (rs.map frD)) := by
  refine VOk.to_tup (fun x hx => ?_) ?_
  · obtain ⟨y, hy, rfl⟩ := List.mem_map.mp hx
    exact ⟨rfl, ⟨(h y hy).1, (h y hy).2, trivial⟩, by show max 0 (max 0 0) + 1 ≤ 1; decide⟩
  · have : ∀ l : List Rat, D.wids (l.map frD) = 4032 * l.length := fun l => by
      induction l with
      | nil => rfl
      | cons x l ih =>
        simp only [List.map_cons, D.wids, ih, List.length_cons]
        show 2000 + 8 + (2000 + 8 + 0) + 8 + 8 + _ = _
        omega
    rw [this]; omega
end Pm

set_option Elab.async false
set_option linter.all false
set_option maxRecDepth 100000
set_option maxHeartbeats 1000000
set_option autoImplicit false
namespace Pm
open PySem PySem.Spec
open PyProof.Rows hiding St
open L2
def fltD (path : List Int) (w : Str) : D := .tup [.tup (path.map D.int), .str w]
def itF (k : Nat) : D → D
  | .tup [a, b] => if inI (-(10 ^ 9)) (10 ^ 9) a then (if inI 1 (10 ^ 6) b then .non else fltD [0, k, 1] "weight") else fltD [0, k, 0] "mark"
  | _ => fltD [0, k] "item"
def ruF (n k : Nat) : D → D
  | .tup [a, b] => if inI 0 ((n : Int) - 1) a then (if inI 0 ((n : Int) - 1) b && !D.eqv a b then .non else fltD [1, k, 1] "high") else fltD [1, k, 0] "low"
  | _ => fltD [1, k] "rule"
def unp (f : Nat → D → D) : D → D
  | .tup [.int k, x] => f k.toNat x
  | _ => .non
def fstF : List D → D
  | [] => .non
  | .non :: r => fstF r
  | d :: _ => d
def faults (xs ys : List D) : List D := (enumD xs).map (unp itF) ++ (enumD ys).map (unp (ruF xs.length))
def ffD (v : D) : D := match v with
  | .tup [a, b] => if isTup 1 8 a = true then (if isTup 0 16 b = true then (match a, b with
    | .tup xs, .tup ys => fstF (faults xs ys)
    | _, _ => .non) else fltD [1] "rules") else fltD [0] "items"
  | _ => fltD [] "panel"
theorem tup2 {d : D} (h : isTup 2 2 d = true) : ∃ a b, d = .tup [a, b] := by
  cases d with
  | tup xs =>
    match xs, h with
    | [x, y], _ => exact ⟨x, y, rfl⟩
    | [], h => cases h
    | [_], h => cases h
    | _ :: _ :: _ :: _, h => simp [isTup] at h; omega
  | _ => cases h
theorem ffD_no {v : D} (h : isTup 2 2 v = false) : ffD v = fltD [] "panel" := by
  cases v with
  | tup xs =>
    match xs, h with
    | [], _ => rfl
    | [_], _ => rfl
    | [_, _], h => cases h
    | _ :: _ :: _ :: _, _ => rfl
  | _ => rfl
theorem itF_no {k : Nat} {v : D} (h : isTup 2 2 v = false) : itF k v = fltD [0, k] "item" := by
  cases v with
  | tup xs =>
    match xs, h with
    | [], _ => rfl
    | [_], _ => rfl
    | [_, _], h => cases h
    | _ :: _ :: _ :: _, _ => rfl
  | _ => rfl
theorem ruF_no {n k : Nat} {v : D} (h : isTup 2 2 v = false) : ruF n k v = fltD [1, k] "rule" := by
  cases v with
  | tup xs =>
    match xs, h with
    | [], _ => rfl
    | [_], _ => rfl
    | [_, _], h => cases h
    | _ :: _ :: _ :: _, _ => rfl
  | _ => rfl
theorem tupLen {lo hi : Nat} {d : D} (h : isTup lo hi d = true) : ∃ xs, d = .tup xs ∧ lo ≤ xs.length ∧ xs.length ≤ hi := by
  cases d with
  | tup xs =>
    simp only [isTup, Bool.and_eq_true, decide_eq_true_eq] at h
    exact ⟨xs, rfl, by omega, by omega⟩
  | _ => cases h
theorem inI_int {lo hi : Int} {d : D} (h : inI lo hi d = true) : ∃ i, d = .int i ∧ lo ≤ i ∧ i ≤ hi := by
  cases d with
  | int i =>
    simp only [inI, Bool.and_eq_true, decide_eq_true_eq] at h
    exact ⟨i, rfl, h.1, h.2⟩
  | _ => cases h
theorem enum_mem {xs : List D} {d : D} (h : d ∈ enumD xs) : ∃ (k : Nat) (x : D), d = .tup [.int (k : Int), x] ∧ xs[k]? = some x := by
  obtain ⟨i, hi⟩ := List.mem_iff_getElem?.mp h
  obtain ⟨x, hx, e⟩ := enumGo_get hi
  exact ⟨i, x, by rw [e, Nat.zero_add], hx⟩
theorem enum_get {xs : List D} {i : Nat} {d : D} (h : (enumD xs)[i]? = some d) : ∃ x, xs[i]? = some x ∧ d = .tup [.int (i : Int), x] := by
  obtain ⟨x, hx, e⟩ := enumGo_get h
  exact ⟨x, hx, by rw [e, Nat.zero_add]⟩
theorem fstF_at : ∀ {l : List D} {j : Nat} {f : D}, (∀ x ∈ l.take j, x = .non) → l[j]? = some f → f ≠ .non → fstF l = f
  | [], _, _, _, h, _ => by simp at h
  | x :: l, 0, f, _, h, hn => by
    simp only [List.getElem?_cons_zero, Option.some.injEq] at h
    subst h
    cases x <;> first | rfl | exact absurd rfl hn
  | x :: l, j + 1, f, h0, h, hn => by
    have hx : x = .non := h0 x (by simp)
    subst hx
    exact fstF_at (l := l) (j := j) (fun y hy => h0 y (by rw [List.take_succ_cons]; simp [hy])) (by simpa using h) hn
theorem fstF_non : ∀ {l : List D}, (∀ x ∈ l, x = .non) → fstF l = .non
  | [], _ => rfl
  | x :: l, h => by
    have hx : x = .non := h x (by simp)
    subst hx
    exact fstF_non (l := l) fun y hy => h y (by simp [hy])
theorem fltD_ne (p : List Int) (w : Str) : fltD p w ≠ .non := fun e => by cases e
def FltOr (f : D) : Prop := f = .non ∨ ∃ p w, f = fltD p w ∧ p.length ≤ 3 ∧ w.length ≤ 6 ∧ PyData.strOk w = true ∧ ∀ i ∈ p, 0 ≤ i ∧ i ≤ 100
theorem fltOr {p : List Int} {w : Str} (hl : p.length ≤ 3) (hw : w.length ≤ 6) (hs : PyData.strOk w = true) (h : ∀ i ∈ p, 0 ≤ i ∧ i ≤ 100) : FltOr (fltD p w) := .inr ⟨p, w, rfl, hl, hw, hs, h⟩
theorem itF_or {k : Nat} (hk : k ≤ 100) (d : D) : FltOr (itF k d) := by
  have p2 : ∀ i ∈ [(0 : Int), (k : Int)], 0 ≤ i ∧ i ≤ 100 := fun i hi => by simp at hi; omega
  have p3 : ∀ j : Int, 0 ≤ j → j ≤ 1 → ∀ i ∈ [(0 : Int), (k : Int), j], 0 ≤ i ∧ i ≤ 100 := fun j _ _ i hi => by simp at hi; omega
  cases ht : isTup 2 2 d with
  | false => rw [itF_no ht]; exact fltOr (by simp) (by decide) (by decide +kernel) p2
  | true =>
    obtain ⟨a, b, rfl⟩ := tup2 ht
    show FltOr (if _ then (if _ then _ else _) else _)
    split
    · split
      · exact .inl rfl
      · exact fltOr (by simp) (by decide) (by decide +kernel) (p3 1 (by decide) (by decide))
    · exact fltOr (by simp) (by decide) (by decide +kernel) (p3 0 (by decide) (by decide))
theorem ruF_or {n k : Nat} (hk : k ≤ 100) (d : D) : FltOr (ruF n k d) := by
  have p2 : ∀ i ∈ [(1 : Int), (k : Int)], 0 ≤ i ∧ i ≤ 100 := fun i hi => by simp at hi; omega
  have p3 : ∀ j : Int, 0 ≤ j → j ≤ 1 → ∀ i ∈ [(1 : Int), (k : Int), j], 0 ≤ i ∧ i ≤ 100 := fun j _ _ i hi => by simp at hi; omega
  cases ht : isTup 2 2 d with
  | false => rw [ruF_no ht]; exact fltOr (by simp) (by decide) (by decide +kernel) p2
  | true =>
    obtain ⟨a, b, rfl⟩ := tup2 ht
    show FltOr (if _ then (if _ then _ else _) else _)
    split
    · split
      · exact .inl rfl
      · exact fltOr (by simp) (by decide) (by decide +kernel) (p3 1 (by decide) (by decide))
    · exact fltOr (by simp) (by decide) (by decide +kernel) (p3 0 (by decide) (by decide))
theorem faults_or {xs ys : List D} (hx : xs.length ≤ 100) (hy : ys.length ≤ 100) : ∀ f ∈ faults xs ys, FltOr f := fun f hf => by
  rcases List.mem_append.mp hf with hf | hf
  · obtain ⟨e, he, rfl⟩ := List.mem_map.mp hf
    obtain ⟨k, x, rfl, h⟩ := enum_mem he
    have hk := (List.getElem?_eq_some_iff.mp h).1
    show FltOr (itF (k : Int).toNat x)
    exact itF_or (by omega) x
  · obtain ⟨e, he, rfl⟩ := List.mem_map.mp hf
    obtain ⟨k, x, rfl, h⟩ := enum_mem he
    have hk := (List.getElem?_eq_some_iff.mp h).1
    show FltOr (ruF xs.length (k : Int).toNat x)
    exact ruF_or (by omega) x
theorem fstF_or : ∀ {l : List D}, (∀ f ∈ l, FltOr f) → FltOr (fstF l)
  | [], _ => .inl rfl
  | x :: l, h => by
    rcases h x (by simp) with rfl | ⟨p, w, e, r⟩
    · exact fstF_or (l := l) fun f hf => h f (by simp [hf])
    · subst e; exact .inr ⟨p, w, rfl, r⟩
theorem ffD_or (v : D) : FltOr (ffD v) := by
  cases ht : isTup 2 2 v with
  | false => rw [ffD_no ht]; exact fltOr (by simp) (by decide) (by decide +kernel) (by simp)
  | true =>
    obtain ⟨a, b, rfl⟩ := tup2 ht
    show FltOr (if isTup 1 8 a = true then (if isTup 0 16 b = true then _ else _) else _)
    split
    · rename_i h1
      split
      · rename_i h2
        obtain ⟨xs, rfl, x1, x8⟩ := tupLen (lo := 1) (hi := 8) h1
        obtain ⟨ys, rfl, _, y16⟩ := tupLen (lo := 0) (hi := 16) h2
        exact fstF_or (faults_or (by omega) (by omega))
      · exact fltOr (by simp) (by decide) (by decide +kernel) (by simp)
    · exact fltOr (by simp) (by decide) (by decide +kernel) (by simp)
theorem plns_ints : ∀ is : List Int, D.plns (is.map D.int) = true
  | [] => rfl
  | i :: is => by simp only [List.map_cons, D.plns, plns_ints is]; rfl
theorem FltOr.ok {f : D} (h : FltOr f) : VOk 10 7000 2 f ∧ f.pln = true := by
  rcases h with rfl | ⟨p, w, rfl, hl, hw, hs, hi⟩
  · exact ⟨⟨rfl, trivial, by show 8 ≤ 7000; decide, Nat.zero_le _⟩, rfl⟩
  · have v := VOk.ints (b := 10) (m := 3) (is := p) (fun i h => by have := hi i h; unfold Sz; omega) hl
    refine ⟨⟨?_, ⟨v.f, trivial, trivial⟩, ?_, ?_⟩, ?_⟩
    · show (D.plz (.tup (p.map D.int)) && (PyData.strOk w && true)) = true
      rw [v.z, hs]; rfl
    · show (D.tup (p.map D.int)).wid + 8 + (10 * w.length + 8 + 8 + 0) + 8 ≤ 7000
      have := v.w
      omega
    · show max (D.tup (p.map D.int)).dep (max 0 0) + 1 ≤ 2
      have := v.k
      omega
    · show (D.plns (p.map D.int) && (PyData.strOk w && true)) = true
      rw [plns_ints, hs]; rfl
end Pm

set_option Elab.async false
set_option linter.all false
set_option maxRecDepth 100000
set_option maxHeartbeats 1000000
set_option autoImplicit false
namespace Pm
open PySem PySem.Spec PySem.W
open PyProof.Rows hiding St
open L2
section
variable {X : Cx} {pins : List (Addr × Obj)} {σ : St} {H : Hp} {s : Shared}
def Only' (s s' : Shared) : Prop := (∀ b o, s.heap.get? b = some o → s'.heap.get? b = some o) ∧ s'.gens = s.gens ∧ s'.drawn = s.drawn ∧ s'.os = s.os ∧ s.toks ≤ s'.toks
theorem Only'.eq {s s' : Shared} (h : Only' s s') : s' = { s with heap := s'.heap, toks := s'.toks } := by
  obtain ⟨_, h1, h2, h3, _⟩ := h
  cases s
  cases s'
  simp only at h1 h2 h3
  subst h1; subst h2; subst h3
  rfl
theorem Only'.moved {s s1 s2 : Shared} {wr : List Addr} (h : Only' s s1) (m : Moved wr (fun a b => b = a) s1 s2) (hw : ∀ b ∈ wr, s.heap.objs.size ≤ b) : Only' s s2 := by
  obtain ⟨h0, h1, h2, h3, h4⟩ := h
  refine ⟨fun b o e => m.heap b o (fun hb => absurd (Heap.lt_size e) (Nat.not_lt.mpr (hw b hb))) (h0 b o e), m.gens.trans h1, m.drawn.trans h2, m.os.trans h3, Nat.le_trans h4 m.toks⟩
theorem min_run {l : Addr} {vs : List V} (ns : Nat → Int) {mx : Bool} {Q : VK} (hh : X.A.handled = none) (I : Inv X pins σ H s) (hq : SqL X.K H l vs) (hn : 0 < vs.length)
    (hl : ∀ i v, vs[i]? = some v → ∃ a ws, v = .ref a ∧ SqT X.K H a ws ∧ ns i = ws.length)
    (h : ∀ i v, vs[i]? = some v → (∀ j, j < vs.length → if mx then ns j ≤ ns i else ns i ≤ ns j) → Q v H) :
    wpAny (model X.prog X.w) X.A (call (.builtin (if mx then "max" else "min")) [.ref l] [(Str.ofString "key", .builtin "len")]) (EP X pins σ Q) X.xe s := by
  obtain ⟨its, r, pl, hz⟩ := I.list hq
  have ln := r.length
  have hls : s.heap.IsList l its.toArray := pl.isList
  obtain ⟨ol, hol, _⟩ := id hls
  have hll : l < s.heap.objs.size := Heap.lt_size hol
  let s2 : Shared := { s with heap := s.heap.push { cls := .type "list_iterator", data := .fields #[.ref l, .int 0 0] } }
  have W := (Walks.list (prog := X.prog) (w := X.w) (A := X.A.in1) hh s.heap.objs.size l (Nat.ne_of_lt hll) its.toArray).toS
  have sz : s2.heap.objs.size = s.heap.objs.size + 1 := Heap.size_push ..
  have gI : s2.heap.get? s.heap.objs.size = some { cls := .type "list_iterator", data := .fields #[.ref l, .int 0 0] } := Heap.get?_push_size _ rfl
  have keep : ∀ b o, s.heap.get? b = some o → s2.heap.get? b = some o := fun b o e => Heap.get?_push_of_some _ e
  have J0 : Only' s s2 := ⟨keep, rfl, rfl, rfl, Nat.le_refl _⟩
  have asz : its.toArray.size = vs.length := by rw [List.size_toArray, ln]
  have turn : ∀ {op : CmpOp} {bt : Nat → Nat → Bool}, (∀ (i j : Nat) (t u : Tok) (s' : Shared) (Q : Value → Shared → Prop) (E : Value → Shared → Prop), Q (.bool (bt i j)) s' → wpAny (model X.prog X.w) X.A.in1 (richCompare op (.int (ns i) t) (.int (ns j) u)) Q E s') →
      KeyRun X.prog X.w X.A.in1 (.builtin "len") op s2.heap.objs.size [s.heap.objs.size] (fun a b => b = a) its.toArray.size (fun i v => its.toArray[i]? = some v) (fun i s' => s'.heap.IsListIter s.heap.objs.size l i ∧ s'.heap.IsList l its.toArray) (Only' s) (fun i k _ => ∃ t, k = Value.int (ns i) t) bt := fun {op bt} hc => by
    refine ⟨fun s1 s1' hJ m => hJ.moved m fun b hb => ?_, fun i k s1 s1' hV _ => hV, fun i v s1 o Q E hi hP hJ hst hS hQ => ?_, fun i j ki kj s1 Q E hJ hi hj hQ => ?_⟩
    · simp only [List.mem_cons, List.not_mem_nil, or_false] at hb
      rcases hb with rfl | rfl
      · rw [sz]; exact Nat.le_succ _
      · exact Nat.le_refl _
    · have hi' : i < vs.length := by omega
      have hv : vs[i]? = some vs[i] := List.getElem?_eq_getElem hi'
      obtain ⟨u, hu, ru⟩ := r.get hv
      have eu : v = u := by
        have hP : its.toArray[i]? = some v := hP
        rw [List.getElem?_toArray, hu] at hP
        exact (Option.some.inj hP).symm
      subst eu
      obtain ⟨a, ws, e, ht, en⟩ := hl i _ hv
      rw [e] at ru
      cases ru
      have I1 : Inv X pins σ H { s with heap := s1.heap, toks := s1.toks } := I.kept (h' := s1.heap) (t' := s1.toks) hJ.1
      obtain ⟨its2, r2, p2, hz2⟩ := I1.tuple ht
      have ln2 := r2.length
      have n63 := line63
      refine len_tuple (s := s1) p2 (by simp only [List.size_toArray]; omega) (hQ _ { s1 with toks := s1.toks + 1 + 1 } ⟨hJ.1, hJ.2.1, hJ.2.2.1, hJ.2.2.2.1, by have := hJ.2.2.2.2; show s.toks ≤ s1.toks + 1 + 1; omega⟩ hst hS ⟨_, by rw [en, List.size_toArray, ln2]⟩ fun _ _ h => h)
    · obtain ⟨t, rfl⟩ := hi
      obtain ⟨u, rfl⟩ := hj
      exact hc i j t u s1 Q E hQ
  have fin : ∀ {bt : Nat → Nat → Bool}, (∀ k, argBest bt k ≤ k ∧ ∀ j, j ≤ k → if mx then ns j ≤ ns (argBest bt k) else ns (argBest bt k) ≤ ns j) → ∀ v s', its.toArray[argBest bt (its.toArray.size - 1)]? = some v → Only' s s' → EP X pins σ Q v s' := fun {bt} hb v s' hv hJ => by
    obtain ⟨h1, h2⟩ := hb (its.toArray.size - 1)
    have hi' : argBest bt (its.toArray.size - 1) < vs.length := by omega
    have hx : vs[argBest bt (its.toArray.size - 1)]? = some vs[argBest bt (its.toArray.size - 1)] := List.getElem?_eq_getElem hi'
    obtain ⟨u, hu, ru⟩ := r.get hx
    have eu : v = u := by
      rw [List.getElem?_toArray, hu] at hv
      exact (Option.some.inj hv).symm
    subst eu
    rw [hJ.eq]
    exact ⟨_, H, I.kept (h' := s'.heap) (t' := s'.toks) hJ.1, ru, h _ _ hx fun j hj => h2 j (by omega)⟩
  have st0 : s2.heap.IsListIter s.heap.objs.size l 0 ∧ s2.heap.IsList l its.toArray := ⟨⟨_, gI, rfl, rfl⟩, hls.at fun o e => keep _ _ e⟩
  have fp : ∀ b ∈ [s.heap.objs.size, l], b < s2.heap.objs.size := fun b hb => by
    simp only [List.mem_cons, List.not_mem_nil, or_false] at hb
    rcases hb with rfl | rfl
    · rw [sz]; exact Nat.lt_succ_self _
    · rw [sz]; exact Nat.lt_succ_of_lt hll
  cases mx with
  | false =>
    refine call_min_walkKB (wpAny_pyIter_list hls ⟨_, _, _, _, _, _, _, Only' s, _, _, rfl, W, st0, fp, by omega, turn (op := .Lt) (bt := fun i j => decide (ns i < ns j)) fun i j t u s' Q E hQ => ?_, J0, fin fun k => ?_⟩)
    · exact PyProof.Rows.lt_int hQ
    · exact argBest_lt ns k
  | true =>
    refine call_max_walkKB (wpAny_pyIter_list hls ⟨_, _, _, _, _, _, _, Only' s, _, _, rfl, W, st0, fp, by omega, turn (op := .Gt) (bt := fun i j => decide (ns i > ns j)) fun i j t u s' Q E hQ => ?_, J0, fin fun k => ?_⟩)
    · exact PyProof.Rows.gt_int hQ
    · exact argBest_gt ns k
end
section
variable {X : Cx}
theorem boot_lenB : bootBuiltins "len" = some (.builtin "len") := by decide +kernel
theorem boot_minB : bootBuiltins "min" = some (.builtin "min") := by decide +kernel
theorem boot_maxB : bootBuiltins "max" = some (.builtin "max") := by decide +kernel
def tMinLen (K : PySem.W.Frag) (mx : Bool) (ta : TE) : TE := fun σ H Q => ta σ H fun x H1 => ∃ (l : Addr) (vs : List V) (ns : Nat → Int), x = V.ref l ∧ SqL K H1 l vs ∧ 0 < vs.length ∧
  (∀ i v, vs[i]? = some v → ∃ a ws, v = .ref a ∧ SqT K H1 a ws ∧ ns i = (ws.length : Nat)) ∧ ∀ i v, vs[i]? = some v → (∀ j, j < vs.length → if mx then ns j ≤ ns i else ns i ≤ ns j) → Q v H1
theorem pe_minLen {mx : Bool} {x : Str} {a : Expr} {ta : TE} {p p2 kp pos : Pos} (hc : X.calm = true) (hg : Gl X x) (hm : X.mg x = none) (hv : bootBuiltins x = some (.builtin (if mx then "max" else "min"))) (hn : x ≠ "__name__") (hdb : (x == ("__debug__" : Str)) = false)
    (hg2 : Gl X "len") (hm2 : X.mg "len" = none) (ha : PE X a ta)
    (he : backTo pos (starEach [a] X.env) = (false, eval a X.env) :: backTo pos (starEach [] X.env) := by rfl) (hpl : (backTo pos (starEach [a] X.env)).any (·.1) = false := by rfl)
    (hall : (backToKw pos (keywordEach [⟨some "key", .Name "len" p2, kp⟩] X.env)).all (·.1.isSome) = true := by rfl) (hnone : (backToKw pos (keywordEach [⟨some "key", .Name "len" p2, kp⟩] X.env)).any (·.1.isNone) = false := by rfl)
    (hks : (backToKw pos (keywordEach [⟨some "key", .Name "len" p2, kp⟩] X.env)).filterMap (·.1) = ([Str.ofString "key"] : List Str) := by rfl) (hs1 : starEach [a] X.env = (false, eval a X.env) :: starEach [] X.env := by rfl) :
    PE X (.Call (.Name x p) [a] [⟨some "key", .Name "len" p2, kp⟩] pos) (tMinLen X.K mx ta) := by
  refine ⟨fun pins s σ H Q I h => ?_⟩
  refine wpAny_Call_Name_kw (ld_blt I hg hm hv ?_ hn hdb)
  have hA : PA X [a] (tCons ta tNil) := pa_cons ha pa_nil hs1
  refine PyProof.Rows.callWith_kw (thn (hA.run pos pins s σ H (fun us H1 => match us with
    | [x] => ∃ (l : Addr) (vs : List V) (ns : Nat → Int), x = V.ref l ∧ SqL X.K H1 l vs ∧ 0 < vs.length ∧
    (∀ i v, vs[i]? = some v → ∃ a ws, v = .ref a ∧ SqT X.K H1 a ws ∧ ns i = (ws.length : Nat)) ∧ ∀ i v, vs[i]? = some v → (∀ j, j < vs.length → if mx then ns j ≤ ns i else ns i ≤ ns j) → Q v H1
    | _ => False) I h) fun us s1 ⟨vs0, H1, I1, r1, q1⟩ => ?_) he hpl hall hnone
  match vs0, q1 with
  | [_], ⟨l, vs, ns, e, hq, h0, hl, hQ⟩ =>
    cases e
    obtain rfl := Vals.ref1 r1
    rw [hks]
    show wpAny _ _ (evalAll ((do let v ← eval (.Name "len" p2) X.env; standAt pos; pure v) :: [])) _ _ s1
    refine wpAny_evalAll_cons (wpAny_bind (ld_blt I1 hg2 hm2 boot_lenB (wpAny_bind (wpAny_standAt (wpAny_pure (wpAny_evalAll_nil ?_))))))
    exact min_run ns (I1.ok.hd hc) I1 hq h0 hl hQ
end
section
variable {γ : Type} {X : Cx} {G : GP γ}
def lenD0 : D → Nat
  | .tup xs => xs.length
  | _ => 0
def qMinLen (mx : Bool) (te : PEx γ) : PEx γ := fun s R => te s fun d s1 => match d with
  | .lst xs => xs ≠ [] ∧ (∀ x ∈ xs, ∃ ys, x = .tup ys) ∧ ∀ x ∈ xs, (∀ y ∈ xs, if mx then lenD0 y ≤ lenD0 x else lenD0 x ≤ lenD0 y) → R x s1
  | _ => False
theorem qe_minLen {mx : Bool} {x : Str} {a : Expr} {te : PEx γ} {p p2 kp pos : Pos} (hc : X.calm = true) (hg : Gl X x) (hm : X.mg x = none) (hv : bootBuiltins x = some (.builtin (if mx then "max" else "min"))) (hg2 : Gl X "len") (hm2 : X.mg "len" = none) (ha : QE X G a te)
    (hn : x ≠ "__name__" := by decide) (hdb : (x == ("__debug__" : Str)) = false := by decide) (hK : G.K = X.K := by rfl)
    (he : backTo pos (starEach [a] X.env) = (false, eval a X.env) :: backTo pos (starEach [] X.env) := by rfl) (hpl : (backTo pos (starEach [a] X.env)).any (·.1) = false := by rfl)
    (hall : (backToKw pos (keywordEach [⟨some "key", .Name "len" p2, kp⟩] X.env)).all (·.1.isSome) = true := by rfl) (hnone : (backToKw pos (keywordEach [⟨some "key", .Name "len" p2, kp⟩] X.env)).any (·.1.isNone) = false := by rfl)
    (hks : (backToKw pos (keywordEach [⟨some "key", .Name "len" p2, kp⟩] X.env)).filterMap (·.1) = ([Str.ofString "key"] : List Str) := by rfl) (hs1 : starEach [a] X.env = (false, eval a X.env) :: starEach [] X.env := by rfl) :
    QE X G (.Call (.Name x p) [a] [⟨some "key", .Name "len" p2, kp⟩] pos) (qMinLen mx te) := by
  refine PE.imp (pe_minLen hc hg hm hv hn hdb hg2 hm2 ha he hpl hall hnone hks hs1) fun σ H Q ⟨F, Z, s, R, r, t, q⟩ => ?_
  refine ⟨F, Z, s, _, r, t, fun d s1 Z1 v H1 t1 k1 r1 a1 => ?_⟩
  match d, t1 with
  | .lst xs, ⟨h0, ht, hR⟩ =>
    simp only [At] at a1
    obtain ⟨l, vs, rfl, a2, a3⟩ := a1
    have hl := a3.len
    have at' : ∀ i v, vs[i]? = some v → ∃ x, xs[i]? = some x ∧ At G.K Z1 x v := fun i v hv => by
      have hi : i < xs.length := by have := (List.getElem?_eq_some_iff.mp hv).1; omega
      obtain ⟨v', e1, e2⟩ := a3.get (List.getElem?_eq_getElem hi)
      rw [hv] at e1; cases e1
      exact ⟨_, List.getElem?_eq_getElem hi, e2⟩
    refine ⟨l, vs, fun i => ((xs.map lenD0).getD i 0 : Nat), rfl, .inl (.inl (r1.z _ _ a2)), ?_, fun i v hv => ?_, fun i v hv hb => ?_⟩
    · cases xs with
      | nil => exact absurd rfl h0
      | cons _ _ => simp only [List.length_cons] at hl; omega
    · obtain ⟨x, hx, ax⟩ := at' i v hv
      obtain ⟨ys, rfl⟩ := ht x (List.mem_of_getElem? hx)
      simp only [At] at ax
      obtain ⟨b, ws, rfl, b2, b3⟩ := ax
      refine ⟨b, ws, rfl, by rw [← hK]; exact seqT r1.z b2, ?_⟩
      show (((xs.map lenD0).getD i 0 : Nat) : Int) = _
      rw [List.getD_eq_getElem?_getD, List.getElem?_map, hx]
      simp [lenD0, b3.len]
    · obtain ⟨x, hx, ax⟩ := at' i v hv
      refine q x s1 Z1 v H1 (hR x (List.mem_of_getElem? hx) fun y hy => ?_) k1 r1 ax
      obtain ⟨j, hj, e⟩ := List.getElem_of_mem hy
      have : if mx then (((xs.map lenD0).getD j 0 : Nat) : Int) ≤ (((xs.map lenD0).getD i 0 : Nat) : Int) else (((xs.map lenD0).getD i 0 : Nat) : Int) ≤ (((xs.map lenD0).getD j 0 : Nat) : Int) := hb j (by omega)
      rw [List.getD_eq_getElem?_getD, List.getD_eq_getElem?_getD, List.getElem?_map, List.getElem?_map, hx, List.getElem?_eq_getElem hj, e] at this
      simp only [Option.map_some, Option.getD_some] at this
      cases mx with
      | true => simp only [if_true] at this ⊢; omega
      | false => simp only [Bool.false_eq_true, if_false] at this ⊢; omega
end
end Pm

set_option Elab.async false
set_option linter.all false
set_option maxRecDepth 100000
set_option maxHeartbeats 1000000
set_option autoImplicit false
namespace Pm
open PySem PySem.Spec
open PyProof.Rows hiding St
open L2
def mk (p : Pan) (i : Nat) : Int := (p.its.getD i (0, 1)).1
def wt (p : Pan) (i : Nat) : Int := (p.its.getD i (0, 1)).2
def pS (p : Pan) (t : Int) : Pan := ⟨p.its.map fun q => (if t < q.1 then 1 else -1, q.2), p.rus⟩
def loG (p : Pan) (t : Int) : List Nat := topIn (pS p t) 0
def hiG (p : Pan) (t : Int) : List Nat := topOut (pS p t) 0
def gn (p : Pan) (t : Int) (g : List Nat) : Int := scT (pS p t) 0 g
def mxS (p : Pan) (t : Int) : List (List Nat) := mxG (pS p t) 0
section
variable {m : Nat} {p : Pan} {t : Int}
theorem pS_len : (pS p t).its.length = p.its.length := by simp [pS]
theorem pS_ok (hp : PanOk m p) : PanOk m (pS p t) := by
  refine ⟨by rw [pS_len]; exact hp.one, by rw [pS_len]; exact hp.top, fun q hq => ?_, hp.few, fun q hq => by rw [pS_len]; exact hp.ru q hq⟩
  obtain ⟨q', hq', rfl⟩ := List.mem_map.mp hq
  obtain ⟨a, b, c, d⟩ := hp.it q' hq'
  show ItOk (if t < q'.1 then 1 else -1, q'.2)
  split
  · exact ⟨by show -(10 ^ 9) ≤ (1 : Int); decide, by show (1 : Int) ≤ 10 ^ 9; decide, c, d⟩
  · exact ⟨by show -(10 ^ 9) ≤ (-1 : Int); decide, by show (-1 : Int) ≤ 10 ^ 9; decide, c, d⟩
theorem upG_pS : upG (pS p t) = upG p := by
  unfold upG
  rw [pS_len]
  rfl
theorem pS_at {i : Nat} (hi : i < p.its.length) : (pS p t).its.getD i (0, 1) = (if t < mk p i then 1 else -1, wt p i) := by
  unfold pS mk wt
  rw [List.getD_eq_getElem?_getD, List.getElem?_map, List.getD_eq_getElem?_getD, List.getElem?_eq_getElem hi]
  rfl
theorem gn_sum {g : List Nat} (hg : ∀ i ∈ g, i < p.its.length) : gn p t g = (g.map fun i => if t < mk p i then wt p i else -wt p i).sum := by
  unfold gn scT scS selI
  rw [List.map_map]
  refine congrArg List.sum (List.map_congr_left fun i hi => ?_)
  show ((pS p t).its.getD i (0, 1)).2 * (((pS p t).its.getD i (0, 1)).1 * 1 - 0) = _
  rw [pS_at (hg i hi)]
  show wt p i * ((if t < mk p i then 1 else -1) * 1 - 0) = _
  split <;> omega
theorem mxS_up {g : List Nat} (h : g ∈ mxS p t) : g ∈ upG p := by
  have := (List.mem_filter.mp h).1
  rwa [upG_pS] at this
theorem mxS_iff {g : List Nat} : g ∈ mxS p t ↔ g ∈ upG p ∧ ∀ h ∈ upG p, gn p t h ≤ gn p t g := by
  unfold mxS mxG
  rw [List.mem_filter, List.all_eq_true, upG_pS]
  exact ⟨fun ⟨a, b⟩ => ⟨a, fun h hh => of_decide_eq_true (b h hh)⟩, fun ⟨a, b⟩ => ⟨a, fun h hh => decide_eq_true (b h hh)⟩⟩
theorem rS_ex (hp : PanOk m p) (hm : m ≤ 100) (t : Int) : ∃ r, BestP (pS p t) r ∧ loG p t = above (pS p t) r 0 ∧ hiG p t = atLeast (pS p t) r 0 := by
  obtain ⟨r, b, _⟩ := best_exists (pS_ok (t := t) hp) hm
  exact ⟨r, b, topIn_eq b (pS_ok hp), topOut_eq b (pS_ok hp)⟩
theorem lo_mx (hp : PanOk m p) (hm : m ≤ 100) : loG p t ∈ mxS p t := by
  obtain ⟨r, b, e, _⟩ := rS_ex hp hm t
  rw [e]; exact above_mx b (pS_ok hp)
theorem hi_mx (hp : PanOk m p) (hm : m ≤ 100) : hiG p t ∈ mxS p t := by
  obtain ⟨r, b, _, e⟩ := rS_ex hp hm t
  rw [e]; exact least_mx b (pS_ok hp)
theorem mxS_lo {g : List Nat} (h : g ∈ mxS p t) : ∀ i ∈ loG p t, i ∈ g := fun i hi => by
  have := List.all_eq_true.mp (List.mem_filter.mp hi).2 g h
  exact of_decide_eq_true this
theorem mxS_hi {g : List Nat} (h : g ∈ mxS p t) : ∀ i ∈ g, i ∈ hiG p t := fun i hi => by
  have hs := upG_sub (mxS_up h)
  refine List.mem_filter.mpr ⟨by rw [pS_len]; exact hs.subset hi, List.any_eq_true.mpr ⟨g, h, decide_eq_true hi⟩⟩
theorem lo_sub : (loG p t).Sublist (List.range p.its.length) := by
  have : (loG p t).Sublist (List.range (pS p t).its.length) := List.filter_sublist
  rwa [pS_len] at this
theorem hi_sub : (hiG p t).Sublist (List.range p.its.length) := by
  have : (hiG p t).Sublist (List.range (pS p t).its.length) := List.filter_sublist
  rwa [pS_len] at this
theorem len_le_of {n : Nat} {a b : List Nat} (ha : a.Sublist (List.range n)) (hb : b.Sublist (List.range n)) (h : ∀ i ∈ a, i ∈ b) : a.length ≤ b.length :=
  nat_nodup_len a b (List.nodup_range.sublist ha) h
theorem eq_of_len {n : Nat} {a b : List Nat} (ha : a.Sublist (List.range n)) (hb : b.Sublist (List.range n)) (h : ∀ i ∈ a, i ∈ b) (hl : b.length ≤ a.length) : a = b := by
  refine sub_ext ha hb fun i => ⟨h i, fun hi => ?_⟩
  by_cases c : i ∈ a
  · exact c
  · have nd : (i :: a).Nodup := List.nodup_cons.mpr ⟨c, List.nodup_range.sublist ha⟩
    have := nat_nodup_len (i :: a) b nd fun x hx => by
      rcases List.mem_cons.mp hx with rfl | hx
      · exact hi
      · exact h x hx
    simp only [List.length_cons] at this; omega
theorem short_lo (hp : PanOk m p) (hm : m ≤ 100) {g : List Nat} (h : g ∈ mxS p t) (hl : ∀ k ∈ mxS p t, g.length ≤ k.length) : g = loG p t :=
  (eq_of_len lo_sub (upG_sub (mxS_up h)) (mxS_lo h) (hl _ (lo_mx hp hm))).symm
theorem long_hi (hp : PanOk m p) (hm : m ≤ 100) {g : List Nat} (h : g ∈ mxS p t) (hl : ∀ k ∈ mxS p t, k.length ≤ g.length) : g = hiG p t :=
  eq_of_len (upG_sub (mxS_up h)) hi_sub (mxS_hi h) (hl _ (hi_mx hp hm))
theorem mR_pS {i : Nat} (hi : i < p.its.length) : mR (pS p t) i = if t < mk p i then 1 else -1 := by
  unfold mR
  rw [pS_at hi]
  show ((if t < mk p i then (1 : Int) else -1 : Int) : Rat) = _
  split <;> rfl
theorem wR_pS {i : Nat} (hi : i < p.its.length) : wR (pS p t) i = wR p i := by
  unfold wR
  rw [pS_at hi]
  rfl
theorem rS_mono {t' : Int} (hp : PanOk m p) (h : t ≤ t') {r r' : Nat → Rat} (b : BestP (pS p t) r) (b' : BestP (pS p t') r') : ∀ i, i < p.its.length → r' i ≤ r i := by
  unfold BestP at b b'
  rw [pS_len] at b b'
  have b2 : Best (List.range p.its.length) (eE p) (mR (pS p t)) (wR p) r := by
    refine ⟨b.ob, fun U hU => ?_, fun U hU => ?_⟩
    · have := b.up U hU
      rw [sm_congr (f := fw (mR (pS p t)) (wR p) r) (g := fw (mR (pS p t)) (wR (pS p t)) r) (fun i hi => by
        have hi := List.mem_range.mp (List.mem_filter.mp hi).1
        unfold fw; rw [wR_pS hi])]
      exact this
    · refine Eq.trans (sm_congr fun i hi => ?_) (b.lv U hU)
      have hi := List.mem_range.mp (List.mem_filter.mp hi).1
      unfold fw; rw [wR_pS hi]
  have b2' : Best (List.range p.its.length) (eE p) (mR (pS p t')) (wR p) r' := by
    refine ⟨b'.ob, fun U hU => ?_, fun U hU => ?_⟩
    · have := b'.up U hU
      rw [sm_congr (f := fw (mR (pS p t')) (wR p) r') (g := fw (mR (pS p t')) (wR (pS p t')) r') (fun i hi => by
        have hi := List.mem_range.mp (List.mem_filter.mp hi).1
        unfold fw; rw [wR_pS hi])]
      exact this
    · refine Eq.trans (sm_congr fun i hi => ?_) (b'.lv U hU)
      have hi := List.mem_range.mp (List.mem_filter.mp hi).1
      unfold fw; rw [wR_pS hi]
  intro i hi
  refine Best.mono b2' b2 (fun i hi => wR_pos hp (List.mem_range.mp hi)) (fun i hi => ?_) i (List.mem_range.mpr hi)
  have hi := List.mem_range.mp hi
  rw [mR_pS hi, mR_pS hi]
  by_cases c : t' < mk p i
  · rw [if_pos c, if_pos (show t < mk p i by omega)]; exact Rat.le_refl
  · rw [if_neg c]; split
    · decide
    · exact Rat.le_refl
theorem lo_anti {t' : Int} (hp : PanOk m p) (hm : m ≤ 100) (h : t ≤ t') : ∀ i ∈ loG p t', i ∈ loG p t := fun i hi => by
  obtain ⟨r, b, e, _⟩ := rS_ex hp hm t
  obtain ⟨r', b', e', _⟩ := rS_ex hp hm t'
  have il := List.mem_range.mp (lo_sub.subset hi)
  rw [e'] at hi
  have := of_decide_eq_true (List.mem_filter.mp hi).2
  have mo := rS_mono hp h b b' i il
  rw [e]
  exact List.mem_filter.mpr ⟨by rw [pS_len]; exact List.mem_range.mpr il, decide_eq_true (by grind)⟩
theorem hi_anti {t' : Int} (hp : PanOk m p) (hm : m ≤ 100) (h : t ≤ t') : ∀ i ∈ hiG p t', i ∈ hiG p t := fun i hi => by
  obtain ⟨r, b, _, e⟩ := rS_ex hp hm t
  obtain ⟨r', b', _, e'⟩ := rS_ex hp hm t'
  have il := List.mem_range.mp (hi_sub.subset hi)
  rw [e'] at hi
  have := of_decide_eq_true (List.mem_filter.mp hi).2
  have mo := rS_mono hp h b b' i il
  rw [e]
  exact List.mem_filter.mpr ⟨by rw [pS_len]; exact List.mem_range.mpr il, decide_eq_true (by grind)⟩
theorem best_const {q : Pan} {c : Rat} (h : ∀ i, i < q.its.length → mR q i = c) : BestP q fun _ => c := by
  have z : ∀ U : Nat → Bool, sm (fw (mR q) (wR q) fun _ => c) ((List.range q.its.length).filter U) = 0 := fun U => by
    refine Eq.trans (sm_congr fun i hi => ?_) (sm_zero _)
    have hi := List.mem_range.mp (List.mem_filter.mp hi).1
    unfold fw
    rw [h i hi]; grind
  exact ⟨fun _ _ _ => Rat.le_refl, fun U _ => by rw [z]; exact Rat.le_refl, fun U _ => z U⟩
theorem lo_all (hp : PanOk m p) (h : ∀ i, i < p.its.length → t < mk p i) : ∀ i, i < p.its.length → i ∈ loG p t := fun i hi => by
  have b := best_const (q := pS p t) (c := 1) fun i hi => by rw [pS_len] at hi; rw [mR_pS hi, if_pos (h i hi)]
  unfold loG
  rw [topIn_eq b (pS_ok hp)]
  exact List.mem_filter.mpr ⟨by rw [pS_len]; exact List.mem_range.mpr hi, decide_eq_true (show (0 : Rat) < 1 by decide)⟩
theorem hi_none (hp : PanOk m p) (h : ∀ i, i < p.its.length → mk p i ≤ t) : ∀ i, i ∉ hiG p t := fun i hi => by
  have b := best_const (q := pS p t) (c := -1) fun i hi => by rw [pS_len] at hi; rw [mR_pS hi, if_neg (by have := h i hi; omega)]
  unfold hiG at hi
  rw [topOut_eq b (pS_ok hp)] at hi
  have := of_decide_eq_true (List.mem_filter.mp hi).2
  exact absurd this (show ¬ (0 : Rat) ≤ -1 by decide)
theorem lo_hi (hp : PanOk m p) (hm : m ≤ 100) : ∀ i ∈ loG p t, i ∈ hiG p t := mxS_hi (lo_mx hp hm)
theorem pS_same {t' : Int} (h : ∀ i, i < p.its.length → (t < mk p i ↔ t' < mk p i)) : pS p t = pS p t' := by
  unfold pS
  refine congrArg (fun l => Pan.mk l p.rus) (List.ext_getElem? fun i => ?_)
  rw [List.getElem?_map, List.getElem?_map]
  by_cases hi : i < p.its.length
  · have := h i hi
    unfold mk at this
    rw [List.getD_eq_getElem?_getD, List.getElem?_eq_getElem hi] at this
    simp only [Option.getD_some] at this
    rw [List.getElem?_eq_getElem hi]
    simp only [Option.map_some]
    by_cases c : t < (p.its[i]).1
    · rw [if_pos c, if_pos (this.mp c)]
    · rw [if_neg c, if_neg (fun z => c (this.mpr z))]
  · rw [List.getElem?_eq_none (by omega)]; rfl
def sideG (p : Pan) (w : Bool) (t : Int) : List Nat := if w then hiG p t else loG p t
def IsMed (p : Pan) (w : Bool) (x : Nat → Int) : Prop := ∀ i, i < p.its.length → ∀ t : Int, t < x i ↔ i ∈ sideG p w t
theorem IsMed.eq {w : Bool} {x y : Nat → Int} (h : IsMed p w x) (h' : IsMed p w y) : ∀ i, i < p.its.length → x i = y i := fun i hi => by
  have a := (h i hi (y i)).trans (h' i hi (y i)).symm
  have b := (h i hi (x i)).trans (h' i hi (x i)).symm
  omega
theorem side_anti {w : Bool} {t' : Int} (hp : PanOk m p) (hm : m ≤ 100) (h : t ≤ t') : ∀ i ∈ sideG p w t', i ∈ sideG p w t := by
  cases w
  · exact lo_anti hp hm h
  · exact hi_anti hp hm h
theorem side_mx {w : Bool} (hp : PanOk m p) (hm : m ≤ 100) : sideG p w t ∈ mxS p t := by
  cases w
  · exact lo_mx hp hm
  · exact hi_mx hp hm
end
def stepM (G : Int → Bool) : List Int → Int → Int
  | b :: c :: r, x => stepM G (c :: r) (if G b then c else x)
  | _, x => x
theorem stepM_stay {G : Int → Bool} : ∀ {l : List Int} {x : Int}, (∀ b ∈ l, G b = false) → stepM G l x = x
  | [], _, _ => rfl
  | [_], _, _ => rfl
  | b :: c :: r, x, h => by
    unfold stepM
    rw [h b (by simp), if_neg (by decide)]
    exact stepM_stay fun y hy => h y (by simp only [List.mem_cons] at hy ⊢; exact .inr hy)
theorem stepM_is {G : Int → Bool} (anti : ∀ t t', t ≤ t' → G t' = true → G t = true) : ∀ {r : List Int} {b : Int}, (b :: r).Pairwise (· < ·) → (∀ t, t < b → G t = true) →
    (∀ t, (∀ v ∈ b :: r, v ≤ t) → G t = false) → (∀ t v, v ∈ b :: r → v ≤ t → (∀ u ∈ b :: r, u ≤ v ∨ t < u) → G t = G v) → ∀ t, t < stepM G (b :: r) b ↔ G t = true
  | [], b, _, h1, h2, _, t => by
    show t < b ↔ _
    constructor
    · exact h1 t
    · intro h
      by_cases c : t < b
      · exact c
      · have := h2 t fun v hv => by rw [List.mem_singleton] at hv; omega
        rw [this] at h; cases h
  | c :: r, b, hs, h1, h2, h3, t => by
    have hs' := List.pairwise_cons.mp hs
    have bc : b < c := hs'.1 c (by simp)
    show t < stepM G (c :: r) (if G b then c else b) ↔ _
    by_cases g : G b = true
    · rw [if_pos g]
      refine stepM_is anti hs'.2 (fun t ht => ?_) (fun t ht => ?_) (fun t v hv hvt hu => ?_) t
      · by_cases e : t < b
        · exact h1 t e
        · rw [h3 t b (by simp) (by omega) fun u hu => ?_]
          · exact g
          · rcases List.mem_cons.mp hu with rfl | hu
            · exact .inl (Int.le_refl _)
            · rcases List.mem_cons.mp hu with rfl | hu
              · exact .inr ht
              · have := (List.pairwise_cons.mp hs'.2).1 u hu
                exact .inr (by omega)
      · refine h2 t fun v hv => ?_
        rcases List.mem_cons.mp hv with rfl | hv
        · have := ht c (by simp); omega
        · exact ht v hv
      · refine h3 t v (List.mem_cons_of_mem _ hv) hvt fun u hu' => ?_
        rcases List.mem_cons.mp hu' with rfl | hu'
        · exact .inl (Int.le_of_lt (hs'.1 v hv))
        · exact hu u hu'
    · have gf : G b = false := by simpa using g
      rw [if_neg g, stepM_stay fun y hy => ?_]
      · constructor
        · exact h1 t
        · intro h
          by_cases e : t < b
          · exact e
          · have := anti b t (by omega) h
            exact absurd this g
      · cases q : G y with
        | false => rfl
        | true => exact absurd (anti b y (Int.le_of_lt (hs'.1 y hy)) q) g
end Pm

set_option Elab.async false
set_option linter.all false
set_option maxRecDepth 100000
set_option maxHeartbeats 1000000
set_option autoImplicit false
namespace Pm
open PySem PySem.Spec
open PyProof.Rows hiding St
open L2
section
variable {m : Nat} {p : Pan}
theorem side_same {w : Bool} {t t' : Int} (h : ∀ i, i < p.its.length → (t < mk p i ↔ t' < mk p i)) : sideG p w t = sideG p w t' := by
  unfold sideG loG hiG
  rw [pS_same h]
theorem isMed_step {w : Bool} (hp : PanOk m p) (hm : m ≤ 100) {b : Int} {r : List Int} (hs : (b :: r).Pairwise (· < ·)) (hv : ∀ v, v ∈ b :: r ↔ ∃ i, i < p.its.length ∧ mk p i = v) :
    IsMed p w fun i => stepM (fun t => decide (i ∈ sideG p w t)) (b :: r) b := by
  intro i hi t
  rw [stepM_is (G := fun t => decide (i ∈ sideG p w t)) (fun t t' h k => decide_eq_true (side_anti hp hm h i (of_decide_eq_true k))) hs (fun t ht => ?_) (fun t ht => ?_) (fun t v hv' hvt hu => ?_) t, decide_eq_true_iff]
  · have a : ∀ j, j < p.its.length → t < mk p j := fun j hj => by
      rcases List.mem_cons.mp ((hv (mk p j)).mpr ⟨j, hj, rfl⟩) with e | e
      · omega
      · have := (List.pairwise_cons.mp hs).1 _ e; omega
    have l := lo_all hp a i hi
    refine decide_eq_true ?_
    cases w
    · exact l
    · exact lo_hi hp hm i l
  · have a : ∀ j, j < p.its.length → mk p j ≤ t := fun j hj => ht _ ((hv (mk p j)).mpr ⟨j, hj, rfl⟩)
    have l := hi_none hp a i
    refine decide_eq_false ?_
    cases w
    · exact fun z => l (lo_hi hp hm i z)
    · exact l
  · have e : sideG p w t = sideG p w v := side_same fun j hj => by
      rcases hu _ ((hv (mk p j)).mpr ⟨j, hj, rfl⟩) with c | c <;> omega
    show decide (i ∈ sideG p w t) = decide (i ∈ sideG p w v)
    rw [e]
theorem stepM_or {G : Int → Bool} : ∀ (l : List Int) (x : Int), stepM G l x = x ∨ stepM G l x ∈ l
  | [], _ => .inl rfl
  | [_], _ => .inl rfl
  | b :: c :: r, x => by
    unfold stepM
    by_cases g : G b = true
    · rw [if_pos g]
      rcases stepM_or (c :: r) c with e | e
      · rw [e]; exact .inr (by simp)
      · exact .inr (List.mem_cons_of_mem _ e)
    · rw [if_neg g]
      rcases stepM_or (c :: r) x with e | e
      · exact .inl e
      · exact .inr (List.mem_cons_of_mem _ e)
theorem stepM_mem {G : Int → Bool} {l : List Int} {x : Int} (h : x ∈ l) : stepM G l x ∈ l := by
  rcases stepM_or (G := G) l x with e | e
  · rw [e]; exact h
  · exact e
end
def lay : List Int → (Int → Int) → Int
  | b :: c :: r, f => (c - b) * f b + lay (c :: r) f
  | _, _ => 0
theorem lay_congr {f g : Int → Int} : ∀ {l : List Int}, (∀ b ∈ l, f b = g b) → lay l f = lay l g
  | [], _ => rfl
  | [_], _ => rfl
  | b :: c :: r, h => by
    show (c - b) * f b + lay (c :: r) f = (c - b) * g b + lay (c :: r) g
    rw [h b (by simp), lay_congr (l := c :: r) fun y hy => h y (List.mem_cons_of_mem _ hy)]
theorem lay_add (f g : Int → Int) : ∀ l : List Int, lay l (fun t => f t + g t) = lay l f + lay l g
  | [] => rfl
  | [_] => rfl
  | b :: c :: r => by
    show (c - b) * (f b + g b) + lay (c :: r) (fun t => f t + g t) = (c - b) * f b + lay (c :: r) f + ((c - b) * g b + lay (c :: r) g)
    rw [lay_add f g (c :: r)]; grind
theorem lay_mul (a : Int) (f : Int → Int) : ∀ l : List Int, lay l (fun t => a * f t) = a * lay l f
  | [] => by simp [lay]
  | [_] => by simp [lay]
  | b :: c :: r => by
    show (c - b) * (a * f b) + lay (c :: r) (fun t => a * f t) = a * ((c - b) * f b + lay (c :: r) f)
    rw [lay_mul a f (c :: r)]; grind
theorem lay_zero : ∀ l : List Int, lay l (fun _ => 0) = 0
  | [] => rfl
  | [_] => rfl
  | b :: c :: r => by
    show (c - b) * 0 + lay (c :: r) (fun _ => 0) = 0
    rw [lay_zero (c :: r)]; omega
theorem lay_sum (f : Nat → Int → Int) (l : List Int) : ∀ k : List Nat, lay l (fun t => (k.map fun i => f i t).sum) = (k.map fun i => lay l (f i)).sum
  | [] => lay_zero l
  | i :: k => by
    simp only [List.map_cons, List.sum_cons]
    rw [lay_add (f i) (fun t => (k.map fun i => f i t).sum), lay_sum f l k]
theorem lay_le {f g : Int → Int} : ∀ {l : List Int}, l.Pairwise (· < ·) → (∀ b ∈ l, f b ≤ g b) → lay l f ≤ lay l g
  | [], _, _ => Int.le_refl _
  | [_], _, _ => Int.le_refl _
  | b :: c :: r, hs, h => by
    have hs' := List.pairwise_cons.mp hs
    have bc := hs'.1 c (by simp)
    have ih := lay_le (l := c :: r) hs'.2 fun y hy => h y (List.mem_cons_of_mem _ hy)
    have := Int.mul_le_mul_of_nonneg_left (h b (by simp)) (show 0 ≤ c - b by omega)
    show (c - b) * f b + lay (c :: r) f ≤ (c - b) * g b + lay (c :: r) g
    omega
theorem lay_eq {f g : Int → Int} : ∀ {l : List Int}, l.Pairwise (· < ·) → (∀ b ∈ l, f b ≤ g b) → lay l g ≤ lay l f → ∀ b ∈ l, (∃ c ∈ l, b < c) → f b = g b
  | [], _, _, _, _, h, _ => by cases h
  | [_], _, _, _, b, h, ⟨c, hc, bc⟩ => by rw [List.mem_singleton] at h hc; omega
  | b :: c :: r, hs, h, hl, y, hy, ⟨z, hz, yz⟩ => by
    have hs' := List.pairwise_cons.mp hs
    have bc := hs'.1 c (by simp)
    have t1 := lay_le (l := c :: r) hs'.2 fun y hy => h y (List.mem_cons_of_mem _ hy)
    have t2 := Int.mul_le_mul_of_nonneg_left (h b (by simp)) (show 0 ≤ c - b by omega)
    have hl : (c - b) * g b + lay (c :: r) g ≤ (c - b) * f b + lay (c :: r) f := hl
    rcases List.mem_cons.mp hy with rfl | hy2
    · have e : (c - y) * f y = (c - y) * g y := by omega
      exact Int.eq_of_mul_eq_mul_left (show c - y ≠ 0 by omega) e
    · refine lay_eq (l := c :: r) hs'.2 (fun y hy => h y (List.mem_cons_of_mem _ hy)) (by omega) y hy2 ⟨z, ?_, yz⟩
      rcases List.mem_cons.mp hz with e | hz2
      · have := hs'.1 y hy2; omega
      · exact hz2
theorem lay_no {f : Int → Int} {l : List Int} (h : ∀ b ∈ l, f b = 0) : lay l f = 0 := by rw [lay_congr h, lay_zero]
theorem lay_up : ∀ {r : List Int} {b y : Int}, (b :: r).Pairwise (· < ·) → y ∈ b :: r → lay (b :: r) (fun t => if t < y then 1 else 0) = y - b
  | [], b, y, _, h => by
    rw [List.mem_singleton] at h
    show 0 = y - b
    omega
  | c :: r, b, y, hs, h => by
    have hs' := List.pairwise_cons.mp hs
    have bc := hs'.1 c (by simp)
    rcases List.mem_cons.mp h with rfl | h
    · rw [lay_no fun t ht => ?_]
      · omega
      · rw [if_neg]
        rcases List.mem_cons.mp ht with rfl | ht
        · omega
        · have := hs'.1 t ht; omega
    · have by' : b < y := hs'.1 y h
      show (c - b) * (if b < y then 1 else 0) + lay (c :: r) (fun t => if t < y then 1 else 0) = y - b
      rw [if_pos by', lay_up hs'.2 h]; omega
theorem lay_abs {l : List Int} {x y : Int} (hs : l.Pairwise (· < ·)) (hx : x ∈ l) (hy : y ∈ l) : lay l (fun t => if decide (t < x) = decide (t < y) then 0 else 1) = ((x - y).natAbs : Int) := by
  cases l with
  | nil => cases hx
  | cons b r =>
    have ux := lay_up hs hx
    have uy := lay_up hs hy
    rcases Int.le_total y x with h | h
    · have e : lay (b :: r) (fun t => if decide (t < x) = decide (t < y) then 0 else 1) = lay (b :: r) (fun t => (if t < x then 1 else 0) + (-1) * (if t < y then 1 else 0)) := lay_congr fun t _ => by
        by_cases c1 : t < x <;> by_cases c2 : t < y
        · simp [c1, c2]
        · simp [c1, c2]
        · omega
        · simp [c1, c2]
      rw [e, lay_add, lay_mul, ux, uy]; omega
    · have e : lay (b :: r) (fun t => if decide (t < x) = decide (t < y) then 0 else 1) = lay (b :: r) (fun t => (if t < y then 1 else 0) + (-1) * (if t < x then 1 else 0)) := lay_congr fun t _ => by
        by_cases c1 : t < x <;> by_cases c2 : t < y
        · simp [c1, c2]
        · omega
        · simp [c1, c2]
        · simp [c1, c2]
      rw [e, lay_add, lay_mul, ux, uy]; omega
def spI (p : Pan) (x : Nat → Int) : Int := ((List.range p.its.length).map fun i => wt p i * ((x i - mk p i).natAbs : Int)).sum
def filt (p : Pan) (x : Nat → Int) (t : Int) : List Nat := (List.range p.its.length).filter fun i => decide (t < x i)
def wtS (p : Pan) (t : Int) : Int := ((List.range p.its.length).map fun i => if t < mk p i then wt p i else 0).sum
theorem sum_filter (P : Nat → Bool) (f : Nat → Int) : ∀ l : List Nat, ((l.filter P).map f).sum = (l.map fun i => if P i then f i else 0).sum
  | [] => rfl
  | i :: l => by
    rw [List.filter_cons]
    by_cases h : P i = true
    · rw [if_pos h]; simp only [List.map_cons, List.sum_cons, h, if_true, sum_filter P f l]
    · rw [if_neg h]; simp only [List.map_cons, List.sum_cons, h, sum_filter P f l]; simp
theorem sum_sub (f g : Nat → Int) : ∀ l : List Nat, (l.map fun i => f i - g i).sum = (l.map f).sum - (l.map g).sum
  | [] => rfl
  | i :: l => by simp only [List.map_cons, List.sum_cons, sum_sub f g l]; omega
theorem spI_lay {p : Pan} {x : Nat → Int} {l : List Int} (hs : l.Pairwise (· < ·)) (hx : ∀ i, i < p.its.length → x i ∈ l) (hm : ∀ i, i < p.its.length → mk p i ∈ l) : spI p x = lay l fun t => wtS p t - gn p t (filt p x t) := by
  have e : lay l (fun t => wtS p t - gn p t (filt p x t)) = lay l fun t => ((List.range p.its.length).map fun i => wt p i * (if decide (t < x i) = decide (t < mk p i) then 0 else 1)).sum := lay_congr fun t _ => by
    rw [gn_sum (p := p) (t := t) (g := filt p x t) fun i hi => List.mem_range.mp (List.mem_filter.mp hi).1]
    unfold filt wtS
    rw [sum_filter, ← sum_sub]
    refine congrArg List.sum (List.map_congr_left fun i _ => ?_)
    by_cases c1 : t < x i <;> by_cases c2 : t < mk p i <;> simp [c1, c2]
  rw [e, lay_sum (fun i t => wt p i * (if decide (t < x i) = decide (t < mk p i) then 0 else 1))]
  refine congrArg List.sum (List.map_congr_left fun i hi => ?_)
  have hi := List.mem_range.mp hi
  rw [lay_mul, lay_abs hs (hx i hi) (hm i hi)]
theorem ivl_ex (n : Nat) (f g h : Nat → Int) (t : Int) : ∃ l : List Int, l.Pairwise (· < ·) ∧ (∀ i, i < n → f i ∈ l ∧ g i ∈ l ∧ h i ∈ l) ∧ t ∈ l ∧ t + 1 ∈ l := by
  have B : ∀ n : Nat, ∃ B : Nat, ∀ i, i < n → (f i).natAbs ≤ B ∧ (g i).natAbs ≤ B ∧ (h i).natAbs ≤ B := fun n => by
    induction n with
    | zero => exact ⟨0, fun i hi => absurd hi (Nat.not_lt_zero _)⟩
    | succ n ih =>
      obtain ⟨B, hB⟩ := ih
      refine ⟨B + (f n).natAbs + (g n).natAbs + (h n).natAbs, fun i hi => ?_⟩
      by_cases e : i = n
      · subst e; omega
      · have := hB i (by omega); omega
  obtain ⟨B, hB⟩ := B n
  let a : Int := -((B + t.natAbs + 1 : Nat) : Int)
  refine ⟨(List.range (2 * (B + t.natAbs + 1) + 1)).map fun j : Nat => a + (j : Int), ?_, ?_⟩
  · rw [List.pairwise_map]
    exact List.pairwise_lt_range.imp fun h => by omega
  have mem : ∀ v : Int, v.natAbs ≤ B + t.natAbs + 1 → v ∈ (List.range (2 * (B + t.natAbs + 1) + 1)).map fun j : Nat => a + (j : Int) := fun v hv => List.mem_map.mpr ⟨(v - a).toNat, List.mem_range.mpr (by omega), by omega⟩
  exact ⟨fun i hi => by have := hB i hi; exact ⟨mem _ (by omega), mem _ (by omega), mem _ (by omega)⟩, mem _ (by omega), mem _ (by omega)⟩
def Obx (p : Pan) (x : Nat → Int) : Prop := ∀ a b, eE p a b → x a ≤ x b
def Opt (p : Pan) (x : Nat → Int) : Prop := ∀ t, filt p x t ∈ mxS p t
section
variable {m : Nat} {p : Pan} {x y : Nat → Int} {w : Bool}
theorem Obx.up (hp : PanOk m p) (h : Obx p x) (t : Int) : filt p x t ∈ upG p := upG_of hp fun a b e k => by
  have := of_decide_eq_true k
  have := h a b e
  exact decide_eq_true (by omega)
theorem IsMed.filt (h : IsMed p w x) (t : Int) : filt p x t = sideG p w t := by
  have hs : (sideG p w t).Sublist (List.range p.its.length) := by cases w <;> first | exact lo_sub | exact hi_sub
  refine sub_ext List.filter_sublist hs fun i => ?_
  unfold Pm.filt
  rw [List.mem_filter, List.mem_range, decide_eq_true_iff]
  constructor
  · rintro ⟨a, b⟩; exact (h i a t).mp b
  · intro a
    have hi := List.mem_range.mp (hs.subset a)
    exact ⟨hi, (h i hi t).mpr a⟩
theorem IsMed.opt (hp : PanOk m p) (hm : m ≤ 100) (h : IsMed p w x) : Opt p x := fun t => by rw [h.filt]; exact side_mx hp hm
theorem Opt.ob (hp : PanOk m p) (h : Opt p x) : Obx p x := fun a b e => by
  have up := upG_up hp (mxS_up (h (x a - 1)))
  obtain ⟨ha, hb⟩ := eE_lt hp e
  have := up a b e (decide_eq_true (List.mem_filter.mpr ⟨List.mem_range.mpr ha, decide_eq_true (by omega)⟩))
  have := of_decide_eq_true (List.mem_filter.mp (of_decide_eq_true this)).2
  omega
theorem Opt.le (hp : PanOk m p) (h : Opt p x) (hy : Obx p y) : spI p x ≤ spI p y := by
  obtain ⟨l, hs, hl, _⟩ := ivl_ex p.its.length x y (mk p) 0
  rw [spI_lay hs (fun i hi => (hl i hi).1) (fun i hi => (hl i hi).2.2), spI_lay hs (fun i hi => (hl i hi).2.1) (fun i hi => (hl i hi).2.2)]
  refine lay_le hs fun t _ => ?_
  have := (mxS_iff.mp (h t)).2 _ (hy.up hp t)
  omega
theorem Opt.of_le (hp : PanOk m p) (h : Opt p x) (hy : Obx p y) (e : spI p y ≤ spI p x) : Opt p y := fun t => by
  obtain ⟨l, hs, hl, ht, ht1⟩ := ivl_ex p.its.length x y (mk p) t
  rw [spI_lay hs (fun i hi => (hl i hi).1) (fun i hi => (hl i hi).2.2), spI_lay hs (fun i hi => (hl i hi).2.1) (fun i hi => (hl i hi).2.2)] at e
  have q := lay_eq hs (fun t _ => by
    have := (mxS_iff.mp (h t)).2 _ (hy.up hp t)
    show wtS p t - gn p t (Pm.filt p x t) ≤ wtS p t - gn p t (Pm.filt p y t)
    omega) e t ht ⟨t + 1, ht1, by omega⟩
  have q : wtS p t - gn p t (Pm.filt p x t) = wtS p t - gn p t (Pm.filt p y t) := q
  refine mxS_iff.mpr ⟨hy.up hp t, fun g hg => ?_⟩
  have := (mxS_iff.mp (h t)).2 g hg
  omega
theorem Opt.ge_lo (hp : PanOk m p) (h : Opt p x) (hy : IsMed p false y) : ∀ i, i < p.its.length → y i ≤ x i := fun i hi => by
  by_cases c : y i ≤ x i
  · exact c
  · have a := (hy i hi (x i)).mp (by omega)
    have := of_decide_eq_true (List.mem_filter.mp (mxS_lo (h (x i)) i a)).2
    omega
theorem Opt.le_hi (hp : PanOk m p) (h : Opt p x) (hy : IsMed p true y) : ∀ i, i < p.its.length → x i ≤ y i := fun i hi => by
  by_cases c : x i ≤ y i
  · exact c
  · have a : i ∈ Pm.filt p x (y i) := List.mem_filter.mpr ⟨List.mem_range.mpr hi, decide_eq_true (by omega)⟩
    have := (hy i hi (y i)).mpr (mxS_hi (h (y i)) i a)
    omega
theorem spr_eq {ws : List Int} (h : ws = (List.range p.its.length).map x) : (List.zipWith (fun (q : Int × Int) (w : Int) => q.2 * ((w - q.1).natAbs : Int)) p.its ws).sum = spI p x := by
  subst h
  unfold spI
  refine congrArg List.sum (List.ext_getElem? fun i => ?_)
  rw [List.getElem?_zipWith, List.getElem?_map, List.getElem?_map]
  by_cases hi : i < p.its.length
  · rw [List.getElem?_range hi, List.getElem?_eq_getElem hi]
    simp only [Option.map_some]
    unfold wt mk
    rw [List.getD_eq_getElem?_getD, List.getElem?_eq_getElem hi]
    rfl
  · have : (List.range p.its.length)[i]? = none := List.getElem?_eq_none (by simpa using hi)
    rw [List.getElem?_eq_none (by omega : p.its.length ≤ i), this]
    rfl
end
end Pm

set_option Elab.async false
set_option linter.all false
set_option maxRecDepth 100000
set_option maxHeartbeats 1000000
set_option autoImplicit false
namespace Pm
open PySem PySem.Spec
open PyProof.Rows hiding St
open L2
def sprL (p : Pan) (ws : List Int) : List Int := List.zipWith (fun (q : Int × Int) (w : Int) => q.2 * ((w - q.1).natAbs : Int)) p.its ws
theorem sprL_at {p : Pan} {ws : List Int} {i : Nat} {q : Int × Int} {w : Int} (hq : p.its[i]? = some q) (hw : ws[i]? = some w) : (sprL p ws)[i]? = some (q.2 * ((w - q.1).natAbs : Int)) := by
  unfold sprL
  rw [List.getElem?_zipWith, hq, hw]
theorem take_snoc {α : Type} {l : List α} {i : Nat} {a : α} (h : l[i]? = some a) : l.take (i + 1) = l.take i ++ [a] := by
  rw [List.take_add_one, h]; rfl
def marksL (p : Pan) : List Int := (List.range p.its.length).map (mk p)
theorem marks_its (p : Pan) : p.its.map (fun q => q.1) = marksL p := by
  unfold marksL
  refine List.ext_getElem? fun i => ?_
  rw [List.getElem?_map, List.getElem?_map]
  by_cases hi : i < p.its.length
  · rw [List.getElem?_range hi, List.getElem?_eq_getElem hi]
    simp only [Option.map_some]
    unfold mk
    rw [List.getD_eq_getElem?_getD, List.getElem?_eq_getElem hi]; rfl
  · have : (List.range p.its.length)[i]? = none := List.getElem?_eq_none (by simpa using hi)
    rw [List.getElem?_eq_none (by omega : p.its.length ≤ i), this]; rfl
def stp (G : Int → Bool) (x : Int) (q : Int × Int) : Int := if G q.1 then q.2 else x
theorem stepM_fold (G : Int → Bool) : ∀ (r : List Int) (b x : Int), stepM G (b :: r) x = ((b :: r).zip r).foldl (stp G) x
  | [], _, _ => rfl
  | c :: r, b, x => by
    show stepM G (c :: r) (if G b then c else x) = ((c :: r).zip r).foldl (stp G) (stp G x (b, c))
    rw [stepM_fold G r c]; rfl
theorem rep_flat (n : Nat) (d : D) : (List.replicate n [d]).flatten = (List.range n).map fun _ => d := by
  rw [List.map_const']
  simp
theorem gr2_ok {a b : List Nat} (ha : a.length ≤ 8) (hb : b.length ≤ 8) : (D.tup [grD a, grD b]).pln = true ∧ (D.tup [grD a, grD b]).dep < 24 ∧ (D.tup [grD a, grD b]).wid ≤ 10000000 := by
  have h1 : (grD a).pln = true := nats_pln a
  have h2 : (grD b).pln = true := nats_pln b
  refine ⟨?_, ?_, ?_⟩
  · show ((grD a).pln && ((grD b).pln && true)) = true
    rw [h1, h2]; rfl
  · show max (grD a).dep (max (grD b).dep 0) + 1 < 24
    rw [gr_dep1, gr_dep1]; decide
  · show (grD a).wid + 8 + ((grD b).wid + 8 + 0) + 8 ≤ 10000000
    rw [gr_wid, gr_wid]; omega
end Pm

set_option Elab.async false
set_option linter.all false
set_option maxRecDepth 100000
set_option maxHeartbeats 1000000
set_option autoImplicit false
namespace Pm
open PySem PySem.Spec
open PyProof.Rows hiding St
open L2
def rowD (ws : List Int) : D := .tup (ws.map D.int)
def allR (vs : List Int) : Nat → List (List Int)
  | 0 => [[]]
  | k + 1 => (allR vs k).flatMap fun row => vs.map fun v => row ++ [v]
theorem allR_mem {vs : List Int} : ∀ {k : Nat} {ws : List Int}, ws ∈ allR vs k ↔ ws.length = k ∧ ∀ v ∈ ws, v ∈ vs
  | 0, ws => by
    show ws ∈ [[]] ↔ _
    rw [List.mem_singleton]
    exact ⟨fun e => by subst e; simp, fun ⟨e, _⟩ => List.eq_nil_of_length_eq_zero e⟩
  | k + 1, ws => by
    show ws ∈ (allR vs k).flatMap _ ↔ _
    rw [List.mem_flatMap]
    constructor
    · rintro ⟨row, hr, h⟩
      obtain ⟨v, hv, rfl⟩ := List.mem_map.mp h
      obtain ⟨a, b⟩ := allR_mem.mp hr
      refine ⟨by rw [List.length_append, a]; rfl, fun x hx => ?_⟩
      rcases List.mem_append.mp hx with hx | hx
      · exact b x hx
      · rw [List.mem_singleton] at hx; subst hx; exact hv
    · rintro ⟨a, b⟩
      have ne : ws ≠ [] := fun e => by subst e; cases a
      refine ⟨ws.dropLast, allR_mem.mpr ⟨by rw [List.length_dropLast, a]; rfl, fun v hv => b v (List.dropLast_subset _ hv)⟩, List.mem_map.mpr ⟨ws.getLast ne, b _ (List.getLast_mem ne), List.dropLast_concat_getLast ne⟩⟩
theorem allR_len {vs : List Int} {c : Nat} (h : vs.length ≤ c) : ∀ k, (allR vs k).length ≤ c ^ k
  | 0 => Nat.le_refl 1
  | k + 1 => by
    show ((allR vs k).flatMap fun row => vs.map fun v => row ++ [v]).length ≤ _
    have ih := allR_len h k
    have : ∀ l : List (List Int), (l.flatMap fun row => vs.map fun v => row ++ [v]).length = l.length * vs.length := fun l => by
      induction l with
      | nil => simp
      | cons a l ih => rw [List.flatMap_cons, List.length_append, ih, List.length_map, List.length_cons, Nat.succ_mul]; omega
    rw [this, Nat.pow_succ]
    exact Nat.mul_le_mul ih h
def obL (p : Pan) (ws : List Int) : Bool := p.rus.all fun q => decide (ws.getD q.1.toNat 0 ≤ ws.getD q.2.toNat 0)
def fnL (ws : List Int) : Nat → Int := fun i => ws.getD i 0
theorem obL_iff {m : Nat} {p : Pan} (hp : PanOk m p) {ws : List Int} : obL p ws = true ↔ Obx p (fnL ws) := by
  unfold obL
  rw [List.all_eq_true]
  constructor
  · intro h a b e
    have := of_decide_eq_true (h _ e)
    simpa [fnL] using this
  · intro h q hq
    obtain ⟨a, b, rfl, _, _, _⟩ := rule_nats (hp.ru q hq)
    have := h a b hq
    exact decide_eq_true (by simpa [fnL] using this)
structure RowsOk (p : Pan) (wss : List (List Int)) : Prop where
  is : ∀ ws ∈ wss, ws.length = p.its.length ∧ (∀ v ∈ ws, ∃ i, i < p.its.length ∧ mk p i = v) ∧ Obx p (fnL ws)
  all : ∀ ws : List Int, ws.length = p.its.length → (∀ v ∈ ws, ∃ i, i < p.its.length ∧ mk p i = v) → Obx p (fnL ws) → ws ∈ wss
  len : wss.length ≤ 1024
end Pm

set_option Elab.async false
set_option linter.all false
set_option maxRecDepth 100000
set_option maxHeartbeats 1000000
set_option autoImplicit false
namespace Pm
open PySem PySem.Spec
open PyProof.Rows hiding St
open L2
theorem lc_var {γ : Type} {i : Nat} {l : D} {ds : List D} {tg : Tg} {vs : List Nat} {tt : PTx γ} {te : PEx γ} {s : S γ} {R : List D → S γ → Prop} (h1 : s.ρ[i]? = some (some (.val l))) (h2 : itemsD l = some ds) (h : lcB tg vs tt te R ds s) : qLc (qItems (qVar i)) tg vs tt te s R := by
  unfold qLc qItems qVar
  rw [h1]
  show (match itemsD l with | some ds => lcB tg vs tt te R ds s | none => False)
  rw [h2]; exact h
theorem med_sort : ∀ xs : List Int, ∃ l : List Int, l.Pairwise (· < ·) ∧ ∀ v, v ∈ l ↔ v ∈ xs
  | [] => ⟨[], List.Pairwise.nil, fun _ => Iff.rfl⟩
  | a :: xs => by
    obtain ⟨l, h1, h2⟩ := med_sort xs
    refine ⟨(l.filter fun v => decide (v < a)) ++ a :: (l.filter fun v => decide (a < v)), ?_, fun v => ?_⟩
    · rw [List.pairwise_append, List.pairwise_cons]
      refine ⟨h1.filter _, ⟨fun b hb => of_decide_eq_true (List.mem_filter.mp hb).2, h1.filter _⟩, fun b hb c hc => ?_⟩
      have b2 := of_decide_eq_true (List.mem_filter.mp hb).2
      rcases List.mem_cons.mp hc with rfl | hc
      · exact b2
      · have := of_decide_eq_true (List.mem_filter.mp hc).2; omega
    · rw [List.mem_append, List.mem_cons, List.mem_filter, List.mem_filter, List.mem_cons, h2, decide_eq_true_iff, decide_eq_true_iff]
      constructor
      · rintro (⟨a, _⟩ | rfl | ⟨a, _⟩)
        · exact .inr a
        · exact .inl rfl
        · exact .inr a
      · rintro (rfl | h)
        · exact .inr (.inl rfl)
        · rcases Int.lt_trichotomy v a with c | c | c
          · exact .inl ⟨h, c⟩
          · exact .inr (.inl c)
          · exact .inr (.inr ⟨h, c⟩)
theorem med_ex {m : Nat} {p : Pan} (w : Bool) (hp : PanOk m p) (hm : m ≤ 100) : ∃ x : Nat → Int, IsMed p w x ∧ ∀ i, i < p.its.length → ∃ j, j < p.its.length ∧ mk p j = x i := by
  obtain ⟨l, h1, h2⟩ := med_sort (marksL p)
  have hv : ∀ v, v ∈ l ↔ ∃ i, i < p.its.length ∧ mk p i = v := fun v => by
    rw [h2]; unfold marksL; rw [List.mem_map]
    exact ⟨fun ⟨i, a, b⟩ => ⟨i, List.mem_range.mp a, b⟩, fun ⟨i, a, b⟩ => ⟨i, List.mem_range.mpr a, b⟩⟩
  cases l with
  | nil =>
    have := (hv (mk p 0)).mpr ⟨0, hp.one, rfl⟩
    cases this
  | cons b r => exact ⟨_, isMed_step hp hm h1 hv, fun i _ => by
      obtain ⟨j, a, b⟩ := (hv _).mp (stepM_mem (G := fun t => decide (i ∈ sideG p w t)) (l := b :: r) (x := b) List.mem_cons_self)
      exact ⟨j, a, b⟩⟩
theorem med_uniq {p : Pan} {w : Bool} {x y : Nat → Int} (hx : IsMed p w x) (hy : IsMed p w y) : ∀ i, i < p.its.length → x i = y i := fun i hi => by
  have a := (hx i hi (y i)).trans (hy i hi (y i)).symm
  have b := (hx i hi (x i)).trans (hy i hi (x i)).symm
  omega
theorem fnL_rng {n : Nat} (x : Nat → Int) {i : Nat} (hi : i < n) : fnL ((List.range n).map x) i = x i := by
  unfold fnL
  rw [List.getD_eq_getElem?_getD, List.getElem?_map, List.getElem?_range hi]; rfl
theorem fnL_row {ws : List Int} {n : Nat} (h : ws.length = n) : ws = (List.range n).map (fnL ws) := by
  subst h
  refine List.ext_getElem? fun i => ?_
  rw [List.getElem?_map]
  by_cases hi : i < ws.length
  · rw [List.getElem?_range hi, List.getElem?_eq_getElem hi]
    unfold fnL
    simp [List.getD_eq_getElem?_getD, List.getElem?_eq_getElem hi]
  · have : (List.range ws.length)[i]? = none := List.getElem?_eq_none (by simpa using hi)
    rw [List.getElem?_eq_none (by omega : ws.length ≤ i), this]; rfl
theorem spI_row {p : Pan} {ws : List Int} (h : ws.length = p.its.length) : (sprL p ws).sum = spI p (fnL ws) := spr_eq (fnL_row h)
theorem row_mem {p : Pan} {wss : List (List Int)} {m : Nat} (hp : PanOk m p) (hw : RowsOk p wss) {x : Nat → Int} (ho : Obx p x) (hj : ∀ i, i < p.its.length → ∃ j, j < p.its.length ∧ mk p j = x i) : (List.range p.its.length).map x ∈ wss := by
  refine hw.all _ (by simp) (fun v hv => ?_) fun a b e => ?_
  · obtain ⟨i, hi, rfl⟩ := List.mem_map.mp hv
    exact hj i (List.mem_range.mp hi)
  · obtain ⟨ha, hb⟩ := eE_lt hp e
    rw [fnL_rng x ha, fnL_rng x hb]; exact ho a b e
theorem pan_sh1 {m : Nat} {p : Pan} (hp : PanOk m p) (hm : m ≤ 100) : ShOk (panD p) := by
  obtain ⟨o1, o2, o3, o4⟩ := panD_ok hp hm
  exact ⟨o1, o2, by omega, by omega⟩
def isMd (p : Pan) (L : Int) : D → Bool
  | .tup xs => match asInts xs with
    | some ws => decide (ws.length = p.its.length) && obL p ws && decide ((sprL p ws).sum = L)
    | none => false
  | _ => false
theorem isMd_tup {p : Pan} {L : Int} {xs : List D} {ws : List Int} (h : asInts xs = some ws) : isMd p L (.tup xs) = (decide (ws.length = p.its.length) && obL p ws && decide ((sprL p ws).sum = L)) := by
  show (match asInts xs with | some ws => decide (ws.length = p.its.length) && obL p ws && decide ((sprL p ws).sum = L) | none => false) = _
  rw [h]
theorem isMd_len {p : Pan} {L : Int} {xs : List D} (h : xs.length ≠ p.its.length) : isMd p L (.tup xs) = false := by
  show (match asInts xs with | some ws => decide (ws.length = p.its.length) && obL p ws && decide ((sprL p ws).sum = L) | none => false) = _
  cases e : asInts xs with
  | none => rfl
  | some ws =>
    have e' := asInts_eq e
    have : ws.length ≠ p.its.length := by rw [e', List.length_map] at h; exact h
    simp [this]
theorem asInts_some : ∀ {xs : List D}, xs.all isI = true → ∃ ws, asInts xs = some ws
  | [], _ => ⟨[], rfl⟩
  | x :: xs, h => by
    rw [List.all_cons, Bool.and_eq_true] at h
    obtain ⟨ws, e⟩ := asInts_some h.2
    cases x <;> simp [isI] at h
    rename_i i; exact ⟨i :: ws, by simp [asInts, e]⟩
theorem asInts_none : ∀ {xs : List D}, xs.all isI = false → asInts xs = none
  | [], h => by cases h
  | x :: xs, h => by
    cases x <;> try rfl
    have : xs.all isI = false := by simpa [isI] using h
    simp [asInts, asInts_none this]
theorem isMd_none {p : Pan} {L : Int} {xs : List D} (h : xs.all isI = false) : isMd p L (.tup xs) = false := by
  show (match asInts xs with | some ws => decide (ws.length = p.its.length) && obL p ws && decide ((sprL p ws).sum = L) | none => false) = _
  rw [asInts_none h]
theorem fit_in {b : Nat} (hb : b ≤ 120) {x : D} (h : x.fit b) : inI (-(10 ^ 40)) (10 ^ 40) x = isI x := by
  cases x <;> try rfl
  rename_i i
  have h : Sz b i := h
  have h := h.le hb
  unfold Sz at h
  show (decide _ && decide _) = true
  have : (2 : Nat) ^ 120 ≤ 10 ^ 40 := by decide
  rw [Bool.and_eq_true, decide_eq_true_eq, decide_eq_true_eq]
  omega
end Pm

set_option Elab.async false
set_option linter.all false
set_option maxRecDepth 100000
set_option maxHeartbeats 1000000
set_option autoImplicit false
namespace Pm
open PySem PySem.Spec
open PyProof.Rows hiding St
open L2
section
variable {γ : Type} {X : Cx} {G : GP γ} {pos : Pos}
def qStore (i : Nat) (te : PEx γ) (d : D) (R : S γ → Prop) : S γ → Prop := fun s1 => (∃ es, s1.ρ[i]? = some (some (.own es))) ∧ te s1 fun y s2 => match y with
  | .int k => ∃ ds j, s2.ρ[i]? = some (some (.own ds)) ∧ ixN ds.length k = some j ∧ R ⟨s2.ρ.set i (some (.own (ds.set j d))), s2.g⟩
  | _ => False
def qSet2 (tv : PEx γ) (i : Nat) (ta : PEx γ) (j : Nat) (tb : PEx γ) : PSx γ := fun E s => tv s fun d s1 => match d with
  | .tup [d1, d2] => qStore i ta d1 (qStore j tb d2 E.nx) s1
  | _ => False
theorem qs_set2 {v o b o' b' : Expr} {tv ta tb : PEx γ} {i j kt : Nat} {p1 p2 pt : Pos} (hc : X.calm = true) (hv : QE X G v tv) (hn : PE X o (tVar i)) (hb : QE X G b ta) (hn' : PE X o' (tVar j)) (hb' : QE X G b' tb)
    (hK : X.K = G.K := by rfl)
    (hs : swapsWithSole [.Tuple [.Subscript o b p1, .Subscript o' b' p2] kt pt] v pos.line X.env = pure false := by rfl) (hw : swappedStores [.Tuple [.Subscript o b p1, .Subscript o' b' p2] kt pt] v X.env = pure none := by rfl)
    (h1 : (assignEach [.Tuple [.Subscript o b p1, .Subscript o' b' p2] kt pt] X.env).map (·.2) = [assign (.Tuple [.Subscript o b p1, .Subscript o' b' p2] kt pt) X.env] := by rfl)
    (h2 : (assignEach [.Subscript o b p1, .Subscript o' b' p2] X.env).map (·.2) = assign (.Subscript o b p1) X.env :: (assignEach [.Subscript o' b' p2] X.env).map (·.2) := by rfl)
    (h3 : (assignEach [.Subscript o' b' p2] X.env).map (·.2) = assign (.Subscript o' b' p2) X.env :: (assignEach [] X.env).map (·.2) := by rfl)
    (hl : (assignEach [.Subscript o b p1, .Subscript o' b' p2] X.env).length = 2 := by rfl) (hst : (assignEach [.Subscript o b p1, .Subscript o' b' p2] X.env).findIdx? (·.1) = none := by rfl)
    (ha : ∀ v, assign (.Subscript o b p1) X.env v = (do
      let ov ← holding [v] (eval o X.env)
      let iv ← holding [v, ov] (eval b X.env)
      standAt p1
      holding [v, ov, iv] (setItem ov iv v)
      release [v, ov, iv] []) := by intro _; rfl)
    (ha' : ∀ v, assign (.Subscript o' b' p2) X.env v = (do
      let ov ← holding [v] (eval o' X.env)
      let iv ← holding [v, ov] (eval b' X.env)
      standAt p2
      holding [v, ov, iv] (setItem ov iv v)
      release [v, ov, iv] []) := by intro _; rfl) : QS X G (.Assign [.Tuple [.Subscript o b p1, .Subscript o' b' p2] kt pt] v pos) (qSet2 tv i ta j tb) := by
  refine PS.imp (ps_asg hv (pg_tup hc (pgs_cons (pg_sub hn hb set_list ha) (pgs_cons (pg_sub hn' hb' set_list ha') pgs_nil h3) h2) hl hst) hs hw h1) fun De σ H ⟨F, Z, s, E, r, t, n, _⟩ => ?_
  refine ⟨F, Z, s, _, r, t, fun d s1 Z1 v1 H1 t1 k1 r1 a1 => ?_⟩
  cases d with
  | tup ds =>
    match ds, t1 with
    | [d1, d2], t1 =>
      obtain ⟨⟨es, t0⟩, t1⟩ := t1
      simp only [At] at a1
      obtain ⟨p, vs, e, hsq, a⟩ := a1
      simp only [Ats] at a
      obtain ⟨v1', _, rfl, a2, v2', _, rfl, a3, rfl⟩ := a
      obtain ⟨a, vs, g1, g2, _⟩ := r1.own i es t0
      refine ⟨p, _, e, by rw [hK]; exact seqT r1.z hsq, rfl, v1', [v2'], rfl, .ref a, g1, F, Z1, s1, _, r1, t1, fun y s2 Z2 w2 H2 t2 k2 r2 b2 => ?_⟩
      cases y with
      | int k =>
        obtain ⟨ds, jj, e1, e2, ⟨es', t0'⟩, t3⟩ := t2
        have b2' : w2 = .int k := b2
        obtain ⟨a', vs', f1, f2, f3, _⟩ := r2.own i ds e1
        rw [g1] at f1; cases f1
        have r3 := r2.write e1 g1 (f3.set jj (At.mono k2 _ _ a2))
        refine ⟨a, vs', k, jj, rfl, b2', f2, by rw [f3.len]; exact e2, ?_⟩
        obtain ⟨a5, vs5, g5, g6, _⟩ := r3.own j es' t0'
        refine ⟨v2', [], rfl, .ref a5, g5, F, Z2, _, _, r3, t3, fun y s4 Z4 w4 H4 t4 k4 r4 b4 => ?_⟩
        cases y with
        | int k' =>
          obtain ⟨ds', j', e1', e2', e3'⟩ := t4
          have b4' : w4 = .int k' := b4
          obtain ⟨a6, vs6, f1', f2', f3', _⟩ := r4.own j ds' e1'
          rw [g5] at f1'; cases f1'
          exact ⟨a5, vs6, k', j', rfl, b4', f2', by rw [f3'.len]; exact e2', rfl, n _ Z4 _ _ e3' ((k1.trans k2).trans k4) (r4.write e1' g5 (f3'.set j' (At.mono (k2.trans k4) _ _ a3)))⟩
        | _ => exact t4.elim
      | _ => exact t2.elim
  | _ => exact t1.elim
end
end Pm

set_option Elab.async false
set_option linter.all false
set_option maxRecDepth 100000
set_option maxHeartbeats 1000000
set_option autoImplicit false
namespace Pm
open PySem PySem.Spec
open PyProof.Rows hiding St
open L2
def nedF (q : (Int × Int) × Rat) : Rat := ((q.1.1 : Rat) - q.2) * (q.1.2 : Rat)
def nedL (p : Pan) (rs : List Rat) : List Rat := (p.its.zip rs).map nedF
theorem nedL_len {p : Pan} {rs : List Rat} (h : rs.length = p.its.length) : (nedL p rs).length = p.its.length := by
  unfold nedL; rw [List.length_map, List.length_zip]; omega
theorem nedL_sz {m : Nat} {p : Pan} {rs : List Rat} (hp : PanOk m p) (hz : ∀ x ∈ rs, SzR 200 x) : ∀ x ∈ nedL p rs, SzR 310 x := fun x hx => by
  obtain ⟨⟨q, x⟩, hq, rfl⟩ := List.mem_map.mp hx
  have hx := hz x (List.of_mem_zip hq).2
  obtain ⟨m1, m2, m3, m4⟩ := hp.it q (List.of_mem_zip hq).1
  have zm : Sz 50 q.1 := sz_of (by decide) (by omega) (by omega)
  have zw : Sz 50 q.2 := sz_of (by decide) (by omega) (by omega)
  exact (((SzR.int zm).sub hx).mul (SzR.int zw)).le (by decide)
def sideT (up : Bool) : D := .str (if up then "up" else "down")
def nearR (rs : List Rat) (q : Int × Int) : Bool := decide (rs.getD q.1.toNat 0 = rs.getD q.2.toNat 0)
def outR (gs : List Nat) (up : Bool) (q : Int × Int) : Bool := if up then decide (q.1.toNat ∈ gs) && !decide (q.2.toNat ∈ gs) else decide (q.2.toNat ∈ gs) && !decide (q.1.toNat ∈ gs)
def canM (p : Pan) (rs : List Rat) (gs : List Nat) (up : Bool) : Bool := p.rus.all fun q => !(nearR rs q && outR gs up q)
theorem idx_fr {rs : List Rat} {i : Nat} (h : i < rs.length) : idx (rs.map frD) (i : Int) = some (frD (rs.getD i 0)) := by
  rw [idx_nat', List.getElem?_map, List.getD_eq_getElem?_getD, List.getElem?_eq_getElem h]; rfl
def selR (xs : List Rat) (gs : List Nat) : List Rat := gs.map fun i => xs.getD i 0
def forD (p : Pan) (rs : List Rat) (gs : List Nat) (up : Bool) : D :=
  if canM p rs gs up then frD ((selR (nedL p rs) gs).sum * (if up then 1 else -1 : Rat)) else .non
end Pm

set_option Elab.async false
set_option linter.all false
set_option maxRecDepth 100000
set_option maxHeartbeats 1000000
set_option autoImplicit false
namespace Pm
open PySem PySem.Spec
open PyProof.Rows hiding St
open L2
theorem set_rngR {n a : Nat} (f : Nat → Rat) (v : Rat) : ((List.range n).map fun i => frD (f i)).set a (frD v) = (List.range n).map fun i => frD (if i = a then v else f i) := by
  refine List.ext_getElem? fun i => ?_
  rw [List.getElem?_set, List.getElem?_map, List.getElem?_map, List.length_map, List.length_range]
  by_cases hi : i < n
  · rw [List.getElem?_range hi]
    simp only [Option.map_some]
    by_cases e : a = i
    · subst e; rw [if_pos rfl, if_pos hi, if_pos rfl]
    · rw [if_neg e, if_neg (by omega)]
  · have : (List.range n)[i]? = none := List.getElem?_eq_none (by simpa using hi)
    rw [this]
    by_cases e : a = i
    · subst e; rw [if_pos rfl, if_neg hi]; rfl
    · rw [if_neg e]; rfl
theorem outA_snoc (z : List RA) (q : Int × Int) (x : Rat) (i : Nat) : outA (z ++ [(q, x)]) i = outA z i + (if q.1 = (i : Int) then x else 0) - (if q.2 = (i : Int) then x else 0) := by
  unfold outA leaveA enterA
  rw [List.filter_append, List.filter_append, List.map_append, List.map_append, List.sum_append, List.sum_append]
  by_cases c1 : q.1 = (i : Int) <;> by_cases c2 : q.2 = (i : Int) <;> simp [c1, c2] <;> grind
theorem outA_take {l : List (Int × Int)} {am : List Rat} {j : Nat} {q : Int × Int} {x : Rat} (hq : l[j]? = some q) (hx : am[j]? = some x) (i : Nat) : outA ((l.take (j + 1)).zip (am.take (j + 1))) i = outA ((l.take j).zip (am.take j)) i + (if q.1 = (i : Int) then x else 0) - (if q.2 = (i : Int) then x else 0) := by
  have jl := (List.getElem?_eq_some_iff.mp hq).1
  have ja := (List.getElem?_eq_some_iff.mp hx).1
  have e1 : l.take (j + 1) = l.take j ++ [q] := by rw [List.take_add_one, hq]; rfl
  have e2 : am.take (j + 1) = am.take j ++ [x] := by rw [List.take_add_one, hx]; rfl
  rw [e1, e2, List.zip_append (by rw [List.length_take, List.length_take]; omega)]
  exact outA_snoc _ q x i
theorem outT_sz {p : Pan} {m b : Nat} {am : List Rat} (hp : PanOk m p) (ha : ∀ x ∈ am, SzR b x) (hb : b ≤ 110) (i j : Nat) : SzR 2000 (outA ((p.rus.take j).zip (am.take j)) i) := by
  have hp' : PanOk m ⟨p.its, p.rus.take j⟩ := ⟨hp.one, hp.top, hp.it, Nat.le_trans (by show (p.rus.take j).length ≤ p.rus.length; rw [List.length_take]; omega) hp.few, fun q hq => hp.ru q (List.mem_of_mem_take hq)⟩
  exact (out_sz (am := am.take j) hp' (fun x hx => ha x (List.mem_of_mem_take hx)) hb i).2.2
end Pm

set_option Elab.async false
set_option linter.all false
set_option maxRecDepth 100000
set_option maxHeartbeats 1000000
set_option autoImplicit false
namespace Pm
open PySem PySem.Spec
open PyProof.Rows hiding St
open L2
def eqLD : D → D → DK → Prop
  | .lst xs, .lst [], R => R (.bl xs.isEmpty)
  | _, _, _ => False
theorem o_eqL {X : Cx} {k : Nat} (hr : Room k X.A) : OpR X (compareOp .Eq) (dOp2 X.K eqLD) := by
  intro pins s σ H x y v u Q I rx ry ⟨Z, d, e, R, k, ad, ae, h, q⟩
  cases d <;> try exact h.elim
  cases e <;> try exact h.elim
  rename_i xs ys
  cases ys with
  | cons _ _ => exact h.elim
  | nil =>
    simp only [At, Ats] at ad ae
    obtain ⟨a, vs, rfl, h2, h3⟩ := ad
    obtain ⟨b, ws, rfl, g2, rfl⟩ := ae
    cases rx
    cases ry
    obtain ⟨its, rv, it1, _⟩ := I.list (.inl (.inl (k _ _ h2)) : SqL X.K H a vs)
    obtain ⟨its2, rv2, it2, _⟩ := I.list (.inl (.inl (k _ _ g2)) : SqL X.K H b [])
    cases rv2
    have ln : its.length = xs.length := by rw [← rv.length, h3.len]
    have un := hr.un
    have fin : (∃ v' H', Inv X pins σ H' s ∧ RelV v' (Value.bool xs.isEmpty) ∧ Q v' H') := ⟨.bl _, H, I, rfl, dk q k h rfl⟩
    cases xs with
    | nil =>
      have : its = [] := List.eq_nil_of_length_eq_zero ln
      subst this
      exact SeqAt.RcAt.lists (A := X.A) (e := fun _ => true) it1.isList it2.isList rfl (by omega) (fun j h1 h2 => by simp at h2) X.prog X.w X.xe _ fin
    | cons x xs =>
      exact SeqAt.RcAt.lists_lengths (A := X.A) it1.isList it2.isList (by simp [ln]) (by omega) X.prog X.w X.xe _ fin
section
variable {P : Program} {w : World} {K : PySem.W.Frag} {mg : Str → Option Value} {base : Heap}
theorem okPS {x qual : Str} {st : Stmt} {f : Addr} {fd : FuncData} {N ps : List Str} {k : Nat} (F : Fn K x qual st f fd) (S : FnScope N ps (defScope st)) {fs : Spec0} (len : ∀ ds R, fs ds R → ds.length = ps.length)
    (body : ∃ t : PSx Unit, (∀ (cdv : Value) (A : Around) (outer : List Env) (s : Shared) (H : Hp) (E : XK), Room k (A.deeper (envOfC qual (defScope st) s.heap.objs.size f cdv)) → (A.deeper (envOfC qual (defScope st) s.heap.objs.size f cdv)).guards = some [] →
      QSs (cxOf CX0 P w K mg base N qual (defScope st) f cdv A outer s H E).nox (none0 K) (defBody st) t) ∧ ∀ ds R, fs ds R → t { nx := fun _ => R .non, rt := fun d _ => R d } ⟨startL N.length ds, ()⟩) : FnG P w K mg base (k + 1) f fd ps (spP K fs) := by
  refine F.okGd S (fun vs H Q E h => ?_) (fun cdv A outer s H vs Q E gd hr h => ?_)
  · obtain ⟨Z, ds, R, _, a, h, _⟩ := h
    rw [a.len]; exact len _ _ h
  · obtain ⟨t, hb, hp⟩ := body
    refine ⟨_, hb cdv A outer s H E hr gd, ?_⟩
    obtain ⟨Z, ds, R, k, a, h, q⟩ := h
    have hl : ps.length ≤ N.length := by have := congrArg List.length S.pre; rw [List.length_take] at this; omega
    have hd := len _ _ h
    refine ⟨⟨H, fun b => H b ≠ none ∧ Z b = none, fun b hb => Option.ne_none_iff_exists'.mp hb.1⟩, Z, _, _, ?_, hp ds R h, ?_, ?_, ?_, ?_⟩
    · refine ⟨k, Same.refl _, fun b hb => hb.2, ?_, fun i d e => ?_, fun i ds' e => ?_, fun i j ds' es b n e1 e2 => ?_, trivial, fun b z => False.elim z, fun b z => False.elim z, fun _ _ z => by cases z⟩
      · unfold L2.start startL
        simp only [List.length_append, List.length_map, List.length_replicate, a.len]
      · obtain ⟨d', e', v, h1, h2⟩ := start_at a e
        cases e'
        exact ⟨v, h1, h2⟩
      · obtain ⟨d', e', _⟩ := start_at a e
        cases e'
      · obtain ⟨d', e', _⟩ := start_at a e1
        cases e'
    · intro s' Z' σ' H' q' k' r'
      exact q .non Z' .non H' q' k' r'.z r'.f (fun b o e n => by
        cases hb : H b with
        | none => rfl
        | some u => have := r'.zb b ⟨by rw [hb]; simp, n⟩; rw [e] at this; cases this) rfl
    · intro d s' Z' σ' v H' q' k' r' a'
      exact q d Z' v H' q' k' r'.z r'.f (fun b o e n => by
        cases hb : H b with
        | none => rfl
        | some u => have := r'.zb b ⟨by rw [hb]; simp, n⟩; rw [e] at this; cases this) a'
    · intro s' Z' σ' H' q'; exact q'.elim
    · intro s' Z' σ' H' q'; exact q'.elim
end
theorem allFr : ∀ {xs : List D}, xs.all isFr = true → ∃ rs : List Rat, xs = rs.map frD
  | [], _ => ⟨[], rfl⟩
  | x :: xs, h => by
    rw [List.all_cons, Bool.and_eq_true] at h
    obtain ⟨rs, rfl⟩ := allFr h.2
    obtain ⟨r, rfl⟩ := isFr_ex h.1
    exact ⟨r :: rs, rfl⟩
def supQ (rs : List Rat) (q : Int × Int) (x : Rat) : Bool := decide (x.num = 0) || (decide (0 < x.num) && decide (rs.getD q.1.toNat 0 = rs.getD q.2.toNat 0))
theorem eqvs_frs : ∀ xs ys : List Rat, D.eqvs (xs.map frD) (ys.map frD) = decide (xs = ys)
  | [], [] => by simp [D.eqvs]
  | [], y :: ys => by simp [D.eqvs]
  | x :: xs, [] => by simp [D.eqvs]
  | x :: xs, y :: ys => by
    show (D.eqv (frD x) (frD y) && D.eqvs (xs.map frD) (ys.map frD)) = _
    rw [frD_eqv, eqvs_frs xs ys, Bool.eq_iff_iff]
    simp
theorem frs_list {n : Nat} {rs : List Rat} (h : rs.length = n) : rs.map frD = (List.range n).map fun j => frD (rs.getD j 0) := by
  subst h
  refine List.ext_getElem? fun i => ?_
  rw [List.getElem?_map, List.getElem?_map]
  by_cases hi : i < rs.length
  · rw [List.getElem?_range hi, List.getElem?_eq_getElem hi]
    simp only [Option.map_some]
    rw [List.getD_eq_getElem?_getD, List.getElem?_eq_getElem hi]; rfl
  · have : (List.range rs.length)[i]? = none := List.getElem?_eq_none (by simpa using hi)
    rw [this, List.getElem?_eq_none (by omega : rs.length ≤ i)]; rfl
theorem frs_plns (rs : List Rat) : D.plns (rs.map frD) = true ∧ D.deps (rs.map frD) ≤ 1 := by
  induction rs with
  | nil => exact ⟨rfl, Nat.zero_le _⟩
  | cons x rs ih =>
    refine ⟨by simp only [List.map_cons, D.plns, ih.1, frD_pln]; rfl, ?_⟩
    show max (frD x).dep _ ≤ 1
    exact Nat.max_le.mpr ⟨by show max 0 (max 0 0) + 1 ≤ 1; decide, ih.2⟩
def supA (p : Pan) (rs am : List Rat) : Bool := (List.range am.length).all fun j => supQ rs (p.rus.getD j (0, 0)) (am.getD j 0)
def supR (p : Pan) (rs am : List Rat) : Bool := supA p rs am && (obB p rs && decide ((List.range p.its.length).map (rateA p am) = rs))
theorem sup_out {m : Nat} {p : Pan} (hp : PanOk m p) {rs am : List Rat} (hl : rs.length = p.its.length) : ((List.range p.its.length).map fun i => outA (p.rus.zip am) i) = nedL p rs ↔ (List.range p.its.length).map (rateA p am) = rs := by
  have ne : ∀ i, i < p.its.length → (nedL p rs).getD i 0 = (mR p i - rs.getD i 0) * wR p i := fun i hi => by
    unfold nedL mR wR
    have hi' : i < rs.length := by omega
    have ez : (p.its.zip rs)[i]? = some (p.its[i], rs[i]) := List.getElem?_zip_eq_some.mpr ⟨List.getElem?_eq_getElem hi, List.getElem?_eq_getElem hi'⟩
    rw [List.getD_eq_getElem?_getD, List.getElem?_map, ez, List.getD_eq_getElem?_getD, List.getElem?_eq_getElem hi, List.getD_eq_getElem?_getD, List.getElem?_eq_getElem hi']
    rfl
  have w0 : ∀ i, i < p.its.length → wR p i ≠ 0 := fun i hi z => by
    have := wR_pos hp hi
    rw [z] at this; exact absurd this (by decide)
  have key : ∀ i, i < p.its.length → (outA (p.rus.zip am) i = (nedL p rs).getD i 0 ↔ rateA p am i = rs.getD i 0) := fun i hi => by
    rw [ne i hi]
    unfold rateA
    have nz := w0 i hi
    rw [Rat.div_def]
    constructor
    · intro e
      rw [e, Rat.mul_assoc, Rat.mul_inv_cancel _ nz]; grind
    · intro e
      have : outA (p.rus.zip am) i * (wR p i)⁻¹ = mR p i - rs.getD i 0 := by grind
      rw [← this, Rat.mul_assoc, Rat.mul_comm _ (wR p i), Rat.mul_inv_cancel _ nz, Rat.mul_one]
  have lists : ∀ (f : Nat → Rat) (xs : List Rat), xs.length = p.its.length → ((List.range p.its.length).map f = xs ↔ ∀ i, i < p.its.length → f i = xs.getD i 0) := fun f xs hx => by
    constructor
    · intro e i hi
      rw [← e, List.getD_eq_getElem?_getD, List.getElem?_map, List.getElem?_range hi]; rfl
    · intro h
      refine List.ext_getElem? fun i => ?_
      rw [List.getElem?_map]
      by_cases hi : i < p.its.length
      · rw [List.getElem?_range hi, List.getElem?_eq_getElem (by omega : i < xs.length)]
        simp only [Option.map_some]
        rw [h i hi, List.getD_eq_getElem?_getD, List.getElem?_eq_getElem (by omega : i < xs.length)]; rfl
      · have : (List.range p.its.length)[i]? = none := List.getElem?_eq_none (by simpa using hi)
        rw [this, List.getElem?_eq_none (by omega : xs.length ≤ i)]; rfl
  rw [lists _ _ (nedL_len hl), lists _ _ hl]
  exact forall_congr' fun i => forall_congr' fun hi => key i hi
def ngD : D → Bool
  | .tup (.int a :: _) => decide (a < 0)
  | _ => false
theorem supA_zip {p : Pan} {rs am : List Rat} (al : am.length = p.rus.length) : supA p rs am = (p.rus.zip am).all fun q => supQ rs q.1 q.2 := by
  unfold supA
  rw [Bool.eq_iff_iff, List.all_eq_true, List.all_eq_true]
  constructor
  · intro h q hq
    obtain ⟨j, hj, rfl⟩ := List.getElem_of_mem hq
    have h1 : j < p.rus.length := by rw [List.length_zip] at hj; omega
    have h2 : j < am.length := by omega
    have := h j (List.mem_range.mpr h2)
    rw [List.getD_eq_getElem?_getD, List.getElem?_eq_getElem h1, List.getD_eq_getElem?_getD, List.getElem?_eq_getElem h2] at this
    rw [List.getElem_zip]; exact this
  · intro h j hj
    have h2 : j < am.length := List.mem_range.mp hj
    have h1 : j < p.rus.length := by omega
    have hz : j < (p.rus.zip am).length := by rw [List.length_zip]; omega
    have := h _ (List.getElem_mem hz)
    rw [List.getElem_zip] at this
    rw [List.getD_eq_getElem?_getD, List.getElem?_eq_getElem h1, List.getD_eq_getElem?_getD, List.getElem?_eq_getElem h2]
    exact this
def frsD (rs : List Rat) : D := .tup (rs.map frD)
theorem frs_set {rs : List Rat} {k : Nat} (h : k < rs.length) (x : Rat) : cut (rs.map frD) none (some (k : Int)) ++ [frD x] ++ cut (rs.map frD) (some ((k : Int) + 1)) none = (rs.set k x).map frD := by
  have c1 := cut_to (rs.map frD) k
  have c2 := cut_from (rs.map frD) (k + 1)
  have c3 : (((k + 1 : Nat)) : Int) = (k : Int) + 1 := by omega
  rw [c3] at c2
  rw [c1, c2, ← List.map_take, ← List.map_drop, List.set_eq_take_append_cons_drop, if_pos h]
  simp
structure PvOk (d : D) : Prop where
  z : d.plz = true
  f : d.fit 102
  k : d.dep ≤ 1
  w : d.wid ≤ 4024
theorem wids_le {xs : List D} (h : ∀ x ∈ xs, x.wid ≤ 4024) : D.wids xs ≤ 4032 * xs.length := by
  induction xs with
  | nil => exact Nat.le_refl _
  | cons x xs ih =>
    have := ih fun y hy => h y (by simp [hy])
    have := h x (by simp)
    simp only [D.wids, List.length_cons]; omega
theorem PvOk.tup {xs : List D} (h : ∀ x ∈ xs, PvOk x) (hl : xs.length ≤ 40) : VOk 102 200000 2 (.tup xs) := by
  refine VOk.to_tup (fun x hx => ⟨(h x hx).z, (h x hx).f, (h x hx).k⟩) ?_
  have := wids_le fun x hx => (h x hx).w
  omega
theorem PvOk.lst {xs : List D} (h : ∀ x ∈ xs, PvOk x) (hl : xs.length ≤ 40) : VOk 102 200000 2 (.lst xs) := by
  refine VOk.to_lst (fun x hx => ⟨(h x hx).z, (h x hx).f, (h x hx).k⟩) ?_
  have := wids_le fun x hx => (h x hx).w
  omega
theorem PvOk.fr {x : Rat} (h : SzR 102 x) : PvOk (frD x) := ⟨rfl, ⟨h.1, h.2, trivial⟩, by show max 0 (max 0 0) + 1 ≤ 1; decide, by show 2000 + 8 + (2000 + 8 + 0) + 8 ≤ 4024; decide⟩
theorem PvOk.frs {xs : List Rat} (h : ∀ x ∈ xs, SzR 102 x) : ∀ d ∈ xs.map frD, PvOk d := fun d hd => by
  obtain ⟨x, hx, rfl⟩ := List.mem_map.mp hd
  exact PvOk.fr (h x hx)
theorem PvOk.two {a b : Int} (h : Sz 102 a) (k : Sz 102 b) : PvOk (.tup [.int a, .int b]) := ⟨rfl, ⟨h, k, trivial⟩, by show max 0 (max 0 0) + 1 ≤ 1; decide, by show 2000 + 8 + (2000 + 8 + 0) + 8 ≤ 4024; decide⟩
theorem out_szT {p : Pan} {m : Nat} {am : List Rat} (hp : PanOk m p) (ha : ∀ x ∈ am, SzR 105 x) (i : Nat) : SzR 1720 (outA (p.rus.zip am) i) := by
  have hz : ∀ q ∈ p.rus.zip am, q.1.1 ≠ q.1.2 := fun q hq => (hp.ru _ (List.of_mem_zip hq).1).2.2.2.2
  have ln := le_en hz i
  have lz : (p.rus.zip am).length ≤ 16 := by rw [List.length_zip]; have := hp.few; omega
  have h1 := sum_sz (b := 105) (l := leaveA (p.rus.zip am) i) fun x hx => by obtain ⟨q, hq, rfl⟩ := leave_mem hx; exact ha _ (List.of_mem_zip hq).2
  have h2 := sum_sz (b := 105) (l := enterA (p.rus.zip am) i) fun x hx => by obtain ⟨q, hq, rfl⟩ := enter_mem hx; exact ha _ (List.of_mem_zip hq).2
  refine (h1.sub h2).le ?_
  omega
end Pm

set_option Elab.async false
set_option linter.all false
set_option maxRecDepth 100000
set_option maxHeartbeats 1000000
set_option autoImplicit false
namespace Pm
open PySem PySem.Spec
open PyProof.Rows hiding St
open L2
structure Xc where
  c : Str
  f : Option (Str × D) := none
def XcAt (K : PySem.W.Frag) (mg : Str → Option Value) (Z : Hp) (x : Xc) (cls : Value) (d : Option Addr) : Prop :=
  mg x.c = some cls ∧ match x.f with
  | none => d = none
  | some (n, v) => ∃ a w, d = some a ∧ Z a = some (.xd [(n, w)]) ∧ At K Z v w
variable {γ : Type}
abbrev XW (γ : Type) := Xc → S γ → Prop
abbrev PSXx (γ : Type) := XW γ → PSx γ
abbrev PEXx (γ : Type) := XW γ → PEx γ
def lSX (G : GP γ) (mg : Str → Option Value) (W : WX) (t : PSXx γ) : TS := fun De σ H => ∃ F Z s E w, Rel G F Z s σ H ∧ t w E s ∧
  (∀ s' Z' σ' H', E.nx s' → Same Z Z' → Rel G F Z' s' σ' H' → De.nx σ' H') ∧
  (∀ d s' Z' σ' v H', E.rt d s'.g → Same Z Z' → Rel G F Z' s' σ' H' → At G.K Z' d v → De.rt v H') ∧
  (∀ s' Z' σ' H', E.bk s' → Same Z Z' → Rel G F Z' s' σ' H' → De.bk σ' H') ∧
  (∀ s' Z' σ' H', E.ct s' → Same Z Z' → Rel G F Z' s' σ' H' → De.ct σ' H') ∧
  (∀ x s' Z' σ' cls d H', w x s' → Same Z Z' → Rel G F Z' s' σ' H' → XcAt G.K mg Z' x cls d → W cls d σ' H')
def lEX (G : GP γ) (mg : Str → Option Value) (W : WX) (t : PEXx γ) : TE := fun σ H Q => ∃ F Z s R w, Rel G F Z s σ H ∧ t w s R ∧
  (∀ d s' Z' v H', R d s' → Same Z Z' → Rel G F Z' s' σ H' → At G.K Z' d v → Q v H') ∧
  (∀ x s' Z' cls d H', w x s' → Same Z Z' → Rel G F Z' s' σ H' → XcAt G.K mg Z' x cls d → W cls d σ H')
abbrev QSX (X : Cx) (G : GP γ) (W : WX) (st : Stmt) (t : PSXx γ) : Prop := PS X st (lSX G X.mg W t)
abbrev QSXs (X : Cx) (G : GP γ) (W : WX) (st : List Stmt) (t : PSXx γ) : Prop := PSs X st (lSX G X.mg W t)
abbrev QEX (X : Cx) (G : GP γ) (W : WX) (e : Expr) (t : PEXx γ) : Prop := PE X e (lEX G X.mg W t)
section
variable {X : Cx} {G : GP γ} {W : WX} {pos : Pos} {e : Expr}
def xs0 (t : PSx γ) : PSXx γ := fun _ => t
theorem qsx_of {st : Stmt} {t : PSx γ} (h : QS X G st t) : QSX X G W st (xs0 t) :=
  PS.imp h fun De σ H ⟨F, Z, s, E, w, r, t, n, rt, bk, ct, _⟩ => ⟨F, Z, s, E, r, t, n, rt, bk, ct⟩
theorem qssx_of {st : List Stmt} {t : PSx γ} (h : QSs X G st t) : QSXs X G W st (xs0 t) :=
  PSs.imp h fun De σ H ⟨F, Z, s, E, w, r, t, n, rt, bk, ct, _⟩ => ⟨F, Z, s, E, r, t, n, rt, bk, ct⟩
def xSeq (t u : PSXx γ) : PSXx γ := fun w => qSeq (t w) (u w)
theorem qssx_cons {st : Stmt} {rest : List Stmt} {t u : PSXx γ} (h1 : QSX X G W st t) (h2 : QSXs X G W rest u) : QSXs X G W (st :: rest) (xSeq t u) := by
  refine PSs.imp (pss_cons h1 h2) fun De σ H ⟨F, Z, s, E, w, r, t, n, rt, bk, ct, ex⟩ => ?_
  refine ⟨F, Z, s, _, w, r, t, fun s' Z' σ' H' u' k r' => ?_, rt, bk, ct, ex⟩
  exact ⟨F, Z', s', E, w, r', u', fun s2 Z2 σ2 H2 q k2 r2 => n s2 Z2 σ2 H2 q (k.trans k2) r2, fun d s2 Z2 σ2 v H2 q k2 r2 a2 => rt d s2 Z2 σ2 v H2 q (k.trans k2) r2 a2,
    fun s2 Z2 σ2 H2 q k2 r2 => bk s2 Z2 σ2 H2 q (k.trans k2) r2, fun s2 Z2 σ2 H2 q k2 r2 => ct s2 Z2 σ2 H2 q (k.trans k2) r2, fun x s2 Z2 σ2 c d H2 q k2 r2 a2 => ex x s2 Z2 σ2 c d H2 q (k.trans k2) r2 a2⟩
theorem qssx_one {st : Stmt} {t : PSXx γ} (h1 : QSX X G W st t) : QSXs X G W [st] t := pss_one h1
def xIf (c : PTx γ) (t u : PSXx γ) : PSXx γ := fun w => qIf c (t w) (u w)
theorem qsx_if {c : Expr} {a b : List Stmt} {tc : PTx γ} {t u : PSXx γ} (hc : QT X G c tc) (ha : QSXs X G W a t) (hb : QSXs X G W b u) : QSX X G W (.If c a b pos) (xIf tc t u) := by
  refine PS.imp (ps_if hc ha hb) fun De σ H ⟨F, Z, s, E, w, r, t, n, rt, bk, ct, ex⟩ => ?_
  refine ⟨F, Z, s, _, r, t, fun k s1 Z1 H1 t1 k1 r1 => ?_⟩
  have go : ∀ {t : PSXx γ}, t w E s1 → lSX G X.mg W t De σ H1 := fun {t} q => ⟨F, Z1, s1, E, w, r1, q, fun s2 Z2 σ2 H2 q k2 r2 => n s2 Z2 σ2 H2 q (k1.trans k2) r2, fun d s2 Z2 σ2 v H2 q k2 r2 a2 => rt d s2 Z2 σ2 v H2 q (k1.trans k2) r2 a2,
    fun s2 Z2 σ2 H2 q k2 r2 => bk s2 Z2 σ2 H2 q (k1.trans k2) r2, fun s2 Z2 σ2 H2 q k2 r2 => ct s2 Z2 σ2 H2 q (k1.trans k2) r2, fun x s2 Z2 σ2 c d H2 q k2 r2 a2 => ex x s2 Z2 σ2 c d H2 q (k1.trans k2) r2 a2⟩
  cases k with
  | true => exact iteT (go (t1.1 rfl))
  | false => exact iteF (go (t1.2 rfl))
def excAt (K : PySem.W.Frag) (x : Str) : Option Addr := match PySem.W.nsIn K mainGlobals x with
  | some (some (.ref C)) => some C
  | _ => none
def bVal : List Value := [.type "ValueError", .type "Exception", .type "BaseException", .type "object"]
def exc0B (K : PySem.W.Frag) (x : Str) : Bool := match excAt K x with
  | some C => PySem.W.excIn K C bVal "ValueError.__new__" && PySem.W.keepIn K (.ref C)
  | none => false
def excQB (K : PySem.W.Frag) (x : Str) : Bool := match excAt K x with
  | some C => (PySem.W.subIn K (.ref C) (.type "BaseException") == some true) && (PySem.W.typeIn K (.ref C) == some (.type "type")) && (PySem.W.findIn K (.ref C) "__getattribute__" == some (some (.builtin "BaseException.__getattribute__"))) && (PySem.W.findIn K (.ref C) "__getattr__" == some none)
      && PySem.W.hasDictIn K C && (PySem.W.findIn K (.ref C) "__class__" == some (some (.builtin "object.__class__"))) && (PySem.W.specialIn K (.builtin "object.__class__") "__get__" == some (some (.builtin "getset_descriptor.__get__"))) && (PySem.W.takesIn K (.builtin "object.__class__") == some true) && (PySem.W.mroIn K C (.type "object") == some true)
  | none => false
def clsV (K : PySem.W.Frag) (y : Str) : Option Value := match PySem.W.nsIn K mainGlobals y with
  | some (some (.ref C)) => some (.ref C)
  | some none => match bootBuiltins y with
    | some (.type T) => some (.type T)
    | _ => none
  | _ => none
def subB (K : PySem.W.Frag) (x y : Str) (b : Bool) : Bool := match excAt K x, clsV K y with
  | some C, some c => (PySem.W.kitOne K (.ref C) c == some b) && (PySem.W.exmOne K (.ref C) c == some b)
  | _, _ => false
structure Exq (K : PySem.W.Frag) (mg : Str → Option Value) (x : Str) : Prop where
  ex : ∃ C, mg x = some (.ref C) ∧ excAt K x = some C ∧ PySem.W.subIn K (.ref C) (.type "BaseException") = some true ∧ PySem.W.typeIn K (.ref C) = some (.type "type") ∧ ExcC K C
structure Exc0 (K : PySem.W.Frag) (mg : Str → Option Value) (x : Str) : Prop where
  ex : ∃ C, mg x = some (.ref C) ∧ excAt K x = some C ∧ PySem.W.excIn K C bVal "ValueError.__new__" = true ∧ PySem.W.keepIn K (.ref C) = true
structure Sub (K : PySem.W.Frag) (mg : Str → Option Value) (x y : Str) (b : Bool) : Prop where
  ex : ∃ C c, mg x = some (.ref C) ∧ clsV K y = some c ∧ ((∃ C', c = .ref C' ∧ mg y = some c) ∨ (∃ T, c = .type T ∧ mg y = none ∧ bootBuiltins y = some c)) ∧ PySem.W.kitOne K (.ref C) c = some b ∧ PySem.W.exmOne K (.ref C) c = some b
theorem excAt_mg {K : PySem.W.Frag} {mg : Str → Option Value} {h : Heap} (X : K.In h) (G : h.Ns mainGlobals mg) {x : Str} {C : Addr} (e : excAt K x = some C) : mg x = some (.ref C) := by
  unfold excAt at e
  split at e
  · rename_i C' e'
    cases e
    exact PySem.W.mg_of X G e'
  · cases e
theorem exq_ok {K : PySem.W.Frag} {mg : Str → Option Value} {h : Heap} (X : K.In h) (G : h.Ns mainGlobals mg) {x : Str} (c : excQB K x = true) : Exq K mg x := by
  unfold excQB at c
  cases e : excAt K x with
  | none => rw [e] at c; cases c
  | some C =>
    rw [e] at c
    simp only [Bool.and_eq_true, beq_iff_eq] at c
    obtain ⟨⟨⟨⟨⟨⟨⟨⟨c1, c2⟩, c3⟩, c4⟩, c5⟩, c6⟩, c7⟩, c8⟩, c9⟩ := c
    exact ⟨C, excAt_mg X G e, e, c1, c2, ⟨c3, c4, c1, c5, c6, c7, c8, c9⟩⟩
theorem exc0_ok {K : PySem.W.Frag} {mg : Str → Option Value} {h : Heap} (X : K.In h) (G : h.Ns mainGlobals mg) {x : Str} (c : exc0B K x = true) : Exc0 K mg x := by
  unfold exc0B at c
  cases e : excAt K x with
  | none => rw [e] at c; cases c
  | some C =>
    rw [e] at c
    simp only [Bool.and_eq_true] at c
    exact ⟨C, excAt_mg X G e, e, c.1, c.2⟩
theorem sub_ok {K : PySem.W.Frag} {mg : Str → Option Value} {h : Heap} (X : K.In h) (G : h.Ns mainGlobals mg) {x y : Str} {b : Bool} (c : subB K x y b = true) : Sub K mg x y b := by
  unfold subB at c
  cases e : excAt K x with
  | none => rw [e] at c; cases c
  | some C =>
    cases e2 : clsV K y with
    | none => rw [e, e2] at c; cases c
    | some v =>
      rw [e, e2] at c
      simp only [Bool.and_eq_true, beq_iff_eq] at c
      refine ⟨C, v, excAt_mg X G e, e2, ?_, c.1, c.2⟩
      unfold clsV at e2
      split at e2
      · rename_i C' e'
        cases e2
        exact .inl ⟨_, rfl, PySem.W.mg_of X G e'⟩
      · rename_i e'
        split at e2
        · rename_i T e3
          cases e2
          exact .inr ⟨_, rfl, PySem.W.mg_none_of X G e', e3⟩
        · cases e2
      · cases e2

theorem pmk_own0 {C : Addr} {bmB : List Value} {B newId initId : String} {x : Str} {p : Pos} (F : ExcBaseFacts B newId initId bmB) (q : PySem.W.excIn X.K C bmB newId = true) (gC : X.mg x = some (.ref C)) (kC : PySem.W.keepIn X.K (.ref C) = true) (r : Raises X (.ref C)) (hg : Gl X x)
    (hdb : (x == ("__debug__" : Str)) = false := by decide) : PMk X (.Call (.Name x p) [] [] pos) (fun _ H Q => Q (.ref C) none H) := by
  intro pins s σ H Q I h
  refine wpAny_Call_Name_kw (ld_glob I hg gC ?_ hdb)
  refine PySem.W.callWith_K0 I.kIn kC ?_
  show wpAny _ _ (call (.ref C) []) _ _ _
  obtain ⟨bm, N, nm, qn, bs, hdct, sn, sub, ab, col, dd, k0, k1, k2, k3, k5, mN, hC, hN, hni, T⟩ := exc_obj I.kIn q
  refine wpAny_call_exc_subT F T hC hN hni (fun h' e hm => ?_) (Nat.zero_le _)
  exact mk_of I hm r h (I.hok.gone hm.new)
def xRaise (x : Str) : PSXx γ := fun w _ s => w ⟨x, none⟩ s
theorem qsx_raise0 {x : Str} {p p2 : Pos} (hc : X.calm = true) (tk : Takes X W) (E : Exc0 X.K X.mg x) (Q : Exq X.K X.mg x) (hg : Gl X x) (hdb : (x == ("__debug__" : Str)) = false := by decide) :
    QSX X G W (.Raise (some (.Call (.Name x p) [] [] p2)) none pos) (xRaise x) := by
  obtain ⟨C, m1, e1, q1, k1⟩ := E.ex
  obtain ⟨C', m2, e2, s2, t2, _⟩ := Q.ex
  rw [e1] at e2
  cases e2
  refine PS.imp (ps_raise hc tk (pmk_own0 (pos := p2) (p := p) PySem.F.excBase_ValueError q1 m1 k1 (raises_own s2 t2) hg hdb)) fun De σ H ⟨F, Z, s, E, w, r, t, n, rt, bk, ct, ex⟩ => ?_
  exact ex _ s Z σ _ _ H t (Same.refl _) r ⟨m1, rfl⟩
abbrev SpecX := List D → DK → (Xc → Prop) → Prop
def spPX (K : PySem.W.Frag) (mg : Str → Option Value) (f : SpecX) : Sp := fun vs H Q E => ∃ Z ds R W, Same Z H ∧ Ats K Z ds vs ∧ f ds R W ∧
  (∀ d Z' v H', R d → Same Z Z' → Same Z' H' → Same H H' → (∀ a o, Z' a = some o → Z a = none → H a = none) → At K Z' d v → Q v H') ∧
  ∀ x Z' cls d H', W x → Same Z Z' → Same Z' H' → Same H H' → (∀ a o, Z' a = some o → Z a = none → H a = none) → XcAt K mg Z' x cls d → E cls d H'
structure DefX (X : Cx) (x : Str) (n : Nat) (sp : Sp) : Prop where
  ex : ∃ f fd k ps, FnOk X.prog X.w X.K X.mg X.base (L2.CX X.prog X.w) k f fd ps sp ∧ Room k X.A ∧ X.mg x = some (.ref f) ∧ PySem.W.keepIn X.K (.ref f) = true ∧ Binds X.K fd ps [] ∧ ps.length = n
def GloX (P : Program) (w : World) (K : PySem.W.Frag) (mg : Str → Option Value) (base : Heap) (x : Str) (n : Nat) (sp : Sp) (k : Nat) : Prop :=
  ∃ f fd ps, FnOk P w K mg base (L2.CX P w) k f fd ps sp ∧ mg x = some (.ref f) ∧ PySem.W.keepIn K (.ref f) = true ∧ Binds K fd ps [] ∧ ps.length = n
theorem GloX.at {X : Cx} {x : Str} {n : Nat} {sp : Sp} {j k : Nat} (g : GloX X.prog X.w X.K X.mg X.base x n sp j) (hr : Room k X.A) (h : j ≤ k := by decide) : DefX X x n sp := by
  obtain ⟨f, fd, ps, F, m, kp, b, e⟩ := g
  exact ⟨f, fd, j, ps, F, hr.mono h, m, kp, b, e⟩
def qCallX (f : SpecX) (t : PAx γ) : PEXx γ := fun w s R => t s fun xs s1 => f xs (fun z => R z s1) (fun x => w x s1)
theorem qex_call {x : Str} {n : Nat} {f : SpecX} {es : List Expr} {t : PAx γ} {p : Pos} (d : DefX X x n (spPX G.K X.mg f)) (tk : Takes X W) (hg : Gl X x) (ha : QA X G (e :: es) t) (hdb : (x == ("__debug__" : Str)) = false := by decide) (he : starEach (e :: es) X.env = (false, eval e X.env) :: starEach es X.env := by rfl) (hpl : (backTo pos (starEach es X.env)).any (·.1) = false := by rfl) :
    QEX X G W (.Call (.Name x p) (e :: es) [] pos) (qCallX f t) := by
  obtain ⟨fa, fd, k, ps, F, hr, hm, hk, hb, _⟩ := d.ex
  refine PE.imp (L2.pe_callS F hr hg hm hk hb (fun σ => passAt tk σ) ha hdb he hpl) fun σ H Q ⟨F, Z, s, R, w, r, t, q, ex⟩ => ?_
  refine ⟨F, Z, s, _, r, t, fun xs s1 Z1 vs H1 t1 k1 r1 a1 => ?_⟩
  refine ⟨Z1, xs, _, _, r1.z, a1, t1, fun z Z3 v H3 t3 k3 z3 h3 n3 a3 => ?_, fun x Z3 cls d H3 t3 k3 z3 h3 n3 a3 => ?_⟩
  · exact q z s1 Z3 v H3 t3 (k1.trans k3) (r1.ext ⟨h3, k3, z3, n3⟩) a3
  · exact ex x s1 Z3 cls d H3 t3 (k1.trans k3) (r1.ext ⟨h3, k3, z3, n3⟩) a3
theorem qe_callX {x : Str} {n : Nat} {f : SpecX} {es : List Expr} {t : PAx γ} {p : Pos} (d : DefX X x n (spPX G.K X.mg f)) (hg : Gl X x) (ha : QA X G (e :: es) t) (hdb : (x == ("__debug__" : Str)) = false := by decide) (he : starEach (e :: es) X.env = (false, eval e X.env) :: starEach es X.env := by rfl) (hpl : (backTo pos (starEach es X.env)).any (·.1) = false := by rfl) :
    QE X G (.Call (.Name x p) (e :: es) [] pos) (qCallP (fun ds R => f ds R fun _ => False) t) := by
  obtain ⟨fa, fd, k, ps, F, hr, hm, hk, hb, _⟩ := d.ex
  refine PE.imp (pe_call F hr hg hm hk hb .nil passL ha hdb he hpl) fun σ H Q ⟨F, Z, s, R, r, t, q⟩ => ?_
  refine ⟨F, Z, s, _, r, t, fun xs s1 Z1 vs H1 t1 k1 r1 a1 => ?_⟩
  refine ⟨Z1, xs, _, _, r1.z, by rw [List.append_nil]; exact a1, t1, fun z Z3 v H3 t3 k3 z3 h3 n3 a3 => ?_, fun x Z3 cls d H3 t3 => t3.elim⟩
  exact q z s1 Z3 v H3 t3 (k1.trans k3) (r1.ext ⟨h3, k3, z3, n3⟩) a3
def xRet (t : PEXx γ) : PSXx γ := fun w E s => t w s fun d s1 => E.rt d s1.g
theorem qsx_ret {t : PEXx γ} (he : QEX X G W e t) : QSX X G W (.Return (some e) pos) (xRet t) := by
  refine PS.imp (ps_ret he) fun De σ H ⟨F, Z, s, E, w, r, t, _, rt, _, _, ex⟩ => ?_
  exact ⟨F, Z, s, _, w, r, t, fun d s1 Z1 v H1 t1 k1 r1 a1 => rt d s1 Z1 σ v H1 t1 k1 r1 a1, fun x s1 Z1 cls d H1 t1 k1 r1 a1 => ex x s1 Z1 σ cls d H1 t1 k1 r1 a1⟩
def xAsg (t : PEXx γ) (i : Nat) : PSXx γ := fun w E s => t w s fun d s1 => E.nx ⟨s1.ρ.set i (some (.val d)), s1.g⟩
theorem qsx_set {t : PEXx γ} {i : Nat} {x : Str} {pos' : Pos} (hN : X.N.Nodup) (hi : X.N[i]? = some x) (hx : Loc X.env.scope x) (he : QEX X G W e t) (hs : swapsWith e (some (.Name x pos')) pos.line X.env = pure false := by rfl) (hf : X.fn x = true ∨ X.env.scope.names.lookup x = some .local := by first | exact .inl rfl | exact .inr rfl | assumption) :
    QSX X G W (.Assign [.Name x pos'] e pos) (xAsg t i) := by
  refine PS.imp (ps_set hN hi hx he hs hf) fun De σ H ⟨F, Z, s, E, w, r, t, n, _, _, _, ex⟩ => ?_
  exact ⟨F, Z, s, _, w, r, t, fun d s1 Z1 v H1 t1 k1 r1 a1 => n _ Z1 _ H1 t1 k1 (r1.put a1), fun x s1 Z1 cls d H1 t1 k1 r1 a1 => ex x s1 Z1 σ cls d H1 t1 k1 r1 a1⟩
def xDrop (t : PEXx γ) : PSXx γ := fun w E s => t w s fun _ s1 => E.nx s1
theorem qsx_expr {t : PEXx γ} (he : QEX X G W e t) (hs : swapsWith e none pos.line X.env = pure false := by rfl) : QSX X G W (.Expr e pos) (xDrop t) := by
  refine PS.imp (ps_expr he hs) fun De σ H ⟨F, Z, s, E, w, r, t, n, _, _, _, ex⟩ => ?_
  exact ⟨F, Z, s, _, w, r, t, fun d s1 Z1 v H1 t1 k1 r1 a1 => n s1 Z1 σ H1 t1 k1 r1, fun x s1 Z1 cls d H1 t1 k1 r1 a1 => ex x s1 Z1 σ cls d H1 t1 k1 r1 a1⟩
def xLst1 (t : PEXx γ) : PEXx γ := fun w s R => t w s fun d s1 => R (.lst [d]) s1
theorem qex_lst1 {t : PEXx γ} (he : QEX X G W e t) (hs : starEach [e] X.env = (false, eval e X.env) :: starEach [] X.env := by rfl) : QEX X G W (.List [e] pos) (xLst1 t) := by
  refine PE.imp (pe_lst (pa_cons he pa_nil hs)) fun σ H Q ⟨F, Z, s, R, w, r, t, q, ex⟩ => ?_
  refine ⟨F, Z, s, _, w, r, t, fun d s1 Z1 v H1 t1 k1 r1 a1 => ⟨by show 1 ≤ sizeLine; rw [sizeLine_eq]; omega, fun p hp => ?_⟩, ex⟩
  have x := Ext.new (o := HO.lst [v]) r1.z hp
  exact q _ s1 _ _ _ t1 (k1.trans x.zz) (r1.ext x) ⟨p, [v], rfl, upd_same, v, [], rfl, At.mono x.zz _ _ a1, rfl⟩
end
section
variable {P : Program} {w : World} {K : PySem.W.Frag} {mg : Str → Option Value} {base : Heap}
theorem okPX {x qual : Str} {st : Stmt} {f : Addr} {fd : FuncData} {N ps : List Str} {k : Nat} (F : Fn K x qual st f fd) (S : FnScope N ps (defScope st)) {fs : SpecX} (len : ∀ ds R W, fs ds R W → ds.length = ps.length)
    (body : ∃ t : PSXx Unit, (∀ (cdv : Value) (A : Around) (outer : List Env) (s : Shared) (H : Hp) (E : XK), Room k (A.deeper (envOfC qual (defScope st) s.heap.objs.size f cdv)) →
      QSXs (cxOf (L2.CX P w) P w K mg base N qual (defScope st) f cdv A outer s H E) (none0 K) (fun cls d _ H => E cls d H) (defBody st) t) ∧ ∀ ds R W, fs ds R W → t (fun x _ => W x) { nx := fun _ => R .non, rt := fun d _ => R d } ⟨startL N.length ds, ()⟩) : FnOk P w K mg base (L2.CX P w) (k + 1) f fd ps (spPX K mg fs) := by
  refine FunD.ok F S (fun vs H Q E h => ?_) (fun cdv A outer s H vs Q E hr h => ?_)
  · obtain ⟨Z, ds, R, W, _, a, h, _⟩ := h
    rw [a.len]; exact len _ _ _ h
  · obtain ⟨t, hb, hp⟩ := body
    refine ⟨_, hb cdv A outer s H E hr, ?_⟩
    obtain ⟨Z, ds, R, W, k, a, h, q, ex⟩ := h
    have hl : ps.length ≤ N.length := by have := congrArg List.length S.pre; rw [List.length_take] at this; omega
    have hd := len _ _ _ h
    have nw : ∀ {Z' : Hp} {s' : Pm.S Unit} {σ' : St} {H' : Hp}, Rel (none0 K) ⟨H, fun b => H b ≠ none ∧ Z b = none, fun b hb => Option.ne_none_iff_exists'.mp hb.1⟩ Z' s' σ' H' → ∀ b o, Z' b = some o → Z b = none → H b = none := fun r' b o e n => by
      cases hb : H b with
      | none => rfl
      | some u => have := r'.zb b ⟨by rw [hb]; simp, n⟩; rw [e] at this; cases this
    refine ⟨⟨H, fun b => H b ≠ none ∧ Z b = none, fun b hb => Option.ne_none_iff_exists'.mp hb.1⟩, Z, _, _, _, ?_, hp ds R W h, ?_, ?_, ?_, ?_, ?_⟩
    · refine ⟨k, Same.refl _, fun b hb => hb.2, ?_, fun i d e => ?_, fun i ds' e => ?_, fun i j ds' es b n e1 e2 => ?_, trivial, fun b z => False.elim z, fun b z => False.elim z, fun _ _ z => by cases z⟩
      · unfold L2.start startL
        simp only [List.length_append, List.length_map, List.length_replicate, a.len]
      · obtain ⟨d', e', v, h1, h2⟩ := start_at a e
        cases e'
        exact ⟨v, h1, h2⟩
      · obtain ⟨d', e', _⟩ := start_at a e
        cases e'
      · obtain ⟨d', e', _⟩ := start_at a e1
        cases e'
    · intro s' Z' σ' H' q' k' r'
      exact q .non Z' .non H' q' k' r'.z r'.f (nw r') rfl
    · intro d s' Z' σ' v H' q' k' r' a'
      exact q d Z' v H' q' k' r'.z r'.f (nw r') a'
    · intro s' Z' σ' H' q'; exact q'.elim
    · intro s' Z' σ' H' q'; exact q'.elim
    · intro x s' Z' σ' cls d H' q' k' r' a'
      exact ex x Z' cls d H' q' k' r'.z r'.f (nw r') a'
end
section
variable {X : Cx} {G : GP γ} {pos : Pos}
def GP.lo (G : GP γ) (Z : Hp) : GP γ := { G with fl := Z }
theorem Rel.lo {G : GP γ} {F : Fra} {Z : Hp} {s : S γ} {σ : St} {H : Hp} (r : Rel G F Z s σ H) : Rel (G.lo Z) F Z s σ H := ⟨r.z, r.f, r.zb, r.len, r.loc, r.own, r.inj, r.j, r.zf, r.ff, Same.refl _⟩
theorem Rel.hi {G : GP γ} {Z0 : Hp} (h0 : ∀ a, G.fl a = none) {F : Fra} {Z : Hp} {s : S γ} {σ : St} {H : Hp} (r : Rel (G.lo Z0) F Z s σ H) : Rel G F Z s σ H := ⟨r.z, r.f, r.zb, r.len, r.loc, r.own, r.inj, r.j, r.zf, r.ff, fun a o e => by rw [h0 a] at e; cases e⟩
abbrev clr (i : Nat) (s : S γ) : S γ := ⟨s.ρ.set i none, s.g⟩
theorem Rel.clr {G : GP γ} {F : Fra} {Z : Hp} {s : S γ} {σ : St} {H : Hp} (r : Rel G F Z s σ H) (i : Nat) : Rel G F Z (Pm.clr i s) (σ.set i none) H := by
  have get : ∀ {j : Nat} {l : L}, (s.ρ.set i none)[j]? = some (some l) → i ≠ j ∧ s.ρ[j]? = some (some l) := fun {j l} h => by
    by_cases e : i = j
    · subst e
      have hl : i < s.ρ.length := by
        have := (List.getElem?_eq_some_iff.mp h).1
        simpa using this
      rw [List.getElem?_set_self hl] at h; cases h
    · rw [List.getElem?_set_ne e] at h; exact ⟨e, h⟩
  refine ⟨r.z, r.f, r.zb, by simpa using r.len, fun j d h => ?_, fun j ds h => ?_, fun j k ds es a n h1 h2 h3 h4 => ?_, r.j, r.zf, r.ff, r.fl⟩
  · obtain ⟨e, h⟩ := get h
    rw [List.getElem?_set_ne e]; exact r.loc j d h
  · obtain ⟨e, h⟩ := get h
    rw [List.getElem?_set_ne e]; exact r.own j ds h
  · obtain ⟨e1, h1⟩ := get h1
    obtain ⟨e2, h2⟩ := get h2
    rw [List.getElem?_set_ne e1] at h3
    rw [List.getElem?_set_ne e2] at h4
    exact r.inj j k ds es a n h1 h2 h3 h4
structure Held (X : Cx) (K : PySem.W.Frag) (Z0 : Hp) (x : Xc) (a : Addr) (oe : Obj) (cls : Value) (d : Option Addr) : Prop where
  at_ : XcAt K X.mg Z0 x cls d
  z : Zc cls d oe
  f : ∃ vs, oe.data = .fields vs
def qTryAs (f : Str → Str → Option Bool) (y : Str) (i : Nat) (tb : PSXx γ) (ts : Xc → Addr → PSx γ) : PSx γ := fun E s =>
  tb (fun x s1 => f x.c y = some true ∧ ∀ a, ts x a { nx := fun s2 => E.nx (clr i s2), rt := E.rt, bk := fun s2 => E.bk (clr i s2), ct := fun s2 => E.ct (clr i s2) } ⟨s1.ρ.set i (some (.val (.obj a))), s1.g⟩) E s
theorem qs_tryAs {f : Str → Str → Option Bool} {y n : Str} {i : Nat} {body suite : List Stmt} {b₀ : Stmt} {np pos' : Pos} {tb : PSXx γ} {ts : Xc → Addr → PSx γ} (hs : X.stack = X.env :: X.outer) (hf : X.env.frame = some X.env.locals) (hN : X.N.Nodup) (hi : X.N[i]? = some n) (hln : X.env.kindOf n = some .local)
    (hfl : ∀ a, G.fl a = none) (hg : Gl X y) (tab : ∀ x y b, f x y = some b → Sub X.K X.mg x y b) (hy : ∃ x, f x y = some true)
    (hb : ∀ (W : WX) (pn : List (Addr × Obj)) (xe : Value → Shared → Prop), Takes (X.tr pn xe) W → PassesOwn (model X.prog X.w) X.A X.env xe → QSXs (X.tr pn xe) G W body tb)
    (hsu : ∀ (a : Addr) (oe : Obj) (cls : Value) (d : Option Addr) (pn : List (Addr × Obj)) (Z0 : Hp) (x : Xc), Held X G.K Z0 x a oe cls d → QSs (X.suite a ((a, oe) :: pn)) (G.lo Z0) (b₀ :: suite) (ts x a))
    (hdb : (y == ("__debug__" : Str)) = false := by decide) (hnn : y ≠ "__name__" := by decide) :
    QS X G (.Try body [.ExceptHandler (some (.Name y np)) (some n) (b₀ :: suite) pos'] [] [] pos) (qTryAs f y i tb ts) := by
  obtain ⟨x0, hx0⟩ := hy
  obtain ⟨C0, c, _, hcv, hc, _⟩ := (tab x0 y true hx0).ex
  have nm : Names X y c := ⟨hg, hdb, hc.imp (fun ⟨_, _, a⟩ => a) fun ⟨_, _, a, b⟩ => ⟨a, b, hnn⟩⟩
  refine PS.imp (ps_try_as hs hf hN hi hln nm takes0 (tb := fun W => lSX G X.mg W tb) (ts := fun a cls d De σ H => ∃ x Z0, XcAt G.K X.mg Z0 x cls d ∧ lS (G.lo Z0) (ts x a) De σ H) hb fun a oe cls d pn hz hfd => ?_) fun De σ H ⟨F, Z, s, E, r, t, n, rt, bk, ct⟩ => ?_
  · refine ⟨fun pins s σ H De I ⟨x, Z0, hx, w⟩ => ?_⟩
    exact (hsu a oe cls d pn Z0 x ⟨hx, hz, hfd⟩).run pins s σ H De I w
  · refine ⟨F, Z, s, E, _, r, t, n, rt, bk, ct, fun x s' Z' σ' cls d H' ⟨hx, w⟩ k' r' a' => ?_⟩
    obtain ⟨C, c', m1, cv', _, _, ex⟩ := (tab x.c y true hx).ex
    rw [hcv] at cv'
    cases cv'
    have ec : cls = .ref C := by have := a'.1; rw [m1] at this; cases this; rfl
    subst ec
    refine ⟨true, ex, fun _ a _ => ?_, fun q => (by cases q)⟩
    refine ⟨x, Z', a', F, Z', _, _, (r'.put (i := i) (d := .obj a) (v := .ref a) rfl).lo, w a, ?_, ?_, ?_, ?_⟩
    · intro s2 Z2 σ2 H2 q k2 r2
      exact n _ Z2 _ H2 q (k'.trans k2) ((r2.hi hfl).clr i)
    · intro d2 s2 Z2 σ2 v H2 q k2 r2 a2
      have r3 := (r2.hi hfl).clr i
      exact rt d2 (Pm.clr i s2) Z2 _ v H2 q (k'.trans k2) r3 a2
    · intro s2 Z2 σ2 H2 q k2 r2
      exact bk _ Z2 _ H2 q (k'.trans k2) ((r2.hi hfl).clr i)
    · intro s2 Z2 σ2 H2 q k2 r2
      exact ct _ Z2 _ H2 q (k'.trans k2) ((r2.hi hfl).clr i)
inductive ClsA (X : Cx) : List Str → List Expr → List V → List Value → Prop
  | nil : ClsA X [] [] [] []
  | cons {y : Str} {p : Pos} {v : V} {c : Value} {ys : List Str} {es : List Expr} {vs : List V} {us : List Value} (h : PE X (.Name y p) (tC v)) (k : ClsV v c) (hc : X.mg y = some c ∨ (X.mg y = none ∧ bootBuiltins y = some c)) (hs : starEach (.Name y p :: es) X.env = (false, eval (.Name y p) X.env) :: starEach es X.env) (r : ClsA X ys es vs us) : ClsA X (y :: ys) (.Name y p :: es) (v :: vs) (c :: us)
theorem ClsA.pa {X : Cx} {ys : List Str} {es : List Expr} {vs : List V} {us : List Value} (h : ClsA X ys es vs us) : PA X es (fun σ H Q => Q vs H) := by
  induction h with
  | nil => exact PA.imp pa_nil fun _ _ _ h => h
  | cons h k hc hs r ih => exact PA.imp (pa_cons h ih hs) fun _ _ _ h => h
theorem ClsA.pair {X : Cx} {ys : List Str} {es : List Expr} {vs : List V} {us : List Value} (h : ClsA X ys es vs us) : Paired ClsV vs us := by
  induction h with
  | nil => exact .nil
  | cons h k hc hs r ih => exact .cons k ih
theorem pe_cls {y : Str} {p : Pos} {c : Value} (hg : Gl X y) (h : (∃ C', c = .ref C' ∧ X.mg y = some c) ∨ (∃ T, c = .type T ∧ X.mg y = none ∧ bootBuiltins y = some c)) (hn : y ≠ "__name__" := by decide) (hd : (y == ("__debug__" : Str)) = false := by decide) :
    ∃ v, ClsV v c ∧ PE X (.Name y p) (tC v) := by
  rcases h with ⟨C, rfl, hm⟩ | ⟨T, rfl, hm, hv⟩
  · exact ⟨.ref C, .own C, pe_glob hg hm rfl hd⟩
  · exact ⟨.ty T, .ty T, pe_bltn hg hm hv rfl hn hd⟩
def isAny (f : Str → Str → Option Bool) (c : Str) : List Str → Option Bool
  | [] => some false
  | y :: ys => match f c y with
    | some true => some true
    | some false => isAny f c ys
    | none => none
theorem isAny_kit {X : Cx} {f : Str → Str → Option Bool} (tab : ∀ x y b, f x y = some b → Sub X.K X.mg x y b) {x : Str} {C : Addr} (hC : X.mg x = some (.ref C)) {ys : List Str} {es : List Expr} {vs : List V} {us : List Value} (h : ClsA X ys es vs us) : ∀ {b : Bool}, isAny f x ys = some b → PySem.W.kitAny X.K (.ref C) us = some b := by
  induction h with
  | nil => exact fun h => h
  | @cons y p v c ys es vs us h k hc hs r ih =>
    intro b hb
    unfold isAny at hb
    cases e : f x y with
    | none => rw [e] at hb; cases hb
    | some b' =>
      obtain ⟨C', c', m1, _, m2, k1, _⟩ := (tab x y b' e).ex
      rw [hC] at m1
      cases m1
      have ec : c' = c := by
        rcases m2 with ⟨_, _, m2⟩ | ⟨_, _, m2, m3⟩ <;> rcases hc with hc | ⟨hc, hb⟩
        · rw [m2] at hc; cases hc; rfl
        · rw [m2] at hc; cases hc
        · rw [m2] at hc; cases hc
        · rw [m3] at hb; cases hb; rfl
      subst ec
      rw [e] at hb
      cases b' with
      | true => exact kitAny_cons k1 (fun q => (by cases q)) (fun _ => by simpa using hb.symm)
      | false => exact kitAny_cons k1 (fun _ => ih hb) (fun q => (by cases q))
def rXis (K : PySem.W.Frag) (C a : Addr) (d : Option Addr) : List V → Hp → VK → Prop := fun xs H Q => ∃ (v : V) (b : Bool), xs = [.ref a, v] ∧
  ((∃ u, ClsV v u ∧ PySem.W.kitOne K (.ref C) u = some b) ∨ ∃ (tp : Addr) (cs : List V) (us : List Value), v = .ref tp ∧ H tp = some (.tup cs) ∧ Paired ClsV cs us ∧ PySem.W.kitAny K (.ref C) us = some b) ∧
  (d = none ∨ ∃ dd fs, d = some dd ∧ H dd = some (.xd fs)) ∧ Q (.bl b) H
theorem call_xis {X : Cx} {C a : Addr} {d : Option Addr} {oe : Obj} {pn : List (Addr × Obj)} (E : ExcC X.K C) (hz : Zc (.ref C) d oe) (hf : ∃ vs, oe.data = .fields vs) : CallR (X.suite a ((a, oe) :: pn)) (.builtin "isinstance") (rXis X.K C a d) := by
  intro pins s σ H xs us Q I r h
  obtain ⟨v, b, rfl, hv, hd, q⟩ := h
  obtain ⟨u1, u2, rfl, r1, r2⟩ : ∃ u1 u2, us = [u1, u2] ∧ RelV (.ref a) u1 ∧ RelV v u2 := by
    cases r with
    | cons r1 r => cases r with
      | cons r2 r => cases r; exact ⟨_, _, rfl, r1, r2⟩
  obtain rfl : u1 = .ref a := r1
  obtain ⟨hget, _⟩ := I.pin (a, oe) (List.mem_append.mpr (.inl List.mem_cons_self))
  obtain ⟨vs, hfv⟩ := hf
  obtain ⟨z1, z2⟩ := hz
  have J : ∃ od, PySem.W.InstAt s.heap a oe C od := by
    have nc : PySem.W.notCls oe := by unfold PySem.W.notCls; rw [hfv] <;> rfl
    rcases hd with rfl | ⟨dd, fs, rfl, ea⟩
    · exact ⟨none, hget, z1, nc, by rw [z2]; trivial⟩
    · obtain ⟨mA, hns, _⟩ := (show ObjOk X.prog X.w H s.heap dd (.xd fs) from I.hok dd _ ea)
      obtain ⟨od, ho, _⟩ := lookIn_ns hns
      exact ⟨some od, hget, z1, nc, by rw [z2]; exact ho⟩
  obtain ⟨od, J⟩ := J
  have Kx := fun {ox} => PySem.W.kitx_exc (x := a) (ox := ox) (od := od) (by obtain ⟨cd, hc, _⟩ := PySem.W.any_some E.hd; rw [hc]; rfl) E.hg E.hk E.hs E.ha E.hn E.ht E.hm
  rcases hv with ⟨u, ku, e⟩ | ⟨tp, cs, us, rfl, ht, kp, e⟩
  · have := ku.eq r2
    subst this
    exact PySem.W.kia_one Kx I.kIn J e (fun z => nomatch z) fun tk => ⟨.bl b, H, I.kept (t' := tk) fun _ _ z => z, rfl, q⟩
  · obtain rfl : u2 = .ref tp := r2
    obtain ⟨_, its, rv, o, h1, h2, n, h3⟩ := (show ObjOk X.prog X.w H s.heap tp (.tup cs) from I.hok tp _ ht)
    have e3 := ClsV.all kp rv
    subst e3
    obtain ⟨oc, od', dt, sl⟩ := o
    simp only at h2 h3
    subst h2 h3
    exact PySem.W.kia_tup Kx I.kIn J h1 e (fun z => nomatch z) fun tk => ⟨.bl b, H, I.kept (t' := tk) fun _ _ z => z, rfl, q⟩
def qIsE (f : Str → Str → Option Bool) (xq ys : List Str) (i : Nat) (x : Xc) (a : Addr) : PEx γ := fun s R => s.ρ[i]? = some (some (.val (.obj a))) ∧ x.c ∈ xq ∧ ∃ b, isAny f x.c ys = some b ∧ R (.bl b) s
section
variable {f : Str → Str → Option Bool} {xq : List Str} {i : Nat} {Z0 : Hp} {x : Xc} {a : Addr} {oe : Obj} {cls : Value} {d : Option Addr} {pn : List (Addr × Obj)} {n : Str} {p p1 p2 : Pos}
theorem Held.dd (h : Held X G.K Z0 x a oe cls d) {F : Fra} {Z : Hp} {s : S γ} {σ : St} {H : Hp} (r : Rel (G.lo Z0) F Z s σ H) : d = none ∨ ∃ dd fs, d = some dd ∧ H dd = some (.xd fs) := by
  obtain ⟨⟨_, h1⟩, _, _⟩ := h
  cases e : x.f with
  | none => rw [e] at h1; exact .inl h1
  | some q =>
    obtain ⟨n, v⟩ := q
    rw [e] at h1
    obtain ⟨b, w, rfl, h2, _⟩ := h1
    exact .inr ⟨b, _, rfl, r.z _ _ (r.fl _ _ h2)⟩
theorem qe_isE1 {y : Str} (h : Held X G.K Z0 x a oe cls d) (hq : ∀ z ∈ xq, Exq X.K X.mg z) (tab : ∀ x y b, f x y = some b → Sub X.K X.mg x y b) (hv : PE (X.suite a ((a, oe) :: pn)) (.Name n p1) (tVar i)) (hg : Gl (X.suite a ((a, oe) :: pn)) "isinstance") (hm : X.mg "isinstance" = none) (hb : ∃ z b, f z y = some b) (hgy : Gl (X.suite a ((a, oe) :: pn)) y)
    (hn : y ≠ "__name__" := by decide) (hd : (y == ("__debug__" : Str)) = false := by decide)
    (hs : starEach [.Name n p1, .Name y p2] (X.suite a ((a, oe) :: pn)).env = (false, eval (.Name n p1) (X.suite a ((a, oe) :: pn)).env) :: starEach [.Name y p2] (X.suite a ((a, oe) :: pn)).env := by rfl) (hs2 : starEach [.Name y p2] (X.suite a ((a, oe) :: pn)).env = (false, eval (.Name y p2) (X.suite a ((a, oe) :: pn)).env) :: starEach [] (X.suite a ((a, oe) :: pn)).env := by rfl) (hpl : (backTo pos (starEach [.Name y p2] (X.suite a ((a, oe) :: pn)).env)).any (·.1) = false := by rfl) :
    QE (X.suite a ((a, oe) :: pn)) (G.lo Z0) (.Call (.Name "isinstance" p) [.Name n p1, .Name y p2] [] pos) (qIsE f xq [y] i x a) := by
  by_cases hx : x.c ∈ xq
  · obtain ⟨C, m1, _, _, _, EC⟩ := (hq _ hx).ex
    have ec : cls = .ref C := by have := h.at_.1; rw [m1] at this; cases this; rfl
    obtain ⟨z, b, hzb⟩ := hb
    obtain ⟨_, c, _, _, hc, _⟩ := (tab z y b hzb).ex
    obtain ⟨v, kv, pv⟩ := pe_cls (p := p2) hgy hc hn hd
    have A : ClsA (X.suite a ((a, oe) :: pn)) [y] [.Name y p2] [v] [c] := .cons pv kv (hc.imp (fun ⟨_, _, a⟩ => a) fun ⟨_, _, a, b⟩ => ⟨a, b⟩) hs2 .nil
    have hz := h.z
    rw [ec] at hz
    refine PE.imp (pe_callB (call_xis EC hz h.f) hg hm (by decide +kernel) (pa_cons hv (pa_cons pv pa_nil hs2) hs) (by decide) (by decide) hs hpl) fun σ H Q ⟨F, Z, s, R, r, t, q⟩ => ?_
    obtain ⟨t1, _, b', t2, t3⟩ := t
    obtain ⟨w, h1, h2⟩ := r.loc i _ t1
    have h2 : w = .ref a := h2
    subst h2
    refine ⟨_, h1, v, b', rfl, .inl ⟨c, kv, ?_⟩, h.dd r, q _ s Z _ H t3 (Same.refl _) r rfl⟩
    have := isAny_kit (X := X.suite a ((a, oe) :: pn)) (fun x y b h => tab x y b h) m1 A t2
    unfold PySem.W.kitAny at this
    cases e : PySem.W.kitOne X.K (.ref C) c with
    | none => rw [show PySem.W.kitOne (X.suite a ((a, oe) :: pn)).K (.ref C) c = none from e] at this; cases this
    | some b2 =>
      rw [show PySem.W.kitOne (X.suite a ((a, oe) :: pn)).K (.ref C) c = some b2 from e] at this
      cases b2 with
      | true => exact this
      | false => exact this
  · obtain ⟨z, b, hzb⟩ := hb
    obtain ⟨_, c, _, _, hc, _⟩ := (tab z y b hzb).ex
    exact ⟨fun pins s σ H Q I ⟨F, Z, s', R, r, t, q⟩ => absurd t.2.1 hx⟩
theorem qe_isET {ys : List Str} {es : List Expr} {j : Nat} {p3 : Pos} (h : Held X G.K Z0 x a oe cls d) (hq : ∀ z ∈ xq, Exq X.K X.mg z) (tab : ∀ x y b, f x y = some b → Sub X.K X.mg x y b) (hv : PE (X.suite a ((a, oe) :: pn)) (.Name n p1) (tVar i)) (hg : Gl (X.suite a ((a, oe) :: pn)) "isinstance") (hm : X.mg "isinstance" = none)
    (A : ∃ vs us, ClsA (X.suite a ((a, oe) :: pn)) ys es vs us) (hl : ys.length ≤ 100)
    (hs : starEach [.Name n p1, .Tuple es j p3] (X.suite a ((a, oe) :: pn)).env = (false, eval (.Name n p1) (X.suite a ((a, oe) :: pn)).env) :: starEach [.Tuple es j p3] (X.suite a ((a, oe) :: pn)).env := by rfl) (hs2 : starEach [.Tuple es j p3] (X.suite a ((a, oe) :: pn)).env = (false, eval (.Tuple es j p3) (X.suite a ((a, oe) :: pn)).env) :: starEach [] (X.suite a ((a, oe) :: pn)).env := by rfl) (hpl : (backTo pos (starEach [.Tuple es j p3] (X.suite a ((a, oe) :: pn)).env)).any (·.1) = false := by rfl) :
    QE (X.suite a ((a, oe) :: pn)) (G.lo Z0) (.Call (.Name "isinstance" p) [.Name n p1, .Tuple es j p3] [] pos) (qIsE f xq ys i x a) := by
  by_cases hx : x.c ∈ xq
  · obtain ⟨C, m1, _, _, _, EC⟩ := (hq _ hx).ex
    have ec : cls = .ref C := by have := h.at_.1; rw [m1] at this; cases this; rfl
    obtain ⟨vs, us, A⟩ := A
    have vl : vs.length ≤ 100 := by
      have : ∀ {ys : List Str} {es : List Expr} {vs : List V} {us : List Value}, ClsA (X.suite a ((a, oe) :: pn)) ys es vs us → vs.length = ys.length := fun h => by
        induction h with
        | nil => rfl
        | cons _ _ _ _ _ ih => simp [ih]
      rw [this A]; exact hl
    have hz := h.z
    rw [ec] at hz
    refine PE.imp (pe_callB (call_xis EC hz h.f) hg hm (by decide +kernel) (pa_cons hv (pa_cons (pe_tup A.pa) pa_nil hs2) hs) (by decide) (by decide) hs hpl) fun σ H Q ⟨F, Z, s, R, r, t, q⟩ => ?_
    obtain ⟨t1, _, b', t2, t3⟩ := t
    obtain ⟨w, h1, h2⟩ := r.loc i _ t1
    have h2 : w = .ref a := h2
    subst h2
    refine ⟨_, h1, ⟨Nat.le_trans vl (by rw [sizeLine_eq]; omega), fun tp ht => ?_⟩⟩
    have x' := Ext.new (o := HO.tup vs) r.z ht
    have r' := r.ext x'
    exact ⟨.ref tp, b', rfl, .inr ⟨tp, vs, us, rfl, upd_same, A.pair, isAny_kit (X := X.suite a ((a, oe) :: pn)) (fun x y b h => tab x y b h) m1 A t2⟩, h.dd r', q _ s _ _ _ t3 x'.zz r' rfl⟩
  · exact ⟨fun pins s σ H Q I ⟨F, Z, s', R, r, t, q⟩ => absurd t.2.1 hx⟩
def qXf (n : Str) (xf : List (Str × Str)) (i : Nat) (x : Xc) (a : Addr) : PEx γ := fun s R => s.ρ[i]? = some (some (.val (.obj a))) ∧ (x.c, n) ∈ xf ∧ ∃ v, x.f = some (n, v) ∧ R v s
structure Xfl (K : PySem.W.Frag) (mg : Str → Option Value) (x n : Str) : Prop where
  ex : ∃ C, mg x = some (.ref C) ∧ XfC K C ∧ PySem.W.findIn K (.ref C) n = some none
theorem qe_xf {m : Str} {xf : List (Str × Str)} {e : Expr} (h : Held X G.K Z0 x a oe cls d) (hx : ∀ q ∈ xf, Xfl X.K X.mg q.1 q.2) (hv : PE (X.suite a ((a, oe) :: pn)) e (tVar i)) (hb : attributeBase e m (X.suite a ((a, oe) :: pn)).env (eval e (X.suite a ((a, oe) :: pn)).env) = eval e (X.suite a ((a, oe) :: pn)).env := by rfl) :
    QE (X.suite a ((a, oe) :: pn)) (G.lo Z0) (.Attribute e m pos) (qXf m xf i x a) := by
  by_cases hm : (x.c, m) ∈ xf
  · obtain ⟨C, m1, T, no⟩ := (hx _ hm).ex
    have ec : cls = .ref C := by have := h.at_.1; rw [m1] at this; cases this; rfl
    refine PE.imp (pe_xf T no h.z h.f hv hb) fun σ H Q ⟨F, Z, s, R, r, t, q⟩ => ?_
    obtain ⟨t1, _, v, t2, t3⟩ := t
    obtain ⟨w, h1, h2⟩ := r.loc i _ t1
    have h2 : w = .ref a := h2
    subst h2
    obtain ⟨_, h3⟩ := h.at_
    rw [t2] at h3
    obtain ⟨dd, w, rfl, h4, h5⟩ := h3
    have z1 := r.fl _ _ h4
    refine ⟨_, h1, rfl, ec, dd, [(m, w)], w, rfl, r.z _ _ z1, by simp, q v s Z w H t3 (Same.refl _) r (At.mono r.fl _ _ h5)⟩
  · exact ⟨fun pins s σ H Q I ⟨F, Z, s', R, r, t, q⟩ => absurd t.2.1 hm⟩
end
end
end Pm
namespace Pm
open PySem PySem.Spec
open PyProof.Rows hiding St
open L2
def lookT (l : List (Str × Str × Bool)) (x y : Str) : Option Bool := (l.find? fun q => q.1 == x && q.2.1 == y).map (·.2.2)
theorem lookT_ok {P : Str → Str → Bool → Prop} {L l : List (Str × Str × Bool)} (h : ∀ q ∈ L, P q.1 q.2.1 q.2.2) (c : l.all (fun q => L.contains q) = true) : ∀ x y b, lookT l x y = some b → P x y b := by
  intro x y b e
  unfold lookT at e
  obtain ⟨q, e1, rfl⟩ := Option.map_eq_some_iff.mp e
  have h1 := List.find?_some e1
  have h2 := List.mem_of_find?_eq_some e1
  simp only [Bool.and_eq_true, beq_iff_eq] at h1
  obtain ⟨rfl, rfl⟩ := h1
  have := List.all_eq_true.mp c q h2
  exact h q (List.contains_iff_mem.mp this)
theorem sub_all {α : Type} [BEq α] [LawfulBEq α] {P : α → Prop} {L l : List α} (h : ∀ q ∈ L, P q) (c : l.all (fun q => L.contains q) = true) : ∀ q ∈ l, P q := fun q hq =>
  h q (List.contains_iff_mem.mp (List.all_eq_true.mp c q hq))
def xflB (K : PySem.W.Frag) (q : Str × Str) : Bool := match excAt K q.1 with
  | some C => xfB K C && decide (PySem.W.findIn K (.ref C) q.2 = some none)
  | none => false
theorem xfl_ok {K : PySem.W.Frag} {mg : Str → Option Value} {h : Heap} (X : K.In h) (G : h.Ns mainGlobals mg) {q : Str × Str} (c : xflB K q = true) : Xfl K mg q.1 q.2 := by
  unfold xflB at c
  cases e : excAt K q.1 with
  | none => rw [e] at c; cases c
  | some C =>
    rw [e] at c
    obtain ⟨c1, c2⟩ := Bool.and_eq_true_iff.mp c
    exact ⟨C, excAt_mg X G e, xfB_ok c1, of_decide_eq_true c2⟩
def excsB (K : PySem.W.Frag) (x0 xq : List Str) (sub : List (Str × Str × Bool)) (xf : List (Str × Str)) : Bool := x0.all (exc0B K) && (xq.all (excQB K) && (sub.all (fun q => subB K q.1 q.2.1 q.2.2) && xf.all (xflB K)))
structure Excs (K : PySem.W.Frag) (mg : Str → Option Value) (x0 xq : List Str) (sub : List (Str × Str × Bool)) (xf : List (Str × Str)) : Prop where
  x0 : ∀ z ∈ x0, Exc0 K mg z
  xq : ∀ z ∈ xq, Exq K mg z
  sub : ∀ q ∈ sub, Sub K mg q.1 q.2.1 q.2.2
  xf : ∀ q ∈ xf, Xfl K mg q.1 q.2
theorem excs_ok {K : PySem.W.Frag} {mg : Str → Option Value} {h : Heap} (X : K.In h) (G : h.Ns mainGlobals mg) {x0 xq : List Str} {sub : List (Str × Str × Bool)} {xf : List (Str × Str)} (c : excsB K x0 xq sub xf = true) : Excs K mg x0 xq sub xf := by
  unfold excsB at c
  simp only [Bool.and_eq_true, List.all_eq_true] at c
  obtain ⟨c1, c2, c3, c4⟩ := c
  exact ⟨fun z hz => exc0_ok X G (c1 z hz), fun z hz => exq_ok X G (c2 z hz), fun q hq => sub_ok X G (c3 q hq), fun q hq => xfl_ok X G (c4 q hq)⟩
end Pm
namespace Pm
open PySem PySem.Spec
open PyProof.Rows hiding St
open L2
theorem clsA_cons {X : Cx} {f : Str → Str → Option Bool} {y : Str} {p : Pos} {ys : List Str} {es : List Expr} (hg : Gl X y) (tab : ∀ x y b, f x y = some b → Sub X.K X.mg x y b) (hb : ∃ z, ∃ b, f z y = some b) (h : ∃ vs us, ClsA X ys es vs us) (hn : y ≠ "__name__" := by decide) (hd : (y == ("__debug__" : Str)) = false := by decide)
    (hs : starEach (.Name y p :: es) X.env = (false, eval (.Name y p) X.env) :: starEach es X.env := by rfl) : ∃ vs us, ClsA X (y :: ys) (.Name y p :: es) vs us := by
  obtain ⟨z, b, e⟩ := hb
  obtain ⟨_, c, _, _, hc, _⟩ := (tab z y b e).ex
  obtain ⟨v, kv, pv⟩ := pe_cls (p := p) hg hc hn hd
  obtain ⟨vs, us, A⟩ := h
  exact ⟨_, _, .cons pv kv (hc.imp (fun ⟨_, _, a⟩ => a) fun ⟨_, _, a, b⟩ => ⟨a, b⟩) hs A⟩
theorem clsA_nil {X : Cx} : ∃ vs us, ClsA X [] [] vs us := ⟨_, _, .nil⟩
end Pm
namespace Pm
open PySem PySem.Spec
open PyProof.Rows hiding St
open L2
def oexB (K : PySem.W.Frag) (C : Addr) : Bool := (match K.lookup C with
  | some ⟨.type "type", _, .cls cd, sl⟩ => match cd.mro, sl.toList with
    | .ref C' :: bm, [_, _, _, _, some (.builtin n), _] => C' == C && (n == "ValueError.__new__" && (!cd.hasDel && (cd.hasDict && PySem.HandSPX.refsVE bm)))
    | _, _ => false
  | _ => false) && ((PySem.W.findIn K (.ref C) "__setattr__" == some (some (.builtin "object.__setattr__"))) && ((PySem.W.subIn K (.ref C) (.type "BaseException") == some true) && ((PySem.W.typeIn K (.ref C) == some (.type "type")) && PySem.W.keepIn K (.ref C))))
theorem oex_ok {K : PySem.W.Frag} {C : Addr} (c : oexB K C = true) : OexC K C := by
  unfold oexB at c
  simp only [Bool.and_eq_true, beq_iff_eq] at c
  obtain ⟨q, c2, c3, c4, c5⟩ := c
  refine ⟨?_, c2, c3, c4, c5⟩
  split at q
  · rename_i dd cd sl ho
    split at q
    · rename_i C' bm k0 k1 k2 k3 n k5 hm hs
      simp only [Bool.and_eq_true, beq_iff_eq, Bool.not_eq_true'] at q
      obtain ⟨rfl, rfl, hdel, hdict, hr⟩ := q
      obtain ⟨nm, bs, mro, ns, qn, hd, sn, sub, ab, col, del⟩ := cd
      dsimp only at hm hdel hdict
      subst hm hdel hdict
      obtain ⟨l⟩ := sl
      simp only at hs
      subst hs
      exact ⟨nm, qn, ns, bs, bm, sn, sub, ab, col, dd, k0, k1, k2, k3, k5, ho, hr⟩
    · cases q
  · cases q
def spInit (C : Addr) (n : Str) : Sp := fun vs H Q _ => ∃ (a : Addr) (v : V), vs = [.ref a, v] ∧ H a = some (exo a C none) ∧ ∀ dx, H dx = none → dx ≠ a → Q .non (upd (upd H dx (exd dx [(n, v)])) a (exo a C (some dx)))
theorem okInit {P : Program} {w : World} {K : PySem.W.Frag} {mg : Str → Option Value} {base : Heap} {x qual n : Str} {params : Arguments} {body : List Stmt} {scope : Scope} {f : Addr} {fd : FuncData} {N ps : List Str} {C : Addr} (F : FunD K x qual params body scope [] [] f fd) (S : FnScope N ps scope) (hp : ps.length = 2) (hN : 2 ≤ N.length) (T : OexC K C) (no : PySem.W.findIn K (.ref C) n = some none)
    (hb : ∀ (cdv : Value) (A : Around) (outer : List Env) (s : Shared) (H : Hp) (E : XK), PSs (cxOf CX0 P w K mg base N qual scope f cdv A outer s H E) body (tOst K n (tVar 0) (tVar 1))) : FnOk P w K mg base CX0 (0 + 1) f fd ps (spInit C n) := by
  refine FunD.ok F S (fun vs H Q E h => ?_) (fun cdv A outer s H vs Q E hr h => ?_)
  · obtain ⟨a, v, rfl, _⟩ := h
    rw [hp]; rfl
  · obtain ⟨a, v, rfl, ha, q⟩ := h
    refine ⟨_, hb cdv A outer s H E, ?_⟩
    exact ⟨v, rfl, .ref a, rfl, a, C, rfl, T, no, .inl ⟨ha, fun dx h1 h2 => q dx h1 h2⟩⟩
structure DefI (X : Cx) (x n : Str) : Prop where
  ex : ∃ C fI fd k ps, X.mg x = some (.ref C) ∧ OexC X.K C ∧ PySem.W.findIn X.K (.ref C) "__init__" = some (some (.ref fI)) ∧ PySem.W.typeIn X.K (.ref fI) = some (.type "function") ∧
    FnOk X.prog X.w X.K X.mg X.base CX0 k fI fd ps (spInit C n) ∧ Room (k + 1) X.A ∧ Binds X.K fd ps []
def GloI (P : Program) (w : World) (K : PySem.W.Frag) (mg : Str → Option Value) (base : Heap) (x n : Str) : Prop :=
  ∃ C fI fd ps, mg x = some (.ref C) ∧ OexC K C ∧ PySem.W.findIn K (.ref C) "__init__" = some (some (.ref fI)) ∧ PySem.W.typeIn K (.ref fI) = some (.type "function") ∧
    FnOk P w K mg base CX0 1 fI fd ps (spInit C n) ∧ Binds K fd ps []
theorem GloI.at {X : Cx} {x n : Str} {k : Nat} (g : GloI X.prog X.w X.K X.mg X.base x n) (hr : Room k X.A) (h : 2 ≤ k := by decide) : DefI X x n := by
  obtain ⟨C, fI, fd, ps, m, T, i, t, F, b⟩ := g
  exact ⟨C, fI, fd, 1, ps, m, T, i, t, F, hr.mono h, b⟩
def initB (K : PySem.W.Frag) (q : Str × Str) : Bool := (He.Fa.glo q.1).ok K && (oexB K (He.ga K q.1) && ((PySem.W.findIn K (.ref (He.ga K q.1)) "__init__" == some (some (.ref (He.ma K (He.ga K q.1) "__init__")))) && ((PySem.W.typeIn K (.ref (He.ma K (He.ga K q.1) "__init__")) == some (.type "function")) && (PySem.W.findIn K (.ref (He.ga K q.1)) q.2 == some none))))
variable {γ : Type}
def xRaiseF (x n : Str) (te : PEx γ) : PSXx γ := fun w _ s => te s fun d s1 => w ⟨x, some (n, d)⟩ s1
theorem qsx_raiseF {X : Cx} {G : GP γ} {W : WX} {x n : Str} {e : Expr} {te : PEx γ} {p p2 pos : Pos} (hc : X.calm = true) (tk : Takes X W) (I : DefI X x n) (hg : Gl X x) (he : QE X G e te) (hdb : (x == ("__debug__" : Str)) = false := by decide) (hs : starEach [e] X.env = (false, eval e X.env) :: starEach [] X.env := by rfl) (hpl : (backTo p2 (starEach [] X.env)).any (·.1) = false := by rfl) :
    QSX X G W (.Raise (some (.Call (.Name x p) [e] [] p2)) none pos) (xRaiseF x n te) := by
  obtain ⟨C, fI, fd, k, ps, m1, T, iC, tI, F1, hr, hb⟩ := I.ex
  refine PS.imp (ps_raise hc tk (pmk_oex T iC tI F1 hr hb .nil pass0 hg m1 (pa_cons he pa_nil hs) hdb hs hpl)) fun De σ H ⟨F, Z, s, E, w, r, t, _, _, _, _, ex⟩ => ?_
  refine ⟨F, Z, s, _, r, t, fun d s1 Z1 v H1 t1 k1 r1 a1 => ⟨by show 1 ≤ 1000; decide, fun a ha => ⟨a, v, rfl, upd_same, fun dx hx hne => ⟨rfl, dx, [(n, v)], upd_same, ?_, ?_, ?_⟩⟩⟩⟩
  · rw [upd_ne hne]; exact upd_same
  · rw [upd_ne hne] at hx; exact hx
  · have hx1 : H1 dx = none := by rw [upd_ne hne] at hx; exact hx
    have eq : upd (L2.del (upd (upd (upd H1 a (exo a C none)) dx (exd dx [(n, v)])) a (exo a C (some dx))) a) dx (.xd [(n, v)]) = upd H1 dx (.xd [(n, v)]) := by
      funext b
      by_cases hb1 : b = dx
      · rw [hb1, upd_same, upd_same]
      · rw [upd_ne hb1, upd_ne hb1]
        by_cases hb2 : b = a
        · rw [hb2, L2.del_same, ha]
        · rw [L2.del_ne hb2, upd_ne hb2, upd_ne hb1, upd_ne hb2]
    rw [eq]
    have kz := same_upd (o := HO.xd [(n, v)]) (r1.z.free hx1)
    exact ex ⟨x, some (n, d)⟩ s1 (upd Z1 dx (.xd [(n, v)])) σ _ _ _ t1 (k1.trans kz) (r1.new hx1) ⟨m1, dx, v, rfl, upd_same, At.mono kz _ _ a1⟩
end Pm
namespace Pm
open PySem PySem.Spec
open PyProof.Rows hiding St
open L2
theorem gloI_ok {P : Program} {w : World} {K : PySem.W.Frag} {mg : Str → Option Value} {base h : Heap} (X : K.In h) (G : h.Ns mainGlobals mg) {x n : Str} {fd : FuncData} {ps : List Str} (c : initB K (x, n) = true)
    (F : OexC K (He.ga K x) → PySem.W.findIn K (.ref (He.ga K x)) n = some none → FnOk P w K mg base CX0 (0 + 1) (He.fAd K (x, some "__init__")) fd ps (spInit (He.ga K x) n)) (b : Binds K fd ps []) : GloI P w K mg base x n := by
  unfold initB at c
  simp only [Bool.and_eq_true, beq_iff_eq] at c
  obtain ⟨c1, c2, c3, c4, c5⟩ := c
  exact ⟨He.ga K x, _, fd, ps, He.glo_ok X G c1, oex_ok c2, c3, c4, F (oex_ok c2) c5, b⟩
end Pm

set_option Elab.async false
set_option linter.all false
set_option maxRecDepth 100000
set_option maxHeartbeats 1000000
set_option autoImplicit false
namespace Pm
open PySem PySem.Spec
open PyProof.Rows hiding St
open L2
def falls (a b : Bk) : Bool := decide (a.2.1 * b.2.2 > b.2.1 * a.2.2)
def bkAt (l : List Bk) (k : Nat) : Bk := l.getD k (0, 0, 0)
def fallL (l : List Bk) : List Nat := (List.range (l.length - 1)).filter fun k => falls (bkAt l k) (bkAt l (k + 1))
theorem idx_bk {l : List Bk} {k : Nat} (h : k < l.length) : idx (l.map bkD) (k : Int) = some (bkD (bkAt l k)) := by
  unfold bkAt
  rw [idx_nat', List.getElem?_map, List.getD_eq_getElem?_getD, List.getElem?_eq_getElem h]; rfl
theorem bkAt_ok {l : List Bk} (h : ∀ b ∈ l, BkOk b) {k : Nat} (hk : k < l.length) : BkOk (bkAt l k) := by
  unfold bkAt
  rw [List.getD_eq_getElem?_getD, List.getElem?_eq_getElem hk]
  exact h _ (List.getElem_mem hk)
def mrg (a b : Bk) : Bk := (a.1 + b.1, a.2.1 + b.2.1, a.2.2 + b.2.2)
def mrgAt (L : List Bk) (k : Nat) : List Bk := L.take k ++ [mrg (bkAt L k) (bkAt L (k + 1))] ++ L.drop (k + 2)
theorem pick3 {a b c : Int} {lo hi : Int} {k : Int} (k0 : 0 ≤ k) (k1 : k < 3) (ha : lo ≤ a ∧ a ≤ hi) (hb : lo ≤ b ∧ b ≤ hi) (hc : lo ≤ c ∧ c ≤ hi) : ∃ m : Int, idx [D.int a, .int b, .int c] k = some (.int m) ∧ lo ≤ m ∧ m ≤ hi := by
  have hi : k = 0 ∨ k = 1 ∨ k = 2 := by omega
  rcases hi with rfl | rfl | rfl
  · exact ⟨a, rfl, ha⟩
  · exact ⟨b, rfl, hb⟩
  · exact ⟨c, rfl, hc⟩
end Pm

set_option Elab.async false
set_option linter.all false
set_option maxRecDepth 100000
set_option maxHeartbeats 0
set_option autoImplicit false
namespace Pm
open PySem PySem.Spec
open PyProof.Rows hiding St
open L2
def t_one_be76 (r : Addr) : PSx Nat := (qRet (qBin ixD (qVar 1) (qCallG (nextS r) (qCons (qVar 0) (qCons (qCall (fn1 lenD) (qCons (qVar 1) qNil)) qNil)))))

def sp_one_be76 (r : Addr) : Spec Nat := fun ds g R => ∃ xs : List D, (ds = [.obj r, .lst xs] ∨ ds = [.obj r, .tup xs]) ∧ 1 ≤ xs.length ∧ xs.length ≤ 100000 ∧ g < drawLine ∧ ∀ d ∈ xs, R d (g + 1)
theorem len_one_be76 (r : Addr) (ds : List D) (g : Nat) (R : D → Nat → Prop) (h : sp_one_be76 r ds g R) : ds.length = 2 := by
  obtain ⟨xs, rfl | rfl, _⟩ := h <;> rfl
theorem idx_mem {xs : List D} {k : Int} (k0 : 0 ≤ k) (k1 : k < xs.length) : ∃ d, idx xs k = some d ∧ d ∈ xs := by
  have hk : k.toNat < xs.length := by omega
  refine ⟨xs[k.toNat], ?_, List.getElem_mem hk⟩
  unfold idx
  rw [if_neg (by omega)]
  exact List.getElem?_eq_getElem hk
theorem p_one_be76 (r : Addr) (ds : List D) (g : Nat) (R : D → Nat → Prop) (h : sp_one_be76 r ds g R) : t_one_be76 r { nx := fun s => R .non s.g, rt := R } ⟨startL 2 ds, g⟩ := by
  obtain ⟨xs, rfl | rfl, h1, h2, hg, h⟩ := h
  · refine ⟨xs.length, rfl, by omega, by omega, hg, fun k k0 k1 => ?_⟩
    obtain ⟨d, e, hd⟩ := idx_mem k0 k1
    exact ⟨d, e, h d hd⟩
  · refine ⟨xs.length, rfl, by omega, by omega, hg, fun k k0 k1 => ?_⟩
    obtain ⟨d, e, hd⟩ := idx_mem k0 k1
    exact ⟨d, e, h d hd⟩

def t_odd_a635 (r : Addr) : PSx Nat := (qSeq (qAsg (qSet (qLst (qCons (qC .non) (qCons (qC (.bl true)) (qCons (qC (.bl false)) (qCons (qC (.int 0)) (qCons (qUn negD (qC (.int 1))) (qCons (qC (.int 1)) (qCons (qC (.int 2)) (qCons (qBin powD (qC (.int 10)) (qC (.int 29))) (qCons (qC (.str "")) (qCons (qC (.str "a")) (qCons (qC (.str "up")) (qCons (qTup qNil) (qCons (qSet (qLst qNil)) (qCons (qC (.dct [] [])) (qCons (qTup (qCons (qC (.int 0)) qNil)) (qCons (qSet (qLst (qCons (qC (.int 0)) qNil))) (qCons (qTup (qCons (qTup qNil) qNil)) qNil))))))))))))))))))) 1) (qRet (qCallG (sp_one_be76 r) (qCons (qVar 0) (qCons (qBin addD (qVar 1) (qSet (qLst (qCons (qTup (qCons (qC (.int 1)) (qCons (qC (.int 2)) qNil))) (qCons (qTup (qCons (qC (.int 0)) (qCons (qC (.int 1)) qNil))) (qCons (qTup (qCons (qC (.int 2)) (qCons (qC (.int 4)) qNil))) qNil)))))) qNil)))))

def sp_odd_a635 (r : Addr) : Spec Nat := fun ds g R => ds = [.obj r] ∧ g < drawLine ∧ ∀ d ∈ oddL, R d (g + 1)
theorem len_odd_a635 (r : Addr) (ds : List D) (g : Nat) (R : D → Nat → Prop) (h : sp_odd_a635 r ds g R) : ds.length = 1 := by
  obtain ⟨rfl, _⟩ := h; rfl
theorem p_odd_a635 (r : Addr) (ds : List D) (g : Nat) (R : D → Nat → Prop) (h : sp_odd_a635 r ds g R) : t_odd_a635 r { nx := fun s => R .non s.g, rt := R } ⟨startL 2 ds, g⟩ := by
  obtain ⟨rfl, hg, h⟩ := h
  have line : (10000000 : Nat) ≤ sizeLine := line_big
  refine seq_mid (M := fun s' => s' = ⟨[some (.val (.obj r)), some (.val (.lst (oddL.take 17)))], g⟩) ?_ ?_
  rotate_left
  · intro N hN
    have z : (17 : Nat) ≤ sizeLine := by omega
    exact ⟨⟨by decide, by decide, by decide⟩, Nat.zero_le _, Nat.zero_le _, Nat.le_trans (by decide) z, Nat.le_trans (by decide) z, Nat.zero_le _, Nat.le_trans (by decide) z, z, hN _ rfl⟩
  rintro _ rfl
  have z : (17 : Nat) ≤ sizeLine := by omega
  exact ⟨Nat.le_trans (by decide) z, Nat.le_trans (by decide) z, Nat.le_trans (by decide) z, Nat.le_trans (by decide) z, (by show 20 ≤ sizeLine; omega), oddL, .inl rfl, by decide, by decide, hg, fun d hd => h d hd⟩

def t_falling_18cf : PSx Unit := (qSeq (qAsgOwn (qLst qNil) 1) (qSeq (qFor (qRange1 (qCons (qBin subD (qCall (fn1 lenD) (qCons (qVar 0) qNil)) (qC (.int 1))) qNil)) (.nm 2) (qSeq (qPar 3 4 (qCons (qBin ixD (qVar 0) (qVar 2)) (qCons (qBin ixD (qVar 0) (qBin addD (qVar 2) (qC (.int 1)))) qNil))) (qIf (qB (qBin gtD (qBin mulD (qBin ixD (qVar 3) (qC (.int 1))) (qBin ixD (qVar 4) (qC (.int 2)))) (qBin mulD (qBin ixD (qVar 4) (qC (.int 1))) (qBin ixD (qVar 3) (qC (.int 2)))))) (qDrop (qAppend 1 (qVar 2))) qNext))) (qRet (qCall (fn1 tupleD) (qCons (qVar 1) qNil)))))

def sp_falling_18cf : Spec0 := fun ds R => ∃ l : List Bk, ds = [.tup (l.map bkD)] ∧ l.length ≤ 1000 ∧ (∀ b ∈ l, BkOk b) ∧ R (grD (fallL l))
theorem len_falling_18cf (ds : List D) (R : DK) (h : sp_falling_18cf ds R) : ds.length = 1 := by
  obtain ⟨_, rfl, _⟩ := h; rfl
theorem p_falling_18cf (ds : List D) (R : DK) (h : sp_falling_18cf ds R) : t_falling_18cf { nx := fun _ => R .non, rt := fun d _ => R d } ⟨startL 5 ds, ()⟩ := by
  obtain ⟨l, rfl, hn, hb, h⟩ := h
  have line : (10000000 : Nat) ≤ sizeLine := line_big
  have ml : (l.map bkD).length = l.length := by simp
  have en : (((l.map bkD).length : Int) - 1).toNat = l.length - 1 := by rw [ml]; omega
  refine ⟨(by show 0 ≤ sizeLine; omega), ⟨by omega, by omega⟩, ?_⟩
  refine ⟨fun j s => ∃ (x y z : Option L), s = ⟨[some (.val (.tup (l.map bkD))), some (.own (((List.range j).filter fun k => falls (bkAt l k) (bkAt l (k + 1))).map natD)), none, none, none], ()⟩, ⟨_, Wk.refl _, none, none, none, rfl⟩, ?_, ?_⟩
  · rintro j d s hd ⟨x, y, z, rfl⟩
    have hj : j < l.length - 1 := by
      have := (List.getElem?_eq_some_iff.mp hd).1
      rw [List.length_map, List.length_range, en] at this; exact this
    have ee : d = natD j := by
      rw [List.getElem?_map, List.getElem?_range (by rw [en]; exact hj)] at hd
      cases hd; rfl
    subst ee
    have fl := List.length_filter_le (fun k => falls (bkAt l k) (bkAt l (k + 1))) (List.range j)
    rw [List.length_range] at fl
    refine put_nm ?_
    refine seq_mid (M := fun s' => s' = ⟨[some (.val (.tup (l.map bkD))), some (.own (((List.range j).filter fun k => falls (bkAt l k) (bkAt l (k + 1))).map natD)), some (.val (natD j)), some (.val (bkD (bkAt l j))), some (.val (bkD (bkAt l (j + 1))))], ()⟩) ?_ ?_
    rotate_left
    · intro N hN
      exact ⟨_, idx_bk (by omega), _, idx_bk (k := j + 1) (by omega), hN _ rfl⟩
    rintro _ rfl
    have ha := bkAt_ok hb (k := j) (by omega)
    have hc := bkAt_ok hb (k := j + 1) (by omega)
    refine ⟨_, rfl, _, rfl, ha.2.1.mulOk hc.2.2, _, rfl, _, rfl, hc.2.1.mulOk ha.2.2, ⟨fun t => ?_, fun t => ?_⟩⟩
    · have t : falls (bkAt l j) (bkAt l (j + 1)) = true := t
      refine ⟨⟨_, rfl⟩, _, rfl, by simp; omega, ?_⟩
      refine ⟨⟨[some (.val (.tup (l.map bkD))), some (.own (((List.range (j + 1)).filter fun k => falls (bkAt l k) (bkAt l (k + 1))).map natD)), none, none, none], ()⟩, ?_, none, none, none, rfl⟩
      rw [List.range_succ, List.filter_append, List.filter_cons_of_pos (by exact t), List.map_append]
      exact Wk.of (by repeat' first | exact trivial | exact .inr rfl | exact .inl rfl | refine ⟨?_, ?_⟩)
    · have t : falls (bkAt l j) (bkAt l (j + 1)) = false := t
      refine ⟨⟨[some (.val (.tup (l.map bkD))), some (.own (((List.range (j + 1)).filter fun k => falls (bkAt l k) (bkAt l (k + 1))).map natD)), none, none, none], ()⟩, ?_, none, none, none, rfl⟩
      rw [List.range_succ, List.filter_append, List.filter_cons_of_neg (by rw [t]; decide), List.filter_nil, List.append_nil]
      exact Wk.of (by repeat' first | exact trivial | exact .inr rfl | exact .inl rfl | refine ⟨?_, ?_⟩)
  · rintro s ⟨x, y, z, rfl⟩
    rw [List.length_map, List.length_range, en]
    exact h

def t_starts_8d16 : PSx Unit := (qRet (qCall (fn1 tupleD) (qCons (qSet (qLc (qItems (qVar 0)) (.tp [(.nm 1), (.nm 2)]) [1, 2] qYes (qTup (qCons (qC (.int 1)) (qCons (qBin mulD (qVar 1) (qVar 2)) (qCons (qVar 2) qNil)))))) qNil)))

def sp_starts_8d16 : Spec0 := fun ds R => ∃ l : List (Int × Int), ds = [.tup (l.map itD)] ∧ l.length ≤ 1000 ∧ (∀ q ∈ l, ItOk q) ∧ R (.tup ((stB l).map bkD))
theorem len_starts_8d16 (ds : List D) (R : DK) (h : sp_starts_8d16 ds R) : ds.length = 1 := by
  obtain ⟨_, rfl, _⟩ := h; rfl
theorem p_starts_8d16 (ds : List D) (R : DK) (h : sp_starts_8d16 ds R) : t_starts_8d16 { nx := fun _ => R .non, rt := fun d _ => R d } ⟨startL 3 ds, ()⟩ := by
  obtain ⟨l, rfl, hn, hq, h⟩ := h
  have line : (10000000 : Nat) ≤ sizeLine := line_big
  refine lc_mapl l itD (fun q => bkD (1, q.1 * q.2, q.2)) (by omega) (fun q m => ⟨_, rfl, fun T h => ⟨(hq q m).b.1.mulOk (hq q m).b.2.1, (by show 3 ≤ sizeLine; omega), h⟩⟩) ?_ (by decide) (by rfl)
  have e : (l.map fun q => bkD (1, q.1 * q.2, q.2)) = (stB l).map bkD := by unfold stB; rw [List.map_map]; rfl
  rw [e]; exact h

def t_size_3de8 (r : Addr) : PSx Nat := (qSeq (qAsg (qCallG (nextS r) (qCons (qVar 0) (qCons (qBin addD (qCall (fn2 min2) (qCons (qVar 1) (qCons (qC (.int 3)) qNil))) (qC (.int 1))) qNil))) 2) (qRet (qBin ixD (qSet (qLst (qCons (qVar 2) (qCons (qBin subD (qVar 1) (qVar 2)) (qCons (qCallG (nextS r) (qCons (qVar 0) (qCons (qBin addD (qVar 1) (qC (.int 1))) qNil))) qNil))))) (qCallG (nextS r) (qCons (qVar 0) (qCons (qC (.int 3)) qNil))))))

def sp_size_3de8 (r : Addr) : Spec Nat := fun ds g R => ∃ m : Int, ds = [.obj r, .int m] ∧ 0 ≤ m ∧ m ≤ 10 ^ 50 ∧ g + 2 < drawLine ∧ ∀ v : Int, 0 ≤ v → v ≤ m → R (.int v) (g + 3)
theorem len_size_3de8 (r : Addr) (ds : List D) (g : Nat) (R : D → Nat → Prop) (h : sp_size_3de8 r ds g R) : ds.length = 2 := by
  obtain ⟨m, rfl, _⟩ := h; rfl
theorem p_size_3de8 (r : Addr) (ds : List D) (g : Nat) (R : D → Nat → Prop) (h : sp_size_3de8 r ds g R) : t_size_3de8 r { nx := fun s => R .non s.g, rt := R } ⟨startL 3 ds, g⟩ := by
  obtain ⟨m, rfl, h0, h1, hg, h⟩ := h
  have big : (10 : Int) ^ 50 + 4 ≤ 10 ^ 60 := by decide
  refine ⟨min m 3 + 1, rfl, by omega, by omega, (by show g < drawLine; omega), fun k k0 k1 => ?_⟩
  refine ⟨m + 1, rfl, by omega, by omega, (by show g + 1 < drawLine; omega), fun j j0 j1 => ?_⟩
  refine ⟨(by show 3 ≤ sizeLine; decide), 3, rfl, by decide, by decide, (by show g + 2 < drawLine; omega), fun i i0 i1 => ?_⟩
  have hi : i = 0 ∨ i = 1 ∨ i = 2 := by omega
  rcases hi with rfl | rfl | rfl
  · exact ⟨_, rfl, h k (by omega) (by omega)⟩
  · exact ⟨_, rfl, h (m - k) (by omega) (by omega)⟩
  · exact ⟨_, rfl, h j (by omega) (by omega)⟩

def t_blocks_fec5 (r : Addr) : PSx Nat := (qSeq (qAsgOwn (qLst qNil) 2) (qSeq (qFor (qRange1 (qCons (qBin addD (qC (.int 1)) (qCallG (nextS r) (qCons (qVar 0) (qCons (qVar 1) qNil)))) qNil)) (.nm 3) (qSeq (qAsg (qBin ixD (qSet (qLst (qCons (qC (.int 3)) (qCons (qBin powD (qC (.int 10)) (qC (.int 6))) (qCons (qBin powD (qC (.int 10)) (qC (.int 29))) qNil))))) (qCallG (nextS r) (qCons (qVar 0) (qCons (qC (.int 3)) qNil)))) 4) (qSeq (qPar 5 6 (qCons (qBin addD (qC (.int 1)) (qCallG (sp_size_3de8 r) (qCons (qVar 0) (qCons (qBin subD (qVar 4) (qC (.int 1))) qNil)))) (qCons (qBin addD (qC (.int 1)) (qCallG (sp_size_3de8 r) (qCons (qVar 0) (qCons (qBin subD (qVar 4) (qC (.int 1))) qNil)))) qNil))) (qSeq (qAsg (qTup (qCons (qVar 5) (qCons (qBin subD (qCallG (sp_size_3de8 r) (qCons (qVar 0) (qCons (qBin mulD (qC (.int 2)) (qVar 4)) qNil))) (qVar 4)) (qCons (qVar 6) qNil)))) 7) (qSeq (qAsg (qBin addD (qC (.int 1)) (qCallG (nextS r) (qCons (qVar 0) (qCons (qC (.int 3)) qNil)))) 8) (qSeq (qIf (qAnd (qB (qBinN1 neD 2 (qSet (qLst qNil)))) (qAnd (qB (qBin eqD (qCallG (nextS r) (qCons (qVar 0) (qCons (qC (.int 3)) qNil))) (qC (.int 0)))) (qB (qBin ltD (qCall (fn2 max2) (qCons (qBin ixD (qBinN1 ixD 2 (qUn negD (qC (.int 1)))) (qC (.int 2))) (qCons (qCall (fn1 absD) (qCons (qBin ixD (qBinN1 ixD 2 (qUn negD (qC (.int 1)))) (qC (.int 1))) qNil)) qNil))) (qBin powD (qC (.int 10)) (qC (.int 28))))))) (qAsg (qTup (qCons (qVar 5) (qCons (qBin mulD (qBin ixD (qBinN1 ixD 2 (qUn negD (qC (.int 1)))) (qC (.int 1))) (qVar 8)) (qCons (qBin mulD (qBin ixD (qBinN1 ixD 2 (qUn negD (qC (.int 1)))) (qC (.int 2))) (qVar 8)) qNil)))) 7) qNext) (qDrop (qAppend 2 (qVar 7))))))))) (qRet (qCall (fn1 tupleD) (qCons (qVar 2) qNil)))))

def BkB (b : Bk) : Prop := 1 ≤ b.1 ∧ b.1 ≤ 10 ^ 30 ∧ -(10 ^ 30) ≤ b.2.1 ∧ b.2.1 ≤ 10 ^ 30 ∧ 1 ≤ b.2.2 ∧ b.2.2 ≤ 10 ^ 30
theorem BkB.ok {b : Bk} (h : BkB b) : BkOk b := by
  obtain ⟨a, c, d, e, f, g⟩ := h
  have h1 : (10 : Int) ^ 30 < 2 ^ 110 := by decide
  have e1 : ((2 ^ 110 : Nat) : Int) = 2 ^ 110 := by decide
  exact ⟨by unfold Sz; omega, by unfold Sz; omega, by unfold Sz; omega⟩
def sp_blocks_fec5 (r : Addr) : Spec Nat := fun ds g R => ∃ n : Nat, ds = [.obj r, .int n] ∧ 1 ≤ n ∧ n ≤ 20 ∧ g + 1000 < drawLine ∧ ∀ (l : List Bk) (g' : Nat), l.length ≤ n → (∀ b ∈ l, BkB b) → g ≤ g' → g' ≤ g + 400 → R (.tup (l.map bkD)) g'
theorem len_blocks_fec5 (r : Addr) (ds : List D) (g : Nat) (R : D → Nat → Prop) (h : sp_blocks_fec5 r ds g R) : ds.length = 2 := by
  obtain ⟨m, rfl, _⟩ := h; rfl
theorem p_blocks_fec5 (r : Addr) (ds : List D) (g : Nat) (R : D → Nat → Prop) (h : sp_blocks_fec5 r ds g R) : t_blocks_fec5 r { nx := fun s => R .non s.g, rt := R } ⟨startL 9 ds, g⟩ := by
  obtain ⟨n, rfl, hn0, hn, hg, h⟩ := h
  have line : (10000000 : Nat) ≤ sizeLine := line_big
  refine ⟨(by show 0 ≤ sizeLine; omega), ?_⟩
  refine ⟨n, rfl, by omega, by omega, (by show g < drawLine; omega), fun k k0 k1 => ?_⟩
  obtain ⟨c, rfl⟩ : ∃ c : Nat, k = c := ⟨k.toNat, by omega⟩
  refine ⟨⟨by omega, by omega⟩, ?_⟩
  refine ⟨fun j s => ∃ (l : List Bk) (g1 : Nat) (x y z w v u : Option L), l.length = j ∧ (∀ b ∈ l, BkB b) ∧ g ≤ g1 ∧ g1 ≤ g + 1 + 12 * j ∧ s = ⟨[some (.val (.obj r)), some (.val (.int n)), some (.own (l.map bkD)), none, none, none, none, none, none], g1⟩, ⟨_, Wk.refl _, [], g + 1, none, none, none, none, none, none, rfl, by simp, by omega, by omega, rfl⟩, ?_, ?_⟩
  · rintro j d s hd ⟨l, g1, x, y, z, w, v, u, hl, hb, hg1, hg2, rfl⟩
    have hj : j < 1 + c := by
      have := (List.getElem?_eq_some_iff.mp hd).1
      simp at this; omega
    refine put_nm ?_
    refine seq_mid (M := fun s' => ∃ m : Int, 2 ≤ m ∧ m ≤ 10 ^ 29 ∧ s' = ⟨[some (.val (.obj r)), some (.val (.int n)), some (.own (l.map bkD)), some (.val d), some (.val (.int m)), none, none, none, none], g1 + 1⟩) ?_ ?_
    rotate_left
    · intro N hN
      refine ⟨⟨by decide, by decide, by decide⟩, ⟨by decide, by decide, by decide⟩, (by show 3 ≤ sizeLine; omega), 3, rfl, by decide, by decide, (by show g1 < drawLine; omega), fun k k0 k1 => ?_⟩
      obtain ⟨m, e, m0, m1⟩ := pick3 (lo := 2) (hi := 10 ^ 29) (a := 3) (b := 10 ^ (6 : Int).toNat) (c := 10 ^ (29 : Int).toNat) k0 k1 (by decide) (by decide) (by decide)
      exact ⟨_, e, hN _ ⟨m, m0, m1, rfl⟩⟩
    rintro _ ⟨m, m0, m1, rfl⟩
    refine seq_mid (M := fun s' => ∃ a b : Int, 1 ≤ a ∧ a ≤ m ∧ 1 ≤ b ∧ b ≤ m ∧ s' = ⟨[some (.val (.obj r)), some (.val (.int n)), some (.own (l.map bkD)), some (.val d), some (.val (.int m)), some (.val (.int a)), some (.val (.int b)), none, none], g1 + 1 + 3 + 3⟩) ?_ ?_
    rotate_left
    · intro N hN
      refine ⟨m - 1, rfl, by omega, by omega, (by show g1 + 1 + 2 < drawLine; omega), fun v v0 v1 => ?_⟩
      exact ⟨m - 1, rfl, by omega, by omega, (by show g1 + 1 + 3 + 2 < drawLine; omega), fun u u0 u1 => hN _ ⟨1 + v, 1 + u, by omega, by omega, by omega, by omega, rfl⟩⟩
    rintro _ ⟨a, b, a0, a1, b0, b1, rfl⟩
    refine seq_mid (M := fun s' => ∃ t : Int, -m ≤ t ∧ t ≤ m ∧ s' = ⟨[some (.val (.obj r)), some (.val (.int n)), some (.own (l.map bkD)), some (.val d), some (.val (.int m)), some (.val (.int a)), some (.val (.int b)), some (.val (bkD (a, t, b))), none], g1 + 1 + 3 + 3 + 3⟩) ?_ ?_
    rotate_left
    · intro N hN
      exact ⟨.inl (.inl ⟨by decide, by decide⟩), 2 * m, rfl, by omega, by omega, (by show g1 + 1 + 3 + 3 + 2 < drawLine; omega), fun v v0 v1 => ⟨(by show 3 ≤ sizeLine; omega), hN _ ⟨v - m, by omega, by omega, rfl⟩⟩⟩
    rintro _ ⟨t, t0, t1, rfl⟩
    refine seq_mid (M := fun s' => ∃ f : Int, 1 ≤ f ∧ f ≤ 3 ∧ s' = ⟨[some (.val (.obj r)), some (.val (.int n)), some (.own (l.map bkD)), some (.val d), some (.val (.int m)), some (.val (.int a)), some (.val (.int b)), some (.val (bkD (a, t, b))), some (.val (.int f))], g1 + 1 + 3 + 3 + 3 + 1⟩) ?_ ?_
    rotate_left
    · intro N hN
      exact ⟨3, rfl, by decide, by decide, (by show g1 + 1 + 3 + 3 + 3 < drawLine; omega), fun k k0 k1 => hN _ ⟨1 + k, by omega, by omega, rfl⟩⟩
    rintro _ ⟨f, f0, f1, rfl⟩
    have hB : BkB (a, t, b) := ⟨a0, by show a ≤ 10 ^ 30; omega, by show -(10 ^ 30) ≤ t; omega, by show t ≤ 10 ^ 30; omega, b0, by show b ≤ 10 ^ 30; omega⟩
    refine seq_mid (M := fun s' => ∃ (B : Bk) (g2 : Nat), BkB B ∧ g1 ≤ g2 ∧ g2 ≤ g1 + 12 ∧ s' = ⟨[some (.val (.obj r)), some (.val (.int n)), some (.own (l.map bkD)), some (.val d), some (.val (.int m)), some (.val (.int a)), some (.val (.int b)), some (.val (bkD B)), some (.val (.int f))], g2⟩) ?_ ?_
    rotate_left
    · intro N hN
      have hb2 := bkl_eq l
      refine ⟨rfl, (by show 0 ≤ sizeLine; omega), _, rfl, hb2.1, ?_⟩
      refine ⟨fun h1 => ?_, fun h1 => ⟨fun z => (by cases z), fun _ => hN _ ⟨(a, t, b), g1 + 1 + 3 + 3 + 3 + 1, hB, by omega, by omega, rfl⟩⟩⟩
      rw [hb2.2] at h1
      have hne : l ≠ [] := by simpa using h1
      obtain ⟨l0, z, rfl⟩ : ∃ l0 z, l = l0 ++ [z] := ⟨l.dropLast, l.getLast hne, (List.dropLast_concat_getLast hne).symm⟩
      have zB := hb z (by simp)
      refine ⟨3, rfl, by decide, by decide, (by show g1 + 1 + 3 + 3 + 3 + 1 < drawLine; omega), fun k k0 k1 => ⟨⟨rfl, rfl, Nat.zero_le 64, Nat.zero_le 64⟩, ⟨fun h2 => ?_, fun h2 => ⟨fun z => (by cases z), fun _ => hN _ ⟨(a, t, b), g1 + 1 + 3 + 3 + 3 + 1 + 1, hB, by omega, by omega, rfl⟩⟩⟩⟩⟩
      refine ⟨rfl, _, rfl, _, idx_bkl, _, rfl, rfl, _, rfl, _, idx_bkl, _, rfl, ⟨by decide, by decide, by decide⟩, ⟨fun h3 => ?_, fun h3 => hN _ ⟨(a, t, b), g1 + 1 + 3 + 3 + 3 + 1 + 1, hB, by omega, by omega, rfl⟩⟩⟩
      have h3 : max z.2.2 (z.2.1.natAbs : Int) < 10 ^ 28 := of_decide_eq_true h3
      have fS : Sz 2 f := by unfold Sz; omega
      have p1 : -(10 ^ 30) ≤ z.2.1 * f ∧ z.2.1 * f ≤ 10 ^ 30 := by
        rcases (by omega : f = 1 ∨ f = 2 ∨ f = 3) with rfl | rfl | rfl <;> omega
      have p2 : 1 ≤ z.2.2 * f ∧ z.2.2 * f ≤ 10 ^ 30 := by
        have := zB.2.2.2.2.1
        rcases (by omega : f = 1 ∨ f = 2 ∨ f = 3) with rfl | rfl | rfl <;> omega
      refine ⟨rfl, _, rfl, _, idx_bkl, _, rfl, zB.ok.2.1.mulOk fS, rfl, _, rfl, _, idx_bkl, _, rfl, zB.ok.2.2.mulOk fS, (by show 3 ≤ sizeLine; omega), hN _ ⟨(a, z.2.1 * f, z.2.2 * f), g1 + 1 + 3 + 3 + 3 + 1 + 1, ⟨hB.1, hB.2.1, p1.1, p1.2, p2.1, p2.2⟩, by omega, by omega, rfl⟩⟩
    rintro _ ⟨B, g2, hB, g3, g4, rfl⟩
    refine ⟨⟨_, rfl⟩, l.map bkD, rfl, by simp; omega, ?_⟩
    refine ⟨⟨[some (.val (.obj r)), some (.val (.int n)), some (.own ((l ++ [B]).map bkD)), none, none, none, none, none, none], g2⟩, ?_, l ++ [B], g2, none, none, none, none, none, none, by simp [hl], ?_, by omega, by omega, rfl⟩
    · rw [List.map_append]
      exact Wk.of (by repeat' first | exact trivial | exact .inr rfl | exact .inl rfl | refine ⟨?_, ?_⟩)
    · intro q hm
      rcases List.mem_append.mp hm with hm | hm
      · exact hb q hm
      · rw [List.mem_singleton.mp hm]; exact hB
  · rintro s ⟨l, g1, x, y, z, w, v, u, hl, hb, hg1, hg2, rfl⟩
    have hl' : l.length = 1 + c := by
      have : ((List.range (1 + (c : Int)).toNat).map fun k => D.int (k : Nat)).length = 1 + c := by simp; omega
      rw [hl]; exact this
    have e3 : ((List.range (1 + (c : Int)).toNat).map fun k => D.int (k : Nat)).length = 1 + c := by simp; omega
    have hg2 : g1 ≤ g + 1 + 12 * ((List.range (1 + (c : Int)).toNat).map fun k => D.int (k : Nat)).length := hg2
    rw [e3] at hg2
    exact h l g1 (by omega) hb hg1 (by omega)

def t_merged_64ee : PSx Unit := (qSeq (qAsgT (qTup (qCons (qBin ixD (qVar 0) (qVar 1)) (qCons (qBin ixD (qVar 0) (qBin addD (qVar 1) (qC (.int 1)))) qNil))) (.tp [(.nm 2), (.nm 3)])) (qSeq (qAsg (qCall (fn1 tupleD) (qCons (qSet (qLc (qRange1 (qCons (qC (.int 3)) qNil)) (.nm 5) [5] qYes (qBin addD (qBin ixD (qVar 2) (qVar 5)) (qBin ixD (qVar 3) (qVar 5))))) qNil)) 4) (qRet (qBin addD (qBin addD (qSl (qVar 0) qNoPart (qPart (qVar 1))) (qTup (qCons (qVar 4) qNil))) (qSl (qVar 0) (qPart (qBin addD (qVar 1) (qC (.int 2)))) qNoPart)))))

def sp_merged_64ee : Spec0 := fun ds R => ∃ (L : List Bk) (k : Nat), ds = [.tup (L.map bkD), natD k] ∧ k + 1 < L.length ∧ L.length ≤ 1000 ∧ R (.tup ((mrgAt L k).map bkD))
theorem len_merged_64ee (ds : List D) (R : DK) (h : sp_merged_64ee ds R) : ds.length = 2 := by
  obtain ⟨_, _, rfl, _⟩ := h; rfl
theorem p_merged_64ee (ds : List D) (R : DK) (h : sp_merged_64ee ds R) : t_merged_64ee { nx := fun _ => R .non, rt := fun d _ => R d } ⟨startL 6 ds, ()⟩ := by
  obtain ⟨L, k, rfl, hk, hn, h⟩ := h
  have line : (10000000 : Nat) ≤ sizeLine := line_big
  refine seq_mid (M := fun s' => s' = ⟨[some (.val (.tup (L.map bkD))), some (.val (natD k)), some (.val (bkD (bkAt L k))), some (.val (bkD (bkAt L (k + 1)))), none, none], ()⟩) ?_ ?_
  rotate_left
  · intro N hN
    exact ⟨_, idx_bk (by omega), _, idx_bk (k := k + 1) (by omega), (by show 2 ≤ sizeLine; omega), put_tg rfl (hN _ rfl)⟩
  rintro _ rfl
  refine seq_mid (M := fun s' => s' = ⟨[some (.val (.tup (L.map bkD))), some (.val (natD k)), some (.val (bkD (bkAt L k))), some (.val (bkD (bkAt L (k + 1)))), some (.val (bkD (mrg (bkAt L k) (bkAt L (k + 1))))), none], ()⟩) ?_ ?_
  rotate_left
  · intro N hN
    refine ⟨⟨by decide, by decide⟩, ?_⟩
    generalize bkAt L k = a at *
    generalize bkAt L (k + 1) = b at *
    refine lc_mapl (List.range (3 : Int).toNat) natD (fun j => .int (match j with | 0 => a.1 + b.1 | 1 => a.2.1 + b.2.1 | _ => a.2.2 + b.2.2)) (by decide) (fun j hj => ⟨_, rfl, fun T h => ?_⟩) (hN _ rfl) (by decide) (by rfl)
    have hj : j < 3 := List.mem_range.mp hj
    rcases (by omega : j = 0 ∨ j = 1 ∨ j = 2) with rfl | rfl | rfl
    · exact ⟨_, rfl, _, rfl, h⟩
    · exact ⟨_, rfl, _, rfl, h⟩
    · exact ⟨_, rfl, _, rfl, h⟩
  rintro _ rfl
  have c1 : cut (L.map bkD) none (some (k : Int)) = (L.take k).map bkD := by rw [cut_to, List.map_take]
  have c2 : cut (L.map bkD) (some ((k : Int) + 2)) none = (L.drop (k + 2)).map bkD := by
    have := cut_from (L.map bkD) (k + 2)
    rw [List.map_drop]; exact this
  have l1 : (cut (L.map bkD) none (some (k : Int))).length ≤ 1000 := by rw [c1, List.length_map]; exact Nat.le_trans (List.length_take_le' _ _) hn
  have l2 : (cut (L.map bkD) (some ((k : Int) + 2)) none).length ≤ 1000 := by rw [c2, List.length_map, List.length_drop]; omega
  refine ⟨(by show 1 ≤ sizeLine; omega), (by show (cut (L.map bkD) none (some (k : Int))).length + 1 ≤ sizeLine; omega), ?_, ?_⟩
  · rw [List.length_append]
    show (cut (L.map bkD) none (some (k : Int))).length + 1 + (cut (L.map bkD) (some ((k : Int) + 2)) none).length ≤ sizeLine
    omega
  · have e2 : (mrgAt L k).map bkD = cut (L.map bkD) none (some (k : Int)) ++ [bkD (mrg (bkAt L k) (bkAt L (k + 1)))] ++ cut (L.map bkD) (some ((k : Int) + 2)) none := by
      rw [c1, c2]; unfold mrgAt; simp
    rw [e2] at h
    exact h

def t_is_integer_8a5f : PSx Unit := (qRet (qAndV (qIsi "int" (qVar 0)) (qNotV (qIsi "bool" (qVar 0)))))

def sp_is_integer_8a5f : Spec0 := fun ds R => ∃ d : D, ds = [d] ∧ (∀ p, d ≠ .obj p) ∧ R (.bl (isI d))
theorem len_is_integer_8a5f (ds : List D) (R : DK) (h : sp_is_integer_8a5f ds R) : ds.length = 1 := by
  obtain ⟨d, rfl, _⟩ := h; rfl
theorem p_is_integer_8a5f (ds : List D) (R : DK) (h : sp_is_integer_8a5f ds R) : t_is_integer_8a5f { nx := fun _ => R .non, rt := fun d _ => R d } ⟨startL 1 ds, ()⟩ := by
  obtain ⟨d, rfl, ho, h⟩ := h
  refine ⟨ho, ⟨fun hc => ⟨ho, ?_⟩, fun hc => ?_⟩⟩
  · cases d <;> first | exact h | cases hc
  · cases d <;> first | exact h | cases hc

def t_is_falling_c091 : PSx Unit := (qRet (qBin gtD (qBin mulD (qBin ixD (qVar 0) (qC (.int 1))) (qBin ixD (qVar 1) (qC (.int 2)))) (qBin mulD (qBin ixD (qVar 1) (qC (.int 1))) (qBin ixD (qVar 0) (qC (.int 2))))))

def sp_is_falling_c091 : Spec0 := fun ds R => ∃ a b : Bk, ds = [bkD a, bkD b] ∧ BkOk a ∧ BkOk b ∧ R (.bl (falls a b))
theorem len_is_falling_c091 (ds : List D) (R : DK) (h : sp_is_falling_c091 ds R) : ds.length = 2 := by
  obtain ⟨_, _, rfl, _⟩ := h; rfl
theorem p_is_falling_c091 (ds : List D) (R : DK) (h : sp_is_falling_c091 ds R) : t_is_falling_c091 { nx := fun _ => R .non, rt := fun d _ => R d } ⟨startL 2 ds, ()⟩ := by
  obtain ⟨a, b, rfl, ha, hb, h⟩ := h
  exact ⟨_, rfl, _, rfl, ha.2.1.mulOk hb.2.2, _, rfl, _, rfl, hb.2.1.mulOk ha.2.2, h⟩

def t_falling_places_f120 : PSx Unit := (qRet (qCall (fn1 tupleD) (qCons (qSet (qLc (qRange1 (qCons (qBin subD (qCall (fn1 lenD) (qCons (qVar 0) qNil)) (qC (.int 1))) qNil)) (.nm 1) [1] (qB (qCallP (sp_is_falling_c091) (qCons (qBin ixD (qVar 0) (qVar 1)) (qCons (qBin ixD (qVar 0) (qBin addD (qVar 1) (qC (.int 1)))) qNil)))) (qVar 1))) qNil)))

def sp_falling_places_f120 : Spec0 := fun ds R => ∃ l : List Bk, ds = [.tup (l.map bkD)] ∧ l.length ≤ 1000 ∧ (∀ b ∈ l, BkOk b) ∧ R (grD (fallL l))
theorem len_falling_places_f120 (ds : List D) (R : DK) (h : sp_falling_places_f120 ds R) : ds.length = 1 := by
  obtain ⟨_, rfl, _⟩ := h; rfl
theorem p_falling_places_f120 (ds : List D) (R : DK) (h : sp_falling_places_f120 ds R) : t_falling_places_f120 { nx := fun _ => R .non, rt := fun d _ => R d } ⟨startL 2 ds, ()⟩ := by
  obtain ⟨l, rfl, hn, hb, h⟩ := h
  have ml : (l.map bkD).length = l.length := by simp
  have en : (((l.map bkD).length : Int) - 1).toNat = l.length - 1 := by rw [ml]; omega
  refine ⟨⟨by omega, by omega⟩, ?_⟩
  show lcB _ _ _ _ _ ((List.range (((l.map bkD).length : Int) - 1).toNat).map natD) _
  rw [en]
  refine lc_list (List.range (l.length - 1)) natD (fun k => falls (bkAt l k) (bkAt l (k + 1))) natD (by simp; omega) (fun k hk => ⟨_, rfl, fun T h => ?_, fun _ T h => h⟩) h (by decide) (by rfl)
  have hk : k < l.length - 1 := List.mem_range.mp hk
  refine ⟨_, idx_bk (by omega), _, ?_, bkAt l k, bkAt l (k + 1), rfl, bkAt_ok hb (by omega), bkAt_ok hb (by omega), h⟩
  exact idx_bk (k := k + 1) (by omega)

def t_merged_e28f : PSx Unit := (qRet (qTup (qCons (qBin addD (qBin ixD (qVar 0) (qC (.int 0))) (qBin ixD (qVar 1) (qC (.int 0)))) (qCons (qBin addD (qBin ixD (qVar 0) (qC (.int 1))) (qBin ixD (qVar 1) (qC (.int 1)))) (qCons (qBin addD (qBin ixD (qVar 0) (qC (.int 2))) (qBin ixD (qVar 1) (qC (.int 2)))) qNil)))))

def sp_merged_e28f : Spec0 := fun ds R => ∃ a b : Bk, ds = [bkD a, bkD b] ∧ R (bkD (mrg a b))
theorem len_merged_e28f (ds : List D) (R : DK) (h : sp_merged_e28f ds R) : ds.length = 2 := by
  obtain ⟨_, _, rfl, _⟩ := h; rfl
theorem p_merged_e28f (ds : List D) (R : DK) (h : sp_merged_e28f ds R) : t_merged_e28f { nx := fun _ => R .non, rt := fun d _ => R d } ⟨startL 2 ds, ()⟩ := by
  obtain ⟨a, b, rfl, h⟩ := h
  have line : (10000000 : Nat) ≤ sizeLine := line_big
  exact ⟨_, rfl, _, rfl, _, rfl, _, rfl, _, rfl, _, rfl, (by show 3 ≤ sizeLine; omega), h⟩

def t_merge_blocks_e278x : PSXx Unit := (xSeq (xIf (qOr (qNot (qB (qCallP (sp_is_integer_8a5f) (qCons (qVar 1) qNil)))) (qB (qBin notInD (qVar 1) (qCallP (sp_falling_places_f120) (qCons (qVar 0) qNil))))) (xRaiseF "NotFalling" "index" (qVar 1)) (xs0 qNext)) (xs0 (qRet (qBin addD (qBin addD (qSl (qVar 0) qNoPart (qPart (qVar 1))) (qTup (qCons (qCallP (sp_merged_e28f) (qCons (qBin ixD (qVar 0) (qVar 1)) (qCons (qBin ixD (qVar 0) (qBin addD (qVar 1) (qC (.int 1)))) qNil))) qNil))) (qSl (qVar 0) (qPart (qBin addD (qVar 1) (qC (.int 2)))) qNoPart)))))

theorem any_int {gs : List Nat} {z : Int} (h : ∀ k ∈ gs, (k : Int) ≠ z) : ((gs.map natD).any fun y => D.eqv y (.int z)) = false := by
  rw [List.any_eq_false]
  intro y hy
  obtain ⟨k, hk, rfl⟩ := List.mem_map.mp hy
  show ¬ (decide ((k : Int) = z) = true)
  rw [decide_eq_true_eq]; exact h k hk
def sp_merge_blocks_e278x : SpecX := fun ds R W => ∃ (L : List Bk) (v : D), ds = [.tup (L.map bkD), v] ∧ L.length ≤ 1000 ∧ (∀ b ∈ L, BkOk b) ∧ (∀ p, v ≠ .obj p) ∧ (∀ k, k ∈ fallL L → v = natD k → R (.tup ((mrgAt L k).map bkD))) ∧ ((∀ k ∈ fallL L, v ≠ natD k) → W ⟨"NotFalling", some ("index", v)⟩)
theorem len_merge_blocks_e278x (ds : List D) (R : DK) (W : Xc → Prop) (h : sp_merge_blocks_e278x ds R W) : ds.length = 2 := by
  obtain ⟨_, _, rfl, _⟩ := h; rfl
theorem p_merge_blocks_e278x (ds : List D) (R : DK) (W : Xc → Prop) (h : sp_merge_blocks_e278x ds R W) : t_merge_blocks_e278x (fun x _ => W x) { nx := fun _ => R .non, rt := fun d _ => R d } ⟨startL 2 ds, ()⟩ := by
  obtain ⟨L, v, rfl, hn, hb, no, hR, hW⟩ := h
  have line : (10000000 : Nat) ≤ sizeLine := line_big
  by_cases hv : ∃ k ∈ fallL L, v = natD k
  · obtain ⟨k, hk, rfl⟩ := hv
    have h := hR k hk rfl
    have hk2 : k < L.length - 1 := List.mem_range.mp (List.mem_filter.mp hk).1
    refine ⟨natD k, rfl, no, ⟨fun hc => (by cases hc), fun _ => ?_⟩⟩
    refine ⟨L, rfl, hn, hb, ⟨rfl, nats_pln _, Nat.zero_le 60⟩, ?_⟩
    rw [notin_natD]
    have e : (!decide (k ∈ fallL L)) = false := by simp [hk]
    rw [e]
    refine ⟨fun hc => (by cases hc), fun _ => ?_⟩
    have c1 : cut (L.map bkD) none (some (k : Int)) = (L.take k).map bkD := by rw [cut_to, List.map_take]
    have c2 : cut (L.map bkD) (some ((k : Int) + 2)) none = (L.drop (k + 2)).map bkD := by
      have := cut_from (L.map bkD) (k + 2)
      rw [List.map_drop]; exact this
    have l1 : (cut (L.map bkD) none (some (k : Int))).length ≤ 1000 := by rw [c1, List.length_map]; exact Nat.le_trans (List.length_take_le' _ _) hn
    have l2 : (cut (L.map bkD) (some ((k : Int) + 2)) none).length ≤ 1000 := by rw [c2, List.length_map, List.length_drop]; omega
    refine ⟨_, idx_bk (by omega), _, idx_bk (k := k + 1) (by omega), bkAt L k, bkAt L (k + 1), rfl, (by show 1 ≤ sizeLine; omega), (by show (cut (L.map bkD) none (some (k : Int))).length + 1 ≤ sizeLine; omega), ?_, ?_⟩
    · rw [List.length_append]
      show (cut (L.map bkD) none (some (k : Int))).length + 1 + (cut (L.map bkD) (some ((k : Int) + 2)) none).length ≤ sizeLine
      omega
    · have e2 : (mrgAt L k).map bkD = cut (L.map bkD) none (some (k : Int)) ++ [bkD (mrg (bkAt L k) (bkAt L (k + 1)))] ++ cut (L.map bkD) (some ((k : Int) + 2)) none := by
        rw [c1, c2]; unfold mrgAt; simp
      rw [e2] at h
      exact h
  · have hw := hW fun k hk e => hv ⟨k, hk, e⟩
    refine ⟨v, rfl, no, ⟨fun _ => ⟨fun _ => hw, fun hc => (by cases hc)⟩, fun hc => ?_⟩⟩
    obtain ⟨z, rfl⟩ : ∃ z, v = .int z := by
      have hc : (!isI v) = false := hc
      cases v <;> first | exact ⟨_, rfl⟩ | (cases hc; done)
    refine ⟨L, rfl, hn, hb, ⟨rfl, nats_pln _, Nat.zero_le 60⟩, ?_⟩
    have e : (true ^^ ((fallL L).map natD).any fun y => D.eqv y (.int z)) = true := by
      rw [any_int fun k hk e => hv ⟨k, hk, by rw [← e]; rfl⟩]; rfl
    rw [e]
    exact ⟨fun _ => hw, fun hc => (by cases hc)⟩

def t_items_cafd (r : Addr) : PSx Nat := (qSeq (qAsg (qBin ixD (qSet (qLst (qCons (qC (.int 2)) (qCons (qC (.int 9)) (qCons (qBin powD (qC (.int 10)) (qC (.int 9))) qNil))))) (qCallG (nextS r) (qCons (qVar 0) (qCons (qC (.int 3)) qNil)))) 2) (qSeq (qAsg (qBin ixD (qSet (qLst (qCons (qC (.int 1)) (qCons (qC (.int 3)) (qCons (qBin powD (qC (.int 10)) (qC (.int 6))) qNil))))) (qCallG (nextS r) (qCons (qVar 0) (qCons (qC (.int 3)) qNil)))) 3) (qSeq (qAsgOwn (qLst qNil) 4) (qSeq (qFor (qRange1 (qCons (qVar 1) qNil)) (.nm 5) (qDrop (qAppend 4 (qTup (qCons (qBin subD (qCallG (sp_size_3de8 r) (qCons (qVar 0) (qCons (qBin mulD (qC (.int 2)) (qVar 2)) qNil))) (qVar 2)) (qCons (qBin addD (qC (.int 1)) (qCallG (sp_size_3de8 r) (qCons (qVar 0) (qCons (qBin subD (qVar 3) (qC (.int 1))) qNil)))) qNil)))))) (qRet (qCall (fn1 tupleD) (qCons (qVar 4) qNil)))))))

def sp_items_cafd (r : Addr) : Spec Nat := fun ds g R => ∃ n : Nat, ds = [.obj r, .int n] ∧ n ≤ 60 ∧ g + 500 < drawLine ∧ ∀ l : List (Int × Int), l.length = n → (∀ q ∈ l, ItOk q) → R (.tup (l.map itD)) (g + 2 + 6 * n)
theorem len_items_cafd (r : Addr) (ds : List D) (g : Nat) (R : D → Nat → Prop) (h : sp_items_cafd r ds g R) : ds.length = 2 := by
  obtain ⟨m, rfl, _⟩ := h; rfl
theorem p_items_cafd (r : Addr) (ds : List D) (g : Nat) (R : D → Nat → Prop) (h : sp_items_cafd r ds g R) : t_items_cafd r { nx := fun s => R .non s.g, rt := R } ⟨startL 6 ds, g⟩ := by
  obtain ⟨n, rfl, hn, hg, h⟩ := h
  have line : (10000000 : Nat) ≤ sizeLine := line_big
  refine ⟨⟨by decide, by decide, by decide⟩, (by show 3 ≤ sizeLine; decide), 3, rfl, by decide, by decide, (by show g < drawLine; omega), fun k k0 k1 => ?_⟩
  obtain ⟨m, e, m0, m1⟩ := pick3 (lo := 2) (hi := 10 ^ 9) (a := 2) (b := 9) (c := 10 ^ (9 : Int).toNat) k0 k1 (by decide) (by decide) (by decide)
  refine ⟨_, e, ?_⟩
  refine ⟨⟨by decide, by decide, by decide⟩, (by show 3 ≤ sizeLine; decide), 3, rfl, by decide, by decide, (by show g + 1 < drawLine; omega), fun k k0 k1 => ?_⟩
  obtain ⟨w, e2, w0, w1⟩ := pick3 (lo := 1) (hi := 10 ^ 6) (a := 1) (b := 3) (c := 10 ^ (6 : Int).toNat) k0 k1 (by decide) (by decide) (by decide)
  refine ⟨_, e2, (by show 0 ≤ sizeLine; omega), ⟨by omega, by omega⟩, ?_⟩
  refine ⟨fun j s => ∃ l : List (Int × Int), l.length = j ∧ (∀ q ∈ l, ItOk q) ∧ s = ⟨[some (.val (.obj r)), some (.val (.int n)), some (.val (.int m)), some (.val (.int w)), some (.own (l.map itD)), none], g + 2 + 6 * j⟩, ⟨_, Wk.refl _, [], rfl, by simp, rfl⟩, ?_, ?_⟩
  · rintro j d s hd ⟨l, hl, hq, rfl⟩
    have hj : j < n := by
      have := (List.getElem?_eq_some_iff.mp hd).1
      simpa using this
    refine ⟨⟨_, rfl⟩, .inl (.inl ⟨by decide, by decide⟩), 2 * m, rfl, by omega, by omega, (by show g + 2 + 6 * j + 2 < drawLine; omega), fun v v0 v1 => ?_⟩
    refine ⟨w - 1, rfl, by omega, by omega, (by show g + 2 + 6 * j + 3 + 2 < drawLine; omega), fun u u0 u1 => ?_⟩
    refine ⟨(by show 2 ≤ sizeLine; omega), l.map itD, rfl, by simp; omega, ?_⟩
    refine ⟨⟨[some (.val (.obj r)), some (.val (.int n)), some (.val (.int m)), some (.val (.int w)), some (.own ((l ++ [(v - m, 1 + u)]).map itD)), none], g + 2 + 6 * j + 3 + 3⟩, ?_, l ++ [(v - m, 1 + u)], by simp [hl], ?_, rfl⟩
    · rw [List.map_append]
      exact Wk.of ⟨.inr rfl, .inr rfl, .inr rfl, .inr rfl, .inr rfl, .inl rfl, trivial⟩
    · intro q hm
      rcases List.mem_append.mp hm with hm | hm
      · exact hq q hm
      · rw [List.mem_singleton] at hm
        subst hm
        exact ⟨by show -(10 ^ 9) ≤ v - m; omega, by show v - m ≤ 10 ^ 9; omega, by show 1 ≤ 1 + u; omega, by show 1 + u ≤ 10 ^ 6; omega⟩
  · rintro s ⟨l, hl, hq, rfl⟩
    have hl' : l.length = n := by simpa using hl
    have e3 : ((List.range (n : Int).toNat).map fun k => D.int (k : Nat)).length = n := by simp
    show R (.tup (l.map itD)) (g + 2 + 6 * _)
    rw [e3]
    exact h l hl' hq

def t_row_75d3 (r : Addr) : PSx Nat := (qSeq (qAsg (qCallG (sp_items_cafd r) (qCons (qVar 0) (qCons (qBin addD (qC (.int 1)) (qCallG (nextS r) (qCons (qVar 0) (qCons (qVar 1) qNil)))) qNil))) 2) (qSeq (qAsg (qCallG (nextS r) (qCons (qVar 0) (qCons (qC (.int 4)) qNil))) 3) (qSeq (qIf (qB (qBin eqD (qVar 3) (qC (.int 1)))) (qAsg (qCall (fn1 tupleD) (qCons (qSet (qCallF sortedFP (qCons (qVar 2) qNil))) qNil)) 2) qNext) (qSeq (qIf (qB (qBin eqD (qVar 3) (qC (.int 2)))) (qAsg (qCall (fn1 tupleD) (qCons (qStep (qSet (qCallF sortedFP (qCons (qVar 2) qNil))) (qUn negD (qC (.int 1)))) qNil)) 2) qNext) (qSeq (qIf (qB (qBin eqD (qVar 3) (qC (.int 3)))) (qAsg (qCall (fn1 tupleD) (qCons (qSet (qLc (qItems (qVar 2)) (.tp [(.nm 4), (.nm 5)]) [4, 5] qYes (qTup (qCons (qBin modD (qVar 4) (qC (.int 3))) (qCons (qVar 5) qNil))))) qNil)) 2) qNext) (qRet (qVar 2)))))))

def sp_row_75d3 (r : Addr) : Spec Nat := fun ds g R => ∃ n : Nat, ds = [.obj r, .int n] ∧ 1 ≤ n ∧ n ≤ 60 ∧ g + 1000 < drawLine ∧ ∀ (l : List (Int × Int)) (g' : Nat), 1 ≤ l.length → l.length ≤ n → (∀ q ∈ l, ItOk q) → g ≤ g' → g' ≤ g + 400 → R (.tup (l.map itD)) g'
theorem len_row_75d3 (r : Addr) (ds : List D) (g : Nat) (R : D → Nat → Prop) (h : sp_row_75d3 r ds g R) : ds.length = 2 := by
  obtain ⟨m, rfl, _⟩ := h; rfl
theorem p_row_75d3 (r : Addr) (ds : List D) (g : Nat) (R : D → Nat → Prop) (h : sp_row_75d3 r ds g R) : t_row_75d3 r { nx := fun s => R .non s.g, rt := R } ⟨startL 6 ds, g⟩ := by
  obtain ⟨n, rfl, hn0, hn, hg, h⟩ := h
  have line : (10000000 : Nat) ≤ sizeLine := line_big
  refine seq_mid (M := fun s' => ∃ (l : List (Int × Int)) (g1 : Nat), 1 ≤ l.length ∧ l.length ≤ n ∧ (∀ q ∈ l, ItOk q) ∧ g ≤ g1 ∧ g1 ≤ g + 390 ∧ s' = ⟨[some (.val (.obj r)), some (.val (.int n)), some (.val (.tup (l.map itD))), none, none, none], g1⟩) ?_ ?_
  rotate_left
  · intro N hN
    refine ⟨n, rfl, by omega, by omega, (by show g < drawLine; omega), fun k k0 k1 => ?_⟩
    have e : (1 : Int) + k = ((1 + k.toNat : Nat) : Int) := by omega
    refine ⟨1 + k.toNat, ?_, by omega, (by show g + 1 + 500 < drawLine; omega), fun its h1 h2 => hN _ ⟨its, g + 1 + 2 + 6 * (1 + k.toNat), by omega, by omega, h2, by omega, by omega, rfl⟩⟩
    rw [← e]
  rintro _ ⟨l, g1, l1, l2, hq, hg1, hg2, rfl⟩
  refine seq_mid (M := fun s' => ∃ k : Int, s' = ⟨[some (.val (.obj r)), some (.val (.int n)), some (.val (.tup (l.map itD))), some (.val (.int k)), none, none], g1 + 1⟩) ?_ ?_
  rotate_left
  · intro N hN
    exact ⟨4, rfl, by decide, by decide, (by show g1 < drawLine; omega), fun k _ _ => hN _ ⟨k, rfl⟩⟩
  rintro _ ⟨k, rfl⟩
  refine seq_mid (M := fun s' => ∃ l : List (Int × Int), 1 ≤ l.length ∧ l.length ≤ n ∧ (∀ q ∈ l, ItOk q) ∧ s' = ⟨[some (.val (.obj r)), some (.val (.int n)), some (.val (.tup (l.map itD))), some (.val (.int k)), none, none], g1 + 1⟩) ?_ ?_
  rotate_left
  · intro N hN
    refine ⟨⟨rfl, rfl, Nat.zero_le 64, Nat.zero_le 64⟩, ⟨fun _ => ?_, fun _ => hN _ ⟨l, l1, l2, hq, rfl⟩⟩⟩
    exact ⟨l, rfl, fun out hp _ => hN _ ⟨out, by rw [hp.length_eq]; exact l1, by rw [hp.length_eq]; exact l2, fun q m => hq q (hp.mem_iff.mp m), rfl⟩⟩
  clear l1 l2 hq
  rintro _ ⟨l, l1, l2, hq, rfl⟩
  refine seq_mid (M := fun s' => ∃ l : List (Int × Int), 1 ≤ l.length ∧ l.length ≤ n ∧ (∀ q ∈ l, ItOk q) ∧ s' = ⟨[some (.val (.obj r)), some (.val (.int n)), some (.val (.tup (l.map itD))), some (.val (.int k)), none, none], g1 + 1⟩) ?_ ?_
  rotate_left
  · intro N hN
    refine ⟨⟨rfl, rfl, Nat.zero_le 64, Nat.zero_le 64⟩, ⟨fun _ => ?_, fun _ => hN _ ⟨l, l1, l2, hq, rfl⟩⟩⟩
    refine ⟨l, rfl, fun out hp _ => ⟨.inr rfl, hN _ ⟨out.reverse, by rw [List.length_reverse, hp.length_eq]; exact l1, by rw [List.length_reverse, hp.length_eq]; exact l2, fun q m => hq q (hp.mem_iff.mp (List.mem_reverse.mp m)), ?_⟩⟩⟩
    rw [List.map_reverse]; rfl
  clear l1 l2 hq
  rintro _ ⟨l, l1, l2, hq, rfl⟩
  refine seq_mid (M := fun s' => ∃ l : List (Int × Int), 1 ≤ l.length ∧ l.length ≤ n ∧ (∀ q ∈ l, ItOk q) ∧ s' = ⟨[some (.val (.obj r)), some (.val (.int n)), some (.val (.tup (l.map itD))), some (.val (.int k)), none, none], g1 + 1⟩) ?_ ?_
  rotate_left
  · intro N hN
    refine ⟨⟨rfl, rfl, Nat.zero_le 64, Nat.zero_le 64⟩, ⟨fun _ => ?_, fun _ => hN _ ⟨l, l1, l2, hq, rfl⟩⟩⟩
    refine lc_mapl l itD (fun q => itD (q.1 % 3, q.2)) (by omega) (fun q _ => ⟨_, rfl, fun T h => ⟨?_, (by show 2 ≤ sizeLine; omega), h⟩⟩) ?_ (by decide) (by rfl)
    · show (0:Int) < 3; decide
    · refine hN _ ⟨l.map fun q => (q.1 % 3, q.2), by simpa using l1, by simpa using l2, fun q m => ?_, ?_⟩
      · obtain ⟨z, hz, rfl⟩ := List.mem_map.mp m
        obtain ⟨a, b, c, d⟩ := hq z hz
        exact ⟨by show -(10 ^ 9) ≤ z.1 % 3; omega, by show z.1 % 3 ≤ 10 ^ 9; omega, c, d⟩
      · rw [List.map_map]; rfl
  clear l1 l2 hq
  rintro _ ⟨l, l1, l2, hq, rfl⟩
  exact h l _ l1 l2 hq (by show g ≤ g1 + 1; omega) (by show g1 + 1 ≤ g + 400; omega)

def t_integer_3c56 : PSx Unit := (qRet (qAndV (qIsi "int" (qVar 0)) (qAndV (qNotV (qIsi "bool" (qVar 0))) (qChain leD leD (qVar 1) (qVar 0) (qVar 2)))))

def sp_integer_3c56 : Spec0 := fun ds R => ∃ (d : D) (lo hi : Int), ds = [d, .int lo, .int hi] ∧ (∀ p, d ≠ .obj p) ∧ R (.bl (inI lo hi d))
theorem len_integer_3c56 (ds : List D) (R : DK) (h : sp_integer_3c56 ds R) : ds.length = 3 := by
  obtain ⟨d, _, _, rfl, _⟩ := h; rfl
theorem p_integer_3c56 (ds : List D) (R : DK) (h : sp_integer_3c56 ds R) : t_integer_3c56 { nx := fun _ => R .non, rt := fun d _ => R d } ⟨startL 3 ds, ()⟩ := by
  obtain ⟨d, lo, hi, rfl, ho, h⟩ := h
  refine ⟨ho, ?_⟩
  cases d with
  | int i =>
    refine ⟨fun _ => ⟨ho, ⟨fun _ => ?_, fun hc => (by cases hc)⟩⟩, fun hc => (by cases hc)⟩
    by_cases h1 : lo ≤ i
    · show match D.bl (decide (lo ≤ i)) with | .bl true => _ | .bl false => _ | _ => False
      have e : inI lo hi (.int i) = decide (i ≤ hi) := by simp [inI, h1]
      rw [e] at h
      rw [decide_eq_true h1]; exact h
    · show match D.bl (decide (lo ≤ i)) with | .bl true => _ | .bl false => _ | _ => False
      have e : inI lo hi (.int i) = false := by simp [inI, h1]
      rw [e] at h
      rw [decide_eq_false h1]; exact h
  | bl b => exact ⟨fun _ => ⟨ho, ⟨fun hc => (by cases hc), fun _ => h⟩⟩, fun hc => (by cases hc)⟩
  | obj a => exact (ho a rfl).elim
  | _ => exact ⟨fun hc => (by cases hc), fun _ => h⟩

def t_told_c016 : PSx Unit := (qTryAs (lookT [("NotFalling", "NotFalling", true)]) "NotFalling" 2 (xRet (xLst1 (qCallX (sp_merge_blocks_e278x) (qCons (qVar 0) (qCons (qVar 1) qNil))))) (fun x a => (qSeq (qAsg (qAndV (qIsE (lookT [("NotFalling", "MarksError", true)]) ["NotFalling"] ["MarksError"] 2 x a) (qIsE (lookT [("NotFalling", "ValueError", true)]) ["NotFalling"] ["ValueError"] 2 x a)) 3) (qRet (qSet (qLst (qCons (qC (.str "error")) (qCons (qAndV (qVar 3) (qNotV (qIsE (lookT [("NotFalling", "Full", false), ("NotFalling", "LastItem", false), ("NotFalling", "OutOfRange", false)]) ["NotFalling"] ["Full", "LastItem", "OutOfRange"] 2 x a))) (qCons (qXf "index" [("NotFalling", "index")] 2 x a) qNil)))))))))

def sp_told_c016 : Spec0 := fun ds R => ∃ (L : List Bk) (v : D), ds = [.tup (L.map bkD), v] ∧ L.length ≤ 1000 ∧ (∀ b ∈ L, BkOk b) ∧ (∀ p, v ≠ .obj p) ∧ (∀ k, k ∈ fallL L → v = natD k → R (.lst [.tup ((mrgAt L k).map bkD)])) ∧ ((∀ k ∈ fallL L, v ≠ natD k) → R (.lst [.str "error", .bl true, v]))
theorem len_told_c016 (ds : List D) (R : DK) (h : sp_told_c016 ds R) : ds.length = 2 := by
  obtain ⟨_, _, rfl, _⟩ := h; rfl
theorem p_told_c016 (ds : List D) (R : DK) (h : sp_told_c016 ds R) : t_told_c016 { nx := fun _ => R .non, rt := fun d _ => R d } ⟨startL 4 ds, ()⟩ := by
  obtain ⟨L, v, rfl, hn, hb, no, hR, hW⟩ := h
  have line : (10000000 : Nat) ≤ sizeLine := line_big
  refine ⟨L, v, rfl, hn, hb, no, fun k hk e => hR k hk e, fun z => ⟨rfl, fun o => ?_⟩⟩
  have h := hW z
  refine ⟨rfl, List.mem_singleton.mpr rfl, true, rfl, ⟨fun _ => ⟨rfl, List.mem_singleton.mpr rfl, true, rfl, ?_⟩, fun hc => (by cases hc)⟩⟩
  refine ⟨fun _ => ⟨rfl, List.mem_singleton.mpr rfl, false, rfl, rfl, List.mem_singleton.mpr rfl, v, rfl, (by show 3 ≤ sizeLine; omega), h⟩, fun hc => (by cases hc)⟩

def t_right_32d7 : PSx Unit := (qSeq (qAsg (qSet (qLst (qCons (qC (.str "error")) (qCons (qC (.bl true)) (qCons (qVar 1) qNil))))) 2) (qSeq (qIf (qAnd (qB (qCallP (sp_integer_3c56) (qCons (qVar 1) (qCons (qC (.int 0)) (qCons (qCall (fn1 lenD) (qCons (qVar 0) qNil)) qNil))))) (qB (qBin inD (qVar 1) (qCallP (sp_falling_18cf) (qCons (qVar 0) qNil))))) (qAsg (qSet (qLst (qCons (qCallP (sp_merged_64ee) (qCons (qVar 0) (qCons (qVar 1) qNil))) qNil))) 2) qNext) (qRet (qBin eqD (qCall (fn1 rprZ) (qCons (qCallP (sp_told_c016) (qCons (qVar 0) (qCons (qVar 1) qNil))) qNil)) (qCall (fn1 rprZ) (qCons (qVar 2) qNil))))))

theorem VOk.bks {L : List Bk} (h : ∀ b ∈ L, BkOk b) (hl : L.length ≤ 100) : VOk 110 710000 2 (.tup (L.map bkD)) := by
  obtain ⟨a, _, c, d⟩ := bks_ok h
  refine ⟨plz_pln _ a, ?_, by show D.wids _ + 8 ≤ _; omega, by show D.deps _ + 1 ≤ 2; omega⟩
  refine fits_iff.mpr fun x hx => ?_
  obtain ⟨b, hb, rfl⟩ := List.mem_map.mp hx
  exact ⟨(h b hb).1, (h b hb).2.1, (h b hb).2.2, trivial⟩
def sp_right_32d7 : Spec0 := fun ds R => ∃ (L : List Bk) (v : D), ds = [.tup (L.map bkD), v] ∧ L.length ≤ 100 ∧ (∀ b ∈ L, BkOk b) ∧ (∀ k ∈ fallL L, ∀ b ∈ mrgAt L k, BkOk b) ∧ VOk 110 20000 5 v ∧ R (.bl true)
theorem len_right_32d7 (ds : List D) (R : DK) (h : sp_right_32d7 ds R) : ds.length = 2 := by
  obtain ⟨_, _, rfl, _⟩ := h; rfl
theorem p_right_32d7 (ds : List D) (R : DK) (h : sp_right_32d7 ds R) : t_right_32d7 { nx := fun _ => R .non, rt := fun d _ => R d } ⟨startL 3 ds, ()⟩ := by
  obtain ⟨L, v, rfl, hn, hb, hm, hv, h⟩ := h
  have line : (10000000 : Nat) ≤ sizeLine := line_big
  have no := plz_obj hv.z
  have lm : (L.map bkD).length = L.length := by simp
  let B := some (Pm.L.val (.tup (L.map bkD)))
  let V := some (Pm.L.val v)
  refine seq_mid (M := fun s' => s' = ⟨[B, V, some (.val (.lst [.str "error", .bl true, v]))], ()⟩) ?_ ?_
  rotate_left
  · intro N hN
    exact ⟨(by show 3 ≤ sizeLine; omega), hN _ rfl⟩
  rintro _ rfl
  have shE : ShZ (.lst [.str "error", .bl true, v]) := by
    refine (VOk.to_lst (b := 110) (w := 30000) (k := 5) (fun x hx => ?_) ?_).sh
    · simp only [List.mem_cons, List.not_mem_nil, or_false] at hx
      rcases hx with rfl | rfl | rfl
      · exact ⟨by decide +kernel, trivial, Nat.zero_le _⟩
      · exact ⟨rfl, trivial, Nat.zero_le _⟩
      · exact ⟨hv.z, hv.f, hv.k⟩
    · have := hv.w
      have e : (D.str "error").wid ≤ 1000 := by decide +kernel
      simp only [D.wids]
      show (D.str "error").wid + 8 + (8 + 8 + (v.wid + 8 + 0)) + 8 ≤ 30000
      omega
  refine seq_mid (M := fun s' => ((∃ k ∈ fallL L, v = natD k ∧ s' = ⟨[B, V, some (.val (.lst [.tup ((mrgAt L k).map bkD)]))], ()⟩) ∨ ((∀ k ∈ fallL L, v ≠ natD k) ∧ s' = ⟨[B, V, some (.val (.lst [.str "error", .bl true, v]))], ()⟩))) ?_ ?_
  rotate_left
  · intro N hN
    refine ⟨v, 0, (L.map bkD).length, rfl, no, ⟨fun hc => ?_, fun hc => ⟨fun z => (by cases z), fun _ => hN _ (.inr ⟨fun k hk e => ?_, rfl⟩)⟩⟩⟩
    · obtain ⟨z, rfl⟩ : ∃ z, v = .int z := by
        have hc : inI 0 (L.map bkD).length v = true := hc
        cases v <;> first | exact ⟨_, rfl⟩ | (cases hc; done)
      have hc : (decide (0 ≤ z) && decide (z ≤ ((L.map bkD).length : Nat))) = true := hc
      rw [Bool.and_eq_true, decide_eq_true_eq] at hc
      obtain ⟨k, rfl⟩ : ∃ k : Nat, z = (k : Int) := ⟨z.toNat, by omega⟩
      refine ⟨L, rfl, by omega, hb, ⟨rfl, nats_pln _, Nat.zero_le 60⟩, ?_⟩
      have e := isin_natD (gs := fallL L) (k := k)
      have e' : (false ^^ ((fallL L).map natD).any fun y => D.eqv y (.int (k : Int))) = decide (k ∈ fallL L) := e
      rw [e']
      refine ⟨fun h1 => ?_, fun h1 => hN _ (.inr ⟨fun j hj ej => ?_, rfl⟩)⟩
      · have hk := of_decide_eq_true h1
        have hk2 : k < L.length - 1 := List.mem_range.mp (List.mem_filter.mp hk).1
        exact ⟨L, k, rfl, by omega, by omega, (by show 1 ≤ sizeLine; omega), hN _ (.inl ⟨k, hk, rfl, rfl⟩)⟩
      · have h1 := of_decide_eq_false h1
        have : k = j := by
          have : (k : Int) = (j : Int) := by simpa [natD] using ej
          omega
        rw [this] at h1; exact h1 hj
    · rw [e] at hc
      have hk2 : k < L.length - 1 := List.mem_range.mp (List.mem_filter.mp hk).1
      have hc : (decide ((0 : Int) ≤ (k : Int)) && decide ((k : Int) ≤ ((L.map bkD).length : Nat))) = false := hc
      rw [lm, decide_eq_true (by omega), decide_eq_true (by omega)] at hc
      cases hc
  have fin : ∀ (d : D), ShZ d → R (.bl (D.eqv (.str d.py.shown) (.str d.py.shown))) := fun d _ => by
    have e : D.eqv (.str d.py.shown) (.str d.py.shown) = true := by simp [D.eqv]
    rw [e]; exact h
  rintro _ (⟨k, hk, rfl, rfl⟩ | ⟨nk, rfl⟩)
  · have sh : ShZ (.lst [.tup ((mrgAt L k).map bkD)]) := by
      have hk2 : k < L.length - 1 := List.mem_range.mp (List.mem_filter.mp hk).1
      have vb := VOk.bks (hm k hk) (by unfold mrgAt; rw [List.length_append, List.length_append, List.length_take, List.length_drop]; show _ + 1 + _ ≤ 100; omega)
      refine (VOk.to_lst (b := 110) (w := 800000) (k := 2) (fun x hx => ?_) ?_).sh
      · rw [List.mem_singleton] at hx; subst hx
        exact ⟨vb.z, vb.f, vb.k⟩
      · have := vb.w
        simp only [D.wids]; omega
    refine ⟨L, natD k, rfl, by omega, hb, no, fun j hj e => ?_, fun z => absurd rfl (z k hk)⟩
    have : k = j := by
      have : (k : Int) = (j : Int) := by simpa [natD] using e
      omega
    subst this
    exact ⟨sh, sh, trivial, fin _ sh⟩
  · exact ⟨L, v, rfl, by omega, hb, no, fun j hj e => absurd e (nk j hj), fun _ => ⟨shE, shE, trivial, fin _ shE⟩⟩

def t_law_3048 (r : Addr) : PSx Nat := (qSeq (qFor (qRange1 (qCons (qC (.int 5)) qNil)) (.nm 2) (qSeq (qAsg (qBin ixD (qSet (qLst (qCons (qCallP (sp_starts_8d16) (qCons (qCallG (sp_row_75d3 r) (qCons (qVar 1) (qCons (qC (.int 12)) qNil))) qNil)) (qCons (qCallG (sp_blocks_fec5 r) (qCons (qVar 1) (qCons (qC (.int 8)) qNil))) qNil)))) (qBin modD (qVar 2) (qC (.int 2)))) 3) (qSeq (qAsg (qCall (fn1 rprZ) (qCons (qVar 3) qNil)) 4) (qSeq (qAsg (qSet (qLst (qCons (qC (.bl true)) (qCons (qC (.bl false)) (qCons (qC .non) (qCons (qC (.str "0")) (qCons (qTup (qCons (qC (.int 0)) qNil)) (qCons (qSet (qLst (qCons (qC (.int 0)) qNil))) (qCons (qC (.dct [] [])) (qCons (qBin powD (qC (.int 10)) (qC (.int 29))) (qCons (qUn negD (qC (.int 1))) (qCons (qCallG (sp_odd_a635 r) (qCons (qVar 1) qNil)) qNil)))))))))))) 5) (qSeq (qFor (qItems (qBin addD (qSet (qLstRg1 (qBin addD (qCall (fn1 lenD) (qCons (qVar 3) qNil)) (qC (.int 1))))) (qVar 5))) (.nm 6) (qIf (qOr (qNot (qB (qCallP (sp_right_32d7) (qCons (qVar 3) (qCons (qVar 6) qNil))))) (qB (qBin neD (qCall (fn1 rprZ) (qCons (qVar 3) qNil)) (qVar 4)))) (qRet (qC (.bl false))) qNext)) (qFor (qRange1 (qCons (qCall (fn1 lenD) (qCons (qVar 3) qNil)) qNil)) (.nm 7) (qSeq (qAsg (qCallP (sp_falling_18cf) (qCons (qVar 3) qNil)) 8) (qIf (qB (qBin neD (qVar 8) (qTup qNil))) (qSeq (qAsg (qCallG (sp_one_be76 r) (qCons (qVar 1) (qCons (qVar 8) qNil))) 6) (qSeq (qAsg (qCallP (sp_merged_64ee) (qCons (qVar 3) (qCons (qVar 6) qNil))) 9) (qSeq (qAsg (qCallP (fun ds R => (sp_merge_blocks_e278x) ds R fun _ => False) (qCons (qVar 3) (qCons (qVar 6) qNil))) 3) (qIf (qOr (qB (qBin neD (qCall (fn1 rprZ) (qCons (qVar 3) qNil)) (qCall (fn1 rprZ) (qCons (qVar 9) qNil)))) (qNot (qB (qCallP (sp_right_32d7) (qCons (qVar 3) (qCons (qCall (fn2 min2) (qCons (qVar 6) (qCons (qBin subD (qCall (fn1 lenD) (qCons (qVar 3) qNil)) (qC (.int 1))) qNil))) qNil)))))) (qRet (qC (.bl false))) qNext)))) qNext)))))))) (qRet (qC (.bl true))))

def nat3 (b : Bk) : Nat := b.1.natAbs + b.2.1.natAbs + b.2.2.natAbs
def totB (L : List Bk) : Nat := (L.map nat3).sum
theorem tot_mem {L : List Bk} {b : Bk} (h : b ∈ L) : nat3 b ≤ totB L := by
  unfold totB
  induction L with
  | nil => cases h
  | cons x L ih =>
    rw [List.map_cons, List.sum_cons]
    rcases List.mem_cons.mp h with rfl | h
    · omega
    · have := ih h; omega
theorem tot_ok {L : List Bk} (h : totB L ≤ 10 ^ 32) : ∀ b ∈ L, BkOk b := fun b hb => by
  have := tot_mem hb
  unfold nat3 at this
  have e : (10 : Nat) ^ 32 < 2 ^ 110 := by decide
  exact ⟨by unfold Sz; omega, by unfold Sz; omega, by unfold Sz; omega⟩
theorem tot_mrg {L : List Bk} {k : Nat} (hk : k + 1 < L.length) : totB (mrgAt L k) ≤ totB L ∧ (mrgAt L k).length + 1 = L.length := by
  have e : L = L.take k ++ (bkAt L k :: bkAt L (k + 1) :: L.drop (k + 2)) := by
    have h1 : L.drop k = bkAt L k :: L.drop (k + 1) := by
      rw [List.drop_eq_getElem_cons (by omega)]
      unfold bkAt
      rw [List.getD_eq_getElem?_getD, List.getElem?_eq_getElem (by omega)]; rfl
    have h2 : L.drop (k + 1) = bkAt L (k + 1) :: L.drop (k + 2) := by
      rw [List.drop_eq_getElem_cons (by omega)]
      unfold bkAt
      rw [List.getD_eq_getElem?_getD, List.getElem?_eq_getElem (by omega)]; rfl
    rw [← h2, ← h1, List.take_append_drop]
  constructor
  · have h2 : totB L = totB (L.take k) + (nat3 (bkAt L k) + (nat3 (bkAt L (k + 1)) + totB (L.drop (k + 2)))) := by
      conv => lhs; rw [e]
      unfold totB
      simp
    have h3 : totB (mrgAt L k) = totB (L.take k) + (nat3 (mrg (bkAt L k) (bkAt L (k + 1))) + totB (L.drop (k + 2))) := by
      unfold totB mrgAt
      simp
    have h4 : nat3 (mrg (bkAt L k) (bkAt L (k + 1))) ≤ nat3 (bkAt L k) + nat3 (bkAt L (k + 1)) := by
      unfold nat3 mrg
      show (_ + _ : Int).natAbs + (_ + _ : Int).natAbs + (_ + _ : Int).natAbs ≤ _
      omega
    omega
  · unfold mrgAt
    rw [List.length_append, List.length_append, List.length_take, List.length_drop]
    show min k L.length + 1 + (L.length - (k + 2)) + 1 = _
    omega
theorem tot_le {L : List Bk} (h : ∀ b ∈ L, nat3 b ≤ 3 * 10 ^ 30) : totB L ≤ L.length * (3 * 10 ^ 30) := by
  unfold totB
  induction L with
  | nil => simp
  | cons x L ih =>
    have h1 := ih fun b hb => h b (by simp [hb])
    have h2 := h x (by simp)
    rw [List.map_cons, List.sum_cons, List.length_cons, Nat.succ_mul]; omega
structure BksOk (L : List Bk) : Prop where
  len : L.length ≤ 12
  tot : totB L ≤ 10 ^ 32
theorem BksOk.b {L : List Bk} (h : BksOk L) : ∀ b ∈ L, BkOk b := tot_ok h.tot
theorem BksOk.m {L : List Bk} (h : BksOk L) {k : Nat} (hk : k ∈ fallL L) : BksOk (mrgAt L k) := by
  have hk2 : k < L.length - 1 := List.mem_range.mp (List.mem_filter.mp hk).1
  obtain ⟨a, b⟩ := tot_mrg (L := L) (k := k) (by omega)
  exact ⟨by have := h.len; omega, Nat.le_trans a h.tot⟩
theorem p_law_3048 (r : Addr) : t_law_3048 r { nx := fun _ => False, rt := fun d _ => d = .bl true } ⟨(List.replicate 10 none).set 1 (some (.val (.obj r))), 0⟩ := by
  have lim : drawLine = 16777216 := by decide
  have line : (10000000 : Nat) ≤ sizeLine := line_big
  let O := some (L.val (.obj r))
  refine ⟨⟨by decide, by decide⟩, fun i s => ∃ g, g ≤ 2000 * i ∧ s = ⟨[none, O, none, none, none, none, none, none, none, none], g⟩, ⟨_, Wk.refl _, 0, by omega, rfl⟩, ?_, ?_⟩
  · rintro i d s hd ⟨g, hg, rfl⟩
    have hi : i < 5 := (List.getElem?_eq_some_iff.mp hd).1
    have ed : d = .int (i : Nat) := by
      have : ((List.range (5 : Int).toNat).map fun k => D.int (k : Nat))[i]? = some (.int (i : Nat)) := by
        rw [List.getElem?_map, List.getElem?_range (by exact hi)]; rfl
      have := hd.symm.trans this
      exact Option.some.inj this
    subst ed
    let D2 := some (L.val (.int (i : Nat)))
    refine put_nm ?_
    refine seq_mid (M := fun s' => ∃ (B : List Bk) (g1 : Nat), BksOk B ∧ g1 ≤ g + 900 ∧ s' = ⟨[none, O, D2, some (.val (.tup (B.map bkD))), none, none, none, none, none, none], g1⟩) ?_ ?_
    rotate_left
    · intro N hN
      refine ⟨12, rfl, by decide, by decide, (by show g + 1000 < drawLine; omega), fun l g1 _ l2 lq ga gb => ?_⟩
      have ga : g ≤ g1 := ga
      have gb : g1 ≤ g + 400 := gb
      refine ⟨l, rfl, by omega, lq, 8, rfl, by decide, by decide, (by show g1 + 1000 < drawLine; omega), fun L8 g2 n8 b8 gc gd => ?_⟩
      have gd : g2 ≤ g1 + 400 := gd
      have ok1 : BksOk (stB l) := by
        have ln : (stB l).length = l.length := by simp [stB]
        refine ⟨by omega, Nat.le_trans (tot_le fun b hb => ?_) (Nat.le_trans (Nat.mul_le_mul_right _ (show (stB l).length ≤ 12 by omega)) (by decide))⟩
        obtain ⟨q, hq, rfl⟩ := List.mem_map.mp hb
        obtain ⟨q1, q2, q3, q4⟩ := lq q hq
        unfold nat3
        show (1 : Int).natAbs + (q.1 * q.2).natAbs + q.2.natAbs ≤ _
        rw [Int.natAbs_mul]
        have m := Nat.mul_le_mul (show q.1.natAbs ≤ 10 ^ 9 by omega) (show q.2.natAbs ≤ 10 ^ 6 by omega)
        omega
      have ok2 : BksOk L8 := by
        refine ⟨by omega, Nat.le_trans (tot_le fun b hb => ?_) (Nat.le_trans (Nat.mul_le_mul_right _ (show L8.length ≤ 12 by omega)) (by decide))⟩
        obtain ⟨a1, a2, a3, a4, a5, a6⟩ := b8 b hb
        unfold nat3; omega
      refine ⟨(by show 2 ≤ sizeLine; omega), (by show (0 : Int) < 2; decide), ?_⟩
      rcases (by omega : i % 2 = 0 ∨ i % 2 = 1) with h | h
      · have e : idx [D.tup ((stB l).map bkD), .tup (L8.map bkD)] ((i : Int) % 2) = some (.tup ((stB l).map bkD)) := by
          have : ((i : Int) % 2) = 0 := by omega
          rw [this]; rfl
        exact ⟨_, e, hN _ ⟨stB l, g2, ok1, by omega, rfl⟩⟩
      · have e : idx [D.tup ((stB l).map bkD), .tup (L8.map bkD)] ((i : Int) % 2) = some (.tup (L8.map bkD)) := by
          have : ((i : Int) % 2) = 1 := by omega
          rw [this]; rfl
        exact ⟨_, e, hN _ ⟨L8, g2, ok2, by omega, rfl⟩⟩
    rintro _ ⟨B, g1, bo, hg1, rfl⟩
    have vb := VOk.bks bo.b (by have := bo.len; omega)
    have shB : ShZ (.tup (B.map bkD)) := vb.sh
    have bl := bo.len
    have lm : (B.map bkD).length = B.length := by simp
    let V3 := some (L.val (.tup (B.map bkD)))
    let V4 := some (L.val (.str (D.tup (B.map bkD)).py.shown))
    refine seq_mid (M := fun s' => s' = ⟨[none, O, D2, V3, V4, none, none, none, none, none], g1⟩) ?_ ?_
    rotate_left
    · intro N hN
      exact ⟨shB, hN _ rfl⟩
    rintro _ rfl
    refine seq_mid (M := fun s' => ∃ os : List D, os.length = 10 ∧ (∀ v ∈ os, VOk 110 20000 5 v) ∧ s' = ⟨[none, O, D2, V3, V4, some (.val (.lst os)), none, none, none, none], g1 + 1⟩) ?_ ?_
    rotate_left
    · intro N hN
      refine ⟨(by show 1 ≤ sizeLine; omega), (by show 1 ≤ sizeLine; omega), ⟨by decide, by decide, by decide⟩, rfl, (by show g1 < drawLine; omega), fun z hz => ⟨(by show 10 ≤ sizeLine; omega), hN _ ⟨_, rfl, fun v hv => ?_, rfl⟩⟩⟩
      have od : ∀ d, d ∈ oddL → VOk 110 20000 5 d := fun d hd => (odd_ok hd).le (by decide) (by decide) (by decide)
      simp only [List.mem_cons, List.not_mem_nil, or_false] at hv
      rcases hv with rfl | rfl | rfl | rfl | rfl | rfl | rfl | rfl | rfl | rfl
      · exact od _ (by simp [oddL])
      · exact od _ (by simp [oddL])
      · exact od _ (by simp [oddL])
      · exact ⟨by decide +kernel, trivial, by decide +kernel, Nat.zero_le _⟩
      · exact od _ (by simp [oddL])
      · exact od _ (by simp [oddL])
      · exact od _ (by simp [oddL])
      · exact od _ (by simp [oddL])
      · exact od _ (by simp [oddL])
      · exact od _ hz
    rintro _ ⟨os, ol, ov, rfl⟩
    let V5 := some (L.val (.lst os))
    refine seq_mid (M := fun s' => s' = ⟨[none, O, D2, V3, V4, V5, none, none, none, none], g1 + 1⟩) ?_ ?_
    rotate_left
    · intro N hN
      refine ⟨⟨by omega, by rw [lm]; omega⟩, ?_⟩
      have rg : rgD 0 (((B.map bkD).length : Int) + 1) = (List.range (B.length + 1)).map natD := by
        rw [lm]
        have : ((B.length : Nat) : Int) + 1 = ((B.length + 1 : Nat) : Int) := by omega
        rw [this, rgD_nats]
      rw [rg]
      refine ⟨by rw [List.length_map, List.length_range]; omega, fun t s => s = ⟨[none, O, D2, V3, V4, V5, none, none, none, none], g1 + 1⟩, ⟨_, Wk.refl _, rfl⟩, ?_, ?_⟩
      · rintro t v s hv rfl
        have vo : VOk 110 20000 5 v := by
          rcases List.mem_append.mp (List.mem_of_getElem? hv) with hm | hm
          · obtain ⟨k, hk, rfl⟩ := List.mem_map.mp hm
            have := List.mem_range.mp hk
            exact ⟨rfl, sz_nat (Nat.lt_of_lt_of_le (show k < 2 ^ 5 by omega) (by decide)), by show 2000 ≤ 20000; decide, Nat.zero_le _⟩
          · exact ov v hm
        refine put_nm ?_
        refine ⟨B, v, rfl, by omega, bo.b, fun k hk => (bo.m hk).b, vo, ⟨fun hc => (by cases hc), fun _ => ⟨shB, trivial, ⟨fun hc => ?_, fun _ => ?_⟩⟩⟩⟩
        · simp [D.eqv] at hc
        · exact ⟨_, Wk.of (by repeat' first | exact trivial | exact .inr rfl | exact .inl rfl | refine ⟨?_, ?_⟩), rfl⟩
      · rintro s rfl
        exact hN _ rfl
    rintro _ rfl
    refine ⟨⟨by rw [lm]; omega, by rw [lm]; omega⟩, fun t s => ∃ (B : List Bk) (g2 : Nat), BksOk B ∧ g2 ≤ g1 + 1 + t ∧ s = ⟨[none, O, D2, some (.val (.tup (B.map bkD))), none, none, none, none, none, none], g2⟩, ⟨⟨[none, O, D2, V3, none, none, none, none, none, none], g1 + 1⟩, Wk.of (by repeat' first | exact trivial | exact .inr rfl | exact .inl rfl | refine ⟨?_, ?_⟩), B, g1 + 1, bo, by omega, rfl⟩, ?_, ?_⟩
    · rintro t v s hv ⟨B, g2, bo, hg2, rfl⟩
      have ht : t < 12 := by
        have := (List.getElem?_eq_some_iff.mp hv).1
        simp at this; omega
      have bl := bo.len
      let D7 := some (L.val v)
      let V3 := some (L.val (.tup (B.map bkD)))
      let V8 := some (L.val (grD (fallL B)))
      refine put_nm ?_
      refine seq_mid (M := fun s' => s' = ⟨[none, O, D2, V3, none, none, none, D7, V8, none], g2⟩) ?_ ?_
      rotate_left
      · intro N hN
        exact ⟨B, rfl, by omega, bo.b, hN _ rfl⟩
      rintro _ rfl
      have gp := nats_pln (fallL B)
      refine ⟨Nat.zero_le _, ⟨gp, rfl, gr_dep _, by show 1 ≤ 64; decide⟩, ⟨fun hc => ?_, fun _ => ?_⟩⟩
      · have f0 : 0 < (fallL B).length := by
          cases h : fallL B with
          | nil => rw [h] at hc; exact absurd hc (by decide)
          | cons _ _ => simp
        have fl : (fallL B).length ≤ 12 := Nat.le_trans (List.length_filter_le _ _) (by simp; omega)
        refine seq_mid (M := fun s' => ∃ k ∈ fallL B, s' = ⟨[none, O, D2, V3, none, none, some (.val (natD k)), D7, V8, none], g2 + 1⟩) ?_ ?_
        rotate_left
        · intro N hN
          refine ⟨_, .inr rfl, by rw [List.length_map]; omega, by rw [List.length_map]; omega, (by show g2 < drawLine; omega), fun d hd => ?_⟩
          obtain ⟨k, hk, rfl⟩ := List.mem_map.mp hd
          exact hN _ ⟨k, hk, rfl⟩
        rintro _ ⟨k, hk, rfl⟩
        have hk2 : k < B.length - 1 := List.mem_range.mp (List.mem_filter.mp hk).1
        have bm := bo.m hk
        have bml := bm.len
        have vm := VOk.bks bm.b (by omega)
        have shM : ShZ (.tup ((mrgAt B k).map bkD)) := vm.sh
        let V6 := some (L.val (natD k))
        let VM := some (L.val (.tup ((mrgAt B k).map bkD)))
        refine seq_mid (M := fun s' => s' = ⟨[none, O, D2, V3, none, none, V6, D7, V8, VM], g2 + 1⟩) ?_ ?_
        rotate_left
        · intro N hN
          exact ⟨B, k, rfl, by omega, by omega, hN _ rfl⟩
        rintro _ rfl
        refine seq_mid (M := fun s' => s' = ⟨[none, O, D2, VM, none, none, V6, D7, V8, VM], g2 + 1⟩) ?_ ?_
        rotate_left
        · intro N hN
          refine ⟨B, natD k, rfl, by omega, bo.b, plz_obj rfl, fun j hj e => ?_, fun z => absurd rfl (z k hk)⟩
          have : k = j := by
            have : (k : Int) = (j : Int) := by simpa [natD] using e
            omega
          subst this
          exact hN _ rfl
        rintro _ rfl
        have lmm : ((mrgAt B k).map bkD).length = (mrgAt B k).length := by simp
        have mv : VOk 110 20000 5 (.int (min (k : Int) (((mrgAt B k).map bkD).length - 1))) := ⟨rfl, by show Sz 110 _; unfold Sz; rw [lmm]; omega, by show 2000 ≤ 20000; decide, Nat.zero_le _⟩
        refine ⟨shM, shM, trivial, ⟨fun hc => ?_, fun _ => ?_⟩⟩
        · simp [D.eqv] at hc
        · refine ⟨mrgAt B k, _, rfl, by omega, bm.b, fun j hj => (bm.m hj).b, mv, ⟨fun hc => (by cases hc), fun _ => ?_⟩⟩
          exact ⟨⟨[none, O, D2, VM, none, none, none, none, none, none], g2 + 1⟩, Wk.of (by repeat' first | exact trivial | exact .inr rfl | exact .inl rfl | refine ⟨?_, ?_⟩), mrgAt B k, g2 + 1, bm, by omega, rfl⟩
      · exact ⟨⟨[none, O, D2, V3, none, none, none, none, none, none], g2⟩, Wk.of (by repeat' first | exact trivial | exact .inr rfl | exact .inl rfl | refine ⟨?_, ?_⟩), B, g2, bo, by omega, rfl⟩
    · rintro s ⟨B', g2, _, hg2, rfl⟩
      have hg2 : g2 ≤ g1 + 1 + ((List.range ((B.map bkD).length : Int).toNat).map fun k => D.int (k : Nat)).length := hg2
      have e : ((List.range ((B.map bkD).length : Int).toNat).map fun k => D.int (k : Nat)).length = B.length := by simp
      rw [e] at hg2
      exact ⟨⟨[none, O, none, none, none, none, none, none, none, none], g2⟩, Wk.of (by repeat' first | exact trivial | exact .inr rfl | exact .inl rfl | refine ⟨?_, ?_⟩), g2, by omega, rfl⟩
  · rintro s ⟨g, _, rfl⟩
    rfl

end Pm

set_option Elab.async false
set_option linter.all false
set_option maxRecDepth 100000
set_option maxHeartbeats 0
set_option autoImplicit false
namespace Pm
open PySem PySem.Spec
open PyProof.Rows hiding St
open L2
def top (i : Nat) : Stmt := PySem.Challenge.pw_poolmarks_k54_merged_blocks.main.body.getD i (.Pass ⟨0, 0, 0, 0⟩)
def x0L : List Str := []
def xqL : List Str := ["NotFalling"]
def subL : List (Str × Str × Bool) := [("NotFalling", "NotFalling", true), ("NotFalling", "MarksError", true), ("NotFalling", "ValueError", true), ("NotFalling", "Full", false), ("NotFalling", "LastItem", false), ("NotFalling", "OutOfRange", false)]
def xfL : List (Str × Str) := [("NotFalling", "index")]
structure Bi (K : PySem.W.Frag) (mg : Str → Option Value) : Prop where
  f_abs : mg "abs" = none
  f_bool : mg "bool" = none
  f_int : mg "int" = none
  f_isinstance : mg "isinstance" = none
  f_len : mg "len" = none
  f_list : mg "list" = none
  f_max : mg "max" = none
  f_min : mg "min" = none
  f_range : mg "range" = none
  f_repr : mg "repr" = none
  f_sorted : mg "sorted" = none
  f_tuple : mg "tuple" = none
  sys : sysB K = true
  exc : Excs K mg x0L xqL subL xfL
theorem bt_abs : bootBuiltins "abs" = some (.builtin "abs") := by decide +kernel
theorem bt_bool : bootBuiltins "bool" = some (.type "bool") := by decide +kernel
theorem bt_int : bootBuiltins "int" = some (.type "int") := by decide +kernel
theorem bt_isinstance : bootBuiltins "isinstance" = some (.builtin "isinstance") := by decide +kernel
theorem bt_len : bootBuiltins "len" = some (.builtin "len") := by decide +kernel
theorem bt_list : bootBuiltins "list" = some (.type "list") := by decide +kernel
theorem bt_max : bootBuiltins "max" = some (.builtin "max") := by decide +kernel
theorem bt_min : bootBuiltins "min" = some (.builtin "min") := by decide +kernel
theorem bt_repr : bootBuiltins "repr" = some (.builtin "repr") := by decide +kernel
theorem bt_sorted : bootBuiltins "sorted" = some (.builtin "sorted") := by decide +kernel
theorem bt_tuple : bootBuiltins "tuple" = some (.type "tuple") := by decide +kernel
abbrev st_NotFalling : Stmt := inClass (top 4) 0
theorem sc_NotFalling : FnScope ["self", "index"] ["self", "index"] (defScope st_NotFalling) := ⟨rfl, rfl, rfl, by decide +kernel, rfl, by decide +kernel, by decide +kernel⟩
section
variable {P : Program} {w : World} {K : PySem.W.Frag} {mg : Str → Option Value} {base : Heap}
abbrev st_draws : Stmt := top 14
theorem sc_draws : FnScope ["_law_script", "_law_cells", "_law_cell"] ["_law_script"] (defScope st_draws) := ⟨rfl, rfl, rfl, by decide +kernel, rfl, by decide +kernel, by decide +kernel⟩
theorem ok_draws0 {f fd} (b : Bi K mg) (F : Fn K "_law_draws" "_law_draws" st_draws f fd) : FnOk P w K mg base CX0 1 f fd ["_law_script"] (spDraws K) := ok_draws F sc_draws rfl rfl fun cdv A outer s H E hr => by
  have nd := sc_draws.nd
  exact pss_cons (ps_set (i := 1) nd rfl (by first | exact Or.inl rfl | exact Or.inr rfl) (pe_op op_cat (pe_callTy call_list_of rfl b.f_list bt_list (pa_cons (pe_slice sl_list (pv 0) po_none (po_some pe_int)) pa_nil))
      (pe_op op_rep (pe_lst (pa_cons pe_int pa_nil)) (pe_callTy call_int1 rfl b.f_int bt_int (pa_cons (pe_cmpR op_eq (pe_callB call_len_seq rfl b.f_len bt_len (pa_cons (pv 0) pa_nil)) pe_int (nomark _)) pa_nil)))))
    (pss_one (ps_ret (pe_lst (pa_cons (pv 1) (pa_cons pe_int (pa_cons (pe_lc (own := [("_law_cell", 2)]) rfl nd (pi_list (pv 1)) (blkOk_by (by kernel_rfl)) (fun _ _ _ _ _ => pg_name nd rfl (by first | exact Or.inl rfl | exact Or.inr rfl)) (fun _ _ _ _ _ => pts_nil)
      (fun _ _ _ _ _ => pe_op op_mul (pv 2) (pe_callTy call_int1 rfl b.f_int bt_int (pa_cons (pe_cmpR op_ge (pv 2) (pe_op op_pow pe_int pe_int) (nomark _)) pa_nil)))) pa_nil))))))
abbrev st_next : Stmt := top 15
theorem sc_next : FnScope ["_law_drawn", "_law_many", "_law_cells", "_law_turn", "_law_rests", "_law_spot", "_law_digit", "_law_mixed", "_law_again"] ["_law_drawn", "_law_many"] (defScope st_next) := ⟨rfl, rfl, rfl, by decide +kernel, rfl, by decide +kernel, by decide +kernel⟩
theorem ok_next0 {f fd} {r c q : Addr} (b : Bi K mg) (F : Fn K "_law_next" "_law_next" st_next f fd) : FnOk P w K mg base CX0 1 f fd ["_law_drawn", "_law_many"] (spG (gr K r c q) (nextS r)) := ok_next F sc_next rfl rfl fun cdv A outer s H E hr => by
  have nd := sc_next.nd
  exact pss_cons (ps_asg (pv 0) (pg_lst rfl (pgs_cons (pg_name nd rfl (.inl rfl)) (pgs_cons (pg_name nd rfl (.inl rfl)) (pgs_cons (pg_name nd rfl (.inl rfl)) pgs_nil)))))
    (pss_cons (ps_set (i := 5) nd rfl (.inl rfl) (pe_op op_mod (pv 3) (pe_callB call_len_seq rfl b.f_len bt_len (pa_cons (pv 2) pa_nil))))
    (pss_cons (ps_asg (pe_op op_add (pv 3) pe_int) (pg_sub (pv 0) pe_int set_list (fun _ => rfl)))
    (pss_cons (ps_if (pt_cmpR op_gt (pe_ix ix_list (pv 4) (pv 5) (fun _ _ => rfl)) pe_int (nomark _))
      (pss_cons (ps_set (i := 6) nd rfl (.inl rfl) (pe_op op_mod (pe_ix ix_list (pv 4) (pv 5) (fun _ _ => rfl)) (pv 1)))
      (pss_cons (ps_asg (pe_op op_fdivM (pe_ix ix_list (pv 4) (pv 5) (fun _ _ => rfl)) (pv 1)) (pg_sub (pv 4) (pv 5) set_list (fun _ => rfl)))
      (pss_one (ps_ret (pv 6))))) pss_nil)
    (pss_cons (ps_set (i := 7) nd rfl (.inl rfl) (pe_op op_mod (pe_op op_pow (pe_op op_add (pe_op op_add (pe_op op_mod (pe_ix ix_list (pv 2) (pv 5) (fun _ _ => rfl)) pe_int) (pe_op op_mul pe_int (pv 3))) pe_int) pe_int) pe_int))
    (pss_cons (ps_set (i := 8) nd rfl (.inl rfl) (pe_op op_mod (pe_op op_pow (pe_op op_add (pe_op op_add (pv 7) (pe_op op_mul (pe_op op_mul pe_int (pv 3)) (pv 3))) pe_int) pe_int) pe_int))
    (pss_one (ps_ret (pe_op op_mod (pe_op op_mod (pe_op op_add (pe_op op_mul (pv 8) pe_int) (pv 7)) pe_int) (pv 1)))))))))
abbrev st_one_be76 : Stmt := top 16
theorem sc_one_be76 : FnScope ["_law_drawn", "_law_items_here"] ["_law_drawn", "_law_items_here"] (defScope st_one_be76) := ⟨rfl, rfl, rfl, by decide +kernel, rfl, by decide +kernel, by decide +kernel⟩
theorem ok_one_be76 {f fd} {r c q : Addr} (b : Bi K mg) (g_next : ∀ r c q, Glo P w K mg base "_law_next" 2 (spG (gr K r c q) (nextS r)) 1) (F : Fn K "_law_one" "_law_one" st_one_be76 f fd) : FnOk P w K mg base CX0 2 f fd ["_law_drawn", "_law_items_here"] (spG (gr K r c q) (sp_one_be76 r)) :=
  okG (P := P) (w := w) (mg := mg) (base := base) (G := gr K r c q) (k := 1) rfl F sc_one_be76 (len_one_be76 r) ⟨t_one_be76 r, fun cdv A outer s H E hr => by
    have nd := sc_one_be76.nd
    exact (qss_one (qs_ret (qe_ix (qv 1) (qe_callG ((g_next _ _ _).at hr (by decide)) rfl (qa_cons (qv 0) (qa_cons (qe_callB c_len rfl b.f_len bt_len (qa_cons (qv 1) qa_nil)) qa_nil)))))), p_one_be76 r⟩ (fun _ _ _ h => h)
abbrev st_odd_a635 : Stmt := top 19
theorem sc_odd_a635 : FnScope ["_law_drawn", "_law_some"] ["_law_drawn"] (defScope st_odd_a635) := ⟨rfl, rfl, rfl, by decide +kernel, rfl, by decide +kernel, by decide +kernel⟩
theorem ok_odd_a635 {f fd} {r c q : Addr} (b : Bi K mg) (g_one_be76 : ∀ r c q, Glo P w K mg base "_law_one" 2 (spG (gr K r c q) (sp_one_be76 r)) 2) (F : Fn K "_law_odd" "_law_odd" st_odd_a635 f fd) : FnOk P w K mg base CX0 3 f fd ["_law_drawn"] (spG (gr K r c q) (sp_odd_a635 r)) :=
  okG (P := P) (w := w) (mg := mg) (base := base) (G := gr K r c q) (k := 2) rfl F sc_odd_a635 (len_odd_a635 r) ⟨t_odd_a635 r, fun cdv A outer s H E hr => by
    have nd := sc_odd_a635.nd
    exact (qss_cons (qs_set (i := 1) nd rfl (by first | exact Or.inl rfl | exact Or.inr rfl) (qe_set (qf_lst (qa_cons qe_non (qa_cons qe_bl (qa_cons qe_bl (qa_cons qe_int (qa_cons (qe_un o_neg qe_int) (qa_cons qe_int (qa_cons qe_int (qa_cons (qe_bin o_pow qe_int qe_int) (qa_cons qe_str (qa_cons qe_str (qa_cons qe_str (qa_cons (qe_tup qa_nil) (qa_cons (qe_set (qf_lst qa_nil)) (qa_cons qe_dict0 (qa_cons (qe_tup (qa_cons qe_int qa_nil)) (qa_cons (qe_set (qf_lst (qa_cons qe_int qa_nil))) (qa_cons (qe_tup (qa_cons (qe_tup qa_nil) qa_nil)) qa_nil))))))))))))))))))))
    (qss_one (qs_ret (qe_callG ((g_one_be76 _ _ _).at hr (by decide)) rfl (qa_cons (qv 0) (qa_cons (qe_bin o_add (qv 1) (qe_set (qf_lst (qa_cons (qe_tup (qa_cons qe_int (qa_cons qe_int qa_nil))) (qa_cons (qe_tup (qa_cons qe_int (qa_cons qe_int qa_nil))) (qa_cons (qe_tup (qa_cons qe_int (qa_cons qe_int qa_nil))) qa_nil)))))) qa_nil)))))), p_odd_a635 r⟩ (fun _ _ _ h => h)
abbrev st_falling_18cf : Stmt := top 24
theorem sc_falling_18cf : FnScope ["_law_blocks_here", "_law_found", "_law_k", "_law_one_here", "_law_other"] ["_law_blocks_here"] (defScope st_falling_18cf) := ⟨rfl, rfl, rfl, by decide +kernel, rfl, by decide +kernel, by decide +kernel⟩
theorem ok_falling_18cf {f fd} (b : Bi K mg) (F : Fn K "_law_falling" "_law_falling" st_falling_18cf f fd) : FnOk P w K mg base CX0 1 f fd ["_law_blocks_here"] (spP K sp_falling_18cf) :=
  okP F sc_falling_18cf len_falling_18cf ⟨t_falling_18cf, fun cdv A outer s H E hr => by
    have nd := sc_falling_18cf.nd
    exact (qss_cons (qs_setOwn (i := 1) nd rfl (by first | exact Or.inl rfl | exact Or.inr rfl) (qf_lst qa_nil))
    (qss_cons (qs_for PassesOwn.never rfl (qi_range1 rfl b.f_range (qa_cons (qe_bin o_sub (qe_callB c_len rfl b.f_len bt_len (qa_cons (qv 0) qa_nil)) qe_int) qa_nil)) (qg_name nd rfl (by first | exact Or.inl rfl | exact Or.inr rfl)) (qss_cons (qs_par rfl nd rfl rfl (by decide) rfl rfl (qa_cons (qe_ix (qv 0) (qv 2)) (qa_cons (qe_ix (qv 0) (qe_bin o_add (qv 2) qe_int)) qa_nil)) rfl)
    (qss_one (qs_if (qt_cmp o_gt (qe_bin o_mul (qe_ix (qv 3) qe_int) (qe_ix (qv 4) qe_int)) (qe_bin o_mul (qe_ix (qv 4) qe_int) (qe_ix (qv 3) qe_int)) (nomark _)) (qss_one (qs_expr (qe_append (pv 1) (qv 2)))) qss_nil))))
    (qss_one (qs_ret (qe_callTy c_tuple rfl b.f_tuple bt_tuple (qa_cons (qv 1) qa_nil)))))), p_falling_18cf⟩
abbrev st_starts_8d16 : Stmt := top 23
theorem sc_starts_8d16 : FnScope ["_law_row_here", "_law_mark", "_law_weight"] ["_law_row_here"] (defScope st_starts_8d16) := ⟨rfl, rfl, rfl, by decide +kernel, rfl, by decide +kernel, by decide +kernel⟩
theorem ok_starts_8d16 {f fd} (b : Bi K mg) (F : Fn K "_law_starts" "_law_starts" st_starts_8d16 f fd) : FnOk P w K mg base CX0 1 f fd ["_law_row_here"] (spP K sp_starts_8d16) :=
  okP F sc_starts_8d16 len_starts_8d16 ⟨t_starts_8d16, fun cdv A outer s H E hr => by
    have nd := sc_starts_8d16.nd
    exact (qss_one (qs_ret (qe_callTy c_tuple rfl b.f_tuple bt_tuple (qa_cons (qe_set (qf_lc rfl nd (qi_seq (qv 0)) (own := [("_law_mark", 1), ("_law_weight", 2)]) (blkOk_by (by kernel_rfl)) (by decide) (fun _ _ _ _ _ => (qg_tup rfl (qgs_cons (qg_name nd rfl (by first | exact Or.inl rfl | exact Or.inr rfl)) (qgs_cons (qg_name nd rfl (by first | exact Or.inl rfl | exact Or.inr rfl)) qgs_nil)))) (fun _ _ _ _ _ => qts_nil) (fun _ _ _ _ _ => (qe_tup (qa_cons qe_int (qa_cons (qe_bin o_mul (qv 1) (qv 2)) (qa_cons (qv 2) qa_nil))))))) qa_nil)))), p_starts_8d16⟩
abbrev st_size_3de8 : Stmt := top 18
theorem sc_size_3de8 : FnScope ["_law_drawn", "_law_great", "_law_few"] ["_law_drawn", "_law_great"] (defScope st_size_3de8) := ⟨rfl, rfl, rfl, by decide +kernel, rfl, by decide +kernel, by decide +kernel⟩
theorem ok_size_3de8 {f fd} {r c q : Addr} (b : Bi K mg) (g_next : ∀ r c q, Glo P w K mg base "_law_next" 2 (spG (gr K r c q) (nextS r)) 1) (F : Fn K "_law_size" "_law_size" st_size_3de8 f fd) : FnOk P w K mg base CX0 2 f fd ["_law_drawn", "_law_great"] (spG (gr K r c q) (sp_size_3de8 r)) :=
  okG (P := P) (w := w) (mg := mg) (base := base) (G := gr K r c q) (k := 1) rfl F sc_size_3de8 (len_size_3de8 r) ⟨t_size_3de8 r, fun cdv A outer s H E hr => by
    have nd := sc_size_3de8.nd
    exact (qss_cons (qs_set (i := 2) nd rfl (by first | exact Or.inl rfl | exact Or.inr rfl) (qe_callG ((g_next _ _ _).at hr (by decide)) rfl (qa_cons (qv 0) (qa_cons (qe_bin o_add (qe_callB (c_min2 rfl) rfl b.f_min bt_min (qa_cons (qv 1) (qa_cons qe_int qa_nil))) qe_int) qa_nil))))
    (qss_one (qs_ret (qe_ix (qe_set (qf_lst (qa_cons (qv 2) (qa_cons (qe_bin o_sub (qv 1) (qv 2)) (qa_cons (qe_callG ((g_next _ _ _).at hr (by decide)) rfl (qa_cons (qv 0) (qa_cons (qe_bin o_add (qv 1) qe_int) qa_nil))) qa_nil))))) (qe_callG ((g_next _ _ _).at hr (by decide)) rfl (qa_cons (qv 0) (qa_cons qe_int qa_nil))))))), p_size_3de8 r⟩ (fun _ _ _ h => h)
abbrev st_blocks_fec5 : Stmt := top 22
theorem sc_blocks_fec5 : FnScope ["_law_drawn", "_law_most", "_law_found", "_law_k", "_law_great", "_law_size_here", "_law_weight", "_law_block", "_law_factor"] ["_law_drawn", "_law_most"] (defScope st_blocks_fec5) := ⟨rfl, rfl, rfl, by decide +kernel, rfl, by decide +kernel, by decide +kernel⟩
theorem ok_blocks_fec5 {f fd} {r c q : Addr} (b : Bi K mg) (g_next : ∀ r c q, Glo P w K mg base "_law_next" 2 (spG (gr K r c q) (nextS r)) 1) (g_size_3de8 : ∀ r c q, Glo P w K mg base "_law_size" 2 (spG (gr K r c q) (sp_size_3de8 r)) 2) (F : Fn K "_law_blocks" "_law_blocks" st_blocks_fec5 f fd) : FnOk P w K mg base CX0 3 f fd ["_law_drawn", "_law_most"] (spG (gr K r c q) (sp_blocks_fec5 r)) :=
  okG (P := P) (w := w) (mg := mg) (base := base) (G := gr K r c q) (k := 2) rfl F sc_blocks_fec5 (len_blocks_fec5 r) ⟨t_blocks_fec5 r, fun cdv A outer s H E hr => by
    have nd := sc_blocks_fec5.nd
    exact (qss_cons (qs_setOwn (i := 2) nd rfl (by first | exact Or.inl rfl | exact Or.inr rfl) (qf_lst qa_nil))
    (qss_cons (qs_for PassesOwn.never rfl (qi_range1 rfl b.f_range (qa_cons (qe_bin o_add qe_int (qe_callG ((g_next _ _ _).at hr (by decide)) rfl (qa_cons (qv 0) (qa_cons (qv 1) qa_nil)))) qa_nil)) (qg_name nd rfl (by first | exact Or.inl rfl | exact Or.inr rfl)) (qss_cons (qs_set (i := 4) nd rfl (by first | exact Or.inl rfl | exact Or.inr rfl) (qe_ix (qe_set (qf_lst (qa_cons qe_int (qa_cons (qe_bin o_pow qe_int qe_int) (qa_cons (qe_bin o_pow qe_int qe_int) qa_nil))))) (qe_callG ((g_next _ _ _).at hr (by decide)) rfl (qa_cons (qv 0) (qa_cons qe_int qa_nil)))))
    (qss_cons (qs_par rfl nd rfl rfl (by decide) rfl rfl (qa_cons (qe_bin o_add qe_int (qe_callG ((g_size_3de8 _ _ _).at hr (by decide)) rfl (qa_cons (qv 0) (qa_cons (qe_bin o_sub (qv 4) qe_int) qa_nil)))) (qa_cons (qe_bin o_add qe_int (qe_callG ((g_size_3de8 _ _ _).at hr (by decide)) rfl (qa_cons (qv 0) (qa_cons (qe_bin o_sub (qv 4) qe_int) qa_nil)))) qa_nil)) rfl)
    (qss_cons (qs_set (i := 7) nd rfl (by first | exact Or.inl rfl | exact Or.inr rfl) (qe_tup (qa_cons (qv 5) (qa_cons (qe_bin o_sub (qe_callG ((g_size_3de8 _ _ _).at hr (by decide)) rfl (qa_cons (qv 0) (qa_cons (qe_bin o_mul qe_int (qv 4)) qa_nil))) (qv 4)) (qa_cons (qv 6) qa_nil)))))
    (qss_cons (qs_set (i := 8) nd rfl (by first | exact Or.inl rfl | exact Or.inr rfl) (qe_bin o_add qe_int (qe_callG ((g_next _ _ _).at hr (by decide)) rfl (qa_cons (qv 0) (qa_cons qe_int qa_nil)))))
    (qss_cons (qs_if (PW.pt (qw_and (qt_cmpN1 (b_ne hr) (pv 2) (qe_set (qf_lst qa_nil)) (nomark _)) (qw_and (qt_cmp (o_eq hr) (qe_callG ((g_next _ _ _).at hr (by decide)) rfl (qa_cons (qv 0) (qa_cons qe_int qa_nil))) qe_int (nomark _)) (qw_and1 (qt_cmp o_lt (qe_callB (c_max2 rfl) rfl b.f_max bt_max (qa_cons (qe_ix (qe_ixN (pv 2) (qe_un o_neg qe_int)) qe_int) (qa_cons (qe_callB c_abs rfl b.f_abs bt_abs (qa_cons (qe_ix (qe_ixN (pv 2) (qe_un o_neg qe_int)) qe_int) qa_nil)) qa_nil))) (qe_bin o_pow qe_int qe_int) (nomark _)))))) (qss_one (qs_set (i := 7) nd rfl (by first | exact Or.inl rfl | exact Or.inr rfl) (qe_tup (qa_cons (qv 5) (qa_cons (qe_bin o_mul (qe_ix (qe_ixN (pv 2) (qe_un o_neg qe_int)) qe_int) (qv 8)) (qa_cons (qe_bin o_mul (qe_ix (qe_ixN (pv 2) (qe_un o_neg qe_int)) qe_int) (qv 8)) qa_nil)))))) qss_nil)
    (qss_one (qs_expr (qe_append (pv 2) (qv 7))))))))))
    (qss_one (qs_ret (qe_callTy c_tuple rfl b.f_tuple bt_tuple (qa_cons (qv 2) qa_nil)))))), p_blocks_fec5 r⟩ (fun _ _ _ h => h)
abbrev st_merged_64ee : Stmt := top 25
theorem sc_merged_64ee : FnScope ["_law_blocks_here", "_law_index", "_law_one_here", "_law_other", "_law_both", "_law_k"] ["_law_blocks_here", "_law_index"] (defScope st_merged_64ee) := ⟨rfl, rfl, rfl, by decide +kernel, rfl, by decide +kernel, by decide +kernel⟩
theorem ok_merged_64ee {f fd} (b : Bi K mg) (F : Fn K "_law_merged" "_law_merged" st_merged_64ee f fd) : FnOk P w K mg base CX0 1 f fd ["_law_blocks_here", "_law_index"] (spP K sp_merged_64ee) :=
  okP F sc_merged_64ee len_merged_64ee ⟨t_merged_64ee, fun cdv A outer s H E hr => by
    have nd := sc_merged_64ee.nd
    exact (qss_cons (qs_setT (qe_tup (qa_cons (qe_ix (qv 0) (qv 1)) (qa_cons (qe_ix (qv 0) (qe_bin o_add (qv 1) qe_int)) qa_nil))) (qg_tup rfl (qgs_cons (qg_name nd rfl (by first | exact Or.inl rfl | exact Or.inr rfl)) (qgs_cons (qg_name nd rfl (by first | exact Or.inl rfl | exact Or.inr rfl)) qgs_nil))))
    (qss_cons (qs_set (i := 4) nd rfl (by first | exact Or.inl rfl | exact Or.inr rfl) (qe_callTy c_tuple rfl b.f_tuple bt_tuple (qa_cons (qe_set (qf_lc rfl nd (qi_range1 rfl b.f_range (qa_cons qe_int qa_nil)) (own := [("_law_k", 5)]) (blkOk_by (by kernel_rfl)) (by decide) (fun _ _ _ _ _ => (qg_name nd rfl (by first | exact Or.inl rfl | exact Or.inr rfl))) (fun _ _ _ _ _ => qts_nil) (fun _ _ _ _ _ => (qe_bin o_add (qe_ix (qv 2) (qv 5)) (qe_ix (qv 3) (qv 5)))))) qa_nil)))
    (qss_one (qs_ret (qe_bin o_add (qe_bin o_add (qe_slice (qv 0) qo_none (qo_some (qv 1))) (qe_tup (qa_cons (qv 4) qa_nil))) (qe_slice (qv 0) (qo_some (qe_bin o_add (qv 1) qe_int)) qo_none)))))), p_merged_64ee⟩
abbrev st_is_integer_8a5f : Stmt := top 7
theorem sc_is_integer_8a5f : FnScope ["value"] ["value"] (defScope st_is_integer_8a5f) := ⟨rfl, rfl, rfl, by decide +kernel, rfl, by decide +kernel, by decide +kernel⟩
theorem ok_is_integer_8a5f {f fd} (b : Bi K mg) (F : Fn K "is_integer" "is_integer" st_is_integer_8a5f f fd) : FnOk P w K mg base CX0 1 f fd ["value"] (spP K sp_is_integer_8a5f) :=
  okP F sc_is_integer_8a5f len_is_integer_8a5f ⟨t_is_integer_8a5f, fun cdv A outer s H E hr => by
    have nd := sc_is_integer_8a5f.nd
    exact (qss_one (qs_ret (qe_and (qe_isi (by decide) (qv 0) rfl b.f_isinstance rfl b.f_int bt_int) (qe_one (qe_not (qe_isi (by decide) (qv 0) rfl b.f_isinstance rfl b.f_bool bt_bool)))))), p_is_integer_8a5f⟩
abbrev st_is_falling_c091 : Stmt := top 9
theorem sc_is_falling_c091 : FnScope ["one", "other"] ["one", "other"] (defScope st_is_falling_c091) := ⟨rfl, rfl, rfl, by decide +kernel, rfl, by decide +kernel, by decide +kernel⟩
theorem ok_is_falling_c091 {f fd} (b : Bi K mg) (F : Fn K "is_falling" "is_falling" st_is_falling_c091 f fd) : FnOk P w K mg base CX0 1 f fd ["one", "other"] (spP K sp_is_falling_c091) :=
  okP F sc_is_falling_c091 len_is_falling_c091 ⟨t_is_falling_c091, fun cdv A outer s H E hr => by
    have nd := sc_is_falling_c091.nd
    exact (qss_one (qs_ret (qe_cmp o_gt (qe_bin o_mul (qe_ix (qv 0) qe_int) (qe_ix (qv 1) qe_int)) (qe_bin o_mul (qe_ix (qv 1) qe_int) (qe_ix (qv 0) qe_int)) (nomark _)))), p_is_falling_c091⟩
abbrev st_falling_places_f120 : Stmt := top 10
theorem sc_falling_places_f120 : FnScope ["blocks", "index"] ["blocks"] (defScope st_falling_places_f120) := ⟨rfl, rfl, rfl, by decide +kernel, rfl, by decide +kernel, by decide +kernel⟩
theorem ok_falling_places_f120 {f fd} (b : Bi K mg) (g_is_falling_c091 : Glo P w K mg base "is_falling" 2 (spP K (sp_is_falling_c091)) 1) (F : Fn K "falling_places" "falling_places" st_falling_places_f120 f fd) : FnOk P w K mg base CX0 2 f fd ["blocks"] (spP K sp_falling_places_f120) :=
  okP F sc_falling_places_f120 len_falling_places_f120 ⟨t_falling_places_f120, fun cdv A outer s H E hr => by
    have nd := sc_falling_places_f120.nd
    exact (qss_one (qs_ret (qe_callTy c_tuple rfl b.f_tuple bt_tuple (qa_cons (qe_set (qf_lc rfl nd (qi_range1 rfl b.f_range (qa_cons (qe_bin o_sub (qe_callB c_len rfl b.f_len bt_len (qa_cons (qv 0) qa_nil)) qe_int) qa_nil)) (own := [("index", 1)]) (blkOk_by (by kernel_rfl)) (by decide) (fun _ _ _ _ _ => (qg_name nd rfl (by first | exact Or.inl rfl | exact Or.inr rfl))) (fun _ _ _ _ _ => (qts_one (qt_val (qe_call (g_is_falling_c091.at hr (by decide)) rfl (qa_cons (qe_ix (qv 0) (qv 1)) (qa_cons (qe_ix (qv 0) (qe_bin o_add (qv 1) qe_int)) qa_nil)))))) (fun _ _ _ _ _ => (qv 1)))) qa_nil)))), p_falling_places_f120⟩
abbrev st_merged_e28f : Stmt := top 11
theorem sc_merged_e28f : FnScope ["one", "other"] ["one", "other"] (defScope st_merged_e28f) := ⟨rfl, rfl, rfl, by decide +kernel, rfl, by decide +kernel, by decide +kernel⟩
theorem ok_merged_e28f {f fd} (b : Bi K mg) (F : Fn K "merged" "merged" st_merged_e28f f fd) : FnOk P w K mg base CX0 1 f fd ["one", "other"] (spP K sp_merged_e28f) :=
  okP F sc_merged_e28f len_merged_e28f ⟨t_merged_e28f, fun cdv A outer s H E hr => by
    have nd := sc_merged_e28f.nd
    exact (qss_one (qs_ret (qe_tup (qa_cons (qe_bin o_add (qe_ix (qv 0) qe_int) (qe_ix (qv 1) qe_int)) (qa_cons (qe_bin o_add (qe_ix (qv 0) qe_int) (qe_ix (qv 1) qe_int)) (qa_cons (qe_bin o_add (qe_ix (qv 0) qe_int) (qe_ix (qv 1) qe_int)) qa_nil)))))), p_merged_e28f⟩
abbrev st_merge_blocks_e278x : Stmt := top 12
theorem sc_merge_blocks_e278x : FnScope ["blocks", "index"] ["blocks", "index"] (defScope st_merge_blocks_e278x) := ⟨rfl, rfl, rfl, by decide +kernel, rfl, by decide +kernel, by decide +kernel⟩
theorem ok_merge_blocks_e278x {f fd} (b : Bi K mg) (g_is_integer_8a5f : Glo P w K mg base "is_integer" 1 (spP K (sp_is_integer_8a5f)) 1) (g_falling_places_f120 : Glo P w K mg base "falling_places" 1 (spP K (sp_falling_places_f120)) 2) (g_merged_e28f : Glo P w K mg base "merged" 2 (spP K (sp_merged_e28f)) 1) (i_NotFalling : GloI P w K mg base "NotFalling" "index") (F : Fn K "merge_blocks" "merge_blocks" st_merge_blocks_e278x f fd) : FnOk P w K mg base (L2.CX P w) 3 f fd ["blocks", "index"] (spPX K mg sp_merge_blocks_e278x) :=
  okPX F sc_merge_blocks_e278x len_merge_blocks_e278x ⟨t_merge_blocks_e278x, fun cdv A outer s H E hr => by
    have nd := sc_merge_blocks_e278x.nd
    exact (qssx_cons (qsx_if (PW.pt (qw_or (qt_not (qt_val (qe_call (g_is_integer_8a5f.at hr (by decide)) rfl (qa_cons (qv 1) qa_nil)))) (qw_and1 (qt_cmp (o_notIn hr) (qv 1) (qe_call (g_falling_places_f120.at hr (by decide)) rfl (qa_cons (qv 0) qa_nil)) (by rfl))))) (qssx_one (qsx_raiseF rfl (takes_of rfl rfl rfl rfl) (i_NotFalling.at hr (by decide)) rfl (qv 1))) (qssx_of qss_nil))
    (qssx_of (qss_one (qs_ret (qe_bin o_add (qe_bin o_add (qe_slice (qv 0) qo_none (qo_some (qv 1))) (qe_tup (qa_cons (qe_call (g_merged_e28f.at hr (by decide)) rfl (qa_cons (qe_ix (qv 0) (qv 1)) (qa_cons (qe_ix (qv 0) (qe_bin o_add (qv 1) qe_int)) qa_nil))) qa_nil))) (qe_slice (qv 0) (qo_some (qe_bin o_add (qv 1) qe_int)) qo_none)))))), p_merge_blocks_e278x⟩
abbrev st_items_cafd : Stmt := top 20
theorem sc_items_cafd : FnScope ["_law_drawn", "_law_count", "_law_great", "_law_heavy", "_law_found", "_law_k"] ["_law_drawn", "_law_count"] (defScope st_items_cafd) := ⟨rfl, rfl, rfl, by decide +kernel, rfl, by decide +kernel, by decide +kernel⟩
theorem ok_items_cafd {f fd} {r c q : Addr} (b : Bi K mg) (g_next : ∀ r c q, Glo P w K mg base "_law_next" 2 (spG (gr K r c q) (nextS r)) 1) (g_size_3de8 : ∀ r c q, Glo P w K mg base "_law_size" 2 (spG (gr K r c q) (sp_size_3de8 r)) 2) (F : Fn K "_law_items" "_law_items" st_items_cafd f fd) : FnOk P w K mg base CX0 3 f fd ["_law_drawn", "_law_count"] (spG (gr K r c q) (sp_items_cafd r)) :=
  okG (P := P) (w := w) (mg := mg) (base := base) (G := gr K r c q) (k := 2) rfl F sc_items_cafd (len_items_cafd r) ⟨t_items_cafd r, fun cdv A outer s H E hr => by
    have nd := sc_items_cafd.nd
    exact (qss_cons (qs_set (i := 2) nd rfl (by first | exact Or.inl rfl | exact Or.inr rfl) (qe_ix (qe_set (qf_lst (qa_cons qe_int (qa_cons qe_int (qa_cons (qe_bin o_pow qe_int qe_int) qa_nil))))) (qe_callG ((g_next _ _ _).at hr (by decide)) rfl (qa_cons (qv 0) (qa_cons qe_int qa_nil)))))
    (qss_cons (qs_set (i := 3) nd rfl (by first | exact Or.inl rfl | exact Or.inr rfl) (qe_ix (qe_set (qf_lst (qa_cons qe_int (qa_cons qe_int (qa_cons (qe_bin o_pow qe_int qe_int) qa_nil))))) (qe_callG ((g_next _ _ _).at hr (by decide)) rfl (qa_cons (qv 0) (qa_cons qe_int qa_nil)))))
    (qss_cons (qs_setOwn (i := 4) nd rfl (by first | exact Or.inl rfl | exact Or.inr rfl) (qf_lst qa_nil))
    (qss_cons (qs_for PassesOwn.never rfl (qi_range1 rfl b.f_range (qa_cons (qv 1) qa_nil)) (qg_name nd rfl (by first | exact Or.inl rfl | exact Or.inr rfl)) (qss_one (qs_expr (qe_append (pv 4) (qe_tup (qa_cons (qe_bin o_sub (qe_callG ((g_size_3de8 _ _ _).at hr (by decide)) rfl (qa_cons (qv 0) (qa_cons (qe_bin o_mul qe_int (qv 2)) qa_nil))) (qv 2)) (qa_cons (qe_bin o_add qe_int (qe_callG ((g_size_3de8 _ _ _).at hr (by decide)) rfl (qa_cons (qv 0) (qa_cons (qe_bin o_sub (qv 3) qe_int) qa_nil)))) qa_nil)))))))
    (qss_one (qs_ret (qe_callTy c_tuple rfl b.f_tuple bt_tuple (qa_cons (qv 4) qa_nil)))))))), p_items_cafd r⟩ (fun _ _ _ h => h)
abbrev st_row_75d3 : Stmt := top 21
theorem sc_row_75d3 : FnScope ["_law_drawn", "_law_most", "_law_items_here", "_law_way", "_law_mark", "_law_weight"] ["_law_drawn", "_law_most"] (defScope st_row_75d3) := ⟨rfl, rfl, rfl, by decide +kernel, rfl, by decide +kernel, by decide +kernel⟩
theorem ok_row_75d3 {f fd} {r c q : Addr} (b : Bi K mg) (g_items_cafd : ∀ r c q, Glo P w K mg base "_law_items" 2 (spG (gr K r c q) (sp_items_cafd r)) 3) (g_next : ∀ r c q, Glo P w K mg base "_law_next" 2 (spG (gr K r c q) (nextS r)) 1) (F : Fn K "_law_row" "_law_row" st_row_75d3 f fd) : FnOk P w K mg base CX0 4 f fd ["_law_drawn", "_law_most"] (spG (gr K r c q) (sp_row_75d3 r)) :=
  okG (P := P) (w := w) (mg := mg) (base := base) (G := gr K r c q) (k := 3) rfl F sc_row_75d3 (len_row_75d3 r) ⟨t_row_75d3 r, fun cdv A outer s H E hr => by
    have nd := sc_row_75d3.nd
    exact (qss_cons (qs_set (i := 2) nd rfl (by first | exact Or.inl rfl | exact Or.inr rfl) (qe_callG ((g_items_cafd _ _ _).at hr (by decide)) rfl (qa_cons (qv 0) (qa_cons (qe_bin o_add qe_int (qe_callG ((g_next _ _ _).at hr (by decide)) rfl (qa_cons (qv 0) (qa_cons (qv 1) qa_nil)))) qa_nil))))
    (qss_cons (qs_set (i := 3) nd rfl (by first | exact Or.inl rfl | exact Or.inr rfl) (qe_callG ((g_next _ _ _).at hr (by decide)) rfl (qa_cons (qv 0) (qa_cons qe_int qa_nil))))
    (qss_cons (qs_if (qt_cmp (o_eq hr) (qv 3) qe_int (nomark _)) (qss_one (qs_set (i := 2) nd rfl (by first | exact Or.inl rfl | exact Or.inr rfl) (qe_callTy c_tuple rfl b.f_tuple bt_tuple (qa_cons (qe_set (qf_callB c_sortedP rfl b.f_sorted bt_sorted (qa_cons (qv 2) qa_nil))) qa_nil)))) qss_nil)
    (qss_cons (qs_if (qt_cmp (o_eq hr) (qv 3) qe_int (nomark _)) (qss_one (qs_set (i := 2) nd rfl (by first | exact Or.inl rfl | exact Or.inr rfl) (qe_callTy c_tuple rfl b.f_tuple bt_tuple (qa_cons (qe_step (qe_set (qf_callB c_sortedP rfl b.f_sorted bt_sorted (qa_cons (qv 2) qa_nil))) (qe_un o_neg qe_int)) qa_nil)))) qss_nil)
    (qss_cons (qs_if (qt_cmp (o_eq hr) (qv 3) qe_int (nomark _)) (qss_one (qs_set (i := 2) nd rfl (by first | exact Or.inl rfl | exact Or.inr rfl) (qe_callTy c_tuple rfl b.f_tuple bt_tuple (qa_cons (qe_set (qf_lc rfl nd (qi_seq (qv 2)) (own := [("_law_mark", 4), ("_law_weight", 5)]) (blkOk_by (by kernel_rfl)) (by decide) (fun _ _ _ _ _ => (qg_tup rfl (qgs_cons (qg_name nd rfl (by first | exact Or.inl rfl | exact Or.inr rfl)) (qgs_cons (qg_name nd rfl (by first | exact Or.inl rfl | exact Or.inr rfl)) qgs_nil)))) (fun _ _ _ _ _ => qts_nil) (fun _ _ _ _ _ => (qe_tup (qa_cons (qe_bin o_mod (qv 4) qe_int) (qa_cons (qv 5) qa_nil)))))) qa_nil)))) qss_nil)
    (qss_one (qs_ret (qv 2)))))))), p_row_75d3 r⟩ (fun _ _ _ h => h)
abbrev st_integer_3c56 : Stmt := top 17
theorem sc_integer_3c56 : FnScope ["_law_value", "_law_low", "_law_high"] ["_law_value", "_law_low", "_law_high"] (defScope st_integer_3c56) := ⟨rfl, rfl, rfl, by decide +kernel, rfl, by decide +kernel, by decide +kernel⟩
theorem ok_integer_3c56 {f fd} (b : Bi K mg) (F : Fn K "_law_integer" "_law_integer" st_integer_3c56 f fd) : FnOk P w K mg base CX0 1 f fd ["_law_value", "_law_low", "_law_high"] (spP K sp_integer_3c56) :=
  okP F sc_integer_3c56 len_integer_3c56 ⟨t_integer_3c56, fun cdv A outer s H E hr => by
    have nd := sc_integer_3c56.nd
    exact (qss_one (qs_ret (qe_and (qe_isi (by decide) (qv 0) rfl b.f_isinstance rfl b.f_int bt_int) (qe_and (qe_not (qe_isi (by decide) (qv 0) rfl b.f_isinstance rfl b.f_bool bt_bool)) (qe_one (qe_chain o_le o_le (qv 1) (qv 0) (qv 2))))))), p_integer_3c56⟩
abbrev st_told_c016 : Stmt := top 26
theorem sc_told_c016 : FnScope ["_law_blocks_here", "_law_index", "error", "_law_alone"] ["_law_blocks_here", "_law_index"] (defScope st_told_c016) := ⟨rfl, rfl, rfl, by decide +kernel, rfl, by decide +kernel, by decide +kernel⟩
theorem ok_told_c016 {f fd} (b : Bi K mg) (g_merge_blocks_e278x : GloX P w K mg base "merge_blocks" 2 (spPX K mg (sp_merge_blocks_e278x)) 3) (F : Fn K "_law_told" "_law_told" st_told_c016 f fd) : FnOk P w K mg base CX0 4 f fd ["_law_blocks_here", "_law_index"] (spP K sp_told_c016) :=
  okP F sc_told_c016 len_told_c016 ⟨t_told_c016, fun cdv A outer s H E hr => by
    have nd := sc_told_c016.nd
    exact (qss_one (qs_tryAs (f := lookT [("NotFalling", "NotFalling", true)]) rfl rfl nd rfl rfl (fun _ => rfl) rfl (lookT_ok b.exc.sub (by decide)) ⟨"NotFalling", rfl⟩ (fun W pn xe tk po => (qssx_one (qsx_ret (qex_lst1 (qex_call (g_merge_blocks_e278x.at hr (by decide)) tk rfl (qa_cons (qv 0) (qa_cons (qv 1) qa_nil))))))) (fun a oe cls d pn Z0 x hx => (qss_cons (qs_set (i := 3) nd rfl (by first | exact Or.inl rfl | exact Or.inr rfl) (qe_and (qe_isE1 hx (sub_all b.exc.xq (by decide)) (lookT_ok b.exc.sub (by decide)) (pv 2) rfl b.f_isinstance ⟨"NotFalling", true, rfl⟩ rfl) (qe_one (qe_isE1 hx (sub_all b.exc.xq (by decide)) (lookT_ok b.exc.sub (by decide)) (pv 2) rfl b.f_isinstance ⟨"NotFalling", true, rfl⟩ rfl))))
    (qss_one (qs_ret (qe_set (qf_lst (qa_cons qe_str (qa_cons (qe_and (qv 3) (qe_one (qe_not (qe_isET hx (sub_all b.exc.xq (by decide)) (lookT_ok b.exc.sub (by decide)) (pv 2) rfl b.f_isinstance (clsA_cons rfl (lookT_ok b.exc.sub (l := [("NotFalling", "Full", false), ("NotFalling", "LastItem", false), ("NotFalling", "OutOfRange", false)]) (by decide)) ⟨"NotFalling", false, rfl⟩ (clsA_cons rfl (lookT_ok b.exc.sub (l := [("NotFalling", "Full", false), ("NotFalling", "LastItem", false), ("NotFalling", "OutOfRange", false)]) (by decide)) ⟨"NotFalling", false, rfl⟩ (clsA_cons rfl (lookT_ok b.exc.sub (l := [("NotFalling", "Full", false), ("NotFalling", "LastItem", false), ("NotFalling", "OutOfRange", false)]) (by decide)) ⟨"NotFalling", false, rfl⟩ (clsA_nil)))) (by decide))))) (qa_cons (qe_xf hx (sub_all b.exc.xf (by decide)) (pv 2)) qa_nil))))))))))), p_told_c016⟩
abbrev st_right_32d7 : Stmt := top 27
theorem sc_right_32d7 : FnScope ["_law_blocks_here", "_law_index", "_law_due"] ["_law_blocks_here", "_law_index"] (defScope st_right_32d7) := ⟨rfl, rfl, rfl, by decide +kernel, rfl, by decide +kernel, by decide +kernel⟩
theorem ok_right_32d7 {f fd} (b : Bi K mg) (g_integer_3c56 : Glo P w K mg base "_law_integer" 3 (spP K (sp_integer_3c56)) 1) (g_falling_18cf : Glo P w K mg base "_law_falling" 1 (spP K (sp_falling_18cf)) 1) (g_merged_64ee : Glo P w K mg base "_law_merged" 2 (spP K (sp_merged_64ee)) 1) (g_told_c016 : Glo P w K mg base "_law_told" 2 (spP K (sp_told_c016)) 4) (F : Fn K "_law_right" "_law_right" st_right_32d7 f fd) : FnG P w K mg base 5 f fd ["_law_blocks_here", "_law_index"] (spP K sp_right_32d7) :=
  okPS (P := P) (w := w) (mg := mg) (base := base) (k := 4) F sc_right_32d7 len_right_32d7 ⟨t_right_32d7, fun cdv A outer s H E hr gd => by
    have nd := sc_right_32d7.nd
    exact (qss_cons (qs_set (i := 2) nd rfl (by first | exact Or.inl rfl | exact Or.inr rfl) (qe_set (qf_lst (qa_cons qe_str (qa_cons qe_bl (qa_cons (qv 1) qa_nil))))))
    (qss_cons (qs_if (PW.pt (qw_and (qt_val (qe_call (g_integer_3c56.at hr (by decide)) rfl (qa_cons (qv 1) (qa_cons qe_int (qa_cons (qe_callB c_len rfl b.f_len bt_len (qa_cons (qv 0) qa_nil)) qa_nil))))) (qw_and1 (qt_cmp (o_in hr) (qv 1) (qe_call (g_falling_18cf.at hr (by decide)) rfl (qa_cons (qv 0) qa_nil)) (by rfl))))) (qss_one (qs_set (i := 2) nd rfl (by first | exact Or.inl rfl | exact Or.inr rfl) (qe_set (qf_lst (qa_cons (qe_call (g_merged_64ee.at hr (by decide)) rfl (qa_cons (qv 0) (qa_cons (qv 1) qa_nil))) qa_nil))))) qss_nil)
    (qss_one (qs_ret (qe_cmp (o_eq hr) (qe_callB (c_reprZ b.sys hr gd) rfl b.f_repr bt_repr (qa_cons (qe_call (g_told_c016.at hr (by decide)) rfl (qa_cons (qv 0) (qa_cons (qv 1) qa_nil))) qa_nil)) (qe_callB (c_reprZ b.sys hr gd) rfl b.f_repr bt_repr (qa_cons (qv 2) qa_nil)) (nomark _)))))), p_right_32d7⟩
abbrev st_law_3048 : Stmt := top 28
theorem sc_law_3048 : FnScope ["_law_script", "_law_drawn", "_law_turn", "_law_blocks_here", "_law_kept", "_law_odd_here", "_law_index", "_law_again", "_law_places", "_law_due"] ["_law_script"] (defScope st_law_3048) := ⟨rfl, rfl, rfl, by decide +kernel, rfl, by decide +kernel, by decide +kernel⟩
theorem ok_law_3048 {f fd} (b : Bi K mg) (g_draws : Glo P w K mg base "_law_draws" 1 (spDraws K) 1) (g_odd_a635 : ∀ r c q, Glo P w K mg base "_law_odd" 1 (spG (gr K r c q) (sp_odd_a635 r)) 3) (g_falling_18cf : Glo P w K mg base "_law_falling" 1 (spP K (sp_falling_18cf)) 1) (g_starts_8d16 : Glo P w K mg base "_law_starts" 1 (spP K (sp_starts_8d16)) 1) (g_blocks_fec5 : ∀ r c q, Glo P w K mg base "_law_blocks" 2 (spG (gr K r c q) (sp_blocks_fec5 r)) 3) (g_one_be76 : ∀ r c q, Glo P w K mg base "_law_one" 2 (spG (gr K r c q) (sp_one_be76 r)) 2) (g_merged_64ee : Glo P w K mg base "_law_merged" 2 (spP K (sp_merged_64ee)) 1) (g_merge_blocks_e278x : GloX P w K mg base "merge_blocks" 2 (spPX K mg (sp_merge_blocks_e278x)) 3) (g_row_75d3 : ∀ r c q, Glo P w K mg base "_law_row" 2 (spG (gr K r c q) (sp_row_75d3 r)) 4) (g_right_32d7 : GloS P w K mg base "_law_right" 2 (spP K (sp_right_32d7)) 5) (F : Fn K "law" "law" st_law_3048 f fd) : FnG P w K mg base 6 f fd ["_law_script"] (spLaw K) :=
  ok_lawG F sc_law_3048 (i := 1) (by decide) (by rfl) ⟨t_law_3048, fun cdv A outer s H E hr gd => by
    have nd := sc_law_3048.nd
    exact ⟨ps_set nd rfl (by first | exact Or.inl rfl | exact Or.inr rfl) (pe_callD (g_draws.at hr (by decide)) rfl (pa_cons (pv 0) pa_nil)), fun r c q => (qss_cons (qs_for PassesOwn.never rfl (qi_range1 rfl b.f_range (qa_cons qe_int qa_nil)) (qg_name nd rfl (by first | exact Or.inl rfl | exact Or.inr rfl)) (qss_cons (qs_set (i := 3) nd rfl (by first | exact Or.inl rfl | exact Or.inr rfl) (qe_ix (qe_set (qf_lst (qa_cons (qe_call (g_starts_8d16.at hr (by decide)) rfl (qa_cons (qe_callG ((g_row_75d3 _ _ _).at hr (by decide)) rfl (qa_cons (qv 1) (qa_cons qe_int qa_nil))) qa_nil)) (qa_cons (qe_callG ((g_blocks_fec5 _ _ _).at hr (by decide)) rfl (qa_cons (qv 1) (qa_cons qe_int qa_nil))) qa_nil)))) (qe_bin o_mod (qv 2) qe_int)))
    (qss_cons (qs_set (i := 4) nd rfl (by first | exact Or.inl rfl | exact Or.inr rfl) (qe_callB (c_reprZ b.sys hr gd) rfl b.f_repr bt_repr (qa_cons (qv 3) qa_nil)))
    (qss_cons (qs_set (i := 5) nd rfl (by first | exact Or.inl rfl | exact Or.inr rfl) (qe_set (qf_lst (qa_cons qe_bl (qa_cons qe_bl (qa_cons qe_non (qa_cons qe_str (qa_cons (qe_tup (qa_cons qe_int qa_nil)) (qa_cons (qe_set (qf_lst (qa_cons qe_int qa_nil))) (qa_cons qe_dict0 (qa_cons (qe_bin o_pow qe_int qe_int) (qa_cons (qe_un o_neg qe_int) (qa_cons (qe_callG ((g_odd_a635 _ _ _).at hr (by decide)) rfl (qa_cons (qv 1) qa_nil)) qa_nil)))))))))))))
    (qss_cons (qs_for PassesOwn.never rfl (qi_seq (qe_bin o_add (qe_set (qf_lstRg1 rfl rfl b.f_list rfl b.f_range (qe_bin o_add (qe_callB c_len rfl b.f_len bt_len (qa_cons (qv 3) qa_nil)) qe_int))) (qv 5))) (qg_name nd rfl (by first | exact Or.inl rfl | exact Or.inr rfl)) (qss_one (qs_if (PW.pt (qw_or (qt_not (qt_val (qe_callPS (g_right_32d7.at hr gd (by decide)) rfl (qa_cons (qv 3) (qa_cons (qv 6) qa_nil))))) (qw_and1 (qt_cmp (o_ne hr) (qe_callB (c_reprZ b.sys hr gd) rfl b.f_repr bt_repr (qa_cons (qv 3) qa_nil)) (qv 4) (nomark _))))) (qss_one (qs_ret qe_bl)) qss_nil)))
    (qss_one (qs_for PassesOwn.never rfl (qi_range1 rfl b.f_range (qa_cons (qe_callB c_len rfl b.f_len bt_len (qa_cons (qv 3) qa_nil)) qa_nil)) (qg_name nd rfl (by first | exact Or.inl rfl | exact Or.inr rfl)) (qss_cons (qs_set (i := 8) nd rfl (by first | exact Or.inl rfl | exact Or.inr rfl) (qe_call (g_falling_18cf.at hr (by decide)) rfl (qa_cons (qv 3) qa_nil)))
    (qss_one (qs_if (qt_cmp (o_ne hr) (qv 8) (qe_tup qa_nil) (nomark _)) (qss_cons (qs_set (i := 6) nd rfl (by first | exact Or.inl rfl | exact Or.inr rfl) (qe_callG ((g_one_be76 _ _ _).at hr (by decide)) rfl (qa_cons (qv 1) (qa_cons (qv 8) qa_nil))))
    (qss_cons (qs_set (i := 9) nd rfl (by first | exact Or.inl rfl | exact Or.inr rfl) (qe_call (g_merged_64ee.at hr (by decide)) rfl (qa_cons (qv 3) (qa_cons (qv 6) qa_nil))))
    (qss_cons (qs_set (i := 3) nd rfl (by first | exact Or.inl rfl | exact Or.inr rfl) (qe_callX (g_merge_blocks_e278x.at hr (by decide)) rfl (qa_cons (qv 3) (qa_cons (qv 6) qa_nil))))
    (qss_one (qs_if (PW.pt (qw_or (qt_cmp (o_ne hr) (qe_callB (c_reprZ b.sys hr gd) rfl b.f_repr bt_repr (qa_cons (qv 3) qa_nil)) (qe_callB (c_reprZ b.sys hr gd) rfl b.f_repr bt_repr (qa_cons (qv 9) qa_nil)) (nomark _)) (qw_and1 (qt_not (qt_val (qe_callPS (g_right_32d7.at hr gd (by decide)) rfl (qa_cons (qv 3) (qa_cons (qe_callB (c_min2 rfl) rfl b.f_min bt_min (qa_cons (qv 6) (qa_cons (qe_bin o_sub (qe_callB c_len rfl b.f_len bt_len (qa_cons (qv 3) qa_nil)) qe_int) qa_nil))) qa_nil)))))))) (qss_one (qs_ret qe_bl)) qss_nil))))) qss_nil))))))))))
    (qss_one (qs_ret qe_bl)))⟩, p_law_3048⟩
end
def d_draws : He.DefD := ⟨("_law_draws", none), "_law_draws", "_law_draws", defArgs st_draws, defBody st_draws, defScope st_draws, [], []⟩
def d_next : He.DefD := ⟨("_law_next", none), "_law_next", "_law_next", defArgs st_next, defBody st_next, defScope st_next, [], []⟩
def d_one_be76 : He.DefD := ⟨("_law_one", none), "_law_one", "_law_one", defArgs st_one_be76, defBody st_one_be76, defScope st_one_be76, [], []⟩
def d_odd_a635 : He.DefD := ⟨("_law_odd", none), "_law_odd", "_law_odd", defArgs st_odd_a635, defBody st_odd_a635, defScope st_odd_a635, [], []⟩
def d_falling_18cf : He.DefD := ⟨("_law_falling", none), "_law_falling", "_law_falling", defArgs st_falling_18cf, defBody st_falling_18cf, defScope st_falling_18cf, [], []⟩
def d_starts_8d16 : He.DefD := ⟨("_law_starts", none), "_law_starts", "_law_starts", defArgs st_starts_8d16, defBody st_starts_8d16, defScope st_starts_8d16, [], []⟩
def d_size_3de8 : He.DefD := ⟨("_law_size", none), "_law_size", "_law_size", defArgs st_size_3de8, defBody st_size_3de8, defScope st_size_3de8, [], []⟩
def d_blocks_fec5 : He.DefD := ⟨("_law_blocks", none), "_law_blocks", "_law_blocks", defArgs st_blocks_fec5, defBody st_blocks_fec5, defScope st_blocks_fec5, [], []⟩
def d_merged_64ee : He.DefD := ⟨("_law_merged", none), "_law_merged", "_law_merged", defArgs st_merged_64ee, defBody st_merged_64ee, defScope st_merged_64ee, [], []⟩
def d_is_integer_8a5f : He.DefD := ⟨("is_integer", none), "is_integer", "is_integer", defArgs st_is_integer_8a5f, defBody st_is_integer_8a5f, defScope st_is_integer_8a5f, [], []⟩
def d_is_falling_c091 : He.DefD := ⟨("is_falling", none), "is_falling", "is_falling", defArgs st_is_falling_c091, defBody st_is_falling_c091, defScope st_is_falling_c091, [], []⟩
def d_falling_places_f120 : He.DefD := ⟨("falling_places", none), "falling_places", "falling_places", defArgs st_falling_places_f120, defBody st_falling_places_f120, defScope st_falling_places_f120, [], []⟩
def d_merged_e28f : He.DefD := ⟨("merged", none), "merged", "merged", defArgs st_merged_e28f, defBody st_merged_e28f, defScope st_merged_e28f, [], []⟩
def d_merge_blocks_e278x : He.DefD := ⟨("merge_blocks", none), "merge_blocks", "merge_blocks", defArgs st_merge_blocks_e278x, defBody st_merge_blocks_e278x, defScope st_merge_blocks_e278x, [], []⟩
def d_items_cafd : He.DefD := ⟨("_law_items", none), "_law_items", "_law_items", defArgs st_items_cafd, defBody st_items_cafd, defScope st_items_cafd, [], []⟩
def d_row_75d3 : He.DefD := ⟨("_law_row", none), "_law_row", "_law_row", defArgs st_row_75d3, defBody st_row_75d3, defScope st_row_75d3, [], []⟩
def d_integer_3c56 : He.DefD := ⟨("_law_integer", none), "_law_integer", "_law_integer", defArgs st_integer_3c56, defBody st_integer_3c56, defScope st_integer_3c56, [], []⟩
def d_told_c016 : He.DefD := ⟨("_law_told", none), "_law_told", "_law_told", defArgs st_told_c016, defBody st_told_c016, defScope st_told_c016, [], []⟩
def d_right_32d7 : He.DefD := ⟨("_law_right", none), "_law_right", "_law_right", defArgs st_right_32d7, defBody st_right_32d7, defScope st_right_32d7, [], []⟩
def d_law_3048 : He.DefD := ⟨("law", none), "law", "law", defArgs st_law_3048, defBody st_law_3048, defScope st_law_3048, [], []⟩
def d_NotFalling : He.DefD := ⟨("NotFalling", some "__init__"), "__init__", "NotFalling.__init__", defArgs st_NotFalling, defBody st_NotFalling, defScope st_NotFalling, [], []⟩
def fnl : List He.DefD := [d_draws, d_next, d_one_be76, d_odd_a635, d_falling_18cf, d_starts_8d16, d_size_3de8, d_blocks_fec5, d_merged_64ee, d_is_integer_8a5f, d_is_falling_c091, d_falling_places_f120, d_merged_e28f, d_merge_blocks_e278x, d_items_cafd, d_row_75d3, d_integer_3c56, d_told_c016, d_right_32d7, d_law_3048, d_NotFalling]
def fal : List He.Fa := [.glo "_law_draws", .glo "_law_next", .glo "_law_one", .glo "_law_odd", .glo "_law_falling", .glo "_law_starts", .glo "_law_size", .glo "_law_blocks", .glo "_law_merged", .glo "is_integer", .glo "is_falling", .glo "falling_places", .glo "merged", .glo "merge_blocks", .glo "_law_items", .glo "_law_row", .glo "_law_integer", .glo "_law_told", .glo "_law_right", .glo "law", .free "abs", .free "bool", .free "int", .free "isinstance", .free "len", .free "list", .free "max", .free "min", .free "range", .free "repr", .free "sorted", .free "tuple"]
abbrev R : PySem.W.OpenRow := PySem.W.OpenLaw.row PySem.Challenge.rw_poolmarks_k54_merged_blocks
def exl (K : PySem.W.Frag) : Bool := sysB K && (excsB K x0L xqL subL xfL && (initB K ("NotFalling", "index") && (true)))
abbrev hk : PySem.W.Hook := hookS 5 fal fnl exl
def ob (s : PySem.W.SharedT) : He.AlD × Bool := obsSG 5 fal fnl exl (HandSHeadRun.getT s)
theorem ob_eq (s : PySem.W.SharedT) : ob s = hk.obs s.abs := obsSG_eq (HandSHeadRun.getT_eq s)
def loose : List PySem.Str := (["MarksError", "Full", "LastItem", "NotFalling", "OutOfRange", "is_integer", "is_falling", "falling_places", "merged", "merge_blocks", "_law_draws", "_law_next", "_law_one", "_law_integer", "_law_size", "_law_odd", "_law_items", "_law_row", "_law_blocks", "_law_starts", "_law_falling", "_law_merged", "_law_told", "_law_right"] : List PySem.Str)
theorem run (w : World) : HandSHeadRun.RunEq R (PySem.W.view R.prog [28]) hk ob 4000 loose w := by
  intro os
  kernel_rfl
theorem facts {P : Program} {w : World} {K : PySem.W.Frag} {h : Heap} {mg : Str → Option Value} {f : Addr} (X : K.In h) (G : h.Ns mainGlobals mg) (hfa : mg ("law" : Str) = some (.ref f)) (c0 : SaysB fal fnl exl K) :
    ∃ fd : FuncData, (∀ (s : Shared) (v : Value), BindsTo s fd ⟨[v], []⟩ [("_law_script", v)]) ∧ ∀ base : Heap, K.In base → base.Ns mainGlobals mg → FnG P w K mg base 6 f fd ["_law_script"] (spLaw K) := by
  have c := c0.d
  have e_0 := c0.own
  have e_1 := (He.ba e_0).2
  have e_2 := (He.ba e_1).2
  have b : Bi K mg := ⟨He.free_ok X G (c.fact 20 (f := .free "abs") rfl), He.free_ok X G (c.fact 21 (f := .free "bool") rfl), He.free_ok X G (c.fact 22 (f := .free "int") rfl), He.free_ok X G (c.fact 23 (f := .free "isinstance") rfl), He.free_ok X G (c.fact 24 (f := .free "len") rfl), He.free_ok X G (c.fact 25 (f := .free "list") rfl), He.free_ok X G (c.fact 26 (f := .free "max") rfl), He.free_ok X G (c.fact 27 (f := .free "min") rfl), He.free_ok X G (c.fact 28 (f := .free "range") rfl), He.free_ok X G (c.fact 29 (f := .free "repr") rfl), He.free_ok X G (c.fact 30 (f := .free "sorted") rfl), He.free_ok X G (c.fact 31 (f := .free "tuple") rfl), (He.ba e_0).1, excs_ok X G (He.ba e_1).1⟩
  obtain ⟨fd_draws, F_draws⟩ := c.def_ 0 (d := d_draws) rfl
  have m_draws := He.glo_ok X G (c.fact 0 (f := .glo "_law_draws") rfl)
  obtain ⟨fd_next, F_next⟩ := c.def_ 1 (d := d_next) rfl
  have m_next := He.glo_ok X G (c.fact 1 (f := .glo "_law_next") rfl)
  obtain ⟨fd_one_be76, F_one_be76⟩ := c.def_ 2 (d := d_one_be76) rfl
  have m_one_be76 := He.glo_ok X G (c.fact 2 (f := .glo "_law_one") rfl)
  obtain ⟨fd_odd_a635, F_odd_a635⟩ := c.def_ 3 (d := d_odd_a635) rfl
  have m_odd_a635 := He.glo_ok X G (c.fact 3 (f := .glo "_law_odd") rfl)
  obtain ⟨fd_falling_18cf, F_falling_18cf⟩ := c.def_ 4 (d := d_falling_18cf) rfl
  have m_falling_18cf := He.glo_ok X G (c.fact 4 (f := .glo "_law_falling") rfl)
  obtain ⟨fd_starts_8d16, F_starts_8d16⟩ := c.def_ 5 (d := d_starts_8d16) rfl
  have m_starts_8d16 := He.glo_ok X G (c.fact 5 (f := .glo "_law_starts") rfl)
  obtain ⟨fd_size_3de8, F_size_3de8⟩ := c.def_ 6 (d := d_size_3de8) rfl
  have m_size_3de8 := He.glo_ok X G (c.fact 6 (f := .glo "_law_size") rfl)
  obtain ⟨fd_blocks_fec5, F_blocks_fec5⟩ := c.def_ 7 (d := d_blocks_fec5) rfl
  have m_blocks_fec5 := He.glo_ok X G (c.fact 7 (f := .glo "_law_blocks") rfl)
  obtain ⟨fd_merged_64ee, F_merged_64ee⟩ := c.def_ 8 (d := d_merged_64ee) rfl
  have m_merged_64ee := He.glo_ok X G (c.fact 8 (f := .glo "_law_merged") rfl)
  obtain ⟨fd_is_integer_8a5f, F_is_integer_8a5f⟩ := c.def_ 9 (d := d_is_integer_8a5f) rfl
  have m_is_integer_8a5f := He.glo_ok X G (c.fact 9 (f := .glo "is_integer") rfl)
  obtain ⟨fd_is_falling_c091, F_is_falling_c091⟩ := c.def_ 10 (d := d_is_falling_c091) rfl
  have m_is_falling_c091 := He.glo_ok X G (c.fact 10 (f := .glo "is_falling") rfl)
  obtain ⟨fd_falling_places_f120, F_falling_places_f120⟩ := c.def_ 11 (d := d_falling_places_f120) rfl
  have m_falling_places_f120 := He.glo_ok X G (c.fact 11 (f := .glo "falling_places") rfl)
  obtain ⟨fd_merged_e28f, F_merged_e28f⟩ := c.def_ 12 (d := d_merged_e28f) rfl
  have m_merged_e28f := He.glo_ok X G (c.fact 12 (f := .glo "merged") rfl)
  obtain ⟨fd_merge_blocks_e278x, F_merge_blocks_e278x⟩ := c.def_ 13 (d := d_merge_blocks_e278x) rfl
  have m_merge_blocks_e278x := He.glo_ok X G (c.fact 13 (f := .glo "merge_blocks") rfl)
  obtain ⟨fd_items_cafd, F_items_cafd⟩ := c.def_ 14 (d := d_items_cafd) rfl
  have m_items_cafd := He.glo_ok X G (c.fact 14 (f := .glo "_law_items") rfl)
  obtain ⟨fd_row_75d3, F_row_75d3⟩ := c.def_ 15 (d := d_row_75d3) rfl
  have m_row_75d3 := He.glo_ok X G (c.fact 15 (f := .glo "_law_row") rfl)
  obtain ⟨fd_integer_3c56, F_integer_3c56⟩ := c.def_ 16 (d := d_integer_3c56) rfl
  have m_integer_3c56 := He.glo_ok X G (c.fact 16 (f := .glo "_law_integer") rfl)
  obtain ⟨fd_told_c016, F_told_c016⟩ := c.def_ 17 (d := d_told_c016) rfl
  have m_told_c016 := He.glo_ok X G (c.fact 17 (f := .glo "_law_told") rfl)
  obtain ⟨fd_right_32d7, F_right_32d7⟩ := c.def_ 18 (d := d_right_32d7) rfl
  have m_right_32d7 := He.glo_ok X G (c.fact 18 (f := .glo "_law_right") rfl)
  obtain ⟨fd_law_3048, F_law_3048⟩ := c.def_ 19 (d := d_law_3048) rfl
  have e := hfa.symm.trans (He.glo_ok X G (c.fact 19 (f := .glo "law") rfl))
  cases e
  have bl := FunD.bindsA (ps := ["_law_script"]) F_law_3048 fun _ _ _ _ _ _ us hl => match us, hl with | [_], _ => rfl
  refine ⟨fd_law_3048, fun s v => bl s [v] rfl, fun base _ _ => ?_⟩
  obtain ⟨fd_NotFalling, F_NotFalling⟩ := c.def_ 20 (d := d_NotFalling) rfl
  have i_NotFalling : GloI P w K mg base "NotFalling" "index" := gloI_ok X G (fd := fd_NotFalling) (ps := ["self", "index"]) (He.ba e_2).1 (fun T no => okInit F_NotFalling sc_NotFalling rfl (by decide) T no fun _ _ _ _ _ _ => pss_one (ps_ost (pv 0) (pv 1))) (FunD.bindsN F_NotFalling fun _ _ _ _ _ _ us hl => match us, hl with | [_, _], _ => rfl)
  have g_draws : Glo P w K mg base "_law_draws" 1 (spDraws K) 1 := ⟨_, fd_draws, ["_law_script"], ok_draws0 b  F_draws, m_draws, FunD.kp F_draws, FunD.bindsN F_draws fun _ _ _ _ _ _ us hl => match us, hl with | [_], _ => rfl, rfl⟩
  have g_next : ∀ r c q, Glo P w K mg base "_law_next" 2 (spG (gr K r c q) (nextS r)) 1 := fun r c q => ⟨_, fd_next, ["_law_drawn", "_law_many"], ok_next0 b  F_next, m_next, FunD.kp F_next, FunD.bindsN F_next fun _ _ _ _ _ _ us hl => match us, hl with | [_, _], _ => rfl, rfl⟩
  have g_one_be76 : ∀ r c q, Glo P w K mg base "_law_one" 2 (spG (gr K r c q) (sp_one_be76 r)) 2 := fun r c q => ⟨_, fd_one_be76, ["_law_drawn", "_law_items_here"], ok_one_be76 b g_next F_one_be76, m_one_be76, FunD.kp F_one_be76, FunD.bindsN F_one_be76 fun _ _ _ _ _ _ us hl => match us, hl with | [_, _], _ => rfl, rfl⟩
  have g_odd_a635 : ∀ r c q, Glo P w K mg base "_law_odd" 1 (spG (gr K r c q) (sp_odd_a635 r)) 3 := fun r c q => ⟨_, fd_odd_a635, ["_law_drawn"], ok_odd_a635 b g_one_be76 F_odd_a635, m_odd_a635, FunD.kp F_odd_a635, FunD.bindsN F_odd_a635 fun _ _ _ _ _ _ us hl => match us, hl with | [_], _ => rfl, rfl⟩
  have g_falling_18cf : Glo P w K mg base "_law_falling" 1 (spP K (sp_falling_18cf)) 1 := ⟨_, fd_falling_18cf, ["_law_blocks_here"], ok_falling_18cf b  F_falling_18cf, m_falling_18cf, FunD.kp F_falling_18cf, FunD.bindsN F_falling_18cf fun _ _ _ _ _ _ us hl => match us, hl with | [_], _ => rfl, rfl⟩
  have g_starts_8d16 : Glo P w K mg base "_law_starts" 1 (spP K (sp_starts_8d16)) 1 := ⟨_, fd_starts_8d16, ["_law_row_here"], ok_starts_8d16 b  F_starts_8d16, m_starts_8d16, FunD.kp F_starts_8d16, FunD.bindsN F_starts_8d16 fun _ _ _ _ _ _ us hl => match us, hl with | [_], _ => rfl, rfl⟩
  have g_size_3de8 : ∀ r c q, Glo P w K mg base "_law_size" 2 (spG (gr K r c q) (sp_size_3de8 r)) 2 := fun r c q => ⟨_, fd_size_3de8, ["_law_drawn", "_law_great"], ok_size_3de8 b g_next F_size_3de8, m_size_3de8, FunD.kp F_size_3de8, FunD.bindsN F_size_3de8 fun _ _ _ _ _ _ us hl => match us, hl with | [_, _], _ => rfl, rfl⟩
  have g_blocks_fec5 : ∀ r c q, Glo P w K mg base "_law_blocks" 2 (spG (gr K r c q) (sp_blocks_fec5 r)) 3 := fun r c q => ⟨_, fd_blocks_fec5, ["_law_drawn", "_law_most"], ok_blocks_fec5 b g_next g_size_3de8 F_blocks_fec5, m_blocks_fec5, FunD.kp F_blocks_fec5, FunD.bindsN F_blocks_fec5 fun _ _ _ _ _ _ us hl => match us, hl with | [_, _], _ => rfl, rfl⟩
  have g_merged_64ee : Glo P w K mg base "_law_merged" 2 (spP K (sp_merged_64ee)) 1 := ⟨_, fd_merged_64ee, ["_law_blocks_here", "_law_index"], ok_merged_64ee b  F_merged_64ee, m_merged_64ee, FunD.kp F_merged_64ee, FunD.bindsN F_merged_64ee fun _ _ _ _ _ _ us hl => match us, hl with | [_, _], _ => rfl, rfl⟩
  have g_is_integer_8a5f : Glo P w K mg base "is_integer" 1 (spP K (sp_is_integer_8a5f)) 1 := ⟨_, fd_is_integer_8a5f, ["value"], ok_is_integer_8a5f b  F_is_integer_8a5f, m_is_integer_8a5f, FunD.kp F_is_integer_8a5f, FunD.bindsN F_is_integer_8a5f fun _ _ _ _ _ _ us hl => match us, hl with | [_], _ => rfl, rfl⟩
  have g_is_falling_c091 : Glo P w K mg base "is_falling" 2 (spP K (sp_is_falling_c091)) 1 := ⟨_, fd_is_falling_c091, ["one", "other"], ok_is_falling_c091 b  F_is_falling_c091, m_is_falling_c091, FunD.kp F_is_falling_c091, FunD.bindsN F_is_falling_c091 fun _ _ _ _ _ _ us hl => match us, hl with | [_, _], _ => rfl, rfl⟩
  have g_falling_places_f120 : Glo P w K mg base "falling_places" 1 (spP K (sp_falling_places_f120)) 2 := ⟨_, fd_falling_places_f120, ["blocks"], ok_falling_places_f120 b g_is_falling_c091 F_falling_places_f120, m_falling_places_f120, FunD.kp F_falling_places_f120, FunD.bindsN F_falling_places_f120 fun _ _ _ _ _ _ us hl => match us, hl with | [_], _ => rfl, rfl⟩
  have g_merged_e28f : Glo P w K mg base "merged" 2 (spP K (sp_merged_e28f)) 1 := ⟨_, fd_merged_e28f, ["one", "other"], ok_merged_e28f b  F_merged_e28f, m_merged_e28f, FunD.kp F_merged_e28f, FunD.bindsN F_merged_e28f fun _ _ _ _ _ _ us hl => match us, hl with | [_, _], _ => rfl, rfl⟩
  have g_merge_blocks_e278x : GloX P w K mg base "merge_blocks" 2 (spPX K mg (sp_merge_blocks_e278x)) 3 := ⟨_, fd_merge_blocks_e278x, ["blocks", "index"], ok_merge_blocks_e278x b g_is_integer_8a5f g_falling_places_f120 g_merged_e28f i_NotFalling F_merge_blocks_e278x, m_merge_blocks_e278x, FunD.kp F_merge_blocks_e278x, FunD.bindsN F_merge_blocks_e278x fun _ _ _ _ _ _ us hl => match us, hl with | [_, _], _ => rfl, rfl⟩
  have g_items_cafd : ∀ r c q, Glo P w K mg base "_law_items" 2 (spG (gr K r c q) (sp_items_cafd r)) 3 := fun r c q => ⟨_, fd_items_cafd, ["_law_drawn", "_law_count"], ok_items_cafd b g_next g_size_3de8 F_items_cafd, m_items_cafd, FunD.kp F_items_cafd, FunD.bindsN F_items_cafd fun _ _ _ _ _ _ us hl => match us, hl with | [_, _], _ => rfl, rfl⟩
  have g_row_75d3 : ∀ r c q, Glo P w K mg base "_law_row" 2 (spG (gr K r c q) (sp_row_75d3 r)) 4 := fun r c q => ⟨_, fd_row_75d3, ["_law_drawn", "_law_most"], ok_row_75d3 b g_items_cafd g_next F_row_75d3, m_row_75d3, FunD.kp F_row_75d3, FunD.bindsN F_row_75d3 fun _ _ _ _ _ _ us hl => match us, hl with | [_, _], _ => rfl, rfl⟩
  have g_integer_3c56 : Glo P w K mg base "_law_integer" 3 (spP K (sp_integer_3c56)) 1 := ⟨_, fd_integer_3c56, ["_law_value", "_law_low", "_law_high"], ok_integer_3c56 b  F_integer_3c56, m_integer_3c56, FunD.kp F_integer_3c56, FunD.bindsN F_integer_3c56 fun _ _ _ _ _ _ us hl => match us, hl with | [_, _, _], _ => rfl, rfl⟩
  have g_told_c016 : Glo P w K mg base "_law_told" 2 (spP K (sp_told_c016)) 4 := ⟨_, fd_told_c016, ["_law_blocks_here", "_law_index"], ok_told_c016 b g_merge_blocks_e278x F_told_c016, m_told_c016, FunD.kp F_told_c016, FunD.bindsN F_told_c016 fun _ _ _ _ _ _ us hl => match us, hl with | [_, _], _ => rfl, rfl⟩
  have g_right_32d7 : GloS P w K mg base "_law_right" 2 (spP K (sp_right_32d7)) 5 := ⟨_, fd_right_32d7, ["_law_blocks_here", "_law_index"], ok_right_32d7 b g_integer_3c56 g_falling_18cf g_merged_64ee g_told_c016 F_right_32d7, m_right_32d7, FunD.kp F_right_32d7, FunD.bindsN F_right_32d7 fun _ _ _ _ _ _ us hl => match us, hl with | [_, _], _ => rfl, rfl⟩
  exact ok_law_3048 b g_draws g_odd_a635 g_falling_18cf g_starts_8d16 g_blocks_fec5 g_one_be76 g_merged_64ee g_merge_blocks_e278x g_row_75d3 g_right_32d7 F_law_3048
end Pm
open PySem PySem.W PySem.Calls PyProof.Rows
theorem PySem.Challenge.cw_poolmarks_k54_merged_blocks_holds : PySem.Challenge.rw_poolmarks_k54_merged_blocks.Holds := by
  w_on; o_law
  refine HandSHeadRun.head_any (r := OpenLaw.row PySem.Challenge.rw_poolmarks_k54_merged_blocks) (q := view (OpenLaw.row PySem.Challenge.rw_poolmarks_k54_merged_blocks).prog [28]) (H := Pm.hk) (ob := Pm.ob) (M := 4000) (loose := Pm.loose) (d := HandSHeadRun.topDef (OpenLaw.row PySem.Challenge.rw_poolmarks_k54_merged_blocks).prog 28) (kwd := []) Pm.ob_eq
    (by kernel_rfl) (fun s => by kernel_rfl) Pm.run (by kernel_rfl) (by kernel_rfl) (by kernel_rfl) (by rfl) (by first | assumption | decide +kernel) (by decide +kernel) ⟨rfl, rfl, rfl, rfl, rfl, by decide +kernel⟩ ?hw ?hc
  case hw => w_witness2
  case hc =>
    refine Pm.walk_ofG (l := PySem.Challenge.rw_poolmarks_k54_merged_blocks) (n := 63) (k := 6) (x := "_law_script") rfl (by decide) (by kernel_rfl) ⟨rfl, by decide, by decide⟩ ?F
    intro w mg fa h Y G hmg0
    obtain ⟨K, KX, c⟩ := Y
    have hmg : mg ("law" : PySem.Str) = some (.ref fa) := by
      have e : (HandSHeadRun.topDef (OpenLaw.row PySem.Challenge.rw_poolmarks_k54_merged_blocks).prog 28).name = ("law" : PySem.Str) := by kernel_rfl
      rw [← e]
      exact hmg0
    obtain ⟨fd, hb, hF⟩ := Pm.facts (P := (PySem.Challenge.rw_poolmarks_k54_merged_blocks).prog) (w := w) KX G hmg c
    exact ⟨K, fd, Pm.spLaw K, KX, hb, fun H a ns hl _ hS => ⟨a, ns, rfl, hS, hl, fun _ => rfl⟩, hF⟩

