import PyProof.Rows.All
import HandS.ForMost
import HandS.ForExc
import HandS.IsInst
import HandS.Wide
import HandS.Flow
import HandS.Zip
import HandS.Rev
import HandS.Sort
import HandS.SortInts
import HandS.SortRule
import HandS.Defaults
import PyProof.Rows.SeqMore
import KE.GoesEnum
import HandS.RevRange
import HandS.Conv
import HandS.Ends
import HandS.HeadEnd
import HandS.Head0
import HandS.Head1
import HandS.Head2
import HandS.HeadHook1
import HandS.HeadHook2
import HandS.Style
import KE.KRevSl
import HandS.NamedTupSort
import HandS.TupSets
import HandS.SortOrd
import HandS.TupMul
import HandS.TupLe
import HandS.SetFor
import KE.KDictZip
import KE.DataMinKey
import KE.KMinBuiltin
import HandS.SortKw
import HandS.WordsExc
import HandS.TryOnly
import HandS.ExcIs
import HandS.ExcOwn
import HandS.ExcCtx
import HandS.ExcField
import KE.KExcIs
import HandS.ExcInit
import HandS.Dict
import KE.KDictCopyH
import KE.KeyNested
import KE.KIndexWalk
import HandS.FStr
import HandS.RaiseMore
import HandS.ReplaceLit
import KE.IntTextLaws
import HandS.Lambda
import HandS.CallSlots
import HandS.HeadHook4
import KE.DataMinMax
import HandS.ReplaceList
import HandS.ExcValue
import KE.KExcInit
import HandS.TryMany
import KE.KTryMore
import HandS.HotCalls
import OpenK.KOps
import PyProof.CallStr
import PyProof.TupleOfGen
import HandS.DictComp
import HandS.HeadHook3
import HandS.Iter
import PyProof.Rows.TupIter
import PyProof.DictItems
import HandS.SuiteRaise
import Wide.All
import OpenK.AllK
import Wide.FinOn
import KE.KStateDown
import Lean
import HandS.Base
import HandS.Call
import HandS.More
import HandS.Words
import PySem.Challenge.RW_poolmarks_k67_undo_and_kept_states
set_option Elab.async false
set_option linter.all false
set_option maxRecDepth 100000
set_option maxHeartbeats 1000000
namespace Pm
set_option autoImplicit false
open PySem PySem.Spec
open PyProof.Rows hiding St
open L2

inductive Ad where
  | a (x : Addr) | f (φ : Hp → V → Prop)
instance : Coe Addr Ad := ⟨.a⟩
structure GP (γ : Type) where
  K : PySem.W.Frag
  foot : γ → Addr → Prop
  J : γ → Hp → Hp → Prop
  stay : ∀ g Z Z' H H', J g Z H → Same Z Z' → (∀ a, foot g a → H' a = H a) → J g Z' H'
  live : ∀ g Z H a, J g Z H → foot g a → ∃ o, H a = some o
  /-- what is known to be settled -/
  fl : Hp := fun _ => none
end Pm
set_option Elab.async false
set_option linter.all false
set_option maxRecDepth 100000
set_option maxHeartbeats 1000000
set_option autoImplicit false
namespace Pm
open PySem PySem.Spec
open PyProof.Rows hiding St
open L2
def obsB (fa : List He.Fa) (fn : List He.DefD) (ex : PySem.W.Frag → Bool) (K : PySem.W.Frag) : He.AlD × Bool := (He.obsD fa fn K, ex K)
def valB (fn : List He.DefD) : He.AlD × Bool := (He.valD fn, true)
end Pm
set_option Elab.async false
set_option linter.all false
set_option maxRecDepth 100000
set_option maxHeartbeats 1000000
set_option autoImplicit false
namespace Pm
open PySem PySem.Spec PySem.W
open PyProof.Rows hiding St
open L2
def W (eds : List (Nat × Nat)) : Nat → Nat → Nat → Bool
  | 0, i, j => decide (i = j) || decide ((i, j) ∈ eds)
  | k + 1, i, j => W eds k i j || (W eds k i k && W eds k k j)
end Pm
set_option Elab.async false
set_option linter.all false
set_option maxRecDepth 100000
set_option maxHeartbeats 1000000
set_option autoImplicit false
namespace Pm
open PySem PySem.Spec
open PyProof.Rows hiding St
open L2
variable {γ : Type}
section
variable {X : Cx} {G : GP γ} {W : WX} {pos : Pos} {e : Expr}
def excAt (K : PySem.W.Frag) (x : Str) : Option Addr := match PySem.W.nsIn K mainGlobals x with
  | some (some (.ref C)) => some C
  | _ => none
def bVal : List Value := [.type "ValueError", .type "Exception", .type "BaseException", .type "object"]
def exc0B (K : PySem.W.Frag) (x : Str) : Bool := match excAt K x with
  | some C => PySem.W.excIn K C bVal "ValueError.__new__" && PySem.W.keepIn K (.ref C)
  | none => false
def excQB (K : PySem.W.Frag) (x : Str) : Bool := match excAt K x with
  | some C => (PySem.W.subIn K (.ref C) (.type "BaseException") == some true) && (PySem.W.typeIn K (.ref C) == some (.type "type")) && (PySem.W.findIn K (.ref C) "__getattribute__" == some (some (.builtin "BaseException.__getattribute__"))) && (PySem.W.findIn K (.ref C) "__getattr__" == some none)
      && PySem.W.hasDictIn K C && (PySem.W.findIn K (.ref C) "__class__" == some (some (.builtin "object.__class__"))) && (PySem.W.specialIn K (.builtin "object.__class__") "__get__" == some (some (.builtin "getset_descriptor.__get__"))) && (PySem.W.takesIn K (.builtin "object.__class__") == some true) && (PySem.W.mroIn K C (.type "object") == some true)
  | none => false
def clsV (K : PySem.W.Frag) (y : Str) : Option Value := match PySem.W.nsIn K mainGlobals y with
  | some (some (.ref C)) => some (.ref C)
  | some none => match bootBuiltins y with
    | some (.type T) => some (.type T)
    | _ => none
  | _ => none
def subB (K : PySem.W.Frag) (x y : Str) (b : Bool) : Bool := match excAt K x, clsV K y with
  | some C, some c => (PySem.W.kitOne K (.ref C) c == some b) && (PySem.W.exmOne K (.ref C) c == some b)
  | _, _ => false
end
end Pm
namespace Pm
open PySem PySem.Spec
open PyProof.Rows hiding St
open L2
def xflB (K : PySem.W.Frag) (q : Str × Str) : Bool := match excAt K q.1 with
  | some C => xfB K C && decide (PySem.W.findIn K (.ref C) q.2 = some none)
  | none => false
def excsB (K : PySem.W.Frag) (x0 xq : List Str) (sub : List (Str × Str × Bool)) (xf : List (Str × Str)) : Bool := x0.all (exc0B K) && (xq.all (excQB K) && (sub.all (fun q => subB K q.1 q.2.1 q.2.2) && xf.all (xflB K)))
end Pm
set_option Elab.async false
set_option linter.all false
set_option maxRecDepth 100000
set_option maxHeartbeats 2000000
set_option autoImplicit false
namespace Pm
open PySem PySem.Spec
open PyProof.Rows hiding St
open L2
abbrev tabP (K : PySem.W.Frag) (x : Str) : Addr := (He.cT K (x, none)).2
abbrev codP (K : PySem.W.Frag) (x : Str) : Addr := (He.cT K (x, none)).1
section
variable {fa : List He.Fa} {fn : List He.DefD} {ex : PySem.W.Frag → Bool} {xs : List Str}
def apartB (xs : List Str) (K : PySem.W.Frag) : Bool := decide (xs.map (tabP K)).Nodup
abbrev defsOf (xs : List Str) : List He.Defn := xs.map fun x => (x, none)
end
end Pm
set_option Elab.async false
set_option linter.all false
set_option maxRecDepth 100000
set_option maxHeartbeats 2000000
set_option autoImplicit false
namespace Pm
open PySem PySem.Spec
open PyProof.Rows hiding St
open L2
def leB : List Value := [.type "LookupError", .type "Exception", .type "BaseException", .type "object"]
def oeB (K : PySem.W.Frag) (C : Addr) : Bool := ((PySem.W.excInitIn K C bVal "ValueError.__new__" && PySem.W.excOver K C bVal) || (PySem.W.excInitIn K C leB "LookupError.__new__" && PySem.W.excOver K C leB)) &&
  (PySem.W.hasDictIn K C && ((PySem.W.findIn K (.ref C) "__setattr__" == some (some (.builtin "object.__setattr__"))) && ((PySem.W.subIn K (.ref C) (.type "BaseException") == some true) && ((PySem.W.typeIn K (.ref C) == some (.type "type")) && PySem.W.keepIn K (.ref C)))))
variable {γ : Type}
def initEB (K : PySem.W.Frag) (x : Str) (fl : List Str) : Bool := (He.Fa.glo x).ok K && (oeB K (He.ga K x) && ((PySem.W.findIn K (.ref (He.ga K x)) "__init__" == some (some (.ref (He.ma K (He.ga K x) "__init__")))) && ((PySem.W.typeIn K (.ref (He.ma K (He.ga K x) "__init__")) == some (.type "function")) && (fl.all (fun n => PySem.W.findIn K (.ref (He.ga K x)) n == some none) && decide (fl.length ≤ 1000)))))
end Pm
set_option Elab.async false
set_option linter.all false
set_option maxRecDepth 100000
set_option maxHeartbeats 1000000
set_option autoImplicit false
namespace Pm
open PySem PySem.Spec
open PyProof.Rows hiding St
open L2
variable {γ : Type}
abbrev AlX : Type := (He.AlD × Bool) × List (Option (List (Option (Str × Int))))
def obsX (fa : List He.Fa) (fn : List He.DefD) (ex : PySem.W.Frag → Bool) (ts : List He.Tab) (K : PySem.W.Frag) : AlX := (obsB fa fn ex K, ts.map fun t => He.dicW K (t.1 K))
def valX (fn : List He.DefD) (ts : List He.Tab) (w : World) : AlX := (valB fn, ts.map fun t => some (He.keysIn w.params t.2))
def SaysX (fa : List He.Fa) (fn : List He.DefD) (ex : PySem.W.Frag → Bool) (ts : List He.Tab) (w : World) (K : PySem.W.Frag) : Prop := obsX fa fn ex ts K = valX fn ts w
def dcB (K : PySem.W.Frag) (x : Str) (kvs : List (Str × He.Dv)) : Bool := (He.Fa.glo x).ok K && He.valsB K (He.ga K x) kvs
end Pm
set_option Elab.async false
set_option linter.all false
set_option maxRecDepth 100000
set_option maxHeartbeats 1000000
set_option autoImplicit false
namespace Pm
open PySem PySem.W PySem.Calls
open PyProof.Rows hiding St
open HandSHeadRun
noncomputable def EndOf (r : OpenRow) (M : Nat) (w : World) (os : OsState) : Option SharedT := endF (stepQ (denQ tabQ) r.prog w) M r.prog w os
def Run0 (r : OpenRow) (q : Program) (M : Nat) (loose : List PySem.Str) (w : World) : Prop :=
  ∀ os : OsState, (EndOf r M w os).map (fun s => (looksF r.prog (boot_heap w.params) s.abs, seenQ q loose (importedModules r.prog.main.body) (fun s => xlAt q [] s && recOk r.toRowW.records s) s.abs)) = some (true, openGood q loose)
theorem opt_two {α β γ δ : Type} {o : Option α} {f : α → β} {g : α → γ} {k : α → δ} {b : β} {c : γ} {d : δ} (h1 : o.map f = some b) (h2 : o.map g = some c) (h : ∀ a, f a = b → g a = c → k a = d) : o.map k = some d := by
  cases o with
  | none => cases h1
  | some a => exact congrArg some (h a (Option.some.inj h1) (Option.some.inj h2))
section
variable {r : OpenRow} {M : Nat} {sl : List Addr} {fa : List He.Fa} {fn fn1 fn2 : List He.DefD} {ex : PySem.W.Frag → Bool} {tb : List He.Tab} {w : World}
theorem obsX_parts {K : PySem.W.Frag} : obsX fa fn ex tb K = valX fn tb w ↔ ((fa.all fun f => f.ok K) = true ∧ (fn.all fun d => d.ok K) = true) ∧ (fn.map fun d => He.fnW K d.at_) = fn.map He.DefD.val ∧ ex K = true ∧ (tb.map fun t => He.dicW K (t.1 K)) = tb.map fun t => some (He.keysIn w.params t.2) := by
  unfold obsX valX obsB valB He.obsD He.valD
  simp only [Prod.mk.injEq, Bool.and_eq_true]
  constructor
  · rintro ⟨⟨⟨a, b⟩, c⟩, d⟩; exact ⟨a, b, c, d⟩
  · rintro ⟨a, b, c, d⟩; exact ⟨⟨⟨a, b⟩, c⟩, d⟩
end
end Pm
set_option Elab.async false
set_option linter.all false
set_option maxRecDepth 100000
set_option maxHeartbeats 1000000
set_option autoImplicit false
namespace Pm
open PySem PySem.Spec
open PyProof.Rows hiding St
open L2
variable {γ : Type}
section
variable {n : Nat} {sl : List Addr} {fa : List He.Fa} {fn fn1 fn2 : List He.DefD} {ex : PySem.W.Frag → Bool} {ts : List He.Tab} {xs : List Str} {w : World} {K : PySem.W.Frag}
def exTab (ex : PySem.W.Frag → Bool) (xs : List Str) (g : Addr → Option Obj) (K : PySem.W.Frag) : Bool := ex K && (apartB xs K && He.tabsB g (defsOf xs) K)
def obsXTG (n : Nat) (sl : List Addr) (fa : List He.Fa) (fn : List He.DefD) (ex : PySem.W.Frag → Bool) (ts : List He.Tab) (xs : List Str) (g : Addr → Option Obj) : AlX := obsX fa fn (exTab ex xs g) ts (He.frT g (He.asD g n ++ sl))
structure SaysXT (fa : List He.Fa) (fn : List He.DefD) (ex : PySem.W.Frag → Bool) (ts : List He.Tab) (xs : List Str) (w : World) (h : Heap) (K : PySem.W.Frag) : Prop where
  x : SaysX fa fn ex ts w K
  apart : (xs.map (tabP K)).Nodup
  tab : ∀ y ∈ xs, h.get? (tabP K y) = some { cls := .none, data := .fields #[] } ∧ K.lookup (tabP K y) = none ∧ PySem.W.codeHdIn K (codP K y) (tabP K y) = true
theorem saysXT_of {h : Heap} (e : obsXTG n sl fa fn ex ts xs h.get? = valX fn ts w) : SaysXT fa fn ex ts xs w h (He.frT h.get? (He.asD h.get? n ++ sl)) := by
  obtain ⟨p1, p2, p3, p4⟩ := obsX_parts.mp (show obsX fa fn (exTab ex xs h.get?) ts (He.frT h.get? (He.asD h.get? n ++ sl)) = valX fn ts w from e)
  obtain ⟨h1, h2⟩ := He.ba p3
  obtain ⟨h3, h4⟩ := He.ba h2
  refine ⟨obsX_parts.mpr ⟨p1, p2, h1, p4⟩, of_decide_eq_true h3, fun y hy => ?_⟩
  obtain ⟨h5, h6⟩ := He.ba (List.all_eq_true.mp h4 (y, none) (List.mem_map.mpr ⟨y, hy, rfl⟩))
  have h7 : ∃ o, h.get? (tabP (He.frT h.get? (He.asD h.get? n ++ sl)) y) = some o ∧ He.emptyTab o = true := by
    cases q : h.get? (He.cT (He.frT h.get? (He.asD h.get? n ++ sl)) (y, none)).2 with
    | none => rw [q] at h6; cases h6
    | some o => rw [q] at h6; exact ⟨o, rfl, h6⟩
  obtain ⟨o, q, z⟩ := h7
  exact ⟨by rw [q, He.emptyTab_eq z], He.frT_none q z, h5⟩
def hookXT (n : Nat) (sl : List Addr) (fa : List He.Fa) (fn : List He.DefD) (ex : PySem.W.Frag → Bool) (ts : List He.Tab) (xs : List Str) : PySem.W.Hook where
  α := AlX
  obs := fun s => obsXTG n sl fa fn ex ts xs s.heap.get?
  val := fun w => valX fn ts w
  says := fun w h => ∃ K : PySem.W.Frag, K.In h ∧ SaysXT fa fn ex ts xs w h K
  of := fun _ _ e => ⟨_, He.frT_in, saysXT_of e⟩
  keeps := fun _ _ _ ⟨K, hK, c⟩ k => ⟨K, PySem.W.Frag.In.keeps hK k, ⟨c.x, c.apart, fun y hy => ⟨k _ _ (c.tab y hy).1, (c.tab y hy).2⟩⟩⟩
end
end Pm
namespace Pm
open PySem PySem.W PySem.Calls
open PyProof.Rows hiding St
open HandSHeadRun
def SaysGT (r : OpenRow) (M : Nat) (sl : List Addr) (fa : List He.Fa) (fn : List He.DefD) (ex : PySem.W.Frag → Bool) (tb : List He.Tab) (xs : List PySem.Str) (w : World) : Prop :=
  ∀ os : OsState, (EndOf r M w os).map (fun s => obsXTG 0 sl fa fn ex tb xs (getT s)) = some (valX fn tb w)
section
variable {r : OpenRow} {M : Nat} {sl : List Addr} {fa : List He.Fa} {fn fn1 fn2 : List He.DefD} {ex : PySem.W.Frag → Bool} {tb : List He.Tab} {xs : List PySem.Str} {w : World}
theorem SaysGT.app (h1 : SaysGT r M sl [] fn1 (fun _ => true) [] [] w) (h2 : SaysGT r M sl [] fn2 (fun _ => true) [] [] w) : SaysGT r M sl [] (fn1 ++ fn2) (fun _ => true) [] [] w := fun os =>
  opt_two (h1 os) (h2 os) fun a e1 e2 => by
    obtain ⟨⟨_, b1⟩, c1, _⟩ := obsX_parts.mp e1
    obtain ⟨⟨_, b2⟩, c2, _⟩ := obsX_parts.mp e2
    refine obsX_parts.mpr ⟨⟨rfl, ?_⟩, ?_, rfl, rfl⟩
    · rw [List.all_append, b1, b2]; rfl
    · rw [List.map_append, List.map_append, c1, c2]
theorem SaysGT.join (h1 : SaysGT r M sl fa [] ex tb xs w) (h2 : SaysGT r M sl [] fn (fun _ => true) [] [] w) : SaysGT r M sl fa fn ex tb xs w := fun os =>
  opt_two (h1 os) (h2 os) fun a e1 e2 => by
    obtain ⟨⟨a1, _⟩, _, x1, t1⟩ := obsX_parts.mp e1
    obtain ⟨⟨_, b2⟩, c2, _⟩ := obsX_parts.mp e2
    exact obsX_parts.mpr ⟨⟨a1, b2⟩, c2, x1, t1⟩
theorem SaysGT.run {q : Program} {loose : List PySem.Str} (h0 : Run0 r q M loose w) (h : SaysGT r M sl fa fn ex tb xs w) : RunEq r q (hookXT 0 sl fa fn ex tb xs) (fun s => obsXTG 0 sl fa fn ex tb xs (getT s)) M loose w := fun os =>
  opt_two (h0 os) (h os) fun a e1 e2 => by
    have e3 := Prod.mk.inj e1
    exact Prod.ext e3.1 (Prod.ext e3.2 e2)
end
end Pm
set_option Elab.async false
set_option linter.all false
set_option maxRecDepth 100000
set_option maxHeartbeats 0
set_option autoImplicit false
namespace Pm
open PySem PySem.Spec
open PyProof.Rows hiding St
open L2 TL
def top (i : Nat) : Stmt := PySem.Challenge.pw_poolmarks_k67_undo_and_kept_states.main.body.getD i (.Pass ⟨0, 0, 0, 0⟩)
def x0L : List Str := ["Busy", "Full", "LastItem", "TooManyActions", "NothingToUndo", "InvalidBatch"]
def xqL : List Str := ["BatchFailed", "Busy", "Full", "InvalidMark", "InvalidWeight", "LastItem", "NoSuchItem", "NoSuchRule", "NoSuchStep", "NothingToUndo", "TooManyActions", "InvalidBatch"]
def subL : List (Str × Str × Bool) := ([("BatchFailed", "Busy", false), ("Busy", "Busy", true), ("Full", "Busy", false), ("InvalidMark", "Busy", false), ("InvalidWeight", "Busy", false), ("LastItem", "Busy", false), ("NoSuchItem", "Busy", false), ("NoSuchRule", "Busy", false), ("NoSuchStep", "Busy", false), ("NothingToUndo", "Busy", false), ("TooManyActions", "Busy", false), ("BatchFailed", "TooManyActions", false), ("Busy", "TooManyActions", false), ("Full", "TooManyActions", false), ("InvalidMark", "TooManyActions", false), ("InvalidWeight", "TooManyActions", false), ("LastItem", "TooManyActions", false), ("NoSuchItem", "TooManyActions", false), ("NoSuchRule", "TooManyActions", false), ("NoSuchStep", "TooManyActions", false), ("NothingToUndo", "TooManyActions", false), ("TooManyActions", "TooManyActions", true), ("BatchFailed", "NothingToUndo", false), ("Busy", "NothingToUndo", false), ("Full", "NothingToUndo", false), ("InvalidMark", "NothingToUndo", false), ("InvalidWeight", "NothingToUndo", false), ("LastItem", "NothingToUndo", false), ("NoSuchItem", "NothingToUndo", false), ("NoSuchRule", "NothingToUndo", false)] : List (Str × Str × Bool)) ++ ([("NoSuchStep", "NothingToUndo", false), ("NothingToUndo", "NothingToUndo", true), ("TooManyActions", "NothingToUndo", false), ("BatchFailed", "InvalidBatch", false), ("Busy", "InvalidBatch", false), ("Full", "InvalidBatch", false), ("InvalidMark", "InvalidBatch", false), ("InvalidWeight", "InvalidBatch", false), ("LastItem", "InvalidBatch", false), ("NoSuchItem", "InvalidBatch", false), ("NoSuchRule", "InvalidBatch", false), ("NoSuchStep", "InvalidBatch", false), ("NothingToUndo", "InvalidBatch", false), ("TooManyActions", "InvalidBatch", false), ("BatchFailed", "BatchFailed", true), ("Busy", "BatchFailed", false), ("Full", "BatchFailed", false), ("InvalidMark", "BatchFailed", false), ("InvalidWeight", "BatchFailed", false), ("LastItem", "BatchFailed", false), ("NoSuchItem", "BatchFailed", false), ("NoSuchRule", "BatchFailed", false), ("NoSuchStep", "BatchFailed", false), ("NothingToUndo", "BatchFailed", false), ("TooManyActions", "BatchFailed", false), ("BatchFailed", "NoSuchStep", false), ("Busy", "NoSuchStep", false), ("Full", "NoSuchStep", false), ("InvalidMark", "NoSuchStep", false), ("InvalidWeight", "NoSuchStep", false)] : List (Str × Str × Bool)) ++ ([("LastItem", "NoSuchStep", false), ("NoSuchItem", "NoSuchStep", false), ("NoSuchRule", "NoSuchStep", false), ("NoSuchStep", "NoSuchStep", true), ("NothingToUndo", "NoSuchStep", false), ("TooManyActions", "NoSuchStep", false), ("BatchFailed", "LookupError", false), ("Busy", "LookupError", false), ("Full", "LookupError", false), ("InvalidMark", "LookupError", false), ("InvalidWeight", "LookupError", false), ("LastItem", "LookupError", false), ("NoSuchItem", "LookupError", true), ("NoSuchRule", "LookupError", true), ("NoSuchStep", "LookupError", true), ("NothingToUndo", "LookupError", false), ("TooManyActions", "LookupError", false), ("BatchFailed", "MarksError", true), ("Busy", "MarksError", true), ("Full", "MarksError", true), ("InvalidMark", "MarksError", true), ("InvalidWeight", "MarksError", true), ("LastItem", "MarksError", true), ("NoSuchItem", "MarksError", false), ("NoSuchRule", "MarksError", false), ("NoSuchStep", "MarksError", false), ("NothingToUndo", "MarksError", true), ("TooManyActions", "MarksError", true)] : List (Str × Str × Bool))
def xfL : List (Str × Str) := [("NoSuchStep", "step")]
abbrev st_BatchFailed : Stmt := inClass (top 16) 0
abbrev st_InvalidMark : Stmt := inClass (top 17) 0
abbrev st_InvalidWeight : Stmt := inClass (top 18) 0
abbrev st_NoSuchItem : Stmt := inClass (top 19) 0
abbrev st_NoSuchRule : Stmt := inClass (top 20) 0
abbrev st_NoSuchStep : Stmt := inClass (top 21) 0
abbrev tfl : List Str := ["_law_full_right"]
section
variable {P : Program} {w : World} {K : PySem.W.Frag} {mg : Str → Option Value} {base : Heap}
abbrev st_draws : Stmt := top 51
abbrev st_next : Stmt := top 52
abbrev st_size_3de8 : Stmt := top 56
abbrev st_items_cafd : Stmt := top 57
abbrev st_rules_ccf3 : Stmt := top 58
abbrev st_panel_3836 : Stmt := top 59
abbrev st_equal_17a7 : Stmt := top 54
abbrev st_class_4baa : Stmt := top 69
abbrev st_is_integer_8a5f : Stmt := top 23
abbrev st_is_within_3133 : Stmt := top 25
abbrev st_Book_state_at_6f16 : Stmt := inClass (top 49) 20
abbrev st_state_at_fc8a : Stmt := top 71
abbrev st_states_right_c0ad : Stmt := top 72
abbrev st_Book_need_idle_a04f : Stmt := inClass (top 49) 1
abbrev st_need_item_44a7x : Stmt := top 43
abbrev st_is_weight_6941 : Stmt := top 28
abbrev st_need_weight_e9e3x : Stmt := top 45
abbrev st_with_mark_afe3 : Stmt := top 35
abbrev st_is_mark_f168 : Stmt := top 27
abbrev st_need_mark_99a8x : Stmt := top 44
abbrev st_panel_with_item_7316x : Stmt := top 46
abbrev st_with_rule_a65e : Stmt := top 37
abbrev st_panel_with_rule_8c3dx : Stmt := top 47
abbrev st_without_rule_deb1 : Stmt := top 38
abbrev st_without_item_d43ax : Stmt := top 33
abbrev st_panel_after_5edax : Stmt := top 48
abbrev st_Book_keep_3d59 : Stmt := inClass (top 49) 2
abbrev st_Book_act_56f7 : Stmt := inClass (top 49) 3
abbrev st_Book_set_mark_d750 : Stmt := inClass (top 49) 4
abbrev st_Book_set_weight_80a1 : Stmt := inClass (top 49) 5
abbrev st_Book_add_item_5e3f : Stmt := inClass (top 49) 6
abbrev st_Book_drop_item_c5ba : Stmt := inClass (top 49) 7
abbrev st_Book_add_rule_b6a8 : Stmt := inClass (top 49) 8
abbrev st_Book_drop_rule_1deb : Stmt := inClass (top 49) 9
abbrev st_Book_undo_292d : Stmt := inClass (top 49) 10
abbrev st_do_b165 : Stmt := top 66
abbrev st_limited_235d : Stmt := top 73
abbrev st_hear_2917 : Stmt := top 74
abbrev st_is_action_d748 : Stmt := top 42
abbrev st_Book_performL_64d2 : Stmt := inClass (top 49) 11
abbrev st_Book_runL_35fc : Stmt := inClass (top 49) 12
abbrev st_Book_log_00c1 : Stmt := inClass (top 49) 13
abbrev st_Book___len___d650 : Stmt := inClass (top 49) 22
abbrev st_full_right_e03f : Stmt := top 75
abbrev st_undone_a4b1 : Stmt := top 70
abbrev st_is_tuple_7f37 : Stmt := top 26
abbrev st_item_fault_6a6b : Stmt := top 29
abbrev st_rule_fault_c7d6 : Stmt := top 30
abbrev st_find_fault_effe : Stmt := top 31
abbrev st_Book___init___c536 : Stmt := inClass (top 49) 0
abbrev st_Book_actions_a3eb : Stmt := inClass (top 49) 15
abbrev st_sixty_right_718b : Stmt := top 76
abbrev st_one_be76 : Stmt := top 53
abbrev st_action_0538 : Stmt := top 65
abbrev st_integer_3c56 : Stmt := top 55
abbrev st_index_4ee9 : Stmt := top 60
abbrev st_rule_error_9639 : Stmt := top 62
abbrev st_item_error_fff0 : Stmt := top 61
abbrev st_without_de10 : Stmt := top 63
abbrev st_after_0530 : Stmt := top 64
abbrev st_Book_panel_40b0 : Stmt := inClass (top 49) 14
abbrev st_Book___str___29d1 : Stmt := inClass (top 49) 24
abbrev st_seen_4665 : Stmt := top 67
abbrev st_due_seen_6cad : Stmt := top 68
abbrev st_law_9d52 : Stmt := top 77
end
def d_draws : He.DefD := ⟨("_law_draws", none), "_law_draws", "_law_draws", defArgs st_draws, defBody st_draws, defScope st_draws, [], []⟩
def d_next : He.DefD := ⟨("_law_next", none), "_law_next", "_law_next", defArgs st_next, defBody st_next, defScope st_next, [], []⟩
def d_size_3de8 : He.DefD := ⟨("_law_size", none), "_law_size", "_law_size", defArgs st_size_3de8, defBody st_size_3de8, defScope st_size_3de8, [], []⟩
def d_items_cafd : He.DefD := ⟨("_law_items", none), "_law_items", "_law_items", defArgs st_items_cafd, defBody st_items_cafd, defScope st_items_cafd, [], []⟩
def d_rules_ccf3 : He.DefD := ⟨("_law_rules", none), "_law_rules", "_law_rules", defArgs st_rules_ccf3, defBody st_rules_ccf3, defScope st_rules_ccf3, [], []⟩
def d_panel_3836 : He.DefD := ⟨("_law_panel", none), "_law_panel", "_law_panel", defArgs st_panel_3836, defBody st_panel_3836, defScope st_panel_3836, [], []⟩
def d_equal_17a7 : He.DefD := ⟨("_law_equal", none), "_law_equal", "_law_equal", defArgs st_equal_17a7, defBody st_equal_17a7, defScope st_equal_17a7, [], []⟩
def d_class_4baa : He.DefD := ⟨("_law_class", none), "_law_class", "_law_class", defArgs st_class_4baa, defBody st_class_4baa, defScope st_class_4baa, [], []⟩
def d_is_integer_8a5f : He.DefD := ⟨("is_integer", none), "is_integer", "is_integer", defArgs st_is_integer_8a5f, defBody st_is_integer_8a5f, defScope st_is_integer_8a5f, [], []⟩
def d_is_within_3133 : He.DefD := ⟨("is_within", none), "is_within", "is_within", defArgs st_is_within_3133, defBody st_is_within_3133, defScope st_is_within_3133, [], []⟩
def d_Book_state_at_6f16 : He.DefD := ⟨("Book", some "state_at"), "state_at", "Book.state_at", defArgs st_Book_state_at_6f16, defBody st_Book_state_at_6f16, defScope st_Book_state_at_6f16, [], []⟩
def d_state_at_fc8a : He.DefD := ⟨("_law_state_at", none), "_law_state_at", "_law_state_at", defArgs st_state_at_fc8a, defBody st_state_at_fc8a, defScope st_state_at_fc8a, [], []⟩
def d_states_right_c0ad : He.DefD := ⟨("_law_states_right", none), "_law_states_right", "_law_states_right", defArgs st_states_right_c0ad, defBody st_states_right_c0ad, defScope st_states_right_c0ad, [], []⟩
def d_Book_need_idle_a04f : He.DefD := ⟨("Book", some "need_idle"), "need_idle", "Book.need_idle", defArgs st_Book_need_idle_a04f, defBody st_Book_need_idle_a04f, defScope st_Book_need_idle_a04f, [], []⟩
def d_need_item_44a7x : He.DefD := ⟨("need_item", none), "need_item", "need_item", defArgs st_need_item_44a7x, defBody st_need_item_44a7x, defScope st_need_item_44a7x, [], []⟩
def d_is_weight_6941 : He.DefD := ⟨("is_weight", none), "is_weight", "is_weight", defArgs st_is_weight_6941, defBody st_is_weight_6941, defScope st_is_weight_6941, [], []⟩
def d_need_weight_e9e3x : He.DefD := ⟨("need_weight", none), "need_weight", "need_weight", defArgs st_need_weight_e9e3x, defBody st_need_weight_e9e3x, defScope st_need_weight_e9e3x, [], []⟩
def d_with_mark_afe3 : He.DefD := ⟨("with_mark", none), "with_mark", "with_mark", defArgs st_with_mark_afe3, defBody st_with_mark_afe3, defScope st_with_mark_afe3, [], []⟩
def d_is_mark_f168 : He.DefD := ⟨("is_mark", none), "is_mark", "is_mark", defArgs st_is_mark_f168, defBody st_is_mark_f168, defScope st_is_mark_f168, [], []⟩
def d_need_mark_99a8x : He.DefD := ⟨("need_mark", none), "need_mark", "need_mark", defArgs st_need_mark_99a8x, defBody st_need_mark_99a8x, defScope st_need_mark_99a8x, [], []⟩
def d_panel_with_item_7316x : He.DefD := ⟨("panel_with_item", none), "panel_with_item", "panel_with_item", defArgs st_panel_with_item_7316x, defBody st_panel_with_item_7316x, defScope st_panel_with_item_7316x, [], []⟩
def d_with_rule_a65e : He.DefD := ⟨("with_rule", none), "with_rule", "with_rule", defArgs st_with_rule_a65e, defBody st_with_rule_a65e, defScope st_with_rule_a65e, [], []⟩
def d_panel_with_rule_8c3dx : He.DefD := ⟨("panel_with_rule", none), "panel_with_rule", "panel_with_rule", defArgs st_panel_with_rule_8c3dx, defBody st_panel_with_rule_8c3dx, defScope st_panel_with_rule_8c3dx, [], []⟩
def d_without_rule_deb1 : He.DefD := ⟨("without_rule", none), "without_rule", "without_rule", defArgs st_without_rule_deb1, defBody st_without_rule_deb1, defScope st_without_rule_deb1, [], []⟩
def d_without_item_d43ax : He.DefD := ⟨("without_item", none), "without_item", "without_item", defArgs st_without_item_d43ax, defBody st_without_item_d43ax, defScope st_without_item_d43ax, [], []⟩
def d_panel_after_5edax : He.DefD := ⟨("panel_after", none), "panel_after", "panel_after", defArgs st_panel_after_5edax, defBody st_panel_after_5edax, defScope st_panel_after_5edax, [], []⟩
def d_Book_keep_3d59 : He.DefD := ⟨("Book", some "keep"), "keep", "Book.keep", defArgs st_Book_keep_3d59, defBody st_Book_keep_3d59, defScope st_Book_keep_3d59, [], []⟩
def d_Book_act_56f7 : He.DefD := ⟨("Book", some "act"), "act", "Book.act", defArgs st_Book_act_56f7, defBody st_Book_act_56f7, defScope st_Book_act_56f7, [], []⟩
def d_Book_set_mark_d750 : He.DefD := ⟨("Book", some "set_mark"), "set_mark", "Book.set_mark", defArgs st_Book_set_mark_d750, defBody st_Book_set_mark_d750, defScope st_Book_set_mark_d750, [], []⟩
def d_Book_set_weight_80a1 : He.DefD := ⟨("Book", some "set_weight"), "set_weight", "Book.set_weight", defArgs st_Book_set_weight_80a1, defBody st_Book_set_weight_80a1, defScope st_Book_set_weight_80a1, [], []⟩
def d_Book_add_item_5e3f : He.DefD := ⟨("Book", some "add_item"), "add_item", "Book.add_item", defArgs st_Book_add_item_5e3f, defBody st_Book_add_item_5e3f, defScope st_Book_add_item_5e3f, [], []⟩
def d_Book_drop_item_c5ba : He.DefD := ⟨("Book", some "drop_item"), "drop_item", "Book.drop_item", defArgs st_Book_drop_item_c5ba, defBody st_Book_drop_item_c5ba, defScope st_Book_drop_item_c5ba, [], []⟩
def d_Book_add_rule_b6a8 : He.DefD := ⟨("Book", some "add_rule"), "add_rule", "Book.add_rule", defArgs st_Book_add_rule_b6a8, defBody st_Book_add_rule_b6a8, defScope st_Book_add_rule_b6a8, [], []⟩
def d_Book_drop_rule_1deb : He.DefD := ⟨("Book", some "drop_rule"), "drop_rule", "Book.drop_rule", defArgs st_Book_drop_rule_1deb, defBody st_Book_drop_rule_1deb, defScope st_Book_drop_rule_1deb, [], []⟩
def d_Book_undo_292d : He.DefD := ⟨("Book", some "undo"), "undo", "Book.undo", defArgs st_Book_undo_292d, defBody st_Book_undo_292d, defScope st_Book_undo_292d, [], []⟩
def d_do_b165 : He.DefD := ⟨("_law_do", none), "_law_do", "_law_do", defArgs st_do_b165, defBody st_do_b165, defScope st_do_b165, [], []⟩
def d_limited_235d : He.DefD := ⟨("_law_limited", none), "_law_limited", "_law_limited", defArgs st_limited_235d, defBody st_limited_235d, defScope st_limited_235d, [], []⟩
def d_hear_2917 : He.DefD := ⟨("_law_hear", none), "_law_hear", "_law_hear", defArgs st_hear_2917, defBody st_hear_2917, defScope st_hear_2917, [], []⟩
def d_is_action_d748 : He.DefD := ⟨("is_action", none), "is_action", "is_action", defArgs st_is_action_d748, defBody st_is_action_d748, defScope st_is_action_d748, [], []⟩
def d_Book_performL_64d2 : He.DefD := ⟨("Book", some "perform"), "perform", "Book.perform", defArgs st_Book_performL_64d2, defBody st_Book_performL_64d2, defScope st_Book_performL_64d2, [], []⟩
def d_Book_runL_35fc : He.DefD := ⟨("Book", some "run"), "run", "Book.run", defArgs st_Book_runL_35fc, defBody st_Book_runL_35fc, defScope st_Book_runL_35fc, [], [("on_step", .non)]⟩
def d_Book_log_00c1 : He.DefD := ⟨("Book", some "log"), "log", "Book.log", defArgs st_Book_log_00c1, defBody st_Book_log_00c1, defScope st_Book_log_00c1, [], []⟩
def d_Book___len___d650 : He.DefD := ⟨("Book", some "__len__"), "__len__", "Book.__len__", defArgs st_Book___len___d650, defBody st_Book___len___d650, defScope st_Book___len___d650, [], []⟩
def d_full_right_e03f : He.DefD := ⟨("_law_full_right", none), "_law_full_right", "_law_full_right", defArgs st_full_right_e03f, defBody st_full_right_e03f, defScope st_full_right_e03f, [], []⟩
def d_undone_a4b1 : He.DefD := ⟨("_law_undone", none), "_law_undone", "_law_undone", defArgs st_undone_a4b1, defBody st_undone_a4b1, defScope st_undone_a4b1, [], []⟩
def d_is_tuple_7f37 : He.DefD := ⟨("is_tuple", none), "is_tuple", "is_tuple", defArgs st_is_tuple_7f37, defBody st_is_tuple_7f37, defScope st_is_tuple_7f37, [], []⟩
def d_item_fault_6a6b : He.DefD := ⟨("item_fault", none), "item_fault", "item_fault", defArgs st_item_fault_6a6b, defBody st_item_fault_6a6b, defScope st_item_fault_6a6b, [], []⟩
def d_rule_fault_c7d6 : He.DefD := ⟨("rule_fault", none), "rule_fault", "rule_fault", defArgs st_rule_fault_c7d6, defBody st_rule_fault_c7d6, defScope st_rule_fault_c7d6, [], []⟩
def d_find_fault_effe : He.DefD := ⟨("find_fault", none), "find_fault", "find_fault", defArgs st_find_fault_effe, defBody st_find_fault_effe, defScope st_find_fault_effe, [], []⟩
def d_Book___init___c536 : He.DefD := ⟨("Book", some "__init__"), "__init__", "Book.__init__", defArgs st_Book___init___c536, defBody st_Book___init___c536, defScope st_Book___init___c536, [], []⟩
def d_Book_actions_a3eb : He.DefD := ⟨("Book", some "actions"), "actions", "Book.actions", defArgs st_Book_actions_a3eb, defBody st_Book_actions_a3eb, defScope st_Book_actions_a3eb, [], []⟩
def d_sixty_right_718b : He.DefD := ⟨("_law_sixty_right", none), "_law_sixty_right", "_law_sixty_right", defArgs st_sixty_right_718b, defBody st_sixty_right_718b, defScope st_sixty_right_718b, [], []⟩
def d_one_be76 : He.DefD := ⟨("_law_one", none), "_law_one", "_law_one", defArgs st_one_be76, defBody st_one_be76, defScope st_one_be76, [], []⟩
def d_action_0538 : He.DefD := ⟨("_law_action", none), "_law_action", "_law_action", defArgs st_action_0538, defBody st_action_0538, defScope st_action_0538, [], []⟩
def d_integer_3c56 : He.DefD := ⟨("_law_integer", none), "_law_integer", "_law_integer", defArgs st_integer_3c56, defBody st_integer_3c56, defScope st_integer_3c56, [], []⟩
def d_index_4ee9 : He.DefD := ⟨("_law_index", none), "_law_index", "_law_index", defArgs st_index_4ee9, defBody st_index_4ee9, defScope st_index_4ee9, [], []⟩
def d_rule_error_9639 : He.DefD := ⟨("_law_rule_error", none), "_law_rule_error", "_law_rule_error", defArgs st_rule_error_9639, defBody st_rule_error_9639, defScope st_rule_error_9639, [], []⟩
def d_item_error_fff0 : He.DefD := ⟨("_law_item_error", none), "_law_item_error", "_law_item_error", defArgs st_item_error_fff0, defBody st_item_error_fff0, defScope st_item_error_fff0, [], []⟩
def d_without_de10 : He.DefD := ⟨("_law_without", none), "_law_without", "_law_without", defArgs st_without_de10, defBody st_without_de10, defScope st_without_de10, [], []⟩
def d_after_0530 : He.DefD := ⟨("_law_after", none), "_law_after", "_law_after", defArgs st_after_0530, defBody st_after_0530, defScope st_after_0530, [], []⟩
def d_Book_panel_40b0 : He.DefD := ⟨("Book", some "panel"), "panel", "Book.panel", defArgs st_Book_panel_40b0, defBody st_Book_panel_40b0, defScope st_Book_panel_40b0, [], []⟩
def d_Book___str___29d1 : He.DefD := ⟨("Book", some "__str__"), "__str__", "Book.__str__", defArgs st_Book___str___29d1, defBody st_Book___str___29d1, defScope st_Book___str___29d1, [], []⟩
def d_seen_4665 : He.DefD := ⟨("_law_seen", none), "_law_seen", "_law_seen", defArgs st_seen_4665, defBody st_seen_4665, defScope st_seen_4665, [], []⟩
def d_due_seen_6cad : He.DefD := ⟨("_law_due_seen", none), "_law_due_seen", "_law_due_seen", defArgs st_due_seen_6cad, defBody st_due_seen_6cad, defScope st_due_seen_6cad, [], []⟩
def d_law_9d52 : He.DefD := ⟨("law", none), "law", "law", defArgs st_law_9d52, defBody st_law_9d52, defScope st_law_9d52, [], []⟩
def d_BatchFailed : He.DefD := ⟨("BatchFailed", some "__init__"), "__init__", "BatchFailed.__init__", defArgs st_BatchFailed, defBody st_BatchFailed, defScope st_BatchFailed, [], []⟩
def d_InvalidMark : He.DefD := ⟨("InvalidMark", some "__init__"), "__init__", "InvalidMark.__init__", defArgs st_InvalidMark, defBody st_InvalidMark, defScope st_InvalidMark, [], []⟩
def d_InvalidWeight : He.DefD := ⟨("InvalidWeight", some "__init__"), "__init__", "InvalidWeight.__init__", defArgs st_InvalidWeight, defBody st_InvalidWeight, defScope st_InvalidWeight, [], []⟩
def d_NoSuchItem : He.DefD := ⟨("NoSuchItem", some "__init__"), "__init__", "NoSuchItem.__init__", defArgs st_NoSuchItem, defBody st_NoSuchItem, defScope st_NoSuchItem, [], []⟩
def d_NoSuchRule : He.DefD := ⟨("NoSuchRule", some "__init__"), "__init__", "NoSuchRule.__init__", defArgs st_NoSuchRule, defBody st_NoSuchRule, defScope st_NoSuchRule, [], []⟩
def d_NoSuchStep : He.DefD := ⟨("NoSuchStep", some "__init__"), "__init__", "NoSuchStep.__init__", defArgs st_NoSuchStep, defBody st_NoSuchStep, defScope st_NoSuchStep, [], []⟩
def fnl_0 : List He.DefD := [d_draws, d_next, d_size_3de8, d_items_cafd, d_rules_ccf3, d_panel_3836, d_equal_17a7, d_class_4baa, d_is_integer_8a5f, d_is_within_3133, d_Book_state_at_6f16, d_state_at_fc8a, d_states_right_c0ad, d_Book_need_idle_a04f, d_need_item_44a7x, d_is_weight_6941, d_need_weight_e9e3x, d_with_mark_afe3, d_is_mark_f168, d_need_mark_99a8x, d_panel_with_item_7316x, d_with_rule_a65e, d_panel_with_rule_8c3dx, d_without_rule_deb1, d_without_item_d43ax, d_panel_after_5edax, d_Book_keep_3d59, d_Book_act_56f7, d_Book_set_mark_d750, d_Book_set_weight_80a1, d_Book_add_item_5e3f, d_Book_drop_item_c5ba, d_Book_add_rule_b6a8, d_Book_drop_rule_1deb, d_Book_undo_292d, d_do_b165, d_limited_235d, d_hear_2917, d_is_action_d748, d_Book_performL_64d2, d_Book_runL_35fc, d_Book_log_00c1, d_Book___len___d650, d_full_right_e03f, d_undone_a4b1]
def fnl_1 : List He.DefD := [d_is_tuple_7f37, d_item_fault_6a6b, d_rule_fault_c7d6, d_find_fault_effe, d_Book___init___c536, d_Book_actions_a3eb, d_sixty_right_718b, d_one_be76, d_action_0538, d_integer_3c56, d_index_4ee9, d_rule_error_9639, d_item_error_fff0, d_without_de10, d_after_0530, d_Book_panel_40b0, d_Book___str___29d1, d_seen_4665, d_due_seen_6cad, d_law_9d52, d_BatchFailed, d_InvalidMark, d_InvalidWeight, d_NoSuchItem, d_NoSuchRule, d_NoSuchStep]
def fnl : List He.DefD := fnl_0 ++ fnl_1
def fal : List He.Fa := [.glo "_law_draws", .glo "_law_next", .glo "_law_size", .glo "_law_items", .glo "_law_rules", .glo "_law_panel", .glo "_law_equal", .glo "_law_class", .glo "is_integer", .glo "is_within", .glo "Book", .glo "_law_state_at", .glo "_law_states_right", .glo "Book", .glo "need_item", .glo "is_weight", .glo "need_weight", .glo "with_mark", .glo "is_mark", .glo "need_mark", .glo "panel_with_item", .glo "with_rule", .glo "panel_with_rule", .glo "without_rule", .glo "without_item", .glo "panel_after", .glo "Book", .glo "Book", .glo "Book", .glo "Book", .glo "Book", .glo "Book", .glo "Book", .glo "Book", .glo "Book", .glo "_law_do", .glo "_law_limited", .glo "_law_hear", .glo "is_action", .glo "Book", .glo "Book", .glo "Book", .glo "Book", .glo "_law_full_right", .glo "_law_undone", .glo "is_tuple", .glo "item_fault", .glo "rule_fault", .glo "find_fault", .glo "Book", .glo "Book", .glo "_law_sixty_right", .glo "_law_one", .glo "_law_action", .glo "_law_integer", .glo "_law_index", .glo "_law_rule_error", .glo "_law_item_error", .glo "_law_without", .glo "_law_after", .glo "Book", .glo "Book", .glo "_law_seen", .glo "_law_due_seen", .glo "law", .free "all", .free "bool", .free "enumerate", .free "int", .free "isinstance", .free "len", .free "list", .free "max", .free "min", .free "range", .free "str", .free "tuple", .free "zip", .int "ACTIONS" 60, .int "BATCH" 20, .int "ITEMS" 8, .int "LOG_ROWS" 10, .int "MARK" 1000000000, .int "RULES" 16, .int "WEIGHT" 1000000, .cls "Book", .mkr "Book", .noat "Book" "panels", .noat "Book" "kept", .noat "Book" "rows", .noat "Book" "is_busy", .meth "Book" "state_at", .meth "Book" "need_idle", .meth "Book" "keep", .meth "Book" "act", .meth "Book" "set_mark", .meth "Book" "set_weight", .meth "Book" "add_item", .meth "Book" "drop_item", .meth "Book" "add_rule", .meth "Book" "drop_rule", .meth "Book" "undo", .meth "Book" "perform", .meth "Book" "run", .meth "Book" "log", .meth "Book" "__len__", .meth "Book" "actions", .meth "Book" "panel", .meth "Book" "__str__"]
abbrev R : PySem.W.OpenRow := PySem.W.OpenLaw.row PySem.Challenge.rw_poolmarks_k67_undo_and_kept_states
def exl (K : PySem.W.Frag) : Bool := excsB K x0L xqL subL xfL && (initEB K "BatchFailed" ["index"] && (initEB K "InvalidMark" ["mark"] && (initEB K "InvalidWeight" ["weight"] && (initEB K "NoSuchItem" ["item"] && (initEB K "NoSuchRule" ["rule"] && (initEB K "NoSuchStep" ["step"] && (dcB K "ARGUMENTS" [("set_mark", .int 2), ("set_weight", .int 2), ("add_item", .int 2), ("drop_item", .int 1), ("add_rule", .int 2), ("drop_rule", .int 1)] && (true))))))))
def tbl : List He.Tab := [(fun K => He.ga K "ARGUMENTS", ["set_mark", "set_weight", "add_item", "drop_item", "add_rule", "drop_rule"])]
def sl0 : List Addr := ([0, 3, 6, 16, 19, 20, 21, 30, 31, 32, 43, 46, 47, 48, 50, 51, 62, 63, 74, 75, 86, 87, 98, 99, 110, 111, 122, 123, 134, 137, 138, 139, 141, 142, 153, 156, 157, 158, 160, 161] : List Addr) ++ ([172, 175, 176, 177, 179, 180, 191, 194, 195, 196, 198, 199, 200, 211, 214, 215, 216, 218, 219, 220, 231, 234, 235, 236, 238, 239, 240, 244, 247, 248, 249, 251, 254, 255, 256, 258, 261, 262, 263, 265] : List Addr) ++ ([268, 269, 270, 272, 275, 276, 277, 279, 282, 283, 284, 286, 289, 290, 291, 293, 294, 295, 296, 298, 299, 300, 301, 303, 306, 307, 308, 310, 313, 314, 315, 317, 320, 321, 322, 323, 325, 328, 329, 330] : List Addr) ++ ([332, 335, 336, 337, 339, 342, 343, 344, 346, 349, 350, 351, 353, 356, 357, 358, 360, 363, 364, 365, 367, 370, 371, 372, 381, 384, 385, 386, 388, 391, 392, 393, 395, 398, 399, 400, 402, 405, 406, 407] : List Addr) ++ ([409, 412, 413, 414, 416, 419, 420, 421, 423, 426, 427, 428, 430, 433, 434, 435, 437, 440, 441, 442, 444, 447, 448, 449, 451, 454, 455, 456, 458, 461, 462, 463, 464, 466, 467, 468, 469, 471, 474, 475] : List Addr) ++ ([476, 478, 481, 482, 483, 485, 488, 489, 490, 492, 495, 496, 497, 499, 502, 503, 504, 506, 509, 510, 511, 513, 516, 517, 518, 520, 523, 524, 525, 527, 530, 531, 532, 534, 537, 538, 539, 541, 544, 545] : List Addr) ++ ([546, 548, 551, 552, 553, 555, 556, 557, 558, 562, 563, 564, 565, 567, 570, 571, 572, 574, 577, 578, 579, 581, 582, 583, 584, 586, 589, 590, 591, 593, 596, 597, 598, 600, 603, 604, 605, 607, 610, 611] : List Addr) ++ ([612, 614, 617, 618, 619, 621, 624, 625, 626, 628, 631, 632, 633, 635, 638, 639, 640, 642, 643, 644, 645, 647, 650, 651, 652, 654, 657, 658, 659, 661, 664, 665, 666, 668, 671, 672, 673, 675, 678, 679] : List Addr) ++ ([680, 682, 685, 686, 687, 689, 692, 693, 694, 696, 699, 700, 701, 703, 706, 707, 708, 710, 713, 714, 715, 717, 720, 721, 722, 724, 727, 728, 729, 731, 734, 735, 736, 738, 741, 742, 743] : List Addr)
abbrev hk : PySem.W.Hook := hookXT 0 sl0 fal fnl exl tbl tfl
def ob (s : PySem.W.SharedT) : AlX := obsXTG 0 sl0 fal fnl exl tbl tfl (HandSHeadRun.getT s)
def loose : List PySem.Str := (["_wall", "ITEMS", "RULES", "MARK", "WEIGHT", "ACTIONS", "BATCH", "MarksError", "InvalidPanel", "Full", "LastItem", "TooManyActions", "Busy", "NothingToUndo", "InvalidBatch", "BatchFailed", "InvalidMark", "InvalidWeight", "NoSuchItem", "NoSuchRule", "NoSuchStep", "is_integer", "is_within", "is_tuple", "is_mark", "is_weight", "item_fault", "rule_fault", "find_fault", "without_item"] : List PySem.Str) ++ (["with_mark", "with_rule", "without_rule", "LOG_ROWS", "ARGUMENTS", "is_action", "need_item", "need_mark", "need_weight", "panel_with_item", "panel_with_rule", "panel_after", "Book", "_law_draws", "_law_next", "_law_one", "_law_equal", "_law_integer", "_law_size", "_law_items", "_law_rules", "_law_panel", "_law_index", "_law_item_error", "_law_rule_error", "_law_without", "_law_after", "_law_action", "_law_do", "_law_seen"] : List PySem.Str) ++ (["_law_due_seen", "_law_class", "_law_undone", "_law_state_at", "_law_states_right", "_law_limited", "_law_hear", "_law_full_right", "_law_sixty_right"] : List PySem.Str)
theorem run0_false (w : World) : Run0 R (PySem.W.view R.prog [77]) 20000 loose (w.withFollow "special-get-raises" false) := by
  intro os
  kernel_rfl
theorem runF_false (w : World) : SaysGT R 20000 sl0 fal [] exl tbl tfl (w.withFollow "special-get-raises" false) := by
  intro os
  kernel_rfl
theorem runD0_false (w : World) : SaysGT R 20000 sl0 [] fnl_0 (fun _ => true) [] [] (w.withFollow "special-get-raises" false) := by
  intro os
  kernel_rfl
theorem runD1_false (w : World) : SaysGT R 20000 sl0 [] fnl_1 (fun _ => true) [] [] (w.withFollow "special-get-raises" false) := by
  intro os
  kernel_rfl
theorem run_false (w : World) : HandSHeadRun.RunEq R (PySem.W.view R.prog [77]) hk ob 20000 loose (w.withFollow "special-get-raises" false) :=
  SaysGT.run (run0_false w) (SaysGT.join (runF_false w) (SaysGT.app (runD0_false w) (runD1_false w)))
theorem run0_true (w : World) : Run0 R (PySem.W.view R.prog [77]) 20000 loose (w.withFollow "special-get-raises" true) := by
  intro os
  kernel_rfl
theorem runF_true (w : World) : SaysGT R 20000 sl0 fal [] exl tbl tfl (w.withFollow "special-get-raises" true) := by
  intro os
  kernel_rfl
theorem runD0_true (w : World) : SaysGT R 20000 sl0 [] fnl_0 (fun _ => true) [] [] (w.withFollow "special-get-raises" true) := by
  intro os
  kernel_rfl
theorem runD1_true (w : World) : SaysGT R 20000 sl0 [] fnl_1 (fun _ => true) [] [] (w.withFollow "special-get-raises" true) := by
  intro os
  kernel_rfl
theorem run_true (w : World) : HandSHeadRun.RunEq R (PySem.W.view R.prog [77]) hk ob 20000 loose (w.withFollow "special-get-raises" true) :=
  SaysGT.run (run0_true w) (SaysGT.join (runF_true w) (SaysGT.app (runD0_true w) (runD1_true w)))
theorem run (w : World) : HandSHeadRun.RunEq R (PySem.W.view R.prog [77]) hk ob 20000 loose w := PySem.W.byRow2 "special-get-raises" (P := HandSHeadRun.RunEq R (PySem.W.view R.prog [77]) hk ob 20000 loose) run_false run_true w
end Pm
set_option Elab.async false
set_option linter.all false
set_option maxRecDepth 100000
set_option maxHeartbeats 1000000
namespace Pm
set_option autoImplicit false
open PySem PySem.Spec
open PyProof.Rows hiding St
open L2

instance : Coe Addr Ad := ⟨.a⟩
def Ad.at (Z : Hp) : Ad → V → Prop
  | .a x, v => v = .ref x
  | .f φ, v => ∀ Z', Same Z Z' → φ Z' v
theorem Ad.at.mono {Z Z' : Hp} (e : Same Z Z') : ∀ {p : Ad} {v : V}, p.at Z v → p.at Z' v
  | .a _, _, h => h
  | .f _, _, h => fun Z2 k => h Z2 fun a o x => k a o (e a o x)
inductive D where
  | non | bl (b : Bool) | int (i : Int) | str (x : Str)
  | lst (xs : List D) | tup (xs : List D) | dct (ks : List Key) (xs : List D) | obj (a : Ad)

mutual
def At (K : PySem.W.Frag) (Z : Hp) : D → V → Prop
  | .non, v => v = .non
  | .bl b, v => v = .bl b
  | .int i, v => v = .int i
  | .str x, v => v = .str x
  | .lst xs, v => ∃ a vs, v = .ref a ∧ Z a = some (.lst vs) ∧ Ats K Z xs vs
  | .tup xs, v => ∃ a vs, v = .ref a ∧ SqT K Z a vs ∧ Ats K Z xs vs
  | .dct ks xs, v => ∃ a kvs, v = .ref a ∧ Z a = some (.dK kvs) ∧ kvs.map (·.1) = ks ∧ Ats K Z xs (kvs.map (·.2))
  | .obj a, v => a.at Z v
def Ats (K : PySem.W.Frag) (Z : Hp) : List D → List V → Prop
  | [], vs => vs = []
  | d :: ds, vs => ∃ w ws, vs = w :: ws ∧ At K Z d w ∧ Ats K Z ds ws
end
theorem seqT {K : PySem.W.Frag} {H H' : Hp} {a : Addr} {xs : List V} (e : Same H H') (h : SqT K H a xs) : SqT K H' a xs := by
  rcases h with (h | ⟨o, h⟩) | h
  · exact .inl (.inl (e _ _ h))
  · exact .inl (.inr ⟨o, e _ _ h⟩)
  · exact .inr h
section
variable {K : PySem.W.Frag} {Z Z' : Hp}
mutual
theorem At.mono (e : Same Z Z') : ∀ (d : D) (v : V), At K Z d v → At K Z' d v
  | .non, _, h => h
  | .bl _, _, h => h
  | .int _, _, h => h
  | .str _, _, h => h
  | .lst xs, v, h => by
    simp only [At] at h ⊢
    obtain ⟨a, vs, h1, h2, h3⟩ := h
    exact ⟨a, vs, h1, e _ _ h2, Ats.mono e xs vs h3⟩
  | .tup xs, v, h => by
    simp only [At] at h ⊢
    obtain ⟨a, vs, h1, h2, h3⟩ := h
    exact ⟨a, vs, h1, seqT e h2, Ats.mono e xs vs h3⟩
  | .dct ks xs, v, h => by
    simp only [At] at h ⊢
    obtain ⟨a, vs, h1, h2, h3, h4⟩ := h
    exact ⟨a, vs, h1, e _ _ h2, h3, Ats.mono e xs _ h4⟩
  | .obj _, _, h => Ad.at.mono e h
theorem Ats.mono (e : Same Z Z') : ∀ (ds : List D) (vs : List V), Ats K Z ds vs → Ats K Z' ds vs
  | [], _, h => h
  | d :: ds, vs, h => by
    simp only [Ats] at h ⊢
    obtain ⟨w, ws, h1, h2, h3⟩ := h
    exact ⟨w, ws, h1, At.mono e d w h2, Ats.mono e ds ws h3⟩
end
theorem Ats.len : ∀ {ds : List D} {vs : List V}, Ats K Z ds vs → vs.length = ds.length
  | [], _, h => by simp only [Ats] at h; subst h; rfl
  | d :: ds, vs, h => by
    simp only [Ats] at h
    obtain ⟨w, ws, rfl, _, h3⟩ := h
    simp [Ats.len h3]
theorem Ats.get : ∀ {ds : List D} {vs : List V} {i : Nat} {d : D}, Ats K Z ds vs → ds[i]? = some d → ∃ v, vs[i]? = some v ∧ At K Z d v
  | [], _, _, _, _, e => by simp at e
  | d :: ds, vs, i, d', h, e => by
    simp only [Ats] at h
    obtain ⟨w, ws, rfl, h2, h3⟩ := h
    cases i with
    | zero => simp at e; subst e; exact ⟨w, rfl, h2⟩
    | succ i =>
      obtain ⟨v, h4, h5⟩ := Ats.get (i := i) h3 (by simpa using e)
      exact ⟨v, by simpa using h4, h5⟩
theorem Ats.append : ∀ {ds es : List D} {vs ws : List V}, Ats K Z ds vs → Ats K Z es ws → Ats K Z (ds ++ es) (vs ++ ws)
  | [], _, _, _, h, h' => by simp only [Ats] at h; subst h; exact h'
  | d :: ds, es, vs, ws, h, h' => by
    simp only [Ats] at h
    obtain ⟨w, vs, rfl, h2, h3⟩ := h
    exact ⟨w, vs ++ ws, rfl, h2, Ats.append h3 h'⟩
theorem Ats.take : ∀ {ds : List D} {vs : List V} (n : Nat), Ats K Z ds vs → Ats K Z (ds.take n) (vs.take n)
  | _, _, 0, _ => by simp [Ats]
  | [], _, n + 1, h => by simp only [Ats] at h; subst h; simp [Ats]
  | d :: ds, vs, n + 1, h => by
    simp only [Ats] at h
    obtain ⟨w, vs, rfl, h2, h3⟩ := h
    exact ⟨w, vs.take n, rfl, h2, Ats.take n h3⟩
theorem Ats.drop : ∀ {ds : List D} {vs : List V} (n : Nat), Ats K Z ds vs → Ats K Z (ds.drop n) (vs.drop n)
  | _, _, 0, h => h
  | [], _, n + 1, h => by simp only [Ats] at h; subst h; simp [Ats]
  | d :: ds, vs, n + 1, h => by
    simp only [Ats] at h
    obtain ⟨w, vs, rfl, h2, h3⟩ := h
    exact Ats.drop n h3
theorem Ats.bls : ∀ {ns : List Bool} {vs : List V}, Ats K Z (ns.map D.bl) vs → vs = ns.map V.bl
  | [], _, h => h
  | n :: ns, vs, h => by
    simp only [List.map_cons, Ats] at h
    obtain ⟨w, ws, rfl, h2, h3⟩ := h
    simp only [At] at h2
    subst h2
    rw [Ats.bls h3]; rfl
end

inductive L where | val (d : D) | own (ds : List D) | dic (kds : List (Key × D))
def L.ow : L → Bool | .val _ => false | _ => true
def L.ds : L → List D | .val _ => [] | .own ds => ds | .dic kds => kds.map (·.2)
def L.ho : L → List V → HO | .dic kds, vs => .dK ((kds.map (·.1)).zip vs) | _, vs => .lst vs
structure S (γ : Type) where
  ρ : List (Option L)
  g : γ
def none0 (K : PySem.W.Frag) : GP Unit := ⟨K, fun _ _ => False, fun _ _ _ => True, fun _ _ _ _ _ _ _ _ => trivial, fun _ _ _ _ _ h => h.elim, fun _ => none⟩

structure Fra where
  F : Hp
  B : Addr → Prop
  bf : ∀ a, B a → ∃ o, F a = some o
variable {γ : Type}
structure Rel (G : GP γ) (F : Fra) (Z : Hp) (s : S γ) (σ : St) (H : Hp) : Prop where
  z : Same Z H
  f : Same F.F H
  zb : ∀ a, F.B a → Z a = none
  len : σ.length = s.ρ.length
  loc : ∀ (i : Nat) (d : D), s.ρ[i]? = some (some (.val d)) → ∃ v, σ[i]? = some (some v) ∧ At G.K Z d v
  ownL : ∀ (i : Nat) (l : L), s.ρ[i]? = some (some l) → l.ow = true → ∃ a vs, σ[i]? = some (some (.ref a)) ∧ H a = some (l.ho vs) ∧ Ats G.K Z l.ds vs ∧ Z a = none ∧ F.F a = none ∧ ¬ G.foot s.g a
  injL : ∀ (i j : Nat) (l m : L) (a : Addr), i ≠ j → s.ρ[i]? = some (some l) → l.ow = true → s.ρ[j]? = some (some m) → m.ow = true → σ[i]? = some (some (.ref a)) → σ[j]? = some (some (.ref a)) → False
  j : G.J s.g Z H
  zf : ∀ a, G.foot s.g a → Z a = none
  ff : ∀ a, G.foot s.g a → F.F a = none
  fl : Same G.fl Z
theorem Rel.own {G : GP γ} {F : Fra} {Z : Hp} {s : S γ} {σ : St} {H : Hp} (r : Rel G F Z s σ H) (i : Nat) (ds : List D) (h : s.ρ[i]? = some (some (.own ds))) : ∃ a vs, σ[i]? = some (some (.ref a)) ∧ H a = some (.lst vs) ∧ Ats G.K Z ds vs ∧ Z a = none ∧ F.F a = none ∧ ¬ G.foot s.g a := r.ownL i _ h rfl
abbrev Nob (s : S γ) (σ : St) (a : Addr) : Prop := ∀ (i : Nat) (l : L), s.ρ[i]? = some (some l) → l.ow = true → σ[i]? ≠ some (some (.ref a))
structure Wk (s s' : S γ) : Prop where
  g : s'.g = s.g
  len : s'.ρ.length = s.ρ.length
  le : ∀ (i : Nat) l, s'.ρ[i]? = some (some l) → s.ρ[i]? = some (some l)
theorem Wk.refl (s : S γ) : Wk s s := ⟨rfl, rfl, fun _ _ h => h⟩
section
variable {G : GP γ} {F : Fra} {Z : Hp} {s s' : S γ} {σ : St} {H H' : Hp}
theorem Fra.nb {F : Fra} {a : Addr} (h : F.F a = none) : ¬ F.B a := fun b => by
  obtain ⟨o, e⟩ := F.bf a b
  rw [h] at e; cases e
theorem Rel.weak (r : Rel G F Z s σ H) (w : Wk s s') : Rel G F Z s' σ H := by
  obtain ⟨g', ρ'⟩ := s'
  obtain ⟨hg, hl, he⟩ := w
  simp only at hg
  subst hg
  exact ⟨r.z, r.f, r.zb, r.len.trans hl.symm, fun i d h => r.loc i d (he _ _ h), fun i l h => r.ownL i l (he _ _ h), fun i j l m a n h1 o1 h2 => r.injL i j l m a n (he _ _ h1) o1 (he _ _ h2), r.j, r.zf, r.ff, r.fl⟩
theorem Rel.grow (r : Rel G F Z s σ H) (k : Same H H') : Rel G F Z s σ H' :=
  ⟨r.z.trans k, r.f.trans k, r.zb, r.len, r.loc, fun i l h o => let ⟨a, vs, h1, h2, h3⟩ := r.ownL i l h o; ⟨a, vs, h1, k _ _ h2, h3⟩, r.injL,
    G.stay _ _ _ _ _ r.j (Same.refl _) fun a h => by
      obtain ⟨o, e⟩ := G.live _ _ _ _ r.j h
      rw [e, k _ _ e], r.zf, r.ff, r.fl⟩
theorem same_upd {p : Addr} {o : HO} (h : H p = none) : Same H (upd H p o) := fun b x e => by
  rw [upd_ne (ne_of_none e h)]
  exact e
theorem same_upd2 {p : Addr} {o : HO} (k : Same Z H) (h : H p = some o) (hz : Z p = none) : Same (upd Z p o) H := fun b x e => by
  by_cases hb : b = p
  · subst hb; rw [upd_same] at e; rw [h, ← e]
  · rw [upd_ne hb] at e; exact k _ _ e
theorem Rel.settle (r : Rel G F Z s σ H) {p : Addr} {o : HO} (hp : H p = some o) (hz : Z p = none) (hf : ¬ G.foot s.g p) (hb : ¬ F.B p)
    (ho : Nob s σ p) : Rel G F (upd Z p o) s σ H := by
  have k := same_upd (o := o) hz
  refine ⟨same_upd2 r.z hp hz, r.f, fun a h => by rw [upd_ne (show a ≠ p from fun e => hb (by rw [← e]; exact h))]; exact r.zb a h, r.len, fun i d h => ?_, fun i l h o1 => ?_, r.injL, G.stay _ _ _ _ _ r.j k fun _ _ => rfl, fun a h => ?_, r.ff, r.fl.trans k⟩
  · obtain ⟨v, h1, h2⟩ := r.loc i d h
    exact ⟨v, h1, At.mono k _ _ h2⟩
  · obtain ⟨a, vs, h1, h2, h3, h4, h5⟩ := r.ownL i l h o1
    refine ⟨a, vs, h1, h2, Ats.mono k _ _ h3, ?_, h5⟩
    rw [upd_ne (show a ≠ p from fun e => ho i l h o1 (by rw [← e]; exact h1))]
    exact h4
  · rw [upd_ne (show a ≠ p from fun e => hf (by rw [← e]; exact h))]
    exact r.zf a h
theorem Rel.new (r : Rel G F Z s σ H) {p : Addr} {o : HO} (hp : H p = none) : Rel G F (upd Z p o) s σ (upd H p o) := by
  have k := same_upd (o := o) hp
  refine (r.grow k).settle upd_same (r.z.free hp) (fun h => ?_) (Fra.nb (r.f.free hp)) fun i l h o1 e => ?_
  · obtain ⟨o, e⟩ := G.live _ _ _ _ r.j h
    rw [hp] at e; cases e
  · obtain ⟨a, vs, h1, h2, _⟩ := r.ownL i l h o1
    rw [h1] at e
    cases e
    rw [hp] at h2; cases h2
theorem Rel.put (r : Rel G F Z s σ H) {i : Nat} {d : D} {v : V} (h : At G.K Z d v) : Rel G F Z ⟨s.ρ.set i (some (.val d)), s.g⟩ (σ.set i (some v)) H := by
  refine ⟨r.z, r.f, r.zb, by simpa using r.len, fun j e hj => ?_, fun j l hj o1 => ?_, fun j k l m a n h1 o1 h2 o2 h3 h4 => ?_, r.j, r.zf, r.ff, r.fl⟩
  · by_cases hij : i = j
    · subst hij
      have hl : i < s.ρ.length := by
        have := (List.getElem?_eq_some_iff.mp hj).1
        simpa using this
      rw [List.getElem?_set_self hl] at hj
      cases hj
      exact ⟨v, by rw [List.getElem?_set_self (by rw [r.len]; exact hl)], h⟩
    · rw [List.getElem?_set_ne hij] at hj
      rw [List.getElem?_set_ne hij]
      exact r.loc j e hj
  · have hij : i ≠ j := by
      intro e
      subst e
      have hl : i < s.ρ.length := by
        have := (List.getElem?_eq_some_iff.mp hj).1
        simpa using this
      rw [List.getElem?_set_self hl] at hj
      cases hj
      cases o1
    rw [List.getElem?_set_ne hij] at hj
    rw [List.getElem?_set_ne hij]
    exact r.ownL j l hj o1
  · have ne : ∀ {j : Nat} {l : L}, (s.ρ.set i (some (L.val d)))[j]? = some (some l) → l.ow = true → i ≠ j := fun {j l} hj o1 e => by
      subst e
      have hl : i < s.ρ.length := by
        have := (List.getElem?_eq_some_iff.mp hj).1
        simpa using this
      rw [List.getElem?_set_self hl] at hj
      cases hj
      cases o1
    have n1 := ne h1 o1
    have n2 := ne h2 o2
    rw [List.getElem?_set_ne n1] at h1 h3
    rw [List.getElem?_set_ne n2] at h2 h4
    exact r.injL j k l m a n h1 o1 h2 o2 h3 h4
theorem Rel.putW (r : Rel G F Z s σ H) {i : Nat} {l : L} (ol : l.ow = true) {a : Addr} {vs : List V} (ha : H a = some (l.ho vs)) (h : Ats G.K Z l.ds vs) (hz : Z a = none) (hF : F.F a = none) (hf : ¬ G.foot s.g a)
    (ho : Nob s σ a) : Rel G F Z ⟨s.ρ.set i (some l), s.g⟩ (σ.set i (some (.ref a))) H := by
  have at_i : ∀ {m : L}, (s.ρ.set i (some l))[i]? = some (some m) → i < s.ρ.length ∧ m = l := fun {m} hj => by
    have hl : i < s.ρ.length := by
      have := (List.getElem?_eq_some_iff.mp hj).1
      simpa using this
    rw [List.getElem?_set_self hl] at hj
    cases hj
    exact ⟨hl, rfl⟩
  have other : ∀ {j : Nat} {m : L}, i ≠ j → (s.ρ.set i (some l))[j]? = some (some m) → m.ow = true → (σ.set i (some (V.ref a)))[j]? ≠ some (some (.ref a)) := fun {j m} n h1 o1 => by
    rw [List.getElem?_set_ne n] at h1 ⊢
    exact ho j m h1 o1
  refine ⟨r.z, r.f, r.zb, by simpa using r.len, fun j e hj => ?_, fun j m hj o1 => ?_, fun j k m m' b n h1 o1 h2 o2 h3 h4 => ?_, r.j, r.zf, r.ff, r.fl⟩
  · have hij : i ≠ j := by
      intro e; subst e
      obtain ⟨_, e⟩ := at_i hj
      rw [← e] at ol; cases ol
    rw [List.getElem?_set_ne hij] at hj ⊢
    exact r.loc j e hj
  · by_cases hij : i = j
    · subst hij
      obtain ⟨hl, e⟩ := at_i hj
      subst e
      exact ⟨a, vs, List.getElem?_set_self (by rw [r.len]; exact hl), ha, h, hz, hF, hf⟩
    · rw [List.getElem?_set_ne hij] at hj ⊢
      exact r.ownL j m hj o1
  · by_cases hij : i = j
    · subst hij
      obtain ⟨hl, e⟩ := at_i h1
      rw [List.getElem?_set_self (by rw [r.len]; exact hl)] at h3
      cases h3
      exact other n h2 o2 h4
    · by_cases hik : i = k
      · subst hik
        obtain ⟨hl, e⟩ := at_i h2
        rw [List.getElem?_set_self (by rw [r.len]; exact hl)] at h4
        cases h4
        exact other (Ne.symm n) h1 o1 h3
      · rw [List.getElem?_set_ne hij] at h1 h3
        rw [List.getElem?_set_ne hik] at h2 h4
        exact r.injL j k m m' b n h1 o1 h2 o2 h3 h4
theorem Rel.putOwn (r : Rel G F Z s σ H) {i : Nat} {ds : List D} {a : Addr} {vs : List V} (ha : H a = some (.lst vs)) (h : Ats G.K Z ds vs) (hz : Z a = none) (hF : F.F a = none) (hf : ¬ G.foot s.g a)
    (ho : Nob s σ a) : Rel G F Z ⟨s.ρ.set i (some (.own ds)), s.g⟩ (σ.set i (some (.ref a))) H := r.putW (l := .own ds) rfl ha h hz hF hf ho
theorem Rel.writeL (r : Rel G F Z s σ H) {i : Nat} {l m : L} {a : Addr} {ws : List V} (hi : s.ρ[i]? = some (some l)) (ol : l.ow = true) (om : m.ow = true) (ha : σ[i]? = some (some (.ref a))) (h : Ats G.K Z m.ds ws) :
    Rel G F Z ⟨s.ρ.set i (some m), s.g⟩ σ (upd H a (m.ho ws)) := by
  obtain ⟨b, vs, h1, h2, h3, h4, h5, h6⟩ := r.ownL i l hi ol
  rw [ha] at h1
  cases h1
  have hl : i < s.ρ.length := (List.getElem?_eq_some_iff.mp hi).1
  have back : ∀ {j : Nat} {n : L}, (s.ρ.set i (some m))[j]? = some (some n) → n.ow = true → ∃ n', s.ρ[j]? = some (some n') ∧ n'.ow = true := fun {j n} hj o1 => by
    by_cases hij : i = j
    · subst hij; exact ⟨l, hi, ol⟩
    · rw [List.getElem?_set_ne hij] at hj; exact ⟨n, hj, o1⟩
  refine ⟨fun b o e => ?_, fun b o e => ?_, r.zb, by simpa using r.len, fun j e hj => ?_, fun j n hj o1 => ?_, fun j k p q b n h1 o1 h2 o2 h3 h4 => ?_, G.stay _ _ _ _ _ r.j (Same.refl _) fun b hb => ?_, r.zf, r.ff, r.fl⟩
  · rw [upd_ne (ne_of_none e h4)]; exact r.z _ _ e
  · rw [upd_ne (ne_of_none e h5)]; exact r.f _ _ e
  · have hij : i ≠ j := by
      intro e; subst e
      rw [List.getElem?_set_self hl] at hj
      cases hj
      cases om
    rw [List.getElem?_set_ne hij] at hj
    exact r.loc j e hj
  · by_cases hij : i = j
    · subst hij
      rw [List.getElem?_set_self hl] at hj
      cases hj
      exact ⟨a, ws, ha, upd_same, h, h4, h5, h6⟩
    · rw [List.getElem?_set_ne hij] at hj
      obtain ⟨c, us, k1, k2, k3⟩ := r.ownL j n hj o1
      refine ⟨c, us, k1, ?_, k3⟩
      rw [upd_ne]
      · exact k2
      · intro e; subst e
        exact r.injL i j l n c hij hi ol hj o1 ha k1
  · obtain ⟨p', e1, f1⟩ := back h1 o1
    obtain ⟨q', e2, f2⟩ := back h2 o2
    exact r.injL j k p' q' b n e1 f1 e2 f2 h3 h4
  · exact upd_ne fun e => h6 (e ▸ hb)
theorem Rel.write (r : Rel G F Z s σ H) {i : Nat} {ds es : List D} {a : Addr} {ws : List V} (hi : s.ρ[i]? = some (some (.own ds))) (ha : σ[i]? = some (some (.ref a))) (h : Ats G.K Z es ws) :
    Rel G F Z ⟨s.ρ.set i (some (.own es)), s.g⟩ σ (upd H a (.lst ws)) := r.writeL (l := .own ds) (m := .own es) hi rfl rfl ha h
theorem map_fst_zip' : ∀ {ks : List Key} {vs : List V}, ks.length = vs.length → (ks.zip vs).map (·.1) = ks
  | [], [], _ => rfl
  | k :: ks, v :: vs, h => by simp only [List.zip_cons_cons, List.map_cons, map_fst_zip' (ks := ks) (vs := vs) (by simpa using h)]
theorem map_snd_zip' : ∀ {ks : List Key} {vs : List V}, ks.length = vs.length → (ks.zip vs).map (·.2) = vs
  | [], [], _ => rfl
  | k :: ks, v :: vs, h => by simp only [List.zip_cons_cons, List.map_cons, map_snd_zip' (ks := ks) (vs := vs) (by simpa using h)]
def L.d : L → D | .val d => d | .own ds => .lst ds | .dic kds => .dct (kds.map (·.1)) (kds.map (·.2))
theorem At.ofL {K : PySem.W.Frag} {l : L} (ol : l.ow = true) {a : Addr} {vs : List V} (hz : Z a = some (l.ho vs)) (h : Ats K Z l.ds vs) : At K Z l.d (.ref a) := by
  cases l with
  | val d => cases ol
  | own ds => exact ⟨a, vs, rfl, hz, h⟩
  | dic kds =>
    have hl : (kds.map (·.1)).length = vs.length := by have := h.len; simp only [L.ds, List.length_map] at this ⊢; exact this.symm
    exact ⟨a, _, rfl, hz, map_fst_zip' hl, by rw [map_snd_zip' hl]; exact h⟩
theorem Rel.freezeL (r : Rel G F Z s σ H) {i : Nat} {l : L} (hi : s.ρ[i]? = some (some l)) (ol : l.ow = true) :
    ∃ a Z', Same Z Z' ∧ σ[i]? = some (some (.ref a)) ∧ At G.K Z' l.d (.ref a) ∧ Rel G F Z' ⟨s.ρ.set i (some (.val l.d)), s.g⟩ σ H := by
  obtain ⟨a, vs, h1, h2, h3, h4, h5, h6⟩ := r.ownL i l hi ol
  have hl : i < s.ρ.length := (List.getElem?_eq_some_iff.mp hi).1
  have k := same_upd (o := l.ho vs) h4
  have at' : At G.K (upd Z a (l.ho vs)) l.d (.ref a) := At.ofL ol upd_same (Ats.mono k _ _ h3)
  refine ⟨a, upd Z a (l.ho vs), k, h1, at', same_upd2 r.z h2 h4, r.f, fun b hb => by rw [upd_ne (show b ≠ a from fun e => Fra.nb h5 (by rw [← e]; exact hb))]; exact r.zb b hb, by simpa using r.len, fun j e hj => ?_, fun j m hj o1 => ?_, fun j k p q b n q1 o1 q2 o2 q3 q4 => ?_, G.stay _ _ _ _ _ r.j k fun _ _ => rfl, fun b hb => ?_, r.ff, r.fl.trans k⟩
  · by_cases hij : i = j
    · subst hij
      rw [List.getElem?_set_self hl] at hj
      cases hj
      exact ⟨_, h1, at'⟩
    · rw [List.getElem?_set_ne hij] at hj
      obtain ⟨v, k1, k2⟩ := r.loc j e hj
      exact ⟨v, k1, At.mono k _ _ k2⟩
  · have hij : i ≠ j := by
      intro e; subst e
      rw [List.getElem?_set_self hl] at hj
      cases hj
      cases o1
    rw [List.getElem?_set_ne hij] at hj
    obtain ⟨c, us, k1, k2, k3, k4, k5⟩ := r.ownL j m hj o1
    refine ⟨c, us, k1, k2, Ats.mono k _ _ k3, ?_, k5⟩
    rw [upd_ne]
    · exact k4
    · intro e; subst e
      exact r.injL i j l m c hij hi ol hj o1 h1 k1
  · have ne : ∀ {j : Nat} {m : L}, (s.ρ.set i (some (L.val l.d)))[j]? = some (some m) → m.ow = true → s.ρ[j]? = some (some m) := fun {j m} hj o1 => by
      by_cases hij : i = j
      · subst hij
        rw [List.getElem?_set_self hl] at hj
        cases hj
        cases o1
      · rw [List.getElem?_set_ne hij] at hj; exact hj
    exact r.injL j k p q b n (ne q1 o1) o1 (ne q2 o2) o2 q3 q4
  · rw [upd_ne (show b ≠ a from fun e => h6 (by rw [← e]; exact hb))]
    exact r.zf b hb
theorem Rel.freeze (r : Rel G F Z s σ H) {i : Nat} {ds : List D} (hi : s.ρ[i]? = some (some (.own ds))) :
    ∃ a Z', Same Z Z' ∧ σ[i]? = some (some (.ref a)) ∧ At G.K Z' (.lst ds) (.ref a) ∧ Rel G F Z' ⟨s.ρ.set i (some (.val (.lst ds))), s.g⟩ σ H := r.freezeL (l := .own ds) hi rfl
end
end Pm
set_option Elab.async false
set_option linter.all false
set_option maxRecDepth 100000
set_option maxHeartbeats 1000000
set_option autoImplicit false
namespace Pm
open PySem PySem.Spec
open PyProof.Rows hiding St
open L2
variable {γ : Type}

abbrev PEx (γ : Type) := S γ → (D → S γ → Prop) → Prop
abbrev PTx (γ : Type) := S γ → (Bool → S γ → Prop) → Prop
abbrev PAx (γ : Type) := S γ → (List D → S γ → Prop) → Prop
abbrev POx (γ : Type) := S γ → (Option Int → S γ → Prop) → Prop
structure En (γ : Type) where
  nx : S γ → Prop
  rt : D → γ → Prop
  bk : S γ → Prop := fun _ => False
  ct : S γ → Prop := fun _ => False
abbrev PSx (γ : Type) := En γ → S γ → Prop
abbrev PGx (γ : Type) := D → S γ → (S γ → Prop) → Prop
abbrev DK := D → Prop

def lE (G : GP γ) (t : PEx γ) : TE := fun σ H Q => ∃ F Z s R, Rel G F Z s σ H ∧ t s R ∧ ∀ d s' Z' v H', R d s' → Same Z Z' → Rel G F Z' s' σ H' → At G.K Z' d v → Q v H'
def lT (G : GP γ) (t : PTx γ) : TT := fun σ H Q => ∃ F Z s R, Rel G F Z s σ H ∧ t s R ∧ ∀ b s' Z' H', R b s' → Same Z Z' → Rel G F Z' s' σ H' → Q b H'
def lA (G : GP γ) (t : PAx γ) : TA := fun σ H Q => ∃ F Z s R, Rel G F Z s σ H ∧ t s R ∧ ∀ ds s' Z' vs H', R ds s' → Same Z Z' → Rel G F Z' s' σ H' → Ats G.K Z' ds vs → Q vs H'
def lO (G : GP γ) (t : POx γ) : TO := fun σ H Q => ∃ F Z s R, Rel G F Z s σ H ∧ t s R ∧ ∀ o s' Z' H', R o s' → Same Z Z' → Rel G F Z' s' σ H' → Q o H'
def lF (G : GP γ) (t : PAx γ) : TE := fun σ H Q => ∃ F Z s R, Rel G F Z s σ H ∧ t s R ∧ ∀ ds s' Z' a vs H', R ds s' → Same Z Z' → Rel G F Z' s' σ H' → H' a = some (.lst vs) → Ats G.K Z' ds vs → Z' a = none → F.F a = none → ¬ G.foot s'.g a →
  Nob s' σ a → Q (.ref a) H'
def lS (G : GP γ) (t : PSx γ) : TS := fun De σ H => ∃ F Z s E, Rel G F Z s σ H ∧ t E s ∧
  (∀ s' Z' σ' H', E.nx s' → Same Z Z' → Rel G F Z' s' σ' H' → De.nx σ' H') ∧
  (∀ d s' Z' σ' v H', E.rt d s'.g → Same Z Z' → Rel G F Z' s' σ' H' → At G.K Z' d v → De.rt v H') ∧
  (∀ s' Z' σ' H', E.bk s' → Same Z Z' → Rel G F Z' s' σ' H' → De.bk σ' H') ∧
  (∀ s' Z' σ' H', E.ct s' → Same Z Z' → Rel G F Z' s' σ' H' → De.ct σ' H')
def lG (G : GP γ) (js : List Nat) (t : PGx γ) : TG := fun v σ H Q => ∃ F Z s d R, Rel G F Z s σ H ∧ At G.K Z d v ∧ t d s R ∧
  ∀ s' Z' σ' H', R s' → Same Z Z' → Rel G F Z' s' σ' H' → H' = H → (∀ j, j ∉ js → σ'[j]? = σ[j]?) → σ'.length = σ.length → Q σ' H'

abbrev QE (X : Cx) (G : GP γ) (e : Expr) (t : PEx γ) : Prop := PE X e (lE G t)
abbrev QF (X : Cx) (G : GP γ) (e : Expr) (t : PAx γ) : Prop := PE X e (lF G t)
abbrev QT (X : Cx) (G : GP γ) (e : Expr) (t : PTx γ) : Prop := PT X e (lT G t)
abbrev QW (X : Cx) (G : GP γ) (e : Expr) (t : PTx γ) : Prop := PW X e (lT G t)
abbrev QA (X : Cx) (G : GP γ) (es : List Expr) (t : PAx γ) : Prop := PA X es (lA G t)
abbrev QO (X : Cx) (G : GP γ) (e : Option Expr) (t : POx γ) : Prop := PO X e (lO G t)
abbrev QS (X : Cx) (G : GP γ) (st : Stmt) (t : PSx γ) : Prop := PS X st (lS G t)
abbrev QSs (X : Cx) (G : GP γ) (st : List Stmt) (t : PSx γ) : Prop := PSs X st (lS G t)
theorem PE.imp {X : Cx} {e : Expr} {t t' : TE} (h : PE X e t) (k : ∀ σ H Q, t' σ H Q → t σ H Q) : PE X e t' := ⟨fun pins s σ H Q I w => h.run pins s σ H Q I (k _ _ _ w)⟩
theorem PT.imp {X : Cx} {e : Expr} {t t' : TT} (h : PT X e t) (k : ∀ σ H Q, t' σ H Q → t σ H Q) : PT X e t' := ⟨fun pins s σ H Q I w => h.run pins s σ H Q I (k _ _ _ w)⟩
theorem PW.imp {X : Cx} {e : Expr} {t t' : TT} (h : PW X e t) (k : ∀ σ H Q, t' σ H Q → t σ H Q) : PW X e t' := ⟨fun wh pins s σ H Q I w => h.run wh pins s σ H Q I (k _ _ _ w)⟩
theorem PA.imp {X : Cx} {e : List Expr} {t t' : TA} (h : PA X e t) (k : ∀ σ H Q, t' σ H Q → t σ H Q) : PA X e t' := ⟨fun pos pins s σ H Q I w => h.run pos pins s σ H Q I (k _ _ _ w)⟩
theorem PO.imp {X : Cx} {e : Option Expr} {t t' : TO} (h : PO X e t) (k : ∀ σ H Q, t' σ H Q → t σ H Q) : PO X e t' := ⟨fun pins s σ H Q I w => h.run pins s σ H Q I (k _ _ _ w)⟩
theorem PS.imp {X : Cx} {e : Stmt} {t t' : TS} (h : PS X e t) (k : ∀ De σ H, t' De σ H → t De σ H) : PS X e t' := ⟨fun pins s σ H De I w => h.run pins s σ H De I (k _ _ _ w)⟩
theorem PSs.imp {X : Cx} {e : List Stmt} {t t' : TS} (h : PSs X e t) (k : ∀ De σ H, t' De σ H → t De σ H) : PSs X e t' := ⟨fun pins s σ H De I w => h.run pins s σ H De I (k _ _ _ w)⟩
theorem PG.imp {X : Cx} {e : Expr} {t t' : TG} (h : PG X e t) (k : ∀ v σ H Q, t' v σ H Q → t v σ H Q) : PG X e t' := ⟨fun pins s σ H v u Q I r w => h.run pins s σ H v u Q I r (k _ _ _ _ w)⟩

structure Ext (Z H Z' H' : Hp) : Prop where
  hh : Same H H'
  zz : Same Z Z'
  zh : Same Z' H'
  nw : ∀ a o, Z' a = some o → Z a = none → H a = none
theorem Ext.refl {Z H : Hp} (k : Same Z H) : Ext Z H Z H := ⟨Same.refl _, Same.refl _, k, fun a o h h' => by rw [h] at h'; cases h'⟩
theorem Ext.new {Z H : Hp} {p : Addr} {o : HO} (k : Same Z H) (hp : H p = none) : Ext Z H (upd Z p o) (upd H p o) := by
  have zp := k.free hp
  refine ⟨same_upd hp, same_upd zp, fun a u e => ?_, fun a u e n => ?_⟩
  · by_cases h : a = p
    · subst h; rw [upd_same] at e ⊢; exact e
    · rw [upd_ne h] at e ⊢; exact k _ _ e
  · by_cases h : a = p
    · rw [h]; exact hp
    · rw [upd_ne h, n] at e; cases e
section
variable {G : GP γ} {F : Fra} {Z Z' : Hp} {s : S γ} {σ : St} {H H' : Hp}
theorem Rel.ext (r : Rel G F Z s σ H) (x : Ext Z H Z' H') : Rel G F Z' s σ H' := by
  have zn : ∀ {a : Addr}, Z a = none → (∃ o, H a = some o) → Z' a = none := fun {a} n ⟨o, e⟩ => by
    cases q : Z' a with
    | none => rfl
    | some u => have := x.nw a u q n; rw [e] at this; cases this
  refine ⟨x.zh, r.f.trans x.hh, fun a h => zn (r.zb a h) (let ⟨o, e⟩ := F.bf a h; ⟨o, r.f _ _ e⟩), r.len, fun i d h => ?_, fun i l h ol => ?_, r.injL, G.stay _ _ _ _ _ (r.grow x.hh).j x.zz fun _ _ => rfl, fun a h => zn (r.zf a h) (G.live _ _ _ _ r.j h), r.ff, r.fl.trans x.zz⟩
  · obtain ⟨v, h1, h2⟩ := r.loc i d h
    exact ⟨v, h1, At.mono x.zz _ _ h2⟩
  · obtain ⟨a, vs, h1, h2, h3, h4, h5⟩ := r.ownL i l h ol
    exact ⟨a, vs, h1, x.hh _ _ h2, Ats.mono x.zz _ _ h3, zn h4 ⟨_, h2⟩, h5⟩
end

def dOp2 (K : PySem.W.Frag) (p : D → D → DK → Prop) : R2 := fun x y H Q => ∃ Z d e R, Same Z H ∧ At K Z d x ∧ At K Z e y ∧ p d e R ∧ ∀ z Z' v H', R z → Ext Z H Z' H' → At K Z' z v → Q v H'
def dOp1 (K : PySem.W.Frag) (p : D → DK → Prop) : V → Hp → VK → Prop := fun x H Q => ∃ Z d R, Same Z H ∧ At K Z d x ∧ p d R ∧ ∀ z Z' v H', R z → Ext Z H Z' H' → At K Z' z v → Q v H'
def dCall (K : PySem.W.Frag) (p : List D → DK → Prop) : List V → Hp → VK → Prop := fun xs H Q => ∃ Z ds R, Same Z H ∧ Ats K Z ds xs ∧ p ds R ∧ ∀ z Z' v H', R z → Ext Z H Z' H' → At K Z' z v → Q v H'
def dOp2F (K : PySem.W.Frag) (p : D → D → (List D → Prop) → Prop) : R2 := fun x y H Q => ∃ Z d e R, Same Z H ∧ At K Z d x ∧ At K Z e y ∧ p d e R ∧ ∀ zs a vs H', R zs → Same H H' → H a = none → H' a = some (.lst vs) → Ats K Z zs vs → Q (.ref a) H'

section
variable {X : Cx} {G : GP γ} {a b c e : Expr} {pos : Pos}

def qC (d : D) : PEx γ := fun s R => R d s
theorem qe_of_C {v : V} {d : D} (h : PE X e (tC v)) (k : ∀ Z, At G.K Z d v) : QE X G e (qC d) :=
  PE.imp h fun σ H Q ⟨F, Z, s, R, r, t, q⟩ => q d s Z v H t (Same.refl _) r (k Z)
theorem qe_int {i j} : QE X G (.Constant (.int i) j pos) (qC (.int i)) := qe_of_C pe_int fun _ => rfl
theorem qe_bl {i j} : QE X G (.Constant (.bool i) j pos) (qC (.bl i)) := qe_of_C pe_bl fun _ => rfl
theorem qe_non {j} : QE X G (.Constant .none j pos) (qC .non) := qe_of_C pe_non fun _ => rfl
theorem qe_str {i j} : QE X G (.Constant (.str i) j pos) (qC (.str i)) := qe_of_C pe_str fun _ => rfl
def qVar (i : Nat) : PEx γ := fun s R => match s.ρ[i]? with
  | some (some (.val d)) => R d s
  | some (some (.own ds)) => R (.lst ds) ⟨s.ρ.set i (some (.val (.lst ds))), s.g⟩
  | some (some (.dic kds)) => R (.dct (kds.map (·.1)) (kds.map (·.2))) ⟨s.ρ.set i (some (.val (.dct (kds.map (·.1)) (kds.map (·.2))))), s.g⟩
  | _ => False
theorem qe_of_var {i : Nat} (h : PE X e (tVar i)) : QE X G e (qVar i) := by
  refine PE.imp h fun σ H Q ⟨F, Z, s, R, r, t, q⟩ => ?_
  unfold qVar at t
  split at t
  · rename_i d hd
    obtain ⟨v, h1, h2⟩ := r.loc i d hd
    exact ⟨v, h1, q d s Z v H t (Same.refl _) r h2⟩
  · rename_i ds hd
    obtain ⟨a, Z', k, h1, h2, r'⟩ := r.freeze hd
    exact ⟨.ref a, h1, q _ _ Z' _ H t k r' h2⟩
  · rename_i kds hd
    obtain ⟨a, Z', k, h1, h2, r'⟩ := r.freezeL hd rfl
    exact ⟨.ref a, h1, q _ _ Z' _ H t k r' h2⟩
  · exact t.elim
theorem qv (i : Nat) {x : Str} {pos : Pos} (hN : X.N[i]? = some x := by rfl) (hv : Vis X.env.scope x := by first | exact Or.inl rfl | exact Or.inr (Or.inl rfl) | exact Or.inr (Or.inr rfl)) (hd : (x == ("__debug__" : Str)) = false := by decide)
    (hcd : (x == ("__classdict__" : Str)) = false := by decide) : QE X G (.Name x pos) (qVar i) := qe_of_var (pe_var hN hv hd hcd)
theorem qe_glob {x : Str} {u : Value} {v : V} {d : D} (hg : Gl X x) (hm : X.mg x = some u) (r : RelV v u) (k : ∀ Z, At G.K Z d v) (hd : (x == ("__debug__" : Str)) = false := by decide) : QE X G (.Name x pos) (qC d) := qe_of_C (pe_glob hg hm r hd) k

def qBin (p : D → D → DK → Prop) (ta tb : PEx γ) : PEx γ := fun s R => ta s fun x s1 => tb s1 fun y s2 => p x y fun z => R z s2
theorem lbin {p : D → D → DK → Prop} {ta tb : PEx γ} {σ : St} {H : Hp} {Q : VK} (h : lE G (qBin p ta tb) σ H Q) : tOp (dOp2 G.K p) (lE G ta) (lE G tb) σ H Q := by
  obtain ⟨F, Z, s, R, r, t, q⟩ := h
  refine ⟨F, Z, s, _, r, t, fun x s1 Z1 v1 H1 t1 k1 r1 a1 => ⟨F, Z1, s1, _, r1, t1, fun y s2 Z2 v2 H2 t2 k2 r2 a2 => ?_⟩⟩
  exact ⟨Z2, x, y, _, r2.z, At.mono k2 _ _ a1, a2, t2, fun z Z3 v H3 t3 x3 a3 => q z s2 Z3 v H3 t3 ((k1.trans k2).trans x3.zz) (r2.ext x3) a3⟩
theorem qe_bin {op : Operator} {p : D → D → DK → Prop} {ta tb : PEx γ} (ho : OpR X (binaryOp op) (dOp2 G.K p)) (ha : QE X G a ta) (hb : QE X G b tb) : QE X G (.BinOp a op b pos) (qBin p ta tb) :=
  PE.imp (pe_op ho ha hb) fun _ _ _ h => lbin h
theorem qe_cmp {op : CmpOp} {p : D → D → DK → Prop} {ta tb : PEx γ} (ho : OpR X (compareOp op) (dOp2 G.K p)) (ha : QE X G a ta) (hb : QE X G b tb) (hm : behindInMarks op b = false) : QE X G (.Compare a [op] [b] pos) (qBin p ta tb) :=
  PE.imp (pe_cmpR ho ha hb hm) fun _ _ _ h => lbin h
def qB (t : PEx γ) : PTx γ := fun s R => t s fun x s1 => match x with | .bl b => R b s1 | _ => False
theorem lB {t : PEx γ} {te : TE} (k : ∀ σ H Q, lE G t σ H Q → te σ H Q) {σ : St} {H : Hp} {Q : Bool → Hp → Prop} (h : lT G (qB t) σ H Q) : te σ H fun x H1 => ∃ c, x = .bl c ∧ Q c H1 := by
  obtain ⟨F, Z, s, R, r, t, q⟩ := h
  refine k _ _ _ ⟨F, Z, s, _, r, t, fun d s1 Z1 v H1 t1 k1 r1 a1 => ?_⟩
  cases d with
  | bl b =>
    have e : v = .bl b := a1
    exact ⟨b, e, q b s1 Z1 H1 t1 k1 r1⟩
  | _ => exact t1.elim
theorem qt_cmp {op : CmpOp} {p : D → D → DK → Prop} {ta tb : PEx γ} (ho : OpR X (compareOp op) (dOp2 G.K p)) (ha : QE X G a ta) (hb : QE X G b tb) (hm : behindInMarks op b = false) : QT X G (.Compare a [op] [b] pos) (qB (qBin p ta tb)) :=
  PT.imp (pt_cmpR ho ha hb hm) fun _ _ _ h => lB (te := tOp (dOp2 G.K p) (lE G ta) (lE G tb)) (fun _ _ _ h => lbin h) h
theorem qt_val {t : PEx γ} (h : QE X G e t) (he : ∀ whole, isTrue e X.env whole = (do let v ← whole; standAt e.pos; holding [v] (truthy v)) := by intro _; rfl) : QT X G e (qB t) :=
  PT.imp (pt_val h he) fun _ _ _ h => lB (fun _ _ _ h => h) h
def qChain (p p' : D → D → DK → Prop) (ta tb tc : PEx γ) : PEx γ := fun s R => ta s fun x s1 => tb s1 fun y s2 => p x y fun z => match z with
  | .bl true => tc s2 fun w s3 => p' y w fun u => R u s3
  | .bl false => R (.bl false) s2
  | _ => False
theorem lchain {p p' : D → D → DK → Prop} {ta tb tc : PEx γ} {σ : St} {H : Hp} {Q : VK} (h : lE G (qChain p p' ta tb tc) σ H Q) : tChain (dOp2 G.K p) (dOp2 G.K p') (lE G ta) (lE G tb) (lE G tc) σ H Q := by
  obtain ⟨F, Z, s, R, r, t, q⟩ := h
  refine ⟨F, Z, s, _, r, t, fun x s1 Z1 v1 H1 t1 k1 r1 a1 => ⟨F, Z1, s1, _, r1, t1, fun y s2 Z2 v2 H2 t2 k2 r2 a2 => ?_⟩⟩
  refine ⟨Z2, x, y, _, r2.z, At.mono k2 _ _ a1, a2, t2, fun z Z3 v H3 t3 x3 a3 => ?_⟩
  have r3 := r2.ext x3
  cases z with
  | bl b =>
    have e : v = .bl b := a3
    refine ⟨b, e, ?_⟩
    cases b with
    | true =>
      rw [if_pos rfl]
      refine ⟨F, Z3, s2, _, r3, t3, fun w s4 Z4 v4 H4 t4 k4 r4 a4 => ?_⟩
      exact ⟨Z4, y, w, _, r4.z, At.mono (x3.zz.trans k4) _ _ a2, a4, t4, fun u Z5 v5 H5 t5 x5 a5 => q u s4 Z5 v5 H5 t5 ((((k1.trans k2).trans x3.zz).trans k4).trans x5.zz) (r4.ext x5) a5⟩
    | false =>
      rw [if_neg Bool.false_ne_true]
      exact q _ s2 Z3 _ H3 t3 ((k1.trans k2).trans x3.zz) r3 rfl
  | _ => exact t3.elim
theorem qe_chain {op op' : CmpOp} {p p' : D → D → DK → Prop} {ta tb tc : PEx γ} (ho : OpR X (compareOp op) (dOp2 G.K p)) (ho' : OpR X (compareOp op') (dOp2 G.K p')) (ha : QE X G a ta) (hb : QE X G b tb) (hc : QE X G c tc)
    (hm : lastMarks [op, op'] [b, c] = false := by rfl) : QE X G (.Compare a [op, op'] [b, c] pos) (qChain p p' ta tb tc) :=
  PE.imp (pe_chain ho ho' ha hb hc hm) fun _ _ _ h => lchain h
def qUn (p : D → DK → Prop) (ta : PEx γ) : PEx γ := fun s R => ta s fun x s1 => p x fun z => R z s1
theorem qe_un {op : UnaryOp} {p : D → DK → Prop} {ta : PEx γ} (ho : UnR X (unaryOp op) (dOp1 G.K p)) (ha : QE X G a ta) : QE X G (.UnaryOp op a pos) (qUn p ta) := by
  refine PE.imp (pe_un ho ha) fun σ H Q ⟨F, Z, s, R, r, t, q⟩ => ?_
  exact ⟨F, Z, s, _, r, t, fun x s1 Z1 v1 H1 t1 k1 r1 a1 => ⟨Z1, x, _, r1.z, a1, t1, fun z Z3 v H3 t3 x3 a3 => q z s1 Z3 v H3 t3 (k1.trans x3.zz) (r1.ext x3) a3⟩⟩

def Br (b : Bool) (A B : Prop) : Prop := (b = true → A) ∧ (b = false → B)
def qAndV (ta tb : PEx γ) : PEx γ := fun s R => qB ta s fun b s1 => Br b (tb s1 R) (R (.bl false) s1)
def qNotV (ta : PEx γ) : PEx γ := fun s R => qB ta s fun b s1 => R (.bl (!b)) s1
theorem lQB {ta : PEx γ} {σ : St} {H : Hp} {F : Fra} {Z : Hp} {s : S γ} {R : Bool → S γ → Prop} {Q : Bool → Hp → Prop} (r : Rel G F Z s σ H) (t : qB ta s R) (q : ∀ b s' Z' H', R b s' → Same Z Z' → Rel G F Z' s' σ H' → Q b H') :
    lE G ta σ H fun x H1 => ∃ c, x = .bl c ∧ Q c H1 := lB (fun _ _ _ h => h) ⟨F, Z, s, R, r, t, q⟩
theorem qe_one {op : BoolOp} {ta : PEx γ} (ha : QE X G a ta) : QE X G (.BoolOp op [a] pos) ta := pe_one ha
theorem qe_and {rest : List Expr} {ta tb : PEx γ} (ha : QE X G a ta) (hb : QE X G (.BoolOp .And (b :: rest) pos) tb) : QE X G (.BoolOp .And (a :: b :: rest) pos) (qAndV ta tb) := by
  refine PE.imp (pe_and ha hb) fun σ H Q ⟨F, Z, s, R, r, t, q⟩ => ?_
  refine lQB r t fun b s1 Z1 H1 t1 k1 r1 => ?_
  cases b with
  | true => rw [if_pos rfl]; exact ⟨F, Z1, s1, R, r1, t1.1 rfl, fun d s' Z' v H' t' k' => q d s' Z' v H' t' (k1.trans k')⟩
  | false => rw [if_neg Bool.false_ne_true]; exact q _ s1 Z1 _ H1 (t1.2 rfl) k1 r1 rfl
theorem qe_not {ta : PEx γ} (ha : QE X G a ta) : QE X G (.UnaryOp .Not a pos) (qNotV ta) := by
  refine PE.imp (pe_not ha) fun σ H Q ⟨F, Z, s, R, r, t, q⟩ => ?_
  exact lQB r t fun b s1 Z1 H1 t1 k1 r1 => q _ s1 Z1 _ H1 t1 k1 r1 rfl
def qAnd (ta tb : PTx γ) : PTx γ := fun s R => ta s fun b s1 => Br b (tb s1 R) (R false s1)
def qOr (ta tb : PTx γ) : PTx γ := fun s R => ta s fun b s1 => Br b (R true s1) (tb s1 R)
def qNot (ta : PTx γ) : PTx γ := fun s R => ta s fun b s1 => R (!b) s1
theorem qw_and1 {op : BoolOp} {ta : PTx γ} (ha : QT X G a ta) : QW X G (.BoolOp op [a] pos) ta := by
  first
    | exact pw_and1 ha
    | (cases op; exact pw_and1 ha; exact pw_or1 ha)
theorem qw_and {rest : List Expr} {ta tb : PTx γ} (ha : QT X G a ta) (hb : QW X G (.BoolOp .And (b :: rest) pos) tb) : QW X G (.BoolOp .And (a :: b :: rest) pos) (qAnd ta tb) := by
  refine PW.imp (pw_and ha hb) fun σ H Q ⟨F, Z, s, R, r, t, q⟩ => ?_
  refine ⟨F, Z, s, _, r, t, fun b s1 Z1 H1 t1 k1 r1 => ?_⟩
  cases b with
  | true => rw [if_pos rfl]; exact ⟨F, Z1, s1, R, r1, t1.1 rfl, fun b s' Z' H' t' k' => q b s' Z' H' t' (k1.trans k')⟩
  | false => rw [if_neg Bool.false_ne_true]; exact q _ s1 Z1 H1 (t1.2 rfl) k1 r1
theorem qw_or {rest : List Expr} {ta tb : PTx γ} (ha : QT X G a ta) (hb : QW X G (.BoolOp .Or (b :: rest) pos) tb) : QW X G (.BoolOp .Or (a :: b :: rest) pos) (qOr ta tb) := by
  refine PW.imp (pw_or ha hb) fun σ H Q ⟨F, Z, s, R, r, t, q⟩ => ?_
  refine ⟨F, Z, s, _, r, t, fun b s1 Z1 H1 t1 k1 r1 => ?_⟩
  cases b with
  | true => rw [if_pos rfl]; exact q _ s1 Z1 H1 (t1.1 rfl) k1 r1
  | false => rw [if_neg Bool.false_ne_true]; exact ⟨F, Z1, s1, R, r1, t1.2 rfl, fun b s' Z' H' t' k' => q b s' Z' H' t' (k1.trans k')⟩
theorem qt_not {ta : PTx γ} (ha : QT X G a ta) : QT X G (.UnaryOp .Not a pos) (qNot ta) := by
  refine PT.imp (pt_not ha) fun σ H Q ⟨F, Z, s, R, r, t, q⟩ => ?_
  exact ⟨F, Z, s, _, r, t, fun b s1 Z1 H1 t1 k1 r1 => q _ s1 Z1 H1 t1 k1 r1⟩
def qIfE (tc : PTx γ) (ta tb : PEx γ) : PEx γ := fun s R => tc s fun k s1 => Br k (ta s1 R) (tb s1 R)
theorem qe_if {tc : PTx γ} {ta tb : PEx γ} (hc : QT X G c tc) (ha : QE X G a ta) (hb : QE X G b tb) : QE X G (.IfExp c a b pos) (qIfE tc ta tb) := by
  refine PE.imp (pe_ifExp hc ha hb) fun σ H Q ⟨F, Z, s, R, r, t, q⟩ => ?_
  refine ⟨F, Z, s, _, r, t, fun k s1 Z1 H1 t1 k1 r1 => ?_⟩
  cases k with
  | true => rw [if_pos rfl]; exact ⟨F, Z1, s1, R, r1, t1.1 rfl, fun d s' Z' v H' t' k' => q d s' Z' v H' t' (k1.trans k')⟩
  | false => rw [if_neg Bool.false_ne_true]; exact ⟨F, Z1, s1, R, r1, t1.2 rfl, fun d s' Z' v H' t' k' => q d s' Z' v H' t' (k1.trans k')⟩

def qNil : PAx γ := fun s R => R [] s
def qCons (ta : PEx γ) (tr : PAx γ) : PAx γ := fun s R => ta s fun x s1 => tr s1 fun xs s2 => R (x :: xs) s2
theorem qa_nil : QA X G [] (qNil : PAx γ) := PA.imp pa_nil fun σ H Q ⟨F, Z, s, R, r, t, q⟩ => q [] s Z [] H t (Same.refl _) r rfl
theorem qa_cons {es : List Expr} {ta : PEx γ} {tr : PAx γ} (ha : QE X G e ta) (hr : QA X G es tr) (hs : starEach (e :: es) X.env = (false, eval e X.env) :: starEach es X.env := by rfl) : QA X G (e :: es) (qCons ta tr) := by
  refine PA.imp (pa_cons ha hr hs) fun σ H Q ⟨F, Z, s, R, r, t, q⟩ => ?_
  refine ⟨F, Z, s, _, r, t, fun x s1 Z1 v1 H1 t1 k1 r1 a1 => ⟨F, Z1, s1, _, r1, t1, fun xs s2 Z2 vs H2 t2 k2 r2 a2 => ?_⟩⟩
  exact q _ s2 Z2 _ H2 t2 (k1.trans k2) r2 ⟨v1, vs, rfl, At.mono k2 _ _ a1, a2⟩
def qTup (t : PAx γ) : PEx γ := fun s R => t s fun xs s1 => xs.length ≤ sizeLine ∧ R (.tup xs) s1
def qLst (t : PAx γ) : PAx γ := fun s R => t s fun xs s1 => xs.length ≤ sizeLine ∧ R xs s1
theorem qe_tup {es : List Expr} {t : PAx γ} {x1} (h : QA X G es t) : QE X G (.Tuple es x1 pos) (qTup t) := by
  refine PE.imp (pe_tup h) fun σ H Q ⟨F, Z, s, R, r, t, q⟩ => ?_
  refine ⟨F, Z, s, _, r, t, fun xs s1 Z1 vs H1 t1 k1 r1 a1 => ⟨by rw [a1.len]; exact t1.1, fun p hp => ?_⟩⟩
  have x := Ext.new (o := HO.tup vs) r1.z hp
  exact q _ s1 _ _ _ t1.2 (k1.trans x.zz) (r1.ext x) ⟨p, vs, rfl, .inl (.inl upd_same), Ats.mono x.zz _ _ a1⟩
theorem Rel.fresh {F : Fra} {Z : Hp} {s : S γ} {σ : St} {H : Hp} (r : Rel G F Z s σ H) {p : Addr} (hp : H p = none) : Z p = none ∧ F.F p = none ∧ ¬ G.foot s.g p ∧ Nob s σ p := by
  refine ⟨r.z.free hp, r.f.free hp, fun h => ?_, fun i l h ol e => ?_⟩
  · obtain ⟨o, e⟩ := G.live _ _ _ _ r.j h
    rw [hp] at e; cases e
  · obtain ⟨a, vs, h1, h2, _⟩ := r.ownL i l h ol
    rw [h1] at e; cases e
    rw [hp] at h2; cases h2
theorem qf_lst {es : List Expr} {t : PAx γ} (h : QA X G es t) : QF X G (.List es pos) (qLst t) := by
  refine PE.imp (pe_lst h) fun σ H Q ⟨F, Z, s, R, r, t, q⟩ => ?_
  refine ⟨F, Z, s, _, r, t, fun xs s1 Z1 vs H1 t1 k1 r1 a1 => ⟨by rw [a1.len]; exact t1.1, fun p hp => ?_⟩⟩
  obtain ⟨f1, f2, f3, f4⟩ := r1.fresh hp
  exact q _ s1 Z1 p vs _ t1.2 k1 (r1.grow (same_upd hp)) upd_same a1 f1 f2 f3 f4
def qSet (t : PAx γ) : PEx γ := fun s R => t s fun ds s1 => R (.lst ds) s1
theorem qe_set {t : PAx γ} (h : QF X G e t) : QE X G e (qSet t) := by
  refine PE.imp h fun σ H Q ⟨F, Z, s, R, r, t, q⟩ => ?_
  refine ⟨F, Z, s, _, r, t, fun ds s1 Z1 a vs H1 t1 k1 r1 ha a1 hz hf hg ho => ?_⟩
  have k := same_upd (o := HO.lst vs) hz
  exact q _ s1 (upd Z1 a (.lst vs)) _ H1 t1 (k1.trans k) (r1.settle ha hz hg (Fra.nb hf) ho) ⟨a, vs, rfl, upd_same, Ats.mono k _ _ a1⟩

def qCall (p : List D → DK → Prop) (t : PAx γ) : PEx γ := fun s R => t s fun xs s1 => p xs fun z => R z s1
theorem lcall {p : List D → DK → Prop} {t : PAx γ} {σ : St} {H : Hp} {Q : VK} (h : lE G (qCall p t) σ H Q) : tCB (dCall G.K p) (lA G t) σ H Q := by
  obtain ⟨F, Z, s, R, r, t, q⟩ := h
  refine ⟨F, Z, s, _, r, t, fun xs s1 Z1 vs H1 t1 k1 r1 a1 => ?_⟩
  exact ⟨Z1, xs, _, r1.z, a1, t1, fun z Z3 v H3 t3 x3 a3 => q z s1 Z3 v H3 t3 (k1.trans x3.zz) (r1.ext x3) a3⟩
section
variable {x : Str} {p : Pos} {es : List Expr} {t : PAx γ} {id T : String}
theorem qe_callB {pr : List D → DK → Prop} (hc : CallR X (.builtin id) (dCall G.K pr)) (hg : Gl X x) (hm : X.mg x = none) (hv : bootBuiltins x = some (.builtin id)) (ha : QA X G (e :: es) t) (hn : x ≠ "__name__" := by decide) (hdb : (x == ("__debug__" : Str)) = false := by decide)
    (he : starEach (e :: es) X.env = (false, eval e X.env) :: starEach es X.env := by rfl) (hpl : (backTo pos (starEach es X.env)).any (·.1) = false := by rfl) : QE X G (.Call (.Name x p) (e :: es) [] pos) (qCall pr t) :=
  PE.imp (pe_callB hc hg hm hv ha hn hdb he hpl) fun _ _ _ h => lcall h
theorem qe_callTy {pr : List D → DK → Prop} (hc : CallR X (.type T) (dCall G.K pr)) (hg : Gl X x) (hm : X.mg x = none) (hv : bootBuiltins x = some (.type T)) (ha : QA X G (e :: es) t) (hn : x ≠ "__name__" := by decide) (hdb : (x == ("__debug__" : Str)) = false := by decide)
    (he : starEach (e :: es) X.env = (false, eval e X.env) :: starEach es X.env := by rfl) (hpl : (backTo pos (starEach es X.env)).any (·.1) = false := by rfl) : QE X G (.Call (.Name x p) (e :: es) [] pos) (qCall pr t) :=
  PE.imp (pe_callTy hc hg hm hv ha hn hdb he hpl) fun _ _ _ h => lcall h
end

abbrev Spec (γ : Type) := List D → γ → (D → γ → Prop) → Prop
def spG (G : GP γ) (f : Spec γ) : Sp := fun vs H Q _ => ∃ Z ds g R, Same Z H ∧ Ats G.K Z ds vs ∧ G.J g Z H ∧ (∀ a, G.foot g a → Z a = none) ∧ f ds g R ∧
  ∀ d g' Z' v H', R d g' → Same Z Z' → Same Z' H' → (∀ a o, H a = some o → ¬ G.foot g a → H' a = some o) → (∀ a o, Z' a = some o → Z a = none → H a = none) → G.J g' Z' H' → (∀ a, G.foot g' a → Z' a = none ∧ (G.foot g a ∨ H a = none)) → At G.K Z' d v → Q v H'
abbrev Spec0 := List D → DK → Prop
def spP (K : PySem.W.Frag) (f : Spec0) : Sp := fun vs H Q _ => ∃ Z ds R, Same Z H ∧ Ats K Z ds vs ∧ f ds R ∧ ∀ d Z' v H', R d → Same Z Z' → Same Z' H' → Same H H' → (∀ a o, Z' a = some o → Z a = none → H a = none) → At K Z' d v → Q v H'
structure Def (X : Cx) (x : Str) (n : Nat) (sp : Sp) : Prop where
  ex : ∃ f fd k ps, FnOk X.prog X.w X.K X.mg X.base CX0 k f fd ps sp ∧ Room k X.A ∧ X.mg x = some (.ref f) ∧ PySem.W.keepIn X.K (.ref f) = true ∧ Binds X.K fd ps [] ∧ ps.length = n
def qCallP (f : Spec0) (t : PAx γ) : PEx γ := fun s R => t s fun xs s1 => f xs fun z => R z s1
def qCallG (f : Spec γ) (t : PAx γ) : PEx γ := fun s R => t s fun xs s1 => f xs s1.g fun z g' => R z ⟨s1.ρ, g'⟩
section
variable {x : Str} {p : Pos} {es : List Expr} {t : PAx γ} {n : Nat}
theorem lcallP {f : Spec0} {σ : St} {H : Hp} {Q : VK} (h : lE G (qCallP f t) σ H Q) : tCall (spP G.K f) [] E0 (lA G t) σ H Q := by
  obtain ⟨F, Z, s, R, r, t, q⟩ := h
  refine ⟨F, Z, s, _, r, t, fun xs s1 Z1 vs H1 t1 k1 r1 a1 => ?_⟩
  refine ⟨Z1, xs, _, r1.z, by rw [List.append_nil]; exact a1, t1, fun z Z3 v H3 t3 k3 z3 h3 n3 a3 => ?_⟩
  exact q z s1 Z3 v H3 t3 (k1.trans k3) (r1.ext ⟨h3, k3, z3, n3⟩) a3
theorem qe_call {f : Spec0} (d : Def X x n (spP G.K f)) (hg : Gl X x) (ha : QA X G (e :: es) t) (hdb : (x == ("__debug__" : Str)) = false := by decide) (he : starEach (e :: es) X.env = (false, eval e X.env) :: starEach es X.env := by rfl) (hpl : (backTo pos (starEach es X.env)).any (·.1) = false := by rfl) :
    QE X G (.Call (.Name x p) (e :: es) [] pos) (qCallP f t) := by
  obtain ⟨fa, fd, k, ps, F, hr, hm, hk, hb, _⟩ := d.ex
  exact PE.imp (pe_call F hr hg hm hk hb .nil pass0 ha hdb he hpl) fun _ _ _ h => lcallP h
theorem Rel.after {F : Fra} {Z Z' : Hp} {s : S γ} {σ : St} {H H' : Hp} {g' : γ} (r : Rel G F Z s σ H) (zz : Same Z Z') (zh : Same Z' H') (keep : ∀ a o, H a = some o → ¬ G.foot s.g a → H' a = some o) (nw : ∀ a o, Z' a = some o → Z a = none → H a = none) (hj : G.J g' Z' H')
    (hf : ∀ a, G.foot g' a → Z' a = none ∧ (G.foot s.g a ∨ H a = none)) : Rel G F Z' ⟨s.ρ, g'⟩ σ H' := by
  refine ⟨zh, fun a o e => ?_, fun a h => ?_, r.len, fun i d h => ?_, fun i l h ol => ?_, r.injL, hj, fun a h => (hf a h).1, fun a h => ?_, r.fl.trans zz⟩
  · refine keep a o (r.f _ _ e) fun h => ?_
    have := r.ff a h; rw [e] at this; cases this
  · cases q : Z' a with
    | none => rfl
    | some o =>
      have h1 := nw a o q (r.zb a h)
      obtain ⟨o', e⟩ := F.bf a h
      rw [r.f _ _ e] at h1; cases h1
  · obtain ⟨v, h1, h2⟩ := r.loc i d h
    exact ⟨v, h1, At.mono zz _ _ h2⟩
  · obtain ⟨a, vs, h1, h2, h3, h4, h5, h6⟩ := r.ownL i l h ol
    refine ⟨a, vs, h1, keep _ _ h2 h6, Ats.mono zz _ _ h3, ?_, h5, fun h7 => ?_⟩
    · cases q : Z' a with
      | none => rfl
      | some o => have := nw a o q h4; rw [h2] at this; cases this
    · rcases (hf a h7).2 with h8 | h8
      · exact h6 h8
      · rw [h2] at h8; cases h8
  · rcases (hf a h).2 with h8 | h8
    · exact r.ff a h8
    · exact r.f.free h8
theorem lcallG {f : Spec γ} {σ : St} {H : Hp} {Q : VK} (h : lE G (qCallG f t) σ H Q) : tCall (spG G f) [] E0 (lA G t) σ H Q := by
  obtain ⟨F, Z, s, R, r, t, q⟩ := h
  refine ⟨F, Z, s, _, r, t, fun xs s1 Z1 vs H1 t1 k1 r1 a1 => ?_⟩
  refine ⟨Z1, xs, s1.g, _, r1.z, by rw [List.append_nil]; exact a1, r1.j, r1.zf, t1, fun z g' Z3 v H3 t3 k3 z3 h3 n3 j3 f3 a3 => ?_⟩
  exact q z _ Z3 v H3 t3 (k1.trans k3) (r1.after k3 z3 h3 n3 j3 f3) a3
theorem qe_callG {f : Spec γ} (d : Def X x n (spG G f)) (hg : Gl X x) (ha : QA X G (e :: es) t) (hdb : (x == ("__debug__" : Str)) = false := by decide) (he : starEach (e :: es) X.env = (false, eval e X.env) :: starEach es X.env := by rfl) (hpl : (backTo pos (starEach es X.env)).any (·.1) = false := by rfl) :
    QE X G (.Call (.Name x p) (e :: es) [] pos) (qCallG f t) := by
  obtain ⟨fa, fd, k, ps, F, hr, hm, hk, hb, _⟩ := d.ex
  exact PE.imp (pe_call F hr hg hm hk hb .nil pass0 ha hdb he hpl) fun _ _ _ h => lcallG h
end
end
end Pm
set_option Elab.async false
set_option linter.all false
set_option maxRecDepth 100000
set_option maxHeartbeats 1000000
set_option autoImplicit false
namespace Pm
open PySem PySem.Spec
open PyProof.Rows hiding St
open L2
variable {γ : Type}

section
variable {prog : Program} {w : World} {A : Around} {E : Value → Shared → Prop} {s : Shared}
theorem draw_list {it t : Addr} {items : Array Value} (hne : t ≠ it) : ∀ (n i : Nat) (s : Shared) (Q : List Value → Shared → Prop), s.heap.IsListIter it t i → s.heap.IsList t items → i + n ≤ items.size →
    (∀ h', h'.IsListIter it t (i + n) → Heap.SameBut it s.heap h' → Q ((items.toList.drop i).take n) { s with heap := h' }) → wpAny (model prog w) A (draw (.ref it) n) Q E s
  | 0, i, s, Q, hit, _, _, hQ => by
    show wpAny _ _ (pure []) Q E s
    exact wpAny_pure (by simpa using hQ s.heap hit (Heap.SameBut.refl ..))
  | n + 1, i, s, Q, hit, ht, hle, hQ => by
    have hlt : i < items.size := by omega
    show wpAny _ _ (pyNext (.ref it) >>= _) Q E s
    refine wpAny_bind (wpAny_pyNext_list_item hit ht (x := items[i]) (by simp [hlt]) fun h₁ hit₁ hs₁ => ?_)
    refine wpAny_bind (wpAny_holding (draw_list hne n (i + 1) _ _ hit₁ (ht.extBut hs₁.extBut hne) (by omega) fun h₂ hit₂ hs₂ => wpAny_pure ?_))
    have hd : items.toList.drop i = items[i] :: items.toList.drop (i + 1) := by simp [List.drop_eq_getElem_cons, hlt]
    have := hQ h₂ (by rw [show i + (n + 1) = i + 1 + n by omega]; exact hit₂) (hs₁.trans hs₂)
    rw [hd, List.take_succ_cons] at this
    exact this
theorem unpackItems_list {t : Addr} {items : Array Value} {Q : List Value → Shared → Prop} (hh : A.handled = none) (ht : s.heap.IsList t items)
    (hQ : ∀ h', Heap.ExtBut s.heap.objs.size s.heap h' → Q items.toList { s with heap := h' }) : wpAny (model prog w) A (unpackItems (.ref t) items.size none) Q E s := by
  have hlt : t ≠ s.heap.objs.size := by obtain ⟨o, ho, _⟩ := ht; exact Nat.ne_of_lt (Heap.lt_size ho)
  unfold unpackItems
  refine wpAny_bind ?_
  · unfold notIterableAtAll
    refine wpAny_bind (wpAny_specialOf ht.typeIs PySem.F.slot_list_iter.lookup ?_)
    refine wpAny_pure ?_
    simp only [Bool.false_eq_true, if_false]
    refine wpAny_bind (wpAny_holding (wpAny_pyIter_list ht ?_))
    refine wpAny_bind (wpAny_holding (draw_list hlt items.size 0 _ _ ⟨_, Heap.get?_push_size _ rfl, rfl, rfl⟩ (ht.at fun o e => Heap.get?_push_of_some _ e) (by omega) fun h₁ hit₁ hs₁ => ?_))
    have hall : List.take items.size (List.drop 0 items.toList) = items.toList := by
      rw [List.drop_zero]; exact List.take_of_length_le (by simp)
    rw [hall]
    rw [if_neg (by simp)]
    have ht₁ : h₁.IsList t items := (ht.at fun o e => Heap.get?_push_of_some _ e).extBut hs₁.extBut hlt
    refine wpAny_bind (wpAny_holding (wpAny_pyNext_list_end hh hit₁ ht₁ (by simp) fun h₂ he₂ => ?_))
    simp only [Option.isSome_none, Bool.false_eq_true, if_false]
    refine wpAny_pure (hQ h₂ fun b o hb e => he₂ b o hb (hs₁.extBut b o hb (Heap.get?_push_of_some _ e)))
theorem unpack_list {t : Addr} {items : Array Value} {targets : List (Bool × (Value → Sem Unit))} {Q : Unit → Shared → Prop} (hh : A.handled = none) (ht : s.heap.IsList t items)
    (hn : targets.length = items.size) (hstar : targets.findIdx? (·.1) = none)
    (h : ∀ h', Heap.ExtBut s.heap.objs.size s.heap h' → wpAny (model prog w) A (assignInOrder (targets.map (·.2)) items.toList) Q E { s with heap := h' }) :
    wpAny (model prog w) A (unpack (.ref t) targets) Q E s := by
  unfold unpack
  rw [hn, hstar]
  exact wpAny_bind (wpAny_holding (unpackItems_list hh ht h))
theorem assign_Tuple_list {env : Env} {elts : List Expr} {x1} {pos : Pos} {t : Addr} {items : Array Value} {Q : Unit → Shared → Prop} (hh : A.handled = none) (ht : s.heap.IsList t items)
    (hn : (assignEach elts env).length = items.size) (hstar : (assignEach elts env).findIdx? (·.1) = none)
    (h : ∀ h', Heap.ExtBut s.heap.objs.size s.heap h' → wpAny (model prog w) A (assignInOrder ((assignEach elts env).map (·.2)) items.toList) Q E { s with heap := h' }) :
    wpAny (model prog w) A (assign (.Tuple elts x1 pos) env (.ref t)) Q E s := by
  rw [assign_Tuple]
  exact wpAny_bind (wpAny_standAt (unpack_list hh ht hn hstar h))
end
section
variable {X : Cx} {pos : Pos}
def gLs (K : PySem.W.Frag) (n : Nat) (t : TGs) : TG := fun v σ H Q => ∃ a xs, v = .ref a ∧ SqL K H a xs ∧ xs.length = n ∧ t xs σ H Q
theorem pg_lst {es : List Expr} {k : Nat} {t : TGs} {n : Nat} (hc : X.calm = true) (h : PGs X es t)
    (hn : (assignEach es X.env).length = n := by rfl) (hst : (assignEach es X.env).findIdx? (·.1) = none := by rfl) : PG X (.Tuple es k pos) (gLs X.K n t) := by
  refine ⟨fun pins s σ H v u Q I r hw => ?_⟩
  obtain ⟨a, xs, e1, hq, hl, hw⟩ := hw
  subst e1
  cases r
  obtain ⟨its, rv, ht, hz⟩ := I.list hq
  refine assign_Tuple_list (I.ok.hd hc) ht.isList (by simp [hn, ← hl, rv.length]) hst fun h' hx => ?_
  have I1 : L2.Inv X pins σ H { s with heap := h' } := I.kept (t' := s.toks) fun b o e => hx b o (Nat.ne_of_lt (Heap.lt_size e)) e
  exact h.run pins _ σ H xs _ Q I1 (by simpa using rv) hw
end

end Pm
set_option Elab.async false
set_option linter.all false
set_option maxRecDepth 100000
set_option maxHeartbeats 1000000
set_option autoImplicit false
namespace Pm
open PySem PySem.Spec
open PyProof.Rows hiding St
open L2
variable {γ : Type}

section
variable {X : Cx} {G : GP γ} {a b c e : Expr} {pos : Pos}
def qNext : PSx γ := fun E s => E.nx s
def qSeq (t u : PSx γ) : PSx γ := fun E s => t { E with nx := u E } s
theorem lSeq {t u : PSx γ} {De : Ends} {σ : St} {H : Hp} (h : lS G (qSeq t u) De σ H) : tSeq (lS G t) (lS G u) De σ H := by
  obtain ⟨F, Z, s, E, r, t, n, rt, bk, ct⟩ := h
  refine ⟨F, Z, s, _, r, t, fun s' Z' σ' H' u' k r' => ?_, rt, bk, ct⟩
  exact ⟨F, Z', s', E, r', u', fun s2 Z2 σ2 H2 q k2 r2 => n s2 Z2 σ2 H2 q (k.trans k2) r2, fun d s2 Z2 σ2 v H2 q k2 r2 a2 => rt d s2 Z2 σ2 v H2 q (k.trans k2) r2 a2,
    fun s2 Z2 σ2 H2 q k2 r2 => bk s2 Z2 σ2 H2 q (k.trans k2) r2, fun s2 Z2 σ2 H2 q k2 r2 => ct s2 Z2 σ2 H2 q (k.trans k2) r2⟩
theorem qss_nil : QSs X G [] (qNext : PSx γ) := PSs.imp pss_nil fun De σ H ⟨F, Z, s, E, r, t, n, _⟩ => n s Z σ H t (Same.refl _) r
theorem qss_cons {st : Stmt} {rest : List Stmt} {t u : PSx γ} (h1 : QS X G st t) (h2 : QSs X G rest u) : QSs X G (st :: rest) (qSeq t u) := PSs.imp (pss_cons h1 h2) fun _ _ _ h => lSeq h
theorem qss_one {st : Stmt} {t : PSx γ} (h1 : QS X G st t) : QSs X G [st] t := pss_one h1
def qNever : PSx γ := fun _ _ => False
theorem qs_never {st : Stmt} : QS X G st (qNever : PSx γ) := PS.imp (t := tNever) ps_never fun De σ H ⟨F, Z, s, E, r, t, _⟩ => t.elim
theorem qss_never {st : List Stmt} : QSs X G st (qNever : PSx γ) := PSs.imp (t := tNever) pss_never fun De σ H ⟨F, Z, s, E, r, t, _⟩ => t.elim
def qDrop (te : PEx γ) : PSx γ := fun E s => te s fun _ s1 => E.nx s1
theorem qs_expr {te : PEx γ} (he : QE X G e te) (hs : swapsWith e none pos.line X.env = pure false := by rfl) : QS X G (.Expr e pos) (qDrop te) := by
  refine PS.imp (ps_expr he hs) fun De σ H ⟨F, Z, s, E, r, t, n, _⟩ => ?_
  exact ⟨F, Z, s, _, r, t, fun d s1 Z1 v H1 t1 k1 r1 a1 => n s1 Z1 σ H1 t1 k1 r1⟩
def qRet (te : PEx γ) : PSx γ := fun E s => te s fun d s1 => E.rt d s1.g
theorem qs_ret {te : PEx γ} (he : QE X G e te) : QS X G (.Return (some e) pos) (qRet te) := by
  refine PS.imp (ps_ret he) fun De σ H ⟨F, Z, s, E, r, t, _, rt, _⟩ => ?_
  exact ⟨F, Z, s, _, r, t, fun d s1 Z1 v H1 t1 k1 r1 a1 => rt d s1 Z1 σ v H1 t1 k1 r1 a1⟩
def qIf (c : PTx γ) (t u : PSx γ) : PSx γ := fun E s => c s fun b s1 => Br b (t E s1) (u E s1)
theorem qs_if {c : Expr} {a b : List Stmt} {tc : PTx γ} {t u : PSx γ} (hc : QT X G c tc) (ha : QSs X G a t) (hb : QSs X G b u) : QS X G (.If c a b pos) (qIf tc t u) := by
  refine PS.imp (ps_if hc ha hb) fun De σ H ⟨F, Z, s, E, r, t, n, rt, bk, ct⟩ => ?_
  refine ⟨F, Z, s, _, r, t, fun k s1 Z1 H1 t1 k1 r1 => ?_⟩
  have go : ∀ {t : PSx γ}, t E s1 → lS G t De σ H1 := fun {t} q => ⟨F, Z1, s1, E, r1, q, fun s2 Z2 σ2 H2 q k2 r2 => n s2 Z2 σ2 H2 q (k1.trans k2) r2, fun d s2 Z2 σ2 v H2 q k2 r2 a2 => rt d s2 Z2 σ2 v H2 q (k1.trans k2) r2 a2,
    fun s2 Z2 σ2 H2 q k2 r2 => bk s2 Z2 σ2 H2 q (k1.trans k2) r2, fun s2 Z2 σ2 H2 q k2 r2 => ct s2 Z2 σ2 H2 q (k1.trans k2) r2⟩
  cases k with
  | true => exact iteT (go (t1.1 rfl))
  | false => exact iteF (go (t1.2 rfl))

def qAsg (te : PEx γ) (i : Nat) : PSx γ := fun E s => te s fun d s1 => E.nx ⟨s1.ρ.set i (some (.val d)), s1.g⟩
theorem lasg {te : PEx γ} {i : Nat} {De : Ends} {σ : St} {H : Hp} (h : lS G (qAsg te i) De σ H) : tAsg (lE G te) (gName i) De σ H := by
  obtain ⟨F, Z, s, E, r, t, n, _⟩ := h
  exact ⟨F, Z, s, _, r, t, fun d s1 Z1 v H1 t1 k1 r1 a1 => n _ Z1 _ H1 t1 k1 (r1.put a1)⟩
def qAsgOwn (te : PAx γ) (i : Nat) : PSx γ := fun E s => te s fun ds s1 => E.nx ⟨s1.ρ.set i (some (.own ds)), s1.g⟩
theorem lasgOwn {te : PAx γ} {i : Nat} {De : Ends} {σ : St} {H : Hp} (h : lS G (qAsgOwn te i) De σ H) : tAsg (lF G te) (gName i) De σ H := by
  obtain ⟨F, Z, s, E, r, t, n, _⟩ := h
  exact ⟨F, Z, s, _, r, t, fun ds s1 Z1 a vs H1 t1 k1 r1 ha a1 hz hf hg ho => n _ Z1 _ H1 t1 k1 (r1.putOwn ha a1 hz hf hg ho)⟩
section
variable {i : Nat} {x : Str} {pos' : Pos}
theorem qs_set {te : PEx γ} (hN : X.N.Nodup) (hi : X.N[i]? = some x) (hx : Loc X.env.scope x) (he : QE X G e te) (hs : swapsWith e (some (.Name x pos')) pos.line X.env = pure false := by rfl) (hf : X.fn x = true ∨ X.env.scope.names.lookup x = some .local := by first | exact .inl rfl | exact .inr rfl | assumption) :
    QS X G (.Assign [.Name x pos'] e pos) (qAsg te i) := PS.imp (ps_set hN hi hx he hs hf) fun _ _ _ h => lasg h
theorem qs_setOwn {te : PAx γ} (hN : X.N.Nodup) (hi : X.N[i]? = some x) (hx : Loc X.env.scope x) (he : QF X G e te) (hs : swapsWith e (some (.Name x pos')) pos.line X.env = pure false := by rfl) (hf : X.fn x = true ∨ X.env.scope.names.lookup x = some .local := by first | exact .inl rfl | exact .inr rfl | assumption) :
    QS X G (.Assign [.Name x pos'] e pos) (qAsgOwn te i) := PS.imp (ps_set hN hi hx he hs hf) fun _ _ _ h => lasgOwn h
end
inductive Tg where | nm (i : Nat) | tp (ts : List Tg)
mutual
def Tg.put : Tg → D → List (Option L) → Option (List (Option L))
  | .nm i, d, ρ => some (ρ.set i (some (.val d)))
  | .tp ts, d, ρ => match d with
    | .tup ds => Tg.puts ts ds ρ
    | .lst ds => Tg.puts ts ds ρ
    | _ => none
def Tg.puts : List Tg → List D → List (Option L) → Option (List (Option L))
  | [], [], ρ => some ρ
  | t :: ts, d :: ds, ρ => (t.put d ρ).bind fun ρ' => Tg.puts ts ds ρ'
  | _, _, _ => none
end
mutual
def Tg.js : Tg → List Nat
  | .nm i => [i]
  | .tp ts => Tg.jss ts
def Tg.jss : List Tg → List Nat
  | [] => []
  | t :: ts => t.js ++ Tg.jss ts
end
def qPut (tg : Tg) : PGx γ := fun d s R => match tg.put d s.ρ with
  | some ρ' => R ⟨ρ', s.g⟩
  | none => False
def qPuts (ts : List Tg) : List D → S γ → (S γ → Prop) → Prop := fun ds s R => match Tg.puts ts ds s.ρ with
  | some ρ' => R ⟨ρ', s.g⟩
  | none => False
def lGs (G : GP γ) (js : List Nat) (t : List D → S γ → (S γ → Prop) → Prop) : TGs := fun vs σ H Q => ∃ F Z s ds R, Rel G F Z s σ H ∧ Ats G.K Z ds vs ∧ t ds s R ∧
  ∀ s' Z' σ' H', R s' → Same Z Z' → Rel G F Z' s' σ' H' → H' = H → (∀ j, j ∉ js → σ'[j]? = σ[j]?) → σ'.length = σ.length → Q σ' H'
theorem PGs.imp {es : List Expr} {t t' : TGs} (h : PGs X es t) (k : ∀ v σ H Q, t' v σ H Q → t v σ H Q) : PGs X es t' := ⟨fun pins s σ H v u Q I r w => h.run pins s σ H v u Q I r (k _ _ _ _ w)⟩
abbrev QG' (X : Cx) (G : GP γ) (tg : Expr) (t : Tg) : Prop := PG X tg (lG G t.js (qPut t))
abbrev QGs (X : Cx) (G : GP γ) (es : List Expr) (ts : List Tg) : Prop := PGs X es (lGs G (Tg.jss ts) (qPuts ts))
theorem qg_name {i : Nat} {x : Str} (hN : X.N.Nodup) (hi : X.N[i]? = some x) (hx : Loc X.env.scope x) (hf : X.fn x = true ∨ X.env.scope.names.lookup x = some .local := by first | exact .inl rfl | exact .inr rfl | assumption) : QG' X G (.Name x pos) (.nm i) := by
  refine PG.imp (pg_name hN hi hx hf) fun v σ H Q ⟨F, Z, s, d, R, r, a, t, q⟩ => ?_
  exact q _ Z _ H t (Same.refl _) (r.put a) rfl (fun j hj => List.getElem?_set_ne (by simpa [Tg.js, eq_comm] using hj)) (by simp)
theorem qgs_nil : QGs X G [] [] := by
  refine PGs.imp pgs_nil fun vs σ H Q ⟨F, Z, s, ds, R, r, a, t, q⟩ => ?_
  cases ds with
  | nil => exact ⟨a, q _ Z σ H t (Same.refl _) r rfl (fun _ _ => rfl) rfl⟩
  | cons d ds => exact t.elim
theorem qgs_cons {e : Expr} {es : List Expr} {t : Tg} {ts : List Tg} (h1 : QG' X G e t) (h2 : QGs X G es ts)
    (hs : (assignEach (e :: es) X.env).map (·.2) = assign e X.env :: (assignEach es X.env).map (·.2) := by rfl) : QGs X G (e :: es) (t :: ts) := by
  refine PGs.imp (pgs_cons h1 h2 hs) fun vs σ H Q ⟨F, Z, s, ds, R, r, a, w, q⟩ => ?_
  cases ds with
  | nil => exact w.elim
  | cons d ds =>
    simp only [Ats] at a
    obtain ⟨v, vr, e, a1, a2⟩ := a
    unfold qPuts at w
    simp only [Tg.puts] at w
    cases hp : t.put d s.ρ with
    | none => rw [hp] at w; exact w.elim
    | some ρ' =>
      rw [hp] at w
      simp only [Option.bind_some] at w
      refine ⟨v, vr, e, F, Z, s, d, fun s1 => qPuts ts ds s1 R, r, a1, ?_, fun s1 Z1 σ1 H1 w1 k1 r1 e1 o1 l1 => ?_⟩
      · unfold qPut; rw [hp]; exact w
      · refine ⟨F, Z1, s1, ds, R, r1, Ats.mono k1 _ _ a2, w1, fun s2 Z2 σ2 H2 w2 k2 r2 e2 o2 l2 => ?_⟩
        refine q s2 Z2 σ2 H2 w2 (k1.trans k2) r2 (e2.trans e1) (fun j hj => ?_) (l2.trans l1)
        simp only [Tg.jss, List.mem_append, not_or] at hj
        rw [o2 j hj.2, o1 j hj.1]
theorem Tg.puts_len : ∀ {ts : List Tg} {ds : List D} {ρ ρ' : List (Option L)}, Tg.puts ts ds ρ = some ρ' → ds.length = ts.length
  | [], [], _, _, _ => rfl
  | [], _ :: _, _, _, h => by simp [Tg.puts] at h
  | _ :: _, [], _, _, h => by simp [Tg.puts] at h
  | t :: ts, d :: ds, ρ, ρ', h => by
    simp only [Tg.puts] at h
    cases hp : t.put d ρ with
    | none => rw [hp] at h; simp at h
    | some ρ1 =>
      rw [hp] at h
      simp only [Option.bind_some] at h
      simp [Tg.puts_len h]
theorem qg_tup {es : List Expr} {k : Nat} {ts : List Tg} (hc : X.calm = true) (h : QGs X G es ts) (hK : X.K = G.K := by rfl)
    (hn : (assignEach es X.env).length = ts.length := by rfl) (hst : (assignEach es X.env).findIdx? (·.1) = none := by rfl) : QG' X G (.Tuple es k pos) (.tp ts) := by
  refine ⟨fun pins s0 σ H v u Q I rv hw => ?_⟩
  obtain ⟨F, Z, s, d, R, r, a, w, q⟩ := hw
  unfold qPut at w
  cases d with
  | tup ds =>
    simp only [Tg.put] at w
    simp only [At] at a
    obtain ⟨p, vs, e, hs, a⟩ := a
    have hl : ds.length = ts.length := by
      cases hp : Tg.puts ts ds s.ρ with
      | none => rw [hp] at w; exact w.elim
      | some ρ' => exact Tg.puts_len hp
    exact (pg_tup hc h hn hst).run pins s0 σ H v u Q I rv ⟨p, vs, e, by rw [hK]; exact seqT r.z hs, by rw [a.len]; exact hl, F, Z, s, ds, R, r, a, w, q⟩
  | lst ds =>
    simp only [Tg.put] at w
    simp only [At] at a
    obtain ⟨p, vs, e, hs, a⟩ := a
    have hl : ds.length = ts.length := by
      cases hp : Tg.puts ts ds s.ρ with
      | none => rw [hp] at w; exact w.elim
      | some ρ' => exact Tg.puts_len hp
    exact (pg_lst hc h hn hst).run pins s0 σ H v u Q I rv ⟨p, vs, e, .inl (.inl (r.z _ _ hs)), by rw [a.len]; exact hl, F, Z, s, ds, R, r, a, w, q⟩
  | _ => exact w.elim
def qAsgT (te : PEx γ) (tg : Tg) : PSx γ := fun E s => te s fun d s1 => qPut tg d s1 E.nx
theorem qs_setT {tg : Expr} {te : PEx γ} {t : Tg} (he : QE X G e te) (hg : QG' X G tg t) (hs : swapsWithSole [tg] e pos.line X.env = pure false := by rfl) (hw : swappedStores [tg] e X.env = pure none := by rfl)
    (h1 : (assignEach [tg] X.env).map (·.2) = [assign tg X.env] := by rfl) : QS X G (.Assign [tg] e pos) (qAsgT te t) := by
  refine PS.imp (ps_asg he hg hs hw h1) fun De σ H ⟨F, Z, s, E, r, t, n, _⟩ => ?_
  exact ⟨F, Z, s, _, r, t, fun d s1 Z1 v H1 t1 k1 r1 a1 => ⟨F, Z1, s1, d, E.nx, r1, a1, t1, fun s2 Z2 σ2 H2 q2 k2 r2 _ _ _ => n s2 Z2 σ2 H2 q2 (k1.trans k2) r2⟩⟩
def qPar (i j : Nat) (ta : PAx γ) : PSx γ := fun E s => ta s fun ds s1 => match ds with
  | [d, e] => E.nx ⟨(s1.ρ.set i (some (.val d))).set j (some (.val e)), s1.g⟩
  | _ => False
theorem qs_par {i j : Nat} {x y : Str} {a b : Expr} {ta : PAx γ} {px py pt : Pos} {kt k2 pt2} (hc : X.calm = true) (hN : X.N.Nodup) (hi : X.N[i]? = some x) (hj : X.N[j]? = some y) (hij : i ≠ j)
    (hx : X.env.scope.names.lookup x = some .local) (hy : X.env.scope.names.lookup y = some .local) (ha : QA X G [a, b] ta)
    (hw : swappedStores [.Tuple [.Name x px, .Name y py] kt pt] (.Tuple [a, b] k2 pt2) X.env = pure (some [x, y]))
    (hs : swapsWithSole [.Tuple [.Name x px, .Name y py] kt pt] (.Tuple [a, b] k2 pt2) pos.line X.env = pure false := by rfl) :
    QS X G (.Assign [.Tuple [.Name x px, .Name y py] kt pt] (.Tuple [a, b] k2 pt2) pos) (qPar i j ta) := by
  refine PS.imp (ps_par hc hN hi hj hij hx hy ha hw hs) fun De σ H ⟨F, Z, s, E, r, t, n, _⟩ => ?_
  refine ⟨F, Z, s, _, r, t, fun ds s1 Z1 vs H1 t1 k1 r1 a1 => ?_⟩
  match ds, t1 with
  | [d, e], t1 =>
    simp only [Ats] at a1
    obtain ⟨v, _, rfl, a2, w, _, rfl, a3, rfl⟩ := a1
    exact ⟨v, w, rfl, n _ Z1 _ H1 t1 k1 ((r1.put a2).put a3)⟩

def Walks (K : PySem.W.Frag) (J : It) (Z : Hp) (ds : List D) : Prop := ∀ (i : Nat) (Z1 H : Hp), Same Z Z1 → Same Z1 H →
  (∀ d, ds[i]? = some d → J.go i H ∧ ∀ x H', J.yld i H x H' → ∃ Z', Ext Z1 H Z' H' ∧ At K Z' d x) ∧ (i = ds.length → J.stop i H)
def lI (G : GP γ) (t : PAx γ) : TI := fun σ H R => ∃ F Z s Rp, Rel G F Z s σ H ∧ t s Rp ∧ ∀ ds s' Z' H' J, Rp ds s' → Same Z Z' → Rel G F Z' s' σ H' → Walks G.K J Z' ds → R J H'
abbrev QI (X : Cx) (G : GP γ) (tg iter : Expr) (t : PAx γ) : Prop := PI X tg iter (lI G t)
theorem PI.imp {tg iter : Expr} {t t' : TI} (h : PI X tg iter t) (k : ∀ σ H R, t' σ H R → t σ H R) : PI X tg iter t' := ⟨fun pins s σ H R I w => h.run pins s σ H R I (k _ _ _ w)⟩

def qFor (ti : PAx γ) (tg : Tg) (tb : PSx γ) : PSx γ := fun E s => ti s fun ds s1 => ∃ I : Nat → S γ → Prop, (∃ s0, Wk s1 s0 ∧ I 0 s0) ∧
  (∀ i d s, ds[i]? = some d → I i s → qPut tg d s fun s2 => tb { E with nx := fun s' => ∃ s'', Wk s' s'' ∧ I (i + 1) s'', ct := fun s' => ∃ s'', Wk s' s'' ∧ I (i + 1) s'', bk := E.nx } s2) ∧ ∀ s, I ds.length s → E.nx s
theorem qs_for {iter tg : Expr} {body : List Stmt} {ti : PAx γ} {t : Tg} {tb : PSx γ} (hp : PassesOwn (model X.prog X.w) X.A X.env X.xe) (hc : X.calm = true) (hi : QI X G tg iter ti) (hg : QG' X G tg t) (hb : QSs X G body tb)
    (hs : ∀ x, foldedSetIterable iter X.env x = pure x := by intro _; rfl) : QS X G (.For tg iter body [] pos) (qFor ti t tb) := by
  refine PS.imp (ps_for hp hc hi hg hb hs) fun De σ H ⟨F, Z, s, E, r, w, n, rt, bk, ct⟩ => ?_
  refine ⟨F, Z, s, _, r, w, fun ds s1 Z1 H1 J w1 k1 r1 wJ => ?_⟩
  obtain ⟨I, ⟨s0, wk0, i0⟩, turn, done⟩ := w1
  refine ⟨fun i m σ H => m = ds.length - i ∧ i ≤ ds.length ∧ ∃ Z' s', Same Z1 Z' ∧ Rel G F Z' s' σ H ∧ I i s', ⟨ds.length, rfl, Nat.zero_le _, Z1, s0, Same.refl _, r1.weak wk0, i0⟩, ?_⟩
  rintro i m σ2 H2 ⟨hm, hi, Z2, s2, k2, r2, i2⟩
  obtain ⟨go, stop⟩ := wJ i Z2 H2 k2 r2.z
  by_cases hlt : i < ds.length
  · obtain ⟨g1, y1⟩ := go ds[i] (List.getElem?_eq_getElem hlt)
    refine .inr ⟨g1, fun σ' H' => ∃ Z' s', Same Z1 Z' ∧ Rel G F Z' s' σ' H' ∧ I (i + 1) s', fun σ' H' h => ⟨ds.length - (i + 1), by omega, rfl, hlt, h⟩, fun x H3 y => ?_⟩
    obtain ⟨Z3, x3, a3⟩ := y1 x H3 y
    have r3 := r2.ext x3
    have k3 := k2.trans x3.zz
    refine ⟨F, Z3, s2, ds[i], _, r3, a3, turn i ds[i] s2 (List.getElem?_eq_getElem hlt) i2, fun s4 Z4 σ4 H4 w4 k4 r4 _ _ _ => ?_⟩
    refine ⟨F, Z4, s4, _, r4, w4, ?_, ?_, ?_, ?_⟩
    · rintro s5 Z5 σ5 H5 ⟨s'', wk, i5⟩ k5 r5
      exact ⟨Z5, s'', (k3.trans k4).trans k5, r5.weak wk, i5⟩
    · intro d s5 Z5 σ5 v H5 q k5 r5 a5
      exact rt d s5 Z5 σ5 v H5 q (((k1.trans k3).trans k4).trans k5) r5 a5
    · intro s5 Z5 σ5 H5 q k5 r5
      exact n s5 Z5 σ5 H5 q (((k1.trans k3).trans k4).trans k5) r5
    · rintro s5 Z5 σ5 H5 ⟨s'', wk, i5⟩ k5 r5
      exact ⟨Z5, s'', (k3.trans k4).trans k5, r5.weak wk, i5⟩
  · have e : i = ds.length := by omega
    subst e
    exact .inl ⟨stop rfl, n s2 Z2 σ2 H2 (done s2 i2) (k1.trans k2) r2⟩
end
end Pm
set_option Elab.async false
set_option linter.all false
set_option maxRecDepth 100000
set_option maxHeartbeats 1000000
set_option autoImplicit false
namespace Pm
open PySem PySem.Spec
open PyProof.Rows hiding St
open L2
variable {γ : Type}

def wipeL (ρ : List (Option L)) : List Nat → List (Option L)
  | [] => ρ
  | v :: vs => (wipeL ρ vs).set v none
def S.wipe (s : S γ) (vs : List Nat) : S γ := ⟨wipeL s.ρ vs, s.g⟩
theorem wipeL_length (ρ : List (Option L)) : ∀ vs : List Nat, (wipeL ρ vs).length = ρ.length
  | [] => rfl
  | v :: vs => by unfold wipeL; rw [List.length_set, wipeL_length ρ vs]
theorem wipeL_some {ρ : List (Option L)} {i : Nat} {x : L} : ∀ {vs : List Nat}, (wipeL ρ vs)[i]? = some (some x) → ρ[i]? = some (some x) ∧ i ∉ vs
  | [], h => ⟨h, by simp⟩
  | v :: vs, h => by
    unfold wipeL at h
    by_cases hi : v = i
    · subst hi
      by_cases hv : v < (wipeL ρ vs).length
      · rw [List.getElem?_set_self hv] at h; cases h
      · rw [List.getElem?_eq_none (by simpa using hv)] at h; cases h
    · rw [List.getElem?_set_ne hi] at h
      obtain ⟨h1, h2⟩ := wipeL_some h
      exact ⟨h1, by simp only [List.mem_cons, not_or]; exact ⟨fun e => hi e.symm, h2⟩⟩
def keepVal : Option (Option L) → Option L
  | some (some (.val d)) => some (.val d)
  | _ => none
def S.back (s1 : S γ) (vs : List Nat) (s : S γ) : S γ := ⟨s.ρ.mapIdx fun j l => if j ∈ vs then keepVal s1.ρ[j]? else l, s.g⟩

section
variable {G : GP γ} {F : Fra} {Z Z1 : Hp} {s s' s1 : S γ} {σ σ' : St} {H H1 : Hp}
theorem Rel.resl (r : Rel G F Z s σ H) (hg : s'.g = s.g) (hl : s'.ρ.length = σ'.length) (k : ∀ (i : Nat) l, s'.ρ[i]? = some (some l) → s.ρ[i]? = some (some l) ∧ σ'[i]? = σ[i]?) : Rel G F Z s' σ' H := by
  obtain ⟨ρ', g'⟩ := s'
  simp only at hg hl k
  subst hg
  refine ⟨r.z, r.f, r.zb, hl.symm, fun i d h => ?_, fun i l h ol => ?_, fun i j l m a n h1 ol h2 om h3 h4 => ?_, r.j, r.zf, r.ff, r.fl⟩
  · obtain ⟨h1, h2⟩ := k i _ h
    obtain ⟨v, h3, h4⟩ := r.loc i d h1
    exact ⟨v, h2.trans h3, h4⟩
  · obtain ⟨h1, h2⟩ := k i _ h
    obtain ⟨a, vs, h3, h4⟩ := r.ownL i l h1 ol
    exact ⟨a, vs, h2.trans h3, h4⟩
  · obtain ⟨k1, k2⟩ := k i _ h1
    obtain ⟨k3, k4⟩ := k j _ h2
    exact r.injL i j l m a n k1 ol k3 om (k2 ▸ h3) (k4 ▸ h4)
theorem Rel.wiped (r : Rel G F Z s σ H) (vs : List Nat) : Rel G F Z (s.wipe vs) (wipe σ vs) H :=
  r.resl rfl (by show (wipeL s.ρ vs).length = _; rw [wipeL_length, wipe_length, r.len]) fun i l h => by
    obtain ⟨h1, h2⟩ := wipeL_some (show (wipeL s.ρ vs)[i]? = some (some l) from h)
    exact ⟨h1, wipe_out h2⟩
theorem Rel.backed (r1 : Rel G F Z1 s1 σ H1) {vs : List Nat} (r : Rel G F Z s (wipe σ vs) H) (k : Same Z1 Z) : Rel G F Z (s1.back vs s) σ H := by
  have out : ∀ (i : Nat) l, (s1.back vs s).ρ[i]? = some (some l) → (i ∈ vs ∧ ∃ d, l = .val d ∧ s1.ρ[i]? = some (some (.val d))) ∨ (i ∉ vs ∧ s.ρ[i]? = some (some l)) := fun i l h => by
    simp only [S.back, List.getElem?_mapIdx] at h
    cases q : s.ρ[i]? with
    | none => rw [q] at h; cases h
    | some o =>
      rw [q] at h
      simp only [Option.map_some, Option.some.injEq] at h
      by_cases hi : i ∈ vs
      · rw [if_pos hi] at h
        left
        refine ⟨hi, ?_⟩
        unfold keepVal at h
        split at h
        · rename_i d hd; cases h; exact ⟨d, rfl, hd⟩
        · cases h
      · rw [if_neg hi] at h; subst h; exact .inr ⟨hi, rfl⟩
  have hl : σ.length = s.ρ.length := by rw [← r.len, wipe_length]
  refine ⟨r.z, r.f, r.zb, by simpa [S.back] using hl, fun i d h => ?_, fun i l h ol => ?_, fun i j l m a n h1 ol h2 om h3 h4 => ?_, r.j, r.zf, r.ff, r.fl⟩
  · rcases out i _ h with ⟨_, d', e, h1⟩ | ⟨hi, h1⟩
    · cases e
      obtain ⟨v, h2, h3⟩ := r1.loc i d h1
      exact ⟨v, h2, At.mono k _ _ h3⟩
    · obtain ⟨v, h2, h3⟩ := r.loc i d h1
      exact ⟨v, by rw [← wipe_out hi]; exact h2, h3⟩
  · rcases out i _ h with ⟨_, d', e, h1⟩ | ⟨hi, h1⟩
    · subst e; cases ol
    · obtain ⟨a, ws, h2, h3⟩ := r.ownL i l h1 ol
      exact ⟨a, ws, by rw [← wipe_out hi]; exact h2, h3⟩
  · rcases out i _ h1 with ⟨_, d', e, _⟩ | ⟨hi, k1⟩
    · subst e; cases ol
    · rcases out j _ h2 with ⟨_, d', e, _⟩ | ⟨hj, k2⟩
      · subst e; cases om
      · exact r.injL i j l m a n k1 ol k2 om (by rw [wipe_out hi]; exact h3) (by rw [wipe_out hj]; exact h4)
end

def qYes : PTx γ := fun s R => R true s
abbrev QTs (X : Cx) (G : GP γ) (ifs : List Expr) (t : PTx γ) : Prop := PTs X ifs (lT G t)
theorem PTs.imp {X : Cx} {ifs : List Expr} {t t' : TT} (h : PTs X ifs t) (k : ∀ σ H Q, t' σ H Q → t σ H Q) : PTs X ifs t' := ⟨fun pins s σ H Q I w => h.run pins s σ H Q I (k _ _ _ w)⟩
theorem qts_nil {X : Cx} {G : GP γ} : QTs X G [] (qYes : PTx γ) := PTs.imp pts_nil fun σ H Q ⟨F, Z, s, R, r, t, q⟩ => q true s Z H t (Same.refl _) r
theorem qts_one {X : Cx} {G : GP γ} {c : Expr} {t : PTx γ} (h : QT X G c t) : QTs X G [c] t := pts_one h

def lcB (tg : Tg) (vs : List Nat) (tt : PTx γ) (te : PEx γ) (R : List D → S γ → Prop) (ds : List D) (s1 : S γ) : Prop := ∃ I : Nat → List D → S γ → Prop, (∃ s0, Wk (s1.wipe vs) s0 ∧ I 0 [] s0) ∧
  (∀ i d acc s, ds[i]? = some d → I i acc s → qPut tg d s fun s2 => tt s2 fun b s3 => Br b (te s3 fun y s4 => acc.length < sizeLine ∧ ∃ s5, Wk (s4.wipe vs) s5 ∧ I (i + 1) (acc ++ [y]) s5) (∃ s5, Wk (s3.wipe vs) s5 ∧ I (i + 1) acc s5)) ∧
  ∀ acc s, I ds.length acc s → R acc (s1.back vs s)
def qLc (ti : PAx γ) (tg : Tg) (vs : List Nat) (tt : PTx γ) (te : PEx γ) : PAx γ := fun s R => ti s fun ds s1 => lcB tg vs tt te R ds s1

def Fra.bar (F : Fra) (D : Addr) (o : HO) : Fra := ⟨upd F.F D o, fun a => F.B a ∨ a = D, fun a h => by
  by_cases e : a = D
  · subst e; exact ⟨o, upd_same⟩
  · rw [upd_ne e]
    rcases h with h | h
    · exact F.bf a h
    · exact absurd h e⟩

section
variable {G : GP γ} {F : Fra} {Z : Hp} {s : S γ} {σ : St} {H : Hp}
theorem Rel.bar (r : Rel G F Z s σ H) {D : Addr} {o : HO} (hD : H D = some o) (hz : Z D = none) (hg : ¬ G.foot s.g D) (ho : Nob s σ D) : Rel G (F.bar D o) Z s σ H := by
  refine ⟨r.z, fun a u e => ?_, fun a h => ?_, r.len, r.loc, fun i l h ol => ?_, r.injL, r.j, r.zf, fun a h => ?_, r.fl⟩
  · by_cases hb : a = D
    · subst hb
      have e' : some o = some u := by rw [← e]; exact upd_same.symm
      rw [hD, e']
    · exact r.f a u (by rw [← e]; exact (upd_ne hb).symm)
  · rcases h with h | h
    · exact r.zb a h
    · rw [h]; exact hz
  · obtain ⟨a, vs, h1, h2, h3, h4, h5⟩ := r.ownL i l h ol
    have : a ≠ D := fun e => ho i l h ol (by rw [← e]; exact h1)
    exact ⟨a, vs, h1, h2, h3, h4, by show upd F.F D o a = none; rw [upd_ne this]; exact h5.1, h5.2⟩
  · have : a ≠ D := fun e => hg (by rw [← e]; exact h)
    show upd F.F D o a = none
    rw [upd_ne this]; exact r.ff a h
theorem Rel.unbar {D : Addr} {o o' : HO} (hF : F.F D = none) (r : Rel G (F.bar D o) Z s σ H) : H D = some o ∧ Z D = none ∧ ¬ G.foot s.g D ∧ Nob s σ D ∧ Rel G F Z s σ (upd H D o') := by
  have e1 : H D = some o := r.f D o upd_same
  have e2 : Z D = none := r.zb D (.inr rfl)
  have e3 : ¬ G.foot s.g D := fun h => by
    have z : upd F.F D o D = none := r.ff D h
    rw [upd_same] at z; cases z
  have e4 : Nob s σ D := fun i l h ol e => by
    obtain ⟨a, vs, h1, h2, h3, h4, h5, _⟩ := r.ownL i l h ol
    rw [h1] at e
    cases e
    have z : upd F.F D o D = none := h5
    rw [upd_same] at z; cases z
  refine ⟨e1, e2, e3, e4, fun a u e => ?_, fun a u e => ?_, fun a h => r.zb a (.inl h), r.len, r.loc, fun i l h ol => ?_, r.injL, G.stay _ _ _ _ _ r.j (Same.refl _) fun a h => ?_, r.zf, fun a h => ?_, r.fl⟩
  · rw [upd_ne (ne_of_none e e2)]; exact r.z a u e
  · have n : a ≠ D := ne_of_none e hF
    rw [upd_ne n]; exact r.f a u (by show upd F.F D o a = some u; rw [upd_ne n]; exact e)
  · obtain ⟨a, vs, h1, h2, h3, h4, h5⟩ := r.ownL i l h ol
    have n : a ≠ D := fun e => e4 i l h ol (by rw [← e]; exact h1)
    refine ⟨a, vs, h1, by rw [upd_ne n]; exact h2, h3, h4, ?_, h5.2⟩
    have z : upd F.F D o a = none := h5.1
    rw [upd_ne n] at z; exact z
  · exact upd_ne fun e => e3 (by rw [← e]; exact h)
  · have n : a ≠ D := fun e => e3 (by rw [← e]; exact h)
    have z : upd F.F D o a = none := r.ff a h
    rw [upd_ne n] at z; exact z
end

theorem llc {K : PySem.W.Frag} {G : GP γ} {ti : PAx γ} {tg : Tg} {vs : List Nat} {tt : PTx γ} {te : PEx γ} (hj : ∀ j ∈ tg.js, j ∈ vs) {σ : St} {H : Hp} {Q : VK} (h : lF G (qLc ti tg vs tt te) σ H Q) :
    tLc (lI G ti) (lG G tg.js (qPut tg)) (lT G tt) (lE G te) vs σ H Q := by
  obtain ⟨F, Z, s, R, r, t, q⟩ := h
  refine ⟨F, Z, s, _, r, t, fun ds s1 Z1 H1 J w1 k1 r1 wJ D hD => ?_⟩
  obtain ⟨I, ⟨s0, wk0, i0⟩, turn, done⟩ := w1
  have FD : F.F D = none := r1.f.free hD
  refine ⟨fun i m H => m = ds.length - i ∧ i ≤ ds.length ∧ ∃ Z' s' acc av, Same Z1 Z' ∧ Rel G (F.bar D (.lst av)) Z' s' (wipe σ vs) H ∧ Ats G.K Z' acc av ∧ I i acc s', ⟨ds.length, rfl, Nat.zero_le _, ?_⟩, ?_⟩
  · obtain ⟨f1, f2, f3, f4⟩ := r1.fresh hD
    have r2 := (r1.grow (same_upd (o := HO.lst []) hD)).bar upd_same f1 f3 f4
    exact ⟨Z1, s0, [], [], Same.refl _, (r2.wiped vs).weak wk0, rfl, i0⟩
  · rintro i m H2 ⟨hm, hi, Z2, s2, acc, av, k2, r2, a2, i2⟩
    obtain ⟨go, stop⟩ := wJ i Z2 H2 k2 r2.z
    by_cases hlt : i < ds.length
    · obtain ⟨g1, y1⟩ := go ds[i] (List.getElem?_eq_getElem hlt)
      refine .inr ⟨g1, fun H' => ∃ Z' s' acc av, Same Z1 Z' ∧ Rel G (F.bar D (.lst av)) Z' s' (wipe σ vs) H' ∧ Ats G.K Z' acc av ∧ I (i + 1) acc s', fun H' h => ⟨ds.length - (i + 1), by omega, rfl, hlt, h⟩, fun x H3 y => ?_⟩
      obtain ⟨Z3, x3, a3⟩ := y1 x H3 y
      have r3 := r2.ext x3
      have k3 := k2.trans x3.zz
      refine ⟨F.bar D (.lst av), Z3, s2, ds[i], _, r3, a3, turn i ds[i] acc s2 (List.getElem?_eq_getElem hlt) i2, fun s4 Z4 σ4 H4 w4 k4 r4 e4 o4 l4 => ?_⟩
      have we : wipe σ4 vs = wipe σ vs := by
        refine List.ext_getElem? fun j => ?_
        by_cases hjv : j ∈ vs
        · have n1 : ∀ (τ : St), τ.length = σ.length → (wipe τ vs)[j]? = if j < σ.length then some none else none := fun τ hl => by
            by_cases hlt : j < σ.length
            · rw [if_pos hlt]
              have hlt' : j < (wipe τ vs).length := by rw [wipe_length, hl]; exact hlt
              rw [List.getElem?_eq_getElem hlt']
              congr 1
              cases e : (wipe τ vs)[j] with
              | none => rfl
              | some v => exact absurd hjv (wipe_some (show (wipe τ vs)[j]? = some (some v) by rw [List.getElem?_eq_getElem hlt', e])).2
            · rw [if_neg hlt, List.getElem?_eq_none (by rw [wipe_length, hl]; omega)]
          rw [n1 σ4 (by rw [l4, wipe_length]), n1 σ rfl]
        · rw [wipe_out hjv, o4 j (fun h => hjv (hj j h))]
      refine ⟨we, F.bar D (.lst av), Z4, s4, _, r4, w4, fun b s5 Z5 H5 w5 k5 r5 => ?_⟩
      cases b with
      | true =>
        refine iteT ⟨F.bar D (.lst av), Z5, s5, _, r5, w5.1 rfl, fun y s6 Z6 v H6 w6 k6 r6 a6 => ?_⟩
        obtain ⟨w6, s7, wk7, i7⟩ := w6
        obtain ⟨e1, e2, e3, e4', r7⟩ := r6.unbar (o' := .lst (av ++ [v])) FD
        have kk := ((x3.zz.trans k4).trans k5).trans k6
        refine ⟨av, e1, by rw [a2.len]; exact w6, Z6, s7, acc ++ [y], av ++ [v], k2.trans kk, ?_, (Ats.mono kk _ _ a2).append ⟨v, [], rfl, a6, rfl⟩, i7⟩
        have r8 := r7.bar (o := .lst (av ++ [v])) upd_same e2 e3 e4'
        have r9 := r8.wiped vs
        rw [we] at r9
        exact r9.weak wk7
      | false =>
        refine iteF ?_
        obtain ⟨s7, wk7, i7⟩ := w5.2 rfl
        have kk := (x3.zz.trans k4).trans k5
        have r9 := r5.wiped vs
        rw [we] at r9
        exact ⟨Z5, s7, acc, av, k2.trans kk, r9.weak wk7, Ats.mono kk _ _ a2, i7⟩
    · have e : i = ds.length := by omega
      subst e
      obtain ⟨e1, e2, e3, e4, r7⟩ := r2.unbar (o' := .lst av) FD
      have hu : upd H2 D (.lst av) = H2 := by
        funext b
        by_cases hb : b = D
        · subst hb; rw [upd_same, e1]
        · rw [upd_ne hb]
      rw [hu] at r7
      refine .inl ⟨stop rfl, q acc _ Z2 D av H2 (done acc s2 i2) (k1.trans k2) (r1.backed r7 k2) e1 a2 e2 FD (by exact e3) fun j l h ol => ?_⟩
      -- no list of one's own is the new one
      intro e
      have r8 := r1.backed r7 k2
      obtain ⟨a, ws, h1, h2, h3, h4, h5, h6⟩ := r8.ownL j l h ol
      rw [h1] at e
      cases e
      simp only [S.back, List.getElem?_mapIdx] at h
      cases q' : s2.ρ[j]? with
      | none => rw [q'] at h; cases h
      | some o =>
        rw [q'] at h
        simp only [Option.map_some, Option.some.injEq] at h
        by_cases hjv : j ∈ vs
        · rw [if_pos hjv] at h
          unfold keepVal at h
          split at h
          · cases h; cases ol
          · cases h
        · rw [if_neg hjv] at h
          subst h
          exact e4 j l q' ol (by rw [wipe_out hjv]; exact h1)

section
variable {X : Cx} {G : GP γ} {elt tg iter : Expr} {ifs : List Expr} {scope : Scope} {own : List (Str × Nat)} {pos : Pos} {ti : PAx γ} {t : Tg} {tt : PTx γ} {te : PEx γ}
theorem qf_lc (hc : X.calm = true) (hN : X.N.Nodup) (hi : QI X G tg iter ti) (ok : BlkOk X.N X.env.scope scope own) (hj : ∀ j ∈ t.js, j ∈ own.map (·.2))
    (hg : ∀ (s : Shared) (H : Hp) (C : Addr) (cl : List (Str × Addr)) (fp : List Addr), QG' (X.blk s H scope (compEnvC scope cl C X.env) fp) G tg t)
    (ht : ∀ (s : Shared) (H : Hp) (C : Addr) (cl : List (Str × Addr)) (fp : List Addr), QTs (X.blk s H scope (compEnvC scope cl C X.env) fp) G ifs tt)
    (he : ∀ (s : Shared) (H : Hp) (C : Addr) (cl : List (Str × Addr)) (fp : List Addr), QE (X.blk s H scope (compEnvC scope cl C X.env) fp) G elt te) (hs : ∀ x, foldedSetIterable iter X.env x = pure x := by intro _; rfl) :
    QF X G (.ListComp elt [⟨tg, iter, ifs, 0⟩] scope pos) (qLc ti t (own.map (·.2)) tt te) :=
  PE.imp (pe_lc hc hN hi ok hg ht he hs) fun _ _ _ h => llc (K := X.K) hj h
theorem qs_lc {i : Nat} {y : Str} {py spos : Pos} (hc : X.calm = true) (hN : X.N.Nodup) (hy : X.N[i]? = some y) (hyl : X.env.scope.names.lookup y = some .local)
    (hsw : swapsWith (.ListComp elt [⟨tg, iter, ifs, 0⟩] scope pos) (some (.Name y py)) spos.line X.env = pure true) (hi : QI X G tg iter ti) (ok : BlkOk X.N X.env.scope scope own) (hj : ∀ j ∈ t.js, j ∈ own.map (·.2))
    (hg : ∀ (s : Shared) (H : Hp) (C : Addr) (cl : List (Str × Addr)) (fp : List Addr), QG' (X.blk s H scope (compEnvC scope cl C X.env) fp) G tg t)
    (ht : ∀ (s : Shared) (H : Hp) (C : Addr) (cl : List (Str × Addr)) (fp : List Addr), QTs (X.blk s H scope (compEnvC scope cl C X.env) fp) G ifs tt)
    (he : ∀ (s : Shared) (H : Hp) (C : Addr) (cl : List (Str × Addr)) (fp : List Addr), QE (X.blk s H scope (compEnvC scope cl C X.env) fp) G elt te) (hs : ∀ x, foldedSetIterable iter X.env x = pure x := by intro _; rfl) :
    QS X G (.Assign [.Name y py] (.ListComp elt [⟨tg, iter, ifs, 0⟩] scope pos) spos) (qAsg (qSet (qLc ti t (own.map (·.2)) tt te)) i) := by
  refine PS.imp (ps_setLc hc hN hy hyl hsw hi ok hg ht he hs) fun De σ H ⟨F, Z, s, E, r, w, n, _⟩ => ?_
  show tLc _ _ _ _ _ σ H _
  refine llc (K := X.K) hj ⟨F, Z, s, _, r, w, fun ds s1 Z1 a vs H1 t1 k1 r1 ha a1 hz hf hg ho => ?_⟩
  have k := same_upd (o := HO.lst vs) hz
  exact n _ (upd Z1 a (.lst vs)) _ H1 t1 (k1.trans k) ((r1.settle ha hz hg (Fra.nb hf) ho).put ⟨a, vs, rfl, upd_same, Ats.mono k _ _ a1⟩)
end

def startL (n : Nat) (ds : List D) : List (Option L) := ds.map (fun d => some (.val d)) ++ List.replicate (n - ds.length) none
theorem start_at {K : PySem.W.Frag} {Z : Hp} {N : List Str} {ds : List D} {vs : List V} (h : Ats K Z ds vs) {i : Nat} {l : L} (e : (startL N.length ds)[i]? = some (some l)) : ∃ d, l = .val d ∧ ∃ v, (L2.start N vs)[i]? = some (some v) ∧ At K Z d v := by
  unfold startL at e
  by_cases hi : i < ds.length
  · rw [List.getElem?_append_left (by simpa using hi), List.getElem?_map] at e
    cases q : ds[i]? with
    | none => rw [q] at e; cases e
    | some d =>
      rw [q] at e
      simp only [Option.map_some, Option.some.injEq] at e
      obtain ⟨v, h1, h2⟩ := h.get q
      refine ⟨d, e.symm, v, ?_, h2⟩
      unfold L2.start
      rw [List.getElem?_append_left (by rw [List.length_map, h.len]; exact hi), List.getElem?_map, h1]; rfl
  · rw [List.getElem?_append_right (by simpa using hi), List.getElem?_replicate] at e
    split at e <;> cases e
section
variable {P : Program} {w : World} {K : PySem.W.Frag} {mg : Str → Option Value} {base : Heap}
abbrev Fn (K : PySem.W.Frag) (x qual : Str) (st : Stmt) (f : Addr) (fd : FuncData) : Prop := FunD K x qual (defArgs st) (defBody st) (defScope st) [] [] f fd
theorem Fn.ok {x qual : Str} {st : Stmt} {f : Addr} {fd : FuncData} {N ps : List Str} {k : Nat} {sp : Sp} (F : Fn K x qual st f fd) (S : FnScope N ps (defScope st)) (len : ∀ vs H Q E, sp vs H Q E → vs.length = ps.length)
    (hbody : ∀ (cdv : Value) (A : Around) (outer : List Env) (s : Shared) (H : Hp) (vs : List V) (Q : VK) (E : XK), Room k (A.deeper (envOfC qual (defScope st) s.heap.objs.size f cdv)) → sp vs H Q E →
      ∃ t, PSs (cxOf CX0 P w K mg base N qual (defScope st) f cdv A outer s H E).nox (defBody st) t ∧ t { nx := fun _ H' => Q .non H', rt := Q } (L2.start N vs) H) : FnOk P w K mg base CX0 (k + 1) f fd ps sp :=
  FunD.ok F S len fun cdv A outer s H vs Q E hr h => by
    obtain ⟨t, h1, h2⟩ := hbody cdv A outer s H vs Q E hr h
    exact ⟨t, PSs.nox h1, h2⟩
theorem okP {x qual : Str} {st : Stmt} {f : Addr} {fd : FuncData} {N ps : List Str} {k : Nat} (F : Fn K x qual st f fd) (S : FnScope N ps (defScope st)) {fs : Spec0} (len : ∀ ds R, fs ds R → ds.length = ps.length)
    (body : ∃ t : PSx Unit, (∀ (cdv : Value) (A : Around) (outer : List Env) (s : Shared) (H : Hp) (E : XK), Room k (A.deeper (envOfC qual (defScope st) s.heap.objs.size f cdv)) →
      QSs (cxOf CX0 P w K mg base N qual (defScope st) f cdv A outer s H E).nox (none0 K) (defBody st) t) ∧ ∀ ds R, fs ds R → t { nx := fun _ => R .non, rt := fun d _ => R d } ⟨startL N.length ds, ()⟩) : FnOk P w K mg base CX0 (k + 1) f fd ps (spP K fs) := by
  refine F.ok S (fun vs H Q E h => ?_) (fun cdv A outer s H vs Q E hr h => ?_)
  · obtain ⟨Z, ds, R, _, a, h, _⟩ := h
    rw [a.len]; exact len _ _ h
  · obtain ⟨t, hb, hp⟩ := body
    refine ⟨_, hb cdv A outer s H E hr, ?_⟩
    obtain ⟨Z, ds, R, k, a, h, q⟩ := h
    have hl : ps.length ≤ N.length := by have := congrArg List.length S.pre; rw [List.length_take] at this; omega
    have hd := len _ _ h
    refine ⟨⟨H, fun b => H b ≠ none ∧ Z b = none, fun b hb => Option.ne_none_iff_exists'.mp hb.1⟩, Z, _, _, ?_, hp ds R h, ?_, ?_, ?_, ?_⟩
    · refine ⟨k, Same.refl _, fun b hb => hb.2, ?_, fun i d e => ?_, fun i l e ol => ?_, fun i j l m b n e1 o1 e2 => ?_, trivial, fun b z => False.elim z, fun b z => False.elim z, fun _ _ z => by cases z⟩
      · unfold L2.start startL
        simp only [List.length_append, List.length_map, List.length_replicate, a.len]
      · obtain ⟨d', e', v, h1, h2⟩ := start_at a e
        cases e'
        exact ⟨v, h1, h2⟩
      · obtain ⟨d', e', _⟩ := start_at a e
        subst e'; cases ol
      · obtain ⟨d', e', _⟩ := start_at a e1
        subst e'; cases o1
    · intro s' Z' σ' H' q' k' r'
      exact q .non Z' .non H' q' k' r'.z r'.f (fun b o e n => by
        cases hb : H b with
        | none => rfl
        | some u => have := r'.zb b ⟨by rw [hb]; simp, n⟩; rw [e] at this; cases this) rfl
    · intro d s' Z' σ' v H' q' k' r' a'
      exact q d Z' v H' q' k' r'.z r'.f (fun b o e n => by
        cases hb : H b with
        | none => rfl
        | some u => have := r'.zb b ⟨by rw [hb]; simp, n⟩; rw [e] at this; cases this) a'
    · intro s' Z' σ' H' q'; exact q'.elim
    · intro s' Z' σ' H' q'; exact q'.elim
theorem liftG {G : GP γ} {N ps : List Str} {fs : Spec γ} {t : PSx γ} (hl : ps.length ≤ N.length) (len : ∀ ds g R, fs ds g R → ds.length = ps.length) (hp : ∀ ds g R, fs ds g R → t { nx := fun s => R .non s.g, rt := R } ⟨startL N.length ds, g⟩)
    (grow : ∀ g g' : γ, ∀ a, G.foot g' a → G.foot g a) (hfl : ∀ a, G.fl a = none) {vs : List V} {H : Hp} {Q : VK} {E : XK} (h : spG G fs vs H Q E) : lS G t { nx := fun _ H' => Q .non H', rt := Q } (L2.start N vs) H := by
  obtain ⟨Z, ds, g, R, k, a, hj, hzf, h, q⟩ := h
  have hd := len _ _ _ h
  classical
  have hF : ∀ (b : Addr) (o : HO), (if G.foot g b then none else H b) = some o → H b = some o ∧ ¬ G.foot g b := fun b o e => by
    by_cases hb : G.foot g b
    · rw [if_pos hb] at e; cases e
    · rw [if_neg hb] at e; exact ⟨e, hb⟩
  refine ⟨⟨fun b => if G.foot g b then none else H b, fun b => H b ≠ none ∧ Z b = none ∧ ¬ G.foot g b, fun b hb => ?_⟩, Z, _, _, ?_, hp ds g R h, ?_, ?_, ?_, ?_⟩
  · simp only [if_neg hb.2.2]; exact Option.ne_none_iff_exists'.mp hb.1
  · refine ⟨k, fun b o e => (hF b o e).1, fun b hb => hb.2.1, ?_, fun i d e => ?_, fun i l e ol => ?_, fun i j l m b n e1 o1 e2 => ?_, hj, hzf, fun b z => if_pos z, fun b _ z => by rw [hfl b] at z; cases z⟩
    · unfold L2.start startL
      simp only [List.length_append, List.length_map, List.length_replicate, a.len]
    · obtain ⟨d', e', v, h1, h2⟩ := start_at a e
      cases e'
      exact ⟨v, h1, h2⟩
    · obtain ⟨d', e', _⟩ := start_at a e
      subst e'; cases ol
    · obtain ⟨d', e', _⟩ := start_at a e1
      subst e'; cases o1
  all_goals
    have fin : ∀ (d : D) (s' : Pm.S γ) (Z' : Hp) (σ' : St) (v : V) (H' : Hp), R d s'.g → Same Z Z' → Rel G ⟨fun b => if G.foot g b then none else H b, fun b => H b ≠ none ∧ Z b = none ∧ ¬ G.foot g b, fun b hb => by simp only [if_neg hb.2.2]; exact Option.ne_none_iff_exists'.mp hb.1⟩ Z' s' σ' H' → At G.K Z' d v → Q v H' :=
      fun d s' Z' σ' v H' q' k' r' a' => q d s'.g Z' v H' q' k' r'.z (fun b o e n => r'.f b o (by simp only [if_neg n]; exact e)) (fun b o e n => by
        cases hb : H b with
        | none => rfl
        | some u =>
          by_cases hf : G.foot g b
          · have := r'.zf b (by first | exact grow _ _ _ hf | exact hf); rw [e] at this; cases this
          · have := r'.zb b ⟨by rw [hb]; simp, n, hf⟩; rw [e] at this; cases this) r'.j (fun b hb => ⟨r'.zf b hb, .inl (grow _ _ b hb)⟩) a'
  · intro s' Z' σ' H' q' k' r'
    exact fin .non s' Z' σ' .non H' q' k' r' rfl
  · exact fin
  · intro s' Z' σ' H' q'; exact q'.elim
  · intro s' Z' σ' H' q'; exact q'.elim
theorem okG {G : GP γ} (hK : G.K = K) {x qual : Str} {st : Stmt} {f : Addr} {fd : FuncData} {N ps : List Str} {k : Nat} (F : Fn K x qual st f fd) (S : FnScope N ps (defScope st)) {fs : Spec γ} (len : ∀ ds g R, fs ds g R → ds.length = ps.length)
    (body : ∃ t : PSx γ, (∀ (cdv : Value) (A : Around) (outer : List Env) (s : Shared) (H : Hp) (E : XK), Room k (A.deeper (envOfC qual (defScope st) s.heap.objs.size f cdv)) →
      QSs (cxOf CX0 P w K mg base N qual (defScope st) f cdv A outer s H E).nox G (defBody st) t) ∧ ∀ ds g R, fs ds g R → t { nx := fun s => R .non s.g, rt := R } ⟨startL N.length ds, g⟩)
    (grow : ∀ g g' : γ, ∀ a, G.foot g' a → G.foot g a) (hfl : ∀ a, G.fl a = none := by intro _; rfl) : FnOk P w K mg base CX0 (k + 1) f fd ps (spG G fs) := by
  subst hK
  refine F.ok S (fun vs H Q E h => ?_) (fun cdv A outer s H vs Q E hr h => ?_)
  · obtain ⟨Z, ds, g, R, _, a, _, _, h, _⟩ := h
    rw [a.len]; exact len _ _ _ h
  · obtain ⟨t, hb, hp⟩ := body
    exact ⟨_, hb cdv A outer s H E hr, liftG (ps := ps) (by have := congrArg List.length S.pre; rw [List.length_take] at this; omega) len hp grow hfl h⟩
end
end Pm
set_option Elab.async false
set_option linter.all false
set_option maxRecDepth 100000
set_option maxHeartbeats 1000000
set_option autoImplicit false
namespace Pm
open PySem PySem.Spec
open PyProof.Rows hiding St
open L2
variable {γ : Type}

def keyPy : Key → PyData
  | .inl i => .int i
  | .inr x => .str x
mutual
def D.py : D → PyData
  | .non => .none
  | .bl b => .bool b
  | .int i => .int i
  | .str x => .str x
  | .lst xs => .list (D.pys xs)
  | .tup xs => .tuple (D.pys xs)
  | .dct ks xs => .dict ((ks.map keyPy).zip (D.pys xs))
  | .obj _ => .none
def D.pys : List D → List PyData
  | [] => []
  | d :: ds => d.py :: D.pys ds
end
mutual
def D.pln : D → Bool
  | .non => true
  | .bl _ => true
  | .int _ => true
  | .str x => PyData.strOk x
  | .lst xs => D.plns xs
  | .tup xs => D.plns xs
  | .dct _ _ => false
  | .obj _ => false
def D.plns : List D → Bool
  | [] => true
  | d :: ds => d.pln && D.plns ds
end
mutual
def D.dep : D → Nat
  | .lst xs => D.deps xs + 1
  | .tup xs => D.deps xs + 1
  | .dct _ xs => D.deps xs + 1
  | _ => 0
def D.deps : List D → Nat
  | [] => 0
  | d :: ds => max d.dep (D.deps ds)
end
mutual
def D.eqv : D → D → Bool
  | .non, .non => true
  | .bl a, .bl b => a == b
  | .bl a, .int j => (if a then 1 else 0) == j
  | .int i, .bl b => i == (if b then 1 else 0)
  | .int i, .int j => i == j
  | .str x, .str y => x == y
  | .lst xs, .lst ys => D.eqvs xs ys
  | .tup xs, .tup ys => D.eqvs xs ys
  | _, _ => false
def D.eqvs : List D → List D → Bool
  | [], [] => true
  | x :: xs, y :: ys => D.eqv x y && D.eqvs xs ys
  | _, _ => false
end
mutual
theorem eqv_py : ∀ (d e : D), d.pln = true → e.pln = true → PyData.eqv d.py e.py = D.eqv d e
  | .lst xs, e, h, h' => by
    cases e <;> simp_all only [D.pln, D.py, D.eqv, PyData.eqv, Bool.false_eq_true]
    exact eqvs_py xs _ h h'
  | .tup xs, e, h, h' => by
    cases e <;> simp_all only [D.pln, D.py, D.eqv, PyData.eqv, Bool.false_eq_true]
    exact eqvs_py xs _ h h'
  | .non, e, h, h' => by cases e <;> simp_all [D.pln, D.py, D.eqv, PyData.eqv]
  | .bl a, e, h, h' => by cases e <;> simp_all [D.pln, D.py, D.eqv, PyData.eqv]
  | .int a, e, h, h' => by cases e <;> simp_all [D.pln, D.py, D.eqv, PyData.eqv]
  | .str a, e, h, h' => by cases e <;> simp_all [D.pln, D.py, D.eqv, PyData.eqv]
  | .dct _ _, e, h, h' => by simp [D.pln] at h
  | .obj _, e, h, h' => by simp [D.pln] at h
theorem eqvs_py : ∀ (xs ys : List D), D.plns xs = true → D.plns ys = true → PyData.eqvAll (D.pys xs) (D.pys ys) = D.eqvs xs ys
  | [], [], _, _ => by simp [D.pys, D.eqvs, PyData.eqvAll]
  | [], _ :: _, _, _ => by simp [D.pys, D.eqvs, PyData.eqvAll]
  | _ :: _, [], _, _ => by simp [D.pys, D.eqvs, PyData.eqvAll]
  | x :: xs, y :: ys, h, h' => by
    simp only [D.plns, Bool.and_eq_true] at h h'
    simp only [D.pys, D.eqvs, PyData.eqvAll]
    rw [eqv_py x y h.1 h'.1, eqvs_py xs ys h.2 h'.2]
end
mutual
theorem canLay_py : ∀ (d : D), d.pln = true → d.py.canLay0 = true
  | .lst xs, h => by simp only [D.pln] at h; simp only [D.py, PyData.canLay0]; exact canLays_py xs h
  | .tup xs, h => by simp only [D.pln] at h; simp only [D.py, PyData.canLay0]; exact canLays_py xs h
  | .non, h => rfl
  | .bl _, h => rfl
  | .int _, h => rfl
  | .str _, h => by simp only [D.pln] at h; simp only [D.py, PyData.canLay0]; exact h
  | .dct _ _, h => by simp [D.pln] at h
  | .obj _, h => by simp [D.pln] at h
theorem canLays_py : ∀ (ds : List D), D.plns ds = true → PyData.canLayAll0 (D.pys ds) = true
  | [], _ => rfl
  | d :: ds, h => by
    simp only [D.plns, Bool.and_eq_true] at h
    simp only [D.pys, PyData.canLayAll0, Bool.and_eq_true]
    exact ⟨canLay_py d h.1, canLays_py ds h.2⟩
end
mutual
theorem dep_py : ∀ (d : D), d.pln = true → d.py.depth = d.dep
  | .lst xs, h => by simp only [D.pln] at h; simp only [D.py, PyData.depth, D.dep, deps_py xs h]
  | .tup xs, h => by simp only [D.pln] at h; simp only [D.py, PyData.depth, D.dep, deps_py xs h]
  | .non, h => by simp [D.py, PyData.depth, D.dep]
  | .bl _, h => by simp [D.py, PyData.depth, D.dep]
  | .int _, h => by simp [D.py, PyData.depth, D.dep]
  | .str _, h => by simp [D.py, PyData.depth, D.dep]
  | .dct _ _, h => by simp [D.pln] at h
  | .obj _, h => by simp [D.pln] at h
theorem deps_py : ∀ (ds : List D), D.plns ds = true → PyData.depthAll (D.pys ds) = D.deps ds
  | [], _ => by simp [D.pys, PyData.depthAll, D.deps]
  | d :: ds, h => by
    simp only [D.plns, Bool.and_eq_true] at h
    simp only [D.pys, PyData.depthAll, D.deps, dep_py d h.1, deps_py ds h.2]
end
section
variable {K : PySem.W.Frag} {Z H : Hp}
mutual
theorem At.dp (k : Same Z H) : ∀ (d : D) (v : V), At K Z d v → d.pln = true → Dp K H v d.py
  | .lst xs, v, h, p => by
    simp only [At] at h; simp only [D.pln] at p; simp only [D.py]
    obtain ⟨a, vs, rfl, h2, h3⟩ := h
    exact .lst (.inl (.inl (k _ _ h2))) (Ats.dp k xs vs h3 p)
  | .tup xs, v, h, p => by
    simp only [At] at h; simp only [D.pln] at p; simp only [D.py]
    obtain ⟨a, vs, rfl, h2, h3⟩ := h
    exact .tup (seqT k h2) (Ats.dp k xs vs h3 p)
  | .non, v, h, p => by simp only [At] at h; subst h; exact .non
  | .bl b, v, h, p => by simp only [At] at h; subst h; exact .bl b
  | .int i, v, h, p => by simp only [At] at h; subst h; exact .int i
  | .str x, v, h, p => by simp only [At] at h; subst h; exact .str x
  | .dct _ _, _, h, p => by simp [D.pln] at p
  | .obj _, _, h, p => by simp [D.pln] at p
theorem Ats.dp (k : Same Z H) : ∀ (ds : List D) (vs : List V), Ats K Z ds vs → D.plns ds = true → DpAll K H vs (D.pys ds)
  | [], vs, h, p => by simp only [Ats] at h; subst h; exact .nil
  | d :: ds, vs, h, p => by
    simp only [Ats] at h; simp only [D.plns, Bool.and_eq_true] at p; simp only [D.pys]
    obtain ⟨w, ws, rfl, h2, h3⟩ := h
    exact .cons (At.dp k d w h2 p.1) (Ats.dp k ds ws h3 p.2)
end
end

theorem dk {K : PySem.W.Frag} {Z H : Hp} {R : DK} {Q : VK} (q : ∀ z Z' v H', R z → Ext Z H Z' H' → At K Z' z v → Q v H') (k : Same Z H) {d : D} {v : V} (h : R d) (a : At K Z d v) : Q v H := q d Z v H h (Ext.refl k) a

section
variable {X : Cx}
def MulOk (i j : Int) : Prop := CMul i j ∨ CMulW i j
theorem MulOk.ok {i j : Int} (h : MulOk i j) : IntMulOk i j := by
  rcases h with h | h
  · exact h.ok
  · exact h.ok
theorem op_mulM : OpR X (binaryOp .Mult) (rI MulOk fun i j => .int (i * j)) := opI fun _ _ _ _ _ _ _ hc q => mul_int q hc.ok
def DivOk (i j : Int) : Prop := j ≠ 0 ∧ j.natAbs.log2 < 9000
theorem op_fdivM : OpR X (binaryOp .FloorDiv) (rI DivOk fun i j => .int (i.fdiv j)) := opI fun i j _ _ _ _ _ hc q => floordiv_int hc.1 q (.inl (PyProof.noPylong_of_log2 hc.2))
def rCatT' (K : PySem.W.Frag) : R2 := fun x y H Q => ∃ a b xs ys, x = .ref a ∧ y = .ref b ∧ SqT K H a xs ∧ SqT K H b ys ∧ xs.length + ys.length ≤ sizeLine ∧
  (ys = [] → Q (.ref a) H) ∧ (xs = [] → Q (.ref b) H) ∧ (∀ p, H p = none → Q (.ref p) (upd H p (.tup (xs ++ ys))))
theorem op_catT' : OpR X (binaryOp .Add) (rCatT' X.K) := by
  intro pins s σ H x y v u Q I rx ry h
  obtain ⟨a, b, xs, ys, rfl, rfl, ha, hb, hz, q1, q3, q2⟩ := h
  by_cases hx : xs = []
  · cases rx
    cases ry
    obtain ⟨its, r1, p1, _⟩ := I.tuple ha
    obtain ⟨its2, r2, p2, _⟩ := I.tuple hb
    subst hx
    cases r1
    obtain ⟨⟨cls, dd, data, sl⟩, ho, hc, n, hd⟩ := id p1
    obtain ⟨⟨cls2, dd2, data2, sl2⟩, ho2, hc2, n2, hd2⟩ := id p2
    simp only at hc hd hc2 hd2
    subst hc hd hc2 hd2
    exact concat_meets ⟨_, ho, rfl⟩ ⟨_, ho2, rfl⟩ noFill_tuple_add seq_tuple_add PySem.F.slot_tuple_add PySem.F.entry_tuple_add (PySem.F.args_tuple_add_2 _ _)
      (tuple_addW0 a b [].toArray its2.toArray n n2 dd dd2 sl sl2 rfl) ⟨ho, ho2, ⟨.ref b, H, I, rfl, q3 rfl⟩⟩
  · exact op_catT pins s σ H _ _ v u Q I rx ry ⟨a, b, xs, ys, rfl, rfl, ha, hb, hx, hz, q1, fun _ => q2⟩

def addD : D → D → DK → Prop
  | .int i, .int j, R => R (.int (i + j))
  | .str x, .str y, R => x.length + y.length ≤ sizeLine ∧ R (.str (x ++ y))
  | .tup xs, .tup ys, R => xs.length + ys.length ≤ sizeLine ∧ R (.tup (xs ++ ys))
  | .lst xs, .lst ys, R => xs.length + ys.length ≤ sizeLine ∧ R (.lst (xs ++ ys))
  | _, _, _ => False
theorem o_add : OpR X (binaryOp .Add) (dOp2 X.K addD) := by
  intro pins s σ H x y v u Q I rx ry ⟨Z, d, e, R, k, ad, ae, h, q⟩
  cases d <;> cases e <;> try exact h.elim
  · simp only [At] at ad ae
    subst ad; subst ae
    exact op_add pins s σ H _ _ v u Q I rx ry ⟨_, _, rfl, rfl, dk q k h rfl⟩
  · simp only [At] at ad ae
    subst ad; subst ae
    exact op_add_str pins s σ H _ _ v u Q I rx ry ⟨_, _, rfl, rfl, h.1, dk q k h.2 rfl⟩
  · simp only [At] at ad ae
    obtain ⟨a, vs, rfl, a2, a3⟩ := ad
    obtain ⟨b, ws, rfl, b2, b3⟩ := ae
    refine op_cat pins s σ H _ _ v u Q I rx ry ⟨a, b, vs, ws, rfl, rfl, k _ _ a2, k _ _ b2, by rw [a3.len, b3.len]; exact h.1, fun p hp => ?_⟩
    have x := Ext.new (o := HO.lst (vs ++ ws)) k hp
    exact q _ _ _ _ h.2 x ⟨p, _, rfl, upd_same, (Ats.mono x.zz _ _ a3).append (Ats.mono x.zz _ _ b3)⟩
  · simp only [At] at ad ae
    obtain ⟨a, vs, rfl, a2, a3⟩ := ad
    obtain ⟨b, ws, rfl, b2, b3⟩ := ae
    refine op_catT' pins s σ H _ _ v u Q I rx ry ⟨a, b, vs, ws, rfl, rfl, seqT k a2, seqT k b2, by rw [a3.len, b3.len]; exact h.1, fun e => ?_, fun e => ?_, fun p hp => ?_⟩
    · subst e
      have := b3.len
      rename_i ys
      cases ys with
      | nil => exact dk (d := .tup _) q k (by simpa using h.2) (show At X.K Z (.tup _) _ from ⟨a, vs, rfl, a2, a3⟩)
      | cons => simp at this
    · subst e
      have := a3.len
      rename_i xs ys
      cases xs with
      | nil => exact dk (d := .tup _) q k (by simpa using h.2) (show At X.K Z (.tup _) _ from ⟨b, ws, rfl, b2, b3⟩)
      | cons => simp at this
    · have x := Ext.new (o := HO.tup (vs ++ ws)) k hp
      exact q _ _ _ _ h.2 x ⟨p, _, rfl, .inl (.inl upd_same), (Ats.mono x.zz _ _ a3).append (Ats.mono x.zz _ _ b3)⟩
def addF : D → D → (List D → Prop) → Prop
  | .lst xs, .lst ys, R => xs.length + ys.length ≤ sizeLine ∧ R (xs ++ ys)
  | _, _, _ => False
theorem o_addF : OpR X (binaryOp .Add) (dOp2F X.K addF) := by
  intro pins s σ H x y v u Q I rx ry ⟨Z, d, e, R, k, ad, ae, h, q⟩
  cases d <;> cases e <;> try exact h.elim
  simp only [At] at ad ae
  obtain ⟨a, vs, rfl, a2, a3⟩ := ad
  obtain ⟨b, ws, rfl, b2, b3⟩ := ae
  refine op_cat pins s σ H _ _ v u Q I rx ry ⟨a, b, vs, ws, rfl, rfl, k _ _ a2, k _ _ b2, by rw [a3.len, b3.len]; exact h.1, fun p hp => ?_⟩
  exact q _ _ _ _ h.2 (same_upd hp) hp upd_same (a3.append b3)
def intD2 (C : Int → Int → Prop) (f : Int → Int → D) : D → D → DK → Prop
  | .int i, .int j, R => C i j ∧ R (f i j)
  | _, _, _ => False
theorem o_int {f : Value → Value → Sem Value} {C : Int → Int → Prop} {g : Int → Int → V} {g' : Int → Int → D} (ho : OpR X f (rI C g)) (hg : ∀ i j Z, At X.K Z (g' i j) (g i j)) : OpR X f (dOp2 X.K (intD2 C g')) := by
  intro pins s σ H x y v u Q I rx ry ⟨Z, d, e, R, k, ad, ae, h, q⟩
  cases d <;> cases e <;> try exact h.elim
  simp only [At] at ad ae
  subst ad; subst ae
  exact ho pins s σ H _ _ v u Q I rx ry ⟨_, _, rfl, rfl, h.1, dk q k h.2 (hg _ _ _)⟩
def intD0 (f : Int → Int → D) : D → D → DK → Prop
  | .int i, .int j, R => R (f i j)
  | _, _, _ => False
theorem o_int0 {f : Value → Value → Sem Value} {g : Int → Int → V} {g' : Int → Int → D} (ho : OpR X f (rI0 g)) (hg : ∀ i j Z, At X.K Z (g' i j) (g i j)) : OpR X f (dOp2 X.K (intD0 g')) := by
  intro pins s σ H x y v u Q I rx ry ⟨Z, d, e, R, k, ad, ae, h, q⟩
  cases d <;> cases e <;> try exact h.elim
  simp only [At] at ad ae
  subst ad; subst ae
  exact ho pins s σ H _ _ v u Q I rx ry ⟨_, _, rfl, rfl, dk q k h (hg _ _ _)⟩
abbrev subD := intD0 fun i j => .int (i - j)
theorem o_sub : OpR X (binaryOp .Sub) (dOp2 X.K subD) := o_int0 op_sub fun _ _ _ => rfl
abbrev modD := intD2 (fun _ j => 0 < j) fun i j => .int (i % j)
theorem o_mod : OpR X (binaryOp .Mod) (dOp2 X.K modD) := o_int op_mod fun _ _ _ => rfl
abbrev powD := intD2 CPow fun i j => .int (i ^ j.toNat)
theorem o_pow : OpR X (binaryOp .Pow) (dOp2 X.K powD) := o_int op_pow fun _ _ _ => rfl
def mulD : D → D → DK → Prop
  | .int i, .int j, R => MulOk i j ∧ R (.int (i * j))
  | .lst xs, .int k, R => (-(2 ^ 63) ≤ k ∧ k < 2 ^ 63 ∧ xs.length * k.toNat ≤ sizeLine) ∧ R (.lst (List.replicate k.toNat xs).flatten)
  | _, _, _ => False
theorem Ats.rep {K : PySem.W.Frag} {Z : Hp} {ds : List D} {vs : List V} (h : Ats K Z ds vs) : ∀ n, Ats K Z (List.replicate n ds).flatten (List.replicate n vs).flatten
  | 0 => rfl
  | n + 1 => by
    rw [List.replicate_succ, List.replicate_succ, List.flatten_cons, List.flatten_cons]
    exact h.append (Ats.rep h n)
theorem o_mul : OpR X (binaryOp .Mult) (dOp2 X.K mulD) := by
  intro pins s σ H x y v u Q I rx ry ⟨Z, d, e, R, k, ad, ae, h, q⟩
  cases d <;> cases e <;> try exact h.elim
  · simp only [At] at ad ae
    subst ad; subst ae
    exact op_mulM pins s σ H _ _ v u Q I rx ry ⟨_, _, rfl, rfl, h.1, dk q k h.2 rfl⟩
  · simp only [At] at ad ae
    obtain ⟨a, vs, rfl, a2, a3⟩ := ad
    subst ae
    refine op_rep pins s σ H _ _ v u Q I rx ry ⟨a, _, vs, rfl, rfl, k _ _ a2, h.1.1, h.1.2.1, by rw [a3.len]; exact h.1.2.2, fun p hp => ?_⟩
    rename_i xs n
    have x := Ext.new (o := HO.lst (List.replicate n.toNat vs).flatten) k hp
    exact q _ _ _ _ h.2 x ⟨p, _, rfl, upd_same, Ats.rep (Ats.mono x.zz _ _ a3) _⟩
def negD : D → DK → Prop
  | .int i, R => R (.int (-i))
  | _, _ => False
theorem o_neg : UnR X (unaryOp .USub) (dOp1 X.K negD) := by
  intro pins s σ H x v Q I rx ⟨Z, d, R, k, ad, h, q⟩
  cases d <;> try exact h.elim
  simp only [At] at ad
  subst ad
  exact un_neg pins s σ H _ v Q I rx ⟨_, rfl, dk q k h rfl⟩

def EqOk : D → D → Prop
  | .str _, .str _ => True
  | d, e => d.pln = true ∧ e.pln = true ∧ d.dep ≤ 64 ∧ e.dep ≤ 64
theorem EqOk.two {d e : D} (h : EqOk d e) : (∃ x y, d = .str x ∧ e = .str y) ∨ (d.pln = true ∧ e.pln = true ∧ d.dep ≤ 64 ∧ e.dep ≤ 64) := by
  unfold EqOk at h
  split at h
  · exact .inl ⟨_, _, rfl, rfl⟩
  · exact .inr h
theorem EqOk.of {d e : D} (h : d.pln = true ∧ e.pln = true ∧ d.dep ≤ 64 ∧ e.dep ≤ 64) : EqOk d e := by
  unfold EqOk
  split
  · trivial
  · exact h
def eqD : D → D → DK → Prop := fun d e R => EqOk d e ∧ R (.bl (D.eqv d e))
def neD : D → D → DK → Prop := fun d e R => EqOk d e ∧ R (.bl (!D.eqv d e))
theorem shaped_py {d : D} (h : d.pln = true) (h' : d.dep ≤ 64) : SeqAt.shaped d.py = true := by
  unfold SeqAt.shaped
  rw [canLay_py d h, dep_py d h, decide_eq_true h']; rfl
theorem str_dec (x y : Str) : decide (V.str x = V.str y) = (x == y) := by
  rw [Bool.eq_iff_iff]; simp
theorem o_eq {k : Nat} (hr : Room k X.A) : OpR X (compareOp .Eq) (dOp2 X.K eqD) := by
  intro pins s σ H x y v u Q I rx ry ⟨Z, d, e, R, k, ad, ae, h, q⟩
  rcases h.1.two with ⟨z1, z2, rfl, rfl⟩ | h1
  · simp only [At] at ad ae
    subst ad; subst ae
    refine op_eq pins s σ H _ _ v u Q I rx ry ⟨rfl, ?_⟩
    rw [str_dec]
    exact dk q k h.2 rfl
  refine op_eqD hr.units pins s σ H _ _ v u Q I rx ry ⟨d.py, e.py, At.dp k d x ad h1.1, At.dp k e y ae h1.2.1, shaped_py h1.1 h1.2.2.1, shaped_py h1.2.1 h1.2.2.2, ?_⟩
  rw [eqv_py d e h1.1 h1.2.1]
  exact dk q k h.2 rfl
theorem o_ne {k : Nat} (hr : Room k X.A) : OpR X (compareOp .NotEq) (dOp2 X.K neD) := by
  intro pins s σ H x y v u Q I rx ry ⟨Z, d, e, R, k, ad, ae, h, q⟩
  rcases h.1.two with ⟨z1, z2, rfl, rfl⟩ | h1
  · simp only [At] at ad ae
    subst ad; subst ae
    refine op_ne pins s σ H _ _ v u Q I rx ry ⟨rfl, ?_⟩
    rw [str_dec]
    exact dk q k h.2 rfl
  refine op_neD hr.units pins s σ H _ _ v u Q I rx ry ⟨d.py, e.py, At.dp k d x ad h1.1, At.dp k e y ae h1.2.1, shaped_py h1.1 h1.2.2.1, shaped_py h1.2.1 h1.2.2.2, ?_⟩
  rw [eqv_py d e h1.1 h1.2.1]
  exact dk q k h.2 rfl
abbrev leD := intD0 fun i j => .bl (decide (i ≤ j))
abbrev gtD := intD0 fun i j => .bl (decide (j < i))
abbrev geD := intD0 fun i j => .bl (decide (j ≤ i))
theorem o_le : OpR X (compareOp .LtE) (dOp2 X.K leD) := o_int0 op_le fun _ _ _ => rfl
theorem o_gt : OpR X (compareOp .Gt) (dOp2 X.K gtD) := o_int0 op_gt fun _ _ _ => rfl
theorem o_ge : OpR X (compareOp .GtE) (dOp2 X.K geD) := o_int0 op_ge fun _ _ _ => rfl
def isND : D → D → DK → Prop
  | .non, .non, R => R (.bl true)
  | .bl _, .non, R => R (.bl false)
  | .int _, .non, R => R (.bl false)
  | .str _, .non, R => R (.bl false)
  | .lst _, .non, R => R (.bl false)
  | .tup _, .non, R => R (.bl false)
  | .dct _ _, .non, R => R (.bl false)
  | .obj (.a _), .non, R => R (.bl false)
  | _, _, _ => False
def notND : D → D → DK → Prop := fun d e R => isND d e fun z => match z with
  | .bl b => R (.bl (!b))
  | _ => False
theorem isND_at {K : PySem.W.Frag} {Z : Hp} {d e : D} {x y : V} {R : DK} (ad : At K Z d x) (ae : At K Z e y) (h : isND d e R) : y = .non ∧ R (.bl (decide (x = .non))) := by
  cases e <;> (cases d <;> try exact h.elim) <;> (try (rename_i p; cases p <;> try exact h.elim)) <;> simp only [At, Ad.at] at ad ae
  all_goals subst ae
  all_goals first
    | (subst ad; exact ⟨rfl, by simpa [isND] using h⟩)
    | (obtain ⟨a, vs, rfl, _⟩ := ad; exact ⟨rfl, by simpa [isND] using h⟩)
theorem o_isN : OpR X (compareOp .Is) (dOp2 X.K isND) := by
  intro pins s σ H x y v u Q I rx ry ⟨Z, d, e, R, k, ad, ae, h, q⟩
  obtain ⟨h1, h2⟩ := isND_at ad ae h
  exact op_isN pins s σ H _ _ v u Q I rx ry ⟨h1, dk q k h2 rfl⟩
theorem o_notN : OpR X (compareOp .IsNot) (dOp2 X.K notND) := by
  intro pins s σ H x y v u Q I rx ry ⟨Z, d, e, R, k, ad, ae, h, q⟩
  obtain ⟨h1, h2⟩ := isND_at ad ae h
  exact op_notN pins s σ H _ _ v u Q I rx ry ⟨h1, dk q k h2 rfl⟩
def inW (neg : Bool) : D → D → DK → Prop := fun d e R => match e with
  | .lst xs => (d.pln = true ∧ D.plns xs = true ∧ d.dep ≤ 60) ∧ R (.bl (neg ^^ xs.any fun y => D.eqv y d))
  | .tup xs => (d.pln = true ∧ D.plns xs = true ∧ d.dep ≤ 60) ∧ R (.bl (neg ^^ xs.any fun y => D.eqv y d))
  | _ => False
abbrev inD := inW false
abbrev notInD := inW true
theorem any_py {xs : List D} {d : D} (h : D.plns xs = true) (hd : d.pln = true) : ((D.pys xs).any fun y => PyData.eqv y d.py) = xs.any fun y => D.eqv y d := by
  induction xs with
  | nil => rfl
  | cons y ys ih =>
    simp only [D.plns, Bool.and_eq_true] at h
    simp only [D.pys, List.any_cons]
    rw [eqv_py y d h.1 hd, ih h.2]
theorem room_in {A : Around} {k n m : Nat} (hr : Room k A) (h : m ≤ 60) : A.units + 1 + min n m < cLine := by
  have := hr.units
  have : min n m ≤ m := Nat.min_le_right _ _
  omega
theorem o_in {k : Nat} (hr : Room k X.A) : OpR X (compareOp .In) (dOp2 X.K inD) := by
  intro pins s σ H x y v u Q I rx ry ⟨Z, d, e, R, k, ad, ae, h, q⟩
  cases e <;> try exact h.elim
  · obtain ⟨⟨h1, h2, h3⟩, h4⟩ := h
    obtain ⟨as, r1⟩ := Dp.reads I _ y u (At.dp k _ y ae h2) ry
    obtain ⟨bs, r2⟩ := Dp.reads I _ x v (At.dp k _ x ad h1) rx
    exact SeqAt.in_list_reads r1 r2 (canLays_py _ h2) (canLay_py _ h1) (by rw [dep_py d h1]; exact room_in hr h3) ⟨.bl _, H, I, rfl, dk q k h4 (by simp [At, any_py h2 h1])⟩
  · obtain ⟨⟨h1, h2, h3⟩, h4⟩ := h
    obtain ⟨as, r1⟩ := Dp.reads I _ y u (At.dp k _ y ae h2) ry
    obtain ⟨bs, r2⟩ := Dp.reads I _ x v (At.dp k _ x ad h1) rx
    exact SeqAt.in_tuple_reads r1 r2 (canLays_py _ h2) (canLay_py _ h1) (by rw [dep_py d h1]; exact room_in hr h3) ⟨.bl _, H, I, rfl, dk q k h4 (by simp [At, any_py h2 h1])⟩
theorem o_notIn {k : Nat} (hr : Room k X.A) : OpR X (compareOp .NotIn) (dOp2 X.K notInD) := by
  intro pins s σ H x y v u Q I rx ry ⟨Z, d, e, R, k, ad, ae, h, q⟩
  cases e <;> try exact h.elim
  · obtain ⟨⟨h1, h2, h3⟩, h4⟩ := h
    obtain ⟨as, r1⟩ := Dp.reads I _ y u (At.dp k _ y ae h2) ry
    obtain ⟨bs, r2⟩ := Dp.reads I _ x v (At.dp k _ x ad h1) rx
    exact SeqAt.notIn_list_reads r1 r2 (canLays_py _ h2) (canLay_py _ h1) (by rw [dep_py d h1]; exact room_in hr h3) ⟨.bl _, H, I, rfl, dk q k h4 (by simp [At, any_py h2 h1])⟩
  · obtain ⟨⟨h1, h2, h3⟩, h4⟩ := h
    obtain ⟨as, r1⟩ := Dp.reads I _ y u (At.dp k _ y ae h2) ry
    obtain ⟨bs, r2⟩ := Dp.reads I _ x v (At.dp k _ x ad h1) rx
    exact SeqAt.notIn_tuple_reads r1 r2 (canLays_py _ h2) (canLay_py _ h1) (by rw [dep_py d h1]; exact room_in hr h3) ⟨.bl _, H, I, rfl, dk q k h4 (by simp [At, any_py h2 h1])⟩
end
end Pm
set_option Elab.async false
set_option linter.all false
set_option maxRecDepth 100000
set_option maxHeartbeats 1000000
set_option autoImplicit false
namespace Pm
open PySem PySem.Spec
open PyProof.Rows hiding St
open L2
variable {γ : Type}

inductive Sk where | l (a : Addr) | t (a : Addr) | s (x : Str) (tk : Tok)
def Sk.it : Sk → Heap → Addr → Nat → Prop
  | .l a, h, it, i => h.IsListIter it a i
  | .t a, h, it, i => h.IsTupleIter it a i
  | .s x tk, h, it, i => h.IsStrIter it (strIterType x) x tk i
def Sk.fp : Sk → List Addr
  | .l a => [a]
  | .t a => [a]
  | .s _ _ => []
def Sk.src (K : PySem.W.Frag) (H : Hp) : Sk → List V → Prop
  | .l a, xs => SqL K H a xs
  | .t a, xs => SqT K H a xs
  | .s x _, xs => xs = x.cps.toList.map fun c => V.str ⟨#[c]⟩
def Sk.mem (h : Heap) : Sk → List Value → Prop
  | .l a, its => h.IsList a its.toArray
  | .t a, its => h.IsTuple a its.toArray
  | .s _ _, _ => True
def Sk.pr : Sk → List Value → Nat → Value → Prop
  | .s x _, _, i, v => ∃ c u, x.cps[i]? = some c ∧ v = .str ⟨#[c]⟩ u
  | _, its, i, v => its.toArray[i]? = some v
def Sk.val : Sk → Value
  | .l a => .ref a
  | .t a => .ref a
  | .s x tk => .str x tk
def Sk.ob : Sk → Obj
  | .l a => { cls := .type "list_iterator", data := .fields #[.ref a, .int 0 0] }
  | .t a => { cls := .type "tuple_iterator", data := .fields #[.ref a, .int 0 0] }
  | .s x tk => { cls := .type (strIterType x), data := .fields #[.str x tk, .int 0 0] }
section
variable {X : Cx} {pins : List (Addr × Obj)} {σ : St} {H : Hp} {s : Shared}
theorem Sk.read (I : L2.Inv X pins σ H s) {k : Sk} {xs : List V} (h : k.src X.K H xs) : ∃ its, k.mem s.heap its ∧ (∀ i v, k.pr its i v → ∃ x, xs[i]? = some x ∧ RelV x v) ∧ ∀ (A : Around), A.handled = none → ∀ it, it ∉ k.fp →
    Draws X.prog X.w A it (it :: k.fp) xs.length (k.pr its) (fun i h => k.it h it i ∧ k.mem h its) := by
  cases k with
  | l a =>
    obtain ⟨its, r, p, _⟩ := I.list h
    refine ⟨its, p.isList, fun i v e => ?_, fun A hA it hne => ?_⟩
    · have e' : its[i]? = some v := by simpa [Sk.pr] using e
      have hl := r.length
      have hi : i < xs.length := by rw [hl]; exact (List.getElem?_eq_some_iff.mp e').1
      obtain ⟨u, h1, h2⟩ := r.get (List.getElem?_eq_getElem hi)
      rw [e'] at h1; cases h1
      exact ⟨_, List.getElem?_eq_getElem hi, h2⟩
    · have := Draws.list (prog := X.prog) (w := X.w) hA it a (fun e => hne (by simp [Sk.fp, e])) its.toArray
      rw [List.size_toArray, ← r.length] at this
      exact this
  | t a =>
    obtain ⟨its, r, p, _⟩ := I.tuple h
    refine ⟨its, p, fun i v e => ?_, fun A hA it hne => ?_⟩
    · have e' : its[i]? = some v := by simpa [Sk.pr] using e
      have hl := r.length
      have hi : i < xs.length := by rw [hl]; exact (List.getElem?_eq_some_iff.mp e').1
      obtain ⟨u, h1, h2⟩ := r.get (List.getElem?_eq_getElem hi)
      rw [e'] at h1; cases h1
      exact ⟨_, List.getElem?_eq_getElem hi, h2⟩
    · have := Draws.tuple (prog := X.prog) (w := X.w) hA it a (fun e => hne (by simp [Sk.fp, e])) its.toArray
      rw [List.size_toArray, ← r.length] at this
      exact this
  | s x tk =>
    have hx : xs = x.cps.toList.map fun c => V.str ⟨#[c]⟩ := h
    refine ⟨[], trivial, fun i v e => ?_, fun A hA it hne => ?_⟩
    · obtain ⟨c, u, h1, rfl⟩ := e
      exact ⟨.str ⟨#[c]⟩, by rw [hx, List.getElem?_map, Array.getElem?_toList, h1]; rfl, ⟨u, rfl⟩⟩
    · have := Draws.text (prog := X.prog) (w := X.w) hA it x tk
      have hl : xs.length = x.cps.size := by rw [hx, List.length_map, Array.length_toList]
      rw [hl]
      exact ⟨fun i h st => this.live i h st.1, fun i h h' st k => ⟨this.frame i h h' st.1 k, trivial⟩, fun i s Q E hi st hQ => this.item i s Q E hi st.1 fun v h' tk p st' sb => hQ v h' tk p ⟨st', trivial⟩ sb,
        fun s Q E st hE => this.done s Q E st.1 hE⟩
theorem Sk.src_inj (I : L2.Inv X pins σ H s) {k : Sk} {xs ys : List V} (h : k.src X.K H xs) (h' : k.src X.K H ys) : xs = ys := by
  cases k with
  | l a => exact I.list_inj h h'
  | t a => exact I.tuple_inj h h'
  | s x tk => exact (show xs = _ from h).trans (show ys = _ from h').symm
theorem Sk.begins (k : Sk) (its : List Value) : Begins k.val k.ob (fun h => k.mem h its) := by
  cases k with
  | l a => exact begins_list a its.toArray
  | t a => exact begins_tuple a its.toArray
  | s x tk => exact begins_text x tk
theorem Sk.it0 {k : Sk} {h : Heap} {it : Addr} (e : h.get? it = some k.ob) : k.it h it 0 := by
  cases k with
  | l a => exact ⟨_, e, rfl, rfl⟩
  | t a => exact ⟨_, e, rfl, rfl⟩
  | s x tk => exact ⟨_, e, rfl, rfl⟩
theorem Sk.itAt {k : Sk} {h h' : Heap} {it : Addr} {i : Nat} (st : k.it h it i) (kp : ∀ o, h.get? it = some o → h'.get? it = some o) : k.it h' it i := by
  cases k with
  | l a => exact Heap.IsListIter.at st kp
  | t a => exact Heap.IsTupleIter.at st kp
  | s x tk => obtain ⟨o, ho, r⟩ := st; exact ⟨o, kp o ho, r⟩
theorem Sk.itOb {k : Sk} {h : Heap} {it : Addr} {i : Nat} (st : k.it h it i) : ∃ o, h.get? it = some o ∧ ∀ v, o.data ≠ .cell v := by
  cases k with
  | l a => obtain ⟨o, e, _, d⟩ := st; exact ⟨o, e, fun v q => by rw [d] at q; cases q⟩
  | t a => obtain ⟨o, e, _, d⟩ := st; exact ⟨o, e, fun v q => by rw [d] at q; cases q⟩
  | s x tk => obtain ⟨o, e, _, d⟩ := st; exact ⟨o, e, fun v q => by rw [d] at q; cases q⟩
end

theorem turnT {X : Cx} {pins : List (Addr × Obj)} {σ : St} {H : Hp} {s : Shared} {I : Addr} {fp wr cells : List Addr} {n i : Nat} {Pt : Nat → Array Value → Prop} {Stt : Nat → Heap → Prop} {Mid : Nat → Addr → Heap → Prop} {elts : List Expr} {kk : Nat} {tpos : Pos} {E : Value → Shared → Prop} {Good : List V → Prop}
    (W : WalksT X.prog X.w X.A I fp wr n Pt Stt Mid) (hi : i < n) (st : Stt i s.heap) (J : L2.Inv X pins σ H s) (hwr : ∀ b ∈ wr, b ∈ cells) (hf : ∀ b ∈ cells, FpOk X pins H b) (hcl : ∀ b ∈ cells, ∃ o, s.heap.get? b = some o)
    (hP : ∀ vals, Pt i vals → ∃ xs, Vals xs vals.toList ∧ xs.length ≤ sizeLine ∧ Good xs) :
    wpAny (model X.prog X.w) X.A (pyNext (.ref I)) (fun r s1 => ∃ u, r = some u ∧ wpAny (model X.prog X.w) X.A (letOwnedTupleGo (.Tuple elts kk tpos) (.ref I) u) (fun _ s2 => ∃ T xs, Good xs ∧ u = .ref T ∧ H T = none ∧
      L2.Inv X pins σ (upd H T (.tup xs)) s2 ∧ Stt (i + 1) s2.heap ∧ ∀ b ∈ cells, (upd H T (.tup xs)) b = none) E s1) E s := by
  refine W.item i s _ E hi st fun T vals h' tk hp hT hIs hMid hk => ⟨_, rfl, ?_⟩
  refine W.go elts kk tpos i T { s with heap := h', toks := tk } _ _ hMid fun h'' st'' hk'' => ?_
  obtain ⟨xs, rv, hz, hg⟩ := hP vals hp
  have hHT : H T = none := J.hok.fresh hT
  have keep : ∀ b o, b ∉ cells → s.heap.get? b = some o → h''.get? b = some o := fun b o hb e => hk'' b o (fun h => hb (hwr b h)) (hk b o (fun h => hb (hwr b h)) e)
  obtain ⟨oT, eT, cT, nT, dT⟩ := hIs
  have new : ObjOk X.prog X.w (upd H T (.tup xs)) h'' T (.tup xs) := ⟨hz, vals.toList, rv, ⟨oT, hk'' T oT (W.apart i T h' hMid) eT, cT, nT, by simpa using dT⟩⟩
  refine ⟨T, xs, hg, rfl, hHT, J.turnedNew (t' := tk) (ch := cells) keep hf hT new, st'', fun b hb => ?_⟩
  obtain ⟨o, e⟩ := hcl b hb
  rw [upd_ne (Nat.ne_of_lt (Nat.lt_of_lt_of_le (Heap.lt_size e) hT))]
  exact (hf b hb).1

def Jz (K : PySem.W.Frag) (k1 k2 : Sk) : It :=
  ⟨fun i H => ∃ (xs ys : List V) (x y : V), k1.src K H xs ∧ k2.src K H ys ∧ xs[i]? = some x ∧ ys[i]? = some y,
    fun i H v H' => ∃ T x y, v = .ref T ∧ H T = none ∧ H' = upd H T (.tup [x, y]) ∧ (∀ xs, k1.src K H xs → xs[i]? = some x) ∧ ∀ ys, k2.src K H ys → ys[i]? = some y,
    fun i H => ∃ xs ys : List V, k1.src K H xs ∧ k2.src K H ys ∧ i = min xs.length ys.length⟩
theorem turn_zipG {P : Program} {w : World} {K : PySem.W.Frag} {elts : List Expr} {kk : Nat} {tpos : Pos} {z TI TO i1 i2 : Addr} {k1 k2 : Sk} (Sp : ZipSep2 z TI TO i1 i2 (i1 :: k1.fp) (i2 :: k2.fp)) (n1 : i1 ∉ k1.fp) (n2 : i2 ∉ k2.fp) :
    Turn P w K (.Tuple elts kk tpos) (Jz K k1 k2) [z, TI, TO, i1, i2] z (fun i h => IsZip h z TI TO .none ∧ IsTupOf2 h TI (.ref i1) (.ref i2) ∧ (∃ a1 a2, IsTupOf2 h TO a1 a2) ∧ k1.it h i1 i ∧ k2.it h i2 i) where
  mem := by simp
  obj := fun i h st c hc => by
    obtain ⟨hz, hTI, ⟨x, y, hTO⟩, h1, h2⟩ := st
    have e' : c = z ∨ c = TI ∨ c = TO ∨ c = i1 ∨ c = i2 := by simpa using hc
    rcases e' with q | q | q | q | q
    · rw [q]; exact ⟨_, hz, fun v q => nomatch q⟩
    · rw [q]; exact ⟨_, hTI, fun v q => nomatch q⟩
    · rw [q]; exact ⟨_, hTO, fun v q => nomatch q⟩
    · rw [q]; exact Sk.itOb h1
    · rw [q]; exact Sk.itOb h2
  keep := fun i h h' st k => by
    obtain ⟨hz, hTI, ⟨x, y, hTO⟩, h1, h2⟩ := st
    exact ⟨k z (by simp) _ hz, k TI (by simp) _ hTI, ⟨x, y, k TO (by simp) _ hTO⟩, Sk.itAt h1 fun o q => k i1 (by simp) o q, Sk.itAt h2 fun o q => k i2 (by simp) o q⟩
  item := by
    intro X hP hw hK hc i pins s σ H E I hf st hg
    subst hP hw hK
    obtain ⟨hz, hTI, ⟨x0, y0, hTO⟩, h1, h2⟩ := st
    obtain ⟨xs, ys, x, y, hqx, hqy, hx, hy⟩ := hg
    obtain ⟨its, m1, p1, d1⟩ := Sk.read I hqx
    obtain ⟨its2, m2, p2, d2⟩ := Sk.read I hqy
    have hd := I.ok.hd hc
    have W := WalksT.zipD2 Sp (d1 X.A.in1 hd i1 n1) (d2 X.A.in1 hd i2 n2)
    have hi : i < min xs.length ys.length := by
      have a := (List.getElem?_eq_some_iff.mp hx).1
      have b := (List.getElem?_eq_some_iff.mp hy).1
      omega
    refine thn (turnT (Good := fun zs => zs = [x, y]) W hi ⟨hz, hTI, ⟨x0, y0, hTO⟩, ⟨h1, m1⟩, h2, m2⟩ I (cells := [z, TI, TO, i1, i2]) (fun b hb => ?_) hf (fun b hb => ?_) fun vals hv => ?_) fun r s1 ⟨u, hr, h⟩ => ⟨u, hr, thn h fun _ s2 ⟨T, zs, e1, e2, e3, e4, e5, e6⟩ => ?_⟩
    · have : b = z ∨ b = TO ∨ b = i1 ∨ b = i2 := by simpa using hb
      simp only [List.mem_cons, List.not_mem_nil, or_false]
      rcases this with h | h | h | h <;> simp [h]
    · have e' : b = z ∨ b = TI ∨ b = TO ∨ b = i1 ∨ b = i2 := by simpa using hb
      rcases e' with q | q | q | q | q
      · rw [q]; exact ⟨_, hz⟩
      · rw [q]; exact ⟨_, hTI⟩
      · rw [q]; exact ⟨_, hTO⟩
      · rw [q]; obtain ⟨o, e, _⟩ := Sk.itOb h1; exact ⟨o, e⟩
      · rw [q]; obtain ⟨o, e, _⟩ := Sk.itOb h2; exact ⟨o, e⟩
    · obtain ⟨x1, x2, q1, q2, rfl⟩ := hv
      obtain ⟨v1, f1, r1⟩ := p1 i x1 q1
      obtain ⟨v2, f2, r2⟩ := p2 i x2 q2
      rw [hx] at f1; rw [hy] at f2
      cases f1; cases f2
      exact ⟨[x, y], .cons r1 (.cons r2 .nil), by show 2 ≤ sizeLine; decide, rfl⟩
    · subst e1; subst e2
      obtain ⟨z', TI', TO', ⟨a1, _⟩, a2, _⟩ := e5
      exact ⟨.ref T, _, e4, rfl, ⟨T, x, y, rfl, e3, rfl, fun l hl => by rw [Sk.src_inj I hl hqx]; exact hx, fun l hl => by rw [Sk.src_inj I hl hqy]; exact hy⟩, ⟨z', TI', TO', a1, a2⟩, e6⟩
  done := by
    intro X hP hw hK hc i pins s σ H E I hf st hg
    subst hP hw hK
    obtain ⟨hz, hTI, ⟨x0, y0, hTO⟩, h1, h2⟩ := st
    obtain ⟨xs, ys, hqx, hqy, rfl⟩ := hg
    obtain ⟨its, m1, p1, d1⟩ := Sk.read I hqx
    obtain ⟨its2, m2, p2, d2⟩ := Sk.read I hqy
    have hd := I.ok.hd hc
    have W := WalksT.zipD2 Sp (d1 X.A.in1 hd i1 n1) (d2 X.A.in1 hd i2 n2)
    refine W.done s _ E ⟨hz, hTI, ⟨x0, y0, hTO⟩, ⟨h1, m1⟩, h2, m2⟩ fun h' tk hk => ⟨rfl, I.turnedL (t' := tk) (ch := [z, TI, TO, i1, i2]) (fun b o hb e => hk b o (fun q => hb ?_) e) hf⟩
    have : b = z ∨ b = TO ∨ b = i1 ∨ b = i2 := by simpa using q
    simp only [List.mem_cons, List.not_mem_nil, or_false]
    rcases this with h | h | h | h <;> simp [h]
  self := fun A i s Q E st h => wpAny_pyIter_zip st.1 h

def Je (K : PySem.W.Frag) (k1 : Sk) : It :=
  ⟨fun i H => ∃ (xs : List V) (x : V), k1.src K H xs ∧ xs[i]? = some x,
    fun i H v H' => ∃ T x, v = .ref T ∧ H T = none ∧ H' = upd H T (.tup [.int (i : Nat), x]) ∧ (∀ xs, k1.src K H xs → xs[i]? = some x),
    fun i H => ∃ xs : List V, k1.src K H xs ∧ i = xs.length⟩
theorem turn_enumG {P : Program} {w : World} {K : PySem.W.Frag} {elts : List Expr} {kk : Nat} {tpos : Pos} {e it : Addr} {k1 : Sk} (hei : e ≠ it) (hef : e ∉ it :: k1.fp) (n1 : it ∉ k1.fp) :
    Turn P w K (.Tuple elts kk tpos) (Je K k1) [e, it] e (fun i h => (∃ old, IsEnum h e it ((0 : Int) + (i : Int)) old) ∧ k1.it h it i) where
  mem := by simp
  obj := fun i h st c hc => by
    obtain ⟨⟨old, he⟩, h1⟩ := st
    have e' : c = e ∨ c = it := by simpa using hc
    rcases e' with q | q
    · rw [q]; exact ⟨_, he, fun v q => nomatch q⟩
    · rw [q]; exact Sk.itOb h1
  keep := fun i h h' st k => by
    obtain ⟨⟨old, he⟩, h1⟩ := st
    exact ⟨⟨old, k e (by simp) _ he⟩, Sk.itAt h1 fun o q => k it (by simp) o q⟩
  item := by
    intro X hP hw hK hc i pins s σ H E I hf st hg
    subst hP hw hK
    obtain ⟨⟨old, he⟩, h1⟩ := st
    obtain ⟨xs, x, hqx, hx⟩ := hg
    obtain ⟨its, m1, p1, d1⟩ := Sk.read I hqx
    have hd := I.ok.hd hc
    have W := WalksT.enumFrom 0 (d1 X.A.in1 hd it n1) e hei hef (by simp)
    have hi : i < xs.length := (List.getElem?_eq_some_iff.mp hx).1
    refine thn (turnT (Good := fun zs => zs = [.int (i : Nat), x]) W hi ⟨⟨old, he⟩, h1, m1⟩ I (cells := [e, it]) (fun b hb => hb) hf (fun b hb => ?_) fun vals hv => ?_) fun r s1 ⟨u, hr, h⟩ => ⟨u, hr, thn h fun _ s2 ⟨T, zs, e1, e2, e3, e4, e5, e6⟩ => ?_⟩
    · have e' : b = e ∨ b = it := by simpa using hb
      rcases e' with q | q
      · rw [q]; exact ⟨_, he⟩
      · rw [q]; obtain ⟨o, e, _⟩ := Sk.itOb h1; exact ⟨o, e⟩
    · obtain ⟨t, x1, q1, rfl⟩ := hv
      obtain ⟨v1, f1, r1⟩ := p1 i x1 q1
      rw [hx] at f1
      cases f1
      exact ⟨[.int (i : Nat), x], .cons ⟨t, by rw [Int.zero_add]⟩ (.cons r1 .nil), by show 2 ≤ sizeLine; decide, rfl⟩
    · subst e1; subst e2
      exact ⟨.ref T, _, e4, rfl, ⟨T, x, rfl, e3, rfl, fun l hl => by rw [Sk.src_inj I hl hqx]; exact hx⟩, ⟨e5.1, e5.2.1⟩, e6⟩
  done := by
    intro X hP hw hK hc i pins s σ H E I hf st hg
    subst hP hw hK
    obtain ⟨⟨old, he⟩, h1⟩ := st
    obtain ⟨xs, hqx, rfl⟩ := hg
    obtain ⟨its, m1, p1, d1⟩ := Sk.read I hqx
    have hd := I.ok.hd hc
    have W := WalksT.enumFrom 0 (d1 X.A.in1 hd it n1) e hei hef (by simp)
    exact W.done s _ E ⟨⟨old, he⟩, h1, m1⟩ fun h' tk hk => ⟨rfl, I.turnedL (t' := tk) (ch := [e, it]) (fun b o hb e => hk b o hb e) hf⟩
  self := fun A i s Q E st h => let ⟨⟨_, he⟩, _⟩ := st; wpAny_pyIter_enum he h

def itemsD : D → Option (List D)
  | .lst xs => some xs
  | .tup xs => some xs
  | .str x => some (x.cps.toList.map fun c => .str ⟨#[c]⟩)
  | _ => none
theorem src_of {K : PySem.W.Frag} {Z : Hp} {d : D} {v : V} {u : Value} {ds : List D} (a : At K Z d v) (r : RelV v u) (e : itemsD d = some ds) :
    ∃ k : Sk, k.val = u ∧ (∀ H, Same Z H → ∃ xs, k.src K H xs ∧ Ats K Z ds xs) := by
  cases d <;> simp only [itemsD, Option.some.injEq, reduceCtorEq] at e
  · simp only [At] at a
    subst a; subst e
    obtain ⟨t, rfl⟩ := r
    rename_i x
    refine ⟨.s x t, rfl, fun H _ => ⟨_, rfl, ?_⟩⟩
    generalize x.cps.toList = l
    induction l with
    | nil => rfl
    | cons c l ih => exact ⟨_, _, rfl, rfl, ih⟩
  · simp only [At] at a
    obtain ⟨p, vs, rfl, h1, h2⟩ := a
    subst e
    cases r
    exact ⟨.l p, rfl, fun H k => ⟨vs, .inl (.inl (k _ _ h1)), h2⟩⟩
  · simp only [At] at a
    obtain ⟨p, vs, rfl, h1, h2⟩ := a
    subst e
    cases r
    exact ⟨.t p, rfl, fun H k => ⟨vs, seqT k h1, h2⟩⟩
theorem Sk.fp_lt {X : Cx} {pins : List (Addr × Obj)} {σ : St} {H : Hp} {s : Shared} (I : L2.Inv X pins σ H s) {k : Sk} {xs : List V} (h : k.src X.K H xs) : ∀ b ∈ k.fp, b < s.heap.objs.size := by
  cases k with
  | l a =>
    intro b hb
    obtain ⟨its, r, p, _⟩ := I.list h
    rw [show b = a by simpa [Sk.fp] using hb]; exact p.lt
  | t a =>
    intro b hb
    obtain ⟨its, r, p, _⟩ := I.tuple h
    rw [show b = a by simpa [Sk.fp] using hb]; exact p.lt
  | s x tk => intro b hb; cases hb

def zipD : List D → List D → List D
  | x :: xs, y :: ys => .tup [x, y] :: zipD xs ys
  | _, _ => []
theorem zipD_len : ∀ xs ys : List D, (zipD xs ys).length = min xs.length ys.length
  | [], _ => by simp [zipD]
  | _ :: _, [] => by simp [zipD]
  | x :: xs, y :: ys => by simp only [zipD, List.length_cons, zipD_len xs ys]; omega
theorem zipD_get : ∀ {xs ys : List D} {i : Nat} {d : D}, (zipD xs ys)[i]? = some d → ∃ x y, xs[i]? = some x ∧ ys[i]? = some y ∧ d = .tup [x, y]
  | [], _, _, _, h => by simp [zipD] at h
  | _ :: _, [], _, _, h => by simp [zipD] at h
  | x :: xs, y :: ys, 0, d, h => by simp [zipD] at h; exact ⟨x, y, rfl, rfl, h.symm⟩
  | x :: xs, y :: ys, i + 1, d, h => zipD_get (xs := xs) (ys := ys) (i := i) (by simpa [zipD] using h)
def enumGo (i : Nat) : List D → List D
  | [] => []
  | d :: ds => .tup [.int (i : Nat), d] :: enumGo (i + 1) ds
def enumD (ds : List D) : List D := enumGo 0 ds
theorem enumGo_len : ∀ (ds : List D) (k : Nat), (enumGo k ds).length = ds.length
  | [], _ => rfl
  | d :: ds, k => by simp only [enumGo, List.length_cons, enumGo_len ds]
theorem enumGo_get : ∀ {ds : List D} {i k : Nat} {d : D}, (enumGo k ds)[i]? = some d → ∃ x, ds[i]? = some x ∧ d = .tup [.int ((k + i : Nat) : Int), x]
  | [], _, _, _, h => by simp [enumGo] at h
  | x :: xs, 0, k, d, h => by simp [enumGo] at h; exact ⟨x, rfl, by rw [Nat.add_zero]; exact h.symm⟩
  | x :: xs, i + 1, k, d, h => by
    obtain ⟨y, h1, h2⟩ := enumGo_get (ds := xs) (i := i) (k := k + 1) (by simpa [enumGo] using h)
    exact ⟨y, by simpa using h1, by rw [show k + (i + 1) = k + 1 + i by omega]; exact h2⟩

section
variable {X : Cx} {G : GP γ} {tg e e2 : Expr} {p pos tpos : Pos} {elts : List Expr} {kk : Nat}
def qItems (te : PEx γ) : PAx γ := fun s R => te s fun d s1 => match itemsD d with
  | some ds => R ds s1
  | none => False
theorem walks_list {K : PySem.W.Frag} {Z : Hp} {a : Addr} {vs : List V} {ds : List D} (h : Z a = some (.lst vs)) (h2 : Ats K Z ds vs) : Walks K (Itl K a) Z ds := by
  intro i Z1 H k1 k2
  have hs : SqL K H a vs := .inl (.inl (k2 _ _ (k1 _ _ h)))
  refine ⟨fun d hd => ?_, fun hl => ⟨vs, hs, by rw [h2.len]; exact Nat.le_of_eq hl.symm⟩⟩
  obtain ⟨v, hv, av⟩ := h2.get hd
  refine ⟨⟨vs, v, hs, hv⟩, fun x H' y => ?_⟩
  obtain ⟨e, y⟩ := y
  subst e
  have := y vs hs
  rw [hv] at this
  cases this
  exact ⟨Z1, Ext.refl k2, At.mono k1 _ _ av⟩
theorem walks_tup {K : PySem.W.Frag} {Z : Hp} {a : Addr} {vs : List V} {ds : List D} (h : SqT K Z a vs) (h2 : Ats K Z ds vs) : Walks K (Itt K a) Z ds := by
  intro i Z1 H k1 k2
  have hs : SqT K H a vs := seqT (k1.trans k2) h
  refine ⟨fun d hd => ?_, fun hl => ⟨vs, hs, by rw [h2.len]; exact Nat.le_of_eq hl.symm⟩⟩
  obtain ⟨v, hv, av⟩ := h2.get hd
  refine ⟨⟨vs, v, hs, hv⟩, fun x H' y => ?_⟩
  obtain ⟨e, y⟩ := y
  subst e
  have := y vs hs
  rw [hv] at this
  cases this
  exact ⟨Z1, Ext.refl k2, At.mono k1 _ _ av⟩
theorem walks_str {K : PySem.W.Frag} {Z : Hp} {x : Str} : Walks K (Its x) Z (x.cps.toList.map fun c => .str ⟨#[c]⟩) := by
  intro i Z1 H k1 k2
  refine ⟨fun d hd => ?_, fun hl => (by have : i = x.cps.size := by simpa using hl
                                        exact Nat.le_of_eq this.symm : x.cps.size ≤ i)⟩
  rw [List.getElem?_map, Array.getElem?_toList] at hd
  cases q : x.cps[i]? with
  | none => rw [q] at hd; cases hd
  | some c =>
    rw [q] at hd
    cases hd
    refine ⟨(Array.getElem?_eq_some_iff.mp q).1, fun v H' y => ?_⟩
    obtain ⟨e, c', h1, h2⟩ := y
    subst e; subst h2
    rw [q] at h1; cases h1
    exact ⟨Z1, Ext.refl k2, rfl⟩
theorem qi_seq {te : PEx γ} (h : QE X G e te) (hK : X.K = G.K := by rfl) : QI X G tg e (qItems te) := by
  refine ⟨fun pins s σ H R I w => ?_⟩
  obtain ⟨F, Z, sg, Rp, r, t, q⟩ := w
  refine thn (h.run pins s σ H (fun v H1 => ∃ d s1 Z1, Rel G F Z1 s1 σ H1 ∧ At G.K Z1 d v ∧ ∃ ds, itemsD d = some ds ∧ ∀ J, Walks G.K J Z1 ds → R J H1) I ⟨F, Z, sg, _, r, t, fun d s1 Z1 v H1 t1 k1 r1 a1 => ?_⟩) fun u s1 ⟨v, H1, I1, rv, d, sg1, Z1, r1, a1, ds, e1, q1⟩ => ?_
  · cases e1 : itemsD d with
    | none => rw [e1] at t1; exact t1.elim
    | some ds => rw [e1] at t1; exact ⟨d, s1, Z1, r1, a1, ds, e1, fun J hJ => q ds s1 Z1 H1 J t1 k1 r1 hJ⟩
  · have fresh : ∀ b ∈ [s1.heap.objs.size], FpOk X pins H1 b := fun b hb => by
      have e : b = s1.heap.objs.size := by simpa using hb
      subst e
      exact I1.fpOk (Nat.le_refl _) (I1.hok.fresh (Nat.le_refl _))
    cases d <;> simp only [itemsD, Option.some.injEq, reduceCtorEq] at e1
    · simp only [At] at a1
      subst a1; subst e1
      rename_i x
      obtain ⟨t, rfl⟩ := rv
      -- a text's iterator
      refine wpAny_pyIter_strU ?_
      have I2 : L2.Inv X pins σ H1 { s1 with heap := s1.heap.push { cls := .type (strIterType x), data := .fields #[.str x t, .int 0 0] } } := I1.kept (t' := s1.toks) fun b o e => Heap.get?_push_of_some _ e
      have st0 : ({ s1 with heap := s1.heap.push { cls := .type (strIterType x), data := .fields #[.str x t, .int 0 0] } } : Shared).heap.IsStrIter s1.heap.objs.size (strIterType x) x t 0 := ⟨_, Heap.get?_push_size _ rfl, rfl, rfl⟩
      first
        | exact ⟨s1.heap.objs.size, [s1.heap.objs.size], _, _, H1, rfl, I2, turn_str s1.heap.objs.size x t (strIterType x) (by unfold strIterType; split <;> simp), st0, fresh, q1 _ walks_str⟩
    · simp only [At] at a1
      obtain ⟨a, vs, rfl, h1, h2⟩ := a1
      subst e1
      cases rv
      obtain ⟨its, rv, p, hz⟩ := I1.list (xs := vs) (.inl (.inl (r1.z _ _ h1)))
      refine wpAny_pyIter_list p.isList ?_
      exact ⟨s1.heap.objs.size, [s1.heap.objs.size], _, _, H1, rfl, I1.kept (t' := s1.toks) fun b o e => Heap.get?_push_of_some _ e, turn_list a _, ⟨_, Heap.get?_push_size _ rfl, rfl, rfl⟩, fresh, q1 _ (by rw [hK]; exact walks_list h1 h2)⟩
    · simp only [At] at a1
      obtain ⟨a, vs, rfl, h1, h2⟩ := a1
      subst e1
      cases rv
      obtain ⟨its, rv, p, hz⟩ := I1.tuple (xs := vs) (by rw [hK]; exact seqT r1.z h1)
      refine wpAny_pyIter_tuple (show s1.heap.IsTuple a its.toArray from p) ?_
      exact ⟨s1.heap.objs.size, [s1.heap.objs.size], _, _, H1, rfl, I1.kept (t' := s1.toks) fun b o e => Heap.get?_push_of_some _ e, turn_tuple a _, ⟨_, Heap.get?_push_size _ rfl, rfl, rfl⟩, fresh, q1 _ (by rw [hK]; exact walks_tup h1 h2)⟩

def qZip (ta : PAx γ) : PAx γ := fun s R => ta s fun ds s1 => match ds with
  | [d1, d2] => match itemsD d1, itemsD d2 with
    | some xs, some ys => R (zipD xs ys) s1
    | _, _ => False
  | _ => False
theorem walks_zip {K : PySem.W.Frag} {Z : Hp} {k1 k2 : Sk} {xs ys : List D} (h1 : ∀ H, Same Z H → ∃ vs, k1.src K H vs ∧ Ats K Z xs vs) (h2 : ∀ H, Same Z H → ∃ vs, k2.src K H vs ∧ Ats K Z ys vs) : Walks K (Jz K k1 k2) Z (zipD xs ys) := by
  intro i Z1 H z1 z2
  obtain ⟨vs, a1, a2⟩ := h1 H (z1.trans z2)
  obtain ⟨ws, b1, b2⟩ := h2 H (z1.trans z2)
  refine ⟨fun d hd => ?_, fun hl => ⟨vs, ws, a1, b1, by rw [hl, zipD_len, a2.len, b2.len]⟩⟩
  obtain ⟨x, y, hx, hy, rfl⟩ := zipD_get hd
  obtain ⟨v, c1, c2⟩ := a2.get hx
  obtain ⟨w, d1, d2⟩ := b2.get hy
  refine ⟨⟨vs, ws, v, w, a1, b1, c1, d1⟩, fun u H' yl => ?_⟩
  obtain ⟨T, x', y', rfl, hT, rfl, f1, f2⟩ := yl
  have e1 := f1 vs a1
  have e2 := f2 ws b1
  rw [c1] at e1; rw [d1] at e2
  cases e1; cases e2
  have x := Ext.new (o := HO.tup [v, w]) z2 hT
  exact ⟨_, x, ⟨T, _, rfl, .inl (.inl upd_same), ⟨_, _, rfl, At.mono (z1.trans x.zz) _ _ c2, ⟨_, _, rfl, At.mono (z1.trans x.zz) _ _ d2, rfl⟩⟩⟩⟩
theorem qi_zip {ta : PAx γ} (hg : Gl X "zip") (hm : X.mg "zip" = none) (ha : QA X G [e, e2] ta) (hK : X.K = G.K := by rfl)
    (hs : starEach [e, e2] X.env = (false, eval e X.env) :: starEach [e2] X.env := by rfl) (hpl : (backTo pos (starEach [e2] X.env)).any (·.1) = false := by rfl) : QI X G (.Tuple elts kk tpos) (.Call (.Name "zip" p) [e, e2] [] pos) (qZip ta) := by
  refine ⟨fun pins s σ H R I w => ?_⟩
  obtain ⟨F, Z, sg, Rp, r, t, q⟩ := w
  refine Call_ (ld_blt I hg hm PyProof.Rows.boot_zip (PyProof.Rows.callWith_type1 (thn (ha.run pos pins s σ H (fun vs H1 => ∃ d1 d2 xs ys s1 Z1, Rel G F Z1 s1 σ H1 ∧ Ats G.K Z1 [d1, d2] vs ∧ itemsD d1 = some xs ∧ itemsD d2 = some ys ∧ ∀ J, Walks G.K J Z1 (zipD xs ys) → R J H1) I ⟨F, Z, sg, _, r, t, fun ds s1 Z1 vs H1 t1 k1 r1 a1 => ?_⟩) fun us s1 ⟨vs, H1, I1, rv, d1, d2, xs, ys, sg1, Z1, r1, a1, e1, e2', q1⟩ => ?_) hs hpl))
  · match ds, t1, a1 with
    | [d1, d2], t1, a1 =>
      cases e1 : itemsD d1 with
      | none => simp only [e1] at t1
      | some xs =>
        cases e2' : itemsD d2 with
        | none => simp only [e1, e2'] at t1
        | some ys =>
          simp only [e1, e2'] at t1
          exact ⟨d1, d2, xs, ys, s1, Z1, r1, a1, e1, e2', fun J hJ => q _ s1 Z1 H1 J t1 k1 r1 hJ⟩
  · simp only [Ats] at a1
    obtain ⟨v1, _, rfl, a1, v2, _, rfl, a2, rfl⟩ := a1
    obtain ⟨u1, u2, rfl, rv1, rv2⟩ := vals2 rv
    rw [← hK] at a1 a2
    obtain ⟨k1, rfl, c1⟩ := src_of a1 rv1 e1
    obtain ⟨k2, rfl, c2⟩ := src_of a2 rv2 e2'
    obtain ⟨ws1, g1, g1'⟩ := c1 H1 r1.z
    obtain ⟨ws2, g2, g2'⟩ := c2 H1 r1.z
    obtain ⟨its1, m1, _⟩ := Sk.read I1 g1
    obtain ⟨its2, m2, _⟩ := Sk.read I1 g2
    have l1 := Sk.fp_lt I1 g1
    have l2 := Sk.fp_lt I1 g2
    refine zip_begins2 (k1.begins its1) (k2.begins its2) m1 m2 fun h' hz hTI hTO o1 o2 hsz hk => wpAny_pyIter_zip hz ?_
    have I2 : L2.Inv X pins σ H1 { s1 with heap := h' } := I1.kept (t' := s1.toks) hk
    refine ⟨s1.heap.objs.size + 4, [s1.heap.objs.size + 4, s1.heap.objs.size + 2, s1.heap.objs.size + 3, s1.heap.objs.size, s1.heap.objs.size + 1], _, _, H1, rfl, I2,
      turn_zipG (k1 := k1) (k2 := k2) (zip_sep2 l1 l2) (fun h => absurd (l1 _ h) (Nat.lt_irrefl _)) (fun h => absurd (l2 _ h) (Nat.not_lt_of_le (Nat.le_succ _))), ⟨hz, hTI, ⟨_, _, hTO⟩, Sk.it0 o1, Sk.it0 o2⟩, fun c hcm => ?_, q1 _ (by rw [← hK]; exact walks_zip c1 c2)⟩
    have e' : c = s1.heap.objs.size + 4 ∨ c = s1.heap.objs.size + 2 ∨ c = s1.heap.objs.size + 3 ∨ c = s1.heap.objs.size ∨ c = s1.heap.objs.size + 1 := by simpa using hcm
    have hle : s1.heap.objs.size ≤ c := by
      rcases e' with z | z | z | z | z
      · rw [z]; exact Nat.le_add_right _ _
      · rw [z]; exact Nat.le_add_right _ _
      · rw [z]; exact Nat.le_add_right _ _
      · rw [z]; exact Nat.le_refl _
      · rw [z]; exact Nat.le_add_right _ _
    exact I1.fpOk hle (I1.hok.fresh hle)
def qEnum (ta : PAx γ) : PAx γ := fun s R => ta s fun ds s1 => match ds with
  | [d1] => match itemsD d1 with
    | some xs => R (enumD xs) s1
    | _ => False
  | _ => False
theorem meets_enumerate_new1 {v : Value} {o : Obj} {H : Heap → Prop} (B : Begins v o H) :
    Meets (Builtin.«enumerate.__new__» ⟨[.type "enumerate", v], []⟩) (fun _ R s => H s.heap ∧
      R (.ok (.ret (.ref (s.heap.push o).objs.size))) { s with heap := (s.heap.push o).push { cls := .type "enumerate", data := .fields #[.none, .bool false, .ref s.heap.objs.size, rawInt 0, .none, .none] } }) :=
  .of_wp fun prog w A R s h => by
    obtain ⟨hp, g, d, tk, os⟩ := s; obtain ⟨h1, h⟩ := h
    have hsub := sub_enumerate
    have q1 : ∀ {A' : Around} {E : Value → Shared → Prop} {Q : Value → Shared → Prop}, Q (.ref hp.objs.size) ⟨hp.push o, g, d, tk, os⟩ → wpAny (model prog w) A' (pyIter v) Q E ⟨hp, g, d, tk, os⟩ :=
      fun q => B.iter prog w _ _ ⟨hp, g, d, tk, os⟩ _ h1 q
    wp_walk using q1
    refine wpAny_stack_any fun st => wpAny_pure ?_
    split
    · rename_i c _ _ _ _ _
      cases (c == Value.type "enumerate")
      · wp_walk using q1
        exact ⟨_, rfl, h⟩
      · wp_walk using q1
        exact ⟨_, rfl, h⟩
    · wp_walk using q1
      exact ⟨_, rfl, h⟩
theorem enum_begins1 {prog : Program} {w : World} {A : Around} {E : Value → Shared → Prop} {s : Shared} {v : Value} {o : Obj} {H : Heap → Prop} {Q : Value → Shared → Prop} (B : Begins v o H) (h1 : H s.heap)
    (h : ∀ h', IsEnum h' (s.heap.objs.size + 1) s.heap.objs.size 0 .none → h'.get? s.heap.objs.size = some o → h'.objs.size = s.heap.objs.size + 2 →
      (∀ b o, s.heap.get? b = some o → h'.get? b = some o) → Q (.ref (s.heap.objs.size + 1)) { s with heap := h' }) :
    wpAny (model prog w) A (call (.type "enumerate") [v]) Q E s := by
  refine callType_new F.called_enumerate (by decide) (F.typeCall_enumerate_1 _) (F.newCall_enumerate_1 _) (fun obj => F.args_object_init_2 obj _) F.entry_enumerate_new
    (meets_enumerate_new1 B) ⟨h1, ?_⟩
  have hz : (s.heap.push o).objs.size = s.heap.objs.size + 1 := Heap.size_push ..
  show _ ∧ _
  rw [hz]
  have he : IsEnum ((s.heap.push o).push { cls := .type "enumerate", data := .fields #[.none, .bool false, .ref s.heap.objs.size, rawInt 0, .none, .none] }) (s.heap.objs.size + 1) s.heap.objs.size 0 .none := by
    have := Heap.get?_push_size (s.heap.push o) (o := { cls := .type "enumerate", data := .fields #[.none, .bool false, .ref s.heap.objs.size, rawInt 0, .none, .none] }) rfl
    rw [hz] at this; exact this
  refine ⟨⟨_, he, rfl⟩, h _ he (Heap.get?_push_of_some _ (Heap.get?_push_size _ B.free)) (by rw [Heap.size_push, hz]) fun b o x => Heap.get?_push_of_some _ (Heap.get?_push_of_some _ x)⟩
theorem walks_enum {K : PySem.W.Frag} {Z : Hp} {k1 : Sk} {xs : List D} (h1 : ∀ H, Same Z H → ∃ vs, k1.src K H vs ∧ Ats K Z xs vs) : Walks K (Je K k1) Z (enumD xs) := by
  intro i Z1 H z1 z2
  obtain ⟨vs, a1, a2⟩ := h1 H (z1.trans z2)
  refine ⟨fun d hd => ?_, fun hl => ⟨vs, a1, by rw [hl, enumD, enumGo_len, a2.len]⟩⟩
  obtain ⟨x, hx, rfl⟩ := enumGo_get hd
  obtain ⟨v, c1, c2⟩ := a2.get hx
  refine ⟨⟨vs, v, a1, c1⟩, fun u H' yl => ?_⟩
  obtain ⟨T, x', rfl, hT, rfl, f1⟩ := yl
  have e1 := f1 vs a1
  rw [c1] at e1
  cases e1
  have x := Ext.new (o := HO.tup [.int (i : Nat), v]) z2 hT
  exact ⟨_, x, ⟨T, _, rfl, .inl (.inl upd_same), ⟨_, _, rfl, by simp [At], ⟨_, _, rfl, At.mono (z1.trans x.zz) _ _ c2, rfl⟩⟩⟩⟩
theorem qi_enum {ta : PAx γ} (hg : Gl X "enumerate") (hm : X.mg "enumerate" = none) (ha : QA X G [e] ta) (hK : X.K = G.K := by rfl) (hs : starEach [e] X.env = [(false, eval e X.env)] := by rfl) :
    QI X G (.Tuple elts kk tpos) (.Call (.Name "enumerate" p) [e] [] pos) (qEnum ta) := by
  refine ⟨fun pins s σ H R I w => ?_⟩
  obtain ⟨F, Z, sg, Rp, r, t, q⟩ := w
  refine Call_ (ld_blt I hg hm PyProof.Rows.boot_enumerate (PyProof.Rows.callWith_type1 (thn (ha.run pos pins s σ H (fun vs H1 => ∃ d1 xs s1 Z1, Rel G F Z1 s1 σ H1 ∧ Ats G.K Z1 [d1] vs ∧ itemsD d1 = some xs ∧ ∀ J, Walks G.K J Z1 (enumD xs) → R J H1) I ⟨F, Z, sg, _, r, t, fun ds s1 Z1 vs H1 t1 k1 r1 a1 => ?_⟩) fun us s1 ⟨vs, H1, I1, rv, d1, xs, sg1, Z1, r1, a1, e1, q1⟩ => ?_) hs rfl))
  · match ds, t1, a1 with
    | [d1], t1, a1 =>
      cases e1 : itemsD d1 with
      | none => simp only [e1] at t1
      | some xs =>
        simp only [e1] at t1
        exact ⟨d1, xs, s1, Z1, r1, a1, e1, fun J hJ => q _ s1 Z1 H1 J t1 k1 r1 hJ⟩
  · simp only [Ats] at a1
    obtain ⟨v1, _, rfl, a1, rfl⟩ := a1
    obtain ⟨u1, rfl, rv1⟩ := vals1 rv
    rw [← hK] at a1
    obtain ⟨k1, rfl, c1⟩ := src_of a1 rv1 e1
    obtain ⟨ws1, g1, g1'⟩ := c1 H1 r1.z
    obtain ⟨its1, m1, _⟩ := Sk.read I1 g1
    have l1 := Sk.fp_lt I1 g1
    refine enum_begins1 (k1.begins its1) m1 fun h' he o1 hsz hk => wpAny_pyIter_enum he ?_
    have I2 : L2.Inv X pins σ H1 { s1 with heap := h' } := I1.kept (t' := s1.toks) hk
    have hn : s1.heap.objs.size + 1 ∉ s1.heap.objs.size :: k1.fp := fun h => by
      rcases List.mem_cons.mp h with h | h
      · exact absurd h (Nat.succ_ne_self _)
      · exact absurd (l1 _ h) (Nat.not_lt_of_le (Nat.le_succ _))
    refine ⟨s1.heap.objs.size + 1, [s1.heap.objs.size + 1, s1.heap.objs.size], _, _, H1, rfl, I2,
      turn_enumG (k1 := k1) (Nat.succ_ne_self _) hn (fun h => absurd (l1 _ h) (Nat.lt_irrefl _)), ⟨⟨.none, he⟩, Sk.it0 o1⟩, fun c hcm => ?_, q1 _ (by rw [← hK]; exact walks_enum c1)⟩
    have hle : s1.heap.objs.size ≤ c := by
      rcases (show c = s1.heap.objs.size + 1 ∨ c = s1.heap.objs.size by simpa using hcm) with z | z
      · rw [z]; exact Nat.le_add_right _ _
      · rw [z]; exact Nat.le_refl _
    exact I1.fpOk hle (I1.hok.fresh hle)
theorem walks_range {K : PySem.W.Frag} {Z : Hp} {lo : Int} {n : Nat} : Walks K (Itr lo n) Z ((List.range n).map fun k => .int (lo + (k : Nat))) := by
  intro i Z1 H z1 z2
  refine ⟨fun d hd => ?_, fun hl => (by simpa using Nat.le_of_eq hl.symm : n ≤ i)⟩
  rw [List.getElem?_map] at hd
  by_cases hi : i < n
  · rw [List.getElem?_range hi] at hd
    cases hd
    refine ⟨hi, fun v H' y => ?_⟩
    obtain ⟨e, h2⟩ := y
    subst e; subst h2
    exact ⟨Z1, Ext.refl z2, by simp [At]⟩
  · rw [List.getElem?_eq_none (by simpa using hi)] at hd
    cases hd
def qRange1 (ta : PAx γ) : PAx γ := fun s R => ta s fun ds s1 => match ds with
  | [.int n] => (-(2 ^ 62) ≤ n ∧ n < 2 ^ 62) ∧ R ((List.range n.toNat).map fun k => .int (k : Nat)) s1
  | _ => False
theorem qi_range1 {ta : PAx γ} (hg : Gl X "range") (hm : X.mg "range" = none) (ha : QA X G [e] ta) (hs : starEach [e] X.env = [(false, eval e X.env)] := by rfl) : QI X G tg (.Call (.Name "range" p) [e] [] pos) (qRange1 ta) := by
  refine PI.imp (pi_range1 hg hm ha hs) fun σ H R ⟨F, Z, s, Rp, r, t, q⟩ => ?_
  refine ⟨F, Z, s, _, r, t, fun ds s1 Z1 vs H1 t1 k1 r1 a1 => ?_⟩
  match ds, t1, a1 with
  | [.int n], t1, a1 =>
    simp only [Ats, At] at a1
    obtain ⟨v, _, rfl, rfl, rfl⟩ := a1
    refine ⟨n, rfl, t1.1.1, t1.1.2, q _ s1 Z1 H1 _ t1.2 k1 r1 ?_⟩
    have := walks_range (K := G.K) (Z := Z1) (lo := 0) (n := n.toNat)
    simpa using this
end
end Pm
set_option Elab.async false
set_option linter.all false
set_option maxRecDepth 100000
set_option maxHeartbeats 1000000
set_option autoImplicit false
namespace Pm
open PySem PySem.Spec
open PyProof.Rows hiding St
open L2
variable {γ : Type}

def idx {α : Type} (xs : List α) (i : Int) : Option α := if i < 0 then (if 0 ≤ i + xs.length then xs[(i + xs.length).toNat]? else none) else xs[i.toNat]?
theorem idx_at {α : Type} {xs : List α} {i : Int} {v : α} (h : idx xs i = some v) : atI xs i = some v := by
  unfold idx at h
  unfold atI ixN
  by_cases hi : i < 0
  · rw [if_pos hi] at h
    by_cases h2 : 0 ≤ i + xs.length
    · rw [if_pos h2] at h
      rw [if_neg (by omega), if_pos (by omega)]
      exact h
    · rw [if_neg h2] at h; cases h
  · rw [if_neg hi] at h
    have hl := (List.getElem?_eq_some_iff.mp h).1
    rw [if_pos (by omega), if_pos (by omega)]
    exact h
theorem idx_nat {α : Type} {xs : List α} {i : Nat} {v : α} (h : xs[i]? = some v) : idx xs (i : Int) = some v := by
  unfold idx
  rw [if_neg (by omega), Int.toNat_natCast]; exact h
theorem idx_nat' {α : Type} {xs : List α} {i : Nat} : idx xs (i : Int) = xs[i]? := by
  unfold idx
  rw [if_neg (by omega), Int.toNat_natCast]
theorem Ats.idx {K : PySem.W.Frag} {Z : Hp} {ds : List D} {vs : List V} (h : Ats K Z ds vs) {i : Int} {d : D} (e : Pm.idx ds i = some d) : ∃ v, atI vs i = some v ∧ At K Z d v := by
  have hl := h.len
  unfold Pm.idx at e
  by_cases hi : i < 0
  · rw [if_pos hi] at e
    by_cases h2 : 0 ≤ i + ds.length
    · rw [if_pos h2] at e
      obtain ⟨v, h3, h4⟩ := h.get e
      refine ⟨v, idx_at ?_, h4⟩
      unfold Pm.idx
      rw [if_pos hi, hl, if_pos h2]; exact h3
    · rw [if_neg h2] at e; cases e
  · rw [if_neg hi] at e
    obtain ⟨v, h3, h4⟩ := h.get e
    refine ⟨v, idx_at ?_, h4⟩
    unfold Pm.idx
    rw [if_neg hi]; exact h3
def ixD : D → D → DK → Prop
  | .lst xs, .int i, R => ∃ d, idx xs i = some d ∧ R d
  | .tup xs, .int i, R => ∃ d, idx xs i = some d ∧ R d
  | .str z, .int i, R => z.length ≤ sizeLine ∧ ∃ c, idx z.cps.toList i = some c ∧ R (.str ⟨#[c]⟩)
  | _, _, _ => False
section
variable {X : Cx}
theorem x_ix : IxR X (dOp2 X.K ixD) := by
  intro value slice pins s σ H x y v u Q I rx ry ⟨Z, d, e, R, k, ad, ae, h, q⟩ hs
  cases d <;> cases e <;> try exact h.elim
  · simp only [At] at ad ae
    subst ad; subst ae
    obtain ⟨h1, c, h2, h3⟩ := h
    exact ix_str value slice pins s σ H _ _ v u Q I rx ry ⟨_, _, c, rfl, rfl, h1, idx_at h2, dk q k h3 rfl⟩ hs
  · simp only [At] at ad ae
    obtain ⟨a, vs, rfl, a2, a3⟩ := ad
    subst ae
    obtain ⟨d, h1, h2⟩ := h
    obtain ⟨w, h3, h4⟩ := a3.idx h1
    exact ix_list value slice pins s σ H _ _ v u Q I rx ry ⟨a, vs, _, w, rfl, rfl, .inl (.inl (k _ _ a2)), h3, dk q k h2 h4⟩ hs
  · simp only [At] at ad ae
    obtain ⟨a, vs, rfl, a2, a3⟩ := ad
    subst ae
    obtain ⟨d, h1, h2⟩ := h
    obtain ⟨w, h3, h4⟩ := a3.idx h1
    exact ix_tup value slice pins s σ H _ _ v u Q I rx ry ⟨a, vs, _, w, rfl, rfl, seqT k a2, h3, dk q k h2 h4⟩ hs
end
section
variable {X : Cx} {G : GP γ} {a b e : Expr} {pos : Pos}
theorem qe_ix {ta tb : PEx γ} (ha : QE X G a ta) (hb : QE X G b tb) (hs : PlainIx b := by intro _ _; rfl) (hK : X.K = G.K := by rfl) : QE X G (.Subscript a b pos) (qBin ixD ta tb) :=
  PE.imp (pe_ix x_ix ha hb hs) fun _ _ _ h => by rw [hK]; exact lbin h

end

section
variable {X : Cx} {G : GP γ} {a b e : Expr} {pos : Pos} {i : Nat} {x : Str} {xp : Pos}
def cut {α : Type} (xs : List α) (lo hi : Option Int) : List α := (xs.drop (HT.sIx xs.length 0 lo)).take (HT.sIx xs.length xs.length hi - HT.sIx xs.length 0 lo)
theorem cut_from {α : Type} (xs : List α) (k : Nat) : cut xs (some (k : Int)) none = xs.drop k := by
  unfold cut
  rw [HT.sIx_nat, HT.sIx_none]
  by_cases h : k ≤ xs.length
  · rw [Nat.min_eq_left h, List.take_of_length_le (by rw [List.length_drop]; omega)]
  · rw [Nat.min_eq_right (by omega), List.drop_eq_nil_of_le (Nat.le_refl _), List.drop_eq_nil_of_le (by omega)]; simp
theorem cut_to {α : Type} (xs : List α) (k : Nat) : cut xs none (some (k : Int)) = xs.take k := by
  unfold cut
  rw [HT.sIx_none, HT.sIx_nat, List.drop_zero, Nat.sub_zero]
  by_cases h : k ≤ xs.length
  · rw [Nat.min_eq_left h]
  · rw [Nat.min_eq_right (by omega), List.take_of_length_le (Nat.le_refl _), List.take_of_length_le (by omega)]
theorem cut_back {α : Type} (xs : List α) : cut xs none (some (-1)) = xs.dropLast := by
  unfold cut
  have : HT.sIx xs.length xs.length (some (-1)) = xs.length - 1 := by
    show (if (-1 : Int) < 0 then ((-1 : Int) + (xs.length : Int)).toNat else min (-1 : Int).toNat xs.length) = _
    rw [if_pos (by decide)]; omega
  rw [HT.sIx_none, this, List.drop_zero, Nat.sub_zero, List.dropLast_eq_take]
theorem cut_length {α : Type} (xs : List α) (lo hi : Option Int) : (cut xs lo hi).length ≤ xs.length := by
  unfold cut
  rw [List.length_take, List.length_drop]; omega
theorem Ats.cut {K : PySem.W.Frag} {Z : Hp} {ds : List D} {vs : List V} (h : Ats K Z ds vs) (lo hi : Option Int) : Ats K Z (Pm.cut ds lo hi) (cutV vs lo hi) := by
  unfold Pm.cut cutV
  rw [h.len]
  exact (h.drop _).take _
theorem getItem_tuple_whole {prog : Program} {w : World} {A : Around} {E : Value → Shared → Prop} {s : Shared} {t sl : Addr} {items : Array Value} {vl vu : Value} {lo hi : Option Int} {Q : Value → Shared → Prop} (ht : IsTup s.heap t items) (hs : s.heap.IsSliceOf sl vl vu .none) (pl : IsPart vl lo) (pu : IsPart vu hi)
    (hw : HT.sIx items.size 0 lo = 0 ∧ HT.sIx items.size items.size hi = items.size) (h : Q (.ref t) s) : wpAny (model prog w) A (getItem (.ref t) (.ref sl)) Q E s := by
  obtain ⟨os, hos, hcs, hds⟩ := id hs
  have hTs : s.TypeIs (.ref sl) "slice" := ⟨os, hos, hcs⟩
  unfold getItem
  try with_reducible refine wpAny_holding ?_
  first | refine wpAny_bind (wpAny_pure ?_) | skip
  refine wpAny_bind (wpAny_sequenceKey ht.typeIs (by decide) ?_)
  refine wpAny_bind (wpAny_callSpecial?_slot (name := Str.ofString "__getitem__") ht.typeIs PyProof.Rows.slot_tuple_getitem
    (wpAny_call_entry PyProof.Rows.slot_tuple_getitem ht.typeIs entry_tuple_getitem ?_ (args_tuple_getitem _ _)))
  show wpAny _ _ (Builtin.Tuple.tupleItemsOf (.ref t) >>= _) _ _ s
  refine wpAny_bind (tupleItemsOf_ ht ?_)
  refine wpAny_bind (wpAny_typeOf hTs ?_)
  rw [if_pos (by decide)]
  refine wpAny_bind (HT.sliceApplied_gen hs pl pu ?_)
  have hno : ((((HT.sIx items.size 0 lo : Nat) : Int) == 0 && (1 : Int) == 1 && (HT.sIx items.size items.size hi - HT.sIx items.size 0 lo) == items.size) = true) := by
    rw [hw.1, hw.2]; simp
  show wpAny _ _ (if (((HT.sIx items.size 0 lo : Nat) : Int) == 0 && (1 : Int) == 1 && (HT.sIx items.size items.size hi - HT.sIx items.size 0 lo) == items.size) = true then _ else _) _ _ s
  rw [if_pos hno]
  unfold Builtin.Tuple.tupleIsExact
  refine wpAny_bind (wpAny_bind (wpAny_typeOf ht.typeIs (wpAny_pure ?_)))
  rw [if_pos (by decide)]
  refine wpAny_bind (wpAny_rule ?_)
  exact wpAny_pure ⟨_, rfl, wpAny_pure h⟩
end
def sliceD (d : D) (lo hi : Option Int) (R : DK) : Prop := match d with
  | .lst xs => R (.lst (cut xs lo hi))
  | .tup xs => R (.tup (cut xs lo hi))
  | .str z => z.length ≤ sizeLine ∧ R (.str (cutS z lo hi))
  | _ => False
def dSl (K : PySem.W.Frag) (p : D → Option Int → Option Int → DK → Prop) : V → Option Int → Option Int → Hp → VK → Prop := fun x lo hi H Q => ∃ Z d R, Same Z H ∧ At K Z d x ∧ p d lo hi R ∧ ∀ z Z' v H', R z → Ext Z H Z' H' → At K Z' z v → Q v H'
section
variable {X : Cx}
theorem x_slice : SlR X (dSl X.K sliceD) := by
  intro pins s σ H x v vl vu lo hi sl Q I rx hs pl pu ⟨Z, d, R, k, ad, h, q⟩
  cases d <;> try exact h.elim
  · simp only [At] at ad
    subst ad
    exact sl_str pins s σ H _ v vl vu lo hi sl Q I rx hs pl pu ⟨_, rfl, h.1, dk q k h.2 rfl⟩
  · simp only [At] at ad
    obtain ⟨a, vs, rfl, a2, a3⟩ := ad
    refine sl_list pins s σ H _ v vl vu lo hi sl Q I rx hs pl pu ⟨a, vs, rfl, .inl (.inl (k _ _ a2)), fun p hp => ?_⟩
    have x := Ext.new (o := HO.lst (cutV vs lo hi)) k hp
    exact q _ _ _ _ h x ⟨p, _, rfl, upd_same, (Ats.mono x.zz _ _ a3).cut lo hi⟩
  · simp only [At] at ad
    obtain ⟨a, vs, rfl, a2, a3⟩ := ad
    by_cases hw : HT.sIx vs.length 0 lo = 0 ∧ HT.sIx vs.length vs.length hi = vs.length
    · cases rx
      obtain ⟨its, r, ht, hz⟩ := I.tuple (seqT k a2)
      have hlen : its.toArray.size = vs.length := by rw [List.size_toArray]; exact r.length.symm
      refine ⟨"tuple", _, PyProof.Rows.slot_tuple_getitem.lookup, ht.typeIs, ?_⟩
      refine getItem_tuple_whole ht hs pl pu (by rw [hlen]; exact hw) ⟨.ref a, H, I, rfl, ?_⟩
      refine dk (d := .tup _) q k h (show At X.K Z (.tup _) _ from ⟨a, vs, rfl, a2, ?_⟩)
      have e : cutV vs lo hi = vs := by
        unfold cutV
        rw [hw.1, hw.2, List.drop_zero, Nat.sub_zero, List.take_of_length_le (Nat.le_refl _)]
      have := a3.cut lo hi
      rw [e] at this; exact this
    · refine sl_tup pins s σ H _ v vl vu lo hi sl Q I rx hs pl pu ⟨a, vs, rfl, seqT k a2, hw, fun p hp => ?_⟩
      have x := Ext.new (o := HO.tup (cutV vs lo hi)) k hp
      exact q _ _ _ _ h x ⟨p, _, rfl, .inl (.inl upd_same), (Ats.mono x.zz _ _ a3).cut lo hi⟩
end
section
variable {X : Cx} {G : GP γ} {a b e : Expr} {pos p2 : Pos} {lo hi : Option Expr}
def qNoPart : POx γ := fun s R => R none s
def qPart (te : PEx γ) : POx γ := fun s R => te s fun d s1 => match d with
  | .int i => R (some i) s1
  | _ => False
theorem qo_none : QO X G none (qNoPart : POx γ) := PO.imp po_none fun σ H Q ⟨F, Z, s, R, r, t, q⟩ => q none s Z H t (Same.refl _) r
theorem qo_some {te : PEx γ} (h : QE X G e te) : QO X G (some e) (qPart te) := by
  refine PO.imp (po_some h) fun σ H Q ⟨F, Z, s, R, r, t, q⟩ => ?_
  refine ⟨F, Z, s, _, r, t, fun d s1 Z1 v H1 t1 k1 r1 a1 => ?_⟩
  cases d with
  | int i => exact ⟨i, a1, q _ s1 Z1 H1 t1 k1 r1⟩
  | _ => exact t1.elim
def qSl (te : PEx γ) (tl th : POx γ) : PEx γ := fun s R => te s fun d s1 => tl s1 fun l s2 => th s2 fun h s3 => sliceD d l h fun z => R z s3
theorem qe_slice {te : PEx γ} {tl th : POx γ} (he : QE X G e te) (hl : QO X G lo tl) (hu : QO X G hi th) (hK : X.K = G.K := by rfl) : QE X G (.Subscript e (.Slice lo hi none p2) pos) (qSl te tl th) := by
  refine PE.imp (pe_slice x_slice he hl hu) fun σ H Q ⟨F, Z, s, R, r, t, q⟩ => ?_
  refine ⟨F, Z, s, _, r, t, fun d s1 Z1 v1 H1 t1 k1 r1 a1 => ⟨F, Z1, s1, _, r1, t1, fun l s2 Z2 H2 t2 k2 r2 => ⟨F, Z2, s2, _, r2, t2, fun h s3 Z3 H3 t3 k3 r3 => ?_⟩⟩⟩
  refine ⟨Z3, d, _, r3.z, by rw [hK]; exact At.mono (k2.trans k3) _ _ a1, t3, fun z Z4 v H4 t4 x4 a4 => q z s3 Z4 v H4 t4 (((k1.trans k2).trans k3).trans x4.zz) (r3.ext x4) (by rw [hK] at a4; exact a4)⟩
end

section
variable {X : Cx}
theorem Ats.one {K : PySem.W.Frag} {Z : Hp} {d : D} {vs : List V} (h : Ats K Z [d] vs) : ∃ v, vs = [v] ∧ At K Z d v := by
  simp only [Ats] at h
  obtain ⟨v, _, rfl, h, rfl⟩ := h
  exact ⟨v, rfl, h⟩
theorem Ats.two {K : PySem.W.Frag} {Z : Hp} {d e : D} {vs : List V} (h : Ats K Z [d, e] vs) : ∃ v w, vs = [v, w] ∧ At K Z d v ∧ At K Z e w := by
  simp only [Ats] at h
  obtain ⟨v, _, rfl, h, w, _, rfl, h', rfl⟩ := h
  exact ⟨v, w, rfl, h, h'⟩
def fn1 (p : D → DK → Prop) : List D → DK → Prop
  | [d], R => p d R
  | _, _ => False
theorem c1 {f : Value} {p : D → DK → Prop} (h : ∀ (pins : List (Addr × Obj)) (s : Shared) (σ : St) (H Z : Hp) (d : D) (v : V) (us : List Value) (Q : VK) (R : DK), L2.Inv X pins σ H s → Vals [v] us → Same Z H → At X.K Z d v → p d R → (∀ z Z' v H', R z → Ext Z H Z' H' → At X.K Z' z v → Q v H') →
    wpAny (model X.prog X.w) X.A (call f us) (EP X pins σ Q) X.xe s) : CallR X f (dCall X.K (fn1 p)) := by
  intro pins s σ H xs us Q I r ⟨Z, ds, R, k, a, w, q⟩
  obtain ⟨d, rfl, w⟩ : ∃ d, ds = [d] ∧ p d R := by
    cases ds with
    | nil => exact w.elim
    | cons d ds => cases ds with
      | nil => exact ⟨d, rfl, w⟩
      | cons => exact w.elim
  obtain ⟨v, rfl, a1⟩ := Ats.one a
  exact h pins s σ H Z d v us Q R I r k a1 w q
def lenD : D → DK → Prop
  | .lst xs, R => R (.int xs.length)
  | .tup xs, R => R (.int xs.length)
  | .str x, R => x.length ≤ sizeLine ∧ R (.int x.length)
  | _, _ => False
theorem c_len : CallR X (.builtin "len") (dCall X.K (fn1 lenD)) := c1 fun pins s σ H Z d v us Q R I r k a w q => by
  cases d <;> try exact w.elim
  · simp only [At] at a; subst a
    exact call_len_str pins s σ H _ us Q I r ⟨_, rfl, w.1, dk q k w.2 rfl⟩
  · simp only [At] at a
    obtain ⟨p, vs, rfl, a2, a3⟩ := a
    exact call_len_seq pins s σ H _ us Q I r ⟨p, vs, rfl, .inl (.inl (.inl (k _ _ a2))), dk q k w (by simp [At, a3.len])⟩
  · simp only [At] at a
    obtain ⟨p, vs, rfl, a2, a3⟩ := a
    exact call_len_seq pins s σ H _ us Q I r ⟨p, vs, rfl, .inr (seqT k a2), dk q k w (by simp [At, a3.len])⟩
def intD : D → DK → Prop
  | .int i, R => R (.int i)
  | .bl b, R => R (.int (if b = true then 1 else 0))
  | _, _ => False
theorem c_int : CallR X (.type "int") (dCall X.K (fn1 intD)) := c1 fun pins s σ H Z d v us Q R I r k a w q => by
  cases d <;> try exact w.elim
  · simp only [At] at a; subst a
    exact call_int1 pins s σ H _ us Q I r (.inr ⟨_, rfl, dk q k w rfl⟩)
  · simp only [At] at a; subst a
    exact call_int1 pins s σ H _ us Q I r (.inl ⟨_, rfl, dk q k w rfl⟩)
def tupleD : D → DK → Prop
  | .lst xs, R => R (.tup xs)
  | .tup xs, R => R (.tup xs)
  | _, _ => False
theorem c_tuple : CallR X (.type "tuple") (dCall X.K (fn1 tupleD)) := c1 fun pins s σ H Z d v us Q R I r k a w q => by
  cases d <;> try exact w.elim
  · simp only [At] at a
    obtain ⟨p, vs, rfl, a2, a3⟩ := a
    refine call_tuple_of pins s σ H _ us Q I r ⟨p, vs, rfl, .inl ⟨.inl (.inl (k _ _ a2)), fun l hl => ?_⟩⟩
    have x := Ext.new (o := HO.tup vs) k hl
    exact q _ _ _ _ w x ⟨l, _, rfl, .inl (.inl upd_same), Ats.mono x.zz _ _ a3⟩
  · simp only [At] at a
    obtain ⟨p, vs, rfl, a2, a3⟩ := a
    exact call_tuple_of pins s σ H _ us Q I r ⟨p, vs, rfl, .inr ⟨seqT k a2, dk q k w ⟨p, vs, rfl, a2, a3⟩⟩⟩
def asInts : List D → Option (List Int)
  | [] => some []
  | .int i :: ds => (asInts ds).map (i :: ·)
  | _ :: _ => none
theorem asInts_eq : ∀ {ds : List D} {ns : List Int}, asInts ds = some ns → ds = ns.map D.int
  | [], ns, h => by simp [asInts] at h; subst h; rfl
  | .int i :: ds, ns, h => by
    simp only [asInts, Option.map_eq_some_iff] at h
    obtain ⟨ms, h1, rfl⟩ := h
    rw [asInts_eq h1]; rfl
  | .non :: _, _, h => by simp [asInts] at h
  | .bl _ :: _, _, h => by simp [asInts] at h
  | .str _ :: _, _, h => by simp [asInts] at h
  | .lst _ :: _, _, h => by simp [asInts] at h
  | .tup _ :: _, _, h => by simp [asInts] at h
  | .dct _ _ :: _, _, h => by simp [asInts] at h
  | .obj _ :: _, _, h => by simp [asInts] at h
def asBls : List D → Option (List Bool)
  | [] => some []
  | .bl i :: ds => (asBls ds).map (i :: ·)
  | _ :: _ => none
theorem asBls_eq : ∀ {ds : List D} {ns : List Bool}, asBls ds = some ns → ds = ns.map D.bl
  | [], ns, h => by simp [asBls] at h; subst h; rfl
  | .bl i :: ds, ns, h => by
    simp only [asBls, Option.map_eq_some_iff] at h
    obtain ⟨ms, h1, rfl⟩ := h
    rw [asBls_eq h1]; rfl
  | .non :: _, _, h => by simp [asBls] at h
  | .int _ :: _, _, h => by simp [asBls] at h
  | .str _ :: _, _, h => by simp [asBls] at h
  | .lst _ :: _, _, h => by simp [asBls] at h
  | .tup _ :: _, _, h => by simp [asBls] at h
  | .dct _ _ :: _, _, h => by simp [asBls] at h
  | .obj _ :: _, _, h => by simp [asBls] at h
theorem asBls_map : ∀ ns : List Bool, asBls (ns.map D.bl) = some ns
  | [] => rfl
  | n :: ns => by simp [asBls, asBls_map ns]
def sumD : D → DK → Prop
  | .lst xs, R => ∃ ns, asInts xs = some ns ∧ R (.int ns.sum)
  | _, _ => False
def allD : D → DK → Prop
  | .lst xs, R => ∃ bs, asBls xs = some bs ∧ R (.bl (bs.all id))
  | _, _ => False
theorem c_all (hc : X.calm = true) : CallR X (.builtin "all") (dCall X.K (fn1 allD)) := c1 fun pins s σ H Z d v us Q R I r k a w q => by
  cases d <;> try exact w.elim
  obtain ⟨ns, e, w⟩ := w
  rw [asBls_eq e] at a
  simp only [At] at a
  obtain ⟨p, vs, rfl, a2, a3⟩ := a
  rw [a3.bls] at a2
  exact cr_all hc pins s σ H _ us Q I r ⟨p, ns, rfl, .inl (.inl (k _ _ a2)), dk q k w rfl⟩
def fn2 (p : D → D → DK → Prop) : List D → DK → Prop
  | [d, e], R => p d e R
  | _, _ => False
theorem c2 {f : Value} {p : D → D → DK → Prop} (h : ∀ (pins : List (Addr × Obj)) (s : Shared) (σ : St) (H Z : Hp) (d e : D) (v w : V) (us : List Value) (Q : VK) (R : DK), L2.Inv X pins σ H s → Vals [v, w] us → Same Z H → At X.K Z d v → At X.K Z e w → p d e R → (∀ z Z' v H', R z → Ext Z H Z' H' → At X.K Z' z v → Q v H') →
    wpAny (model X.prog X.w) X.A (call f us) (EP X pins σ Q) X.xe s) : CallR X f (dCall X.K (fn2 p)) := by
  intro pins s σ H xs us Q I r ⟨Z, ds, R, k, a, w, q⟩
  obtain ⟨d, e, rfl, w⟩ : ∃ d e, ds = [d, e] ∧ p d e R := by
    cases ds with
    | nil => exact w.elim
    | cons d ds => cases ds with
      | nil => exact w.elim
      | cons e ds => cases ds with
        | nil => exact ⟨d, e, rfl, w⟩
        | cons => exact w.elim
  obtain ⟨v, u, rfl, a1, a2⟩ := Ats.two a
  exact h pins s σ H Z d e v u us Q R I r k a1 a2 w q
abbrev max2 := intD0 fun i j => .int (max i j)
abbrev min2 := intD0 fun i j => .int (min i j)
theorem c_max2 (hc : X.calm = true) : CallR X (.builtin "max") (dCall X.K (fn2 max2)) := c2 fun pins s σ H Z d e v u us Q R I r k a b w q => by
  cases d <;> cases e <;> try exact w.elim
  simp only [At] at a b; subst a; subst b
  rename_i i j
  refine call_max2 hc pins s σ H _ us Q I r ⟨i, j, rfl, dk q k w ?_⟩
  show V.int _ = V.int _
  congr 1
  split <;> omega
theorem c_min2 (hc : X.calm = true) : CallR X (.builtin "min") (dCall X.K (fn2 min2)) := c2 fun pins s σ H Z d e v u us Q R I r k a b w q => by
  cases d <;> cases e <;> try exact w.elim
  simp only [At] at a b; subst a; subst b
  rename_i i j
  refine call_min2 hc pins s σ H _ us Q I r ⟨i, j, rfl, dk q k w ?_⟩
  show V.int _ = V.int _
  congr 1
  split <;> omega
def isTy (T : String) : D → Bool
  | .non => T == "NoneType"
  | .bl _ => T == "bool" || T == "int"
  | .int _ => T == "int"
  | .str _ => T == "str"
  | .lst _ => T == "list"
  | .tup _ => T == "tuple"
  | .dct _ _ => T == "dict"
  | .obj _ => false
def tyOf : D → String
  | .non => "NoneType" | .bl _ => "bool" | .int _ => "int" | .str _ => "str" | .lst _ => "list" | .tup _ => "tuple" | .dct _ _ => "dict" | .obj _ => ""
theorem tyX_of {K : PySem.W.Frag} {Z H : Hp} (k : Same Z H) {d : D} {v : V} (a : At K Z d v) (ho : ∀ p, d ≠ .obj p) : TyX K H v (.type (tyOf d)) := by
  cases d <;> simp only [At] at a
  · subst a; exact .base .non
  · subst a; exact .base (.bl _)
  · subst a; exact .base (.int _)
  · subst a; exact .base (.str _)
  · obtain ⟨p, vs, rfl, a2, _⟩ := a; exact .base (.lst (k _ _ a2))
  · obtain ⟨p, vs, rfl, a2, _⟩ := a
    rcases a2 with (a2 | ⟨o, a2⟩) | ⟨o, its, n, a2, c, _⟩
    · exact .base (.tup (k _ _ a2))
    · exact .fTuple (k _ _ a2)
    · exact .kTuple a2 c
  · obtain ⟨p, vs, rfl, a2, _⟩ := a; exact .base (.dK (k _ _ a2))
  · exact absurd rfl (ho _)
end
section
variable {X : Cx} {G : GP γ} {e : Expr} {pos p p2 : Pos}
def qIsi (T : String) (te : PEx γ) : PEx γ := fun s R => te s fun d s1 => (∀ p, d ≠ .obj p) ∧ R (.bl (isTy T d)) s1
theorem kit_all (K : PySem.W.Frag) {T : String} (hT : T = "int" ∨ T = "bool" ∨ T = "str" ∨ T = "tuple" ∨ T = "list" ∨ T = "dict") (d : D) (ho : ∀ p, d ≠ .obj p) : PySem.W.kitOne K (.type (tyOf d)) (.type T) = some (isTy T d) := by
  cases d with
  | obj p => exact absurd rfl (ho p)
  | _ => rcases hT with rfl | rfl | rfl | rfl | rfl | rfl <;> exact kit_ty (by simp only [tyOf, isTy]; decide +kernel)
theorem qe_isi {T : Str} {T' : String} {te : PEx γ} (hT : T' = "int" ∨ T' = "bool" ∨ T' = "str" ∨ T' = "tuple" ∨ T' = "list" ∨ T' = "dict") (he : QE X G e te) (hg : Gl X "isinstance") (hm : X.mg "isinstance" = none) (hg2 : Gl X T) (hm2 : X.mg T = none) (hv2 : bootBuiltins T = some (.type T')) (hK : X.K = G.K := by rfl)
    (hn : T ≠ "__name__" := by decide) (hd : (T == ("__debug__" : Str)) = false := by decide)
    (hs : starEach [e, .Name T p2] X.env = (false, eval e X.env) :: starEach [.Name T p2] X.env := by rfl) (hs2 : starEach [.Name T p2] X.env = (false, eval (.Name T p2) X.env) :: starEach [] X.env := by rfl) (hpl : (backTo pos (starEach [.Name T p2] X.env)).any (·.1) = false := by rfl) :
    QE X G (.Call (.Name "isinstance" p) [e, .Name T p2] [] pos) (qIsi T' te) := by
  refine PE.imp (pe_callB call_isi hg hm (by decide +kernel) (pa_cons he (pa_cons (pe_bltn (v := .ty T') hg2 hm2 hv2 rfl hn hd) pa_nil hs2) hs) (by decide) (by decide) hs hpl) fun σ H Q ⟨F, Z, s, R, r, t, q⟩ => ?_
  refine ⟨F, Z, s, _, r, t, fun d s1 Z1 v H1 t1 k1 r1 a1 => ?_⟩
  exact ⟨v, .ty T', .type (tyOf d), .type T', isTy T' d, rfl, .ty _, by rw [hK]; exact tyX_of r1.z a1 t1.1, kit_all _ hT d t1.1, q _ s1 Z1 _ H1 t1.2 k1 r1 rfl⟩

variable {i : Nat} {o : Expr} {apos cpos : Pos}
theorem own_ty {K : PySem.W.Frag} {H : Hp} {a : Addr} {vs : List V} (h : H a = some (.lst vs)) : tyV K "list" (.ref a) H := .inl ⟨rfl, vs, .inl (.inl h)⟩
def qAppend (i : Nat) (te : PEx γ) : PEx γ := fun s R => (∃ es, s.ρ[i]? = some (some (.own es))) ∧ te s fun d s1 => ∃ ds, s1.ρ[i]? = some (some (.own ds)) ∧ ds.length < sizeLine ∧ R .non ⟨s1.ρ.set i (some (.own (ds ++ [d]))), s1.g⟩
theorem qe_append {te : PEx γ} (hn : PE X o (tVar i)) (he : QE X G e te)
    (hbase : attributeBase o "append" X.env (eval o X.env) = eval o X.env := by rfl)
    (hfew : ((backTo cpos (starEach [e] X.env)).all (fun x => !x.1) && (backToKw cpos (keywordEach [] X.env)).all (fun x => x.1.isSome)
      && decide (([e] : List Expr).length + ([] : List Keyword).length + (if ([] : List Keyword).isEmpty then 0 else 1) < 30)) = true := by rfl)
    (hline : (apos.endLine == cpos.line) = true := by rfl) (hs : starEach [e] X.env = (false, eval e X.env) :: starEach [] X.env := by rfl) (hplain : (backTo cpos (starEach [] X.env)).any (·.1) = false := by rfl) :
    QE X G (.Call (.Attribute o "append" apos) [e] [] cpos) (qAppend i te) := by
  refine PE.imp (pe_bm PySem.F.plainAttrs_list PySem.F.slot_list_append PySem.F.type_list_append mt_append hn (pa_cons he pa_nil hs) hbase hfew hline hs hplain) fun σ H Q ⟨F, Z, s, R, r, ⟨⟨es, t0⟩, t⟩, q⟩ => ?_
  obtain ⟨a, vs, h1, h2, _⟩ := r.own i es t0
  refine ⟨.ref a, h1, own_ty h2, F, Z, s, _, r, t, fun d s1 Z1 v H1 ⟨ds, t1, t2, t3⟩ k1 r1 a1 => ?_⟩
  obtain ⟨a', vs', g1, g2, g3, _⟩ := r1.own i ds t1
  rw [h1] at g1; cases g1
  have g4 : Ats G.K Z1 (ds ++ [d]) (vs' ++ [v]) := g3.append ⟨v, [], rfl, a1, rfl⟩
  exact ⟨a, vs', v, rfl, rfl, g2, by rw [g3.len]; exact t2, q _ _ Z1 _ _ t3 k1 (r1.write t1 h1 g4) rfl⟩
end
section
variable {X : Cx} {G : GP γ} {a b : Expr} {pos : Pos}
def qBinF (p : D → D → (List D → Prop) → Prop) (ta tb : PEx γ) : PAx γ := fun s R => ta s fun x s1 => tb s1 fun y s2 => p x y fun z => R z s2
theorem qf_bin {op : Operator} {p : D → D → (List D → Prop) → Prop} {ta tb : PEx γ} (ho : OpR X (binaryOp op) (dOp2F G.K p)) (ha : QE X G a ta) (hb : QE X G b tb) : QF X G (.BinOp a op b pos) (qBinF p ta tb) := by
  refine PE.imp (pe_op ho ha hb) fun σ H Q ⟨F, Z, s, R, r, t, q⟩ => ?_
  refine ⟨F, Z, s, _, r, t, fun x s1 Z1 v1 H1 t1 k1 r1 a1 => ⟨F, Z1, s1, _, r1, t1, fun y s2 Z2 v2 H2 t2 k2 r2 a2 => ?_⟩⟩
  refine ⟨Z2, x, y, _, r2.z, At.mono k2 _ _ a1, a2, t2, fun zs p vs H3 t3 k3 hn hp a3 => ?_⟩
  obtain ⟨f1, f2, f3, f4⟩ := r2.fresh hn
  exact q zs s2 Z2 p vs H3 t3 (k1.trans k2) (r2.grow k3) hp a3 f1 f2 f3 f4
end
end Pm
set_option Elab.async false
set_option linter.all false
set_option maxRecDepth 100000
set_option maxHeartbeats 1000000
set_option autoImplicit false
namespace Pm
open PySem PySem.Spec
open PyProof.Rows hiding St
open L2
variable {γ : Type}

abbrev drawLine : Nat := 2 ^ 24
structure Rng (r c q : Addr) (n : Nat) (H : Hp) : Prop where
  ex : ∃ cs rs : List Int, H r = some (.lst [.ref c, .int n, .ref q]) ∧ H c = some (.lst (cs.map V.int)) ∧ H q = some (.lst (rs.map V.int)) ∧ cs.length = rs.length ∧ 0 < cs.length
  rc : r ≠ c
  rq : r ≠ q
  cq : c ≠ q
def gr (K : PySem.W.Frag) (r c q : Addr) : GP Nat where
  K := K
  foot := fun _ a => a = r ∨ a = c ∨ a = q
  J := fun n _ H => Rng r c q n H
  stay := fun n _ _ H H' ⟨⟨cs, rs, h1, h2, h3, h4⟩, a, b, d⟩ _ k => ⟨⟨cs, rs, (k r (.inl rfl)).trans h1, (k c (.inr (.inl rfl))).trans h2, (k q (.inr (.inr rfl))).trans h3, h4⟩, a, b, d⟩
  live := fun n _ H a ⟨⟨cs, rs, h1, h2, h3, _⟩, _, _, _⟩ h => by
    rcases h with rfl | rfl | rfl
    · exact ⟨_, h1⟩
    · exact ⟨_, h2⟩
    · exact ⟨_, h3⟩
def nextS (r : Addr) : Spec Nat := fun ds g R => ∃ m : Int, ds = [.obj r, .int m] ∧ 0 < m ∧ m ≤ 10 ^ 60 ∧ g < drawLine ∧ ∀ k : Int, 0 ≤ k → k < m → R (.int k) (g + 1)
def tNextB (K : PySem.W.Frag) : TS :=
  tSeq (tAsg (tVar 0) (gLs K 3 (gCons (gName 2) (gCons (gName 3) (gCons (gName 4) gNil)))))
  (tSeq (tAsg (tOp (rI (fun _ j => 0 < j) fun i j => .int (i % j)) (tVar 3) (tCB (fun xs H Q => ∃ p ys, xs = [.ref p] ∧ (SqL K H p ys ∨ SqT K H p ys) ∧ Q (.int ys.length) H) (tCons (tVar 2) tNil))) (gName 5))
  (tSeq (tAsg (tOp (rI0 fun i j => .int (i + j)) (tVar 3) (tC (.int 1))) (gSub (tVar 0) (tC (.int 1)) rSetL))
  (tSeq (tIfS (tTest (tOp (rI0 fun i j => .bl (decide (j < i))) (tOp (rIxL K) (tVar 4) (tVar 5)) (tC (.int 0))))
      (tSeq (tAsg (tOp (rI (fun _ j => 0 < j) fun i j => .int (i % j)) (tOp (rIxL K) (tVar 4) (tVar 5)) (tVar 1)) (gName 6))
      (tSeq (tAsg (tOp (rI DivOk fun i j => .int (i.fdiv j)) (tOp (rIxL K) (tVar 4) (tVar 5)) (tVar 1)) (gSub (tVar 4) (tVar 5) rSetL))
      (tRet (tVar 6)))) tNext)
  (tSeq (tAsg (tOp (rI (fun _ j => 0 < j) fun i j => .int (i % j)) (tOp (rI CPow fun i j => .int (i ^ j.toNat)) (tOp (rI0 fun i j => .int (i + j)) (tOp (rI0 fun i j => .int (i + j)) (tOp (rI (fun _ j => 0 < j) fun i j => .int (i % j)) (tOp (rIxL K) (tVar 2) (tVar 5)) (tC (.int 2147483629))) (tOp (rI CMul fun i j => .int (i * j)) (tC (.int 39119)) (tVar 3))) (tC (.int 9901))) (tC (.int 3))) (tC (.int 2147483587))) (gName 7))
  (tSeq (tAsg (tOp (rI (fun _ j => 0 < j) fun i j => .int (i % j)) (tOp (rI CPow fun i j => .int (i ^ j.toNat)) (tOp (rI0 fun i j => .int (i + j)) (tOp (rI0 fun i j => .int (i + j)) (tVar 7) (tOp (rI CMul fun i j => .int (i * j)) (tOp (rI CMul fun i j => .int (i * j)) (tC (.int 7001)) (tVar 3)) (tVar 3))) (tC (.int 41))) (tC (.int 3))) (tC (.int 2147483563))) (gName 8))
  (tRet (tOp (rI (fun _ j => 0 < j) fun i j => .int (i % j)) (tOp (rI (fun _ j => 0 < j) fun i j => .int (i % j)) (tOp (rI0 fun i j => .int (i + j)) (tOp (rI CMul fun i j => .int (i * j)) (tVar 8) (tC (.int 2147483423))) (tVar 7)) (tC (.int 4611686018427387847))) (tVar 1))))))))
theorem divOk60 {i j : Int} (h : 0 < j) (h2 : j ≤ 10 ^ 60) : DivOk i j := by
  refine ⟨by omega, ?_⟩
  have h3 : j.natAbs < 2 ^ 200 := by
    have : (10 : Int) ^ 60 < 2 ^ 200 := by decide
    omega
  exact Nat.lt_of_lt_of_le (PySem.Flt.log2_lt_of (by decide) h3) (by decide)
theorem spot_get {ns : List Int} {t : Int} (hl : 0 < ns.length) : ∃ (j : Nat) (z : Int), t % (ns.length : Int) = (j : Int) ∧ j < ns.length ∧ ns[j]? = some z := by
  have h1 : 0 ≤ t % (ns.length : Int) := Int.emod_nonneg _ (by omega)
  have h2 : t % (ns.length : Int) < ns.length := Int.emod_lt_of_pos _ (by omega)
  refine ⟨(t % (ns.length : Int)).toNat, ns[(t % (ns.length : Int)).toNat]'(by omega), by omega, by omega, List.getElem?_eq_getElem _⟩
theorem mapV_get {ns : List Int} {j : Nat} {z : Int} (h : ns[j]? = some z) : (ns.map V.int)[j]? = some (.int z) := by
  rw [List.getElem?_map, h]; rfl
theorem mapV_set (ns : List Int) (j : Nat) (z : Int) : (ns.map V.int).set j (.int z) = (ns.set j z).map V.int := by
  rw [List.map_set]
theorem rSetL_at {H : Hp} {p : Addr} {xs : List V} {j : Nat} {v : V} {Q : Hp → Prop} (h : H p = some (.lst xs)) (hj : j < xs.length) (q : Q (upd H p (.lst (xs.set j v)))) : rSetL (.ref p) (.int (j : Nat)) v H Q :=
  ⟨p, xs, j, j, rfl, rfl, h, by unfold ixN; rw [if_pos (by omega), if_pos (by omega), Int.toNat_natCast], q⟩
theorem rIxL_at {K : PySem.W.Frag} {H : Hp} {p : Addr} {xs : List V} {j : Nat} {v : V} {Q : VK} (h : H p = some (.lst xs)) (hj : xs[j]? = some v) (q : Q v H) : rIxL K (.ref p) (.int (j : Nat)) H Q :=
  ⟨p, xs, j, v, rfl, rfl, .inl (.inl h), atI_nat hj, q⟩
theorem next_read {K : PySem.W.Frag} {r c q : Addr} {H : Hp} {many : Int} {n : Nat} {De : Ends} (J : Rng r c q n H) (hm : 0 < many) (hm2 : many ≤ 10 ^ 60) (hn : n < drawLine)
    (fin : ∀ (k : Int) (H' : Hp), 0 ≤ k → k < many → Rng r c q (n + 1) H' → (∀ a, a ≠ r → a ≠ c → a ≠ q → H' a = H a) → De.rt (.int k) H') :
    tNextB K De [some (.ref r), some (.int many), none, none, none, none, none, none, none] H := by
  obtain ⟨⟨cs, rs, h1, h2, h3, hl, hp⟩, rc, rq, cq⟩ := J
  have hd : (n : Int) < 16777216 := by have : drawLine = 16777216 := rfl; omega
  obtain ⟨j, z, hj, hjl, hz⟩ := spot_get (ns := cs) (t := (n : Int)) hp
  refine ⟨.ref r, rfl, r, _, rfl, .inl (.inl h1), rfl, .ref c, _, rfl, .int n, _, rfl, .ref q, _, rfl, rfl, ?_⟩
  refine ⟨.int n, rfl, .ref c, rfl, c, cs.map V.int, rfl, .inl (.inl (.inl h2)), (n : Int), ((cs.map V.int).length : Int), rfl, rfl, by rw [List.length_map]; omega, ?_⟩
  rw [List.length_map, show ((fun i j => V.int (i % j)) (n : Int) (cs.length : Int)) = V.int (j : Nat) from (by show V.int _ = _; rw [hj])]
  refine ⟨.int n, rfl, n, 1, rfl, rfl, .ref r, rfl, ?_⟩
  refine rSetL_at (j := 1) h1 (by simp) ?_
  show tSeq _ _ _ _ (upd H r (.lst [.ref c, .int ((n : Int) + 1), .ref q]))
  generalize hH1 : upd H r (.lst [.ref c, .int ((n : Int) + 1), .ref q]) = H1
  have e1 : H1 r = some (.lst [.ref c, .int ((n + 1 : Nat) : Int), .ref q]) := by rw [← hH1, upd_same]; rfl
  have e2 : H1 c = some (.lst (cs.map V.int)) := by rw [← hH1, upd_ne (Ne.symm rc)]; exact h2
  have e3 : H1 q = some (.lst (rs.map V.int)) := by rw [← hH1, upd_ne (Ne.symm rq)]; exact h3
  have eo : ∀ a, a ≠ r → a ≠ c → a ≠ q → H1 a = H a := fun a ha _ _ => by rw [← hH1, upd_ne ha]
  obtain ⟨zr, hzr⟩ : ∃ zr, rs[j]? = some zr := ⟨rs[j]'(by omega), List.getElem?_eq_getElem _⟩
  refine ⟨.ref q, rfl, .int (j : Nat), rfl, rIxL_at e3 (mapV_get hzr) ?_⟩
  refine ⟨zr, 0, rfl, rfl, decide (0 < zr), rfl, ?_⟩
  by_cases hz0 : 0 < zr
  · rw [decide_eq_true hz0]
    refine iteT ?_
    refine ⟨.ref q, rfl, .int (j : Nat), rfl, rIxL_at e3 (mapV_get hzr) ?_⟩
    refine ⟨.int many, rfl, zr, many, rfl, rfl, hm, ?_⟩
    refine ⟨.ref q, rfl, .int (j : Nat), rfl, rIxL_at e3 (mapV_get hzr) ?_⟩
    refine ⟨.int many, rfl, zr, many, rfl, rfl, divOk60 hm hm2, .ref q, rfl, .int (j : Nat), rfl, ?_⟩
    refine rSetL_at e3 (by rw [List.length_map]; omega) ?_
    refine ⟨.int (zr % many), rfl, fin _ _ (Int.emod_nonneg _ (by omega)) (Int.emod_lt_of_pos _ hm) ⟨⟨cs, rs.set j (zr.fdiv many), ?_, ?_, ?_, by rw [List.length_set]; exact hl, hp⟩, rc, rq, cq⟩ fun a a1 a2 a3 => ?_⟩
    · rw [upd_ne rq]; exact e1
    · rw [upd_ne cq]; exact e2
    · rw [upd_same, mapV_set]
    · rw [upd_ne a3]; exact eo a a1 a2 a3
  · rw [decide_eq_false hz0]
    refine iteF ?_
    have b1 : 0 ≤ z % 2147483629 := Int.emod_nonneg _ (by decide)
    have b2 : z % 2147483629 < 2147483629 := Int.emod_lt_of_pos _ (by decide)
    refine ⟨.ref c, rfl, .int (j : Nat), rfl, rIxL_at e2 (mapV_get hz) ?_⟩
    refine ⟨z, 2147483629, rfl, rfl, (by show (0 : Int) < 2147483629; decide), .int n, rfl, 39119, n, rfl, rfl, .inl ⟨by decide, by decide⟩, _, _, rfl, rfl, _, 9901, rfl, rfl, _, 3, rfl, rfl, ⟨by decide, by decide, by omega⟩, _, 2147483587, rfl, rfl, (by show (0 : Int) < 2147483587; decide), ?_⟩
    show gName 7 (V.int ((z % 2147483629 + 39119 * (n : Int) + 9901) ^ (3 : Int).toNat % 2147483587)) _ _ _
    generalize hmx : (z % 2147483629 + 39119 * (n : Int) + 9901) ^ (3 : Int).toNat % 2147483587 = mx
    have m1 : 0 ≤ mx := by rw [← hmx]; exact Int.emod_nonneg _ (by decide)
    have m2 : mx < 2147483587 := by rw [← hmx]; exact Int.emod_lt_of_pos _ (by decide)
    have n0 : 0 ≤ (n : Int) := Int.natCast_nonneg n
    have n2 : 7001 * (n : Int) * (n : Int) ≤ 7001 * 16777216 * 16777216 := Int.mul_le_mul (by omega) (by omega) n0 (by decide)
    have n3 : 0 ≤ 7001 * (n : Int) * (n : Int) := Int.mul_nonneg (by omega) n0
    refine ⟨.int mx, rfl, .int n, rfl, 7001, n, rfl, rfl, .inl ⟨by decide, by decide⟩, .int n, rfl, _, n, rfl, rfl, .inr ⟨by omega, by omega⟩, mx, _, rfl, rfl, _, 41, rfl, rfl, _, 3, rfl, rfl, ⟨by decide, by decide, by omega⟩, _, 2147483563, rfl, rfl, (by show (0 : Int) < 2147483563; decide), ?_⟩
    show gName 8 (V.int ((mx + 7001 * (n : Int) * (n : Int) + 41) ^ (3 : Int).toNat % 2147483563)) _ _ _
    generalize hag : (mx + 7001 * (n : Int) * (n : Int) + 41) ^ (3 : Int).toNat % 2147483563 = ag
    refine ⟨.int ag, rfl, ag, 2147483423, rfl, rfl, .inr ⟨by decide, by decide⟩, .int mx, rfl, _, mx, rfl, rfl, _, 4611686018427387847, rfl, rfl, (by show (0 : Int) < 4611686018427387847; decide), .int many, rfl, _, many, rfl, rfl, hm, ?_⟩
    exact fin _ _ (Int.emod_nonneg _ (by omega)) (Int.emod_lt_of_pos _ hm) ⟨⟨cs, rs, e1, e2, e3, hl, hp⟩, rc, rq, cq⟩ eo
section
variable {P : Program} {w : World} {K : PySem.W.Frag} {mg : Str → Option Value} {base : Heap}
theorem ok_next {x : Str} {st : Stmt} {f : Addr} {fd : FuncData} {N ps : List Str} {k : Nat} {r c q : Addr} (F : Fn K x x st f fd) (S : FnScope N ps (defScope st)) (hN : N.length = 9) (hp : ps.length = 2)
    (body : ∀ (cdv : Value) (A : Around) (outer : List Env) (s : Shared) (H : Hp) (E : XK), Room k (A.deeper (envOfC x (defScope st) s.heap.objs.size f cdv)) →
      PSs (cxOf CX0 P w K mg base N x (defScope st) f cdv A outer s H E).nox (defBody st) (tNextB K)) : FnOk P w K mg base CX0 (k + 1) f fd ps (spG (gr K r c q) (nextS r)) := by
  refine F.ok S (fun vs H Q E h => ?_) (fun cdv A outer s H vs Q E hr h => ⟨_, body cdv A outer s H E hr, ?_⟩)
  · obtain ⟨Z, ds, g, R, _, a, _, _, ⟨m, rfl, _⟩, _⟩ := h
    rw [a.len, hp]; rfl
  · obtain ⟨Z, ds, g, R, k, a, J, zf, ⟨m, rfl, m1, m2, m3, fin⟩, q'⟩ := h
    obtain ⟨v1, v2, rfl, a1, a2⟩ := Ats.two a
    simp only [At] at a1 a2
    subst a1; subst a2
    have e : L2.start N [V.ref r, V.int m] = [some (.ref r), some (.int m), none, none, none, none, none, none, none] := by
      unfold L2.start
      rw [hN]; rfl
    rw [e]
    refine next_read J m1 m2 m3 fun k0 H' h0 h1 J' keep => ?_
    refine q' (.int k0) (g + 1) Z _ H' (fin k0 h0 h1) (Same.refl _) (fun b o e => ?_) (fun b o e n => ?_) (fun b o e n => by rw [e] at n; cases n) J' (fun b hb => ⟨zf b hb, .inl hb⟩) rfl
    · have hn : ¬ (b = r ∨ b = c ∨ b = q) := fun hb => by rw [zf b hb] at e; cases e
      rw [keep b (fun z => hn (.inl z)) (fun z => hn (.inr (.inl z))) (fun z => hn (.inr (.inr z)))]
      exact k b o e
    · have hn : ¬ (b = r ∨ b = c ∨ b = q) := n
      rw [keep b (fun z => hn (.inl z)) (fun z => hn (.inr (.inl z))) (fun z => hn (.inr (.inr z)))]
      exact e
end

def spDraws (K : PySem.W.Frag) : Sp := fun vs H Q _ => ∃ (a : Addr) (ns : List Int), vs = [.ref a] ∧ SqL K H a (ns.map V.int) ∧ ns.length ≤ 63 ∧
  ∀ (r c q : Addr) H', Same H H' → H r = none → H c = none → H q = none → Rng r c q 0 H' → Q (.ref r) H'
def tDrawsB (K : PySem.W.Frag) (vs : List Nat) : TS :=
  tSeq (tAsg (tOp rCat (tCB (fun xs H Q => ∃ p ys, xs = [.ref p] ∧ (SqL K H p ys ∨ SqT K H p ys) ∧ ∀ l, H l = none → Q (.ref l) (upd H l (.lst ys))) (tCons (tSl (rSlL K) (tVar 0) tNoPart (tPart (tC (.int 63)))) tNil))
      (tOp rRep (tLst (tCons (tC (.int 0)) tNil)) (tCB (fun xs H Q => (∃ i, xs = [.int i] ∧ Q (.int i) H) ∨ ∃ k, xs = [.bl k] ∧ Q (.int (if k then 1 else 0)) H)
        (tCons (tOp rEq (tCB (fun xs H Q => ∃ p ys, xs = [.ref p] ∧ (SqL K H p ys ∨ SqT K H p ys) ∧ Q (.int ys.length) H) (tCons (tVar 0) tNil)) (tC (.int 0))) tNil)))) (gName 1))
  (tRet (tLst (tCons (tVar 1) (tCons (tC (.int 0)) (tCons (tLc (iList K (tVar 1)) (gName 2) tYes
    (tOp (rI CMul fun i j => .int (i * j)) (tVar 2) (tCB (fun xs H Q => (∃ i, xs = [.int i] ∧ Q (.int i) H) ∨ ∃ k, xs = [.bl k] ∧ Q (.int (if k then 1 else 0)) H)
      (tCons (tOp (rI0 fun i j => .bl (decide (j ≤ i))) (tVar 2) (tOp (rI CPow fun i j => .int (i ^ j.toNat)) (tC (.int 10)) (tC (.int 18)))) tNil))) vs) tNil)))))
theorem cut63 (ns : List Int) (h : ns.length ≤ 63) : cutV (ns.map V.int) none (some 63) = ns.map V.int := by
  have : cutV (ns.map V.int) none (some 63) = cut (ns.map V.int) none (some ((63 : Nat) : Int)) := rfl
  rw [this, cut_to, List.take_of_length_le (by rw [List.length_map]; exact h)]
theorem tYes_if {σ : List (Option V)} {H : Hp} {A B : Hp → Prop} (h : A H) : tYes σ H fun b H => if b = true then A H else B H := by
  show (if true = true then A H else B H)
  rw [if_pos rfl]; exact h
theorem draws_read {K : PySem.W.Frag} {a : Addr} {ns : List Int} {H : Hp} {De : Ends} (hs : SqL K H a (ns.map V.int)) (hl : ns.length ≤ 63)
    (fin : ∀ (r c q : Addr) H', Same H H' → H r = none → H c = none → H q = none → Rng r c q 0 H' → De.rt (.ref r) H') : tDrawsB K [2] De [some (.ref a), none, none] H := by
  have lim : (1000 : Nat) ≤ sizeLine := by decide
  refine ⟨.ref a, rfl, 63, rfl, a, ns.map V.int, rfl, hs, fun p1 np1 => ?_⟩
  rw [cut63 ns hl]
  have s1 := same_upd (o := HO.lst (ns.map V.int)) np1
  generalize hH1 : upd H p1 (.lst (ns.map V.int)) = H1 at s1
  have a1 : H1 p1 = some (.lst (ns.map V.int)) := by rw [← hH1, upd_same]
  refine ⟨p1, ns.map V.int, rfl, .inl (.inl (.inl a1)), fun p2 np2 => ?_⟩
  have s2 := s1.trans (same_upd (o := HO.lst (ns.map V.int)) np2)
  generalize hH2 : upd H1 p2 (.lst (ns.map V.int)) = H2 at s2
  have a2 : H2 p2 = some (.lst (ns.map V.int)) := by rw [← hH2, upd_same]
  refine ⟨(by show 1 ≤ sizeLine; decide), fun p3 np3 => ?_⟩
  have s3 := same_upd (o := HO.lst [V.int 0]) np3
  generalize hH3 : upd H2 p3 (.lst [V.int 0]) = H3 at s3
  have a3 : H3 p3 = some (.lst [V.int 0]) := by rw [← hH3, upd_same]
  have a23 : H3 p2 = some (.lst (ns.map V.int)) := s3 _ _ a2
  have sA : Same H H3 := s2.trans s3
  refine ⟨.ref a, rfl, a, ns.map V.int, rfl, .inl (sA.seq hs), rfl, .inr ⟨_, rfl, ?_⟩⟩
  generalize hk : decide (V.int (((ns.map V.int).length : Nat) : Int) = V.int 0) = kz
  have hkz : kz = decide (ns.length = 0) := by
    rw [← hk, Bool.eq_iff_iff, decide_eq_true_iff, decide_eq_true_iff, List.length_map]
    constructor
    · intro h; have := V.int.inj h; omega
    · intro h; rw [h]; rfl
  refine ⟨p3, if kz then 1 else 0, [V.int 0], rfl, rfl, a3, by split <;> decide, by split <;> decide, by split <;> decide, fun p4 np4 => ?_⟩
  generalize hz : (List.replicate (if kz = true then (1 : Int) else 0).toNat [V.int 0]).flatten = zs
  have s4 := same_upd (o := HO.lst zs) np4
  generalize hH4 : upd H3 p4 (.lst zs) = H4 at s4
  have a4 : H4 p4 = some (.lst zs) := by rw [← hH4, upd_same]
  obtain ⟨ms, hms, hmp, hml⟩ : ∃ ms : List Int, ns.map V.int ++ zs = ms.map V.int ∧ 0 < ms.length ∧ ms.length ≤ 64 := by
    by_cases h0 : ns.length = 0
    · have : ns = [] := List.length_eq_zero_iff.mp h0
      subst this
      refine ⟨[0], ?_, by simp, by simp⟩
      rw [← hz, hkz]; rfl
    · refine ⟨ns, ?_, by omega, by omega⟩
      have hf : kz = false := by rw [hkz]; exact decide_eq_false h0
      rw [← hz, hf]
      show ns.map V.int ++ [] = _
      rw [List.append_nil]
  have hlen : (ns.map V.int).length + zs.length ≤ sizeLine := by
    have := congrArg List.length hms
    rw [List.length_append, List.length_map] at this
    rw [List.length_map] at this ⊢
    omega
  refine ⟨p2, p4, ns.map V.int, zs, rfl, rfl, s4 _ _ a23, a4, hlen, fun c nc => ?_⟩
  rw [hms]
  have s5 := same_upd (o := HO.lst (ms.map V.int)) nc
  generalize hH5 : upd H4 c (.lst (ms.map V.int)) = H5 at s5
  have a5 : H5 c = some (.lst (ms.map V.int)) := by rw [← hH5, upd_same]
  have sB : Same H H4 := sA.trans s4
  have hc : H c = none := sB.free nc
  have sC : Same H H5 := sB.trans s5
  -- the list of three
  refine ⟨.ref c, rfl, .ref c, rfl, c, rfl, ⟨_, .inl (.inl a5)⟩, fun D nD => ?_⟩
  have hD : H D = none := sC.free nD
  have hDc : c ≠ D := ne_of_none a5 nD
  refine lc_list (K := K) (xs := ms.map V.int) (fun i H => ∃ rs : List Int, rs.length = i ∧ H D = some (.lst (rs.map V.int)) ∧ (∀ b, b ≠ D → H b = H5 b)) ?_ ?_ ?_ ?_
  · exact ⟨[], rfl, by rw [upd_same]; rfl, fun b hb => upd_ne hb⟩
  · rintro i H' - ⟨rs, _, _, ho⟩
    exact .inl (.inl (by rw [ho c hDc]; exact a5))
  · rintro i x H' hx ⟨rs, hrl, hrD, ho⟩
    rw [List.getElem?_map] at hx
    obtain ⟨z, hz1, hz2⟩ := Option.map_eq_some_iff.mp hx
    subst hz2
    refine ⟨rfl, ?_⟩
    refine tYes_if ?_
    refine ⟨.int z, rfl, .int z, rfl, 10, 18, rfl, rfl, ⟨by decide, by decide, by decide⟩, z, _, rfl, rfl, .inr ⟨_, rfl, z, _, rfl, rfl, .inr (by split <;> constructor <;> decide), rs.map V.int, hrD, ?_, ?_⟩⟩
    · have hi := (List.getElem?_eq_some_iff.mp hz1).1
      rw [List.length_map]
      omega
    · refine ⟨rs ++ [z * if decide (10 ^ (18 : Int).toNat ≤ z) = true then 1 else 0], by rw [List.length_append, hrl]; rfl, ?_, fun b hb => ?_⟩
      · rw [upd_same, List.map_append]; rfl
      · rw [upd_ne hb]; exact ho b hb
  · rintro H' ⟨rs, hrl, hrD, ho⟩
    refine ⟨(by show 3 ≤ sizeLine; decide), fun r nr => ?_⟩
    have e5 : H5 r = none := by
      have : r ≠ D := fun e => by rw [e, hrD] at nr; cases nr
      rw [← ho r this]; exact nr
    have hr : H r = none := sC.free e5
    have rc : r ≠ c := fun e => by rw [e, a5] at e5; cases e5
    have rD : r ≠ D := fun e => by rw [e, hrD] at nr; cases nr
    refine fin r c D _ (fun b o e => ?_) hr hc hD ⟨⟨ms, rs, by rw [upd_same]; rfl, ?_, ?_, ?_, hmp⟩, rc, rD, hDc⟩
    · have b1 : b ≠ r := ne_of_none e hr
      have b2 : b ≠ D := ne_of_none e hD
      rw [upd_ne b1, ho b b2]
      exact sC _ _ e
    · rw [upd_ne (Ne.symm rc), ho c hDc]; exact a5
    · rw [upd_ne (Ne.symm rD)]; exact hrD
    · rw [hrl, List.length_map]
section
variable {P : Program} {w : World} {K : PySem.W.Frag} {mg : Str → Option Value} {base : Heap}
theorem ok_draws {x : Str} {st : Stmt} {f : Addr} {fd : FuncData} {N ps : List Str} {k : Nat} (F : Fn K x x st f fd) (S : FnScope N ps (defScope st)) (hN : N.length = 3) (hp : ps.length = 1)
    (body : ∀ (cdv : Value) (A : Around) (outer : List Env) (s : Shared) (H : Hp) (E : XK), Room k (A.deeper (envOfC x (defScope st) s.heap.objs.size f cdv)) →
      PSs (cxOf CX0 P w K mg base N x (defScope st) f cdv A outer s H E).nox (defBody st) (tDrawsB K [2])) : FnOk P w K mg base CX0 (k + 1) f fd ps (spDraws K) := by
  refine F.ok S (fun vs H Q E h => ?_) (fun cdv A outer s H vs Q E hr h => ⟨_, body cdv A outer s H E hr, ?_⟩)
  · obtain ⟨a, ns, rfl, _⟩ := h
    rw [hp]; rfl
  · obtain ⟨a, ns, rfl, hs, hl, q⟩ := h
    have e : L2.start N [V.ref a] = [some (.ref a), none, none] := by
      unfold L2.start
      rw [hN]; rfl
    rw [e]
    exact draws_read hs hl fun r c q' H' h1 h2 h3 h4 h5 => q r c q' H' h1 h2 h3 h4 h5

def Glo (P : Program) (w : World) (K : PySem.W.Frag) (mg : Str → Option Value) (base : Heap) (x : Str) (n : Nat) (sp : Sp) (k : Nat) : Prop :=
  ∃ f fd ps, FnOk P w K mg base CX0 k f fd ps sp ∧ mg x = some (.ref f) ∧ PySem.W.keepIn K (.ref f) = true ∧ Binds K fd ps [] ∧ ps.length = n
theorem Glo.at {X : Cx} {x : Str} {n : Nat} {sp : Sp} {j k : Nat} (g : Glo X.prog X.w X.K X.mg X.base x n sp j) (hr : Room k X.A) (h : j ≤ k := by decide) : Def X x n sp := by
  obtain ⟨f, fd, ps, F, m, kp, b, e⟩ := g
  exact ⟨f, fd, k, ps, F.mono h, hr, m, kp, b, e⟩
end
end Pm
set_option Elab.async false
set_option linter.all false
set_option maxRecDepth 100000
set_option maxHeartbeats 1000000
set_option autoImplicit false
namespace Pm
open PySem PySem.Spec
open PyProof.Rows hiding St
open L2

def Sz (b : Nat) (i : Int) : Prop := i.natAbs < 2 ^ b
theorem Sz.le {a b : Nat} {i : Int} (h : Sz a i) (k : a ≤ b) : Sz b i := Nat.lt_of_lt_of_le h (Nat.pow_le_pow_right (by decide) k)
theorem Sz.mul {a b : Nat} {i j : Int} (h : Sz a i) (k : Sz b j) : Sz (a + b) (i * j) := by
  unfold Sz at *
  rw [Int.natAbs_mul, Nat.pow_add]
  exact Nat.mul_lt_mul'' h k
theorem Sz.add {a : Nat} {i j : Int} (h : Sz a i) (k : Sz a j) : Sz (a + 1) (i + j) := by
  unfold Sz at *
  rw [Nat.pow_succ]; omega
def frD (x : Rat) : D := .tup [.int x.num, .int x.den]
def SzR (b : Nat) (x : Rat) : Prop := Sz b x.num ∧ Sz b x.den
theorem natAbs_div_le (a : Int) (b : Nat) : (a / (b : Int)).natAbs ≤ a.natAbs := by
  rcases Nat.eq_zero_or_pos b with rfl | h
  · simp
  · exact Int.natAbs_ediv_le_natAbs a b
theorem SzR.mk {b : Nat} {n : Int} {d : Nat} (hn : Sz b n) (hd : Sz b d) (h0 : d ≠ 0) : SzR b (mkRat n d) := by
  refine ⟨?_, ?_⟩
  · unfold Sz at *
    rw [Rat.num_mkRat, if_neg h0]
    exact Nat.lt_of_le_of_lt (natAbs_div_le _ _) hn
  · unfold Sz at *
    rw [Rat.den_mkRat, if_neg h0]
    refine Nat.lt_of_le_of_lt ?_ hd
    show d / d.gcd n.natAbs ≤ d
    exact Nat.div_le_self _ _
theorem SzR.add {a b : Nat} {x y : Rat} (h : SzR a x) (k : SzR b y) : SzR (a + b + 1) (x + y) := by
  rw [Rat.add_def']
  refine SzR.mk ((h.1.mul k.2).add ((k.1.mul h.2).le (by omega))) ?_ (Nat.mul_ne_zero x.den_nz y.den_nz)
  rw [Int.natCast_mul]
  exact (h.2.mul k.2).le (by omega)
theorem frD_pln (x : Rat) : (frD x).pln = true := rfl
theorem pe_callD {X : Cx} {x : Str} {n : Nat} {sp : Sp} {e : Expr} {es : List Expr} {ta : TA} {p pos : Pos} (d : Def X x n sp) (hg : Gl X x) (ha : PA X (e :: es) ta) (hdb : (x == ("__debug__" : Str)) = false := by decide) (he : starEach (e :: es) X.env = (false, eval e X.env) :: starEach es X.env := by rfl) (hpl : (backTo pos (starEach es X.env)).any (·.1) = false := by rfl) :
    PE X (.Call (.Name x p) (e :: es) [] pos) (tCall sp [] E0 ta) := by
  obtain ⟨fa, fd, k, ps, F, hr, hm, hk, hb, _⟩ := d.ex
  exact pe_call F hr hg hm hk hb .nil pass0 ha hdb he hpl
def wkL : List (Option L) → List (Option L) → Prop
  | [], [] => True
  | a :: as, b :: bs => (b = none ∨ b = a) ∧ wkL as bs
  | _, _ => False
theorem wkL_at : ∀ {ρ ρ' : List (Option L)}, wkL ρ ρ' → ρ'.length = ρ.length ∧ ∀ (i : Nat) l, ρ'[i]? = some (some l) → ρ[i]? = some (some l)
  | [], [], _ => ⟨rfl, fun _ _ h => h⟩
  | a :: as, b :: bs, h => by
    obtain ⟨h1, h2⟩ := wkL_at h.2
    refine ⟨by simp [h1], fun i l e => ?_⟩
    cases i with
    | zero =>
      simp only [List.getElem?_cons_zero, Option.some.injEq] at e ⊢
      rcases h.1 with h | h
      · rw [h] at e; cases e
      · rw [← h]; exact e
    | succ i => simp only [List.getElem?_cons_succ] at e ⊢; exact h2 i l e
  | [], _ :: _, h => h.elim
  | _ :: _, [], h => h.elim
section
variable {γ : Type}
theorem Wk.of {ρ ρ' : List (Option L)} {g : γ} (h : wkL ρ ρ') : Wk (⟨ρ, g⟩ : S γ) ⟨ρ', g⟩ := ⟨rfl, (wkL_at h).1, (wkL_at h).2⟩
theorem seq_mid {t U : PSx γ} {E : En γ} {s : S γ} (M : S γ → Prop) (hU : ∀ s', M s' → U E s') (h : ∀ N : S γ → Prop, (∀ s', M s' → N s') → t { E with nx := N } s) : qSeq t U E s := h _ hU
end
theorem bl_ne {x y : Bool} (hc : (!D.eqv (.bl x) (.bl y)) = true) (h : x = y) : False := by
  subst h; cases x <;> cases hc
end Pm
set_option Elab.async false
set_option linter.all false
set_option maxRecDepth 100000
set_option maxHeartbeats 1000000
set_option autoImplicit false
namespace Pm
open PySem PySem.Spec
open PyProof.Rows hiding St
open L2

structure FnG (P : Program) (w : World) (K : PySem.W.Frag) (mg : Str → Option Value) (base : Heap) (k : Nat) (f : Addr) (fd : FuncData) (ps : List Str) (sp : Sp) : Prop where
  len : ∀ vs H Q E, sp vs H Q E → vs.length = ps.length
  go : ∀ (A : Around), A.guards = some [] → Room k A → ∀ (outer : List Env) (s : Shared) (H : Hp) (args : Args) (us : List Value) (vs : List V) (Q : VK) (E : XK), Env0 P w K mg base A outer s H → BindsTo s fd args (ps.zip us) → Vals vs us → sp vs H Q E →
    codeAny (model P w) A (.call (.ref f) args) (CR CX0 outer P w H s Q E) s
section
variable {P : Program} {w : World} {K : PySem.W.Frag} {mg : Str → Option Value} {base : Heap} {k : Nat} {f : Addr} {fd : FuncData} {ps : List Str} {sp : Sp}
theorem Fn.okGd {x qual : Str} {st : Stmt} {N : List Str} (F : Fn K x qual st f fd) (S : FnScope N ps (defScope st)) (len : ∀ vs H Q E, sp vs H Q E → vs.length = ps.length)
    (hbody : ∀ (cdv : Value) (A : Around) (outer : List Env) (s : Shared) (H : Hp) (vs : List V) (Q : VK) (E : XK), A.guards = some [] → Room k (A.deeper (envOfC qual (defScope st) s.heap.objs.size f cdv)) → sp vs H Q E →
      ∃ t, PSs (cxOf CX0 P w K mg base N qual (defScope st) f cdv A outer s H E).nox (defBody st) t ∧ t { nx := fun _ H' => Q .non H', rt := Q } (L2.start N vs) H) : FnG P w K mg base (k + 1) f fd ps sp := by
  obtain ⟨oc, od, dV, kV, doc, pm, an, cdv, ct, osl, rfl, lk, hcd, _, _⟩ := F.ex
  refine ⟨len, fun A gd hr outer s H args us vs Q E e0 hb rv hq => ?_⟩
  have inH : K.In s.heap := e0.mod.kin.keeps fun c u z => (e0.bs c u z).1
  refine codeAny_call_function hr.depth (inH _ _ lk) rfl S.co S.gen rfl (PySem.W.codeRec_of inH hcd) (hb _ _ _ _ ?_)
  refine wpAny_newFunctionEnv_cells S.kind (fun y hy => ?_) fun env he s1 xx => ?_
  · rcases S.par y.1 (List.of_mem_zip (a := y.1) (b := y.2) hy).1 with z | z
    · exact Or.inl z
    · exact Or.inr ⟨z, PySem.W.cellsFrom_some _ _ _ (Or.inl z)⟩
  subst he
  have nol : s.heap.NoLimit := e0.mod.nolimit.keeps fun c u z => (e0.bs c u z).1
  refine ⟨nol.keeps xx.toInCall.keep, codeAny_func ?_⟩
  obtain ⟨t, ht, hw⟩ := hbody cdv A outer s H vs Q E gd (hr.deeper _) hq
  have J0 := inv_start (CX := CX0) (E := E) S hr.hd e0 (len _ _ _ _ hq) rv xx
  refine wpAny_mono ((PSs.nox ht).run [] s1 (L2.start N vs) H _ J0 hw) (fun fl s' z => ?_) fun _ _ z => z
  cases fl with
  | ret u =>
    obtain ⟨v, _, H', J, r1, q1⟩ := z
    exact ⟨v, H', J.os, J.bare, J.base, J.hok, r1, q1⟩
  | next =>
    obtain ⟨_, H', J, q1⟩ := z
    exact ⟨.non, H', J.os, J.bare, J.base, J.hok, rfl, q1⟩
  | brk =>
    obtain ⟨_, _, _, q1⟩ := z
    exact q1.elim
  | cont =>
    obtain ⟨_, _, _, q1⟩ := z
    exact q1.elim
end
end Pm
set_option Elab.async false
set_option linter.all false
set_option maxRecDepth 100000
set_option maxHeartbeats 1000000
set_option autoImplicit false
namespace Pm
open PySem PySem.Spec
open PyProof.Rows hiding St
open L2
mutual
def D.wid : D → Nat
  | .non => 8
  | .bl _ => 8
  | .int _ => 2000
  | .str x => 10 * x.length + 8
  | .lst xs => D.wids xs + 8
  | .tup xs => D.wids xs + 8
  | .dct _ _ => 8
  | .obj _ => 8
def D.wids : List D → Nat
  | [] => 0
  | d :: ds => d.wid + 8 + D.wids ds
end
theorem D.wid_pos (d : D) : 8 ≤ d.wid := by cases d <;> simp only [D.wid] <;> omega
theorem D.wids_len : ∀ ds : List D, 16 * ds.length ≤ D.wids ds
  | [] => Nat.zero_le _
  | d :: ds => by
    have h := D.wids_len ds
    have := d.wid_pos
    simp only [D.wids, List.length_cons]; omega
theorem D.wids_mem : ∀ {ds : List D} {d : D}, d ∈ ds → d.wid ≤ D.wids ds
  | e :: ds, d, h => by
    rcases List.mem_cons.mp h with rfl | h
    · simp only [D.wids]; omega
    · have := D.wids_mem h
      simp only [D.wids]; omega
theorem D.plns_mem : ∀ {ds : List D} {d : D}, D.plns ds = true → d ∈ ds → d.pln = true
  | e :: ds, d, k, h => by
    simp only [D.plns, Bool.and_eq_true] at k
    rcases List.mem_cons.mp h with rfl | h
    · exact k.1
    · exact D.plns_mem k.2 h
theorem D.deps_mem : ∀ {ds : List D} {d : D}, d ∈ ds → d.dep ≤ D.deps ds
  | e :: ds, d, h => by
    rcases List.mem_cons.mp h with rfl | h
    · simp only [D.deps]; omega
    · have := D.deps_mem h
      simp only [D.deps]; omega
mutual
theorem eqv_refl : ∀ d : D, d.pln = true → D.eqv d d = true
  | .non, _ => rfl
  | .bl b, _ => by simp [D.eqv]
  | .int i, _ => by simp [D.eqv]
  | .str x, _ => by simp [D.eqv]
  | .lst xs, h => by
    simp only [D.eqv]
    exact eqvs_refl xs (by simpa [D.pln] using h)
  | .tup xs, h => by
    simp only [D.eqv]
    exact eqvs_refl xs (by simpa [D.pln] using h)
  | .dct _ _, h => by simp [D.pln] at h
  | .obj _, h => by simp [D.pln] at h
theorem eqvs_refl : ∀ ds : List D, D.plns ds = true → D.eqvs ds ds = true
  | [], _ => rfl
  | d :: ds, h => by
    simp only [D.plns, Bool.and_eq_true] at h
    simp only [D.eqvs, eqv_refl d h.1, eqvs_refl ds h.2, Bool.and_self]
end
theorem isTy_tup (d : D) : isTy "tuple" d = match d with | .tup _ => true | _ => false := by cases d <;> rfl
theorem isTy_bl (d : D) : isTy "bool" d = match d with | .bl _ => true | _ => false := by cases d <;> rfl
theorem zip_self {xs : List D} {i : Nat} {d : D} (h : (zipD xs xs)[i]? = some d) : ∃ x, xs[i]? = some x ∧ x ∈ xs ∧ d = .tup [x, x] := by
  obtain ⟨x, y, h1, h2, rfl⟩ := zipD_get h
  rw [h1] at h2; cases h2
  exact ⟨x, h1, List.mem_of_getElem? h1, rfl⟩
theorem all_trues (n : Nat) : ((List.replicate n true).all id) = true := by simp
theorem bls_trues (n : Nat) : asBls (List.replicate n (D.bl true)) = some (List.replicate n true) := by
  rw [← List.map_replicate]; exact asBls_map _
theorem eq_no {d : D} (p : d.pln = true) (hc : D.eqv d d = false) : False := by rw [eqv_refl d p] at hc; cases hc
theorem wipeL_get (ρ : List (Option L)) : ∀ (vs : List Nat) (i : Nat), (wipeL ρ vs)[i]? = if i ∈ vs ∧ i < ρ.length then some none else ρ[i]?
  | [], i => by simp [wipeL]
  | v :: vs, i => by
    unfold wipeL
    have ih := wipeL_get ρ vs i
    have ln := wipeL_length ρ vs
    rw [List.getElem?_set, ih, ln]
    by_cases h : v = i
    · subst h
      by_cases h2 : v < ρ.length
      · simp [h2]
      · simp [h2]
    · have : i ≠ v := fun e => h e.symm
      simp [h, this]
mutual
theorem put_out : ∀ {t : Tg} {d : D} {ρ ρ' : List (Option L)}, t.put d ρ = some ρ' → ρ'.length = ρ.length ∧ ∀ i, i ∉ t.js → ρ'[i]? = ρ[i]?
  | .nm j, d, ρ, ρ', h => by
    simp only [Tg.put, Option.some.injEq] at h
    subst h
    exact ⟨by simp, fun i hi => List.getElem?_set_ne (by simpa [Tg.js, eq_comm] using hi)⟩
  | .tp ts, d, ρ, ρ', h => by
    cases d with
    | tup ds =>
      simp only [Tg.put] at h
      exact puts_out h
    | lst ds =>
      simp only [Tg.put] at h
      exact puts_out h
    | _ => simp [Tg.put] at h
theorem puts_out : ∀ {ts : List Tg} {ds : List D} {ρ ρ' : List (Option L)}, Tg.puts ts ds ρ = some ρ' → ρ'.length = ρ.length ∧ ∀ i, i ∉ Tg.jss ts → ρ'[i]? = ρ[i]?
  | [], [], ρ, ρ', h => by
    simp only [Tg.puts, Option.some.injEq] at h
    subst h
    exact ⟨rfl, fun _ _ => rfl⟩
  | [], _ :: _, _, _, h => by simp [Tg.puts] at h
  | _ :: _, [], _, _, h => by simp [Tg.puts] at h
  | t :: ts, d :: ds, ρ, ρ', h => by
    simp only [Tg.puts] at h
    cases hp : t.put d ρ with
    | none => rw [hp] at h; simp at h
    | some ρ1 =>
      rw [hp] at h
      simp only [Option.bind_some] at h
      obtain ⟨a1, a2⟩ := put_out hp
      obtain ⟨b1, b2⟩ := puts_out h
      refine ⟨b1.trans a1, fun i hi => ?_⟩
      simp only [Tg.jss, List.mem_append, not_or] at hi
      rw [b2 i hi.2, a2 i hi.1]
end
theorem put_wipe {t : Tg} {d : D} {ρ ρ' : List (Option L)} {vs : List Nat} (h : t.put d (wipeL ρ vs) = some ρ') (hj : ∀ j ∈ t.js, j ∈ vs) : wipeL ρ' vs = wipeL ρ vs := by
  obtain ⟨a1, a2⟩ := put_out h
  rw [wipeL_length] at a1
  refine List.ext_getElem? fun i => ?_
  rw [wipeL_get, wipeL_get, a1]
  by_cases hi : i ∈ vs
  · by_cases hl : i < ρ.length
    · simp [hi, hl]
    · simp only [hl, and_false, if_false]
      rw [List.getElem?_eq_none (by omega), List.getElem?_eq_none (by omega)]
  · simp only [hi, false_and, if_false]
    rw [a2 i fun e => hi (hj i e), wipeL_get]
    simp [hi]
theorem line_big : (10000000 : Nat) ≤ sizeLine := by rw [sizeLine_eq]; decide
end Pm
set_option Elab.async false
set_option linter.all false
set_option maxRecDepth 100000
set_option maxHeartbeats 1000000
set_option autoImplicit false
namespace Pm
open PySem PySem.Spec
open PyProof.Rows hiding St
open L2
def itD (q : Int × Int) : D := .tup [.int q.1, .int q.2]
structure Pan where
  its : List (Int × Int)
  rus : List (Int × Int)
def panD (p : Pan) : D := .tup [.tup (p.its.map itD), .tup (p.rus.map itD)]
def ItOk (q : Int × Int) : Prop := -(10 ^ 9) ≤ q.1 ∧ q.1 ≤ 10 ^ 9 ∧ 1 ≤ q.2 ∧ q.2 ≤ 10 ^ 6
def RuOk (n : Nat) (q : Int × Int) : Prop := 0 ≤ q.1 ∧ q.1 < n ∧ 0 ≤ q.2 ∧ q.2 < n ∧ q.1 ≠ q.2
structure PanOk (most : Nat) (p : Pan) : Prop where
  one : 1 ≤ p.its.length
  top : p.its.length ≤ most
  it : ∀ q ∈ p.its, ItOk q
  few : p.rus.length ≤ 16
  ru : ∀ q ∈ p.rus, RuOk p.its.length q
theorem its_pln (l : List (Int × Int)) : D.plns (l.map itD) = true := by
  induction l with
  | nil => rfl
  | cons q l ih => simp only [List.map_cons, D.plns, ih]; rfl
theorem its_dep (l : List (Int × Int)) : D.deps (l.map itD) ≤ 1 := by
  induction l with
  | nil => exact Nat.zero_le _
  | cons q l ih =>
    simp only [List.map_cons, D.deps]
    have : (itD q).dep = 1 := by simp [itD, D.dep, D.deps]
    omega
theorem its_wid (l : List (Int × Int)) : D.wids (l.map itD) = 4032 * l.length := by
  induction l with
  | nil => rfl
  | cons q l ih =>
    simp only [List.map_cons, D.wids, ih, List.length_cons]
    have : (itD q).wid = 4024 := by simp [itD, D.wid, D.wids]
    omega
theorem small_show {i : Int} (h1 : -(10 ^ 100) ≤ i) (h2 : i ≤ 10 ^ 100) : (D.int i).py.showable = true := by
  have h : i.natAbs < 2 ^ 400 := by
    have : (10 : Int) ^ 100 < 2 ^ 400 := by decide
    omega
  exact decide_eq_true (Nat.lt_trans (PySem.Flt.log2_lt_of (by decide) h) (by decide))
theorem its_show (l : List (Int × Int)) (h : ∀ q ∈ l, (-(10 ^ 9) ≤ q.1 ∧ q.1 ≤ 10 ^ 9) ∧ -(10 ^ 9) ≤ q.2 ∧ q.2 ≤ 10 ^ 9) : PyData.showableAll (D.pys (l.map itD)) = true := by
  induction l with
  | nil => rfl
  | cons q l ih =>
    have hq := h q (by simp)
    have a := small_show (i := q.1) (by omega) (by omega)
    have b := small_show (i := q.2) (by omega) (by omega)
    have c := ih fun z hz => h z (by simp [hz])
    show (((D.int q.1).py.showable && ((D.int q.2).py.showable && true)) && PyData.showableAll (D.pys (l.map itD))) = true
    rw [a, b, c]; rfl
theorem PanOk.its9 {m : Nat} {p : Pan} (h : PanOk m p) : ∀ q ∈ p.its, (-(10 ^ 9) ≤ q.1 ∧ q.1 ≤ 10 ^ 9) ∧ -(10 ^ 9) ≤ q.2 ∧ q.2 ≤ 10 ^ 9 := fun q hq => by
  obtain ⟨a, b, c, d⟩ := h.it q hq
  exact ⟨⟨a, b⟩, by omega, by omega⟩
theorem PanOk.rus9 {m : Nat} {p : Pan} (h : PanOk m p) (hm : m ≤ 100) : ∀ q ∈ p.rus, (-(10 ^ 9) ≤ q.1 ∧ q.1 ≤ 10 ^ 9) ∧ -(10 ^ 9) ≤ q.2 ∧ q.2 ≤ 10 ^ 9 := fun q hq => by
  obtain ⟨a, b, c, d, _⟩ := h.ru q hq
  have := h.top
  exact ⟨⟨by omega, by omega⟩, by omega, by omega⟩
theorem panD_ok {m : Nat} {p : Pan} (h : PanOk m p) (hm : m ≤ 100) : (panD p).pln = true ∧ (panD p).py.showable = true ∧ (panD p).dep ≤ 3 ∧ (panD p).wid ≤ 500000 := by
  refine ⟨?_, ?_, ?_, ?_⟩
  · simp [panD, D.pln, D.plns, its_pln]
  · show (PyData.showableAll (D.pys (p.its.map itD)) && (PyData.showableAll (D.pys (p.rus.map itD)) && true)) = true
    rw [its_show _ h.its9, its_show _ (h.rus9 hm)]; rfl
  · have h1 := its_dep p.its
    have h2 := its_dep p.rus
    simp only [panD, D.dep, D.deps]; omega
  · have h1 := h.top
    have h2 := h.few
    simp only [panD, D.wid, D.wids, its_wid]; omega
end Pm
set_option Elab.async false
set_option linter.all false
set_option maxRecDepth 100000
set_option maxHeartbeats 1000000
set_option autoImplicit false
namespace Pm
open PySem PySem.Spec
open PyProof.Rows hiding St
open L2
def natD (i : Nat) : D := .int i
theorem getD_at {its : List (Int × Int)} {i : Nat} (h : i < its.length) : its[i]? = some (its.getD i (0, 1)) := by
  rw [List.getD_eq_getElem?_getD, List.getElem?_eq_getElem h]; rfl
theorem idx_it {its : List (Int × Int)} {i : Nat} (h : i < its.length) : idx (its.map itD) (i : Int) = some (itD (its.getD i (0, 1))) := by
  rw [idx_nat', List.getElem?_map, getD_at h]; rfl
end Pm
set_option Elab.async false
set_option linter.all false
set_option maxRecDepth 100000
set_option maxHeartbeats 1000000
set_option autoImplicit false
namespace Pm
open PySem PySem.Spec
open PyProof.Rows hiding St
open L2
theorem sz_of {b : Nat} {n : Int} (hb : 50 ≤ b) (h1 : -(10 ^ 12) ≤ n) (h2 : n ≤ 10 ^ 12) : Sz b n := by
  have : Sz 50 n := by
    unfold Sz
    have e : (10 : Int) ^ 12 < 2 ^ 50 := by decide
    have e2 : ((2 ^ 50 : Nat) : Int) = 2 ^ 50 := by decide
    omega
  exact this.le hb
end Pm
set_option Elab.async false
set_option linter.all false
set_option maxRecDepth 100000
set_option maxHeartbeats 1000000
set_option autoImplicit false
namespace Pm
def sm (f : Nat → Rat) : List Nat → Rat
  | [] => 0
  | i :: l => f i + sm f l
theorem sm_congr {f g : Nat → Rat} : ∀ {l : List Nat}, (∀ i ∈ l, f i = g i) → sm f l = sm g l
  | [], _ => rfl
  | i :: l, h => by simp only [sm, h i (by simp), sm_congr (l := l) fun j hj => h j (by simp [hj])]
theorem sm_split (f : Nat → Rat) (p : Nat → Bool) : ∀ l : List Nat, sm f (l.filter p) + sm f (l.filter fun i => !p i) = sm f l
  | [] => by simp only [List.filter_nil, sm]; grind
  | i :: l => by
    have := sm_split f p l
    cases h : p i <;> simp only [List.filter_cons, h, sm, Bool.not_true, Bool.not_false, if_true, if_false, Bool.false_eq_true] <;> grind
theorem sm_add (f g : Nat → Rat) : ∀ l : List Nat, sm (fun i => f i + g i) l = sm f l + sm g l
  | [] => by simp only [sm]; grind
  | i :: l => by simp only [sm, sm_add f g l]; grind
theorem sm_sub (f g : Nat → Rat) : ∀ l : List Nat, sm (fun i => f i - g i) l = sm f l - sm g l
  | [] => by simp only [sm]; grind
  | i :: l => by simp only [sm, sm_sub f g l]; grind
section
variable {E : Nat → Nat → Prop} {l : List Nat} {m w r s : Nat → Rat}
def UpS (E : Nat → Nat → Prop) (U : Nat → Bool) : Prop := ∀ a b, E a b → U a = true → U b = true
def RUp (r : Nat → Rat) (U : Nat → Bool) : Prop := ∀ i j, r i ≤ r j → U i = true → U j = true
end
end Pm
set_option Elab.async false
set_option linter.all false
set_option maxRecDepth 100000
set_option maxHeartbeats 1000000
set_option autoImplicit false
namespace Pm
open PySem PySem.Spec
open PyProof.Rows hiding St
open L2
variable {γ : Type}
def noOwn (ρ : List (Option L)) (vs : List Nat) : Bool := vs.all fun v => match ρ[v]? with
  | some (some (.own _)) => false
  | some (some (.dic _)) => false
  | _ => true
theorem back_wipe {s : S γ} {vs : List Nat} (h : noOwn s.ρ vs = true) : s.back vs (s.wipe vs) = s := by
  obtain ⟨ρ, g⟩ := s
  have e : (S.back (⟨ρ, g⟩ : S γ) vs (S.wipe (⟨ρ, g⟩ : S γ) vs)).ρ = ρ := by
    refine List.ext_getElem? fun i => ?_
    simp only [S.back, S.wipe, List.getElem?_mapIdx]
    rw [wipeL_get]
    by_cases hi : i ∈ vs
    · have h1 := List.all_eq_true.mp h i hi
      by_cases hl : i < ρ.length
      · rw [if_pos ⟨hi, hl⟩]
        simp only [Option.map_some, if_pos hi]
        rw [List.getElem?_eq_getElem hl] at h1 ⊢
        unfold keepVal
        cases q : ρ[i] with
        | none => simp [q]
        | some l => cases l with
          | val d => simp [q]
          | own ds => rw [q] at h1; simp at h1
          | dic ds => rw [q] at h1; simp at h1
      · rw [if_neg (fun z => hl z.2), List.getElem?_eq_none (by omega)]; rfl
    · rw [if_neg fun z => hi z.1]
      cases q : ρ[i]? with
      | none => rfl
      | some o => simp [hi]
  show (⟨_, _⟩ : S γ) = _
  exact congrArg (fun z => (⟨z, g⟩ : S γ)) e
theorem back_wipeG {s : S γ} {vs : List Nat} {g : γ} (h : noOwn s.ρ vs = true) : s.back vs ⟨wipeL s.ρ vs, g⟩ = ⟨s.ρ, g⟩ := by
  have e := congrArg S.ρ (back_wipe h)
  show (⟨_, g⟩ : S γ) = _
  exact congrArg (fun z => (⟨z, g⟩ : S γ)) e
theorem lc_runG {tg : Tg} {vs : List Nat} {tt : PTx γ} {te : PEx γ} {R : List D → S γ → Prop} {ds : List D} {s1 : S γ} (J : Nat → List D → γ → Prop) (h0 : J 0 [] s1.g)
    (step : ∀ i d acc g, ds[i]? = some d → J i acc g → ∃ ρ', tg.put d (wipeL s1.ρ vs) = some ρ' ∧ ((∀ g' : γ, Wk ((⟨ρ', g'⟩ : S γ).wipe vs) ⟨wipeL s1.ρ vs, g'⟩) →
      tt ⟨ρ', g⟩ fun b s3 => Br b (te s3 fun y s4 => acc.length + 1 ≤ sizeLine ∧ ∃ s5, Wk (s4.wipe vs) s5 ∧ ∃ g', s5 = ⟨wipeL s1.ρ vs, g'⟩ ∧ J (i + 1) (acc ++ [y]) g') (∃ s5, Wk (s3.wipe vs) s5 ∧ ∃ g', s5 = ⟨wipeL s1.ρ vs, g'⟩ ∧ J (i + 1) acc g')))
    (fin : ∀ acc g, J ds.length acc g → R acc ⟨s1.ρ, g⟩) (hj : ∀ j ∈ tg.js, j ∈ vs := by decide) (ho : noOwn s1.ρ vs = true := by rfl) : lcB tg vs tt te R ds s1 := by
  refine ⟨fun i acc s => ∃ g', s = ⟨wipeL s1.ρ vs, g'⟩ ∧ J i acc g', ⟨_, Wk.refl _, s1.g, rfl, h0⟩, ?_, ?_⟩
  · rintro i d acc s hd ⟨g, rfl, hJ⟩
    obtain ⟨ρ', h1, h2⟩ := step i d acc g hd hJ
    unfold qPut
    show match tg.put d (wipeL s1.ρ vs) with | some ρ' => _ | none => False
    rw [h1]
    refine h2 fun g' => ?_
    show Wk (⟨wipeL ρ' vs, g'⟩ : S γ) _
    rw [put_wipe h1 hj]
    exact Wk.refl _
  · rintro acc s ⟨g, rfl, hJ⟩
    rw [back_wipeG ho]
    exact fin acc g hJ
theorem lc_list {α : Type} {tg : Tg} {vs : List Nat} {tt : PTx γ} {te : PEx γ} {R : List D → S γ → Prop} {s1 : S γ} (l : List α) (e : α → D) (P : α → Bool) (g : α → D) (hn : l.length ≤ 1000000)
    (step : ∀ a ∈ l, ∃ ρ', tg.put (e a) (wipeL s1.ρ vs) = some ρ' ∧ (∀ T : Bool → S γ → Prop, T (P a) ⟨ρ', s1.g⟩ → tt ⟨ρ', s1.g⟩ T) ∧ (P a = true → ∀ T : D → S γ → Prop, T (g a) ⟨ρ', s1.g⟩ → te ⟨ρ', s1.g⟩ T))
    (fin : R ((l.filter P).map g) s1) (hj : ∀ j ∈ tg.js, j ∈ vs) (ho : noOwn s1.ρ vs = true) : lcB tg vs tt te R (l.map e) s1 := by
  have line := sizeLine_eq
  refine lc_runG (fun i acc g' => g' = s1.g ∧ acc = ((l.take i).filter P).map g) ⟨rfl, by simp⟩ ?_ ?_ hj ho
  · rintro i d acc g' hd ⟨rfl, rfl⟩
    rw [List.getElem?_map] at hd
    obtain ⟨a, ha, rfl⟩ := Option.map_eq_some_iff.mp hd
    obtain ⟨ρ', h1, h2, h3⟩ := step a (List.mem_of_getElem? ha)
    refine ⟨ρ', h1, fun W => h2 _ ⟨fun hb => h3 hb _ ⟨?_, _, W _, _, rfl, rfl, ?_⟩, fun hb => ⟨_, W _, _, rfl, rfl, ?_⟩⟩⟩
    · have h1 := List.length_filter_le P (l.take i)
      have h2 := List.length_take_le i l
      have h3 : (l.take i).length ≤ l.length := by rw [List.length_take]; omega
      rw [List.length_map]; omega
    · rw [List.take_add_one, ha, List.filter_append, List.map_append]
      simp [hb]
    · rw [List.take_add_one, ha, List.filter_append, List.map_append]
      simp [hb]
  · rintro acc g' ⟨rfl, rfl⟩
    rw [List.length_map, List.take_of_length_le (Nat.le_refl _)]
    exact fin
theorem lc_mapl {α : Type} {tg : Tg} {vs : List Nat} {te : PEx γ} {R : List D → S γ → Prop} {s1 : S γ} (l : List α) (e : α → D) (g : α → D) (hn : l.length ≤ 1000000)
    (step : ∀ a ∈ l, ∃ ρ', tg.put (e a) (wipeL s1.ρ vs) = some ρ' ∧ (∀ T : D → S γ → Prop, T (g a) ⟨ρ', s1.g⟩ → te ⟨ρ', s1.g⟩ T))
    (fin : R (l.map g) s1) (hj : ∀ j ∈ tg.js, j ∈ vs) (ho : noOwn s1.ρ vs = true) : lcB tg vs qYes te R (l.map e) s1 := by
  refine lc_list l e (fun _ => true) g hn (fun a ha => ?_) ?_ hj ho
  · obtain ⟨ρ', h1, h2⟩ := step a ha
    exact ⟨ρ', h1, fun T h => h, fun _ => h2⟩
  · rw [List.filter_eq_self.mpr fun _ _ => rfl]; exact fin
theorem put_nm {i : Nat} {d : D} {s : S γ} {R : S γ → Prop} (h : R ⟨s.ρ.set i (some (.val d)), s.g⟩) : qPut (.nm i) d s R := h
theorem put_tg {tg : Tg} {d : D} {s : S γ} {R : S γ → Prop} {ρ' : List (Option L)} (e : tg.put d s.ρ = some ρ') (h : R ⟨ρ', s.g⟩) : qPut tg d s R := by
  unfold qPut; rw [e]; exact h
theorem lc_all {tg : Tg} {vs : List Nat} {te : PEx γ} {R : List D → S γ → Prop} {s1 : S γ} {ds : List D} (g : D → D) (hn : ds.length ≤ 1000000)
    (step : ∀ a ∈ ds, ∃ ρ', tg.put a (wipeL s1.ρ vs) = some ρ' ∧ (∀ T : D → S γ → Prop, T (g a) ⟨ρ', s1.g⟩ → te ⟨ρ', s1.g⟩ T))
    (fin : R (ds.map g) s1) (hj : ∀ j ∈ tg.js, j ∈ vs) (ho : noOwn s1.ρ vs = true) : lcB tg vs qYes te R ds s1 := by
  have := lc_mapl (tg := tg) (vs := vs) (te := te) (R := R) (s1 := s1) ds id g hn step fin hj ho
  rw [List.map_id] at this; exact this
end Pm
set_option Elab.async false
set_option linter.all false
set_option maxRecDepth 100000
set_option maxHeartbeats 1000000
set_option autoImplicit false
namespace Pm
open PySem PySem.Spec
open PyProof.Rows hiding St
open L2
def GlD (K : PySem.W.Frag) (mg : Str → Option Value) (x : Str) (d : D) : Prop := ∃ u v, mg x = some u ∧ RelV v u ∧ ∀ Z, At K Z d v
theorem gl_int {K : PySem.W.Frag} {mg : Str → Option Value} {h : Heap} (X : K.In h) (G : h.Ns mainGlobals mg) {x : Str} {i : Int} (c : (He.Fa.int x i).ok K = true) : GlD K mg x (.int i) := by
  obtain ⟨t, e⟩ := He.int_ok X G c
  exact ⟨_, .int i, e, ⟨t, rfl⟩, fun Z => rfl⟩
theorem qe_gl {γ : Type} {X : Cx} {G : GP γ} {x : Str} {d : D} {pos : Pos} (hg : Gl X x) (h : GlD G.K X.mg x d) (hd : (x == ("__debug__" : Str)) = false := by decide) : QE X G (.Name x pos) (qC d) := by
  obtain ⟨u, v, e, r, k⟩ := h
  exact qe_glob hg e r k hd
end Pm
set_option Elab.async false
set_option linter.all false
set_option maxRecDepth 100000
set_option maxHeartbeats 1000000
set_option autoImplicit false
namespace Pm
open PySem PySem.Spec
open PyProof.Rows hiding St
open L2
variable {γ : Type}
section
variable {X : Cx} {G : GP γ} {a b c e : Expr} {pos : Pos}
def MatL (G : GP γ) (F : Fra) (Z : Hp) (s : S γ) (σ : St) (H : Hp) : L → V → Prop
  | .val d, v => At G.K Z d v
  | .own ds, v => ∃ a us, v = .ref a ∧ H a = some (.lst us) ∧ Ats G.K Z ds us ∧ Z a = none ∧ F.F a = none ∧ ¬ G.foot s.g a ∧ Nob s σ a
  | .dic _, _ => False
def L.nd : L → Prop | .dic _ => False | _ => True
theorem MatL.nd {G : GP γ} {F : Fra} {Z : Hp} {s : S γ} {σ : St} {H : Hp} {l : L} {v : V} (m : MatL G F Z s σ H l v) : l.nd := by
  cases l <;> first | trivial | exact m
def Apart : List L → List V → Prop
  | .own _ :: ls, v :: vs => (∀ (k : Nat) (es : List D), ls[k]? = some (.own es) → vs[k]? ≠ some v) ∧ Apart ls vs
  | _ :: ls, _ :: vs => Apart ls vs
  | _, _ => True
def Mats (G : GP γ) (F : Fra) (Z : Hp) (s : S γ) (σ : St) (H : Hp) : List L → List V → Prop
  | [], vs => vs = []
  | l :: ls, vs => ∃ w ws, vs = w :: ws ∧ MatL G F Z s σ H l w ∧ Mats G F Z s σ H ls ws
abbrev PMx (γ : Type) := S γ → (List L → S γ → Prop) → Prop
def lM (G : GP γ) (t : PMx γ) : TA := fun σ H Q => ∃ F Z s R, Rel G F Z s σ H ∧ t s R ∧ ∀ ls s' Z' vs H', R ls s' → Same Z Z' → Rel G F Z' s' σ H' → Mats G F Z' s' σ H' ls vs → Apart ls vs → Q vs H'
abbrev QM (X : Cx) (G : GP γ) (es : List Expr) (t : PMx γ) : Prop := PA X es (lM G t)
def qmNil : PMx γ := fun s R => R [] s
def qmVal (te : PEx γ) (tr : PMx γ) : PMx γ := fun s R => te s fun d s1 => tr s1 fun ls s2 => R (.val d :: ls) s2
theorem qm_nil : QM X G [] (qmNil : PMx γ) := PA.imp pa_nil fun σ H Q ⟨F, Z, s, R, r, t, q⟩ => q [] s Z [] H t (Same.refl _) r rfl trivial
theorem qm_val {es : List Expr} {te : PEx γ} {tr : PMx γ} (ha : QE X G e te) (hr : QM X G es tr) (hs : starEach (e :: es) X.env = (false, eval e X.env) :: starEach es X.env := by rfl) : QM X G (e :: es) (qmVal te tr) := by
  refine PA.imp (pa_cons ha hr hs) fun σ H Q ⟨F, Z, s, R, r, t, q⟩ => ?_
  refine ⟨F, Z, s, _, r, t, fun x s1 Z1 v1 H1 t1 k1 r1 a1 => ⟨F, Z1, s1, _, r1, t1, fun ls s2 Z2 vs H2 t2 k2 r2 a2 ap => ?_⟩⟩
  exact q _ s2 Z2 _ H2 t2 (k1.trans k2) r2 ⟨v1, vs, rfl, At.mono k2 _ _ a1, a2⟩ ap
theorem Rel.putL {F : Fra} {Z : Hp} {s : S γ} {σ : St} {H : Hp} (r : Rel G F Z s σ H) {i : Nat} {l : L} {v : V} (m : MatL G F Z s σ H l v) : Rel G F Z ⟨s.ρ.set i (some l), s.g⟩ (σ.set i (some v)) H := by
  cases l with
  | val d => exact r.put m
  | own ds =>
    obtain ⟨a, us, rfl, h1, h2, h3, h4, h5, h6⟩ := m
    exact r.putOwn h1 h2 h3 h4 h5 h6
  | dic _ => exact m.elim
theorem MatL.after {F : Fra} {Z : Hp} {s : S γ} {σ : St} {H : Hp} {i : Nat} {l l' : L} {v v' : V} (hl : s.ρ.length = σ.length) (m : MatL G F Z s σ H l v) (hne : ∀ es es', l = .own es → l' = .own es' → v ≠ v') (hd : l'.nd) : MatL G F Z ⟨s.ρ.set i (some l'), s.g⟩ (σ.set i (some v')) H l v := by
  cases l with
  | val d => exact m
  | own ds =>
    obtain ⟨a, us, rfl, h1, h2, h3, h4, h5, h6⟩ := m
    refine ⟨a, us, rfl, h1, h2, h3, h4, h5, fun j m e om => ?_⟩
    by_cases hij : i = j
    · subst hij
      have hi : i < s.ρ.length := by
        have := (List.getElem?_eq_some_iff.mp e).1
        simpa using this
      rw [List.getElem?_set_self hi] at e
      rw [List.getElem?_set_self (by omega)]
      cases e
      intro z
      cases z
      cases l' with
      | val _ => cases om
      | own es => exact hne ds es rfl rfl rfl
      | dic _ => exact hd
    · rw [List.getElem?_set_ne hij] at e
      rw [List.getElem?_set_ne hij]
      exact h6 j m e om
  | dic _ => exact m.elim
def qParM (i j : Nat) (ta : PMx γ) : PSx γ := fun E s => ta s fun ls s1 => match ls with
  | [d, e] => E.nx ⟨(s1.ρ.set i (some d)).set j (some e), s1.g⟩
  | _ => False
def qParM3 (i j l : Nat) (ta : PMx γ) : PSx γ := fun E s => ta s fun ls s1 => match ls with
  | [d, e, f] => E.nx ⟨((s1.ρ.set i (some d)).set j (some e)).set l (some f), s1.g⟩
  | _ => False
theorem apart3 {l m n : L} {v w u : V} (h : Apart [l, m, n] [v, w, u]) : (∀ es es', m = .own es → l = .own es' → w ≠ v) ∧ (∀ es es', n = .own es → l = .own es' → u ≠ v) ∧ (∀ es es', n = .own es → m = .own es' → u ≠ w) := by
  refine ⟨fun es es' h1 h2 z => ?_, fun es es' h1 h2 z => ?_, fun es es' h1 h2 z => ?_⟩
  · subst h1; subst h2; subst z; exact h.1 0 es rfl rfl
  · subst h1; subst h2; subst z; exact h.1 1 es rfl rfl
  · subst h1; subst h2; subst z
    have h' : Apart [.own es', .own es] [u, u] := by cases l <;> first | exact h | exact h.2
    exact h'.1 0 es rfl rfl
theorem qs_parM3 {i j l : Nat} {x y z : Str} {ta : PMx γ} {px py pz pt : Pos} {kt k2 pt2} (hc : X.calm = true) (hN : X.N.Nodup) (hi : X.N[i]? = some x) (hj : X.N[j]? = some y) (hl : X.N[l]? = some z) (hij : i ≠ j) (hil : i ≠ l) (hjl : j ≠ l)
    (hx : X.env.scope.names.lookup x = some .local) (hy : X.env.scope.names.lookup y = some .local) (hz : X.env.scope.names.lookup z = some .local) (ha : QM X G [a, b, c] ta)
    (hw : swappedStores [.Tuple [.Name x px, .Name y py, .Name z pz] kt pt] (.Tuple [a, b, c] k2 pt2) X.env = pure (some [x, y, z]))
    (hs : swapsWithSole [.Tuple [.Name x px, .Name y py, .Name z pz] kt pt] (.Tuple [a, b, c] k2 pt2) pos.line X.env = pure false := by rfl) :
    QS X G (.Assign [.Tuple [.Name x px, .Name y py, .Name z pz] kt pt] (.Tuple [a, b, c] k2 pt2) pos) (qParM3 i j l ta) := by
  refine PS.imp (ps_par3 hc hN hi hj hl hij hil hjl hx hy hz ha hw hs) fun De σ H ⟨F, Z, s, E, r, t, n, _⟩ => ?_
  refine ⟨F, Z, s, _, r, t, fun ls s1 Z1 vs H1 t1 k1 r1 m1 ap => ?_⟩
  match ls, t1 with
  | [d, e, f], t1 =>
    obtain ⟨v, _, rfl, m2, w, _, rfl, m3, u, _, rfl, m4, rfl⟩ := m1
    obtain ⟨p1, p2, p3⟩ := apart3 ap
    refine ⟨v, w, u, rfl, n _ Z1 _ H1 t1 k1 ?_⟩
    have ra := r1.putL (i := i) m2
    have ma := m3.after (i := i) (l' := d) (v' := v) r1.len.symm p1 m2.nd
    have mb := m4.after (i := i) (l' := d) (v' := v) r1.len.symm p2 m2.nd
    exact (ra.putL ma).putL (mb.after ra.len.symm p3 m3.nd)
variable {i : Nat} {o : Expr} {apos cpos : Pos}
end
end Pm
set_option Elab.async false
set_option linter.all false
set_option maxRecDepth 100000
set_option maxHeartbeats 1000000
set_option autoImplicit false
namespace Pm
open PySem PySem.Spec
open PyProof.Rows hiding St
open L2
def isI : D → Bool
  | .int _ => true
  | _ => false
def inI (lo hi : Int) : D → Bool
  | .int i => decide (lo ≤ i) && decide (i ≤ hi)
  | _ => false
def eE (p : Pan) (a b : Nat) : Prop := ((a : Int), (b : Int)) ∈ p.rus
end Pm
set_option Elab.async false
set_option linter.all false
set_option maxRecDepth 100000
set_option maxHeartbeats 1000000
set_option autoImplicit false
namespace Pm
open PySem PySem.Spec PySem.W
open PyProof.Rows hiding St
open L2
theorem sm_ind {a : Nat} {d : Rat} : ∀ {l : List Nat}, l.Nodup → sm (fun x => if x = a then d else 0) l = if a ∈ l then d else 0
  | [], _ => by simp [sm]
  | b :: l, h => by
    rw [List.nodup_cons] at h
    simp only [sm]
    rw [sm_ind h.2]
    by_cases e : b = a
    · subst e
      simp [h.1]; grind
    · simp [e, fun z => e (Eq.symm z)]
      by_cases m : a ∈ l
      · simp [m]; grind
      · simp [m, fun z : a = b => e z.symm]; grind
structure Flow (n : Nat) (rus : List (Int × Int)) (L : Nat → Rat) (F : Nat → Int) : Prop where
  up : ∀ U, UpS (eE ⟨[], rus⟩) U → sm (fun x => (F x : Rat)) ((List.range n).filter U) ≤ 0
  lv : ∀ U, RUp L U → sm (fun x => (F x : Rat)) ((List.range n).filter U) = 0
theorem Flow.add {n : Nat} {rus : List (Int × Int)} {L : Nat → Rat} {F : Nat → Int} (h : Flow n rus L F) {a b : Nat} {d : Int} (d0 : 0 ≤ d) (hr : ((a : Int), (b : Int)) ∈ rus) (hab : a ≠ b) (ha : a < n) (hb : b < n) (hd : d = 0 ∨ L a = L b) : Flow n rus L fun x => if x = b then F x - d else if x = a then F x + d else F x := by
  have e : ∀ U : Nat → Bool, sm (fun x => ((if x = b then F x - d else if x = a then F x + d else F x : Int) : Rat)) ((List.range n).filter U) = sm (fun x => (F x : Rat)) ((List.range n).filter U) + (if U a = true then (d : Rat) else 0) - (if U b = true then (d : Rat) else 0) := fun U => by
    have i1 := sm_ind (a := a) (d := (d : Rat)) (l := (List.range n).filter U) (List.nodup_range.filter _)
    have i2 := sm_ind (a := b) (d := (d : Rat)) (l := (List.range n).filter U) (List.nodup_range.filter _)
    have m1 : (a ∈ (List.range n).filter U) = (U a = true) := by rw [List.mem_filter, List.mem_range]; simp [ha]
    have m2 : (b ∈ (List.range n).filter U) = (U b = true) := by rw [List.mem_filter, List.mem_range]; simp [hb]
    simp only [m1] at i1
    simp only [m2] at i2
    rw [← i1, ← i2, ← sm_add, ← sm_sub]
    refine sm_congr fun x _ => ?_
    by_cases xb : x = b
    · have xa : x ≠ a := fun z => hab (z.symm.trans xb)
      simp only [xb, if_true, if_neg (fun z : b = a => hab z.symm), Rat.intCast_sub]; grind
    · by_cases xa : x = a
      · simp only [xa, if_neg hab, if_true, Rat.intCast_add]; grind
      · simp only [if_neg xb, if_neg xa]; grind
  have dR : (0 : Rat) ≤ (d : Rat) := Rat.intCast_nonneg.mpr d0
  refine ⟨fun U hU => ?_, fun U hU => ?_⟩
  · rw [e]
    have := h.up U hU
    have k := hU a b hr
    by_cases ua : U a = true
    · rw [if_pos ua, if_pos (k ua)]; grind
    · rw [if_neg ua]; split <;> grind
  · rw [e, h.lv U hU]
    rcases hd with hd | hd
    · have z : (d : Rat) = 0 := by rw [hd]; rfl
      rw [z]; split <;> split <;> grind
    · have k1 := hU a b (by rw [hd]; exact Rat.le_refl)
      have k2 := hU b a (by rw [hd]; exact Rat.le_refl)
      by_cases ua : U a = true
      · rw [if_pos ua, if_pos (k1 ua)]; grind
      · rw [if_neg ua, if_neg (fun z => ua (k2 z))]; grind
end Pm
set_option Elab.async false
set_option linter.all false
set_option maxRecDepth 100000
set_option maxHeartbeats 1000000
set_option autoImplicit false
namespace Pm
open PySem PySem.Spec
open PyProof.Rows hiding St
open L2
mutual
def D.plz : D → Bool
  | .non => true
  | .bl _ => true
  | .int _ => true
  | .str x => PyData.strOk x
  | .lst xs => D.plzs xs
  | .tup xs => D.plzs xs
  | .dct ks xs => ks.isEmpty && xs.isEmpty
  | .obj _ => false
def D.plzs : List D → Bool
  | [] => true
  | d :: ds => d.plz && D.plzs ds
end
mutual
theorem plz_pln : ∀ d : D, d.pln = true → d.plz = true
  | .non, _ => rfl
  | .bl _, _ => rfl
  | .int _, _ => rfl
  | .str _, h => h
  | .lst xs, h => plzs_plns xs h
  | .tup xs, h => plzs_plns xs h
  | .dct _ _, h => by cases h
  | .obj _, h => by cases h
theorem plzs_plns : ∀ ds : List D, D.plns ds = true → D.plzs ds = true
  | [], _ => rfl
  | d :: ds, h => by
    simp only [D.plns, Bool.and_eq_true] at h
    simp only [D.plzs, Bool.and_eq_true]
    exact ⟨plz_pln d h.1, plzs_plns ds h.2⟩
end
theorem plzs_iff {ds : List D} : D.plzs ds = true ↔ ∀ d ∈ ds, d.plz = true := by
  induction ds with
  | nil => simp [D.plzs]
  | cons d ds ih => simp [D.plzs, ih]
section
variable {γ : Type} {X : Cx} {G : GP γ} {pos : Pos}
theorem qe_dict0 : QE X G (.Dict [] [] pos) (qC (.dct [] []) : PEx γ) := by
  refine PE.imp pe_dnewK fun σ H Q ⟨F, Z, s, R, r, t, q⟩ p hp => ?_
  have hz := (r.fresh hp).1
  have k := same_upd (o := HO.dK []) hz
  exact q _ s (upd Z p (.dK [])) _ _ t k (r.new hp) ⟨p, [], rfl, upd_same, rfl, rfl⟩
end
end Pm
set_option Elab.async false
set_option linter.all false
set_option maxRecDepth 100000
set_option maxHeartbeats 1000000
set_option autoImplicit false
namespace Pm
open PySem PySem.Spec
open PyProof.Rows hiding St
open L2
def oddL : List D := [.non, .bl true, .bl false, .int 0, .int (-1), .int 1, .int 2, .int (10 ^ 29), .str "", .str "a", .str "up", .tup [], .lst [], .dct [] [], .tup [.int 0], .lst [.int 0], .tup [.tup []], .tup [.int 1, .int 2], .tup [.int 0, .int 1], .tup [.int 2, .int 4]]
mutual
def D.fit (b : Nat) : D → Prop
  | .int i => Sz b i
  | .lst xs => D.fits b xs
  | .tup xs => D.fits b xs
  | _ => True
def D.fits (b : Nat) : List D → Prop
  | [] => True
  | d :: ds => d.fit b ∧ D.fits b ds
end
theorem fits_iff {b : Nat} {ds : List D} : D.fits b ds ↔ ∀ d ∈ ds, d.fit b := by
  induction ds with
  | nil => simp [D.fits]
  | cons d ds ih => simp [D.fits, ih]
structure VOk (b w k : Nat) (d : D) : Prop where
  z : d.plz = true
  f : d.fit b
  w : d.wid ≤ w
  k : d.dep ≤ k
theorem odd_ok {d : D} (h : d ∈ oddL) : VOk 100 4024 2 d := by
  have h : d ∈ oddL := h
  have all : ∀ d ∈ oddL, d.plz = true ∧ d.wid ≤ 4024 ∧ d.dep ≤ 2 := by
    have e : oddL.all (fun d => d.plz && decide (d.wid ≤ 4024) && decide (d.dep ≤ 2)) = true := by decide +kernel
    intro d hd
    have := List.all_eq_true.mp e d hd
    simpa [Bool.and_eq_true, and_assoc] using this
  obtain ⟨h1, h2, h3⟩ := all d h
  refine ⟨h1, ?_, h2, h3⟩
  unfold oddL at h
  simp only [List.mem_cons, List.not_mem_nil, or_false] at h
  rcases h with rfl | rfl | rfl | rfl | rfl | rfl | rfl | rfl | rfl | rfl | rfl | rfl | rfl | rfl | rfl | rfl | rfl | rfl | rfl | rfl
  all_goals first | exact trivial | (show Sz 100 _; unfold Sz; decide) | (refine ⟨?_, trivial⟩; show Sz 100 _; unfold Sz; decide) | (refine ⟨?_, ?_, trivial⟩ <;> (show Sz 100 _; unfold Sz; decide)) | exact ⟨trivial, trivial⟩
theorem deps_le {xs : List D} {k : Nat} : D.deps xs ≤ k ↔ ∀ x ∈ xs, x.dep ≤ k := by
  induction xs with
  | nil => simp [D.deps]
  | cons x xs ih => simp only [D.deps, List.mem_cons, forall_eq_or_imp, ← ih]; omega
theorem plz_obj {d : D} (h : d.plz = true) : ∀ p, d ≠ .obj p := fun p e => by subst e; cases h
theorem fits_its {l : List (Int × Int)} (h : ∀ q ∈ l, (-(10 ^ 9) ≤ q.1 ∧ q.1 ≤ 10 ^ 9) ∧ -(10 ^ 9) ≤ q.2 ∧ q.2 ≤ 10 ^ 9) : D.fits 50 (l.map itD) := fits_iff.mpr fun x hx => by
  obtain ⟨q, hq, rfl⟩ := List.mem_map.mp hx
  have := h q hq
  exact ⟨sz_of (by decide) (by omega) (by omega), sz_of (by decide) (by omega) (by omega), trivial⟩
theorem VOk.pan {m : Nat} {p : Pan} (h : PanOk m p) (hm : m ≤ 100) : VOk 50 500000 3 (panD p) := by
  obtain ⟨a, b, c, d⟩ := panD_ok h hm
  exact ⟨plz_pln _ a, ⟨fits_its h.its9, fits_its (h.rus9 hm), trivial⟩, d, c⟩
def isTup (lo hi : Int) : D → Bool
  | .tup xs => decide (lo ≤ (xs.length : Int)) && decide ((xs.length : Int) ≤ hi)
  | _ => false
end Pm
set_option Elab.async false
set_option linter.all false
set_option maxRecDepth 100000
set_option maxHeartbeats 1000000
set_option autoImplicit false
namespace Pm
open PySem PySem.Spec
open PyProof.Rows hiding St
open L2
def fltD (path : List Int) (w : Str) : D := .tup [.tup (path.map D.int), .str w]
def itF (k : Nat) : D → D
  | .tup [a, b] => if inI (-(10 ^ 9)) (10 ^ 9) a then (if inI 1 (10 ^ 6) b then .non else fltD [0, k, 1] "weight") else fltD [0, k, 0] "mark"
  | _ => fltD [0, k] "item"
def ruF (n k : Nat) : D → D
  | .tup [a, b] => if inI 0 ((n : Int) - 1) a then (if inI 0 ((n : Int) - 1) b && !D.eqv a b then .non else fltD [1, k, 1] "high") else fltD [1, k, 0] "low"
  | _ => fltD [1, k] "rule"
def unp (f : Nat → D → D) : D → D
  | .tup [.int k, x] => f k.toNat x
  | _ => .non
def fstF : List D → D
  | [] => .non
  | .non :: r => fstF r
  | d :: _ => d
def faults (xs ys : List D) : List D := (enumD xs).map (unp itF) ++ (enumD ys).map (unp (ruF xs.length))
def ffD (v : D) : D := match v with
  | .tup [a, b] => if isTup 1 8 a = true then (if isTup 0 16 b = true then (match a, b with
    | .tup xs, .tup ys => fstF (faults xs ys)
    | _, _ => .non) else fltD [1] "rules") else fltD [0] "items"
  | _ => fltD [] "panel"
theorem tup2 {d : D} (h : isTup 2 2 d = true) : ∃ a b, d = .tup [a, b] := by
  cases d with
  | tup xs =>
    match xs, h with
    | [x, y], _ => exact ⟨x, y, rfl⟩
    | [], h => cases h
    | [_], h => cases h
    | _ :: _ :: _ :: _, h => simp [isTup] at h; omega
  | _ => cases h
theorem ffD_no {v : D} (h : isTup 2 2 v = false) : ffD v = fltD [] "panel" := by
  cases v with
  | tup xs =>
    match xs, h with
    | [], _ => rfl
    | [_], _ => rfl
    | [_, _], h => cases h
    | _ :: _ :: _ :: _, _ => rfl
  | _ => rfl
theorem itF_no {k : Nat} {v : D} (h : isTup 2 2 v = false) : itF k v = fltD [0, k] "item" := by
  cases v with
  | tup xs =>
    match xs, h with
    | [], _ => rfl
    | [_], _ => rfl
    | [_, _], h => cases h
    | _ :: _ :: _ :: _, _ => rfl
  | _ => rfl
theorem ruF_no {n k : Nat} {v : D} (h : isTup 2 2 v = false) : ruF n k v = fltD [1, k] "rule" := by
  cases v with
  | tup xs =>
    match xs, h with
    | [], _ => rfl
    | [_], _ => rfl
    | [_, _], h => cases h
    | _ :: _ :: _ :: _, _ => rfl
  | _ => rfl
theorem tupLen {lo hi : Nat} {d : D} (h : isTup lo hi d = true) : ∃ xs, d = .tup xs ∧ lo ≤ xs.length ∧ xs.length ≤ hi := by
  cases d with
  | tup xs =>
    simp only [isTup, Bool.and_eq_true, decide_eq_true_eq] at h
    exact ⟨xs, rfl, by omega, by omega⟩
  | _ => cases h
theorem inI_int {lo hi : Int} {d : D} (h : inI lo hi d = true) : ∃ i, d = .int i ∧ lo ≤ i ∧ i ≤ hi := by
  cases d with
  | int i =>
    simp only [inI, Bool.and_eq_true, decide_eq_true_eq] at h
    exact ⟨i, rfl, h.1, h.2⟩
  | _ => cases h
theorem enum_mem {xs : List D} {d : D} (h : d ∈ enumD xs) : ∃ (k : Nat) (x : D), d = .tup [.int (k : Int), x] ∧ xs[k]? = some x := by
  obtain ⟨i, hi⟩ := List.mem_iff_getElem?.mp h
  obtain ⟨x, hx, e⟩ := enumGo_get hi
  exact ⟨i, x, by rw [e, Nat.zero_add], hx⟩
theorem enum_get {xs : List D} {i : Nat} {d : D} (h : (enumD xs)[i]? = some d) : ∃ x, xs[i]? = some x ∧ d = .tup [.int (i : Int), x] := by
  obtain ⟨x, hx, e⟩ := enumGo_get h
  exact ⟨x, hx, by rw [e, Nat.zero_add]⟩
theorem fstF_at : ∀ {l : List D} {j : Nat} {f : D}, (∀ x ∈ l.take j, x = .non) → l[j]? = some f → f ≠ .non → fstF l = f
  | [], _, _, _, h, _ => by simp at h
  | x :: l, 0, f, _, h, hn => by
    simp only [List.getElem?_cons_zero, Option.some.injEq] at h
    subst h
    cases x <;> first | rfl | exact absurd rfl hn
  | x :: l, j + 1, f, h0, h, hn => by
    have hx : x = .non := h0 x (by simp)
    subst hx
    exact fstF_at (l := l) (j := j) (fun y hy => h0 y (by rw [List.take_succ_cons]; simp [hy])) (by simpa using h) hn
theorem fstF_non : ∀ {l : List D}, (∀ x ∈ l, x = .non) → fstF l = .non
  | [], _ => rfl
  | x :: l, h => by
    have hx : x = .non := h x (by simp)
    subst hx
    exact fstF_non (l := l) fun y hy => h y (by simp [hy])
theorem fltD_ne (p : List Int) (w : Str) : fltD p w ≠ .non := fun e => by cases e
def FltOr (f : D) : Prop := f = .non ∨ ∃ p w, f = fltD p w ∧ p.length ≤ 3 ∧ w.length ≤ 6 ∧ PyData.strOk w = true ∧ ∀ i ∈ p, 0 ≤ i ∧ i ≤ 100
theorem fltOr {p : List Int} {w : Str} (hl : p.length ≤ 3) (hw : w.length ≤ 6) (hs : PyData.strOk w = true) (h : ∀ i ∈ p, 0 ≤ i ∧ i ≤ 100) : FltOr (fltD p w) := .inr ⟨p, w, rfl, hl, hw, hs, h⟩
theorem itF_or {k : Nat} (hk : k ≤ 100) (d : D) : FltOr (itF k d) := by
  have p2 : ∀ i ∈ [(0 : Int), (k : Int)], 0 ≤ i ∧ i ≤ 100 := fun i hi => by simp at hi; omega
  have p3 : ∀ j : Int, 0 ≤ j → j ≤ 1 → ∀ i ∈ [(0 : Int), (k : Int), j], 0 ≤ i ∧ i ≤ 100 := fun j _ _ i hi => by simp at hi; omega
  cases ht : isTup 2 2 d with
  | false => rw [itF_no ht]; exact fltOr (by simp) (by decide) (by decide +kernel) p2
  | true =>
    obtain ⟨a, b, rfl⟩ := tup2 ht
    show FltOr (if _ then (if _ then _ else _) else _)
    split
    · split
      · exact .inl rfl
      · exact fltOr (by simp) (by decide) (by decide +kernel) (p3 1 (by decide) (by decide))
    · exact fltOr (by simp) (by decide) (by decide +kernel) (p3 0 (by decide) (by decide))
theorem ruF_or {n k : Nat} (hk : k ≤ 100) (d : D) : FltOr (ruF n k d) := by
  have p2 : ∀ i ∈ [(1 : Int), (k : Int)], 0 ≤ i ∧ i ≤ 100 := fun i hi => by simp at hi; omega
  have p3 : ∀ j : Int, 0 ≤ j → j ≤ 1 → ∀ i ∈ [(1 : Int), (k : Int), j], 0 ≤ i ∧ i ≤ 100 := fun j _ _ i hi => by simp at hi; omega
  cases ht : isTup 2 2 d with
  | false => rw [ruF_no ht]; exact fltOr (by simp) (by decide) (by decide +kernel) p2
  | true =>
    obtain ⟨a, b, rfl⟩ := tup2 ht
    show FltOr (if _ then (if _ then _ else _) else _)
    split
    · split
      · exact .inl rfl
      · exact fltOr (by simp) (by decide) (by decide +kernel) (p3 1 (by decide) (by decide))
    · exact fltOr (by simp) (by decide) (by decide +kernel) (p3 0 (by decide) (by decide))
theorem faults_or {xs ys : List D} (hx : xs.length ≤ 100) (hy : ys.length ≤ 100) : ∀ f ∈ faults xs ys, FltOr f := fun f hf => by
  rcases List.mem_append.mp hf with hf | hf
  · obtain ⟨e, he, rfl⟩ := List.mem_map.mp hf
    obtain ⟨k, x, rfl, h⟩ := enum_mem he
    have hk := (List.getElem?_eq_some_iff.mp h).1
    show FltOr (itF (k : Int).toNat x)
    exact itF_or (by omega) x
  · obtain ⟨e, he, rfl⟩ := List.mem_map.mp hf
    obtain ⟨k, x, rfl, h⟩ := enum_mem he
    have hk := (List.getElem?_eq_some_iff.mp h).1
    show FltOr (ruF xs.length (k : Int).toNat x)
    exact ruF_or (by omega) x
end Pm
set_option Elab.async false
set_option linter.all false
set_option maxRecDepth 100000
set_option maxHeartbeats 1000000
set_option autoImplicit false
namespace Pm
open PySem PySem.Spec
open PyProof.Rows hiding St
open L2
structure Xc where
  c : Str
  f : Option (Str × D) := none
def XfAt (K : PySem.W.Frag) (Z : Hp) (c n : Str) (v : D) (fs : List (Str × V)) : Prop :=
  (n ≠ "path reason" ∧ ∃ w, fs = [(n, w)] ∧ At K Z v w) ∨ (c = "InvalidPanel" ∧ n = "path reason" ∧ ∃ d1 d2 w1 w2, v = .tup [d1, d2] ∧ fs = [(("reason" : Str), w2), (("path" : Str), w1)] ∧ At K Z d1 w1 ∧ At K Z d2 w2)
def ClsM (mg : Str → Option Value) (c : Str) (v : Value) : Prop := mg c = some v ∨ (mg c = none ∧ bootBuiltins c = some v)
theorem ClsM.own {mg : Str → Option Value} {c : Str} {v u : Value} (h : ClsM mg c v) (m : mg c = some u) : v = u := by
  rcases h with h | ⟨h, _⟩
  · rw [m] at h; exact (Option.some.inj h).symm
  · rw [m] at h; cases h
theorem ClsM.one {mg : Str → Option Value} {c : Str} {v u : Value} (h : ClsM mg c v) (g : ClsM mg c u) : v = u := by
  rcases g with g | ⟨g, g2⟩
  · exact h.own g
  · rcases h with h | ⟨_, h⟩
    · rw [g] at h; cases h
    · rw [g2] at h; exact (Option.some.inj h).symm
def XcAt (K : PySem.W.Frag) (mg : Str → Option Value) (Z : Hp) (x : Xc) (cls : Value) (d : Option Addr) : Prop :=
  ClsM mg x.c cls ∧ match x.f with
  | none => d = none
  | some (n, v) => ∃ a fs, d = some a ∧ Z a = some (.xd fs) ∧ XfAt K Z x.c n v fs
variable {γ : Type}
abbrev XW (γ : Type) := Xc → S γ → Prop
abbrev PSXx (γ : Type) := XW γ → PSx γ
abbrev PEXx (γ : Type) := XW γ → PEx γ
def lSX (G : GP γ) (mg : Str → Option Value) (W : WX) (t : PSXx γ) : TS := fun De σ H => ∃ F Z s E w, Rel G F Z s σ H ∧ t w E s ∧
  (∀ s' Z' σ' H', E.nx s' → Same Z Z' → Rel G F Z' s' σ' H' → De.nx σ' H') ∧
  (∀ d s' Z' σ' v H', E.rt d s'.g → Same Z Z' → Rel G F Z' s' σ' H' → At G.K Z' d v → De.rt v H') ∧
  (∀ s' Z' σ' H', E.bk s' → Same Z Z' → Rel G F Z' s' σ' H' → De.bk σ' H') ∧
  (∀ s' Z' σ' H', E.ct s' → Same Z Z' → Rel G F Z' s' σ' H' → De.ct σ' H') ∧
  (∀ x s' Z' σ' cls d H', w x s' → Same Z Z' → Rel G F Z' s' σ' H' → XcAt G.K mg Z' x cls d → W cls d σ' H')
def lEX (G : GP γ) (mg : Str → Option Value) (W : WX) (t : PEXx γ) : TE := fun σ H Q => ∃ F Z s R w, Rel G F Z s σ H ∧ t w s R ∧
  (∀ d s' Z' v H', R d s' → Same Z Z' → Rel G F Z' s' σ H' → At G.K Z' d v → Q v H') ∧
  (∀ x s' Z' cls d H', w x s' → Same Z Z' → Rel G F Z' s' σ H' → XcAt G.K mg Z' x cls d → W cls d σ H')
abbrev QSX (X : Cx) (G : GP γ) (W : WX) (st : Stmt) (t : PSXx γ) : Prop := PS X st (lSX G X.mg W t)
abbrev QSXs (X : Cx) (G : GP γ) (W : WX) (st : List Stmt) (t : PSXx γ) : Prop := PSs X st (lSX G X.mg W t)
abbrev QEX (X : Cx) (G : GP γ) (W : WX) (e : Expr) (t : PEXx γ) : Prop := PE X e (lEX G X.mg W t)
section
variable {X : Cx} {G : GP γ} {W : WX} {pos : Pos} {e : Expr}
def xs0 (t : PSx γ) : PSXx γ := fun _ => t
theorem qsx_of {st : Stmt} {t : PSx γ} (h : QS X G st t) : QSX X G W st (xs0 t) :=
  PS.imp h fun De σ H ⟨F, Z, s, E, w, r, t, n, rt, bk, ct, _⟩ => ⟨F, Z, s, E, r, t, n, rt, bk, ct⟩
theorem qssx_of {st : List Stmt} {t : PSx γ} (h : QSs X G st t) : QSXs X G W st (xs0 t) :=
  PSs.imp h fun De σ H ⟨F, Z, s, E, w, r, t, n, rt, bk, ct, _⟩ => ⟨F, Z, s, E, r, t, n, rt, bk, ct⟩
def xSeq (t u : PSXx γ) : PSXx γ := fun w => qSeq (t w) (u w)
theorem qssx_cons {st : Stmt} {rest : List Stmt} {t u : PSXx γ} (h1 : QSX X G W st t) (h2 : QSXs X G W rest u) : QSXs X G W (st :: rest) (xSeq t u) := by
  refine PSs.imp (pss_cons h1 h2) fun De σ H ⟨F, Z, s, E, w, r, t, n, rt, bk, ct, ex⟩ => ?_
  refine ⟨F, Z, s, _, w, r, t, fun s' Z' σ' H' u' k r' => ?_, rt, bk, ct, ex⟩
  exact ⟨F, Z', s', E, w, r', u', fun s2 Z2 σ2 H2 q k2 r2 => n s2 Z2 σ2 H2 q (k.trans k2) r2, fun d s2 Z2 σ2 v H2 q k2 r2 a2 => rt d s2 Z2 σ2 v H2 q (k.trans k2) r2 a2,
    fun s2 Z2 σ2 H2 q k2 r2 => bk s2 Z2 σ2 H2 q (k.trans k2) r2, fun s2 Z2 σ2 H2 q k2 r2 => ct s2 Z2 σ2 H2 q (k.trans k2) r2, fun x s2 Z2 σ2 c d H2 q k2 r2 a2 => ex x s2 Z2 σ2 c d H2 q (k.trans k2) r2 a2⟩
theorem qssx_one {st : Stmt} {t : PSXx γ} (h1 : QSX X G W st t) : QSXs X G W [st] t := pss_one h1
def xIf (c : PTx γ) (t u : PSXx γ) : PSXx γ := fun w => qIf c (t w) (u w)
theorem qsx_if {c : Expr} {a b : List Stmt} {tc : PTx γ} {t u : PSXx γ} (hc : QT X G c tc) (ha : QSXs X G W a t) (hb : QSXs X G W b u) : QSX X G W (.If c a b pos) (xIf tc t u) := by
  refine PS.imp (ps_if hc ha hb) fun De σ H ⟨F, Z, s, E, w, r, t, n, rt, bk, ct, ex⟩ => ?_
  refine ⟨F, Z, s, _, r, t, fun k s1 Z1 H1 t1 k1 r1 => ?_⟩
  have go : ∀ {t : PSXx γ}, t w E s1 → lSX G X.mg W t De σ H1 := fun {t} q => ⟨F, Z1, s1, E, w, r1, q, fun s2 Z2 σ2 H2 q k2 r2 => n s2 Z2 σ2 H2 q (k1.trans k2) r2, fun d s2 Z2 σ2 v H2 q k2 r2 a2 => rt d s2 Z2 σ2 v H2 q (k1.trans k2) r2 a2,
    fun s2 Z2 σ2 H2 q k2 r2 => bk s2 Z2 σ2 H2 q (k1.trans k2) r2, fun s2 Z2 σ2 H2 q k2 r2 => ct s2 Z2 σ2 H2 q (k1.trans k2) r2, fun x s2 Z2 σ2 c d H2 q k2 r2 a2 => ex x s2 Z2 σ2 c d H2 q (k1.trans k2) r2 a2⟩
  cases k with
  | true => exact iteT (go (t1.1 rfl))
  | false => exact iteF (go (t1.2 rfl))
structure Exq (K : PySem.W.Frag) (mg : Str → Option Value) (x : Str) : Prop where
  ex : ∃ C, mg x = some (.ref C) ∧ excAt K x = some C ∧ PySem.W.subIn K (.ref C) (.type "BaseException") = some true ∧ PySem.W.typeIn K (.ref C) = some (.type "type") ∧ ExcC K C
structure Exc0 (K : PySem.W.Frag) (mg : Str → Option Value) (x : Str) : Prop where
  ex : ∃ C, mg x = some (.ref C) ∧ excAt K x = some C ∧ PySem.W.excIn K C bVal "ValueError.__new__" = true ∧ PySem.W.keepIn K (.ref C) = true
structure Sub (K : PySem.W.Frag) (mg : Str → Option Value) (x y : Str) (b : Bool) : Prop where
  ex : ∃ C c, mg x = some (.ref C) ∧ clsV K y = some c ∧ ((∃ C', c = .ref C' ∧ mg y = some c) ∨ (∃ T, c = .type T ∧ mg y = none ∧ bootBuiltins y = some c)) ∧ PySem.W.kitOne K (.ref C) c = some b ∧ PySem.W.exmOne K (.ref C) c = some b
theorem excAt_mg {K : PySem.W.Frag} {mg : Str → Option Value} {h : Heap} (X : K.In h) (G : h.Ns mainGlobals mg) {x : Str} {C : Addr} (e : excAt K x = some C) : mg x = some (.ref C) := by
  unfold excAt at e
  split at e
  · rename_i C' e'
    cases e
    exact PySem.W.mg_of X G e'
  · cases e
theorem exq_ok {K : PySem.W.Frag} {mg : Str → Option Value} {h : Heap} (X : K.In h) (G : h.Ns mainGlobals mg) {x : Str} (c : excQB K x = true) : Exq K mg x := by
  unfold excQB at c
  cases e : excAt K x with
  | none => rw [e] at c; cases c
  | some C =>
    rw [e] at c
    simp only [Bool.and_eq_true, beq_iff_eq] at c
    obtain ⟨⟨⟨⟨⟨⟨⟨⟨c1, c2⟩, c3⟩, c4⟩, c5⟩, c6⟩, c7⟩, c8⟩, c9⟩ := c
    exact ⟨C, excAt_mg X G e, e, c1, c2, ⟨c3, c4, c1, c5, c6, c7, c8, c9⟩⟩
theorem exc0_ok {K : PySem.W.Frag} {mg : Str → Option Value} {h : Heap} (X : K.In h) (G : h.Ns mainGlobals mg) {x : Str} (c : exc0B K x = true) : Exc0 K mg x := by
  unfold exc0B at c
  cases e : excAt K x with
  | none => rw [e] at c; cases c
  | some C =>
    rw [e] at c
    simp only [Bool.and_eq_true] at c
    exact ⟨C, excAt_mg X G e, e, c.1, c.2⟩
theorem sub_ok {K : PySem.W.Frag} {mg : Str → Option Value} {h : Heap} (X : K.In h) (G : h.Ns mainGlobals mg) {x y : Str} {b : Bool} (c : subB K x y b = true) : Sub K mg x y b := by
  unfold subB at c
  cases e : excAt K x with
  | none => rw [e] at c; cases c
  | some C =>
    cases e2 : clsV K y with
    | none => rw [e, e2] at c; cases c
    | some v =>
      rw [e, e2] at c
      simp only [Bool.and_eq_true, beq_iff_eq] at c
      refine ⟨C, v, excAt_mg X G e, e2, ?_, c.1, c.2⟩
      unfold clsV at e2
      split at e2
      · rename_i C' e'
        cases e2
        exact .inl ⟨_, rfl, PySem.W.mg_of X G e'⟩
      · rename_i e'
        split at e2
        · rename_i T e3
          cases e2
          exact .inr ⟨_, rfl, PySem.W.mg_none_of X G e', e3⟩
        · cases e2
      · cases e2

theorem passLN {X : Cx} : Passes (L2N.CX X.prog X.w) X E0 := fun _ _ _ _ _ _ _ h => by
  obtain ⟨_, _, _, _, _, _, _, _, _, _, _, _, z⟩ := h
  exact z.elim
theorem takes0N {X : Cx} : L2N.Takes X (fun _ _ _ _ => False) := fun _ _ x => by
  obtain ⟨_, _, _, _, _, _, _, _, _, _, _, _, _, _, _, _, z⟩ := x
  exact z.elim
section
variable {X : Cx} {e : Expr} {es : List Expr} {p pos : Pos} {ta : TA}
theorem mk_endN {pins : List (Addr × Obj)} {σ : L2.St} {H1 H2 : Hp} {Q : XK} {hp hp2 h2 : Heap} {g1 g2 : Array GenState} {d1 d2 : Drawn} {t1 t2 : Nat} {os1 os2 : OsState} {a C d : Addr} {fs : List (Str × V)} (T : Raises X (.ref C)) (I1 : L2.Inv X pins σ H1 ⟨hp, g1, d1, t1, os1⟩)
    (ha : hp.objs.size ≤ a) (k : ∀ b o, hp.get? b = some o → hp2.get? b = some o) (un : Un (frs X.stack) [] (upd H1 a (exo a C none)) H2 hp2 h2) (hok : HOk X.prog X.w H2 h2) (ho : os2 = os1) (hb : AllBare g2)
    (ea : H2 a = some (exo a C (some d))) (ed : H2 d = some (exd d fs)) (hd1 : H1 d = none) (q : Q (.ref C) (some d) (upd (L2.del H2 a) d (.xd fs))) : L2N.MkP X pins σ Q (.ref a) ⟨h2, g2, d2, t2, os2⟩ := by
  obtain ⟨t0, G, J, kG, ge, hoe, na⟩ := mk_end0 (d2 := d2) (t2 := t2) I1 ha k un hok ho hb ea ed hd1
  exact ⟨a, _, _, ⟨G, g2, d2, t2, os2⟩, _, .ref C, some d, rfl, J, kG, ge, hoe, ⟨rfl, rfl, fun vs e => by cases e; rfl⟩, rfl, rfl, na, rfl, hb, T, q⟩
end
theorem pmk_own0 {C : Addr} {bmB : List Value} {B newId initId : String} {x : Str} {p : Pos} (F : ExcBaseFacts B newId initId bmB) (q : PySem.W.excIn X.K C bmB newId = true) (gC : X.mg x = some (.ref C)) (kC : PySem.W.keepIn X.K (.ref C) = true) (r : Raises X (.ref C)) (hg : Gl X x)
    (hdb : (x == ("__debug__" : Str)) = false := by decide) : L2N.PMk X (.Call (.Name x p) [] [] pos) (fun _ H Q => Q (.ref C) none H) := by
  intro pins s σ H Q I h
  refine wpAny_Call_Name_kw (ld_glob I hg gC ?_ hdb)
  refine PySem.W.callWith_K0 I.kIn kC ?_
  show wpAny _ _ (call (.ref C) []) _ _ _
  obtain ⟨bm, N, nm, qn, bs, hdct, sn, sub, ab, col, dd, k0, k1, k2, k3, k5, mN, hC, hN, hni, T⟩ := exc_obj I.kIn q
  refine wpAny_call_exc_subT F T hC hN hni (fun h' e hm => ?_) (Nat.zero_le _)
  exact L2N.mk_of I hm r h (I.hok.gone hm.new)
def xRaise (x : Str) : PSXx γ := fun w _ s => w ⟨x, none⟩ s
theorem qsx_raise0 {x : Str} {p p2 : Pos} (hc : X.calm = true) (tk : L2N.Takes X W) (E : Exc0 X.K X.mg x) (Q : Exq X.K X.mg x) (hg : Gl X x) (hdb : (x == ("__debug__" : Str)) = false := by decide) :
    QSX X G W (.Raise (some (.Call (.Name x p) [] [] p2)) none pos) (xRaise x) := by
  obtain ⟨C, m1, e1, q1, k1⟩ := E.ex
  obtain ⟨C', m2, e2, s2, t2, _⟩ := Q.ex
  rw [e1] at e2
  cases e2
  refine PS.imp (L2N.ps_raise hc tk (pmk_own0 (pos := p2) (p := p) PySem.F.excBase_ValueError q1 m1 k1 (raises_own s2 t2) hg hdb)) fun De σ H ⟨F, Z, s, E, w, r, t, n, rt, bk, ct, ex⟩ => ?_
  exact ex _ s Z σ _ _ H t (Same.refl _) r ⟨.inl m1, rfl⟩
abbrev SpecX := List D → DK → (Xc → Prop) → Prop
def spPX (K : PySem.W.Frag) (mg : Str → Option Value) (f : SpecX) : Sp := fun vs H Q E => ∃ Z ds R W, Same Z H ∧ Ats K Z ds vs ∧ f ds R W ∧
  (∀ d Z' v H', R d → Same Z Z' → Same Z' H' → Same H H' → (∀ a o, Z' a = some o → Z a = none → H a = none) → At K Z' d v → Q v H') ∧
  ∀ x Z' cls d H', W x → Same Z Z' → Same Z' H' → Same H H' → (∀ a o, Z' a = some o → Z a = none → H a = none) → XcAt K mg Z' x cls d → E cls d H'
structure DefX (X : Cx) (x : Str) (n : Nat) (sp : Sp) : Prop where
  ex : ∃ f fd k ps, FnOk X.prog X.w X.K X.mg X.base (L2N.CX X.prog X.w) k f fd ps sp ∧ Room k X.A ∧ X.mg x = some (.ref f) ∧ PySem.W.keepIn X.K (.ref f) = true ∧ Binds X.K fd ps [] ∧ ps.length = n
def GloX (P : Program) (w : World) (K : PySem.W.Frag) (mg : Str → Option Value) (base : Heap) (x : Str) (n : Nat) (sp : Sp) (k : Nat) : Prop :=
  ∃ f fd ps, FnOk P w K mg base (L2N.CX P w) k f fd ps sp ∧ mg x = some (.ref f) ∧ PySem.W.keepIn K (.ref f) = true ∧ Binds K fd ps [] ∧ ps.length = n
theorem GloX.at {X : Cx} {x : Str} {n : Nat} {sp : Sp} {j k : Nat} (g : GloX X.prog X.w X.K X.mg X.base x n sp j) (hr : Room k X.A) (h : j ≤ k := by decide) : DefX X x n sp := by
  obtain ⟨f, fd, ps, F, m, kp, b, e⟩ := g
  exact ⟨f, fd, j, ps, F, hr.mono h, m, kp, b, e⟩
def qCallX (f : SpecX) (t : PAx γ) : PEXx γ := fun w s R => t s fun xs s1 => f xs (fun z => R z s1) (fun x => w x s1)
theorem qex_call {x : Str} {n : Nat} {f : SpecX} {es : List Expr} {t : PAx γ} {p : Pos} (d : DefX X x n (spPX G.K X.mg f)) (tk : L2N.Takes X W) (hg : Gl X x) (ha : QA X G (e :: es) t) (hdb : (x == ("__debug__" : Str)) = false := by decide) (he : starEach (e :: es) X.env = (false, eval e X.env) :: starEach es X.env := by rfl) (hpl : (backTo pos (starEach es X.env)).any (·.1) = false := by rfl) :
    QEX X G W (.Call (.Name x p) (e :: es) [] pos) (qCallX f t) := by
  obtain ⟨fa, fd, k, ps, F, hr, hm, hk, hb, _⟩ := d.ex
  refine PE.imp (L2.pe_callS F hr hg hm hk hb (fun σ => L2N.passAt tk σ) ha hdb he hpl) fun σ H Q ⟨F, Z, s, R, w, r, t, q, ex⟩ => ?_
  refine ⟨F, Z, s, _, r, t, fun xs s1 Z1 vs H1 t1 k1 r1 a1 => ?_⟩
  refine ⟨Z1, xs, _, _, r1.z, a1, t1, fun z Z3 v H3 t3 k3 z3 h3 n3 a3 => ?_, fun x Z3 cls d H3 t3 k3 z3 h3 n3 a3 => ?_⟩
  · exact q z s1 Z3 v H3 t3 (k1.trans k3) (r1.ext ⟨h3, k3, z3, n3⟩) a3
  · exact ex x s1 Z3 cls d H3 t3 (k1.trans k3) (r1.ext ⟨h3, k3, z3, n3⟩) a3
def xRet (t : PEXx γ) : PSXx γ := fun w E s => t w s fun d s1 => E.rt d s1.g
theorem qsx_ret {t : PEXx γ} (he : QEX X G W e t) : QSX X G W (.Return (some e) pos) (xRet t) := by
  refine PS.imp (ps_ret he) fun De σ H ⟨F, Z, s, E, w, r, t, _, rt, _, _, ex⟩ => ?_
  exact ⟨F, Z, s, _, w, r, t, fun d s1 Z1 v H1 t1 k1 r1 a1 => rt d s1 Z1 σ v H1 t1 k1 r1 a1, fun x s1 Z1 cls d H1 t1 k1 r1 a1 => ex x s1 Z1 σ cls d H1 t1 k1 r1 a1⟩
def xDrop (t : PEXx γ) : PSXx γ := fun w E s => t w s fun _ s1 => E.nx s1
theorem qsx_expr {t : PEXx γ} (he : QEX X G W e t) (hs : swapsWith e none pos.line X.env = pure false := by rfl) : QSX X G W (.Expr e pos) (xDrop t) := by
  refine PS.imp (ps_expr he hs) fun De σ H ⟨F, Z, s, E, w, r, t, n, _, _, _, ex⟩ => ?_
  exact ⟨F, Z, s, _, w, r, t, fun d s1 Z1 v H1 t1 k1 r1 a1 => n s1 Z1 σ H1 t1 k1 r1, fun x s1 Z1 cls d H1 t1 k1 r1 a1 => ex x s1 Z1 σ cls d H1 t1 k1 r1 a1⟩
end
section
variable {P : Program} {w : World} {K : PySem.W.Frag} {mg : Str → Option Value} {base : Heap}
theorem okPX {x qual : Str} {st : Stmt} {f : Addr} {fd : FuncData} {N ps : List Str} {k : Nat} (F : Fn K x qual st f fd) (S : FnScope N ps (defScope st)) {fs : SpecX} (len : ∀ ds R W, fs ds R W → ds.length = ps.length)
    (body : ∃ t : PSXx Unit, (∀ (cdv : Value) (A : Around) (outer : List Env) (s : Shared) (H : Hp) (E : XK), Room k (A.deeper (envOfC qual (defScope st) s.heap.objs.size f cdv)) →
      QSXs (cxOf (L2N.CX P w) P w K mg base N qual (defScope st) f cdv A outer s H E) (none0 K) (fun cls d _ H => E cls d H) (defBody st) t) ∧ ∀ ds R W, fs ds R W → t (fun x _ => W x) { nx := fun _ => R .non, rt := fun d _ => R d } ⟨startL N.length ds, ()⟩) : FnOk P w K mg base (L2N.CX P w) (k + 1) f fd ps (spPX K mg fs) := by
  refine FunD.ok F S (fun vs H Q E h => ?_) (fun cdv A outer s H vs Q E hr h => ?_)
  · obtain ⟨Z, ds, R, W, _, a, h, _⟩ := h
    rw [a.len]; exact len _ _ _ h
  · obtain ⟨t, hb, hp⟩ := body
    refine ⟨_, hb cdv A outer s H E hr, ?_⟩
    obtain ⟨Z, ds, R, W, k, a, h, q, ex⟩ := h
    have hl : ps.length ≤ N.length := by have := congrArg List.length S.pre; rw [List.length_take] at this; omega
    have hd := len _ _ _ h
    have nw : ∀ {Z' : Hp} {s' : Pm.S Unit} {σ' : St} {H' : Hp}, Rel (none0 K) ⟨H, fun b => H b ≠ none ∧ Z b = none, fun b hb => Option.ne_none_iff_exists'.mp hb.1⟩ Z' s' σ' H' → ∀ b o, Z' b = some o → Z b = none → H b = none := fun r' b o e n => by
      cases hb : H b with
      | none => rfl
      | some u => have := r'.zb b ⟨by rw [hb]; simp, n⟩; rw [e] at this; cases this
    refine ⟨⟨H, fun b => H b ≠ none ∧ Z b = none, fun b hb => Option.ne_none_iff_exists'.mp hb.1⟩, Z, _, _, _, ?_, hp ds R W h, ?_, ?_, ?_, ?_, ?_⟩
    · refine ⟨k, Same.refl _, fun b hb => hb.2, ?_, fun i d e => ?_, fun i l e ol => ?_, fun i j l m b n e1 o1 e2 => ?_, trivial, fun b z => False.elim z, fun b z => False.elim z, fun _ _ z => by cases z⟩
      · unfold L2.start startL
        simp only [List.length_append, List.length_map, List.length_replicate, a.len]
      · obtain ⟨d', e', v, h1, h2⟩ := start_at a e
        cases e'
        exact ⟨v, h1, h2⟩
      · obtain ⟨d', e', _⟩ := start_at a e
        subst e'; cases ol
      · obtain ⟨d', e', _⟩ := start_at a e1
        subst e'; cases o1
    · intro s' Z' σ' H' q' k' r'
      exact q .non Z' .non H' q' k' r'.z r'.f (nw r') rfl
    · intro d s' Z' σ' v H' q' k' r' a'
      exact q d Z' v H' q' k' r'.z r'.f (nw r') a'
    · intro s' Z' σ' H' q'; exact q'.elim
    · intro s' Z' σ' H' q'; exact q'.elim
    · intro x s' Z' σ' cls d H' q' k' r' a'
      exact ex x Z' cls d H' q' k' r'.z r'.f (nw r') a'
end
section
variable {X : Cx} {G : GP γ} {pos : Pos}
def GP.lo (G : GP γ) (Z : Hp) : GP γ := { G with fl := Z }
theorem Rel.lo {G : GP γ} {F : Fra} {Z : Hp} {s : S γ} {σ : St} {H : Hp} (r : Rel G F Z s σ H) : Rel (G.lo Z) F Z s σ H := ⟨r.z, r.f, r.zb, r.len, r.loc, r.ownL, r.injL, r.j, r.zf, r.ff, Same.refl _⟩
theorem Rel.hi {G : GP γ} {Z0 : Hp} (h0 : ∀ a, G.fl a = none) {F : Fra} {Z : Hp} {s : S γ} {σ : St} {H : Hp} (r : Rel (G.lo Z0) F Z s σ H) : Rel G F Z s σ H := ⟨r.z, r.f, r.zb, r.len, r.loc, r.ownL, r.injL, r.j, r.zf, r.ff, fun a o e => by rw [h0 a] at e; cases e⟩
abbrev clr (i : Nat) (s : S γ) : S γ := ⟨s.ρ.set i none, s.g⟩
theorem Rel.clr {G : GP γ} {F : Fra} {Z : Hp} {s : S γ} {σ : St} {H : Hp} (r : Rel G F Z s σ H) (i : Nat) : Rel G F Z (Pm.clr i s) (σ.set i none) H := by
  have get : ∀ {j : Nat} {l : L}, (s.ρ.set i none)[j]? = some (some l) → i ≠ j ∧ s.ρ[j]? = some (some l) := fun {j l} h => by
    by_cases e : i = j
    · subst e
      have hl : i < s.ρ.length := by
        have := (List.getElem?_eq_some_iff.mp h).1
        simpa using this
      rw [List.getElem?_set_self hl] at h; cases h
    · rw [List.getElem?_set_ne e] at h; exact ⟨e, h⟩
  refine ⟨r.z, r.f, r.zb, by simpa using r.len, fun j d h => ?_, fun j l h ol => ?_, fun j k l m a n h1 ol h2 om h3 h4 => ?_, r.j, r.zf, r.ff, r.fl⟩
  · obtain ⟨e, h⟩ := get h
    rw [List.getElem?_set_ne e]; exact r.loc j d h
  · obtain ⟨e, h⟩ := get h
    rw [List.getElem?_set_ne e]; exact r.ownL j l h ol
  · obtain ⟨e1, h1⟩ := get h1
    obtain ⟨e2, h2⟩ := get h2
    rw [List.getElem?_set_ne e1] at h3
    rw [List.getElem?_set_ne e2] at h4
    exact r.injL j k l m a n h1 ol h2 om h3 h4
structure Held (X : Cx) (K : PySem.W.Frag) (Z0 : Hp) (x : Xc) (a : Addr) (oe : Obj) (cls : Value) (d : Option Addr) : Prop where
  at_ : XcAt K X.mg Z0 x cls d
  z : Zc cls d oe
  f : ∃ vs, oe.data = .fields vs
def qTryAs (f : Str → Str → Option Bool) (y : Str) (i : Nat) (tb : PSXx γ) (ts : Xc → Addr → PSx γ) : PSx γ := fun E s =>
  tb (fun x s1 => f x.c y = some true ∧ ∀ a, ts x a { nx := fun s2 => E.nx (clr i s2), rt := E.rt, bk := fun s2 => E.bk (clr i s2), ct := fun s2 => E.ct (clr i s2) } ⟨s1.ρ.set i (some (.val (.obj a))), s1.g⟩) E s
inductive ClsA (X : Cx) : List Str → List Expr → List V → List Value → Prop
  | nil : ClsA X [] [] [] []
  | cons {y : Str} {p : Pos} {v : V} {c : Value} {ys : List Str} {es : List Expr} {vs : List V} {us : List Value} (h : PE X (.Name y p) (tC v)) (k : ClsV v c) (hc : X.mg y = some c ∨ (X.mg y = none ∧ bootBuiltins y = some c)) (hs : starEach (.Name y p :: es) X.env = (false, eval (.Name y p) X.env) :: starEach es X.env) (r : ClsA X ys es vs us) : ClsA X (y :: ys) (.Name y p :: es) (v :: vs) (c :: us)
theorem pe_cls {y : Str} {p : Pos} {c : Value} (hg : Gl X y) (h : (∃ C', c = .ref C' ∧ X.mg y = some c) ∨ (∃ T, c = .type T ∧ X.mg y = none ∧ bootBuiltins y = some c)) (hn : y ≠ "__name__" := by decide) (hd : (y == ("__debug__" : Str)) = false := by decide) :
    ∃ v, ClsV v c ∧ PE X (.Name y p) (tC v) := by
  rcases h with ⟨C, rfl, hm⟩ | ⟨T, rfl, hm, hv⟩
  · exact ⟨.ref C, .own C, pe_glob hg hm rfl hd⟩
  · exact ⟨.ty T, .ty T, pe_bltn hg hm hv rfl hn hd⟩
def isAny (f : Str → Str → Option Bool) (c : Str) : List Str → Option Bool
  | [] => some false
  | y :: ys => match f c y with
    | some true => some true
    | some false => isAny f c ys
    | none => none
theorem isAny_kit {X : Cx} {f : Str → Str → Option Bool} (tab : ∀ x y b, f x y = some b → Sub X.K X.mg x y b) {x : Str} {C : Addr} (hC : X.mg x = some (.ref C)) {ys : List Str} {es : List Expr} {vs : List V} {us : List Value} (h : ClsA X ys es vs us) : ∀ {b : Bool}, isAny f x ys = some b → PySem.W.kitAny X.K (.ref C) us = some b := by
  induction h with
  | nil => exact fun h => h
  | @cons y p v c ys es vs us h k hc hs r ih =>
    intro b hb
    unfold isAny at hb
    cases e : f x y with
    | none => rw [e] at hb; cases hb
    | some b' =>
      obtain ⟨C', c', m1, _, m2, k1, _⟩ := (tab x y b' e).ex
      rw [hC] at m1
      cases m1
      have ec : c' = c := by
        rcases m2 with ⟨_, _, m2⟩ | ⟨_, _, m2, m3⟩ <;> rcases hc with hc | ⟨hc, hb⟩
        · rw [m2] at hc; cases hc; rfl
        · rw [m2] at hc; cases hc
        · rw [m2] at hc; cases hc
        · rw [m3] at hb; cases hb; rfl
      subst ec
      rw [e] at hb
      cases b' with
      | true => exact kitAny_cons k1 (fun q => (by cases q)) (fun _ => by simpa using hb.symm)
      | false => exact kitAny_cons k1 (fun _ => ih hb) (fun q => (by cases q))
section
variable {f : Str → Str → Option Bool} {xq : List Str} {i : Nat} {Z0 : Hp} {x : Xc} {a : Addr} {oe : Obj} {cls : Value} {d : Option Addr} {pn : List (Addr × Obj)} {n : Str} {p p1 p2 : Pos}
def qXf (n : Str) (xf : List (Str × Str)) (i : Nat) (x : Xc) (a : Addr) : PEx γ := fun s R => s.ρ[i]? = some (some (.val (.obj a))) ∧ (x.c, n) ∈ xf ∧ ∃ v, x.f = some (n, v) ∧ R v s
structure Xfl (K : PySem.W.Frag) (mg : Str → Option Value) (x n : Str) : Prop where
  ex : ∃ C, mg x = some (.ref C) ∧ XfC K C ∧ PySem.W.findIn K (.ref C) n = some none
theorem qe_xf {m : Str} {xf : List (Str × Str)} {e : Expr} (h : Held X G.K Z0 x a oe cls d) (hx : ∀ q ∈ xf, Xfl X.K X.mg q.1 q.2) (hv : PE (X.suite a ((a, oe) :: pn)) e (tVar i)) (hb : attributeBase e m (X.suite a ((a, oe) :: pn)).env (eval e (X.suite a ((a, oe) :: pn)).env) = eval e (X.suite a ((a, oe) :: pn)).env := by rfl) (hpr : m ≠ "path reason" := by decide) :
    QE (X.suite a ((a, oe) :: pn)) (G.lo Z0) (.Attribute e m pos) (qXf m xf i x a) := by
  by_cases hm : (x.c, m) ∈ xf
  · obtain ⟨C, m1, T, no⟩ := (hx _ hm).ex
    have ec : cls = .ref C := by exact h.at_.1.own m1
    refine PE.imp (pe_xf T no h.z h.f hv hb) fun σ H Q ⟨F, Z, s, R, r, t, q⟩ => ?_
    obtain ⟨t1, _, v, t2, t3⟩ := t
    obtain ⟨w, h1, h2⟩ := r.loc i _ t1
    have h2 : w = .ref a := h2
    subst h2
    obtain ⟨_, h3⟩ := h.at_
    rw [t2] at h3
    obtain ⟨dd, fs, rfl, h4, h5⟩ := h3
    obtain ⟨_, w, rfl, h5⟩ | ⟨_, z, _⟩ := h5
    case inr => exact absurd z hpr
    have z1 := r.fl _ _ h4
    refine ⟨_, h1, rfl, ec, dd, [(m, w)], w, rfl, r.z _ _ z1, by simp, q v s Z w H t3 (Same.refl _) r (At.mono r.fl _ _ h5)⟩
  · exact ⟨fun pins s σ H Q I ⟨F, Z, s', R, r, t, q⟩ => absurd t.2.1 hm⟩
end
end
end Pm
namespace Pm
open PySem PySem.Spec
open PyProof.Rows hiding St
open L2
def lookT (l : List (Str × Str × Bool)) (x y : Str) : Option Bool := (l.find? fun q => q.1 == x && q.2.1 == y).map (·.2.2)
theorem lookT_ok {P : Str → Str → Bool → Prop} {L l : List (Str × Str × Bool)} (h : ∀ q ∈ L, P q.1 q.2.1 q.2.2) (c : l.all (fun q => L.contains q) = true) : ∀ x y b, lookT l x y = some b → P x y b := by
  intro x y b e
  unfold lookT at e
  obtain ⟨q, e1, rfl⟩ := Option.map_eq_some_iff.mp e
  have h1 := List.find?_some e1
  have h2 := List.mem_of_find?_eq_some e1
  simp only [Bool.and_eq_true, beq_iff_eq] at h1
  obtain ⟨rfl, rfl⟩ := h1
  have := List.all_eq_true.mp c q h2
  exact h q (List.contains_iff_mem.mp this)
theorem sub_all {α : Type} [BEq α] [LawfulBEq α] {P : α → Prop} {L l : List α} (h : ∀ q ∈ L, P q) (c : l.all (fun q => L.contains q) = true) : ∀ q ∈ l, P q := fun q hq =>
  h q (List.contains_iff_mem.mp (List.all_eq_true.mp c q hq))
theorem xfl_ok {K : PySem.W.Frag} {mg : Str → Option Value} {h : Heap} (X : K.In h) (G : h.Ns mainGlobals mg) {q : Str × Str} (c : xflB K q = true) : Xfl K mg q.1 q.2 := by
  unfold xflB at c
  cases e : excAt K q.1 with
  | none => rw [e] at c; cases c
  | some C =>
    rw [e] at c
    obtain ⟨c1, c2⟩ := Bool.and_eq_true_iff.mp c
    exact ⟨C, excAt_mg X G e, xfB_ok c1, of_decide_eq_true c2⟩
structure Excs (K : PySem.W.Frag) (mg : Str → Option Value) (x0 xq : List Str) (sub : List (Str × Str × Bool)) (xf : List (Str × Str)) : Prop where
  x0 : ∀ z ∈ x0, Exc0 K mg z
  xq : ∀ z ∈ xq, Exq K mg z
  sub : ∀ q ∈ sub, Sub K mg q.1 q.2.1 q.2.2
  xf : ∀ q ∈ xf, Xfl K mg q.1 q.2
theorem excs_ok {K : PySem.W.Frag} {mg : Str → Option Value} {h : Heap} (X : K.In h) (G : h.Ns mainGlobals mg) {x0 xq : List Str} {sub : List (Str × Str × Bool)} {xf : List (Str × Str)} (c : excsB K x0 xq sub xf = true) : Excs K mg x0 xq sub xf := by
  unfold excsB at c
  simp only [Bool.and_eq_true, List.all_eq_true] at c
  obtain ⟨c1, c2, c3, c4⟩ := c
  exact ⟨fun z hz => exc0_ok X G (c1 z hz), fun z hz => exq_ok X G (c2 z hz), fun q hq => sub_ok X G (c3 q hq), fun q hq => xfl_ok X G (c4 q hq)⟩
end Pm
namespace Pm
open PySem PySem.Spec
open PyProof.Rows hiding St
open L2
end Pm
namespace Pm
open PySem PySem.Spec
open PyProof.Rows hiding St
open L2
variable {γ : Type}
def xRaiseF (x n : Str) (te : PEx γ) : PSXx γ := fun w _ s => te s fun d s1 => w ⟨x, some (n, d)⟩ s1
end Pm
set_option Elab.async false
set_option linter.all false
set_option maxRecDepth 100000
set_option maxHeartbeats 1000000
set_option autoImplicit false
namespace Pm
open PySem PySem.Spec
open PyProof.Rows hiding St
open L2
theorem pick3 {a b c : Int} {lo hi : Int} {k : Int} (k0 : 0 ≤ k) (k1 : k < 3) (ha : lo ≤ a ∧ a ≤ hi) (hb : lo ≤ b ∧ b ≤ hi) (hc : lo ≤ c ∧ c ≤ hi) : ∃ m : Int, idx [D.int a, .int b, .int c] k = some (.int m) ∧ lo ≤ m ∧ m ≤ hi := by
  have hi : k = 0 ∨ k = 1 ∨ k = 2 := by omega
  rcases hi with rfl | rfl | rfl
  · exact ⟨a, rfl, ha⟩
  · exact ⟨b, rfl, hb⟩
  · exact ⟨c, rfl, hc⟩
end Pm
set_option Elab.async false
set_option linter.all false
set_option maxRecDepth 100000
set_option maxHeartbeats 1000000
set_option autoImplicit false
namespace Pm
open PySem PySem.Spec
open L2
abbrev Arcs := List (Int × Int)
abbrev Path := List (Nat × Int)
def Res (arcs : Arcs) (fl : List Int) (c : Option Int) (u v : Int) (j : Nat) (s : Int) : Prop :=
  c ≠ some (j : Int) ∧ ((s = 1 ∧ arcs[j]? = some (u, v)) ∨ (s = -1 ∧ arcs[j]? = some (v, u) ∧ 0 < fl.getD j 0))
inductive PathR (arcs : Arcs) (fl : List Int) (c : Option Int) (a : Int) : Path → Int → Prop where
  | nil : PathR arcs fl c a [] a
  | snoc {p : Path} {u v : Int} {j : Nat} {s : Int} : PathR arcs fl c a p u → Res arcs fl c u v j s → PathR arcs fl c a (p ++ [(j, s)]) v
section
variable {arcs : Arcs} {fl fl' : List Int} {c : Option Int} {a g : Int} {p : Path} {U : Int → Prop}
theorem Res.ends {u v : Int} {j : Nat} {s : Int} (h : Res arcs fl c u v j s) : ∃ x y, arcs[j]? = some (x, y) ∧ ((x = u ∧ y = v) ∨ (x = v ∧ y = u)) := by
  rcases h.2 with ⟨_, e⟩ | ⟨_, e, _⟩
  · exact ⟨u, v, e, .inl ⟨rfl, rfl⟩⟩
  · exact ⟨v, u, e, .inr ⟨rfl, rfl⟩⟩
end

end Pm
set_option Elab.async false
set_option linter.all false
set_option maxRecDepth 100000
set_option maxHeartbeats 1000000
set_option autoImplicit false
namespace Pm
open PySem PySem.Spec
open L2
abbrev BS := List (Int × Path) × List Int
def lookO : List (Int × Path) → Int → Option Path
  | [], _ => none
  | (j, p) :: r, k => if j = k then some p else lookO r k
def look (kds : List (Int × Path)) (k : Int) : Path := (lookO kds k).getD []
theorem lookO_mem : ∀ {kds : List (Int × Path)} {k : Int} {p : Path}, lookO kds k = some p → (k, p) ∈ kds
  | [], _, _, h => by cases h
  | (j, q) :: r, k, p, h => by
    simp only [lookO] at h
    split at h
    · rename_i e; cases h; subst e; simp
    · exact List.mem_cons_of_mem _ (lookO_mem h)
theorem lookO_has : ∀ {kds : List (Int × Path)} {k : Int}, k ∈ kds.map (·.1) → ∃ p, lookO kds k = some p
  | [], _, h => by cases h
  | (j, q) :: r, k, h => by
    simp only [lookO]
    by_cases e : j = k
    · exact ⟨q, by rw [if_pos e]⟩
    · rw [if_neg e]
      exact lookO_has (by simp only [List.map_cons, List.mem_cons] at h; exact h.resolve_left fun z => e z.symm)
theorem look_mem {kds : List (Int × Path)} {k : Int} (h : k ∈ kds.map (·.1)) : lookO kds k = some (look kds k) ∧ (k, look kds k) ∈ kds := by
  obtain ⟨p, e⟩ := lookO_has h
  have : look kds k = p := by unfold look; rw [e]; rfl
  rw [this]; exact ⟨e, lookO_mem e⟩
def bfAdd (st : BS) (node v : Int) (j : Nat) (s : Int) : BS := (st.1 ++ [(v, look st.1 node ++ [(j, s)])], st.2 ++ [v])
structure BI (arcs : Arcs) (fl : List Int) (c : Option Int) (a : Int) (st : BS) : Prop where
  me : a ∈ st.1.map (·.1)
  nd : (st.1.map (·.1)).Nodup
  pt : ∀ q ∈ st.1, PathR arcs fl c a q.2 q.1 ∧ (q.2.map (·.1)).Nodup ∧ ∀ j ∈ q.2.map (·.1), ∃ x y, arcs[j]? = some (x, y) ∧ x ∈ st.1.map (·.1) ∧ y ∈ st.1.map (·.1)
  wk : ∀ v ∈ st.2, v ∈ st.1.map (·.1)
  ks : ∀ v ∈ st.1.map (·.1), v ∈ a :: (arcs.map (·.1) ++ arcs.map (·.2))
  wl : st.2.length ≤ st.1.length
theorem BI.add {arcs : Arcs} {fl : List Int} {c : Option Int} {a : Int} {st : BS} {node v : Int} {j : Nat} {s : Int} (h : BI arcs fl c a st) (hn : node ∈ st.1.map (·.1)) (r : Res arcs fl c node v j s) (hv : v ∉ st.1.map (·.1)) : BI arcs fl c a (bfAdd st node v j s) := by
  obtain ⟨_, hm⟩ := look_mem hn
  obtain ⟨h1, h2, h3⟩ := h.pt _ hm
  have eK : (bfAdd st node v j s).1.map (·.1) = st.1.map (·.1) ++ [v] := by simp [bfAdd]
  have sub : ∀ x, x ∈ st.1.map (·.1) → x ∈ (bfAdd st node v j s).1.map (·.1) := fun x hx => by rw [eK]; exact List.mem_append.mpr (.inl hx)
  have hv' : v ∈ (bfAdd st node v j s).1.map (·.1) := by rw [eK]; simp
  obtain ⟨x, y, e, k⟩ := r.ends
  refine ⟨sub _ h.me, ?_, fun q hq => ?_, fun u hu => ?_, fun u hu => ?_, ?_⟩
  · rw [eK]
    exact List.nodup_append.mpr ⟨h.nd, by simp, fun x hx y hy => by rw [List.mem_singleton.mp hy]; exact fun z => hv (z ▸ hx)⟩
  · rcases List.mem_append.mp hq with hq | hq
    · obtain ⟨g1, g2, g3⟩ := h.pt q hq
      refine ⟨g1, g2, fun i hi => ?_⟩
      obtain ⟨x, y, e, k1, k2⟩ := g3 i hi
      exact ⟨x, y, e, sub _ k1, sub _ k2⟩
    · rw [List.mem_singleton.mp hq]
      refine ⟨h1.snoc r, ?_, fun i hi => ?_⟩
      · rw [List.map_append]
        refine List.nodup_append.mpr ⟨h2, by simp, fun i hi i' hi' z => ?_⟩
        simp only [List.map_cons, List.map_nil, List.mem_singleton] at hi'
        subst z; subst hi'
        obtain ⟨x', y', e', k1, k2⟩ := h3 _ hi
        rw [e] at e'; cases e'
        rcases k with ⟨rfl, rfl⟩ | ⟨rfl, rfl⟩
        · exact hv k2
        · exact hv k1
      · rw [List.map_append, List.mem_append] at hi
        rcases hi with hi | hi
        · obtain ⟨x, y, e, k1, k2⟩ := h3 i hi
          exact ⟨x, y, e, sub _ k1, sub _ k2⟩
        · simp only [List.map_cons, List.map_nil, List.mem_singleton] at hi
          subst hi
          refine ⟨x, y, e, ?_⟩
          rcases k with ⟨rfl, rfl⟩ | ⟨rfl, rfl⟩
          · exact ⟨sub _ hn, hv'⟩
          · exact ⟨hv', sub _ hn⟩
  · rcases List.mem_append.mp hu with hu | hu
    · exact sub _ (h.wk u hu)
    · rw [List.mem_singleton.mp hu]; exact hv'
  · rw [eK, List.mem_append] at hu
    rcases hu with hu | hu
    · exact h.ks u hu
    · rw [List.mem_singleton.mp hu]
      have hma := List.mem_of_getElem? e
      refine List.mem_cons_of_mem _ (List.mem_append.mpr ?_)
      rcases k with ⟨rfl, rfl⟩ | ⟨rfl, rfl⟩
      · exact .inr (List.mem_map_of_mem (f := (·.2)) hma)
      · exact .inl (List.mem_map_of_mem (f := (·.1)) hma)
  · have := h.wl
    simp only [bfAdd, List.length_append, List.length_singleton]; omega
structure Grow (st st' : BS) : Prop where
  ln : st'.1.length + st.2.length = st.1.length + st'.2.length
  sb : ∀ v, v ∈ st.1.map (·.1) → v ∈ st'.1.map (·.1)
  nw : ∀ v, v ∈ st'.1.map (·.1) → v ∈ st.1.map (·.1) ∨ v ∈ st'.2
  sw : ∀ v, v ∈ st.2 → v ∈ st'.2
theorem Grow.add (st : BS) (node v : Int) (j : Nat) (s : Int) : Grow st (bfAdd st node v j s) := by
  refine ⟨by simp only [bfAdd, List.length_append, List.length_singleton]; omega, fun x hx => ?_, fun x hx => ?_, fun x hx => List.mem_append.mpr (.inl hx)⟩
  · simp only [bfAdd, List.map_append, List.mem_append]; exact .inl hx
  · simp only [bfAdd, List.map_append, List.map_cons, List.map_nil, List.mem_append, List.mem_singleton] at hx ⊢
    rcases hx with hx | hx
    · exact .inl hx
    · exact .inr (.inr hx)
end Pm
set_option Elab.async false
set_option linter.all false
set_option maxRecDepth 100000
set_option maxHeartbeats 1000000
set_option autoImplicit false
namespace Pm
open PySem PySem.Spec
open L2
theorem eqv_int {i j : Int} : D.eqv (.int i) (.int j) = decide (i = j) := by simp [D.eqv]; rfl
end Pm
set_option Elab.async false
set_option linter.all false
set_option maxRecDepth 100000
set_option maxHeartbeats 1000000
set_option autoImplicit false
namespace Pm
open PySem PySem.Spec
open PyProof.Rows hiding St
open L2
def eqED : D → D → DK → Prop
  | .tup xs, .tup [], R => R (.bl xs.isEmpty)
  | _, _, _ => False
theorem o_eqE {X : Cx} {k : Nat} (hr : Room k X.A) : OpR X (compareOp .Eq) (dOp2 X.K eqED) := by
  intro pins s σ H x y v u Q I rx ry ⟨Z, d, e, R, k, ad, ae, h, q⟩
  cases d <;> try exact h.elim
  cases e <;> try exact h.elim
  rename_i xs ys
  cases ys with
  | cons _ _ => exact h.elim
  | nil =>
    simp only [At, Ats] at ad ae
    obtain ⟨a, vs, rfl, h2, h3⟩ := ad
    obtain ⟨b, ws, rfl, g2, rfl⟩ := ae
    cases rx
    cases ry
    obtain ⟨its, rv, it1, _⟩ := I.tuple (seqT k h2)
    obtain ⟨its2, rv2, it2, _⟩ := I.tuple (seqT k g2)
    cases rv2
    have ln : its.length = xs.length := by rw [← rv.length, h3.len]
    have un := hr.un
    refine SeqAt.RcAt.tuples (A := X.A) (e := fun _ => true) it1 it2 (by omega) (fun j h1 h2 => by simp at h2) X.prog X.w X.xe _ ?_
    have e : ((List.range (min its.toArray.size ([] : List Value).toArray.size)).all (fun _ => true) && its.toArray.size == ([] : List Value).toArray.size) = xs.isEmpty := by
      have : (its.length == 0) = xs.isEmpty := by rw [ln]; cases xs <;> rfl
      simp only [List.size_toArray, List.length_nil, Nat.min_zero, List.range_zero, List.all_nil, Bool.true_and]
      rw [this]
    rw [e]
    exact ⟨.bl _, H, I, rfl, dk q k h rfl⟩
end Pm
set_option Elab.async false
set_option linter.all false
set_option maxRecDepth 100000
set_option maxHeartbeats 1000000
set_option autoImplicit false
namespace Pm
open PySem PySem.Spec
open L2
def IntD (D : Nat) (x : Rat) : Prop := ∃ n : Int, (n : Rat) = x * ((D : Int) : Rat)
theorem IntD.add {D : Nat} {x y : Rat} (h : IntD D x) (k : IntD D y) : IntD D (x + y) := by
  obtain ⟨a, ha⟩ := h; obtain ⟨b, hb⟩ := k
  exact ⟨a + b, by rw [Rat.intCast_add, ha, hb]; grind⟩
end Pm
set_option Elab.async false
set_option linter.all false
set_option maxRecDepth 100000
set_option maxHeartbeats 1000000
set_option autoImplicit false
namespace Pm
open PySem PySem.Spec
open PyProof.Rows hiding St
open L2
section
variable {γ : Type} {G : GP γ} {F : Fra} {Z : Hp} {s : S γ} {σ : St} {H : Hp}
theorem Rel.writeB (r : Rel G F Z s σ H) {a : Addr} (ha : G.foot s.g a) (o : HO) {g' : γ} (j : G.J g' Z (upd H a o)) (hf : ∀ b, G.foot g' b → G.foot s.g b) : Rel G F Z ⟨s.ρ, g'⟩ σ (upd H a o) := by
  refine ⟨fun b u e => ?_, fun b u e => ?_, r.zb, r.len, r.loc, fun i l h ol => ?_, r.injL, j, fun b h => r.zf b (hf b h), fun b h => r.ff b (hf b h), r.fl⟩
  · have n : b ≠ a := fun z => by rw [z, r.zf a ha] at e; cases e
    rw [upd_ne n]; exact r.z _ _ e
  · have n : b ≠ a := fun z => by rw [z, r.ff a ha] at e; cases e
    rw [upd_ne n]; exact r.f _ _ e
  · obtain ⟨b, vs, h1, h2, h3, h4, h5, h6⟩ := r.ownL i l h ol
    have n : b ≠ a := fun z => h6 (by rw [z]; exact ha)
    exact ⟨b, vs, h1, by rw [upd_ne n]; exact h2, h3, h4, h5, fun h => h6 (hf b h)⟩
end
end Pm
set_option Elab.async false
set_option linter.all false
set_option maxRecDepth 100000
set_option maxHeartbeats 3200000
set_option autoImplicit false
namespace Pm
open PySem PySem.Spec PySem.W
open PyProof.Rows hiding St
open L2
abbrev K3 := Int × Int × Int
def nk (k : K3) : NestedKey := .tup [.num k.1, .tup [.num k.2.1, .num k.2.2]]
theorem nk_inj {k q : K3} (h : nk k = nk q) : k = q := by
  obtain ⟨a, b, c⟩ := k
  obtain ⟨a', b', c'⟩ := q
  unfold nk at h
  injection h with h
  injection h with h1 h2
  injection h1 with h1
  injection h2 with h2 _
  injection h2 with h2
  injection h2 with h2 h3
  injection h2 with h2
  injection h3 with h3 _
  injection h3 with h3
  simp only at h1 h2 h3
  rw [h1, h2, h3]
theorem nk_dec (k q : K3) : NestedKey.beq (nk k) (nk q) = decide (k = q) := by
  rw [← NestedKey.decide_eq]
  by_cases c : k = q
  · rw [decide_eq_true c, decide_eq_true (by rw [c])]
  · rw [decide_eq_false c, decide_eq_false fun e => c (nk_inj e)]
@[irreducible] def hk3 (w : World) (k : K3) : Int := (nk k).hash w
def Is3 (h : Heap) (k : K3) (a : Addr) : Prop := ∃ (b : Addr) (t t1 t2 : Tok), h.IsTuple a #[.int k.1 t, .ref b] ∧ h.IsTuple b #[.int k.2.1 t1, .int k.2.2 t2]
theorem Is3.nest {h : Heap} {k : K3} {a : Addr} (x : Is3 h k a) : NestedIs h (nk k) (.ref a) := by
  obtain ⟨b, t, t1, t2, ⟨o, g, c, n, d⟩, ⟨o', g', c', n', d'⟩⟩ := x
  exact .tup g c d (.cons (.int _ t) (.cons (.tup g' c' d' (.cons (.int _ t1) (.cons (.int _ t2) .nil))) .nil))
theorem tup_stay {h h' : Heap} {a : Addr} {vs : Array Value} (x : h.IsTuple a vs) (k : ∀ b o, h.get? b = some o → o.cls = .type "tuple" → h'.get? b = some o) : h'.IsTuple a vs := by
  obtain ⟨o, g, c, r⟩ := x
  exact ⟨o, k a o g c, c, r⟩
theorem Is3.stay {h h' : Heap} {k : K3} {a : Addr} (x : Is3 h k a) (kp : ∀ b o, h.get? b = some o → o.cls = .type "tuple" → h'.get? b = some o) : Is3 h' k a := by
  obtain ⟨b, t, t1, t2, x1, x2⟩ := x
  exact ⟨b, t, t1, t2, tup_stay x1 kp, tup_stay x2 kp⟩
section
variable {P : Program} {w : World} {A : Around} {E : Value → Shared → Prop} {s : Shared}
theorem Is3.eq {k q : K3} {a b : Addr} {Q : Bool → Shared → Prop} (x : Is3 s.heap k a) (y : Is3 s.heap q b) (hu : A.units + 8 < cLine) (h : Q (decide (k = q)) s) : wpAny (model P w) A (eqBool (.ref a) (.ref b)) Q E s :=
  eqAt_key (nk k) (nk q) A s _ _ x.nest y.nest (by simp only [nk, NestedKey.depth, NestedKey.depthAll]; omega) _ _ _ _ (by rw [nk_dec]; exact h)
theorem Is3.quiet {k : K3} {a : Addr} {Q : Bool → Shared → Prop} (x : Is3 s.heap k a) (h : Q true s) : wpAny (model P w) A (eqIsQuiet 8 (.ref a)) Q E s :=
  quiet_key (nk k) _ 8 s x.nest (by simp only [nk, NestedKey.depth, NestedKey.depthAll]; omega) A E Q h
theorem noCls_at {n : Nat} {a : Addr} {vs : Array Value} {Q : Bool → Shared → Prop} (x : s.heap.IsTuple a vs) (hv : ∀ v ∈ vs.toList, ∀ (A : Around) (E : Value → Shared → Prop) (Q : Bool → Shared → Prop), Q false s → wpAny (model P w) A (ofAClassStatement n v) Q E s) (h : Q false s) :
    wpAny (model P w) A (ofAClassStatement (n + 1) (.ref a)) Q E s := by
  obtain ⟨o, ho, hc, m, hd⟩ := x
  have hT : s.TypeIs (.ref a) "tuple" := ⟨o, ho, hc⟩
  unfold ofAClassStatement
  refine wpAny_bind (wpAny_typeOf hT ?_)
  dsimp only
  have e : (("tuple" : String) == "tuple") = true := by decide
  simp only [e, if_true, Bool.not_true, Bool.false_eq_true, if_false]
  try refine wpAny_bind (wpAny_pure ?_)
  try simp only [Bool.not_true, Bool.false_eq_true, if_false]
  show wpAny _ _ (seqItems? (.ref a) >>= _) _ _ s
  refine wpAny_bind (wpAny_seqItems ho hd ?_)
  dsimp only
  refine wpAny_bind ?_
  show wpAny _ _ (forIn vs _ _) _ _ s
  rw [← Array.forIn_toList]
  refine wpAny_forIn_list _ (fun rest r s' => r.1 = none ∧ s' = s ∧ ∀ v ∈ rest, v ∈ vs.toList) _ ?_ ?_ _ _ ⟨rfl, rfl, fun _ h => h⟩
  · rintro v rest r s' ⟨hr, rfl, hall⟩
    refine wpAny_bind (hv v (hall v (by simp)) _ _ _ ?_)
    simp only [Bool.false_eq_true, if_false]
    exact wpAny_pure ⟨rfl, rfl, fun u hu' => hall u (List.mem_cons_of_mem _ hu')⟩
  · rintro ⟨r1, r2⟩ s' ⟨hr, rfl, _⟩
    simp only at hr
    subst hr
    exact wpAny_pure h
theorem Is3.noCls {k : K3} {a : Addr} {Q : Bool → Shared → Prop} (x : Is3 s.heap k a) (h : Q false s) : wpAny (model P w) A (ofAClassStatement 8 (.ref a)) Q E s := by
  obtain ⟨b, t, t1, t2, x1, x2⟩ := x
  refine noCls_at x1 (fun v hv A E Q h => ?_) h
  simp only [List.mem_cons, List.not_mem_nil, or_false] at hv
  rcases hv with rfl | rfl
  · rw [ofAClass_int]; exact wpAny_pure h
  · refine noCls_at x2 (fun v hv A E Q h => ?_) h
    simp only [List.mem_cons, List.not_mem_nil, or_false] at hv
    rcases hv with rfl | rfl <;> (rw [ofAClass_int]; exact wpAny_pure h)
theorem byVal_at {n : Nat} {a : Addr} {vs : Array Value} {Q : Bool → Shared → Prop} (x : s.heap.IsTuple a vs) (hv : ∀ v ∈ vs.toList, ∀ (A : Around) (E : Value → Shared → Prop) (Q : Bool → Shared → Prop), Q true s → wpAny (model P w) A (hashByValue n v) Q E s) (h : Q true s) :
    wpAny (model P w) A (hashByValue (n + 1) (.ref a)) Q E s := by
  obtain ⟨o, ho, hc, m, hd⟩ := x
  have hT : s.TypeIs (.ref a) "tuple" := ⟨o, ho, hc⟩
  unfold hashByValue
  refine wpAny_bind (wpAny_specialOf hT F.slot_tuple_hash.lookup ?_)
  show wpAny _ _ (seqItems? (.ref a) >>= _) _ _ s
  refine wpAny_bind (wpAny_seqItems ho hd ?_)
  refine wpAny_bind ?_
  show wpAny _ _ (forIn vs _ _) _ _ s
  rw [← Array.forIn_toList]
  refine wpAny_forIn_list _ (fun rest r s' => r.1 = none ∧ s' = s ∧ ∀ v ∈ rest, v ∈ vs.toList) _ ?_ ?_ _ _ ⟨rfl, rfl, fun _ h => h⟩
  · rintro v rest r s' ⟨hr, rfl, hall⟩
    refine wpAny_bind (hv v (hall v (by simp)) _ _ _ ?_)
    simp only [Bool.not_true, Bool.false_eq_true, if_false]
    exact wpAny_pure ⟨rfl, rfl, fun u hu' => hall u (List.mem_cons_of_mem _ hu')⟩
  · rintro ⟨r1, r2⟩ s' ⟨hr, rfl, _⟩
    simp only at hr
    subst hr
    exact wpAny_pure h
theorem Is3.byVal {k : K3} {a : Addr} {Q : Bool → Shared → Prop} (x : Is3 s.heap k a) (h : Q true s) : wpAny (model P w) A (hashByValue 8 (.ref a)) Q E s := by
  obtain ⟨b, t, t1, t2, x1, x2⟩ := x
  refine byVal_at x1 (fun v hv A E Q h => ?_) h
  simp only [List.mem_cons, List.not_mem_nil, or_false] at hv
  rcases hv with rfl | rfl
  · rw [hashBy_int]; exact wpAny_pure h
  · refine byVal_at x2 (fun v hv A E Q h => ?_) h
    simp only [List.mem_cons, List.not_mem_nil, or_false] at hv
    rcases hv with rfl | rfl <;> (rw [hashBy_int]; exact wpAny_pure h)
theorem Is3.unseen {k : K3} {a : Addr} {Q : Bool → Shared → Prop} (x : Is3 s.heap k a) {ys : List Value} (hy : ∀ y ∈ ys, ∃ q c, y = Value.ref c ∧ Is3 s.heap q c) (h : Q false s) :
    wpAny (model P w) A (searchCouldBeSeen (.ref a) ys) Q E s := by
  unfold searchCouldBeSeen
  refine wpAny_bind ?_
  refine wpAny_forIn_list _ (fun rest r s' => r.1 = none ∧ s' = s ∧ ∀ y ∈ rest, ∃ q c, y = Value.ref c ∧ Is3 s.heap q c) _ ?_ ?_ _ _ ⟨rfl, rfl, hy⟩
  · rintro v rest r s' ⟨hr, rfl, hall⟩
    obtain ⟨q, c, rfl, hc⟩ := hall v List.mem_cons_self
    have go := fun u hu' => hall u (List.mem_cons_of_mem _ hu')
    dsimp only
    by_cases hv : (a == c || (carriedByValue (.ref a) && carriedByValue (.ref c))) = true
    · refine wp_if_pos hv (wpAny_pure ⟨rfl, rfl, go⟩)
    · refine wp_if_neg hv ?_
      refine wpAny_bind (x.quiet ?_)
      simp only [Bool.not_true, Bool.false_eq_true, if_false]
      refine wpAny_bind (hc.quiet ?_)
      simp only [Bool.not_true, Bool.false_eq_true, if_false]
      refine wpAny_bind (x.noCls ?_)
      simp only [Bool.false_eq_true, if_false]
      refine wpAny_bind (hc.noCls ?_)
      simp only [Bool.false_eq_true, if_false]
      exact wpAny_pure ⟨rfl, rfl, go⟩
  · rintro ⟨r1, r2⟩ s' ⟨hr, rfl, _⟩
    simp only at hr
    subst hr
    exact wpAny_pure h
end

def row3 (w : World) (p : Addr × K3) : Int × Value := (hk3 w p.2, .ref p.1)
structure Set3 (w : World) (h : Heap) (a : Addr) (L : List (Addr × K3)) (es : Array (Int × Value)) (ep : Nat) (t : SetTable) : Prop where
  ob : ∃ o, h.get? a = some o ∧ o.ExactSet ∧ o.data = .set es ep t
  rows : es.toList = L.map (row3 w)
  tab : TabOk t (L.map fun p => hk3 w p.2)
  nd : (L.map (·.2)).Nodup
  tup : ∀ p ∈ L, Is3 h p.2 p.1
  plain : t.plain = true
  led : w.params.followText "set-order" = true ∨ t.led = true
  room : L.length * 5 < t.mask * 3
  few : L.length < 64
theorem fits_of {t : SetTable} {hs : List Int} {n : Nat} (T : TabOk t hs) (hn : hs.length = n) (hm : n ≤ t.mask) : t.fits n = true := by
  have := T.sz
  unfold SetTable.fits SetTable.fill
  rw [T.dm, Bool.and_eq_true, beq_iff_eq, decide_eq_true_eq]
  show t.place.size = n ∧ t.place.size + 0 ≤ t.mask
  omega
section
variable {P : Program} {w : World} {A : Around} {E : Value → Shared → Prop} {s : Shared} {a : Addr} {L : List (Addr × K3)} {es : Array (Int × Value)} {ep : Nat} {t : SetTable}
theorem Set3.size (R : Set3 w s.heap a L es ep t) : es.size = L.length := by
  have h := congrArg List.length R.rows
  rwa [Array.length_toList, List.length_map] at h
theorem Set3.fits (R : Set3 w s.heap a L es ep t) : t.fits es.size = true := by
  have := R.room
  exact fits_of R.tab (by rw [List.length_map, R.size]) (by rw [R.size]; omega)
theorem Set3.entry (R : Set3 w s.heap a L es ep t) {i : Nat} {p : Addr × K3} (h : L[i]? = some p) : es[i]? = some (hk3 w p.2, Value.ref p.1) := by
  rw [← Array.getElem?_toList, R.rows, List.getElem?_map, h, Option.map_some, row3]
abbrev pth (m : Nat) (h : Int) : SetTable.Probe := runAt m (SetTable.bits h % (m + 1)) (SetTable.bits h)
theorem nth_dm (m : Nat) : ∀ (n : Nat) (p : SetTable.Probe), p.dummy = none → (nth m p n).dummy = none
  | 0, _, h => h
  | n + 1, p, h => nth_dm m n (adv m p) (by unfold adv; split <;> exact h)
theorem Set3.search (R : Set3 w s.heap a L es ep t) {x : Addr} {k : K3} (hx : Is3 s.heap k x) (hu : A.units + 8 < cLine) {K : Nat} (hKf : K < 10 * SetTable.turns t.mask)
    (hK : way t.mask (hk3 w k) K ∉ t.place.toList) (hb : ∀ c, c < K → way t.mask (hk3 w k) c ∈ t.place.toList) {Q : SetFound → Shared → Prop}
    (yes : k ∈ L.map (·.2) → Q (.there none) s) (no : k ∉ L.map (·.2) → Q (.free (way t.mask (hk3 w k) K) false) s) :
    ∀ (f c : Nat) (from_ : Option SetTable.Probe), from_.getD (t.probeStart (hk3 w k)) = nth t.mask (pth t.mask (hk3 w k)) c → c ≤ K → K - c < f →
      (∀ (i : Nat) p, L[i]? = some p → p.2 = k → ∃ c', c ≤ c' ∧ c' < K ∧ t.place.toList[i]? = some (way t.mask (hk3 w k) c')) →
      wpAny (model P w) A (setSearchFrom a (.ref x) (hk3 w k) true f from_) Q E s := by
  intro f
  induction f with
  | zero => intro c _ _ _ hf; exact absurd hf (Nat.not_lt_zero _)
  | succ f ih =>
    intro c from_ hst hc hf hre
    obtain ⟨o, ho, hex, hd⟩ := R.ob
    rw [setSearchFrom_succ]
    refine wpAny_bind (wpAny_setState_of ho hd R.fits ?_)
    dsimp only
    refine wp_if_neg (by unfold SetTable.gaveWay; rw [mask_odd R.tab.mok]; decide) ?_
    try refine wpAny_bind (wpAny_pure ?_)
    have sh : ∀ q, nth t.mask (nth t.mask (pth t.mask (hk3 w k)) c) q = nth t.mask (pth t.mask (hk3 w k)) (c + q) := fun q => (nth_add t.mask c _ q).symm
    have e1 : ∀ q, (nth t.mask (nth t.mask (pth t.mask (hk3 w k)) c) q).j = way t.mask (hk3 w k) (c + q) := fun q => congrArg SetTable.Probe.j (sh q)
    have hashAt : ∀ (i : Nat) p, L[i]? = some p → (es[i]?.map (·.1)).getD 0 = hk3 w p.2 := fun i p hp => by rw [R.entry hp, Option.map_some, Option.getD_some]
    have spec := go_spec t R.tab.ris R.tab.dm (fun i => (es[i]?.map (·.1)).getD 0) (hk3 w k) (10 * SetTable.turns t.mask) (K - c) _ (nth_dm t.mask c (pth t.mask (hk3 w k)) rfl) (by omega)
      (fun q hq => by rw [e1]; exact hb (c + q) (by omega)) (by rw [e1, show c + (K - c) = K by omega]; exact hK)
    rcases spec with ⟨q, i, hq, hi, hh, hno, hpr⟩ | ⟨hno, hpr⟩
    · have hpr' : t.probe (fun i => (es[i]?.map (·.1)).getD 0) (hk3 w k) (from_.getD (t.probeStart (hk3 w k))) = some (.candidate (way t.mask (hk3 w k) (c + q)) i (nth t.mask (pth t.mask (hk3 w k)) (c + (q + 1)))) := by
        rw [hst, ← e1, ← sh]; exact hpr
      rw [hpr']
      dsimp only
      rw [e1] at hi
      have hil : i < L.length := by
        have h1 : i < t.place.toList.length := (List.getElem?_eq_some_iff.mp hi).1
        have h2 := R.tab.sz
        rw [List.length_map] at h2
        rw [Array.length_toList] at h1
        omega
      have hp : L[i]? = some L[i] := List.getElem?_eq_getElem hil
      generalize L[i] = p at hp
      have hmem : p ∈ L := List.mem_of_getElem? hp
      have hsl : t.slot (way t.mask (hk3 w k) (c + q)) = .live i := slot_live R.tab.ris hi
      have rest : wpAny (model P w) A (searchRest a (.ref x) (hk3 w k) true f es t (way t.mask (hk3 w k) (c + q)) i (nth t.mask (pth t.mask (hk3 w k)) (c + (q + 1)))) Q E s := by
        unfold searchRest
        rw [R.entry hp]
        dsimp only
        refine wpAny_bind (wpAny_holding ((R.tup p hmem).eq hx hu ?_))
        refine wpAny_bind (wpAny_setState_of ho hd R.fits ?_)
        dsimp only
        by_cases hkk : p.2 = k
        · refine wp_if_pos (by simp [hkk]) ?_
          exact wpAny_pure (yes (List.mem_map.mpr ⟨p, hmem, hkk⟩))
        · refine wp_if_neg (by simp [hkk]) ?_
          try refine wpAny_bind (wpAny_pure ?_)
          rw [sameMem]
          dsimp only
          simp only [if_true, hsl, R.entry hp]
          refine wpAny_bind (wpAny_isSame_ref_self (wpAny_bind (wpAny_pure ?_)))
          simp only [if_true]
          refine wp_if_neg (by simp [hkk]) ?_
          refine ih (c + (q + 1)) _ rfl (by omega) (by omega) fun i0 p0 h0 hk0 => ?_
          obtain ⟨c', a1, a2, a3⟩ := hre i0 p0 h0 hk0
          refine ⟨c', ?_, a2, a3⟩
          rcases Nat.lt_trichotomy c' (c + q) with z | z | z
          · refine absurd ((hashAt i0 p0 h0).trans (congrArg (hk3 w) hk0)) (hno (c' - c) i0 (by omega) ?_)
            rw [e1, show c + (c' - c) = c' by omega]; exact a3
          · rw [z] at a3
            have s0 := slot_live R.tab.ris a3
            rw [hsl] at s0
            injection s0 with s0
            rw [← s0, hp] at h0
            exact absurd ((congrArg Prod.snd (Option.some.inj h0)).trans hk0) hkk
          · omega
      by_cases hl : t.led = true
      · refine wp_if_neg (by simp [hl]) ?_
        try refine wpAny_bind (wpAny_pure ?_)
        exact rest
      · refine wp_if_pos (by simp [hl]) ?_
        refine wpAny_bind (hx.unseen (fun y hy => ?_) ?_)
        · obtain ⟨e, he, ee⟩ := List.mem_map.mp hy
          have he1 : e ∈ es ∧ e.1 = hk3 w k := by simpa using he
          have he2 : e ∈ es.toList := by simpa using he1.1
          rw [R.rows] at he2
          obtain ⟨p2, hp2, e2⟩ := List.mem_map.mp he2
          exact ⟨p2.2, p2.1, by rw [← ee, ← e2]; rfl, R.tup p2 hp2⟩
        · refine wp_if_neg (by decide) ?_
          try refine wpAny_bind (wpAny_pure ?_)
          exact rest
    · have hpr' : t.probe (fun i => (es[i]?.map (·.1)).getD 0) (hk3 w k) (from_.getD (t.probeStart (hk3 w k))) = some (.empty (way t.mask (hk3 w k) K) none) := by
        have e2 : way t.mask (hk3 w k) K = (nth t.mask (nth t.mask (pth t.mask (hk3 w k)) c) (K - c)).j := by
          rw [e1, show c + (K - c) = K by omega]
        rw [hst, e2]; exact hpr
      rw [hpr']
      dsimp only
      refine wpAny_pure (no fun hm => ?_)
      obtain ⟨p0, h0, hk0⟩ := List.mem_map.mp hm
      obtain ⟨i0, hi0⟩ := List.mem_iff_getElem?.mp h0
      obtain ⟨c', a1, a2, a3⟩ := hre i0 p0 hi0 hk0
      refine absurd ((hashAt i0 p0 hi0).trans (congrArg (hk3 w) hk0)) (hno (c' - c) i0 (by omega) ?_)
      rw [e1, show c + (c' - c) = c' by omega]; exact a3
theorem Set3.find (R : Set3 w s.heap a L es ep t) {x : Addr} {k : K3} (hx : Is3 s.heap k x) (hu : A.units + 8 < cLine) {Q : SetFound → Shared → Prop}
    (yes : k ∈ L.map (·.2) → Q (.there none) s)
    (no : ∀ K, k ∉ L.map (·.2) → way t.mask (hk3 w k) K ∉ t.place.toList → (∀ c, c < K → way t.mask (hk3 w k) c ∈ t.place.toList) → Q (.free (way t.mask (hk3 w k) K) false) s) :
    wpAny (model P w) A (setSearch a (.ref x) (hk3 w k) true) Q E s := by
  have hroom := R.room
  obtain ⟨K, hKf, hK, hb⟩ := R.tab.first (by rw [List.length_map]; omega) (hk3 w k)
  have big : 10 * SetTable.turns t.mask ≤ 1420 := by
    unfold SetTable.turns
    rcases R.tab.mok with e | e | e <;> omega
  unfold setSearch
  refine R.search hx hu hKf hK hb yes (fun hn => no K hn hK hb) 100000 0 none rfl (Nat.zero_le _) (by omega) fun i p hp hk => ?_
  have hi : (L.map fun p => hk3 w p.2)[i]? = some (hk3 w k) := by rw [List.getElem?_map, hp, ← hk, Option.map_some]
  have hil : i < t.place.toList.length := by
    have h1 : i < L.length := (List.getElem?_eq_some_iff.mp hp).1
    have h2 := R.tab.sz
    rw [List.length_map] at h2
    rw [Array.length_toList]; omega
  have hj := List.getElem?_eq_getElem hil
  obtain ⟨c, hc, e⟩ := R.tab.before hK hi hj
  exact ⟨c, Nat.zero_le _, hc, by rw [hj, e]⟩
theorem Is3.but {h h' : Heap} {k : K3} {b : Addr} {o : Obj} (x : Is3 h k b) (ho : h.get? a = some o) (hc : o.ExactSet) (hs : Heap.SameBut a h h') : Is3 h' k b :=
  x.stay fun c o' g hc' => by
    refine (hs.2 c fun e => ?_).trans g
    subst e
    obtain rfl : o' = o := Option.some.inj (g.symm.trans ho)
    have e2 := hc.1
    rw [hc'] at e2
    injection e2 with e2
    exact absurd e2 (by decide)
theorem relay3 {o : Obj} (ho : s.heap.get? a = some o) (hex : o.ExactSet) (hd : o.data = .set es ep t) (hrows : es.toList = L.map (row3 w)) (T0 : TabOk t (L.map fun p => hk3 w p.2)) (hfl : L.length ≤ t.mask)
    (nd : (L.map (·.2)).Nodup) (tup : ∀ p ∈ L, Is3 s.heap p.2 p.1) (pl : t.plain = true) (ld : w.params.followText "set-order" = true ∨ t.led = true) (few : L.length < 64) {wanted M : Nat}
    (hw : SetTable.sizeAbove wanted - 1 = M) (hM : MaskOk M) (hw2 : SetTable.sizeAbove wanted ≤ 128) (hn : L.length * 5 < M * 3) {Q : Unit → Shared → Prop}
    (hQ : ∀ h' L' es' ep' t', Heap.SameBut a s.heap h' → Set3 w h' a L' es' ep' t' → L'.Perm L → Q () { s with heap := h' }) : wpAny (model P w) A (setRelay a wanted) Q E s := by
  have hsl : es.size = L.length := by
    have h := congrArg List.length hrows
    rwa [Array.length_toList, List.length_map] at h
  obtain ⟨t', order, e, hp, T, em, el, ep', ed⟩ := relaid_ok t (hs := es.map (·.1)) (wanted := wanted) hw hM (by rw [Array.size_map, hsl]; omega)
  rw [Array.size_map, hsl] at hp
  -- the rows in their new order
  obtain ⟨L2, e2⟩ : ∃ L2 : List (Addr × K3), L2 = order.toList.filterMap fun i => L[i]? := ⟨_, rfl⟩
  have ent : ∀ i, es[i]? = (L[i]?).map (row3 w) := fun i => by rw [← Array.getElem?_toList, hrows, List.getElem?_map]
  have r1 : (order.filterMap (es[·]?)).toList = L2.map (row3 w) := by
    have : order.toList.filterMap (fun i => es[i]?) = L2.map (row3 w) := by
      rw [e2, List.map_filterMap]
      exact congrArg (fun f => order.toList.filterMap f) (funext ent)
    first | (rw [Array.toList_filterMap]; exact this) | simpa using this
  have r2 : L2.Perm L := by
    have h1 : L2.Perm ((List.range L.length).filterMap fun i => L[i]?) := by rw [e2]; exact hp.filterMap _
    have key : ∀ n, n ≤ L.length → (List.range n).filterMap (fun i => L[i]?) = L.take n := by
      intro n
      induction n with
      | zero => intro _; rfl
      | succ n ih =>
        intro hn
        rw [List.range_succ, List.filterMap_append, ih (by omega), List.take_succ, List.getElem?_eq_getElem hn, List.filterMap_cons_some (List.getElem?_eq_getElem hn)]; rfl
    rwa [key L.length (Nat.le_refl _), List.take_length] at h1
  have r3 : (L2.map fun p => hk3 w p.2) = order.toList.map fun i => (es.map (·.1)).getD i 0 := by
    rw [e2]
    have key : ∀ l : List Nat, (∀ i ∈ l, i < L.length) → (l.filterMap fun i => L[i]?).map (fun p => hk3 w p.2) = l.map fun i => (es.map (·.1)).getD i 0 := by
      intro l
      induction l with
      | nil => intro _; rfl
      | cons i l ih =>
        intro hl
        have hi := hl i (by simp)
        rw [List.filterMap_cons_some (List.getElem?_eq_getElem hi), List.map_cons, List.map_cons, ih fun j hj => hl j (by simp [hj])]
        congr 1
        rw [Array.getD_eq_getD_getElem?, Array.getElem?_map, ent, List.getElem?_eq_getElem hi, Option.map_some, Option.map_some, Option.getD_some, row3]
    exact key _ fun i hi => List.mem_range.mp (hp.mem_iff.mp hi)
  rw [← r3] at T
  have hs2 : (order.filterMap (es[·]?)).size = es.size := by
    have h := congrArg List.length r1
    rw [Array.length_toList, List.length_map, r2.length_eq] at h
    rw [h, hsl]
  rw [setRelay_eq]
  refine wpAny_bind (wpAny_setState_of ho hd (fits_of T0 (by rw [List.length_map, hsl]) (by rw [hsl]; exact hfl)) ?_)
  dsimp only
  refine wp_if_neg (by rw [sizeLine_eq]; omega) ?_
  try refine wpAny_bind (wpAny_pure ?_)
  rw [e]
  dsimp only
  refine wpAny_bind ?_
  refine wp_if_neg (by rw [hs2]; simp) ?_
  try refine wpAny_bind (wpAny_pure ?_)
  refine wpAny_pure ?_
  dsimp only
  refine wpAny_storeSet_of ho hd ?_ (by rw [hs2, hsl, sizeLine_eq]; omega)
  have sb : Heap.SameBut a s.heap (s.heap.update a (Obj.putSet (order.filterMap (es[·]?)) t')) := Heap.SameBut.update ..
  refine hQ _ L2 (order.filterMap (es[·]?)) (ep + 1) t' sb ⟨⟨_, store_at ho hd, ⟨hex.1, hex.2.1, hex.2.2⟩, rfl⟩, r1, T, (r2.map (·.2)).nodup_iff.mpr nd, fun p hpm => (tup p (r2.mem_iff.mp hpm)).but ho hex sb, by rw [ep']; exact pl, by rw [el]; exact ld, by rw [r2.length_eq, em]; exact hn, by rw [r2.length_eq]; exact few⟩ r2
theorem Set3.add (R : Set3 w s.heap a L es ep t) {x : Addr} {k : K3} (hx : Is3 s.heap k x) (hu : A.units + 8 < cLine) (hfew : L.length + 1 < 64) {Q : Bool → Shared → Prop}
    (hQ : ∀ b h' L' es' ep' t', Heap.SameBut a s.heap h' → Set3 w h' a L' es' ep' t' → (k ∈ L.map (·.2) → L' = L) → (k ∉ L.map (·.2) → L'.Perm ((x, k) :: L)) → Q b { s with heap := h' }) :
    wpAny (model P w) A (setAddHashed a (.ref x) (hk3 w k)) Q E s := by
  obtain ⟨o, ho, hex, hd⟩ := R.ob
  have hsl := R.size
  have hroom := R.room
  unfold setAddHashed
  refine wpAny_holding ?_
  rw [show (100000 : Nat) = 99999 + 1 from rfl, setAddHashedIn_succ]
  refine wpAny_bind (wpAny_setState_of ho hd R.fits ?_)
  dsimp only
  refine wp_if_neg (by simp [byScan, Value.scannable]) ?_
  try refine wpAny_bind (wpAny_pure ?_)
  refine wpAny_bind (R.find hx hu (fun hm => ?_) fun K hm hK hb => ?_)
  · dsimp only
    exact wpAny_pure (hQ false s.heap L es ep t (Heap.SameBut.refl a s.heap) R (fun _ => rfl) fun z => absurd hm z)
  · dsimp only
    refine wpAny_bind (wpAny_setState_of ho hd R.fits ?_)
    dsimp only
    obtain ⟨q1, q2, q3, q4, q5, q6, q7, q8, q9⟩ := R.tab.put hK hb
    have hp1 : (t.put (way t.mask (hk3 w k) K)).1.plain = true := by rw [q6]; exact R.plain
    generalize t.put (way t.mask (hk3 w k) K) = pt at q1 q3 q4 q5 q6 q7 q8 q9 hp1 ⊢
    obtain ⟨t1, p⟩ := pt
    dsimp only at q1 q3 q4 q5 q6 q7 q8 q9 hp1 ⊢
    subst q1
    first
      | (refine wpAny_bind ?_; refine wp_if_pos hp1 ?_; refine hx.byVal ?_)
      | refine wp_if_pos hp1 (wpAny_bind (hx.byVal ?_))
    simp only [if_true]
    generalize SetTable.below t.place (way t.mask (hk3 w k) K) = p at q2 q3 ⊢
    have hin : (SetTable.insertAt es p (hk3 w k, Value.ref x)).toList = (L.take p ++ (x, k) :: L.drop p).map (row3 w) := by
      rw [SetTable.toList_insertAt, R.rows, List.map_append, List.map_cons, List.map_take, List.map_drop, row3]
    have pm : (L.take p ++ (x, k) :: L.drop p).Perm ((x, k) :: L) := put_perm L p (x, k)
    have hhs : (L.take p ++ (x, k) :: L.drop p).map (fun p => hk3 w p.2) = (L.map fun p => hk3 w p.2).take p ++ hk3 w k :: (L.map fun p => hk3 w p.2).drop p := by
      rw [List.map_append, List.map_cons, List.map_take, List.map_drop]
    rw [← hhs] at q3
    generalize L.take p ++ (x, k) :: L.drop p = L1 at pm q3 hin
    have hlen : L1.length = L.length + 1 := pm.length_eq
    have nd1 : (L1.map (·.2)).Nodup := by
      refine (pm.map (·.2)).nodup_iff.mpr ?_
      rw [List.map_cons]
      exact List.nodup_cons.mpr ⟨hm, R.nd⟩
    have hes : (SetTable.insertAt es p (hk3 w k, Value.ref x)).size = L.length + 1 := by
      have h := congrArg List.length hin
      rwa [Array.length_toList, List.length_map, hlen] at h
    generalize SetTable.insertAt es p (hk3 w k, Value.ref x) = es1 at hin hes ⊢
    refine wpAny_bind (wpAny_storeSet_of ho hd ?_ (by rw [hes, sizeLine_eq]; omega))
    have sb : Heap.SameBut a s.heap (s.heap.update a (Obj.putSet es1 t1)) := Heap.SameBut.update ..
    have ho1 := store_at (es' := es1) (t' := t1) ho hd
    generalize s.heap.update a (Obj.putSet es1 t1) = h1 at sb ho1 ⊢
    have tup1 : ∀ p ∈ L1, Is3 h1 p.2 p.1 := fun p hp => by
      rcases List.mem_cons.mp (pm.mem_iff.mp hp) with e | hp
      · rw [e]; exact hx.but ho hex sb
      · exact (R.tup p hp).but ho hex sb
    have ld1 : w.params.followText "set-order" = true ∨ t1.led = true := by rw [q5]; exact R.led
    by_cases hf : t1.tooFull = true
    · first
        | (refine wpAny_bind ?_; refine wp_if_pos (by simp [hf]) ?_)
        | (refine wp_if_pos (by simp [hf]) ?_; refine wpAny_bind ?_)
      have hfull : (L.length + 1) * 5 ≥ t1.mask * 3 := by
        have h := hf
        unfold SetTable.tooFull at h
        rw [decide_eq_true_eq, q9, List.length_map] at h
        exact h
      rw [hsl]
      have go : ∀ M, SetTable.sizeAbove (SetTable.grown (L.length + 1)) - 1 = M → MaskOk M → SetTable.sizeAbove (SetTable.grown (L.length + 1)) ≤ 128 → (L.length + 1) * 5 < M * 3 → L.length + 1 ≤ t1.mask →
          wpAny (model P w) A (setRelay a (SetTable.grown (L.length + 1))) (fun _ s' => wpAny (model P w) A (pure true) Q E s') E { s with heap := h1 } := fun M h1' h2' h3' h4' h5' => by
        refine relay3 (s := { s with heap := h1 }) ho1 ⟨hex.1, hex.2.1, hex.2.2⟩ rfl hin q3 (by rw [hlen]; exact h5') nd1 tup1 hp1 ld1 (by rw [hlen]; exact hfew) h1' h2' h3' (by rw [hlen]; exact h4') ?_
        intro h2 L2 es2 ep2 t2 sb2 R2 pm2
        exact wpAny_pure (hQ true h2 L2 es2 ep2 t2 (sb.trans sb2) R2 (fun z => absurd z hm) fun _ => pm2.trans pm)
      rcases R.tab.mok with e | e | e
      · have e2 : L.length = 4 := by rw [q4, e] at hfull; rw [e] at hroom; omega
        refine go 31 (by rw [e2, size_20]) (.inr (.inl rfl)) (by rw [e2, size_20]; decide) (by omega) (by rw [q4, e]; omega)
      · have e2 : L.length = 18 := by rw [q4, e] at hfull; rw [e] at hroom; omega
        refine go 127 (by rw [e2, size_76]) (.inr (.inr rfl)) (by rw [e2, size_76]; decide) (by omega) (by rw [q4, e]; omega)
      · exfalso; rw [q4, e] at hfull; omega
    · first
        | refine wp_if_neg (by simp [hf]) ?_
        | (refine wpAny_bind ?_; refine wp_if_neg (by simp [hf]) ?_; refine wpAny_pure ?_)
      refine wpAny_pure (hQ true h1 L1 es1 (ep + 1) t1 sb ⟨⟨_, ho1, ⟨hex.1, hex.2.1, hex.2.2⟩, rfl⟩, hin, q3, nd1, tup1, hp1, ld1, ?_, by rw [hlen]; exact hfew⟩ (fun z => absurd z hm) fun _ => pm)
      have h := hf
      unfold SetTable.tooFull at h
      rw [decide_eq_true_eq, q9, List.length_map] at h
      rw [hlen]; omega
end
end Pm
set_option Elab.async false
set_option linter.all false
set_option maxRecDepth 100000
set_option maxHeartbeats 1000000
set_option autoImplicit false
namespace Pm
open PySem PySem.Spec
open PyProof.Rows hiding St
open L2
inductive FV
  | val (d : D)
  | own (a : Addr) (ds : List D)
structure OB where
  o : Addr
  C : Addr
  dx : Addr
  fs : List (Str × FV)
def FvAt (K : PySem.W.Frag) (Z H : Hp) : FV → V → Prop
  | .val d, v => At K Z d v
  | .own a ds, v => v = .ref a ∧ ∃ us, H a = some (.lst us) ∧ Ats K Z ds us
def FvsAt (K : PySem.W.Frag) (Z H : Hp) : List (Str × FV) → List (Str × V) → Prop
  | [], vs => vs = []
  | (n, f) :: fs, vs => ∃ v r, vs = (n, v) :: r ∧ FvAt K Z H f v ∧ FvsAt K Z H fs r
def ownsF : List (Str × FV) → List Addr
  | [] => []
  | (_, .own a _) :: fs => a :: ownsF fs
  | (_, .val _) :: fs => ownsF fs
theorem ownsF_cons {n : Str} {f : FV} {fs : List (Str × FV)} {a : Addr} (h : a ∈ ownsF fs) : a ∈ ownsF ((n, f) :: fs) := by
  cases f with
  | val d => exact h
  | own b ds => exact List.mem_cons_of_mem _ h
theorem FvsAt.stay {K : PySem.W.Frag} {Z Z' H H' : Hp} (k : Same Z Z') : ∀ {fs : List (Str × FV)} {vs : List (Str × V)}, FvsAt K Z H fs vs → (∀ a ∈ ownsF fs, H' a = H a) → FvsAt K Z' H' fs vs
  | [], vs, h, _ => h
  | (n, f) :: fs, vs, ⟨v, r, e, h1, h2⟩, hk => by
    refine ⟨v, r, e, ?_, FvsAt.stay k h2 fun a ha => hk a (ownsF_cons ha)⟩
    cases f with
    | val d => exact At.mono k _ _ h1
    | own a ds =>
      obtain ⟨e1, us, e2, e3⟩ := h1
      exact ⟨e1, us, (hk a List.mem_cons_self).trans e2, Ats.mono k _ _ e3⟩
theorem FvsAt.live {K : PySem.W.Frag} {Z H : Hp} : ∀ {fs : List (Str × FV)} {vs : List (Str × V)}, FvsAt K Z H fs vs → ∀ a ∈ ownsF fs, ∃ o, H a = some o
  | [], vs, h, a, ha => by cases ha
  | (n, f) :: fs, vs, ⟨v, r, e, h1, h2⟩, a, ha => by
    cases f with
    | val d => exact FvsAt.live h2 a ha
    | own b ds =>
      obtain ⟨e1, us, e2, e3⟩ := h1
      rcases List.mem_cons.mp ha with rfl | ha
      · exact ⟨_, e2⟩
      · exact FvsAt.live h2 a ha
structure OJ (K : PySem.W.Frag) (ob : OB) (Z H : Hp) (vs : List (Str × V)) : Prop where
  ins : H ob.o = some (.ins ob.C ob.dx vs)
  dxo : H ob.dx = some (.own ob.o)
  ne : ob.dx ≠ ob.o
  fv : FvsAt K Z H ob.fs vs
  nd : (ownsF ob.fs).Nodup
  no : ob.o ∉ ownsF ob.fs
  nx : ob.dx ∉ ownsF ob.fs
def ftO (ob : OB) (x : Addr) : Prop := x = ob.o ∨ x = ob.dx ∨ x ∈ ownsF ob.fs
theorem FvsAt.get {K : PySem.W.Frag} {Z H : Hp} {n : Str} {f : FV} : ∀ {fs : List (Str × FV)} {vs : List (Str × V)}, FvsAt K Z H fs vs → fs.lookup n = some f → ∃ v, vs.lookup n = some v ∧ FvAt K Z H f v
  | [], vs, h, e => by cases e
  | (m, g) :: fs, vs, ⟨v, r, e, h1, h2⟩, hl => by
    subst e
    simp only [List.lookup] at hl ⊢
    split at hl
    · cases hl; exact ⟨v, rfl, h1⟩
    · exact FvsAt.get h2 hl
theorem FvsAt.none {K : PySem.W.Frag} {Z H : Hp} {n : Str} : ∀ {fs : List (Str × FV)} {vs : List (Str × V)}, FvsAt K Z H fs vs → fs.lookup n = none → vs.lookup n = none
  | [], vs, h, e => by rw [show vs = [] from h]; rfl
  | (m, g) :: fs, vs, ⟨v, r, e, h1, h2⟩, hl => by
    subst e
    simp only [List.lookup] at hl ⊢
    split at hl
    · cases hl
    · exact FvsAt.none h2 hl
theorem Rel.writeN {γ : Type} {G : GP γ} {F : Fra} {Z : Hp} {s : S γ} {σ : L2.St} {H : Hp} (r : Rel G F Z s σ H) {p a : Addr} (hp : G.foot s.g p) (x : HO) {g' : γ} (hz : Z a = none) (hF : F.F a = none) (ho : Nob s σ a)
    (j : G.J g' Z (upd H p x)) (hf : ∀ b, G.foot g' b → G.foot s.g b ∨ b = a) : Rel G F Z ⟨s.ρ, g'⟩ σ (upd H p x) := by
  refine ⟨fun b u e => ?_, fun b u e => ?_, r.zb, r.len, r.loc, fun i l h ol => ?_, r.injL, j, fun b h => ?_, fun b h => ?_, r.fl⟩
  · have n : b ≠ p := fun z => by rw [z, r.zf p hp] at e; cases e
    rw [upd_ne n]; exact r.z _ _ e
  · have n : b ≠ p := fun z => by rw [z, r.ff p hp] at e; cases e
    rw [upd_ne n]; exact r.f _ _ e
  · obtain ⟨b, vs, h1, h2, h3, h4, h5, h6⟩ := r.ownL i l h ol
    have n : b ≠ p := fun z => h6 (by rw [z]; exact hp)
    refine ⟨b, vs, h1, by rw [upd_ne n]; exact h2, h3, h4, h5, fun h7 => ?_⟩
    rcases hf b h7 with h7 | h7
    · exact h6 h7
    · exact ho i l h ol (by rw [← h7]; exact h1)
  · rcases hf b h with h | h
    · exact r.zf b h
    · rw [h]; exact hz
  · rcases hf b h with h | h
    · exact r.ff b h
    · rw [h]; exact hF
theorem FvsAt.app {K : PySem.W.Frag} {Z H : Hp} {n : Str} {g : FV} {v : V} (hg : FvAt K Z H g v) : ∀ {fs : List (Str × FV)} {vs : List (Str × V)}, FvsAt K Z H fs vs → FvsAt K Z H (fs ++ [(n, g)]) (vs ++ [(n, v)])
  | [], vs, h => by rw [show vs = [] from h]; exact ⟨v, [], rfl, hg, rfl⟩
  | (m, f) :: fs, vs, ⟨w, r, e, h1, h2⟩ => by
    subst e
    exact ⟨w, r ++ [(n, v)], rfl, h1, FvsAt.app hg h2⟩
theorem FvsAt.len {K : PySem.W.Frag} {Z H : Hp} : ∀ {fs : List (Str × FV)} {vs : List (Str × V)}, FvsAt K Z H fs vs → vs.length = fs.length
  | [], vs, h => by rw [show vs = [] from h]; rfl
  | (n, f) :: fs, vs, ⟨v, r, e, h1, h2⟩ => by subst e; simp [FvsAt.len h2]
end Pm
set_option Elab.async false
set_option linter.all false
set_option maxRecDepth 100000
set_option maxHeartbeats 1000000
set_option autoImplicit false
namespace Pm
open PySem PySem.Spec
open PyProof.Rows hiding St
open L2
section
variable {γ : Type} {G : GP γ}
theorem Rel.afterW {F : Fra} {Z Z' : Hp} {s : S γ} {σ : L2.St} {H H' : Hp} {g' : γ} (r : Rel G F Z s σ H) (zz : Same Z Z') (zh : Same Z' H') (keep : ∀ a o, H a = some o → ¬ G.foot s.g a → H' a = some o) (nw : ∀ a o, Z' a = some o → Z a = none → H a = none ∨ G.foot s.g a) (hj : G.J g' Z' H')
    (hf : ∀ a, G.foot g' a → Z' a = none ∧ (G.foot s.g a ∨ H a = none)) : Rel G F Z' ⟨s.ρ, g'⟩ σ H' := by
  refine ⟨zh, fun a o e => ?_, fun a h => ?_, r.len, fun i d h => ?_, fun i l h ol => ?_, r.injL, hj, fun a h => (hf a h).1, fun a h => ?_, r.fl.trans zz⟩
  · refine keep a o (r.f _ _ e) fun h => ?_
    have := r.ff a h; rw [e] at this; cases this
  · cases q : Z' a with
    | none => rfl
    | some o =>
      obtain ⟨o', e⟩ := F.bf a h
      rcases nw a o q (r.zb a h) with h1 | h1
      · rw [r.f _ _ e] at h1; cases h1
      · have := r.ff a h1; rw [e] at this; cases this
  · obtain ⟨v, h1, h2⟩ := r.loc i d h
    exact ⟨v, h1, At.mono zz _ _ h2⟩
  · obtain ⟨a, vs, h1, h2, h3, h4, h5, h6⟩ := r.ownL i l h ol
    refine ⟨a, vs, h1, keep _ _ h2 h6, Ats.mono zz _ _ h3, ?_, h5, fun h7 => ?_⟩
    · cases q : Z' a with
      | none => rfl
      | some o =>
        rcases nw a o q h4 with h8 | h8
        · rw [h2] at h8; cases h8
        · exact (h6 h8).elim
    · rcases (hf a h7).2 with h8 | h8
      · exact h6 h8
      · rw [h2] at h8; cases h8
  · rcases (hf a h).2 with h8 | h8
    · exact r.ff a h8
    · exact r.f.free h8
end
end Pm
set_option Elab.async false
set_option linter.all false
set_option maxRecDepth 100000
set_option maxHeartbeats 1000000
set_option autoImplicit false
namespace Pm
open PySem PySem.Spec
open L2
structure Stp where
  u : Int
  v : Int
  i : Nat
  up : Bool
abbrev Rb := List (Int × Option Stp)
structure BQ (S : List Stp) (n : Nat) (a : Int) (kds : Rb) (w : List Int) (d : Int → Nat) (L : Nat) : Prop where
  nd : (kds.map (·.1)).Nodup
  rg : ∀ k : Int, k ∈ kds.map (·.1) → 0 ≤ k ∧ k < (n : Int)
  a0 : (a, none) ∈ kds
  par : ∀ q ∈ kds, q = (a, none) ∨ ∃ s, q = (s.v, some s) ∧ s ∈ S ∧ s.u ∈ kds.map (·.1) ∧ d s.v = d s.u + 1
  wk : ∀ x ∈ w, x ∈ kds.map (·.1)
  wn : w.Nodup
  d0 : d a = 0
  so : w.Pairwise fun x y => d x ≤ d y
  lo : ∀ x ∈ w, L ≤ d x
  hi : ∀ x ∈ kds.map (·.1), d x ≤ L + 1
def ClX (S T : List Stp) (kds : Rb) (w : List Int) (d : Int → Nat) (here : Int) : Prop := ∀ u ∈ kds.map (·.1), u ∉ w → ∀ s ∈ S, s.u = u → (u = here → s ∈ T) → s.v ∈ kds.map (·.1) ∧ d s.v ≤ d u + 1
section
variable {S T : List Stp} {n L : Nat} {a here : Int} {kds : Rb} {w : List Int} {d : Int → Nat}
theorem BQ.add {s : Stp} (q : BQ S n a kds w d (d here)) (c : ClX S T kds w d here) (hh : here ∈ kds.map (·.1)) (hw : here ∉ w) (hs : s ∈ S) (hu : s.u = here) (hv : s.v ∉ kds.map (·.1)) (hr : 0 ≤ s.v ∧ s.v < n) :
    ∃ d' : Int → Nat, d' here = d here ∧ BQ S n a (kds ++ [(s.v, some s)]) (w ++ [s.v]) d' (d' here) ∧ ClX S (T ++ [s]) (kds ++ [(s.v, some s)]) (w ++ [s.v]) d' here := by
  have hne : here ≠ s.v := fun z => hv (by rw [← z]; exact hh)
  let d' : Int → Nat := fun x => if x = s.v then d here + 1 else d x
  have dk : ∀ x ∈ kds.map (·.1), d' x = d x := fun x hx => if_neg fun z : x = s.v => hv (by rw [← z]; exact hx)
  have dv : d' s.v = d here + 1 := if_pos rfl
  have dh : d' here = d here := dk here hh
  have mk : ∀ x, x ∈ (kds ++ [(s.v, some s)]).map (·.1) ↔ x ∈ kds.map (·.1) ∨ x = s.v := fun x => by rw [List.map_append, List.mem_append]; simp
  have wv : s.v ∉ w := fun z => hv (q.wk _ z)
  refine ⟨d', dh, ⟨?_, ?_, ?_, ?_, ?_, ?_, ?_, ?_, ?_, ?_⟩, ?_⟩
  · rw [List.map_append]
    exact List.nodup_append.mpr ⟨q.nd, by simp, fun x hx y hy z => hv (by rw [show s.v = y from (show y = s.v by simpa using hy).symm, ← z]; exact hx)⟩
  · intro k hk
    rcases (mk k).mp hk with h | h
    · exact q.rg k h
    · rw [h]; exact hr
  · exact List.mem_append.mpr (.inl q.a0)
  · intro x hx
    rcases List.mem_append.mp hx with hx | hx
    · rcases q.par x hx with h | ⟨y, h1, h2, h3, h4⟩
      · exact .inl h
      · refine .inr ⟨y, h1, h2, (mk _).mpr (.inl h3), ?_⟩
        have : y.v ∈ kds.map (·.1) := List.mem_map.mpr ⟨x, hx, by rw [h1]⟩
        rw [dk _ this, dk _ h3]; exact h4
    · refine .inr ⟨s, List.mem_singleton.mp hx, hs, (mk _).mpr (.inl (by rw [hu]; exact hh)), ?_⟩
      rw [dv, hu, dh]
  · intro x hx
    rcases List.mem_append.mp hx with hx | hx
    · exact (mk _).mpr (.inl (q.wk x hx))
    · exact (mk _).mpr (.inr (List.mem_singleton.mp hx))
  · exact List.nodup_append.mpr ⟨q.wn, by simp, fun x hx y hy z => wv (by rw [show s.v = y from (show y = s.v by simpa using hy).symm, ← z]; exact hx)⟩
  · have : a ∈ kds.map (·.1) := List.mem_map.mpr ⟨_, q.a0, rfl⟩
    rw [dk _ this]; exact q.d0
  · refine List.pairwise_append.mpr ⟨q.so.imp_of_mem fun {x y} hx hy h => ?_, by simp, fun x hx y hy => ?_⟩
    · rw [dk _ (q.wk x hx), dk _ (q.wk y hy)]; exact h
    · rw [show y = s.v from by simpa using hy, dv, dk _ (q.wk x hx)]
      exact q.hi x (q.wk x hx)
  · intro x hx
    rw [dh]
    rcases List.mem_append.mp hx with hx | hx
    · rw [dk _ (q.wk x hx)]; exact q.lo x hx
    · rw [show x = s.v from by simpa using hx, dv]; omega
  · intro x hx
    rw [dh]
    rcases (mk x).mp hx with h | h
    · rw [dk x h]; exact q.hi x h
    · rw [h, dv]; exact Nat.le_refl _
  · intro u h1 h2 x hx e h3
    have hu1 : u ∈ kds.map (·.1) := by
      rcases (mk u).mp h1 with h | h
      · exact h
      · exact absurd (List.mem_append.mpr (.inr (by simp [h]))) h2
    have hu2 : u ∉ w := fun z => h2 (List.mem_append.mpr (.inl z))
    have old : (u = here → x ∈ T) → x.v ∈ (kds ++ [(s.v, some s)]).map (·.1) ∧ d' x.v ≤ d' u + 1 := fun k => by
      obtain ⟨k1, k2⟩ := c u hu1 hu2 x hx e k
      exact ⟨(mk _).mpr (.inl k1), by rw [dk _ k1, dk _ hu1]; exact k2⟩
    by_cases hq : u = here
    · rcases List.mem_append.mp (h3 hq) with h4 | h4
      · exact old fun _ => h4
      · rw [List.mem_singleton.mp h4]
        refine ⟨(mk _).mpr (.inr rfl), ?_⟩
        rw [dv, hq, dh]; exact Nat.le_refl _
    · exact old fun z => absurd z hq
end
end Pm
set_option Elab.async false
set_option linter.all false
set_option maxRecDepth 100000
set_option maxHeartbeats 1000000
set_option autoImplicit false
namespace Pm
open PySem PySem.Spec
open L2
def CutG (p : Pan) (rs : List Rat) (k : Nat) (U : Nat → Bool) : Prop := U (p.rus.getD k (0, 0)).1.toNat = true ∧ U (p.rus.getD k (0, 0)).2.toNat = false ∧ ∀ j q, p.rus[j]? = some q → j ≠ k → rs.getD q.1.toNat 0 = rs.getD q.2.toNat 0 → U q.2.toNat = true → U q.1.toNat = true
end Pm
set_option Elab.async false
set_option linter.all false
set_option maxRecDepth 100000
set_option maxHeartbeats 1000000
set_option autoImplicit false
namespace Pm
open PySem PySem.Spec
open PyProof.Rows hiding St
open L2 TL
variable {γ : Type}
def strI (i : Int) : Str := Str.ofString (toString i)
section
variable {X : Cx} {G : GP γ} {o e : Expr} {to te : PEx γ} {apos pos : Pos}
def qFmt (te : PEx γ) : PEx γ := fun s R => te s fun d s1 => match d with
  | .str y => y.length ≤ sizeLine ∧ R (.str y) s1
  | .int i => i.natAbs.log2 < 1920 ∧ R (.str (strI i)) s1
  | _ => False
theorem qe_fmt (he : QE X G e te) : QE X G (.FormattedValue e (-1) none pos) (qFmt te) := by
  refine PE.imp (pe_fmt he) fun σ H Q ⟨F, Z, s, R, r, t, q⟩ => ?_
  refine ⟨F, Z, s, _, r, t, fun d s1 Z1 v H1 t1 k1 r1 a1 => ?_⟩
  cases d with
  | str y =>
    obtain rfl : v = .str y := a1
    exact .inl ⟨y, rfl, t1.1, q _ s1 Z1 _ H1 t1.2 k1 r1 rfl⟩
  | int i =>
    obtain rfl : v = .int i := a1
    exact .inr ⟨i, rfl, t1.1, q _ s1 Z1 _ H1 t1.2 k1 r1 rfl⟩
  | _ => exact t1.elim
inductive QJ (X : Cx) (G : GP γ) : List Expr → List (PEx γ) → Prop where
  | nil : QJ X G [] []
  | cons {e : Expr} {t : PEx γ} {es : List Expr} {ts : List (PEx γ)} (h : QE X G e t) (r : QJ X G es ts) : QJ X G (e :: es) (t :: ts)
def qJs : List (PEx γ) → Str → S γ → (Str → S γ → Prop) → Prop
  | [], acc, s, R => R acc s
  | t :: ts, acc, s, R => t s fun d s1 => ∃ y, d = .str y ∧ (acc ++ y).length ≤ sizeLine ∧ qJs ts (acc ++ y) s1 R
theorem QJ.pj {es : List Expr} {ts : List (PEx γ)} (h : QJ X G es ts) : PJ X es (ts.map (lE G)) := by
  induction h with
  | nil => exact .nil
  | cons h r ih => exact .cons h ih
theorem ljs : ∀ {ts : List (PEx γ)} {acc : Str} {F : Fra} {Z : Hp} {s : S γ} {σ : St} {H : Hp} {R : Str → S γ → Prop} {Q : Str → Hp → Prop}, Rel G F Z s σ H → qJs ts acc s R →
    (∀ out s' Z' H', R out s' → Same Z Z' → Rel G F Z' s' σ H' → Q out H') → tJs (ts.map (lE G)) acc σ H Q
  | [], acc, F, Z, s, σ, H, R, Q, r, t, q => q acc s Z H t (Same.refl _) r
  | t :: ts, acc, F, Z, s, σ, H, R, Q, r, w, q => by
    refine ⟨F, Z, s, _, r, w, fun d s1 Z1 v H1 ⟨y, e1, hz, t1⟩ k1 r1 a1 => ?_⟩
    subst e1
    obtain rfl : v = .str y := a1
    exact ⟨y, rfl, hz, ljs r1 t1 fun out s' Z' H' h k r' => q out s' Z' H' h (k1.trans k) r'⟩
def qFs (ts : List (PEx γ)) : PEx γ := fun s R => qJs ts Str.empty s fun out s1 => R (.str out) s1
theorem qe_fs {v1 v2 : Expr} {rest : List Expr} {ts : List (PEx γ)} (h : QJ X G (v1 :: v2 :: rest) ts) : QE X G (.JoinedStr (v1 :: v2 :: rest) pos) (qFs ts) :=
  PE.imp (pe_joined h.pj) fun σ H Q ⟨F, Z, s, R, r, t, q⟩ => ljs r t fun out s' Z' H' h k r' => q _ s' Z' _ H' h k r' rfl
end
def xFor (ti : PAx γ) (tg : Tg) (tb : PSXx γ) : PSXx γ := fun w => qFor ti tg (tb w)
section
variable {X : Cx} {G : GP γ} {W : WX} {pos : Pos} {e : Expr}
theorem qsx_for {iter tg : Expr} {body : List Stmt} {ti : PAx γ} {t : Tg} {tb : PSXx γ} (hp : PassesOwn (model X.prog X.w) X.A X.env X.xe) (hc : X.calm = true) (hi : QI X G tg iter ti) (hg : QG' X G tg t) (hb : QSXs X G W body tb)
    (hs : ∀ x, foldedSetIterable iter X.env x = pure x := by intro _; rfl) : QSX X G W (.For tg iter body [] pos) (xFor ti t tb) := by
  refine PS.imp (ps_for hp hc hi hg hb hs) fun De σ H ⟨F, Z, s, E, w, r, ww, n, rt, bk, ct, ex⟩ => ?_
  refine ⟨F, Z, s, _, r, ww, fun ds s1 Z1 H1 J w1 k1 r1 wJ => ?_⟩
  obtain ⟨I, ⟨s0, wk0, i0⟩, turn, done⟩ := w1
  refine ⟨fun i m σ H => m = ds.length - i ∧ i ≤ ds.length ∧ ∃ Z' s', Same Z1 Z' ∧ Rel G F Z' s' σ H ∧ I i s', ⟨ds.length, rfl, Nat.zero_le _, Z1, s0, Same.refl _, r1.weak wk0, i0⟩, ?_⟩
  rintro i m σ2 H2 ⟨hm, hi, Z2, s2, k2, r2, i2⟩
  obtain ⟨go, stop⟩ := wJ i Z2 H2 k2 r2.z
  by_cases hlt : i < ds.length
  · obtain ⟨g1, y1⟩ := go ds[i] (List.getElem?_eq_getElem hlt)
    refine .inr ⟨g1, fun σ' H' => ∃ Z' s', Same Z1 Z' ∧ Rel G F Z' s' σ' H' ∧ I (i + 1) s', fun σ' H' h => ⟨ds.length - (i + 1), by omega, rfl, hlt, h⟩, fun x H3 y => ?_⟩
    obtain ⟨Z3, x3, a3⟩ := y1 x H3 y
    have r3 := r2.ext x3
    have k3 := k2.trans x3.zz
    refine ⟨F, Z3, s2, ds[i], _, r3, a3, turn i ds[i] s2 (List.getElem?_eq_getElem hlt) i2, fun s4 Z4 σ4 H4 w4 k4 r4 _ _ _ => ?_⟩
    refine ⟨F, Z4, s4, _, w, r4, w4, ?_, ?_, ?_, ?_, ?_⟩
    · rintro s5 Z5 σ5 H5 ⟨s'', wk, i5⟩ k5 r5
      exact ⟨Z5, s'', (k3.trans k4).trans k5, r5.weak wk, i5⟩
    · intro d s5 Z5 σ5 v H5 q k5 r5 a5
      exact rt d s5 Z5 σ5 v H5 q (((k1.trans k3).trans k4).trans k5) r5 a5
    · intro s5 Z5 σ5 H5 q k5 r5
      exact n s5 Z5 σ5 H5 q (((k1.trans k3).trans k4).trans k5) r5
    · rintro s5 Z5 σ5 H5 ⟨s'', wk, i5⟩ k5 r5
      exact ⟨Z5, s'', (k3.trans k4).trans k5, r5.weak wk, i5⟩
    · intro x s5 Z5 σ5 cls d H5 q k5 r5 a5
      exact ex x s5 Z5 σ5 cls d H5 q (((k1.trans k3).trans k4).trans k5) r5 a5
  · have e : i = ds.length := by omega
    subst e
    exact .inl ⟨stop rfl, n s2 Z2 σ2 H2 (done s2 i2) (k1.trans k2) r2⟩
end
end Pm
set_option Elab.async false
set_option linter.all false
set_option maxRecDepth 100000
set_option maxHeartbeats 1000000
set_option autoImplicit false
namespace Pm
open PySem PySem.Spec
open PyProof.Rows hiding St
open L2 TL
end Pm
namespace Pm
open PySem PySem.Spec
open PyProof.Rows hiding St
open L2 TL
end Pm
namespace Pm
open PySem PySem.Spec
open PyProof.Rows hiding St
open L2 TL
end Pm
namespace Pm
open PySem PySem.Spec
open PyProof.Rows hiding St
open L2 TL
def optI : Option Int → D
  | none => .non
  | some i => .int i
end Pm
namespace Pm
open PySem PySem.Spec
open PyProof.Rows hiding St
open L2 TL
theorem optI_dep (o : Option Int) : (optI o).dep = 0 := by cases o <;> rfl
theorem opts_dep (os : List (Option Int)) : D.deps (os.map optI) = 0 := by
  induction os with
  | nil => rfl
  | cons o os ih => simp only [List.map_cons, D.deps, optI_dep, ih]; rfl
end Pm
namespace Pm
open PySem PySem.Spec
open PyProof.Rows hiding St
open L2 TL
end Pm
namespace Pm
open PySem PySem.Spec
open PyProof.Rows hiding St
open L2 TL
theorem fstF_all : ∀ {l : List D}, fstF l = .non → ∀ x ∈ l, x = .non
  | [], _, _, h => by cases h
  | x :: l, e, y, hy => by
    have hx : x = .non := by cases x <;> first | rfl | cases e
    subst hx
    rcases List.mem_cons.mp hy with rfl | hy
    · rfl
    · exact fstF_all (l := l) e y hy
theorem ffD_iff {xs ys : List D} : ffD (.tup [.tup xs, .tup ys]) = .non ↔ (1 ≤ xs.length ∧ xs.length ≤ 8 ∧ ys.length ≤ 16) ∧ (∀ (k : Nat) x, xs[k]? = some x → itF k x = .non) ∧ ∀ (k : Nat) y, ys[k]? = some y → ruF xs.length k y = .non := by
  have e1 : isTup 1 8 (.tup xs) = true ↔ 1 ≤ xs.length ∧ xs.length ≤ 8 := by
    simp only [isTup, Bool.and_eq_true, decide_eq_true_eq]; omega
  have e2 : isTup 0 16 (.tup ys) = true ↔ ys.length ≤ 16 := by
    simp only [isTup, Bool.and_eq_true, decide_eq_true_eq]; omega
  show (if isTup 1 8 (.tup xs) = true then (if isTup 0 16 (.tup ys) = true then fstF (faults xs ys) else fltD [1] "rules") else fltD [0] "items") = .non ↔ _
  by_cases h1 : isTup 1 8 (.tup xs) = true
  · rw [if_pos h1]
    by_cases h2 : isTup 0 16 (.tup ys) = true
    · rw [if_pos h2]
      constructor
      · intro h
        have ha := fstF_all h
        refine ⟨⟨(e1.mp h1).1, (e1.mp h1).2, e2.mp h2⟩, fun k x hx => ?_, fun k y hy => ?_⟩
        · refine ha _ (List.mem_append.mpr (.inl (List.mem_map.mpr ⟨.tup [.int (k : Int), x], ?_, rfl⟩)))
          refine List.mem_of_getElem? (i := k) ?_
          have : (enumD xs)[k]? = some (.tup [.int ((0 + k : Nat) : Int), x]) := by
            have hl := (List.getElem?_eq_some_iff.mp hx).1
            have hg := List.getElem?_eq_getElem (l := enumD xs) (i := k) (by rw [show (enumD xs).length = xs.length from enumGo_len _ _]; exact hl)
            obtain ⟨z, hz, e⟩ := enumGo_get hg
            rw [hx] at hz; cases hz
            rw [hg, e]
          rw [Nat.zero_add] at this; exact this
        · refine ha _ (List.mem_append.mpr (.inr (List.mem_map.mpr ⟨.tup [.int (k : Int), y], ?_, rfl⟩)))
          refine List.mem_of_getElem? (i := k) ?_
          have : (enumD ys)[k]? = some (.tup [.int ((0 + k : Nat) : Int), y]) := by
            have hl := (List.getElem?_eq_some_iff.mp hy).1
            have hg := List.getElem?_eq_getElem (l := enumD ys) (i := k) (by rw [show (enumD ys).length = ys.length from enumGo_len _ _]; exact hl)
            obtain ⟨z, hz, e⟩ := enumGo_get hg
            rw [hy] at hz; cases hz
            rw [hg, e]
          rw [Nat.zero_add] at this; exact this
      · rintro ⟨_, hx, hy⟩
        refine fstF_non fun f hf => ?_
        rcases List.mem_append.mp hf with hf | hf
        · obtain ⟨e, he, rfl⟩ := List.mem_map.mp hf
          obtain ⟨k, x, rfl, h⟩ := enum_mem he
          exact hx k x h
        · obtain ⟨e, he, rfl⟩ := List.mem_map.mp hf
          obtain ⟨k, x, rfl, h⟩ := enum_mem he
          exact hy k x h
    · rw [if_neg h2]
      exact ⟨fun e => absurd e (fltD_ne _ _), fun h => absurd (e2.mpr h.1.2.2) h2⟩
  · rw [if_neg h1]
    exact ⟨fun e => absurd e (fltD_ne _ _), fun h => absurd (e1.mpr ⟨h.1.1, h.1.2.1⟩) h1⟩
theorem inI_opt {lo hi : Int} {o : Option Int} : inI lo hi (optI o) = true ↔ ∃ a, o = some a ∧ lo ≤ a ∧ a ≤ hi := by
  cases o with
  | none => exact ⟨fun h => (by cases h), fun ⟨a, h, _⟩ => (by cases h)⟩
  | some a =>
    show (decide (lo ≤ a) && decide (a ≤ hi)) = true ↔ _
    rw [Bool.and_eq_true, decide_eq_true_iff, decide_eq_true_iff]
    exact ⟨fun h => ⟨a, rfl, h.1, h.2⟩, fun ⟨b, e, h⟩ => by cases e; exact h⟩
theorem itF_opt {k : Nat} {os : List (Option Int)} : itF k (.tup (os.map optI)) = .non ↔ ∃ a b, os = [some a, some b] ∧ ItOk (a, b) := by
  match os with
  | [] => exact ⟨fun h => (by cases h), fun ⟨_, _, h, _⟩ => (by cases h)⟩
  | [_] => exact ⟨fun h => (by cases h), fun ⟨_, _, h, _⟩ => (by cases h)⟩
  | _ :: _ :: _ :: _ => exact ⟨fun h => (by cases h), fun ⟨_, _, h, _⟩ => (by cases h)⟩
  | [x, y] =>
    show (if inI (-(10 ^ 9)) (10 ^ 9) (optI x) then (if inI 1 (10 ^ 6) (optI y) then D.non else fltD [0, k, 1] "weight") else fltD [0, k, 0] "mark") = .non ↔ _
    constructor
    · intro h
      split at h
      · rename_i h1
        split at h
        · rename_i h2
          obtain ⟨a, rfl, a1⟩ := inI_opt.mp h1
          obtain ⟨b, rfl, b1⟩ := inI_opt.mp h2
          exact ⟨a, b, rfl, a1.1, a1.2, b1.1, b1.2⟩
        · exact absurd h (fltD_ne _ _)
      · exact absurd h (fltD_ne _ _)
    · rintro ⟨a, b, e, h1, h2, h3, h4⟩
      cases e
      rw [if_pos (inI_opt.mpr ⟨a, rfl, h1, h2⟩), if_pos (inI_opt.mpr ⟨b, rfl, h3, h4⟩)]
theorem ruF_opt {n k : Nat} {os : List (Option Int)} : ruF n k (.tup (os.map optI)) = .non ↔ ∃ a b, os = [some a, some b] ∧ RuOk n (a, b) := by
  match os with
  | [] => exact ⟨fun h => (by cases h), fun ⟨_, _, h, _⟩ => (by cases h)⟩
  | [_] => exact ⟨fun h => (by cases h), fun ⟨_, _, h, _⟩ => (by cases h)⟩
  | _ :: _ :: _ :: _ => exact ⟨fun h => (by cases h), fun ⟨_, _, h, _⟩ => (by cases h)⟩
  | [x, y] =>
    show (if inI 0 ((n : Int) - 1) (optI x) then (if inI 0 ((n : Int) - 1) (optI y) && !D.eqv (optI x) (optI y) then D.non else fltD [1, k, 1] "high") else fltD [1, k, 0] "low") = .non ↔ _
    constructor
    · intro h
      split at h
      · rename_i h1
        split at h
        · rename_i h2
          rw [Bool.and_eq_true] at h2
          obtain ⟨a, rfl, a1⟩ := inI_opt.mp h1
          obtain ⟨b, rfl, b1⟩ := inI_opt.mp h2.1
          refine ⟨a, b, rfl, a1.1, by show a < n; omega, b1.1, by show b < n; omega, fun e => ?_⟩
          have h3 : (!(a == b)) = true := h2.2
          have e : a = b := e
          rw [e] at h3; simp at h3
        · exact absurd h (fltD_ne _ _)
      · exact absurd h (fltD_ne _ _)
    · rintro ⟨a, b, e, h1, h2, h3, h4, h5⟩
      cases e
      have h2 : a < n := h2
      have h4 : b < n := h4
      have h5 : a ≠ b := h5
      rw [if_pos (inI_opt.mpr ⟨a, rfl, h1, by omega⟩), if_pos]
      rw [Bool.and_eq_true]
      refine ⟨inI_opt.mpr ⟨b, rfl, h3, by omega⟩, ?_⟩
      show (!(a == b)) = true
      simp [h5]
end Pm
set_option Elab.async false
set_option linter.all false
set_option maxRecDepth 100000
set_option maxHeartbeats 2000000
set_option autoImplicit false
namespace Pm
open PySem PySem.Spec
open PyProof.Rows hiding St
open L2
variable {γ : Type}
section
variable {X : Cx} {pins : List (Addr × Obj)} {σ : L2.St} {H : Hp} {s : Shared}
abbrev lamQ (X : Cx) : Str := X.env.qual ++ "<lambda>"
abbrev lamO (X : Cx) (params : Arguments) (body : Expr) (scope : Scope) (pm ctv : Value) (c' : Addr) : Obj := PySem.W.kla_obj "<lambda>" (lamQ X) params body scope (cloFrom X.env.cells scope.names []) pm c' ctv
structure LamAt (X : Cx) (params : Arguments) (body : Expr) (scope : Scope) (f c' : Addr) (H : Hp) (s : Shared) : Prop where
  ex : ∃ pm ctv, s.heap.get? f = some (lamO X params body scope pm ctv c')
  new : H f = none
  out : f ∉ frs X.stack
def TabOk (Z : Hp) (q : Str) (ps : Array Value) : Prop := TriplesOk ps.toList ∧ ∀ (pos : Pos) (v : Value), codeAmong pos ps.toList = some v → ∃ c, v = .ref c ∧ Z c = some (LamX.CodeO c q)
theorem lam_made {c P : Addr} {ps : Array Value} {params : Arguments} {body : Expr} {scope : Scope} {pos : Pos} {E Q : Value → Shared → Prop} (I : L2.Inv X pins σ H s) (TB : LamX.TabB X.base X.mg c P) (hc : X.env.code = .ref c) {Z : Hp} (kz : Same Z H) (hP : H P = some (.tbl ps)) (tb : TabOk Z (lamQ X) ps)
    (hd : defaultsOf params X.env = ([], [])) (hf : ∀ y ∈ scope.names, y.2 = .free → ∃ c, X.env.cells.lookup y.1 = some c)
    (old : ∀ (f c' : Addr) (s' : Shared), Z c' = some (LamX.CodeO c' (lamQ X)) → L2.Inv X pins σ H s' → LamAt X params body scope f c' H s' → Q (.ref f) s')
    (new : ∀ (f c' : Addr) (s' : Shared), H c' = none → L2.Inv X pins σ (upd (upd H P (.tbl (ps ++ #[rawInt pos.line, rawInt pos.col, .ref c']))) c' (LamX.CodeO c' (lamQ X))) s' →
      LamAt X params body scope f c' (upd (upd H P (.tbl (ps ++ #[rawInt pos.line, rawInt pos.col, .ref c']))) c' (LamX.CodeO c' (lamQ X))) s' → Q (.ref f) s') :
    wpAny (model X.prog X.w) X.A (eval (.Lambda params body scope pos) X.env) Q E s := by
  obtain ⟨tr, am⟩ := tb
  have here : s.heap.get? P = some { cls := .none, data := .fields ps } := I.hok P _ hP
  have afar : ∀ {b : Addr}, s.heap.objs.size ≤ b → b ∉ frs X.stack := fun {b} hb z => by
    rcases List.mem_cons.mp (I.stkSub _ z) with e | e
    · have lt := I.lt
      rw [← e] at lt
      exact absurd (Nat.lt_of_lt_of_le lt hb) (Nat.lt_irrefl _)
    · exact I.nofs hb e
  refine PySem.W.kla_eval hd ?_
  cases q : codeAmong pos ps.toList with
  | some v =>
    obtain ⟨c', rfl, hc'⟩ := am pos v q
    exact PySem.W.kla_makeFunctionHit (mg := X.mg) (c := c) (P := P) (ps := ps) (closure_ok hf) I.ok.glob (I.mod.glob.keeps I.bk) hc (TB.code.keeps I.bk) here tr q (TB.bm.keeps I.bk)
      fun ctv h' tk kp hs => old h'.objs.size c' _ hc' (I.kept fun b o e => Heap.get?_push_of_some _ (kp b o e)) ⟨⟨_, ctv, Heap.get?_push_size _ rfl⟩, I.hok.fresh hs, afar hs⟩
  | none =>
    refine PySem.W.kla_makeFunction (mg := X.mg) (c := c) (P := P) (ps := ps) (closure_ok hf) I.ok.glob (I.mod.glob.keeps I.bk) hc (TB.code.keeps I.bk) here tr q TB.gP (TB.bm.keeps I.bk) fun c' ctv h' tk kp g1 g2 rec hp => ?_
    obtain ⟨c2, oc, vs, t, e2, r1, r2, r3⟩ := rec
    cases e2
    have hs : s.heap.objs.size ≤ h'.objs.size := Nat.le_trans g1 (Nat.le_of_lt g2)
    have n0 : H c' = none := I.hok.fresh g1
    refine new h'.objs.size c' _ n0 (LamX.inv_table (t' := tk) (more := #[rawInt pos.line, rawInt pos.col, .ref c']) (h' := h'.push (lamO X params body scope ((X.mg "__name__").getD .none) ctv c')) I hP (fun b o hb e => Heap.get?_push_of_some _ (kp b o hb e)) (Heap.get?_push_of_some _ hp) g1 ⟨oc, vs, t, Heap.get?_push_of_some _ r1, r2, r3⟩)
      ⟨⟨_, ctv, Heap.get?_push_size _ rfl⟩, ?_, afar hs⟩
    have lP := Heap.lt_size here
    have m1 : h'.objs.size ≠ c' := Nat.ne_of_gt g2
    have m2 : h'.objs.size ≠ P := Nat.ne_of_gt (Nat.lt_of_lt_of_le lP hs)
    rw [upd_ne m1, upd_ne m2]
    exact I.hok.fresh hs
abbrev lamCxN (X : Cx) (A : Around) (outer : List Env) (s : Shared) (H : Hp) (E : XK) (scope : Scope) (f c' : Addr) : Cx :=
  (LamX.lamCx X A outer s H E scope f c').wish fun e s' => wpAny (model X.prog X.w) (A.deeper (LamX.lamEnv X scope s.heap.objs.size f c')) (leaving (LamX.lamEnv X scope s.heap.objs.size f c') e) (fun _ s'' => L2N.CX X.prog X.w outer H s E e s'') (fun e' s'' => L2N.CX X.prog X.w outer H s E e' s'') s'
end
def valsL (ρ : List (Option L)) : List (Option L) := ρ.map fun o => match o with | some (.val d) => some (.val d) | _ => none
theorem valsL_get {ρ : List (Option L)} {i : Nat} {l : L} (h : (valsL ρ)[i]? = some (some l)) : ∃ d, l = .val d ∧ ρ[i]? = some (some (.val d)) := by
  unfold valsL at h
  rw [List.getElem?_map] at h
  obtain ⟨o, h1, h2⟩ := Option.map_eq_some_iff.mp h
  cases o with
  | none => cases h2
  | some m =>
    cases m with
    | val d => cases h2; exact ⟨d, rfl, h1⟩
    | own ds => cases h2
    | dic ds => cases h2
end Pm
namespace Pm
open PySem PySem.Spec
open PyProof.Rows hiding St
open L2
variable {γ : Type}
abbrev Tbs := List (Addr × Str)
theorem TabOk.mono {Z Z' : Hp} {q : Str} {ps : Array Value} (k : Same Z Z') (h : TabOk Z q ps) : TabOk Z' q ps := ⟨h.1, fun pos v e => let ⟨c, e1, e2⟩ := h.2 pos v e; ⟨c, e1, k _ _ e2⟩⟩
def gT (G : GP γ) (T : Tbs) : GP γ where
  K := G.K
  foot := fun g a => G.foot g a ∨ ∃ p ∈ T, a = p.1
  J := fun g Z H => G.J g Z H ∧ ∀ p ∈ T, (∃ ps, H p.1 = some (.tbl ps) ∧ TabOk Z p.2 ps) ∧ ¬ G.foot g p.1
  stay := fun g Z Z' H H' h k e => ⟨G.stay _ _ _ _ _ h.1 k fun a ha => e a (.inl ha), fun p hp => by
    obtain ⟨⟨ps, h1, h2⟩, n⟩ := h.2 p hp
    exact ⟨⟨ps, (e _ (.inr ⟨p, hp, rfl⟩)).trans h1, h2.mono k⟩, n⟩⟩
  live := fun g Z H a h f => by
    rcases f with f | ⟨p, hp, rfl⟩
    · exact G.live g Z H a h.1 f
    · obtain ⟨⟨ps, h1, _⟩, _⟩ := h.2 p hp
      exact ⟨_, h1⟩
  fl := G.fl
end Pm
set_option Elab.async false
set_option linter.all false
set_option maxRecDepth 100000
set_option maxHeartbeats 2000000
set_option autoImplicit false
namespace Pm
open PySem PySem.Spec
open PyProof.Rows hiding St
open L2
def tabsT (K : PySem.W.Frag) (xs : List Str) : Tbs := xs.map fun x => (tabP K x, (x ++ ".<locals>.") ++ "<lambda>")
structure Tabs (K : PySem.W.Frag) (mg : Str → Option Value) (base : Heap) (xs : List Str) : Prop where
  apart : (xs.map (tabP K)).Nodup
  at_ : ∀ x ∈ xs, LamX.TabB base mg (codP K x) (tabP K x)
theorem tabsT_mem {K : PySem.W.Frag} {xs : List Str} {x : Str} (h : x ∈ xs) : (tabP K x, (x ++ ".<locals>.") ++ "<lambda>") ∈ tabsT K xs := List.mem_map.mpr ⟨x, h, rfl⟩
theorem tabsT_one {K : PySem.W.Frag} {xs : List Str} {x : Str} (h : x ∈ xs) (nd : (xs.map (tabP K)).Nodup) : ∀ p ∈ tabsT K xs, p.1 = tabP K x → p.2 = (x ++ ".<locals>.") ++ "<lambda>" := by
  intro p hp e
  obtain ⟨y, hy, rfl⟩ := List.mem_map.mp hp
  have e : tabP K y = tabP K x := e
  have : y = x := by
    clear hp
    induction xs with
    | nil => cases hy
    | cons z zs ih =>
      rw [List.map_cons, List.nodup_cons] at nd
      rcases List.mem_cons.mp hy with rfl | hy'
      · rcases List.mem_cons.mp h with rfl | h'
        · rfl
        · exact absurd (List.mem_map.mpr ⟨x, h', e.symm⟩) nd.1
      · rcases List.mem_cons.mp h with rfl | h'
        · exact absurd (List.mem_map.mpr ⟨y, hy', e⟩) nd.1
        · exact ih h' nd.2 hy'
  rw [this]
section
variable {P : Program} {w : World} {K : PySem.W.Frag} {mg : Str → Option Value} {base : Heap}
theorem Fn.code {x : Str} {st : Stmt} {fd : FuncData} (F : Fn K x x st (He.fAd K (x, none)) fd) : fd.code = .ref (codP K x) := by
  obtain ⟨oc, od, dV, kV, doc, pm, an, cdv, ct, osl, rfl, lk, hcd, _, _⟩ := F.ex
  obtain ⟨c, rfl⟩ := He.codeIn_ref hcd
  have e := He.codeOf_eq (p := (x, none)) (c := c) lk rfl
  show Value.ref c = Value.ref (He.codeOf K (x, none))
  rw [e]
def spLawT (K : PySem.W.Frag) (T : Tbs) : Sp := fun vs H Q _ => (∀ p ∈ T, H p.1 = some (.tbl #[])) ∧ ∃ (a : Addr) (ns : List Int), vs = [.ref a] ∧ SqL K H a (ns.map V.int) ∧ ns.length ≤ 63 ∧ ∀ H', Q (.bl true) H'
end
theorem law_callGT {P : Program} {w : World} {K : PySem.W.Frag} {mg mb : Str → Option Value} {k : Nat} {fa a : Addr} {ts : List (Addr × Addr)} {fd : FuncData} {x : Str} {sp : Sp} {s0 : Shared} {vs : List Value} {ns : List Int}
    (KX : K.In s0.heap) (hns : s0.heap.Ns mainGlobals mg) (hb : s0.heap.Ns builtinsNs mb) (hbb : ∀ y : Str, y ≠ "__name__" → mb y = bootBuiltins y) (hlim : s0.heap.NoLimit) (hg : s0.gens = #[])
    (tE : ∀ p ∈ ts, s0.heap.get? p.2 = some { cls := .none, data := .fields #[] }) (tK : ∀ p ∈ ts, K.lookup p.2 = none) (tC : ∀ p ∈ ts, PySem.W.CodeHd s0.heap p.1 p.2)
    (hbm : ∃ (bm : Addr) (ob : Obj), mg "__builtins__" = some (.ref bm) ∧ bm ≠ builtinsNs ∧ s0.heap.get? bm = some ob ∧ ob.cls = .type "module" ∧ ob.dict = some builtinsNs ∧ ob.data = .plain)
    (ha : s0.heap.get? a = some { cls := .type "list", data := .seq vs.toArray }) (hi : IntsAre vs ns) (hl : ns.length ≤ sizeLine) (hr : Room k callerA)
    (F : ∀ base : Heap, K.In base → base.Ns mainGlobals mg → (∀ p ∈ ts, LamX.TabB base mg p.1 p.2) → FnG P w K mg base k fa fd [x] sp) (hbind : ∀ (s : Shared) (u : Value), BindsTo s fd ⟨[u], []⟩ [(x, u)])
    (hsp : ∀ T : Hp, (∀ p ∈ ts, T p.2 = some (.tbl #[])) → SqL K T a (ns.map V.int) → sp [.ref a] T (fun v _ => v = .bl true) fun _ _ _ => False) :
    codeAny (model P w) callerA (.call (.ref fa) ⟨[.ref a], []⟩) (fun r z => r = .ok (.ret (.bool true)) ∧ OldK s0.heap z.heap ∧ z.os = s0.os ∧ AllBare z.gens) s0 := by
  have rel := L2.vals_ints hi
  have ln := hi.length
  let ps : List Addr := ts.map (·.2)
  have psE : ∀ b ∈ ps, s0.heap.get? b = some { cls := .none, data := .fields #[] } ∧ K.lookup b = none ∧ ∃ c, PySem.W.CodeHd s0.heap c b := fun b hb => by
    obtain ⟨p, hp, rfl⟩ := List.mem_map.mp hb
    exact ⟨tE p hp, tK p hp, _, tC p hp⟩
  have inP : ∀ p ∈ ts, p.2 ∈ ps := fun p hp => List.mem_map.mpr ⟨p, hp, rfl⟩
  have aP : a ∉ ps := fun z => by
    have e := (psE a z).1
    rw [ha] at e
    exact Data.noConfusion (congrArg Obj.data (Option.some.inj e))
  -- what is tracked: the tables, and the script if K does not hold it
  let scr : HO := .frz { cls := .type "list", data := .seq vs.toArray } (.lst (ns.map V.int))
  let T : Hp := fun b => if b ∈ ps then some (.tbl #[]) else if b = a ∧ K.lookup a = none then some scr else none
  have T1 : ∀ b ∈ ps, T b = some (.tbl #[]) := fun b hb => if_pos hb
  have T2 : ∀ b, b ∉ ps → ∀ o, T b = some o → b = a ∧ K.lookup a = none ∧ o = scr := fun b hb o e => by
    have e1 : (if b = a ∧ K.lookup a = none then some scr else none) = some o := (if_neg hb).symm.trans e
    by_cases hc : b = a ∧ K.lookup a = none
    · rw [if_pos hc] at e1; cases e1; exact ⟨hc.1, hc.2, rfl⟩
    · rw [if_neg hc] at e1; cases e1
  have Tof : ∀ b o, s0.heap.get? b = some o → o.data ≠ .fields #[] → (∀ xs n, o.data ≠ .seq xs n) → T b = none := fun b o e n1 n2 => by
    cases q : T b with
    | none => rfl
    | some y =>
      by_cases hb : b ∈ ps
      · rw [(psE b hb).1] at e; cases e; exact absurd rfl n1
      · obtain ⟨rfl, _, _⟩ := T2 b hb y q
        rw [ha] at e; cases e; exact absurd rfl (n2 _ _)
  have okT : HOk P w T s0.heap := fun b y e => by
    by_cases hb : b ∈ ps
    · have e2 := (T1 b hb).symm.trans e
      cases e2
      exact (psE b hb).1
    · obtain ⟨rfl, _, rfl⟩ := T2 b hb y e
      exact ⟨ha, by rw [List.length_map]; exact hl, vs, _, rel, ha⟩
  have sT : SqL K T a (ns.map V.int) := by
    cases hk : K.lookup a with
    | none => exact .inl (.inr ⟨_, (if_neg aP).trans (if_pos ⟨rfl, hk⟩)⟩)
    | some u =>
      have e := KX a u hk
      rw [ha] at e
      cases e
      exact .inr ⟨_, vs.toArray, _, hk, rfl, rfl, rfl, by rw [List.size_toArray, ln]; exact hl, by simpa using rel⟩
  have inT : K.In (hidT s0.heap T) := fun b u e => hidT_get (KX b u e) (by
    cases q : T b with
    | none => rfl
    | some y =>
      by_cases hb : b ∈ ps
      · rw [(psE b hb).2.1] at e; cases e
      · obtain ⟨rfl, h2, _⟩ := T2 b hb y q
        rw [h2] at e; cases e)
  have nsT : ∀ {b : Addr} {m : Str → Option Value}, s0.heap.Ns b m → (hidT s0.heap T).Ns b m := fun {b m} ⟨u, es, ep, e, d, r⟩ => ⟨u, es, ep, hidT_get e (Tof b u e (by rw [d]; exact fun z => nomatch z) (by rw [d]; exact fun _ _ z => nomatch z)), d, r⟩
  have md : Mod K mg (hidT s0.heap T) := ⟨inT, nsT hns, ⟨mb, nsT hb, hbb⟩, let ⟨mc, y1, y2⟩ := hlim; ⟨mc, nsT y1, y2⟩⟩
  have tB : ∀ p ∈ ts, LamX.TabB (hidT s0.heap T) mg p.1 p.2 := fun p hp => by
    refine ⟨?_, ?_, ?_⟩
    · obtain ⟨o, us, file, tf, flags, tg, inF, text, tt, e1, r1, r2, r3, r⟩ := tC p hp
      refine ⟨o, us, file, tf, flags, tg, inF, text, tt, hidT_get e1 (Tof _ _ e1 (fun z => ?_) fun xs n z => ?_), r1, r2, r3, r⟩
      · rw [r2] at z; cases z; simp at r3
      · rw [r2] at z; cases z
    · obtain ⟨bm, ob, b1, b2, b3, b4, b5, b6⟩ := hbm
      refine ⟨bm, ob, b1, b2, fun z => ?_, fun z => ?_, hidT_get b3 (Tof _ _ b3 (by rw [b6]; exact fun z => nomatch z) (by rw [b6]; exact fun _ _ z => nomatch z)), b4, b5, b6⟩
      · obtain ⟨u, es, ep, e, d, _⟩ := hns
        rw [← z, b3] at e; cases e; rw [b6] at d; cases d
      · have e := tE p hp
        rw [← z, b3] at e; cases e; cases b6
    · intro z
      obtain ⟨u, es, ep, e, d, _⟩ := hns
      rw [z, tE p hp] at e; cases e; cases d
  have env : Env0 P w K mg (hidT s0.heap T) callerA [] s0 T := ⟨rfl, md, fun c u e => of_hidT e, Nat.le_of_eq (hidT_size _ _), trivial, fun c hc => absurd (show c ∈ ([] : List Addr) from hc) (by simp), okT, .of_eq hg⟩
  refine codeAny_mono ((F _ inT (nsT hns) tB).go callerA rfl hr [] s0 T ⟨[.ref a], []⟩ [.ref a] [.ref a] _ _ env (hbind s0 (.ref a)) (.cons rfl .nil) (hsp T (fun p hp => T1 _ (inP p hp)) sT)) fun r z h => ?_
  cases r with
  | error e => exact h.elim
  | ok fl =>
    cases fl with
    | next => exact h.elim
    | brk => exact h.elim
    | cont => exact h.elim
    | ret u =>
      obtain ⟨v, T', os, bare, unt, okT', rv, q⟩ := h
      have qq : v = .bl true := q
      subst qq
      obtain rfl : u = Value.bool true := rv
      have stays : ∀ b o, b ∉ ps → s0.heap.get? b = some o → z.heap.get? b = some o := fun b o nb e => by
        cases q1 : T b with
        | none => exact unt.keep b o e q1 (fun z1 => absurd (show b ∈ ([] : List Addr) from z1) (by simp)) (by simp)
        | some y =>
          obtain ⟨_, _, rfl⟩ := T2 b nb y q1
          obtain ⟨w1, _⟩ := okT b _ q1
          obtain ⟨w2, _⟩ := okT' b _ (unt.frzs b _ _ q1)
          rw [e] at w1; cases w1
          exact w2
      have grown : ∀ b ∈ ps, ∃ more : Array Value, z.heap.get? b = some { cls := .none, data := .fields (#[] ++ more) } := fun b hb => by
        obtain ⟨more, z1⟩ := unt.tbls b #[] (T1 b hb)
        exact ⟨more, okT' b _ z1⟩
      refine ⟨rfl, ⟨fun b o e => ?_, fun b o e => ?_⟩, os, bare⟩ <;> by_cases hb : b ∈ ps
      · obtain ⟨more, hm⟩ := grown b hb
        obtain ⟨e1, _, c, hc⟩ := psE b hb
        rw [e1] at e; cases e
        exact .inr (.inl ⟨(hc.tab e1).isCodeTable, rfl, #[], more, rfl, hm⟩)
      · exact .inl (stays b o hb e)
      · obtain ⟨more, hm⟩ := grown b hb
        exact ⟨_, hm⟩
      · exact ⟨o, stays b o hb e⟩
theorem walk_ofGT {l : PySem.W.OpenLaw} {n k : Nat} {q : Program} {loose : List Str} {XP : (Str → Option Value) → Heap → Prop} {YP : World → Heap → Prop} {d : DefRec} {x : Str} {xs : List Str}
    (most : l.most = some n) (most2 : n ≤ 63) (dfl : d.params.defaults = []) (hr : Room k callerA)
    (F : ∀ (w : World) (mg : Str → Option Value) (fa : Addr) (h : Heap), YP w h → h.Ns mainGlobals mg → mg d.name = some (.ref fa) →
      ∃ (K : PySem.W.Frag) (fd : FuncData), K.In h ∧ (∀ (s : Shared) (u : Value), BindsTo s fd ⟨[u], []⟩ [(x, u)]) ∧
        (∀ y ∈ xs, h.get? (tabP K y) = some { cls := .none, data := .fields #[] } ∧ K.lookup (tabP K y) = none ∧ PySem.W.CodeHd h (codP K y) (tabP K y)) ∧ (xs.map (tabP K)).Nodup ∧
        ∀ base : Heap, K.In base → base.Ns mainGlobals mg → Tabs K mg base xs → FnG l.prog w K mg base k fa fd [x] (spLawT K (tabsT K xs))) : PySem.W.WalkO q loose XP YP l.row.toRowW d [] (fun f vs => PySem.call f vs) := by
  refine Att.attach_call most dfl fun w s₀ s₁ mg mb fa o pm cd doc a vs ns G Y ho hd hcd hmg hobj hints hlen hg => ?_
  obtain ⟨K, fd, KX, hb, hx, nd, hF⟩ := F w mg fa _ Y G.T.g hmg
  have mem : ∀ p ∈ xs.map (fun y => (codP K y, tabP K y)), ∃ y ∈ xs, p = (codP K y, tabP K y) := fun p hp => by
    obtain ⟨y, hy, rfl⟩ := List.mem_map.mp hp
    exact ⟨y, hy, rfl⟩
  refine law_callGT (ts := xs.map fun y => (codP K y, tabP K y)) KX G.T.g G.T.b G.T.builtins G.T.nolimit hg (fun p hp => ?_) (fun p hp => ?_) (fun p hp => ?_) G.T.bmain hobj hints (by have := hlen; unfold sizeLine; omega) hr (fun base h1 h2 h3 => hF base h1 h2 ⟨nd, fun y hy => h3 _ (List.mem_map.mpr ⟨y, hy, rfl⟩)⟩) hb fun T h1 h2 => ⟨fun p hp => ?_, a, ns, rfl, h2, by omega, fun _ => rfl⟩
  · obtain ⟨y, hy, rfl⟩ := mem p hp; exact (hx y hy).1
  · obtain ⟨y, hy, rfl⟩ := mem p hp; exact (hx y hy).2.1
  · obtain ⟨y, hy, rfl⟩ := mem p hp; exact (hx y hy).2.2
  · obtain ⟨y, hy, rfl⟩ := List.mem_map.mp hp
    exact h1 _ (List.mem_map.mpr ⟨y, hy, rfl⟩)
end Pm
set_option Elab.async false
set_option linter.all false
set_option maxRecDepth 100000
set_option maxHeartbeats 2000000
set_option autoImplicit false
namespace Pm
open PySem PySem.Spec
open PyProof.Rows hiding St
open L2
theorem count_eqU {x : V} : ∀ {xs : List V} {us : List Value}, Vals xs us → xs.all flatV = true → us.countP (eqU x) = xs.countP fun y => eqV y x
  | _, _, .nil, _ => rfl
  | _, _, .cons (a := y) (l₁ := ys) r h, f => by
    have f2 : flatV y = true ∧ ys.all flatV = true := by simpa using f
    rw [List.countP_cons, List.countP_cons, count_eqU h f2.2, eqU_of r f2.1]
def rCntF (K : PySem.W.Frag) : V → List V → Hp → VK → Prop := fun x xs H Q => ∃ (p : Addr) (ys : List V) (y : V), x = .ref p ∧ xs = [y] ∧ SqL K H p ys ∧ flatV y = true ∧ ys.all flatV = true ∧ Q (.int (ys.countP (fun z => eqV z y) : Nat)) H
theorem mt_countF {X : Cx} : MtR X "list.count" (rCntF X.K) := by
  intro pins s σ H x xs v us Q I rx rxs h
  obtain ⟨p, ys, y, rfl, rfl, hs, fy, fys, q⟩ := h
  cases rx
  obtain ⟨u, rfl, ru⟩ := rxs.one
  obtain ⟨its, rv, ⟨⟨cls, dd, data, sl⟩, n, ho, hc, hdn, hd⟩, hlen⟩ := I.list hs
  simp only at hc hd
  subst hc hd
  refine call_meets PySem.F.slot_list_count ⟨_, ho, rfl⟩ PySem.F.entry_list_count (PySem.F.args_list_count_2 _ _) (SeqAt.list_countAt p its.toArray n dd sl u (eqU y))
    ⟨ho, fun z hz => mem_eqAt ru fy rv fys z (by simpa using hz), ?_⟩
  refine ⟨.int (ys.countP (fun z => eqV z y) : Nat), H, I.tok _, ⟨s.toks, ?_⟩, q⟩
  show Value.int ((its.toArray.toList.countP (eqU y) : Nat) : Int) s.toks = Value.int ((ys.countP fun z => eqV z y : Nat) : Int) s.toks
  rw [show its.toArray.toList = its from rfl, count_eqU rv fys]
section
variable {γ : Type} {X : Cx} {G : GP γ} {e o : Expr} {pos apos cpos : Pos}
theorem ats_bools {K : PySem.W.Frag} {Z : Hp} : ∀ {ns : List Bool} {vs : List V}, Ats K Z (ns.map D.bl) vs → vs = ns.map V.bl
  | [], vs, h => h
  | n :: ns, vs, ⟨w, ws, e, h1, h2⟩ => by
    subst e
    rw [show w = .bl n from h1, ats_bools h2]; rfl
theorem bools_flat (ns : List Bool) : (ns.map V.bl).all flatV = true := List.all_eq_true.mpr fun w hw => by obtain ⟨_, _, rfl⟩ := List.mem_map.mp hw; rfl
theorem bools_count (ns : List Bool) (k : Bool) : (ns.map V.bl).countP (fun z => eqV z (.bl k)) = ns.count k := by
  induction ns with
  | nil => rfl
  | cons n ns ih =>
    rw [List.map_cons, List.countP_cons, List.count_cons, ih]
    rfl
def qCntB (to te : PEx γ) : PEx γ := fun s R => to s fun d s1 => ∃ ns : List Bool, d = .lst (ns.map .bl) ∧ te s1 fun e s2 => ∃ k : Bool, e = .bl k ∧ R (.int (ns.count k : Nat)) s2
theorem qe_cntB {to te : PEx γ} (hn : QE X G o to) (he : QE X G e te) (hbase : attributeBase o "count" X.env (eval o X.env) = eval o X.env := by rfl)
    (hfew : ((backTo cpos (starEach [e] X.env)).all (fun x => !x.1) && (backToKw cpos (keywordEach [] X.env)).all (fun x => x.1.isSome)
      && decide (([e] : List Expr).length + ([] : List Keyword).length + (if ([] : List Keyword).isEmpty then 0 else 1) < 30)) = true := by rfl)
    (hline : (apos.endLine == cpos.line) = true := by rfl) (hs : starEach [e] X.env = (false, eval e X.env) :: starEach [] X.env := by rfl) (hplain : (backTo cpos (starEach [] X.env)).any (·.1) = false := by rfl) :
    QE X G (.Call (.Attribute o "count" apos) [e] [] cpos) (qCntB to te) := by
  refine PE.imp (pe_bm PySem.F.plainAttrs_list PySem.F.slot_list_count PySem.F.type_list_count mt_countF hn (pa_cons he pa_nil hs) hbase hfew hline hs hplain) fun σ H Q ⟨F, Z, s, R, r, t, q⟩ => ?_
  refine ⟨F, Z, s, _, r, t, fun d s1 Z1 v H1 ⟨ns, e1, t1⟩ k1 r1 a1 => ?_⟩
  subst e1
  obtain ⟨a, vs, rfl, h2, h3⟩ := (show ∃ a vs, v = V.ref a ∧ Z1 a = some (.lst vs) ∧ Ats G.K Z1 (ns.map .bl) vs by simpa only [At] using a1)
  obtain rfl := ats_bools h3
  refine ⟨own_ty (r1.z _ _ h2), F, Z1, s1, _, r1, t1, fun y s2 Z2 vy H2 ⟨k, e2, t2⟩ k2 r2 a2 => ?_⟩
  subst e2
  obtain rfl : vy = .bl k := a2
  refine ⟨a, ns.map V.bl, .bl k, rfl, rfl, SqL.of (r2.z _ _ (k2 _ _ h2)), rfl, bools_flat ns, ?_⟩
  rw [bools_count]
  exact q _ s2 Z2 _ H2 t2 (fun b c x => k2 _ _ (k1 _ _ x)) r2 rfl
def qIndexB (to te : PEx γ) : PEx γ := fun s R => to s fun d s1 => ∃ ns : List Bool, d = .lst (ns.map .bl) ∧ te s1 fun e s2 => ∃ (k : Bool) (j : Nat), e = .bl k ∧ ns[j]? = some k ∧ (∀ m : Nat, m < j → ns[m]? ≠ some k) ∧ R (.int (j : Nat)) s2
theorem qe_indexB {to te : PEx γ} (hn : QE X G o to) (he : QE X G e te) (hbase : attributeBase o "index" X.env (eval o X.env) = eval o X.env := by rfl)
    (hfew : ((backTo cpos (starEach [e] X.env)).all (fun x => !x.1) && (backToKw cpos (keywordEach [] X.env)).all (fun x => x.1.isSome)
      && decide (([e] : List Expr).length + ([] : List Keyword).length + (if ([] : List Keyword).isEmpty then 0 else 1) < 30)) = true := by rfl)
    (hline : (apos.endLine == cpos.line) = true := by rfl) (hs : starEach [e] X.env = (false, eval e X.env) :: starEach [] X.env := by rfl) (hplain : (backTo cpos (starEach [] X.env)).any (·.1) = false := by rfl) :
    QE X G (.Call (.Attribute o "index" apos) [e] [] cpos) (qIndexB to te) := by
  refine PE.imp (pe_bm PySem.F.plainAttrs_list PySem.F.slot_list_index PySem.F.type_list_index mt_index hn (pa_cons he pa_nil hs) hbase hfew hline hs hplain) fun σ H Q ⟨F, Z, s, R, r, t, q⟩ => ?_
  refine ⟨F, Z, s, _, r, t, fun d s1 Z1 v H1 ⟨ns, e1, t1⟩ k1 r1 a1 => ?_⟩
  subst e1
  obtain ⟨a, vs, rfl, h2, h3⟩ := (show ∃ a vs, v = V.ref a ∧ Z1 a = some (.lst vs) ∧ Ats G.K Z1 (ns.map .bl) vs by simpa only [At] using a1)
  obtain rfl := ats_bools h3
  refine ⟨own_ty (r1.z _ _ h2), F, Z1, s1, _, r1, t1, fun y s2 Z2 vy H2 ⟨k, j, e2, e3, e4, t2⟩ k2 r2 a2 => ?_⟩
  subst e2
  obtain rfl : vy = .bl k := a2
  refine ⟨a, ns.map V.bl, .bl k, j, .bl k, rfl, rfl, SqL.of (r2.z _ _ (k2 _ _ h2)), rfl, bools_flat ns, ?_, ?_, fun m z hm hz => ?_, q _ s2 Z2 _ H2 t2 (fun b c x => k2 _ _ (k1 _ _ x)) r2 rfl⟩
  · rw [List.getElem?_map, e3]; rfl
  · show (k == k) = true
    simp
  · rw [List.getElem?_map] at hz
    obtain ⟨n, hn, rfl⟩ := Option.map_eq_some_iff.mp hz
    show (n == k) = false
    rw [beq_eq_false_iff_ne]
    rintro rfl
    exact e4 m hm hn
end
theorem o_neH {X : Cx} (hu : X.A.units + 64 < cLine) : OpR X (compareOp .NotEq) (dOp2 X.K neD) := by
  intro pins s σ H x y v u Q I rx ry ⟨Z, d, e, R, k, ad, ae, h, q⟩
  rcases h.1.two with ⟨z1, z2, rfl, rfl⟩ | ⟨h1, h2, h3, h4⟩
  · simp only [At] at ad ae
    subst ad; subst ae
    refine op_ne pins s σ H _ _ v u Q I rx ry ⟨rfl, ?_⟩
    rw [str_dec]
    exact dk q k h.2 rfl
  · refine op_neD hu pins s σ H _ _ v u Q I rx ry ⟨d.py, e.py, At.dp k d x ad h1, At.dp k e y ae h2, shaped_py h1 h3, shaped_py h2 h4, ?_⟩
    rw [eqv_py d e h1 h2]
    exact dk q k h.2 rfl
end Pm
set_option Elab.async false
set_option linter.all false
set_option maxRecDepth 100000
set_option maxHeartbeats 2000000
set_option autoImplicit false
namespace Pm
open PySem PySem.Spec
open PyProof.Rows hiding St
open L2 TL
theorem ffD_pan {p : Pan} (h : PanOk 8 p) : ffD (panD p) = .non := by
  refine ffD_iff.mpr ⟨⟨by rw [List.length_map]; exact h.one, by rw [List.length_map]; exact h.top, by rw [List.length_map]; exact h.few⟩, fun k x hx => ?_, fun k y hy => ?_⟩
  · rw [List.getElem?_map] at hx
    obtain ⟨q, hq, rfl⟩ := Option.map_eq_some_iff.mp hx
    exact (itF_opt (os := [some q.1, some q.2])).mpr ⟨q.1, q.2, rfl, h.it q (List.mem_of_getElem? hq)⟩
  · rw [List.getElem?_map] at hy
    obtain ⟨q, hq, rfl⟩ := Option.map_eq_some_iff.mp hy
    rw [List.length_map]
    exact (ruF_opt (os := [some q.1, some q.2])).mpr ⟨q.1, q.2, rfl, h.ru q (List.mem_of_getElem? hq)⟩
end Pm
set_option Elab.async false
set_option linter.all false
set_option maxRecDepth 100000
set_option maxHeartbeats 2000000
set_option autoImplicit false
namespace Pm
open PySem PySem.Spec
open PyProof.Rows hiding St
open L2
theorem idx_last (A : List D) (z : D) : idx (A ++ [z]) (-1) = some z := by
  unfold idx
  rw [if_pos (by omega), if_pos (by simp; omega)]
  have : (-1 + ((A ++ [z]).length : Int)).toNat = A.length := by rw [List.length_append]; simp; omega
  rw [this]; simp
end Pm
set_option Elab.async false
set_option linter.all false
set_option maxRecDepth 100000
set_option maxHeartbeats 2000000
set_option autoImplicit false
namespace Pm
open PySem PySem.Spec
open PyProof.Rows hiding St
open L2
structure OeC (K : PySem.W.Frag) (C : Addr) : Prop where
  ex : ∃ (B newId initId : String) (bmB : List Value), ExcBaseFacts B newId initId bmB ∧ StoreFacts B bmB "object.__setattr__" "object" ∧ PySem.W.excInitIn K C bmB newId = true ∧ PySem.W.excOver K C bmB = true
  hd : PySem.W.hasDictIn K C = true
  sa : PySem.W.findIn K (.ref C) "__setattr__" = some (some (.builtin "object.__setattr__"))
  exC : PySem.W.subIn K (.ref C) (.type "BaseException") = some true
  tyC : PySem.W.typeIn K (.ref C) = some (.type "type")
  kC : PySem.W.keepIn K (.ref C) = true
theorem oe_ok {K : PySem.W.Frag} {C : Addr} (c : oeB K C = true) : OeC K C := by
  unfold oeB at c
  simp only [Bool.and_eq_true, Bool.or_eq_true, beq_iff_eq] at c
  obtain ⟨h, c1, c2, c3, c4, c5⟩ := c
  refine ⟨?_, c1, c2, c3, c4, c5⟩
  rcases h with h | h
  · exact ⟨_, _, _, _, PySem.F.excBase_ValueError, PySem.F.store_ValueError, h.1, h.2⟩
  · exact ⟨_, _, _, _, PySem.F.excBase_LookupError, PySem.F.store_LookupError, h.1, h.2⟩
section
open PySem.W PySem.Builtin PySem.Builtin.ObjectAttr PySem.Calls
variable {prog : Program} {w : World} {A : Around} {R : Result → Shared → Prop} {hp : Heap} {g : Array GenState} {d : PySem.Drawn} {t : Nat} {os : OsState}
theorem oe_osa0 {K : PySem.W.Frag} {name : Str} {tk : Tok} {v : Value} {x C : Addr} {fv : Array Value} (T : OeC K C) (X : K.In hp) (hx : hp.get? x = some { cls := .ref C, data := .fields fv }) (ha : PySem.W.findIn K (.ref C) name = some none)
    (hq : ∀ h' tk' dx, (∀ b o, b ≠ x → hp.get? b = some o → h'.get? b = some o) → hp.objs.size ≤ dx → dx ≠ x → h'.get? x = some { cls := .ref C, dict := some dx, data := .fields fv } →
      h'.Ns1 dx (fun y => if y = name then some v else none) → R (.ok (.ret .none)) ⟨h', g, d, tk', os⟩) :
    codeAny (model prog w) A (.call (.builtin "object.__setattr__") ⟨[.ref x, .str name tk, v], []⟩) R ⟨hp, g, d, t, os⟩ := by
  obtain ⟨B, newId, initId, bmB, F, SF, _, hov⟩ := T.ex
  have hxs : x ≠ hp.objs.size := Nat.ne_of_lt (Heap.lt_size hx)
  refine PySem.W.osa_openX (s := ⟨hp, g, d, t, os⟩) (od := none) SF X ⟨hx, rfl, rfl, trivial⟩ hov (r := none) (by unfold takerIn; rw [ha]; rfl) fun b => ?_
  obtain ⟨cd, hc, hd'⟩ := PySem.W.any_some T.hd
  have hcls : W.Looks (model prog w) hp (classData C) cd := W.looks_clsIn X hc
  obtain ⟨nm, bs, mro, ns, qn, hd, sn, sb, ab, col, del⟩ := cd
  dsimp only at hd'
  subst hd'
  show wpAny _ _ (storeInOwnDict (.ref x) (.ref C) (.str name tk) name v b) _ _ _
  unfold storeInOwnDict ownDictForStores
  repeat (first | with_reducible refine PySem.HandSPX.store_in_new ?_ ?_ | with_reducible refine wpAny_loadPart_at hx ?_ | with_reducible refine hcls.at ?_ | wp_step)
  · exact ⟨_, #[], _, (Heap.get?_update_ne _ _ _ _ hxs.symm).trans (Heap.get?_push_at rfl rfl), rfl, fun e he => absurd he (by simp), fun _ => rfl⟩
  · intro h' tk' hn' hs
    have hx₁ : (hp.push { cls := .type "dict", data := .dict #[] }).get? x = some { cls := .ref C, data := .fields fv } := Heap.get?_push_of_some _ hx
    refine hq h' tk' hp.objs.size (fun b o hb ho => ?_) (Nat.le_refl _) hxs.symm ?_ hn'
    · exact (hs.2 b (Nat.ne_of_lt (Heap.lt_size ho))).trans ((Heap.get?_update_ne _ _ _ _ hb).trans (Heap.get?_push_of_some _ ho))
    · exact (hs.2 x hxs).trans (Heap.get?_update_self _ hx₁ rfl)
theorem oe_osa1 {K : PySem.W.Frag} {name : Str} {tk : Tok} {v : Value} {x C dx : Addr} {fv : Array Value} {m0 : Str → Option Value} {nl : List Str} (T : OeC K C)
    (X : K.In hp) (hx : hp.get? x = some { cls := .ref C, dict := some dx, data := .fields fv }) (hns : hp.Ns1 dx m0) (hw : Within m0 nl) (hz : nl.length ≤ 1000) (ha : PySem.W.findIn K (.ref C) name = some none)
    (hq : ∀ h' tk', (∀ b o, b ≠ dx → hp.get? b = some o → h'.get? b = some o) → h'.Ns1 dx (fun y => if y = name then some v else m0 y) → R (.ok (.ret .none)) ⟨h', g, d, tk', os⟩) :
    codeAny (model prog w) A (.call (.builtin "object.__setattr__") ⟨[.ref x, .str name tk, v], []⟩) R ⟨hp, g, d, t, os⟩ := by
  obtain ⟨B, newId, initId, bmB, F, SF, _, hov⟩ := T.ex
  obtain ⟨oD, esD, epD, hoD, hdD, _⟩ := hns.count hw
  refine PySem.W.osa_openX (s := ⟨hp, g, d, t, os⟩) (od := some oD) SF X ⟨hx, rfl, rfl, hoD⟩ hov (r := none) (by unfold takerIn; rw [ha]; rfl) fun b => ?_
  obtain ⟨cd, hc, hd'⟩ := PySem.W.any_some T.hd
  have hcls : W.Looks (model prog w) hp (classData C) cd := W.looks_clsIn X hc
  obtain ⟨nm, bs, mro, ns, qn, hd, sn, sb, ab, col, del⟩ := cd
  dsimp only at hd'
  subst hd'
  show wpAny _ _ (storeInOwnDict (.ref x) (.ref C) (.str name tk) name v b) _ _ _
  unfold storeInOwnDict ownDictForStores
  repeat (first | with_reducible refine PySem.OEX.store_in_old hns hw hz ?_ | with_reducible refine wpAny_loadPart_at hx ?_ | with_reducible refine hcls.at ?_ | wp_step)
  intro h' tk' hn' hs
  exact hq h' tk' (fun b o hb ho => (hs.2 b hb).trans ho) hn'
end
section
variable {X : Cx} {pins : List (Addr × Obj)} {σ : L2.St} {H : Hp} {s : Shared} {a C dx : Addr} {f : Str} {y : V} {u : Value} {fs : List (Str × V)}
theorem Inv.dict0 {h' : Heap} {tk : Nat} {t1 : Addr} (I : L2.Inv X pins σ H s) (e : H a = some (exo a C none)) (k : ∀ b o, b ≠ a → s.heap.get? b = some o → h'.get? b = some o) (dn : s.heap.objs.size ≤ dx) (dne : dx ≠ a)
    (hx : h'.get? a = some ({ cls := .ref C, dict := some dx, data := .fields #[.ref t1, .none, .none, .none, .bool false, .none] } : Obj)) (hn : h'.Ns1 dx (fun z => if z = f then some u else none)) (ry : RelV y u) :
    H dx = none ∧ L2.Inv X pins σ (upd (upd H dx (exd dx [(f, y)])) a (exo a C (some dx))) { s with heap := h', toks := tk } := by
  have hnd : H dx = none := I.hok.fresh dn
  have ol : ∀ {b : Addr} {o : Obj}, s.heap.get? b = some o → b ≠ dx := fun {b o} q => Nat.ne_of_lt (Nat.lt_of_lt_of_le (Heap.lt_size q) dn)
  have na : ∀ {b : Addr}, H b = none → b ≠ a := fun {b} n z => by rw [z, e] at n; cases n
  have at2 : ∀ {b : Addr} {o : HO}, H b = some o → exo a C none ≠ o → upd (upd H dx (exd dx [(f, y)])) a (exo a C (some dx)) b = some o := fun {b o} q ne => by
    rw [upd_ne (at_ne e q ne), upd_ne (ne_of_none q hnd)]; exact q
  refine ⟨hnd, I.un ?_ fun b o q => ?_⟩
  · refine ⟨fun b o q n _ _ => k b o (na n) q, fun b o q n _ _ => ⟨o.slots, k b o (na n) q⟩, fun b o q n _ => ?_, fun b o q _ => ?_, fun b xs q => at2 q exo_tup, fun b o v q => at2 q exo_frz, fun b ps q => ⟨#[], by rw [at2 q exo_tbl]; simp⟩⟩
    · rw [upd_ne (na n), upd_ne (ol q)]; exact n
    · by_cases hb : b = a
      · exact ⟨_, by rw [hb]; exact hx⟩
      · exact ⟨o, k b o hb q⟩
  · by_cases hb : b = a
    · subst hb
      rw [upd_same] at q
      cases q
      exact exo_ok hx
    · rw [upd_ne hb] at q
      by_cases hd : b = dx
      · subst hd
        rw [upd_same] at q
        cases q
        exact exd_ok hn (relO_put (fs := []) ry fun _ => True.intro)
      · rw [upd_ne hd] at q
        refine (I.hok b o q).stay (fun c v hc z => k c v ?_ z) (fun c hc => at2 hc exo_own) (fun c xs hc => at2 hc exo_tup)
        rcases hc with hc | hc
        · rw [hc]; exact hb
        · exact at_ne e hc exo_own
theorem oe_new {Q : Unit → Shared → Prop} {E : Value → Shared → Prop} {A : Around} (T : OeC X.K C) (I : L2.Inv X pins σ H s) (e : H a = some (exo a C none)) (hno : PySem.W.findIn X.K (.ref C) f = some none) (ry : RelV y u)
    (h : ∀ dx s', H dx = none → dx ≠ a → L2.Inv X pins σ (upd (upd H dx (exd dx [(f, y)])) a (exo a C (some dx))) s' → Q () s') : wpAny (model X.prog X.w) A (setAttr (.ref a) f u) Q E s := by
  obtain ⟨t1, ho⟩ := exo_at I.hok e
  obtain ⟨hp, g, d, t, os⟩ := s
  refine PySem.W.set_plain I.kIn (ox := { cls := .ref C, dict := none, data := .fields #[.ref t1, .none, .none, .none, .bool false, .none] }) (od := none) ⟨ho, rfl, rfl, trivial⟩ T.sa ?_
  refine oe_osa0 T I.kIn ho hno fun h' tk' dx k dn dne hx hn => ?_
  obtain ⟨n, J⟩ := Inv.dict0 (tk := tk') I e k dn dne hx hn ry
  exact h dx _ n dne J
theorem oe_old {Q : Unit → Shared → Prop} {E : Value → Shared → Prop} {A : Around} (T : OeC X.K C) (I : L2.Inv X pins σ H s) (e : H a = some (exo a C (some dx))) (ed : H dx = some (exd dx fs)) (hl : fs.length ≤ 900) (hno : PySem.W.findIn X.K (.ref C) f = some none) (ry : RelV y u)
    (h : ∀ s', L2.Inv X pins σ (upd H dx (exd dx ((f, y) :: fs))) s' → Q () s') : wpAny (model X.prog X.w) A (setAttr (.ref a) f u) Q E s := by
  obtain ⟨t1, ho⟩ := exo_at I.hok e
  obtain ⟨mA, hns, rel⟩ := exd_at I.hok ed
  have hw := within_of rel
  obtain ⟨hp, g, d, t, os⟩ := s
  obtain ⟨oD, _, _, hoD, _, _⟩ := hns.count hw
  refine PySem.W.set_plain I.kIn (ox := { cls := .ref C, dict := some dx, data := .fields #[.ref t1, .none, .none, .none, .bool false, .none] }) (od := some oD) ⟨ho, rfl, rfl, hoD⟩ T.sa ?_
  refine oe_osa1 T I.kIn ho hns hw (by rw [List.length_map]; omega) hno fun h' tk' k hn => ?_
  obtain ⟨o', _, _, e', _⟩ := id hn
  exact h _ (I.write (t' := tk') (x := dx) (e := dx) (o := exd dx ((f, y) :: fs)) (by rw [ed]; exact True.intro) (.inl rfl) k ⟨o', e'⟩ (exd_ok hn (relO_put ry rel)))
end
def tOe (K : PySem.W.Frag) (f : Str) (to te : TE) : TS := fun D σ H => te σ H fun y H1 => to σ H1 fun x H2 => ∃ a C : Addr, x = .ref a ∧ OeC K C ∧ PySem.W.findIn K (.ref C) f = some none ∧
  ((H2 a = some (exo a C none) ∧ ∀ dx, H2 dx = none → dx ≠ a → D.nx σ (upd (upd H2 dx (exd dx [(f, y)])) a (exo a C (some dx)))) ∨
    ∃ (dx : Addr) (fs : List (Str × V)), H2 a = some (exo a C (some dx)) ∧ H2 dx = some (exd dx fs) ∧ fs.length ≤ 900 ∧ D.nx σ (upd H2 dx (exd dx ((f, y) :: fs))))
section
variable {X : Cx} {o e : Expr} {es : List Expr} {to te : TE} {ta : TA} {f : Str} {p p' p1 p2 pos : Pos}
theorem ps_oe (ho : PE X o to) (he : PE X e te) (hs : swapsWith e (some (.Attribute o f p')) pos.line X.env = pure false := by rfl) : PS X (.Assign [.Attribute o f p'] e pos) (tOe X.K f to te) := by
  refine ⟨fun pins s σ H D I h => ?_⟩
  refine plainObj_wpAny_Assign_Attribute (thn (he.run pins s σ H _ I h) fun v s1 ⟨y, H1, I1, r1, q1⟩ => thn (ho.run pins s1 σ H1 _ I1 q1) fun u s2 ⟨x, H2, I2, r2, a, C, ex, T, hno, q⟩ => ?_) hs
  subst ex
  obtain rfl : u = Value.ref a := r2
  rcases q with ⟨ea, q⟩ | ⟨dx, fs, ea, ed, hl, q⟩
  · exact oe_new T I2 ea hno r1 fun dx s' n ne J => ⟨σ, _, J, q dx n ne⟩
  · exact oe_old T I2 ea ed hl hno r1 fun s' J => ⟨σ, _, J, q⟩
end
def ObE (Z : Hp) (a C : Addr) (fs : List (Str × V)) : Prop := (Z a = some (ExO (.ref C) a) ∧ fs = []) ∨ ∃ d, Z a = some (exo a C (some d)) ∧ Z d = some (exd d fs)
theorem ObE.mono {Z Z' : Hp} {a C : Addr} {fs : List (Str × V)} (e : Same Z Z') (h : ObE Z a C fs) : ObE Z' a C fs := by
  rcases h with ⟨h, r⟩ | ⟨d, h1, h2⟩
  · exact .inl ⟨e _ _ h, r⟩
  · exact .inr ⟨d, e _ _ h1, e _ _ h2⟩
section
variable {X : Cx} {pins : List (Addr × Obj)} {σ : L2.St} {H : Hp} {s : Shared} {a C : Addr} {fs : List (Str × V)}
theorem ObE.inst (I : L2.Inv X pins σ H s) (h : ObE H a C fs) : ∃ oe od, PySem.W.InstAt s.heap a oe C od := by
  rcases h with ⟨h, _⟩ | ⟨d, h1, h2⟩
  · obtain ⟨⟨oe, vs, ho, hz, hd, _⟩, _, _⟩ := (show ObjOk X.prog X.w H s.heap a (ExO (.ref C) a) from I.hok a _ h)
    exact ⟨oe, none, ho, hz.1, by unfold PySem.W.notCls; rw [hd] <;> rfl, by rw [hz.2]; trivial⟩
  · obtain ⟨t, ho⟩ := exo_at I.hok h1
    obtain ⟨mA, hns, _⟩ := exd_at I.hok h2
    obtain ⟨od, ho2, _⟩ := lookIn_ns hns
    exact ⟨_, some od, ho, rfl, rfl, ho2⟩
end
def FsAt (K : PySem.W.Frag) (Z : Hp) (fs : List (Str × D)) (ws : List (Str × V)) : Prop := ws.map (·.1) = fs.map (·.1) ∧ Ats K Z (fs.map (·.2)) (ws.map (·.2))
section
variable {K : PySem.W.Frag} {Z Z' : Hp}
theorem FsAt.mono {fs : List (Str × D)} {ws : List (Str × V)} (e : Same Z Z') (h : FsAt K Z fs ws) : FsAt K Z' fs ws := ⟨h.1, Ats.mono e _ _ h.2⟩
end
abbrev EF := Str → List (Str × D) → Ad
variable {γ : Type}
section
variable {X : Cx} {G : GP γ} {x n : Str} {p p2 pos : Pos} {e : Expr} {es : List Expr}
def spInitL (C : Addr) (fl : List Str) : Sp := fun vs H Q _ => ∃ (a : Addr) (us : List V), vs = .ref a :: us ∧ us.length = fl.length ∧ H a = some (exo a C none) ∧ ∀ dx, H dx = none → dx ≠ a → Q .non (upd (upd H dx (exd dx (fl.zip us).reverse)) a (exo a C (some dx)))
structure DefE (X : Cx) (x : Str) (fl : List Str) : Prop where
  ex : ∃ C fI fd k ps, X.mg x = some (.ref C) ∧ OeC X.K C ∧ PySem.W.findIn X.K (.ref C) "__init__" = some (some (.ref fI)) ∧ PySem.W.typeIn X.K (.ref fI) = some (.type "function") ∧
    FnOk X.prog X.w X.K X.mg X.base CX0 k fI fd ps (spInitL C fl) ∧ Room (k + 1) X.A ∧ Binds X.K fd ps [] ∧ fl.length ≤ 1000
def qIsC (E : EF) (f : Str → Str → Option Bool) (xq ys : List Str) (t : PEx γ) : PEx γ := fun s R => t s fun d s1 => ∃ x fs b, d = .obj (E x fs) ∧ x ∈ xq ∧ isAny f x ys = some b ∧ ys.length ≤ sizeLine ∧ R (.bl b) s1
end
section
variable {P : Program} {w : World} {K : PySem.W.Frag} {mg : Str → Option Value} {base : Heap} {x qual n n2 : Str} {params : Arguments} {body : List Stmt} {scope : Scope} {f : Addr} {fd : FuncData} {N ps : List Str} {C : Addr}
theorem okInitE (F : FunD K x qual params body scope [] [] f fd) (S : FnScope N ps scope) (hp : ps.length = 2) (hN : 2 ≤ N.length) (T : OeC K C) (no : PySem.W.findIn K (.ref C) n = some none)
    (hb : ∀ (cdv : Value) (A : Around) (outer : List Env) (s : Shared) (H : Hp) (E : XK), PSs (cxOf CX0 P w K mg base N qual scope f cdv A outer s H E) body (tOe K n (tVar 0) (tVar 1))) : FnOk P w K mg base CX0 (0 + 1) f fd ps (spInitL C [n]) := by
  refine FunD.ok F S (fun vs H Q E h => ?_) (fun cdv A outer s H vs Q E hr h => ?_)
  · obtain ⟨a, us, rfl, hl, _⟩ := h
    rw [hp, List.length_cons, hl]; rfl
  · obtain ⟨a, us, rfl, hl, ha, q⟩ := h
    obtain ⟨v, rfl⟩ : ∃ v, us = [v] := by
      match us, hl with
      | [v], _ => exact ⟨v, rfl⟩
    refine ⟨_, hb cdv A outer s H E, ?_⟩
    exact ⟨v, rfl, .ref a, rfl, a, C, rfl, T, no, .inl ⟨ha, fun dx h1 h2 => q dx h1 h2⟩⟩
end
def GloE (P : Program) (w : World) (K : PySem.W.Frag) (mg : Str → Option Value) (base : Heap) (x : Str) (fl : List Str) : Prop :=
  ∃ C fI fd ps, mg x = some (.ref C) ∧ OeC K C ∧ PySem.W.findIn K (.ref C) "__init__" = some (some (.ref fI)) ∧ PySem.W.typeIn K (.ref fI) = some (.type "function") ∧
    FnOk P w K mg base CX0 1 fI fd ps (spInitL C fl) ∧ Binds K fd ps [] ∧ fl.length ≤ 1000
theorem GloE.at {X : Cx} {x : Str} {fl : List Str} {k : Nat} (g : GloE X.prog X.w X.K X.mg X.base x fl) (hr : Room k X.A) (h : 2 ≤ k := by decide) : DefE X x fl := by
  obtain ⟨C, fI, fd, ps, m, T, i, t, F, b, l⟩ := g
  exact ⟨C, fI, fd, 1, ps, m, T, i, t, F, hr.mono h, b, l⟩
theorem gloE_ok {P : Program} {w : World} {K : PySem.W.Frag} {mg : Str → Option Value} {base h : Heap} (X : K.In h) (G : h.Ns mainGlobals mg) {x : Str} {fl : List Str} {fd : FuncData} {ps : List Str} (c : initEB K x fl = true)
    (F : OeC K (He.ga K x) → (∀ n ∈ fl, PySem.W.findIn K (.ref (He.ga K x)) n = some none) → FnOk P w K mg base CX0 (0 + 1) (He.fAd K (x, some "__init__")) fd ps (spInitL (He.ga K x) fl)) (b : Binds K fd ps []) : GloE P w K mg base x fl := by
  unfold initEB at c
  simp only [Bool.and_eq_true, beq_iff_eq, List.all_eq_true, decide_eq_true_eq] at c
  obtain ⟨c1, c2, c3, c4, c5, c6⟩ := c
  exact ⟨He.ga K x, _, fd, ps, He.glo_ok X G c1, oe_ok c2, c3, c4, F (oe_ok c2) c5, b, c6⟩
end Pm
set_option Elab.async false
set_option linter.all false
set_option maxRecDepth 100000
set_option maxHeartbeats 1000000
set_option autoImplicit false
namespace Pm
open PySem PySem.Spec
open PyProof.Rows hiding St
open L2
def ftL (bs : List OB) (x : Addr) : Prop := ∃ ob ∈ bs, ftO ob x
structure BsOk (K : PySem.W.Frag) (Z H : Hp) (bs : List OB) : Prop where
  at_ : ∀ ob ∈ bs, ∃ vs, OJ K ob Z H vs
  apart : bs.Pairwise fun a b => ∀ x, ftO a x → ¬ ftO b x
section
variable {K : PySem.W.Frag} {Z Z' H H' : Hp} {bs bs1 bs2 : List OB} {ob ob' : OB}
theorem OJ.stay {vs : List (Str × V)} (j : OJ K ob Z H vs) (k : Same Z Z') (hk : ∀ a, ftO ob a → H' a = H a) : OJ K ob Z' H' vs :=
  ⟨(hk _ (.inl rfl)).trans j.ins, (hk _ (.inr (.inl rfl))).trans j.dxo, j.ne, j.fv.stay k fun a ha => hk _ (.inr (.inr ha)), j.nd, j.no, j.nx⟩
theorem OJ.live {vs : List (Str × V)} (j : OJ K ob Z H vs) {x : Addr} (h : ftO ob x) : ∃ o, H x = some o := by
  rcases h with rfl | rfl | c
  · exact ⟨_, j.ins⟩
  · exact ⟨_, j.dxo⟩
  · exact j.fv.live x c
theorem BsOk.stay (h : BsOk K Z H bs) (k : Same Z Z') (hk : ∀ a, ftL bs a → H' a = H a) : BsOk K Z' H' bs :=
  ⟨fun ob ho => let ⟨vs, j⟩ := h.at_ ob ho; ⟨vs, j.stay k fun a ha => hk a ⟨ob, ho, ha⟩⟩, h.apart⟩
theorem BsOk.live (h : BsOk K Z H bs) {x : Addr} (f : ftL bs x) : ∃ o, H x = some o := by
  obtain ⟨ob, ho, hx⟩ := f
  obtain ⟨vs, j⟩ := h.at_ ob ho
  exact j.live hx
theorem ftL_mid {x : Addr} : ftL (bs1 ++ ob :: bs2) x ↔ ftO ob x ∨ ftL (bs1 ++ bs2) x := by
  unfold ftL
  constructor
  · rintro ⟨b, hb, hx⟩
    rcases List.mem_append.mp hb with hb | hb
    · exact .inr ⟨b, List.mem_append.mpr (.inl hb), hx⟩
    · rcases List.mem_cons.mp hb with rfl | hb
      · exact .inl hx
      · exact .inr ⟨b, List.mem_append.mpr (.inr hb), hx⟩
  · rintro (hx | ⟨b, hb, hx⟩)
    · exact ⟨ob, by simp, hx⟩
    · refine ⟨b, ?_, hx⟩
      rcases List.mem_append.mp hb with hb | hb <;> simp [hb]
theorem BsOk.mid (h : BsOk K Z H (bs1 ++ ob :: bs2)) : (∃ vs, OJ K ob Z H vs) ∧ (∀ x, ftO ob x → ¬ ftL (bs1 ++ bs2) x) ∧ BsOk K Z H (bs1 ++ bs2) := by
  have p := List.pairwise_append.mp h.apart
  have q := List.pairwise_cons.mp p.2.1
  refine ⟨h.at_ ob (by simp), fun x hx ⟨b, hb, hy⟩ => ?_, fun b hb => h.at_ b ?_, List.pairwise_append.mpr ⟨p.1, q.2, fun a ha b hb => p.2.2 a ha b (List.mem_cons_of_mem _ hb)⟩⟩
  · rcases List.mem_append.mp hb with hb | hb
    · exact p.2.2 b hb ob List.mem_cons_self x hy hx
    · exact q.1 b hb x hx hy
  · rcases List.mem_append.mp hb with hb | hb <;> simp [hb]
theorem BsOk.unmid (h : BsOk K Z H (bs1 ++ bs2)) (j : ∃ vs, OJ K ob Z H vs) (d : ∀ x, ftO ob x → ¬ ftL (bs1 ++ bs2) x) : BsOk K Z H (bs1 ++ ob :: bs2) := by
  have p := List.pairwise_append.mp h.apart
  refine ⟨fun b hb => ?_, List.pairwise_append.mpr ⟨p.1, List.pairwise_cons.mpr ⟨fun b hb x hx hy => d x hx ⟨b, List.mem_append.mpr (.inr hb), hy⟩, p.2.1⟩, fun a ha b hb x hx hy => ?_⟩⟩
  · rcases List.mem_append.mp hb with hb | hb
    · exact h.at_ b (List.mem_append.mpr (.inl hb))
    · rcases List.mem_cons.mp hb with rfl | hb
      · exact j
      · exact h.at_ b (List.mem_append.mpr (.inr hb))
  · rcases List.mem_cons.mp hb with rfl | hb
    · exact d x hy ⟨a, List.mem_append.mpr (.inl ha), hx⟩
    · exact p.2.2 a ha b hb x hx hy
end
variable {γ : Type}
def gBk (G0 : GP γ) : GP (γ × List OB) where
  K := G0.K
  foot := fun g x => G0.foot g.1 x ∨ ftL g.2 x
  J := fun g Z H => G0.J g.1 Z H ∧ (∀ x, G0.foot g.1 x → ¬ ftL g.2 x) ∧ BsOk G0.K Z H g.2
  stay := fun g Z Z' H H' h k e => ⟨G0.stay _ _ _ _ _ h.1 k fun a ha => e a (.inl ha), h.2.1, h.2.2.stay k fun a ha => e a (.inr ha)⟩
  live := fun g Z H x h f => by
    rcases f with f | f
    · exact G0.live _ _ _ _ h.1 f
    · exact h.2.2.live f
  fl := G0.fl
structure AftB (K : PySem.W.Frag) (Z H : Hp) (bs : List OB) (Z' H' : Hp) (bs' : List OB) : Prop where
  zz : Same Z Z'
  zh : Same Z' H'
  keep : ∀ a o, H a = some o → ¬ ftL bs a → H' a = some o
  nw : ∀ a o, Z' a = some o → Z a = none → H a = none ∨ ftL bs a
  ok : BsOk K Z' H' bs'
  ft : ∀ a, ftL bs' a → Z' a = none ∧ (ftL bs a ∨ H a = none)
section
variable {G0 : GP γ} {F : Fra} {Z Z' : Hp} {s : S (γ × List OB)} {σ : L2.St} {H H' : Hp} {bs' : List OB}
theorem Rel.afterB (r : Rel (gBk G0) F Z s σ H) (a : AftB G0.K Z H s.g.2 Z' H' bs') : Rel (gBk G0) F Z' ⟨s.ρ, (s.g.1, bs')⟩ σ H' := by
  obtain ⟨j1, j2, j3⟩ := r.j
  refine r.afterW a.zz a.zh (fun b o e n => a.keep b o e fun h => n (.inr h)) (fun b o e n => (a.nw b o e n).imp id .inr) ⟨G0.stay _ _ _ _ _ j1 a.zz fun b hb => ?_, fun b hb hf => ?_, a.ok⟩ fun b hb => ?_
  · obtain ⟨o, e⟩ := G0.live _ _ _ _ j1 hb
    rw [e]; exact a.keep b o e (j2 b hb)
  · rcases (a.ft b hf).2 with h | h
    · exact j2 b hb h
    · obtain ⟨o, e⟩ := G0.live _ _ _ _ j1 hb
      rw [h] at e; cases e
  · rcases hb with hb | hb
    · refine ⟨?_, .inl (.inl hb)⟩
      cases e : Z' b with
      | none => rfl
      | some o =>
        obtain ⟨u, e2⟩ := G0.live _ _ _ _ j1 hb
        rcases a.nw b o e (r.zf b (.inl hb)) with h | h
        · rw [h] at e2; cases e2
        · exact (j2 b hb h).elim
    · exact ⟨(a.ft b hb).1, (a.ft b hb).2.imp .inr id⟩
end
abbrev SpecB := List D → List OB → (D → List OB → Prop) → (Xc → List OB → Prop) → Prop
def spBX (K : PySem.W.Frag) (mg : Str → Option Value) (f : SpecB) : Sp := fun vs H Q E => ∃ Z ds bs R W, Same Z H ∧ Ats K Z ds vs ∧ BsOk K Z H bs ∧ (∀ a, ftL bs a → Z a = none) ∧ f ds bs R W ∧
  (∀ d bs' Z' v H', R d bs' → AftB K Z H bs Z' H' bs' → At K Z' d v → Q v H') ∧
  ∀ x bs' Z' cls d H', W x bs' → AftB K Z H bs Z' H' bs' → XcAt K mg Z' x cls d → E cls d H'
section
variable {P : Program} {w : World} {K : PySem.W.Frag} {mg : Str → Option Value} {base : Heap}
theorem okBX {x qual : Str} {st : Stmt} {f : Addr} {fd : FuncData} {N ps : List Str} {k : Nat} {kws : List (Str × V)} (F : FunD K x qual (defArgs st) (defBody st) (defScope st) [] kws f fd) (S : FnScope N ps (defScope st)) {fs : SpecB} (len : ∀ ds bs R W, fs ds bs R W → ds.length = ps.length)
    (body : ∃ t : PSXx (Unit × List OB), (∀ (cdv : Value) (A : Around) (outer : List Env) (s : Shared) (H : Hp) (E : XK), Room k (A.deeper (envOfC qual (defScope st) s.heap.objs.size f cdv)) →
      QSXs (cxOf (L2N.CX P w) P w K mg base N qual (defScope st) f cdv A outer s H E) (gBk (none0 K)) (fun cls d _ H => E cls d H) (defBody st) t) ∧ ∀ ds bs R W, fs ds bs R W → t (fun x s => W x s.g.2) { nx := fun s => R .non s.g.2, rt := fun d g => R d g.2 } ⟨startL N.length ds, ((), bs)⟩) :
    FnOk P w K mg base (L2N.CX P w) (k + 1) f fd ps (spBX K mg fs) := by
  refine FunD.ok F S (fun vs H Q E h => ?_) (fun cdv A outer s H vs Q E hr h => ?_)
  · obtain ⟨Z, ds, bs, R, W, _, a, _, _, h, _⟩ := h
    rw [a.len]; exact len _ _ _ _ h
  · obtain ⟨t, hb, hp⟩ := body
    refine ⟨_, hb cdv A outer s H E hr, ?_⟩
    obtain ⟨Z, ds, bs, R, W, k, a, jb, hzf, h, q, ex⟩ := h
    have hl : ps.length ≤ N.length := by have := congrArg List.length S.pre; rw [List.length_take] at this; omega
    have hd := len _ _ _ _ h
    classical
    have hF : ∀ (b : Addr) (o : HO), (if ftL bs b then none else H b) = some o → H b = some o ∧ ¬ ftL bs b := fun b o e => by
      by_cases hb : ftL bs b
      · rw [if_pos hb] at e; cases e
      · rw [if_neg hb] at e; exact ⟨e, hb⟩
    let F0 : Fra := ⟨fun b => if ftL bs b then none else H b, fun b => H b ≠ none ∧ Z b = none ∧ ¬ ftL bs b, fun b hb => by
      simp only [if_neg hb.2.2]; exact Option.ne_none_iff_exists'.mp hb.1⟩
    have fin : ∀ {s' : Pm.S (Unit × List OB)} {Z' : Hp} {σ' : L2.St} {H' : Hp}, Same Z Z' → Rel (gBk (none0 K)) F0 Z' s' σ' H' → AftB K Z H bs Z' H' s'.g.2 := fun {s' Z' σ' H'} k' r' => by
      refine ⟨k', r'.z, fun b o e n => r'.f b o (by show (if ftL bs b then none else H b) = some o; rw [if_neg n]; exact e), fun b o e n => ?_, r'.j.2.2, fun b hb => ⟨r'.zf b (.inr hb), ?_⟩⟩
      · cases hb : H b with
        | none => exact .inl rfl
        | some u =>
          by_cases hf : ftL bs b
          · exact .inr hf
          · have := r'.zb b ⟨by rw [hb]; simp, n, hf⟩
            rw [e] at this; cases this
      · by_cases hf : ftL bs b
        · exact .inl hf
        · refine .inr ?_
          have : (if ftL bs b then none else H b) = none := r'.ff b (.inr hb)
          rw [if_neg hf] at this
          exact this
    refine ⟨F0, Z, _, _, _, ?_, hp ds bs R W h, ?_, ?_, ?_, ?_, ?_⟩
    · refine ⟨k, fun b o e => (hF b o e).1, fun b hb => hb.2.1, ?_, fun i d e => ?_, fun i l e ol => ?_, fun i j l m b n e1 o1 e2 => ?_, ⟨trivial, fun _ z => False.elim z, jb⟩, fun b z => ?_, fun b z => ?_, fun _ _ z => by cases z⟩
      · unfold L2.start startL
        simp only [List.length_append, List.length_map, List.length_replicate, a.len]
      · obtain ⟨d', e', v, h1, h2⟩ := start_at a e
        cases e'
        exact ⟨v, h1, h2⟩
      · obtain ⟨d', e', _⟩ := start_at a e
        subst e'; cases ol
      · obtain ⟨d', e', _⟩ := start_at a e1
        subst e'; cases o1
      · rcases z with z | z
        · exact False.elim z
        · exact hzf b z
      · rcases z with z | z
        · exact False.elim z
        · exact if_pos z
    · intro s' Z' σ' H' q' k' r'
      exact q .non _ Z' .non H' q' (fin k' r') rfl
    · intro d s' Z' σ' v H' q' k' r' a'
      exact q d _ Z' v H' q' (fin k' r') a'
    · intro s' Z' σ' H' q'; exact q'.elim
    · intro s' Z' σ' H' q'; exact q'.elim
    · intro x s' Z' σ' cls d H' q' k' r' a'
      exact ex x _ Z' cls d H' q' (fin k' r') a'
end
def tMB (C : Addr) (m : Str) (sp : Sp) (E : L2.St → XK) (to : TE) (t : TA) : TE := fun σ H Q => to σ H fun y H1 => ∃ (a dx : Addr) (fs : List (Str × V)), y = .ref a ∧ H1 a = some (.ins C dx fs) ∧
  fs.lookup m = none ∧ t σ H1 fun us H2 => sp (y :: us) H2 Q (E σ)
section
variable {X : Cx} {CX : CXT} {k : Nat} {C f : Addr} {fd : FuncData} {ps : List Str} {sp : Sp} {E : L2.St → XK} {m x : Str} {o e : Expr} {es : List Expr} {to : TE} {t : TA} {p pos apos : Pos}
theorem pe_mb {pl : Sem Bool} (ho : PE X o to) (c : Cls X.K C) (M : Meth X.K C m f) (F : FnOk X.prog X.w X.K X.mg X.base CX k f fd ps sp) (hr : Room k X.A) (hb : Binds X.K fd ps []) (pa : ∀ σ, PassesAt CX X σ (E σ)) (ha : PA X (e :: es) t)
    (hst : starEach (e :: es) X.env = (false, eval e X.env) :: starEach es X.env := by rfl) (hpl : (backTo pos (starEach es X.env)).any (·.1) = false := by rfl)
    (ht : eval (.Call (.Attribute o m apos) (e :: es) [] pos) X.env = (do
      let ov ← eval o X.env
      standAt apos.atName
      let (f, first) ← holding [ov] (getMethod ov m pl)
      callWith pos f first (backTo pos (starEach (e :: es) X.env)) (backToKw pos (keywordEach [] X.env))) := by rfl) :
    PE X (.Call (.Attribute o m apos) (e :: es) [] pos) (tMB C m sp E to t) := by
  refine ⟨fun pins s σ H Q I h => ?_⟩
  refine PySem.W.methodCall_KW (pl := pl) (thn (ho.run pins s σ H _ I h) fun u s1 hh => ?_) ht
  obtain ⟨y, H1, I1, ry, a, dx, fs, ey, ea, l, q⟩ := hh
  subst ey
  obtain rfl : u = Value.ref a := ry
  refine getmeth_ok I1 ea c M l ?_
  refine PySem.W.callWith_K (h₀ := X.base) (first := [.ref a]) I.ok.mod.kin M.kp (thn (ha.run pos pins s1 σ H1 _ I1 q) fun us s2 hh => ?_) hst hpl
  obtain ⟨vs, H2, I2, r, q2⟩ := hh
  exact ⟨I2.kIn, run_fnS (vs := .ref a :: vs) (us := .ref a :: us) F hr hb (pa σ) I2 (.cons rfl r) q2⟩
theorem pe_mb0 {pl : Sem Bool} (ho : PE X o to) (c : Cls X.K C) (M : Meth X.K C m f) (F : FnOk X.prog X.w X.K X.mg X.base CX k f fd ps sp) (hr : Room k X.A) (hb : Binds X.K fd ps []) (pa : ∀ σ, PassesAt CX X σ (E σ))
    (ht : eval (.Call (.Attribute o m apos) [] [] pos) X.env = (do
      let ov ← eval o X.env
      standAt apos.atName
      let (f, first) ← holding [ov] (getMethod ov m pl)
      callWith pos f first (backTo pos (starEach [] X.env)) (backToKw pos (keywordEach [] X.env))) := by rfl) :
    PE X (.Call (.Attribute o m apos) [] [] pos) (tMB C m sp E to tNil) := by
  refine ⟨fun pins s σ H Q I h => ?_⟩
  refine PySem.W.methodCall_KW (pl := pl) (thn (ho.run pins s σ H _ I h) fun u s1 hh => ?_) ht
  obtain ⟨y, H1, I1, ry, a, dx, fs, ey, ea, l, q⟩ := hh
  subst ey
  obtain rfl : u = Value.ref a := ry
  refine getmeth_ok I1 ea c M l ?_
  exact PySem.W.callWith_K0 I1.kIn (first := [.ref a]) M.kp (run_fnS (vs := [.ref a]) (us := [.ref a]) F hr hb (pa σ) I1 (.cons rfl .nil) q)
end
structure DefMX (X : Cx) (C : Addr) (m : Str) (n : Nat) (sp : Sp) : Prop where
  ex : ∃ f fd k ps, FnOk X.prog X.w X.K X.mg X.base (L2N.CX X.prog X.w) k f fd ps sp ∧ Room k X.A ∧ Meth X.K C m f ∧ Binds X.K fd ps [] ∧ ps.length = n
def GloMX (P : Program) (w : World) (K : PySem.W.Frag) (mg : Str → Option Value) (base : Heap) (C : Addr) (m : Str) (n : Nat) (sp : Sp) (k : Nat) : Prop :=
  ∃ f fd ps, FnOk P w K mg base (L2N.CX P w) k f fd ps sp ∧ Meth K C m f ∧ Binds K fd ps [] ∧ ps.length = n
theorem GloMX.at {X : Cx} {C : Addr} {m : Str} {n : Nat} {sp : Sp} {j k : Nat} (g : GloMX X.prog X.w X.K X.mg X.base C m n sp j) (hr : Room k X.A) (h : j ≤ k := by decide) : DefMX X C m n sp := by
  obtain ⟨f, fd, ps, F, m, b, e⟩ := g
  exact ⟨f, fd, j, ps, F, hr.mono h, m, b, e⟩
structure DefCX (X : Cx) (C : Addr) (x : Str) (n : Nat) (sp : Sp) : Prop where
  ex : ∃ f fd k ps, FnOk X.prog X.w X.K X.mg X.base (L2N.CX X.prog X.w) k f fd ps sp ∧ Room (k + 1) X.A ∧ Mk X.K C f ∧ X.mg x = some (.ref C) ∧ Binds X.K fd ps [] ∧ ps.length = n
def GloCX (P : Program) (w : World) (K : PySem.W.Frag) (mg : Str → Option Value) (base : Heap) (C : Addr) (x : Str) (n : Nat) (sp : Sp) (k : Nat) : Prop :=
  ∃ f fd ps, FnOk P w K mg base (L2N.CX P w) k f fd ps sp ∧ Mk K C f ∧ mg x = some (.ref C) ∧ Binds K fd ps [] ∧ ps.length = n
theorem GloCX.at {X : Cx} {C : Addr} {x : Str} {n : Nat} {sp : Sp} {j k : Nat} (g : GloCX X.prog X.w X.K X.mg X.base C x n sp j) (hr : Room k X.A) (h : j + 1 ≤ k := by decide) : DefCX X C x n sp := by
  obtain ⟨f, fd, ps, F, m, z, b, e⟩ := g
  exact ⟨f, fd, j, ps, F, hr.mono h, m, z, b, e⟩
theorem ats_o {K : PySem.W.Frag} {Z : Hp} {o : Addr} {xs : List D} {vs : List V} (a : Ats K Z xs vs) : Ats K Z (.obj o :: xs) (.ref o :: vs) := ⟨_, _, rfl, rfl, a⟩
abbrev bkR {A : Type} (R : A → S (γ × List OB) → Prop) (s : S (γ × List OB)) : A → List OB → Prop := fun z bs => R z ⟨s.ρ, (s.g.1, bs)⟩
def qCallI (f : SpecB) (t : PAx (γ × List OB)) : PEXx (γ × List OB) := fun w s R => t s fun xs s1 => f xs s1.g.2 (bkR R s1) (bkR w s1)
def qMethI (C : Addr) (m : Str) (f : SpecB) (td : PEx (γ × List OB)) (t : PAx (γ × List OB)) : PEXx (γ × List OB) := fun w s R => td s fun d s1 => ∃ bs1 ob bs2, s1.g.2 = bs1 ++ ob :: bs2 ∧ d = .obj ob.o ∧ ob.C = C ∧ ob.fs.lookup m = none ∧
  t s1 fun xs s2 => f (.obj ob.o :: xs) s2.g.2 (bkR R s2) (bkR w s2)
def qMakeI (C : Addr) (f : SpecB) (t : PAx (γ × List OB)) : PEXx (γ × List OB) := fun w s R => t s fun xs s1 => ∀ o dx : Addr, f (.obj o :: xs) (⟨o, C, dx, []⟩ :: s1.g.2) (fun d bs => d = .non ∧ R (.obj o) ⟨s1.ρ, (s1.g.1, bs)⟩) (bkR w s1)
abbrev nx0 (t : PEXx γ) : PEx γ := t fun _ _ => False
section
variable {X : Cx} {G0 : GP γ} {W : WX} {C : Addr} {x m : Str} {n : Nat} {f : SpecB} {e o : Expr} {es : List Expr} {t : PAx (γ × List OB)} {td : PEx (γ × List OB)} {p pos apos : Pos}
theorem lcallI {σ : L2.St} {H : Hp} {Q : VK} {E : XK} {F : Fra} {Z : Hp} {s : S (γ × List OB)} {R : D → S (γ × List OB) → Prop} {w : XW (γ × List OB)} {xs : List D} {vs : List V} (r : Rel (gBk G0) F Z s σ H) (a : Ats G0.K Z xs vs) (t1 : f xs s.g.2 (bkR R s) (bkR w s))
    (q : ∀ d s' Z' v H', R d s' → Same Z Z' → Rel (gBk G0) F Z' s' σ H' → At G0.K Z' d v → Q v H') (ex : ∀ y s' Z' cls d H', w y s' → Same Z Z' → Rel (gBk G0) F Z' s' σ H' → XcAt G0.K X.mg Z' y cls d → E cls d H') : spBX G0.K X.mg f vs H Q E :=
  ⟨Z, xs, s.g.2, _, _, r.z, a, r.j.2.2, fun a h => r.zf a (.inr h), t1, fun d bs' Z' v H' hR af av => q d _ Z' v H' hR af.zz (r.afterB af) av, fun y bs' Z' cls d H' hW af ax => ex y _ Z' cls d H' hW af.zz (r.afterB af) ax⟩
theorem qex_callI (d : DefX X x n (spBX G0.K X.mg f)) (tk : L2N.Takes X W) (hg : Gl X x) (ha : QA X (gBk G0) (e :: es) t) (hdb : (x == ("__debug__" : Str)) = false := by decide) (he : starEach (e :: es) X.env = (false, eval e X.env) :: starEach es X.env := by rfl) (hpl : (backTo pos (starEach es X.env)).any (·.1) = false := by rfl) :
    QEX X (gBk G0) W (.Call (.Name x p) (e :: es) [] pos) (qCallI f t) := by
  obtain ⟨fa, fd, k, ps, F, hr, hm, hk, hb, _⟩ := d.ex
  refine PE.imp (L2.pe_callS F hr hg hm hk hb (fun σ => L2N.passAt tk σ) ha hdb he hpl) fun σ H Q ⟨F, Z, s, R, w, r, t, q, ex⟩ => ?_
  refine ⟨F, Z, s, _, r, t, fun xs s1 Z1 vs H1 t1 k1 r1 a1 => ?_⟩
  exact lcallI r1 a1 t1 (fun d s' Z' v H' h k => q d s' Z' v H' h (k1.trans k)) fun y s' Z' cls d H' h k => ex y s' Z' cls d H' h (k1.trans k)
theorem qe_callI (d : DefX X x n (spBX G0.K X.mg f)) (hg : Gl X x) (ha : QA X (gBk G0) (e :: es) t) (hdb : (x == ("__debug__" : Str)) = false := by decide) (he : starEach (e :: es) X.env = (false, eval e X.env) :: starEach es X.env := by rfl) (hpl : (backTo pos (starEach es X.env)).any (·.1) = false := by rfl) :
    QE X (gBk G0) (.Call (.Name x p) (e :: es) [] pos) (nx0 (qCallI f t)) := by
  obtain ⟨fa, fd, k, ps, F, hr, hm, hk, hb, _⟩ := d.ex
  refine PE.imp (pe_call F hr hg hm hk hb .nil passLN ha hdb he hpl) fun σ H Q ⟨F, Z, s, R, r, t, q⟩ => ?_
  refine ⟨F, Z, s, _, r, t, fun xs s1 Z1 vs H1 t1 k1 r1 a1 => ?_⟩
  exact lcallI r1 (by rw [List.append_nil]; exact a1) t1 (fun d s' Z' v H' h k => q d s' Z' v H' h (k1.trans k)) fun y s' Z' cls d H' h k => False.elim h
theorem qex_methI {pl : Sem Bool} (d : DefMX X C m n (spBX G0.K X.mg f)) (c : Cls X.K C) (tk : L2N.Takes X W) (ho : QE X (gBk G0) o td) (ha : QA X (gBk G0) (e :: es) t)
    (hst : starEach (e :: es) X.env = (false, eval e X.env) :: starEach es X.env := by rfl) (hpl : (backTo pos (starEach es X.env)).any (·.1) = false := by rfl)
    (ht : eval (.Call (.Attribute o m apos) (e :: es) [] pos) X.env = (do
      let ov ← eval o X.env
      standAt apos.atName
      let (f, first) ← holding [ov] (getMethod ov m pl)
      callWith pos f first (backTo pos (starEach (e :: es) X.env)) (backToKw pos (keywordEach [] X.env))) := by rfl) :
    QEX X (gBk G0) W (.Call (.Attribute o m apos) (e :: es) [] pos) (qMethI C m f td t) := by
  obtain ⟨fa, fd, k, ps, F, hr, hm, hb, _⟩ := d.ex
  refine PE.imp (pe_mb ho c hm F hr hb (fun σ => L2N.passAt tk σ) ha hst hpl ht) fun σ H Q ⟨F, Z, s, R, w, r, t, q, ex⟩ => ?_
  refine ⟨F, Z, s, _, r, t, fun d s1 Z1 v H1 t1 k1 r1 a1 => ?_⟩
  obtain ⟨bs1, ob, bs2, e1, rfl, rfl, hl, t1⟩ := t1
  obtain rfl : v = .ref ob.o := a1
  obtain ⟨vs, j⟩ := r1.j.2.2.at_ ob (by rw [e1]; simp)
  refine ⟨ob.o, ob.dx, vs, rfl, j.ins, j.fv.none hl, F, Z1, s1, _, r1, t1, fun xs s2 Z2 us H2 t2 k2 r2 a2 => ?_⟩
  exact lcallI r2 (ats_o a2) t2 (fun d s' Z' v H' h k => q d s' Z' v H' h (k1.trans (k2.trans k))) fun y s' Z' cls d H' h k => ex y s' Z' cls d H' h (k1.trans (k2.trans k))
theorem qe_methI {pl : Sem Bool} (d : DefMX X C m n (spBX G0.K X.mg f)) (c : Cls X.K C) (ho : QE X (gBk G0) o td) (ha : QA X (gBk G0) (e :: es) t)
    (hst : starEach (e :: es) X.env = (false, eval e X.env) :: starEach es X.env := by rfl) (hpl : (backTo pos (starEach es X.env)).any (·.1) = false := by rfl)
    (ht : eval (.Call (.Attribute o m apos) (e :: es) [] pos) X.env = (do
      let ov ← eval o X.env
      standAt apos.atName
      let (f, first) ← holding [ov] (getMethod ov m pl)
      callWith pos f first (backTo pos (starEach (e :: es) X.env)) (backToKw pos (keywordEach [] X.env))) := by rfl) :
    QE X (gBk G0) (.Call (.Attribute o m apos) (e :: es) [] pos) (nx0 (qMethI C m f td t)) := by
  obtain ⟨fa, fd, k, ps, F, hr, hm, hb, _⟩ := d.ex
  refine PE.imp (pe_meth ho c hm F hr hb .nil passLN ha hst hpl ht) fun σ H Q ⟨F, Z, s, R, r, t, q⟩ => ?_
  refine ⟨F, Z, s, _, r, t, fun d s1 Z1 v H1 t1 k1 r1 a1 => ?_⟩
  obtain ⟨bs1, ob, bs2, e1, rfl, rfl, hl, t1⟩ := t1
  obtain rfl : v = .ref ob.o := a1
  obtain ⟨vs, j⟩ := r1.j.2.2.at_ ob (by rw [e1]; simp)
  refine ⟨ob.o, ob.dx, vs, rfl, j.ins, j.fv.none hl, F, Z1, s1, _, r1, t1, fun xs s2 Z2 us H2 t2 k2 r2 a2 => ?_⟩
  exact lcallI r2 (by rw [List.append_nil]; exact ats_o a2) t2 (fun d s' Z' v H' h k => q d s' Z' v H' h (k1.trans (k2.trans k))) fun y s' Z' cls d H' h k => False.elim h
theorem qex_methI0 {pl : Sem Bool} (d : DefMX X C m n (spBX G0.K X.mg f)) (c : Cls X.K C) (tk : L2N.Takes X W) (ho : QE X (gBk G0) o td)
    (ht : eval (.Call (.Attribute o m apos) [] [] pos) X.env = (do
      let ov ← eval o X.env
      standAt apos.atName
      let (f, first) ← holding [ov] (getMethod ov m pl)
      callWith pos f first (backTo pos (starEach [] X.env)) (backToKw pos (keywordEach [] X.env))) := by rfl) :
    QEX X (gBk G0) W (.Call (.Attribute o m apos) [] [] pos) (qMethI C m f td qNil) := by
  obtain ⟨fa, fd, k, ps, F, hr, hm, hb, _⟩ := d.ex
  refine PE.imp (pe_mb0 ho c hm F hr hb (fun σ => L2N.passAt tk σ) ht) fun σ H Q ⟨F, Z, s, R, w, r, t, q, ex⟩ => ?_
  refine ⟨F, Z, s, _, r, t, fun d s1 Z1 v H1 t1 k1 r1 a1 => ?_⟩
  obtain ⟨bs1, ob, bs2, e1, rfl, rfl, hl, t1⟩ := t1
  obtain rfl : v = .ref ob.o := a1
  obtain ⟨vs, j⟩ := r1.j.2.2.at_ ob (by rw [e1]; simp)
  refine ⟨ob.o, ob.dx, vs, rfl, j.ins, j.fv.none hl, ?_⟩
  exact lcallI r1 (ats_o (xs := []) (vs := []) rfl) t1 (fun d s' Z' v H' h k => q d s' Z' v H' h (k1.trans k)) fun y s' Z' cls d H' h k => ex y s' Z' cls d H' h (k1.trans k)
theorem qe_methI0 {pl : Sem Bool} (d : DefMX X C m n (spBX G0.K X.mg f)) (c : Cls X.K C) (ho : QE X (gBk G0) o td)
    (ht : eval (.Call (.Attribute o m apos) [] [] pos) X.env = (do
      let ov ← eval o X.env
      standAt apos.atName
      let (f, first) ← holding [ov] (getMethod ov m pl)
      callWith pos f first (backTo pos (starEach [] X.env)) (backToKw pos (keywordEach [] X.env))) := by rfl) :
    QE X (gBk G0) (.Call (.Attribute o m apos) [] [] pos) (nx0 (qMethI C m f td qNil)) := by
  obtain ⟨fa, fd, k, ps, F, hr, hm, hb, _⟩ := d.ex
  refine PE.imp (pe_meth0 ho c hm F hr hb .nil passLN ht) fun σ H Q ⟨F, Z, s, R, r, t, q⟩ => ?_
  refine ⟨F, Z, s, _, r, t, fun d s1 Z1 v H1 t1 k1 r1 a1 => ?_⟩
  obtain ⟨bs1, ob, bs2, e1, rfl, rfl, hl, t1⟩ := t1
  obtain rfl : v = .ref ob.o := a1
  obtain ⟨vs, j⟩ := r1.j.2.2.at_ ob (by rw [e1]; simp)
  refine ⟨ob.o, ob.dx, vs, rfl, j.ins, j.fv.none hl, ?_⟩
  exact lcallI r1 (ats_o (xs := []) (vs := []) rfl) t1 (fun d s' Z' v H' h k => q d s' Z' v H' h (k1.trans k)) fun y s' Z' cls d H' h k => False.elim h
theorem Rel.madeB {F : Fra} {Z : Hp} {s : S (γ × List OB)} {σ : L2.St} {H : Hp} (r : Rel (gBk G0) F Z s σ H) {o dx : Addr} (h1 : H o = none) (h2 : H dx = none) (ne : dx ≠ o) :
    Rel (gBk G0) F Z ⟨s.ρ, (s.g.1, ⟨o, C, dx, []⟩ :: s.g.2)⟩ σ (upd (upd H dx (.own o)) o (.ins C dx [])) ∧ Same H (upd (upd H dx (.own o)) o (.ins C dx [])) := by
  have k : Same H (upd (upd H dx (.own o)) o (.ins C dx [])) := (same_upd (o := HO.own o) h2).trans (same_upd (by rw [upd_ne ne.symm]; exact h1))
  have st : ∀ {b : Addr} {u : HO}, H b = some u → upd (upd H dx (.own o)) o (.ins C dx []) b = H b := fun {b u} e => by
    rw [k _ _ e, e]
  obtain ⟨j1, j2, j3⟩ := r.j
  have fresh : ∀ b, ftO ⟨o, C, dx, []⟩ b → H b = none := fun b hb => by
    rcases hb with rfl | rfl | c
    · exact h1
    · exact h2
    · cases c
  have jn : BsOk G0.K Z (upd (upd H dx (.own o)) o (.ins C dx [])) (⟨o, C, dx, []⟩ :: s.g.2) := by
    refine BsOk.unmid (bs1 := []) (j3.stay (Same.refl _) fun a ha => ?_) ⟨[], upd_same, by show upd _ o _ dx = _; rw [upd_ne ne]; exact upd_same, ne, rfl, List.nodup_nil, List.not_mem_nil, List.not_mem_nil⟩ fun b hb hf => ?_
    · obtain ⟨u, e⟩ := j3.live ha
      exact st e
    · obtain ⟨u, e⟩ := j3.live hf
      rw [fresh b hb] at e; cases e
  refine ⟨⟨r.z.trans k, r.f.trans k, r.zb, r.len, r.loc, fun i l h ol => ?_, r.injL, ⟨G0.stay _ _ _ _ _ j1 (Same.refl _) fun a ha => ?_, fun b hb hf => ?_, jn⟩, fun a h => ?_, fun a h => ?_, r.fl⟩, k⟩
  · obtain ⟨a, vs, g1, g2, g3, g4, g5, g6⟩ := r.ownL i l h ol
    refine ⟨a, vs, g1, k _ _ g2, g3, g4, g5, ?_⟩
    rintro (hf | hf)
    · exact g6 (.inl hf)
    · rcases (ftL_mid (bs1 := [])).mp hf with hf | hf
      · rw [fresh a hf] at g2; cases g2
      · exact g6 (.inr hf)
  · obtain ⟨u, e⟩ := G0.live _ _ _ _ j1 ha
    exact st e
  · rcases (ftL_mid (bs1 := [])).mp hf with hf | hf
    · obtain ⟨u, e⟩ := G0.live _ _ _ _ j1 hb
      rw [fresh b hf] at e; cases e
    · exact j2 b hb hf
  · rcases h with h | h
    · exact r.zf a (.inl h)
    · rcases (ftL_mid (bs1 := [])).mp h with h | h
      · exact r.z.free (fresh a h)
      · exact r.zf a (.inr h)
  · rcases h with h | h
    · exact r.ff a (.inl h)
    · rcases (ftL_mid (bs1 := [])).mp h with h | h
      · exact r.f.free (fresh a h)
      · exact r.ff a (.inr h)
theorem qe_makeI (d : DefCX X C x n (spBX G0.K X.mg f)) (hg : Gl X x) (ha : QA X (gBk G0) (e :: es) t) (hdb : (x == ("__debug__" : Str)) = false := by decide) (he : starEach (e :: es) X.env = (false, eval e X.env) :: starEach es X.env := by rfl) (hpl : (backTo pos (starEach es X.env)).any (·.1) = false := by rfl) :
    QE X (gBk G0) (.Call (.Name x p) (e :: es) [] pos) (nx0 (qMakeI C f t)) := by
  obtain ⟨fa, fd, k, ps, F, hr, M, hm, hb, _⟩ := d.ex
  refine PE.imp (pe_make M F hr hg hm hb .nil passLN ha hdb he hpl) fun σ H Q ⟨F, Z, s, R, r, t, q⟩ => ?_
  refine ⟨F, Z, s, _, r, t, fun xs s1 Z1 vs H1 t1 k1 r1 a1 => fun o dx h1 h2 ne => ?_⟩
  obtain ⟨r2, k2⟩ := r1.madeB (C := C) h1 h2 ne
  refine lcallI r2 (by rw [List.append_nil]; exact ats_o a1) (R := fun d s' => d = .non ∧ R (.obj o) s') (t1 o dx) (fun d s' Z' v H' h k r' a' => ?_) fun y s' Z' cls d H' h k => False.elim h
  obtain ⟨rfl, h⟩ := h
  exact ⟨a', q (.obj o) s' Z' _ H' h (k1.trans k) r' rfl⟩
end
def qCallN (f : Spec γ) (t : PAx (γ × List OB)) : PEx (γ × List OB) := fun s R => t s fun xs s1 => f xs s1.g.1 fun z g' => R z ⟨s1.ρ, (g', s1.g.2)⟩
def putFV (f : Str) (x : FV) : List (Str × FV) → List (Str × FV)
  | [] => [(f, x)]
  | (g, y) :: fs => if g = f then (f, x) :: fs else (g, y) :: putFV f x fs
theorem FvsAt.putF {K : PySem.W.Frag} {Z H : Hp} {f : Str} {x : FV} {v : V} (hx : FvAt K Z H x v) : ∀ {fs : List (Str × FV)} {vs : List (Str × V)}, FvsAt K Z H fs vs → FvsAt K Z H (putFV f x fs) (L2.putF f v vs)
  | [], vs, h => by
    rw [show vs = [] from h]
    exact ⟨v, [], rfl, hx, rfl⟩
  | (g, y) :: fs, vs, ⟨u, r, e, h1, h2⟩ => by
    subst e
    by_cases hg : g = f
    · simp only [putFV, L2.putF, if_pos hg]
      subst hg
      exact ⟨v, r, rfl, hx, h2⟩
    · simp only [putFV, L2.putF, if_neg hg]
      exact ⟨u, _, rfl, h1, FvsAt.putF hx h2⟩
theorem ownsF_putV {f : Str} {d : D} : ∀ fs : List (Str × FV), (ownsF (putFV f (.val d) fs)).Sublist (ownsF fs)
  | [] => .slnil
  | (g, y) :: fs => by
    by_cases hg : g = f
    · simp only [putFV, if_pos hg]
      cases y with
      | val _ => exact List.Sublist.refl _
      | own b _ => exact List.sublist_cons_self b _
    · simp only [putFV, if_neg hg]
      cases y with
      | val _ => exact ownsF_putV fs
      | own b _ => exact (ownsF_putV fs).cons_cons b
theorem ownsF_putO {f : Str} {a : Addr} {ds : List D} : ∀ fs : List (Str × FV), ∀ x ∈ ownsF (putFV f (.own a ds) fs), x = a ∨ x ∈ ownsF fs
  | [], x, h => by
    have h : x ∈ [a] := h
    exact .inl (List.mem_singleton.mp h)
  | (g, y) :: fs, x, h => by
    by_cases hg : g = f
    · simp only [putFV, if_pos hg] at h
      rcases List.mem_cons.mp (show x ∈ a :: ownsF fs from h) with h | h
      · exact .inl h
      · exact .inr (ownsF_cons h)
    · simp only [putFV, if_neg hg] at h
      cases y with
      | val _ => exact (ownsF_putO fs x h)
      | own b bs =>
        rcases List.mem_cons.mp (show x ∈ b :: ownsF (putFV f (.own a ds) fs) from h) with h | h
        · exact .inr (by rw [h]; exact List.mem_cons_self)
        · exact (ownsF_putO fs x h).imp id fun h => List.mem_cons_of_mem _ h
theorem ownsF_putN {f : Str} {a : Addr} {ds : List D} : ∀ fs : List (Str × FV), (ownsF fs).Nodup → a ∉ ownsF fs → (ownsF (putFV f (.own a ds) fs)).Nodup
  | [], _, _ => List.nodup_cons.mpr ⟨List.not_mem_nil, List.nodup_nil⟩
  | (g, y) :: fs, nd, na => by
    have na' : a ∉ ownsF fs := fun h => na (ownsF_cons h)
    by_cases hg : g = f
    · simp only [putFV, if_pos hg]
      refine List.nodup_cons.mpr ⟨na', ?_⟩
      cases y with
      | val _ => exact nd
      | own b _ => exact (List.nodup_cons.mp nd).2
    · simp only [putFV, if_neg hg]
      cases y with
      | val _ => exact ownsF_putN fs nd na'
      | own b _ =>
        obtain ⟨n1, n2⟩ := List.nodup_cons.mp nd
        refine List.nodup_cons.mpr ⟨fun h => ?_, ownsF_putN fs n2 na'⟩
        rcases ownsF_putO fs b h with h | h
        · exact na (by rw [h]; exact List.mem_cons_self)
        · exact n1 h
def qFI (C : Addr) (f : Str) (td : PEx (γ × List OB)) : PEx (γ × List OB) := fun s R => td s fun d s1 => ∃ bs1 ob bs2 x, s1.g.2 = bs1 ++ ob :: bs2 ∧ d = .obj ob.o ∧ ob.C = C ∧ ob.fs.lookup f = some (.val x) ∧ R x s1
def xFSet (C : Addr) (f : Str) (tv : PEXx (γ × List OB)) (td : PEx (γ × List OB)) : PSXx (γ × List OB) := fun w E s => tv w s fun dv s1 => td s1 fun d s2 => ∃ bs1 ob bs2, s2.g.2 = bs1 ++ ob :: bs2 ∧ d = .obj ob.o ∧ ob.C = C ∧ ob.fs.length < 1000 ∧
  E.nx ⟨s2.ρ, (s2.g.1, bs1 ++ { ob with fs := putFV f (.val dv) ob.fs } :: bs2)⟩
def xFNew (C : Addr) (f : Str) (tv : PAx (γ × List OB)) (td : PEx (γ × List OB)) : PSXx (γ × List OB) := fun w E s => tv s fun ds s1 => td s1 fun d s2 => ∃ bs1 ob bs2, s2.g.2 = bs1 ++ ob :: bs2 ∧ d = .obj ob.o ∧ ob.C = C ∧ ob.fs.length < 1000 ∧
  ∀ a : Addr, E.nx ⟨s2.ρ, (s2.g.1, bs1 ++ { ob with fs := putFV f (.own a ds) ob.fs } :: bs2)⟩
def xe0 (t : PEx γ) : PEXx γ := fun _ => t
theorem qex_of {X : Cx} {G : GP γ} {W : WX} {e : Expr} {t : PEx γ} (h : QE X G e t) : QEX X G W e (xe0 t) := PE.imp h fun σ H Q ⟨F, Z, s, R, w, r, t, q, _⟩ => ⟨F, Z, s, R, r, t, q⟩
section
variable {X : Cx} {G0 : GP γ} {W : WX} {C : Addr} {f : Str} {o value : Expr} {td : PEx (γ × List OB)} {pos tpos : Pos}
theorem qe_fI (c : Cls X.K C) (n : NoAttr X.K C f) (ho : QE X (gBk G0) o td) (hb : attributeBase o f X.env (eval o X.env) = eval o X.env := by rfl) : QE X (gBk G0) (.Attribute o f pos) (qFI C f td) := by
  refine PE.imp (pe_fld ho hb) fun σ H Q ⟨F, Z, s, R, r, t, q⟩ => ?_
  refine ⟨F, Z, s, _, r, t, fun d s1 Z1 v H1 t1 k1 r1 a1 => ?_⟩
  obtain ⟨bs1, ob, bs2, x, e1, rfl, rfl, e3, t1⟩ := t1
  obtain rfl : v = .ref ob.o := a1
  obtain ⟨vs, j⟩ := r1.j.2.2.at_ ob (by rw [e1]; simp)
  obtain ⟨u, e4, e5⟩ := j.fv.get e3
  exact ⟨ob.o, ob.C, ob.dx, vs, u, rfl, j.ins, c, n, e4, q _ s1 Z1 _ H1 t1 k1 r1 e5⟩
theorem qsx_fSet {tv : PEXx (γ × List OB)} (c : Cls X.K C) (n : NoAttr X.K C f) (hv : QEX X (gBk G0) W value tv) (ho : QE X (gBk G0) o td) (hs : swapsWith value (some (.Attribute o f tpos)) pos.line X.env = pure false := by rfl) :
    QSX X (gBk G0) W (.Assign [.Attribute o f tpos] value pos) (xFSet C f tv td) := by
  refine PS.imp (ps_fld ho hv hs) fun De σ H ⟨F, Z, s, E, w, r, t, nx, _, _, _, ex⟩ => ?_
  refine ⟨F, Z, s, _, w, r, t, fun dv s1 Z1 v H1 t1 k1 r1 a1 => ?_, fun y s' Z' cls d H' h k r' a' => ex y s' Z' σ cls d H' h k r' a'⟩
  refine ⟨F, Z1, s1, _, r1, t1, fun d s2 Z2 x H2 t2 k2 r2 a2 => ?_⟩
  obtain ⟨bs1, ob, bs2, e1, rfl, rfl, e4, t2⟩ := t2
  obtain rfl : x = .ref ob.o := a2
  obtain ⟨j1, j2, j3⟩ := r2.j
  rw [e1] at j3
  obtain ⟨⟨vs, j⟩, dj, jr⟩ := j3.mid
  have sub : ∀ y, ftO { ob with fs := putFV f (.val dv) ob.fs } y → ftO ob y := fun y hy => by
    rcases hy with hy | hy | hy
    · exact .inl hy
    · exact .inr (.inl hy)
    · exact .inr (.inr ((ownsF_putV ob.fs).subset hy))
  have hf : (gBk G0).foot s2.g ob.o := .inr (by rw [e1]; exact ftL_mid.mpr (.inl (.inl rfl)))
  refine ⟨ob.o, ob.C, ob.dx, vs, rfl, j.ins, c, n, by rw [j.fv.len]; exact e4, ?_⟩
  refine nx _ Z2 _ _ t2 (k1.trans k2) (r2.writeB hf _ ⟨G0.stay _ _ _ _ _ j1 (Same.refl _) fun a ha => upd_ne fun z => j2 ob.o (by rw [← z]; exact ha) (by rw [e1]; exact ftL_mid.mpr (.inl (.inl rfl))), fun b hb hl => ?_, ?_⟩ fun b hb => ?_)
  · refine j2 b hb ?_
    rw [e1]
    exact ftL_mid.mpr ((ftL_mid.mp hl).imp (sub b) id)
  · refine BsOk.unmid (jr.stay (Same.refl _) fun a ha => upd_ne fun z => dj a (by rw [z]; exact .inl rfl) ha) ⟨_, upd_same, (upd_ne j.ne).trans j.dxo, j.ne, FvsAt.putF (x := .val dv) (v := v) (show FvAt _ _ _ (.val dv) v from At.mono k2 _ _ a1) (j.fv.stay (Same.refl _) fun a ha => upd_ne fun z => j.no (by rw [← z]; exact ha)), (ownsF_putV ob.fs).nodup j.nd, fun h => j.no ((ownsF_putV ob.fs).subset h), fun h => j.nx ((ownsF_putV ob.fs).subset h)⟩ fun b hb => dj b (sub b hb)
  · rcases hb with hb | hb
    · exact .inl hb
    · refine .inr ?_
      rw [e1]
      exact ftL_mid.mpr ((ftL_mid.mp hb).imp (sub b) id)
theorem qsx_fNew {tv : PAx (γ × List OB)} (c : Cls X.K C) (n : NoAttr X.K C f) (hv : QF X (gBk G0) value tv) (ho : QE X (gBk G0) o td) (hs : swapsWith value (some (.Attribute o f tpos)) pos.line X.env = pure false := by rfl) :
    QSX X (gBk G0) W (.Assign [.Attribute o f tpos] value pos) (xFNew C f tv td) := by
  refine PS.imp (ps_fld ho hv hs) fun De σ H ⟨F, Z, s, E, w, r, t, nx, _⟩ => ?_
  refine ⟨F, Z, s, _, r, t, fun ds s1 Z1 a us H1 t1 k1 r1 h1 a1 hz hF hf hn => ?_⟩
  have rb := r1.bar h1 hz hf hn
  refine ⟨F.bar a (.lst us), Z1, s1, _, rb, t1, fun d s2 Z2 x H2 t2 k2 r2 a2 => ?_⟩
  obtain ⟨bs1, ob, bs2, e1, rfl, rfl, e4, t2⟩ := t2
  obtain rfl : x = .ref ob.o := a2
  obtain ⟨b1, b2, b3, b4, r3⟩ := r2.unbar (o' := .lst us) hF
  have hu : upd H2 a (.lst us) = H2 := by
    funext b
    by_cases hb : b = a
    · subst hb; rw [upd_same, b1]
    · rw [upd_ne hb]
  rw [hu] at r3
  obtain ⟨j1, j2, j3⟩ := r3.j
  rw [e1] at j3
  obtain ⟨⟨vs, j⟩, dj, jr⟩ := j3.mid
  have nf : ∀ y, (gBk G0).foot s2.g y → y ≠ a := fun y hy z => b3 (by rw [← z]; exact hy)
  have fo : ∀ y, ftO ob y → y ≠ a := fun y hy => nf y (.inr (by rw [e1]; exact ftL_mid.mpr (.inl hy)))
  have sub : ∀ y, ftO { ob with fs := putFV f (.own a ds) ob.fs } y → ftO ob y ∨ y = a := fun y hy => by
    rcases hy with hy | hy | hy
    · exact .inl (.inl hy)
    · exact .inl (.inr (.inl hy))
    · rcases ownsF_putO ob.fs y hy with h | h
      · exact .inr h
      · exact .inl (.inr (.inr h))
  have hf : (gBk G0).foot s2.g ob.o := .inr (by rw [e1]; exact ftL_mid.mpr (.inl (.inl rfl)))
  refine ⟨ob.o, ob.C, ob.dx, vs, rfl, j.ins, c, n, by rw [j.fv.len]; exact e4, ?_⟩
  refine nx _ Z2 _ _ (t2 a) (k1.trans k2) (r3.writeN (p := ob.o) (a := a) hf _ b2 hF b4 ⟨G0.stay _ _ _ _ _ j1 (Same.refl _) fun y hy => upd_ne fun z => j2 ob.o (by rw [← z]; exact hy) (by rw [e1]; exact ftL_mid.mpr (.inl (.inl rfl))), fun b hb hl => ?_, ?_⟩ fun b hb => ?_)
  · rcases ftL_mid.mp hl with h | h
    · rcases sub b h with h | h
      · exact j2 b hb (by rw [e1]; exact ftL_mid.mpr (.inl h))
      · exact nf b (.inl hb) h
    · exact j2 b hb (by rw [e1]; exact ftL_mid.mpr (.inr h))
  · refine BsOk.unmid (jr.stay (Same.refl _) fun y hy => upd_ne fun z => dj y (by rw [z]; exact .inl rfl) hy) ⟨_, upd_same, (upd_ne j.ne).trans j.dxo, j.ne, FvsAt.putF (x := .own a ds) (v := .ref a) (show FvAt _ _ _ (.own a ds) (.ref a) from ⟨rfl, us, (upd_ne (fo ob.o (.inl rfl)).symm).trans b1, Ats.mono k2 _ _ a1⟩) (j.fv.stay (Same.refl _) fun y hy => upd_ne fun z => j.no (by rw [← z]; exact hy)), ownsF_putN ob.fs j.nd (fun h => fo a (.inr (.inr h)) rfl), fun h => ?_, fun h => ?_⟩ fun b hb hl => ?_
    · rcases ownsF_putO ob.fs _ h with h | h
      · exact fo ob.o (.inl rfl) h
      · exact j.no h
    · rcases ownsF_putO ob.fs _ h with h | h
      · exact fo ob.dx (.inr (.inl rfl)) h
      · exact j.nx h
    · rcases sub b hb with h | h
      · exact dj b h hl
      · exact nf b (.inr (by rw [e1]; exact ftL_mid.mpr (.inr hl))) h
  · rcases hb with hb | hb
    · exact .inl (.inl hb)
    · rcases ftL_mid.mp hb with h | h
      · rcases sub b h with h | h
        · exact .inl (.inr (by rw [e1]; exact ftL_mid.mpr (.inl h)))
        · exact .inr h
      · exact .inl (.inr (by rw [e1]; exact ftL_mid.mpr (.inr h)))
end
end Pm
set_option Elab.async false
set_option linter.all false
set_option maxRecDepth 100000
set_option maxHeartbeats 2000000
set_option autoImplicit false
namespace Pm
open PySem PySem.Spec
open PyProof.Rows hiding St
open L2
variable {γ : Type}
section
variable {X : Cx} {e : Expr} {es : List Expr} {p pos : Pos} {ta : TA}
theorem pmk_oe {CX : CXT} {x : Str} {C fI : Addr} {k : Nat} {fd : FuncData} {ps : List Str} {sp : Sp} (T : OeC X.K C) (iC : PySem.W.findIn X.K (.ref C) "__init__" = some (some (.ref fI))) (tI : PySem.W.typeIn X.K (.ref fI) = some (.type "function"))
    (F1 : FnOk X.prog X.w X.K X.mg X.base CX k fI fd ps sp) (hr : Room (k + 1) X.A) (hb : Binds X.K fd ps []) (hx : Passes CX X (fun _ _ _ => False)) (hg : Gl X x) (hm : X.mg x = some (.ref C)) (ha : PA X (e :: es) ta)
    (hdb : (x == ("__debug__" : Str)) = false := by decide) (he : starEach (e :: es) X.env = (false, eval e X.env) :: starEach es X.env := by rfl) (hpl : (backTo pos (starEach es X.env)).any (·.1) = false := by rfl) :
    L2N.PMk X (.Call (.Name x p) (e :: es) [] pos) (tMkO C sp [] ta) := by
  intro pins s σ H Q I h
  obtain ⟨B, newId, initId, bmB, FB, _, hin, _⟩ := T.ex
  refine wpAny_Call_Name_kw (ld_glob I hg hm ?_ hdb)
  refine PySem.W.callWith_K (h₀ := X.base) I.ok.mod.kin T.kC (thn (ha.run pos pins s σ H _ I h) fun us s1 hh => ?_) he hpl
  obtain ⟨vs, H1, I1, r1, hz, q1⟩ := hh
  refine ⟨I1.kIn, ?_⟩
  show wpAny (model X.prog X.w) X.A (call (.ref C) us) _ _ _
  obtain ⟨hp, g, dr, tk, os⟩ := s1
  obtain ⟨nm, N, qn, bs, bm, hdct, sn, sub, ab, col, dd, k0, k1, k2, k3, k5, hC, hbm⟩ := PySem.W.excInit_of I1.kIn hin
  have hsz : hp.objs.size ≤ hp.objs.size + 1 := Nat.le_succ _
  have hn : H1 (hp.objs.size + 1) = none := I1.hok.fresh hsz
  have hq := q1 (hp.objs.size + 1) hn
  rw [List.append_nil] at hq
  have kk : ∀ b o, hp.get? b = some o → ((hp.push (PySem.W.kdv_tup us)).push (PySem.HandSPX.excO C hp.objs.size)).get? b = some o := fun b o z => Heap.get?_push_of_some _ (Heap.get?_push_of_some _ z)
  have hget : ((hp.push (PySem.W.kdv_tup us)).push (PySem.HandSPX.excO C hp.objs.size)).get? (hp.objs.size + 1) = some (PySem.HandSPX.excO C hp.objs.size) := by heap_get
  have I2 : L2.Inv X pins σ (upd H1 (hp.objs.size + 1) (exo (hp.objs.size + 1) C none)) ⟨(hp.push (PySem.W.kdv_tup us)).push (PySem.HandSPX.excO C hp.objs.size), g, dr, tk, os⟩ :=
    I1.laid (t' := tk) (a := hp.objs.size + 1) (o := exo (hp.objs.size + 1) C none) (h' := (hp.push (PySem.W.kdv_tup us)).push (PySem.HandSPX.excO C hp.objs.size)) kk hsz (exo_ok hget)
  have r2 : Vals (V.ref (hp.objs.size + 1) :: vs) (Value.ref (hp.objs.size + 1) :: us) := .cons rfl r1
  have hl : (Value.ref (hp.objs.size + 1) :: us ++ []).length = ps.length := by
    rw [List.append_nil]
    exact r2.length.symm.trans (F1.len _ _ _ _ hq)
  have hus : us.length ≤ sizeLine := by
    rw [← Paired.length r1, sizeLine_eq]
    omega
  refine wpAny_call (PySem.HandSPX.call_own FB hbm hC (PySem.W.looks_findIn I1.kIn iC) (fun self => PySem.W.bind_fn I1.kIn self tI) hus
    (codeAny_mono (F1.run _ X.stack _ _ ⟨Value.ref (hp.objs.size + 1) :: us, []⟩ (Value.ref (hp.objs.size + 1) :: us) _ _ (fun _ _ _ => False) (hr.make C us []) (I2.env0.make C us []) (by have := hb _ (Value.ref (hp.objs.size + 1) :: us) I2.kIn hl; rwa [List.append_nil] at this) r2 hq) fun r s' hq' => ?_))
  cases r with
  | error er => exact hx pins σ _ _ er s' I2 hq'
  | ok fl =>
    cases fl with
    | next => exact False.elim hq'
    | brk => exact False.elim hq'
    | cont => exact False.elim hq'
    | ret u =>
      obtain ⟨v, H2, os2, bare2, un2, hok2, rv, ev, d, fs, ea, ed, hd1, q2⟩ := hq'
      subst ev
      obtain ⟨h2, g2, d2, t2, os'⟩ := s'
      exact ⟨rv, mk_endN (raises_own T.exC T.tyC) I1 hsz kk un2 hok2 os2 bare2 ea ed hd1 q2⟩
end
theorem qsx_raiseE {X : Cx} {G : GP γ} {W : WX} {x n : Str} {e : Expr} {te : PEx γ} {p p2 pos : Pos} (hc : X.calm = true) (tk : L2N.Takes X W) (I : DefE X x [n]) (hg : Gl X x) (he : QE X G e te) (hdb : (x == ("__debug__" : Str)) = false := by decide) (hs : starEach [e] X.env = (false, eval e X.env) :: starEach [] X.env := by rfl) (hpl : (backTo p2 (starEach [] X.env)).any (·.1) = false := by rfl) (hpr : n ≠ "path reason" := by decide) :
    QSX X G W (.Raise (some (.Call (.Name x p) [e] [] p2)) none pos) (xRaiseF x n te) := by
  obtain ⟨C, fI, fd, k, ps, m1, T, iC, tI, F1, hr, hb, _⟩ := I.ex
  refine PS.imp (L2N.ps_raise hc tk (pmk_oe T iC tI F1 hr hb pass0 hg m1 (pa_cons he pa_nil hs) hdb hs hpl)) fun De σ H ⟨F, Z, s, E, w, r, t, _, _, _, _, ex⟩ => ?_
  refine ⟨F, Z, s, _, r, t, fun d s1 Z1 v H1 t1 k1 r1 a1 => ⟨by show 1 ≤ 1000; decide, fun a ha => ⟨a, [v], rfl, rfl, upd_same, fun dx hx hne => ⟨rfl, dx, [(n, v)], upd_same, ?_, ?_, ?_⟩⟩⟩⟩
  · rw [upd_ne hne]; exact upd_same
  · rw [upd_ne hne] at hx; exact hx
  · have hx1 : H1 dx = none := by rw [upd_ne hne] at hx; exact hx
    have eq : upd (L2.del (upd (upd (upd H1 a (exo a C none)) dx (exd dx ([n].zip [v]).reverse)) a (exo a C (some dx))) a) dx (.xd [(n, v)]) = upd H1 dx (.xd [(n, v)]) := by
      funext b
      by_cases hb1 : b = dx
      · rw [hb1, upd_same, upd_same]
      · rw [upd_ne hb1, upd_ne hb1]
        by_cases hb2 : b = a
        · rw [hb2, L2.del_same, ha]
        · rw [L2.del_ne hb2, upd_ne hb2, upd_ne hb1, upd_ne hb2]
    rw [eq]
    have kz := same_upd (o := HO.xd [(n, v)]) (r1.z.free hx1)
    exact ex ⟨x, some (n, d)⟩ s1 (upd Z1 dx (.xd [(n, v)])) σ _ _ _ t1 (k1.trans kz) (r1.new hx1) ⟨.inl m1, dx, _, rfl, upd_same, .inl ⟨hpr, v, rfl, At.mono kz _ _ a1⟩⟩
section
variable {X : Cx} {G : GP γ} {W : WX} {pos : Pos} {a b e : Expr}
def xBinR (p : D → D → DK → Prop) (ta : PEx γ) (tb : PEXx γ) : PEXx γ := fun w => qBin p ta (tb w)
def xTup1 (t : PEXx γ) : PEXx γ := fun w s R => t w s fun d s1 => R (.tup [d]) s1
theorem qex_tup1 {t : PEXx γ} {j : Nat} (he : QEX X G W e t) (hs : starEach [e] X.env = (false, eval e X.env) :: starEach [] X.env := by rfl) : QEX X G W (.Tuple [e] j pos) (xTup1 t) := by
  refine PE.imp (pe_tup (pa_cons he pa_nil hs)) fun σ H Q ⟨F, Z, s, R, w, r, t, q, ex⟩ => ?_
  refine ⟨F, Z, s, _, w, r, t, fun d s1 Z1 v H1 t1 k1 r1 a1 => ⟨by show 1 ≤ sizeLine; rw [sizeLine_eq]; omega, fun p hp => ?_⟩, ex⟩
  have x := Ext.new (o := HO.tup [v]) r1.z hp
  exact q _ s1 _ _ _ t1 (k1.trans x.zz) (r1.ext x) ⟨p, [v], rfl, .inl (.inl upd_same), v, [], rfl, At.mono x.zz _ _ a1, rfl⟩
theorem qex_binR {op : Operator} {p : D → D → DK → Prop} {ta : PEx γ} {tb : PEXx γ} (ho : OpR X (binaryOp op) (dOp2 G.K p)) (ha : QE X G a ta) (hb : QEX X G W b tb) : QEX X G W (.BinOp a op b pos) (xBinR p ta tb) := by
  refine PE.imp (pe_op ho ha hb) fun σ H Q ⟨F, Z, s, R, w, r, t, q, ex⟩ => ?_
  refine ⟨F, Z, s, _, r, t, fun x s1 Z1 v1 H1 t1 k1 r1 a1 => ⟨F, Z1, s1, _, w, r1, t1, fun y s2 Z2 v2 H2 t2 k2 r2 a2 => ?_, fun y s' Z' cls d H' h k => ex y s' Z' cls d H' h (k1.trans k)⟩⟩
  exact ⟨Z2, x, y, _, r2.z, At.mono k2 _ _ a1, a2, t2, fun z Z3 v H3 t3 x3 a3 => q z s2 Z3 v H3 t3 ((k1.trans k2).trans x3.zz) (r2.ext x3) a3⟩
end
end Pm
set_option Elab.async false
set_option linter.all false
set_option maxRecDepth 100000
set_option maxHeartbeats 2000000
set_option autoImplicit false
namespace Pm
open PySem PySem.Spec
open PyProof.Rows hiding St
open L2
def hot (a : Addr) (oe : Obj) : HO := .frz oe (.ext fun h => h.get? a = some oe)
def ObH (Z : Hp) (a C : Addr) (fs : List (Str × V)) : Prop := ObE Z a C fs ∨ ∃ oe, Z a = some (hot a oe) ∧ oe.cls = .ref C ∧ (∃ vs, oe.data = .fields vs) ∧ ((oe.dict = none ∧ fs = []) ∨ ∃ d, oe.dict = some d ∧ Z d = some (.xd fs))
theorem ObH.mono {Z Z' : Hp} {a C : Addr} {fs : List (Str × V)} (e : Same Z Z') (h : ObH Z a C fs) : ObH Z' a C fs := by
  rcases h with h | ⟨oe, h1, h2, h3, h4⟩
  · exact .inl (h.mono e)
  · exact .inr ⟨oe, e _ _ h1, h2, h3, h4.imp id fun ⟨d, h5, h6⟩ => ⟨d, h5, e _ _ h6⟩⟩
section
variable {X : Cx} {pins : List (Addr × Obj)} {σ : L2.St} {H : Hp} {s : Shared} {a C : Addr} {fs : List (Str × V)}
theorem ObH.inst (I : L2.Inv X pins σ H s) (h : ObH H a C fs) : ∃ oe od, PySem.W.InstAt s.heap a oe C od := by
  rcases h with h | ⟨oe, h1, h2, ⟨vs, h3⟩, h4⟩
  · exact h.inst I
  · have ho : s.heap.get? a = some oe := (show ObjOk X.prog X.w H s.heap a (hot a oe) from I.hok a _ h1).1
    rcases h4 with ⟨h5, _⟩ | ⟨d, h5, h6⟩
    · exact ⟨oe, none, ho, h2, by unfold PySem.W.notCls; rw [h3] <;> rfl, by rw [h5]; trivial⟩
    · obtain ⟨mA, hns, _⟩ := (show ObjOk X.prog X.w H s.heap d (.xd fs) from I.hok d _ h6)
      obtain ⟨od, ho2, _⟩ := lookIn_ns hns
      exact ⟨oe, some od, ho, h2, by unfold PySem.W.notCls; rw [h3] <;> rfl, by rw [h5]; exact ho2⟩
def rIsH (K : PySem.W.Frag) : List V → Hp → VK → Prop := fun xs H Q => ∃ (a C : Addr) (fs : List (Str × V)) (v : V) (b : Bool), xs = [.ref a, v] ∧ ExcC K C ∧ ObH H a C fs ∧
  ((∃ u, ClsV v u ∧ PySem.W.kitOne K (.ref C) u = some b) ∨ ∃ (tp : Addr) (cs : List V) (us : List Value), v = .ref tp ∧ H tp = some (.tup cs) ∧ Paired ClsV cs us ∧ PySem.W.kitAny K (.ref C) us = some b) ∧ Q (.bl b) H
theorem call_isH : CallR X (.builtin "isinstance") (rIsH X.K) := by
  intro pins s σ H xs us Q I r h
  obtain ⟨a, C, fs, v, b, rfl, E, ob, hv, q⟩ := h
  obtain ⟨u1, u2, rfl, r1, r2⟩ : ∃ u1 u2, us = [u1, u2] ∧ RelV (.ref a) u1 ∧ RelV v u2 := by
    cases r with
    | cons r1 r => cases r with
      | cons r2 r => cases r; exact ⟨_, _, rfl, r1, r2⟩
  obtain rfl : u1 = .ref a := r1
  obtain ⟨oe, od, J⟩ := ob.inst I
  have Kx := fun {ox} => PySem.W.kitx_exc (x := a) (ox := ox) (od := od) (by obtain ⟨cd, hc, _⟩ := PySem.W.any_some E.hd; rw [hc]; rfl) E.hg E.hk E.hs E.ha E.hn E.ht E.hm
  rcases hv with ⟨u, ku, e⟩ | ⟨tp, cs, us, rfl, ht, kp, e⟩
  · have := ku.eq r2
    subst this
    exact PySem.W.kia_one Kx I.kIn J e (fun z => nomatch z) fun tk => ⟨.bl b, H, I.kept (t' := tk) fun _ _ z => z, rfl, q⟩
  · obtain rfl : u2 = .ref tp := r2
    obtain ⟨_, its, rv, o, h1, h2, n, h3⟩ := (show ObjOk X.prog X.w H s.heap tp (.tup cs) from I.hok tp _ ht)
    have e3 := ClsV.all kp rv
    subst e3
    obtain ⟨oc, od', dt, sl⟩ := o
    simp only at h2 h3
    subst h2 h3
    exact PySem.W.kia_tup Kx I.kIn J h1 e (fun z => nomatch z) fun tk => ⟨.bl b, H, I.kept (t' := tk) fun _ _ z => z, rfl, q⟩
end
def errH (K : PySem.W.Frag) (mg : Str → Option Value) : EF := fun x fs => .f fun Z v => ∃ C a ws, mg x = some (.ref C) ∧ v = .ref a ∧ ObH Z a C ws ∧ FsAt K Z fs ws
theorem errH_at {K : PySem.W.Frag} {mg : Str → Option Value} {Z : Hp} {x : Str} {fs : List (Str × D)} {C a : Addr} {ws : List (Str × V)} (m : mg x = some (.ref C)) (o : ObH Z a C ws) (f : FsAt K Z fs ws) : At K Z (.obj (errH K mg x fs)) (.ref a) :=
  fun _ k => ⟨C, a, ws, m, rfl, o.mono k, f.mono k⟩
theorem errH_of {K : PySem.W.Frag} {mg : Str → Option Value} {Z : Hp} {x : Str} {fs : List (Str × D)} {v : V} (h : At K Z (.obj (errH K mg x fs)) v) : ∃ C a ws, mg x = some (.ref C) ∧ v = .ref a ∧ ObH Z a C ws ∧ FsAt K Z fs ws :=
  h Z (Same.refl _)
variable {γ : Type}
section
variable {X : Cx} {G : GP γ} {x n : Str} {p p2 pos : Pos} {e : Expr} {es : List Expr}
theorem qe_isH1 {f : Str → Str → Option Bool} {xq : List Str} {y : Str} {t : PEx γ} (hq : ∀ z ∈ xq, Exq X.K X.mg z) (tab : ∀ x y b, f x y = some b → Sub X.K X.mg x y b) (hv : QE X G e t) (hg : Gl X "isinstance") (hm : X.mg "isinstance" = none) (hb : ∃ z b, f z y = some b) (hgy : Gl X y)
    (hn : y ≠ "__name__" := by decide) (hd : (y == ("__debug__" : Str)) = false := by decide)
    (hs : starEach [e, .Name y p2] X.env = (false, eval e X.env) :: starEach [.Name y p2] X.env := by rfl) (hs2 : starEach [.Name y p2] X.env = (false, eval (.Name y p2) X.env) :: starEach [] X.env := by rfl) (hpl : (backTo pos (starEach [.Name y p2] X.env)).any (·.1) = false := by rfl) :
    QE X G (.Call (.Name "isinstance" p) [e, .Name y p2] [] pos) (qIsC (errH G.K X.mg) f xq [y] t) := by
  obtain ⟨z, b, hzb⟩ := hb
  obtain ⟨_, c, _, _, hc, _⟩ := (tab z y b hzb).ex
  obtain ⟨v, kv, pv⟩ := pe_cls (p := p2) hgy hc hn hd
  have A : ClsA X [y] [.Name y p2] [v] [c] := .cons pv kv (hc.imp (fun ⟨_, _, a⟩ => a) fun ⟨_, _, a, b⟩ => ⟨a, b⟩) hs2 .nil
  refine PE.imp (pe_callB call_isH hg hm (by decide +kernel) (pa_cons hv (pa_cons pv pa_nil hs2) hs) (by decide) (by decide) hs hpl) fun σ H Q ⟨F, Z, s, R, r, t, q⟩ => ?_
  refine ⟨F, Z, s, _, r, t, fun d s1 Z1 w H1 t1 k1 r1 a1 => ?_⟩
  obtain ⟨x, fs, b', rfl, hx, hi, _, t1⟩ := t1
  obtain ⟨C, a, ws, m1, rfl, ob, _⟩ := errH_of a1
  obtain ⟨C', m2, _, _, _, EC⟩ := (hq _ hx).ex
  rw [m1] at m2
  cases m2
  refine ⟨a, C, ws, v, b', rfl, EC, ob.mono r1.z, .inl ⟨c, kv, ?_⟩, q _ s1 Z1 _ H1 t1 k1 r1 rfl⟩
  have := isAny_kit tab m1 A hi
  unfold PySem.W.kitAny at this
  cases e : PySem.W.kitOne X.K (.ref C) c with
  | none => rw [e] at this; cases this
  | some b2 =>
    rw [e] at this
    cases b2 with
    | true => exact this
    | false => exact this
end
section
variable {P : Program} {w : World} {K : PySem.W.Frag} {mg : Str → Option Value} {base : Heap}
abbrev cxK (P : Program) (w : World) (K : PySem.W.Frag) (mg : Str → Option Value) (base : Heap) (N : List Str) (qual : Str) (scope : Scope) (f : Addr) (cd : Value) (A : Around) (outer : List Env) (s : Shared) (H : Hp) (E : XK) (p : Addr × Obj) : Cx :=
  (L2H.cxH CX0 P w K mg base N qual scope f cd A outer s H E p).nox
end
theorem rh_units {k : Nat} {A : Around} (r : L2H.RoomH k A) : A.units + 64 < cLine := by
  have := r.un
  omega
def delZ (H : Hp) (a : Addr) : Hp := fun b => if b = a then none else H b
theorem delZ_same {H : Hp} {a : Addr} : delZ H a a = none := if_pos rfl
theorem delZ_ne {H : Hp} {a b : Addr} (h : b ≠ a) : delZ H a b = H b := if_neg h
section
variable {K : PySem.W.Frag} {Z : Hp} {a : Addr} {oe : Obj}
theorem seqT_del (ha : Z a = some (hot a oe)) {b : Addr} {xs : List V} (h : SqT K Z b xs) : SqT K (delZ Z a) b xs := by
  have ne : ∀ {u : HO}, Z b = some u → u ≠ hot a oe → b ≠ a := fun {u} e n z => n (by rw [z, ha] at e; exact (Option.some.inj e).symm)
  rcases h with (h | ⟨o, h⟩) | h
  · exact .inl (.inl ((delZ_ne (ne h (by intro z; cases z))).trans h))
  · exact .inl (.inr ⟨o, (delZ_ne (ne h (by intro z; cases z))).trans h⟩)
  · exact .inr h
mutual
theorem At.del (ha : Z a = some (hot a oe)) : ∀ (d : D) (v : V), d.plz = true → At K Z d v → At K (delZ Z a) d v
  | .non, _, _, h => h
  | .bl _, _, _, h => h
  | .int _, _, _, h => h
  | .str _, _, _, h => h
  | .lst xs, v, p, h => by
    simp only [At] at h ⊢
    obtain ⟨b, vs, h1, h2, h3⟩ := h
    exact ⟨b, vs, h1, (delZ_ne (fun z => by rw [z, ha] at h2; cases h2)).trans h2, Ats.del ha xs vs p h3⟩
  | .tup xs, v, p, h => by
    simp only [At] at h ⊢
    obtain ⟨b, vs, h1, h2, h3⟩ := h
    exact ⟨b, vs, h1, seqT_del ha h2, Ats.del ha xs vs p h3⟩
  | .dct ks xs, v, p, h => by
    simp only [At] at h ⊢
    obtain ⟨b, kvs, h1, h2, h3, h4⟩ := h
    have p2 : xs = [] := by
      have p : (ks.isEmpty && xs.isEmpty) = true := p
      rw [Bool.and_eq_true] at p
      exact List.isEmpty_iff.mp p.2
    subst p2
    exact ⟨b, kvs, h1, (delZ_ne (fun z => by rw [z, ha] at h2; cases h2)).trans h2, h3, h4⟩
  | .obj _, _, p, _ => by cases p
theorem Ats.del (ha : Z a = some (hot a oe)) : ∀ (ds : List D) (vs : List V), D.plzs ds = true → Ats K Z ds vs → Ats K (delZ Z a) ds vs
  | [], _, _, h => h
  | d :: ds, vs, p, h => by
    simp only [Ats] at h ⊢
    obtain ⟨w, ws, h1, h2, h3⟩ := h
    have p : (d.plz && D.plzs ds) = true := p
    rw [Bool.and_eq_true] at p
    exact ⟨w, ws, h1, At.del ha d w p.1 h2, Ats.del ha ds ws p.2 h3⟩
end
end
def qHot (E : EF) (xq : List Str) (i : Nat) (x : Xc) (a : Addr) (f : Spec0) : PEx γ := fun s R => s.ρ[i]? = some (some (.val (.obj a))) ∧ x.c ∈ xq ∧ f [.obj (E x.c (match x.f with | none => [] | some (n, v) => [(n, v)]))] fun d => d.plz = true ∧ R d s
theorem Un.hot {fs : List Addr} {H H2 : Hp} {h h2 : Heap} {a : Addr} {oe : Obj} (u : Un fs [] (upd H a (Pm.hot a oe)) H2 h h2) (ha : H a = none) (nf : a ∉ fs) (e1 : h.get? a = some oe) (e2 : h2.get? a = some oe) : Un fs [] H (delZ H2 a) h h2 := by
  have up : ∀ {b : Addr}, b ≠ a → H b = none → upd H a (Pm.hot a oe) b = none := fun {b} n e => by rw [upd_ne n]; exact e
  have us : ∀ {b : Addr} {o : HO}, H b = some o → b ≠ a := fun {b o} e z => by rw [z, ha] at e; cases e
  refine ⟨fun b o e n hb hx => ?_, fun b o e n hb hx => ?_, fun b o e n hx => ?_, fun b o e hx => u.there b o e hx, fun b xs e => ?_, fun b o v e => ?_, fun b ps e => ?_⟩
  · by_cases hba : b = a
    · rw [hba, e1] at e; cases e
      rw [hba]; exact e2
    · exact u.keep b o e (up hba n) hb hx
  · have hba : b ≠ a := fun z => nf (by rw [← z]; exact hb)
    exact u.slot b o e (up hba n) hb hx
  · by_cases hba : b = a
    · rw [hba]; exact delZ_same
    · rw [delZ_ne hba]; exact u.free b o e (up hba n) hx
  · rw [delZ_ne (us e)]; exact u.tups b xs (by rw [upd_ne (us e)]; exact e)
  · rw [delZ_ne (us e)]; exact u.frzs b o v (by rw [upd_ne (us e)]; exact e)
  · rw [delZ_ne (us e)]; exact u.tbls b ps (by rw [upd_ne (us e)]; exact e)
end Pm
set_option Elab.async false
set_option linter.all false
set_option maxRecDepth 100000
set_option maxHeartbeats 2000000
set_option autoImplicit false
namespace Pm
open PySem PySem.Spec
open PyProof.Rows hiding St
open L2
variable {γ : Type}
section
variable {X : Cx} {C f : Addr} {k : Nat} {fd : FuncData} {ps : List Str} {sp : Sp}
theorem run_in {A : Around} {pins : List (Addr × Obj)} {σ : L2.St} {H : Hp} {s : Shared} {a : Addr} {Q : VK} {R : Value → Shared → Prop} (F : FnOk X.prog X.w X.K X.mg X.base (L2N.CX X.prog X.w) k f fd ps sp) (hr : Room k A) (hf : A.frames = some X.stack) (hb : Binds X.K fd ps []) (I : L2.Inv X pins σ H s)
    (hsp : sp [.ref a] H Q E0) (go : ∀ u s', EP X pins σ Q u s' → R u s') : wpAny (model X.prog X.w) A (call (.ref f) [.ref a]) R X.xe s := by
  have hl := F.len _ _ _ _ hsp
  have e0 : Env0 X.prog X.w X.K X.mg X.base A X.stack s H := by
    have e := I.env0
    exact ⟨hf, e.mod, e.bs, e.bsz, e.funs, e.frf, e.hok, e.bare⟩
  have bb : BindsTo s fd ⟨[.ref a], []⟩ (ps.zip [.ref a]) := by
    have := hb s [.ref a] I.kIn (by simpa using hl)
    simpa using this
  refine wpAny_call (codeAny_mono (F.run A X.stack s H ⟨[.ref a], []⟩ [.ref a] [.ref a] _ E0 hr e0 bb (.cons rfl .nil) hsp) fun r s' hq => ?_)
  cases r with
  | error e => exact passLN pins σ H s e s' I hq
  | ok fl =>
    cases fl with
    | ret u => exact go u s' (I.after hq)
    | next => exact False.elim hq
    | brk => exact False.elim hq
    | cont => exact False.elim hq
def rLenI (C : Addr) (sp : Sp) : List V → Hp → VK → Prop := fun xs H Q => ∃ (a dx : Addr) (fs : List (Str × V)), xs = [.ref a] ∧ H a = some (.ins C dx fs) ∧ sp [.ref a] H (fun v H' => ∃ n : Nat, v = .int n ∧ n < 2 ^ 62 ∧ Q v H') E0
theorem call_lenI (F : FnOk X.prog X.w X.K X.mg X.base (L2N.CX X.prog X.w) k f fd ps sp) (hr : Room (k + 1) X.A) (hs : PySem.W.findIn X.K (.ref C) "__len__" = some (some (.ref f))) (hf : PySem.W.isFn X.K (.ref f) = true) (hb : Binds X.K fd ps []) : CallR X (.builtin "len") (rLenI C sp) := by
  intro pins s σ H xs us Q I r h
  obtain ⟨a, dx, fs, rfl, ha, hsp⟩ := h
  obtain ⟨u, rfl, ru⟩ : ∃ u, us = [u] ∧ RelV (.ref a) u := by
    cases r with
    | cons r1 r => cases r; exact ⟨_, rfl, r1⟩
  obtain rfl : u = .ref a := ru
  obtain ⟨mA, J, _⟩ := ins_get I.hok ha
  obtain ⟨od, J, _⟩ := J.look
  obtain ⟨m, hF⟩ := I.fr
  refine PySem.W.len_K hF I.ok.mod.kin J hs hf (run_in F hr.in1 I.ok.frames hb I hsp fun u s' hq => ?_)
  obtain ⟨v, H', I', rv, n, rfl, hn, q⟩ := hq
  obtain ⟨t, rfl⟩ : ∃ t, u = Value.int n t := rv
  have p62 : (2 : Int) ^ 62 < 2 ^ 63 := by decide
  exact ⟨⟨by omega, by have : ((n : Nat) : Int) < 2 ^ 62 := by exact_mod_cast hn
                       omega⟩, .int n, H', I'.tok _, ⟨_, rfl⟩, q⟩
def rStrI (C : Addr) (sp : Sp) : List V → Hp → VK → Prop := fun xs H Q => ∃ (a dx : Addr) (fs : List (Str × V)), xs = [.ref a] ∧ H a = some (.ins C dx fs) ∧ sp [.ref a] H (fun v H' => ∃ x : Str, v = .str x ∧ Q v H') E0
open PySem.Builtin PySem.Builtin.Str in
theorem call_strI (F0 : FnOk X.prog X.w X.K X.mg X.base (L2N.CX X.prog X.w) k f fd ps sp) (hr : Room (k + 2) X.A) (hs : PySem.W.findIn X.K (.ref C) "__str__" = some (some (.ref f))) (hf : PySem.W.isFn X.K (.ref f) = true) (hb : Binds X.K fd ps []) : CallR X (.type "str") (rStrI C sp) := by
  intro pins s σ H xs us Q I r h
  obtain ⟨a, dx, fs, rfl, ha, hsp⟩ := h
  obtain ⟨u, rfl, ru⟩ : ∃ u, us = [u] ∧ RelV (.ref a) u := by
    cases r with
    | cons r1 r => cases r; exact ⟨_, rfl, r1⟩
  obtain rfl : u = .ref a := ru
  obtain ⟨mA, J, _⟩ := ins_get I.hok ha
  obtain ⟨od, J, _⟩ := J.look
  refine callType_codes (Q₁ := fun obj s₁ => s₁.TypeIs obj "str" ∧ EP X pins σ Q obj s₁) F.called_str (F.typeCall_str_1 _) F.entry_object_init ?_ fun obj s₁ h₁ => ⟨h₁.1, F.args_object_init_2 obj _, object_init_meets F.called_str.init.lookup F.called_str.made (by decide) _ _ _ _ s₁ ⟨h₁.1, rfl, h₁.2⟩⟩
  refine codeAny_call_builtin (by decide +kernel) F.entry_str_new (wpAny_of_eq (F.newCall_str_1 _) ?_)
  rw [str_new_tree]
  refine wpAny_bind (wpAny_pure ?_)
  refine wpAny_bind (wpAny_of_eq isSubtype_str_str ?_)
  have body : wpAny (model X.prog X.w) X.A.in1.in1 (PySem.Builtin.Str.strOf (.ref a)) (fun r s' => ∃ x t, r = Value.str x t ∧ EP X pins σ Q r s') X.xe s := by
    unfold PySem.Builtin.Str.strOf
    rw [show isExactStr (.ref a) = false from rfl]
    refine wpAny_bind (m := cRoomFor _ _) (wpAny_cRoomFor (by show X.A.units + 1 + 1 < cLine; have := hr.un; omega) ?_)
    refine wpAny_bind (m := callSpecial? (.ref a) (Str.ofString "__str__")) (PySem.W.special_fn I.kIn J hs (beq_iff_eq.mp hf) (run_in F0 (A := X.A.in1.in1) hr.in1.in1 I.ok.frames hb I hsp fun u s' hq => ?_))
    obtain ⟨v, H', I', rv, x, rfl, q⟩ := hq
    obtain ⟨t, rfl⟩ : ∃ t, u = Value.str x t := rv
    have fin : ∃ x' t', Value.str x t = Value.str x' t' ∧ EP X pins σ Q (.str x t) s' := ⟨x, t, rfl, .str x, H', I', ⟨t, rfl⟩, q⟩
    exact wpAny_pure fin
  exact wpAny_bind (wpAny_mono body (fun r s' h' => by
    obtain ⟨x, t, rfl, q⟩ := h'
    have fin : wants (fun obj s₁ => s₁.TypeIs obj "str" ∧ EP X pins σ Q obj s₁) X.xe (.ok (.ret (.str x t))) s' := ⟨typeIs_str _ _ _, q⟩
    exact wpAny_pure fin) fun _ _ e => e)
end
structure DefD (X : Cx) (C : Addr) (m : Str) (sp : Sp) : Prop where
  ex : ∃ f fd k p, FnOk X.prog X.w X.K X.mg X.base (L2N.CX X.prog X.w) k f fd [p] sp ∧ Room (k + 2) X.A ∧ Meth X.K C m f ∧ Binds X.K fd [p] []
def GloD (P : Program) (w : World) (K : PySem.W.Frag) (mg : Str → Option Value) (base : Heap) (C : Addr) (m : Str) (sp : Sp) (k : Nat) : Prop :=
  ∃ f fd p, FnOk P w K mg base (L2N.CX P w) k f fd [p] sp ∧ Meth K C m f ∧ Binds K fd [p] []
theorem GloD.at {X : Cx} {C : Addr} {m : Str} {sp : Sp} {j k : Nat} (g : GloD X.prog X.w X.K X.mg X.base C m sp j) (hr : Room k X.A) (h : j + 2 ≤ k := by decide) : DefD X C m sp := by
  obtain ⟨f, fd, p, F, m, b⟩ := g
  exact ⟨f, fd, j, p, F, hr.mono h, m, b⟩
def qDunL (C : Addr) (f : SpecB) (td : PEx (γ × List OB)) : PEx (γ × List OB) := fun s R => td s fun d s1 => ∃ bs1 ob bs2, s1.g.2 = bs1 ++ ob :: bs2 ∧ d = .obj ob.o ∧ ob.C = C ∧ f [.obj ob.o] s1.g.2 (bkR (fun z s' => ∃ n : Nat, z = .int n ∧ n < 2 ^ 62 ∧ R z s') s1) fun _ _ => False
def qDunS (C : Addr) (f : SpecB) (td : PEx (γ × List OB)) : PEx (γ × List OB) := fun s R => td s fun d s1 => ∃ bs1 ob bs2, s1.g.2 = bs1 ++ ob :: bs2 ∧ d = .obj ob.o ∧ ob.C = C ∧ f [.obj ob.o] s1.g.2 (bkR (fun z s' => ∃ x : Str, z = .str x ∧ R z s') s1) fun _ _ => False
section
variable {X : Cx} {G0 : GP γ} {C : Addr} {f : SpecB} {o : Expr} {td : PEx (γ × List OB)} {p pos : Pos}
theorem qe_dunL (d : DefD X C "__len__" (spBX G0.K X.mg f)) (ho : QE X (gBk G0) o td) (hg : Gl X "len") (hm : X.mg "len" = none) (hs : starEach [o] X.env = (false, eval o X.env) :: starEach [] X.env := by rfl) (hpl : (backTo pos (starEach [] X.env)).any (·.1) = false := by rfl) :
    QE X (gBk G0) (.Call (.Name "len" p) [o] [] pos) (qDunL C f td) := by
  obtain ⟨fa, fd, k, pp, F, hr, M, hb⟩ := d.ex
  refine PE.imp (pe_callB (call_lenI (C := C) F (hr.mono (Nat.le_succ _)) M.at_ M.fn hb) hg hm (by decide +kernel) (pa_cons ho pa_nil hs) (by decide) (by decide) hs hpl) fun σ H Q ⟨F, Z, s, R, r, t, q⟩ => ?_
  refine ⟨F, Z, s, _, r, t, fun d s1 Z1 v H1 t1 k1 r1 a1 => ?_⟩
  obtain ⟨bs1, ob, bs2, e1, rfl, rfl, t1⟩ := t1
  obtain rfl : v = .ref ob.o := a1
  obtain ⟨vs, j⟩ := r1.j.2.2.at_ ob (by rw [e1]; simp)
  refine ⟨ob.o, ob.dx, vs, rfl, j.ins, ?_⟩
  refine lcallI r1 (ats_o (xs := []) (vs := []) rfl) (R := fun z s' => ∃ n : Nat, z = .int n ∧ n < 2 ^ 62 ∧ R z s') (w := fun _ _ => False) t1 (fun d s' Z' v H' h k r' a' => ?_) fun y s' Z' cls d H' h k => False.elim h
  obtain ⟨n, rfl, hn, h⟩ := h
  exact ⟨n, a', hn, q _ s' Z' v H' h (k1.trans k) r' a'⟩
theorem qe_dunS (d : DefD X C "__str__" (spBX G0.K X.mg f)) (ho : QE X (gBk G0) o td) (hg : Gl X "str") (hm : X.mg "str" = none) (hs : starEach [o] X.env = (false, eval o X.env) :: starEach [] X.env := by rfl) (hpl : (backTo pos (starEach [] X.env)).any (·.1) = false := by rfl) :
    QE X (gBk G0) (.Call (.Name "str" p) [o] [] pos) (qDunS C f td) := by
  obtain ⟨fa, fd, k, pp, F, hr, M, hb⟩ := d.ex
  refine PE.imp (pe_callTy (call_strI (C := C) F hr M.at_ M.fn hb) hg hm (by decide +kernel) (pa_cons ho pa_nil hs) (by decide) (by decide) hs hpl) fun σ H Q ⟨F, Z, s, R, r, t, q⟩ => ?_
  refine ⟨F, Z, s, _, r, t, fun d s1 Z1 v H1 t1 k1 r1 a1 => ?_⟩
  obtain ⟨bs1, ob, bs2, e1, rfl, rfl, t1⟩ := t1
  obtain rfl : v = .ref ob.o := a1
  obtain ⟨vs, j⟩ := r1.j.2.2.at_ ob (by rw [e1]; simp)
  refine ⟨ob.o, ob.dx, vs, rfl, j.ins, ?_⟩
  refine lcallI r1 (ats_o (xs := []) (vs := []) rfl) (R := fun z s' => ∃ x : Str, z = .str x ∧ R z s') (w := fun _ _ => False) t1 (fun d s' Z' v H' h k r' a' => ?_) fun y s' Z' cls d H' h k => False.elim h
  obtain ⟨x, rfl, h⟩ := h
  exact ⟨x, a', q _ s' Z' v H' h (k1.trans k) r' a'⟩
end
end Pm
set_option Elab.async false
set_option linter.all false
set_option maxRecDepth 100000
set_option maxHeartbeats 1000000
set_option autoImplicit false
namespace Pm
open PySem PySem.Spec
open PyProof.Rows hiding St
open L2
def intO : D → Int
  | .int i => i
  | _ => 0
def natO (d : D) : Nat := (intO d).toNat
def isItm (p : Pan) (d : D) : Bool := inI 0 ((p.its.length : Int) - 1) d
def isRul (p : Pan) (d : D) : Bool := inI 0 ((p.rus.length : Int) - 1) d
def isMk (d : D) : Bool := inI (-(10 ^ 9)) (10 ^ 9) d
def isWt (d : D) : Bool := inI 1 (10 ^ 6) d
def wiP (p : Pan) (k : Nat) : Pan := ⟨p.its.take k ++ p.its.drop (k + 1), (p.rus.filter fun q => decide ((k : Int) ≠ q.1) && decide ((k : Int) ≠ q.2)).map fun q => (q.1 - (if (k : Int) < q.1 then 1 else 0), q.2 - (if (k : Int) < q.2 then 1 else 0))⟩
inductive Act
  | setMark (v m : D)
  | setWeight (v w : D)
  | addItem (m w : D)
  | dropItem (v : D)
  | addRule (a b : D)
  | dropRule (v : D)
def Act.nm : Act → Str
  | .setMark _ _ => "set_mark"
  | .setWeight _ _ => "set_weight"
  | .addItem _ _ => "add_item"
  | .dropItem _ => "drop_item"
  | .addRule _ _ => "add_rule"
  | .dropRule _ => "drop_rule"
def Act.args : Act → List D
  | .setMark a b => [a, b]
  | .setWeight a b => [a, b]
  | .addItem a b => [a, b]
  | .dropItem a => [a]
  | .addRule a b => [a, b]
  | .dropRule a => [a]
def Act.d (a : Act) : D := .tup (.str a.nm :: a.args)
def Act.ok (a : Act) : Prop := ∀ d ∈ a.args, ∀ p, d ≠ .obj p
abbrev Rs := Except Xc Pan
def xItem (d : D) : Xc := ⟨"NoSuchItem", some ("item", d)⟩
def xRule (d : D) : Xc := ⟨"NoSuchRule", some ("rule", d)⟩
def xMark (d : D) : Xc := ⟨"InvalidMark", some ("mark", d)⟩
def xWeight (d : D) : Xc := ⟨"InvalidWeight", some ("weight", d)⟩
def xFull : Xc := ⟨"Full", none⟩
def xLast : Xc := ⟨"LastItem", none⟩
def Act.run (p : Pan) : Act → Rs
  | .setMark v m => if isItm p v = false then .error (xItem v) else if isMk m = false then .error (xMark m) else .ok ⟨p.its.set (natO v) (intO m, (p.its.getD (natO v) (0, 1)).2), p.rus⟩
  | .setWeight v w => if isItm p v = false then .error (xItem v) else if isWt w = false then .error (xWeight w) else .ok ⟨p.its.set (natO v) ((p.its.getD (natO v) (0, 1)).1, intO w), p.rus⟩
  | .addItem m w => if isMk m = false then .error (xMark m) else if isWt w = false then .error (xWeight w) else if p.its.length = 8 then .error xFull else .ok ⟨p.its ++ [(intO m, intO w)], p.rus⟩
  | .dropItem v => if isItm p v = false then .error (xItem v) else if p.its.length = 1 then .error xLast else .ok (wiP p (natO v))
  | .addRule a b => if isItm p a = false then .error (xItem a) else if isItm p b = false then .error (xItem b) else if intO a = intO b then .error (xItem b) else if p.rus.length = 16 then .error xFull else .ok ⟨p.its, p.rus ++ [(intO a, intO b)]⟩
  | .dropRule v => if isRul p v = false then .error (xRule v) else .ok ⟨p.its, p.rus.eraseIdx (natO v)⟩
theorem isItm_nat {p : Pan} {d : D} (h : isItm p d = true) : d = natD (natO d) ∧ natO d < p.its.length := by
  obtain ⟨i, rfl, h0, h1⟩ := inI_int h
  have e : ((i.toNat : Nat) : Int) = i := by omega
  refine ⟨?_, by show i.toNat < _; omega⟩
  show D.int i = .int ((i.toNat : Nat) : Int)
  rw [e]
theorem isRul_nat {p : Pan} {d : D} (h : isRul p d = true) : d = natD (natO d) ∧ natO d < p.rus.length := by
  obtain ⟨i, rfl, h0, h1⟩ := inI_int h
  have e : ((i.toNat : Nat) : Int) = i := by omega
  refine ⟨?_, by show i.toNat < _; omega⟩
  show D.int i = .int ((i.toNat : Nat) : Int)
  rw [e]
theorem isMk_int {d : D} (h : isMk d = true) : d = .int (intO d) ∧ -(10 ^ 9) ≤ intO d ∧ intO d ≤ 10 ^ 9 := by
  obtain ⟨i, rfl, h0, h1⟩ := inI_int h
  exact ⟨rfl, h0, h1⟩
theorem isWt_int {d : D} (h : isWt d = true) : d = .int (intO d) ∧ 1 ≤ intO d ∧ intO d ≤ 10 ^ 6 := by
  obtain ⟨i, rfl, h0, h1⟩ := inI_int h
  exact ⟨rfl, h0, h1⟩
theorem wiP_len {p : Pan} {k : Nat} (h : k < p.its.length) : (wiP p k).its.length = p.its.length - 1 := by
  show (p.its.take k ++ p.its.drop (k + 1)).length = _
  rw [List.length_append, List.length_take, List.length_drop]; omega
theorem wiP_ok {p : Pan} {k n : Nat} (hp : PanOk n p) (h : k < p.its.length) (h2 : p.its.length ≠ 1) : PanOk n (wiP p k) := by
  have l := wiP_len h
  have := hp.top
  refine ⟨by omega, by omega, fun q hq => ?_, ?_, fun q hq => ?_⟩
  · have hq : q ∈ p.its.take k ++ p.its.drop (k + 1) := hq
    rcases List.mem_append.mp hq with hq | hq
    · exact hp.it q (List.mem_of_mem_take hq)
    · exact hp.it q (List.mem_of_mem_drop hq)
  · show (List.map _ _).length ≤ 16
    rw [List.length_map]
    exact Nat.le_trans (List.length_filter_le _ _) hp.few
  · obtain ⟨u, hu, rfl⟩ := List.mem_map.mp hq
    obtain ⟨hm, hc⟩ := List.mem_filter.mp hu
    obtain ⟨a0, a1, b0, b1, ne⟩ := hp.ru u hm
    simp only [Bool.and_eq_true, decide_eq_true_eq] at hc
    rw [l]
    refine ⟨?_, ?_, ?_, ?_, ?_⟩ <;> dsimp only <;> split <;> (try split) <;> omega
theorem Act.run_ok {p p' : Pan} {a : Act} (hp : PanOk 8 p) (h : a.run p = .ok p') : PanOk 8 p' := by
  have one := hp.one; have top := hp.top; have few := hp.few
  have set_ok : ∀ (i : Nat) (q : Int × Int), ItOk q → PanOk 8 ⟨p.its.set i q, p.rus⟩ := fun i q hq => by
    refine ⟨by show 1 ≤ (p.its.set i q).length; rw [List.length_set]; exact one, by show (p.its.set i q).length ≤ 8; rw [List.length_set]; exact top, fun u hu => ?_, few, fun u hu => ?_⟩
    · rcases List.mem_or_eq_of_mem_set hu with hu | rfl
      · exact hp.it u hu
      · exact hq
    · show RuOk (p.its.set i q).length u
      rw [List.length_set]; exact hp.ru u hu
  have gd : ∀ i : Nat, i < p.its.length → ItOk (p.its.getD i (0, 1)) := fun i hi => by
    rw [List.getD_eq_getElem?_getD, List.getElem?_eq_getElem hi]
    exact hp.it _ (List.getElem_mem hi)
  cases a with
  | setMark v m =>
    simp only [Act.run] at h
    split at h
    · cases h
    · rename_i h1
      split at h
      · cases h
      · rename_i h2
        cases h
        obtain ⟨_, hv⟩ := isItm_nat (by simpa using h1)
        obtain ⟨_, m0, m1⟩ := isMk_int (by simpa using h2)
        obtain ⟨_, _, w0, w1⟩ := gd _ hv
        exact set_ok _ _ ⟨m0, m1, w0, w1⟩
  | setWeight v w =>
    simp only [Act.run] at h
    split at h
    · cases h
    · rename_i h1
      split at h
      · cases h
      · rename_i h2
        cases h
        obtain ⟨_, hv⟩ := isItm_nat (by simpa using h1)
        obtain ⟨_, m0, m1⟩ := isWt_int (by simpa using h2)
        obtain ⟨w0, w1, _, _⟩ := gd _ hv
        exact set_ok _ _ ⟨w0, w1, m0, m1⟩
  | addItem m w =>
    simp only [Act.run] at h
    split at h
    · cases h
    · rename_i h1
      split at h
      · cases h
      · rename_i h2
        split at h
        · cases h
        · rename_i h3
          cases h
          obtain ⟨_, m0, m1⟩ := isMk_int (by simpa using h1)
          obtain ⟨_, w0, w1⟩ := isWt_int (by simpa using h2)
          refine ⟨by show 1 ≤ (p.its ++ _).length; rw [List.length_append]; omega, by show (p.its ++ _).length ≤ 8; rw [List.length_append, List.length_singleton]; omega, fun u hu => ?_, few, fun u hu => ?_⟩
          · rcases List.mem_append.mp hu with hu | hu
            · exact hp.it u hu
            · rw [List.mem_singleton.mp hu]; exact ⟨m0, m1, w0, w1⟩
          · obtain ⟨a0, a1, b0, b1, ne⟩ := hp.ru u hu
            show RuOk (p.its ++ _).length u
            rw [List.length_append, List.length_singleton]
            exact ⟨a0, by omega, b0, by omega, ne⟩
  | dropItem v =>
    simp only [Act.run] at h
    split at h
    · cases h
    · rename_i h1
      split at h
      · cases h
      · rename_i h2
        cases h
        obtain ⟨_, hv⟩ := isItm_nat (by simpa using h1)
        exact wiP_ok hp hv h2
  | addRule x y =>
    simp only [Act.run] at h
    split at h
    · cases h
    · rename_i h1
      split at h
      · cases h
      · rename_i h2
        split at h
        · cases h
        · rename_i h3
          split at h
          · cases h
          · rename_i h4
            cases h
            obtain ⟨i, rfl, a0, a1⟩ := inI_int (show inI _ _ x = true by simpa [isItm] using h1)
            obtain ⟨j, rfl, b0, b1⟩ := inI_int (show inI _ _ y = true by simpa [isItm] using h2)
            refine ⟨one, top, hp.it, by show (p.rus ++ _).length ≤ 16; rw [List.length_append, List.length_singleton]; omega, fun u hu => ?_⟩
            rcases List.mem_append.mp hu with hu | hu
            · exact hp.ru u hu
            · rw [List.mem_singleton.mp hu]
              exact ⟨a0, by show i < (p.its.length : Int); omega, b0, by show j < (p.its.length : Int); omega, h3⟩
  | dropRule v =>
    simp only [Act.run] at h
    split at h
    · cases h
    · rename_i h1
      cases h
      refine ⟨one, top, hp.it, Nat.le_trans (List.length_eraseIdx_le _ _) few, fun u hu => hp.ru u (List.mem_of_mem_eraseIdx hu)⟩
structure Bok where
  o : Addr
  C : Addr
  dx : Addr
  ra : Addr
  ps : List D
  ks : List D
  rows : List D
  busy : Bool
def Bok.ob (b : Bok) : OB := ⟨b.o, b.C, b.dx, [("panels", .val (.tup b.ps)), ("kept", .val (.tup b.ks)), ("rows", .own b.ra b.rows), ("is_busy", .val (.bl b.busy))]⟩
structure BokAt (CB : Addr) (b : Bok) (p : Pan) : Prop where
  C : b.C = CB
  at_ : ∃ ps0, b.ps = ps0 ++ [panD p]
  pan : PanOk 8 p
  len : b.ps.length ≤ 61
  few : b.ks.length ≤ 60
def Bok.step (b : Bok) (p' : Pan) (a : Act) : Bok := { b with ps := b.ps ++ [panD p'], ks := b.ks ++ [a.d] }
def keepW (b : Bok) (p : Pan) (a : Act) (R : Bok → Prop) (W : Xc → Prop) : Prop := if b.ks.length = 60 then W ⟨"TooManyActions", none⟩ else match a.run p with
  | .ok p' => R (b.step p' a)
  | .error x => W x
def actW (b : Bok) (p : Pan) (a : Act) (R : Bok → Prop) (W : Xc → Prop) : Prop := if b.busy = true then W ⟨"Busy", none⟩ else keepW b p a R W
def errT (x : Xc) : D := .tup (.str x.c :: match x.f with | none => [] | some (_, v) => [v])
def erD : Rs → D
  | .ok _ => .non
  | .error x => errT x
theorem brF {b : Bool} {A B : Prop} (h : b = false) (hb : B) : Br b A B := ⟨fun q => (by rw [h] at q; cases q), fun _ => hb⟩
theorem brT {b : Bool} {A B : Prop} (h : b = true) (ha : A) : Br b A B := ⟨fun _ => ha, fun q => (by rw [h] at q; cases q)⟩
def Act.isRu : Act → Bool
  | .addRule _ _ => true
  | .dropRule _ => true
  | _ => false
theorem nm_pln (a : Act) : (D.str a.nm).pln = true := by cases a <;> simp only [Act.nm] <;> decide +kernel
theorem itm_int {p : Pan} {d : D} (h : isItm p d = true) : ∃ i : Int, d = .int i ∧ 0 ≤ i ∧ i < p.its.length := by
  obtain ⟨i, rfl, h0, h1⟩ := inI_int h
  exact ⟨i, rfl, h0, by omega⟩
theorem inv_setMark {p p' : Pan} {v m : D} (h : (Act.setMark v m).run p = .ok p') : isItm p v = true ∧ isMk m = true ∧ p' = ⟨p.its.set (natO v) (intO m, (p.its.getD (natO v) (0, 1)).2), p.rus⟩ := by
  simp only [Act.run] at h
  split at h
  · cases h
  · split at h
    · cases h
    · rename_i h1 h2
      cases h
      exact ⟨by simpa using h1, by simpa using h2, rfl⟩
theorem inv_setWeight {p p' : Pan} {v w : D} (h : (Act.setWeight v w).run p = .ok p') : isItm p v = true ∧ isWt w = true ∧ p' = ⟨p.its.set (natO v) ((p.its.getD (natO v) (0, 1)).1, intO w), p.rus⟩ := by
  simp only [Act.run] at h
  split at h
  · cases h
  · split at h
    · cases h
    · rename_i h1 h2
      cases h
      exact ⟨by simpa using h1, by simpa using h2, rfl⟩
theorem inv_addItem {p p' : Pan} {m w : D} (h : (Act.addItem m w).run p = .ok p') : isMk m = true ∧ isWt w = true ∧ p.its.length ≠ 8 ∧ p' = ⟨p.its ++ [(intO m, intO w)], p.rus⟩ := by
  simp only [Act.run] at h
  split at h
  · cases h
  · split at h
    · cases h
    · split at h
      · cases h
      · rename_i h1 h2 h3
        cases h
        exact ⟨by simpa using h1, by simpa using h2, h3, rfl⟩
theorem inv_dropItem {p p' : Pan} {v : D} (h : (Act.dropItem v).run p = .ok p') : isItm p v = true ∧ p.its.length ≠ 1 ∧ p' = wiP p (natO v) := by
  simp only [Act.run] at h
  split at h
  · cases h
  · split at h
    · cases h
    · rename_i h1 h2
      cases h
      exact ⟨by simpa using h1, h2, rfl⟩
theorem inv_addRule {p p' : Pan} {x y : D} (h : (Act.addRule x y).run p = .ok p') : isItm p x = true ∧ isItm p y = true ∧ intO x ≠ intO y ∧ p.rus.length ≠ 16 ∧ p' = ⟨p.its, p.rus ++ [(intO x, intO y)]⟩ := by
  simp only [Act.run] at h
  split at h
  · cases h
  · split at h
    · cases h
    · split at h
      · cases h
      · split at h
        · cases h
        · rename_i h1 h2 h3 h4
          cases h
          exact ⟨by simpa using h1, by simpa using h2, h3, h4, rfl⟩
theorem inv_dropRule {p p' : Pan} {v : D} (h : (Act.dropRule v).run p = .ok p') : isRul p v = true ∧ p' = ⟨p.its, p.rus.eraseIdx (natO v)⟩ := by
  simp only [Act.run] at h
  split at h
  · cases h
  · rename_i h1
    cases h
    exact ⟨by simpa using h1, rfl⟩
theorem natO_nat (k : Nat) : natO (natD k) = k := Int.toNat_natCast k
theorem isItm_ex {p : Pan} {d : D} (h : isItm p d = true) : ∃ k : Nat, d = natD k ∧ k < p.its.length := ⟨_, isItm_nat h⟩
theorem isRul_ex {p : Pan} {d : D} (h : isRul p d = true) : ∃ k : Nat, d = natD k ∧ k < p.rus.length := ⟨_, isRul_nat h⟩
theorem Bok.put_ps (b : Bok) (xs : List D) : { b.ob with fs := putFV "panels" (.val (.tup xs)) b.ob.fs } = ({ b with ps := xs } : Bok).ob := by
  simp only [Bok.ob, putFV, if_pos]
theorem Bok.put_ks (b : Bok) (xs : List D) : { b.ob with fs := putFV "kept" (.val (.tup xs)) b.ob.fs } = ({ b with ks := xs } : Bok).ob := by
  have n1 : ¬ (("panels" : Str) = "kept") := by decide +kernel
  simp only [Bok.ob, putFV, if_pos, if_neg n1]
theorem fs_init (a b c d : FV) : putFV "is_busy" d (putFV "rows" c (putFV "kept" b (putFV "panels" a []))) = ([("panels", a), ("kept", b), ("rows", c), ("is_busy", d)] : List (Str × FV)) := by
  have n1 : ¬ (("panels" : Str) = "kept") := by decide +kernel
  have n2 : ¬ (("panels" : Str) = "rows") := by decide +kernel
  have n3 : ¬ (("kept" : Str) = "rows") := by decide +kernel
  have n4 : ¬ (("panels" : Str) = "is_busy") := by decide +kernel
  have n5 : ¬ (("kept" : Str) = "is_busy") := by decide +kernel
  have n6 : ¬ (("rows" : Str) = "is_busy") := by decide +kernel
  simp only [putFV, if_neg n1, if_neg n2, if_neg n3, if_neg n4, if_neg n5, if_neg n6]
def bokT (n m k : Nat) : Str := Str.empty ++ strI n ++ " items, " ++ strI m ++ " rules, " ++ strI k ++ " actions"
theorem strI_small : ∀ n : Nat, n < 101 → (strI n).length ≤ 3 := by decide +kernel
theorem bok_lens {n m k : Nat} (hn : n ≤ 100) (hm : m ≤ 100) (hk : k ≤ 100) {S : Nat} (hS : 100 ≤ S) :
    (Str.empty ++ strI n).length ≤ S ∧ (Str.empty ++ strI n ++ " items, ").length ≤ S ∧ (Str.empty ++ strI n ++ " items, " ++ strI m).length ≤ S ∧ (Str.empty ++ strI n ++ " items, " ++ strI m ++ " rules, ").length ≤ S ∧
      (Str.empty ++ strI n ++ " items, " ++ strI m ++ " rules, " ++ strI k).length ≤ S ∧ (bokT n m k).length ≤ S := by
  have a := strI_small n (by omega)
  have b := strI_small m (by omega)
  have c := strI_small k (by omega)
  have e0 : (Str.empty).length = 0 := by decide +kernel
  have e1 : (" items, " : Str).length = 8 := by decide +kernel
  have e2 : (" rules, " : Str).length = 8 := by decide +kernel
  have e3 : (" actions" : Str).length = 8 := by decide +kernel
  unfold bokT
  simp only [Str.length_append, e0, e1, e2, e3]
  omega
theorem log_small {n : Nat} (h : n ≤ 100) : ((n : Int)).natAbs.log2 < 1920 := by
  rw [Int.natAbs_natCast]
  by_cases h0 : n = 0
  · subst h0; decide
  · exact Nat.lt_of_lt_of_le ((Nat.log2_lt h0).mpr (show n < 2 ^ 7 by omega)) (by decide)
def Ers (x : Xc) : Prop := (∃ d, x = xItem d) ∨ (∃ d, x = xRule d) ∨ (∃ d, x = xMark d) ∨ (∃ d, x = xWeight d) ∨ x = xFull ∨ x = xLast
theorem Act.run_er {p : Pan} {a : Act} {x : Xc} (h : a.run p = .error x) : Ers x ∧ ∀ n d, x.f = some (n, d) → d ∈ a.args := by
  cases a <;> simp only [Act.run] at h <;> (repeat' split at h) <;> cases h <;> simp [Ers, xItem, xRule, xMark, xWeight, xFull, xLast, Act.args]
mutual
def D.eqz : D → Bool
  | .non => true
  | .bl _ => true
  | .int _ => true
  | .str _ => true
  | .lst xs => D.plns xs
  | .tup xs => D.eqzs xs
  | .dct ks xs => ks.isEmpty && xs.isEmpty
  | .obj _ => false
def D.eqzs : List D → Bool
  | [] => true
  | d :: ds => d.eqz && D.eqzs ds
end
theorem eqzs_mem : ∀ {ds : List D}, D.eqzs ds = true → ∀ d ∈ ds, d.eqz = true
  | [], _, _, h => by cases h
  | e :: ds, h, d, hd => by
    have h : (e.eqz && D.eqzs ds) = true := h
    rw [Bool.and_eq_true] at h
    rcases List.mem_cons.mp hd with rfl | hd
    · exact h.1
    · exact eqzs_mem h.2 d hd
theorem eqzs_of : ∀ {ds : List D}, (∀ d ∈ ds, d.eqz = true) → D.eqzs ds = true
  | [], _ => rfl
  | e :: ds, h => by
    show (e.eqz && D.eqzs ds) = true
    rw [h e (by simp), eqzs_of fun d hd => h d (by simp [hd])]; rfl
mutual
theorem pln_eqz : ∀ d : D, d.pln = true → d.eqz = true
  | .non, _ => rfl
  | .bl _, _ => rfl
  | .int _, _ => rfl
  | .str _, _ => rfl
  | .lst _, h => h
  | .tup xs, h => plns_eqz xs h
  | .dct _ _, h => by cases h
  | .obj _, h => by cases h
theorem plns_eqz : ∀ ds : List D, D.plns ds = true → D.eqzs ds = true
  | [], _ => rfl
  | d :: ds, h => by
    have h : (d.pln && D.plns ds) = true := h
    rw [Bool.and_eq_true] at h
    show (d.eqz && D.eqzs ds) = true
    rw [pln_eqz d h.1, plns_eqz ds h.2]; rfl
end
def eqZD : D → D → DK → Prop := fun d e R => (EqOk d e ∧ R (.bl (D.eqv d e))) ∨ (d = .dct [] [] ∧ e = .dct [] [] ∧ R (.bl true))
theorem o_eqZ {X : Cx} {k : Nat} (hr : Room k X.A) : OpR X (compareOp .Eq) (dOp2 X.K eqZD) := by
  intro pins s σ H x y v u Q I rx ry ⟨Z, d, e, R, kz, ad, ae, h, q⟩
  rcases h with h | ⟨rfl, rfl, h⟩
  · exact o_eq hr pins s σ H x y v u Q I rx ry ⟨Z, d, e, R, kz, ad, ae, h, q⟩
  · simp only [At] at ad ae
    obtain ⟨a, ks, rfl, e1, m1, _⟩ := ad
    obtain ⟨b, ls, rfl, e2, m2, _⟩ := ae
    obtain rfl : ks = [] := List.map_eq_nil_iff.mp m1
    obtain rfl : ls = [] := List.map_eq_nil_iff.mp m2
    exact op_eq_dictA (by have := hr.un; omega) pins s σ H _ _ v u Q I rx ry ⟨a, b, [], [], rfl, rfl, kz _ _ e1, kz _ _ e2, rfl, fun p hp => (by cases hp), dk q kz h rfl⟩
theorem eqz_obj {d : D} (h : d.eqz = true) : ∀ p, d ≠ .obj p := fun p e => by subst e; cases h
theorem eqz_leaf {d : D} (h : d.eqz = true) (hd : d.dep ≤ 64) (nt : isTy "tuple" d = false) {R : DK} (hR : R (.bl true)) : eqZD d d R := by
  have pl : d.pln = true → eqZD d d R := fun hp => .inl ⟨.of ⟨hp, hp, hd, hd⟩, by rw [eqv_refl d hp]; exact hR⟩
  cases d with
  | non => exact pl rfl
  | bl b => exact pl rfl
  | int i => exact pl rfl
  | str x => exact .inl ⟨trivial, by rw [show D.eqv (.str x) (.str x) = true by simp [D.eqv]]; exact hR⟩
  | lst xs => exact pl h
  | tup xs =>
    have := isTy_tup (.tup xs)
    rw [nt] at this
    cases this
  | dct ks xs =>
    have h : (ks.isEmpty && xs.isEmpty) = true := h
    rw [Bool.and_eq_true] at h
    obtain rfl := List.isEmpty_iff.mp h.1
    obtain rfl := List.isEmpty_iff.mp h.2
    exact .inr ⟨rfl, rfl, hR⟩
  | obj _ => cases h
end Pm
set_option Elab.async false
set_option linter.all false
set_option maxRecDepth 100000
set_option maxHeartbeats 1000000
set_option autoImplicit false
namespace Pm
open PySem PySem.Spec
open PyProof.Rows hiding St
open L2
theorem plns_of : ∀ {ds : List D}, (∀ d ∈ ds, d.pln = true) → D.plns ds = true
  | [], _ => rfl
  | e :: ds, h => by
    show (e.pln && D.plns ds) = true
    rw [h e (by simp), plns_of fun d hd => h d (by simp [hd])]; rfl
theorem odd_pl {d : D} (h : d ∈ oddL) : d.pln = true ∨ d = .dct [] [] := by
  simp only [oddL, List.mem_cons, List.not_mem_nil, or_false] at h
  rcases h with rfl | rfl | rfl | rfl | rfl | rfl | rfl | rfl | rfl | rfl | rfl | rfl | rfl | rfl | rfl | rfl | rfl | rfl | rfl | rfl
  all_goals first | (left; decide +kernel) | exact .inr rfl
theorem vStr {b w k : Nat} {x : Str} (h : (D.str x).plz = true) (hw : (D.str x).wid ≤ w) : VOk b w k (.str x) := ⟨h, trivial, hw, Nat.zero_le _⟩
theorem nmOk (a : Act) : VOk 102 1000 4 (.str a.nm) := by
  refine vStr ?_ ?_ <;> cases a <;> simp only [Act.nm] <;> decide +kernel
def KpOk (d : D) : Prop := d.pln = true ∧ d.dep ≤ 1 ∧ d.wid ≤ 8000
theorem kp_two {a : Act} {i j : Int} (h : a.args = [.int i, .int j]) : KpOk a.d := by
  have n := nmOk a
  have w := n.w
  have e : a.d = .tup [.str a.nm, .int i, .int j] := by unfold Act.d; rw [h]
  rw [e]
  refine ⟨?_, by show 1 ≤ 1; decide, ?_⟩
  · show ((D.str a.nm).pln && true) = true
    rw [nm_pln a]; rfl
  · show ((D.str a.nm).wid + 8 + (2000 + 8 + (2000 + 8 + 0))) + 8 ≤ 8000
    omega
theorem kp_one {a : Act} {i : Int} (h : a.args = [.int i]) : KpOk a.d := by
  have n := nmOk a
  have w := n.w
  have e : a.d = .tup [.str a.nm, .int i] := by unfold Act.d; rw [h]
  rw [e]
  refine ⟨?_, by show 1 ≤ 1; decide, ?_⟩
  · show ((D.str a.nm).pln && true) = true
    rw [nm_pln a]; rfl
  · show ((D.str a.nm).wid + 8 + (2000 + 8 + 0)) + 8 ≤ 8000
    omega
theorem Act.kp {p p' : Pan} {a : Act} (h : a.run p = .ok p') : KpOk a.d := by
  cases a with
  | setMark v m =>
    obtain ⟨h1, h2, _⟩ := inv_setMark h
    obtain ⟨i, rfl, _⟩ := itm_int h1
    obtain ⟨j, rfl, _⟩ := inI_int h2
    exact kp_two rfl
  | setWeight v m =>
    obtain ⟨h1, h2, _⟩ := inv_setWeight h
    obtain ⟨i, rfl, _⟩ := itm_int h1
    obtain ⟨j, rfl, _⟩ := inI_int h2
    exact kp_two rfl
  | addItem v m =>
    obtain ⟨h1, h2, _⟩ := inv_addItem h
    obtain ⟨i, rfl, _⟩ := inI_int h1
    obtain ⟨j, rfl, _⟩ := inI_int h2
    exact kp_two rfl
  | addRule v m =>
    obtain ⟨h1, h2, _⟩ := inv_addRule h
    obtain ⟨i, rfl, _⟩ := itm_int h1
    obtain ⟨j, rfl, _⟩ := itm_int h2
    exact kp_two rfl
  | dropItem v =>
    obtain ⟨h1, _⟩ := inv_dropItem h
    obtain ⟨i, rfl, _⟩ := itm_int h1
    exact kp_one rfl
  | dropRule v =>
    obtain ⟨h1, _⟩ := inv_dropRule h
    obtain ⟨i, rfl, _⟩ := inI_int h1
    exact kp_one rfl
theorem BokAt.step {CB : Addr} {b : Bok} {p p' : Pan} {a : Act} (hb : BokAt CB b p) (h : a.run p = .ok p') (h1 : b.ps.length < 61) (h2 : b.ks.length < 60) : BokAt CB (b.step p' a) p' := by
  refine ⟨hb.C, ⟨b.ps, rfl⟩, Act.run_ok hb.pan h, ?_, ?_⟩
  · show (b.ps ++ [panD p']).length ≤ 61
    rw [List.length_append, List.length_singleton]; omega
  · show (b.ks ++ [a.d]).length ≤ 60
    rw [List.length_append, List.length_singleton]; omega
theorem seen_ok {p : Pan} {ks : List D} (hp : PanOk 8 p) (hk : ∀ k ∈ ks, KpOk k) (hl : ks.length ≤ 60) :
    (D.tup [panD p, .tup ks, .int (ks.length : Nat), .str (bokT p.its.length p.rus.length ks.length)]).eqz = true ∧ (D.tup [panD p, .tup ks, .int (ks.length : Nat), .str (bokT p.its.length p.rus.length ks.length)]).dep < 24 ∧
      (D.tup [panD p, .tup ks, .int (ks.length : Nat), .str (bokT p.its.length p.rus.length ks.length)]).wid ≤ 10000000 := by
  have pv := VOk.pan hp (by decide)
  have pe : (panD p).eqz = true := by
    refine eqzs_of fun d hd => ?_
    simp only [List.mem_cons, List.not_mem_nil, or_false] at hd
    rcases hd with rfl | rfl
    all_goals
      refine eqzs_of fun d hd => ?_
      obtain ⟨q, _, rfl⟩ := List.mem_map.mp hd
      rfl
  have ke : D.eqzs ks = true := eqzs_of fun d hd => pln_eqz d (hk d hd).1
  have kd : D.deps ks ≤ 1 := deps_le.mpr fun d hd => (hk d hd).2.1
  have kw : ∀ l : List D, (∀ k ∈ l, KpOk k) → D.wids l ≤ 8008 * l.length := fun l => by
    induction l with
    | nil => intro _; exact Nat.le_refl 0
    | cons x l ih =>
      intro h
      have h1 := (h x (by simp)).2.2
      have h2 := ih fun k hk => h k (by simp [hk])
      show x.wid + 8 + D.wids l ≤ 8008 * (l.length + 1)
      omega
  have kw := kw ks hk
  obtain ⟨_, _, _, _, _, tl⟩ := bok_lens (n := p.its.length) (m := p.rus.length) (k := ks.length) (by have := hp.top; omega) (by have := hp.few; omega) (by omega) (S := 100) (by decide)
  refine ⟨?_, ?_, ?_⟩
  · show ((panD p).eqz && (D.eqzs ks && true)) = true
    rw [pe, ke]; rfl
  · have d1 := pv.k
    show D.deps [panD p, .tup ks, .int (ks.length : Nat), .str (bokT p.its.length p.rus.length ks.length)] + 1 < 24
    have : D.deps [panD p, .tup ks, .int (ks.length : Nat), .str (bokT p.its.length p.rus.length ks.length)] ≤ 3 := deps_le.mpr fun d hd => by
      simp only [List.mem_cons, List.not_mem_nil, or_false] at hd
      rcases hd with rfl | rfl | rfl | rfl
      · exact d1
      · show D.deps ks + 1 ≤ 3; omega
      · exact Nat.zero_le _
      · exact Nat.zero_le _
    omega
  · have w1 := pv.w
    show (panD p).wid + 8 + ((D.wids ks + 8) + 8 + (2000 + 8 + ((10 * (bokT p.its.length p.rus.length ks.length).length + 8) + 8 + 0))) + 8 ≤ 10000000
    omega
end Pm
set_option Elab.async false
set_option linter.all false
set_option maxRecDepth 100000
set_option maxHeartbeats 1000000
set_option autoImplicit false
namespace Pm
open PySem PySem.Spec
open PyProof.Rows hiding St
open L2
structure IdB (CB o : Addr) (b : Bok) (p : Pan) (n : Nat) : Prop where
  at_ : BokAt CB b p
  o : b.o = o
  idle : b.busy = false
  ks : b.ks.length = n
  ps : b.ps.length = n + 1
theorem IdB.step {CB o : Addr} {b : Bok} {p p' : Pan} {n : Nat} {a : Act} (h : IdB CB o b p n) (hr : a.run p = .ok p') (hn : n < 60) : IdB CB o (b.step p' a) p' (n + 1) := by
  refine ⟨h.at_.step hr (by rw [h.ps]; omega) (by rw [h.ks]; exact hn), h.o, h.idle, ?_, ?_⟩
  · show (b.ks ++ [a.d]).length = n + 1
    rw [List.length_append, List.length_singleton, h.ks]
  · show (b.ps ++ [panD p']).length = n + 1 + 1
    rw [List.length_append, List.length_singleton, h.ps]
theorem IdB.act {CB o : Addr} {b : Bok} {p p' : Pan} {n : Nat} {a : Act} {R : Bok → Prop} {W : Xc → Prop} (h : IdB CB o b p n) (hr : a.run p = .ok p') (hn : n < 60) (q : R (b.step p' a)) : actW b p a R W := by
  unfold actW keepW
  rw [if_neg (by rw [h.idle]; decide), if_neg (by rw [h.ks]; omega), hr]
  exact q
end Pm
set_option Elab.async false
set_option linter.all false
set_option maxRecDepth 100000
set_option maxHeartbeats 1000000
set_option autoImplicit false
namespace Pm
open PySem PySem.Spec
open PyProof.Rows hiding St
open L2
variable {γ : Type}
section
variable {X : Cx} {G : GP γ} {body fs : List Stmt} {f₀ : Stmt} {pos : Pos}
theorem ps_tryFin {tb tf : TS} (hb : ∀ pn xe, PSs (X.tr pn xe) body tb) (hf : ∀ pn xe, PSs (X.tr pn xe) (f₀ :: fs) tf) :
    PS X (.Try body [] [] (f₀ :: fs) pos) (fun D σ H => tb { nx := fun σ1 H1 => tf D σ1 H1, rt := fun _ _ => False, bk := fun _ _ => False, ct := fun _ _ => False } σ H) := by
  refine ⟨fun pins s σ H D I h => ?_⟩
  have ok := I.ok
  refine wpAny_Try_finally ?_
  refine wpAny_mono ((hb (X.pn ++ pins) _).run [] s σ H _ (I.toTry _) h) (fun f s1 hsp => ?_) (fun e s1 he => he)
  cases f with
  | brk => exact (let ⟨_, _, _, q⟩ := hsp; False.elim q)
  | cont => exact (let ⟨_, _, _, q⟩ := hsp; False.elim q)
  | ret u => exact (let ⟨_, _, _, _, _, q⟩ := hsp; False.elim q)
  | next =>
    obtain ⟨σ1, H1, J, q⟩ := hsp
    refine wpAny_execs_nil ?_
    refine wpAny_mono ((hf (X.pn ++ pins) _).run [] s1 σ1 H1 D ((J.ofTry ok).toTry _) q) (fun g s2 hg => ?_) (fun _ _ e => e)
    cases g with
    | next => exact (let ⟨_, _, J', q⟩ := hg; ⟨_, _, J'.ofTry ok, q⟩)
    | brk => exact (let ⟨_, _, J', q⟩ := hg; ⟨_, _, J'.ofTry ok, q⟩)
    | cont => exact (let ⟨_, _, J', q⟩ := hg; ⟨_, _, J'.ofTry ok, q⟩)
    | ret u => exact (let ⟨_, _, _, J', r, q⟩ := hg; ⟨_, _, _, J'.ofTry ok, r, q⟩)
def qTryFin (tb tf : PSx γ) : PSx γ := fun E s => tb { nx := fun s1 => tf E s1, rt := fun _ _ => False, bk := fun _ => False, ct := fun _ => False } s
theorem qs_tryFin {tb tf : PSx γ} (hb : ∀ pn xe, QSs (X.tr pn xe) G body tb) (hf : ∀ pn xe, QSs (X.tr pn xe) G (f₀ :: fs) tf) : QS X G (.Try body [] [] (f₀ :: fs) pos) (qTryFin tb tf) := by
  refine PS.imp (ps_tryFin (tb := lS G tb) (tf := lS G tf) hb hf) fun De σ H ⟨F, Z, s, E, r, t, n, rt, bk, ct⟩ => ?_
  refine ⟨F, Z, s, _, r, t, fun s' Z' σ' H' q k' r' => ?_, fun _ _ _ _ _ _ q => q.elim, fun _ _ _ _ q => q.elim, fun _ _ _ _ q => q.elim⟩
  exact ⟨F, Z', s', E, r', q, fun s2 Z2 σ2 H2 q k2 r2 => n s2 Z2 σ2 H2 q (k'.trans k2) r2, fun d s2 Z2 σ2 v H2 q k2 r2 a2 => rt d s2 Z2 σ2 v H2 q (k'.trans k2) r2 a2, fun s2 Z2 σ2 H2 q k2 r2 => bk s2 Z2 σ2 H2 q (k'.trans k2) r2, fun s2 Z2 σ2 H2 q k2 r2 => ct s2 Z2 σ2 H2 q (k'.trans k2) r2⟩
theorem ps_try0 {h₀ : ExceptHandler} {hs : List ExceptHandler} {tb : TS} (hb : ∀ pn xe, PSs (X.tr pn xe) body tb) : PS X (.Try body (h₀ :: hs) [] [] pos) tb := by
  refine ⟨fun pins s σ H D I h => ?_⟩
  have ok := I.ok
  refine wpAny_Try_except ?_
  refine wpAny_mono ((hb (X.pn ++ pins) _).run [] s σ H D (I.toTry _) h) (fun f s1 hsp => ?_) (fun e s1 he => he)
  cases f with
  | next => exact (let ⟨_, _, J', q⟩ := hsp; wpAny_execs_nil ⟨_, _, J'.ofTry ok, q⟩)
  | brk => exact (let ⟨_, _, J', q⟩ := hsp; ⟨_, _, J'.ofTry ok, q⟩)
  | cont => exact (let ⟨_, _, J', q⟩ := hsp; ⟨_, _, J'.ofTry ok, q⟩)
  | ret u => exact (let ⟨_, _, _, J', r, q⟩ := hsp; ⟨_, _, _, J'.ofTry ok, r, q⟩)
theorem qs_try0 {h₀ : ExceptHandler} {hs : List ExceptHandler} {tb : PSx γ} (hb : ∀ pn xe, QSs (X.tr pn xe) G body tb) : QS X G (.Try body (h₀ :: hs) [] [] pos) tb := ps_try0 (tb := lS G tb) hb
end
theorem FvsAt.putOwn {K : PySem.W.Frag} {Z H H' : Hp} {f : Str} {a : Addr} {ds ds' : List D} {us : List V} (ha : H' a = some (.lst us)) (hu : Ats K Z ds' us) (k : ∀ b, b ≠ a → H' b = H b) :
    ∀ {fs : List (Str × FV)} {vs : List (Str × V)}, FvsAt K Z H fs vs → (ownsF fs).Nodup → fs.lookup f = some (.own a ds) → FvsAt K Z H' (putFV f (.own a ds') fs) vs ∧ ownsF (putFV f (.own a ds') fs) = ownsF fs
  | [], vs, h, _, l => by cases l
  | (g, y) :: fs, vs, ⟨v, r, e, h1, h2⟩, nd, l => by
    by_cases hg : g = f
    · subst hg
      have e2 : y = .own a ds := by rw [List.lookup_cons_self] at l; exact Option.some.inj l
      subst e2
      have na : a ∉ ownsF fs := (List.nodup_cons.mp nd).1
      obtain ⟨e3, _⟩ := h1
      simp only [putFV, if_pos rfl]
      exact ⟨⟨v, r, e, ⟨e3, us, ha, hu⟩, FvsAt.stay (Same.refl _) h2 fun b hb => k b fun z => na (by rw [← z]; exact hb)⟩, rfl⟩
    · simp only [putFV, if_neg hg]
      have l2 : fs.lookup f = some (.own a ds) := by
        rw [List.lookup_cons] at l
        rw [show (f == g) = false from beq_eq_false_iff_ne.mpr fun z => hg z.symm] at l
        exact l
      have am : ∀ {fs : List (Str × FV)}, fs.lookup f = some (.own a ds) → a ∈ ownsF fs := fun {fs} => by
        induction fs with
        | nil => intro l; cases l
        | cons q fs ih =>
          intro l
          obtain ⟨g, y⟩ := q
          rw [List.lookup_cons] at l
          cases e : f == g with
          | true => rw [e] at l; cases l; exact List.mem_cons_self
          | false => rw [e] at l; exact ownsF_cons (ih l)
      cases y with
      | val d =>
        obtain ⟨i1, i2⟩ := FvsAt.putOwn (ds' := ds') ha hu k h2 nd l2
        exact ⟨⟨v, r, e, h1, i1⟩, i2⟩
      | own b bs =>
        obtain ⟨n1, n2⟩ := List.nodup_cons.mp nd
        obtain ⟨i1, i2⟩ := FvsAt.putOwn (ds' := ds') ha hu k h2 n2 l2
        have ba : b ≠ a := fun z => n1 (by rw [z]; exact am l2)
        obtain ⟨e3, us2, e4, e5⟩ := h1
        refine ⟨⟨v, r, e, ⟨e3, us2, (k b ba).trans e4, e5⟩, i1⟩, ?_⟩
        show b :: ownsF (putFV f (.own a ds') fs) = b :: ownsF fs
        rw [i2]
theorem ownsF_lookup {f : Str} {a : Addr} {ds : List D} : ∀ {fs : List (Str × FV)}, fs.lookup f = some (.own a ds) → a ∈ ownsF fs
  | [], l => by cases l
  | (g, y) :: fs, l => by
    rw [List.lookup_cons] at l
    cases e : f == g with
    | true => rw [e] at l; cases l; exact List.mem_cons_self
    | false => rw [e] at l; exact ownsF_cons (ownsF_lookup l)
def qFSl (C : Addr) (f : Str) (td : PEx (γ × List OB)) (tl th : POx (γ × List OB)) : PEx (γ × List OB) := fun s R => td s fun d s1 => ∃ bs1 ob bs2 a xs, s1.g.2 = bs1 ++ ob :: bs2 ∧ d = .obj ob.o ∧ ob.C = C ∧ ob.fs.lookup f = some (.own a xs) ∧
  tl s1 fun l s2 => th s2 fun h s3 => s3.g = s1.g ∧ R (.lst (cut xs l h)) s3
def qFApp (C : Addr) (f : Str) (td te : PEx (γ × List OB)) : PEx (γ × List OB) := fun s R => td s fun d s1 => ∃ bs1 ob bs2 a xs, s1.g.2 = bs1 ++ ob :: bs2 ∧ d = .obj ob.o ∧ ob.C = C ∧ ob.fs.lookup f = some (.own a xs) ∧
  te s1 fun dv s2 => s2.g = s1.g ∧ xs.length < sizeLine ∧ R .non ⟨s2.ρ, (s2.g.1, bs1 ++ { ob with fs := putFV f (.own a (xs ++ [dv])) ob.fs } :: bs2)⟩
section
variable {X : Cx} {G0 : GP γ} {C : Addr} {f : Str} {o e : Expr} {td te : PEx (γ × List OB)} {pos p1 p2 apos cpos : Pos}
theorem qe_fSl {lo hi : Option Expr} {tl th : POx (γ × List OB)} (c : Cls X.K C) (n : NoAttr X.K C f) (ho : QE X (gBk G0) o td) (hl : QO X (gBk G0) lo tl) (hu : QO X (gBk G0) hi th) (hK : X.K = G0.K := by rfl) (hb : attributeBase o f X.env (eval o X.env) = eval o X.env := by rfl) :
    QE X (gBk G0) (.Subscript (.Attribute o f p1) (.Slice lo hi none p2) pos) (qFSl C f td tl th) := by
  refine PE.imp (pe_slice sl_list (pe_fld ho hb) hl hu) fun σ H Q ⟨F, Z, s, R, r, t, q⟩ => ?_
  refine ⟨F, Z, s, _, r, t, fun d s1 Z1 v1 H1 t1 k1 r1 a1 => ?_⟩
  obtain ⟨bs1, ob, bs2, a, xs, e1, rfl, rfl, e3, t1⟩ := t1
  obtain rfl : v1 = .ref ob.o := a1
  obtain ⟨vs, j⟩ := r1.j.2.2.at_ ob (by rw [e1]; simp)
  obtain ⟨u, e4, rfl, us, h1, a2⟩ := j.fv.get e3
  refine ⟨ob.o, ob.C, ob.dx, vs, .ref a, rfl, j.ins, c, n, e4, ⟨F, Z1, s1, _, r1, t1, fun l s2 Z2 H2 t2 k2 r2 => ⟨F, Z2, s2, _, r2, t2, fun h s3 Z3 H3 t3 k3 r3 => ?_⟩⟩⟩
  obtain ⟨eg, t3⟩ := t3
  obtain ⟨vs3, j3⟩ := r3.j.2.2.at_ ob (by rw [eg, e1]; simp)
  obtain ⟨u3, e6, _, us3, h3, a3⟩ := j3.fv.get e3
  refine ⟨a, us3, rfl, .inl (.inl h3), fun p hp => ?_⟩
  have x := Ext.new (o := HO.lst (L2.cutV us3 l h)) r3.z hp
  exact q _ s3 _ _ _ t3 (((k1.trans k2).trans k3).trans x.zz) (r3.ext x) ⟨p, _, rfl, upd_same, (Ats.mono x.zz _ _ a3).cut l h⟩
theorem qe_fApp (c : Cls X.K C) (n : NoAttr X.K C f) (ho : QE X (gBk G0) o td) (he : QE X (gBk G0) e te)
    (hb : attributeBase o f X.env (eval o X.env) = eval o X.env := by rfl)
    (hbase : attributeBase (.Attribute o f p1) "append" X.env (eval (.Attribute o f p1) X.env) = eval (.Attribute o f p1) X.env := by rfl)
    (hfew : ((backTo cpos (starEach [e] X.env)).all (fun x => !x.1) && (backToKw cpos (keywordEach [] X.env)).all (fun x => x.1.isSome)
      && decide (([e] : List Expr).length + ([] : List Keyword).length + (if ([] : List Keyword).isEmpty then 0 else 1) < 30)) = true := by rfl)
    (hline : (apos.endLine == cpos.line) = true := by rfl) (hs : starEach [e] X.env = (false, eval e X.env) :: starEach [] X.env := by rfl) (hplain : (backTo cpos (starEach [] X.env)).any (·.1) = false := by rfl) :
    QE X (gBk G0) (.Call (.Attribute (.Attribute o f p1) "append" apos) [e] [] cpos) (qFApp C f td te) := by
  refine PE.imp (pe_bm PySem.F.plainAttrs_list PySem.F.slot_list_append PySem.F.type_list_append mt_append (pe_fld ho hb) (pa_cons he pa_nil hs) hbase hfew hline hs hplain) fun σ H Q ⟨F, Z, s, R, r, t, q⟩ => ?_
  refine ⟨F, Z, s, _, r, t, fun d s1 Z1 v1 H1 t1 k1 r1 a1 => ?_⟩
  obtain ⟨bs1, ob, bs2, a, xs, e1, rfl, rfl, e3, t1⟩ := t1
  obtain rfl : v1 = .ref ob.o := a1
  obtain ⟨vs, j⟩ := r1.j.2.2.at_ ob (by rw [e1]; simp)
  obtain ⟨u, e4, rfl, us, h1, a2⟩ := j.fv.get e3
  refine ⟨ob.o, ob.C, ob.dx, vs, .ref a, rfl, j.ins, c, n, e4, own_ty h1, F, Z1, s1, _, r1, t1, fun dv s2 Z2 v H2 t2 k2 r2 a2 => ?_⟩
  obtain ⟨eg, hlen, t2⟩ := t2
  obtain ⟨j1, j2, j3⟩ := r2.j
  rw [eg, e1] at j3
  obtain ⟨⟨vs2, jo⟩, dj, jr⟩ := j3.mid
  obtain ⟨u2, e6, _, us2, h2, a3⟩ := jo.fv.get e3
  have am := ownsF_lookup e3
  have a4 : Ats G0.K Z2 (xs ++ [dv]) (us2 ++ [v]) := a3.append ⟨v, [], rfl, a2, rfl⟩
  obtain ⟨fv2, ow⟩ := FvsAt.putOwn (H' := upd H2 a (.lst (us2 ++ [v]))) (ds' := xs ++ [dv]) upd_same a4 (fun b hb => upd_ne hb) jo.fv jo.nd e3
  have ft : ∀ y, ftO { ob with fs := putFV f (.own a (xs ++ [dv])) ob.fs } y ↔ ftO ob y := fun y => by
    unfold ftO
    dsimp only
    rw [ow]
  have fa : ftO ob a := .inr (.inr am)
  have hf : (gBk G0).foot s2.g a := .inr (by rw [eg, e1]; exact ftL_mid.mpr (.inl fa))
  refine ⟨a, us2, v, rfl, rfl, h2, by rw [a3.len]; exact hlen, ?_⟩
  refine q _ _ Z2 _ _ t2 (k1.trans k2) (r2.writeB hf _ ⟨G0.stay _ _ _ _ _ j1 (Same.refl _) fun y hy => upd_ne fun z => j2 a (by rw [← z]; exact hy) (by rw [eg, e1]; exact ftL_mid.mpr (.inl fa)), fun b hb hl => ?_, ?_⟩ fun b hb => ?_) rfl
  · refine j2 b hb ?_
    rw [eg, e1]
    exact ftL_mid.mpr ((ftL_mid.mp hl).imp (ft b).mp id)
  · refine BsOk.unmid (jr.stay (Same.refl _) fun y hy => upd_ne fun z => dj a fa (by rw [← z]; exact hy)) ⟨vs2, (upd_ne fun z => jo.no (by rw [z]; exact am)).trans jo.ins, (upd_ne fun z => jo.nx (by rw [z]; exact am)).trans jo.dxo, jo.ne, fv2, by rw [ow]; exact jo.nd, by rw [ow]; exact jo.no, by rw [ow]; exact jo.nx⟩ fun b hb => dj b ((ft b).mp hb)
  · rcases hb with hb | hb
    · exact .inl hb
    · refine .inr ?_
      rw [eg, e1]
      exact ftL_mid.mpr ((ftL_mid.mp hb).imp (ft b).mp id)
end
end Pm
set_option Elab.async false
set_option linter.all false
set_option maxRecDepth 100000
set_option maxHeartbeats 1000000
set_option autoImplicit false
namespace Pm
open PySem PySem.Spec
open PyProof.Rows hiding St
open L2
variable {γ : Type}
def GDc (w : World) (K : PySem.W.Frag) (mg : Str → Option Value) (x : Str) (kvs : List (Str × He.Dv)) : Prop :=
  ∃ p es n, mg x = some (.ref p) ∧ KDict K w p es n ∧ ∀ q ∈ kvs, ∃ u, PySem.W.nsIn K p q.1 = some (some u) ∧ RelV (q.2.v K) u
def dvD : He.Dv → D
  | .int i => .int i
  | .str x => .str x
  | .bl b => .bl b
  | _ => .non
def dvOk : He.Dv → Bool
  | .int _ => true
  | .str _ => true
  | .bl _ => true
  | _ => false
theorem dv_at {K K' : PySem.W.Frag} {Z : Hp} {v : He.Dv} (h : dvOk v = true) : At K' Z (dvD v) (v.v K) := by
  cases v <;> first | rfl | cases h
def qInK (kvs : List (Str × He.Dv)) (te : PEx γ) : PEx γ := fun s R => te s fun d s1 => ∃ z v, d = .str z ∧ (z, v) ∈ kvs ∧ R (.bl true) s1
def qIxK (kvs : List (Str × He.Dv)) (te : PEx γ) : PEx γ := fun s R => te s fun d s1 => ∃ z v, d = .str z ∧ (z, v) ∈ kvs ∧ dvOk v = true ∧ R (dvD v) s1
section
variable {X : Cx} {G : GP γ} {x : Str} {kvs : List (Str × He.Dv)} {e : Expr} {te : PEx γ} {p pos : Pos}
theorem linK {σ : L2.St} {H : Hp} {Q : VK} {q : Addr} (hv : ∀ q' ∈ kvs, ∃ u, PySem.W.nsIn X.K q q'.1 = some (some u) ∧ RelV (q'.2.v X.K) u) (h : lE G (qInK kvs te) σ H Q) :
    tOp (fun x y H Q => ∃ (z : Str) (r : Option Value), x = .str z ∧ y = .ref q ∧ PySem.W.nsIn X.K q z = some r ∧ Q (.bl r.isSome) H) (lE G te) (tC (.ref q)) σ H Q := by
  obtain ⟨F, Z, s, R, r, t, k⟩ := h
  refine ⟨F, Z, s, _, r, t, fun d s1 Z1 v H1 t1 k1 r1 a1 => ?_⟩
  obtain ⟨z, v', rfl, hm, t1⟩ := t1
  obtain rfl : v = .str z := a1
  obtain ⟨u, e1, _⟩ := hv _ hm
  exact ⟨z, some u, rfl, rfl, e1, k _ s1 Z1 _ H1 t1 k1 r1 rfl⟩
theorem qe_inK (g : GDc X.w X.K X.mg x kvs) (hg : Gl X x) (he : QE X G e te) (hm : behindInMarks .In (.Name x p) = false) (hd : (x == ("__debug__" : Str)) = false := by decide) : QE X G (.Compare e [.In] [.Name x p] pos) (qInK kvs te) := by
  obtain ⟨q, es, n, m, D, hv⟩ := g
  exact PE.imp (pe_cmpR (op_in_kd D) he (pe_glob (v := .ref q) hg m rfl hd) hm) fun _ _ _ h => linK hv h
theorem qe_ixK (g : GDc X.w X.K X.mg x kvs) (hg : Gl X x) (he : QE X G e te) (hs : PlainIx e := by intro _ _; rfl) (hd : (x == ("__debug__" : Str)) = false := by decide) : QE X G (.Subscript (.Name x p) e pos) (qIxK kvs te) := by
  obtain ⟨q, es, n, m, D, hv⟩ := g
  refine PE.imp (pe_ix ix_kdict (pe_glob (v := .ref q) hg m rfl hd) he hs) fun σ H Q ⟨F, Z, s, R, r, t, k⟩ => ?_
  refine ⟨F, Z, s, _, r, t, fun d s1 Z1 v H1 t1 k1 r1 a1 => ?_⟩
  obtain ⟨z, v', rfl, hm, ok, t1⟩ := t1
  obtain rfl : v = .str z := a1
  obtain ⟨u, e1, ru⟩ := hv _ hm
  exact ⟨q, z, v'.v X.K, rfl, rfl, ⟨es, n, u, D.at_, D.lit, e1, ru⟩, k _ s1 Z1 _ H1 t1 k1 r1 (dv_at ok)⟩
end
section
variable {fa : List He.Fa} {fn : List He.DefD} {ex : PySem.W.Frag → Bool} {ts : List He.Tab} {w : World} {K : PySem.W.Frag}
theorem SaysX.d (c : SaysX fa fn ex ts w K) : He.SaysD fa fn K := congrArg (fun z : AlX => z.1.1) c
theorem SaysX.own (c : SaysX fa fn ex ts w K) : ex K = true := congrArg (fun z : AlX => z.1.2) c
theorem SaysX.tab (c : SaysX fa fn ex ts w K) (i : Nat) {t : He.Tab} (h : ts[i]? = some t) : ∃ es n, KDict K w (t.1 K) es n := by
  have e : ts.map (fun t => He.dicW K (t.1 K)) = ts.map fun t => some (He.keysIn w.params t.2) := congrArg (fun z : AlX => z.2) c
  have e2 : (ts.map fun t => He.dicW K (t.1 K))[i]? = (ts.map fun t => some (He.keysIn w.params t.2))[i]? := by rw [e]
  rw [List.getElem?_map, List.getElem?_map, h] at e2
  exact He.dicW_ok (Option.some.inj e2)
end
theorem gdc_ok {K : PySem.W.Frag} {mg : Str → Option Value} {h : Heap} {w : World} (X : K.In h) (G : h.Ns mainGlobals mg) {x : Str} {kvs : List (Str × He.Dv)} (c : dcB K x kvs = true) (D : ∃ es n, KDict K w (He.ga K x) es n) : GDc w K mg x kvs := by
  obtain ⟨c1, c2⟩ := He.ba c
  obtain ⟨es, n, D⟩ := D
  exact ⟨_, es, n, He.glo_ok X G c1, D, fun q hq => He.valsB_ok c2 hq⟩
end Pm
set_option Elab.async false
set_option linter.all false
set_option maxRecDepth 100000
set_option maxHeartbeats 1000000
set_option autoImplicit false
namespace Pm
open PySem PySem.Spec
open PyProof.Rows hiding St
open L2
variable {γ : Type}
structure ClsX (K : PySem.W.Frag) (C : Addr) : Prop where
  ha : PySem.W.findIn K (.ref C) "__class__" = some (some (.builtin "object.__class__"))
  hn : PySem.W.specialIn K (.builtin "object.__class__") "__get__" = some (some (.builtin "getset_descriptor.__get__"))
  htk : PySem.W.takesIn K (.builtin "object.__class__") = some true
  hm : PySem.W.mroIn K C (.type "object") = some true
def qIsB (C : Addr) (td : PEx (γ × List OB)) : PEx (γ × List OB) := fun s R => td s fun d s1 => ∃ ob ∈ s1.g.2, d = .obj ob.o ∧ ob.C = C ∧ R (.bl true) s1
section
variable {X : Cx} {G0 : GP γ} {G : GP γ} {C : Addr} {x : Str} {e : Expr} {td : PEx (γ × List OB)} {te : PEx γ} {p p1 p2 p3 p4 pos : Pos} {j : Nat}
theorem qe_isB (c : Cls X.K C) (cx : ClsX X.K C) (mx : X.mg x = some (.ref C)) (he : QE X (gBk G0) e td) (hg : Gl X "isinstance") (hm : X.mg "isinstance" = none) (hgx : Gl X x) (hdx : (x == ("__debug__" : Str)) = false := by decide)
    (hs : starEach [e, .Name x p2] X.env = (false, eval e X.env) :: starEach [.Name x p2] X.env := by rfl) (hs2 : starEach [.Name x p2] X.env = (false, eval (.Name x p2) X.env) :: starEach [] X.env := by rfl) (hpl : (backTo pos (starEach [.Name x p2] X.env)).any (·.1) = false := by rfl) :
    QE X (gBk G0) (.Call (.Name "isinstance" p) [e, .Name x p2] [] pos) (qIsB C td) := by
  refine PE.imp (pe_callB call_isi hg hm (by decide +kernel) (pa_cons he (pa_cons (pe_glob (v := .ref C) hgx mx rfl hdx) pa_nil hs2) hs) (by decide) (by decide) hs hpl) fun σ H Q ⟨F, Z, s, R, r, t, q⟩ => ?_
  refine ⟨F, Z, s, _, r, t, fun d s1 Z1 v H1 t1 k1 r1 a1 => ?_⟩
  obtain ⟨ob, hob, rfl, rfl, t1⟩ := t1
  obtain rfl : v = .ref ob.o := a1
  obtain ⟨vs, j⟩ := r1.j.2.2.at_ ob hob
  refine ⟨.ref ob.o, .ref ob.C, .ref ob.C, .ref ob.C, true, rfl, .own _, .base (.ins j.ins c cx.ha cx.hn cx.htk cx.hm), ?_, q _ s1 Z1 _ H1 t1 k1 r1 rfl⟩
  unfold PySem.W.kitOne
  rw [if_pos (beq_self_eq_true _)]
def qIsLT (te : PEx γ) : PEx γ := fun s R => te s fun d s1 => (∀ p, d ≠ .obj p) ∧ R (.bl (isTy "list" d || isTy "tuple" d)) s1
theorem qe_isLT (he : QE X G e te) (hg : Gl X "isinstance") (hm : X.mg "isinstance" = none) (hg1 : Gl X "list") (hm1 : X.mg "list" = none) (hg2 : Gl X "tuple") (hm2 : X.mg "tuple" = none) (hK : X.K = G.K := by rfl)
    (hsa : starEach [.Name "list" p1, .Name "tuple" p2] X.env = (false, eval (.Name "list" p1) X.env) :: starEach [.Name "tuple" p2] X.env := by rfl) (hsb : starEach [.Name "tuple" p2] X.env = (false, eval (.Name "tuple" p2) X.env) :: starEach [] X.env := by rfl)
    (hs : starEach [e, .Tuple [.Name "list" p1, .Name "tuple" p2] j p3] X.env = (false, eval e X.env) :: starEach [.Tuple [.Name "list" p1, .Name "tuple" p2] j p3] X.env := by rfl) (hs2 : starEach [.Tuple [.Name "list" p1, .Name "tuple" p2] j p3] X.env = (false, eval (.Tuple [.Name "list" p1, .Name "tuple" p2] j p3) X.env) :: starEach [] X.env := by rfl)
    (hpl : (backTo pos (starEach [.Tuple [.Name "list" p1, .Name "tuple" p2] j p3] X.env)).any (·.1) = false := by rfl) :
    QE X G (.Call (.Name "isinstance" p) [e, .Tuple [.Name "list" p1, .Name "tuple" p2] j p3] [] pos) (qIsLT te) := by
  refine PE.imp (pe_callB call_isiT hg hm (by decide +kernel) (pa_cons he (pa_cons (pe_tup (pa_cons (pe_bltn (v := .ty "list") hg1 hm1 (by decide +kernel) rfl (by decide) (by decide)) (pa_cons (pe_bltn (v := .ty "tuple") hg2 hm2 (by decide +kernel) rfl (by decide) (by decide)) pa_nil hsb) hsa)) pa_nil hs2) hs) (by decide) (by decide) hs hpl) fun σ H Q ⟨F, Z, s, R, r, t, q⟩ => ?_
  refine ⟨F, Z, s, _, r, t, fun d s1 Z1 v H1 t1 k1 r1 a1 => ⟨by show 2 ≤ sizeLine; rw [sizeLine_eq]; omega, fun tp hp => ?_⟩⟩
  have x' := Ext.new (o := HO.tup [V.ty "list", V.ty "tuple"]) r1.z hp
  have r' := r1.ext x'
  have k1' := kit_all X.K (.inr (.inr (.inr (.inr (.inl rfl))))) d t1.1
  have k2' := kit_all X.K (.inr (.inr (.inr (.inl rfl)))) d t1.1
  refine ⟨v, tp, [V.ty "list", V.ty "tuple"], .type (tyOf d), [.type "list", .type "tuple"], isTy "list" d || isTy "tuple" d, rfl, upd_same, .cons (.ty _) (.cons (.ty _) .nil), by rw [hK]; exact tyX_of (fun b o e => x'.hh _ _ (r1.z _ _ e)) (At.mono (Same.refl _) _ _ a1) t1.1, ?_, q _ s1 _ _ _ t1.2 (k1.trans x'.zz) r' rfl⟩
  unfold PySem.W.kitAny
  rw [k1']
  cases isTy "list" d with
  | true => rfl
  | false =>
    dsimp only
    unfold PySem.W.kitAny
    rw [k2']
    cases isTy "tuple" d <;> rfl
end
end Pm
namespace Pm
open PySem PySem.Spec
open PyProof.Rows hiding St
open L2
theorem qs_ofX {γ : Type} {X : Cx} {G : GP γ} {W : WX} {s : Stmt} {t : PSXx γ} (h : QSX X G W s t) : QS X G s (t fun _ _ => False) :=
  PS.imp h fun De σ H ⟨F, Z, s, E, r, t, n, rt, bk, ct⟩ => ⟨F, Z, s, E, fun _ _ => False, r, t, n, rt, bk, ct, fun _ _ _ _ _ _ _ h => h.elim⟩
end Pm
set_option Elab.async false
set_option linter.all false
set_option maxRecDepth 100000
set_option maxHeartbeats 1000000
set_option autoImplicit false
namespace Pm
open PySem PySem.Spec
open PyProof.Rows hiding St
open L2
theorem Bok.put_rows (b : Bok) (a : Addr) (xs : List D) : { b.ob with fs := putFV "rows" (.own a xs) b.ob.fs } = ({ b with ra := a, rows := xs } : Bok).ob := by
  have n1 : ¬ (("panels" : Str) = "rows") := by decide +kernel
  have n2 : ¬ (("kept" : Str) = "rows") := by decide +kernel
  simp only [Bok.ob, putFV, if_pos, if_neg n1, if_neg n2]
theorem Bok.put_busy (b : Bok) (x : Bool) : { b.ob with fs := putFV "is_busy" (.val (.bl x)) b.ob.fs } = ({ b with busy := x } : Bok).ob := by
  have n1 : ¬ (("panels" : Str) = "is_busy") := by decide +kernel
  have n2 : ¬ (("kept" : Str) = "is_busy") := by decide +kernel
  have n3 : ¬ (("rows" : Str) = "is_busy") := by decide +kernel
  simp only [Bok.ob, putFV, if_pos, if_neg n1, if_neg n2, if_neg n3]
def runL : Pan → List Act → Option Pan
  | p, [] => some p
  | p, a :: as => match a.run p with
    | .ok p' => runL p' as
    | .error _ => none
def runP : Pan → List Act → List Pan
  | _, [] => []
  | p, a :: as => match a.run p with
    | .ok p' => p' :: runP p' as
    | .error _ => []
def Bok.steps (b : Bok) (p : Pan) (as : List Act) : Bok := { b with ps := b.ps ++ (runP p as).map panD, ks := b.ks ++ as.map Act.d }
theorem runL_snoc {as : List Act} {a : Act} : ∀ {p : Pan}, runL p (as ++ [a]) = (runL p as).bind fun q => runL q [a] := by
  induction as with
  | nil => intro p; rfl
  | cons x xs ih =>
    intro p
    show (match x.run p with | .ok p' => runL p' (xs ++ [a]) | .error _ => none) = Option.bind (match x.run p with | .ok p' => runL p' xs | .error _ => none) _
    cases x.run p with
    | ok q => exact ih
    | error _ => rfl
theorem runP_snoc {as : List Act} {a : Act} : ∀ {p q q' : Pan}, runL p as = some q → a.run q = .ok q' → runP p (as ++ [a]) = runP p as ++ [q'] := by
  induction as with
  | nil =>
    intro p q q' h hq
    cases h
    show (match a.run p with | .ok p' => p' :: runP p' [] | .error _ => []) = [q']
    rw [hq]; rfl
  | cons x xs ih =>
    intro p q q' h hq
    have h : (match x.run p with | .ok p' => runL p' xs | .error _ => none) = some q := h
    show (match x.run p with | .ok p' => p' :: runP p' (xs ++ [a]) | .error _ => []) = (match x.run p with | .ok p' => p' :: runP p' xs | .error _ => []) ++ [q']
    cases e : x.run p with
    | ok q1 =>
      rw [e] at h
      dsimp only at h ⊢
      rw [ih h hq]; rfl
    | error _ => rw [e] at h; cases h
theorem runL_take {as : List Act} {i : Nat} {a : Act} (h : as[i]? = some a) {p q : Pan} (hr : runL p as = some q) : ∃ q1 q2, runL p (as.take i) = some q1 ∧ a.run q1 = .ok q2 ∧ runL p (as.take (i + 1)) = some q2 ∧ runP p (as.take (i + 1)) = runP p (as.take i) ++ [q2] := by
  have hi := (List.getElem?_eq_some_iff.mp h).1
  have et : as.take (i + 1) = as.take i ++ [a] := by rw [List.take_add_one, h]; rfl
  have ea : as = as.take (i + 1) ++ as.drop (i + 1) := (List.take_append_drop _ _).symm
  have app : ∀ (l : List Act) {r : List Act} {p q : Pan}, runL p (l ++ r) = some q → ∃ q1, runL p l = some q1 := fun l => by
    induction l with
    | nil => intro r p q _; exact ⟨p, rfl⟩
    | cons x xs ih =>
      intro r p q h
      have h : (match x.run p with | .ok p' => runL p' (xs ++ r) | .error _ => none) = some q := h
      cases e : x.run p with
      | ok q1 =>
        rw [e] at h
        obtain ⟨q2, h2⟩ := ih h
        exact ⟨q2, by show (match x.run p with | .ok p' => runL p' xs | .error _ => none) = _; rw [e]; exact h2⟩
      | error _ => rw [e] at h; cases h
  obtain ⟨q2, h2⟩ := app (as.take (i + 1)) (by rw [← ea]; exact hr)
  have h3 := h2
  rw [et, runL_snoc] at h3
  cases e1 : runL p (as.take i) with
  | none => rw [e1] at h3; cases h3
  | some q1 =>
    rw [e1] at h3
    have h3 : (match a.run q1 with | .ok p' => runL p' [] | .error _ => none) = some q2 := h3
    cases e2 : a.run q1 with
    | error _ => rw [e2] at h3; cases h3
    | ok q2' =>
      rw [e2] at h3
      cases h3
      exact ⟨q1, q2, rfl, e2, h2, by rw [et]; exact runP_snoc e1 e2⟩
theorem IdB.steps {CB o : Addr} {b : Bok} {p : Pan} {n : Nat} {as : List Act} (h : IdB CB o b p n) {i : Nat} (hn : n + as.length ≤ 60) {q : Pan} (hr : runL p as = some q) (hi : i ≤ as.length) : ∃ q1, runL p (as.take i) = some q1 ∧ IdB CB o (b.steps p (as.take i)) q1 (n + i) := by
  induction i with
  | zero =>
    refine ⟨p, rfl, ?_⟩
    have e : b.steps p (as.take 0) = b := by
      cases b; simp [Bok.steps, runP]
    rw [e]; exact h
  | succ i ih =>
    obtain ⟨q1, h1, hb⟩ := ih (by omega)
    obtain ⟨a, ha⟩ : ∃ a, as[i]? = some a := ⟨_, List.getElem?_eq_getElem (by omega)⟩
    obtain ⟨q1', q2, g1, g2, g3, g4⟩ := runL_take ha hr
    rw [h1] at g1
    cases g1
    refine ⟨q2, g3, ?_⟩
    have := hb.step g2 (by omega)
    have e : (b.steps p (as.take i)).step q2 a = b.steps p (as.take (i + 1)) := by
      have et : as.take (i + 1) = as.take i ++ [a] := by rw [List.take_add_one, ha]; rfl
      unfold Bok.steps Bok.step
      rw [g4, et]
      simp [List.map_append, List.append_assoc]
    rw [e] at this
    exact this
theorem steps_succ {b : Bok} {p q1 q2 : Pan} {as : List Act} {i : Nat} {a : Act} (ha : as[i]? = some a) (g4 : runP p (as.take (i + 1)) = runP p (as.take i) ++ [q2]) : (b.steps p (as.take i)).step q2 a = b.steps p (as.take (i + 1)) := by
  have et : as.take (i + 1) = as.take i ++ [a] := by rw [List.take_add_one, ha]; rfl
  unfold Bok.steps Bok.step
  rw [g4, et]
  simp [List.map_append, List.append_assoc]
def rowsR (rows : List D) (n : Nat) : List D := cut rows (some (-10)) none ++ [.tup [.str "begin", .int n]] ++ [.tup [.str "end", .int n]]
end Pm
set_option Elab.async false
set_option linter.all false
set_option maxRecDepth 100000
set_option maxHeartbeats 1000000
set_option autoImplicit false
namespace Pm
open PySem PySem.Spec
open PyProof.Rows hiding St
open L2
mutual
def D.tri : D → Bool
  | .int _ => true
  | .tup xs => D.tris xs
  | _ => false
def D.tris : List D → Bool
  | [] => true
  | d :: ds => d.tri && D.tris ds
end
theorem tris_of : ∀ {ds : List D}, (∀ d ∈ ds, d.tri = true) → D.tris ds = true
  | [], _ => rfl
  | e :: ds, h => by
    show (e.tri && D.tris ds) = true
    rw [h e (by simp), tris_of fun d hd => h d (by simp [hd])]; rfl
mutual
theorem tri_pln : ∀ d : D, d.tri = true → d.pln = true
  | .int _, _ => rfl
  | .tup xs, h => tris_plns xs h
  | .non, h => nomatch h
  | .bl _, h => nomatch h
  | .str _, h => nomatch h
  | .lst _, h => nomatch h
  | .dct _ _, h => nomatch h
  | .obj _, h => nomatch h
theorem tris_plns : ∀ ds : List D, D.tris ds = true → D.plns ds = true
  | [], _ => rfl
  | d :: ds, h => by
    have h : (d.tri && D.tris ds) = true := h
    rw [Bool.and_eq_true] at h
    show (d.pln && D.plns ds) = true
    rw [tri_pln d h.1, tris_plns ds h.2]; rfl
end
theorem itD_tri (l : List (Int × Int)) : D.tris (l.map itD) = true := tris_of fun d hd => by
  obtain ⟨q, _, rfl⟩ := List.mem_map.mp hd
  rfl
theorem panD_tri (p : Pan) : (panD p).tri = true := by
  show (D.tris (p.its.map itD) && (D.tris (p.rus.map itD) && true)) = true
  rw [itD_tri, itD_tri]; rfl
end Pm
set_option Elab.async false
set_option linter.all false
set_option maxRecDepth 100000
set_option maxHeartbeats 1000000
set_option autoImplicit false
namespace Pm
open PySem PySem.Spec
open PyProof.Rows hiding St
open L2
theorem sm_kp {a : Act} (h : ∀ d ∈ a.args, ∃ i : Int, d = .int i ∧ i.natAbs ≤ 100) : KpOk a.d := by
  have two : ∀ x y : D, a.args = [x, y] → KpOk a.d := fun x y e => by
    obtain ⟨i, rfl, _⟩ := h x (by rw [e]; simp)
    obtain ⟨j, rfl, _⟩ := h y (by rw [e]; simp)
    exact kp_two e
  have one : ∀ x : D, a.args = [x] → KpOk a.d := fun x e => by
    obtain ⟨i, rfl, _⟩ := h x (by rw [e]; simp)
    exact kp_one e
  cases a with
  | setMark v m => exact two v m rfl
  | setWeight v m => exact two v m rfl
  | addItem v m => exact two v m rfl
  | addRule v m => exact two v m rfl
  | dropItem v => exact one v rfl
  | dropRule v => exact one v rfl
theorem sm_ok {a : Act} (h : ∀ d ∈ a.args, ∃ i : Int, d = .int i ∧ i.natAbs ≤ 100) : a.ok := fun d hd p e => by
  obtain ⟨i, rfl, _⟩ := h d hd
  cases e
structure HisB (CB o : Addr) (b : Bok) (P : List Pan) (as : List Act) : Prop where
  C : b.C = CB
  o : b.o = o
  idle : b.busy = false
  ps : b.ps = P.map panD
  ks : b.ks = as.map Act.d
  len : P.length = as.length + 1
  ok : ∀ p ∈ P, PanOk 8 p
  few : as.length ≤ 60
  sm : ∀ a ∈ as, ∀ d ∈ a.args, ∃ i : Int, d = .int i ∧ i.natAbs ≤ 100
theorem HisB.last {CB o : Addr} {b : Bok} {P : List Pan} {as : List Act} (h : HisB CB o b P as) : ∃ P0 p, P = P0 ++ [p] := by
  have : P ≠ [] := fun e => by have := h.len; rw [e] at this; simp at this
  exact ⟨P.dropLast, P.getLast this, (List.dropLast_concat_getLast this).symm⟩
theorem HisB.at_ {CB o : Addr} {b : Bok} {P0 : List Pan} {p : Pan} {as : List Act} (h : HisB CB o b (P0 ++ [p]) as) : BokAt CB b p := by
  have l := h.len
  rw [List.length_append, List.length_singleton] at l
  have f := h.few
  refine ⟨h.C, ⟨P0.map panD, by rw [h.ps, List.map_append]; rfl⟩, h.ok p (by simp), ?_, by rw [h.ks, List.length_map]; exact f⟩
  rw [h.ps, List.length_map, List.length_append, List.length_singleton]; omega
theorem HisB.start {CB o dx ra : Addr} {p : Pan} {rows : List D} (hp : PanOk 8 p) : HisB CB o ⟨o, CB, dx, ra, [panD p], [], rows, false⟩ [p] [] :=
  ⟨rfl, rfl, rfl, rfl, rfl, rfl, fun q hq => by rw [List.mem_singleton.mp hq]; exact hp, Nat.zero_le _, fun a ha => by cases ha⟩
theorem HisB.step {CB o : Addr} {b : Bok} {P0 : List Pan} {p p' : Pan} {as : List Act} {a : Act} (h : HisB CB o b (P0 ++ [p]) as) (hr : a.run p = .ok p') (hs : ∀ d ∈ a.args, ∃ i : Int, d = .int i ∧ i.natAbs ≤ 100) (hn : as.length < 60) : HisB CB o (b.step p' a) (P0 ++ [p] ++ [p']) (as ++ [a]) := by
  refine ⟨h.C, h.o, h.idle, ?_, ?_, ?_, fun q hq => ?_, by rw [List.length_append, List.length_singleton]; omega, fun x hx => ?_⟩
  · show b.ps ++ [panD p'] = _
    rw [h.ps, List.map_append (l₁ := P0 ++ [p])]; rfl
  · show b.ks ++ [a.d] = _
    rw [h.ks, List.map_append]; rfl
  · have := h.len
    rw [List.length_append (as := P0 ++ [p]), this, List.length_append, List.length_singleton, List.length_singleton]
  · rcases List.mem_append.mp hq with hq | hq
    · exact h.ok q hq
    · rw [List.mem_singleton.mp hq]; exact Act.run_ok (h.ok p (by simp)) hr
  · rcases List.mem_append.mp hx with hx | hx
    · exact h.sm x hx
    · rw [List.mem_singleton.mp hx]; exact hs
theorem HisB.undo {CB o : Addr} {b : Bok} {P : List Pan} {as : List Act} (h : HisB CB o b P as) (hn : as ≠ []) : HisB CB o { b with ps := b.ps.dropLast, ks := b.ks.dropLast } P.dropLast as.dropLast := by
  have l := h.len
  have f := h.few
  have : 0 < as.length := List.length_pos_iff.mpr hn
  refine ⟨h.C, h.o, h.idle, ?_, ?_, ?_, fun q hq => h.ok q (List.dropLast_subset P hq), ?_, fun a ha => h.sm a (List.dropLast_subset as ha)⟩
  · show b.ps.dropLast = _
    rw [h.ps, ← List.map_dropLast]
  · show b.ks.dropLast = _
    rw [h.ks, ← List.map_dropLast]
  · rw [List.length_dropLast, List.length_dropLast]; omega
  · rw [List.length_dropLast]; omega
theorem HisB.idB {CB o : Addr} {b : Bok} {P0 : List Pan} {p : Pan} {as : List Act} (h : HisB CB o b (P0 ++ [p]) as) : IdB CB o b p as.length :=
  ⟨h.at_, h.o, h.idle, by rw [h.ks, List.length_map], by rw [h.ps, List.length_map, h.len]⟩
end Pm
set_option Elab.async false
set_option linter.all false
set_option maxRecDepth 100000
set_option maxHeartbeats 1000000
set_option autoImplicit false
namespace Pm
open PySem PySem.Spec
open PyProof.Rows hiding St
open L2 TL
def errC : List Str := ["NoSuchItem", "NoSuchRule", "InvalidMark", "InvalidWeight", "Full", "LastItem", "Busy", "NothingToUndo", "TooManyActions"]
theorem actW_imp {b : Bok} {p : Pan} {a : Act} {R R' : Bok → Prop} {W W' : Xc → Prop} (h : actW b p a R W) (hR : ∀ b', R b' → R' b') (hW : ∀ x : Xc, x.c ∈ errC → W x → W' x) : actW b p a R' W' := by
  unfold actW keepW at *
  split
  · rename_i h1
    rw [if_pos h1] at h
    exact hW _ (by decide +kernel) h
  · rename_i h1
    rw [if_neg h1] at h
    split
    · rename_i h2
      rw [if_pos h2] at h
      exact hW _ (by decide +kernel) h
    · rename_i h2
      rw [if_neg h2] at h
      cases e : a.run p with
      | ok p' => rw [e] at h; exact hR _ h
      | error x =>
        rw [e] at h
        refine hW x ?_ h
        rcases (Act.run_er e).1 with ⟨d, rfl⟩ | ⟨d, rfl⟩ | ⟨d, rfl⟩ | ⟨d, rfl⟩ | rfl | rfl
        all_goals (simp only [xItem, xRule, xMark, xWeight, xFull, xLast]; decide +kernel)
end Pm
set_option Elab.async false
set_option linter.all false
set_option maxRecDepth 100000
set_option maxHeartbeats 1000000
set_option autoImplicit false
namespace Pm
open PySem PySem.Spec
open PyProof.Rows hiding St
open L2
theorem o_eqH {X : Cx} (hu : X.A.units + 64 < cLine) : OpR X (compareOp .Eq) (dOp2 X.K eqD) := by
  intro pins s σ H x y v u Q I rx ry ⟨Z, d, e, R, k, ad, ae, h, q⟩
  rcases h.1.two with ⟨z1, z2, rfl, rfl⟩ | ⟨h1, h2, h3, h4⟩
  · simp only [At] at ad ae
    subst ad; subst ae
    refine op_eq pins s σ H _ _ v u Q I rx ry ⟨rfl, ?_⟩
    rw [str_dec]
    exact dk q k h.2 rfl
  · refine op_eqD hu pins s σ H _ _ v u Q I rx ry ⟨d.py, e.py, At.dp k d x ad h1, At.dp k e y ae h2, shaped_py h1 h3, shaped_py h2 h4, ?_⟩
    rw [eqv_py d e h1 h2]
    exact dk q k h.2 rfl
end Pm
set_option Elab.async false
set_option linter.all false
set_option maxRecDepth 100000
set_option maxHeartbeats 2000000
set_option autoImplicit false
namespace Pm
open PySem PySem.Spec
open PyProof.Rows hiding St
open L2
structure LamS1 (sc scope : Scope) (x : Str) : Prop where
  kind : scope.kind = .function
  co : scope.isCoroutine = false
  gen : scope.isGenerator = false
  own : ∀ y ∈ scope.names, y.2 = .local → y.1 = x
  nocell : ∀ y ∈ scope.names, y.2 ≠ .cell
  par : scope.names.lookup x = some .local
  free : ∀ y ∈ scope.names, y.2 = .free → sc.names.lookup y.1 = some .cell ∨ sc.names.lookup y.1 = some .free
theorem LamS1.has {X : Cx} {scope : Scope} {x : Str} (L : LamS1 X.env.scope scope x) (ok : X.Ok) : ∀ y ∈ scope.names, y.2 = .free → ∃ c, X.env.cells.lookup y.1 = some c := fun y hy e => by
  rcases L.free y hy e with k | k
  · exact ok.has _ (.inl k)
  · exact ok.has _ (.inr k)
section
variable {X : Cx} {pins : List (Addr × Obj)} {σ : L2.St} {H HZ : Hp} {s s1 : Shared}
theorem lam_start3 {A : Around} {outer : List Env} {E : XK} {scope : Scope} {f c' : Addr} {h₁ : Heap} {tk j : Nat} {x : Str} {v : V} {u : Value} (I : L2.Inv X pins σ H s) (L : LamS1 X.env.scope scope x) (e0 : Env0 X.prog X.w X.K X.mg X.base A outer s1 HZ) (hd : A.handled = none)
    (hN : X.N.Nodup) (hj : X.N[j]? = some x) (rv : RelV v u)
    (un : Un (frs X.stack) [] H HZ s.heap s1.heap) (hns : h₁.Ns s1.heap.objs.size fun y => ([(x, u)] : List (Str × Value)).reverse.lookup y) (kp : ∀ b o, s1.heap.get? b = some o → h₁.get? b = some o) :
    L2.Inv (LamX.lamCx X A outer s1 HZ E scope f c') [] (σ.set j (some v)) HZ { s1 with heap := h₁, toks := tk } := by
  have hfree := L.has I.ok
  have cm : ∀ {y c}, (cloFrom X.env.cells scope.names []).lookup y = some c → X.env.cells.lookup y = some c := fun {y c} e => by
    rcases cloFrom_mem (PySem.mem_of_lookup e) with hm | ⟨h1, h2⟩
    · cases hm
    · obtain ⟨c1, hc⟩ := hfree _ h1 rfl
      have hc : X.env.cells.lookup y = some c1 := hc
      have e2 : c = c1 := by
        rw [h2, hc] <;> rfl
      rw [e2]
      exact hc
  have look : ∀ {y}, scope.names.lookup y = some .free → ∃ c, (cloFrom X.env.cells scope.names []).lookup y = some c := fun {y} hl => by
    have hy : (y, NameKind.free) ∈ scope.names := PySem.mem_of_lookup hl
    exact mem_lookup (cloFrom_has (cells := X.env.cells) (acc := []) hy)
  have cellK : ∀ {c : Addr} {v : Option Value}, H c = none → s.heap.IsCell c v → h₁.IsCell c v := fun {c v} n ⟨o, ho, hd⟩ => by
    obtain ⟨sl, q⟩ := un.any ho n (by simp)
    exact ⟨_, kp _ _ q, hd⟩
  have noA : ∀ b : Addr, b ∉ (LamX.lamCx X A outer s1 HZ E scope f c').ex := fun b z => absurd (show b ∈ ([] : List Addr) from z) (by simp)
  have lj : j < σ.length := by rw [I.len]; exact (List.getElem?_eq_some_iff.mp hj).1
  refine ⟨⟨e0.mod, L.kind, rfl, rfl, Nat.le_refl _, fun y z c e1 e2 => I.ok.inj y z c (cm e1) (cm e2), fun y hy => ?_, fun y c z _ => ?_, fun _ => hd, Around.frames_deeper e0.frames, .inr ⟨rfl, rfl⟩, fun b z => absurd z (noA b), e0.bs, e0.bsz, fun b _ _ => noA b,
      fun b z => absurd z (noA b), e0.funs, e0.frf⟩,
    rfl, e0.bare, Un.kept kp, ⟨_, hns, fun i y v' e1 e2 e3 => ?_⟩, fun y c e => ?_, e0.hok.fresh (Nat.le_refl _), fun y c e => ?_, fun q hq => absurd (show q ∈ ([] : List (Addr × Obj)) ++ [] from hq) (by simp), e0.hok.kept kp, by rw [List.length_set]; exact I.len⟩
  · have hy : scope.names.lookup y = some .cell ∨ scope.names.lookup y = some .free := hy
    rcases hy with hy | hy
    · exact absurd rfl (L.nocell _ (PySem.mem_of_lookup hy))
    · exact look hy
  · have z : false = true := z
    cases z
  · have e3 : Vis scope y := e3
    rcases e3 with k | k | k
    · obtain rfl : y = x := L.own _ (PySem.mem_of_lookup k) rfl
      obtain rfl : i = j := nodup_ix hN e1 hj
      rw [List.getElem?_set_self lj] at e2
      cases e2
      exact ⟨u, rv, .inl ⟨k, by simp⟩⟩
    · exact absurd rfl (L.nocell _ (PySem.mem_of_lookup k))
    · have ne : j ≠ i := fun z => by
        subst z
        have e1 : X.N[j]? = some y := e1
        rw [hj] at e1
        cases e1
        rw [L.par] at k; cases k
      rw [List.getElem?_set_ne ne] at e2
      obtain ⟨m, hn, hl⟩ := I.loc
      have hvis : Vis X.env.scope y := (L.free _ (PySem.mem_of_lookup k) rfl).elim (fun k => .inr (.inl k)) (fun k => .inr (.inr k))
      obtain ⟨w', r, q⟩ := hl i y v' e1 e2 hvis
      obtain ⟨c2, h2⟩ := look k
      refine ⟨w', r, .inr ⟨.inr k, c2, h2, ?_⟩⟩
      have c1 := cm h2
      rcases q with ⟨k', _⟩ | ⟨_, c3, e', z⟩
      · have k' : X.env.scope.names.lookup y = some .local := k'
        rcases L.free _ (PySem.mem_of_lookup k) rfl with k2 | k2 <;> rw [show X.env.scope.names.lookup y = _ from k2] at k' <;> cases k'
      · rw [c1] at e'
        cases e'
        exact cellK (I.freeC y _ c1) z
  · obtain ⟨w', z⟩ := I.cell y c (cm e)
    exact ⟨w', cellK (I.freeC y c (cm e)) z⟩
  · obtain ⟨v, o, ho, hd⟩ := I.cell y c (cm e)
    exact un.free c o ho (I.freeC y c (cm e)) (by simp)
theorem call_lam1 {A : Around} {outer : List Env} {E : XK} {Q : VK} {params : Arguments} {body : Expr} {scope : Scope} {f c' : Addr} {k j : Nat} {x : Str} {v : V} {u : Value} {te : TE} (I : L2.Inv X pins σ H s) (L : LamS1 X.env.scope scope x) (at_ : LamAt X params body scope f c' H s)
    (bind : ∀ pm ctv, bindArgs (PySem.W.kla_fn "<lambda>" (lamQ X) params body scope (cloFrom X.env.cells scope.names []) pm (.ref c') ctv) ⟨[u], []⟩ = pure [(x, u)]) (hN : X.N.Nodup) (hj : X.N[j]? = some x)
    (e0 : Env0 X.prog X.w X.K X.mg X.base A outer s1 HZ) (room : Room (k + 1) A) (un : Un (frs X.stack) [] H HZ s.heap s1.heap) (hc : HZ c' = some (LamX.CodeO c' (lamQ X))) (rv : RelV v u)
    (run : PE (lamCxN X A outer s1 HZ E scope f c') body te) (h : te (σ.set j (some v)) HZ Q) :
    codeAny (model X.prog X.w) A (.call (.ref f) ⟨[u], []⟩) (CR (L2N.CX X.prog X.w) outer X.prog X.w HZ s1 Q E) s1 := by
  obtain ⟨⟨pm, ctv, of⟩, nf, ns⟩ := at_
  have there : s1.heap.get? f = some (lamO X params body scope pm ctv c') := un.keep f _ of nf ns (by intro z; exact nomatch (show f ∈ ([] : List Addr) from z))
  obtain ⟨⟨oc, vs, t, c1, c2, c3⟩, _, _⟩ := e0.hok c' _ hc
  have lim : s1.heap.NoLimit := e0.mod.nolimit.keeps fun b o e => (e0.bs b o e).1
  refine PySem.W.kla_callFunE room.depth there rfl L.co L.gen rfl ⟨c', oc, vs, t, rfl, c1, c2, c3⟩ ?_
  rw [bind]
  refine wpAny_pure (wpAny_newFunctionEnv (fun y hy => L.nocell y hy) (fun y hy => by rw [List.mem_singleton.mp hy]; exact L.par) (fun h₁ n1 n2 => ⟨lim.fresh _ n2, ?_⟩) L.kind)
  have kp : ∀ b o, s1.heap.get? b = some o → h₁.get? b = some o := fun b o e => n2.extBut b o (Nat.ne_of_lt (Heap.lt_size e)) (Heap.get?_push_of_some _ e)
  have J2 := (lam_start3 (E := E) (f := f) (c' := c') (tk := s1.toks + ([(x, u)] : List (Str × Value)).length) I L e0 room.hd hN hj rv un n1 kp).wish (lamCxN X A outer s1 HZ E scope f c').xe
  show codeAny (model X.prog X.w) _ (.expr body (LamX.lamEnv X scope s1.heap.objs.size f c')) _ _
  refine PySem.W.kla_codeExpr (wpAny_mono (run.run [] _ _ HZ Q J2 h) (fun v s3 ⟨w', H', J3, rv, q⟩ => ?_) fun _ _ hq => hq)
  exact ⟨w', H', J3.os, J3.bare, J3.base, J3.hok, rv, q⟩
end
end Pm
set_option Elab.async false
set_option linter.all false
set_option maxRecDepth 100000
set_option maxHeartbeats 2000000
set_option autoImplicit false
namespace Pm
open PySem PySem.Spec
open PyProof.Rows hiding St
open L2
variable {γ : Type}
structure AftG (G : GP γ) (Z H : Hp) (g : γ) (Z' H' : Hp) (g' : γ) : Prop where
  zz : Same Z Z'
  zh : Same Z' H'
  keep : ∀ a o, H a = some o → ¬ G.foot g a → H' a = some o
  nw : ∀ a o, Z' a = some o → Z a = none → H a = none ∨ G.foot g a
  ok : G.J g' Z' H'
  ft : ∀ a, G.foot g' a → Z' a = none ∧ (G.foot g a ∨ H a = none)
theorem Rel.afterG {G : GP γ} {F : Fra} {Z Z' : Hp} {s : S γ} {σ : L2.St} {H H' : Hp} {g' : γ} (r : Rel G F Z s σ H) (a : AftG G Z H s.g Z' H' g') : Rel G F Z' ⟨s.ρ, g'⟩ σ H' :=
  r.afterW a.zz a.zh a.keep a.nw a.ok a.ft
abbrev SpecG (γ : Type) := List D → γ → (D → γ → Prop) → (Xc → γ → Prop) → Prop
def spQz (Z0 : Hp) (G : GP γ) (mg : Str → Option Value) (f : SpecG γ) : Sp := fun vs H Q E => ∃ Z ds g R W, Same Z0 Z ∧ Same Z H ∧ Same G.fl Z ∧ Ats G.K Z ds vs ∧ G.J g Z H ∧ (∀ a, G.foot g a → Z a = none) ∧ f ds g R W ∧
  (∀ d g' Z' v H', R d g' → AftG G Z H g Z' H' g' → At G.K Z' d v → Q v H') ∧
  ∀ x g' Z' cls d H', W x g' → AftG G Z H g Z' H' g' → XcAt G.K mg Z' x cls d → E cls d H'
abbrev spQ (G : GP γ) (mg : Str → Option Value) (f : SpecG γ) : Sp := spQz (fun _ => none) G mg f
theorem spQz.mono {Z0 Z1 : Hp} {G : GP γ} {mg : Str → Option Value} {f : SpecG γ} (k : Same Z0 Z1) {vs : List V} {H : Hp} {Q : VK} {E : XK} (h : spQz Z1 G mg f vs H Q E) : spQz Z0 G mg f vs H Q E :=
  let ⟨Z, ds, g, R, W, h0, h⟩ := h
  ⟨Z, ds, g, R, W, k.trans h0, h⟩
theorem startR {G : GP γ} {Z H : Hp} {g : γ} {ρ : List (Option L)} {σ : L2.St} (k : Same Z H) (fl : Same G.fl Z) (jb : G.J g Z H) (hzf : ∀ a, G.foot g a → Z a = none) (len : σ.length = ρ.length)
    (loc : ∀ (i : Nat) (d : D), ρ[i]? = some (some (.val d)) → ∃ v, σ[i]? = some (some v) ∧ At G.K Z d v) (now : ∀ (i : Nat) (l : L), ρ[i]? = some (some l) → l.ow = true → False) :
    ∃ F, Rel G F Z ⟨ρ, g⟩ σ H ∧ ∀ (s' : S γ) (Z' : Hp) (σ' : L2.St) (H' : Hp), Same Z Z' → Rel G F Z' s' σ' H' → AftG G Z H g Z' H' s'.g := by
  classical
  have hF : ∀ (b : Addr) (o : HO), (if G.foot g b then none else H b) = some o → H b = some o ∧ ¬ G.foot g b := fun b o e => by
    by_cases hb : G.foot g b
    · rw [if_pos hb] at e; cases e
    · rw [if_neg hb] at e; exact ⟨e, hb⟩
  let F0 : Fra := ⟨fun b => if G.foot g b then none else H b, fun b => H b ≠ none ∧ Z b = none ∧ ¬ G.foot g b, fun b hb => by
    simp only [if_neg hb.2.2]; exact Option.ne_none_iff_exists'.mp hb.1⟩
  refine ⟨F0, ?_, fun s' Z' σ' H' k' r' => ?_⟩
  · exact ⟨k, fun b o e => (hF b o e).1, fun b hb => hb.2.1, len, loc, fun i l e ol => (now i l e ol).elim, fun i j l m b n e1 o1 e2 => (now i l e1 o1).elim, jb, fun b z => hzf b z, fun b z => if_pos z, fl⟩
  · refine ⟨k', r'.z, fun b o e n => r'.f b o (by show (if G.foot g b then none else H b) = some o; rw [if_neg n]; exact e), fun b o e n => ?_, r'.j, fun b hb => ⟨r'.zf b hb, ?_⟩⟩
    · cases hb : H b with
      | none => exact .inl rfl
      | some u =>
        by_cases hf : G.foot g b
        · exact .inr hf
        · have := r'.zb b ⟨by rw [hb]; simp, n, hf⟩
          rw [e] at this; cases this
    · by_cases hf : G.foot g b
      · exact .inl hf
      · refine .inr ?_
        have : (if G.foot g b then none else H b) = none := r'.ff b hb
        rw [if_neg hf] at this
        exact this
section
variable {P : Program} {w : World} {K : PySem.W.Frag} {mg : Str → Option Value} {base : Heap}
theorem okQ {G : GP γ} (hG : G.K = K) {x qual : Str} {st : Stmt} {f : Addr} {fd : FuncData} {N ps : List Str} {k : Nat} {kws : List (Str × V)} (F : FunD K x qual (defArgs st) (defBody st) (defScope st) [] kws f fd) (S : FnScope N ps (defScope st)) {fs : SpecG γ} (len : ∀ ds g R W, fs ds g R W → ds.length = ps.length)
    (body : ∃ t : PSXx γ, (∀ (cdv : Value) (A : Around) (outer : List Env) (s : Shared) (H : Hp) (E : XK), Room k (A.deeper (envOfC qual (defScope st) s.heap.objs.size f cdv)) →
      QSXs (cxOf (L2N.CX P w) P w K mg base N qual (defScope st) f cdv A outer s H E) G (fun cls d _ H => E cls d H) (defBody st) t) ∧ ∀ ds g R W, fs ds g R W → t (fun x s => W x s.g) { nx := fun s => R .non s.g, rt := R } ⟨startL N.length ds, g⟩) :
    FnOk P w K mg base (L2N.CX P w) (k + 1) f fd ps (spQ G mg fs) := by
  refine FunD.ok F S (fun vs H Q E h => ?_) (fun cdv A outer s H vs Q E hr h => ?_)
  · obtain ⟨Z, ds, g, R, W, _, _, _, a, _, _, h, _⟩ := h
    rw [a.len]; exact len _ _ _ _ h
  · obtain ⟨t, hb, hp⟩ := body
    refine ⟨_, hb cdv A outer s H E hr, ?_⟩
    obtain ⟨Z, ds, g, R, W, _, k, fl, a, jb, hzf, h, q, ex⟩ := h
    have hd := len _ _ _ _ h
    obtain ⟨F0, R0, fin⟩ := startR (G := G) (ρ := startL N.length ds) (σ := L2.start N vs) k fl jb hzf (by
        unfold L2.start startL
        simp only [List.length_append, List.length_map, List.length_replicate, a.len]) (fun i d e => by
        obtain ⟨d', e', v, h1, h2⟩ := start_at a e
        cases e'
        exact ⟨v, h1, h2⟩) fun i l e ol => by
        obtain ⟨d', e', _⟩ := start_at a e
        subst e'; cases ol
    refine ⟨F0, Z, _, _, _, R0, hp ds g R W h, ?_, ?_, ?_, ?_, ?_⟩
    · intro s' Z' σ' H' q' k' r'
      exact q .non _ Z' .non H' q' (fin _ _ _ _ k' r') rfl
    · intro d s' Z' σ' v H' q' k' r' a'
      exact q d _ Z' v H' q' (fin _ _ _ _ k' r') a'
    · intro s' Z' σ' H' q'; exact q'.elim
    · intro s' Z' σ' H' q'; exact q'.elim
    · intro x s' Z' σ' cls d H' q' k' r' a'
      exact ex x _ Z' cls d H' q' (fin _ _ _ _ k' r') (by exact a')
end
abbrev NB := List (Addr × List D)
def NbOk (K : PySem.W.Frag) (Z H : Hp) (ns : NB) : Prop := (∀ p ∈ ns, ∃ us, H p.1 = some (.lst us) ∧ Ats K Z p.2 us) ∧ (ns.map (·.1)).Nodup
def gNb (K : PySem.W.Frag) : GP NB where
  K := K
  foot := fun ns a => a ∈ ns.map (·.1)
  J := fun ns Z H => NbOk K Z H ns
  stay := fun ns Z Z' H H' h k e => ⟨fun p hp => let ⟨us, h1, h2⟩ := h.1 p hp; ⟨us, (e _ (List.mem_map_of_mem hp)).trans h1, Ats.mono k _ _ h2⟩, h.2⟩
  live := fun ns Z H a h f => by
    obtain ⟨p, hp, rfl⟩ := List.mem_map.mp f
    obtain ⟨us, h1, _⟩ := h.1 p hp
    exact ⟨_, h1⟩
theorem Rel.lendQ {G0 : GP γ} {F : Fra} {Z : Hp} {s : S (γ × List OB)} {σ : L2.St} {H : Hp} (r : Rel (gBk G0) F Z s σ H) {i : Nat} {ds : List D} (hi : s.ρ[i]? = some (some (.own ds))) :
    ∃ a, σ[i]? = some (some (.ref a)) ∧ (gBk (gNb G0.K)).J ([(a, ds)], s.g.2) Z H ∧ (∀ b, (gBk (gNb G0.K)).foot ([(a, ds)], s.g.2) b → Z b = none) ∧
      ∀ ds' bs' Z' H', AftG (gBk (gNb G0.K)) Z H ([(a, ds)], s.g.2) Z' H' ([(a, ds')], bs') → Rel (gBk G0) F Z' ⟨s.ρ.set i (some (.own ds')), (s.g.1, bs')⟩ σ H' := by
  obtain ⟨a, vs, h1, h2, h3, h4, h5, h6⟩ := r.own i ds hi
  obtain ⟨j1, j2, j3⟩ := r.j
  have f1 : ∀ b, b ∈ ([(a, ds)] : NB).map (·.1) ↔ b = a := fun b => by simp
  refine ⟨a, h1, ⟨⟨fun p hp => ?_, by simp⟩, fun x hx hf => ?_, j3⟩, fun b hb => ?_, fun ds' bs' Z' H' af => ?_⟩
  · rw [List.mem_singleton.mp hp]
    exact ⟨vs, h2, h3⟩
  · rw [(f1 x).mp hx] at hf
    exact h6 (.inr hf)
  · rcases hb with hb | hb
    · rw [(f1 b).mp hb]; exact h4
    · exact r.zf b (.inr hb)
  · obtain ⟨zz, zh, keep, nw, ⟨n1, n2, n3⟩, ft⟩ := af
    obtain ⟨us, k1, k2⟩ := n1.1 (a, ds') (by simp)
    have lif : i < s.ρ.length := (List.getElem?_eq_some_iff.mp hi).1
    -- what is no list of ours and no instance stays
    have nf : ∀ {b : Addr}, b ≠ a → ¬ ftL s.g.2 b → ¬ (gBk (gNb G0.K)).foot ([(a, ds)], s.g.2) b := fun {b} n1 n2 hb => hb.elim (fun hb => n1 ((f1 b).mp hb)) n2
    have zn : ∀ {b : Addr} {o : HO}, H b = some o → b ≠ a → ¬ ftL s.g.2 b → Z b = none → Z' b = none := fun {b o} e n1 n2 n3 => by
      cases q : Z' b with
      | none => rfl
      | some o' =>
        rcases nw b o' q n3 with h | h
        · rw [e] at h; cases h
        · exact (nf n1 n2 h).elim
    have ftn : ∀ {b : Addr}, ftL bs' b → b ≠ a ∧ (ftL s.g.2 b ∨ H b = none) := fun {b} hb => by
      have hba : b ≠ a := fun z => n2 a ((f1 a).mpr rfl) (by rw [← z]; exact hb)
      refine ⟨hba, ((ft b (.inr hb)).2).imp (fun h => h.resolve_left fun h => hba ((f1 b).mp h)) id⟩
    have g0a : ∀ {b : Addr}, G0.foot s.g.1 b → b ≠ a ∧ ¬ ftL s.g.2 b ∧ ∃ o, H b = some o := fun {b} hb => ⟨fun z => h6 (.inl (by rw [← z]; exact hb)), j2 b hb, G0.live _ _ _ _ j1 hb⟩
    have st : ∀ {j : Nat} {l : L}, (s.ρ.set i (some (.own ds')))[j]? = some (some l) → (j = i ∧ l = .own ds') ∨ (j ≠ i ∧ s.ρ[j]? = some (some l)) := fun {j l} e => by
      by_cases ji : j = i
      · subst ji
        rw [List.getElem?_set_self lif] at e
        cases e
        exact .inl ⟨rfl, rfl⟩
      · rw [List.getElem?_set_ne (Ne.symm ji)] at e
        exact .inr ⟨ji, e⟩
    refine ⟨zh, fun b o e => ?_, fun b hb => ?_, by rw [List.length_set]; exact r.len, fun j d e => ?_, fun j l e ol => ?_, fun j k l m b n e1 o1 e2 o2 x1 x2 => ?_, ⟨G0.stay _ _ _ _ _ j1 zz fun b hb => ?_, fun b hb hf => ?_, n3⟩, fun b hb => ?_, fun b hb => ?_, r.fl.trans zz⟩
    · refine keep b o (r.f _ _ e) (nf (fun z => ?_) fun z => ?_)
      · rw [z, h5] at e; cases e
      · have := r.ff b (.inr z); rw [e] at this; cases this
    · obtain ⟨o, e⟩ := F.bf b hb
      refine zn (r.f _ _ e) (fun z => ?_) (fun z => ?_) (r.zb b hb)
      · rw [z, h5] at e; cases e
      · have := r.ff b (.inr z); rw [e] at this; cases this
    · rcases st e with ⟨_, z⟩ | ⟨_, e⟩
      · cases z
      · obtain ⟨v, q1, q2⟩ := r.loc j d e
        exact ⟨v, q1, At.mono zz _ _ q2⟩
    · rcases st e with ⟨rfl, rfl⟩ | ⟨ji, e⟩
      · exact ⟨a, us, h1, k1, k2, (ft a (.inl ((f1 a).mpr rfl))).1, h5, fun hf => hf.elim (fun hf => h6 (.inl hf)) fun hf => (ftn hf).1 rfl⟩
      · obtain ⟨b, ws, q1, q2, q3, q4, q5, q6⟩ := r.ownL j l e ol
        have hba : b ≠ a := fun z => r.injL j i l _ a ji e ol hi rfl (by rw [q1, z]) h1
        have hbf : ¬ ftL s.g.2 b := fun z => q6 (.inr z)
        refine ⟨b, ws, q1, keep b _ q2 (nf hba hbf), Ats.mono zz _ _ q3, zn q2 hba hbf q4, q5, fun hf => hf.elim (fun hf => q6 (.inl hf)) fun hf => ?_⟩
        rcases (ftn hf).2 with h | h
        · exact hbf h
        · rw [q2] at h; cases h
    · rcases st e1 with ⟨j1, l1⟩ | ⟨ji, e3⟩
      · rcases st e2 with ⟨k1, l2⟩ | ⟨ki, e4⟩
        · exact n (j1.trans k1.symm)
        · exact r.injL j k _ m b n (by rw [j1]; exact hi) rfl e4 o2 x1 x2
      · rcases st e2 with ⟨k1, l2⟩ | ⟨ki, e4⟩
        · exact r.injL j k l _ b n e3 o1 (by rw [k1]; exact hi) rfl x1 x2
        · exact r.injL j k l m b n e3 o1 e4 o2 x1 x2
    · obtain ⟨n1, n2, o, e⟩ := g0a hb
      rw [e]; exact keep b o e (nf n1 n2)
    · obtain ⟨m1, m2, o, e⟩ := g0a hb
      rcases (ftn hf).2 with h | h
      · exact m2 h
      · rw [e] at h; cases h
    · rcases hb with hb | hb
      · obtain ⟨m1, m2, o, e⟩ := g0a hb
        exact zn e m1 m2 (r.zf b (.inl hb))
      · exact (ft b (.inr hb)).1
    · rcases hb with hb | hb
      · exact r.ff b (.inl hb)
      · rcases (ftn hb).2 with h | h
        · exact r.ff b (.inr h)
        · exact r.f.free h
end Pm
set_option Elab.async false
set_option linter.all false
set_option maxRecDepth 100000
set_option maxHeartbeats 2000000
set_option autoImplicit false
namespace Pm
open PySem PySem.Spec
open PyProof.Rows hiding St
open L2
variable {γ : Type}
abbrev UT := List Env → Hp → Heap → Prop
structure StabU (U : UT) : Prop where
  step : ∀ (outer outer' : List Env) (H H' : Hp) (h h' : Heap), U outer H h → Un (frs outer) [] H H' h h' → (∀ b ∈ frs outer', b ∈ frs outer ∨ h.get? b = none) → U outer' H' h'
structure HasU (X : Cx) (U : UT) : Prop where
  st : StabU U
  at_ : U X.outer X.H_0 X.s_0.heap
  ex : X.ex = []
theorem HasU.now {X : Cx} {U : UT} {pins : List (Addr × Obj)} {σ : L2.St} {H : Hp} {s : Shared} (h : HasU X U) (I : L2.Inv X pins σ H s) : U X.stack H s.heap := by
  have b := I.base
  rw [h.ex] at b
  exact h.st.step _ _ _ _ _ _ h.at_ b fun c hc => (List.mem_cons.mp (I.stkSub c hc)).elim (fun e => .inr (by
    rw [e]
    cases q : X.s_0.heap.get? X.env.locals with
    | none => rfl
    | some o => exact absurd (Nat.lt_of_lt_of_le (Heap.lt_size q) I.ok.above) (Nat.lt_irrefl _))) .inl
theorem HasU.tr {X : Cx} {U : UT} (h : HasU X U) (pn : List (Addr × Obj)) (xe : Value → Shared → Prop) : HasU (X.tr pn xe) U := ⟨h.st, h.at_, h.ex⟩
def mkU (X : Cx) (H0 : Hp) (h0 : Heap) : UT := fun outer H h => Un (frs X.stack) [] H0 H h0 h ∧ ∀ b ∈ frs outer, b ∈ frs X.stack ∨ h0.get? b = none
theorem mkU_stab (X : Cx) (H0 : Hp) (h0 : Heap) : StabU (mkU X H0 h0) := by
  refine ⟨fun outer outer' H H' h h' ⟨u, hf⟩ v hf' => ⟨?_, fun b hb => ?_⟩⟩
  · have nx : ∀ b : Addr, b ∉ ([] : List Addr) := fun b => by simp
    have old : ∀ {b : Addr} {o : Obj}, h0.get? b = some o → b ∈ frs outer → b ∈ frs X.stack := fun {b o} e hb => (hf b hb).resolve_right fun z => by rw [e] at z; cases z
    refine ⟨fun b o e n nb _ => ?_, fun b o e n nb _ => ?_, fun b o e n _ => ?_, fun b o e _ => ?_, fun b xs e => v.tups b xs (u.tups b xs e), fun b o xs e => v.frzs b o xs (u.frzs b o xs e), fun b ps e => ?_⟩
    · exact v.keep b o (u.keep b o e n nb (nx b)) (u.free b o e n (nx b)) (fun z => nb (old e z)) (nx b)
    · obtain ⟨sl, e2⟩ := u.any e n (nx b)
      obtain ⟨sl', e3⟩ := v.any e2 (u.free b o e n (nx b)) (nx b)
      exact ⟨sl', e3⟩
    · obtain ⟨sl, e2⟩ := u.any e n (nx b)
      exact v.free b _ e2 (u.free b o e n (nx b)) (nx b)
    · obtain ⟨o2, e2⟩ := u.there b o e (nx b)
      exact v.there b o2 e2 (nx b)
    · obtain ⟨m1, e1⟩ := u.tbls b ps e
      obtain ⟨m2, e2⟩ := v.tbls b _ e1
      exact ⟨m1 ++ m2, by rw [e2, Array.append_assoc]⟩
  · rcases hf' b hb with z | z
    · exact hf b z
    · cases q : h0.get? b with
      | none => exact .inr rfl
      | some o =>
        obtain ⟨o2, e2⟩ := u.there b o q (by simp)
        rw [z] at e2; cases e2
def LisF (P : Program) (w : World) (K : PySem.W.Frag) (mg : Str → Option Value) (base : Heap) (k : Nat) (G : GP γ) (U : UT) (f : SpecG γ) (Z : Hp) (v : V) : Prop :=
  ∃ fa : Addr, v = .ref fa ∧ (∀ (outer : List Env) (H : Hp) (h : Heap), U outer H h → PySem.W.FnAt fa h) ∧
    ∀ (A : Around) (outer : List Env) (s : Shared) (H : Hp) (us : List Value) (vs : List V) (Q : VK) (E : XK), U outer H s.heap → Room k A → Env0 P w K mg base A outer s H → Vals vs us → spQz Z G mg f vs H Q E →
      codeAny (model P w) A (.call (.ref fa) ⟨us, []⟩) (CR (L2N.CX P w) outer P w H s Q E) s
theorem LisF.mono {P : Program} {w : World} {K : PySem.W.Frag} {mg : Str → Option Value} {base : Heap} {k : Nat} {G : GP γ} {U : UT} {f : SpecG γ} {Z Z' : Hp} {v : V} (e : Same Z Z') (h : LisF P w K mg base k G U f Z v) : LisF P w K mg base k G U f Z' v :=
  let ⟨fa, h1, h2, h3⟩ := h
  ⟨fa, h1, h2, fun A outer s H us vs Q E hu hr e0 rv sp => h3 A outer s H us vs Q E hu hr e0 rv (spQz.mono e sp)⟩
abbrev LF (γ : Type) := SpecG γ → Ad
def lisA (P : Program) (w : World) (K : PySem.W.Frag) (mg : Str → Option Value) (base : Heap) (k : Nat) (G : GP γ) (U : UT) : LF γ := fun f => .f (LisF P w K mg base k G U f)
section
variable {P : Program} {w : World} {K : PySem.W.Frag} {mg : Str → Option Value} {base : Heap} {k : Nat} {G : GP γ} {U : UT} {f : SpecG γ} {Z : Hp} {v : V}
theorem lisA_at (h : LisF P w K mg base k G U f Z v) : At K Z (.obj (lisA P w K mg base k G U f)) v := fun _ e => h.mono e
theorem lisA_of (h : At K Z (.obj (lisA P w K mg base k G U f)) v) : LisF P w K mg base k G U f Z v := h Z (Same.refl _)
end
def qLis (lis : LF γ) (i : Nat) (t : PAx γ) : PEXx γ := fun w s R => ∃ f : SpecG γ, s.ρ[i]? = some (some (.val (.obj (lis f)))) ∧ t s fun xs s1 => f xs s1.g (fun z g' => R z ⟨s1.ρ, g'⟩) fun y g' => w y ⟨s1.ρ, g'⟩
section
variable {X : Cx} {G : GP γ} {U : UT} {W : WX} {i k : Nat} {a : Str} {e : Expr} {es : List Expr} {t : PAx γ} {p pos : Pos}
theorem lcallQ {F : Fra} {Z Z0 : Hp} {s : S γ} {σ : L2.St} {H : Hp} {Q : VK} {E : XK} {mg : Str → Option Value} {f : SpecG γ} {xs : List D} {vs : List V} {R : D → S γ → Prop} {w : Xc → S γ → Prop} (r : Rel G F Z s σ H) (k0 : Same Z0 Z) (a : Ats G.K Z xs vs)
    (t1 : f xs s.g (fun z g' => R z ⟨s.ρ, g'⟩) fun y g' => w y ⟨s.ρ, g'⟩)
    (q : ∀ d s' Z' v H', R d s' → Same Z Z' → Rel G F Z' s' σ H' → At G.K Z' d v → Q v H') (ex : ∀ y s' Z' cls d H', w y s' → Same Z Z' → Rel G F Z' s' σ H' → XcAt G.K mg Z' y cls d → E cls d H') : spQz Z0 G mg f vs H Q E :=
  ⟨Z, xs, s.g, _, _, k0, r.z, r.fl, a, r.j, r.zf, t1, fun d g' Z' v H' hR af av => q d _ Z' v H' hR af.zz (r.afterG af) av, fun y g' Z' cls d H' hW af ax => ex y _ Z' cls d H' hW af.zz (r.afterG af) ax⟩
theorem qex_lis (hK : G.K = X.K) (hU : HasU X U) (hr : Room k X.A) (tk : L2N.Takes X W) (hv : PE X (.Name a p) (tVar i)) (ha : QA X G (e :: es) t)
    (he : starEach (e :: es) X.env = (false, eval e X.env) :: starEach es X.env := by rfl) (hpl : (backTo pos (starEach es X.env)).any (·.1) = false := by rfl) :
    QEX X G W (.Call (.Name a p) (e :: es) [] pos) (qLis (lisA X.prog X.w X.K X.mg X.base k G U) i t) := by
  refine ⟨fun pins s σ H Q I ⟨F, Z, sg, R, w, r, ⟨f, h1, t1⟩, q, ex⟩ => ?_⟩
  obtain ⟨v, e1, e2⟩ := r.loc i _ h1
  rw [hK] at e2
  obtain ⟨fa, rfl, fn, run⟩ := lisA_of e2
  refine wpAny_Call_Name_kw (thn (hv.run pins s σ H (fun v H1 => v = .ref fa ∧ H1 = H) I ⟨.ref fa, e1, rfl, rfl⟩) fun u s1 ⟨v, H1, J1, rv, ev, eH⟩ => ?_)
  subst ev
  subst eH
  obtain rfl : u = Value.ref fa := rv
  refine PySem.W.callWith_F (fn _ _ _ (hU.now J1)) (thn (ha.run pos pins s1 σ H1 (fun vs H2 => spQz Z G X.mg f vs H2 Q (fun cls d H' => W cls d σ H')) J1 ⟨F, Z, sg, _, r, t1, fun xs s2 Z2 us H2 t2 k2 r2 a2 => ?_⟩) fun us s2 ⟨vs, H2, J2, rv2, sp⟩ => ?_) he hpl
  · exact lcallQ r2 k2 a2 t2 (fun d s' Z' v H' h k' r' a' => q d s' Z' v H' h (k2.trans k') r' a') fun y s' Z' cls d H' h k' r' a' => ex y s' Z' cls d H' h (k2.trans k') r' a'
  · refine ⟨fn _ _ _ (hU.now J2), ?_⟩
    refine wpAny_call (codeAny_mono (run X.A X.stack s2 H2 us vs Q _ (hU.now J2) hr J2.env0 rv2 sp) fun z s3 hz => ?_)
    cases z with
    | error er => exact L2N.passAt tk σ pins H2 s2 er s3 J2 hz
    | ok fl =>
      cases fl with
      | ret u => exact J2.after hz
      | next => exact hz.elim
      | brk => exact hz.elim
      | cont => exact hz.elim
end
end Pm
set_option Elab.async false
set_option linter.all false
set_option maxRecDepth 100000
set_option maxHeartbeats 2000000
set_option autoImplicit false
namespace Pm
open PySem PySem.Spec
open PyProof.Rows hiding St
open L2
variable {γ : Type}
structure FnU (P : Program) (w : World) (K : PySem.W.Frag) (mg : Str → Option Value) (base : Heap) (CX : CXT) (U : UT) (k : Nat) (f : Addr) (fd : FuncData) (ps : List Str) (sp : Sp) : Prop where
  len : ∀ vs H Q E, sp vs H Q E → vs.length = ps.length
  run : ∀ (A : Around) (outer : List Env) (s : Shared) (H : Hp) (args : Args) (us : List Value) (vs : List V) (Q : VK) (E : XK), StabU U → U outer H s.heap → Room k A → Env0 P w K mg base A outer s H → BindsTo s fd args (ps.zip us) → Vals vs us → sp vs H Q E →
    codeAny (model P w) A (.call (.ref f) args) (CR CX outer P w H s Q E) s
section
variable {P : Program} {w : World} {K : PySem.W.Frag} {mg : Str → Option Value} {base : Heap}
theorem fnU_ok {CX : CXT} {U : UT} {x qual : Str} {params : Arguments} {body : List Stmt} {scope : Scope} {dvs : List V} {kws : List (Str × V)} {f : Addr} {fd : FuncData} {N ps : List Str} {k : Nat} {sp : Sp} (F : FunD K x qual params body scope dvs kws f fd) (S : FnScope N ps scope) (len : ∀ vs H Q E, sp vs H Q E → vs.length = ps.length)
    (hbody : ∀ (cdv : Value) (A : Around) (outer : List Env) (s : Shared) (H : Hp) (vs : List V) (Q : VK) (E : XK), Room k (A.deeper (envOfC qual scope s.heap.objs.size f cdv)) → StabU U → U outer H s.heap → sp vs H Q E →
      ∃ t, PSs (cxOf CX P w K mg base N qual scope f cdv A outer s H E) body t ∧ t { nx := fun _ H' => Q .non H', rt := Q } (L2.start N vs) H) : FnU P w K mg base CX U (k + 1) f fd ps sp := by
  obtain ⟨oc, od, dV, kV, doc, pm, an, cdv, ct, osl, rfl, lk, hcd, _, _⟩ := F.ex
  refine ⟨len, fun A outer s H args us vs Q E st hu hr e0 hb r hsp => ?_⟩
  have hl := len _ _ _ _ hsp
  have KX : K.In s.heap := e0.mod.kin.keeps fun b o e => (e0.bs b o e).1
  have lim : s.heap.NoLimit := e0.mod.nolimit.keeps fun b o e => (e0.bs b o e).1
  have hkind : ∀ y ∈ ps.zip us, scope.names.lookup y.1 = some .local ∨ (scope.names.lookup y.1 = some .cell ∧ ((cellsFrom (s.heap.objs.size + 1) scope.names []).lookup y.1).isSome = true) := fun y hy => by
    rcases S.par y.1 (List.of_mem_zip (a := y.1) (b := y.2) hy).1 with q | q
    · exact .inl q
    · exact .inr ⟨q, PySem.W.cellsFrom_some _ _ _ (.inl q)⟩
  refine codeAny_call_function hr.depth (KX _ _ lk) rfl S.co S.gen rfl (PySem.W.codeRec_of KX hcd) (hb _ _ _ _ ?_)
  refine wpAny_newFunctionEnv_cells S.kind hkind fun env he s1 x => ?_
  subst he
  refine ⟨lim.keeps x.toInCall.keep, codeAny_func ?_⟩
  obtain ⟨t, ht, hq⟩ := hbody cdv A outer s H vs Q E (hr.deeper _) st hu hsp
  have I := L2.inv_start (CX := CX) (E := E) S hr.hd e0 hl r x
  refine wpAny_mono (ht.run [] s1 (L2.start N vs) H _ I hq) (fun fl s' hs => ?_) fun e s' hs => hs
  cases fl with
  | ret u => exact (let ⟨v, _, H', J, rv, q⟩ := hs; ⟨v, H', J.os, J.bare, J.base, J.hok, rv, q⟩)
  | next => exact (let ⟨_, H', J, q⟩ := hs; ⟨.non, H', J.os, J.bare, J.base, J.hok, rfl, q⟩)
  | brk => exact (let ⟨_, _, _, q⟩ := hs; False.elim q)
  | cont => exact (let ⟨_, _, _, q⟩ := hs; False.elim q)
theorem okUQ {G : GP γ} (hG : G.K = K) {U : UT} {x qual : Str} {st : Stmt} {f : Addr} {fd : FuncData} {N ps : List Str} {k : Nat} {kws : List (Str × V)} (F : FunD K x qual (defArgs st) (defBody st) (defScope st) [] kws f fd) (S : FnScope N ps (defScope st)) {fs : SpecG γ} (len : ∀ ds g R W, fs ds g R W → ds.length = ps.length)
    (body : ∃ t : PSXx γ, (∀ (cdv : Value) (A : Around) (outer : List Env) (s : Shared) (H : Hp) (E : XK), Room k (A.deeper (envOfC qual (defScope st) s.heap.objs.size f cdv)) → HasU (cxOf (L2N.CX P w) P w K mg base N qual (defScope st) f cdv A outer s H E) U →
      QSXs (cxOf (L2N.CX P w) P w K mg base N qual (defScope st) f cdv A outer s H E) G (fun cls d _ H => E cls d H) (defBody st) t) ∧ ∀ ds g R W, fs ds g R W → t (fun x s => W x s.g) { nx := fun s => R .non s.g, rt := R } ⟨startL N.length ds, g⟩) :
    FnU P w K mg base (L2N.CX P w) U (k + 1) f fd ps (spQ G mg fs) := by
  refine fnU_ok F S (fun vs H Q E h => ?_) (fun cdv A outer s H vs Q E hr hs hu h => ?_)
  · obtain ⟨Z, ds, g, R, W, _, _, _, a, _, _, h, _⟩ := h
    rw [a.len]; exact len _ _ _ _ h
  · obtain ⟨t, hb, hp⟩ := body
    refine ⟨_, hb cdv A outer s H E hr ⟨hs, hu, rfl⟩, ?_⟩
    obtain ⟨Z, ds, g, R, W, _, k, fl, a, jb, hzf, h, q, ex⟩ := h
    have hd := len _ _ _ _ h
    obtain ⟨F0, R0, fin⟩ := startR (G := G) (ρ := startL N.length ds) (σ := L2.start N vs) k fl jb hzf (by
        unfold L2.start startL
        simp only [List.length_append, List.length_map, List.length_replicate, a.len]) (fun i d e => by
        obtain ⟨d', e', v, h1, h2⟩ := start_at a e
        cases e'
        exact ⟨v, h1, h2⟩) fun i l e ol => by
        obtain ⟨d', e', _⟩ := start_at a e
        subst e'; cases ol
    refine ⟨F0, Z, _, _, _, R0, hp ds g R W h, ?_, ?_, ?_, ?_, ?_⟩
    · intro s' Z' σ' H' q' k' r'
      exact q .non _ Z' .non H' q' (fin _ _ _ _ k' r') rfl
    · intro d s' Z' σ' v H' q' k' r' a'
      exact q d _ Z' v H' q' (fin _ _ _ _ k' r') a'
    · intro s' Z' σ' H' q'; exact q'.elim
    · intro s' Z' σ' H' q'; exact q'.elim
    · intro x s' Z' σ' cls d H' q' k' r' a'
      exact ex x _ Z' cls d H' q' (fin _ _ _ _ k' r') (by exact a')
end
structure DefMU (X : Cx) (U : UT) (C : Addr) (m : Str) (n : Nat) (sp : Sp) : Prop where
  ex : ∃ f fd k ps, FnU X.prog X.w X.K X.mg X.base (L2N.CX X.prog X.w) U k f fd ps sp ∧ Room k X.A ∧ Meth X.K C m f ∧ Binds X.K fd ps [] ∧ ps.length = n
def GloMU (P : Program) (w : World) (K : PySem.W.Frag) (mg : Str → Option Value) (base : Heap) (U : UT) (C : Addr) (m : Str) (n : Nat) (sp : Sp) (k : Nat) : Prop :=
  ∃ f fd ps, FnU P w K mg base (L2N.CX P w) U k f fd ps sp ∧ Meth K C m f ∧ Binds K fd ps [] ∧ ps.length = n
theorem GloMU.at {X : Cx} {U : UT} {C : Addr} {m : Str} {n : Nat} {sp : Sp} {j k : Nat} (g : GloMU X.prog X.w X.K X.mg X.base U C m n sp j) (hr : Room k X.A) (h : j ≤ k := by decide) : DefMU X U C m n sp := by
  obtain ⟨f, fd, ps, F, m, b, e⟩ := g
  exact ⟨f, fd, j, ps, F, hr.mono h, m, b, e⟩
def qMethQ {δ : Type} (C : Addr) (m : Str) (f : SpecG (δ × List OB)) (td : PEx (δ × List OB)) (t : PAx (δ × List OB)) : PEXx (δ × List OB) := fun w s R => td s fun d s1 => ∃ bs1 ob bs2, s1.g.2 = bs1 ++ ob :: bs2 ∧ d = .obj ob.o ∧ ob.C = C ∧ ob.fs.lookup m = none ∧
  t s1 fun xs s2 => f (.obj ob.o :: xs) s2.g (fun z g' => R z ⟨s2.ρ, g'⟩) fun y g' => w y ⟨s2.ρ, g'⟩
section
variable {X : Cx} {CX : CXT} {U : UT} {k : Nat} {C f : Addr} {fd : FuncData} {ps : List Str} {sp : Sp} {E : L2.St → XK} {m x : Str} {o e : Expr} {es : List Expr} {to : TE} {t : TA} {p pos apos : Pos}
theorem run_fnU {pins : List (Addr × Obj)} {σ : L2.St} {H : Hp} {s : Shared} {Q : VK} {us : List Value} {vs : List V} (F : FnU X.prog X.w X.K X.mg X.base CX U k f fd ps sp) (hU : HasU X U) (hr : Room k X.A) (hb : Binds X.K fd ps []) (hx : PassesAt CX X σ (E σ))
    (I : L2.Inv X pins σ H s) (r : Vals vs us) (h : sp vs H Q (E σ)) : wpAny (model X.prog X.w) X.A (call (.ref f) us) (EP X pins σ Q) X.xe s := by
  have hl : us.length = ps.length := by rw [← r.length]; exact F.len _ _ _ _ h
  have b := hb s us I.kIn (by rw [List.append_nil]; exact hl)
  rw [List.append_nil] at b
  refine wpAny_call (codeAny_mono (F.run X.A X.stack s H ⟨us, []⟩ us vs Q (E σ) hU.st (hU.now I) hr I.env0 b r h) fun r s' hq => ?_)
  cases r with
  | error e => exact hx pins H s e s' I hq
  | ok fl =>
    cases fl with
    | ret u => exact I.after hq
    | next => exact False.elim hq
    | brk => exact False.elim hq
    | cont => exact False.elim hq
theorem pe_mbU {pl : Sem Bool} (ho : PE X o to) (c : Cls X.K C) (M : Meth X.K C m f) (F : FnU X.prog X.w X.K X.mg X.base CX U k f fd ps sp) (hU : HasU X U) (hr : Room k X.A) (hb : Binds X.K fd ps []) (pa : ∀ σ, PassesAt CX X σ (E σ)) (ha : PA X (e :: es) t)
    (hst : starEach (e :: es) X.env = (false, eval e X.env) :: starEach es X.env := by rfl) (hpl : (backTo pos (starEach es X.env)).any (·.1) = false := by rfl)
    (ht : eval (.Call (.Attribute o m apos) (e :: es) [] pos) X.env = (do
      let ov ← eval o X.env
      standAt apos.atName
      let (f, first) ← holding [ov] (getMethod ov m pl)
      callWith pos f first (backTo pos (starEach (e :: es) X.env)) (backToKw pos (keywordEach [] X.env))) := by rfl) :
    PE X (.Call (.Attribute o m apos) (e :: es) [] pos) (tMB C m sp E to t) := by
  refine ⟨fun pins s σ H Q I h => ?_⟩
  refine PySem.W.methodCall_KW (pl := pl) (thn (ho.run pins s σ H _ I h) fun u s1 hh => ?_) ht
  obtain ⟨y, H1, I1, ry, a, dx, fs, ey, ea, l, q⟩ := hh
  subst ey
  obtain rfl : u = Value.ref a := ry
  refine getmeth_ok I1 ea c M l ?_
  refine PySem.W.callWith_K (h₀ := X.base) (first := [.ref a]) I.ok.mod.kin M.kp (thn (ha.run pos pins s1 σ H1 _ I1 q) fun us s2 hh => ?_) hst hpl
  obtain ⟨vs, H2, I2, r, q2⟩ := hh
  exact ⟨I2.kIn, run_fnU (vs := .ref a :: vs) (us := .ref a :: us) F hU hr hb (pa σ) I2 (.cons rfl r) q2⟩
theorem qex_methU {G1 : GP γ} {W : WX} {n : Nat} {f : SpecG (γ × List OB)} {td : PEx (γ × List OB)} {t : PAx (γ × List OB)} {pl : Sem Bool} (d : DefMU X U C m n (spQ (gBk G1) X.mg f)) (c : Cls X.K C) (hU : HasU X U) (tk : L2N.Takes X W) (ho : QE X (gBk G1) o td) (ha : QA X (gBk G1) (e :: es) t)
    (hst : starEach (e :: es) X.env = (false, eval e X.env) :: starEach es X.env := by rfl) (hpl : (backTo pos (starEach es X.env)).any (·.1) = false := by rfl)
    (ht : eval (.Call (.Attribute o m apos) (e :: es) [] pos) X.env = (do
      let ov ← eval o X.env
      standAt apos.atName
      let (f, first) ← holding [ov] (getMethod ov m pl)
      callWith pos f first (backTo pos (starEach (e :: es) X.env)) (backToKw pos (keywordEach [] X.env))) := by rfl) :
    QEX X (gBk G1) W (.Call (.Attribute o m apos) (e :: es) [] pos) (qMethQ C m f td t) := by
  obtain ⟨fa, fd, k, ps, F, hr, hm, hb, _⟩ := d.ex
  refine PE.imp (pe_mbU ho c hm F hU hr hb (fun σ => L2N.passAt tk σ) ha hst hpl ht) fun σ H Q ⟨F, Z, s, R, w, r, t, q, ex⟩ => ?_
  refine ⟨F, Z, s, _, r, t, fun d s1 Z1 v H1 t1 k1 r1 a1 => ?_⟩
  obtain ⟨bs1, ob, bs2, e1, rfl, rfl, hl, t1⟩ := t1
  obtain rfl : v = .ref ob.o := a1
  obtain ⟨vs, j⟩ := r1.j.2.2.at_ ob (by rw [e1]; simp)
  refine ⟨ob.o, ob.dx, vs, rfl, j.ins, j.fv.none hl, F, Z1, s1, _, r1, t1, fun xs s2 Z2 us H2 t2 k2 r2 a2 => ?_⟩
  exact lcallQ r2 (fun _ _ z => by cases z) (ats_o a2) t2 (fun d s' Z' v H' h k => q d s' Z' v H' h (k1.trans (k2.trans k))) fun y s' Z' cls d H' h k => ex y s' Z' cls d H' h (k1.trans (k2.trans k))
end
end Pm
set_option Elab.async false
set_option linter.all false
set_option maxRecDepth 100000
set_option maxHeartbeats 400000
set_option autoImplicit false
namespace Pm
open PySem PySem.Spec
open PyProof.Rows hiding St
open L2
variable {γ : Type}
def lamRho (ρ : List (Option L)) (i : Nat) (a : Addr) (j : Nat) (u : D) : List (Option L) := ((valsL ρ).set i (some (.val (.obj a)))).set j (some (.val u))
theorem lamRho_get {ρ : List (Option L)} {i j n : Nat} {a : Addr} {u : D} {l : L} (h : (lamRho ρ i a j u)[n]? = some (some l)) :
    (n = j ∧ l = .val u) ∨ (n ≠ j ∧ n = i ∧ l = .val (.obj a)) ∨ (n ≠ j ∧ n ≠ i ∧ ∃ d, l = .val d ∧ ρ[n]? = some (some (.val d))) := by
  unfold lamRho at h
  by_cases hj : n = j
  · subst hj
    by_cases lt : n < ((valsL ρ).set i (some (.val (.obj a)))).length
    · rw [List.getElem?_set_self lt] at h
      cases h
      exact .inl ⟨rfl, rfl⟩
    · rw [List.getElem?_eq_none (by rw [List.length_set]; exact Nat.le_of_not_lt lt)] at h; cases h
  · rw [List.getElem?_set_ne (Ne.symm hj)] at h
    by_cases hi : n = i
    · subst hi
      by_cases lt : n < (valsL ρ).length
      · rw [List.getElem?_set_self lt] at h
        cases h
        exact .inr (.inl ⟨hj, rfl, rfl⟩)
      · rw [List.getElem?_eq_none (by rw [List.length_set]; exact Nat.le_of_not_lt lt)] at h; cases h
    · rw [List.getElem?_set_ne (Ne.symm hi)] at h
      exact .inr (.inr ⟨hj, hi, valsL_get h⟩)
theorem Rel.tabledB {G : GP γ} {T : Tbs} {F : Fra} {Z : Hp} {s : S (γ × List OB)} {σ : L2.St} {H : Hp} (r : Rel (gBk (gT G T)) F Z s σ H) {P c' : Addr} {q : Str} {ps : Array Value} {pos : Pos} (hT : (P, q) ∈ T) (hu : ∀ p ∈ T, p.1 = P → p.2 = q) (hP : H P = some (.tbl ps)) (tb : TabOk Z q ps) (hn : H c' = none) :
    Rel (gBk (gT G T)) F (upd Z c' (LamX.CodeO c' q)) s σ (upd (upd H P (.tbl (ps ++ #[rawInt pos.line, rawInt pos.col, .ref c']))) c' (LamX.CodeO c' q)) := by
  have ne : P ≠ c' := ne_of_none hP hn
  have r1 := r.new (o := LamX.CodeO c' q) hn
  have k : Same Z (upd Z c' (LamX.CodeO c' q)) := same_upd (r.z.free hn)
  have sw : upd (upd H P (.tbl (ps ++ #[rawInt pos.line, rawInt pos.col, .ref c']))) c' (LamX.CodeO c' q) = upd (upd H c' (LamX.CodeO c' q)) P (.tbl (ps ++ #[rawInt pos.line, rawInt pos.col, .ref c'])) := by
    funext b
    by_cases h1 : b = P
    · subst h1; rw [upd_ne ne, upd_same, upd_same]
    · by_cases h2 : b = c'
      · subst h2; rw [upd_same, upd_ne h1, upd_same]
      · rw [upd_ne h2, upd_ne h1, upd_ne h1, upd_ne h2]
  rw [sw]
  obtain ⟨⟨j0, jt⟩, j2, j3⟩ := r1.j
  refine r1.writeB (.inl (.inr ⟨_, hT, rfl⟩)) _ ⟨⟨G.stay _ _ _ _ _ j0 (Same.refl _) fun a ha => upd_ne fun e => (jt _ hT).2 (by rw [← e]; exact ha), fun p hp => ⟨?_, (jt p hp).2⟩⟩, j2, j3.stay (Same.refl _) fun a ha => upd_ne fun e => j2 a (.inr ⟨_, hT, e⟩) ha⟩ fun _ h => h
  by_cases h1 : p.1 = P
  · rw [h1, upd_same, hu p hp h1]
    refine ⟨_, rfl, ?_⟩
    have eL : (ps ++ #[rawInt pos.line, rawInt pos.col, .ref c']).toList = ps.toList ++ [rawInt pos.line, rawInt pos.col, .ref c'] := by simp
    refine ⟨by rw [eL]; exact PySem.TriplesOk_snoc _ _ _ _ tb.1, fun p' v e => ?_⟩
    rw [eL] at e
    rcases LamX.among_app _ tb.1 e with e | e
    · obtain ⟨c, e1, e2⟩ := tb.2 p' v e
      exact ⟨c, e1, k _ _ e2⟩
    · exact ⟨c', e, upd_same⟩
  · rw [upd_ne h1]
    exact (jt p hp).1
structure DefRU (X : Cx) (C : Addr) (m kw : Str) (sp : UT → Sp) : Prop where
  ex : ∃ f fd k ps, (∀ U, FnU X.prog X.w X.K X.mg X.base (L2N.CX X.prog X.w) U k f fd ps (sp U)) ∧ Room k X.A ∧ Meth X.K C m f ∧ KBn X.K fd ps 2 [kw] (fun us ws => us ++ ws) (fun vs zs => vs ++ zs)
def GloRU (P : Program) (w : World) (K : PySem.W.Frag) (mg : Str → Option Value) (base : Heap) (C : Addr) (m kw : Str) (sp : UT → Sp) (k : Nat) : Prop :=
  ∃ f fd ps, (∀ U, FnU P w K mg base (L2N.CX P w) U k f fd ps (sp U)) ∧ Meth K C m f ∧ KBn K fd ps 2 [kw] (fun us ws => us ++ ws) (fun vs zs => vs ++ zs)
theorem GloRU.at {X : Cx} {C : Addr} {m kw : Str} {sp : UT → Sp} {j k : Nat} (g : GloRU X.prog X.w X.K X.mg X.base C m kw sp j) (hr : Room k X.A) (h : j ≤ k := by decide) : DefRU X C m kw sp := by
  obtain ⟨f, fd, ps, F, m, b⟩ := g
  exact ⟨f, fd, j, ps, F, hr.mono h, m, b⟩
abbrev GhL := NB × List OB
def qRunL2 (frun : LF GhL → SpecG GhL) (i j : Nat) (tb : PEXx GhL) (w : Xc → S (γ × List OB) → Prop) (R : D → S (γ × List OB) → Prop) (o : Addr) (xb : D) (s2 : S (γ × List OB)) : Prop :=
  ∃ ds, s2.ρ[i]? = some (some (.own ds)) ∧ ∀ (a : Addr) (lis : LF GhL), ∃ f : SpecG GhL,
    (∀ xs g R' W', f xs g R' W' → ∃ u, xs = [u] ∧ tb (fun x s' => W' x s'.g) ⟨lamRho s2.ρ i a j u, g⟩ fun z s' => R' z s'.g) ∧
    frun lis [.obj o, xb, .obj (lis f)] ([(a, ds)], s2.g.2) (fun z g' => ∃ ds', g'.1 = [(a, ds')] ∧ R z ⟨s2.ρ.set i (some (.own ds')), (s2.g.1, g'.2)⟩) fun y g' => ∃ ds', g'.1 = [(a, ds')] ∧ w y ⟨s2.ρ.set i (some (.own ds')), (s2.g.1, g'.2)⟩
def qRunL1 (C : Addr) (m : Str) (frun : LF GhL → SpecG GhL) (i j : Nat) (tb : PEXx GhL) (te : PEx (γ × List OB)) (w : Xc → S (γ × List OB) → Prop) (R : D → S (γ × List OB) → Prop) (d : D) (s1 : S (γ × List OB)) : Prop :=
  ∃ bs1 ob bs2, s1.g.2 = bs1 ++ ob :: bs2 ∧ d = .obj ob.o ∧ ob.C = C ∧ ob.fs.lookup m = none ∧ te s1 fun xb s2 => qRunL2 frun i j tb w R ob.o xb s2
def qRunL (C : Addr) (m : Str) (frun : LF GhL → SpecG GhL) (i j : Nat) (tb : PEXx GhL) (td te : PEx (γ × List OB)) : PEXx (γ × List OB) := fun w s R => td s fun d s1 => qRunL1 C m frun i j tb te w R d s1
section
variable {X : Cx} {G00 : GP γ} {T : Tbs} {W : WX} {C c P : Addr} {m kw x : Str} {frun : LF GhL → SpecG GhL} {i j kb : Nat} {params : Arguments} {body : Expr} {scope : Scope} {tb : PEXx GhL} {td te : PEx (γ × List OB)} {o e : Expr} {apos pos lpos kpos : Pos}
theorem qex_runL {pl : Sem Bool} (d : DefRU X C m kw fun U => spQ (gBk (gNb X.K)) X.mg (frun (lisA X.prog X.w X.K X.mg X.base (kb + 1) (gBk (gNb X.K)) U))) (c1 : Cls X.K C) (tk : L2N.Takes X W) (ho : QE X (gBk (gT G00 T)) o td) (he : QE X (gBk (gT G00 T)) e te)
    (TB : LamX.TabB X.base X.mg c P) (hc : X.env.code = .ref c) (hT : (P, lamQ X) ∈ T) (hu : ∀ p ∈ T, p.1 = P → p.2 = lamQ X) (L1 : LamS1 X.env.scope scope x) (hdef : defaultsOf params X.env = ([], []))
    (hbind : ∀ (q : Str) (cl : List (Str × Addr)) (pm cv ctv u : Value), bindArgs (PySem.W.kla_fn "<lambda>" q params body scope cl pm cv ctv) ⟨[u], []⟩ = pure [(x, u)]) (hN : X.N.Nodup) (hj : X.N[j]? = some x)
    (hbody : ∀ (A : Around) (outer : List Env) (s : Shared) (H : Hp) (E : XK) (f c' : Addr), Room kb (A.deeper (LamX.lamEnv X scope s.heap.objs.size f c')) → QEX (lamCxN X A outer s H E scope f c') (gBk (gNb X.K)) (fun cls d _ H => E cls d H) body tb)
    (hK : G00.K = X.K := by rfl)
    (hall : (backToKw pos (keywordEach [⟨some kw, .Lambda params body scope lpos, kpos⟩] X.env)).all (·.1.isSome) = true := by rfl) (hks : (backToKw pos (keywordEach [⟨some kw, .Lambda params body scope lpos, kpos⟩] X.env)).filterMap (·.1) = [kw] := by rfl)
    (hst : starEach [e] X.env = (false, eval e X.env) :: starEach [] X.env := by rfl) (hpl : ((backTo pos (starEach [e] X.env)).any (·.1) || (backToKw pos (keywordEach [⟨some kw, .Lambda params body scope lpos, kpos⟩] X.env)).any (·.1.isNone)) = false := by rfl)
    (ht : eval (.Call (.Attribute o m apos) [e] [⟨some kw, .Lambda params body scope lpos, kpos⟩] pos) X.env = (do
      let ov ← eval o X.env
      standAt apos.atName
      let (f, first) ← holding [ov] (getMethod ov m pl)
      callWith pos f first (backTo pos (starEach [e] X.env)) (backToKw pos (keywordEach [⟨some kw, .Lambda params body scope lpos, kpos⟩] X.env))) := by rfl) :
    QEX X (gBk (gT G00 T)) W (.Call (.Attribute o m apos) [e] [⟨some kw, .Lambda params body scope lpos, kpos⟩] pos) (qRunL C m frun i j tb td te) := by
  obtain ⟨fa, fd, k, ps, F, hr, M, hb⟩ := d.ex
  refine ⟨fun pins s σ H Q I ⟨F0, Z, sg, R, w, r, t, q, ex⟩ => ?_⟩
  refine PySem.W.methodCall_KW (pl := pl) (thn (ho.run pins s σ H (fun v H1 => ∃ d s1 Z1, qRunL1 C m frun i j tb te w R d s1 ∧ Same Z Z1 ∧ Rel (gBk (gT G00 T)) F0 Z1 s1 σ H1 ∧ At (gT G00 T).K Z1 d v) I ⟨F0, Z, sg, _, r, t, fun d s1 Z1 v H1 t1 k1 r1 a1 => ⟨d, s1, Z1, t1, k1, r1, a1⟩⟩) fun u s1 hh => ?_) ht
  obtain ⟨v, H1, I1, rv, d, sg1, Z1, ⟨bs1, ob, bs2, e1, rfl, rfl, hl, t1⟩, k1, r1, a1⟩ := hh
  obtain rfl : v = .ref ob.o := a1
  obtain rfl : u = Value.ref ob.o := rv
  obtain ⟨vs1, j1⟩ := r1.j.2.2.at_ ob (by rw [e1]; simp)
  refine getmeth_ok I1 j1.ins c1 M (j1.fv.none hl) ?_
  refine PySem.W.callWith_KW (first := [.ref ob.o]) (h₀ := X.base) I.ok.mod.kin M.kp hall (thn ((pa_cons he pa_nil hst).run pos pins s1 σ H1 (fun vs H2 => ∃ xb v2 s2 Z2, vs = [v2] ∧ qRunL2 frun i j tb w R ob.o xb s2 ∧ Same Z1 Z2 ∧ Rel (gBk (gT G00 T)) F0 Z2 s2 σ H2 ∧ At (gT G00 T).K Z2 xb v2) I1 ⟨F0, Z1, sg1, _, r1, t1, fun xb s2 Z2 v2 H2 t2 k2 r2 a2 => ⟨xb, v2, s2, Z2, rfl, t2, k2, r2, a2⟩⟩) fun us s2 hh => ?_) hpl hst
  obtain ⟨vs, H2, I2, rv2, xb, v2, sg2, Z2, rfl, ⟨ds, hi, t2⟩, k2, r2, a2⟩ := hh
  obtain ⟨⟨tps, hP, tbk⟩, _⟩ := r2.j.1.2 _ hT
  have go : ∀ (fl c' : Addr) (s' : Shared) (Z3 H3 : Hp), Same Z2 Z3 → Rel (gBk (gT G00 T)) F0 Z3 sg2 σ H3 → Z3 c' = some (LamX.CodeO c' (lamQ X)) → L2.Inv X pins σ H3 s' → LamAt X params body scope fl c' H3 s' →
      wpAny (model X.prog X.w) X.A (call (.ref fa) ([.ref ob.o] ++ us) ([kw].zip [.ref fl])) (EP X pins σ Q) X.xe s' := by
    intro fl c' s' Z3 H3 kz r3 hc1 I3 at_
    obtain ⟨a, ha, jc, zc, back⟩ := r3.lendQ hi
    obtain ⟨f, hf, t3⟩ := t2 a (lisA X.prog X.w X.K X.mg X.base (kb + 1) (gBk (gNb X.K)) (mkU X H3 s'.heap))
    have lis : LisF X.prog X.w X.K X.mg X.base (kb + 1) (gBk (gNb X.K)) (mkU X H3 s'.heap) f Z3 (.ref fl) := by
      refine ⟨fl, rfl, fun outer H h ⟨u, _⟩ => ?_, fun A outer s4 HZ us4 vs4 Q4 E4 hu4 hr4 e04 rv4 sp4 => ?_⟩
      · obtain ⟨⟨pm, ctv, of⟩, nf, ns⟩ := at_
        exact ⟨_, _, _, _, u.keep fl _ of nf ns (by simp)⟩
      · obtain ⟨Z4, xs, g, R', W', k34, z4, fl4, a4, j4, zf4, t4, q4, x4⟩ := sp4
        obtain ⟨u, rfl, t5⟩ := hf _ _ _ _ t4
        obtain ⟨vu, _, rfl, au, hn⟩ := a4
        obtain rfl := hn
        cases rv4 with
        | cons ru rn =>
          cases rn
          rename_i uu
          obtain ⟨F5, R5, fin⟩ := startR (G := gBk (gNb X.K)) (ρ := lamRho sg2.ρ i a j u) (σ := σ.set j (some vu)) z4 fl4 j4 zf4 (by unfold lamRho valsL; simp [r3.len]) (fun n d e => by
            rcases lamRho_get e with ⟨rfl, h2⟩ | ⟨nj, rfl, h2⟩ | ⟨nj, ni, d', h2, h3⟩
            · cases h2
              have lt : n < σ.length := by rw [I3.len]; exact (List.getElem?_eq_some_iff.mp hj).1
              exact ⟨vu, List.getElem?_set_self lt, au⟩
            · cases h2
              exact ⟨.ref a, by rw [List.getElem?_set_ne (Ne.symm nj)]; exact ha, rfl⟩
            · cases h2
              obtain ⟨v', g1, g2⟩ := r3.loc n d h3
              refine ⟨v', by rw [List.getElem?_set_ne (Ne.symm nj)]; exact g1, ?_⟩
              have g2 : At G00.K Z3 d v' := g2
              rw [hK] at g2
              exact At.mono k34 _ _ g2) fun n l e ol => by
            rcases lamRho_get e with ⟨_, h2⟩ | ⟨_, _, h2⟩ | ⟨_, _, d', h2, _⟩ <;> subst h2 <;> cases ol
          refine call_lam1 (E := E4) (Q := Q4) I3 L1 at_ (fun pm ctv => hbind _ _ _ _ _ _) hN hj e04 hr4 hu4.1 (z4 _ _ (k34 _ _ hc1)) ru (hbody A outer s4 HZ E4 fl c' (hr4.deeper _)) ⟨F5, Z4, _, _, _, R5, t5, fun d s5 Z5 v H5 hR k5 r5 a5 => ?_, fun y s5 Z5 cls dd H5 hW k5 r5 a5 => ?_⟩
          · exact q4 d _ Z5 v H5 hR (fin _ _ _ _ k5 r5) a5
          · exact x4 y _ Z5 cls dd H5 hW (fin _ _ _ _ k5 r5) a5
    have rvv : Vals (V.ref ob.o :: [v2]) (Value.ref ob.o :: us) := .cons rfl rv2
    have bb := hb.to s' (Value.ref ob.o :: us) [.ref fl] I3.kIn (rvv.length.symm.trans rfl) rfl
    have rvz : Vals ((V.ref ob.o :: [v2]) ++ [V.ref fl]) ((Value.ref ob.o :: us) ++ [.ref fl]) := hb.rel rvv (.cons rfl .nil)
    have kzz := (k1.trans k2).trans kz
    have sp : spQ (gBk (gNb X.K)) X.mg (frun (lisA X.prog X.w X.K X.mg X.base (kb + 1) (gBk (gNb X.K)) (mkU X H3 s'.heap))) ((V.ref ob.o :: [v2]) ++ [V.ref fl]) H3 Q (fun cls d H' => W cls d σ H') := by
      have eK : (gBk (gNb (gT G00 T).K)) = gBk (gNb X.K) := by rw [show (gT G00 T).K = G00.K from rfl, hK]
      rw [eK] at jc zc back
      refine ⟨Z3, _, ([(a, ds)], sg2.g.2), _, _, (fun _ _ z => by cases z), r3.z, (fun _ _ z => by cases z), ?_, jc, zc, t3, fun d g' Z' v H' ⟨ds', eg, hR⟩ af av => ?_, fun y g' Z' cls d H' ⟨ds', eg, hW⟩ af ax => ?_⟩
      · refine ⟨_, _, rfl, rfl, _, _, rfl, ?_, _, _, rfl, lisA_at lis, rfl⟩
        exact (show At X.K Z3 xb v2 from by rw [← hK]; exact At.mono kz _ _ a2)
      · obtain ⟨ns', bs'⟩ := g'
        cases eg
        exact q d _ Z' v H' hR (kzz.trans af.zz) (back ds' bs' Z' H' af) (by show At G00.K Z' d v; rw [hK]; exact av)
      · obtain ⟨ns', bs'⟩ := g'
        cases eg
        exact ex y _ Z' cls d H' hW (kzz.trans af.zz) (back ds' bs' Z' H' af) (by show XcAt G00.K X.mg Z' y cls d; rw [hK]; exact ax)
    have rc : codeAny (model X.prog X.w) X.A (.call (.ref fa) ⟨Value.ref ob.o :: us, [kw].zip [.ref fl]⟩) (CR (L2N.CX X.prog X.w) X.stack X.prog X.w H3 s' Q (fun cls d H' => W cls d σ H')) s' :=
      (F (mkU X H3 s'.heap)).run X.A X.stack s' H3 ⟨Value.ref ob.o :: us, [kw].zip [.ref fl]⟩ ((Value.ref ob.o :: us) ++ [.ref fl]) ((V.ref ob.o :: [v2]) ++ [V.ref fl]) Q (fun cls d H' => W cls d σ H') (mkU_stab X H3 s'.heap) ⟨Un.refl, fun b hb => .inl hb⟩ hr I3.env0 bb rvz sp
    show wpAny (model X.prog X.w) X.A (call (.ref fa) (Value.ref ob.o :: us) ([kw].zip [.ref fl])) (EP X pins σ Q) X.xe s'
    refine wpAny_call (codeAny_mono rc fun rr s3 hq => ?_)
    cases rr with
    | error er => exact L2N.passAt tk σ pins H3 s' er s3 I3 hq
    | ok fl =>
      cases fl with
      | ret u => exact I3.after hq
      | next => exact hq.elim
      | brk => exact hq.elim
      | cont => exact hq.elim
  show wpAny _ _ (evalAll ((do let v ← eval (.Lambda params body scope lpos) X.env; standAt pos; pure v) :: [])) _ _ s2
  refine wpAny_evalAll_cons (wpAny_bind (lam_made I2 TB hc r2.z hP tbk hdef (L1.has I.ok) (fun fl c' s' h1 I3 at_ => ?_) fun fl c' s' h1 I3 at_ => ?_))
  · refine wpAny_bind (wpAny_standAt (wpAny_pure (wpAny_evalAll_nil ⟨I3.kIn, ?_⟩)))
    rw [hks]
    exact go fl c' s' Z2 H2 (Same.refl _) r2 h1 I3 at_
  · refine wpAny_bind (wpAny_standAt (wpAny_pure (wpAny_evalAll_nil ⟨I3.kIn, ?_⟩)))
    rw [hks]
    exact go fl c' s' _ _ (same_upd (r2.z.free h1)) (r2.tabledB hT hu hP tbk h1) upd_same I3 at_
end
end Pm
set_option Elab.async false
set_option linter.all false
set_option maxRecDepth 100000
set_option maxHeartbeats 400000
set_option autoImplicit false
namespace Pm
open PySem PySem.Spec
open PyProof.Rows hiding St
open L2
variable {γ : Type}
def qCallQ (f : SpecG γ) (t : PAx γ) : PEXx γ := fun w s R => t s fun xs s1 => f xs s1.g (fun z g' => R z ⟨s1.ρ, g'⟩) fun y g' => w y ⟨s1.ρ, g'⟩
section
variable {X : Cx} {G : GP γ} {W : WX} {n : Nat} {x : Str} {f : SpecG γ} {e : Expr} {es : List Expr} {t : PAx γ} {p pos : Pos}
theorem qex_callQ (d : DefX X x n (spQ G X.mg f)) (tk : L2N.Takes X W) (hg : Gl X x) (ha : QA X G (e :: es) t) (hdb : (x == ("__debug__" : Str)) = false := by decide) (he : starEach (e :: es) X.env = (false, eval e X.env) :: starEach es X.env := by rfl) (hpl : (backTo pos (starEach es X.env)).any (·.1) = false := by rfl) :
    QEX X G W (.Call (.Name x p) (e :: es) [] pos) (qCallQ f t) := by
  obtain ⟨fa, fd, k, ps, F, hr, hm, hk, hb, _⟩ := d.ex
  refine PE.imp (L2.pe_callS F hr hg hm hk hb (fun σ => L2N.passAt tk σ) ha hdb he hpl) fun σ H Q ⟨F, Z, s, R, w, r, t, q, ex⟩ => ?_
  refine ⟨F, Z, s, _, r, t, fun xs s1 Z1 vs H1 t1 k1 r1 a1 => ?_⟩
  exact lcallQ r1 (fun _ _ z => by cases z) a1 t1 (fun d s' Z' v H' h k => q d s' Z' v H' h (k1.trans k)) fun y s' Z' cls d H' h k => ex y s' Z' cls d H' h (k1.trans k)
end
theorem NbOk.get {K : PySem.W.Frag} {Z H : Hp} {ns1 ns2 : NB} {a : Addr} {ds : List D} (h : NbOk K Z H (ns1 ++ (a, ds) :: ns2)) : ∃ us, H a = some (.lst us) ∧ Ats K Z ds us := h.1 (a, ds) (by simp)
theorem NbOk.put {K : PySem.W.Frag} {Z H : Hp} {ns1 ns2 : NB} {a : Addr} {ds ds' : List D} {us : List V} (h : NbOk K Z H (ns1 ++ (a, ds) :: ns2)) (hu : Ats K Z ds' us) : NbOk K Z (upd H a (.lst us)) (ns1 ++ (a, ds') :: ns2) := by
  have nd := h.2
  rw [List.map_append, List.map_cons] at nd
  have n2 : a ∉ ns1.map (·.1) ∧ a ∉ ns2.map (·.1) := by
    have p := List.pairwise_append.mp nd
    exact ⟨fun z => p.2.2 a z a List.mem_cons_self rfl, (List.nodup_cons.mp p.2.1).1⟩
  refine ⟨fun p hp => ?_, by rw [List.map_append, List.map_cons]; exact nd⟩
  rcases List.mem_append.mp hp with hp | hp
  · obtain ⟨ws, h1, h2⟩ := h.1 p (by simp [hp])
    exact ⟨ws, by rw [upd_ne fun z => n2.1 (by rw [← z]; exact List.mem_map_of_mem hp)]; exact h1, h2⟩
  · rcases List.mem_cons.mp hp with rfl | hp
    · exact ⟨us, upd_same, hu⟩
    · obtain ⟨ws, h1, h2⟩ := h.1 p (by simp [hp])
      exact ⟨ws, by rw [upd_ne fun z => n2.2 (by rw [← z]; exact List.mem_map_of_mem hp)]; exact h1, h2⟩
def qNbApp (td : PEx GhL) (te : PEXx GhL) : PEXx GhL := fun w s R => td s fun d s1 => ∃ a : Addr, d = .obj a ∧ a ∈ s1.g.1.map (·.1) ∧
  te w s1 fun dv s2 => ∃ ns1 ds ns2, s2.g.1 = ns1 ++ (a, ds) :: ns2 ∧ ds.length < sizeLine ∧ R .non ⟨s2.ρ, (ns1 ++ (a, ds ++ [dv]) :: ns2, s2.g.2)⟩
section
variable {X : Cx} {W : WX} {o e : Expr} {td : PEx GhL} {te : PEXx GhL} {apos cpos : Pos}
theorem qex_nbApp {K : PySem.W.Frag} (ho : QE X (gBk (gNb K)) o td) (he : QEX X (gBk (gNb K)) W e te)
    (hbase : attributeBase o "append" X.env (eval o X.env) = eval o X.env := by rfl)
    (hfew : ((backTo cpos (starEach [e] X.env)).all (fun x => !x.1) && (backToKw cpos (keywordEach [] X.env)).all (fun x => x.1.isSome)
      && decide (([e] : List Expr).length + ([] : List Keyword).length + (if ([] : List Keyword).isEmpty then 0 else 1) < 30)) = true := by rfl)
    (hline : (apos.endLine == cpos.line) = true := by rfl) (hs : starEach [e] X.env = (false, eval e X.env) :: starEach [] X.env := by rfl) (hplain : (backTo cpos (starEach [] X.env)).any (·.1) = false := by rfl) :
    QEX X (gBk (gNb K)) W (.Call (.Attribute o "append" apos) [e] [] cpos) (qNbApp td te) := by
  refine PE.imp (pe_bm PySem.F.plainAttrs_list PySem.F.slot_list_append PySem.F.type_list_append mt_append ho (pa_cons he pa_nil hs) hbase hfew hline hs hplain) fun σ H Q ⟨F, Z, s, R, w, r, t, q, ex⟩ => ?_
  refine ⟨F, Z, s, _, r, t, fun d s1 Z1 v1 H1 t1 k1 r1 a1 => ?_⟩
  obtain ⟨a, rfl, ha, t1⟩ := t1
  obtain rfl : v1 = .ref a := a1
  obtain ⟨p, hp, e1⟩ := List.mem_map.mp ha
  obtain ⟨us, h1, _⟩ := r1.j.1.1 p hp
  rw [e1] at h1
  refine ⟨own_ty h1, F, Z1, s1, _, w, r1, t1, fun dv s2 Z2 v H2 t2 k2 r2 a2 => ?_, fun x s' Z' cls d H' h k => ex x s' Z' cls d H' h (k1.trans k)⟩
  obtain ⟨ns1, ds, ns2, eg, hlen, t2⟩ := t2
  obtain ⟨j1, j2, j3⟩ := r2.j
  rw [eg] at j1 j2
  obtain ⟨us2, h2, a3⟩ := j1.get
  have a4 : Ats K Z2 (ds ++ [dv]) (us2 ++ [v]) := a3.append ⟨v, [], rfl, a2, rfl⟩
  have fa : a ∈ (ns1 ++ (a, ds) :: ns2).map (·.1) := by simp
  have fm : ∀ b, b ∈ (ns1 ++ (a, ds ++ [dv]) :: ns2).map (·.1) ↔ b ∈ (ns1 ++ (a, ds) :: ns2).map (·.1) := fun b => by simp
  refine ⟨a, us2, v, rfl, rfl, h2, by rw [a3.len]; exact hlen, ?_⟩
  refine q _ _ Z2 _ _ t2 (k1.trans k2) (r2.writeB (.inl (by rw [eg]; exact fa)) _ ⟨j1.put a4, fun b hb => j2 b ((fm b).mp hb), j3.stay (Same.refl _) fun b hb => upd_ne fun z => j2 a fa (by rw [← z]; exact hb)⟩ fun b hb => ?_) rfl
  rcases hb with hb | hb
  · exact .inl (by rw [eg]; exact (fm b).mp hb)
  · exact .inr hb
end
end Pm
set_option Elab.async false
set_option linter.all false
set_option maxRecDepth 100000
set_option maxHeartbeats 400000
set_option autoImplicit false
namespace Pm
open PySem PySem.Spec
open PyProof.Rows hiding St
open L2
variable {γ : Type}
section
variable {G : GP γ} {T : Tbs} {F : Fra} {Z : Hp} {s : S (γ × List OB)} {σ : L2.St} {H : Hp}
theorem Rel.hideT (r : Rel (gBk (gT G T)) F Z s σ H) : (gBk G).J s.g Z H ∧ (∀ b, (gBk G).foot s.g b → Z b = none) ∧ ∀ g' Z' H', AftG (gBk G) Z H s.g Z' H' g' → Rel (gBk (gT G T)) F Z' ⟨s.ρ, g'⟩ σ H' := by
  obtain ⟨⟨j0, jt⟩, j2, j3⟩ := r.j
  have up : ∀ {b : Addr}, (gBk G).foot s.g b → (gBk (gT G T)).foot s.g b := fun {b} h => h.imp .inl id
  refine ⟨⟨j0, fun x hx => j2 x (.inl hx), j3⟩, fun b hb => r.zf b (up hb), fun g' Z' H' ⟨zz, zh, keep, nw, ⟨n0, n2, n3⟩, ft⟩ => ?_⟩
  have tn : ∀ {p : Addr × Str}, p ∈ T → ¬ (gBk G).foot s.g p.1 := fun {p} hp h => h.elim (jt p hp).2 (j2 _ (.inr ⟨p, hp, rfl⟩))
  have tl : ∀ {p : Addr × Str}, p ∈ T → ∃ o, H p.1 = some o := fun {p} hp => let ⟨⟨ps, h1, _⟩, _⟩ := jt p hp; ⟨_, h1⟩
  have tf : ∀ {p : Addr × Str}, p ∈ T → ¬ (gBk G).foot g' p.1 := fun {p} hp h => by
    rcases (ft _ h).2 with h | h
    · exact tn hp h
    · obtain ⟨o, e⟩ := tl hp
      rw [h] at e; cases e
  refine r.afterG ⟨zz, zh, fun b o e n => keep b o e fun h => n (up h), fun b o e n => (nw b o e n).imp id up, ⟨⟨n0, fun p hp => ⟨?_, fun h => tf hp (.inl h)⟩⟩, fun x hx hf => ?_, n3⟩, fun b hb => ?_⟩
  · obtain ⟨⟨ps, h1, h2⟩, _⟩ := jt p hp
    exact ⟨ps, keep _ _ h1 (tn hp), h2.mono zz⟩
  · rcases hx with hx | ⟨p, hp, rfl⟩
    · exact n2 x hx hf
    · exact tf hp (.inr hf)
  · rcases hb with (hb | ⟨p, hp, rfl⟩) | hb
    · exact ⟨(ft b (.inl hb)).1, (ft b (.inl hb)).2.imp up id⟩
    · refine ⟨?_, .inl (.inl (.inr ⟨p, hp, rfl⟩))⟩
      cases q : Z' p.1 with
      | none => rfl
      | some o =>
        obtain ⟨u, e⟩ := tl hp
        rcases nw _ o q (r.zf _ (.inl (.inr ⟨p, hp, rfl⟩))) with h | h
        · rw [h] at e; cases e
        · exact (tn hp h).elim
    · exact ⟨(ft b (.inr hb)).1, (ft b (.inr hb)).2.imp up id⟩
theorem Rel.lendT (r : Rel (gBk (gT G T)) F Z s σ H) : (gBk (gT (none0 G.K) T)).J ((), s.g.2) Z H ∧ (∀ b, (gBk (gT (none0 G.K) T)).foot ((), s.g.2) b → Z b = none) ∧
    ∀ bs' Z' H', AftG (gBk (gT (none0 G.K) T)) Z H ((), s.g.2) Z' H' ((), bs') → Rel (gBk (gT G T)) F Z' ⟨s.ρ, (s.g.1, bs')⟩ σ H' := by
  obtain ⟨⟨j0, jt⟩, j2, j3⟩ := r.j
  have up : ∀ {b : Addr} {bs : List OB}, (gBk (gT (none0 G.K) T)).foot ((), bs) b → (gBk (gT G T)).foot (s.g.1, bs) b := fun {b bs} h => h.imp (fun h => .inr (h.resolve_left fun z => z.elim)) id
  have jn : (gT (none0 G.K) T).J () Z H := ⟨trivial, fun p hp => ⟨(jt p hp).1, fun z => z⟩⟩
  refine ⟨⟨jn, fun x hx => j2 x (.inr (hx.resolve_left fun z => z.elim)), j3⟩, fun b hb => r.zf b (up hb), fun bs' Z' H' ⟨zz, zh, keep, nw, ⟨⟨_, nt⟩, n2, n3⟩, ft⟩ => ?_⟩
  have gn : ∀ {b : Addr}, G.foot s.g.1 b → ¬ (gBk (gT (none0 G.K) T)).foot ((), s.g.2) b := fun {b} hb h => by
    rcases h with (h | ⟨p, hp, rfl⟩) | h
    · exact h
    · exact (jt p hp).2 hb
    · exact j2 b (.inl hb) h
  refine r.afterG ⟨zz, zh, fun b o e n => keep b o e fun h => n (up h), fun b o e n => (nw b o e n).imp id up, ⟨⟨G.stay _ _ _ _ _ j0 zz fun b hb => ?_, fun p hp => ⟨(nt p hp).1, (jt p hp).2⟩⟩, fun x hx hf => ?_, n3⟩, fun b hb => ?_⟩
  · obtain ⟨o, e⟩ := G.live _ _ _ _ j0 hb
    rw [e]; exact keep b o e (gn hb)
  · rcases hx with hx | hx
    · obtain ⟨o, e⟩ := G.live _ _ _ _ j0 hx
      rcases (ft x (.inr hf)).2 with h | h
      · exact gn hx h
      · rw [h] at e; cases e
    · exact n2 x (.inr hx) hf
  · rcases hb with (hb | hb) | hb
    · refine ⟨?_, .inl (.inl (.inl hb))⟩
      obtain ⟨u, e⟩ := G.live _ _ _ _ j0 hb
      cases q : Z' b with
      | none => rfl
      | some o =>
        rcases nw _ o q (r.zf _ (.inl (.inl hb))) with h | h
        · rw [h] at e; cases e
        · exact (gn hb h).elim
    · exact ⟨(ft b (.inl (.inr hb))).1, (ft b (.inl (.inr hb))).2.imp up id⟩
    · exact ⟨(ft b (.inr hb)).1, (ft b (.inr hb)).2.imp up id⟩
end
def qCallT (f : SpecG (Unit × List OB)) (t : PAx (γ × List OB)) : PEXx (γ × List OB) := fun w s R => t s fun xs s1 => f xs ((), s1.g.2) (fun z g' => R z ⟨s1.ρ, (s1.g.1, g'.2)⟩) fun y g' => w y ⟨s1.ρ, (s1.g.1, g'.2)⟩
section
variable {X : Cx} {G : GP γ} {T : Tbs} {W : WX} {n : Nat} {x : Str} {f : SpecG (Unit × List OB)} {e : Expr} {es : List Expr} {t : PAx (γ × List OB)} {p pos : Pos}
theorem qex_callT (d : DefX X x n (spQ (gBk (gT (none0 G.K) T)) X.mg f)) (tk : L2N.Takes X W) (hg : Gl X x) (ha : QA X (gBk (gT G T)) (e :: es) t) (hdb : (x == ("__debug__" : Str)) = false := by decide) (he : starEach (e :: es) X.env = (false, eval e X.env) :: starEach es X.env := by rfl) (hpl : (backTo pos (starEach es X.env)).any (·.1) = false := by rfl) :
    QEX X (gBk (gT G T)) W (.Call (.Name x p) (e :: es) [] pos) (qCallT f t) := by
  obtain ⟨fa, fd, k, ps, F, hr, hm, hk, hb, _⟩ := d.ex
  refine PE.imp (L2.pe_callS F hr hg hm hk hb (fun σ => L2N.passAt tk σ) ha hdb he hpl) fun σ H Q ⟨F, Z, s, R, w, r, t, q, ex⟩ => ?_
  refine ⟨F, Z, s, _, r, t, fun xs s1 Z1 vs H1 t1 k1 r1 a1 => ?_⟩
  obtain ⟨jc, zc, back⟩ := r1.lendT
  exact ⟨Z1, xs, ((), s1.g.2), _, _, (fun _ _ z => by cases z), r1.z, (fun _ _ z => by cases z), a1, jc, zc, t1, fun d g' Z' v H' hR af av => q d _ Z' v H' hR (k1.trans af.zz) (back g'.2 Z' H' af) av,
    fun y g' Z' cls d H' hW af ax => ex y _ Z' cls d H' hW (k1.trans af.zz) (back g'.2 Z' H' af) ax⟩
end
def notL (lis : LF γ) : D → D → DK → Prop := fun x y R => y = .non ∧ ((x = .non ∧ R (.bl false)) ∨ ∃ f, x = .obj (lis f) ∧ R (.bl true))
theorem o_notL {X : Cx} {G : GP γ} {U : UT} {k : Nat} : OpR X (compareOp .IsNot) (dOp2 X.K (notL (lisA X.prog X.w X.K X.mg X.base k G U))) := by
  intro pins s σ H x y v u Q I rx ry ⟨Z, d, e, R, kz, ad, ae, ⟨he, h⟩, q⟩
  subst he
  obtain rfl : y = .non := ae
  have h2 : R (.bl (!(decide (x = .non)))) := by
    rcases h with ⟨rfl, h⟩ | ⟨f, rfl, h⟩
    · obtain rfl : x = .non := ad
      exact h
    · obtain ⟨fa, rfl, _⟩ := lisA_of ad
      exact h
  exact op_notN pins s σ H _ _ v u Q I rx ry ⟨rfl, dk q kz h2 rfl⟩
theorem qe_x0 {X : Cx} {G : GP γ} {e : Expr} {t : PEXx γ} (h : QEX X G (fun _ _ _ _ => False) e t) : QE X G e (nx0 t) :=
  PE.imp h fun σ H Q ⟨F, Z, s, R, r, t, q⟩ => ⟨F, Z, s, R, _, r, t, q, fun _ _ _ _ _ _ h => h.elim⟩
theorem kb1 {K : PySem.W.Frag} {x qual kw : Str} {params : Arguments} {body : List Stmt} {scope : Scope} {kws : List (Str × V)} {f : Addr} {fd : FuncData} {ps : List Str} (F : FunD K x qual params body scope [] kws f fd)
    (h : ∀ (kV doc pm : Value) (an : Option Addr) (cdv ct a b c : Value), bindArgs (PySem.W.fnOf x qual params body scope .none kV doc pm an cdv ct) ⟨[a, b], [(kw, c)]⟩ = pure (ps.zip [a, b, c])) : KBn K fd ps 2 [kw] (fun us ws => us ++ ws) fun vs zs => vs ++ zs := by
  obtain ⟨oc, od, dV, kV, doc, pm, an, cdv, ct, osl, rfl, lk, hcd, hD, hK⟩ := F.ex
  rcases hD with ⟨_, rfl⟩ | ⟨e, _⟩
  · refine ⟨fun s us ws X l1 l2 => ?_, fun r1 r2 => r1.append r2⟩
    obtain ⟨a, b, rfl⟩ : ∃ a b, us = [a, b] := by
      match us, l1 with
      | [a, b], _ => exact ⟨a, b, rfl⟩
    obtain ⟨c, rfl⟩ : ∃ c, ws = [c] := by
      match ws, l2 with
      | [c], _ => exact ⟨c, rfl⟩
    exact .of_eq (h kV doc pm an cdv ct a b c)
  · exact absurd rfl e
end Pm
set_option Elab.async false
set_option linter.all false
set_option maxRecDepth 100000
set_option maxHeartbeats 400000
set_option autoImplicit false
namespace Pm
open PySem PySem.Spec
open PyProof.Rows hiding St
open L2
def lamS1B (sc scope : Scope) (x : Str) : Bool :=
  decide (scope.kind = .function) && !scope.isCoroutine && !scope.isGenerator && decide (scope.names.lookup x = some .local) &&
    scope.names.all fun y => (!decide (y.2 = .local) || decide (y.1 = x)) && !decide (y.2 = .cell) && (!decide (y.2 = .free) || decide (sc.names.lookup y.1 = some .cell) || decide (sc.names.lookup y.1 = some .free))
theorem lamS1_by {sc scope : Scope} {x : Str} (h : lamS1B sc scope x = true) : LamS1 sc scope x := by
  unfold lamS1B at h
  simp only [Bool.and_eq_true, Bool.or_eq_true, Bool.not_eq_true', decide_eq_true_eq, decide_eq_false_iff_not, List.all_eq_true] at h
  obtain ⟨⟨⟨⟨h1, h2⟩, h3⟩, h4⟩, h5⟩ := h
  refine ⟨h1, h2, h3, fun y hy e => ?_, fun y hy => (h5 y hy).1.2, h4, fun y hy e => ?_⟩
  · exact (h5 y hy).1.1.resolve_left fun z => z e
  · rcases (h5 y hy).2 with (h | h) | h
    · exact absurd e h
    · exact .inl h
    · exact .inr h
theorem okQC {P : Program} {w : World} {K : PySem.W.Frag} {mg : Str → Option Value} {base : Heap} {γ : Type} {G : GP γ} (hG : G.K = K) {x : Str} {st : Stmt} {fd : FuncData} {N ps : List Str} {k : Nat} (F : Fn K x x st (He.fAd K (x, none)) fd) (S : FnScope N ps (defScope st)) {fs : SpecG γ} (len : ∀ ds g R W, fs ds g R W → ds.length = ps.length)
    (body : ∃ t : PSXx γ, (∀ (A : Around) (outer : List Env) (s : Shared) (H : Hp) (E : XK), Room k (A.deeper (envOfC x (defScope st) s.heap.objs.size (He.fAd K (x, none)) (.ref (codP K x)))) →
      QSXs (cxOf (L2N.CX P w) P w K mg base N x (defScope st) (He.fAd K (x, none)) (.ref (codP K x)) A outer s H E) G (fun cls d _ H => E cls d H) (defBody st) t) ∧ ∀ ds g R W, fs ds g R W → t (fun x s => W x s.g) { nx := fun s => R .non s.g, rt := R } ⟨startL N.length ds, g⟩) :
    FnOk P w K mg base (L2N.CX P w) (k + 1) (He.fAd K (x, none)) fd ps (spQ G mg fs) := by
  have hc := Fn.code F
  obtain ⟨oc, od, dV, kV, doc, pm, an, cdv, ct, osl, e, lk, hcd, z1, z2⟩ := F.ex
  have e1 : cdv = .ref (codP K x) := by rw [← hc, e]
  subst e1
  subst e
  refine fn_of lk hcd S (fun vs H Q E h => ?_) (fun A outer s H vs Q E hr h => ?_)
  · obtain ⟨Z, ds, g, R, W, _, _, _, a, _, _, h, _⟩ := h
    rw [a.len]; exact len _ _ _ _ h
  · obtain ⟨t, hb, hp⟩ := body
    refine ⟨_, hb A outer s H E hr, ?_⟩
    obtain ⟨Z, ds, g, R, W, _, k, fl, a, jb, hzf, h, q, ex⟩ := h
    have hd := len _ _ _ _ h
    obtain ⟨F0, R0, fin⟩ := startR (G := G) (ρ := startL N.length ds) (σ := L2.start N vs) k fl jb hzf (by
        unfold L2.start startL
        simp only [List.length_append, List.length_map, List.length_replicate, a.len]) (fun i d e => by
        obtain ⟨d', e', v, h1, h2⟩ := start_at a e
        cases e'
        exact ⟨v, h1, h2⟩) fun i l e ol => by
        obtain ⟨d', e', _⟩ := start_at a e
        subst e'; cases ol
    refine ⟨F0, Z, _, _, _, R0, hp ds g R W h, ?_, ?_, ?_, ?_, ?_⟩
    · intro s' Z' σ' H' q' k' r'
      exact q .non _ Z' .non H' q' (fin _ _ _ _ k' r') rfl
    · intro d s' Z' σ' v H' q' k' r' a'
      exact q d _ Z' v H' q' (fin _ _ _ _ k' r') a'
    · intro s' Z' σ' H' q'; exact q'.elim
    · intro s' Z' σ' H' q'; exact q'.elim
    · intro x s' Z' σ' cls d H' q' k' r' a'
      exact ex x _ Z' cls d H' q' (fin _ _ _ _ k' r') (by exact a')
end Pm
set_option Elab.async false
set_option linter.all false
set_option maxRecDepth 100000
set_option maxHeartbeats 400000
set_option autoImplicit false
namespace Pm
open PySem PySem.Spec
open PyProof.Rows hiding St
open L2
variable {γ : Type}
def qCmpOwn (i : Nat) (p : D → D → DK → Prop) (tb : PEx γ) : PEx γ := fun s R => (∃ ds0, s.ρ[i]? = some (some (.own ds0))) ∧ tb s fun y s1 => ∃ ds, s1.ρ[i]? = some (some (.own ds)) ∧ p (.lst ds) y fun z => ∃ c, z = .bl c ∧ R (.bl c) s1
theorem lcmpOwn {G : GP γ} {i : Nat} {p : D → D → DK → Prop} {tb : PEx γ} {σ : L2.St} {H : Hp} {Q : VK} (h : lE G (qCmpOwn i p tb) σ H Q) : tOp (dOp2 G.K p) (tVar i) (lE G tb) σ H Q := by
  obtain ⟨F, Z, s, R, r, ⟨⟨ds0, h0⟩, t⟩, q⟩ := h
  obtain ⟨a, vs0, e1, _⟩ := r.own i ds0 h0
  refine ⟨.ref a, e1, F, Z, s, _, r, t, fun y s1 Z1 v1 H1 t1 k1 r1 a1 => ?_⟩
  obtain ⟨ds, h1, t2⟩ := t1
  obtain ⟨a', vs, g1, g2, g3, g4, g5, g6⟩ := r1.own i ds h1
  rw [e1] at g1
  cases g1
  have kz : Same Z1 (upd Z1 a (.lst vs)) := same_upd g4
  refine ⟨upd Z1 a (.lst vs), .lst ds, y, _, same_upd2 r1.z g2 g4, ⟨a, vs, rfl, upd_same, Ats.mono kz _ _ g3⟩, At.mono kz _ _ a1, t2, fun z Z3 v H3 ⟨c, hz, hR⟩ x3 a3 => ?_⟩
  subst hz
  let Z4 : Hp := fun b => if b = a then none else Z3 b
  have Z4n : ∀ b, b ≠ a → Z4 b = Z3 b := fun b hb => if_neg hb
  have k4 : Same Z1 Z4 := fun b o e => by
    have : b ≠ a := fun hb => by rw [hb, g4] at e; cases e
    rw [Z4n b this]; exact x3.zz b o (kz b o e)
  have x4 : Ext Z1 H1 Z4 H3 := ⟨x3.hh, k4, fun b o e => by
    by_cases hb : b = a
    · have : Z4 b = none := if_pos hb
      rw [this] at e; cases e
    · rw [Z4n b hb] at e; exact x3.zh b o e, fun b o e n => by
    by_cases hb : b = a
    · have : Z4 b = none := if_pos hb
      rw [this] at e; cases e
    · rw [Z4n b hb] at e
      exact x3.nw b o e (by rw [upd_ne hb]; exact n)⟩
  exact q _ s1 Z4 v H3 hR (k1.trans k4) (r1.ext x4) a3
section
variable {X : Cx} {G : GP γ} {i : Nat} {n : Str} {op : CmpOp} {p : D → D → DK → Prop} {b : Expr} {tb : PEx γ} {p1 pos : Pos}
theorem qe_cmpOwn (ho : OpR X (compareOp op) (dOp2 G.K p)) (hv : PE X (.Name n p1) (tVar i)) (hb : QE X G b tb) (hm : behindInMarks op b = false) : QE X G (.Compare (.Name n p1) [op] [b] pos) (qCmpOwn i p tb) :=
  PE.imp (pe_cmpR ho hv hb hm) fun _ _ _ h => lcmpOwn h
theorem qt_cmpOwn (ho : OpR X (compareOp op) (dOp2 G.K p)) (hv : PE X (.Name n p1) (tVar i)) (hb : QE X G b tb) (hm : behindInMarks op b = false) : QT X G (.Compare (.Name n p1) [op] [b] pos) (qB (qCmpOwn i p tb)) :=
  PT.imp (pt_cmpR ho hv hb hm) fun _ _ _ h => lB (te := tOp (dOp2 G.K p) (tVar i) (lE G tb)) (fun _ _ _ h => lcmpOwn h) h
end
end Pm
set_option Elab.async false
set_option linter.all false
set_option maxRecDepth 100000
set_option maxHeartbeats 1000000
set_option autoImplicit false
namespace Pm
open PySem PySem.Spec
open PyProof.Rows hiding St
open L2
variable {γ : Type}
theorem act_pln {a : Act} (h : a.d.pln = true) : a.ok := fun d hd p e => by
  have : D.plns (.str a.nm :: a.args) = true := h
  have := D.plns_mem this (List.mem_cons_of_mem _ hd)
  rw [e] at this; cases this
section
variable {G : GP γ} {T : Tbs}
theorem Rel.afterNT {F : Fra} {Z Z' : Hp} {s : S (γ × List OB)} {σ : L2.St} {H H' : Hp} {g' : γ} (r : Rel (gBk (gT G T)) F Z s σ H) (zz : Same Z Z') (zh : Same Z' H') (keep : ∀ a o, H a = some o → ¬ G.foot s.g.1 a → H' a = some o) (nw : ∀ a o, Z' a = some o → Z a = none → H a = none) (hj : G.J g' Z' H')
    (hf : ∀ a, G.foot g' a → Z' a = none ∧ (G.foot s.g.1 a ∨ H a = none)) : Rel (gBk (gT G T)) F Z' ⟨s.ρ, (g', s.g.2)⟩ σ H' := by
  obtain ⟨⟨j1, jt⟩, j2, j3⟩ := r.j
  obtain ⟨_, _, back⟩ := r.hideT
  refine back (g', s.g.2) Z' H' ⟨zz, zh, fun b o e n => keep b o e fun h => n (.inl h), fun b o e n => .inl (nw b o e n), ⟨hj, fun b hb hl => ?_, j3.stay zz fun b hb => ?_⟩, fun b hb => ?_⟩
  · rcases (hf b hb).2 with h | h
    · exact j2 b (.inl h) hl
    · obtain ⟨o, e⟩ := j3.live hl
      rw [h] at e; cases e
  · obtain ⟨o, e⟩ := j3.live hb
    rw [e]; exact keep b o e fun h => j2 b (.inl h) hb
  · rcases hb with hb | hb
    · exact ⟨(hf b hb).1, (hf b hb).2.imp .inl id⟩
    · refine ⟨?_, .inl (.inr hb)⟩
      cases e : Z' b with
      | none => rfl
      | some o =>
        obtain ⟨u, e2⟩ := j3.live hb
        rw [nw b o e (r.zf b (.inr hb))] at e2; cases e2
variable {X : Cx} {x : Str} {n : Nat} {e : Expr} {es : List Expr} {t : PAx (γ × List OB)} {p pos : Pos}
theorem lcallNT {f : Spec γ} {σ : L2.St} {H : Hp} {Q : VK} (h : lE (gBk (gT G T)) (qCallN f t) σ H Q) : tCall (spG G f) [] E0 (lA (gBk (gT G T)) t) σ H Q := by
  obtain ⟨F, Z, s, R, r, t, q⟩ := h
  refine ⟨F, Z, s, _, r, t, fun xs s1 Z1 vs H1 t1 k1 r1 a1 => ?_⟩
  refine ⟨Z1, xs, s1.g.1, _, r1.z, by rw [List.append_nil]; exact a1, r1.j.1.1, fun a h => r1.zf a (.inl (.inl h)), t1, fun z g' Z3 v H3 t3 k3 z3 h3 n3 j3 f3 a3 => ?_⟩
  exact q z _ Z3 v H3 t3 (k1.trans k3) (r1.afterNT k3 z3 h3 n3 j3 f3) a3
theorem qe_callNT {f : Spec γ} (d : Def X x n (spG G f)) (hg : Gl X x) (ha : QA X (gBk (gT G T)) (e :: es) t) (hdb : (x == ("__debug__" : Str)) = false := by decide) (he : starEach (e :: es) X.env = (false, eval e X.env) :: starEach es X.env := by rfl) (hpl : (backTo pos (starEach es X.env)).any (·.1) = false := by rfl) :
    QE X (gBk (gT G T)) (.Call (.Name x p) (e :: es) [] pos) (qCallN f t) := by
  obtain ⟨fa, fd, k, ps, F, hr, hm, hk, hb, _⟩ := d.ex
  exact PE.imp (pe_call F hr hg hm hk hb .nil pass0 ha hdb he hpl) fun _ _ _ h => lcallNT h
end
section
variable {P : Program} {w : World} {K : PySem.W.Frag} {mg : Str → Option Value} {base : Heap}
theorem law_startT {N : List Str} {i : Nat} {a r c q' : Addr} {T : Tbs} {H' : Hp} (hN : 0 < N.length) (J : (gT (gr K r c q') T).J (0 : Nat) (fun _ => none) H') :
    Rel (gBk (gT (gr K r c q') T)) ⟨fun _ => none, fun _ => False, fun _ h => h.elim⟩ (fun _ => none) ⟨(List.replicate N.length none).set i (some (.val (.obj r))), (0, [])⟩ ((L2.start N [V.ref a]).set i (some (.ref r))) H' := by
  have hlen : (L2.start N [V.ref a]).length = N.length := by unfold L2.start; simp; omega
  have at_i : ∀ (j : Nat) l, ((List.replicate N.length (none : Option L)).set i (some (.val (.obj r))))[j]? = some (some l) → j = i ∧ l = .val (.obj r) ∧ i < N.length := fun j l e => by
    by_cases hji : i = j
    · subst hji
      have hl' : i < (List.replicate N.length (none : Option L)).length := by
        have := (List.getElem?_eq_some_iff.mp e).1
        simpa using this
      rw [List.getElem?_set_self hl'] at e
      cases e
      exact ⟨rfl, rfl, by simpa using hl'⟩
    · rw [List.getElem?_set_ne hji, List.getElem?_replicate] at e
      split at e <;> cases e
  have nl : ∀ x, ¬ ftL [] x := fun x ⟨_, h, _⟩ => by cases h
  refine ⟨fun _ _ h => (by cases h), fun _ _ h => (by cases h), fun _ _ => rfl, by simp [hlen], fun j d e => ?_, fun j l e ol => ?_, fun j j2 l m b _ e ol _ _ => ?_, ⟨J, fun x _ => nl x, ⟨fun _ h => (by cases h), .nil⟩⟩, fun _ _ => rfl, fun _ _ => rfl, fun _ _ h => (by cases h)⟩
  · obtain ⟨rfl, e2, hl'⟩ := at_i j _ e
    cases e2
    exact ⟨.ref r, by rw [List.getElem?_set_self (by rw [hlen]; exact hl')], rfl⟩
  · obtain ⟨_, e2, _⟩ := at_i j _ e; subst e2; cases ol
  · obtain ⟨_, e2, _⟩ := at_i j _ e; subst e2; cases ol
theorem ok_lawTB {T : Tbs} {x : Str} {s0 : Stmt} {rest : List Stmt} {st : Stmt} {f : Addr} {fd : FuncData} {N : List Str} {p : Str} {k i : Nat} (F : Fn K x x st f fd) (S : FnScope N [p] (defScope st)) (hi : 0 < i) (hb : defBody st = s0 :: rest)
    (body : ∃ t : Addr → PSx (Nat × List OB), (∀ (cdv : Value) (A : Around) (outer : List Env) (s : Shared) (H : Hp) (E : XK), Room k (A.deeper (envOfC x (defScope st) s.heap.objs.size f cdv)) → (A.deeper (envOfC x (defScope st) s.heap.objs.size f cdv)).guards = some [] →
      PS (cxOf CX0 P w K mg base N x (defScope st) f cdv A outer s H E).nox s0 (tAsg (tCall (spDraws K) [] E0 (tCons (tVar 0) tNil)) (gName i)) ∧
      ∀ r c q, QSs (cxOf CX0 P w K mg base N x (defScope st) f cdv A outer s H E).nox (gBk (gT (gr K r c q) T)) rest (t r)) ∧
      ∀ r, t r { nx := fun _ => False, rt := fun d _ => d = .bl true } ⟨(List.replicate N.length none).set i (some (.val (.obj r))), (0, [])⟩) : FnG P w K mg base (k + 1) f fd [p] (spLawT K T) := by
  obtain ⟨t, hd, hp⟩ := body
  refine F.okGd S (fun vs H Q E h => ?_) (fun cdv A outer s H vs Q E gd hr h => ?_)
  · obtain ⟨_, a, ns, rfl, _⟩ := h; rfl
  · obtain ⟨d0, d1⟩ := hd cdv A outer s H E hr gd
    obtain ⟨hT, a, ns, rfl, hs, hl, q⟩ := h
    rw [hb]
    have dd : PSs (cxOf CX0 P w K mg base N x (defScope st) f cdv A outer s H E).nox rest (fun De σ H' => ∃ r c q', lS (gBk (gT (gr K r c q') T)) (t r) De σ H') := ⟨fun pins s1 σ H1 De I ⟨r, c, q', h⟩ => (d1 r c q').run pins s1 σ H1 De I h⟩
    refine ⟨_, pss_cons d0 dd, ?_⟩
    have hN : 0 < N.length := by have := congrArg List.length S.pre; rw [List.length_take] at this; simp at this; omega
    refine ⟨.ref a, rfl, a, ns, rfl, hs, hl, fun r c q' H' k1 hr1 hc1 hq1 J => ?_⟩
    have jT : ∀ p ∈ T, (∃ ps, H' p.1 = some (.tbl ps) ∧ TabOk (fun _ => none) p.2 ps) ∧ ¬ (gr K r c q').foot (0 : Nat) p.1 := fun p hp => by
      refine ⟨⟨#[], k1 _ _ (hT p hp), ⟨?_, fun pos v e => ?_⟩⟩, fun z => ?_⟩
      · exact trivial
      · cases e
      · have e := hT p hp
        rcases z with z | z | z <;> rw [z] at e
        · rw [hr1] at e; cases e
        · rw [hc1] at e; cases e
        · rw [hq1] at e; cases e
    refine ⟨r, c, q', _, _, _, _, law_startT hN ⟨J, jT⟩, hp r, fun s' Z' σ' H2 h => h.elim, fun d s' Z' σ' v H2 h _ _ a' => ?_, fun s' Z' σ' H2 h => h.elim, fun s' Z' σ' H2 h => h.elim⟩
    have h' : d = .bl true := h
    subst h'
    have e : v = .bl true := a'
    rw [e]; exact q _
end
section
variable {n : Nat} {sl : List Addr} {fa : List He.Fa} {fn fn1 fn2 : List He.DefD} {ex : PySem.W.Frag → Bool} {ts : List He.Tab} {xs : List Str} {w : World} {K : PySem.W.Frag}
theorem obsXTG_eq {g : Addr → Option Obj} {s : Shared} (h : ∀ a, g a = s.heap.get? a) : obsXTG n sl fa fn ex ts xs g = (hookXT n sl fa fn ex ts xs).obs s := by
  have e : g = s.heap.get? := funext h
  rw [e] <;> rfl
end
end Pm
set_option Elab.async false
set_option linter.all false
set_option maxRecDepth 100000
set_option maxHeartbeats 2000000
set_option autoImplicit false
namespace Pm
open PySem PySem.Spec
open PyProof.Rows hiding St
open L2
abbrev HdT := Value × Option Nat × (Addr → Value → Option Addr → TS)
def clrO (i : Option Nat) (D : Ends) : Ends := match i with
  | none => D
  | some i => { nx := fun σ2 H2 => D.nx (σ2.set i none) H2, rt := D.rt, bk := fun σ2 H2 => D.bk (σ2.set i none) H2, ct := fun σ2 H2 => D.ct (σ2.set i none) H2 }
def putO (i : Option Nat) (a : Addr) (σ : L2.St) : L2.St := match i with
  | none => σ
  | some i => σ.set i (some (.ref a))
def wMn (K : PySem.W.Frag) (Wout : WX) (D : Ends) : List HdT → WX
  | [] => Wout
  | (c, i, ts) :: r => fun cls d σ H => ∃ b, PySem.W.exmOne K cls c = some b ∧ (b = true → ∀ a, H a = none → ts a cls d (clrO i D) (putO i a σ) H) ∧ (b = false → wMn K Wout D r cls d σ H)
abbrev SuOk (X : Cx) (su : List Stmt) (ts : Addr → Value → Option Addr → TS) : Prop := ∀ (a : Addr) (oe : Obj) (cls : Value) (d : Option Addr) (pn : List (Addr × Obj)), Zc cls d oe → (∃ vs, oe.data = .fields vs) → X.base.get? a = none → a ∉ frs X.stack → PSs (X.suite a ((a, oe) :: pn)) su (ts a cls d)
inductive HdN (X : Cx) : List ExceptHandler → List HdT → Prop
  | nil : HdN X [] []
  | one {x : Str} {c : Value} {ts : Addr → Value → Option Addr → TS} {b₀ : Stmt} {suite : List Stmt} {np pos' : Pos} {hds : List ExceptHandler} {l : List HdT} (hc : Names X x c) (hsu : SuOk X (b₀ :: suite) ts) (r : HdN X hds l) :
      HdN X (.ExceptHandler (some (.Name x np)) none (b₀ :: suite) pos' :: hds) ((c, none, ts) :: l)
  | named {x n : Str} {i : Nat} {c : Value} {ts : Addr → Value → Option Addr → TS} {b₀ : Stmt} {suite : List Stmt} {np pos' : Pos} {hds : List ExceptHandler} {l : List HdT} (hc : Names X x c) (hi : X.N[i]? = some n) (hln : X.env.kindOf n = some .local) (hsu : SuOk X (b₀ :: suite) ts) (r : HdN X hds l) :
      HdN X (.ExceptHandler (some (.Name x np)) (some n) (b₀ :: suite) pos' :: hds) ((c, some i, ts) :: l)
section
variable {X : Cx} {body : List Stmt} {h₀ : ExceptHandler} {hds : List ExceptHandler} {l : List HdT} {pos : Pos} {tb : WX → TS} {Wout : WX}
theorem ps_try_mn (hs : X.stack = X.env :: X.outer) (hf : X.env.frame = some X.env.locals) (hN : X.N.Nodup) (tk : L2.Takes X Wout)
    (hb : ∀ (W : WX) (pn : List (Addr × Obj)) (xe : Value → Shared → Prop), L2.Takes (X.tr pn xe) W → PassesOwn (model X.prog X.w) X.A X.env xe → PSs (X.tr pn xe) body (tb W))
    (hh : HdN X (h₀ :: hds) l) : PS X (.Try body (h₀ :: hds) [] [] pos) (fun D σ H => tb (wMn X.K Wout D l) D σ H) := by
  refine ⟨fun pins s σ H D I h => ?_⟩
  have ok := I.ok
  have hfr : X.A.frames = some (X.env :: X.outer) := by rw [ok.frames, hs]
  refine wpAny_Try_except ?_
  refine wpAny_mono ((hb (wMn X.K Wout D l) (X.pn ++ pins) (fun e s₁ => wpAny (model X.prog X.w) X.A (noteFrame e X.env) (fun _ s₂ => wpAny (model X.prog X.w) X.A (setFlight e none) (fun _ s₃ =>
    wpAny (model X.prog X.w) X.A (handleBy e X.env (h₀ :: hds)) (SP X pins D) X.xe s₃) X.xe s₂) X.xe s₁) (fun u s' xx => ?_) PassesOwn.looking).run [] s σ H D (I.toTry _) h) (fun f s1 hsp => ?_) (fun e s1 he => he)
  · -- the catch
    obtain ⟨a, B, sI, pins', σ', H', cls, d, rfl, J', nb, up, sky, na, os, ag, w⟩ := xx
    have J : L2.Inv X pins σ' H' sI := J'.ofTry ok
    have sky' : Sky B (X.env :: X.outer) a (Zc cls d) X.env.locals s'.heap := by rw [← hs]; exact sky
    show wpAny (model X.prog X.w) X.A (noteFrame (.ref a) X.env) _ _ _
    refine Sky.land Zc.steady hfr hf sky' fun h3 fl3 up3 => ?_
    have J3 : L2.Inv X pins σ' H' { s' with heap := h3 } := J.landed nb fl3.1 (up.trans up3) os ag
    obtain ⟨oe3, vs3, he3, hz3, hd3⟩ := fl3.there
    have nfr : a ∉ frs (X.env :: X.outer) := fun hm => by
      obtain ⟨_, o', e', hnf⟩ := fl3.2.2.1.mem hm
      rw [he3] at e'; cases e'
      exact hnf _ hd3
    have nL : a ≠ X.env.locals := fun z => nfr (List.mem_filterMap.mpr ⟨X.env, List.mem_cons_self, by rw [hf, z]⟩)
    have nF : a ∉ X.fs := fun hm => by
      obtain ⟨e, he, q⟩ := List.mem_filterMap.mp hm
      exact nfr (List.mem_filterMap.mpr ⟨e, List.mem_cons_of_mem _ he, q⟩)
    have nS : a ∉ frs X.stack := by rw [hs]; exact nfr
    have nB : X.base.get? a = none := by
      cases q : X.base.get? a with
      | none => rfl
      | some u =>
        have z := nb a u (J.bk a u q) nS
        rw [fl3.2.1] at z; cases z
    have S3 := J3.suite he3 hd3 na nL nF
    have test : ∀ {x : Str} {c : Value} {np : Pos} (_ : Names X x c) {Q : Value → Shared → Prop} {E : Value → Shared → Prop}, Q c { s' with heap := h3 } → wpAny (model X.prog X.w) (X.A.mark (some (.ref a))) (eval (.Name x np) X.env) Q E { s' with heap := h3 } := fun {x c np} hc {Q E} q => by
      obtain ⟨hg, hdbg, hm | ⟨hm, hv, hnn⟩⟩ := hc
      · exact ld_glob (X := X.suite a ((a, oe3) :: (X.pn ++ pins))) S3 hg hm q hdbg
      · exact ld_blt (X := X.suite a ((a, oe3) :: (X.pn ++ pins))) S3 hg hm hv q hnn hdbg
    have LT : PySem.W.Looks (model X.prog X.w) h3 (typeOf (.ref a)) cls := fun A Q E s k q => wpAny_typeOf_ref (k _ _ he3) (by rw [hz3.1]; exact q)
    have go : ∀ {hds' : List ExceptHandler} {l' : List HdT}, HdN X hds' l' → wMn X.K Wout D l' cls d σ' H' →
        wpAny (model X.prog X.w) X.A (handleBy (.ref a) X.env hds') (SP X pins D) X.xe { s' with heap := h3 } := by
      intro hds' l' hk
      induction hk with
      | nil =>
        intro w
        refine wpAny_handleBy_nil ?_
        obtain ⟨k1, k2, k3, oe, vs, T, oT, ts', he, hz, hd, h1, hr⟩ := id fl3
        unfold PySem.passOn
        refine wpAny_bind (wpAny_field he hd h1 ?_)
        rw [if_neg (show ¬ ((Value.ref T == Value.none) = true) from by simp)]
        have fin : wpAny (model X.prog X.w) X.A (setFlight (.ref a) X.env.frame) (fun _ s4 => wpAny (model X.prog X.w) X.A (throw (.ref a) : Sem PySem.Flow) (SP X pins D) X.xe s4) X.xe { s' with heap := h3 } := by
          rw [hf]
          refine HandSPX.setFlight_upZ fl3 fun h4 hh4 up4 => wpAny_throw (tk _ _ ?_)
          exact ⟨a, B, sI, pins, σ', H', cls, d, rfl, J, nb, (up.trans up3).trans up4, .inr (.inr (by rw [hs]; exact hh4)), na, os, ag, w⟩
        first
          | exact wpAny_bind (wpAny_pure (wpAny_bind fin))
          | exact wpAny_bind fin
      | @one x c ts b₀ suite np pos' hds2 l2 hc hsu r ih =>
        intro w
        obtain ⟨b, hb1, hyes, hno⟩ := w
        refine wpAny_handleBy_cons (codeAny_handlers_test ?_) (by intro q; cases q)
        have LM := PySem.W.exm_one (M := model X.prog X.w) (J3.kIn) LT hb1
        refine test hc (LM.here ?_)
        cases b with
        | true =>
          refine codeAny_handlers_suite ?_
          refine HandSPX.lands_againZ fl3 fun h4 fl4 up4 => ?_
          have J4 : L2.Inv X pins σ' H' { s' with heap := h4 } := J.landed nb fl4.1 ((up.trans up3).trans up4) os ag
          obtain ⟨oe4, vs4, he4, hz4, hd4⟩ := fl4.there
          have S4 := J4.suite he4 hd4 na nL nF
          refine wpAny_mono ((hsu a oe4 cls d (X.pn ++ pins) hz4 ⟨_, hd4⟩ nB nS).run [] _ _ H' _ S4 (hyes rfl a na)) (fun f s6 hsp => ?_) (fun _ _ z => False.elim z)
          cases f with
          | next => exact (let ⟨_, _, S6, q6⟩ := hsp; ⟨_, _, S6.unsuite ok, q6⟩)
          | brk => exact (let ⟨_, _, S6, q6⟩ := hsp; ⟨_, _, S6.unsuite ok, q6⟩)
          | cont => exact (let ⟨_, _, S6, q6⟩ := hsp; ⟨_, _, S6.unsuite ok, q6⟩)
          | ret u => exact (let ⟨_, _, _, S6, r6, q6⟩ := hsp; ⟨_, _, _, S6.unsuite ok, r6, q6⟩)
        | false =>
          show wpAny _ X.A (handleBy (.ref a) X.env hds2) _ _ _
          exact ih (hno rfl)
      | @named x n i c ts b₀ suite np pos' hds2 l2 hc hi hln hsu r ih =>
        intro w
        obtain ⟨b, hb1, hyes, hno⟩ := w
        have hloc : Loc X.env.scope n := .inl hln
        refine wpAny_handleBy_cons (codeAny_handlers_test ?_) (by intro q; cases q)
        have LM := PySem.W.exm_one (M := model X.prog X.w) (J3.kIn) LT hb1
        refine test hc (LM.here ?_)
        cases b with
        | true =>
          refine codeAny_handlers_suite_as ?_
          refine HandSPX.lands_againZ fl3 fun h4 fl4 up4 => ?_
          have J4 : L2.Inv X pins σ' H' { s' with heap := h4 } := J.landed nb fl4.1 ((up.trans up3).trans up4) os ag
          obtain ⟨oe4, vs4, he4, hz4, hd4⟩ := fl4.there
          have S4 := J4.suite he4 hd4 na nL nF
          refine store_ok (X := X.suite a ((a, oe4) :: (X.pn ++ pins))) (v := .ref a) S4 hN hi hloc rfl (fun s5 S5 => ?_) (.inr hln)
          refine wpAny_mono ((hsu a oe4 cls d (X.pn ++ pins) hz4 ⟨_, hd4⟩ nB nS).run [] s5 _ H' _ S5 (hyes rfl a na)) (fun f s6 hsp => ?_) (fun _ _ z => False.elim z)
          have bye : ∀ {σ6 : L2.St} {H6 : Hp} {Q : Shared → Prop}, L2.Inv (X.suite a ((a, oe4) :: (X.pn ++ pins))) [] σ6 H6 s6 → (∀ s7, L2.Inv X pins (σ6.set i none) H6 s7 → Q s7) →
              wpAny (model X.prog X.w) X.A (do bindName X.env n .none; unbindBehindTheSuite X.env n pos') (fun _ s7 => Q s7) X.xe s6 := fun {σ6 H6 Q} S6 hq => gone_ok (S6.unsuite ok) hN hi hln hq
          cases f with
          | next => exact (let ⟨_, _, S6, q6⟩ := hsp; bye S6 fun _ J7 => ⟨_, _, J7, q6⟩)
          | brk => exact (let ⟨_, _, S6, q6⟩ := hsp; bye S6 fun _ J7 => ⟨_, _, J7, q6⟩)
          | cont => exact (let ⟨_, _, S6, q6⟩ := hsp; bye S6 fun _ J7 => ⟨_, _, J7, q6⟩)
          | ret u => exact (let ⟨_, _, _, S6, r6, q6⟩ := hsp; bye S6 fun _ J7 => ⟨_, _, _, J7, r6, q6⟩)
        | false =>
          show wpAny _ X.A (handleBy (.ref a) X.env hds2) _ _ _
          exact ih (hno rfl)
    exact go hh w
  · cases f with
    | next => exact (let ⟨_, _, J', q⟩ := hsp; wpAny_execs_nil ⟨_, _, J'.ofTry ok, q⟩)
    | brk => exact (let ⟨_, _, J', q⟩ := hsp; ⟨_, _, J'.ofTry ok, q⟩)
    | cont => exact (let ⟨_, _, J', q⟩ := hsp; ⟨_, _, J'.ofTry ok, q⟩)
    | ret u => exact (let ⟨_, _, _, J', r, q⟩ := hsp; ⟨_, _, _, J'.ofTry ok, r, q⟩)
end
theorem takesN {X : Cx} {W : WX} (t : L2.Takes X W) : L2N.Takes X W := fun u s' ⟨a, B, sI, pins, σ, H, cls, d, e, I, nb, up, sky, na, os, ag, w⟩ =>
  t u s' ⟨a, B, sI, pins, σ, H, cls, d, e, I, nb, up, by
    rcases sky with ⟨h1, h2, h3, oe, vs, h4, hz, h5, h6⟩ | fl | hh
    · exact .inl ⟨h1, h2, h3, oe, vs, h4, hz.zc, h5, h6⟩
    · exact .inr (.inl (L2H.flyingZ_imp (fun _ z => z.zc) fl))
    · obtain ⟨k1, k2, k3, k4⟩ := hh
      refine .inr (.inr ⟨k1, k2, k3, ?_⟩)
      exact L2H.tracedZ_imp (fun _ z => z.zc) k4, na, os, ag, w⟩
variable {γ : Type}
structure SubX (K : PySem.W.Frag) (mg : Str → Option Value) (x y : Str) (b : Bool) : Prop where
  ex : ∃ cls c, ClsM mg x cls ∧ clsV K y = some c ∧ ((∃ C', c = .ref C' ∧ mg y = some c) ∨ (∃ T, c = .type T ∧ mg y = none ∧ bootBuiltins y = some c)) ∧ PySem.W.exmOne K cls c = some b
theorem Sub.x {K : PySem.W.Frag} {mg : Str → Option Value} {x y : Str} {b : Bool} (h : Sub K mg x y b) : SubX K mg x y b := by
  obtain ⟨C, c, m1, cv, hc, _, ex⟩ := h.ex
  exact ⟨_, c, .inl m1, cv, hc, ex⟩
structure HeldW (X : Cx) (K : PySem.W.Frag) (Z0 : Hp) (x : Xc) (a : Addr) (oe : Obj) (cls : Value) (d : Option Addr) : Prop extends Held X K Z0 x a oe cls d where
  nB : X.base.get? a = none
  nF : a ∉ frs X.stack
abbrev HdS (γ : Type) := Str × Option Nat × (Xc → Addr → PSx γ)
def clrE (i : Option Nat) (E : En γ) : En γ := match i with
  | none => E
  | some i => { nx := fun s2 => E.nx (clr i s2), rt := E.rt, bk := fun s2 => E.bk (clr i s2), ct := fun s2 => E.ct (clr i s2) }
def putE (i : Option Nat) (a : Addr) (s : S γ) : S γ := match i with
  | none => s
  | some i => ⟨s.ρ.set i (some (.val (.obj a))), s.g⟩
def hdW (f : Str → Str → Option Bool) (E : En γ) (w : XW γ) : List (HdS γ) → Xc → S γ → Prop
  | [], x, s => w x s
  | (y, i, ts) :: r, x, s => ∃ b, f x.c y = some b ∧ (b = true → ∀ a, ts x a (clrE i E) (putE i a s)) ∧ (b = false → hdW f E w r x s)
def xTryM (f : Str → Str → Option Bool) (hs : List (HdS γ)) (tb : PSXx γ) : PSXx γ := fun w E s => tb (fun x s1 => hdW f E w hs x s1) E s
abbrev SuQ (X : Cx) (G : GP γ) (su : List Stmt) (ts : Xc → Addr → PSx γ) : Prop := ∀ (a : Addr) (oe : Obj) (cls : Value) (d : Option Addr) (pn : List (Addr × Obj)) (Z0 : Hp) (x : Xc), HeldW X G.K Z0 x a oe cls d → QSs (X.suite a ((a, oe) :: pn)) (G.lo Z0) su (ts x a)
inductive HdQ (X : Cx) (G : GP γ) (f : Str → Str → Option Bool) : List ExceptHandler → List (HdS γ) → Prop
  | nil : HdQ X G f [] []
  | one {y : Str} {ts : Xc → Addr → PSx γ} {b₀ : Stmt} {suite : List Stmt} {np pos' : Pos} {hds : List ExceptHandler} {l : List (HdS γ)} (hg : Gl X y) (hy : ∃ x b, f x y = some b) (hsu : SuQ X G (b₀ :: suite) ts) (r : HdQ X G f hds l) (hdb : (y == ("__debug__" : Str)) = false := by decide) (hnn : y ≠ "__name__" := by decide) :
      HdQ X G f (.ExceptHandler (some (.Name y np)) none (b₀ :: suite) pos' :: hds) ((y, none, ts) :: l)
  | named {y n : Str} {i : Nat} {ts : Xc → Addr → PSx γ} {b₀ : Stmt} {suite : List Stmt} {np pos' : Pos} {hds : List ExceptHandler} {l : List (HdS γ)} (hg : Gl X y) (hy : ∃ x b, f x y = some b) (hi : X.N[i]? = some n) (hln : X.env.kindOf n = some .local) (hsu : SuQ X G (b₀ :: suite) ts) (r : HdQ X G f hds l) (hdb : (y == ("__debug__" : Str)) = false := by decide) (hnn : y ≠ "__name__" := by decide) :
      HdQ X G f (.ExceptHandler (some (.Name y np)) (some n) (b₀ :: suite) pos' :: hds) ((y, some i, ts) :: l)
section
variable {X : Cx} {G : GP γ} {pos : Pos}
theorem nmX_of {f : Str → Str → Option Bool} {y : Str} (hg : Gl X y) (tab : ∀ x y b, f x y = some b → SubX X.K X.mg x y b) (hy : ∃ x b, f x y = some b) (hdb : (y == ("__debug__" : Str)) = false) (hnn : y ≠ "__name__") : ∃ c, clsV X.K y = some c ∧ Names X y c := by
  obtain ⟨x, b, h⟩ := hy
  obtain ⟨_, c, _, hcv, hc, _⟩ := (tab x y b h).ex
  exact ⟨c, hcv, hg, hdb, hc.imp (fun ⟨_, _, a⟩ => a) fun ⟨_, _, a, b⟩ => ⟨a, b, hnn⟩⟩
def tsQ (X : Cx) (G : GP γ) (ts : Xc → Addr → PSx γ) : Addr → Value → Option Addr → TS := fun a cls d De σ H => ∃ x Z0, XcAt G.K X.mg Z0 x cls d ∧ lS (G.lo Z0) (ts x a) De σ H
theorem suQ {su : List Stmt} {ts : Xc → Addr → PSx γ} (h : SuQ X G su ts) : SuOk X su (tsQ X G ts) := fun a oe cls d pn hz hfd nB nF =>
  ⟨fun pins s σ H De I ⟨x, Z0, hx, w⟩ => (h a oe cls d pn Z0 x ⟨⟨hx, hz, hfd⟩, nB, nF⟩).run pins s σ H De I w⟩
def HdL (X : Cx) (G : GP γ) : List (HdS γ) → List HdT → Prop
  | [], l => l = []
  | (y, i, ts) :: r, l => ∃ c l', clsV X.K y = some c ∧ l = (c, i, tsQ X G ts) :: l' ∧ HdL X G r l'
theorem hdQ_n {f : Str → Str → Option Bool} (tab : ∀ x y b, f x y = some b → SubX X.K X.mg x y b) {hds : List ExceptHandler} {hl : List (HdS γ)} (h : HdQ X G f hds hl) : ∃ l, HdL X G hl l ∧ HdN X hds l := by
  induction h with
  | nil => exact ⟨[], rfl, .nil⟩
  | one hg hy hsu r hdb hnn ih =>
    obtain ⟨c, cv, nm⟩ := nmX_of hg tab hy hdb hnn
    obtain ⟨l, h1, h2⟩ := ih
    exact ⟨_, ⟨c, l, cv, rfl, h1⟩, .one nm (suQ hsu) h2⟩
  | named hg hy hi hln hsu r hdb hnn ih =>
    obtain ⟨c, cv, nm⟩ := nmX_of hg tab hy hdb hnn
    obtain ⟨l, h1, h2⟩ := ih
    exact ⟨_, ⟨c, l, cv, rfl, h1⟩, .named nm hi hln (suQ hsu) h2⟩
theorem Rel.putOE {F : Fra} {Z : Hp} {s : S γ} {σ : L2.St} {H : Hp} (r : Rel G F Z s σ H) (i : Option Nat) (a : Addr) : Rel G F Z (putE i a s) (putO i a σ) H := by
  cases i with
  | none => exact r
  | some i => exact r.put (i := i) (d := .obj a) (v := .ref a) rfl
theorem qsx_tryM {W : WX} {f : Str → Str → Option Bool} {body : List Stmt} {h₀ : ExceptHandler} {hds : List ExceptHandler} {hl : List (HdS γ)} {tb : PSXx γ} (hs : X.stack = X.env :: X.outer) (hf : X.env.frame = some X.env.locals) (hN : X.N.Nodup) (hfl : ∀ a, G.fl a = none) (tk : L2.Takes X W)
    (tab : ∀ x y b, f x y = some b → SubX X.K X.mg x y b)
    (hb : ∀ (W : WX) (pn : List (Addr × Obj)) (xe : Value → Shared → Prop), L2.Takes (X.tr pn xe) W → PassesOwn (model X.prog X.w) X.A X.env xe → QSXs (X.tr pn xe) G W body tb)
    (hh : HdQ X G f (h₀ :: hds) hl) : QSX X G W (.Try body (h₀ :: hds) [] [] pos) (xTryM f hl tb) := by
  obtain ⟨l, h1, h2⟩ := hdQ_n tab hh
  refine PS.imp (ps_try_mn hs hf hN tk (tb := fun W => lSX G X.mg W tb) hb h2) fun De σ H ⟨F, Z, s, E, w, r, t, n, rt, bk, ct, ex⟩ => ?_
  refine ⟨F, Z, s, E, _, r, t, n, rt, bk, ct, fun x s' Z' σ' cls d H' hx k' r' a' => ?_⟩
  have key : ∀ (hl : List (HdS γ)) (l : List HdT), HdL X G hl l → hdW f E w hl x s' → wMn X.K W De l cls d σ' H' := fun hl => by
    induction hl with
    | nil =>
      intro l h1 hx
      have h1 : l = [] := h1
      subst h1
      exact ex x s' Z' σ' cls d H' hx k' r' a'
    | cons q hl ih =>
      intro l h1 hx
      obtain ⟨y, i, ts⟩ := q
      obtain ⟨c, l', cv, rfl, h1⟩ := h1
      obtain ⟨b, hf1, hy, hn⟩ := hx
      obtain ⟨cls', c', m1, cv', _, em⟩ := (tab x.c y b hf1).ex
      rw [cv] at cv'
      cases cv'
      have ec : cls' = cls := m1.one a'.1
      subst ec
      refine ⟨b, em, fun hb1 a _ => ?_, fun hb0 => ih l' h1 (hn hb0)⟩
      refine ⟨x, Z', a', F, Z', _, _, (r'.putOE i a).lo, hy hb1 a, ?_, ?_, ?_, ?_⟩
      · intro s2 Z2 σ2 H2 q k2 r2
        cases i with
        | none => exact n s2 Z2 _ H2 q (k'.trans k2) (r2.hi hfl)
        | some i => exact n _ Z2 _ H2 q (k'.trans k2) ((r2.hi hfl).clr i)
      · intro d2 s2 Z2 σ2 v H2 q k2 r2 a2
        cases i with
        | none => exact rt d2 s2 Z2 _ v H2 q (k'.trans k2) (r2.hi hfl) a2
        | some i => exact rt d2 (Pm.clr i s2) Z2 _ v H2 q (k'.trans k2) ((r2.hi hfl).clr i) a2
      · intro s2 Z2 σ2 H2 q k2 r2
        cases i with
        | none => exact bk s2 Z2 _ H2 q (k'.trans k2) (r2.hi hfl)
        | some i => exact bk _ Z2 _ H2 q (k'.trans k2) ((r2.hi hfl).clr i)
      · intro s2 Z2 σ2 H2 q k2 r2
        cases i with
        | none => exact ct s2 Z2 _ H2 q (k'.trans k2) (r2.hi hfl)
        | some i => exact ct _ Z2 _ H2 q (k'.trans k2) ((r2.hi hfl).clr i)
  exact key hl l h1 hx
def qTryM (f : Str → Str → Option Bool) (hs : List (HdS γ)) (tb : PSXx γ) : PSx γ := xTryM f hs tb fun _ _ => False
theorem takes0W {X : Cx} : L2.Takes X (fun _ _ _ _ => False) := L2.takes_none5
theorem qs_tryM {f : Str → Str → Option Bool} {body : List Stmt} {h₀ : ExceptHandler} {hds : List ExceptHandler} {hl : List (HdS γ)} {tb : PSXx γ} (hs : X.stack = X.env :: X.outer) (hf : X.env.frame = some X.env.locals) (hN : X.N.Nodup) (hfl : ∀ a, G.fl a = none)
    (tab : ∀ x y b, f x y = some b → SubX X.K X.mg x y b)
    (hb : ∀ (W : WX) (pn : List (Addr × Obj)) (xe : Value → Shared → Prop), L2.Takes (X.tr pn xe) W → PassesOwn (model X.prog X.w) X.A X.env xe → QSXs (X.tr pn xe) G W body tb)
    (hh : HdQ X G f (h₀ :: hds) hl) : QS X G (.Try body (h₀ :: hds) [] [] pos) (qTryM f hl tb) :=
  PS.imp (qsx_tryM hs hf hN hfl takes0W tab hb hh) fun De σ H ⟨F, Z, s, E, r, t, n, rt, bk, ct⟩ => ⟨F, Z, s, E, _, r, t, n, rt, bk, ct, fun _ _ _ _ _ _ _ z => z.elim⟩
theorem qTryM_one {f : Str → Str → Option Bool} {y : Str} {i : Nat} {ts : Xc → Addr → PSx γ} {tb : PSXx γ} : qTryM f [(y, some i, ts)] tb = qTryAs f y i tb ts := by
  funext E s
  show tb (fun x s1 => hdW f E (fun _ _ => False) [(y, some i, ts)] x s1) E s = tb (fun x s1 => f x.c y = some true ∧ ∀ a, ts x a (clrE (some i) E) (putE (some i) a s1)) E s
  have e : (fun x s1 => hdW f E (fun _ _ => False) [(y, some i, ts)] x s1) = fun x s1 => f x.c y = some true ∧ ∀ a, ts x a (clrE (some i) E) (putE (some i) a s1) := by
    funext x s1
    refine propext ⟨fun ⟨b, h1, h2, h3⟩ => ?_, fun ⟨h1, h2⟩ => ⟨true, h1, fun _ => h2, fun z => by cases z⟩⟩
    cases b with
    | true => exact ⟨h1, h2 rfl⟩
    | false => exact (h3 rfl).elim
  rw [e]
theorem qs_tryAsW {f : Str → Str → Option Bool} {y n : Str} {i : Nat} {body suite : List Stmt} {b₀ : Stmt} {np pos' : Pos} {tb : PSXx γ} {ts : Xc → Addr → PSx γ} (hs : X.stack = X.env :: X.outer) (hf : X.env.frame = some X.env.locals) (hN : X.N.Nodup) (hi : X.N[i]? = some n) (hln : X.env.kindOf n = some .local)
    (hfl : ∀ a, G.fl a = none) (hg : Gl X y) (tab : ∀ x y b, f x y = some b → Sub X.K X.mg x y b) (hy : ∃ x, f x y = some true)
    (hb : ∀ (W : WX) (pn : List (Addr × Obj)) (xe : Value → Shared → Prop), L2.Takes (X.tr pn xe) W → PassesOwn (model X.prog X.w) X.A X.env xe → QSXs (X.tr pn xe) G W body tb)
    (hsu : SuQ X G (b₀ :: suite) ts) (hdb : (y == ("__debug__" : Str)) = false := by decide) (hnn : y ≠ "__name__" := by decide) :
    QS X G (.Try body [.ExceptHandler (some (.Name y np)) (some n) (b₀ :: suite) pos'] [] [] pos) (qTryAs f y i tb ts) := by
  rw [← qTryM_one]
  exact qs_tryM hs hf hN hfl (fun x y b h => (tab x y b h).x) hb (.named hg (let ⟨x, h⟩ := hy; ⟨x, true, h⟩) hi hln hsu .nil hdb hnn)
end
structure FnK0 (P : Program) (w : World) (K : PySem.W.Frag) (mg : Str → Option Value) (base : Heap) (k : Nat) (f : Addr) (fd : FuncData) (ps : List Str) (sp : Sp) : Prop where
  len : ∀ vs H Q E, sp vs H Q E → vs.length = ps.length
  run : ∀ (A : Around) (outer : List Env) (s : Shared) (H : Hp) (args : Args) (us : List Value) (vs : List V) (Q : VK) (E : XK), L2H.RoomH k A → Env0 P w K mg base A outer s H → BindsTo s fd args (ps.zip us) → Vals vs us → sp vs H Q E →
    codeAny (model P w) A (.call (.ref f) args) (CR CX0 outer P w H s Q E) s
section
variable {P : Program} {w : World} {K : PySem.W.Frag} {mg : Str → Option Value} {base : Heap}
theorem okK0 {x qual : Str} {st : Stmt} {f : Addr} {fd : FuncData} {N ps : List Str} {k : Nat} (F : Fn K x qual st f fd) (S : FnScope N ps (defScope st)) {fs : Spec0} (len : ∀ ds R, fs ds R → ds.length = ps.length)
    (body : ∃ t : PSx Unit, (∀ (cdv : Value) (A : Around) (outer : List Env) (s : Shared) (H : Hp) (E : XK) (p : Addr × Obj), L2H.RoomH k (A.deeper (envOfC qual (defScope st) s.heap.objs.size f cdv)) →
      QSs (cxK P w K mg base N qual (defScope st) f cdv A outer s H E p) (none0 K) (defBody st) t) ∧ ∀ ds R, fs ds R → t { nx := fun _ => R .non, rt := fun d _ => R d } ⟨startL N.length ds, ()⟩) : FnK0 P w K mg base (k + 1) f fd ps (spP K fs) := by
  obtain ⟨oc, od, dV, kV, doc, pm, an, cdv, ct, osl, rfl, lk, hcd, _, _⟩ := F.ex
  obtain ⟨t, hb, hp⟩ := body
  have ln : ∀ vs H Q E, spP K fs vs H Q E → vs.length = ps.length := fun vs H Q E h => by
    obtain ⟨Z, ds, R, _, a, h, _⟩ := h
    rw [a.len]; exact len _ _ h
  refine ⟨ln, fun A outer s H args us vs Q E hr e0 hbi r hsp => ?_⟩
  have KX : K.In s.heap := e0.mod.kin.keeps fun b u z => (e0.bs b u z).1
  have lim : s.heap.NoLimit := e0.mod.nolimit.keeps fun b u z => (e0.bs b u z).1
  have bf : ∃ u, base.get? f = some u := ⟨_, e0.mod.kin _ _ lk⟩
  have nof : f ∉ frs outer := fun hm => by
    obtain ⟨u, z⟩ := bf
    have := (e0.funs.mem hm).1
    rw [z] at this; cases this
  have pin : L2H.PinOk outer H s (f, ⟨oc, od, .func (PySem.W.fnOf x qual (defArgs st) (defBody st) (defScope st) dV kV doc pm an cdv ct), osl⟩) := ⟨KX _ _ lk, let ⟨u, z⟩ := bf; (e0.bs f u z).2, nof, fun v z => Data.noConfusion z⟩
  have kinds : ∀ y ∈ ps.zip us, (defScope st).names.lookup y.1 = some .local ∨ ((defScope st).names.lookup y.1 = some .cell ∧ ((cellsFrom (s.heap.objs.size + 1) (defScope st).names []).lookup y.1).isSome = true) := fun y hy => by
    rcases S.par y.1 (List.of_mem_zip (a := y.1) (b := y.2) hy).1 with z | z
    · exact .inl z
    · exact .inr ⟨z, PySem.W.cellsFrom_some _ _ _ (.inl z)⟩
  refine codeAny_call_function hr.depth (KX _ _ lk) rfl S.co S.gen rfl (PySem.W.codeRec_of KX hcd) (hbi _ _ _ _ ?_)
  refine wpAny_newFunctionEnv_cells S.kind kinds fun env he s1 xx => ?_
  subst he
  refine ⟨lim.keeps xx.toInCall.keep, codeAny_func ?_⟩
  have J0 := L2H.inv_startH (CX := CX0) (E := E) S pin e0 (ln _ _ _ _ hsp) r xx
  have dh := PSs.nox (hb cdv A outer s H E (f, ⟨oc, od, .func (PySem.W.fnOf x qual (defArgs st) (defBody st) (defScope st) dV kV doc pm an cdv ct), osl⟩) (hr.deeper _))
  obtain ⟨Z, ds, R, k, a, h, q⟩ := hsp
  have hl : ps.length ≤ N.length := by have := congrArg List.length S.pre; rw [List.length_take] at this; omega
  have hd := len _ _ h
  let D0 : Ends := { nx := fun _ H' => Q .non H', rt := Q }
  have go : lS (none0 K) t D0 (L2.start N vs) H := by
    have fin : ∀ {d : D} {s' : Pm.S Unit} {Z' : Hp} {σ' : L2.St} {v : V} {H' : Hp}, R d → Same Z Z' → Rel (none0 K) ⟨H, fun b => H b ≠ none ∧ Z b = none, fun b hb => Option.ne_none_iff_exists'.mp hb.1⟩ Z' s' σ' H' → At K Z' d v → Q v H' := fun {d s' Z' σ' v H'} q' k' r' a' =>
      q d Z' v H' q' k' r'.z r'.f (fun b o e n => by
        cases hb : H b with
        | none => rfl
        | some u => have := r'.zb b ⟨by rw [hb]; simp, n⟩; rw [e] at this; cases this) a'
    refine ⟨⟨H, fun b => H b ≠ none ∧ Z b = none, fun b hb => Option.ne_none_iff_exists'.mp hb.1⟩, Z, _, _, ?_, hp ds R h, fun s' Z' σ' H' q' k' r' => fin (d := .non) (v := .non) q' k' r' rfl, fun d s' Z' σ' v H' q' k' r' a' => fin q' k' r' a', fun s' Z' σ' H' q' => q'.elim, fun s' Z' σ' H' q' => q'.elim⟩
    refine ⟨k, Same.refl _, fun b hb => hb.2, ?_, fun i d e => ?_, fun i l e ol => ?_, fun i j l m b n e1 o1 e2 => ?_, trivial, fun b z => False.elim z, fun b z => False.elim z, fun _ _ z => by cases z⟩
    · unfold L2.start startL
      simp only [List.length_append, List.length_map, List.length_replicate, a.len]
    · obtain ⟨d', e', v, h1, h2⟩ := start_at a e
      cases e'
      exact ⟨v, h1, h2⟩
    · obtain ⟨d', e', _⟩ := start_at a e
      subst e'; cases ol
    · obtain ⟨d', e', _⟩ := start_at a e1
      subst e'; cases o1
  refine wpAny_mono (dh.run [] s1 (L2.start N vs) H D0 J0 go) (fun fl s' z => ?_) fun _ _ z => z
  cases fl with
  | brk => exact (let ⟨_, _, _, q1⟩ := z; False.elim q1)
  | cont => exact (let ⟨_, _, _, q1⟩ := z; False.elim q1)
  | next =>
    obtain ⟨_, H', J, q1⟩ := z
    exact ⟨.non, H', J.os, J.bare, J.base, J.hok, rfl, q1⟩
  | ret u =>
    obtain ⟨v, _, H', J, r1, q1⟩ := z
    exact ⟨v, H', J.os, J.bare, J.base, J.hok, r1, q1⟩
end
structure DefK0 (X : Cx) (x : Str) (sp : Sp) : Prop where
  ex : ∃ f fd k p, FnK0 X.prog X.w X.K X.mg X.base k f fd [p] sp ∧ L2H.RoomH k X.A ∧ X.mg x = some (.ref f) ∧ PySem.W.keepIn X.K (.ref f) = true ∧ Binds X.K fd [p] []
def GloK0 (P : Program) (w : World) (K : PySem.W.Frag) (mg : Str → Option Value) (base : Heap) (x : Str) (sp : Sp) (k : Nat) : Prop :=
  ∃ f fd p, FnK0 P w K mg base k f fd [p] sp ∧ mg x = some (.ref f) ∧ PySem.W.keepIn K (.ref f) = true ∧ Binds K fd [p] []
theorem GloK0.at {X : Cx} {x : Str} {sp : Sp} {j k : Nat} (g : GloK0 X.prog X.w X.K X.mg X.base x sp j) (hr : Room k X.A) (h : j ≤ k := by decide) : DefK0 X x sp := by
  obtain ⟨f, fd, p, F, m, kp, b⟩ := g
  exact ⟨f, fd, j, p, F, (L2H.roomH_of hr).mono h, m, kp, b⟩
section
variable {X : Cx} {G : GP γ} {a : Addr} {oe : Obj} {cls : Value} {d : Option Addr} {pn : List (Addr × Obj)} {Z0 : Hp} {x : Xc} {i : Nat} {y n : Str} {f : Spec0} {p p1 pos : Pos}
theorem qe_hot0 (h : HeldW X G.K Z0 x a oe cls d) {xq : List Str} (hq : ∀ z ∈ xq, Exq X.K X.mg z) (D0 : DefK0 X y (spP G.K f)) (hg : Gl (X.suite a ((a, oe) :: pn)) y) (hv : PE (X.suite a ((a, oe) :: pn)) (.Name n p1) (tVar i)) (hG : G.K = X.K := by rfl)
    (hdb : (y == ("__debug__" : Str)) = false := by decide) (hs : starEach [.Name n p1] (X.suite a ((a, oe) :: pn)).env = (false, eval (.Name n p1) (X.suite a ((a, oe) :: pn)).env) :: starEach [] (X.suite a ((a, oe) :: pn)).env := by rfl) (hpl : (backTo pos (starEach [] (X.suite a ((a, oe) :: pn)).env)).any (·.1) = false := by rfl) (hxq : ("InvalidPanel" : Str) ∉ xq := by decide +kernel) :
    QE (X.suite a ((a, oe) :: pn)) (G.lo Z0) (.Call (.Name y p) [.Name n p1] [] pos) (qHot (errH X.K X.mg) xq i x a f) := by
  obtain ⟨fa, fd, k, pp, F, hr, hm, hk, hb⟩ := D0.ex
  by_cases hx : x.c ∈ xq
  case neg => exact ⟨fun pins s σ H Q I ⟨F0, Z, sg, R, r, t, q⟩ => absurd t.2.1 hx⟩
  obtain ⟨C, m1, _⟩ := (hq _ hx).ex
  have ec : cls = .ref C := by exact h.at_.1.own m1
  subst ec
  refine ⟨fun pins s σ H Q I ⟨F0, Z, sg, R, r, ⟨t1, _, t2⟩, q⟩ => ?_⟩
  refine wpAny_Call_Name_kw (ld_glob I hg hm ?_ hdb)
  refine PySem.W.callWith_K (h₀ := X.base) I.ok.mod.kin hk (thn ((pa_cons hv pa_nil hs).run pos pins s σ H (fun vs H1 => vs = [.ref a] ∧ H1 = H) I ?_) fun us s1 hh => ?_) hs hpl
  · obtain ⟨w, e1, e2⟩ := r.loc i _ t1
    have e2 : w = .ref a := e2
    subst e2
    exact ⟨_, e1, rfl, rfl⟩
  obtain ⟨vs, H1, I1, rv, ev, eH⟩ := hh
  subst ev
  subst eH
  refine ⟨I1.kIn, ?_⟩
  obtain rfl : us = [.ref a] := by
    cases rv with
    | cons r1 r2 => cases r2; cases r1; rfl
  have pn1 := I1.pin (a, oe) (List.mem_append_left _ List.mem_cons_self)
  have ho : s1.heap.get? a = some oe := pn1.1
  have hn : H1 a = none := pn1.2.1
  have nF := h.nF
  -- the heap with it
  let H2 : Hp := upd H1 a (hot a oe)
  have k12 : Same H1 H2 := same_upd hn
  have hok2 : HOk X.prog X.w H2 s1.heap := fun b o e => by
    by_cases hba : b = a
    · have e : H2 b = some o := e
      rw [hba, show H2 a = some (hot a oe) from upd_same] at e
      cases e
      rw [hba]
      exact ⟨ho, ho, ⟨_, ho⟩, fun h1 h2 z w => w _ z⟩
    · have e : H1 b = some o := by rw [← show H2 b = H1 b from upd_ne hba]; exact e
      exact (I1.hok b o e).stay (fun c v _ z => z) (fun c z => k12 _ _ z) fun c xs z => k12 _ _ z
  have env : Env0 X.prog X.w X.K X.mg X.base (X.suite a ((a, oe) :: pn)).A X.stack s1 H2 := by
    have e0 := I1.env0
    refine ⟨e0.frames, e0.mod, fun b o z => ⟨(e0.bs b o z).1, ?_⟩, e0.bsz, e0.funs, fun b z => ?_, hok2, e0.bare⟩
    · rw [show H2 b = H1 b from upd_ne fun w => by rw [w, h.nB] at z; cases z]; exact (e0.bs b o z).2
    · rw [show H2 b = H1 b from upd_ne fun w => nF (by rw [← w]; exact z)]; exact e0.frf b z
  -- what it is told
  let Z2 : Hp := upd Z a (hot a oe)
  have za : Z a = none := r.z.free hn
  have z12 : Same Z Z2 := same_upd za
  have zh2 : Same Z2 H2 := fun b o e => by
    by_cases hba : b = a
    · rw [hba] at e ⊢
      rw [show Z2 a = some (hot a oe) from upd_same] at e
      exact upd_same.trans e
    · rw [show Z2 b = Z b from upd_ne hba] at e
      exact (upd_ne hba).trans (r.z _ _ e)
  have at2 : At X.K Z2 (.obj (errH X.K X.mg x.c (match x.f with | none => [] | some (n, v) => [(n, v)]))) (.ref a) := by
    have hxc := hx
    obtain ⟨_, hx⟩ := h.at_
    obtain ⟨zc, zd⟩ := h.z
    cases e : x.f with
    | none =>
      rw [e] at hx
      exact errH_at m1 (.inr ⟨oe, upd_same, zc, h.f, .inl ⟨zd.trans hx, rfl⟩⟩) ⟨rfl, rfl⟩
    | some nv =>
      obtain ⟨n, v⟩ := nv
      rw [e] at hx
      obtain ⟨dd, fs, e1, e2, e3⟩ := hx
      obtain ⟨_, w, rfl, e3⟩ | ⟨z, _⟩ := e3
      case inr => exact absurd (z ▸ hxc) hxq
      refine errH_at (ws := [(n, w)]) m1 (.inr ⟨oe, upd_same, zc, h.f, .inr ⟨dd, zd.trans e1, z12 _ _ (r.fl _ _ e2)⟩⟩) ⟨rfl, w, [], rfl, ?_, rfl⟩
      rw [← hG]
      exact At.mono (r.fl.trans z12) _ _ e3
  have sp0 : spP G.K f [.ref a] H2 (fun v H' => Q v (delZ H' a)) E0 := by
    refine ⟨Z2, [_], _, zh2, ⟨_, _, rfl, by rw [hG]; exact at2, rfl⟩, t2, fun d' Z3 v H3 ⟨hp, hR⟩ k3 zh3 kh3 nw3 a3 => ?_⟩
    have z3 : Z3 a = some (hot a oe) := k3 _ _ upd_same
    have dn : ∀ {b : Addr} {o : HO} {W : Hp}, W b = some o → W a = none → b ≠ a := fun {b o W} e n w => by rw [w, n] at e; cases e
    refine q d' sg (delZ Z3 a) v (delZ H3 a) hR (fun b o e => ?_) (r.ext ⟨fun b o e => ?_, fun b o e => ?_, fun b o e => ?_, fun b o e n => ?_⟩) (At.del z3 d' v hp a3)
    · rw [delZ_ne (dn e za)]; exact k3 _ _ (z12 _ _ e)
    · rw [delZ_ne (dn e hn)]; exact kh3 _ _ (k12 _ _ e)
    · rw [delZ_ne (dn e za)]; exact k3 _ _ (z12 _ _ e)
    · have hba : b ≠ a := fun w => by rw [w, delZ_same] at e; cases e
      rw [delZ_ne hba] at e ⊢
      exact zh3 _ _ e
    · have hba : b ≠ a := fun w => by rw [w, delZ_same] at e; cases e
      rw [delZ_ne hba] at e
      have := nw3 b o e (by rw [show Z2 b = Z b from upd_ne hba]; exact n)
      rwa [show H2 b = H1 b from upd_ne hba] at this
  have bb := hb s1 [.ref a] I1.kIn rfl
  refine wpAny_call (codeAny_mono (F.run (X.suite a ((a, oe) :: pn)).A X.stack s1 H2 ⟨[.ref a], []⟩ [.ref a] [.ref a] _ E0 ⟨hr.dp, hr.un⟩ env bb (.cons rfl .nil) sp0) fun z s' hz => ?_)
  cases z with
  | error er => exact False.elim hz
  | ok fl =>
    cases fl with
    | next => exact False.elim hz
    | brk => exact False.elim hz
    | cont => exact False.elim hz
    | ret u =>
      obtain ⟨v, H3, os, bare, un, hok, rv3, q3⟩ := hz
      have h3a : H3 a = some (hot a oe) := un.frzs a _ _ upd_same
      have ho3 : s'.heap.get? a = some oe := (show ObjOk X.prog X.w H3 s'.heap a (hot a oe) from hok a _ h3a).1
      refine I1.after ⟨v, delZ H3 a, os, bare, Un.hot un hn nF ho ho3, fun b o e => ?_, rv3, q3⟩
      have hba : b ≠ a := fun w => by rw [w, delZ_same] at e; cases e
      rw [delZ_ne hba] at e
      have ne : ∀ {c : Addr} {u : HO}, H3 c = some u → u ≠ hot a oe → delZ H3 a c = some u := fun {c u} e1 e2 => by
        rw [delZ_ne fun w => e2 (by rw [w, h3a] at e1; exact (Option.some.inj e1).symm)]; exact e1
      exact (hok b o e).stay (fun c v _ z => z) (fun c z => ne z (by intro w; cases w)) fun c xs z => ne z (by intro w; cases w)
end
end Pm
set_option Elab.async false
set_option linter.all false
set_option maxRecDepth 100000
set_option maxHeartbeats 0
set_option autoImplicit false
namespace Pm
open PySem PySem.Spec
open PyProof.Rows hiding St
open L2 TL
def t_size_3de8 (r : Addr) : PSx Nat := (qSeq (qAsg (qCallG (nextS r) (qCons (qVar 0) (qCons (qBin addD (qCall (fn2 min2) (qCons (qVar 1) (qCons (qC (.int 3)) qNil))) (qC (.int 1))) qNil))) 2) (qRet (qBin ixD (qSet (qLst (qCons (qVar 2) (qCons (qBin subD (qVar 1) (qVar 2)) (qCons (qCallG (nextS r) (qCons (qVar 0) (qCons (qBin addD (qVar 1) (qC (.int 1))) qNil))) qNil))))) (qCallG (nextS r) (qCons (qVar 0) (qCons (qC (.int 3)) qNil))))))

def sp_size_3de8 (r : Addr) : Spec Nat := fun ds g R => ∃ m : Int, ds = [.obj r, .int m] ∧ 0 ≤ m ∧ m ≤ 10 ^ 50 ∧ g + 2 < drawLine ∧ ∀ v : Int, 0 ≤ v → v ≤ m → R (.int v) (g + 3)
theorem len_size_3de8 (r : Addr) (ds : List D) (g : Nat) (R : D → Nat → Prop) (h : sp_size_3de8 r ds g R) : ds.length = 2 := by
  obtain ⟨m, rfl, _⟩ := h; rfl
theorem p_size_3de8 (r : Addr) (ds : List D) (g : Nat) (R : D → Nat → Prop) (h : sp_size_3de8 r ds g R) : t_size_3de8 r { nx := fun s => R .non s.g, rt := R } ⟨startL 3 ds, g⟩ := by
  obtain ⟨m, rfl, h0, h1, hg, h⟩ := h
  have big : (10 : Int) ^ 50 + 4 ≤ 10 ^ 60 := by decide
  refine ⟨min m 3 + 1, rfl, by omega, by omega, (by show g < drawLine; omega), fun k k0 k1 => ?_⟩
  refine ⟨m + 1, rfl, by omega, by omega, (by show g + 1 < drawLine; omega), fun j j0 j1 => ?_⟩
  refine ⟨(by show 3 ≤ sizeLine; decide), 3, rfl, by decide, by decide, (by show g + 2 < drawLine; omega), fun i i0 i1 => ?_⟩
  have hi : i = 0 ∨ i = 1 ∨ i = 2 := by omega
  rcases hi with rfl | rfl | rfl
  · exact ⟨_, rfl, h k (by omega) (by omega)⟩
  · exact ⟨_, rfl, h (m - k) (by omega) (by omega)⟩
  · exact ⟨_, rfl, h j (by omega) (by omega)⟩

def t_items_cafd (r : Addr) : PSx Nat := (qSeq (qAsg (qBin ixD (qSet (qLst (qCons (qC (.int 2)) (qCons (qC (.int 9)) (qCons (qBin powD (qC (.int 10)) (qC (.int 9))) qNil))))) (qCallG (nextS r) (qCons (qVar 0) (qCons (qC (.int 3)) qNil)))) 2) (qSeq (qAsg (qBin ixD (qSet (qLst (qCons (qC (.int 1)) (qCons (qC (.int 3)) (qCons (qBin powD (qC (.int 10)) (qC (.int 6))) qNil))))) (qCallG (nextS r) (qCons (qVar 0) (qCons (qC (.int 3)) qNil)))) 3) (qSeq (qAsgOwn (qLst qNil) 4) (qSeq (qFor (qRange1 (qCons (qVar 1) qNil)) (.nm 5) (qDrop (qAppend 4 (qTup (qCons (qBin subD (qCallG (sp_size_3de8 r) (qCons (qVar 0) (qCons (qBin mulD (qC (.int 2)) (qVar 2)) qNil))) (qVar 2)) (qCons (qBin addD (qC (.int 1)) (qCallG (sp_size_3de8 r) (qCons (qVar 0) (qCons (qBin subD (qVar 3) (qC (.int 1))) qNil)))) qNil)))))) (qRet (qCall (fn1 tupleD) (qCons (qVar 4) qNil)))))))

def sp_items_cafd (r : Addr) : Spec Nat := fun ds g R => ∃ n : Nat, ds = [.obj r, .int n] ∧ n ≤ 60 ∧ g + 500 < drawLine ∧ ∀ l : List (Int × Int), l.length = n → (∀ q ∈ l, ItOk q) → R (.tup (l.map itD)) (g + 2 + 6 * n)
theorem len_items_cafd (r : Addr) (ds : List D) (g : Nat) (R : D → Nat → Prop) (h : sp_items_cafd r ds g R) : ds.length = 2 := by
  obtain ⟨m, rfl, _⟩ := h; rfl
theorem p_items_cafd (r : Addr) (ds : List D) (g : Nat) (R : D → Nat → Prop) (h : sp_items_cafd r ds g R) : t_items_cafd r { nx := fun s => R .non s.g, rt := R } ⟨startL 6 ds, g⟩ := by
  obtain ⟨n, rfl, hn, hg, h⟩ := h
  have line : (10000000 : Nat) ≤ sizeLine := line_big
  refine ⟨⟨by decide, by decide, by decide⟩, (by show 3 ≤ sizeLine; decide), 3, rfl, by decide, by decide, (by show g < drawLine; omega), fun k k0 k1 => ?_⟩
  obtain ⟨m, e, m0, m1⟩ := pick3 (lo := 2) (hi := 10 ^ 9) (a := 2) (b := 9) (c := 10 ^ (9 : Int).toNat) k0 k1 (by decide) (by decide) (by decide)
  refine ⟨_, e, ?_⟩
  refine ⟨⟨by decide, by decide, by decide⟩, (by show 3 ≤ sizeLine; decide), 3, rfl, by decide, by decide, (by show g + 1 < drawLine; omega), fun k k0 k1 => ?_⟩
  obtain ⟨w, e2, w0, w1⟩ := pick3 (lo := 1) (hi := 10 ^ 6) (a := 1) (b := 3) (c := 10 ^ (6 : Int).toNat) k0 k1 (by decide) (by decide) (by decide)
  refine ⟨_, e2, (by show 0 ≤ sizeLine; omega), ⟨by omega, by omega⟩, ?_⟩
  refine ⟨fun j s => ∃ l : List (Int × Int), l.length = j ∧ (∀ q ∈ l, ItOk q) ∧ s = ⟨[some (.val (.obj r)), some (.val (.int n)), some (.val (.int m)), some (.val (.int w)), some (.own (l.map itD)), none], g + 2 + 6 * j⟩, ⟨_, Wk.refl _, [], rfl, by simp, rfl⟩, ?_, ?_⟩
  · rintro j d s hd ⟨l, hl, hq, rfl⟩
    have hj : j < n := by
      have := (List.getElem?_eq_some_iff.mp hd).1
      simpa using this
    refine ⟨⟨_, rfl⟩, .inl (.inl ⟨by decide, by decide⟩), 2 * m, rfl, by omega, by omega, (by show g + 2 + 6 * j + 2 < drawLine; omega), fun v v0 v1 => ?_⟩
    refine ⟨w - 1, rfl, by omega, by omega, (by show g + 2 + 6 * j + 3 + 2 < drawLine; omega), fun u u0 u1 => ?_⟩
    refine ⟨(by show 2 ≤ sizeLine; omega), l.map itD, rfl, by simp; omega, ?_⟩
    refine ⟨⟨[some (.val (.obj r)), some (.val (.int n)), some (.val (.int m)), some (.val (.int w)), some (.own ((l ++ [(v - m, 1 + u)]).map itD)), none], g + 2 + 6 * j + 3 + 3⟩, ?_, l ++ [(v - m, 1 + u)], by simp [hl], ?_, rfl⟩
    · rw [List.map_append]
      exact Wk.of ⟨.inr rfl, .inr rfl, .inr rfl, .inr rfl, .inr rfl, .inl rfl, trivial⟩
    · intro q hm
      rcases List.mem_append.mp hm with hm | hm
      · exact hq q hm
      · rw [List.mem_singleton] at hm
        subst hm
        exact ⟨by show -(10 ^ 9) ≤ v - m; omega, by show v - m ≤ 10 ^ 9; omega, by show 1 ≤ 1 + u; omega, by show 1 + u ≤ 10 ^ 6; omega⟩
  · rintro s ⟨l, hl, hq, rfl⟩
    have hl' : l.length = n := by simpa using hl
    have e3 : ((List.range (n : Int).toNat).map fun k => D.int (k : Nat)).length = n := by simp
    show R (.tup (l.map itD)) (g + 2 + 6 * _)
    rw [e3]
    exact h l hl' hq

def t_rules_ccf3 (r : Addr) : PSx Nat := (qSeq (qAsgOwn (qLst qNil) 2) (qSeq (qAsg (qCallG (nextS r) (qCons (qVar 0) (qCons (qC (.int 3)) qNil))) 3) (qSeq (qFor (qRange1 (qCons (qBin mulD (qBin ixD (qSet (qLst (qCons (qC (.int 0)) (qCons (qC (.int 1)) (qCons (qC (.int 2)) (qCons (qC (.int 4)) (qCons (qC (.int 7)) (qCons (qC (.int 16)) qNil)))))))) (qCallG (nextS r) (qCons (qVar 0) (qCons (qC (.int 6)) qNil)))) (qCall (fn1 intD) (qCons (qBin gtD (qVar 1) (qC (.int 1))) qNil))) qNil)) (.nm 4) (qSeq (qAsg (qCallG (nextS r) (qCons (qVar 0) (qCons (qVar 1) qNil))) 5) (qSeq (qAsg (qBin modD (qBin addD (qBin addD (qVar 5) (qC (.int 1))) (qCallG (nextS r) (qCons (qVar 0) (qCons (qBin subD (qVar 1) (qC (.int 1))) qNil)))) (qVar 1)) 6) (qDrop (qAppend 2 (qIfE (qB (qBin eqD (qVar 3) (qC (.int 0)))) (qTup (qCons (qVar 5) (qCons (qVar 6) qNil))) (qTup (qCons (qCall (fn2 min2) (qCons (qVar 5) (qCons (qVar 6) qNil))) (qCons (qCall (fn2 max2) (qCons (qVar 5) (qCons (qVar 6) qNil))) qNil))))))))) (qRet (qCall (fn1 tupleD) (qCons (qVar 2) qNil))))))

def sp_rules_ccf3 (r : Addr) : Spec Nat := fun ds g R => ∃ n : Nat, ds = [.obj r, .int n] ∧ 1 ≤ n ∧ n ≤ 60 ∧ g + 500 < drawLine ∧ ∀ (l : List (Int × Int)) (g' : Nat), l.length ≤ 16 → (∀ q ∈ l, RuOk n q) → g ≤ g' → g' ≤ g + 34 → R (.tup (l.map itD)) g'
theorem len_rules_ccf3 (r : Addr) (ds : List D) (g : Nat) (R : D → Nat → Prop) (h : sp_rules_ccf3 r ds g R) : ds.length = 2 := by
  obtain ⟨m, rfl, _⟩ := h; rfl
theorem pick6 {k : Int} (k0 : 0 ≤ k) (k1 : k < 6) : ∃ m : Int, idx [D.int 0, .int 1, .int 2, .int 4, .int 7, .int 16] k = some (.int m) ∧ 0 ≤ m ∧ m ≤ 16 := by
  have hi : k = 0 ∨ k = 1 ∨ k = 2 ∨ k = 3 ∨ k = 4 ∨ k = 5 := by omega
  rcases hi with rfl | rfl | rfl | rfl | rfl | rfl
  · exact ⟨0, rfl, by decide, by decide⟩
  · exact ⟨1, rfl, by decide, by decide⟩
  · exact ⟨2, rfl, by decide, by decide⟩
  · exact ⟨4, rfl, by decide, by decide⟩
  · exact ⟨7, rfl, by decide, by decide⟩
  · exact ⟨16, rfl, by decide, by decide⟩
theorem far_mod {n a b : Int} (a0 : 0 ≤ a) (a1 : a < n) (b0 : 0 ≤ b) (b1 : b < n - 1) : a ≠ (a + 1 + b) % n ∧ 0 ≤ (a + 1 + b) % n ∧ (a + 1 + b) % n < n := by
  have hn : 0 < n := by omega
  refine ⟨?_, Int.emod_nonneg _ (by omega), Int.emod_lt_of_pos _ hn⟩
  by_cases h : a + 1 + b < n
  · rw [Int.emod_eq_of_lt (by omega) h]; omega
  · have e : (a + 1 + b) % n = a + 1 + b - n := by
      rw [← Int.sub_emod_right]
      exact Int.emod_eq_of_lt (by omega) (by omega)
    rw [e]; omega
theorem mm {n : Nat} {a : Int} (z : Int) (a0 : 0 ≤ a) (a1 : a < n) (f2 : 0 ≤ z) (f3 : z < n) (f1 : a ≠ z) : RuOk n (min a z, max a z) :=
  ⟨by show 0 ≤ min a z; omega, by show min a z < n; omega, by show 0 ≤ max a z; omega, by show max a z < n; omega, by show min a z ≠ max a z; omega⟩
theorem p_rules_ccf3 (r : Addr) (ds : List D) (g : Nat) (R : D → Nat → Prop) (h : sp_rules_ccf3 r ds g R) : t_rules_ccf3 r { nx := fun s => R .non s.g, rt := R } ⟨startL 7 ds, g⟩ := by
  obtain ⟨n, rfl, hn0, hn, hg, h⟩ := h
  have line : (10000000 : Nat) ≤ sizeLine := line_big
  refine ⟨(by show 0 ≤ sizeLine; omega), 3, rfl, by decide, by decide, (by show g < drawLine; omega), fun way w0 w1 => ?_⟩
  refine ⟨(by show 6 ≤ sizeLine; omega), 6, rfl, by decide, by decide, (by show g + 1 < drawLine; omega), fun k k0 k1 => ?_⟩
  obtain ⟨m, e, m0, m1⟩ := pick6 k0 k1
  refine ⟨_, e, .inl (.inr ⟨by split <;> decide, by split <;> decide⟩), ?_⟩
  generalize hc : m * (if decide ((1 : Int) < n) = true then 1 else 0) = c
  have c0 : 0 ≤ c ∧ c ≤ 16 ∧ (0 < c → 1 < n) := by
    by_cases h1 : (1 : Int) < n
    · rw [decide_eq_true h1] at hc; simp at hc; omega
    · rw [decide_eq_false h1] at hc; simp at hc; omega
  refine ⟨⟨by omega, by omega⟩, ?_⟩
  refine ⟨fun j s => ∃ l : List (Int × Int), l.length = j ∧ (∀ q ∈ l, RuOk n q) ∧ s = ⟨[some (.val (.obj r)), some (.val (.int n)), some (.own (l.map itD)), some (.val (.int way)), none, none, none], g + 2 + 2 * j⟩, ⟨_, Wk.refl _, [], rfl, by simp, rfl⟩, ?_, ?_⟩
  · rintro j d s hd ⟨l, hl, hq, rfl⟩
    have hj : j < c.toNat := by
      have := (List.getElem?_eq_some_iff.mp hd).1
      simpa using this
    have n1 : 1 < n := c0.2.2 (by omega)
    refine ⟨n, rfl, by omega, by omega, (by show g + 2 + 2 * j < drawLine; omega), fun a a0 a1 => ?_⟩
    refine ⟨(n : Int) - 1, rfl, by omega, by omega, (by show g + 2 + 2 * j + 1 < drawLine; omega), fun b b0 b1 => ?_⟩
    refine ⟨by omega, ⟨_, rfl⟩, ⟨rfl, rfl, Nat.zero_le 64, Nat.zero_le 64⟩, ?_⟩
    obtain ⟨f1, f2, f3⟩ := far_mod a0 a1 b0 b1
    have fin : ∀ q : Int × Int, RuOk n q → ∃ s'' : S Nat, Wk (⟨[some (.val (.obj r)), some (.val (.int n)), some (.own (l.map itD ++ [itD q])), some (.val (.int way)), some (.val d), some (.val (.int a)), some (.val (.int ((a + 1 + b) % (n : Int))))], g + 2 + 2 * j + 1 + 1⟩ : S Nat) s'' ∧ ∃ l : List (Int × Int), l.length = j + 1 ∧ (∀ q ∈ l, RuOk n q) ∧ s'' = ⟨[some (.val (.obj r)), some (.val (.int n)), some (.own (l.map itD)), some (.val (.int way)), none, none, none], g + 2 + 2 * (j + 1)⟩ := fun q hk => by
      refine ⟨⟨[some (.val (.obj r)), some (.val (.int n)), some (.own ((l ++ [q]).map itD)), some (.val (.int way)), none, none, none], g + 2 + 2 * j + 1 + 1⟩, ?_, l ++ [q], by simp [hl], ?_, rfl⟩
      · rw [List.map_append]
        exact Wk.of ⟨.inr rfl, .inr rfl, .inr rfl, .inr rfl, .inl rfl, .inl rfl, .inl rfl, trivial⟩
      · intro p hm
        rcases List.mem_append.mp hm with hm | hm
        · exact hq p hm
        · rw [List.mem_singleton] at hm
          rw [hm]; exact hk
    refine ⟨fun _ => ?_, fun _ => ?_⟩
    · exact ⟨(by show 2 ≤ sizeLine; omega), l.map itD, rfl, by simp; omega, fin (a, (a + 1 + b) % (n : Int)) ⟨a0, a1, f2, f3, f1⟩⟩
    · exact ⟨(by show 2 ≤ sizeLine; omega), l.map itD, rfl, by simp; omega, fin (min a ((a + 1 + b) % (n : Int)), max a ((a + 1 + b) % (n : Int))) (mm _ a0 a1 f2 f3 f1)⟩
  · rintro s ⟨l, hl, hq, rfl⟩
    have hl' : l.length = c.toNat := by simpa using hl
    have e3 : ((List.range c.toNat).map fun k => D.int (k : Nat)).length = c.toNat := by simp
    show R (.tup (l.map itD)) (g + 2 + 2 * _)
    rw [e3]
    exact h l _ (by omega) hq (by omega) (by omega)

def t_panel_3836 (r : Addr) : PSx Nat := (qSeq (qAsg (qBin addD (qC (.int 1)) (qCallG (nextS r) (qCons (qVar 0) (qCons (qVar 1) qNil)))) 2) (qRet (qTup (qCons (qCallG (sp_items_cafd r) (qCons (qVar 0) (qCons (qVar 2) qNil))) (qCons (qCallG (sp_rules_ccf3 r) (qCons (qVar 0) (qCons (qVar 2) qNil))) qNil)))))

def sp_panel_3836 (r : Addr) : Spec Nat := fun ds g R => ∃ n : Nat, ds = [.obj r, .int n] ∧ 1 ≤ n ∧ n ≤ 60 ∧ g + 1000 < drawLine ∧ ∀ (p : Pan) (g' : Nat), PanOk n p → g ≤ g' → g' ≤ g + 400 → R (panD p) g'
theorem len_panel_3836 (r : Addr) (ds : List D) (g : Nat) (R : D → Nat → Prop) (h : sp_panel_3836 r ds g R) : ds.length = 2 := by
  obtain ⟨m, rfl, _⟩ := h; rfl
theorem p_panel_3836 (r : Addr) (ds : List D) (g : Nat) (R : D → Nat → Prop) (h : sp_panel_3836 r ds g R) : t_panel_3836 r { nx := fun s => R .non s.g, rt := R } ⟨startL 3 ds, g⟩ := by
  obtain ⟨n, rfl, hn0, hn, hg, h⟩ := h
  refine ⟨n, rfl, by omega, by omega, (by show g < drawLine; omega), fun k k0 k1 => ?_⟩
  have e : (1 : Int) + k = ((1 + k.toNat : Nat) : Int) := by omega
  refine ⟨1 + k.toNat, ?_, by omega, (by show g + 1 + 500 < drawLine; omega), fun its h1 h2 => ?_⟩
  · rw [← e]
  refine ⟨1 + k.toNat, ?_, by omega, by omega, (by show g + 1 + 2 + 6 * (1 + k.toNat) + 500 < drawLine; omega), fun rus g' h3 h4 h5 h6 => ?_⟩
  · rw [← e]
  have h5' : g + 1 + 2 + 6 * (1 + k.toNat) ≤ g' := h5
  have h6' : g' ≤ g + 1 + 2 + 6 * (1 + k.toNat) + 34 := h6
  exact ⟨(by show 2 ≤ sizeLine; decide), h ⟨its, rus⟩ g' ⟨by show 1 ≤ its.length; omega, by show its.length ≤ n; omega, h2, h3, by show ∀ q ∈ rus, RuOk its.length q; rw [h1]; exact h4⟩ (by omega) (by omega)⟩

def t_equal_17a7 (s : Spec0) : PSx Unit := (qSeq (qIf (qAnd (qB (qIsi "tuple" (qVar 0))) (qB (qIsi "tuple" (qVar 1)))) (qRet (qAndV (qBin eqD (qCall (fn1 lenD) (qCons (qVar 0) qNil)) (qCall (fn1 lenD) (qCons (qVar 1) qNil))) (qCall (fn1 allD) (qCons (qSet (qLc (qZip (qCons (qVar 0) (qCons (qVar 1) qNil))) (.tp [(.nm 2), (.nm 3)]) [2, 3] qYes (qCallP s (qCons (qVar 2) (qCons (qVar 3) qNil))))) qNil)))) qNext) (qSeq (qIf (qOr (qB (qIsi "bool" (qVar 0))) (qB (qIsi "bool" (qVar 1)))) (qRet (qAndV (qIsi "bool" (qVar 0)) (qAndV (qIsi "bool" (qVar 1)) (qBin eqZD (qVar 0) (qVar 1))))) qNext) (qSeq (qIf (qB (qBin neD (qIsi "tuple" (qVar 0)) (qIsi "tuple" (qVar 1)))) (qRet (qC (.bl false))) qNext) (qSeq (qIf (qB (qBin neD (qIsi "int" (qVar 0)) (qIsi "int" (qVar 1)))) (qRet (qC (.bl false))) qNext) (qRet (qAndV (qBin eqD (qIsi "str" (qVar 0)) (qIsi "str" (qVar 1))) (qBin eqZD (qVar 0) (qVar 1))))))))

def sp_equal_17a7 (n : Nat) : Spec0 := fun ds R => ∃ d : D, ds = [d, d] ∧ d.eqz = true ∧ d.dep < n ∧ n ≤ 60 ∧ d.wid ≤ 10000000 ∧ R (.bl true)
theorem len_equal_17a7 (n : Nat) (ds : List D) (R : DK) (h : sp_equal_17a7 n ds R) : ds.length = 2 := by
  obtain ⟨a, rfl, _⟩ := h; rfl
theorem z_equal_17a7 (ds : List D) (R : DK) (h : sp_equal_17a7 0 ds R) : False := by
  obtain ⟨a, rfl, _, h, _⟩ := h; omega
theorem p_equal_17a7 (n : Nat) (ds : List D) (R : DK) (h : sp_equal_17a7 (n + 1) ds R) : t_equal_17a7 (sp_equal_17a7 n) { nx := fun _ => R .non, rt := fun d _ => R d } ⟨startL 4 ds, ()⟩ := by
  obtain ⟨d, rfl, hp, hd, hn, hw, h⟩ := h
  have ho := eqz_obj hp
  have tt := isTy_tup d
  have tb := isTy_bl d
  have line := line_big
  by_cases ht : isTy "tuple" d = true
  · cases d <;> simp only [ht] at tt <;> try cases tt
    rename_i xs
    refine ⟨ho, ⟨fun _ => ⟨ho, ⟨fun _ => ?_, fun hc => absurd (hc.symm.trans ht) (by decide)⟩⟩, fun hc => absurd (hc.symm.trans ht) (by decide)⟩⟩
    refine ⟨⟨rfl, rfl, Nat.zero_le 64, Nat.zero_le 64⟩, ⟨fun _ => ?_, fun hc => (eq_no (d := .int xs.length) rfl hc).elim⟩⟩
    have hps : D.eqzs xs = true := hp
    simp only [D.dep] at hd
    simp only [D.wid] at hw
    have hl := D.wids_len xs
    have zl : (zipD xs xs).length = xs.length := by rw [zipD_len]; omega
    refine ⟨fun i acc s => i ≤ xs.length ∧ acc = List.replicate i (.bl true) ∧ s = ⟨[some (.val (.tup xs)), some (.val (.tup xs)), none, none], ()⟩, ⟨⟨[some (.val (.tup xs)), some (.val (.tup xs)), none, none], ()⟩, Wk.of ⟨.inr rfl, .inr rfl, .inl rfl, .inl rfl, trivial⟩, Nat.zero_le _, rfl, rfl⟩, ?_, ?_⟩
    · rintro i e acc s hi ⟨hle, rfl, rfl⟩
      have il : i < xs.length := by have := (List.getElem?_eq_some_iff.mp hi).1; omega
      obtain ⟨x, hx1, hx2, rfl⟩ := zip_self hi
      refine ⟨fun _ => ?_, fun hc => (by cases hc)⟩
      have dx := D.deps_mem hx2
      have wx := D.wids_mem hx2
      refine ⟨x, rfl, eqzs_mem hps x hx2, by omega, by omega, by omega, by simp; omega, ⟨[some (.val (.tup xs)), some (.val (.tup xs)), none, none], ()⟩, Wk.of ⟨.inr rfl, .inr rfl, .inl rfl, .inl rfl, trivial⟩, by omega, ?_, rfl⟩
      rw [List.replicate_succ']
    · rintro acc s ⟨_, rfl, rfl⟩
      refine ⟨_, bls_trues _, ?_⟩
      rw [all_trues]; exact h
  · have ht0 : isTy "tuple" d = false := by simpa using ht
    refine ⟨ho, ⟨fun hc => absurd hc ht, fun _ => ⟨fun hc => (by cases hc), fun _ => ?_⟩⟩⟩
    have e64 : d.dep ≤ 64 := by omega
    refine ⟨ho, ⟨fun hb => ?_, fun hb => ⟨ho, ⟨fun hc => absurd (hc.symm.trans hb) (by decide), fun _ => ?_⟩⟩⟩⟩
    · refine ⟨fun _ => ?_, fun hc => (by cases hc)⟩
      refine ⟨ho, ⟨fun _ => ⟨ho, ⟨fun _ => eqz_leaf hp e64 ht0 ?_, fun hc => absurd (hc.symm.trans hb) (by decide)⟩⟩, fun hc => absurd (hc.symm.trans hb) (by decide)⟩⟩
      exact h
    · refine ⟨ho, ho, ⟨rfl, rfl, Nat.zero_le 64, Nat.zero_le 64⟩, ⟨fun hc => (bl_ne hc rfl).elim, fun _ => ?_⟩⟩
      refine ⟨ho, ho, ⟨rfl, rfl, Nat.zero_le 64, Nat.zero_le 64⟩, ⟨fun hc => (bl_ne hc rfl).elim, fun _ => ?_⟩⟩
      refine ⟨ho, ho, ⟨rfl, rfl, Nat.zero_le 64, Nat.zero_le 64⟩, ⟨fun _ => eqz_leaf hp e64 ht0 ?_, fun hc => (eq_no (d := .bl _) rfl hc).elim⟩⟩
      exact h

def t_class_4baa (E : EF) : PSx Unit := (qSeq (qAsg (qSet (qLst (qCons (qIsC E (lookT [("BatchFailed", "Busy", false), ("Busy", "Busy", true), ("Full", "Busy", false), ("InvalidMark", "Busy", false), ("InvalidWeight", "Busy", false), ("LastItem", "Busy", false), ("NoSuchItem", "Busy", false), ("NoSuchRule", "Busy", false), ("NoSuchStep", "Busy", false), ("NothingToUndo", "Busy", false), ("TooManyActions", "Busy", false)]) ["BatchFailed", "Busy", "Full", "InvalidMark", "InvalidWeight", "LastItem", "NoSuchItem", "NoSuchRule", "NoSuchStep", "NothingToUndo", "TooManyActions"] ["Busy"] (qVar 0)) (qCons (qIsC E (lookT [("BatchFailed", "TooManyActions", false), ("Busy", "TooManyActions", false), ("Full", "TooManyActions", false), ("InvalidMark", "TooManyActions", false), ("InvalidWeight", "TooManyActions", false), ("LastItem", "TooManyActions", false), ("NoSuchItem", "TooManyActions", false), ("NoSuchRule", "TooManyActions", false), ("NoSuchStep", "TooManyActions", false), ("NothingToUndo", "TooManyActions", false), ("TooManyActions", "TooManyActions", true)]) ["BatchFailed", "Busy", "Full", "InvalidMark", "InvalidWeight", "LastItem", "NoSuchItem", "NoSuchRule", "NoSuchStep", "NothingToUndo", "TooManyActions"] ["TooManyActions"] (qVar 0)) (qCons (qIsC E (lookT [("BatchFailed", "NothingToUndo", false), ("Busy", "NothingToUndo", false), ("Full", "NothingToUndo", false), ("InvalidMark", "NothingToUndo", false), ("InvalidWeight", "NothingToUndo", false), ("LastItem", "NothingToUndo", false), ("NoSuchItem", "NothingToUndo", false), ("NoSuchRule", "NothingToUndo", false), ("NoSuchStep", "NothingToUndo", false), ("NothingToUndo", "NothingToUndo", true), ("TooManyActions", "NothingToUndo", false)]) ["BatchFailed", "Busy", "Full", "InvalidMark", "InvalidWeight", "LastItem", "NoSuchItem", "NoSuchRule", "NoSuchStep", "NothingToUndo", "TooManyActions"] ["NothingToUndo"] (qVar 0)) qNil))))) 1) (qSeq (qAsg (qBin addD (qVar 1) (qSet (qLst (qCons (qIsC E (lookT [("BatchFailed", "InvalidBatch", false), ("Busy", "InvalidBatch", false), ("Full", "InvalidBatch", false), ("InvalidMark", "InvalidBatch", false), ("InvalidWeight", "InvalidBatch", false), ("LastItem", "InvalidBatch", false), ("NoSuchItem", "InvalidBatch", false), ("NoSuchRule", "InvalidBatch", false), ("NoSuchStep", "InvalidBatch", false), ("NothingToUndo", "InvalidBatch", false), ("TooManyActions", "InvalidBatch", false)]) ["BatchFailed", "Busy", "Full", "InvalidMark", "InvalidWeight", "LastItem", "NoSuchItem", "NoSuchRule", "NoSuchStep", "NothingToUndo", "TooManyActions"] ["InvalidBatch"] (qVar 0)) (qCons (qIsC E (lookT [("BatchFailed", "BatchFailed", true), ("Busy", "BatchFailed", false), ("Full", "BatchFailed", false), ("InvalidMark", "BatchFailed", false), ("InvalidWeight", "BatchFailed", false), ("LastItem", "BatchFailed", false), ("NoSuchItem", "BatchFailed", false), ("NoSuchRule", "BatchFailed", false), ("NoSuchStep", "BatchFailed", false), ("NothingToUndo", "BatchFailed", false), ("TooManyActions", "BatchFailed", false)]) ["BatchFailed", "Busy", "Full", "InvalidMark", "InvalidWeight", "LastItem", "NoSuchItem", "NoSuchRule", "NoSuchStep", "NothingToUndo", "TooManyActions"] ["BatchFailed"] (qVar 0)) (qCons (qIsC E (lookT [("BatchFailed", "NoSuchStep", false), ("Busy", "NoSuchStep", false), ("Full", "NoSuchStep", false), ("InvalidMark", "NoSuchStep", false), ("InvalidWeight", "NoSuchStep", false), ("LastItem", "NoSuchStep", false), ("NoSuchItem", "NoSuchStep", false), ("NoSuchRule", "NoSuchStep", false), ("NoSuchStep", "NoSuchStep", true), ("NothingToUndo", "NoSuchStep", false), ("TooManyActions", "NoSuchStep", false)]) ["BatchFailed", "Busy", "Full", "InvalidMark", "InvalidWeight", "LastItem", "NoSuchItem", "NoSuchRule", "NoSuchStep", "NothingToUndo", "TooManyActions"] ["NoSuchStep"] (qVar 0)) qNil)))))) 1) (qSeq (qIf (qOr (qB (qBin neD (qCntB (qVar 1) (qC (.bl true))) (qC (.int 1)))) (qB (qBin neD (qIsC E (lookT [("BatchFailed", "LookupError", false), ("Busy", "LookupError", false), ("Full", "LookupError", false), ("InvalidMark", "LookupError", false), ("InvalidWeight", "LookupError", false), ("LastItem", "LookupError", false), ("NoSuchItem", "LookupError", true), ("NoSuchRule", "LookupError", true), ("NoSuchStep", "LookupError", true), ("NothingToUndo", "LookupError", false), ("TooManyActions", "LookupError", false)]) ["BatchFailed", "Busy", "Full", "InvalidMark", "InvalidWeight", "LastItem", "NoSuchItem", "NoSuchRule", "NoSuchStep", "NothingToUndo", "TooManyActions"] ["LookupError"] (qVar 0)) (qBin ixD (qVar 1) (qC (.int 5)))))) (qRet (qC (.str "other"))) qNext) (qSeq (qIf (qB (qBin eqD (qIsC E (lookT [("BatchFailed", "MarksError", true), ("Busy", "MarksError", true), ("Full", "MarksError", true), ("InvalidMark", "MarksError", true), ("InvalidWeight", "MarksError", true), ("LastItem", "MarksError", true), ("NoSuchItem", "MarksError", false), ("NoSuchRule", "MarksError", false), ("NoSuchStep", "MarksError", false), ("NothingToUndo", "MarksError", true), ("TooManyActions", "MarksError", true)]) ["BatchFailed", "Busy", "Full", "InvalidMark", "InvalidWeight", "LastItem", "NoSuchItem", "NoSuchRule", "NoSuchStep", "NothingToUndo", "TooManyActions"] ["MarksError"] (qVar 0)) (qBin ixD (qVar 1) (qC (.int 5))))) (qRet (qC (.str "other"))) qNext) (qSeq (qAsg (qSet (qLst (qCons (qC (.str "Busy")) (qCons (qC (.str "TooManyActions")) (qCons (qC (.str "NothingToUndo")) (qCons (qC (.str "InvalidBatch")) (qCons (qC (.str "BatchFailed")) (qCons (qC (.str "NoSuchStep")) qNil)))))))) 2) (qRet (qBin ixD (qVar 2) (qIndexB (qVar 1) (qC (.bl true))))))))))

def clsB : List Str := ["Busy", "TooManyActions", "NothingToUndo", "BatchFailed", "NoSuchStep"]
def sp_class_4baa (E : EF) : Spec0 := fun ds R => ∃ (x : Str) (fs : List (Str × D)), x ∈ clsB ∧ ds = [.obj (E x fs)] ∧ R (.str x)
theorem len_class_4baa (E : EF) (ds : List D) (R : DK) (h : sp_class_4baa E ds R) : ds.length = 1 := by
  obtain ⟨x, fs, _, rfl, _⟩ := h; rfl
theorem p_class_4baa (E : EF) (ds : List D) (R : DK) (h : sp_class_4baa E ds R) : t_class_4baa E { nx := fun _ => R .non, rt := fun d _ => R d } ⟨startL 3 ds, ()⟩ := by
  obtain ⟨x, fs, hx, rfl, h⟩ := h
  have line : (10000000 : Nat) ≤ sizeLine := line_big
  have s1 : ∀ n : Nat, n ≤ 100 → n ≤ sizeLine := fun n hn => by omega
  refine ⟨x, fs, (x == "Busy"), rfl, (by decide +kernel : ∀ x ∈ clsB, x ∈ _) x hx, (by decide +kernel : ∀ x ∈ clsB, isAny (lookT _) x [_] = some (x == "Busy")) x hx, s1 1 (by decide), ?_⟩
  refine ⟨x, fs, (x == "TooManyActions"), rfl, (by decide +kernel : ∀ x ∈ clsB, x ∈ _) x hx, (by decide +kernel : ∀ x ∈ clsB, isAny (lookT _) x [_] = some (x == "TooManyActions")) x hx, s1 1 (by decide), ?_⟩
  refine ⟨x, fs, (x == "NothingToUndo"), rfl, (by decide +kernel : ∀ x ∈ clsB, x ∈ _) x hx, (by decide +kernel : ∀ x ∈ clsB, isAny (lookT _) x [_] = some (x == "NothingToUndo")) x hx, s1 1 (by decide), ?_⟩
  refine ⟨s1 3 (by decide), ?_⟩
  refine ⟨x, fs, (x == "InvalidBatch"), rfl, (by decide +kernel : ∀ x ∈ clsB, x ∈ _) x hx, (by decide +kernel : ∀ x ∈ clsB, isAny (lookT _) x [_] = some (x == "InvalidBatch")) x hx, s1 1 (by decide), ?_⟩
  refine ⟨x, fs, (x == "BatchFailed"), rfl, (by decide +kernel : ∀ x ∈ clsB, x ∈ _) x hx, (by decide +kernel : ∀ x ∈ clsB, isAny (lookT _) x [_] = some (x == "BatchFailed")) x hx, s1 1 (by decide), ?_⟩
  refine ⟨x, fs, (x == "NoSuchStep"), rfl, (by decide +kernel : ∀ x ∈ clsB, x ∈ _) x hx, (by decide +kernel : ∀ x ∈ clsB, isAny (lookT _) x [_] = some (x == "NoSuchStep")) x hx, s1 1 (by decide), ?_⟩
  refine ⟨s1 3 (by decide), s1 6 (by decide), ?_⟩
  have c1 : [x == "Busy", x == "TooManyActions", x == "NothingToUndo", x == "InvalidBatch", x == "BatchFailed", x == "NoSuchStep"].count true = 1 := (by decide +kernel : ∀ x ∈ clsB, [x == "Busy", x == "TooManyActions", x == "NothingToUndo", x == "InvalidBatch", x == "BatchFailed", x == "NoSuchStep"].count true = 1) x hx
  refine ⟨[x == "Busy", x == "TooManyActions", x == "NothingToUndo", x == "InvalidBatch", x == "BatchFailed", x == "NoSuchStep"], rfl, true, rfl, ?_⟩
  rw [c1]
  refine ⟨⟨rfl, rfl, by decide, by decide⟩, brF rfl ?_⟩
  refine ⟨x, fs, (x == "NoSuchStep"), rfl, (by decide +kernel : ∀ x ∈ clsB, x ∈ _) x hx, (by decide +kernel : ∀ x ∈ clsB, isAny (lookT _) x [_] = some (x == "NoSuchStep")) x hx, s1 1 (by decide), ?_⟩
  refine ⟨_, rfl, ?_⟩
  refine ⟨⟨rfl, rfl, by simp [D.dep], by simp [D.dep]⟩, brF (by show (!(x == "NoSuchStep") == (x == "NoSuchStep")) = false; cases (x == "NoSuchStep") <;> rfl) ?_⟩
  refine ⟨x, fs, !(x == "NoSuchStep"), rfl, (by decide +kernel : ∀ x ∈ clsB, x ∈ _) x hx, (by decide +kernel : ∀ x ∈ clsB, isAny (lookT _) x [_] = some (!(x == "NoSuchStep"))) x hx, s1 1 (by decide), ?_⟩
  refine ⟨_, rfl, ?_⟩
  refine ⟨⟨rfl, rfl, by simp [D.dep], by simp [D.dep]⟩, brF (by show ((!(x == "NoSuchStep")) == (x == "NoSuchStep")) = false; cases (x == "NoSuchStep") <;> rfl) ?_⟩
  refine ⟨s1 6 (by decide), ?_⟩
  have go : ∃ j : Nat, j < 6 ∧ [x == "Busy", x == "TooManyActions", x == "NothingToUndo", x == "InvalidBatch", x == "BatchFailed", x == "NoSuchStep"][j]? = some true ∧ (∀ m : Nat, m < j → [x == "Busy", x == "TooManyActions", x == "NothingToUndo", x == "InvalidBatch", x == "BatchFailed", x == "NoSuchStep"][m]? ≠ some true) ∧ (["Busy", "TooManyActions", "NothingToUndo", "InvalidBatch", "BatchFailed", "NoSuchStep"] : List Str)[j]? = some x := by
    simp only [clsB, List.mem_cons, List.not_mem_nil, or_false] at hx
    rcases hx with rfl | rfl | rfl | rfl | rfl
    · exact ⟨0, by decide, by decide +kernel, fun m h => by omega, rfl⟩
    · exact ⟨1, by decide, by decide +kernel, (by decide +kernel : ∀ m : Nat, m < 1 → _), rfl⟩
    · exact ⟨2, by decide, by decide +kernel, (by decide +kernel : ∀ m : Nat, m < 2 → _), rfl⟩
    · exact ⟨4, by decide, by decide +kernel, (by decide +kernel : ∀ m : Nat, m < 4 → _), rfl⟩
    · exact ⟨5, by decide, by decide +kernel, (by decide +kernel : ∀ m : Nat, m < 5 → _), rfl⟩
  obtain ⟨j, hj, g1, g2, g3⟩ := go
  refine ⟨[x == "Busy", x == "TooManyActions", x == "NothingToUndo", x == "InvalidBatch", x == "BatchFailed", x == "NoSuchStep"], rfl, true, j, rfl, g1, g2, ?_⟩
  refine ⟨.str x, ?_, h⟩
  have e : ((["Busy", "TooManyActions", "NothingToUndo", "InvalidBatch", "BatchFailed", "NoSuchStep"] : List Str).map D.str)[j]? = some (.str x) := by rw [List.getElem?_map, g3]; rfl
  exact idx_nat e

def t_is_integer_8a5f : PSx Unit := (qRet (qAndV (qIsi "int" (qVar 0)) (qNotV (qIsi "bool" (qVar 0)))))

def sp_is_integer_8a5f : Spec0 := fun ds R => ∃ d : D, ds = [d] ∧ (∀ p, d ≠ .obj p) ∧ R (.bl (isI d))
theorem len_is_integer_8a5f (ds : List D) (R : DK) (h : sp_is_integer_8a5f ds R) : ds.length = 1 := by
  obtain ⟨d, rfl, _⟩ := h; rfl
theorem p_is_integer_8a5f (ds : List D) (R : DK) (h : sp_is_integer_8a5f ds R) : t_is_integer_8a5f { nx := fun _ => R .non, rt := fun d _ => R d } ⟨startL 1 ds, ()⟩ := by
  obtain ⟨d, rfl, ho, h⟩ := h
  refine ⟨ho, ⟨fun hc => ⟨ho, ?_⟩, fun hc => ?_⟩⟩
  · cases d <;> first | exact h | cases hc
  · cases d <;> first | exact h | cases hc

def t_is_within_3133 : PSx Unit := (qRet (qAndV (qCallP (sp_is_integer_8a5f) (qCons (qVar 0) qNil)) (qChain leD leD (qVar 1) (qVar 0) (qVar 2))))

def sp_is_within_3133 : Spec0 := fun ds R => ∃ (d : D) (lo hi : Int), ds = [d, .int lo, .int hi] ∧ (∀ p, d ≠ .obj p) ∧ R (.bl (inI lo hi d))
theorem len_is_within_3133 (ds : List D) (R : DK) (h : sp_is_within_3133 ds R) : ds.length = 3 := by
  obtain ⟨d, _, _, rfl, _⟩ := h; rfl
theorem p_is_within_3133 (ds : List D) (R : DK) (h : sp_is_within_3133 ds R) : t_is_within_3133 { nx := fun _ => R .non, rt := fun d _ => R d } ⟨startL 3 ds, ()⟩ := by
  obtain ⟨d, lo, hi, rfl, ho, h⟩ := h
  refine ⟨d, rfl, ho, ⟨fun hc => ?_, fun hc => ?_⟩⟩
  · cases d with
    | int i =>
      by_cases h1 : lo ≤ i
      · show match D.bl (decide (lo ≤ i)) with | .bl true => _ | .bl false => _ | _ => False
        have e : inI lo hi (.int i) = decide (i ≤ hi) := by simp [inI, h1]
        rw [e] at h
        rw [decide_eq_true h1]; exact h
      · show match D.bl (decide (lo ≤ i)) with | .bl true => _ | .bl false => _ | _ => False
        have e : inI lo hi (.int i) = false := by simp [inI, h1]
        rw [e] at h
        rw [decide_eq_false h1]; exact h
    | _ => cases hc
  · cases d <;> first | exact h | cases hc

def t_Book_state_at_6f16 (CBook : Addr) : PSXx (Unit × List OB) := (xSeq (xIf (qNot (qB (qCallP (sp_is_within_3133) (qCons (qVar 1) (qCons (qC (.int 0)) (qCons (qCall (fn1 lenD) (qCons (qFI CBook "kept" (qVar 0)) qNil)) qNil)))))) (xRaiseF "NoSuchStep" "step" (qVar 1)) (xs0 qNext)) (xs0 (qRet (qBin ixD (qFI CBook "panels" (qVar 0)) (qVar 1)))))

def sp_Book_state_at_6f16 (CBook : Addr) : SpecB := fun ds bs R W => ∃ (b : Bok) (v : D) (bs1 bs2 : List OB), ds = [.obj b.o, v] ∧ b.C = CBook ∧ bs = bs1 ++ b.ob :: bs2 ∧ b.ks.length ≤ 60 ∧ b.ps.length = b.ks.length + 1 ∧ (∀ p, v ≠ .obj p) ∧ (inI 0 (b.ks.length : Nat) v = false → W ⟨"NoSuchStep", some ("step", v)⟩ bs) ∧ ∀ k : Nat, v = natD k → k ≤ b.ks.length → ∀ x, b.ps[k]? = some x → R x bs
theorem len_Book_state_at_6f16 (CBook : Addr) (ds : List D) (bs : List OB) (R : D → List OB → Prop) (W : Xc → List OB → Prop) (h : sp_Book_state_at_6f16 CBook ds bs R W) : ds.length = 2 := by
  obtain ⟨_, _, _, _, rfl, _⟩ := h; rfl
theorem p_Book_state_at_6f16 (CBook : Addr) (ds : List D) (bs : List OB) (R : D → List OB → Prop) (W : Xc → List OB → Prop) (h : sp_Book_state_at_6f16 CBook ds bs R W) : t_Book_state_at_6f16 CBook (fun x s => W x s.g.2) { nx := fun s => R .non s.g.2, rt := fun d g => R d g.2 } ⟨startL 2 ds, ((), bs)⟩ := by
  obtain ⟨b, v, bs1, bs2, rfl, hC, rfl, hk, hp, ho, hw, hr⟩ := h
  refine ⟨bs1, b.ob, bs2, .tup b.ks, rfl, rfl, hC, rfl, v, 0, _, rfl, ho, ?_⟩
  by_cases hi : inI 0 (b.ks.length : Nat) v = true
  · obtain ⟨i, rfl, i0, i1⟩ := inI_int hi
    have ei : i = ((i.toNat : Nat) : Int) := by omega
    have ek : i.toNat ≤ b.ks.length := by omega
    obtain ⟨x, hx⟩ : ∃ x, b.ps[i.toNat]? = some x := ⟨_, List.getElem?_eq_getElem (by omega)⟩
    refine brF (by show (!inI 0 (b.ks.length : Nat) (.int i)) = false; rw [hi]; rfl) ?_
    refine ⟨bs1, b.ob, bs2, .tup b.ps, rfl, rfl, hC, rfl, x, ?_, hr i.toNat (by show D.int i = .int ((i.toNat : Nat) : Int); rw [← ei]) ek x hx⟩
    show idx b.ps i = some x
    rw [ei, idx_nat']; exact hx
  · have hi : inI 0 (b.ks.length : Nat) v = false := by simpa using hi
    exact brT (by show (!inI 0 (b.ks.length : Nat) v) = true; rw [hi]; rfl) (hw hi)

def t_state_at_fc8a (CBook : Addr) (E : EF) : PSXx (Unit × List OB) := (xs0 (qTryAs (lookT [("NoSuchStep", "NoSuchStep", true)]) "NoSuchStep" 2 (xRet (qMethI CBook "state_at" (sp_Book_state_at_6f16 CBook) (qVar 0) (qCons (qVar 1) qNil))) (fun x a => (qRet (qTup (qCons (qHot E ["NoSuchStep"] 2 x a (sp_class_4baa E)) (qCons (qXf "step" [("NoSuchStep", "step")] 2 x a) qNil)))))))

def sp_state_at_fc8a (CBook : Addr) (E : EF) : SpecB := fun ds bs R _ => ∃ (b : Bok) (v : D) (bs1 bs2 : List OB), ds = [.obj b.o, v] ∧ b.C = CBook ∧ bs = bs1 ++ b.ob :: bs2 ∧ b.ks.length ≤ 60 ∧ b.ps.length = b.ks.length + 1 ∧ (∀ p, v ≠ .obj p) ∧
  (inI 0 (b.ks.length : Nat) v = false → R (.tup [.str "NoSuchStep", v]) bs) ∧ ∀ k : Nat, v = natD k → k ≤ b.ks.length → ∀ x, b.ps[k]? = some x → R x bs
theorem len_state_at_fc8a (CBook : Addr) (E : EF) (ds : List D) (bs : List OB) (R : D → List OB → Prop) (W : Xc → List OB → Prop) (h : sp_state_at_fc8a CBook E ds bs R W) : ds.length = 2 := by
  obtain ⟨_, _, _, _, rfl, _⟩ := h; rfl
theorem p_state_at_fc8a (CBook : Addr) (E : EF) (ds : List D) (bs : List OB) (R : D → List OB → Prop) (W : Xc → List OB → Prop) (h : sp_state_at_fc8a CBook E ds bs R W) : t_state_at_fc8a CBook E (fun x s => W x s.g.2) { nx := fun s => R .non s.g.2, rt := fun d g => R d g.2 } ⟨startL 3 ds, ((), bs)⟩ := by
  obtain ⟨b, v, bs1, bs2, rfl, hC, rfl, hk, hp, hv, h1, h2⟩ := h
  have line : (10000000 : Nat) ≤ sizeLine := line_big
  refine ⟨bs1, b.ob, bs2, rfl, rfl, hC, rfl, b, v, bs1, bs2, rfl, hC, rfl, hk, hp, hv, fun e => ?_, fun k ek hl x hx => h2 k ek hl x hx⟩
  refine ⟨rfl, fun ad => ?_⟩
  refine ⟨rfl, List.mem_singleton.mpr rfl, "NoSuchStep", _, by decide +kernel, rfl, by decide +kernel, ?_⟩
  exact ⟨rfl, List.mem_singleton.mpr rfl, v, rfl, (by show 2 ≤ sizeLine; omega), h1 e⟩

def t_states_right_c0ad (CBook : Addr) (E : EF) : PSXx (Unit × List OB) := (xs0 (qSeq (qFor (qEnum (qCons (qVar 1) qNil)) (.tp [(.nm 2), (.nm 3)]) (qIf (qNot (qB (qCallP (sp_equal_17a7 24) (qCons (nx0 (qCallI (sp_state_at_fc8a CBook E) (qCons (qVar 0) (qCons (qVar 2) qNil)))) (qCons (qVar 3) qNil))))) (qRet (qC (.bl false))) qNext)) (qSeq (qFor (qItems (qSet (qLst (qCons (qCall (fn1 lenD) (qCons (qVar 1) qNil)) (qCons (qUn negD (qC (.int 1))) (qCons (qC (.bl true)) (qCons (qC .non) (qCons (qC (.str "0")) (qCons (qTup qNil) (qCons (qSet (qLst qNil)) (qCons (qC (.dct [] [])) (qCons (qBin powD (qC (.int 10)) (qC (.int 20))) (qCons (qC (.bl false)) qNil))))))))))))) (.nm 2) (qIf (qNot (qB (qCallP (sp_equal_17a7 24) (qCons (nx0 (qCallI (sp_state_at_fc8a CBook E) (qCons (qVar 0) (qCons (qVar 2) qNil)))) (qCons (qTup (qCons (qC (.str "NoSuchStep")) (qCons (qVar 2) qNil))) qNil))))) (qRet (qC (.bl false))) qNext)) (qRet (qC (.bl true))))))

def sp_states_right_c0ad (CBook : Addr) (E : EF) : SpecB := fun ds bs R _ => ∃ (b : Bok) (bs1 bs2 : List OB), ds = [.obj b.o, .lst b.ps] ∧ b.C = CBook ∧ bs = bs1 ++ b.ob :: bs2 ∧ b.ks.length ≤ 60 ∧ b.ps.length = b.ks.length + 1 ∧ (∀ x ∈ b.ps, x.eqz = true ∧ x.dep < 24 ∧ x.wid ≤ 10000000) ∧ R (.bl true) bs
theorem len_states_right_c0ad (CBook : Addr) (E : EF) (ds : List D) (bs : List OB) (R : D → List OB → Prop) (W : Xc → List OB → Prop) (h : sp_states_right_c0ad CBook E ds bs R W) : ds.length = 2 := by
  obtain ⟨_, _, _, rfl, _⟩ := h; rfl
theorem p_states_right_c0ad (CBook : Addr) (E : EF) (ds : List D) (bs : List OB) (R : D → List OB → Prop) (W : Xc → List OB → Prop) (h : sp_states_right_c0ad CBook E ds bs R W) : t_states_right_c0ad CBook E (fun x s => W x s.g.2) { nx := fun s => R .non s.g.2, rt := fun d g => R d g.2 } ⟨startL 4 ds, ((), bs)⟩ := by
  obtain ⟨b, bs1, bs2, rfl, hC, rfl, hk, hp, hx, h⟩ := h
  have line : (10000000 : Nat) ≤ sizeLine := line_big
  let St (w2 w3 : Option L) : S (Unit × List OB) := ⟨[some (.val (.obj b.o)), some (.val (.lst b.ps)), w2, w3], ((), bs1 ++ b.ob :: bs2)⟩
  refine ⟨fun i s => ∃ w2 w3, s = St w2 w3, ⟨_, Wk.refl _, none, none, rfl⟩, ?_, ?_⟩
  · rintro i d s hd ⟨w2, w3, rfl⟩
    obtain ⟨x, hx1, rfl⟩ := enum_get hd
    have hm := hx x (List.mem_of_getElem? hx1)
    refine put_tg rfl ?_
    refine ⟨b, .int (i : Int), bs1, bs2, rfl, hC, rfl, hk, hp, (fun p e => by cases e), fun e => ?_, fun k ek hl y hy => ?_⟩
    · exfalso
      have hl := (List.getElem?_eq_some_iff.mp hx1).1
      have e2 : inI 0 ((b.ks.length : Nat) : Int) (.int (i : Int)) = true := by
        show (decide ((0 : Int) ≤ (i : Int)) && decide ((i : Int) ≤ ((b.ks.length : Nat) : Int))) = true
        rw [Bool.and_eq_true, decide_eq_true_eq, decide_eq_true_eq]
        omega
      rw [e2] at e; cases e
    · have e3 : (i : Int) = (k : Int) := D.int.inj ek
      obtain rfl : k = i := by omega
      rw [hx1] at hy
      cases hy
      refine ⟨x, rfl, hm.1, hm.2.1, by decide, hm.2.2, ?_⟩
      exact brF rfl ⟨_, Wk.refl _, _, _, rfl⟩
  · rintro s ⟨w2, w3, rfl⟩
    have z0 : 0 ≤ sizeLine := Nat.zero_le _
    have z10 : 10 ≤ sizeLine := by omega
    let O : List D := [.int ((b.ps.length : Nat) : Int), .int (-1), .bl true, .non, .str "0", .tup [], .lst [], .dct [] [], .int (10 ^ 20), .bl false]
    have hO : ∀ v ∈ O, inI 0 ((b.ks.length : Nat) : Int) v = false ∧ (∀ p, v ≠ .obj p) ∧ v.eqz = true ∧ v.dep < 20 ∧ v.wid ≤ 1000000 := fun v hv => by
      have hl : (b.ps.length : Int) = (b.ks.length : Int) + 1 := by omega
      have hk2 : (b.ks.length : Int) ≤ 60 := by omega
      simp only [O, List.mem_cons, List.not_mem_nil, or_false] at hv
      rcases hv with rfl | rfl | rfl | rfl | rfl | rfl | rfl | rfl | rfl | rfl
      · refine ⟨?_, fun p e => (by cases e), rfl, by simp [D.dep], by simp [D.wid]⟩
        show (decide ((0 : Int) ≤ (b.ps.length : Int)) && decide ((b.ps.length : Int) ≤ ((b.ks.length : Nat) : Int))) = false
        rw [Bool.and_eq_false_iff]
        exact .inr (decide_eq_false (by omega))
      · exact ⟨rfl, fun p e => (by cases e), by decide +kernel, by decide +kernel, by decide +kernel⟩
      · exact ⟨rfl, fun p e => (by cases e), by decide +kernel, by decide +kernel, by decide +kernel⟩
      · exact ⟨rfl, fun p e => (by cases e), by decide +kernel, by decide +kernel, by decide +kernel⟩
      · exact ⟨rfl, fun p e => (by cases e), by decide +kernel, by decide +kernel, by decide +kernel⟩
      · exact ⟨rfl, fun p e => (by cases e), by decide +kernel, by decide +kernel, by decide +kernel⟩
      · exact ⟨rfl, fun p e => (by cases e), by decide +kernel, by decide +kernel, by decide +kernel⟩
      · exact ⟨rfl, fun p e => (by cases e), by decide +kernel, by decide +kernel, by decide +kernel⟩
      · refine ⟨?_, fun p e => (by cases e), by decide +kernel, by decide +kernel, by decide +kernel⟩
        show (decide ((0 : Int) ≤ 10 ^ 20) && decide (((10 : Int) ^ 20) ≤ ((b.ks.length : Nat) : Int))) = false
        rw [Bool.and_eq_false_iff]
        exact .inr (decide_eq_false (by omega))
      · exact ⟨rfl, fun p e => (by cases e), by decide +kernel, by decide +kernel, by decide +kernel⟩
    refine ⟨z0, z0, ⟨by decide, by decide, by decide⟩, z10, ?_⟩
    refine ⟨fun i s => ∃ w2 w3, s = St w2 w3, ⟨_, Wk.refl _, w2, w3, rfl⟩, ?_, ?_⟩
    · rintro i v s hd ⟨w2, w3, rfl⟩
      obtain ⟨o1, o2, o3, o4, o5⟩ := hO v (List.mem_of_getElem? hd)
      refine put_nm ?_
      refine ⟨b, v, bs1, bs2, rfl, hC, rfl, hk, hp, o2, fun e => ?_, fun k ek hl y hy => ?_⟩
      · refine ⟨(by show 2 ≤ sizeLine; omega), ?_⟩
        refine ⟨.tup [.str "NoSuchStep", v], rfl, ?_, ?_, by decide, ?_, ?_⟩
        · show (true && (v.eqz && true)) = true
          rw [o3]; rfl
        · simp only [D.dep, D.deps]; omega
        · have e10 : ("NoSuchStep" : Str).length = 10 := by decide +kernel
          simp only [D.wid, D.wids, e10]; omega
        · exact brF rfl ⟨_, Wk.refl _, _, _, rfl⟩
      · exfalso
        subst ek
        have e2 : inI 0 ((b.ks.length : Nat) : Int) (natD k) = true := by
          show (decide ((0 : Int) ≤ (k : Int)) && decide ((k : Int) ≤ ((b.ks.length : Nat) : Int))) = true
          rw [Bool.and_eq_true, decide_eq_true_eq, decide_eq_true_eq]
          omega
        rw [e2] at o1; cases o1
    · rintro s ⟨w2, w3, rfl⟩
      exact h

def t_Book_need_idle_a04f (CBook : Addr) : PSXx (Unit × List OB) := (xIf (qB (qFI CBook "is_busy" (qVar 0))) (xRaise "Busy") (xs0 qNext))

def sp_Book_need_idle_a04f (CBook : Addr) : SpecB := fun ds bs R W => ∃ (b : Bok) (bs1 bs2 : List OB), ds = [.obj b.o] ∧ b.C = CBook ∧ bs = bs1 ++ b.ob :: bs2 ∧ (b.busy = false → R .non bs) ∧ (b.busy = true → W ⟨"Busy", none⟩ bs)
theorem len_Book_need_idle_a04f (CBook : Addr) (ds : List D) (bs : List OB) (R : D → List OB → Prop) (W : Xc → List OB → Prop) (h : sp_Book_need_idle_a04f CBook ds bs R W) : ds.length = 1 := by
  obtain ⟨_, _, _, rfl, _⟩ := h; rfl
theorem p_Book_need_idle_a04f (CBook : Addr) (ds : List D) (bs : List OB) (R : D → List OB → Prop) (W : Xc → List OB → Prop) (h : sp_Book_need_idle_a04f CBook ds bs R W) : t_Book_need_idle_a04f CBook (fun x s => W x s.g.2) { nx := fun s => R .non s.g.2, rt := fun d g => R d g.2 } ⟨startL 1 ds, ((), bs)⟩ := by
  obtain ⟨b, bs1, bs2, rfl, hC, rfl, h1, h2⟩ := h
  exact ⟨bs1, b.ob, bs2, .bl b.busy, rfl, rfl, hC, rfl, fun q => h2 q, fun q => h1 q⟩

def t_need_item_44a7x : PSXx Unit := (xIf (qNot (qB (qCallP (sp_is_within_3133) (qCons (qVar 1) (qCons (qC (.int 0)) (qCons (qBin subD (qCall (fn1 lenD) (qCons (qBin ixD (qVar 0) (qC (.int 0))) qNil)) (qC (.int 1))) qNil)))))) (xRaiseF "NoSuchItem" "item" (qVar 1)) (xs0 qNext))

def sp_need_item_44a7x : SpecX := fun ds R W => ∃ (p : Pan) (v : D), ds = [panD p, v] ∧ (∀ q, v ≠ .obj q) ∧ (isItm p v = true → R .non) ∧ (isItm p v = false → W (xItem v))
theorem len_need_item_44a7x (ds : List D) (R : DK) (W : Xc → Prop) (h : sp_need_item_44a7x ds R W) : ds.length = 2 := by
  obtain ⟨_, _, rfl, _⟩ := h; rfl
theorem p_need_item_44a7x (ds : List D) (R : DK) (W : Xc → Prop) (h : sp_need_item_44a7x ds R W) : t_need_item_44a7x (fun x _ => W x) { nx := fun _ => R .non, rt := fun d _ => R d } ⟨startL 2 ds, ()⟩ := by
  obtain ⟨p, v, rfl, hv, h1, h2⟩ := h
  refine ⟨_, rfl, v, 0, _, rfl, hv, ?_⟩
  have e : inI 0 (((p.its.map itD).length : Int) - 1) v = isItm p v := by rw [List.length_map]; rfl
  by_cases hi : isItm p v = true
  · exact brF (by show (!inI 0 (((p.its.map itD).length : Int) - 1) v) = false; rw [e, hi]; rfl) (h1 hi)
  · have hi : isItm p v = false := by simpa using hi
    exact brT (by show (!inI 0 (((p.its.map itD).length : Int) - 1) v) = true; rw [e, hi]; rfl) (h2 hi)

def t_is_weight_6941 : PSx Unit := (qRet (qCallP (sp_is_within_3133) (qCons (qVar 0) (qCons (qC (.int 1)) (qCons (qC (.int 1000000)) qNil)))))

def sp_is_weight_6941 : Spec0 := fun ds R => ∃ d : D, ds = [d] ∧ (∀ p, d ≠ .obj p) ∧ R (.bl (inI 1 (10 ^ 6) d))
theorem len_is_weight_6941 (ds : List D) (R : DK) (h : sp_is_weight_6941 ds R) : ds.length = 1 := by
  obtain ⟨d, rfl, _⟩ := h; rfl
theorem p_is_weight_6941 (ds : List D) (R : DK) (h : sp_is_weight_6941 ds R) : t_is_weight_6941 { nx := fun _ => R .non, rt := fun d _ => R d } ⟨startL 1 ds, ()⟩ := by
  obtain ⟨d, rfl, ho, h⟩ := h
  exact ⟨d, 1, 10 ^ 6, rfl, ho, h⟩

def t_need_weight_e9e3x : PSXx Unit := (xIf (qNot (qB (qCallP (sp_is_weight_6941) (qCons (qVar 0) qNil)))) (xRaiseF "InvalidWeight" "weight" (qVar 0)) (xs0 qNext))

def sp_need_weight_e9e3x : SpecX := fun ds R W => ∃ v : D, ds = [v] ∧ (∀ q, v ≠ .obj q) ∧ (isWt v = true → R .non) ∧ (isWt v = false → W (xWeight v))
theorem len_need_weight_e9e3x (ds : List D) (R : DK) (W : Xc → Prop) (h : sp_need_weight_e9e3x ds R W) : ds.length = 1 := by
  obtain ⟨_, rfl, _⟩ := h; rfl
theorem p_need_weight_e9e3x (ds : List D) (R : DK) (W : Xc → Prop) (h : sp_need_weight_e9e3x ds R W) : t_need_weight_e9e3x (fun x _ => W x) { nx := fun _ => R .non, rt := fun d _ => R d } ⟨startL 1 ds, ()⟩ := by
  obtain ⟨v, rfl, hv, h1, h2⟩ := h
  refine ⟨v, rfl, hv, ?_⟩
  have e : inI 1 (10 ^ 6) v = isWt v := rfl
  by_cases hi : isWt v = true
  · exact brF (by show (!inI 1 (10 ^ 6) v) = false; rw [e, hi]; rfl) (h1 hi)
  · have hi : isWt v = false := by simpa using hi
    exact brT (by show (!inI 1 (10 ^ 6) v) = true; rw [e, hi]; rfl) (h2 hi)

def t_with_mark_afe3 : PSx Unit := (qSeq (qAsg (qBin ixD (qVar 0) (qC (.int 0))) 4) (qRet (qTup (qCons (qBin addD (qBin addD (qSl (qVar 4) qNoPart (qPart (qVar 1))) (qTup (qCons (qTup (qCons (qVar 2) (qCons (qVar 3) qNil))) qNil))) (qSl (qVar 4) (qPart (qBin addD (qVar 1) (qC (.int 1)))) qNoPart)) (qCons (qBin ixD (qVar 0) (qC (.int 1))) qNil)))))

def sp_with_mark_afe3 : Spec0 := fun ds R => ∃ (p : Pan) (i : Nat) (m w : Int), ds = [panD p, natD i, .int m, .int w] ∧ i < p.its.length ∧ p.its.length ≤ 1000 ∧ R (panD ⟨p.its.set i (m, w), p.rus⟩)
theorem len_with_mark_afe3 (ds : List D) (R : DK) (h : sp_with_mark_afe3 ds R) : ds.length = 4 := by
  obtain ⟨_, _, _, _, rfl, _⟩ := h; rfl
theorem p_with_mark_afe3 (ds : List D) (R : DK) (h : sp_with_mark_afe3 ds R) : t_with_mark_afe3 { nx := fun _ => R .non, rt := fun d _ => R d } ⟨startL 5 ds, ()⟩ := by
  obtain ⟨p, i, m, w, rfl, hi, hn, h⟩ := h
  have line : (10000000 : Nat) ≤ sizeLine := line_big
  refine seq_mid (M := fun s' => s' = ⟨[some (.val (panD p)), some (.val (natD i)), some (.val (.int m)), some (.val (.int w)), some (.val (.tup (p.its.map itD)))], ()⟩) ?_ ?_
  rotate_left
  · intro N hN
    exact ⟨_, rfl, hN _ rfl⟩
  rintro _ rfl
  have c1 : cut (p.its.map itD) none (some (i : Int)) = (p.its.take i).map itD := by rw [cut_to, List.map_take]
  have c2 : cut (p.its.map itD) (some ((i : Int) + 1)) none = (p.its.drop (i + 1)).map itD := by
    have := cut_from (p.its.map itD) (i + 1)
    rw [List.map_drop]; exact this
  have e : (p.its.set i (m, w)).map itD = cut (p.its.map itD) none (some (i : Int)) ++ [itD (m, w)] ++ cut (p.its.map itD) (some ((i : Int) + 1)) none := by
    rw [c1, c2, List.set_eq_take_append_cons_drop, if_pos hi]; simp
  have l1 : (cut (p.its.map itD) none (some (i : Int))).length ≤ 1000 := by rw [c1, List.length_map]; exact Nat.le_trans (List.length_take_le' _ _) hn
  have l2 : (cut (p.its.map itD) (some ((i : Int) + 1)) none).length ≤ 1000 := by rw [c2, List.length_map, List.length_drop]; omega
  refine ⟨(by show 2 ≤ sizeLine; omega), (by show 1 ≤ sizeLine; omega), (by show (cut (p.its.map itD) none (some (i : Int))).length + 1 ≤ sizeLine; omega), ?_⟩
  refine ⟨?_, _, rfl, (by show 2 ≤ sizeLine; omega), ?_⟩
  · rw [List.length_append]
    show (cut (p.its.map itD) none (some (i : Int))).length + 1 + (cut (p.its.map itD) (some ((i : Int) + 1)) none).length ≤ sizeLine
    omega
  · unfold panD at h
    simp only [e] at h
    exact h

def t_is_mark_f168 : PSx Unit := (qRet (qCallP (sp_is_within_3133) (qCons (qVar 0) (qCons (qBin subD (qC (.int 0)) (qC (.int 1000000000))) (qCons (qC (.int 1000000000)) qNil)))))

def sp_is_mark_f168 : Spec0 := fun ds R => ∃ d : D, ds = [d] ∧ (∀ p, d ≠ .obj p) ∧ R (.bl (inI (-(10 ^ 9)) (10 ^ 9) d))
theorem len_is_mark_f168 (ds : List D) (R : DK) (h : sp_is_mark_f168 ds R) : ds.length = 1 := by
  obtain ⟨d, rfl, _⟩ := h; rfl
theorem p_is_mark_f168 (ds : List D) (R : DK) (h : sp_is_mark_f168 ds R) : t_is_mark_f168 { nx := fun _ => R .non, rt := fun d _ => R d } ⟨startL 1 ds, ()⟩ := by
  obtain ⟨d, rfl, ho, h⟩ := h
  exact ⟨d, -(10 ^ 9), 10 ^ 9, rfl, ho, h⟩

def t_need_mark_99a8x : PSXx Unit := (xIf (qNot (qB (qCallP (sp_is_mark_f168) (qCons (qVar 0) qNil)))) (xRaiseF "InvalidMark" "mark" (qVar 0)) (xs0 qNext))

def sp_need_mark_99a8x : SpecX := fun ds R W => ∃ v : D, ds = [v] ∧ (∀ q, v ≠ .obj q) ∧ (isMk v = true → R .non) ∧ (isMk v = false → W (xMark v))
theorem len_need_mark_99a8x (ds : List D) (R : DK) (W : Xc → Prop) (h : sp_need_mark_99a8x ds R W) : ds.length = 1 := by
  obtain ⟨_, rfl, _⟩ := h; rfl
theorem p_need_mark_99a8x (ds : List D) (R : DK) (W : Xc → Prop) (h : sp_need_mark_99a8x ds R W) : t_need_mark_99a8x (fun x _ => W x) { nx := fun _ => R .non, rt := fun d _ => R d } ⟨startL 1 ds, ()⟩ := by
  obtain ⟨v, rfl, hv, h1, h2⟩ := h
  refine ⟨v, rfl, hv, ?_⟩
  have e : inI (-(10 ^ 9)) (10 ^ 9) v = isMk v := rfl
  by_cases hi : isMk v = true
  · exact brF (by show (!inI (-(10 ^ 9)) (10 ^ 9) v) = false; rw [e, hi]; rfl) (h1 hi)
  · have hi : isMk v = false := by simpa using hi
    exact brT (by show (!inI (-(10 ^ 9)) (10 ^ 9) v) = true; rw [e, hi]; rfl) (h2 hi)

def t_panel_with_item_7316x : PSXx Unit := (xSeq (xDrop (qCallX (sp_need_mark_99a8x) (qCons (qVar 1) qNil))) (xSeq (xDrop (qCallX (sp_need_weight_e9e3x) (qCons (qVar 2) qNil))) (xSeq (xIf (qB (qBin eqD (qCall (fn1 lenD) (qCons (qBin ixD (qVar 0) (qC (.int 0))) qNil)) (qC (.int 8)))) (xRaise "Full") (xs0 qNext)) (xs0 (qRet (qTup (qCons (qBin addD (qBin ixD (qVar 0) (qC (.int 0))) (qTup (qCons (qTup (qCons (qVar 1) (qCons (qVar 2) qNil))) qNil))) (qCons (qBin ixD (qVar 0) (qC (.int 1))) qNil))))))))

def sp_panel_with_item_7316x : SpecX := fun ds R W => ∃ (p : Pan) (m w : D), ds = [panD p, m, w] ∧ PanOk 8 p ∧ (Act.addItem m w).ok ∧ (∀ x, (Act.addItem m w).run p = .error x → W x) ∧ ∀ p', (Act.addItem m w).run p = .ok p' → R (panD p')
theorem len_panel_with_item_7316x (ds : List D) (R : DK) (W : Xc → Prop) (h : sp_panel_with_item_7316x ds R W) : ds.length = 3 := by
  obtain ⟨_, _, _, rfl, _⟩ := h; rfl
theorem p_panel_with_item_7316x (ds : List D) (R : DK) (W : Xc → Prop) (h : sp_panel_with_item_7316x ds R W) : t_panel_with_item_7316x (fun x _ => W x) { nx := fun _ => R .non, rt := fun d _ => R d } ⟨startL 3 ds, ()⟩ := by
  obtain ⟨p, m, w, rfl, hp, ho, hx, hk⟩ := h
  have line : (10000000 : Nat) ≤ sizeLine := line_big
  have top := hp.top
  have hm : ∀ q, m ≠ .obj q := ho m (by simp [Act.args])
  have hw : ∀ q, w ≠ .obj q := ho w (by simp [Act.args])
  have ll : (p.its.map itD).length = p.its.length := List.length_map _
  refine ⟨m, rfl, hm, fun im => ?_, fun im => hx _ (by simp only [Act.run, im]; rfl)⟩
  refine ⟨w, rfl, hw, fun iw => ?_, fun iw => hx _ (by simp only [Act.run, im, iw]; rfl)⟩
  refine ⟨_, rfl, ⟨rfl, rfl, Nat.zero_le _, Nat.zero_le _⟩, ?_⟩
  have ev : D.eqv (.int ((p.its.map itD).length : Nat)) (.int 8) = decide (p.its.length = 8) := by
    rw [ll, eqv_int]; exact decide_eq_decide.mpr (by omega)
  by_cases h8 : p.its.length = 8
  · exact brT (ev.trans (by simpa using h8)) (hx _ (by simp only [Act.run, im, iw, h8]; rfl))
  · refine brF (ev.trans (by simpa using h8)) ?_
    have hk := hk ⟨p.its ++ [(intO m, intO w)], p.rus⟩ (by simp only [Act.run, im, iw, h8]; rfl)
    obtain ⟨em, _⟩ := isMk_int im
    obtain ⟨ew, _⟩ := isWt_int iw
    refine ⟨_, rfl, (by show 2 ≤ sizeLine; omega), (by show 1 ≤ sizeLine; omega), (by show (p.its.map itD).length + 1 ≤ sizeLine; omega), _, rfl, (by show 2 ≤ sizeLine; omega), ?_⟩
    have e : panD ⟨p.its ++ [(intO m, intO w)], p.rus⟩ = .tup [.tup (p.its.map itD ++ [.tup [m, w]]), .tup (p.rus.map itD)] := by
      show D.tup [.tup ((p.its ++ [(intO m, intO w)]).map itD), _] = _
      rw [List.map_append]
      show D.tup [.tup (p.its.map itD ++ [.tup [.int (intO m), .int (intO w)]]), _] = _
      rw [← em, ← ew]
    rw [e] at hk
    exact hk

def t_with_rule_a65e : PSx Unit := (qSeq (qIf (qB (qBin geD (qCall (fn1 lenD) (qCons (qBin ixD (qVar 0) (qC (.int 1))) qNil)) (qC (.int 16)))) qNever qNext) (qRet (qTup (qCons (qBin ixD (qVar 0) (qC (.int 0))) (qCons (qBin addD (qBin ixD (qVar 0) (qC (.int 1))) (qTup (qCons (qTup (qCons (qVar 1) (qCons (qVar 2) qNil))) qNil))) qNil)))))

def sp_with_rule_a65e : Spec0 := fun ds R => ∃ (p : Pan) (a b : Int), ds = [panD p, .int a, .int b] ∧ p.rus.length < 16 ∧ R (panD ⟨p.its, p.rus ++ [(a, b)]⟩)
theorem len_with_rule_a65e (ds : List D) (R : DK) (h : sp_with_rule_a65e ds R) : ds.length = 3 := by
  obtain ⟨_, _, _, rfl, _⟩ := h; rfl
theorem p_with_rule_a65e (ds : List D) (R : DK) (h : sp_with_rule_a65e ds R) : t_with_rule_a65e { nx := fun _ => R .non, rt := fun d _ => R d } ⟨startL 3 ds, ()⟩ := by
  obtain ⟨p, a, b, rfl, hl, h⟩ := h
  have line : (10000000 : Nat) ≤ sizeLine := line_big
  have ml : (p.rus.map itD).length = p.rus.length := by simp
  refine seq_mid (M := fun s => s = ⟨[some (.val (panD p)), some (.val (.int a)), some (.val (.int b))], ()⟩) ?_ ?_; rotate_left
  · intro N hN
    refine ⟨_, rfl, ⟨fun hc => ?_, fun _ => hN _ rfl⟩⟩
    have hc := of_decide_eq_true hc
    rw [ml] at hc; omega
  rintro _ rfl
  have e : (p.rus ++ [(a, b)]).map itD = p.rus.map itD ++ [itD (a, b)] := by simp
  refine ⟨_, rfl, _, rfl, (by show 2 ≤ sizeLine; omega), (by show 1 ≤ sizeLine; omega), (by show (p.rus.map itD).length + 1 ≤ sizeLine; omega), (by show 2 ≤ sizeLine; omega), ?_⟩
  unfold panD at h
  rw [e] at h; exact h

def t_panel_with_rule_8c3dx : PSXx Unit := (xSeq (xDrop (qCallX (sp_need_item_44a7x) (qCons (qVar 0) (qCons (qVar 1) qNil)))) (xSeq (xDrop (qCallX (sp_need_item_44a7x) (qCons (qVar 0) (qCons (qVar 2) qNil)))) (xSeq (xIf (qB (qBin eqD (qVar 1) (qVar 2))) (xRaiseF "NoSuchItem" "item" (qVar 2)) (xs0 qNext)) (xSeq (xIf (qB (qBin eqD (qCall (fn1 lenD) (qCons (qBin ixD (qVar 0) (qC (.int 1))) qNil)) (qC (.int 16)))) (xRaise "Full") (xs0 qNext)) (xs0 (qRet (qCallP (sp_with_rule_a65e) (qCons (qVar 0) (qCons (qVar 1) (qCons (qVar 2) qNil))))))))))

def sp_panel_with_rule_8c3dx : SpecX := fun ds R W => ∃ (p : Pan) (x y : D), ds = [panD p, x, y] ∧ PanOk 8 p ∧ (Act.addRule x y).ok ∧ (∀ e, (Act.addRule x y).run p = .error e → W e) ∧ ∀ p', (Act.addRule x y).run p = .ok p' → R (panD p')
theorem len_panel_with_rule_8c3dx (ds : List D) (R : DK) (W : Xc → Prop) (h : sp_panel_with_rule_8c3dx ds R W) : ds.length = 3 := by
  obtain ⟨_, _, _, rfl, _⟩ := h; rfl
theorem p_panel_with_rule_8c3dx (ds : List D) (R : DK) (W : Xc → Prop) (h : sp_panel_with_rule_8c3dx ds R W) : t_panel_with_rule_8c3dx (fun x _ => W x) { nx := fun _ => R .non, rt := fun d _ => R d } ⟨startL 3 ds, ()⟩ := by
  obtain ⟨p, x, y, rfl, hp, ho, hx, hk⟩ := h
  have line : (10000000 : Nat) ≤ sizeLine := line_big
  have top := hp.top
  have few := hp.few
  have h1 : ∀ q, x ≠ .obj q := ho x (by simp [Act.args])
  have h2 : ∀ q, y ≠ .obj q := ho y (by simp [Act.args])
  have ll : (p.rus.map itD).length = p.rus.length := List.length_map _
  refine ⟨p, x, rfl, h1, fun ix => ?_, fun ix => hx _ (by simp only [Act.run, ix]; rfl)⟩
  refine ⟨p, y, rfl, h2, fun iy => ?_, fun iy => hx _ (by simp only [Act.run, ix, iy]; rfl)⟩
  obtain ⟨i, rfl, _⟩ := itm_int ix
  obtain ⟨j, rfl, _⟩ := itm_int iy
  refine ⟨⟨rfl, rfl, Nat.zero_le _, Nat.zero_le _⟩, ?_⟩
  have ev0 : D.eqv (.int i) (.int j) = decide (i = j) := eqv_int
  have i1 : intO (.int i) = i := rfl
  have i2 : intO (.int j) = j := rfl
  by_cases hij : i = j
  · exact brT (ev0.trans (by simpa using hij)) (hx _ (by simp only [Act.run, ix, iy, i1, i2, hij]; rfl))
  refine brF (ev0.trans (by simpa using hij)) ?_
  refine ⟨_, rfl, ⟨rfl, rfl, Nat.zero_le _, Nat.zero_le _⟩, ?_⟩
  have ev : D.eqv (.int ((p.rus.map itD).length : Nat)) (.int 16) = decide (p.rus.length = 16) := by
    rw [ll, eqv_int]; exact decide_eq_decide.mpr (by omega)
  by_cases h8 : p.rus.length = 16
  · exact brT (ev.trans (by simpa using h8)) (hx _ (by simp only [Act.run, ix, iy, i1, i2, hij, h8]; rfl))
  · refine brF (ev.trans (by simpa using h8)) ?_
    have hk := hk ⟨p.its, p.rus ++ [(i, j)]⟩ (by simp only [Act.run, ix, iy, i1, i2, hij, h8]; rfl)
    exact ⟨p, i, j, rfl, by omega, hk⟩

def t_without_rule_deb1 : PSx Unit := (qRet (qTup (qCons (qBin ixD (qVar 0) (qC (.int 0))) (qCons (qBin addD (qSl (qBin ixD (qVar 0) (qC (.int 1))) qNoPart (qPart (qVar 1))) (qSl (qBin ixD (qVar 0) (qC (.int 1))) (qPart (qBin addD (qVar 1) (qC (.int 1)))) qNoPart)) qNil))))

def sp_without_rule_deb1 : Spec0 := fun ds R => ∃ (p : Pan) (i : Nat), ds = [panD p, natD i] ∧ i < p.rus.length ∧ p.rus.length ≤ 1000 ∧ R (panD ⟨p.its, p.rus.eraseIdx i⟩)
theorem len_without_rule_deb1 (ds : List D) (R : DK) (h : sp_without_rule_deb1 ds R) : ds.length = 2 := by
  obtain ⟨_, _, rfl, _⟩ := h; rfl
theorem cut_erase {l : List (Int × Int)} {i : Nat} (hi : i < l.length) : cut (l.map itD) none (some (i : Int)) ++ cut (l.map itD) (some ((i : Int) + 1)) none = (l.eraseIdx i).map itD := by
  have c1 := cut_to (l.map itD) i
  have c2 := cut_from (l.map itD) (i + 1)
  have c3 : (((i + 1 : Nat)) : Int) = (i : Int) + 1 := by omega
  rw [c3] at c2
  rw [c1, c2, List.eraseIdx_eq_take_drop_succ, List.map_append, List.map_take, List.map_drop]
theorem p_without_rule_deb1 (ds : List D) (R : DK) (h : sp_without_rule_deb1 ds R) : t_without_rule_deb1 { nx := fun _ => R .non, rt := fun d _ => R d } ⟨startL 2 ds, ()⟩ := by
  obtain ⟨p, i, rfl, hi, hl, h⟩ := h
  have line : (10000000 : Nat) ≤ sizeLine := line_big
  have ml : (p.rus.map itD).length = p.rus.length := by simp
  have l1 := cut_length (p.rus.map itD) none (some (i : Int))
  have l2 := cut_length (p.rus.map itD) (some ((i : Int) + 1)) none
  refine ⟨_, rfl, _, rfl, _, rfl, (by show (cut (p.rus.map itD) none (some (i : Int))).length + (cut (p.rus.map itD) (some ((i : Int) + 1)) none).length ≤ sizeLine; omega), (by show 2 ≤ sizeLine; omega), ?_⟩
  show R (.tup [.tup (p.its.map itD), .tup (cut (p.rus.map itD) none (some (i : Int)) ++ cut (p.rus.map itD) (some ((i : Int) + 1)) none)])
  rw [cut_erase hi]; exact h

def t_without_item_d43ax : PSXx Unit := (xSeq (xs0 (qAsgT (qVar 0) (.tp [(.nm 2), (.nm 3)]))) (xSeq (xIf (qB (qBin eqD (qCall (fn1 lenD) (qCons (qVar 2) qNil)) (qC (.int 1)))) (xRaise "LastItem") (xs0 qNext)) (xs0 (qSeq (qAsg (qSet (qLc (qItems (qVar 3)) (.tp [(.nm 5), (.nm 6)]) [5, 6] (qB (qBin notInD (qVar 1) (qTup (qCons (qVar 5) (qCons (qVar 6) qNil))))) (qTup (qCons (qVar 5) (qCons (qVar 6) qNil))))) 4) (qSeq (qAsg (qSet (qLc (qItems (qVar 4)) (.tp [(.nm 5), (.nm 6)]) [5, 6] qYes (qTup (qCons (qBin subD (qVar 5) (qCall (fn1 intD) (qCons (qBin gtD (qVar 5) (qVar 1)) qNil))) (qCons (qBin subD (qVar 6) (qCall (fn1 intD) (qCons (qBin gtD (qVar 6) (qVar 1)) qNil))) qNil))))) 4) (qRet (qTup (qCons (qBin addD (qSl (qVar 2) qNoPart (qPart (qVar 1))) (qSl (qVar 2) (qPart (qBin addD (qVar 1) (qC (.int 1)))) qNoPart)) (qCons (qCall (fn1 tupleD) (qCons (qVar 4) qNil)) qNil)))))))))

def woP (p : Pan) (k : Nat) : Pan := ⟨p.its.take k ++ p.its.drop (k + 1), (p.rus.filter fun q => decide ((k : Int) ≠ q.1) && decide ((k : Int) ≠ q.2)).map fun q => (q.1 - (if (k : Int) < q.1 then 1 else 0), q.2 - (if (k : Int) < q.2 then 1 else 0))⟩
def sp_without_item_d43ax : SpecX := fun ds R W => ∃ (m : Nat) (p : Pan) (k : Nat), ds = [panD p, natD k] ∧ PanOk m p ∧ m ≤ 1000 ∧ (2 ≤ p.its.length → R (panD (woP p k))) ∧ (p.its.length = 1 → W ⟨"LastItem", none⟩)
theorem len_without_item_d43ax (ds : List D) (R : DK) (W : Xc → Prop) (h : sp_without_item_d43ax ds R W) : ds.length = 2 := by
  obtain ⟨_, _, _, rfl, _⟩ := h; rfl
theorem p_without_item_d43ax (ds : List D) (R : DK) (W : Xc → Prop) (h : sp_without_item_d43ax ds R W) : t_without_item_d43ax (fun x _ => W x) { nx := fun _ => R .non, rt := fun d _ => R d } ⟨startL 7 ds, ()⟩ := by
  obtain ⟨m, p, k, rfl, hp, hm, h, hw⟩ := h
  have line : (10000000 : Nat) ≤ sizeLine := line_big
  have ht := hp.top
  have hf := hp.few
  let P := some (L.val (panD p))
  let K := some (L.val (natD k))
  let I := some (L.val (.tup (p.its.map itD)))
  let U := some (L.val (.tup (p.rus.map itD)))
  refine seq_mid (M := fun s' => s' = ⟨[P, K, I, U, none, none, none], ()⟩) ?_ ?_
  rotate_left
  · intro N hN
    exact put_tg (tg := .tp [(.nm 2), (.nm 3)]) (d := panD p) rfl (hN _ rfl)
  rintro _ rfl
  refine seq_mid (M := fun s' => 2 ≤ p.its.length ∧ s' = ⟨[P, K, I, U, none, none, none], ()⟩) ?_ ?_
  rotate_left
  · intro N hN
    refine ⟨⟨rfl, rfl, Nat.zero_le _, Nat.zero_le _⟩, fun hc => ?_, fun hc => ?_⟩
    · have hc : decide (((p.its.map itD).length : Int) = 1) = true := hc
      rw [List.length_map, decide_eq_true_eq] at hc
      exact hw (by omega)
    · have hc : decide (((p.its.map itD).length : Int) = 1) = false := hc
      rw [List.length_map, decide_eq_false_iff_not] at hc
      have := hp.one
      exact hN _ ⟨by omega, rfl⟩
  rintro _ ⟨h2, rfl⟩
  have h := h h2
  let rs1 := p.rus.filter fun q => decide ((k : Int) ≠ q.1) && decide ((k : Int) ≠ q.2)
  have r1l : rs1.length ≤ 16 := Nat.le_trans (List.length_filter_le _ _) hf
  refine seq_mid (M := fun s' => s' = ⟨[P, K, I, U, some (.val (.lst (rs1.map itD))), none, none], ()⟩) ?_ ?_
  rotate_left
  · intro N hN
    refine lc_list p.rus itD (fun q => decide ((k : Int) ≠ q.1) && decide ((k : Int) ≠ q.2)) itD (by omega) (fun q hq => ⟨_, rfl, fun T h => ⟨by show 2 ≤ sizeLine; omega, ⟨rfl, rfl, Nat.zero_le 60⟩, ?_⟩, fun _ T h => ⟨by show 2 ≤ sizeLine; omega, h⟩⟩) (hN _ rfl) (by decide) (by rfl)
    have e : (true ^^ ([D.int q.1, .int q.2].any fun y => D.eqv y (natD k))) = (decide ((k : Int) ≠ q.1) && decide ((k : Int) ≠ q.2)) := by
      show (true ^^ (decide (q.1 = (k : Int)) || (decide (q.2 = (k : Int)) || false))) = _
      by_cases a : q.1 = (k : Int) <;> by_cases b : q.2 = (k : Int) <;> simp [a, b, eq_comm]
    rw [← e] at h
    exact h
  rintro _ rfl
  refine seq_mid (M := fun s' => s' = ⟨[P, K, I, U, some (.val (.lst ((woP p k).rus.map itD))), none, none], ()⟩) ?_ ?_
  rotate_left
  · intro N hN
    refine lc_mapl rs1 itD (fun q => itD (q.1 - (if (k : Int) < q.1 then 1 else 0), q.2 - (if (k : Int) < q.2 then 1 else 0))) (by omega) (fun q hq => ⟨_, rfl, fun T h => ?_⟩) ?_ (by decide) (by rfl)
    · have e : ∀ a : Int, (if decide ((k : Int) < a) = true then (1 : Int) else 0) = if (k : Int) < a then 1 else 0 := fun a => by simp
      rw [← e q.1, ← e q.2] at h
      exact ⟨by show 2 ≤ sizeLine; omega, h⟩
    · have e : rs1.map (fun q => itD (q.1 - (if (k : Int) < q.1 then 1 else 0), q.2 - (if (k : Int) < q.2 then 1 else 0))) = (woP p k).rus.map itD := by
        show _ = (rs1.map fun q => (q.1 - (if (k : Int) < q.1 then 1 else 0), q.2 - (if (k : Int) < q.2 then 1 else 0))).map itD
        rw [List.map_map]; rfl
      rw [e]
      exact hN _ rfl
  rintro _ rfl
  have c1 : cut (p.its.map itD) none (some ((k : Nat) : Int)) = (p.its.map itD).take k := cut_to _ _
  have c2 : cut (p.its.map itD) (some ((k : Int) + 1)) none = (p.its.map itD).drop (k + 1) := cut_from _ (k + 1)
  refine ⟨?_, ?_⟩
  · have := cut_length (p.its.map itD) none (some ((k : Nat) : Int))
    have := cut_length (p.its.map itD) (some ((k : Int) + 1)) none
    rw [List.length_map] at *
    omega
  · rw [c1, c2, ← List.map_take, ← List.map_drop, ← List.map_append]
    exact ⟨by show 2 ≤ sizeLine; omega, h⟩

def t_panel_after_5edax : PSXx Unit := (xSeq (xs0 (qAsgT (qSl (qVar 1) qNoPart (qPart (qC (.int 2)))) (.tp [(.nm 2), (.nm 3)]))) (xSeq (xIf (qB (qBin eqD (qVar 2) (qC (.str "add_item")))) (xRet (qCallX (sp_panel_with_item_7316x) (qCons (qVar 0) (qCons (qVar 3) (qCons (qBin ixD (qVar 1) (qC (.int 2))) qNil))))) (xs0 qNext)) (xSeq (xIf (qB (qBin eqD (qVar 2) (qC (.str "add_rule")))) (xRet (qCallX (sp_panel_with_rule_8c3dx) (qCons (qVar 0) (qCons (qVar 3) (qCons (qBin ixD (qVar 1) (qC (.int 2))) qNil))))) (xs0 qNext)) (xSeq (xIf (qB (qBin eqD (qVar 2) (qC (.str "drop_rule")))) (xSeq (xIf (qNot (qB (qCallP (sp_is_within_3133) (qCons (qVar 3) (qCons (qC (.int 0)) (qCons (qBin subD (qCall (fn1 lenD) (qCons (qBin ixD (qVar 0) (qC (.int 1))) qNil)) (qC (.int 1))) qNil)))))) (xRaiseF "NoSuchRule" "rule" (qVar 3)) (xs0 qNext)) (xs0 (qRet (qCallP (sp_without_rule_deb1) (qCons (qVar 0) (qCons (qVar 3) qNil)))))) (xs0 qNext)) (xSeq (xDrop (qCallX (sp_need_item_44a7x) (qCons (qVar 0) (qCons (qVar 3) qNil)))) (xSeq (xIf (qB (qBin eqD (qVar 2) (qC (.str "drop_item")))) (xRet (qCallX (sp_without_item_d43ax) (qCons (qVar 0) (qCons (qVar 3) qNil)))) (xs0 qNext)) (xSeq (xIf (qB (qBin eqD (qVar 2) (qC (.str "set_mark")))) (xSeq (xDrop (qCallX (sp_need_mark_99a8x) (qCons (qBin ixD (qVar 1) (qC (.int 2))) qNil))) (xs0 (qRet (qCallP (sp_with_mark_afe3) (qCons (qVar 0) (qCons (qVar 3) (qCons (qBin ixD (qVar 1) (qC (.int 2))) (qCons (qBin ixD (qBin ixD (qBin ixD (qVar 0) (qC (.int 0))) (qVar 3)) (qC (.int 1))) qNil)))))))) (xs0 qNext)) (xSeq (xDrop (qCallX (sp_need_weight_e9e3x) (qCons (qBin ixD (qVar 1) (qC (.int 2))) qNil))) (xs0 (qRet (qCallP (sp_with_mark_afe3) (qCons (qVar 0) (qCons (qVar 3) (qCons (qBin ixD (qBin ixD (qBin ixD (qVar 0) (qC (.int 0))) (qVar 3)) (qC (.int 0))) (qCons (qBin ixD (qVar 1) (qC (.int 2))) qNil)))))))))))))))

def sp_panel_after_5edax : SpecX := fun ds R W => ∃ (p : Pan) (a : Act), ds = [panD p, a.d] ∧ PanOk 8 p ∧ a.ok ∧ (∀ x, a.run p = .error x → W x) ∧ ∀ p', a.run p = .ok p' → R (panD p')
theorem len_panel_after_5edax (ds : List D) (R : DK) (W : Xc → Prop) (h : sp_panel_after_5edax ds R W) : ds.length = 2 := by
  obtain ⟨_, _, rfl, _⟩ := h; rfl
theorem p_panel_after_5edax (ds : List D) (R : DK) (W : Xc → Prop) (h : sp_panel_after_5edax ds R W) : t_panel_after_5edax (fun x _ => W x) { nx := fun _ => R .non, rt := fun d _ => R d } ⟨startL 4 ds, ()⟩ := by
  obtain ⟨p, a, rfl, hp, ho, hx, hk⟩ := h
  have line : (10000000 : Nat) ≤ sizeLine := line_big
  have top := hp.top; have few := hp.few; have one := hp.one
  have ll : (p.rus.map itD).length = p.rus.length := List.length_map _
  have li : (p.its.map itD).length = p.its.length := List.length_map _
  cases a with
  | addItem v w =>
    have hv : ∀ q, v ≠ .obj q := ho v (by simp [Act.args])
    have hw : ∀ q, w ≠ .obj q := ho w (by simp [Act.args])
    refine seq_mid (M := fun s' => s' = ⟨[some (.val (panD p)), some (.val (Act.addItem v w).d), some (.val (.str (Act.addItem v w).nm)), some (.val v)], ()⟩) ?_ ?_
    rotate_left
    · intro N hN
      exact hN _ rfl
    rintro _ rfl
    refine ⟨trivial, brT (by simp only [Act.nm]; decide +kernel) ?_⟩
    exact ⟨_, rfl, p, v, w, rfl, hp, ho, hx, hk⟩
  | addRule v w =>
    have hv : ∀ q, v ≠ .obj q := ho v (by simp [Act.args])
    have hw : ∀ q, w ≠ .obj q := ho w (by simp [Act.args])
    refine seq_mid (M := fun s' => s' = ⟨[some (.val (panD p)), some (.val (Act.addRule v w).d), some (.val (.str (Act.addRule v w).nm)), some (.val v)], ()⟩) ?_ ?_
    rotate_left
    · intro N hN
      exact hN _ rfl
    rintro _ rfl
    refine ⟨trivial, brF (by simp only [Act.nm]; decide +kernel) ?_⟩
    refine ⟨trivial, brT (by simp only [Act.nm]; decide +kernel) ?_⟩
    exact ⟨_, rfl, p, v, w, rfl, hp, ho, hx, hk⟩
  | dropRule v =>
    have hv : ∀ q, v ≠ .obj q := ho v (by simp [Act.args])
    refine seq_mid (M := fun s' => s' = ⟨[some (.val (panD p)), some (.val (Act.dropRule v).d), some (.val (.str (Act.dropRule v).nm)), some (.val v)], ()⟩) ?_ ?_
    rotate_left
    · intro N hN
      exact hN _ rfl
    rintro _ rfl
    refine ⟨trivial, brF (by simp only [Act.nm]; decide +kernel) ?_⟩
    refine ⟨trivial, brF (by simp only [Act.nm]; decide +kernel) ?_⟩
    refine ⟨trivial, brT (by simp only [Act.nm]; decide +kernel) ?_⟩
    refine ⟨_, rfl, v, 0, _, rfl, hv, ?_⟩
    have e : inI 0 (((p.rus.map itD).length : Int) - 1) v = isRul p v := by rw [ll]; rfl
    by_cases hi : isRul p v = true
    · refine brF (by show (!inI 0 (((p.rus.map itD).length : Int) - 1) v) = false; rw [e, hi]; rfl) ?_
      obtain ⟨k, rfl, lk⟩ := isRul_ex hi
      have hk := hk _ (by simp only [Act.run, hi]; rfl)
      rw [natO_nat] at hk
      exact ⟨p, k, rfl, lk, by omega, hk⟩
    · have hi : isRul p v = false := by simpa using hi
      exact brT (by show (!inI 0 (((p.rus.map itD).length : Int) - 1) v) = true; rw [e, hi]; rfl) (hx _ (by simp only [Act.run, hi]; rfl))
  | dropItem v =>
    have hv : ∀ q, v ≠ .obj q := ho v (by simp [Act.args])
    refine seq_mid (M := fun s' => s' = ⟨[some (.val (panD p)), some (.val (Act.dropItem v).d), some (.val (.str (Act.dropItem v).nm)), some (.val v)], ()⟩) ?_ ?_
    rotate_left
    · intro N hN
      exact hN _ rfl
    rintro _ rfl
    refine ⟨trivial, brF (by simp only [Act.nm]; decide +kernel) ?_⟩
    refine ⟨trivial, brF (by simp only [Act.nm]; decide +kernel) ?_⟩
    refine ⟨trivial, brF (by simp only [Act.nm]; decide +kernel) ?_⟩
    refine ⟨p, v, rfl, hv, fun iv => ?_, fun iv => hx _ (by simp only [Act.run, iv]; rfl)⟩
    obtain ⟨k, rfl, lk⟩ := isItm_ex iv
    refine ⟨trivial, brT (by simp only [Act.nm]; decide +kernel) ?_⟩
    refine ⟨8, p, k, rfl, hp, by decide, fun h2 => ?_, fun h1 => hx _ (by simp only [Act.run, iv, h1]; rfl)⟩
    have hk := hk (wiP p k) (by simp only [Act.run, iv, natO_nat]; rw [if_neg (by decide), if_neg (by omega)])
    exact hk
  | setMark v w =>
    have hv : ∀ q, v ≠ .obj q := ho v (by simp [Act.args])
    have hw : ∀ q, w ≠ .obj q := ho w (by simp [Act.args])
    refine seq_mid (M := fun s' => s' = ⟨[some (.val (panD p)), some (.val (Act.setMark v w).d), some (.val (.str (Act.setMark v w).nm)), some (.val v)], ()⟩) ?_ ?_
    rotate_left
    · intro N hN
      exact hN _ rfl
    rintro _ rfl
    refine ⟨trivial, brF (by simp only [Act.nm]; decide +kernel) ?_⟩
    refine ⟨trivial, brF (by simp only [Act.nm]; decide +kernel) ?_⟩
    refine ⟨trivial, brF (by simp only [Act.nm]; decide +kernel) ?_⟩
    refine ⟨p, v, rfl, hv, fun iv => ?_, fun iv => hx _ (by simp only [Act.run, iv]; rfl)⟩
    obtain ⟨k, rfl, lk⟩ := isItm_ex iv
    refine ⟨trivial, brF (by simp only [Act.nm]; decide +kernel) ?_⟩
    refine ⟨trivial, brT (by simp only [Act.nm]; decide +kernel) ?_⟩
    refine ⟨_, rfl, w, rfl, hw, fun iw => ?_, fun iw => hx _ (by simp only [Act.run, iv, iw]; rfl)⟩
    obtain ⟨i, rfl, _⟩ := inI_int iw
    have iq : idx (p.its.map itD) (k : Int) = some (itD (p.its.getD k (0, 1))) := idx_it lk
    have hk := hk ⟨p.its.set k (i, (p.its.getD k (0, 1)).2), p.rus⟩ (by simp only [Act.run, iv, iw, natO_nat]; rfl)
    exact ⟨_, rfl, _, rfl, _, iq, _, rfl, p, k, i, _, rfl, lk, by omega, hk⟩
  | setWeight v w =>
    have hv : ∀ q, v ≠ .obj q := ho v (by simp [Act.args])
    have hw : ∀ q, w ≠ .obj q := ho w (by simp [Act.args])
    refine seq_mid (M := fun s' => s' = ⟨[some (.val (panD p)), some (.val (Act.setWeight v w).d), some (.val (.str (Act.setWeight v w).nm)), some (.val v)], ()⟩) ?_ ?_
    rotate_left
    · intro N hN
      exact hN _ rfl
    rintro _ rfl
    refine ⟨trivial, brF (by simp only [Act.nm]; decide +kernel) ?_⟩
    refine ⟨trivial, brF (by simp only [Act.nm]; decide +kernel) ?_⟩
    refine ⟨trivial, brF (by simp only [Act.nm]; decide +kernel) ?_⟩
    refine ⟨p, v, rfl, hv, fun iv => ?_, fun iv => hx _ (by simp only [Act.run, iv]; rfl)⟩
    obtain ⟨k, rfl, lk⟩ := isItm_ex iv
    refine ⟨trivial, brF (by simp only [Act.nm]; decide +kernel) ?_⟩
    refine ⟨trivial, brF (by simp only [Act.nm]; decide +kernel) ?_⟩
    refine ⟨_, rfl, w, rfl, hw, fun iw => ?_, fun iw => hx _ (by simp only [Act.run, iv, iw]; rfl)⟩
    obtain ⟨i, rfl, _⟩ := inI_int iw
    have iq : idx (p.its.map itD) (k : Int) = some (itD (p.its.getD k (0, 1))) := idx_it lk
    have hk := hk ⟨p.its.set k ((p.its.getD k (0, 1)).1, i), p.rus⟩ (by simp only [Act.run, iv, iw, natO_nat]; rfl)
    exact ⟨_, rfl, _, iq, _, rfl, _, rfl, p, k, _, i, rfl, lk, by omega, hk⟩

def t_Book_keep_3d59 (CBook : Addr) : PSXx (Unit × List OB) := (xSeq (xIf (qB (qBin eqD (qCall (fn1 lenD) (qCons (qFI CBook "kept" (qVar 0)) qNil)) (qC (.int 60)))) (xRaise "TooManyActions") (xs0 qNext)) (xSeq (xFSet CBook "panels" (xBinR addD (qFI CBook "panels" (qVar 0)) (xTup1 (qCallX (sp_panel_after_5edax) (qCons (qBin ixD (qFI CBook "panels" (qVar 0)) (qUn negD (qC (.int 1)))) (qCons (qVar 1) qNil))))) (qVar 0)) (xFSet CBook "kept" (xe0 (qBin addD (qFI CBook "kept" (qVar 0)) (qTup (qCons (qVar 1) qNil)))) (qVar 0))))

def sp_Book_keep_3d59 (CBook : Addr) : SpecB := fun ds bs R W => ∃ (b : Bok) (p : Pan) (a : Act) (bs1 bs2 : List OB), ds = [.obj b.o, a.d] ∧ BokAt CBook b p ∧ a.ok ∧ bs = bs1 ++ b.ob :: bs2 ∧ keepW b p a (fun b' => R .non (bs1 ++ b'.ob :: bs2)) fun x => W x bs
theorem len_Book_keep_3d59 (CBook : Addr) (ds : List D) (bs : List OB) (R : D → List OB → Prop) (W : Xc → List OB → Prop) (h : sp_Book_keep_3d59 CBook ds bs R W) : ds.length = 2 := by
  obtain ⟨_, _, _, _, _, rfl, _⟩ := h; rfl
theorem p_Book_keep_3d59 (CBook : Addr) (ds : List D) (bs : List OB) (R : D → List OB → Prop) (W : Xc → List OB → Prop) (h : sp_Book_keep_3d59 CBook ds bs R W) : t_Book_keep_3d59 CBook (fun x s => W x s.g.2) { nx := fun s => R .non s.g.2, rt := fun d g => R d g.2 } ⟨startL 2 ds, ((), bs)⟩ := by
  obtain ⟨b, p, a, bs1, bs2, rfl, hb, ho, rfl, h⟩ := h
  have line : (10000000 : Nat) ≤ sizeLine := line_big
  obtain ⟨ps0, e⟩ := hb.at_
  have len := hb.len
  have few := hb.few
  have hC := hb.C
  refine ⟨bs1, b.ob, bs2, .tup b.ks, rfl, rfl, hC, rfl, ⟨rfl, rfl, Nat.zero_le _, Nat.zero_le _⟩, ?_⟩
  have ev : D.eqv (.int (b.ks.length : Nat)) (.int 60) = decide (b.ks.length = 60) := by
    rw [eqv_int]; exact decide_eq_decide.mpr (by omega)
  unfold keepW at h
  by_cases h6 : b.ks.length = 60
  · rw [if_pos h6] at h
    exact brT (ev.trans (by simpa using h6)) h
  rw [if_neg h6] at h
  refine brF (ev.trans (by simpa using h6)) ?_
  refine ⟨bs1, b.ob, bs2, .tup b.ps, rfl, rfl, hC, rfl, bs1, b.ob, bs2, .tup b.ps, rfl, rfl, hC, rfl, panD p, by rw [e]; exact idx_last _ _, ?_⟩
  refine ⟨p, a, rfl, hb.pan, ho, fun x hx => ?_, fun p' hp => ?_⟩
  · rw [hx] at h
    exact h
  · rw [hp] at h
    refine ⟨(by show b.ps.length + 1 ≤ sizeLine; omega), ?_⟩
    refine ⟨bs1, b.ob, bs2, rfl, rfl, hC, (by show 4 < 1000; decide), ?_⟩
    rw [Bok.put_ps]
    let b1 : Bok := { b with ps := b.ps ++ [panD p'] }
    refine ⟨bs1, b1.ob, bs2, .tup b1.ks, rfl, rfl, hC, rfl, (by show 1 ≤ sizeLine; omega), (by show b.ks.length + 1 ≤ sizeLine; omega), ?_⟩
    refine ⟨bs1, b1.ob, bs2, rfl, rfl, hC, (by show 4 < 1000; decide), ?_⟩
    rw [Bok.put_ks]
    exact h

def t_Book_act_56f7 (CBook : Addr) : PSXx (Unit × List OB) := (xSeq (xDrop (qMethI CBook "need_idle" (sp_Book_need_idle_a04f CBook) (qVar 0) qNil)) (xDrop (qMethI CBook "keep" (sp_Book_keep_3d59 CBook) (qVar 0) (qCons (qVar 1) qNil))))

def sp_Book_act_56f7 (CBook : Addr) : SpecB := fun ds bs R W => ∃ (b : Bok) (p : Pan) (a : Act) (bs1 bs2 : List OB), ds = [.obj b.o, a.d] ∧ BokAt CBook b p ∧ a.ok ∧ bs = bs1 ++ b.ob :: bs2 ∧ actW b p a (fun b' => R .non (bs1 ++ b'.ob :: bs2)) fun x => W x bs
theorem len_Book_act_56f7 (CBook : Addr) (ds : List D) (bs : List OB) (R : D → List OB → Prop) (W : Xc → List OB → Prop) (h : sp_Book_act_56f7 CBook ds bs R W) : ds.length = 2 := by
  obtain ⟨_, _, _, _, _, rfl, _⟩ := h; rfl
theorem p_Book_act_56f7 (CBook : Addr) (ds : List D) (bs : List OB) (R : D → List OB → Prop) (W : Xc → List OB → Prop) (h : sp_Book_act_56f7 CBook ds bs R W) : t_Book_act_56f7 CBook (fun x s => W x s.g.2) { nx := fun s => R .non s.g.2, rt := fun d g => R d g.2 } ⟨startL 2 ds, ((), bs)⟩ := by
  obtain ⟨b, p, a, bs1, bs2, rfl, hb, ho, rfl, h⟩ := h
  have hC := hb.C
  unfold actW at h
  refine ⟨bs1, b.ob, bs2, rfl, rfl, hC, rfl, b, bs1, bs2, rfl, hC, rfl, fun hz => ?_, fun hz => ?_⟩
  · rw [if_neg (by rw [hz]; decide)] at h
    exact ⟨bs1, b.ob, bs2, rfl, rfl, hC, rfl, b, p, a, bs1, bs2, rfl, hb, ho, rfl, h⟩
  · rw [if_pos hz] at h
    exact h

def t_Book_set_mark_d750 (CBook : Addr) : PSXx (Unit × List OB) := (xDrop (qMethI CBook "act" (sp_Book_act_56f7 CBook) (qVar 0) (qCons (qTup (qCons (qC (.str "set_mark")) (qCons (qVar 1) (qCons (qVar 2) qNil)))) qNil)))

def sp_Book_set_mark_d750 (CBook : Addr) : SpecB := fun ds bs R W => ∃ (b : Bok) (p : Pan) (v w : D) (bs1 bs2 : List OB), ds = [.obj b.o, v, w] ∧ BokAt CBook b p ∧ (Act.setMark v w).ok ∧ bs = bs1 ++ b.ob :: bs2 ∧ actW b p (.setMark v w) (fun b' => R .non (bs1 ++ b'.ob :: bs2)) fun x => W x bs
theorem len_Book_set_mark_d750 (CBook : Addr) (ds : List D) (bs : List OB) (R : D → List OB → Prop) (W : Xc → List OB → Prop) (h : sp_Book_set_mark_d750 CBook ds bs R W) : ds.length = 3 := by
  obtain ⟨_, _, _, _, _, _, rfl, _⟩ := h; rfl
theorem p_Book_set_mark_d750 (CBook : Addr) (ds : List D) (bs : List OB) (R : D → List OB → Prop) (W : Xc → List OB → Prop) (h : sp_Book_set_mark_d750 CBook ds bs R W) : t_Book_set_mark_d750 CBook (fun x s => W x s.g.2) { nx := fun s => R .non s.g.2, rt := fun d g => R d g.2 } ⟨startL 3 ds, ((), bs)⟩ := by
  obtain ⟨b, p, v, w, bs1, bs2, rfl, hb, ho, rfl, h⟩ := h
  have line : (10000000 : Nat) ≤ sizeLine := line_big
  exact ⟨bs1, b.ob, bs2, rfl, rfl, hb.C, rfl, (by show 3 ≤ sizeLine; omega), b, p, .setMark v w, bs1, bs2, rfl, hb, ho, rfl, h⟩

def t_Book_set_weight_80a1 (CBook : Addr) : PSXx (Unit × List OB) := (xDrop (qMethI CBook "act" (sp_Book_act_56f7 CBook) (qVar 0) (qCons (qTup (qCons (qC (.str "set_weight")) (qCons (qVar 1) (qCons (qVar 2) qNil)))) qNil)))

def sp_Book_set_weight_80a1 (CBook : Addr) : SpecB := fun ds bs R W => ∃ (b : Bok) (p : Pan) (v w : D) (bs1 bs2 : List OB), ds = [.obj b.o, v, w] ∧ BokAt CBook b p ∧ (Act.setWeight v w).ok ∧ bs = bs1 ++ b.ob :: bs2 ∧ actW b p (.setWeight v w) (fun b' => R .non (bs1 ++ b'.ob :: bs2)) fun x => W x bs
theorem len_Book_set_weight_80a1 (CBook : Addr) (ds : List D) (bs : List OB) (R : D → List OB → Prop) (W : Xc → List OB → Prop) (h : sp_Book_set_weight_80a1 CBook ds bs R W) : ds.length = 3 := by
  obtain ⟨_, _, _, _, _, _, rfl, _⟩ := h; rfl
theorem p_Book_set_weight_80a1 (CBook : Addr) (ds : List D) (bs : List OB) (R : D → List OB → Prop) (W : Xc → List OB → Prop) (h : sp_Book_set_weight_80a1 CBook ds bs R W) : t_Book_set_weight_80a1 CBook (fun x s => W x s.g.2) { nx := fun s => R .non s.g.2, rt := fun d g => R d g.2 } ⟨startL 3 ds, ((), bs)⟩ := by
  obtain ⟨b, p, v, w, bs1, bs2, rfl, hb, ho, rfl, h⟩ := h
  have line : (10000000 : Nat) ≤ sizeLine := line_big
  exact ⟨bs1, b.ob, bs2, rfl, rfl, hb.C, rfl, (by show 3 ≤ sizeLine; omega), b, p, .setWeight v w, bs1, bs2, rfl, hb, ho, rfl, h⟩

def t_Book_add_item_5e3f (CBook : Addr) : PSXx (Unit × List OB) := (xDrop (qMethI CBook "act" (sp_Book_act_56f7 CBook) (qVar 0) (qCons (qTup (qCons (qC (.str "add_item")) (qCons (qVar 1) (qCons (qVar 2) qNil)))) qNil)))

def sp_Book_add_item_5e3f (CBook : Addr) : SpecB := fun ds bs R W => ∃ (b : Bok) (p : Pan) (v w : D) (bs1 bs2 : List OB), ds = [.obj b.o, v, w] ∧ BokAt CBook b p ∧ (Act.addItem v w).ok ∧ bs = bs1 ++ b.ob :: bs2 ∧ actW b p (.addItem v w) (fun b' => R .non (bs1 ++ b'.ob :: bs2)) fun x => W x bs
theorem len_Book_add_item_5e3f (CBook : Addr) (ds : List D) (bs : List OB) (R : D → List OB → Prop) (W : Xc → List OB → Prop) (h : sp_Book_add_item_5e3f CBook ds bs R W) : ds.length = 3 := by
  obtain ⟨_, _, _, _, _, _, rfl, _⟩ := h; rfl
theorem p_Book_add_item_5e3f (CBook : Addr) (ds : List D) (bs : List OB) (R : D → List OB → Prop) (W : Xc → List OB → Prop) (h : sp_Book_add_item_5e3f CBook ds bs R W) : t_Book_add_item_5e3f CBook (fun x s => W x s.g.2) { nx := fun s => R .non s.g.2, rt := fun d g => R d g.2 } ⟨startL 3 ds, ((), bs)⟩ := by
  obtain ⟨b, p, v, w, bs1, bs2, rfl, hb, ho, rfl, h⟩ := h
  have line : (10000000 : Nat) ≤ sizeLine := line_big
  exact ⟨bs1, b.ob, bs2, rfl, rfl, hb.C, rfl, (by show 3 ≤ sizeLine; omega), b, p, .addItem v w, bs1, bs2, rfl, hb, ho, rfl, h⟩

def t_Book_drop_item_c5ba (CBook : Addr) : PSXx (Unit × List OB) := (xDrop (qMethI CBook "act" (sp_Book_act_56f7 CBook) (qVar 0) (qCons (qTup (qCons (qC (.str "drop_item")) (qCons (qVar 1) qNil))) qNil)))

def sp_Book_drop_item_c5ba (CBook : Addr) : SpecB := fun ds bs R W => ∃ (b : Bok) (p : Pan) (v : D) (bs1 bs2 : List OB), ds = [.obj b.o, v] ∧ BokAt CBook b p ∧ (Act.dropItem v).ok ∧ bs = bs1 ++ b.ob :: bs2 ∧ actW b p (.dropItem v) (fun b' => R .non (bs1 ++ b'.ob :: bs2)) fun x => W x bs
theorem len_Book_drop_item_c5ba (CBook : Addr) (ds : List D) (bs : List OB) (R : D → List OB → Prop) (W : Xc → List OB → Prop) (h : sp_Book_drop_item_c5ba CBook ds bs R W) : ds.length = 2 := by
  obtain ⟨_, _, _, _, _, rfl, _⟩ := h; rfl
theorem p_Book_drop_item_c5ba (CBook : Addr) (ds : List D) (bs : List OB) (R : D → List OB → Prop) (W : Xc → List OB → Prop) (h : sp_Book_drop_item_c5ba CBook ds bs R W) : t_Book_drop_item_c5ba CBook (fun x s => W x s.g.2) { nx := fun s => R .non s.g.2, rt := fun d g => R d g.2 } ⟨startL 2 ds, ((), bs)⟩ := by
  obtain ⟨b, p, v, bs1, bs2, rfl, hb, ho, rfl, h⟩ := h
  have line : (10000000 : Nat) ≤ sizeLine := line_big
  exact ⟨bs1, b.ob, bs2, rfl, rfl, hb.C, rfl, (by show 2 ≤ sizeLine; omega), b, p, .dropItem v, bs1, bs2, rfl, hb, ho, rfl, h⟩

def t_Book_add_rule_b6a8 (CBook : Addr) : PSXx (Unit × List OB) := (xDrop (qMethI CBook "act" (sp_Book_act_56f7 CBook) (qVar 0) (qCons (qTup (qCons (qC (.str "add_rule")) (qCons (qVar 1) (qCons (qVar 2) qNil)))) qNil)))

def sp_Book_add_rule_b6a8 (CBook : Addr) : SpecB := fun ds bs R W => ∃ (b : Bok) (p : Pan) (v w : D) (bs1 bs2 : List OB), ds = [.obj b.o, v, w] ∧ BokAt CBook b p ∧ (Act.addRule v w).ok ∧ bs = bs1 ++ b.ob :: bs2 ∧ actW b p (.addRule v w) (fun b' => R .non (bs1 ++ b'.ob :: bs2)) fun x => W x bs
theorem len_Book_add_rule_b6a8 (CBook : Addr) (ds : List D) (bs : List OB) (R : D → List OB → Prop) (W : Xc → List OB → Prop) (h : sp_Book_add_rule_b6a8 CBook ds bs R W) : ds.length = 3 := by
  obtain ⟨_, _, _, _, _, _, rfl, _⟩ := h; rfl
theorem p_Book_add_rule_b6a8 (CBook : Addr) (ds : List D) (bs : List OB) (R : D → List OB → Prop) (W : Xc → List OB → Prop) (h : sp_Book_add_rule_b6a8 CBook ds bs R W) : t_Book_add_rule_b6a8 CBook (fun x s => W x s.g.2) { nx := fun s => R .non s.g.2, rt := fun d g => R d g.2 } ⟨startL 3 ds, ((), bs)⟩ := by
  obtain ⟨b, p, v, w, bs1, bs2, rfl, hb, ho, rfl, h⟩ := h
  have line : (10000000 : Nat) ≤ sizeLine := line_big
  exact ⟨bs1, b.ob, bs2, rfl, rfl, hb.C, rfl, (by show 3 ≤ sizeLine; omega), b, p, .addRule v w, bs1, bs2, rfl, hb, ho, rfl, h⟩

def t_Book_drop_rule_1deb (CBook : Addr) : PSXx (Unit × List OB) := (xDrop (qMethI CBook "act" (sp_Book_act_56f7 CBook) (qVar 0) (qCons (qTup (qCons (qC (.str "drop_rule")) (qCons (qVar 1) qNil))) qNil)))

def sp_Book_drop_rule_1deb (CBook : Addr) : SpecB := fun ds bs R W => ∃ (b : Bok) (p : Pan) (v : D) (bs1 bs2 : List OB), ds = [.obj b.o, v] ∧ BokAt CBook b p ∧ (Act.dropRule v).ok ∧ bs = bs1 ++ b.ob :: bs2 ∧ actW b p (.dropRule v) (fun b' => R .non (bs1 ++ b'.ob :: bs2)) fun x => W x bs
theorem len_Book_drop_rule_1deb (CBook : Addr) (ds : List D) (bs : List OB) (R : D → List OB → Prop) (W : Xc → List OB → Prop) (h : sp_Book_drop_rule_1deb CBook ds bs R W) : ds.length = 2 := by
  obtain ⟨_, _, _, _, _, rfl, _⟩ := h; rfl
theorem p_Book_drop_rule_1deb (CBook : Addr) (ds : List D) (bs : List OB) (R : D → List OB → Prop) (W : Xc → List OB → Prop) (h : sp_Book_drop_rule_1deb CBook ds bs R W) : t_Book_drop_rule_1deb CBook (fun x s => W x s.g.2) { nx := fun s => R .non s.g.2, rt := fun d g => R d g.2 } ⟨startL 2 ds, ((), bs)⟩ := by
  obtain ⟨b, p, v, bs1, bs2, rfl, hb, ho, rfl, h⟩ := h
  have line : (10000000 : Nat) ≤ sizeLine := line_big
  exact ⟨bs1, b.ob, bs2, rfl, rfl, hb.C, rfl, (by show 2 ≤ sizeLine; omega), b, p, .dropRule v, bs1, bs2, rfl, hb, ho, rfl, h⟩

def t_Book_undo_292d (CBook : Addr) : PSXx (Unit × List OB) := (xSeq (xDrop (qMethI CBook "need_idle" (sp_Book_need_idle_a04f CBook) (qVar 0) qNil)) (xSeq (xIf (qB (qBin eqED (qFI CBook "kept" (qVar 0)) (qTup qNil))) (xRaise "NothingToUndo") (xs0 qNext)) (xSeq (xFSet CBook "panels" (xe0 (qSl (qFI CBook "panels" (qVar 0)) qNoPart (qPart (qUn negD (qC (.int 1)))))) (qVar 0)) (xFSet CBook "kept" (xe0 (qSl (qFI CBook "kept" (qVar 0)) qNoPart (qPart (qUn negD (qC (.int 1)))))) (qVar 0)))))

def sp_Book_undo_292d (CBook : Addr) : SpecB := fun ds bs R W => ∃ (b : Bok) (bs1 bs2 : List OB), ds = [.obj b.o] ∧ b.C = CBook ∧ bs = bs1 ++ b.ob :: bs2 ∧ (b.busy = true → W ⟨"Busy", none⟩ bs) ∧ (b.busy = false → b.ks = [] → W ⟨"NothingToUndo", none⟩ bs) ∧ (b.busy = false → b.ks ≠ [] → R .non (bs1 ++ ({ b with ps := b.ps.dropLast, ks := b.ks.dropLast } : Bok).ob :: bs2))
theorem len_Book_undo_292d (CBook : Addr) (ds : List D) (bs : List OB) (R : D → List OB → Prop) (W : Xc → List OB → Prop) (h : sp_Book_undo_292d CBook ds bs R W) : ds.length = 1 := by
  obtain ⟨_, _, _, rfl, _⟩ := h; rfl
theorem p_Book_undo_292d (CBook : Addr) (ds : List D) (bs : List OB) (R : D → List OB → Prop) (W : Xc → List OB → Prop) (h : sp_Book_undo_292d CBook ds bs R W) : t_Book_undo_292d CBook (fun x s => W x s.g.2) { nx := fun s => R .non s.g.2, rt := fun d g => R d g.2 } ⟨startL 1 ds, ((), bs)⟩ := by
  obtain ⟨b, bs1, bs2, rfl, hC, rfl, h1, h2, h3⟩ := h
  refine ⟨bs1, b.ob, bs2, rfl, rfl, hC, rfl, b, bs1, bs2, rfl, hC, rfl, fun hz => ?_, fun hz => h1 hz⟩
  refine ⟨bs1, b.ob, bs2, .tup b.ks, rfl, rfl, hC, rfl, (by show 0 ≤ sizeLine; omega), ?_⟩
  by_cases hk : b.ks = []
  · exact brT (by rw [hk]; rfl) (h2 hz hk)
  · refine brF (by cases e : b.ks with | nil => exact absurd e hk | cons x xs => rfl) ?_
    have c1 : cut b.ps none (some (-1)) = b.ps.dropLast := cut_back _
    have c2 : cut b.ks none (some (-1)) = b.ks.dropLast := cut_back _
    refine ⟨bs1, b.ob, bs2, .tup b.ps, rfl, rfl, hC, rfl, ?_⟩
    refine ⟨bs1, b.ob, bs2, rfl, rfl, hC, (by show 4 < 1000; decide), ?_⟩
    rw [Bok.put_ps, c1]
    let b1 : Bok := { b with ps := b.ps.dropLast }
    refine ⟨bs1, b1.ob, bs2, .tup b1.ks, rfl, rfl, hC, rfl, ?_⟩
    refine ⟨bs1, b1.ob, bs2, rfl, rfl, hC, (by show 4 < 1000; decide), ?_⟩
    rw [Bok.put_ks, c2]
    exact h3 hz hk

def t_do_b165 (CBook : Addr) : PSXx (Unit × List OB) := (xSeq (xs0 (qPar 2 3 (qCons (qBin ixD (qVar 1) (qC (.int 0))) (qCons (qSl (qVar 1) (qPart (qC (.int 1))) qNoPart) qNil)))) (xIf (qB (qBin eqD (qVar 2) (qC (.str "set_mark")))) (xDrop (qMethI CBook "set_mark" (sp_Book_set_mark_d750 CBook) (qVar 0) (qCons (qBin ixD (qVar 3) (qC (.int 0))) (qCons (qBin ixD (qVar 3) (qC (.int 1))) qNil)))) (xIf (qB (qBin eqD (qVar 2) (qC (.str "set_weight")))) (xDrop (qMethI CBook "set_weight" (sp_Book_set_weight_80a1 CBook) (qVar 0) (qCons (qBin ixD (qVar 3) (qC (.int 0))) (qCons (qBin ixD (qVar 3) (qC (.int 1))) qNil)))) (xIf (qB (qBin eqD (qVar 2) (qC (.str "add_item")))) (xDrop (qMethI CBook "add_item" (sp_Book_add_item_5e3f CBook) (qVar 0) (qCons (qBin ixD (qVar 3) (qC (.int 0))) (qCons (qBin ixD (qVar 3) (qC (.int 1))) qNil)))) (xIf (qB (qBin eqD (qVar 2) (qC (.str "drop_item")))) (xDrop (qMethI CBook "drop_item" (sp_Book_drop_item_c5ba CBook) (qVar 0) (qCons (qBin ixD (qVar 3) (qC (.int 0))) qNil))) (xIf (qB (qBin eqD (qVar 2) (qC (.str "add_rule")))) (xDrop (qMethI CBook "add_rule" (sp_Book_add_rule_b6a8 CBook) (qVar 0) (qCons (qBin ixD (qVar 3) (qC (.int 0))) (qCons (qBin ixD (qVar 3) (qC (.int 1))) qNil)))) (xIf (qB (qBin eqD (qVar 2) (qC (.str "drop_rule")))) (xDrop (qMethI CBook "drop_rule" (sp_Book_drop_rule_1deb CBook) (qVar 0) (qCons (qBin ixD (qVar 3) (qC (.int 0))) qNil))) (xDrop (qMethI CBook "undo" (sp_Book_undo_292d CBook) (qVar 0) qNil)))))))))

def sp_do_b165 (CBook : Addr) : SpecB := fun ds bs R W => ∃ (b : Bok) (p : Pan) (a : Act) (bs1 bs2 : List OB), ds = [.obj b.o, a.d] ∧ BokAt CBook b p ∧ a.ok ∧ bs = bs1 ++ b.ob :: bs2 ∧ actW b p a (fun b' => R .non (bs1 ++ b'.ob :: bs2)) fun x => W x bs
theorem len_do_b165 (CBook : Addr) (ds : List D) (bs : List OB) (R : D → List OB → Prop) (W : Xc → List OB → Prop) (h : sp_do_b165 CBook ds bs R W) : ds.length = 2 := by
  obtain ⟨_, _, _, _, _, rfl, _⟩ := h; rfl
theorem p_do_b165 (CBook : Addr) (ds : List D) (bs : List OB) (R : D → List OB → Prop) (W : Xc → List OB → Prop) (h : sp_do_b165 CBook ds bs R W) : t_do_b165 CBook (fun x s => W x s.g.2) { nx := fun s => R .non s.g.2, rt := fun d g => R d g.2 } ⟨startL 4 ds, ((), bs)⟩ := by
  obtain ⟨b, p, a, bs1, bs2, rfl, hb, ho, rfl, h⟩ := h
  have hC := hb.C
  refine seq_mid (M := fun s' => s' = ⟨[some (.val (.obj b.o)), some (.val a.d), some (.val (.str a.nm)), some (.val (.tup a.args))], ((), bs1 ++ b.ob :: bs2)⟩) ?_ ?_
  rotate_left
  · intro N hN
    have e : cut (D.str a.nm :: a.args) (some 1) none = a.args := cut_from _ 1
    refine ⟨_, rfl, ?_⟩
    show N ⟨[some (.val (.obj b.o)), some (.val a.d), some (.val (.str a.nm)), some (.val (.tup (cut (D.str a.nm :: a.args) (some 1) none)))], ((), bs1 ++ b.ob :: bs2)⟩
    rw [e]
    exact hN _ rfl
  rintro _ rfl
  cases a with
  | setMark v w =>
    refine ⟨trivial, brT (by simp only [Act.nm]; decide +kernel) ?_⟩
    exact ⟨bs1, b.ob, bs2, rfl, rfl, hC, rfl, _, rfl, _, rfl, b, p, v, w, bs1, bs2, rfl, hb, ho, rfl, h⟩
  | setWeight v w =>
    refine ⟨trivial, brF (by simp only [Act.nm]; decide +kernel) ?_⟩
    refine ⟨trivial, brT (by simp only [Act.nm]; decide +kernel) ?_⟩
    exact ⟨bs1, b.ob, bs2, rfl, rfl, hC, rfl, _, rfl, _, rfl, b, p, v, w, bs1, bs2, rfl, hb, ho, rfl, h⟩
  | addItem v w =>
    refine ⟨trivial, brF (by simp only [Act.nm]; decide +kernel) ?_⟩
    refine ⟨trivial, brF (by simp only [Act.nm]; decide +kernel) ?_⟩
    refine ⟨trivial, brT (by simp only [Act.nm]; decide +kernel) ?_⟩
    exact ⟨bs1, b.ob, bs2, rfl, rfl, hC, rfl, _, rfl, _, rfl, b, p, v, w, bs1, bs2, rfl, hb, ho, rfl, h⟩
  | dropItem v =>
    refine ⟨trivial, brF (by simp only [Act.nm]; decide +kernel) ?_⟩
    refine ⟨trivial, brF (by simp only [Act.nm]; decide +kernel) ?_⟩
    refine ⟨trivial, brF (by simp only [Act.nm]; decide +kernel) ?_⟩
    refine ⟨trivial, brT (by simp only [Act.nm]; decide +kernel) ?_⟩
    exact ⟨bs1, b.ob, bs2, rfl, rfl, hC, rfl, _, rfl, b, p, v, bs1, bs2, rfl, hb, ho, rfl, h⟩
  | addRule v w =>
    refine ⟨trivial, brF (by simp only [Act.nm]; decide +kernel) ?_⟩
    refine ⟨trivial, brF (by simp only [Act.nm]; decide +kernel) ?_⟩
    refine ⟨trivial, brF (by simp only [Act.nm]; decide +kernel) ?_⟩
    refine ⟨trivial, brF (by simp only [Act.nm]; decide +kernel) ?_⟩
    refine ⟨trivial, brT (by simp only [Act.nm]; decide +kernel) ?_⟩
    exact ⟨bs1, b.ob, bs2, rfl, rfl, hC, rfl, _, rfl, _, rfl, b, p, v, w, bs1, bs2, rfl, hb, ho, rfl, h⟩
  | dropRule v =>
    refine ⟨trivial, brF (by simp only [Act.nm]; decide +kernel) ?_⟩
    refine ⟨trivial, brF (by simp only [Act.nm]; decide +kernel) ?_⟩
    refine ⟨trivial, brF (by simp only [Act.nm]; decide +kernel) ?_⟩
    refine ⟨trivial, brF (by simp only [Act.nm]; decide +kernel) ?_⟩
    refine ⟨trivial, brF (by simp only [Act.nm]; decide +kernel) ?_⟩
    refine ⟨trivial, brT (by simp only [Act.nm]; decide +kernel) ?_⟩
    exact ⟨bs1, b.ob, bs2, rfl, rfl, hC, rfl, _, rfl, b, p, v, bs1, bs2, rfl, hb, ho, rfl, h⟩

def t_limited_235d (CBook : Addr) (E : EF) : PSXx (Unit × List OB) := (xSeq (xs0 (qTryAs (lookT [("Busy", "MarksError", true), ("Full", "MarksError", true), ("InvalidMark", "MarksError", true), ("InvalidWeight", "MarksError", true), ("LastItem", "MarksError", true), ("NothingToUndo", "MarksError", true), ("TooManyActions", "MarksError", true)]) "MarksError" 2 (xDrop (qCallI (sp_do_b165 CBook) (qCons (qVar 0) (qCons (qVar 1) qNil)))) (fun x a => (qRet (qHot E ["Busy", "Full", "InvalidMark", "InvalidWeight", "LastItem", "NothingToUndo", "TooManyActions"] 2 x a (sp_class_4baa E)))))) (xs0 (qRet (qC (.str "")))))

def sp_limited_235d (CBook : Addr) (E : EF) : SpecB := fun ds bs R _ => ∃ (b : Bok) (p : Pan) (a : Act) (bs1 bs2 : List OB), ds = [.obj b.o, a.d] ∧ BokAt CBook b p ∧ a.ok ∧ bs = bs1 ++ b.ob :: bs2 ∧
  actW b p a (fun b' => R (.str "") (bs1 ++ b'.ob :: bs2)) fun x => x.c ∈ (["Busy", "TooManyActions"] : List Str) ∧ R (.str x.c) bs
theorem len_limited_235d (CBook : Addr) (E : EF) (ds : List D) (bs : List OB) (R : D → List OB → Prop) (W : Xc → List OB → Prop) (h : sp_limited_235d CBook E ds bs R W) : ds.length = 2 := by
  obtain ⟨_, _, _, _, _, rfl, _⟩ := h; rfl
theorem p_limited_235d (CBook : Addr) (E : EF) (ds : List D) (bs : List OB) (R : D → List OB → Prop) (W : Xc → List OB → Prop) (h : sp_limited_235d CBook E ds bs R W) : t_limited_235d CBook E (fun x s => W x s.g.2) { nx := fun s => R .non s.g.2, rt := fun d g => R d g.2 } ⟨startL 3 ds, ((), bs)⟩ := by
  obtain ⟨b, p, a, bs1, bs2, rfl, hb, ho, rfl, h⟩ := h
  refine ⟨b, p, a, bs1, bs2, rfl, hb, ho, rfl, ?_⟩
  refine actW_imp h (fun b' hR => hR) fun x _ hx => ?_
  obtain ⟨hm, hR⟩ := hx
  have h1 : x.c ∈ clsB := (by decide +kernel : ∀ y ∈ (["Busy", "TooManyActions"] : List Str), y ∈ clsB) x.c hm
  refine ⟨(by decide +kernel : ∀ y ∈ (["Busy", "TooManyActions"] : List Str), lookT _ y "MarksError" = some true) x.c hm, fun ad => ?_⟩
  refine ⟨rfl, (by decide +kernel : ∀ y ∈ (["Busy", "TooManyActions"] : List Str), y ∈ _) x.c hm, x.c, _, h1, rfl, (by decide +kernel : ∀ y ∈ clsB, (D.str y).plz = true) x.c h1, hR⟩

def t_hear_2917 (CBook : Addr) (E : EF) : PSXx GhL := (xs0 (qSeq (qDrop (nx0 (qNbApp (qVar 1) (xe0 (nx0 (qCallI (sp_limited_235d CBook E) (qCons (qVar 0) (qCons (qVar 2) qNil)))))))) (qRet (qC (.bl true)))))

def sp_hear_2917 (CBook : Addr) (E : EF) : SpecG GhL := fun ds g R _ => ∃ (b : Bok) (p : Pan) (a : Act) (ad : Addr) (xs : List D) (bs1 bs2 : List OB), ds = [.obj b.o, .obj ad, a.d] ∧ BokAt CBook b p ∧ a.ok ∧ b.busy = true ∧ xs.length < 1000 ∧ g = ([(ad, xs)], bs1 ++ b.ob :: bs2) ∧ R (.bl true) ([(ad, xs ++ [.str "Busy"])], bs1 ++ b.ob :: bs2)
theorem len_hear_2917 (CBook : Addr) (E : EF) (ds : List D) (g : GhL) (R : D → GhL → Prop) (W : Xc → GhL → Prop) (h : sp_hear_2917 CBook E ds g R W) : ds.length = 3 := by
  obtain ⟨_, _, _, _, _, _, _, rfl, _⟩ := h; rfl
theorem p_hear_2917 (CBook : Addr) (E : EF) (ds : List D) (g : GhL) (R : D → GhL → Prop) (W : Xc → GhL → Prop) (h : sp_hear_2917 CBook E ds g R W) : t_hear_2917 CBook E (fun x s => W x s.g) { nx := fun s => R .non s.g, rt := R } ⟨startL 3 ds, g⟩ := by
  obtain ⟨b, p, a, ad, xs, bs1, bs2, rfl, hb, ho, hz, hx, rfl, h⟩ := h
  have line : (10000000 : Nat) ≤ sizeLine := line_big
  refine ⟨ad, rfl, List.mem_singleton.mpr rfl, b, p, a, bs1, bs2, rfl, hb, ho, rfl, ?_⟩
  unfold actW
  rw [if_pos hz]
  refine ⟨by decide +kernel, ?_⟩
  exact ⟨[], xs, [], rfl, by omega, h⟩

def t_is_action_d748 : PSx Unit := (qSeq (qIf (qOr (qNot (qB (qIsi "tuple" (qVar 0)))) (qOr (qB (qBin eqD (qVar 0) (qTup qNil))) (qNot (qB (qIsi "str" (qBin ixD (qVar 0) (qC (.int 0)))))))) (qRet (qC (.bl false))) qNext) (qRet (qAndV (qInK [("set_mark", .int 2), ("set_weight", .int 2), ("add_item", .int 2), ("drop_item", .int 1), ("add_rule", .int 2), ("drop_rule", .int 1)] (qBin ixD (qVar 0) (qC (.int 0)))) (qBin eqD (qCall (fn1 lenD) (qCons (qVar 0) qNil)) (qBin addD (qC (.int 1)) (qIxK [("set_mark", .int 2), ("set_weight", .int 2), ("add_item", .int 2), ("drop_item", .int 1), ("add_rule", .int 2), ("drop_rule", .int 1)] (qBin ixD (qVar 0) (qC (.int 0)))))))))

def sp_is_action_d748 : Spec0 := fun ds R => ∃ a : Act, ds = [a.d] ∧ a.d.pln = true ∧ a.d.dep ≤ 60 ∧ R (.bl true)
theorem len_is_action_d748 (ds : List D) (R : DK) (h : sp_is_action_d748 ds R) : ds.length = 1 := by
  obtain ⟨_, rfl, _⟩ := h; rfl
theorem p_is_action_d748 (ds : List D) (R : DK) (h : sp_is_action_d748 ds R) : t_is_action_d748 { nx := fun _ => R .non, rt := fun d _ => R d } ⟨startL 1 ds, ()⟩ := by
  obtain ⟨a, rfl, hp, hd, h⟩ := h
  have ok : EqOk a.d (.tup []) := ⟨hp, rfl, by omega, by decide⟩
  have line : (10000000 : Nat) ≤ sizeLine := line_big
  refine seq_mid (M := fun s' => s' = ⟨[some (.val a.d)], ()⟩) ?_ ?_
  rotate_left
  · intro N hN
    refine ⟨(fun p q => by cases q), ?_⟩
    refine brF rfl ?_
    refine ⟨(by show 0 ≤ sizeLine; omega), (by exact ok), brF (by cases a <;> rfl) ?_⟩
    refine ⟨.str a.nm, rfl, (fun p q => by cases q), brF rfl (hN _ rfl)⟩
  rintro _ rfl
  cases a with
  | setMark v m => exact ⟨_, rfl, "set_mark", .int 2, rfl, .head _, brT rfl ⟨_, rfl, "set_mark", .int 2, rfl, .head _, rfl, ⟨rfl, rfl, Nat.zero_le _, Nat.zero_le _⟩, h⟩⟩
  | setWeight v m => exact ⟨_, rfl, "set_weight", .int 2, rfl, .tail _ (.head _), brT rfl ⟨_, rfl, "set_weight", .int 2, rfl, .tail _ (.head _), rfl, ⟨rfl, rfl, Nat.zero_le _, Nat.zero_le _⟩, h⟩⟩
  | addItem v m => exact ⟨_, rfl, "add_item", .int 2, rfl, .tail _ (.tail _ (.head _)), brT rfl ⟨_, rfl, "add_item", .int 2, rfl, .tail _ (.tail _ (.head _)), rfl, ⟨rfl, rfl, Nat.zero_le _, Nat.zero_le _⟩, h⟩⟩
  | dropItem v => exact ⟨_, rfl, "drop_item", .int 1, rfl, .tail _ (.tail _ (.tail _ (.head _))), brT rfl ⟨_, rfl, "drop_item", .int 1, rfl, .tail _ (.tail _ (.tail _ (.head _))), rfl, ⟨rfl, rfl, Nat.zero_le _, Nat.zero_le _⟩, h⟩⟩
  | addRule v m => exact ⟨_, rfl, "add_rule", .int 2, rfl, .tail _ (.tail _ (.tail _ (.tail _ (.head _)))), brT rfl ⟨_, rfl, "add_rule", .int 2, rfl, .tail _ (.tail _ (.tail _ (.tail _ (.head _)))), rfl, ⟨rfl, rfl, Nat.zero_le _, Nat.zero_le _⟩, h⟩⟩
  | dropRule v => exact ⟨_, rfl, "drop_rule", .int 1, rfl, .tail _ (.tail _ (.tail _ (.tail _ (.tail _ (.head _))))), brT rfl ⟨_, rfl, "drop_rule", .int 1, rfl, .tail _ (.tail _ (.tail _ (.tail _ (.tail _ (.head _))))), rfl, ⟨rfl, rfl, Nat.zero_le _, Nat.zero_le _⟩, h⟩⟩

def t_Book_performL_64d2 (CBook : Addr) (lis : LF GhL) : PSXx GhL := (xFor (qEnum (qCons (qVar 1) qNil)) (.tp [(.nm 3), (.nm 4)]) (xSeq (xs0 (qDrop (nx0 (qMethI CBook "keep" (sp_Book_keep_3d59 CBook) (qVar 0) (qCons (qVar 4) qNil))))) (xs0 (qIf (qB (qBin (notL lis) (qVar 2) (qC .non))) (qSeq ((xFSet CBook "is_busy" (xe0 (qC (.bl true))) (qVar 0)) fun _ _ => False) (qSeq (qDrop (nx0 (qLis lis 2 (qCons (qVar 0) qNil)))) ((xFSet CBook "is_busy" (xe0 (qC (.bl false))) (qVar 0)) fun _ _ => False))) qNext))))

def LisOk (b : Bok) (p : Pan) (as : List Act) (f : SpecG GhL) (J : Nat → NB → List OB → List OB → Prop) : Prop := ∀ i < as.length, ∀ ns bs1 bs2, J i ns bs1 bs2 → ∀ (R : D → GhL → Prop) (W : Xc → GhL → Prop),
  (∀ z ns' bs1' bs2', J (i + 1) ns' bs1' bs2' → R z (ns', bs1' ++ ({ b.steps p (as.take (i + 1)) with busy := true } : Bok).ob :: bs2')) → f [.obj b.o] (ns, bs1 ++ ({ b.steps p (as.take (i + 1)) with busy := true } : Bok).ob :: bs2) R W
def sp_Book_performL_64d2 (CBook : Addr) (lis : LF GhL) : SpecG GhL := fun ds g R _ => ∃ (b : Bok) (p q : Pan) (n : Nat) (as : List Act) (f : SpecG GhL) (J : Nat → NB → List OB → List OB → Prop) (ns : NB) (bs1 bs2 : List OB), ds = [.obj b.o, .tup (as.map Act.d), .obj (lis f)] ∧ IdB CBook b.o b p n ∧ n + as.length ≤ 60 ∧ (∀ a ∈ as, a.ok) ∧ runL p as = some q ∧
  g = (ns, bs1 ++ b.ob :: bs2) ∧ J 0 ns bs1 bs2 ∧ LisOk b p as f J ∧ ∀ ns' bs1' bs2', J as.length ns' bs1' bs2' → R .non (ns', bs1' ++ (b.steps p as).ob :: bs2')
theorem len_Book_performL_64d2 (CBook : Addr) (lis : LF GhL) (ds : List D) (g : GhL) (R : D → GhL → Prop) (W : Xc → GhL → Prop) (h : sp_Book_performL_64d2 CBook lis ds g R W) : ds.length = 3 := by
  obtain ⟨_, _, _, _, _, _, _, _, _, _, rfl, _⟩ := h; rfl
theorem p_Book_performL_64d2 (CBook : Addr) (lis : LF GhL) (ds : List D) (g : GhL) (R : D → GhL → Prop) (W : Xc → GhL → Prop) (h : sp_Book_performL_64d2 CBook lis ds g R W) : t_Book_performL_64d2 CBook lis (fun x s => W x s.g) { nx := fun s => R .non s.g, rt := R } ⟨startL 6 ds, g⟩ := by
  obtain ⟨b, p, q, n, as, f, J, ns, bs1, bs2, rfl, hb, hn, ho, hr, rfl, hJ, hL, h⟩ := h
  have line : (10000000 : Nat) ≤ sizeLine := line_big
  have hC := hb.at_.C
  let St (w3 w4 w5 : Option L) (i : Nat) (ns : NB) (bs1 bs2 : List OB) : S GhL := ⟨[some (.val (.obj b.o)), some (.val (.tup (as.map Act.d))), some (.val (.obj (lis f))), w3, w4, w5], (ns, bs1 ++ (b.steps p (as.take i)).ob :: bs2)⟩
  have e0 : b.steps p (as.take 0) = b := by cases b; simp [Bok.steps, runP]
  refine ⟨fun i s => i ≤ as.length ∧ ∃ w3 w4 w5 ns bs1 bs2, J i ns bs1 bs2 ∧ s = St w3 w4 w5 i ns bs1 bs2, ⟨_, Wk.refl _, Nat.zero_le _, none, none, none, ns, bs1, bs2, hJ, ?_⟩, ?_, ?_⟩
  · show _ = (⟨_, (ns, bs1 ++ (b.steps p (as.take 0)).ob :: bs2)⟩ : S GhL)
    rw [e0]; rfl
  · rintro i d s hd ⟨hi, w3, w4, w5, ns, bs1, bs2, hj, rfl⟩
    obtain ⟨x, hx, rfl⟩ := enum_get hd
    obtain ⟨a, ha, rfl⟩ : ∃ a, as[i]? = some a ∧ a.d = x := by
      rw [List.getElem?_map] at hx
      exact Option.map_eq_some_iff.mp hx
    have hl := (List.getElem?_eq_some_iff.mp ha).1
    obtain ⟨q1, h1, hb1⟩ := hb.steps hn hr hi
    obtain ⟨q1', q2, g1, g2, g3, g4⟩ := runL_take ha hr
    rw [h1] at g1
    cases g1
    refine put_tg rfl ?_
    refine ⟨bs1, (b.steps p (as.take i)).ob, bs2, rfl, rfl, hb.at_.C, rfl, b.steps p (as.take i), q1, a, bs1, bs2, rfl, hb1.at_, ho a (List.mem_of_getElem? ha), rfl, ?_⟩
    unfold keepW
    rw [if_neg (by rw [hb1.ks]; omega), g2]
    let b2 : Bok := b.steps p (as.take (i + 1))
    have e2 : (b.steps p (as.take i)).step q2 a = b2 := steps_succ (q1 := q1) ha g4
    have i2 : b2.busy = false := hb.idle
    refine ⟨rfl, .inr ⟨f, rfl, ?_⟩⟩
    refine brT rfl ?_
    rw [e2]
    refine ⟨bs1, b2.ob, bs2, rfl, rfl, hC, (by show 4 < 1000; decide), ?_⟩
    rw [Bok.put_busy]
    refine ⟨f, rfl, ?_⟩
    refine hL i hl ns bs1 bs2 hj _ _ fun z ns' bs1' bs2' hj' => ?_
    refine ⟨bs1', ({ b2 with busy := true } : Bok).ob, bs2', rfl, rfl, hC, (by show 4 < 1000; decide), ?_⟩
    rw [Bok.put_busy]
    refine ⟨_, Wk.refl _, hl, some (.val (.int (i : Int))), some (.val a.d), w5, ns', bs1', bs2', hj', ?_⟩
    show _ = (⟨_, (ns', bs1' ++ b2.ob :: bs2')⟩ : S GhL)
    have e3 : ({ ({ b2 with busy := true } : Bok) with busy := false } : Bok) = b2 := by
      show ({ b2 with busy := false } : Bok) = b2
      rw [← i2]
    rw [e3]
    rfl
  · rintro s ⟨_, w3, w4, w5, ns', bs1', bs2', hj, rfl⟩
    have el : (enumD (as.map Act.d)).length = as.length := (enumGo_len _ 0).trans (by rw [List.length_map])
    rw [el] at hj
    show R .non (ns', bs1' ++ (b.steps p (as.take (enumD (as.map Act.d)).length)).ob :: bs2')
    rw [el, List.take_length]
    exact h _ _ _ hj

def t_Book_runL_35fc (CBook : Addr) (lis : LF GhL) : PSXx GhL := (xSeq (xDrop (qMethI CBook "need_idle" (sp_Book_need_idle_a04f CBook) (qVar 0) qNil)) (xSeq (xIf (qOr (qNot (qB (qIsLT (qVar 1)))) (qOr (qB (qBin gtD (qCall (fn1 lenD) (qCons (qVar 1) qNil)) (qC (.int 20)))) (qNot (qB (qCall (fn1 allD) (qCons (qSet (qLc (qItems (qVar 1)) (.nm 8) [8] qYes (qCallP (sp_is_action_d748) (qCons (qVar 8) qNil)))) qNil)))))) (xRaise "InvalidBatch") (xs0 qNext)) (xSeq (xs0 (qAsg (qCall (fn1 tupleD) (qCons (qVar 1) qNil)) 3)) (xSeq (xs0 (qPar 4 5 (qCons (qFI CBook "panels" (qVar 0)) (qCons (qFI CBook "kept" (qVar 0)) qNil)))) (xSeq (xFNew CBook "rows" (qBinF addF (qFSl CBook "rows" (qVar 0) (qPart (qUn negD (qC (.int 10)))) qNoPart) (qSet (qLst (qCons (qTup (qCons (qC (.str "begin")) (qCons (qCall (fn1 lenD) (qCons (qVar 3) qNil)) qNil))) qNil)))) (qVar 0)) (xSeq (xs0 (qAsg (qC (.int 0)) 6)) (xSeq (xs0 (qAsg (qC .non) 7)) (xs0 (qTryFin (qSeq (qDrop (nx0 (qMethQ CBook "perform" (sp_Book_performL_64d2 CBook lis) (qVar 0) (qCons (qVar 3) (qCons (qVar 2) qNil))))) (qSeq (qAsg (qCall (fn1 lenD) (qCons (qVar 3) qNil)) 6) (qAsg (qC (.bl true)) 7))) (qSeq ((xFSet CBook "is_busy" (xe0 (qC (.bl false))) (qVar 0)) fun _ _ => False) (qSeq (qIf (qB (qBin isND (qVar 7) (qC .non))) (qSeq ((xFSet CBook "panels" (xe0 (qVar 4)) (qVar 0)) fun _ _ => False) ((xFSet CBook "kept" (xe0 (qVar 5)) (qVar 0)) fun _ _ => False)) qNext) (qDrop (qFApp CBook "rows" (qVar 0) (qTup (qCons (qC (.str "end")) (qCons (qVar 6) qNil))))))))))))))))

def sp_Book_runL_35fc (CBook : Addr) (lis : LF GhL) : SpecG GhL := fun ds g R _ => ∃ (b : Bok) (p q : Pan) (n : Nat) (as : List Act) (f : SpecG GhL) (ns : NB) (bs1 bs2 : List OB) (v : D), ds = [.obj b.o, v, .obj (lis f)] ∧ (v = .tup (as.map Act.d) ∨ v = .lst (as.map Act.d)) ∧ IdB CBook b.o b p n ∧ n + as.length ≤ 60 ∧ as.length ≤ 20 ∧ (∀ a ∈ as, a.d.pln = true ∧ a.d.dep ≤ 60) ∧
  b.rows.length ≤ 1000 ∧ runL p as = some q ∧ g = (ns, bs1 ++ b.ob :: bs2) ∧ ∀ ra : Addr, ∃ J : Nat → NB → List OB → List OB → Prop, J 0 ns bs1 bs2 ∧ LisOk { b with ra := ra, rows := cut b.rows (some (-10)) none ++ [.tup [.str "begin", .int as.length]] } p as f J ∧
    ∀ ns' bs1' bs2', J as.length ns' bs1' bs2' → R .non (ns', bs1' ++ ({ b.steps p as with ra := ra, rows := rowsR b.rows as.length } : Bok).ob :: bs2')
theorem len_Book_runL_35fc (CBook : Addr) (lis : LF GhL) (ds : List D) (g : GhL) (R : D → GhL → Prop) (W : Xc → GhL → Prop) (h : sp_Book_runL_35fc CBook lis ds g R W) : ds.length = 3 := by
  obtain ⟨_, _, _, _, _, _, _, _, _, _, rfl, _⟩ := h; rfl
theorem p_Book_runL_35fc (CBook : Addr) (lis : LF GhL) (ds : List D) (g : GhL) (R : D → GhL → Prop) (W : Xc → GhL → Prop) (h : sp_Book_runL_35fc CBook lis ds g R W) : t_Book_runL_35fc CBook lis (fun x s => W x s.g) { nx := fun s => R .non s.g, rt := R } ⟨startL 9 ds, g⟩ := by
  obtain ⟨b, p, q, n, as, f, ns, bs1, bs2, v, rfl, hv, hb, hn, hl, ha, hw, hr, rfl, h⟩ := h
  have line : (10000000 : Nat) ≤ sizeLine := line_big
  have hC := hb.at_.C
  let V := as.map Act.d
  have vl : V.length = as.length := List.length_map _
  refine ⟨bs1, b.ob, bs2, rfl, rfl, hC, rfl, b, bs1, bs2, rfl, hC, rfl, fun _ => ?_, fun z => (by rw [hb.idle] at z; cases z)⟩
  let St (w3 w4 w5 w6 w7 w8 : Option L) (b : Bok) : S GhL := ⟨[some (.val (.obj b.o)), some (.val v), some (.val (.obj (lis f))), w3, w4, w5, w6, w7, w8], (ns, bs1 ++ b.ob :: bs2)⟩
  have it : itemsD v = some V := by rcases hv with rfl | rfl <;> rfl
  have tl : (isTy "list" v || isTy "tuple" v) = true := by rcases hv with rfl | rfl <;> rfl
  have no : ∀ p, v ≠ .obj p := by rcases hv with rfl | rfl <;> (intro p z; cases z)
  have g20 : (decide (((V.length : Nat) : Int) > 20)) = false := by rw [vl]; exact decide_eq_false (by omega)
  have alls : ∀ {R : List D → S GhL → Prop} {b : Bok}, R (V.map fun _ => .bl true) (St none none none none none none b) → lcB (.nm 8) [8] qYes (qCallP sp_is_action_d748 (qCons (qVar 8) qNil)) R V (St none none none none none none b) := fun {R b} hR => by
    refine lc_all (fun _ => .bl true) (by rw [vl]; omega) (fun d hd => ⟨_, rfl, fun T hT => ?_⟩) hR (by decide) rfl
    obtain ⟨a, ha', rfl⟩ := List.mem_map.mp hd
    exact ⟨a, rfl, (ha a ha').1, (ha a ha').2, hT⟩
  have allT : ∀ xs : List D, (asBls (xs.map fun _ => D.bl true)) = some (xs.map fun _ => true) := fun xs => by
    induction xs with
    | nil => rfl
    | cons x xs ih => show (asBls (xs.map fun _ => D.bl true)).map (true :: ·) = _; rw [ih]; rfl
  have allI : ∀ xs : List D, (xs.map fun _ => true).all id = true := fun xs => by simp
  refine ⟨no, brF (by rw [tl]; rfl) ?_⟩
  have rest : ∀ {A B : Prop}, B → Br (!(V.map fun _ => true).all id) A B := fun {A B} hB => brF (by rw [allI]; rfl) hB
  have s1 : 1 ≤ sizeLine := by omega
  have s2 : 2 ≤ sizeLine := by omega
  let b1 (ra : Addr) : Bok := { b with ra := ra, rows := cut b.rows (some (-10)) none ++ [.tup [.str "begin", .int as.length]] }
  have hb1 : ∀ ra, IdB CBook b.o (b1 ra) p n := fun ra => ⟨⟨hb.at_.C, hb.at_.at_, hb.at_.pan, hb.at_.len, hb.at_.few⟩, rfl, hb.idle, hb.ks, hb.ps⟩
  have cl : (cut b.rows (some (-10)) none).length ≤ 1000 := Nat.le_trans (by unfold cut; rw [List.length_take, List.length_drop]; omega) hw
  rcases hv with rfl | rfl
  all_goals
    refine brF g20 ?_
    refine alls (b := b) ⟨_, allT V, rest ?_⟩
    refine ⟨bs1, b.ob, bs2, .tup b.ps, rfl, rfl, hC, rfl, bs1, b.ob, bs2, .tup b.ks, rfl, rfl, hC, rfl, ?_⟩
    refine ⟨bs1, b.ob, bs2, b.ra, b.rows, rfl, rfl, hC, rfl, ?_⟩
    refine ⟨rfl, s2, s1, (by rw [List.length_singleton]; omega), ?_⟩
    refine ⟨bs1, b.ob, bs2, rfl, rfl, hC, (by show 4 < 1000; decide), fun ra => ?_⟩
    rw [Bok.put_rows]
    rw [vl]
    obtain ⟨J, hJ, hL, h⟩ := h ra
    refine ⟨bs1, (b1 ra).ob, bs2, rfl, rfl, hC, rfl, b1 ra, p, q, n, as, f, J, ns, bs1, bs2, rfl, hb1 ra, hn, (fun a h => act_pln (ha a h).1), hr, rfl, hJ, hL, fun ns' bs1' bs2' hj => ?_⟩
    let b2 : Bok := (b1 ra).steps p as
    refine ⟨bs1', b2.ob, bs2', rfl, rfl, hC, (by show 4 < 1000; decide), ?_⟩
    rw [Bok.put_busy]
    let b3 : Bok := { b2 with busy := false }
    refine brF rfl ?_
    refine ⟨bs1', b3.ob, bs2', ra, b3.rows, rfl, rfl, hC, rfl, s2, rfl, ?_, ?_⟩
    · show (cut b.rows (some (-10)) none ++ [D.tup [.str "begin", .int as.length]]).length < sizeLine
      rw [List.length_append, List.length_singleton]; omega
    rw [Bok.put_rows]
    rw [vl]
    have e : ({ b3 with ra := ra, rows := b3.rows ++ [.tup [.str "end", .int as.length]] } : Bok) = { b.steps p as with ra := ra, rows := rowsR b.rows as.length } := by
      show ({ b with ps := _, ks := _, ra := ra, rows := _, busy := false } : Bok) = { b with ps := _, ks := _, ra := ra, rows := _ }
      rw [← hb.idle]
      rfl
    rw [e]
    exact h ns' bs1' bs2' hj

def t_Book_log_00c1 (CBook : Addr) : PSXx (Unit × List OB) := (xs0 (qRet (qCall (fn1 tupleD) (qCons (qFSl CBook "rows" (qVar 0) (qPart (qUn negD (qC (.int 10)))) qNoPart) qNil))))

def sp_Book_log_00c1 (CBook : Addr) : SpecB := fun ds bs R W => ∃ (b : Bok) (bs1 bs2 : List OB), ds = [.obj b.o] ∧ b.C = CBook ∧ bs = bs1 ++ b.ob :: bs2 ∧ b.rows.length ≤ 1000 ∧ R (.tup (cut b.rows (some (-10)) none)) bs
theorem len_Book_log_00c1 (CBook : Addr) (ds : List D) (bs : List OB) (R : D → List OB → Prop) (W : Xc → List OB → Prop) (h : sp_Book_log_00c1 CBook ds bs R W) : ds.length = 1 := by
  obtain ⟨_, _, _, rfl, _⟩ := h; rfl
theorem p_Book_log_00c1 (CBook : Addr) (ds : List D) (bs : List OB) (R : D → List OB → Prop) (W : Xc → List OB → Prop) (h : sp_Book_log_00c1 CBook ds bs R W) : t_Book_log_00c1 CBook (fun x s => W x s.g.2) { nx := fun s => R .non s.g.2, rt := fun d g => R d g.2 } ⟨startL 1 ds, ((), bs)⟩ := by
  obtain ⟨b, bs1, bs2, rfl, hC, rfl, hl, h⟩ := h
  exact ⟨bs1, b.ob, bs2, b.ra, b.rows, rfl, rfl, hC, rfl, rfl, h⟩

def t_Book___len___d650 (CBook : Addr) : PSXx (Unit × List OB) := (xs0 (qRet (qCall (fn1 lenD) (qCons (qFI CBook "kept" (qVar 0)) qNil))))

def sp_Book___len___d650 (CBook : Addr) : SpecB := fun ds bs R _ => ∃ (b : Bok) (bs1 bs2 : List OB), ds = [.obj b.o] ∧ b.C = CBook ∧ bs = bs1 ++ b.ob :: bs2 ∧ R (.int (b.ks.length : Nat)) bs
theorem len_Book___len___d650 (CBook : Addr) (ds : List D) (bs : List OB) (R : D → List OB → Prop) (W : Xc → List OB → Prop) (h : sp_Book___len___d650 CBook ds bs R W) : ds.length = 1 := by
  obtain ⟨_, _, _, rfl, _⟩ := h; rfl
theorem p_Book___len___d650 (CBook : Addr) (ds : List D) (bs : List OB) (R : D → List OB → Prop) (W : Xc → List OB → Prop) (h : sp_Book___len___d650 CBook ds bs R W) : t_Book___len___d650 CBook (fun x s => W x s.g.2) { nx := fun s => R .non s.g.2, rt := fun d g => R d g.2 } ⟨startL 1 ds, ((), bs)⟩ := by
  obtain ⟨b, bs1, bs2, rfl, hC, rfl, h⟩ := h
  exact ⟨bs1, b.ob, bs2, .tup b.ks, rfl, rfl, hC, rfl, h⟩

def t_full_right_e03f (CBook : Addr) (E : EF) : PSXx (Unit × List OB) := (xSeq (xs0 (qAsgOwn (qLst qNil) 2)) (xSeq (xDrop (qRunL CBook "run" (sp_Book_runL_35fc CBook) 2 3 (qCallQ (sp_hear_2917 CBook E) (qCons (qVar 3) (qCons (qVar 2) (qCons (qVar 1) qNil)))) (qVar 0) (qSet (qLst qNil)))) (xSeq (xs0 (qIf (qOr (qB (qCmpOwn 2 neD (qSet (qLst qNil)))) (qOr (qB (qBin neD (nx0 (qMethI CBook "log" (sp_Book_log_00c1 CBook) (qVar 0) qNil)) (qTup (qCons (qTup (qCons (qC (.str "begin")) (qCons (qC (.int 0)) qNil))) (qCons (qTup (qCons (qC (.str "end")) (qCons (qC (.int 0)) qNil))) qNil))))) (qB (qBin neD (qDunL CBook (sp_Book___len___d650 CBook) (qVar 0)) (qC (.int 60)))))) (qRet (qC (.bl false))) qNext)) (xSeq (xDrop (qMethI CBook "undo" (sp_Book_undo_292d CBook) (qVar 0) qNil)) (xSeq (xDrop (qRunL CBook "run" (sp_Book_runL_35fc CBook) 2 3 (qCallQ (sp_hear_2917 CBook E) (qCons (qVar 3) (qCons (qVar 2) (qCons (qVar 1) qNil)))) (qVar 0) (qTup (qCons (qVar 1) qNil)))) (xs0 (qRet (qAndV (qCmpOwn 2 eqD (qSet (qLst (qCons (qC (.str "Busy")) qNil)))) (qBin eqD (qDunL CBook (sp_Book___len___d650 CBook) (qVar 0)) (qC (.int 60)))))))))))

def sp_full_right_e03f (CBook : Addr) (E : EF) : SpecG (Unit × List OB) := fun ds g R _ => ∃ (b : Bok) (p p0 q : Pan) (a : Act) (bs1 bs2 : List OB), ds = [.obj b.o, a.d] ∧ IdB CBook b.o b p 60 ∧ b.rows = [] ∧ a.d.pln = true ∧ a.d.dep ≤ 60 ∧
  BokAt CBook { b with ps := b.ps.dropLast, ks := b.ks.dropLast } p0 ∧ a.run p0 = .ok q ∧ g = ((), bs1 ++ b.ob :: bs2) ∧ ∀ b' : Bok, R (.bl true) ((), bs1 ++ b'.ob :: bs2)
theorem len_full_right_e03f (CBook : Addr) (E : EF) (ds : List D) (g : Unit × List OB) (R : D → Unit × List OB → Prop) (W : Xc → Unit × List OB → Prop) (h : sp_full_right_e03f CBook E ds g R W) : ds.length = 2 := by
  obtain ⟨_, _, _, _, _, _, _, rfl, _⟩ := h; rfl
theorem p_full_right_e03f (CBook : Addr) (E : EF) (ds : List D) (g : Unit × List OB) (R : D → Unit × List OB → Prop) (W : Xc → Unit × List OB → Prop) (h : sp_full_right_e03f CBook E ds g R W) : t_full_right_e03f CBook E (fun x s => W x s.g) { nx := fun s => R .non s.g, rt := R } ⟨startL 4 ds, g⟩ := by
  obtain ⟨b, p, p0, q, a, bs1, bs2, rfl, hb, hr, ha1, ha2, hb0, hq, rfl, h⟩ := h
  have line : (10000000 : Nat) ≤ sizeLine := line_big
  have hC := hb.at_.C
  refine ⟨Nat.zero_le _, ?_⟩
  refine ⟨bs1, b.ob, bs2, rfl, rfl, hC, rfl, Nat.zero_le _, [], rfl, fun ad lis => ⟨_, fun _ _ _ _ h => h, ?_⟩⟩
  refine ⟨b, p, p, 60, [], _, [(ad, [])], bs1, bs2, .lst [], rfl, .inr rfl, hb, by decide, by decide, (fun a h => by cases h), by rw [hr]; decide, rfl, rfl, fun ra => ⟨fun _ ns' bs1' bs2' => ns' = [(ad, [])] ∧ bs1' = bs1 ∧ bs2' = bs2, ⟨rfl, rfl, rfl⟩, fun i hi => absurd hi (Nat.not_lt_zero i), ?_⟩⟩
  rintro ns' bs1' bs2' ⟨rfl, rfl, rfl⟩
  refine ⟨[], rfl, ?_⟩
  have e0 : b.steps p [] = b := by cases b; simp [Bok.steps, runP]
  rw [e0, hr]
  let b1 : Bok := { b with ra := ra, rows := rowsR [] 0 }
  refine ⟨⟨_, rfl⟩, Nat.zero_le _, [], rfl, ?_⟩
  refine ⟨⟨rfl, rfl, by decide, by decide⟩, _, rfl, brF rfl ?_⟩
  have s2 : 2 ≤ sizeLine := by omega
  refine ⟨bs1', b1.ob, bs2', rfl, rfl, hC, rfl, b1, bs1', bs2', rfl, hC, rfl, (by show (rowsR [] 0).length ≤ 1000; decide +kernel), ?_⟩
  refine ⟨s2, s2, s2, ⟨by show (D.tup (cut (rowsR [] 0) (some (-10)) none)).pln = true; decide +kernel, by decide +kernel, by show (D.tup (cut (rowsR [] 0) (some (-10)) none)).dep ≤ 64; decide +kernel, by decide +kernel⟩, ?_⟩
  refine brF (by show (!(D.tup (cut (rowsR [] 0) (some (-10)) none)).eqv (D.tup [D.tup [D.str "begin", D.int 0], D.tup [D.str "end", D.int 0]])) = false; decide +kernel) ?_
  refine ⟨bs1', b1.ob, bs2', rfl, rfl, hC, ?_⟩
  refine ⟨b1, bs1', bs2', rfl, hC, rfl, b.ks.length, rfl, (by rw [hb.ks]; decide), ?_⟩
  refine ⟨⟨rfl, rfl, by simp [D.dep], by decide⟩, ?_⟩
  refine brF (by show (!(D.eqv (.int ((b.ks.length : Nat) : Int)) (.int 60))) = false; rw [hb.ks]; decide) ?_
  let b2 : Bok := { b1 with ps := b.ps.dropLast, ks := b.ks.dropLast }
  refine ⟨bs1', b1.ob, bs2', rfl, rfl, hC, rfl, b1, bs1', bs2', rfl, hC, rfl, fun z => (by rw [show b1.busy = false from hb.idle] at z; cases z), fun _ z => (by have := hb.ks; rw [show b.ks = [] from z] at this; cases this), fun _ _ => ?_⟩
  have hb2 : IdB CBook b2.o b2 p0 59 := ⟨⟨hb0.C, hb0.at_, hb0.pan, hb0.len, hb0.few⟩, rfl, hb.idle, by show b.ks.dropLast.length = 59; rw [List.length_dropLast, hb.ks], by show b.ps.dropLast.length = 60; rw [List.length_dropLast, hb.ps]⟩
  refine ⟨bs1', b2.ob, bs2', rfl, rfl, hC, rfl, (by show 1 ≤ sizeLine; omega), [], rfl, fun ad lis => ⟨_, fun _ _ _ _ h => h, ?_⟩⟩
  have hq1 : runL p0 [a] = some q := by unfold runL; rw [hq]; rfl
  refine ⟨b2, p0, q, 59, [a], _, [(ad, [])], bs1', bs2', .tup [a.d], rfl, .inl rfl, hb2, (by show 59 + 1 ≤ 60; decide), (by show 1 ≤ 20; decide), (fun a' h => by rw [List.mem_singleton.mp h]; exact ⟨ha1, ha2⟩), (by show (rowsR [] 0).length ≤ 1000; decide +kernel), hq1, rfl, fun ra2 => ⟨fun i ns' x y => ns' = [(ad, if i = 0 then [] else [.str "Busy"])] ∧ x = bs1' ∧ y = bs2', ⟨rfl, rfl, rfl⟩, ?_, ?_⟩⟩
  · intro i hi ns x y hj R W hR
    obtain rfl : i = 0 := by have : i < 1 := hi; omega
    obtain ⟨rfl, rfl, rfl⟩ := hj
    obtain ⟨q1, h1, hb4⟩ := hb2.steps (as := [a]) (by show 59 + 1 ≤ 60; decide) hq1 (i := 1) (Nat.le_refl _)
    obtain rfl : q1 = q := by
      have h1 : runL p0 [a] = some q1 := h1
      rw [hq1] at h1; exact (Option.some.inj h1).symm
    have h4 := hb4.at_
    let b3 : Bok := { (({ b2 with ra := ra2, rows := cut b2.rows (some (-10)) none ++ [.tup [.str "begin", .int ([a].length : Nat)]] } : Bok).steps p0 ([a].take 1)) with busy := true }
    refine ⟨.obj b3.o, rfl, b3, q1, a, ad, [], x, y, rfl, ⟨h4.C, h4.at_, h4.pan, h4.len, h4.few⟩, act_pln ha1, rfl, by decide, rfl, ?_⟩
    exact hR (.bl true) [(ad, [.str "Busy"])] x y ⟨rfl, rfl, rfl⟩
  · rintro ns' x y ⟨rfl, rfl, rfl⟩
    refine ⟨[.str "Busy"], rfl, ?_⟩
    refine ⟨⟨_, rfl⟩, (by show 1 ≤ sizeLine; omega), [.str "Busy"], rfl, ?_⟩
    refine ⟨⟨by decide +kernel, by decide +kernel, by decide +kernel, by decide +kernel⟩, _, rfl, ?_⟩
    refine brT (by decide +kernel) ?_
    obtain ⟨q1, h1, hb4⟩ := hb2.steps (as := [a]) (by show 59 + 1 ≤ 60; decide) hq1 (i := 1) (Nat.le_refl _)
    let b6 : Bok := { b2.steps p0 [a] with ra := ra2, rows := rowsR b2.rows ([a].length) }
    have hk6 : b6.ks.length = 60 := hb4.ks
    refine ⟨x, b6.ob, y, rfl, rfl, hC, ?_⟩
    refine ⟨b6, x, y, rfl, hC, rfl, b6.ks.length, rfl, (by rw [hk6]; decide), ?_⟩
    refine ⟨⟨rfl, rfl, by simp [D.dep], by decide⟩, ?_⟩
    have e6 : D.eqv (.int ((b6.ks.length : Nat) : Int)) (.int 60) = true := by rw [hk6]; decide
    have e7 : D.eqv (.int (({ b2.steps p0 [a] with ra := ra2, rows := rowsR b2.rows ([a].length) } : Bok).ks.length : Nat)) (.int 60) = true := e6
    have hh := h b6
    rw [← e6] at hh
    exact hh

def t_undone_a4b1 (CBook : Addr) (E : EF) : PSXx (Unit × List OB) := (xSeq (xs0 (qTryAs (lookT [("Busy", "MarksError", true), ("NothingToUndo", "MarksError", true)]) "MarksError" 1 (xDrop (qMethI CBook "undo" (sp_Book_undo_292d CBook) (qVar 0) qNil)) (fun x a => (qRet (qHot E ["Busy", "NothingToUndo"] 1 x a (sp_class_4baa E)))))) (xs0 (qRet (qC (.str "")))))

def sp_undone_a4b1 (CBook : Addr) (E : EF) : SpecB := fun ds bs R _ => ∃ (b : Bok) (bs1 bs2 : List OB), ds = [.obj b.o] ∧ b.C = CBook ∧ bs = bs1 ++ b.ob :: bs2 ∧ (b.busy = true → R (.str "Busy") bs) ∧ (b.busy = false → b.ks = [] → R (.str "NothingToUndo") bs) ∧
  (b.busy = false → b.ks ≠ [] → R (.str "") (bs1 ++ ({ b with ps := b.ps.dropLast, ks := b.ks.dropLast } : Bok).ob :: bs2))
theorem len_undone_a4b1 (CBook : Addr) (E : EF) (ds : List D) (bs : List OB) (R : D → List OB → Prop) (W : Xc → List OB → Prop) (h : sp_undone_a4b1 CBook E ds bs R W) : ds.length = 1 := by
  obtain ⟨_, _, _, rfl, _⟩ := h; rfl
theorem p_undone_a4b1 (CBook : Addr) (E : EF) (ds : List D) (bs : List OB) (R : D → List OB → Prop) (W : Xc → List OB → Prop) (h : sp_undone_a4b1 CBook E ds bs R W) : t_undone_a4b1 CBook E (fun x s => W x s.g.2) { nx := fun s => R .non s.g.2, rt := fun d g => R d g.2 } ⟨startL 2 ds, ((), bs)⟩ := by
  obtain ⟨b, bs1, bs2, rfl, hC, rfl, h1, h2, h3⟩ := h
  refine ⟨bs1, b.ob, bs2, rfl, rfl, hC, rfl, b, bs1, bs2, rfl, hC, rfl, fun e => ?_, fun e1 e2 => ?_, fun e1 e2 => h3 e1 e2⟩
  · exact ⟨rfl, fun ad => ⟨rfl, by decide +kernel, "Busy", _, by decide +kernel, rfl, by decide +kernel, h1 e⟩⟩
  · exact ⟨rfl, fun ad => ⟨rfl, by decide +kernel, "NothingToUndo", _, by decide +kernel, rfl, by decide +kernel, h2 e1 e2⟩⟩

def t_is_tuple_7f37 : PSx Unit := (qRet (qAndV (qIsi "tuple" (qVar 0)) (qChain leD leD (qVar 1) (qCall (fn1 lenD) (qCons (qVar 0) qNil)) (qVar 2))))

def sp_is_tuple_7f37 : Spec0 := fun ds R => ∃ (v : D) (lo hi : Int), ds = [v, .int lo, .int hi] ∧ (∀ p, v ≠ .obj p) ∧ R (.bl (isTup lo hi v))
theorem len_is_tuple_7f37 (ds : List D) (R : DK) (h : sp_is_tuple_7f37 ds R) : ds.length = 3 := by
  obtain ⟨_, _, _, rfl, _⟩ := h; rfl
theorem p_is_tuple_7f37 (ds : List D) (R : DK) (h : sp_is_tuple_7f37 ds R) : t_is_tuple_7f37 { nx := fun _ => R .non, rt := fun d _ => R d } ⟨startL 3 ds, ()⟩ := by
  obtain ⟨v, lo, hi, rfl, ho, h⟩ := h
  refine ⟨ho, ⟨fun c => ?_, fun c => ?_⟩⟩
  · obtain ⟨xs, rfl⟩ : ∃ xs, v = .tup xs := by cases v <;> first | exact ⟨_, rfl⟩ | cases c
    have h : R (.bl (decide (lo ≤ (xs.length : Int)) && decide ((xs.length : Int) ≤ hi))) := h
    show (match (D.bl (decide (lo ≤ (xs.length : Int)))) with
      | .bl true => R (.bl (decide ((xs.length : Int) ≤ hi)))
      | .bl false => R (.bl false)
      | _ => False)
    cases c : decide (lo ≤ (xs.length : Int)) with
    | true => rw [c, Bool.true_and] at h; exact h
    | false => rw [c, Bool.false_and] at h; exact h
  · have e : isTup lo hi v = false := by cases v <;> first | rfl | cases c
    rw [e] at h; exact h

def t_item_fault_6a6b : PSx Unit := (qSeq (qIf (qNot (qB (qCallP (sp_is_tuple_7f37) (qCons (qVar 1) (qCons (qC (.int 2)) (qCons (qC (.int 2)) qNil)))))) (qRet (qTup (qCons (qTup (qCons (qC (.int 0)) (qCons (qVar 0) qNil))) (qCons (qC (.str "item")) qNil)))) qNext) (qSeq (qIf (qNot (qB (qCallP (sp_is_mark_f168) (qCons (qBin ixD (qVar 1) (qC (.int 0))) qNil)))) (qRet (qTup (qCons (qTup (qCons (qC (.int 0)) (qCons (qVar 0) (qCons (qC (.int 0)) qNil)))) (qCons (qC (.str "mark")) qNil)))) qNext) (qRet (qIfE (qB (qCallP (sp_is_weight_6941) (qCons (qBin ixD (qVar 1) (qC (.int 1))) qNil))) (qC .non) (qTup (qCons (qTup (qCons (qC (.int 0)) (qCons (qVar 0) (qCons (qC (.int 1)) qNil)))) (qCons (qC (.str "weight")) qNil)))))))

def sp_item_fault_6a6b : Spec0 := fun ds R => ∃ (k : Nat) (d : D), ds = [natD k, d] ∧ d.plz = true ∧ R (itF k d)
theorem len_item_fault_6a6b (ds : List D) (R : DK) (h : sp_item_fault_6a6b ds R) : ds.length = 2 := by
  obtain ⟨_, d, rfl, _⟩ := h; rfl
theorem p_item_fault_6a6b (ds : List D) (R : DK) (h : sp_item_fault_6a6b ds R) : t_item_fault_6a6b { nx := fun _ => R .non, rt := fun d _ => R d } ⟨startL 2 ds, ()⟩ := by
  obtain ⟨k, d, rfl, hz, h⟩ := h
  have line : (10000000 : Nat) ≤ sizeLine := line_big
  refine ⟨d, 2, 2, rfl, plz_obj hz, ?_⟩
  cases ht : isTup 2 2 d with
  | false =>
    rw [itF_no ht] at h
    exact ⟨fun _ => ⟨(by show 2 ≤ sizeLine; omega), (by show 2 ≤ sizeLine; omega), h⟩, fun hc => (by cases hc)⟩
  | true =>
    obtain ⟨a, b, rfl⟩ := tup2 ht
    have za := plz_obj (plzs_iff.mp hz a (by simp))
    have zb := plz_obj (plzs_iff.mp hz b (by simp))
    refine ⟨fun hc => (by cases hc), fun _ => ⟨a, rfl, a, rfl, za, ?_⟩⟩
    have e : itF k (.tup [a, b]) = if inI (-(10 ^ 9)) (10 ^ 9) a then (if inI 1 (10 ^ 6) b then .non else fltD [0, k, 1] "weight") else fltD [0, k, 0] "mark" := rfl
    rw [e] at h
    cases ha : inI (-(10 ^ 9)) (10 ^ 9) a with
    | false =>
      rw [ha] at h
      exact ⟨fun _ => ⟨(by show 3 ≤ sizeLine; omega), (by show 2 ≤ sizeLine; omega), h⟩, fun hc => (by cases hc)⟩
    | true =>
      rw [ha] at h
      refine ⟨fun hc => (by cases hc), fun _ => ⟨b, rfl, b, rfl, zb, ?_⟩⟩
      cases hb : inI 1 (10 ^ 6) b with
      | true => rw [hb] at h; exact ⟨fun _ => h, fun hc => (by cases hc)⟩
      | false => rw [hb] at h; exact ⟨fun hc => (by cases hc), fun _ => ⟨(by show 3 ≤ sizeLine; omega), (by show 2 ≤ sizeLine; omega), h⟩⟩

def t_rule_fault_c7d6 : PSx Unit := (qSeq (qIf (qNot (qB (qCallP (sp_is_tuple_7f37) (qCons (qVar 1) (qCons (qC (.int 2)) (qCons (qC (.int 2)) qNil)))))) (qRet (qTup (qCons (qTup (qCons (qC (.int 1)) (qCons (qVar 0) qNil))) (qCons (qC (.str "rule")) qNil)))) qNext) (qSeq (qIf (qNot (qB (qCallP (sp_is_within_3133) (qCons (qBin ixD (qVar 1) (qC (.int 0))) (qCons (qC (.int 0)) (qCons (qBin subD (qVar 2) (qC (.int 1))) qNil)))))) (qRet (qTup (qCons (qTup (qCons (qC (.int 1)) (qCons (qVar 0) (qCons (qC (.int 0)) qNil)))) (qCons (qC (.str "low")) qNil)))) qNext) (qSeq (qIf (qOr (qNot (qB (qCallP (sp_is_within_3133) (qCons (qBin ixD (qVar 1) (qC (.int 1))) (qCons (qC (.int 0)) (qCons (qBin subD (qVar 2) (qC (.int 1))) qNil)))))) (qB (qBin eqD (qBin ixD (qVar 1) (qC (.int 0))) (qBin ixD (qVar 1) (qC (.int 1)))))) (qRet (qTup (qCons (qTup (qCons (qC (.int 1)) (qCons (qVar 0) (qCons (qC (.int 1)) qNil)))) (qCons (qC (.str "high")) qNil)))) qNext) (qRet (qC .non)))))

def sp_rule_fault_c7d6 : Spec0 := fun ds R => ∃ (n k : Nat) (d : D), ds = [natD k, d, natD n] ∧ d.plz = true ∧ R (ruF n k d)
theorem len_rule_fault_c7d6 (ds : List D) (R : DK) (h : sp_rule_fault_c7d6 ds R) : ds.length = 3 := by
  obtain ⟨_, _, d, rfl, _⟩ := h; rfl
theorem p_rule_fault_c7d6 (ds : List D) (R : DK) (h : sp_rule_fault_c7d6 ds R) : t_rule_fault_c7d6 { nx := fun _ => R .non, rt := fun d _ => R d } ⟨startL 3 ds, ()⟩ := by
  obtain ⟨n, k, d, rfl, hz, h⟩ := h
  have line : (10000000 : Nat) ≤ sizeLine := line_big
  refine ⟨d, 2, 2, rfl, plz_obj hz, ?_⟩
  cases ht : isTup 2 2 d with
  | false =>
    rw [ruF_no ht] at h
    exact ⟨fun _ => ⟨(by show 2 ≤ sizeLine; omega), (by show 2 ≤ sizeLine; omega), h⟩, fun hc => (by cases hc)⟩
  | true =>
    obtain ⟨a, b, rfl⟩ := tup2 ht
    have za := plz_obj (plzs_iff.mp hz a (by simp))
    have zb := plz_obj (plzs_iff.mp hz b (by simp))
    refine ⟨fun hc => (by cases hc), fun _ => ⟨a, rfl, a, 0, (n : Int) - 1, rfl, za, ?_⟩⟩
    have e : ruF n k (.tup [a, b]) = if inI 0 ((n : Int) - 1) a then (if inI 0 ((n : Int) - 1) b && !D.eqv a b then .non else fltD [1, k, 1] "high") else fltD [1, k, 0] "low" := rfl
    rw [e] at h
    cases ha : inI 0 ((n : Int) - 1) a with
    | false =>
      rw [ha] at h
      exact ⟨fun _ => ⟨(by show 3 ≤ sizeLine; omega), (by show 2 ≤ sizeLine; omega), h⟩, fun hc => (by cases hc)⟩
    | true =>
      rw [ha] at h
      obtain ⟨i, rfl, _⟩ := inI_int ha
      refine ⟨fun hc => (by cases hc), fun _ => ⟨b, rfl, b, 0, (n : Int) - 1, rfl, zb, ?_⟩⟩
      cases hb : inI 0 ((n : Int) - 1) b with
      | false =>
        rw [hb, Bool.false_and] at h
        exact ⟨fun _ => ⟨fun _ => ⟨(by show 3 ≤ sizeLine; omega), (by show 2 ≤ sizeLine; omega), h⟩, fun hc => (by cases hc)⟩, fun hc => (by cases hc)⟩
      | true =>
        rw [hb, Bool.true_and] at h
        obtain ⟨j, rfl, _⟩ := inI_int hb
        refine ⟨fun hc => (by cases hc), fun _ => ⟨_, rfl, _, rfl, ⟨rfl, rfl, Nat.zero_le 64, Nat.zero_le 64⟩, ?_⟩⟩
        cases he : D.eqv (.int i) (.int j) with
        | true => rw [he] at h; exact ⟨fun _ => ⟨(by show 3 ≤ sizeLine; omega), (by show 2 ≤ sizeLine; omega), h⟩, fun hc => (by cases hc)⟩
        | false => rw [he] at h; exact ⟨fun hc => (by cases hc), fun _ => h⟩

def t_find_fault_effe : PSx Unit := (qSeq (qIf (qNot (qB (qCallP (sp_is_tuple_7f37) (qCons (qVar 0) (qCons (qC (.int 2)) (qCons (qC (.int 2)) qNil)))))) (qRet (qTup (qCons (qTup qNil) (qCons (qC (.str "panel")) qNil)))) qNext) (qSeq (qIf (qNot (qB (qCallP (sp_is_tuple_7f37) (qCons (qBin ixD (qVar 0) (qC (.int 0))) (qCons (qC (.int 1)) (qCons (qC (.int 8)) qNil)))))) (qRet (qTup (qCons (qTup (qCons (qC (.int 0)) qNil)) (qCons (qC (.str "items")) qNil)))) qNext) (qSeq (qIf (qNot (qB (qCallP (sp_is_tuple_7f37) (qCons (qBin ixD (qVar 0) (qC (.int 1))) (qCons (qC (.int 0)) (qCons (qC (.int 16)) qNil)))))) (qRet (qTup (qCons (qTup (qCons (qC (.int 1)) qNil)) (qCons (qC (.str "rules")) qNil)))) qNext) (qSeq (qAsg (qSet (qLc (qEnum (qCons (qBin ixD (qVar 0) (qC (.int 0))) qNil)) (.tp [(.nm 3), (.nm 4)]) [3, 4] qYes (qCallP (sp_item_fault_6a6b) (qCons (qVar 3) (qCons (qVar 4) qNil))))) 1) (qSeq (qAsg (qBin addD (qVar 1) (qSet (qLc (qEnum (qCons (qBin ixD (qVar 0) (qC (.int 1))) qNil)) (.tp [(.nm 3), (.nm 5)]) [3, 5] qYes (qCallP (sp_rule_fault_c7d6) (qCons (qVar 3) (qCons (qVar 5) (qCons (qCall (fn1 lenD) (qCons (qBin ixD (qVar 0) (qC (.int 0))) qNil)) qNil))))))) 1) (qSeq (qFor (qItems (qVar 1)) (.nm 2) (qIf (qB (qBin notND (qVar 2) (qC .non))) (qRet (qVar 2)) qNext)) (qRet (qC .non))))))))

theorem ffD_a {a b : D} (h : isTup 1 8 a = false) : ffD (.tup [a, b]) = fltD [0] "items" := by
  show (if isTup 1 8 a = true then _ else _) = _
  rw [h]; rfl
theorem ffD_b {a b : D} (h : isTup 1 8 a = true) (h' : isTup 0 16 b = false) : ffD (.tup [a, b]) = fltD [1] "rules" := by
  show (if isTup 1 8 a = true then (if isTup 0 16 b = true then _ else _) else _) = _
  rw [h, h']; rfl
theorem ffD_c {xs ys : List D} (h : isTup 1 8 (.tup xs) = true) (h' : isTup 0 16 (.tup ys) = true) : ffD (.tup [.tup xs, .tup ys]) = fstF (faults xs ys) := by
  show (if isTup 1 8 (.tup xs) = true then (if isTup 0 16 (.tup ys) = true then fstF (faults xs ys) else _) else _) = _
  rw [h, h']; rfl
def sp_find_fault_effe : Spec0 := fun ds R => ∃ v : D, ds = [v] ∧ v.plz = true ∧ R (ffD v)
theorem len_find_fault_effe (ds : List D) (R : DK) (h : sp_find_fault_effe ds R) : ds.length = 1 := by
  obtain ⟨v, rfl, _⟩ := h; rfl
theorem p_find_fault_effe (ds : List D) (R : DK) (h : sp_find_fault_effe ds R) : t_find_fault_effe { nx := fun _ => R .non, rt := fun d _ => R d } ⟨startL 6 ds, ()⟩ := by
  obtain ⟨v, rfl, hz, h⟩ := h
  have line : (10000000 : Nat) ≤ sizeLine := line_big
  have s2 : 2 ≤ sizeLine := by omega
  refine seq_mid (M := fun s' => (∃ a b, v = .tup [a, b]) ∧ s' = ⟨[some (.val v), none, none, none, none, none], ()⟩) ?_ ?_
  rotate_left
  · intro N hN
    refine ⟨v, 2, 2, rfl, plz_obj hz, ?_⟩
    cases ht : isTup 2 2 v with
    | false =>
      rw [ffD_no ht] at h
      exact ⟨fun _ => ⟨Nat.zero_le _, s2, h⟩, fun hc => (by cases hc)⟩
    | true => exact ⟨fun hc => (by cases hc), fun _ => hN _ ⟨tup2 ht, rfl⟩⟩
  rintro _ ⟨⟨a, b, rfl⟩, rfl⟩
  have za := plzs_iff.mp hz a (by simp)
  have zb := plzs_iff.mp hz b (by simp)
  refine seq_mid (M := fun s' => isTup 1 8 a = true ∧ s' = ⟨[some (.val (.tup [a, b])), none, none, none, none, none], ()⟩) ?_ ?_
  rotate_left
  · intro N hN
    refine ⟨a, rfl, a, 1, 8, rfl, plz_obj za, ?_⟩
    cases ht : isTup 1 8 a with
    | false =>
      rw [ffD_a ht] at h
      exact ⟨fun _ => ⟨(by show 1 ≤ sizeLine; omega), s2, h⟩, fun hc => (by cases hc)⟩
    | true => exact ⟨fun hc => (by cases hc), fun _ => hN _ ⟨ht, rfl⟩⟩
  rintro _ ⟨ta, rfl⟩
  refine seq_mid (M := fun s' => isTup 0 16 b = true ∧ s' = ⟨[some (.val (.tup [a, b])), none, none, none, none, none], ()⟩) ?_ ?_
  rotate_left
  · intro N hN
    refine ⟨b, rfl, b, 0, 16, rfl, plz_obj zb, ?_⟩
    cases ht : isTup 0 16 b with
    | false =>
      rw [ffD_b ta ht] at h
      exact ⟨fun _ => ⟨(by show 1 ≤ sizeLine; omega), s2, h⟩, fun hc => (by cases hc)⟩
    | true => exact ⟨fun hc => (by cases hc), fun _ => hN _ ⟨ht, rfl⟩⟩
  rintro _ ⟨tb, rfl⟩
  obtain ⟨xs, rfl, x1, x8⟩ := tupLen (lo := 1) (hi := 8) ta
  obtain ⟨ys, rfl, _, y16⟩ := tupLen (lo := 0) (hi := 16) tb
  rw [ffD_c ta tb] at h
  have elx : (enumD xs).length = xs.length := enumGo_len xs 0
  have ely : (enumD ys).length = ys.length := enumGo_len ys 0
  let V := some (L.val (.tup [.tup xs, .tup ys]))
  refine seq_mid (M := fun s' => s' = ⟨[V, some (.val (.lst ((enumD xs).map (unp itF)))), none, none, none, none], ()⟩) ?_ ?_
  rotate_left
  · intro N hN
    refine ⟨_, rfl, ?_⟩
    refine lc_all (ds := enumD xs) (unp itF) (by omega) (fun e he => ?_) (hN _ rfl) (by decide) (by rfl)
    obtain ⟨k, x, rfl, hx⟩ := enum_mem he
    exact ⟨_, rfl, fun T h => ⟨k, x, rfl, plzs_iff.mp za x (List.mem_of_getElem? hx), by simpa [unp] using h⟩⟩
  rintro _ rfl
  refine seq_mid (M := fun s' => s' = ⟨[V, some (.val (.lst (faults xs ys))), none, none, none, none], ()⟩) ?_ ?_
  rotate_left
  · intro N hN
    refine ⟨_, rfl, ?_⟩
    refine lc_all (ds := enumD ys) (unp (ruF xs.length)) (by omega) (fun e he => ?_) ?_ (by decide) (by rfl)
    · obtain ⟨k, x, rfl, hx⟩ := enum_mem he
      exact ⟨_, rfl, fun T h => ⟨_, rfl, xs.length, k, x, rfl, plzs_iff.mp zb x (List.mem_of_getElem? hx), by simpa [unp] using h⟩⟩
    · exact ⟨by rw [List.length_map, List.length_map]; omega, hN _ rfl⟩
  rintro _ rfl
  refine ⟨fun j s => (∀ f ∈ (faults xs ys).take j, f = .non) ∧ s = ⟨[V, some (.val (.lst (faults xs ys))), none, none, none, none], ()⟩, ⟨_, Wk.refl _, by simp, rfl⟩, ?_, ?_⟩
  · rintro j f s hf ⟨hj, rfl⟩
    refine put_nm ?_
    by_cases hn : f = .non
    · subst hn
      refine ⟨fun hc => (by cases hc), fun _ => ⟨_, Wk.of (by repeat' first | exact trivial | exact .inr rfl | exact .inl rfl | refine ⟨?_, ?_⟩), fun g hg => ?_, rfl⟩⟩
      rw [List.take_add_one, hf] at hg
      rcases List.mem_append.mp hg with hg | hg
      · exact hj g hg
      · simpa using hg
    · have e := fstF_at hj hf hn
      rw [e] at h
      rcases faults_or (by omega) (by omega) f (List.mem_of_getElem? hf) with e | ⟨p, w, rfl, _⟩
      · exact absurd e hn
      · exact ⟨fun _ => h, fun hc => (by cases hc)⟩
  · rintro s ⟨hj, rfl⟩
    rw [List.take_of_length_le (Nat.le_refl _)] at hj
    rw [fstF_non hj] at h
    exact h

def t_Book___init___c536 (CBook : Addr) : PSXx (Unit × List OB) := (xSeq (xs0 (qAsg (qCallP (sp_find_fault_effe) (qCons (qVar 1) qNil)) 2)) (xSeq (xIf (qB (qBin notND (qVar 2) (qC .non))) (xs0 qNever) (xs0 qNext)) (xSeq (xFSet CBook "panels" (xe0 (qTup (qCons (qVar 1) qNil))) (qVar 0)) (xSeq (xFSet CBook "kept" (xe0 (qTup qNil)) (qVar 0)) (xSeq (xFNew CBook "rows" (qLst qNil) (qVar 0)) (xFSet CBook "is_busy" (xe0 (qC (.bl false))) (qVar 0)))))))

def sp_Book___init___c536 (CBook : Addr) : SpecB := fun ds bs R _ => ∃ (o dx : Addr) (p : Pan) (bs2 : List OB), ds = [.obj o, panD p] ∧ PanOk 8 p ∧ bs = ⟨o, CBook, dx, []⟩ :: bs2 ∧ ∀ ra : Addr, R .non ((⟨o, CBook, dx, ra, [panD p], [], [], false⟩ : Bok).ob :: bs2)
theorem len_Book___init___c536 (CBook : Addr) (ds : List D) (bs : List OB) (R : D → List OB → Prop) (W : Xc → List OB → Prop) (h : sp_Book___init___c536 CBook ds bs R W) : ds.length = 2 := by
  obtain ⟨_, _, _, _, rfl, _⟩ := h; rfl
theorem p_Book___init___c536 (CBook : Addr) (ds : List D) (bs : List OB) (R : D → List OB → Prop) (W : Xc → List OB → Prop) (h : sp_Book___init___c536 CBook ds bs R W) : t_Book___init___c536 CBook (fun x s => W x s.g.2) { nx := fun s => R .non s.g.2, rt := fun d g => R d g.2 } ⟨startL 3 ds, ((), bs)⟩ := by
  obtain ⟨o, dx, p, bs2, rfl, hp, rfl, h⟩ := h
  have line : (10000000 : Nat) ≤ sizeLine := line_big
  refine ⟨panD p, rfl, ?_, ?_⟩
  · exact (VOk.pan hp (by decide)).z
  rw [ffD_pan hp]
  refine brF rfl ?_
  let B1 : OB := ⟨o, CBook, dx, putFV "panels" (.val (.tup [panD p])) []⟩
  let B2 : OB := ⟨o, CBook, dx, putFV "kept" (.val (.tup [])) B1.fs⟩
  have l1 : B1.fs.length = 1 := rfl
  have l2 : B2.fs.length < 1000 := by
    have n1 : ¬ (("panels" : Str) = "kept") := by decide +kernel
    show (putFV "kept" (.val (.tup [])) (putFV "panels" (.val (.tup [panD p])) [])).length < 1000
    simp only [putFV, if_neg n1]; show 2 < 1000; decide
  refine ⟨(by show 1 ≤ sizeLine; omega), [], ⟨o, CBook, dx, []⟩, bs2, rfl, rfl, rfl, (by show 0 < 1000; decide), ?_⟩
  refine ⟨(by show 0 ≤ sizeLine; omega), [], B1, bs2, rfl, rfl, rfl, (by show B1.fs.length < 1000; omega), ?_⟩
  refine ⟨(by show 0 ≤ sizeLine; omega), [], B2, bs2, rfl, rfl, rfl, l2, fun ra => ?_⟩
  let B3 : OB := ⟨o, CBook, dx, putFV "rows" (.own ra []) B2.fs⟩
  have l3 : B3.fs.length < 1000 := by
    have n1 : ¬ (("panels" : Str) = "kept") := by decide +kernel
    have n2 : ¬ (("panels" : Str) = "rows") := by decide +kernel
    have n3 : ¬ (("kept" : Str) = "rows") := by decide +kernel
    show (putFV "rows" (.own ra []) (putFV "kept" (.val (.tup [])) (putFV "panels" (.val (.tup [panD p])) []))).length < 1000
    simp only [putFV, if_neg n1, if_neg n2, if_neg n3]; show 3 < 1000; decide
  refine ⟨[], B3, bs2, rfl, rfl, rfl, l3, ?_⟩
  have h := h ra
  show R .non (⟨o, CBook, dx, putFV "is_busy" (.val (.bl false)) (putFV "rows" (.own ra []) (putFV "kept" (.val (.tup [])) (putFV "panels" (.val (.tup [panD p])) [])))⟩ :: bs2)
  rw [fs_init]
  exact h

def t_Book_actions_a3eb (CBook : Addr) : PSXx (Unit × List OB) := (xs0 (qRet (qFI CBook "kept" (qVar 0))))

def sp_Book_actions_a3eb (CBook : Addr) : SpecB := fun ds bs R _ => ∃ (b : Bok) (bs1 bs2 : List OB), ds = [.obj b.o] ∧ b.C = CBook ∧ bs = bs1 ++ b.ob :: bs2 ∧ R (.tup b.ks) bs
theorem len_Book_actions_a3eb (CBook : Addr) (ds : List D) (bs : List OB) (R : D → List OB → Prop) (W : Xc → List OB → Prop) (h : sp_Book_actions_a3eb CBook ds bs R W) : ds.length = 1 := by
  obtain ⟨_, _, _, rfl, _⟩ := h; rfl
theorem p_Book_actions_a3eb (CBook : Addr) (ds : List D) (bs : List OB) (R : D → List OB → Prop) (W : Xc → List OB → Prop) (h : sp_Book_actions_a3eb CBook ds bs R W) : t_Book_actions_a3eb CBook (fun x s => W x s.g.2) { nx := fun s => R .non s.g.2, rt := fun d g => R d g.2 } ⟨startL 1 ds, ((), bs)⟩ := by
  obtain ⟨b, bs1, bs2, rfl, hC, rfl, h⟩ := h
  exact ⟨bs1, b.ob, bs2, .tup b.ks, rfl, rfl, hC, rfl, h⟩

def t_sixty_right_718b (CBook : Addr) (E : EF) : PSXx (Unit × List OB) := (xSeq (xs0 (qAsg (nx0 (qMakeI CBook (sp_Book___init___c536 CBook) (qCons (qVar 0) qNil))) 1)) (xSeq (xs0 (qAsg (qSet (qLst (qCons (qTup (qCons (qC (.str "set_mark")) (qCons (qC (.int 0)) (qCons (qC (.int 1)) qNil)))) (qCons (qTup (qCons (qC (.str "set_weight")) (qCons (qC (.int 0)) (qCons (qC (.int 2)) qNil)))) qNil)))) 2)) (xSeq (xFor (qRange1 (qCons (qC (.int 60)) qNil)) (.nm 3) (xDrop (qCallI (sp_do_b165 CBook) (qCons (qVar 1) (qCons (qBin ixD (qVar 2) (qBin modD (qVar 3) (qC (.int 2)))) qNil))))) (xSeq (xs0 (qAsg (qSet (qLst (qCons (qBin ixD (qVar 2) (qC (.int 0))) (qCons (qTup (qCons (qC (.str "set_mark")) (qCons (qC .non) (qCons (qC (.int 0)) qNil)))) (qCons (qTup (qCons (qC (.str "set_weight")) (qCons (qC (.int 0)) (qCons (qC (.int 0)) qNil)))) (qCons (qTup (qCons (qC (.str "add_item")) (qCons (qC .non) (qCons (qC (.int 0)) qNil)))) (qCons (qTup (qCons (qC (.str "drop_item")) (qCons (qUn negD (qC (.int 1))) qNil))) qNil))))))) 4)) (xSeq (xs0 (qFor (qItems (qBin addD (qVar 4) (qSet (qLst (qCons (qTup (qCons (qC (.str "add_rule")) (qCons (qC (.int 0)) (qCons (qC (.int 0)) qNil)))) (qCons (qTup (qCons (qC (.str "drop_rule")) (qCons (qUn negD (qC (.int 1))) qNil))) qNil)))))) (.nm 5) (qIf (qB (qBin neD (nx0 (qCallI (sp_limited_235d CBook E) (qCons (qVar 1) (qCons (qVar 5) qNil)))) (qC (.str "TooManyActions")))) (qRet (qC (.bl false))) qNext))) (xSeq (xs0 (qIf (qOr (qB (qBin neD (nx0 (qCallI (sp_undone_a4b1 CBook E) (qCons (qVar 1) qNil))) (qC (.str "")))) (qOr (qB (qBin neD (nx0 (qCallI (sp_limited_235d CBook E) (qCons (qVar 1) (qCons (qBin ixD (qVar 2) (qC (.int 0))) qNil)))) (qC (.str "")))) (qB (qBin neD (qDunL CBook (sp_Book___len___d650 CBook) (qVar 1)) (qC (.int 60)))))) (qRet (qC (.bl false))) qNext)) (xSeq (xs0 (qIf (qOr (qB (qBin neD (nx0 (qCallI (sp_limited_235d CBook E) (qCons (qVar 1) (qCons (qBin ixD (qVar 2) (qC (.int 1))) qNil)))) (qC (.str "TooManyActions")))) (qB (qBin neD (qBin ixD (nx0 (qMethI CBook "actions" (sp_Book_actions_a3eb CBook) (qVar 1) qNil)) (qUn negD (qC (.int 1)))) (qBin ixD (qVar 2) (qC (.int 0)))))) (qRet (qC (.bl false))) qNext)) (xRet (qCallQ (sp_full_right_e03f CBook E) (qCons (qVar 1) (qCons (qBin ixD (qVar 2) (qC (.int 1))) qNil)))))))))))

def sp_sixty_right_718b (CBook : Addr) (E : EF) : SpecG (Unit × List OB) := fun ds g R _ => ∃ (p : Pan) (bs : List OB), ds = [panD p] ∧ PanOk 8 p ∧ g = ((), bs) ∧ ∀ b' : Bok, R (.bl true) ((), b'.ob :: bs)
theorem len_sixty_right_718b (CBook : Addr) (E : EF) (ds : List D) (g : Unit × List OB) (R : D → Unit × List OB → Prop) (W : Xc → Unit × List OB → Prop) (h : sp_sixty_right_718b CBook E ds g R W) : ds.length = 1 := by
  obtain ⟨_, _, rfl, _⟩ := h; rfl
def sixA (j : Nat) : Act := if j % 2 = 0 then .setMark (.int 0) (.int 1) else .setWeight (.int 0) (.int 2)
theorem sixA_sm (j : Nat) : ∀ d ∈ (sixA j).args, ∃ i : Int, d = .int i ∧ i.natAbs ≤ 100 := by
  intro d hd
  unfold sixA at hd
  split at hd <;> (simp only [Act.args, List.mem_cons, List.not_mem_nil, or_false] at hd; rcases hd with rfl | rfl <;> exact ⟨_, rfl, by decide⟩)
theorem sixA_run {p : Pan} (hp : PanOk 8 p) (j : Nat) : ∃ p', (sixA j).run p = .ok p' := by
  have one := hp.one
  have ip : isItm p (.int 0) = true := by
    show (decide ((0 : Int) ≤ 0) && decide ((0 : Int) ≤ (p.its.length : Int) - 1)) = true
    rw [decide_eq_true (by omega : (0 : Int) ≤ (p.its.length : Int) - 1)]; rfl
  unfold sixA
  split
  · exact ⟨_, by show (if isItm p (.int 0) = false then _ else if isMk (.int 1) = false then _ else _) = _; rw [if_neg (by rw [ip]; decide), if_neg (by decide +kernel)]⟩
  · exact ⟨_, by show (if isItm p (.int 0) = false then _ else if isWt (.int 2) = false then _ else _) = _; rw [if_neg (by rw [ip]; decide), if_neg (by decide +kernel)]⟩
theorem full_actW {CB o : Addr} {b : Bok} {p : Pan} {a : Act} {R : Bok → Prop} {W : Xc → Prop} (h : IdB CB o b p 60) (q : W ⟨"TooManyActions", none⟩) : actW b p a R W := by
  unfold actW keepW
  rw [if_neg (by rw [h.idle]; decide), if_pos h.ks]
  exact q
theorem p_sixty_right_718b (CBook : Addr) (E : EF) (ds : List D) (g : Unit × List OB) (R : D → Unit × List OB → Prop) (W : Xc → Unit × List OB → Prop) (h : sp_sixty_right_718b CBook E ds g R W) : t_sixty_right_718b CBook E (fun x s => W x s.g) { nx := fun s => R .non s.g, rt := R } ⟨startL 6 ds, g⟩ := by
  obtain ⟨p, bs, rfl, hp, rfl, h⟩ := h
  have line : (10000000 : Nat) ≤ sizeLine := line_big
  have s1 : 1 ≤ sizeLine := by omega
  have s2 : 2 ≤ sizeLine := by omega
  have s3 : 3 ≤ sizeLine := by omega
  have s5 : 5 ≤ sizeLine := by omega
  let St (w1 w2 w3 w4 w5 : Option L) (bs : List OB) : S (Unit × List OB) := ⟨[some (.val (panD p)), w1, w2, w3, w4, w5], ((), bs)⟩
  refine seq_mid (M := fun s' => ∃ (o : Addr) (b : Bok), HisB CBook o b [p] [] ∧ b.rows = [] ∧ s' = St (some (.val (.obj o))) none none none none (b.ob :: bs)) ?_ ?_
  rotate_left
  · intro N hN
    refine fun o dx => ⟨o, dx, p, bs, rfl, hp, rfl, fun ra => ⟨rfl, ?_⟩⟩
    exact hN _ ⟨o, ⟨o, CBook, dx, ra, [panD p], [], [], false⟩, HisB.start hp, rfl, rfl⟩
  rintro _ ⟨o, b, hb, hr0, rfl⟩
  let A0 : D := (sixA 0).d
  let A1 : D := (sixA 1).d
  let BK := some (L.val (.obj o))
  let SM := some (L.val (.lst [A0, A1]))
  refine seq_mid (M := fun s' => s' = St BK SM none none none (b.ob :: bs)) ?_ ?_
  rotate_left
  · intro N hN
    exact ⟨s3, s3, s2, hN _ rfl⟩
  rintro _ rfl
  have iA : ∀ j : Nat, idx [A0, A1] ((j : Int) % 2) = some (sixA j).d := fun j => by
    have : (j : Int) % 2 = ((j % 2 : Nat) : Int) := by omega
    rw [this]
    have c : j % 2 = 0 ∨ j % 2 = 1 := by omega
    rcases c with c | c
    · rw [c]; show some A0 = _; unfold sixA; rw [if_pos c]; rfl
    · rw [c]; show some A1 = _; unfold sixA; rw [if_neg (by omega)]; rfl
  refine seq_mid (M := fun s' => ∃ (b : Bok) (P0 : List Pan) (q q1 : Pan) (as : List Act) (w3 : Option L), HisB CBook o b (P0 ++ [q1] ++ [q]) (as ++ [sixA 59]) ∧ as.length = 59 ∧ b.rows = [] ∧ s' = St BK SM w3 none none (b.ob :: bs)) ?_ ?_
  rotate_left
  · intro N hN
    refine ⟨⟨by decide, by decide⟩, fun j s => ∃ (b : Bok) (P0 : List Pan) (q : Pan) (as : List Act) (w3 : Option L), HisB CBook o b (P0 ++ [q]) as ∧ as.length = j ∧ b.rows = [] ∧ (0 < j → ∃ as0 P1 q1, as = as0 ++ [sixA (j - 1)] ∧ P0 = P1 ++ [q1]) ∧ s = St BK SM w3 none none (b.ob :: bs), ⟨_, Wk.refl _, b, [], p, [], none, hb, rfl, hr0, (fun z => absurd z (Nat.lt_irrefl 0)), rfl⟩, ?_, ?_⟩
    rotate_left
    · rintro s ⟨b, P0, q, as, w3, h1, h2, h3, h4, rfl⟩
      have e60 : (List.map (fun k : Nat => D.int (k : Int)) (List.range (Int.toNat 60))).length = 60 := by simp
      rw [e60] at h2 h4
      obtain ⟨as0, P1, q1, rfl, rfl⟩ := h4 (by decide)
      exact hN _ ⟨b, P1, q, q1, as0, w3, h1, by simpa using h2, h3, rfl⟩
    rintro j d s hd ⟨b, P0, q, as, w3, hb, hj, hr, _, rfl⟩
    have hj60 : j < 60 := by have := (List.getElem?_eq_some_iff.mp hd).1; simpa using this
    have e : d = natD j := by
      rw [List.getElem?_map] at hd
      have hd : Option.map (fun k : Nat => D.int k) (List.range 60)[j]? = some d := hd
      rw [List.getElem?_range hj60] at hd
      exact (Option.some.inj hd).symm
    subst e
    refine put_nm ?_
    refine ⟨(by show (0 : Int) < 2; decide), _, iA j, ?_⟩
    obtain ⟨q', hq⟩ := sixA_run hb.at_.pan j
    refine ⟨b, q, sixA j, [], bs, (by show [D.obj o, _] = [D.obj b.o, _]; rw [hb.o]), hb.at_, sm_ok (sixA_sm j), rfl, hb.idB.act hq (by omega) ?_⟩
    exact ⟨_, Wk.refl _, _, P0 ++ [q], q', as ++ [sixA j], _, hb.step hq (sixA_sm j) (by omega), by simp [hj], hr, fun _ => ⟨as, P0, q, by simp, rfl⟩, rfl⟩
  clear hb hr0 b
  rintro _ ⟨b, P0, q, q1, as, w3, hb, ha, hr0, rfl⟩
  have hbi := hb.idB
  have n60 : (as ++ [sixA 59]).length = 60 := by rw [List.length_append, ha]; rfl
  rw [n60] at hbi
  have hbA := hb.at_
  let MO : List D := [A0, (Act.setMark .non (.int 0)).d, (Act.setWeight (.int 0) (.int 0)).d, (Act.addItem .non (.int 0)).d, (Act.dropItem (.int (-1))).d]
  let M4 := some (L.val (.lst MO))
  refine seq_mid (M := fun s' => s' = St BK SM w3 M4 none (b.ob :: bs)) ?_ ?_
  rotate_left
  · intro N hN
    exact ⟨_, rfl, s3, s3, s3, s2, s5, hN _ rfl⟩
  rintro _ rfl
  refine seq_mid (M := fun s' => ∃ w5, s' = St BK SM w3 M4 w5 (b.ob :: bs)) ?_ ?_
  rotate_left
  · intro N hN
    refine ⟨s3, s2, s2, (by show 7 ≤ sizeLine; omega), ?_⟩
    let AL : List Act := [sixA 0, .setMark .non (.int 0), .setWeight (.int 0) (.int 0), .addItem .non (.int 0), .dropItem (.int (-1)), .addRule (.int 0) (.int 0), .dropRule (.int (-1))]
    have okA : ∀ a ∈ AL, a.ok := by
      intro a ha d hd x e
      subst e
      simp only [AL, List.mem_cons, List.not_mem_nil, or_false] at ha
      rcases ha with rfl | rfl | rfl | rfl | rfl | rfl | rfl <;> (simp [Act.args, sixA] at hd)
    refine ⟨fun _ s => ∃ w5, s = St BK SM w3 M4 w5 (b.ob :: bs), ⟨_, Wk.refl _, none, rfl⟩, ?_, ?_⟩
    rotate_left
    · rintro s hs
      exact hN _ hs
    rintro j d s hd ⟨w5, rfl⟩
    have hm : d ∈ AL.map Act.d := List.mem_of_getElem? hd
    obtain ⟨a, ha, rfl⟩ := List.mem_map.mp hm
    refine put_nm ?_
    refine ⟨b, q, a, [], bs, (by show [D.obj o, _] = [D.obj b.o, _]; rw [hb.o]), hbA, okA a ha, rfl, full_actW hbi ⟨by decide +kernel, ?_⟩⟩
    exact ⟨trivial, brF (by decide +kernel) ⟨_, Wk.refl _, _, rfl⟩⟩
  rintro _ ⟨w5, rfl⟩
  -- undo, one more action
  have hne : as ++ [sixA 59] ≠ [] := by simp
  have hu := hb.undo hne
  rw [List.dropLast_concat, List.dropLast_concat] at hu
  let b1 : Bok := { b with ps := b.ps.dropLast, ks := b.ks.dropLast }
  have hu : HisB CBook o b1 (P0 ++ [q1]) as := hu
  obtain ⟨q2, hq2⟩ := sixA_run hu.at_.pan 0
  have hs2 := hu.step hq2 (sixA_sm 0) (by omega)
  let b2 : Bok := b1.step q2 (sixA 0)
  have hs2 : HisB CBook o b2 (P0 ++ [q1] ++ [q2]) (as ++ [sixA 0]) := hs2
  have hi2 := hs2.idB
  have n60' : (as ++ [sixA 0]).length = 60 := by rw [List.length_append, ha]; rfl
  rw [n60'] at hi2
  refine seq_mid (M := fun s' => s' = St BK SM w3 M4 w5 (b2.ob :: bs)) ?_ ?_
  rotate_left
  · intro N hN
    refine ⟨b, [], bs, (by show [D.obj o] = [D.obj b.o]; rw [hb.o]), hb.C, rfl, fun z => (by rw [hb.idle] at z; cases z), fun _ z => ?_, fun _ _ => ?_⟩
    · rw [hb.ks] at z; simp at z
    refine ⟨trivial, brF (by decide +kernel) ?_⟩
    refine ⟨_, rfl, ?_⟩
    refine ⟨b1, q1, sixA 0, [], bs, (by show [D.obj o, _] = [D.obj b1.o, _]; rw [hu.o]; try rfl), hu.at_, sm_ok (sixA_sm 0), rfl, hu.idB.act hq2 (by rw [ha]; decide) ?_⟩
    refine ⟨trivial, brF (by decide +kernel) ?_⟩
    refine ⟨[], b2.ob, bs, rfl, (by show D.obj o = .obj b2.o; rw [hs2.o]), hs2.C, ?_⟩
    refine ⟨b2, [], bs, rfl, hs2.C, rfl, b2.ks.length, rfl, (by rw [hi2.ks]; decide), ?_⟩
    refine ⟨⟨rfl, rfl, by simp [D.dep], by decide⟩, ?_⟩
    exact brF (by show (!(D.eqv (.int ((b2.ks.length : Nat) : Int)) (.int 60))) = false; rw [hi2.ks]; decide) (hN _ rfl)
  rintro _ rfl
  refine seq_mid (M := fun s' => s' = St BK SM w3 M4 w5 (b2.ob :: bs)) ?_ ?_
  rotate_left
  · intro N hN
    refine ⟨_, rfl, ?_⟩
    refine ⟨b2, q2, sixA 1, [], bs, (by show [D.obj o, _] = [D.obj b2.o, _]; rw [hs2.o]; try rfl), hs2.at_, sm_ok (sixA_sm 1), rfl, full_actW hi2 ⟨by decide +kernel, ?_⟩⟩
    refine ⟨trivial, brF (by decide +kernel) ?_⟩
    refine ⟨[], b2.ob, bs, rfl, (by show D.obj o = .obj b2.o; rw [hs2.o]), hs2.C, rfl, b2, [], bs, rfl, hs2.C, rfl, ?_⟩
    have ek : b2.ks = as.map Act.d ++ [A0] := by rw [hs2.ks, List.map_append]; rfl
    refine ⟨_, (by rw [ek]; exact idx_last _ _), _, rfl, ?_⟩
    exact ⟨by refine .of ⟨?_, ?_, ?_, ?_⟩ <;> decide +kernel, brF (by decide +kernel) (hN _ rfl)⟩
  rintro _ rfl
  refine ⟨_, rfl, ?_⟩
  obtain ⟨q3, hq3⟩ := sixA_run hu.at_.pan 1
  have kp := Act.kp hq3
  have hu1 : ({ b2 with ps := b2.ps.dropLast, ks := b2.ks.dropLast } : Bok) = b1 := by
    show ({ b1 with ps := (b1.ps ++ [panD q2]).dropLast, ks := (b1.ks ++ [(sixA 0).d]).dropLast } : Bok) = b1
    rw [List.dropLast_concat, List.dropLast_concat]
  refine ⟨b2, q2, q1, q3, sixA 1, [], bs, (by show [D.obj o, _] = [D.obj b2.o, _]; rw [hs2.o]; try rfl), (⟨hi2.at_, rfl, hi2.idle, hi2.ks, hi2.ps⟩ : IdB CBook b2.o b2 q2 60), hr0, kp.1, Nat.le_trans kp.2.1 (by decide), ?_, hq3, rfl, fun b' => ?_⟩
  · rw [hu1]; exact hu.at_
  · exact h b'

def t_one_be76 (r : Addr) : PSx Nat := (qRet (qBin ixD (qVar 1) (qCallG (nextS r) (qCons (qVar 0) (qCons (qCall (fn1 lenD) (qCons (qVar 1) qNil)) qNil)))))

def sp_one_be76 (r : Addr) : Spec Nat := fun ds g R => ∃ xs : List D, (ds = [.obj r, .lst xs] ∨ ds = [.obj r, .tup xs]) ∧ 1 ≤ xs.length ∧ xs.length ≤ 100000 ∧ g < drawLine ∧ ∀ d ∈ xs, R d (g + 1)
theorem len_one_be76 (r : Addr) (ds : List D) (g : Nat) (R : D → Nat → Prop) (h : sp_one_be76 r ds g R) : ds.length = 2 := by
  obtain ⟨xs, rfl | rfl, _⟩ := h <;> rfl
theorem idx_mem {xs : List D} {k : Int} (k0 : 0 ≤ k) (k1 : k < xs.length) : ∃ d, idx xs k = some d ∧ d ∈ xs := by
  have hk : k.toNat < xs.length := by omega
  refine ⟨xs[k.toNat], ?_, List.getElem_mem hk⟩
  unfold idx
  rw [if_neg (by omega)]
  exact List.getElem?_eq_getElem hk
theorem p_one_be76 (r : Addr) (ds : List D) (g : Nat) (R : D → Nat → Prop) (h : sp_one_be76 r ds g R) : t_one_be76 r { nx := fun s => R .non s.g, rt := R } ⟨startL 2 ds, g⟩ := by
  obtain ⟨xs, rfl | rfl, h1, h2, hg, h⟩ := h
  · refine ⟨xs.length, rfl, by omega, by omega, hg, fun k k0 k1 => ?_⟩
    obtain ⟨d, e, hd⟩ := idx_mem k0 k1
    exact ⟨d, e, h d hd⟩
  · refine ⟨xs.length, rfl, by omega, by omega, hg, fun k k0 k1 => ?_⟩
    obtain ⟨d, e, hd⟩ := idx_mem k0 k1
    exact ⟨d, e, h d hd⟩

def t_action_0538 (r : Addr) : PSx Nat := (qSeq (qAsg (qSet (qLst (qCons (qC (.str "set_mark")) (qCons (qC (.str "set_mark")) (qCons (qC (.str "set_weight")) (qCons (qC (.str "add_item")) (qCons (qC (.str "drop_item")) (qCons (qC (.str "add_rule")) (qCons (qC (.str "add_rule")) (qCons (qC (.str "drop_rule")) qNil)))))))))) 2) (qSeq (qPar 3 4 (qCons (qCallG (sp_one_be76 r) (qCons (qVar 0) (qCons (qVar 2) qNil))) (qCons (qCall (fn1 lenD) (qCons (qBin ixD (qVar 1) (qC (.int 0))) qNil)) qNil))) (qSeq (qAsg (qCallG (nextS r) (qCons (qVar 0) (qCons (qVar 4) qNil))) 5) (qSeq (qIf (qB (qBin eqD (qVar 3) (qC (.str "set_mark")))) (qRet (qTup (qCons (qVar 3) (qCons (qVar 5) (qCons (qBin subD (qCallG (nextS r) (qCons (qVar 0) (qCons (qC (.int 19)) qNil))) (qC (.int 9))) qNil))))) qNext) (qSeq (qIf (qB (qBin eqD (qVar 3) (qC (.str "set_weight")))) (qRet (qTup (qCons (qVar 3) (qCons (qVar 5) (qCons (qBin addD (qC (.int 1)) (qCallG (nextS r) (qCons (qVar 0) (qCons (qC (.int 5)) qNil)))) qNil))))) qNext) (qSeq (qIf (qB (qBin eqD (qVar 3) (qC (.str "add_item")))) (qRet (qTup (qCons (qVar 3) (qCons (qBin subD (qCallG (nextS r) (qCons (qVar 0) (qCons (qC (.int 19)) qNil))) (qC (.int 9))) (qCons (qBin addD (qC (.int 1)) (qCallG (nextS r) (qCons (qVar 0) (qCons (qC (.int 4)) qNil)))) qNil))))) qNext) (qSeq (qIf (qB (qBin eqD (qVar 3) (qC (.str "drop_item")))) (qRet (qTup (qCons (qVar 3) (qCons (qVar 5) qNil)))) qNext) (qSeq (qIf (qB (qBin eqD (qVar 3) (qC (.str "drop_rule")))) (qRet (qTup (qCons (qVar 3) (qCons (qCallG (nextS r) (qCons (qVar 0) (qCons (qCall (fn2 max2) (qCons (qC (.int 1)) (qCons (qCall (fn1 lenD) (qCons (qBin ixD (qVar 1) (qC (.int 1))) qNil)) qNil))) qNil))) qNil)))) qNext) (qRet (qTup (qCons (qVar 3) (qCons (qVar 5) (qCons (qBin modD (qBin addD (qBin addD (qVar 5) (qC (.int 1))) (qCallG (nextS r) (qCons (qVar 0) (qCons (qCall (fn2 max2) (qCons (qC (.int 1)) (qCons (qBin subD (qVar 4) (qC (.int 1))) qNil))) qNil)))) (qCall (fn2 max2) (qCons (qC (.int 2)) (qCons (qVar 4) qNil)))) qNil)))))))))))))

def actNs : List D := [.str "set_mark", .str "set_mark", .str "set_weight", .str "add_item", .str "drop_item", .str "add_rule", .str "add_rule", .str "drop_rule"]
def Act.sm (a : Act) : Prop := ∀ d ∈ a.args, ∃ i : Int, d = .int i ∧ i.natAbs ≤ 100
theorem sm_two {a : Act} {i j : Int} (h : a.args = [.int i, .int j]) (hi : i.natAbs ≤ 100) (hj : j.natAbs ≤ 100) : a.sm := by
  intro d hd
  rw [h] at hd
  simp only [List.mem_cons, List.not_mem_nil, or_false] at hd
  rcases hd with rfl | rfl
  · exact ⟨_, rfl, hi⟩
  · exact ⟨_, rfl, hj⟩
theorem sm_one {a : Act} {i : Int} (h : a.args = [.int i]) (hi : i.natAbs ≤ 100) : a.sm := by
  intro d hd
  rw [h] at hd
  rw [List.mem_singleton.mp hd]
  exact ⟨_, rfl, hi⟩
def sp_action_0538 (r : Addr) : Spec Nat := fun ds g R => ∃ p : Pan, ds = [.obj r, panD p] ∧ PanOk 8 p ∧ g + 10 < drawLine ∧ ∀ (a : Act) (g' : Nat), a.sm → g ≤ g' → g' ≤ g + 5 → R a.d g'
theorem len_action_0538 (r : Addr) (ds : List D) (g : Nat) (R : D → Nat → Prop) (h : sp_action_0538 r ds g R) : ds.length = 2 := by
  obtain ⟨_, rfl, _⟩ := h; rfl
theorem p_action_0538 (r : Addr) (ds : List D) (g : Nat) (R : D → Nat → Prop) (h : sp_action_0538 r ds g R) : t_action_0538 r { nx := fun s => R .non s.g, rt := R } ⟨startL 6 ds, g⟩ := by
  obtain ⟨p, rfl, hp, hg, h⟩ := h
  have line : (10000000 : Nat) ≤ sizeLine := line_big
  have top := hp.top; have one := hp.one; have few := hp.few
  have li : (p.its.map itD).length = p.its.length := List.length_map _
  have lr : (p.rus.map itD).length = p.rus.length := List.length_map _
  let O := some (L.val (.obj r))
  let P := some (L.val (panD p))
  let Ns := some (L.val (.lst actNs))
  let C := some (L.val (.int ((p.its.map itD).length : Nat)))
  refine seq_mid (M := fun s' => s' = ⟨[O, P, Ns, none, none, none], g⟩) ?_ ?_
  rotate_left
  · intro N hN
    exact ⟨(by show 8 ≤ sizeLine; omega), hN _ rfl⟩
  rintro _ rfl
  refine seq_mid (M := fun s' => ∃ d ∈ actNs, s' = ⟨[O, P, Ns, some (.val d), C, none], g + 1⟩) ?_ ?_
  rotate_left
  · intro N hN
    exact ⟨actNs, .inl rfl, by decide, by decide, (by show g < drawLine; omega), fun d hd => ⟨_, rfl, hN _ ⟨d, hd, rfl⟩⟩⟩
  rintro _ ⟨d, hd, rfl⟩
  refine seq_mid (M := fun s' => ∃ k : Nat, k < p.its.length ∧ s' = ⟨[O, P, Ns, some (.val d), C, some (.val (.int (k : Nat)))], g + 2⟩) ?_ ?_
  rotate_left
  · intro N hN
    refine ⟨_, rfl, by omega, by have : ((p.its.map itD).length : Int) ≤ 8 := by omega
                                 exact Int.le_trans this (by decide), (by show g + 1 < drawLine; omega), fun k k0 k1 => ?_⟩
    have := hN ⟨[O, P, Ns, some (.val d), C, some (.val (.int (k.toNat : Nat)))], g + 2⟩ ⟨k.toNat, by omega, rfl⟩
    rw [show ((k.toNat : Nat) : Int) = k by omega] at this
    exact this
  rintro _ ⟨k, hk, rfl⟩
  simp only [actNs, List.mem_cons, List.not_mem_nil, or_false] at hd
  rcases hd with rfl | rfl | rfl | rfl | rfl | rfl | rfl | rfl
  · refine ⟨trivial, brT (by decide +kernel) ?_⟩
    refine ⟨19, rfl, by decide, by decide, (by show g + 2 < drawLine; omega), fun x x0 x1 => ⟨(by show 3 ≤ sizeLine; omega), ?_⟩⟩
    exact h (.setMark (.int (k : Nat)) (.int (x - 9))) (g + 2 + 1) (sm_two rfl (by omega) (by omega)) (by omega) (by omega)
  · refine ⟨trivial, brT (by decide +kernel) ?_⟩
    refine ⟨19, rfl, by decide, by decide, (by show g + 2 < drawLine; omega), fun x x0 x1 => ⟨(by show 3 ≤ sizeLine; omega), ?_⟩⟩
    exact h (.setMark (.int (k : Nat)) (.int (x - 9))) (g + 2 + 1) (sm_two rfl (by omega) (by omega)) (by omega) (by omega)
  · refine ⟨trivial, brF (by decide +kernel) ?_⟩
    refine ⟨trivial, brT (by decide +kernel) ?_⟩
    refine ⟨5, rfl, by decide, by decide, (by show g + 2 < drawLine; omega), fun x x0 x1 => ⟨(by show 3 ≤ sizeLine; omega), ?_⟩⟩
    exact h (.setWeight (.int (k : Nat)) (.int (1 + x))) (g + 2 + 1) (sm_two rfl (by omega) (by omega)) (by omega) (by omega)
  · refine ⟨trivial, brF (by decide +kernel) ?_⟩
    refine ⟨trivial, brF (by decide +kernel) ?_⟩
    refine ⟨trivial, brT (by decide +kernel) ?_⟩
    refine ⟨19, rfl, by decide, by decide, (by show g + 2 < drawLine; omega), fun x x0 x1 => ⟨4, rfl, by decide, by decide, (by show g + 2 + 1 < drawLine; omega), fun y y0 y1 => ⟨(by show 3 ≤ sizeLine; omega), ?_⟩⟩⟩
    exact h (.addItem (.int (x - 9)) (.int (1 + y))) (g + 2 + 1 + 1) (sm_two rfl (by omega) (by omega)) (by omega) (by omega)
  · refine ⟨trivial, brF (by decide +kernel) ?_⟩
    refine ⟨trivial, brF (by decide +kernel) ?_⟩
    refine ⟨trivial, brF (by decide +kernel) ?_⟩
    refine ⟨trivial, brT (by decide +kernel) ?_⟩
    exact ⟨(by show 2 ≤ sizeLine; omega), h (.dropItem (.int (k : Nat))) (g + 2) (sm_one rfl (by omega)) (by omega) (by omega)⟩
  · refine ⟨trivial, brF (by decide +kernel) ?_⟩
    refine ⟨trivial, brF (by decide +kernel) ?_⟩
    refine ⟨trivial, brF (by decide +kernel) ?_⟩
    refine ⟨trivial, brF (by decide +kernel) ?_⟩
    refine ⟨trivial, brF (by decide +kernel) ?_⟩
    have mx : max (1 : Int) (((p.its.map itD).length : Int) - 1) ≤ 16 := by omega
    refine ⟨max (1 : Int) (((p.its.map itD).length : Int) - 1), rfl, by omega, Int.le_trans mx (by decide), (by show g + 2 < drawLine; omega), fun x x0 x1 => ⟨(by show (0 : Int) < max 2 ((p.its.map itD).length : Int); omega), (by show 3 ≤ sizeLine; omega), ?_⟩⟩
    have m0 := Int.emod_nonneg ((k : Int) + 1 + x) (show max (2 : Int) ((p.its.map itD).length : Int) ≠ 0 by omega)
    have m1 := Int.emod_lt_of_pos ((k : Int) + 1 + x) (show (0 : Int) < max 2 ((p.its.map itD).length : Int) by omega)
    exact h (.addRule (.int (k : Nat)) (.int (((k : Int) + 1 + x) % max 2 ((p.its.map itD).length : Int)))) (g + 2 + 1) (sm_two rfl (by omega) (by omega)) (by omega) (by omega)
  · refine ⟨trivial, brF (by decide +kernel) ?_⟩
    refine ⟨trivial, brF (by decide +kernel) ?_⟩
    refine ⟨trivial, brF (by decide +kernel) ?_⟩
    refine ⟨trivial, brF (by decide +kernel) ?_⟩
    refine ⟨trivial, brF (by decide +kernel) ?_⟩
    have mx : max (1 : Int) (((p.its.map itD).length : Int) - 1) ≤ 16 := by omega
    refine ⟨max (1 : Int) (((p.its.map itD).length : Int) - 1), rfl, by omega, Int.le_trans mx (by decide), (by show g + 2 < drawLine; omega), fun x x0 x1 => ⟨(by show (0 : Int) < max 2 ((p.its.map itD).length : Int); omega), (by show 3 ≤ sizeLine; omega), ?_⟩⟩
    have m0 := Int.emod_nonneg ((k : Int) + 1 + x) (show max (2 : Int) ((p.its.map itD).length : Int) ≠ 0 by omega)
    have m1 := Int.emod_lt_of_pos ((k : Int) + 1 + x) (show (0 : Int) < max 2 ((p.its.map itD).length : Int) by omega)
    exact h (.addRule (.int (k : Nat)) (.int (((k : Int) + 1 + x) % max 2 ((p.its.map itD).length : Int)))) (g + 2 + 1) (sm_two rfl (by omega) (by omega)) (by omega) (by omega)
  · refine ⟨trivial, brF (by decide +kernel) ?_⟩
    refine ⟨trivial, brF (by decide +kernel) ?_⟩
    refine ⟨trivial, brF (by decide +kernel) ?_⟩
    refine ⟨trivial, brF (by decide +kernel) ?_⟩
    refine ⟨trivial, brT (by decide +kernel) ?_⟩
    have mx : max (1 : Int) ((p.rus.map itD).length : Nat) ≤ 16 := by omega
    refine ⟨_, rfl, max (1 : Int) ((p.rus.map itD).length : Nat), rfl, by omega, Int.le_trans mx (by decide), (by show g + 2 < drawLine; omega), fun x x0 x1 => ⟨(by show 2 ≤ sizeLine; omega), ?_⟩⟩
    exact h (.dropRule (.int x)) (g + 2 + 1) (sm_one rfl (by omega)) (by omega) (by omega)

def t_integer_3c56 : PSx Unit := (qRet (qAndV (qIsi "int" (qVar 0)) (qAndV (qNotV (qIsi "bool" (qVar 0))) (qChain leD leD (qVar 1) (qVar 0) (qVar 2)))))

def sp_integer_3c56 : Spec0 := fun ds R => ∃ (d : D) (lo hi : Int), ds = [d, .int lo, .int hi] ∧ (∀ p, d ≠ .obj p) ∧ R (.bl (inI lo hi d))
theorem len_integer_3c56 (ds : List D) (R : DK) (h : sp_integer_3c56 ds R) : ds.length = 3 := by
  obtain ⟨d, _, _, rfl, _⟩ := h; rfl
theorem p_integer_3c56 (ds : List D) (R : DK) (h : sp_integer_3c56 ds R) : t_integer_3c56 { nx := fun _ => R .non, rt := fun d _ => R d } ⟨startL 3 ds, ()⟩ := by
  obtain ⟨d, lo, hi, rfl, ho, h⟩ := h
  refine ⟨ho, ?_⟩
  cases d with
  | int i =>
    refine ⟨fun _ => ⟨ho, ⟨fun _ => ?_, fun hc => (by cases hc)⟩⟩, fun hc => (by cases hc)⟩
    by_cases h1 : lo ≤ i
    · show match D.bl (decide (lo ≤ i)) with | .bl true => _ | .bl false => _ | _ => False
      have e : inI lo hi (.int i) = decide (i ≤ hi) := by simp [inI, h1]
      rw [e] at h
      rw [decide_eq_true h1]; exact h
    · show match D.bl (decide (lo ≤ i)) with | .bl true => _ | .bl false => _ | _ => False
      have e : inI lo hi (.int i) = false := by simp [inI, h1]
      rw [e] at h
      rw [decide_eq_false h1]; exact h
  | bl b => exact ⟨fun _ => ⟨ho, ⟨fun hc => (by cases hc), fun _ => h⟩⟩, fun hc => (by cases hc)⟩
  | obj a => exact (ho a rfl).elim
  | _ => exact ⟨fun hc => (by cases hc), fun _ => h⟩

def t_index_4ee9 : PSx Unit := (qRet (qCallP (sp_integer_3c56) (qCons (qVar 0) (qCons (qC (.int 0)) (qCons (qBin subD (qVar 1) (qC (.int 1))) qNil)))))

def sp_index_4ee9 : Spec0 := fun ds R => ∃ (d : D) (n : Int), ds = [d, .int n] ∧ (∀ p, d ≠ .obj p) ∧ R (.bl (inI 0 (n - 1) d))
theorem len_index_4ee9 (ds : List D) (R : DK) (h : sp_index_4ee9 ds R) : ds.length = 2 := by
  obtain ⟨_, _, rfl, _⟩ := h; rfl
theorem p_index_4ee9 (ds : List D) (R : DK) (h : sp_index_4ee9 ds R) : t_index_4ee9 { nx := fun _ => R .non, rt := fun d _ => R d } ⟨startL 2 ds, ()⟩ := by
  obtain ⟨d, n, rfl, ho, h⟩ := h
  exact ⟨d, 0, n - 1, rfl, ho, h⟩

def t_rule_error_9639 : PSx Unit := (qSeq (qIf (qB (qBin eqD (qBin ixD (qVar 1) (qC (.int 0))) (qC (.str "drop_rule")))) (qRet (qIfE (qB (qCallP (sp_index_4ee9) (qCons (qBin ixD (qVar 1) (qC (.int 1))) (qCons (qCall (fn1 lenD) (qCons (qBin ixD (qVar 0) (qC (.int 1))) qNil)) qNil)))) (qC .non) (qTup (qCons (qC (.str "NoSuchRule")) (qCons (qBin ixD (qVar 1) (qC (.int 1))) qNil))))) qNext) (qSeq (qFor (qItems (qSet (qLst (qCons (qC (.int 1)) (qCons (qC (.int 2)) qNil))))) (.nm 2) (qIf (qOr (qNot (qB (qCallP (sp_index_4ee9) (qCons (qBin ixD (qVar 1) (qVar 2)) (qCons (qCall (fn1 lenD) (qCons (qBin ixD (qVar 0) (qC (.int 0))) qNil)) qNil))))) (qAnd (qB (qBin eqD (qVar 2) (qC (.int 2)))) (qB (qBin eqD (qBin ixD (qVar 1) (qC (.int 1))) (qBin ixD (qVar 1) (qC (.int 2))))))) (qRet (qTup (qCons (qC (.str "NoSuchItem")) (qCons (qBin ixD (qVar 1) (qVar 2)) qNil)))) qNext)) (qRet (qIfE (qB (qBin eqD (qCall (fn1 lenD) (qCons (qBin ixD (qVar 0) (qC (.int 1))) qNil)) (qC (.int 16)))) (qTup (qCons (qC (.str "Full")) qNil)) (qC .non)))))

def sp_rule_error_9639 : Spec0 := fun ds R => ∃ (p : Pan) (a : Act), ds = [panD p, a.d] ∧ a.isRu = true ∧ a.ok ∧ p.its.length ≤ 1000 ∧ p.rus.length ≤ 1000 ∧ R (erD (a.run p))
theorem len_rule_error_9639 (ds : List D) (R : DK) (h : sp_rule_error_9639 ds R) : ds.length = 2 := by
  obtain ⟨_, _, rfl, _⟩ := h; rfl
theorem p_rule_error_9639 (ds : List D) (R : DK) (h : sp_rule_error_9639 ds R) : t_rule_error_9639 { nx := fun _ => R .non, rt := fun d _ => R d } ⟨startL 3 ds, ()⟩ := by
  obtain ⟨p, a, rfl, hr, ho, h8, h16, h⟩ := h
  have line : (10000000 : Nat) ≤ sizeLine := line_big
  have ll : ∀ l : List (Int × Int), (l.map itD).length = l.length := fun l => List.length_map _
  cases a with
  | setMark _ _ => cases hr
  | setWeight _ _ => cases hr
  | addItem _ _ => cases hr
  | dropItem _ => cases hr
  | dropRule v =>
    have hv : ∀ q, v ≠ .obj q := ho v (by simp [Act.args])
    refine ⟨_, rfl, trivial, brT (by simp only [Act.nm]; decide +kernel) ?_⟩
    refine ⟨_, rfl, _, rfl, ?_⟩
    refine ⟨v, ((p.rus.map itD).length : Nat), rfl, hv, ?_⟩
    have e : inI 0 ((((p.rus.map itD).length : Nat) : Int) - 1) v = isRul p v := by rw [ll]; rfl
    by_cases hi : isRul p v = true
    · refine brT (e.trans hi) ?_
      have : R (erD (Act.run p (.dropRule v))) := h
      simp only [Act.run, hi] at this
      exact this
    · have hi : isRul p v = false := by simpa using hi
      refine brF (e.trans hi) ?_
      refine ⟨_, rfl, (by show 2 ≤ sizeLine; omega), ?_⟩
      have : R (erD (Act.run p (.dropRule v))) := h
      simp only [Act.run, hi] at this
      exact this
  | addRule x y =>
    have hx : ∀ q, x ≠ .obj q := ho x (by simp [Act.args])
    have hy : ∀ q, y ≠ .obj q := ho y (by simp [Act.args])
    have h : R (erD (Act.run p (.addRule x y))) := h
    refine seq_mid (M := fun s' => s' = ⟨[some (.val (panD p)), some (.val (Act.addRule x y).d), none], ()⟩) ?_ ?_
    rotate_left
    · intro N hN
      exact ⟨_, rfl, trivial, brF (by simp only [Act.nm]; decide +kernel) (hN _ rfl)⟩
    rintro _ rfl
    refine seq_mid (M := fun s' => isItm p x = true ∧ isItm p y = true ∧ intO x ≠ intO y ∧ ∃ w, s' = ⟨[some (.val (panD p)), some (.val (Act.addRule x y).d), w], ()⟩) ?_ ?_
    rotate_left
    · intro N hN
      refine ⟨(by show 2 ≤ sizeLine; omega), ?_⟩
      show ∃ I : Nat → S Unit → Prop, _
      refine ⟨fun i s => (1 ≤ i → isItm p x = true) ∧ (2 ≤ i → isItm p y = true ∧ intO x ≠ intO y) ∧ ∃ w, s = ⟨[some (.val (panD p)), some (.val (Act.addRule x y).d), w], ()⟩, ⟨_, Wk.refl _, by omega, by omega, _, rfl⟩, ?_, ?_⟩
      rotate_left
      · rintro s ⟨h1, h2, w, rfl⟩
        exact hN _ ⟨h1 (by decide), (h2 (by decide)).1, (h2 (by decide)).2, w, rfl⟩
      rintro i e s he ⟨h1, h2, w, rfl⟩
      have ci : i = 0 ∨ i = 1 := by have := (List.getElem?_eq_some_iff.mp he).1; simp at this; omega
      refine put_nm ?_
      rcases ci with rfl | rfl
      · cases he
        refine ⟨_, rfl, _, rfl, ?_⟩
        refine ⟨x, ((p.its.map itD).length : Nat), rfl, hx, ?_⟩
        have e : inI 0 ((((p.its.map itD).length : Nat) : Int) - 1) x = isItm p x := by rw [ll]; rfl
        by_cases hi : isItm p x = true
        · refine ⟨fun q => (by rw [e.trans hi] at q; cases q), fun _ => ?_⟩
          refine ⟨⟨rfl, rfl, Nat.zero_le _, Nat.zero_le _⟩, brF (by decide +kernel) (brF rfl ?_)⟩
          exact ⟨_, Wk.refl _, fun _ => hi, by omega, _, rfl⟩
        · have hi : isItm p x = false := by simpa using hi
          refine ⟨fun _ => ?_, fun q => (by rw [e.trans hi] at q; cases q)⟩
          refine brT rfl ⟨_, rfl, (by show 2 ≤ sizeLine; omega), ?_⟩
          simp only [Act.run, hi] at h
          exact h
      · cases he
        have ix := h1 (by decide)
        refine ⟨_, rfl, _, rfl, ?_⟩
        refine ⟨y, ((p.its.map itD).length : Nat), rfl, hy, ?_⟩
        have e : inI 0 ((((p.its.map itD).length : Nat) : Int) - 1) y = isItm p y := by rw [ll]; rfl
        have bad : (isItm p y = false ∨ isItm p y = true ∧ intO x = intO y) → R (.tup [.str "NoSuchItem", y]) := fun c => by
          rcases c with c | ⟨c, d⟩
          · simp only [Act.run, ix, c] at h
            exact h
          · simp only [Act.run, ix, c, d] at h
            exact h
        by_cases hi : isItm p y = true
        · refine ⟨fun q => (by rw [e.trans hi] at q; cases q), fun _ => ?_⟩
          obtain ⟨a, rfl, _, _⟩ := inI_int ix
          obtain ⟨b, rfl, _, _⟩ := inI_int hi
          refine ⟨⟨rfl, rfl, Nat.zero_le _, Nat.zero_le _⟩, brT (by decide +kernel) ?_⟩
          refine ⟨_, rfl, _, rfl, ⟨rfl, rfl, Nat.zero_le _, Nat.zero_le _⟩, ?_⟩
          have ev : D.eqv (.int a) (.int b) = decide (a = b) := eqv_int
          by_cases hab : a = b
          · refine brT (ev.trans (by simpa using hab)) ?_
            exact ⟨_, rfl, (by show 2 ≤ sizeLine; omega), bad (.inr ⟨hi, hab⟩)⟩
          · refine brF (ev.trans (by simpa using hab)) ?_
            exact ⟨_, Wk.refl _, fun _ => ix, fun _ => ⟨hi, hab⟩, _, rfl⟩
        · have hi : isItm p y = false := by simpa using hi
          refine ⟨fun _ => ?_, fun q => (by rw [e.trans hi] at q; cases q)⟩
          exact brT rfl ⟨_, rfl, (by show 2 ≤ sizeLine; omega), bad (.inl hi)⟩
    rintro _ ⟨ix, iy, ne, w, rfl⟩
    refine ⟨_, rfl, ⟨rfl, rfl, Nat.zero_le _, Nat.zero_le _⟩, ?_⟩
    have ev : D.eqv (.int ((p.rus.map itD).length : Nat)) (.int 16) = decide (p.rus.length = 16) := by
      rw [ll, eqv_int]; exact decide_eq_decide.mpr (by omega)
    by_cases h6 : p.rus.length = 16
    · refine brT (ev.trans (by simpa using h6)) ⟨(by show 1 ≤ sizeLine; omega), ?_⟩
      simp only [Act.run, ix, iy, ne, h6] at h
      exact h
    · refine brF (ev.trans (by simpa using h6)) ?_
      simp only [Act.run, ix, iy, ne, h6] at h
      exact h

def t_item_error_fff0 : PSx Unit := (qSeq (qAsgT (qSl (qVar 1) qNoPart (qPart (qC (.int 2)))) (.tp [(.nm 2), (.nm 3)])) (qSeq (qIf (qAnd (qB (qBin neD (qVar 2) (qC (.str "add_item")))) (qNot (qB (qCallP (sp_index_4ee9) (qCons (qVar 3) (qCons (qCall (fn1 lenD) (qCons (qBin ixD (qVar 0) (qC (.int 0))) qNil)) qNil)))))) (qRet (qTup (qCons (qC (.str "NoSuchItem")) (qCons (qVar 3) qNil)))) qNext) (qSeq (qIf (qB (qBin eqD (qVar 2) (qC (.str "drop_item")))) (qRet (qIfE (qB (qBin eqD (qCall (fn1 lenD) (qCons (qBin ixD (qVar 0) (qC (.int 0))) qNil)) (qC (.int 1)))) (qTup (qCons (qC (.str "LastItem")) qNil)) (qC .non))) qNext) (qSeq (qAsg (qBin ixD (qSet (qLst (qCons (qVar 3) (qCons (qBin ixD (qVar 1) (qC (.int 2))) qNil)))) (qCall (fn1 intD) (qCons (qBin eqD (qVar 2) (qC (.str "set_mark"))) qNil))) 4) (qSeq (qIf (qAnd (qB (qBin neD (qVar 2) (qC (.str "set_weight")))) (qNot (qB (qCallP (sp_integer_3c56) (qCons (qVar 4) (qCons (qUn negD (qBin powD (qC (.int 10)) (qC (.int 9)))) (qCons (qBin powD (qC (.int 10)) (qC (.int 9))) qNil))))))) (qRet (qTup (qCons (qC (.str "InvalidMark")) (qCons (qVar 4) qNil)))) qNext) (qSeq (qIf (qAnd (qB (qBin neD (qVar 2) (qC (.str "set_mark")))) (qNot (qB (qCallP (sp_integer_3c56) (qCons (qBin ixD (qVar 1) (qC (.int 2))) (qCons (qC (.int 1)) (qCons (qBin powD (qC (.int 10)) (qC (.int 6))) qNil))))))) (qRet (qTup (qCons (qC (.str "InvalidWeight")) (qCons (qBin ixD (qVar 1) (qC (.int 2))) qNil)))) qNext) (qRet (qIfE (qAnd (qB (qBin eqD (qVar 2) (qC (.str "add_item")))) (qB (qBin eqD (qCall (fn1 lenD) (qCons (qBin ixD (qVar 0) (qC (.int 0))) qNil)) (qC (.int 8))))) (qTup (qCons (qC (.str "Full")) qNil)) (qC .non)))))))))

def sp_item_error_fff0 : Spec0 := fun ds R => ∃ (p : Pan) (a : Act), ds = [panD p, a.d] ∧ a.isRu = false ∧ a.ok ∧ p.its.length ≤ 1000 ∧ p.rus.length ≤ 1000 ∧ R (erD (a.run p))
theorem len_item_error_fff0 (ds : List D) (R : DK) (h : sp_item_error_fff0 ds R) : ds.length = 2 := by
  obtain ⟨_, _, rfl, _⟩ := h; rfl
theorem p_item_error_fff0 (ds : List D) (R : DK) (h : sp_item_error_fff0 ds R) : t_item_error_fff0 { nx := fun _ => R .non, rt := fun d _ => R d } ⟨startL 5 ds, ()⟩ := by
  obtain ⟨p, a, rfl, hr, ho, h8, h16, h⟩ := h
  have line : (10000000 : Nat) ≤ sizeLine := line_big
  have ll : ∀ l : List (Int × Int), (l.map itD).length = l.length := fun l => List.length_map _
  have idx0 : ∀ v : D, inI 0 ((((p.its.map itD).length : Nat) : Int) - 1) v = isItm p v := fun v => by rw [ll]; rfl
  have idxN : ∀ v : D, inI 0 (((p.its.map itD).length : Int) - 1) v = isItm p v := fun v => by rw [ll]; rfl
  have eqn : ∀ n : Nat, D.eqv (.int ((p.its.map itD).length : Nat)) (.int (n : Int)) = decide (p.its.length = n) := fun n => by
    rw [ll, eqv_int]; exact decide_eq_decide.mpr (by omega)
  let P := some (L.val (panD p))
  cases a with
  | addRule _ _ => cases hr
  | dropRule _ => cases hr
  | dropItem v => 
    have hv : ∀ q, v ≠ .obj q := ho v (by simp [Act.args])
    have h : R (erD (Act.run p (.dropItem v))) := h
    let A := some (L.val (Act.d (.dropItem v)))
    let N0 := some (L.val (.str "drop_item"))
    let V := some (L.val v)
    refine seq_mid (M := fun s' => s' = ⟨[P, A, N0, V, none], ()⟩) ?_ ?_
    rotate_left
    · intro N hN
      exact hN _ rfl
    rintro _ rfl
    refine seq_mid (M := fun s' => isItm p v = true ∧ s' = ⟨[P, A, N0, V, none], ()⟩) ?_ ?_
    rotate_left
    · intro N hN
      refine ⟨trivial, brT (by decide +kernel) ?_⟩
      refine ⟨_, rfl, v, _, rfl, hv, ?_⟩
      by_cases hi : isItm p v = true
      · refine brF (by rw [idx0 v, hi]; rfl) (hN _ ⟨hi, rfl⟩)
      · have hi : isItm p v = false := by simpa using hi
        refine brT (by rw [idx0 v, hi]; rfl) ⟨(by show 2 ≤ sizeLine; omega), ?_⟩
        simp only [Act.run, hi] at h
        exact h
    rintro _ ⟨iv, rfl⟩
    refine ⟨trivial, brT (by decide +kernel) ?_⟩
    refine ⟨_, rfl, ⟨rfl, rfl, Nat.zero_le _, Nat.zero_le _⟩, ?_⟩
    by_cases h1 : p.its.length = 1
    · refine brT ((eqn 1).trans (by simpa using h1)) ⟨(by show 1 ≤ sizeLine; omega), ?_⟩
      simp only [Act.run, iv, h1] at h
      exact h
    · refine brF ((eqn 1).trans (by simpa using h1)) ?_
      simp only [Act.run, iv, h1] at h
      exact h
  | setMark v m => 
    have hv : ∀ q, v ≠ .obj q := ho v (by simp [Act.args])
    have hm : ∀ q, m ≠ .obj q := ho m (by simp [Act.args])
    have h : R (erD (Act.run p (.setMark v m))) := h
    let A := some (L.val (Act.d (.setMark v m)))
    let N0 := some (L.val (.str "set_mark"))
    let V := some (L.val v)
    refine seq_mid (M := fun s' => s' = ⟨[P, A, N0, V, none], ()⟩) ?_ ?_
    rotate_left
    · intro N hN
      exact hN _ rfl
    rintro _ rfl
    refine seq_mid (M := fun s' => isItm p v = true ∧ s' = ⟨[P, A, N0, V, none], ()⟩) ?_ ?_
    rotate_left
    · intro N hN
      refine ⟨trivial, brT (by decide +kernel) ?_⟩
      refine ⟨_, rfl, v, _, rfl, hv, ?_⟩
      by_cases hi : isItm p v = true
      · refine brF (by rw [idx0 v, hi]; rfl) (hN _ ⟨hi, rfl⟩)
      · have hi : isItm p v = false := by simpa using hi
        refine brT (by rw [idx0 v, hi]; rfl) ⟨(by show 2 ≤ sizeLine; omega), ?_⟩
        simp only [Act.run, hi] at h
        exact h
    rintro _ ⟨iv, rfl⟩
    refine seq_mid (M := fun s' => s' = ⟨[P, A, N0, V, none], ()⟩) ?_ ?_
    rotate_left
    · intro N hN
      exact ⟨trivial, brF (by decide +kernel) (hN _ rfl)⟩
    rintro _ rfl
    refine seq_mid (M := fun s' => s' = ⟨[P, A, N0, V, some (.val m)], ()⟩) ?_ ?_
    rotate_left
    · intro N hN
      refine ⟨_, rfl, (by show 2 ≤ sizeLine; omega), trivial, ?_⟩
      have key : ∀ b : Bool, b = true → ∀ T : D → Prop, T m → ∃ d, idx [v, m] (if b = true then 1 else 0) = some d ∧ T d := fun b hb T hT => by
        subst hb; exact ⟨_, rfl, hT⟩
      exact key _ (by decide +kernel) _ (hN _ rfl)
    rintro _ rfl
    refine seq_mid (M := fun s' => isMk m = true ∧ s' = ⟨[P, A, N0, V, some (.val m)], ()⟩) ?_ ?_
    rotate_left
    · intro N hN
      refine ⟨trivial, brT (by decide +kernel) ?_⟩
      refine ⟨⟨by decide, by decide, by decide⟩, ⟨by decide, by decide, by decide⟩, m, _, _, rfl, hm, ?_⟩
      have e : inI (-(10 ^ 9)) (10 ^ 9) m = isMk m := rfl
      by_cases hi : isMk m = true
      · refine brF (by show (!inI (-(10 ^ 9)) (10 ^ 9) m) = false; rw [e, hi]; rfl) (hN _ ⟨hi, rfl⟩)
      · have hi : isMk m = false := by simpa using hi
        refine brT (by show (!inI (-(10 ^ 9)) (10 ^ 9) m) = true; rw [e, hi]; rfl) ⟨(by show 2 ≤ sizeLine; omega), ?_⟩
        simp only [Act.run, iv, hi] at h
        exact h
    rintro _ ⟨im, rfl⟩
    refine seq_mid (M := fun s' => s' = ⟨[P, A, N0, V, some (.val m)], ()⟩) ?_ ?_
    rotate_left
    · intro N hN
      exact ⟨trivial, brF (by decide +kernel) (brF rfl (hN _ rfl))⟩
    rintro _ rfl
    refine ⟨trivial, brF (by decide +kernel) (brF rfl ?_)⟩
    simp only [Act.run, iv, im] at h
    exact h
  | setWeight v m => 
    have hv : ∀ q, v ≠ .obj q := ho v (by simp [Act.args])
    have hm : ∀ q, m ≠ .obj q := ho m (by simp [Act.args])
    have h : R (erD (Act.run p (.setWeight v m))) := h
    let A := some (L.val (Act.d (.setWeight v m)))
    let N0 := some (L.val (.str "set_weight"))
    let V := some (L.val v)
    refine seq_mid (M := fun s' => s' = ⟨[P, A, N0, V, none], ()⟩) ?_ ?_
    rotate_left
    · intro N hN
      exact hN _ rfl
    rintro _ rfl
    refine seq_mid (M := fun s' => isItm p v = true ∧ s' = ⟨[P, A, N0, V, none], ()⟩) ?_ ?_
    rotate_left
    · intro N hN
      refine ⟨trivial, brT (by decide +kernel) ?_⟩
      refine ⟨_, rfl, v, _, rfl, hv, ?_⟩
      by_cases hi : isItm p v = true
      · refine brF (by rw [idx0 v, hi]; rfl) (hN _ ⟨hi, rfl⟩)
      · have hi : isItm p v = false := by simpa using hi
        refine brT (by rw [idx0 v, hi]; rfl) ⟨(by show 2 ≤ sizeLine; omega), ?_⟩
        simp only [Act.run, hi] at h
        exact h
    rintro _ ⟨iv, rfl⟩
    refine seq_mid (M := fun s' => s' = ⟨[P, A, N0, V, none], ()⟩) ?_ ?_
    rotate_left
    · intro N hN
      exact ⟨trivial, brF (by decide +kernel) (hN _ rfl)⟩
    rintro _ rfl
    refine seq_mid (M := fun s' => s' = ⟨[P, A, N0, V, some (.val v)], ()⟩) ?_ ?_
    rotate_left
    · intro N hN
      refine ⟨_, rfl, (by show 2 ≤ sizeLine; omega), trivial, ?_⟩
      have key : ∀ b : Bool, b = false → ∀ T : D → Prop, T v → ∃ d, idx [v, m] (if b = true then 1 else 0) = some d ∧ T d := fun b hb T hT => by
        subst hb; exact ⟨_, rfl, hT⟩
      exact key _ (by decide +kernel) _ (hN _ rfl)
    rintro _ rfl
    refine seq_mid (M := fun s' => s' = ⟨[P, A, N0, V, some (.val v)], ()⟩) ?_ ?_
    rotate_left
    · intro N hN
      exact ⟨trivial, brF (by decide +kernel) (brF rfl (hN _ rfl))⟩
    rintro _ rfl
    refine seq_mid (M := fun s' => isWt m = true ∧ s' = ⟨[P, A, N0, V, some (.val v)], ()⟩) ?_ ?_
    rotate_left
    · intro N hN
      refine ⟨trivial, brT (by decide +kernel) ?_⟩
      refine ⟨_, rfl, ⟨by decide, by decide, by decide⟩, m, _, _, rfl, hm, ?_⟩
      have e : inI 1 (10 ^ 6) m = isWt m := rfl
      by_cases hi : isWt m = true
      · refine brF (by show (!inI 1 (10 ^ 6) m) = false; rw [e, hi]; rfl) (hN _ ⟨hi, rfl⟩)
      · have hi : isWt m = false := by simpa using hi
        refine brT (by show (!inI 1 (10 ^ 6) m) = true; rw [e, hi]; rfl) ⟨_, rfl, (by show 2 ≤ sizeLine; omega), ?_⟩
        simp only [Act.run, iv, hi] at h
        exact h
    rintro _ ⟨iw, rfl⟩
    refine ⟨trivial, brF (by decide +kernel) (brF rfl ?_)⟩
    simp only [Act.run, iv, iw] at h
    exact h
  | addItem v m => 
    have hv : ∀ q, v ≠ .obj q := ho v (by simp [Act.args])
    have hm : ∀ q, m ≠ .obj q := ho m (by simp [Act.args])
    have h : R (erD (Act.run p (.addItem v m))) := h
    let A := some (L.val (Act.d (.addItem v m)))
    let N0 := some (L.val (.str "add_item"))
    let V := some (L.val v)
    refine seq_mid (M := fun s' => s' = ⟨[P, A, N0, V, none], ()⟩) ?_ ?_
    rotate_left
    · intro N hN
      exact hN _ rfl
    rintro _ rfl
    refine seq_mid (M := fun s' => s' = ⟨[P, A, N0, V, none], ()⟩) ?_ ?_
    rotate_left
    · intro N hN
      exact ⟨trivial, brF (by decide +kernel) (brF rfl (hN _ rfl))⟩
    rintro _ rfl
    refine seq_mid (M := fun s' => s' = ⟨[P, A, N0, V, none], ()⟩) ?_ ?_
    rotate_left
    · intro N hN
      exact ⟨trivial, brF (by decide +kernel) (hN _ rfl)⟩
    rintro _ rfl
    refine seq_mid (M := fun s' => s' = ⟨[P, A, N0, V, some (.val v)], ()⟩) ?_ ?_
    rotate_left
    · intro N hN
      refine ⟨_, rfl, (by show 2 ≤ sizeLine; omega), trivial, ?_⟩
      have key : ∀ b : Bool, b = false → ∀ T : D → Prop, T v → ∃ d, idx [v, m] (if b = true then 1 else 0) = some d ∧ T d := fun b hb T hT => by
        subst hb; exact ⟨_, rfl, hT⟩
      exact key _ (by decide +kernel) _ (hN _ rfl)
    rintro _ rfl
    refine seq_mid (M := fun s' => isMk v = true ∧ s' = ⟨[P, A, N0, V, some (.val v)], ()⟩) ?_ ?_
    rotate_left
    · intro N hN
      refine ⟨trivial, brT (by decide +kernel) ?_⟩
      refine ⟨⟨by decide, by decide, by decide⟩, ⟨by decide, by decide, by decide⟩, v, _, _, rfl, hv, ?_⟩
      have e : inI (-(10 ^ 9)) (10 ^ 9) v = isMk v := rfl
      by_cases hi : isMk v = true
      · refine brF (by show (!inI (-(10 ^ 9)) (10 ^ 9) v) = false; rw [e, hi]; rfl) (hN _ ⟨hi, rfl⟩)
      · have hi : isMk v = false := by simpa using hi
        refine brT (by show (!inI (-(10 ^ 9)) (10 ^ 9) v) = true; rw [e, hi]; rfl) ⟨(by show 2 ≤ sizeLine; omega), ?_⟩
        simp only [Act.run, hi] at h
        exact h
    rintro _ ⟨im, rfl⟩
    refine seq_mid (M := fun s' => isWt m = true ∧ s' = ⟨[P, A, N0, V, some (.val v)], ()⟩) ?_ ?_
    rotate_left
    · intro N hN
      refine ⟨trivial, brT (by decide +kernel) ?_⟩
      refine ⟨_, rfl, ⟨by decide, by decide, by decide⟩, m, _, _, rfl, hm, ?_⟩
      have e : inI 1 (10 ^ 6) m = isWt m := rfl
      by_cases hi : isWt m = true
      · refine brF (by show (!inI 1 (10 ^ 6) m) = false; rw [e, hi]; rfl) (hN _ ⟨hi, rfl⟩)
      · have hi : isWt m = false := by simpa using hi
        refine brT (by show (!inI 1 (10 ^ 6) m) = true; rw [e, hi]; rfl) ⟨_, rfl, (by show 2 ≤ sizeLine; omega), ?_⟩
        simp only [Act.run, im, hi] at h
        exact h
    rintro _ ⟨iw, rfl⟩
    refine ⟨trivial, brT (by decide +kernel) ?_⟩
    refine ⟨_, rfl, ⟨rfl, rfl, Nat.zero_le _, Nat.zero_le _⟩, ?_⟩
    by_cases h1 : p.its.length = 8
    · have ev : D.eqv (.int ((p.its.map itD).length : Nat)) (.int 8) = true := (eqn 8).trans (by simpa using h1)
      refine brT ev ⟨(by show 1 ≤ sizeLine; omega), ?_⟩
      simp only [Act.run, im, iw, h1] at h
      exact h
    · have ev : D.eqv (.int ((p.its.map itD).length : Nat)) (.int 8) = false := (eqn 8).trans (by simpa using h1)
      refine brF ev ?_
      simp only [Act.run, im, iw, h1] at h
      exact h

def t_without_de10 : PSx Unit := (qSeq (qAsg (qSet (qLc (qItems (qBin ixD (qVar 0) (qC (.int 1)))) (.nm 3) [3] (qB (qBin notInD (qVar 1) (qVar 3))) (qVar 3))) 2) (qSeq (qAsg (qSet (qLc (qItems (qVar 2)) (.tp [(.nm 4), (.nm 5)]) [4, 5] qYes (qTup (qCons (qBin subD (qVar 4) (qCall (fn1 intD) (qCons (qBin gtD (qVar 4) (qVar 1)) qNil))) (qCons (qBin subD (qVar 5) (qCall (fn1 intD) (qCons (qBin gtD (qVar 5) (qVar 1)) qNil))) qNil))))) 2) (qRet (qTup (qCons (qBin addD (qSl (qBin ixD (qVar 0) (qC (.int 0))) qNoPart (qPart (qVar 1))) (qSl (qBin ixD (qVar 0) (qC (.int 0))) (qPart (qBin addD (qVar 1) (qC (.int 1)))) qNoPart)) (qCons (qCall (fn1 tupleD) (qCons (qVar 2) qNil)) qNil))))))

def sp_without_de10 : Spec0 := fun ds R => ∃ (m : Nat) (p : Pan) (k : Nat), ds = [panD p, natD k] ∧ PanOk m p ∧ m ≤ 1000 ∧ R (panD (wiP p k))
theorem len_without_de10 (ds : List D) (R : DK) (h : sp_without_de10 ds R) : ds.length = 2 := by
  obtain ⟨_, _, _, rfl, _⟩ := h; rfl
theorem p_without_de10 (ds : List D) (R : DK) (h : sp_without_de10 ds R) : t_without_de10 { nx := fun _ => R .non, rt := fun d _ => R d } ⟨startL 6 ds, ()⟩ := by
  obtain ⟨m, p, k, rfl, hp, hm, h⟩ := h
  have line : (10000000 : Nat) ≤ sizeLine := line_big
  have ht := hp.top
  have hf := hp.few
  let P := some (L.val (panD p))
  let K := some (L.val (natD k))
  let rs1 := p.rus.filter fun q => decide ((k : Int) ≠ q.1) && decide ((k : Int) ≠ q.2)
  have r1l : rs1.length ≤ 16 := Nat.le_trans (List.length_filter_le _ _) hf
  refine seq_mid (M := fun s' => s' = ⟨[P, K, some (.val (.lst (rs1.map itD))), none, none, none], ()⟩) ?_ ?_
  rotate_left
  · intro N hN
    refine ⟨_, rfl, ?_⟩
    refine lc_list p.rus itD (fun q => decide ((k : Int) ≠ q.1) && decide ((k : Int) ≠ q.2)) itD (by omega) (fun q hq => ⟨_, rfl, fun T h => ⟨⟨rfl, rfl, Nat.zero_le 60⟩, ?_⟩, fun _ T h => h⟩) (hN _ rfl) (by decide) (by rfl)
    have e : (true ^^ ([D.int q.1, .int q.2].any fun y => D.eqv y (natD k))) = (decide ((k : Int) ≠ q.1) && decide ((k : Int) ≠ q.2)) := by
      show (true ^^ (decide (q.1 = (k : Int)) || (decide (q.2 = (k : Int)) || false))) = _
      by_cases a : q.1 = (k : Int) <;> by_cases b : q.2 = (k : Int) <;> simp [a, b, eq_comm]
    rw [← e] at h
    exact h
  rintro _ rfl
  refine seq_mid (M := fun s' => s' = ⟨[P, K, some (.val (.lst ((wiP p k).rus.map itD))), none, none, none], ()⟩) ?_ ?_
  rotate_left
  · intro N hN
    refine lc_mapl rs1 itD (fun q => itD (q.1 - (if (k : Int) < q.1 then 1 else 0), q.2 - (if (k : Int) < q.2 then 1 else 0))) (by omega) (fun q hq => ⟨_, rfl, fun T h => ?_⟩) ?_ (by decide) (by rfl)
    · have e : ∀ a : Int, (if decide ((k : Int) < a) = true then (1 : Int) else 0) = if (k : Int) < a then 1 else 0 := fun a => by simp
      rw [← e q.1, ← e q.2] at h
      exact ⟨by show 2 ≤ sizeLine; omega, h⟩
    · have e : rs1.map (fun q => itD (q.1 - (if (k : Int) < q.1 then 1 else 0), q.2 - (if (k : Int) < q.2 then 1 else 0))) = (wiP p k).rus.map itD := by
        show _ = (rs1.map fun q => (q.1 - (if (k : Int) < q.1 then 1 else 0), q.2 - (if (k : Int) < q.2 then 1 else 0))).map itD
        rw [List.map_map]; rfl
      rw [e]
      exact hN _ rfl
  rintro _ rfl
  have c1 : cut (p.its.map itD) none (some ((k : Nat) : Int)) = (p.its.map itD).take k := cut_to _ _
  have c2 : cut (p.its.map itD) (some ((k : Int) + 1)) none = (p.its.map itD).drop (k + 1) := cut_from _ (k + 1)
  refine ⟨_, rfl, _, rfl, ?_, ?_⟩
  · have := cut_length (p.its.map itD) none (some ((k : Nat) : Int))
    have := cut_length (p.its.map itD) (some ((k : Int) + 1)) none
    rw [List.length_map] at *
    omega
  · rw [c1, c2, ← List.map_take, ← List.map_drop, ← List.map_append]
    exact ⟨by show 2 ≤ sizeLine; omega, h⟩

def t_after_0530 : PSx Unit := (qSeq (qParM3 2 3 4 (qmVal (qBin ixD (qVar 1) (qC (.int 0))) (qmVal (qBin ixD (qVar 0) (qC (.int 0))) (qmVal (qBin ixD (qVar 0) (qC (.int 1))) qmNil)))) (qSeq (qIf (qB (qBin inD (qVar 2) (qTup (qCons (qC (.str "add_rule")) (qCons (qC (.str "drop_rule")) qNil))))) (qAsg (qCallP (sp_rule_error_9639) (qCons (qVar 0) (qCons (qVar 1) qNil))) 5) (qAsg (qCallP (sp_item_error_fff0) (qCons (qVar 0) (qCons (qVar 1) qNil))) 5)) (qSeq (qIf (qB (qBin notND (qVar 5) (qC .non))) (qRet (qSet (qLst (qCons (qVar 5) (qCons (qVar 0) qNil))))) qNext) (qSeq (qAsg (qBin ixD (qVar 1) (qC (.int 1))) 6) (qSeq (qIf (qB (qBin eqD (qVar 2) (qC (.str "add_rule")))) (qRet (qSet (qLst (qCons (qC .non) (qCons (qTup (qCons (qVar 3) (qCons (qBin addD (qVar 4) (qTup (qCons (qSl (qVar 1) (qPart (qC (.int 1))) qNoPart) qNil))) qNil))) qNil))))) qNext) (qSeq (qIf (qB (qBin eqD (qVar 2) (qC (.str "drop_rule")))) (qRet (qSet (qLst (qCons (qC .non) (qCons (qTup (qCons (qVar 3) (qCons (qBin addD (qSl (qVar 4) qNoPart (qPart (qVar 6))) (qSl (qVar 4) (qPart (qBin addD (qVar 6) (qC (.int 1)))) qNoPart)) qNil))) qNil))))) qNext) (qSeq (qIf (qB (qBin eqD (qVar 2) (qC (.str "drop_item")))) (qRet (qSet (qLst (qCons (qC .non) (qCons (qCallP (sp_without_de10) (qCons (qVar 0) (qCons (qVar 6) qNil))) qNil))))) qNext) (qSeq (qIf (qB (qBin eqD (qVar 2) (qC (.str "add_item")))) (qRet (qSet (qLst (qCons (qC .non) (qCons (qTup (qCons (qBin addD (qVar 3) (qTup (qCons (qSl (qVar 1) (qPart (qC (.int 1))) qNoPart) qNil))) (qCons (qVar 4) qNil))) qNil))))) qNext) (qSeq (qAsg (qIfE (qB (qBin eqD (qVar 2) (qC (.str "set_mark")))) (qTup (qCons (qBin ixD (qVar 1) (qC (.int 2))) (qCons (qBin ixD (qBin ixD (qVar 3) (qVar 6)) (qC (.int 1))) qNil))) (qTup (qCons (qBin ixD (qBin ixD (qVar 3) (qVar 6)) (qC (.int 0))) (qCons (qBin ixD (qVar 1) (qC (.int 2))) qNil)))) 7) (qRet (qSet (qLst (qCons (qC .non) (qCons (qTup (qCons (qBin addD (qBin addD (qSl (qVar 3) qNoPart (qPart (qVar 6))) (qTup (qCons (qVar 7) qNil))) (qSl (qVar 3) (qPart (qBin addD (qVar 6) (qC (.int 1)))) qNoPart)) (qCons (qVar 4) qNil))) qNil))))))))))))))

def sp_after_0530 : Spec0 := fun ds R => ∃ (p : Pan) (a : Act), ds = [panD p, a.d] ∧ PanOk 8 p ∧ a.ok ∧ (∀ x, a.run p = .error x → R (.lst [errT x, panD p])) ∧ ∀ p', a.run p = .ok p' → R (.lst [.non, panD p'])
theorem len_after_0530 (ds : List D) (R : DK) (h : sp_after_0530 ds R) : ds.length = 2 := by
  obtain ⟨_, _, rfl, _⟩ := h; rfl
theorem p_after_0530 (ds : List D) (R : DK) (h : sp_after_0530 ds R) : t_after_0530 { nx := fun _ => R .non, rt := fun d _ => R d } ⟨startL 8 ds, ()⟩ := by
  obtain ⟨p, a, rfl, hp, ho, hx, hk⟩ := h
  have line : (10000000 : Nat) ≤ sizeLine := line_big
  have top := hp.top; have few := hp.few
  let P := some (L.val (panD p))
  let A := some (L.val a.d)
  let N0 := some (L.val (.str a.nm))
  let I := some (L.val (.tup (p.its.map itD)))
  let U := some (L.val (.tup (p.rus.map itD)))
  refine seq_mid (M := fun s' => s' = ⟨[P, A, N0, I, U, none, none, none], ()⟩) ?_ ?_
  rotate_left
  · intro N hN
    exact ⟨_, rfl, _, rfl, _, rfl, hN _ rfl⟩
  rintro _ rfl
  refine seq_mid (M := fun s' => s' = ⟨[P, A, N0, I, U, some (.val (erD (a.run p))), none, none], ()⟩) ?_ ?_
  rotate_left
  · intro N hN
    refine ⟨(by show 2 ≤ sizeLine; omega), ⟨nm_pln a, by decide +kernel, Nat.zero_le 60⟩, ?_⟩
    have e : (false ^^ ([D.str "add_rule", .str "drop_rule"].any fun y => D.eqv y (.str a.nm))) = a.isRu := by cases a <;> simp only [Act.nm, Act.isRu] <;> decide +kernel
    by_cases hr : a.isRu = true
    · exact brT (e.trans hr) ⟨p, a, rfl, hr, ho, by omega, by omega, hN _ rfl⟩
    · have hr : a.isRu = false := by simpa using hr
      exact brF (e.trans hr) ⟨p, a, rfl, hr, ho, by omega, by omega, hN _ rfl⟩
  rintro _ rfl
  cases hrun : a.run p with
  | error x =>
    refine ⟨fun _ => ⟨(by show 2 ≤ sizeLine; omega), hx x hrun⟩, fun q => (by cases q)⟩
  | ok p' =>
    have hk := hk p' hrun
    refine seq_mid (M := fun s' => s' = ⟨[P, A, N0, I, U, some (.val .non), none, none], ()⟩) ?_ ?_
    rotate_left
    · intro N hN
      exact ⟨fun q => (by cases q), fun _ => hN _ rfl⟩
    rintro _ rfl
    cases a with
    | addRule x y =>
      obtain ⟨ix, iy, _, h16, rfl⟩ := inv_addRule hrun
      obtain ⟨i, rfl, _⟩ := itm_int ix
      obtain ⟨j, rfl, _⟩ := itm_int iy
      refine ⟨_, rfl, ?_⟩
      refine ⟨trivial, brT (by simp only [Act.nm]; decide +kernel) ?_⟩
      refine ⟨(by show 1 ≤ sizeLine; omega), (by show (p.rus.map itD).length + 1 ≤ sizeLine; rw [List.length_map]; omega), (by show 2 ≤ sizeLine; omega), (by show 2 ≤ sizeLine; omega), ?_⟩
      have e : panD ⟨p.its, p.rus ++ [(i, j)]⟩ = .tup [.tup (p.its.map itD), .tup (p.rus.map itD ++ [itD (i, j)])] := by
        show D.tup [_, .tup ((p.rus ++ [(i, j)]).map itD)] = _
        rw [List.map_append]; rfl
      have hk : R (.lst [.non, panD ⟨p.its, p.rus ++ [(i, j)]⟩]) := hk
      rw [e] at hk
      exact hk
    | dropRule v =>
      obtain ⟨iv, rfl⟩ := inv_dropRule hrun
      obtain ⟨k, rfl, lv⟩ := isRul_ex iv
      rw [natO_nat] at hk
      refine ⟨_, rfl, ?_⟩
      refine ⟨trivial, brF (by simp only [Act.nm]; decide +kernel) ?_⟩
      refine ⟨trivial, brT (by simp only [Act.nm]; decide +kernel) ?_⟩
      have c1 : cut (p.rus.map itD) none (some ((k : Nat) : Int)) = (p.rus.map itD).take k := cut_to _ _
      have c2 : cut (p.rus.map itD) (some ((k : Int) + 1)) none = (p.rus.map itD).drop (k + 1) := cut_from _ (k + 1)
      have k1 := cut_length (p.rus.map itD) none (some ((k : Nat) : Int))
      have k2 := cut_length (p.rus.map itD) (some ((k : Int) + 1)) none
      have ll : (p.rus.map itD).length = p.rus.length := List.length_map _
      refine ⟨?_, (by show 2 ≤ sizeLine; omega), (by show 2 ≤ sizeLine; omega), ?_⟩
      · show (cut (p.rus.map itD) none (some ((k : Nat) : Int))).length + (cut (p.rus.map itD) (some ((k : Int) + 1)) none).length ≤ sizeLine
        omega
      · show R (.lst [.non, .tup [.tup (p.its.map itD), .tup (cut (p.rus.map itD) none (some ((k : Nat) : Int)) ++ cut (p.rus.map itD) (some ((k : Int) + 1)) none)]])
        rw [c1, c2, ← List.map_take, ← List.map_drop, ← List.map_append, ← List.eraseIdx_eq_take_drop_succ]
        exact hk
    | dropItem v =>
      obtain ⟨iv, h1, rfl⟩ := inv_dropItem hrun
      obtain ⟨ev, lv⟩ := isItm_nat iv
      refine ⟨_, rfl, ?_⟩
      refine ⟨trivial, brF (by simp only [Act.nm]; decide +kernel) ?_⟩
      refine ⟨trivial, brF (by simp only [Act.nm]; decide +kernel) ?_⟩
      refine ⟨trivial, brT (by simp only [Act.nm]; decide +kernel) ?_⟩
      refine ⟨8, p, natO v, by rw [← ev], hp, by decide, (by show 2 ≤ sizeLine; omega), hk⟩
    | addItem m w =>
      obtain ⟨im, iw, h8, rfl⟩ := inv_addItem hrun
      obtain ⟨em, _⟩ := isMk_int im
      obtain ⟨ew, _⟩ := isWt_int iw
      refine ⟨_, rfl, ?_⟩
      refine ⟨trivial, brF (by simp only [Act.nm]; decide +kernel) ?_⟩
      refine ⟨trivial, brF (by simp only [Act.nm]; decide +kernel) ?_⟩
      refine ⟨trivial, brF (by simp only [Act.nm]; decide +kernel) ?_⟩
      refine ⟨trivial, brT (by simp only [Act.nm]; decide +kernel) ?_⟩
      refine ⟨(by show 1 ≤ sizeLine; omega), (by show (p.its.map itD).length + 1 ≤ sizeLine; rw [List.length_map]; omega), (by show 2 ≤ sizeLine; omega), (by show 2 ≤ sizeLine; omega), ?_⟩
      have e : panD ⟨p.its ++ [(intO m, intO w)], p.rus⟩ = .tup [.tup (p.its.map itD ++ [.tup [m, w]]), .tup (p.rus.map itD)] := by
        show D.tup [.tup ((p.its ++ [(intO m, intO w)]).map itD), _] = _
        rw [List.map_append]
        show D.tup [.tup (p.its.map itD ++ [.tup [.int (intO m), .int (intO w)]]), _] = _
        rw [← em, ← ew]
      rw [e] at hk
      exact hk
    | setMark v m =>
      obtain ⟨iv, im, rfl⟩ := inv_setMark hrun
      obtain ⟨k, rfl, lv⟩ := isItm_ex iv
      obtain ⟨em, _⟩ := isMk_int im
      rw [natO_nat] at hk
      refine ⟨_, rfl, ?_⟩
      refine ⟨trivial, brF (by simp only [Act.nm]; decide +kernel) ?_⟩
      refine ⟨trivial, brF (by simp only [Act.nm]; decide +kernel) ?_⟩
      refine ⟨trivial, brF (by simp only [Act.nm]; decide +kernel) ?_⟩
      refine ⟨trivial, brF (by simp only [Act.nm]; decide +kernel) ?_⟩
      dsimp only [qNext]
      let q := p.its.getD k (0, 1)
      have iq : idx (p.its.map itD) (k : Int) = some (itD q) := idx_it lv
      refine seq_mid (M := fun s' => s' = ⟨[P, some (.val (Act.setMark (natD k) m).d), some (.val (.str (Act.setMark (natD k) m).nm)), I, U, some (.val .non), some (.val (natD k)), some (.val (itD (intO m, q.2)))], ()⟩) ?_ ?_
      rotate_left
      · intro N hN
        have hN : N ⟨[P, some (.val (Act.setMark (natD k) m).d), some (.val (.str (Act.setMark (natD k) m).nm)), I, U, some (.val .non), some (.val (natD k)), some (.val (itD (intO m, q.2)))], ()⟩ := hN _ rfl
        have e : itD (intO m, q.2) = .tup [m, .int q.2] := by show D.tup [.int (intO m), .int q.2] = _; rw [← em]
        rw [e] at hN
        exact ⟨trivial, brT (by simp only [Act.nm]; decide +kernel) ⟨_, rfl, _, iq, _, rfl, (by show 2 ≤ sizeLine; omega), hN⟩⟩
      rintro _ rfl
      have c1 : cut (p.its.map itD) none (some ((k : Nat) : Int)) = (p.its.map itD).take k := cut_to _ _
      have c2 : cut (p.its.map itD) (some ((k : Int) + 1)) none = (p.its.map itD).drop (k + 1) := cut_from _ (k + 1)
      have k1 := cut_length (p.its.map itD) none (some ((k : Nat) : Int))
      have k2 := cut_length (p.its.map itD) (some ((k : Int) + 1)) none
      have ll : (p.its.map itD).length = p.its.length := List.length_map _
      refine ⟨(by show 1 ≤ sizeLine; omega), ?_, ?_, (by show 2 ≤ sizeLine; omega), (by show 2 ≤ sizeLine; omega), ?_⟩
      · show (cut (p.its.map itD) none (some ((k : Nat) : Int))).length + 1 ≤ sizeLine
        omega
      · show (cut (p.its.map itD) none (some ((k : Nat) : Int)) ++ [itD (intO m, q.2)]).length + (cut (p.its.map itD) (some ((k : Int) + 1)) none).length ≤ sizeLine
        rw [List.length_append]
        have : [itD (intO m, q.2)].length = 1 := rfl
        omega
      · show R (.lst [.non, .tup [.tup (cut (p.its.map itD) none (some ((k : Nat) : Int)) ++ [itD (intO m, q.2)] ++ cut (p.its.map itD) (some ((k : Int) + 1)) none), .tup (p.rus.map itD)]])
        rw [c1, c2]
        have e : (p.its.map itD).take k ++ [itD (intO m, q.2)] ++ (p.its.map itD).drop (k + 1) = (p.its.set k (intO m, q.2)).map itD := by
          rw [List.map_set, List.set_eq_take_append_cons_drop, if_pos (by rw [ll]; exact lv)]; simp
        rw [e]
        exact hk
    | setWeight v m =>
      obtain ⟨iv, im, rfl⟩ := inv_setWeight hrun
      obtain ⟨k, rfl, lv⟩ := isItm_ex iv
      obtain ⟨em, _⟩ := isWt_int im
      rw [natO_nat] at hk
      refine ⟨_, rfl, ?_⟩
      refine ⟨trivial, brF (by simp only [Act.nm]; decide +kernel) ?_⟩
      refine ⟨trivial, brF (by simp only [Act.nm]; decide +kernel) ?_⟩
      refine ⟨trivial, brF (by simp only [Act.nm]; decide +kernel) ?_⟩
      refine ⟨trivial, brF (by simp only [Act.nm]; decide +kernel) ?_⟩
      dsimp only [qNext]
      let q := p.its.getD k (0, 1)
      have iq : idx (p.its.map itD) (k : Int) = some (itD q) := idx_it lv
      refine seq_mid (M := fun s' => s' = ⟨[P, some (.val (Act.setWeight (natD k) m).d), some (.val (.str (Act.setWeight (natD k) m).nm)), I, U, some (.val .non), some (.val (natD k)), some (.val (itD (q.1, intO m)))], ()⟩) ?_ ?_
      rotate_left
      · intro N hN
        have hN : N ⟨[P, some (.val (Act.setWeight (natD k) m).d), some (.val (.str (Act.setWeight (natD k) m).nm)), I, U, some (.val .non), some (.val (natD k)), some (.val (itD (q.1, intO m)))], ()⟩ := hN _ rfl
        have e : itD (q.1, intO m) = .tup [.int q.1, m] := by show D.tup [.int q.1, .int (intO m)] = _; rw [← em]
        rw [e] at hN
        exact ⟨trivial, brF (by simp only [Act.nm]; decide +kernel) ⟨_, iq, _, rfl, _, rfl, (by show 2 ≤ sizeLine; omega), hN⟩⟩
      rintro _ rfl
      have c1 : cut (p.its.map itD) none (some ((k : Nat) : Int)) = (p.its.map itD).take k := cut_to _ _
      have c2 : cut (p.its.map itD) (some ((k : Int) + 1)) none = (p.its.map itD).drop (k + 1) := cut_from _ (k + 1)
      have k1 := cut_length (p.its.map itD) none (some ((k : Nat) : Int))
      have k2 := cut_length (p.its.map itD) (some ((k : Int) + 1)) none
      have ll : (p.its.map itD).length = p.its.length := List.length_map _
      refine ⟨(by show 1 ≤ sizeLine; omega), ?_, ?_, (by show 2 ≤ sizeLine; omega), (by show 2 ≤ sizeLine; omega), ?_⟩
      · show (cut (p.its.map itD) none (some ((k : Nat) : Int))).length + 1 ≤ sizeLine
        omega
      · show (cut (p.its.map itD) none (some ((k : Nat) : Int)) ++ [itD (q.1, intO m)]).length + (cut (p.its.map itD) (some ((k : Int) + 1)) none).length ≤ sizeLine
        rw [List.length_append]
        have : [itD (q.1, intO m)].length = 1 := rfl
        omega
      · show R (.lst [.non, .tup [.tup (cut (p.its.map itD) none (some ((k : Nat) : Int)) ++ [itD (q.1, intO m)] ++ cut (p.its.map itD) (some ((k : Int) + 1)) none), .tup (p.rus.map itD)]])
        rw [c1, c2]
        have e : (p.its.map itD).take k ++ [itD (q.1, intO m)] ++ (p.its.map itD).drop (k + 1) = (p.its.set k (q.1, intO m)).map itD := by
          rw [List.map_set, List.set_eq_take_append_cons_drop, if_pos (by rw [ll]; exact lv)]; simp
        rw [e]
        exact hk

def t_Book_panel_40b0 (CBook : Addr) : PSXx (Unit × List OB) := (xs0 (qRet (qBin ixD (qFI CBook "panels" (qVar 0)) (qUn negD (qC (.int 1))))))

def sp_Book_panel_40b0 (CBook : Addr) : SpecB := fun ds bs R _ => ∃ (b : Bok) (p : Pan) (bs1 bs2 : List OB), ds = [.obj b.o] ∧ BokAt CBook b p ∧ bs = bs1 ++ b.ob :: bs2 ∧ R (panD p) bs
theorem len_Book_panel_40b0 (CBook : Addr) (ds : List D) (bs : List OB) (R : D → List OB → Prop) (W : Xc → List OB → Prop) (h : sp_Book_panel_40b0 CBook ds bs R W) : ds.length = 1 := by
  obtain ⟨_, _, _, _, rfl, _⟩ := h; rfl
theorem p_Book_panel_40b0 (CBook : Addr) (ds : List D) (bs : List OB) (R : D → List OB → Prop) (W : Xc → List OB → Prop) (h : sp_Book_panel_40b0 CBook ds bs R W) : t_Book_panel_40b0 CBook (fun x s => W x s.g.2) { nx := fun s => R .non s.g.2, rt := fun d g => R d g.2 } ⟨startL 1 ds, ((), bs)⟩ := by
  obtain ⟨b, p, bs1, bs2, rfl, hb, rfl, h⟩ := h
  obtain ⟨ps0, e⟩ := hb.at_
  refine ⟨bs1, b.ob, bs2, .tup b.ps, rfl, rfl, hb.C, rfl, panD p, ?_, h⟩
  rw [e]; exact idx_last _ _

def t_Book___str___29d1 (CBook : Addr) : PSXx (Unit × List OB) := (xs0 (qSeq (qAsgT (nx0 (qMethI CBook "panel" (sp_Book_panel_40b0 CBook) (qVar 0) qNil)) (.tp [(.nm 1), (.nm 2)])) (qRet (qFs [(qFmt (qCall (fn1 lenD) (qCons (qVar 1) qNil))), (qC (.str " items, ")), (qFmt (qCall (fn1 lenD) (qCons (qVar 2) qNil))), (qC (.str " rules, ")), (qFmt (qCall (fn1 lenD) (qCons (qFI CBook "kept" (qVar 0)) qNil))), (qC (.str " actions"))]))))

def sp_Book___str___29d1 (CBook : Addr) : SpecB := fun ds bs R _ => ∃ (b : Bok) (p : Pan) (bs1 bs2 : List OB), ds = [.obj b.o] ∧ BokAt CBook b p ∧ bs = bs1 ++ b.ob :: bs2 ∧ R (.str (bokT p.its.length p.rus.length b.ks.length)) bs
theorem len_Book___str___29d1 (CBook : Addr) (ds : List D) (bs : List OB) (R : D → List OB → Prop) (W : Xc → List OB → Prop) (h : sp_Book___str___29d1 CBook ds bs R W) : ds.length = 1 := by
  obtain ⟨_, _, _, _, rfl, _⟩ := h; rfl
theorem p_Book___str___29d1 (CBook : Addr) (ds : List D) (bs : List OB) (R : D → List OB → Prop) (W : Xc → List OB → Prop) (h : sp_Book___str___29d1 CBook ds bs R W) : t_Book___str___29d1 CBook (fun x s => W x s.g.2) { nx := fun s => R .non s.g.2, rt := fun d g => R d g.2 } ⟨startL 3 ds, ((), bs)⟩ := by
  obtain ⟨b, p, bs1, bs2, rfl, hb, rfl, h⟩ := h
  have line : (10000000 : Nat) ≤ sizeLine := line_big
  have hC := hb.C
  have hp := hb.pan
  have top := hp.top; have few := hp.few; have kf := hb.few
  have li : (p.its.map itD).length = p.its.length := List.length_map _
  have lr : (p.rus.map itD).length = p.rus.length := List.length_map _
  obtain ⟨q1, q2, q3, q4, q5, q6⟩ := bok_lens (n := (p.its.map itD).length) (m := (p.rus.map itD).length) (k := b.ks.length) (by omega) (by omega) (by omega) (S := sizeLine) (by omega)
  refine seq_mid (M := fun s' => s' = ⟨[some (.val (.obj b.o)), some (.val (.tup (p.its.map itD))), some (.val (.tup (p.rus.map itD)))], ((), bs1 ++ b.ob :: bs2)⟩) ?_ ?_
  rotate_left
  · intro N hN
    exact ⟨bs1, b.ob, bs2, rfl, rfl, hC, rfl, b, p, bs1, bs2, rfl, hb, rfl, hN _ rfl⟩
  rintro _ rfl
  rw [← li, ← lr] at h
  exact ⟨log_small (by omega), _, rfl, q1, _, rfl, q2, log_small (by omega), _, rfl, q3, _, rfl, q4, bs1, b.ob, bs2, .tup b.ks, rfl, rfl, hC, rfl, log_small (by omega), _, rfl, q5, _, rfl, q6, h⟩

def t_seen_4665 (CBook : Addr) : PSXx (Unit × List OB) := (xs0 (qRet (qTup (qCons (nx0 (qMethI CBook "panel" (sp_Book_panel_40b0 CBook) (qVar 0) qNil)) (qCons (nx0 (qMethI CBook "actions" (sp_Book_actions_a3eb CBook) (qVar 0) qNil)) (qCons (qDunL CBook (sp_Book___len___d650 CBook) (qVar 0)) (qCons (qDunS CBook (sp_Book___str___29d1 CBook) (qVar 0)) qNil)))))))

def sp_seen_4665 (CBook : Addr) : SpecB := fun ds bs R _ => ∃ (b : Bok) (p : Pan) (bs1 bs2 : List OB), ds = [.obj b.o] ∧ BokAt CBook b p ∧ bs = bs1 ++ b.ob :: bs2 ∧ R (.tup [panD p, .tup b.ks, .int (b.ks.length : Nat), .str (bokT p.its.length p.rus.length b.ks.length)]) bs
theorem len_seen_4665 (CBook : Addr) (ds : List D) (bs : List OB) (R : D → List OB → Prop) (W : Xc → List OB → Prop) (h : sp_seen_4665 CBook ds bs R W) : ds.length = 1 := by
  obtain ⟨_, _, _, _, rfl, _⟩ := h; rfl
theorem p_seen_4665 (CBook : Addr) (ds : List D) (bs : List OB) (R : D → List OB → Prop) (W : Xc → List OB → Prop) (h : sp_seen_4665 CBook ds bs R W) : t_seen_4665 CBook (fun x s => W x s.g.2) { nx := fun s => R .non s.g.2, rt := fun d g => R d g.2 } ⟨startL 1 ds, ((), bs)⟩ := by
  obtain ⟨b, p, bs1, bs2, rfl, hb, rfl, h⟩ := h
  have line : (10000000 : Nat) ≤ sizeLine := line_big
  have hC := hb.C
  have kf := hb.few
  refine ⟨bs1, b.ob, bs2, rfl, rfl, hC, rfl, b, p, bs1, bs2, rfl, hb, rfl, ?_⟩
  refine ⟨bs1, b.ob, bs2, rfl, rfl, hC, rfl, b, bs1, bs2, rfl, hC, rfl, ?_⟩
  refine ⟨bs1, b.ob, bs2, rfl, rfl, hC, b, bs1, bs2, rfl, hC, rfl, b.ks.length, rfl, Nat.lt_of_le_of_lt kf (by decide), ?_⟩
  refine ⟨bs1, b.ob, bs2, rfl, rfl, hC, b, p, bs1, bs2, rfl, hb, rfl, _, rfl, ?_⟩
  exact ⟨(by show 4 ≤ sizeLine; omega), h⟩

def t_due_seen_6cad : PSx Unit := (qSeq (qAsg (qFs [(qFmt (qCall (fn1 lenD) (qCons (qBin ixD (qVar 0) (qC (.int 0))) qNil))), (qC (.str " items, ")), (qFmt (qCall (fn1 lenD) (qCons (qBin ixD (qVar 0) (qC (.int 1))) qNil))), (qC (.str " rules, ")), (qFmt (qCall (fn1 lenD) (qCons (qVar 1) qNil))), (qC (.str " actions"))]) 2) (qRet (qTup (qCons (qVar 0) (qCons (qVar 1) (qCons (qCall (fn1 lenD) (qCons (qVar 1) qNil)) (qCons (qVar 2) qNil)))))))

def sp_due_seen_6cad : Spec0 := fun ds R => ∃ (p : Pan) (ks : List D), ds = [panD p, .tup ks] ∧ p.its.length ≤ 100 ∧ p.rus.length ≤ 100 ∧ ks.length ≤ 100 ∧ R (.tup [panD p, .tup ks, .int (ks.length : Nat), .str (bokT p.its.length p.rus.length ks.length)])
theorem len_due_seen_6cad (ds : List D) (R : DK) (h : sp_due_seen_6cad ds R) : ds.length = 2 := by
  obtain ⟨_, _, rfl, _⟩ := h; rfl
theorem p_due_seen_6cad (ds : List D) (R : DK) (h : sp_due_seen_6cad ds R) : t_due_seen_6cad { nx := fun _ => R .non, rt := fun d _ => R d } ⟨startL 3 ds, ()⟩ := by
  obtain ⟨p, ks, rfl, top, few, kf, h⟩ := h
  have line : (10000000 : Nat) ≤ sizeLine := line_big
  have li : (p.its.map itD).length = p.its.length := List.length_map _
  have lr : (p.rus.map itD).length = p.rus.length := List.length_map _
  obtain ⟨q1, q2, q3, q4, q5, q6⟩ := bok_lens (n := (p.its.map itD).length) (m := (p.rus.map itD).length) (k := ks.length) (by omega) (by omega) (by omega) (S := sizeLine) (by omega)
  rw [← li, ← lr] at h
  refine seq_mid (M := fun s' => s' = ⟨[some (.val (panD p)), some (.val (.tup ks)), some (.val (.str (bokT (p.its.map itD).length (p.rus.map itD).length ks.length)))], ()⟩) ?_ ?_
  rotate_left
  · intro N hN
    exact ⟨_, rfl, log_small (by omega), _, rfl, q1, _, rfl, q2, _, rfl, log_small (by omega), _, rfl, q3, _, rfl, q4, log_small (by omega), _, rfl, q5, _, rfl, q6, hN _ rfl⟩
  rintro _ rfl
  exact ⟨(by show 4 ≤ sizeLine; omega), h⟩

def t_law_9d52 (CBook : Addr) (E : EF) (r : Addr) : PSx (Nat × List OB) := (qSeq (qAsg (qCallN (sp_panel_3836 r) (qCons (qVar 1) (qCons (qC (.int 6)) qNil))) 2) (qSeq (qParM3 3 4 5 (qmVal (nx0 (qMakeI CBook (sp_Book___init___c536 CBook) (qCons (qVar 2) qNil))) (qmVal (qSet (qLst (qCons (qVar 2) qNil))) (qmVal (qTup qNil) qmNil)))) (qSeq (qFor (qRange1 (qCons (qC (.int 20)) qNil)) (.nm 6) (qSeq (qIf (qB (qBin eqD (qCallN (nextS r) (qCons (qVar 1) (qCons (qC (.int 3)) qNil))) (qC (.int 0)))) (qSeq (qIf (qB (qBin neD (nx0 (qCallI (sp_undone_a4b1 CBook E) (qCons (qVar 3) qNil))) (qBin ixD (qSet (qLst (qCons (qC (.str "")) (qCons (qC (.str "NothingToUndo")) qNil)))) (qCall (fn1 intD) (qCons (qBin eqD (qVar 5) (qTup qNil)) qNil))))) (qRet (qC (.bl false))) qNext) (qPar 4 5 (qCons (qSl (qVar 4) qNoPart (qPart (qCall (fn2 max2) (qCons (qC (.int 1)) (qCons (qCall (fn1 lenD) (qCons (qVar 5) qNil)) qNil))))) (qCons (qSl (qVar 5) qNoPart (qPart (qUn negD (qC (.int 1))))) qNil)))) (qSeq (qAsg (qCallN (sp_action_0538 r) (qCons (qVar 1) (qCons (qBin ixD (qVar 4) (qUn negD (qC (.int 1)))) qNil))) 7) (qSeq (qAsgT (qCallP (sp_after_0530) (qCons (qBin ixD (qVar 4) (qUn negD (qC (.int 1)))) (qCons (qVar 7) qNil))) (.tp [(.nm 8), (.nm 9)])) (qIf (qB (qBin isND (qVar 8) (qC .non))) (qSeq (qDrop (nx0 (qCallI (sp_do_b165 CBook) (qCons (qVar 3) (qCons (qVar 7) qNil))))) (qPar 4 5 (qCons (qBin addD (qVar 4) (qSet (qLst (qCons (qVar 9) qNil)))) (qCons (qBin addD (qVar 5) (qTup (qCons (qVar 7) qNil))) qNil)))) qNext)))) (qIf (qNot (qB (qCallP (sp_equal_17a7 24) (qCons (nx0 (qCallI (sp_seen_4665 CBook) (qCons (qVar 3) qNil))) (qCons (qCallP (sp_due_seen_6cad) (qCons (qBin ixD (qVar 4) (qUn negD (qC (.int 1)))) (qCons (qVar 5) qNil))) qNil))))) (qRet (qC (.bl false))) qNext))) (qRet (qAndV (nx0 (qCallI (sp_states_right_c0ad CBook E) (qCons (qVar 3) (qCons (qVar 4) qNil)))) (nx0 (qCallT (sp_sixty_right_718b CBook E) (qCons (qVar 2) qNil))))))))

theorem p_law_9d52 (CBook : Addr) (E : EF) (r : Addr) : t_law_9d52 CBook E r { nx := fun _ => False, rt := fun d _ => d = .bl true } ⟨(List.replicate 10 none).set 1 (some (.val (.obj r))), (0, [])⟩ := by
  have lim : drawLine = 16777216 := by decide
  have line : (10000000 : Nat) ≤ sizeLine := line_big
  have s1 : 1 ≤ sizeLine := by omega
  have s2 : 2 ≤ sizeLine := by omega
  have s0 : 0 ≤ sizeLine := Nat.zero_le _
  let O := some (L.val (.obj r))
  let St (w2 w3 w4 w5 w6 w7 w8 w9 : Option L) (g : Nat) (bs : List OB) : S (Nat × List OB) := ⟨[none, O, w2, w3, w4, w5, w6, w7, w8, w9], (g, bs)⟩
  refine seq_mid (M := fun s' => ∃ (p : Pan) (g1 : Nat), PanOk 6 p ∧ g1 ≤ 400 ∧ s' = St (some (.val (panD p))) none none none none none none none g1 []) ?_ ?_
  rotate_left
  · intro N hN
    exact ⟨6, rfl, by decide, by decide, (by show 0 + 1000 < drawLine; omega), fun p g1 hp _ a1 => hN _ ⟨p, g1, hp, by have a1 : g1 ≤ 0 + 400 := a1; omega, rfl⟩⟩
  rintro _ ⟨p, g1, hp6, hg1, rfl⟩
  have p1 := hp6.one; have p2 := hp6.top
  have hp : PanOk 8 p := ⟨hp6.one, by omega, hp6.it, hp6.few, hp6.ru⟩
  let PD := some (L.val (panD p))
  refine seq_mid (M := fun s' => ∃ (o : Addr) (b : Bok), HisB CBook o b [p] [] ∧ s' = St PD (some (.val (.obj o))) (some (.val (.lst [panD p]))) (some (.val (.tup []))) none none none none g1 [b.ob]) ?_ ?_
  rotate_left
  · intro N hN
    refine fun o dx => ⟨o, dx, p, [], rfl, hp, rfl, fun ra => ⟨rfl, ?_⟩⟩
    exact ⟨s1, s0, hN _ ⟨o, ⟨o, CBook, dx, ra, [panD p], [], [], false⟩, HisB.start hp, rfl⟩⟩
  rintro _ ⟨o, b, hb, rfl⟩
  let BK := some (L.val (.obj o))
  let LP (P : List Pan) := some (L.val (.lst (P.map panD)))
  let LA (as : List Act) := some (L.val (.tup (as.map Act.d)))
  refine seq_mid (M := fun s' => ∃ (b : Bok) (P : List Pan) (as : List Act) (g2 : Nat) (w6 w7 w8 w9 : Option L), HisB CBook o b P as ∧ s' = St PD BK (LP P) (LA as) w6 w7 w8 w9 g2 [b.ob]) ?_ ?_
  rotate_left
  · intro N hN
    refine ⟨⟨by decide, by decide⟩, fun j s => ∃ (b : Bok) (P : List Pan) (as : List Act) (g2 : Nat) (w6 w7 w8 w9 : Option L), HisB CBook o b P as ∧ as.length ≤ j ∧ g2 ≤ g1 + 10 * j ∧ s = St PD BK (LP P) (LA as) w6 w7 w8 w9 g2 [b.ob], ⟨_, Wk.refl _, b, [p], [], g1, none, none, none, none, hb, Nat.le_refl 0, by omega, rfl⟩, ?_, ?_⟩
    rotate_left
    · rintro s ⟨b, P, as, g2, w6, w7, w8, w9, h1, _, _, rfl⟩
      exact hN _ ⟨b, P, as, g2, w6, w7, w8, w9, h1, rfl⟩
    clear hb b
    rintro j d s hd ⟨b, P, as, g2, w6, w7, w8, w9, hb, hl, hg2, rfl⟩
    have hj : j < 20 := by have := (List.getElem?_eq_some_iff.mp hd).1; simpa using this
    refine put_nm ?_
    let T6 := some (L.val d)
    have kpl : ∀ k ∈ as.map Act.d, KpOk k := fun k hk => by
      obtain ⟨a, ha, rfl⟩ := List.mem_map.mp hk
      exact sm_kp (hb.sm a ha)
    have apl : (D.tup (as.map Act.d)).pln = true := plns_of fun d hd => (kpl d hd).1
    have adp : (D.tup (as.map Act.d)).dep ≤ 64 := by
      show D.deps (as.map Act.d) + 1 ≤ 64
      have : D.deps (as.map Act.d) ≤ 1 := deps_le.mpr fun d hd => (kpl d hd).2.1
      omega
    refine seq_mid (M := fun s' => ∃ (b' : Bok) (P' : List Pan) (as' : List Act) (g3 : Nat) (w7 w8 w9 : Option L), HisB CBook o b' P' as' ∧ as'.length ≤ j + 1 ∧ g3 ≤ g2 + 10 ∧ s' = St PD BK (LP P') (LA as') T6 w7 w8 w9 g3 [b'.ob]) ?_ ?_
    rotate_left
    · intro N hN
      refine ⟨3, rfl, by decide, by decide, (by show g2 < drawLine; omega), fun k k0 k3 => ?_⟩
      refine ⟨.of ⟨rfl, rfl, by show 0 ≤ 64; decide, by show 0 ≤ 64; decide⟩, ?_⟩
      refine ⟨fun _ => ?_, fun _ => ?_⟩
      · -- undo
        refine seq_mid (M := fun s' => ∃ b' : Bok, HisB CBook o b' (P.take (max 1 as.length)) as.dropLast ∧ s' = St PD BK (LP P) (LA as) T6 w7 w8 w9 (g2 + 1) [b'.ob]) ?_ ?_
        rotate_left
        · intro N hN
          cases as with
          | nil =>
            have hk : b.ks = [] := hb.ks
            refine ⟨b, [], [], (by show [D.obj o] = [D.obj b.o]; rw [hb.o]), hb.C, rfl, fun z => (by rw [hb.idle] at z; cases z), fun _ _ => ?_, fun _ z => absurd hk z⟩
            refine ⟨s2, s0, .of ⟨rfl, rfl, by decide, by decide⟩, _, rfl, ⟨trivial, brF (by decide +kernel) ?_⟩⟩
            have pl : P.length = 1 := hb.len
            have e1 : P.take (max 1 ([] : List Act).length) = P := by
              show P.take 1 = P
              rw [← pl, List.take_length]
            rw [e1] at hN
            exact hN _ ⟨b, hb, rfl⟩
          | cons a as =>
            have hk : b.ks ≠ [] := by rw [hb.ks]; simp
            refine ⟨b, [], [], (by show [D.obj o] = [D.obj b.o]; rw [hb.o]), hb.C, rfl, fun z => (by rw [hb.idle] at z; cases z), fun _ z => absurd z hk, fun _ _ => ?_⟩
            refine ⟨s2, s0, .of ⟨apl, rfl, adp, by decide⟩, _, rfl, ⟨trivial, brF (by decide +kernel) ?_⟩⟩
            have pl : P.length = (a :: as).length + 1 := hb.len
            have e1 : P.take (max 1 (a :: as).length) = P.dropLast := by
              have : max 1 (a :: as).length = P.length - 1 := by rw [pl]; simp
              rw [this, ← List.dropLast_eq_take]
            rw [e1] at hN
            exact hN _ ⟨_, hb.undo (by simp), rfl⟩
        rintro _ ⟨b', hb', rfl⟩
        have c1 : cut (P.map panD) none (some (max (1 : Int) ((as.map Act.d).length : Int))) = (P.take (max 1 as.length)).map panD := by
          have : max (1 : Int) ((as.map Act.d).length : Int) = ((max 1 as.length : Nat) : Int) := by rw [List.length_map]; omega
          rw [this, cut_to, List.map_take]
        have c2 : cut (as.map Act.d) none (some (-1)) = as.dropLast.map Act.d := by rw [cut_back, List.map_dropLast]
        have hh := hN _ ⟨b', _, _, g2 + 1, w7, w8, w9, hb', (by rw [List.length_dropLast]; omega), by omega, rfl⟩
        show N (St PD BK (some (.val (.lst (cut (P.map panD) none (some (max (1 : Int) ((as.map Act.d).length : Int))))))) (some (.val (.tup (cut (as.map Act.d) none (some (-1)))))) T6 w7 w8 w9 (g2 + 1) [b'.ob])
        rw [c1, c2]
        exact hh
      · -- an action
        obtain ⟨P0, q, rfl⟩ := hb.last
        have il : idx ((P0 ++ [q]).map panD) (-1) = some (panD q) := by rw [List.map_append]; exact idx_last _ _
        have hA := hb.at_
        refine seq_mid (M := fun s' => ∃ (a : Act) (g3 : Nat), a.sm ∧ g3 ≤ g2 + 1 + 5 ∧ s' = St PD BK (LP (P0 ++ [q])) (LA as) T6 (some (.val a.d)) w8 w9 g3 [b.ob]) ?_ ?_
        rotate_left
        · intro N hN
          exact ⟨_, il, q, rfl, hA.pan, (by show g2 + 1 + 10 < drawLine; omega), fun a g' hs _ h2 => hN _ ⟨a, g', hs, h2, rfl⟩⟩
        rintro _ ⟨a, g3, hs, hg3, rfl⟩
        refine seq_mid (M := fun s' => ∃ (x : D) (q2 : Pan), ((∃ y, a.run q = .error y ∧ x = errT y) ∨ a.run q = .ok q2 ∧ x = .non) ∧ s' = St PD BK (LP (P0 ++ [q])) (LA as) T6 (some (.val a.d)) (some (.val x)) (some (.val (panD q2))) g3 [b.ob]) ?_ ?_
        rotate_left
        · intro N hN
          refine ⟨_, il, q, a, rfl, hA.pan, sm_ok hs, fun y hy => ?_, fun q2 hq => ?_⟩
          · exact put_tg rfl (hN _ ⟨errT y, q, .inl ⟨y, hy, rfl⟩, rfl⟩)
          · exact put_tg rfl (hN _ ⟨.non, q2, .inr ⟨hq, rfl⟩, rfl⟩)
        rintro _ ⟨x, q2, hx, rfl⟩
        rcases hx with ⟨y, hy, rfl⟩ | ⟨hq, rfl⟩
        · refine brF rfl (hN _ ⟨b, P0 ++ [q], as, g3, _, _, _, hb, by omega, by omega, rfl⟩)
        · refine brT rfl ?_
          refine ⟨b, q, a, [], [], (by show [D.obj o, _] = [D.obj b.o, _]; rw [hb.o]), hA, sm_ok hs, rfl, hb.idB.act hq (by omega) ?_⟩
          have ln : (P0 ++ [q]).length = as.length + 1 := hb.len
          have hh := hN _ ⟨_, _, _, g3, some (.val a.d), some (.val .non), some (.val (panD q2)), hb.step hq hs (by omega), (by rw [List.length_append, List.length_singleton]; omega), by omega, rfl⟩
          refine ⟨s1, (by show ((P0 ++ [q]).map panD).length + 1 ≤ sizeLine; rw [List.length_map, ln]; omega), s1, (by show (as.map Act.d).length + 1 ≤ sizeLine; rw [List.length_map]; omega), ?_⟩
          show N (St PD BK (some (.val (.lst ((P0 ++ [q]).map panD ++ [panD q2])))) (some (.val (.tup (as.map Act.d ++ [a.d])))) T6 (some (.val a.d)) (some (.val .non)) (some (.val (panD q2))) g3 [(b.step q2 a).ob])
          have e1 : (P0 ++ [q]).map panD ++ [panD q2] = (P0 ++ [q] ++ [q2]).map panD := by rw [List.map_append (l₁ := P0 ++ [q])]; rfl
          have e2 : as.map Act.d ++ [a.d] = (as ++ [a]).map Act.d := by rw [List.map_append]; rfl
          rw [e1, e2]
          exact hh
    clear hb hl kpl apl adp
    rintro _ ⟨b', P', as', g3, w7', w8', w9', hb, hl', hg3, rfl⟩
    have kpl : ∀ k ∈ as'.map Act.d, KpOk k := fun k hk => by
      obtain ⟨a, ha, rfl⟩ := List.mem_map.mp hk
      exact sm_kp (hb.sm a ha)
    obtain ⟨P0, q, rfl⟩ := hb.last
    have il : idx ((P0 ++ [q]).map panD) (-1) = some (panD q) := by rw [List.map_append]; exact idx_last _ _
    have hA := hb.at_
    have kl : b'.ks.length = as'.length := by rw [hb.ks, List.length_map]
    have k2 : ∀ k ∈ b'.ks, KpOk k := by rw [hb.ks]; exact kpl
    obtain ⟨z1, z2, z3⟩ := seen_ok hA.pan k2 (by omega)
    refine ⟨b', q, [], [], (by show [D.obj o] = [D.obj b'.o]; rw [hb.o]), hA, rfl, ?_⟩
    refine ⟨_, il, q, as'.map Act.d, rfl, by have := hA.pan.top; omega, by have := hA.pan.few; omega, by rw [List.length_map]; omega, ?_⟩
    rw [← hb.ks]
    refine ⟨_, rfl, z1, z2, by decide, z3, brF rfl ?_⟩
    exact ⟨_, Wk.refl _, b', _, _, g3, T6, w7', w8', w9', hb, hl', by omega, rfl⟩
  rintro _ ⟨b', P, as, g2, w6, w7, w8, w9, hb', rfl⟩
  have lp : b'.ps.length = b'.ks.length + 1 := by rw [hb'.ps, hb'.ks, List.length_map, List.length_map]; exact hb'.len
  have f60 := hb'.few
  refine ⟨b', [], [], (by show [D.obj o, D.lst (P.map panD)] = [D.obj b'.o, D.lst b'.ps]; rw [hb'.o, hb'.ps]), hb'.C, rfl, (by rw [hb'.ks, List.length_map]; exact f60), lp, fun x hx => ?_, ?_⟩
  · rw [hb'.ps] at hx
    obtain ⟨q, hq, rfl⟩ := List.mem_map.mp hx
    have pv := VOk.pan (hb'.ok q hq) (by decide)
    exact ⟨pln_eqz _ (tri_pln _ (panD_tri q)), Nat.lt_of_le_of_lt pv.k (by decide), Nat.le_trans pv.w (by decide)⟩
  · refine ⟨fun _ => ?_, fun z => (by cases z)⟩
    exact ⟨p, _, rfl, hp, rfl, fun b2 => rfl⟩

end Pm
set_option Elab.async false
set_option linter.all false
set_option maxRecDepth 100000
set_option maxHeartbeats 0
set_option autoImplicit false
namespace Pm
open PySem PySem.Spec
open PyProof.Rows hiding St
open L2 TL
structure Bi (w : World) (K : PySem.W.Frag) (mg : Str → Option Value) : Prop where
  f_all : mg "all" = none
  f_bool : mg "bool" = none
  f_enumerate : mg "enumerate" = none
  f_int : mg "int" = none
  f_isinstance : mg "isinstance" = none
  f_len : mg "len" = none
  f_list : mg "list" = none
  f_max : mg "max" = none
  f_min : mg "min" = none
  f_range : mg "range" = none
  f_str : mg "str" = none
  f_tuple : mg "tuple" = none
  f_zip : mg "zip" = none
  g_ACTIONS : GlD K mg "ACTIONS" (.int 60)
  g_BATCH : GlD K mg "BATCH" (.int 20)
  g_ITEMS : GlD K mg "ITEMS" (.int 8)
  g_LOG_ROWS : GlD K mg "LOG_ROWS" (.int 10)
  g_MARK : GlD K mg "MARK" (.int 1000000000)
  g_RULES : GlD K mg "RULES" (.int 16)
  g_WEIGHT : GlD K mg "WEIGHT" (.int 1000000)
  exc : Excs K mg x0L xqL subL xfL
  d_ARGUMENTS : GDc w K mg "ARGUMENTS" [("set_mark", .int 2), ("set_weight", .int 2), ("add_item", .int 2), ("drop_item", .int 1), ("add_rule", .int 2), ("drop_rule", .int 1)]
theorem bt_all : bootBuiltins "all" = some (.builtin "all") := by decide +kernel
theorem bt_bool : bootBuiltins "bool" = some (.type "bool") := by decide +kernel
theorem bt_int : bootBuiltins "int" = some (.type "int") := by decide +kernel
theorem bt_len : bootBuiltins "len" = some (.builtin "len") := by decide +kernel
theorem bt_list : bootBuiltins "list" = some (.type "list") := by decide +kernel
theorem bt_max : bootBuiltins "max" = some (.builtin "max") := by decide +kernel
theorem bt_min : bootBuiltins "min" = some (.builtin "min") := by decide +kernel
theorem bt_str : bootBuiltins "str" = some (.type "str") := by decide +kernel
theorem bt_tuple : bootBuiltins "tuple" = some (.type "tuple") := by decide +kernel
theorem sc_BatchFailed : FnScope ["self", "index"] ["self", "index"] (defScope st_BatchFailed) := ⟨rfl, rfl, rfl, by decide +kernel, rfl, by decide +kernel, by decide +kernel⟩
theorem sc_InvalidMark : FnScope ["self", "mark"] ["self", "mark"] (defScope st_InvalidMark) := ⟨rfl, rfl, rfl, by decide +kernel, rfl, by decide +kernel, by decide +kernel⟩
theorem sc_InvalidWeight : FnScope ["self", "weight"] ["self", "weight"] (defScope st_InvalidWeight) := ⟨rfl, rfl, rfl, by decide +kernel, rfl, by decide +kernel, by decide +kernel⟩
theorem sc_NoSuchItem : FnScope ["self", "item"] ["self", "item"] (defScope st_NoSuchItem) := ⟨rfl, rfl, rfl, by decide +kernel, rfl, by decide +kernel, by decide +kernel⟩
theorem sc_NoSuchRule : FnScope ["self", "rule"] ["self", "rule"] (defScope st_NoSuchRule) := ⟨rfl, rfl, rfl, by decide +kernel, rfl, by decide +kernel, by decide +kernel⟩
theorem sc_NoSuchStep : FnScope ["self", "step"] ["self", "step"] (defScope st_NoSuchStep) := ⟨rfl, rfl, rfl, by decide +kernel, rfl, by decide +kernel, by decide +kernel⟩
structure CiBook (K : PySem.W.Frag) (C : Addr) : Prop where
  c : Cls K C
  panels : NoAttr K C "panels"
  kept : NoAttr K C "kept"
  rows : NoAttr K C "rows"
  is_busy : NoAttr K C "is_busy"
section
variable {P : Program} {w : World} {K : PySem.W.Frag} {mg : Str → Option Value} {base : Heap}
theorem sc_draws : FnScope ["_law_script", "_law_cells", "_law_cell"] ["_law_script"] (defScope st_draws) := ⟨rfl, rfl, rfl, by decide +kernel, rfl, by decide +kernel, by decide +kernel⟩
theorem ok_draws0 {f fd} (b : Bi w K mg) (F : Fn K "_law_draws" "_law_draws" st_draws f fd) : FnOk P w K mg base CX0 1 f fd ["_law_script"] (spDraws K) := ok_draws F sc_draws rfl rfl fun cdv A outer s H E hr => by
  have nd := sc_draws.nd
  exact pss_cons (ps_set (i := 1) nd rfl (by first | exact Or.inl rfl | exact Or.inr rfl) (pe_op op_cat (pe_callTy call_list_of rfl b.f_list bt_list (pa_cons (pe_slice sl_list (pv 0) po_none (po_some pe_int)) pa_nil))
      (pe_op op_rep (pe_lst (pa_cons pe_int pa_nil)) (pe_callTy call_int1 rfl b.f_int bt_int (pa_cons (pe_cmpR op_eq (pe_callB call_len_seq rfl b.f_len bt_len (pa_cons (pv 0) pa_nil)) pe_int (nomark _)) pa_nil)))))
    (pss_one (ps_ret (pe_lst (pa_cons (pv 1) (pa_cons pe_int (pa_cons (pe_lc (own := [("_law_cell", 2)]) rfl nd (pi_list (pv 1)) (blkOk_by (by kernel_rfl)) (fun _ _ _ _ _ => pg_name nd rfl (by first | exact Or.inl rfl | exact Or.inr rfl)) (fun _ _ _ _ _ => pts_nil)
      (fun _ _ _ _ _ => pe_op op_mul (pv 2) (pe_callTy call_int1 rfl b.f_int bt_int (pa_cons (pe_cmpR op_ge (pv 2) (pe_op op_pow pe_int pe_int) (nomark _)) pa_nil)))) pa_nil))))))
theorem sc_next : FnScope ["_law_drawn", "_law_many", "_law_cells", "_law_turn", "_law_rests", "_law_spot", "_law_digit", "_law_mixed", "_law_again"] ["_law_drawn", "_law_many"] (defScope st_next) := ⟨rfl, rfl, rfl, by decide +kernel, rfl, by decide +kernel, by decide +kernel⟩
theorem ok_next0 {f fd} {r c q : Addr} (b : Bi w K mg) (F : Fn K "_law_next" "_law_next" st_next f fd) : FnOk P w K mg base CX0 1 f fd ["_law_drawn", "_law_many"] (spG (gr K r c q) (nextS r)) := ok_next F sc_next rfl rfl fun cdv A outer s H E hr => by
  have nd := sc_next.nd
  exact pss_cons (ps_asg (pv 0) (pg_lst rfl (pgs_cons (pg_name nd rfl (.inl rfl)) (pgs_cons (pg_name nd rfl (.inl rfl)) (pgs_cons (pg_name nd rfl (.inl rfl)) pgs_nil)))))
    (pss_cons (ps_set (i := 5) nd rfl (.inl rfl) (pe_op op_mod (pv 3) (pe_callB call_len_seq rfl b.f_len bt_len (pa_cons (pv 2) pa_nil))))
    (pss_cons (ps_asg (pe_op op_add (pv 3) pe_int) (pg_sub (pv 0) pe_int set_list (fun _ => rfl)))
    (pss_cons (ps_if (pt_cmpR op_gt (pe_ix ix_list (pv 4) (pv 5) (fun _ _ => rfl)) pe_int (nomark _))
      (pss_cons (ps_set (i := 6) nd rfl (.inl rfl) (pe_op op_mod (pe_ix ix_list (pv 4) (pv 5) (fun _ _ => rfl)) (pv 1)))
      (pss_cons (ps_asg (pe_op op_fdivM (pe_ix ix_list (pv 4) (pv 5) (fun _ _ => rfl)) (pv 1)) (pg_sub (pv 4) (pv 5) set_list (fun _ => rfl)))
      (pss_one (ps_ret (pv 6))))) pss_nil)
    (pss_cons (ps_set (i := 7) nd rfl (.inl rfl) (pe_op op_mod (pe_op op_pow (pe_op op_add (pe_op op_add (pe_op op_mod (pe_ix ix_list (pv 2) (pv 5) (fun _ _ => rfl)) pe_int) (pe_op op_mul pe_int (pv 3))) pe_int) pe_int) pe_int))
    (pss_cons (ps_set (i := 8) nd rfl (.inl rfl) (pe_op op_mod (pe_op op_pow (pe_op op_add (pe_op op_add (pv 7) (pe_op op_mul (pe_op op_mul pe_int (pv 3)) (pv 3))) pe_int) pe_int) pe_int))
    (pss_one (ps_ret (pe_op op_mod (pe_op op_mod (pe_op op_add (pe_op op_mul (pv 8) pe_int) (pv 7)) pe_int) (pv 1)))))))))
theorem sc_size_3de8 : FnScope ["_law_drawn", "_law_great", "_law_few"] ["_law_drawn", "_law_great"] (defScope st_size_3de8) := ⟨rfl, rfl, rfl, by decide +kernel, rfl, by decide +kernel, by decide +kernel⟩
theorem ok_size_3de8 {f fd} {r c q : Addr} (b : Bi w K mg) (g_next : ∀ r c q, Glo P w K mg base "_law_next" 2 (spG (gr K r c q) (nextS r)) 1) (F : Fn K "_law_size" "_law_size" st_size_3de8 f fd) : FnOk P w K mg base CX0 2 f fd ["_law_drawn", "_law_great"] (spG (gr K r c q) (sp_size_3de8 r)) :=
  okG (P := P) (w := w) (mg := mg) (base := base) (G := gr K r c q) (k := 1) rfl F sc_size_3de8 (len_size_3de8 r) ⟨t_size_3de8 r, fun cdv A outer s H E hr => by
    have nd := sc_size_3de8.nd
    exact (qss_cons (qs_set (i := 2) nd rfl (by first | exact Or.inl rfl | exact Or.inr rfl) (qe_callG ((g_next _ _ _).at hr (by decide)) rfl (qa_cons (qv 0) (qa_cons (qe_bin o_add (qe_callB (c_min2 rfl) rfl b.f_min bt_min (qa_cons (qv 1) (qa_cons qe_int qa_nil))) qe_int) qa_nil))))
    (qss_one (qs_ret (qe_ix (qe_set (qf_lst (qa_cons (qv 2) (qa_cons (qe_bin o_sub (qv 1) (qv 2)) (qa_cons (qe_callG ((g_next _ _ _).at hr (by decide)) rfl (qa_cons (qv 0) (qa_cons (qe_bin o_add (qv 1) qe_int) qa_nil))) qa_nil))))) (qe_callG ((g_next _ _ _).at hr (by decide)) rfl (qa_cons (qv 0) (qa_cons qe_int qa_nil))))))), p_size_3de8 r⟩ (fun _ _ _ h => h)
theorem sc_items_cafd : FnScope ["_law_drawn", "_law_count", "_law_great", "_law_heavy", "_law_found", "_law_k"] ["_law_drawn", "_law_count"] (defScope st_items_cafd) := ⟨rfl, rfl, rfl, by decide +kernel, rfl, by decide +kernel, by decide +kernel⟩
theorem ok_items_cafd {f fd} {r c q : Addr} (b : Bi w K mg) (g_next : ∀ r c q, Glo P w K mg base "_law_next" 2 (spG (gr K r c q) (nextS r)) 1) (g_size_3de8 : ∀ r c q, Glo P w K mg base "_law_size" 2 (spG (gr K r c q) (sp_size_3de8 r)) 2) (F : Fn K "_law_items" "_law_items" st_items_cafd f fd) : FnOk P w K mg base CX0 3 f fd ["_law_drawn", "_law_count"] (spG (gr K r c q) (sp_items_cafd r)) :=
  okG (P := P) (w := w) (mg := mg) (base := base) (G := gr K r c q) (k := 2) rfl F sc_items_cafd (len_items_cafd r) ⟨t_items_cafd r, fun cdv A outer s H E hr => by
    have nd := sc_items_cafd.nd
    exact (qss_cons (qs_set (i := 2) nd rfl (by first | exact Or.inl rfl | exact Or.inr rfl) (qe_ix (qe_set (qf_lst (qa_cons qe_int (qa_cons qe_int (qa_cons (qe_bin o_pow qe_int qe_int) qa_nil))))) (qe_callG ((g_next _ _ _).at hr (by decide)) rfl (qa_cons (qv 0) (qa_cons qe_int qa_nil)))))
    (qss_cons (qs_set (i := 3) nd rfl (by first | exact Or.inl rfl | exact Or.inr rfl) (qe_ix (qe_set (qf_lst (qa_cons qe_int (qa_cons qe_int (qa_cons (qe_bin o_pow qe_int qe_int) qa_nil))))) (qe_callG ((g_next _ _ _).at hr (by decide)) rfl (qa_cons (qv 0) (qa_cons qe_int qa_nil)))))
    (qss_cons (qs_setOwn (i := 4) nd rfl (by first | exact Or.inl rfl | exact Or.inr rfl) (qf_lst qa_nil))
    (qss_cons (qs_for PassesOwn.never rfl (qi_range1 rfl b.f_range (qa_cons (qv 1) qa_nil)) (qg_name nd rfl (by first | exact Or.inl rfl | exact Or.inr rfl)) (qss_one (qs_expr (qe_append (pv 4) (qe_tup (qa_cons (qe_bin o_sub (qe_callG ((g_size_3de8 _ _ _).at hr (by decide)) rfl (qa_cons (qv 0) (qa_cons (qe_bin o_mul qe_int (qv 2)) qa_nil))) (qv 2)) (qa_cons (qe_bin o_add qe_int (qe_callG ((g_size_3de8 _ _ _).at hr (by decide)) rfl (qa_cons (qv 0) (qa_cons (qe_bin o_sub (qv 3) qe_int) qa_nil)))) qa_nil)))))))
    (qss_one (qs_ret (qe_callTy c_tuple rfl b.f_tuple bt_tuple (qa_cons (qv 4) qa_nil)))))))), p_items_cafd r⟩ (fun _ _ _ h => h)
theorem sc_rules_ccf3 : FnScope ["_law_drawn", "_law_count", "_law_found", "_law_way", "_law_k", "_law_one_here", "_law_other"] ["_law_drawn", "_law_count"] (defScope st_rules_ccf3) := ⟨rfl, rfl, rfl, by decide +kernel, rfl, by decide +kernel, by decide +kernel⟩
theorem ok_rules_ccf3 {f fd} {r c q : Addr} (b : Bi w K mg) (g_next : ∀ r c q, Glo P w K mg base "_law_next" 2 (spG (gr K r c q) (nextS r)) 1) (F : Fn K "_law_rules" "_law_rules" st_rules_ccf3 f fd) : FnOk P w K mg base CX0 2 f fd ["_law_drawn", "_law_count"] (spG (gr K r c q) (sp_rules_ccf3 r)) :=
  okG (P := P) (w := w) (mg := mg) (base := base) (G := gr K r c q) (k := 1) rfl F sc_rules_ccf3 (len_rules_ccf3 r) ⟨t_rules_ccf3 r, fun cdv A outer s H E hr => by
    have nd := sc_rules_ccf3.nd
    exact (qss_cons (qs_setOwn (i := 2) nd rfl (by first | exact Or.inl rfl | exact Or.inr rfl) (qf_lst qa_nil))
    (qss_cons (qs_set (i := 3) nd rfl (by first | exact Or.inl rfl | exact Or.inr rfl) (qe_callG ((g_next _ _ _).at hr (by decide)) rfl (qa_cons (qv 0) (qa_cons qe_int qa_nil))))
    (qss_cons (qs_for PassesOwn.never rfl (qi_range1 rfl b.f_range (qa_cons (qe_bin o_mul (qe_ix (qe_set (qf_lst (qa_cons qe_int (qa_cons qe_int (qa_cons qe_int (qa_cons qe_int (qa_cons qe_int (qa_cons qe_int qa_nil)))))))) (qe_callG ((g_next _ _ _).at hr (by decide)) rfl (qa_cons (qv 0) (qa_cons qe_int qa_nil)))) (qe_callTy c_int rfl b.f_int bt_int (qa_cons (qe_cmp o_gt (qv 1) qe_int (nomark _)) qa_nil))) qa_nil)) (qg_name nd rfl (by first | exact Or.inl rfl | exact Or.inr rfl)) (qss_cons (qs_set (i := 5) nd rfl (by first | exact Or.inl rfl | exact Or.inr rfl) (qe_callG ((g_next _ _ _).at hr (by decide)) rfl (qa_cons (qv 0) (qa_cons (qv 1) qa_nil))))
    (qss_cons (qs_set (i := 6) nd rfl (by first | exact Or.inl rfl | exact Or.inr rfl) (qe_bin o_mod (qe_bin o_add (qe_bin o_add (qv 5) qe_int) (qe_callG ((g_next _ _ _).at hr (by decide)) rfl (qa_cons (qv 0) (qa_cons (qe_bin o_sub (qv 1) qe_int) qa_nil)))) (qv 1)))
    (qss_one (qs_expr (qe_append (pv 2) (qe_if (qt_cmp (o_eq hr) (qv 3) qe_int (nomark _)) (qe_tup (qa_cons (qv 5) (qa_cons (qv 6) qa_nil))) (qe_tup (qa_cons (qe_callB (c_min2 rfl) rfl b.f_min bt_min (qa_cons (qv 5) (qa_cons (qv 6) qa_nil))) (qa_cons (qe_callB (c_max2 rfl) rfl b.f_max bt_max (qa_cons (qv 5) (qa_cons (qv 6) qa_nil))) qa_nil))))))))))
    (qss_one (qs_ret (qe_callTy c_tuple rfl b.f_tuple bt_tuple (qa_cons (qv 2) qa_nil))))))), p_rules_ccf3 r⟩ (fun _ _ _ h => h)
theorem sc_panel_3836 : FnScope ["_law_drawn", "_law_most", "_law_count"] ["_law_drawn", "_law_most"] (defScope st_panel_3836) := ⟨rfl, rfl, rfl, by decide +kernel, rfl, by decide +kernel, by decide +kernel⟩
theorem ok_panel_3836 {f fd} {r c q : Addr} (b : Bi w K mg) (g_next : ∀ r c q, Glo P w K mg base "_law_next" 2 (spG (gr K r c q) (nextS r)) 1) (g_items_cafd : ∀ r c q, Glo P w K mg base "_law_items" 2 (spG (gr K r c q) (sp_items_cafd r)) 3) (g_rules_ccf3 : ∀ r c q, Glo P w K mg base "_law_rules" 2 (spG (gr K r c q) (sp_rules_ccf3 r)) 2) (F : Fn K "_law_panel" "_law_panel" st_panel_3836 f fd) : FnOk P w K mg base CX0 4 f fd ["_law_drawn", "_law_most"] (spG (gr K r c q) (sp_panel_3836 r)) :=
  okG (P := P) (w := w) (mg := mg) (base := base) (G := gr K r c q) (k := 3) rfl F sc_panel_3836 (len_panel_3836 r) ⟨t_panel_3836 r, fun cdv A outer s H E hr => by
    have nd := sc_panel_3836.nd
    exact (qss_cons (qs_set (i := 2) nd rfl (by first | exact Or.inl rfl | exact Or.inr rfl) (qe_bin o_add qe_int (qe_callG ((g_next _ _ _).at hr (by decide)) rfl (qa_cons (qv 0) (qa_cons (qv 1) qa_nil)))))
    (qss_one (qs_ret (qe_tup (qa_cons (qe_callG ((g_items_cafd _ _ _).at hr (by decide)) rfl (qa_cons (qv 0) (qa_cons (qv 2) qa_nil))) (qa_cons (qe_callG ((g_rules_ccf3 _ _ _).at hr (by decide)) rfl (qa_cons (qv 0) (qa_cons (qv 2) qa_nil))) qa_nil)))))), p_panel_3836 r⟩ (fun _ _ _ h => h)
theorem sc_equal_17a7 : FnScope ["_law_one_here", "_law_other", "_law_a", "_law_b"] ["_law_one_here", "_law_other"] (defScope st_equal_17a7) := ⟨rfl, rfl, rfl, by decide +kernel, rfl, by decide +kernel, by decide +kernel⟩
theorem ok_equal_17a7 {f fd} {k : Nat} {s s1 : Spec0} (hk : 1 ≤ k) (ln : ∀ ds R, s1 ds R → ds.length = 2) (pp : ∀ ds R, s1 ds R → t_equal_17a7 s { nx := fun _ => R .non, rt := fun d _ => R d } ⟨startL 4 ds, ()⟩) (g_self : Glo P w K mg base "_law_equal" 2 (spP K s) k) (b : Bi w K mg) (F : Fn K "_law_equal" "_law_equal" st_equal_17a7 f fd) : FnOk P w K mg base CX0 (k + 1) f fd ["_law_one_here", "_law_other"] (spP K s1) :=
  okP F sc_equal_17a7 ln ⟨t_equal_17a7 s, fun cdv A outer s H E hr => by
    have nd := sc_equal_17a7.nd
    exact (qss_cons (qs_if (PW.pt (qw_and (qt_val (qe_isi (by decide) (qv 0) rfl b.f_isinstance rfl b.f_tuple bt_tuple)) (qw_and1 (qt_val (qe_isi (by decide) (qv 1) rfl b.f_isinstance rfl b.f_tuple bt_tuple))))) (qss_one (qs_ret (qe_and (qe_cmp (o_eq hr) (qe_callB c_len rfl b.f_len bt_len (qa_cons (qv 0) qa_nil)) (qe_callB c_len rfl b.f_len bt_len (qa_cons (qv 1) qa_nil)) (nomark _)) (qe_one (qe_callB (c_all rfl) rfl b.f_all bt_all (qa_cons (qe_set (qf_lc rfl nd (qi_zip rfl b.f_zip (qa_cons (qv 0) (qa_cons (qv 1) qa_nil))) (own := [("_law_a", 2), ("_law_b", 3)]) (blkOk_by (by kernel_rfl)) (by decide) (fun _ _ _ _ _ => (qg_tup rfl (qgs_cons (qg_name nd rfl (by first | exact Or.inl rfl | exact Or.inr rfl)) (qgs_cons (qg_name nd rfl (by first | exact Or.inl rfl | exact Or.inr rfl)) qgs_nil)))) (fun _ _ _ _ _ => qts_nil) (fun _ _ _ _ _ => (qe_call (g_self.at hr (Nat.le_refl _)) rfl (qa_cons (qv 2) (qa_cons (qv 3) qa_nil)))))) qa_nil)))))) qss_nil)
    (qss_cons (qs_if (PW.pt (qw_or (qt_val (qe_isi (by decide) (qv 0) rfl b.f_isinstance rfl b.f_bool bt_bool)) (qw_and1 (qt_val (qe_isi (by decide) (qv 1) rfl b.f_isinstance rfl b.f_bool bt_bool))))) (qss_one (qs_ret (qe_and (qe_isi (by decide) (qv 0) rfl b.f_isinstance rfl b.f_bool bt_bool) (qe_and (qe_isi (by decide) (qv 1) rfl b.f_isinstance rfl b.f_bool bt_bool) (qe_one (qe_cmp (o_eqZ hr) (qv 0) (qv 1) (nomark _))))))) qss_nil)
    (qss_cons (qs_if (qt_cmp (o_ne hr) (qe_isi (by decide) (qv 0) rfl b.f_isinstance rfl b.f_tuple bt_tuple) (qe_isi (by decide) (qv 1) rfl b.f_isinstance rfl b.f_tuple bt_tuple) (nomark _)) (qss_one (qs_ret qe_bl)) qss_nil)
    (qss_cons (qs_if (qt_cmp (o_ne hr) (qe_isi (by decide) (qv 0) rfl b.f_isinstance rfl b.f_int bt_int) (qe_isi (by decide) (qv 1) rfl b.f_isinstance rfl b.f_int bt_int) (nomark _)) (qss_one (qs_ret qe_bl)) qss_nil)
    (qss_one (qs_ret (qe_and (qe_cmp (o_eq hr) (qe_isi (by decide) (qv 0) rfl b.f_isinstance rfl b.f_str bt_str) (qe_isi (by decide) (qv 1) rfl b.f_isinstance rfl b.f_str bt_str) (nomark _)) (qe_one (qe_cmp (o_eqZ hr) (qv 0) (qv 1) (nomark _)))))))))), pp⟩
theorem sc_class_4baa : FnScope ["_law_error", "_law_flags", "_law_words"] ["_law_error"] (defScope st_class_4baa) := ⟨rfl, rfl, rfl, by decide +kernel, rfl, by decide +kernel, by decide +kernel⟩
theorem ok_class_4baa {f fd} (b : Bi w K mg) (F : Fn K "_law_class" "_law_class" st_class_4baa f fd) : FnK0 P w K mg base 1 f fd ["_law_error"] (spP K (sp_class_4baa (errH K mg))) :=
  okK0 F sc_class_4baa (len_class_4baa (errH K mg)) ⟨t_class_4baa (errH K mg), fun cdv A outer s H E p hr => by
    have nd := sc_class_4baa.nd
    exact (qss_cons (qs_set (i := 1) nd rfl (by first | exact Or.inl rfl | exact Or.inr rfl) (qe_set (qf_lst (qa_cons (qe_isH1 (sub_all b.exc.xq (by decide +kernel)) (lookT_ok b.exc.sub (l := [("BatchFailed", "Busy", false), ("Busy", "Busy", true), ("Full", "Busy", false), ("InvalidMark", "Busy", false), ("InvalidWeight", "Busy", false), ("LastItem", "Busy", false), ("NoSuchItem", "Busy", false), ("NoSuchRule", "Busy", false), ("NoSuchStep", "Busy", false), ("NothingToUndo", "Busy", false), ("TooManyActions", "Busy", false)]) (by decide +kernel)) (qv 0) rfl b.f_isinstance ⟨"BatchFailed", false, rfl⟩ rfl) (qa_cons (qe_isH1 (sub_all b.exc.xq (by decide +kernel)) (lookT_ok b.exc.sub (l := [("BatchFailed", "TooManyActions", false), ("Busy", "TooManyActions", false), ("Full", "TooManyActions", false), ("InvalidMark", "TooManyActions", false), ("InvalidWeight", "TooManyActions", false), ("LastItem", "TooManyActions", false), ("NoSuchItem", "TooManyActions", false), ("NoSuchRule", "TooManyActions", false), ("NoSuchStep", "TooManyActions", false), ("NothingToUndo", "TooManyActions", false), ("TooManyActions", "TooManyActions", true)]) (by decide +kernel)) (qv 0) rfl b.f_isinstance ⟨"BatchFailed", false, rfl⟩ rfl) (qa_cons (qe_isH1 (sub_all b.exc.xq (by decide +kernel)) (lookT_ok b.exc.sub (l := [("BatchFailed", "NothingToUndo", false), ("Busy", "NothingToUndo", false), ("Full", "NothingToUndo", false), ("InvalidMark", "NothingToUndo", false), ("InvalidWeight", "NothingToUndo", false), ("LastItem", "NothingToUndo", false), ("NoSuchItem", "NothingToUndo", false), ("NoSuchRule", "NothingToUndo", false), ("NoSuchStep", "NothingToUndo", false), ("NothingToUndo", "NothingToUndo", true), ("TooManyActions", "NothingToUndo", false)]) (by decide +kernel)) (qv 0) rfl b.f_isinstance ⟨"BatchFailed", false, rfl⟩ rfl) qa_nil))))))
    (qss_cons (qs_set (i := 1) nd rfl (by first | exact Or.inl rfl | exact Or.inr rfl) (qe_bin o_add (qv 1) (qe_set (qf_lst (qa_cons (qe_isH1 (sub_all b.exc.xq (by decide +kernel)) (lookT_ok b.exc.sub (l := [("BatchFailed", "InvalidBatch", false), ("Busy", "InvalidBatch", false), ("Full", "InvalidBatch", false), ("InvalidMark", "InvalidBatch", false), ("InvalidWeight", "InvalidBatch", false), ("LastItem", "InvalidBatch", false), ("NoSuchItem", "InvalidBatch", false), ("NoSuchRule", "InvalidBatch", false), ("NoSuchStep", "InvalidBatch", false), ("NothingToUndo", "InvalidBatch", false), ("TooManyActions", "InvalidBatch", false)]) (by decide +kernel)) (qv 0) rfl b.f_isinstance ⟨"BatchFailed", false, rfl⟩ rfl) (qa_cons (qe_isH1 (sub_all b.exc.xq (by decide +kernel)) (lookT_ok b.exc.sub (l := [("BatchFailed", "BatchFailed", true), ("Busy", "BatchFailed", false), ("Full", "BatchFailed", false), ("InvalidMark", "BatchFailed", false), ("InvalidWeight", "BatchFailed", false), ("LastItem", "BatchFailed", false), ("NoSuchItem", "BatchFailed", false), ("NoSuchRule", "BatchFailed", false), ("NoSuchStep", "BatchFailed", false), ("NothingToUndo", "BatchFailed", false), ("TooManyActions", "BatchFailed", false)]) (by decide +kernel)) (qv 0) rfl b.f_isinstance ⟨"BatchFailed", true, rfl⟩ rfl) (qa_cons (qe_isH1 (sub_all b.exc.xq (by decide +kernel)) (lookT_ok b.exc.sub (l := [("BatchFailed", "NoSuchStep", false), ("Busy", "NoSuchStep", false), ("Full", "NoSuchStep", false), ("InvalidMark", "NoSuchStep", false), ("InvalidWeight", "NoSuchStep", false), ("LastItem", "NoSuchStep", false), ("NoSuchItem", "NoSuchStep", false), ("NoSuchRule", "NoSuchStep", false), ("NoSuchStep", "NoSuchStep", true), ("NothingToUndo", "NoSuchStep", false), ("TooManyActions", "NoSuchStep", false)]) (by decide +kernel)) (qv 0) rfl b.f_isinstance ⟨"BatchFailed", false, rfl⟩ rfl) qa_nil)))))))
    (qss_cons (qs_if (PW.pt (qw_or (qt_cmp (o_neH (rh_units hr)) (qe_cntB (qv 1) qe_bl) qe_int (nomark _)) (qw_and1 (qt_cmp (o_neH (rh_units hr)) (qe_isH1 (sub_all b.exc.xq (by decide +kernel)) (lookT_ok b.exc.sub (l := [("BatchFailed", "LookupError", false), ("Busy", "LookupError", false), ("Full", "LookupError", false), ("InvalidMark", "LookupError", false), ("InvalidWeight", "LookupError", false), ("LastItem", "LookupError", false), ("NoSuchItem", "LookupError", true), ("NoSuchRule", "LookupError", true), ("NoSuchStep", "LookupError", true), ("NothingToUndo", "LookupError", false), ("TooManyActions", "LookupError", false)]) (by decide +kernel)) (qv 0) rfl b.f_isinstance ⟨"BatchFailed", false, rfl⟩ rfl) (qe_ix (qv 1) qe_int) (nomark _))))) (qss_one (qs_ret qe_str)) qss_nil)
    (qss_cons (qs_if (qt_cmp (o_eqH (rh_units hr)) (qe_isH1 (sub_all b.exc.xq (by decide +kernel)) (lookT_ok b.exc.sub (l := [("BatchFailed", "MarksError", true), ("Busy", "MarksError", true), ("Full", "MarksError", true), ("InvalidMark", "MarksError", true), ("InvalidWeight", "MarksError", true), ("LastItem", "MarksError", true), ("NoSuchItem", "MarksError", false), ("NoSuchRule", "MarksError", false), ("NoSuchStep", "MarksError", false), ("NothingToUndo", "MarksError", true), ("TooManyActions", "MarksError", true)]) (by decide +kernel)) (qv 0) rfl b.f_isinstance ⟨"BatchFailed", true, rfl⟩ rfl) (qe_ix (qv 1) qe_int) (nomark _)) (qss_one (qs_ret qe_str)) qss_nil)
    (qss_cons (qs_set (i := 2) nd rfl (by first | exact Or.inl rfl | exact Or.inr rfl) (qe_set (qf_lst (qa_cons qe_str (qa_cons qe_str (qa_cons qe_str (qa_cons qe_str (qa_cons qe_str (qa_cons qe_str qa_nil)))))))))
    (qss_one (qs_ret (qe_ix (qv 2) (qe_indexB (qv 1) qe_bl))))))))), p_class_4baa (errH K mg)⟩
theorem sc_is_integer_8a5f : FnScope ["value"] ["value"] (defScope st_is_integer_8a5f) := ⟨rfl, rfl, rfl, by decide +kernel, rfl, by decide +kernel, by decide +kernel⟩
theorem ok_is_integer_8a5f {f fd} (b : Bi w K mg) (F : Fn K "is_integer" "is_integer" st_is_integer_8a5f f fd) : FnOk P w K mg base CX0 1 f fd ["value"] (spP K sp_is_integer_8a5f) :=
  okP F sc_is_integer_8a5f len_is_integer_8a5f ⟨t_is_integer_8a5f, fun cdv A outer s H E hr => by
    have nd := sc_is_integer_8a5f.nd
    exact (qss_one (qs_ret (qe_and (qe_isi (by decide) (qv 0) rfl b.f_isinstance rfl b.f_int bt_int) (qe_one (qe_not (qe_isi (by decide) (qv 0) rfl b.f_isinstance rfl b.f_bool bt_bool)))))), p_is_integer_8a5f⟩
theorem sc_is_within_3133 : FnScope ["value", "low", "high"] ["value", "low", "high"] (defScope st_is_within_3133) := ⟨rfl, rfl, rfl, by decide +kernel, rfl, by decide +kernel, by decide +kernel⟩
theorem ok_is_within_3133 {f fd} (b : Bi w K mg) (g_is_integer_8a5f : Glo P w K mg base "is_integer" 1 (spP K (sp_is_integer_8a5f)) 1) (F : Fn K "is_within" "is_within" st_is_within_3133 f fd) : FnOk P w K mg base CX0 2 f fd ["value", "low", "high"] (spP K sp_is_within_3133) :=
  okP F sc_is_within_3133 len_is_within_3133 ⟨t_is_within_3133, fun cdv A outer s H E hr => by
    have nd := sc_is_within_3133.nd
    exact (qss_one (qs_ret (qe_and (qe_call (g_is_integer_8a5f.at hr (by decide)) rfl (qa_cons (qv 0) qa_nil)) (qe_one (qe_chain o_le o_le (qv 1) (qv 0) (qv 2)))))), p_is_within_3133⟩
theorem sc_Book_state_at_6f16 : FnScope ["self", "step"] ["self", "step"] (defScope st_Book_state_at_6f16) := ⟨rfl, rfl, rfl, by decide +kernel, rfl, by decide +kernel, by decide +kernel⟩
theorem ok_Book_state_at_6f16 {f fd} {CBook : Addr} (ciBook : CiBook K CBook) (b : Bi w K mg) (g_is_within_3133 : Glo P w K mg base "is_within" 3 (spP K (sp_is_within_3133)) 2) (j_NoSuchStep : GloE P w K mg base "NoSuchStep" ["step"]) (F : Fn K "state_at" "Book.state_at" st_Book_state_at_6f16 f fd) : FnOk P w K mg base (L2N.CX P w) 3 f fd ["self", "step"] (spBX K mg (sp_Book_state_at_6f16 CBook)) :=
  okBX F sc_Book_state_at_6f16 (len_Book_state_at_6f16 CBook) ⟨t_Book_state_at_6f16 CBook, fun cdv A outer s H E hr => by
    have nd := sc_Book_state_at_6f16.nd
    exact (qssx_cons (qsx_if (qt_not (qt_val (qe_call (g_is_within_3133.at hr (by decide)) rfl (qa_cons (qv 1) (qa_cons qe_int (qa_cons (qe_callB c_len rfl b.f_len bt_len (qa_cons (qe_fI ciBook.c ciBook.kept (qv 0)) qa_nil)) qa_nil)))))) (qssx_one (qsx_raiseE rfl (L2N.takes_of rfl rfl rfl rfl) (j_NoSuchStep.at hr (by decide)) rfl (qv 1))) (qssx_of qss_nil))
    (qssx_of (qss_one (qs_ret (qe_ix (qe_fI ciBook.c ciBook.panels (qv 0)) (qv 1)))))), p_Book_state_at_6f16 CBook⟩
theorem sc_state_at_fc8a : FnScope ["_law_book", "_law_step", "_law_error"] ["_law_book", "_law_step"] (defScope st_state_at_fc8a) := ⟨rfl, rfl, rfl, by decide +kernel, rfl, by decide +kernel, by decide +kernel⟩
theorem ok_state_at_fc8a {f fd} {CBook : Addr} (ciBook : CiBook K CBook) (b : Bi w K mg) (g_class_4baa : GloK0 P w K mg base "_law_class" (spP K (sp_class_4baa (errH K mg))) 1) (g_Book_state_at_6f16 : GloMX P w K mg base CBook "state_at" 2 (spBX K mg (sp_Book_state_at_6f16 CBook)) 3) (F : Fn K "_law_state_at" "_law_state_at" st_state_at_fc8a f fd) : FnOk P w K mg base (L2N.CX P w) 4 f fd ["_law_book", "_law_step"] (spBX K mg (sp_state_at_fc8a CBook (errH K mg))) :=
  okBX F sc_state_at_fc8a (len_state_at_fc8a CBook (errH K mg)) ⟨t_state_at_fc8a CBook (errH K mg), fun cdv A outer s H E hr => by
    have nd := sc_state_at_fc8a.nd
    exact (qssx_one (qsx_of (qs_tryAsW (f := lookT [("NoSuchStep", "NoSuchStep", true)]) rfl rfl nd rfl rfl (fun _ => rfl) rfl (lookT_ok b.exc.sub (by decide +kernel)) ⟨"NoSuchStep", rfl⟩ (fun W pn xe tk po => (qssx_one (qsx_ret (qex_methI (g_Book_state_at_6f16.at hr (by decide)) ciBook.c (takesN tk) (qv 0) (qa_cons (qv 1) qa_nil))))) (fun a oe cls d pn Z0 x hx => (qss_one (qs_ret (qe_tup (qa_cons (qe_hot0 hx (sub_all b.exc.xq (by decide +kernel)) (g_class_4baa.at hr (by decide)) rfl (pv 2)) (qa_cons (qe_xf hx.toHeld (sub_all b.exc.xf (by decide)) (pv 2)) qa_nil))))))))), p_state_at_fc8a CBook (errH K mg)⟩
theorem sc_states_right_c0ad : FnScope ["_law_book", "_law_panels", "_law_step", "_law_panel_here"] ["_law_book", "_law_panels"] (defScope st_states_right_c0ad) := ⟨rfl, rfl, rfl, by decide +kernel, rfl, by decide +kernel, by decide +kernel⟩
theorem ok_states_right_c0ad {f fd} {CBook : Addr} (ciBook : CiBook K CBook) (b : Bi w K mg) (g_equal_17a7 : Glo P w K mg base "_law_equal" 2 (spP K (sp_equal_17a7 24)) 25) (g_state_at_fc8a : GloX P w K mg base "_law_state_at" 2 (spBX K mg (sp_state_at_fc8a CBook (errH K mg))) 4) (F : Fn K "_law_states_right" "_law_states_right" st_states_right_c0ad f fd) : FnOk P w K mg base (L2N.CX P w) 26 f fd ["_law_book", "_law_panels"] (spBX K mg (sp_states_right_c0ad CBook (errH K mg))) :=
  okBX F sc_states_right_c0ad (len_states_right_c0ad CBook (errH K mg)) ⟨t_states_right_c0ad CBook (errH K mg), fun cdv A outer s H E hr => by
    have nd := sc_states_right_c0ad.nd
    exact (qssx_of (qss_cons (qs_for (by first | exact PassesOwn.never | exact passes_of rfl) rfl (qi_enum rfl b.f_enumerate (qa_cons (qv 1) qa_nil)) (qg_tup rfl (qgs_cons (qg_name nd rfl (by first | exact Or.inl rfl | exact Or.inr rfl)) (qgs_cons (qg_name nd rfl (by first | exact Or.inl rfl | exact Or.inr rfl)) qgs_nil))) (qss_one (qs_if (qt_not (qt_val (qe_call (g_equal_17a7.at hr (by decide)) rfl (qa_cons (qe_callI (g_state_at_fc8a.at hr (by decide)) rfl (qa_cons (qv 0) (qa_cons (qv 2) qa_nil))) (qa_cons (qv 3) qa_nil))))) (qss_one (qs_ret qe_bl)) qss_nil)))
    (qss_cons (qs_for (by first | exact PassesOwn.never | exact passes_of rfl) rfl (qi_seq (qe_set (qf_lst (qa_cons (qe_callB c_len rfl b.f_len bt_len (qa_cons (qv 1) qa_nil)) (qa_cons (qe_un o_neg qe_int) (qa_cons qe_bl (qa_cons qe_non (qa_cons qe_str (qa_cons (qe_tup qa_nil) (qa_cons (qe_set (qf_lst qa_nil)) (qa_cons qe_dict0 (qa_cons (qe_bin o_pow qe_int qe_int) (qa_cons qe_bl qa_nil))))))))))))) (qg_name nd rfl (by first | exact Or.inl rfl | exact Or.inr rfl)) (qss_one (qs_if (qt_not (qt_val (qe_call (g_equal_17a7.at hr (by decide)) rfl (qa_cons (qe_callI (g_state_at_fc8a.at hr (by decide)) rfl (qa_cons (qv 0) (qa_cons (qv 2) qa_nil))) (qa_cons (qe_tup (qa_cons qe_str (qa_cons (qv 2) qa_nil))) qa_nil))))) (qss_one (qs_ret qe_bl)) qss_nil)))
    (qss_one (qs_ret qe_bl))))), p_states_right_c0ad CBook (errH K mg)⟩
theorem sc_Book_need_idle_a04f : FnScope ["self"] ["self"] (defScope st_Book_need_idle_a04f) := ⟨rfl, rfl, rfl, by decide +kernel, rfl, by decide +kernel, by decide +kernel⟩
theorem ok_Book_need_idle_a04f {f fd} {CBook : Addr} (ciBook : CiBook K CBook) (b : Bi w K mg) (F : Fn K "need_idle" "Book.need_idle" st_Book_need_idle_a04f f fd) : FnOk P w K mg base (L2N.CX P w) 1 f fd ["self"] (spBX K mg (sp_Book_need_idle_a04f CBook)) :=
  okBX F sc_Book_need_idle_a04f (len_Book_need_idle_a04f CBook) ⟨t_Book_need_idle_a04f CBook, fun cdv A outer s H E hr => by
    have nd := sc_Book_need_idle_a04f.nd
    exact (qssx_one (qsx_if (qt_val (qe_fI ciBook.c ciBook.is_busy (qv 0))) (qssx_one (qsx_raise0 rfl (L2N.takes_of rfl rfl rfl rfl) (b.exc.x0 _ (by decide)) (b.exc.xq _ (by decide)) rfl)) (qssx_of qss_nil))), p_Book_need_idle_a04f CBook⟩
theorem sc_need_item_44a7x : FnScope ["panel", "value"] ["panel", "value"] (defScope st_need_item_44a7x) := ⟨rfl, rfl, rfl, by decide +kernel, rfl, by decide +kernel, by decide +kernel⟩
theorem ok_need_item_44a7x {f fd} (b : Bi w K mg) (g_is_within_3133 : Glo P w K mg base "is_within" 3 (spP K (sp_is_within_3133)) 2) (j_NoSuchItem : GloE P w K mg base "NoSuchItem" ["item"]) (F : Fn K "need_item" "need_item" st_need_item_44a7x f fd) : FnOk P w K mg base (L2N.CX P w) 3 f fd ["panel", "value"] (spPX K mg sp_need_item_44a7x) :=
  okPX F sc_need_item_44a7x len_need_item_44a7x ⟨t_need_item_44a7x, fun cdv A outer s H E hr => by
    have nd := sc_need_item_44a7x.nd
    exact (qssx_one (qsx_if (qt_not (qt_val (qe_call (g_is_within_3133.at hr (by decide)) rfl (qa_cons (qv 1) (qa_cons qe_int (qa_cons (qe_bin o_sub (qe_callB c_len rfl b.f_len bt_len (qa_cons (qe_ix (qv 0) qe_int) qa_nil)) qe_int) qa_nil)))))) (qssx_one (qsx_raiseE rfl (L2N.takes_of rfl rfl rfl rfl) (j_NoSuchItem.at hr (by decide)) rfl (qv 1))) (qssx_of qss_nil))), p_need_item_44a7x⟩
theorem sc_is_weight_6941 : FnScope ["value"] ["value"] (defScope st_is_weight_6941) := ⟨rfl, rfl, rfl, by decide +kernel, rfl, by decide +kernel, by decide +kernel⟩
theorem ok_is_weight_6941 {f fd} (b : Bi w K mg) (g_is_within_3133 : Glo P w K mg base "is_within" 3 (spP K (sp_is_within_3133)) 2) (F : Fn K "is_weight" "is_weight" st_is_weight_6941 f fd) : FnOk P w K mg base CX0 3 f fd ["value"] (spP K sp_is_weight_6941) :=
  okP F sc_is_weight_6941 len_is_weight_6941 ⟨t_is_weight_6941, fun cdv A outer s H E hr => by
    have nd := sc_is_weight_6941.nd
    exact (qss_one (qs_ret (qe_call (g_is_within_3133.at hr (by decide)) rfl (qa_cons (qv 0) (qa_cons qe_int (qa_cons (qe_gl rfl b.g_WEIGHT) qa_nil)))))), p_is_weight_6941⟩
theorem sc_need_weight_e9e3x : FnScope ["value"] ["value"] (defScope st_need_weight_e9e3x) := ⟨rfl, rfl, rfl, by decide +kernel, rfl, by decide +kernel, by decide +kernel⟩
theorem ok_need_weight_e9e3x {f fd} (b : Bi w K mg) (g_is_weight_6941 : Glo P w K mg base "is_weight" 1 (spP K (sp_is_weight_6941)) 3) (j_InvalidWeight : GloE P w K mg base "InvalidWeight" ["weight"]) (F : Fn K "need_weight" "need_weight" st_need_weight_e9e3x f fd) : FnOk P w K mg base (L2N.CX P w) 4 f fd ["value"] (spPX K mg sp_need_weight_e9e3x) :=
  okPX F sc_need_weight_e9e3x len_need_weight_e9e3x ⟨t_need_weight_e9e3x, fun cdv A outer s H E hr => by
    have nd := sc_need_weight_e9e3x.nd
    exact (qssx_one (qsx_if (qt_not (qt_val (qe_call (g_is_weight_6941.at hr (by decide)) rfl (qa_cons (qv 0) qa_nil)))) (qssx_one (qsx_raiseE rfl (L2N.takes_of rfl rfl rfl rfl) (j_InvalidWeight.at hr (by decide)) rfl (qv 0))) (qssx_of qss_nil))), p_need_weight_e9e3x⟩
theorem sc_with_mark_afe3 : FnScope ["panel", "item", "mark", "weight", "items"] ["panel", "item", "mark", "weight"] (defScope st_with_mark_afe3) := ⟨rfl, rfl, rfl, by decide +kernel, rfl, by decide +kernel, by decide +kernel⟩
theorem ok_with_mark_afe3 {f fd} (b : Bi w K mg) (F : Fn K "with_mark" "with_mark" st_with_mark_afe3 f fd) : FnOk P w K mg base CX0 1 f fd ["panel", "item", "mark", "weight"] (spP K sp_with_mark_afe3) :=
  okP F sc_with_mark_afe3 len_with_mark_afe3 ⟨t_with_mark_afe3, fun cdv A outer s H E hr => by
    have nd := sc_with_mark_afe3.nd
    exact (qss_cons (qs_set (i := 4) nd rfl (by first | exact Or.inl rfl | exact Or.inr rfl) (qe_ix (qv 0) qe_int))
    (qss_one (qs_ret (qe_tup (qa_cons (qe_bin o_add (qe_bin o_add (qe_slice (qv 4) qo_none (qo_some (qv 1))) (qe_tup (qa_cons (qe_tup (qa_cons (qv 2) (qa_cons (qv 3) qa_nil))) qa_nil))) (qe_slice (qv 4) (qo_some (qe_bin o_add (qv 1) qe_int)) qo_none)) (qa_cons (qe_ix (qv 0) qe_int) qa_nil)))))), p_with_mark_afe3⟩
theorem sc_is_mark_f168 : FnScope ["value"] ["value"] (defScope st_is_mark_f168) := ⟨rfl, rfl, rfl, by decide +kernel, rfl, by decide +kernel, by decide +kernel⟩
theorem ok_is_mark_f168 {f fd} (b : Bi w K mg) (g_is_within_3133 : Glo P w K mg base "is_within" 3 (spP K (sp_is_within_3133)) 2) (F : Fn K "is_mark" "is_mark" st_is_mark_f168 f fd) : FnOk P w K mg base CX0 3 f fd ["value"] (spP K sp_is_mark_f168) :=
  okP F sc_is_mark_f168 len_is_mark_f168 ⟨t_is_mark_f168, fun cdv A outer s H E hr => by
    have nd := sc_is_mark_f168.nd
    exact (qss_one (qs_ret (qe_call (g_is_within_3133.at hr (by decide)) rfl (qa_cons (qv 0) (qa_cons (qe_bin o_sub qe_int (qe_gl rfl b.g_MARK)) (qa_cons (qe_gl rfl b.g_MARK) qa_nil)))))), p_is_mark_f168⟩
theorem sc_need_mark_99a8x : FnScope ["value"] ["value"] (defScope st_need_mark_99a8x) := ⟨rfl, rfl, rfl, by decide +kernel, rfl, by decide +kernel, by decide +kernel⟩
theorem ok_need_mark_99a8x {f fd} (b : Bi w K mg) (g_is_mark_f168 : Glo P w K mg base "is_mark" 1 (spP K (sp_is_mark_f168)) 3) (j_InvalidMark : GloE P w K mg base "InvalidMark" ["mark"]) (F : Fn K "need_mark" "need_mark" st_need_mark_99a8x f fd) : FnOk P w K mg base (L2N.CX P w) 4 f fd ["value"] (spPX K mg sp_need_mark_99a8x) :=
  okPX F sc_need_mark_99a8x len_need_mark_99a8x ⟨t_need_mark_99a8x, fun cdv A outer s H E hr => by
    have nd := sc_need_mark_99a8x.nd
    exact (qssx_one (qsx_if (qt_not (qt_val (qe_call (g_is_mark_f168.at hr (by decide)) rfl (qa_cons (qv 0) qa_nil)))) (qssx_one (qsx_raiseE rfl (L2N.takes_of rfl rfl rfl rfl) (j_InvalidMark.at hr (by decide)) rfl (qv 0))) (qssx_of qss_nil))), p_need_mark_99a8x⟩
theorem sc_panel_with_item_7316x : FnScope ["panel", "mark", "weight"] ["panel", "mark", "weight"] (defScope st_panel_with_item_7316x) := ⟨rfl, rfl, rfl, by decide +kernel, rfl, by decide +kernel, by decide +kernel⟩
theorem ok_panel_with_item_7316x {f fd} (b : Bi w K mg) (g_need_mark_99a8x : GloX P w K mg base "need_mark" 1 (spPX K mg (sp_need_mark_99a8x)) 4) (g_need_weight_e9e3x : GloX P w K mg base "need_weight" 1 (spPX K mg (sp_need_weight_e9e3x)) 4) (F : Fn K "panel_with_item" "panel_with_item" st_panel_with_item_7316x f fd) : FnOk P w K mg base (L2N.CX P w) 5 f fd ["panel", "mark", "weight"] (spPX K mg sp_panel_with_item_7316x) :=
  okPX F sc_panel_with_item_7316x len_panel_with_item_7316x ⟨t_panel_with_item_7316x, fun cdv A outer s H E hr => by
    have nd := sc_panel_with_item_7316x.nd
    exact (qssx_cons (qsx_expr (qex_call (g_need_mark_99a8x.at hr (by decide)) (L2N.takes_of rfl rfl rfl rfl) rfl (qa_cons (qv 1) qa_nil)))
    (qssx_cons (qsx_expr (qex_call (g_need_weight_e9e3x.at hr (by decide)) (L2N.takes_of rfl rfl rfl rfl) rfl (qa_cons (qv 2) qa_nil)))
    (qssx_cons (qsx_if (qt_cmp (o_eq hr) (qe_callB c_len rfl b.f_len bt_len (qa_cons (qe_ix (qv 0) qe_int) qa_nil)) (qe_gl rfl b.g_ITEMS) (nomark _)) (qssx_one (qsx_raise0 rfl (L2N.takes_of rfl rfl rfl rfl) (b.exc.x0 _ (by decide)) (b.exc.xq _ (by decide)) rfl)) (qssx_of qss_nil))
    (qssx_of (qss_one (qs_ret (qe_tup (qa_cons (qe_bin o_add (qe_ix (qv 0) qe_int) (qe_tup (qa_cons (qe_tup (qa_cons (qv 1) (qa_cons (qv 2) qa_nil))) qa_nil))) (qa_cons (qe_ix (qv 0) qe_int) qa_nil))))))))), p_panel_with_item_7316x⟩
theorem sc_with_rule_a65e : FnScope ["panel", "low", "high"] ["panel", "low", "high"] (defScope st_with_rule_a65e) := ⟨rfl, rfl, rfl, by decide +kernel, rfl, by decide +kernel, by decide +kernel⟩
theorem ok_with_rule_a65e {f fd} (b : Bi w K mg) (F : Fn K "with_rule" "with_rule" st_with_rule_a65e f fd) : FnOk P w K mg base CX0 1 f fd ["panel", "low", "high"] (spP K sp_with_rule_a65e) :=
  okP F sc_with_rule_a65e len_with_rule_a65e ⟨t_with_rule_a65e, fun cdv A outer s H E hr => by
    have nd := sc_with_rule_a65e.nd
    exact (qss_cons (qs_if (qt_cmp o_ge (qe_callB c_len rfl b.f_len bt_len (qa_cons (qe_ix (qv 0) qe_int) qa_nil)) (qe_gl rfl b.g_RULES) (nomark _)) (qss_one qs_never) qss_nil)
    (qss_one (qs_ret (qe_tup (qa_cons (qe_ix (qv 0) qe_int) (qa_cons (qe_bin o_add (qe_ix (qv 0) qe_int) (qe_tup (qa_cons (qe_tup (qa_cons (qv 1) (qa_cons (qv 2) qa_nil))) qa_nil))) qa_nil)))))), p_with_rule_a65e⟩
theorem sc_panel_with_rule_8c3dx : FnScope ["panel", "low", "high"] ["panel", "low", "high"] (defScope st_panel_with_rule_8c3dx) := ⟨rfl, rfl, rfl, by decide +kernel, rfl, by decide +kernel, by decide +kernel⟩
theorem ok_panel_with_rule_8c3dx {f fd} (b : Bi w K mg) (g_need_item_44a7x : GloX P w K mg base "need_item" 2 (spPX K mg (sp_need_item_44a7x)) 3) (g_with_rule_a65e : Glo P w K mg base "with_rule" 3 (spP K (sp_with_rule_a65e)) 1) (j_NoSuchItem : GloE P w K mg base "NoSuchItem" ["item"]) (F : Fn K "panel_with_rule" "panel_with_rule" st_panel_with_rule_8c3dx f fd) : FnOk P w K mg base (L2N.CX P w) 4 f fd ["panel", "low", "high"] (spPX K mg sp_panel_with_rule_8c3dx) :=
  okPX F sc_panel_with_rule_8c3dx len_panel_with_rule_8c3dx ⟨t_panel_with_rule_8c3dx, fun cdv A outer s H E hr => by
    have nd := sc_panel_with_rule_8c3dx.nd
    exact (qssx_cons (qsx_expr (qex_call (g_need_item_44a7x.at hr (by decide)) (L2N.takes_of rfl rfl rfl rfl) rfl (qa_cons (qv 0) (qa_cons (qv 1) qa_nil))))
    (qssx_cons (qsx_expr (qex_call (g_need_item_44a7x.at hr (by decide)) (L2N.takes_of rfl rfl rfl rfl) rfl (qa_cons (qv 0) (qa_cons (qv 2) qa_nil))))
    (qssx_cons (qsx_if (qt_cmp (o_eq hr) (qv 1) (qv 2) (nomark _)) (qssx_one (qsx_raiseE rfl (L2N.takes_of rfl rfl rfl rfl) (j_NoSuchItem.at hr (by decide)) rfl (qv 2))) (qssx_of qss_nil))
    (qssx_cons (qsx_if (qt_cmp (o_eq hr) (qe_callB c_len rfl b.f_len bt_len (qa_cons (qe_ix (qv 0) qe_int) qa_nil)) (qe_gl rfl b.g_RULES) (nomark _)) (qssx_one (qsx_raise0 rfl (L2N.takes_of rfl rfl rfl rfl) (b.exc.x0 _ (by decide)) (b.exc.xq _ (by decide)) rfl)) (qssx_of qss_nil))
    (qssx_of (qss_one (qs_ret (qe_call (g_with_rule_a65e.at hr (by decide)) rfl (qa_cons (qv 0) (qa_cons (qv 1) (qa_cons (qv 2) qa_nil))))))))))), p_panel_with_rule_8c3dx⟩
theorem sc_without_rule_deb1 : FnScope ["panel", "rule"] ["panel", "rule"] (defScope st_without_rule_deb1) := ⟨rfl, rfl, rfl, by decide +kernel, rfl, by decide +kernel, by decide +kernel⟩
theorem ok_without_rule_deb1 {f fd} (b : Bi w K mg) (F : Fn K "without_rule" "without_rule" st_without_rule_deb1 f fd) : FnOk P w K mg base CX0 1 f fd ["panel", "rule"] (spP K sp_without_rule_deb1) :=
  okP F sc_without_rule_deb1 len_without_rule_deb1 ⟨t_without_rule_deb1, fun cdv A outer s H E hr => by
    have nd := sc_without_rule_deb1.nd
    exact (qss_one (qs_ret (qe_tup (qa_cons (qe_ix (qv 0) qe_int) (qa_cons (qe_bin o_add (qe_slice (qe_ix (qv 0) qe_int) qo_none (qo_some (qv 1))) (qe_slice (qe_ix (qv 0) qe_int) (qo_some (qe_bin o_add (qv 1) qe_int)) qo_none)) qa_nil))))), p_without_rule_deb1⟩
theorem sc_without_item_d43ax : FnScope ["panel", "item", "items", "rules", "rest", "low", "high"] ["panel", "item"] (defScope st_without_item_d43ax) := ⟨rfl, rfl, rfl, by decide +kernel, rfl, by decide +kernel, by decide +kernel⟩
theorem ok_without_item_d43ax {f fd} (b : Bi w K mg) (F : Fn K "without_item" "without_item" st_without_item_d43ax f fd) : FnOk P w K mg base (L2N.CX P w) 1 f fd ["panel", "item"] (spPX K mg sp_without_item_d43ax) :=
  okPX F sc_without_item_d43ax len_without_item_d43ax ⟨t_without_item_d43ax, fun cdv A outer s H E hr => by
    have nd := sc_without_item_d43ax.nd
    exact (qssx_cons (qsx_of (qs_setT (qv 0) (qg_tup rfl (qgs_cons (qg_name nd rfl (by first | exact Or.inl rfl | exact Or.inr rfl)) (qgs_cons (qg_name nd rfl (by first | exact Or.inl rfl | exact Or.inr rfl)) qgs_nil)))))
    (qssx_cons (qsx_if (qt_cmp (o_eq hr) (qe_callB c_len rfl b.f_len bt_len (qa_cons (qv 2) qa_nil)) qe_int (nomark _)) (qssx_one (qsx_raise0 rfl (L2N.takes_of rfl rfl rfl rfl) (b.exc.x0 _ (by decide)) (b.exc.xq _ (by decide)) rfl)) (qssx_of qss_nil))
    (qssx_of (qss_cons (qs_lc rfl nd rfl rfl rfl (qi_seq (qv 3)) (own := [("low", 5), ("high", 6)]) (blkOk_by (by kernel_rfl)) (by decide) (fun _ _ _ _ _ => (qg_tup rfl (qgs_cons (qg_name nd rfl (by first | exact Or.inl rfl | exact Or.inr rfl)) (qgs_cons (qg_name nd rfl (by first | exact Or.inl rfl | exact Or.inr rfl)) qgs_nil)))) (fun _ _ _ _ _ => (qts_one (qt_cmp (o_notIn hr) (qv 1) (qe_tup (qa_cons (qv 5) (qa_cons (qv 6) qa_nil))) (by rfl)))) (fun _ _ _ _ _ => (qe_tup (qa_cons (qv 5) (qa_cons (qv 6) qa_nil)))))
    (qss_cons (qs_lc rfl nd rfl rfl rfl (qi_seq (qv 4)) (own := [("low", 5), ("high", 6)]) (blkOk_by (by kernel_rfl)) (by decide) (fun _ _ _ _ _ => (qg_tup rfl (qgs_cons (qg_name nd rfl (by first | exact Or.inl rfl | exact Or.inr rfl)) (qgs_cons (qg_name nd rfl (by first | exact Or.inl rfl | exact Or.inr rfl)) qgs_nil)))) (fun _ _ _ _ _ => qts_nil) (fun _ _ _ _ _ => (qe_tup (qa_cons (qe_bin o_sub (qv 5) (qe_callTy c_int rfl b.f_int bt_int (qa_cons (qe_cmp o_gt (qv 5) (qv 1) (nomark _)) qa_nil))) (qa_cons (qe_bin o_sub (qv 6) (qe_callTy c_int rfl b.f_int bt_int (qa_cons (qe_cmp o_gt (qv 6) (qv 1) (nomark _)) qa_nil))) qa_nil)))))
    (qss_one (qs_ret (qe_tup (qa_cons (qe_bin o_add (qe_slice (qv 2) qo_none (qo_some (qv 1))) (qe_slice (qv 2) (qo_some (qe_bin o_add (qv 1) qe_int)) qo_none)) (qa_cons (qe_callTy c_tuple rfl b.f_tuple bt_tuple (qa_cons (qv 4) qa_nil)) qa_nil)))))))))), p_without_item_d43ax⟩
theorem sc_panel_after_5edax : FnScope ["panel", "action", "name", "value"] ["panel", "action"] (defScope st_panel_after_5edax) := ⟨rfl, rfl, rfl, by decide +kernel, rfl, by decide +kernel, by decide +kernel⟩
theorem ok_panel_after_5edax {f fd} (b : Bi w K mg) (g_need_item_44a7x : GloX P w K mg base "need_item" 2 (spPX K mg (sp_need_item_44a7x)) 3) (g_need_weight_e9e3x : GloX P w K mg base "need_weight" 1 (spPX K mg (sp_need_weight_e9e3x)) 4) (g_with_mark_afe3 : Glo P w K mg base "with_mark" 4 (spP K (sp_with_mark_afe3)) 1) (g_panel_with_item_7316x : GloX P w K mg base "panel_with_item" 3 (spPX K mg (sp_panel_with_item_7316x)) 5) (g_panel_with_rule_8c3dx : GloX P w K mg base "panel_with_rule" 3 (spPX K mg (sp_panel_with_rule_8c3dx)) 4) (g_without_rule_deb1 : Glo P w K mg base "without_rule" 2 (spP K (sp_without_rule_deb1)) 1) (g_without_item_d43ax : GloX P w K mg base "without_item" 2 (spPX K mg (sp_without_item_d43ax)) 1) (g_need_mark_99a8x : GloX P w K mg base "need_mark" 1 (spPX K mg (sp_need_mark_99a8x)) 4) (g_is_within_3133 : Glo P w K mg base "is_within" 3 (spP K (sp_is_within_3133)) 2) (j_NoSuchRule : GloE P w K mg base "NoSuchRule" ["rule"]) (F : Fn K "panel_after" "panel_after" st_panel_after_5edax f fd) : FnOk P w K mg base (L2N.CX P w) 6 f fd ["panel", "action"] (spPX K mg sp_panel_after_5edax) :=
  okPX F sc_panel_after_5edax len_panel_after_5edax ⟨t_panel_after_5edax, fun cdv A outer s H E hr => by
    have nd := sc_panel_after_5edax.nd
    exact (qssx_cons (qsx_of (qs_setT (qe_slice (qv 1) qo_none (qo_some qe_int)) (qg_tup rfl (qgs_cons (qg_name nd rfl (by first | exact Or.inl rfl | exact Or.inr rfl)) (qgs_cons (qg_name nd rfl (by first | exact Or.inl rfl | exact Or.inr rfl)) qgs_nil)))))
    (qssx_cons (qsx_if (qt_cmp (o_eq hr) (qv 2) qe_str (nomark _)) (qssx_one (qsx_ret (qex_call (g_panel_with_item_7316x.at hr (by decide)) (L2N.takes_of rfl rfl rfl rfl) rfl (qa_cons (qv 0) (qa_cons (qv 3) (qa_cons (qe_ix (qv 1) qe_int) qa_nil)))))) (qssx_of qss_nil))
    (qssx_cons (qsx_if (qt_cmp (o_eq hr) (qv 2) qe_str (nomark _)) (qssx_one (qsx_ret (qex_call (g_panel_with_rule_8c3dx.at hr (by decide)) (L2N.takes_of rfl rfl rfl rfl) rfl (qa_cons (qv 0) (qa_cons (qv 3) (qa_cons (qe_ix (qv 1) qe_int) qa_nil)))))) (qssx_of qss_nil))
    (qssx_cons (qsx_if (qt_cmp (o_eq hr) (qv 2) qe_str (nomark _)) (qssx_cons (qsx_if (qt_not (qt_val (qe_call (g_is_within_3133.at hr (by decide)) rfl (qa_cons (qv 3) (qa_cons qe_int (qa_cons (qe_bin o_sub (qe_callB c_len rfl b.f_len bt_len (qa_cons (qe_ix (qv 0) qe_int) qa_nil)) qe_int) qa_nil)))))) (qssx_one (qsx_raiseE rfl (L2N.takes_of rfl rfl rfl rfl) (j_NoSuchRule.at hr (by decide)) rfl (qv 3))) (qssx_of qss_nil))
    (qssx_of (qss_one (qs_ret (qe_call (g_without_rule_deb1.at hr (by decide)) rfl (qa_cons (qv 0) (qa_cons (qv 3) qa_nil))))))) (qssx_of qss_nil))
    (qssx_cons (qsx_expr (qex_call (g_need_item_44a7x.at hr (by decide)) (L2N.takes_of rfl rfl rfl rfl) rfl (qa_cons (qv 0) (qa_cons (qv 3) qa_nil))))
    (qssx_cons (qsx_if (qt_cmp (o_eq hr) (qv 2) qe_str (nomark _)) (qssx_one (qsx_ret (qex_call (g_without_item_d43ax.at hr (by decide)) (L2N.takes_of rfl rfl rfl rfl) rfl (qa_cons (qv 0) (qa_cons (qv 3) qa_nil))))) (qssx_of qss_nil))
    (qssx_cons (qsx_if (qt_cmp (o_eq hr) (qv 2) qe_str (nomark _)) (qssx_cons (qsx_expr (qex_call (g_need_mark_99a8x.at hr (by decide)) (L2N.takes_of rfl rfl rfl rfl) rfl (qa_cons (qe_ix (qv 1) qe_int) qa_nil)))
    (qssx_of (qss_one (qs_ret (qe_call (g_with_mark_afe3.at hr (by decide)) rfl (qa_cons (qv 0) (qa_cons (qv 3) (qa_cons (qe_ix (qv 1) qe_int) (qa_cons (qe_ix (qe_ix (qe_ix (qv 0) qe_int) (qv 3)) qe_int) qa_nil))))))))) (qssx_of qss_nil))
    (qssx_cons (qsx_expr (qex_call (g_need_weight_e9e3x.at hr (by decide)) (L2N.takes_of rfl rfl rfl rfl) rfl (qa_cons (qe_ix (qv 1) qe_int) qa_nil)))
    (qssx_of (qss_one (qs_ret (qe_call (g_with_mark_afe3.at hr (by decide)) rfl (qa_cons (qv 0) (qa_cons (qv 3) (qa_cons (qe_ix (qe_ix (qe_ix (qv 0) qe_int) (qv 3)) qe_int) (qa_cons (qe_ix (qv 1) qe_int) qa_nil)))))))))))))))), p_panel_after_5edax⟩
theorem sc_Book_keep_3d59 : FnScope ["self", "action"] ["self", "action"] (defScope st_Book_keep_3d59) := ⟨rfl, rfl, rfl, by decide +kernel, rfl, by decide +kernel, by decide +kernel⟩
theorem ok_Book_keep_3d59 {f fd} {CBook : Addr} (ciBook : CiBook K CBook) (b : Bi w K mg) (g_panel_after_5edax : GloX P w K mg base "panel_after" 2 (spPX K mg (sp_panel_after_5edax)) 6) (F : Fn K "keep" "Book.keep" st_Book_keep_3d59 f fd) : FnOk P w K mg base (L2N.CX P w) 7 f fd ["self", "action"] (spBX K mg (sp_Book_keep_3d59 CBook)) :=
  okBX F sc_Book_keep_3d59 (len_Book_keep_3d59 CBook) ⟨t_Book_keep_3d59 CBook, fun cdv A outer s H E hr => by
    have nd := sc_Book_keep_3d59.nd
    exact (qssx_cons (qsx_if (qt_cmp (o_eq hr) (qe_callB c_len rfl b.f_len bt_len (qa_cons (qe_fI ciBook.c ciBook.kept (qv 0)) qa_nil)) (qe_gl rfl b.g_ACTIONS) (nomark _)) (qssx_one (qsx_raise0 rfl (L2N.takes_of rfl rfl rfl rfl) (b.exc.x0 _ (by decide)) (b.exc.xq _ (by decide)) rfl)) (qssx_of qss_nil))
    (qssx_cons (qsx_fSet ciBook.c ciBook.panels (qex_binR o_add (qe_fI ciBook.c ciBook.panels (qv 0)) (qex_tup1 (qex_call (g_panel_after_5edax.at hr (by decide)) (L2N.takes_of rfl rfl rfl rfl) rfl (qa_cons (qe_ix (qe_fI ciBook.c ciBook.panels (qv 0)) (qe_un o_neg qe_int)) (qa_cons (qv 1) qa_nil))))) (qv 0))
    (qssx_one (qsx_fSet ciBook.c ciBook.kept (qex_of (qe_bin o_add (qe_fI ciBook.c ciBook.kept (qv 0)) (qe_tup (qa_cons (qv 1) qa_nil)))) (qv 0))))), p_Book_keep_3d59 CBook⟩
theorem sc_Book_act_56f7 : FnScope ["self", "action"] ["self", "action"] (defScope st_Book_act_56f7) := ⟨rfl, rfl, rfl, by decide +kernel, rfl, by decide +kernel, by decide +kernel⟩
theorem ok_Book_act_56f7 {f fd} {CBook : Addr} (ciBook : CiBook K CBook) (b : Bi w K mg) (g_Book_need_idle_a04f : GloMX P w K mg base CBook "need_idle" 1 (spBX K mg (sp_Book_need_idle_a04f CBook)) 1) (g_Book_keep_3d59 : GloMX P w K mg base CBook "keep" 2 (spBX K mg (sp_Book_keep_3d59 CBook)) 7) (F : Fn K "act" "Book.act" st_Book_act_56f7 f fd) : FnOk P w K mg base (L2N.CX P w) 8 f fd ["self", "action"] (spBX K mg (sp_Book_act_56f7 CBook)) :=
  okBX F sc_Book_act_56f7 (len_Book_act_56f7 CBook) ⟨t_Book_act_56f7 CBook, fun cdv A outer s H E hr => by
    have nd := sc_Book_act_56f7.nd
    exact (qssx_cons (qsx_expr (qex_methI0 (g_Book_need_idle_a04f.at hr (by decide)) ciBook.c (L2N.takes_of rfl rfl rfl rfl) (qv 0)))
    (qssx_one (qsx_expr (qex_methI (g_Book_keep_3d59.at hr (by decide)) ciBook.c (L2N.takes_of rfl rfl rfl rfl) (qv 0) (qa_cons (qv 1) qa_nil))))), p_Book_act_56f7 CBook⟩
theorem sc_Book_set_mark_d750 : FnScope ["self", "item", "mark"] ["self", "item", "mark"] (defScope st_Book_set_mark_d750) := ⟨rfl, rfl, rfl, by decide +kernel, rfl, by decide +kernel, by decide +kernel⟩
theorem ok_Book_set_mark_d750 {f fd} {CBook : Addr} (ciBook : CiBook K CBook) (b : Bi w K mg) (g_Book_act_56f7 : GloMX P w K mg base CBook "act" 2 (spBX K mg (sp_Book_act_56f7 CBook)) 8) (F : Fn K "set_mark" "Book.set_mark" st_Book_set_mark_d750 f fd) : FnOk P w K mg base (L2N.CX P w) 9 f fd ["self", "item", "mark"] (spBX K mg (sp_Book_set_mark_d750 CBook)) :=
  okBX F sc_Book_set_mark_d750 (len_Book_set_mark_d750 CBook) ⟨t_Book_set_mark_d750 CBook, fun cdv A outer s H E hr => by
    have nd := sc_Book_set_mark_d750.nd
    exact (qssx_one (qsx_expr (qex_methI (g_Book_act_56f7.at hr (by decide)) ciBook.c (L2N.takes_of rfl rfl rfl rfl) (qv 0) (qa_cons (qe_tup (qa_cons qe_str (qa_cons (qv 1) (qa_cons (qv 2) qa_nil)))) qa_nil)))), p_Book_set_mark_d750 CBook⟩
theorem sc_Book_set_weight_80a1 : FnScope ["self", "item", "weight"] ["self", "item", "weight"] (defScope st_Book_set_weight_80a1) := ⟨rfl, rfl, rfl, by decide +kernel, rfl, by decide +kernel, by decide +kernel⟩
theorem ok_Book_set_weight_80a1 {f fd} {CBook : Addr} (ciBook : CiBook K CBook) (b : Bi w K mg) (g_Book_act_56f7 : GloMX P w K mg base CBook "act" 2 (spBX K mg (sp_Book_act_56f7 CBook)) 8) (F : Fn K "set_weight" "Book.set_weight" st_Book_set_weight_80a1 f fd) : FnOk P w K mg base (L2N.CX P w) 9 f fd ["self", "item", "weight"] (spBX K mg (sp_Book_set_weight_80a1 CBook)) :=
  okBX F sc_Book_set_weight_80a1 (len_Book_set_weight_80a1 CBook) ⟨t_Book_set_weight_80a1 CBook, fun cdv A outer s H E hr => by
    have nd := sc_Book_set_weight_80a1.nd
    exact (qssx_one (qsx_expr (qex_methI (g_Book_act_56f7.at hr (by decide)) ciBook.c (L2N.takes_of rfl rfl rfl rfl) (qv 0) (qa_cons (qe_tup (qa_cons qe_str (qa_cons (qv 1) (qa_cons (qv 2) qa_nil)))) qa_nil)))), p_Book_set_weight_80a1 CBook⟩
theorem sc_Book_add_item_5e3f : FnScope ["self", "mark", "weight"] ["self", "mark", "weight"] (defScope st_Book_add_item_5e3f) := ⟨rfl, rfl, rfl, by decide +kernel, rfl, by decide +kernel, by decide +kernel⟩
theorem ok_Book_add_item_5e3f {f fd} {CBook : Addr} (ciBook : CiBook K CBook) (b : Bi w K mg) (g_Book_act_56f7 : GloMX P w K mg base CBook "act" 2 (spBX K mg (sp_Book_act_56f7 CBook)) 8) (F : Fn K "add_item" "Book.add_item" st_Book_add_item_5e3f f fd) : FnOk P w K mg base (L2N.CX P w) 9 f fd ["self", "mark", "weight"] (spBX K mg (sp_Book_add_item_5e3f CBook)) :=
  okBX F sc_Book_add_item_5e3f (len_Book_add_item_5e3f CBook) ⟨t_Book_add_item_5e3f CBook, fun cdv A outer s H E hr => by
    have nd := sc_Book_add_item_5e3f.nd
    exact (qssx_one (qsx_expr (qex_methI (g_Book_act_56f7.at hr (by decide)) ciBook.c (L2N.takes_of rfl rfl rfl rfl) (qv 0) (qa_cons (qe_tup (qa_cons qe_str (qa_cons (qv 1) (qa_cons (qv 2) qa_nil)))) qa_nil)))), p_Book_add_item_5e3f CBook⟩
theorem sc_Book_drop_item_c5ba : FnScope ["self", "item"] ["self", "item"] (defScope st_Book_drop_item_c5ba) := ⟨rfl, rfl, rfl, by decide +kernel, rfl, by decide +kernel, by decide +kernel⟩
theorem ok_Book_drop_item_c5ba {f fd} {CBook : Addr} (ciBook : CiBook K CBook) (b : Bi w K mg) (g_Book_act_56f7 : GloMX P w K mg base CBook "act" 2 (spBX K mg (sp_Book_act_56f7 CBook)) 8) (F : Fn K "drop_item" "Book.drop_item" st_Book_drop_item_c5ba f fd) : FnOk P w K mg base (L2N.CX P w) 9 f fd ["self", "item"] (spBX K mg (sp_Book_drop_item_c5ba CBook)) :=
  okBX F sc_Book_drop_item_c5ba (len_Book_drop_item_c5ba CBook) ⟨t_Book_drop_item_c5ba CBook, fun cdv A outer s H E hr => by
    have nd := sc_Book_drop_item_c5ba.nd
    exact (qssx_one (qsx_expr (qex_methI (g_Book_act_56f7.at hr (by decide)) ciBook.c (L2N.takes_of rfl rfl rfl rfl) (qv 0) (qa_cons (qe_tup (qa_cons qe_str (qa_cons (qv 1) qa_nil))) qa_nil)))), p_Book_drop_item_c5ba CBook⟩
theorem sc_Book_add_rule_b6a8 : FnScope ["self", "low", "high"] ["self", "low", "high"] (defScope st_Book_add_rule_b6a8) := ⟨rfl, rfl, rfl, by decide +kernel, rfl, by decide +kernel, by decide +kernel⟩
theorem ok_Book_add_rule_b6a8 {f fd} {CBook : Addr} (ciBook : CiBook K CBook) (b : Bi w K mg) (g_Book_act_56f7 : GloMX P w K mg base CBook "act" 2 (spBX K mg (sp_Book_act_56f7 CBook)) 8) (F : Fn K "add_rule" "Book.add_rule" st_Book_add_rule_b6a8 f fd) : FnOk P w K mg base (L2N.CX P w) 9 f fd ["self", "low", "high"] (spBX K mg (sp_Book_add_rule_b6a8 CBook)) :=
  okBX F sc_Book_add_rule_b6a8 (len_Book_add_rule_b6a8 CBook) ⟨t_Book_add_rule_b6a8 CBook, fun cdv A outer s H E hr => by
    have nd := sc_Book_add_rule_b6a8.nd
    exact (qssx_one (qsx_expr (qex_methI (g_Book_act_56f7.at hr (by decide)) ciBook.c (L2N.takes_of rfl rfl rfl rfl) (qv 0) (qa_cons (qe_tup (qa_cons qe_str (qa_cons (qv 1) (qa_cons (qv 2) qa_nil)))) qa_nil)))), p_Book_add_rule_b6a8 CBook⟩
theorem sc_Book_drop_rule_1deb : FnScope ["self", "rule"] ["self", "rule"] (defScope st_Book_drop_rule_1deb) := ⟨rfl, rfl, rfl, by decide +kernel, rfl, by decide +kernel, by decide +kernel⟩
theorem ok_Book_drop_rule_1deb {f fd} {CBook : Addr} (ciBook : CiBook K CBook) (b : Bi w K mg) (g_Book_act_56f7 : GloMX P w K mg base CBook "act" 2 (spBX K mg (sp_Book_act_56f7 CBook)) 8) (F : Fn K "drop_rule" "Book.drop_rule" st_Book_drop_rule_1deb f fd) : FnOk P w K mg base (L2N.CX P w) 9 f fd ["self", "rule"] (spBX K mg (sp_Book_drop_rule_1deb CBook)) :=
  okBX F sc_Book_drop_rule_1deb (len_Book_drop_rule_1deb CBook) ⟨t_Book_drop_rule_1deb CBook, fun cdv A outer s H E hr => by
    have nd := sc_Book_drop_rule_1deb.nd
    exact (qssx_one (qsx_expr (qex_methI (g_Book_act_56f7.at hr (by decide)) ciBook.c (L2N.takes_of rfl rfl rfl rfl) (qv 0) (qa_cons (qe_tup (qa_cons qe_str (qa_cons (qv 1) qa_nil))) qa_nil)))), p_Book_drop_rule_1deb CBook⟩
theorem sc_Book_undo_292d : FnScope ["self"] ["self"] (defScope st_Book_undo_292d) := ⟨rfl, rfl, rfl, by decide +kernel, rfl, by decide +kernel, by decide +kernel⟩
theorem ok_Book_undo_292d {f fd} {CBook : Addr} (ciBook : CiBook K CBook) (b : Bi w K mg) (g_Book_need_idle_a04f : GloMX P w K mg base CBook "need_idle" 1 (spBX K mg (sp_Book_need_idle_a04f CBook)) 1) (F : Fn K "undo" "Book.undo" st_Book_undo_292d f fd) : FnOk P w K mg base (L2N.CX P w) 2 f fd ["self"] (spBX K mg (sp_Book_undo_292d CBook)) :=
  okBX F sc_Book_undo_292d (len_Book_undo_292d CBook) ⟨t_Book_undo_292d CBook, fun cdv A outer s H E hr => by
    have nd := sc_Book_undo_292d.nd
    exact (qssx_cons (qsx_expr (qex_methI0 (g_Book_need_idle_a04f.at hr (by decide)) ciBook.c (L2N.takes_of rfl rfl rfl rfl) (qv 0)))
    (qssx_cons (qsx_if (qt_cmp (o_eqE hr) (qe_fI ciBook.c ciBook.kept (qv 0)) (qe_tup qa_nil) (nomark _)) (qssx_one (qsx_raise0 rfl (L2N.takes_of rfl rfl rfl rfl) (b.exc.x0 _ (by decide)) (b.exc.xq _ (by decide)) rfl)) (qssx_of qss_nil))
    (qssx_cons (qsx_fSet ciBook.c ciBook.panels (qex_of (qe_slice (qe_fI ciBook.c ciBook.panels (qv 0)) qo_none (qo_some (qe_un o_neg qe_int)))) (qv 0))
    (qssx_one (qsx_fSet ciBook.c ciBook.kept (qex_of (qe_slice (qe_fI ciBook.c ciBook.kept (qv 0)) qo_none (qo_some (qe_un o_neg qe_int)))) (qv 0)))))), p_Book_undo_292d CBook⟩
theorem sc_do_b165 : FnScope ["_law_book", "_law_action_here", "_law_name", "_law_some"] ["_law_book", "_law_action_here"] (defScope st_do_b165) := ⟨rfl, rfl, rfl, by decide +kernel, rfl, by decide +kernel, by decide +kernel⟩
theorem ok_do_b165 {f fd} {CBook : Addr} (ciBook : CiBook K CBook) (b : Bi w K mg) (g_Book_set_mark_d750 : GloMX P w K mg base CBook "set_mark" 3 (spBX K mg (sp_Book_set_mark_d750 CBook)) 9) (g_Book_set_weight_80a1 : GloMX P w K mg base CBook "set_weight" 3 (spBX K mg (sp_Book_set_weight_80a1 CBook)) 9) (g_Book_add_item_5e3f : GloMX P w K mg base CBook "add_item" 3 (spBX K mg (sp_Book_add_item_5e3f CBook)) 9) (g_Book_drop_item_c5ba : GloMX P w K mg base CBook "drop_item" 2 (spBX K mg (sp_Book_drop_item_c5ba CBook)) 9) (g_Book_add_rule_b6a8 : GloMX P w K mg base CBook "add_rule" 3 (spBX K mg (sp_Book_add_rule_b6a8 CBook)) 9) (g_Book_drop_rule_1deb : GloMX P w K mg base CBook "drop_rule" 2 (spBX K mg (sp_Book_drop_rule_1deb CBook)) 9) (g_Book_undo_292d : GloMX P w K mg base CBook "undo" 1 (spBX K mg (sp_Book_undo_292d CBook)) 2) (F : Fn K "_law_do" "_law_do" st_do_b165 f fd) : FnOk P w K mg base (L2N.CX P w) 10 f fd ["_law_book", "_law_action_here"] (spBX K mg (sp_do_b165 CBook)) :=
  okBX F sc_do_b165 (len_do_b165 CBook) ⟨t_do_b165 CBook, fun cdv A outer s H E hr => by
    have nd := sc_do_b165.nd
    exact (qssx_cons (qsx_of (qs_par rfl nd rfl rfl (by decide) rfl rfl (qa_cons (qe_ix (qv 1) qe_int) (qa_cons (qe_slice (qv 1) (qo_some qe_int) qo_none) qa_nil)) rfl))
    (qssx_one (qsx_if (qt_cmp (o_eq hr) (qv 2) qe_str (nomark _)) (qssx_one (qsx_expr (qex_methI (g_Book_set_mark_d750.at hr (by decide)) ciBook.c (L2N.takes_of rfl rfl rfl rfl) (qv 0) (qa_cons (qe_ix (qv 3) qe_int) (qa_cons (qe_ix (qv 3) qe_int) qa_nil))))) (qssx_one (qsx_if (qt_cmp (o_eq hr) (qv 2) qe_str (nomark _)) (qssx_one (qsx_expr (qex_methI (g_Book_set_weight_80a1.at hr (by decide)) ciBook.c (L2N.takes_of rfl rfl rfl rfl) (qv 0) (qa_cons (qe_ix (qv 3) qe_int) (qa_cons (qe_ix (qv 3) qe_int) qa_nil))))) (qssx_one (qsx_if (qt_cmp (o_eq hr) (qv 2) qe_str (nomark _)) (qssx_one (qsx_expr (qex_methI (g_Book_add_item_5e3f.at hr (by decide)) ciBook.c (L2N.takes_of rfl rfl rfl rfl) (qv 0) (qa_cons (qe_ix (qv 3) qe_int) (qa_cons (qe_ix (qv 3) qe_int) qa_nil))))) (qssx_one (qsx_if (qt_cmp (o_eq hr) (qv 2) qe_str (nomark _)) (qssx_one (qsx_expr (qex_methI (g_Book_drop_item_c5ba.at hr (by decide)) ciBook.c (L2N.takes_of rfl rfl rfl rfl) (qv 0) (qa_cons (qe_ix (qv 3) qe_int) qa_nil)))) (qssx_one (qsx_if (qt_cmp (o_eq hr) (qv 2) qe_str (nomark _)) (qssx_one (qsx_expr (qex_methI (g_Book_add_rule_b6a8.at hr (by decide)) ciBook.c (L2N.takes_of rfl rfl rfl rfl) (qv 0) (qa_cons (qe_ix (qv 3) qe_int) (qa_cons (qe_ix (qv 3) qe_int) qa_nil))))) (qssx_one (qsx_if (qt_cmp (o_eq hr) (qv 2) qe_str (nomark _)) (qssx_one (qsx_expr (qex_methI (g_Book_drop_rule_1deb.at hr (by decide)) ciBook.c (L2N.takes_of rfl rfl rfl rfl) (qv 0) (qa_cons (qe_ix (qv 3) qe_int) qa_nil)))) (qssx_one (qsx_expr (qex_methI0 (g_Book_undo_292d.at hr (by decide)) ciBook.c (L2N.takes_of rfl rfl rfl rfl) (qv 0))))))))))))))))), p_do_b165 CBook⟩
theorem sc_limited_235d : FnScope ["_law_book", "_law_action_here", "_law_error"] ["_law_book", "_law_action_here"] (defScope st_limited_235d) := ⟨rfl, rfl, rfl, by decide +kernel, rfl, by decide +kernel, by decide +kernel⟩
theorem ok_limited_235d {f fd} {CBook : Addr} (ciBook : CiBook K CBook) (b : Bi w K mg) (g_do_b165 : GloX P w K mg base "_law_do" 2 (spBX K mg (sp_do_b165 CBook)) 10) (g_class_4baa : GloK0 P w K mg base "_law_class" (spP K (sp_class_4baa (errH K mg))) 1) (F : Fn K "_law_limited" "_law_limited" st_limited_235d f fd) : FnOk P w K mg base (L2N.CX P w) 11 f fd ["_law_book", "_law_action_here"] (spBX K mg (sp_limited_235d CBook (errH K mg))) :=
  okBX F sc_limited_235d (len_limited_235d CBook (errH K mg)) ⟨t_limited_235d CBook (errH K mg), fun cdv A outer s H E hr => by
    have nd := sc_limited_235d.nd
    exact (qssx_cons (qsx_of (qs_tryAsW (f := lookT [("Busy", "MarksError", true), ("Full", "MarksError", true), ("InvalidMark", "MarksError", true), ("InvalidWeight", "MarksError", true), ("LastItem", "MarksError", true), ("NothingToUndo", "MarksError", true), ("TooManyActions", "MarksError", true)]) rfl rfl nd rfl rfl (fun _ => rfl) rfl (lookT_ok b.exc.sub (by decide +kernel)) ⟨"Busy", rfl⟩ (fun W pn xe tk po => (qssx_one (qsx_expr (qex_callI (g_do_b165.at hr (by decide)) (takesN tk) rfl (qa_cons (qv 0) (qa_cons (qv 1) qa_nil)))))) (fun a oe cls d pn Z0 x hx => (qss_one (qs_ret (qe_hot0 hx (sub_all b.exc.xq (by decide +kernel)) (g_class_4baa.at hr (by decide)) rfl (pv 2)))))))
    (qssx_of (qss_one (qs_ret qe_str)))), p_limited_235d CBook (errH K mg)⟩
theorem sc_hear_2917 : FnScope ["_law_book", "_law_notes", "_law_action_here"] ["_law_book", "_law_notes", "_law_action_here"] (defScope st_hear_2917) := ⟨rfl, rfl, rfl, by decide +kernel, rfl, by decide +kernel, by decide +kernel⟩
theorem ok_hear_2917 {f fd} {CBook : Addr} (ciBook : CiBook K CBook) (b : Bi w K mg) (g_limited_235d : GloX P w K mg base "_law_limited" 2 (spBX K mg (sp_limited_235d CBook (errH K mg))) 11) (F : Fn K "_law_hear" "_law_hear" st_hear_2917 f fd) : FnOk P w K mg base (L2N.CX P w) 12 f fd ["_law_book", "_law_notes", "_law_action_here"] (spQ (gBk (gNb K)) mg (sp_hear_2917 CBook (errH K mg))) :=
  okQ (G := (gBk (gNb K))) rfl F sc_hear_2917 (len_hear_2917 CBook (errH K mg)) ⟨t_hear_2917 CBook (errH K mg), fun cdv A outer s H E hr => by
    have nd := sc_hear_2917.nd
    exact (qssx_of (qss_cons (qs_expr (qe_x0 (qex_nbApp (qv 1) (qex_of (qe_callI (g_limited_235d.at hr (by decide)) rfl (qa_cons (qv 0) (qa_cons (qv 2) qa_nil)))))))
    (qss_one (qs_ret qe_bl)))), p_hear_2917 CBook (errH K mg)⟩
theorem sc_is_action_d748 : FnScope ["value"] ["value"] (defScope st_is_action_d748) := ⟨rfl, rfl, rfl, by decide +kernel, rfl, by decide +kernel, by decide +kernel⟩
theorem ok_is_action_d748 {f fd} (b : Bi w K mg) (F : Fn K "is_action" "is_action" st_is_action_d748 f fd) : FnOk P w K mg base CX0 1 f fd ["value"] (spP K sp_is_action_d748) :=
  okP F sc_is_action_d748 len_is_action_d748 ⟨t_is_action_d748, fun cdv A outer s H E hr => by
    have nd := sc_is_action_d748.nd
    exact (qss_cons (qs_if (PW.pt (qw_or (qt_not (qt_val (qe_isi (by decide) (qv 0) rfl b.f_isinstance rfl b.f_tuple bt_tuple))) (qw_or (qt_cmp (o_eq hr) (qv 0) (qe_tup qa_nil) (nomark _)) (qw_and1 (qt_not (qt_val (qe_isi (by decide) (qe_ix (qv 0) qe_int) rfl b.f_isinstance rfl b.f_str bt_str))))))) (qss_one (qs_ret qe_bl)) qss_nil)
    (qss_one (qs_ret (qe_and (qe_inK b.d_ARGUMENTS rfl (qe_ix (qv 0) qe_int) (by rfl)) (qe_one (qe_cmp (o_eq hr) (qe_callB c_len rfl b.f_len bt_len (qa_cons (qv 0) qa_nil)) (qe_bin o_add qe_int (qe_ixK b.d_ARGUMENTS rfl (qe_ix (qv 0) qe_int))) (nomark _))))))), p_is_action_d748⟩
theorem sc_Book_performL_64d2 : FnScope ["self", "batch", "on_step", "index", "action", "error"] ["self", "batch", "on_step"] (defScope st_Book_performL_64d2) := ⟨rfl, rfl, rfl, by decide +kernel, rfl, by decide +kernel, by decide +kernel⟩
theorem ok_Book_performL_64d2 {U : UT} {f fd} {CBook : Addr} (ciBook : CiBook K CBook) (b : Bi w K mg) (g_Book_keep_3d59 : GloMX P w K mg base CBook "keep" 2 (spBX K mg (sp_Book_keep_3d59 CBook)) 7) (j_BatchFailed : GloE P w K mg base "BatchFailed" ["index"]) (F : Fn K "perform" "Book.perform" st_Book_performL_64d2 f fd) : FnU P w K mg base (L2N.CX P w) U 15 f fd ["self", "batch", "on_step"] (spQ (gBk (gNb K)) mg (sp_Book_performL_64d2 CBook (lisA P w K mg base 14 (gBk (gNb K)) U))) :=
  okUQ (G := gBk (gNb K)) rfl F sc_Book_performL_64d2 (len_Book_performL_64d2 CBook _) ⟨t_Book_performL_64d2 CBook _, fun cdv A outer s H E hr hU => by
    have nd := sc_Book_performL_64d2.nd
    exact (qssx_one (qsx_for (passes_of rfl) rfl (qi_enum rfl b.f_enumerate (qa_cons (qv 1) qa_nil)) (qg_tup rfl (qgs_cons (qg_name nd rfl (by first | exact Or.inl rfl | exact Or.inr rfl)) (qgs_cons (qg_name nd rfl (by first | exact Or.inl rfl | exact Or.inr rfl)) qgs_nil))) (qssx_cons (qsx_of (qs_try0 (fun pn xe => (qss_one (qs_expr (qe_methI (g_Book_keep_3d59.at hr (by decide)) ciBook.c (qv 0) (qa_cons (qv 4) qa_nil)))))))
    (qssx_one (qsx_of (qs_if (qt_cmp o_notL (qv 2) qe_non (nomark _)) (qss_cons (qs_ofX (W := fun _ _ _ _ => True) (qsx_fSet ciBook.c ciBook.is_busy (qex_of qe_bl) (qv 0)))
    (qss_cons (qs_expr (qe_x0 (qex_lis rfl hU hr takes0N (pv 2) (qa_cons (qv 0) qa_nil))))
    (qss_one (qs_ofX (W := fun _ _ _ _ => True) (qsx_fSet ciBook.c ciBook.is_busy (qex_of qe_bl) (qv 0)))))) qss_nil)))))), p_Book_performL_64d2 CBook _⟩
theorem sc_Book_runL_35fc : FnScope ["self", "batch", "on_step", "items", "panels", "kept", "many", "done", "item"] ["self", "batch", "on_step"] (defScope st_Book_runL_35fc) := ⟨rfl, rfl, rfl, by decide +kernel, rfl, by decide +kernel, by decide +kernel⟩
theorem ok_Book_runL_35fc {U : UT} {f fd} {CBook : Addr} (ciBook : CiBook K CBook) (b : Bi w K mg) (g_is_action_d748 : Glo P w K mg base "is_action" 1 (spP K (sp_is_action_d748)) 1) (g_Book_need_idle_a04f : GloMX P w K mg base CBook "need_idle" 1 (spBX K mg (sp_Book_need_idle_a04f CBook)) 1) (g_Book_performL_64d2 : GloMU P w K mg base U CBook "perform" 3 (spQ (gBk (gNb K)) mg (sp_Book_performL_64d2 CBook (lisA P w K mg base 14 (gBk (gNb K)) U))) 15) (F : FunD K "run" "Book.run" (defArgs st_Book_runL_35fc) (defBody st_Book_runL_35fc) (defScope st_Book_runL_35fc) [] [("on_step", V.non)] f fd) : FnU P w K mg base (L2N.CX P w) U 16 f fd ["self", "batch", "on_step"] (spQ (gBk (gNb K)) mg (sp_Book_runL_35fc CBook (lisA P w K mg base 14 (gBk (gNb K)) U))) :=
  okUQ (G := gBk (gNb K)) rfl F sc_Book_runL_35fc (len_Book_runL_35fc CBook _) ⟨t_Book_runL_35fc CBook _, fun cdv A outer s H E hr hU => by
    have nd := sc_Book_runL_35fc.nd
    exact (qssx_cons (qsx_expr (qex_methI0 (g_Book_need_idle_a04f.at hr (by decide)) ciBook.c (L2N.takes_of rfl rfl rfl rfl) (qv 0)))
    (qssx_cons (qsx_if (PW.pt (qw_or (qt_not (qt_val (qe_isLT (qv 1) rfl b.f_isinstance rfl b.f_list rfl b.f_tuple))) (qw_or (qt_cmp o_gt (qe_callB c_len rfl b.f_len bt_len (qa_cons (qv 1) qa_nil)) (qe_gl rfl b.g_BATCH) (nomark _)) (qw_and1 (qt_not (qt_val (qe_callB (c_all rfl) rfl b.f_all bt_all (qa_cons (qe_set (qf_lc rfl nd (qi_seq (qv 1)) (own := [("item", 8)]) (blkOk_by (by kernel_rfl)) (by decide) (fun _ _ _ _ _ => (qg_name nd rfl (by first | exact Or.inl rfl | exact Or.inr rfl))) (fun _ _ _ _ _ => qts_nil) (fun _ _ _ _ _ => (qe_call (g_is_action_d748.at hr (by decide)) rfl (qa_cons (qv 8) qa_nil))))) qa_nil)))))))) (qssx_one (qsx_raise0 rfl (L2N.takes_of rfl rfl rfl rfl) (b.exc.x0 _ (by decide)) (b.exc.xq _ (by decide)) rfl)) (qssx_of qss_nil))
    (qssx_cons (qsx_of (qs_set (i := 3) nd rfl (by first | exact Or.inl rfl | exact Or.inr rfl) (qe_callTy c_tuple rfl b.f_tuple bt_tuple (qa_cons (qv 1) qa_nil))))
    (qssx_cons (qsx_of (qs_par rfl nd rfl rfl (by decide) rfl rfl (qa_cons (qe_fI ciBook.c ciBook.panels (qv 0)) (qa_cons (qe_fI ciBook.c ciBook.kept (qv 0)) qa_nil)) rfl))
    (qssx_cons (qsx_fNew ciBook.c ciBook.rows (qf_bin o_addF (qe_fSl ciBook.c ciBook.rows (qv 0) (qo_some (qe_un o_neg (qe_gl rfl b.g_LOG_ROWS))) qo_none) (qe_set (qf_lst (qa_cons (qe_tup (qa_cons qe_str (qa_cons (qe_callB c_len rfl b.f_len bt_len (qa_cons (qv 3) qa_nil)) qa_nil))) qa_nil)))) (qv 0))
    (qssx_cons (qsx_of (qs_set (i := 6) nd rfl (by first | exact Or.inl rfl | exact Or.inr rfl) qe_int))
    (qssx_cons (qsx_of (qs_set (i := 7) nd rfl (by first | exact Or.inl rfl | exact Or.inr rfl) qe_non))
    (qssx_one (qsx_of (qs_tryFin (fun pn xe => (qss_cons (qs_expr (qe_x0 (qex_methU (g_Book_performL_64d2.at hr (by decide)) ciBook.c (hU.tr pn xe) takes0N (qv 0) (qa_cons (qv 3) (qa_cons (qv 2) qa_nil)))))
    (qss_cons (qs_set (i := 6) nd rfl (by first | exact Or.inl rfl | exact Or.inr rfl) (qe_callB c_len rfl b.f_len bt_len (qa_cons (qv 3) qa_nil)))
    (qss_one (qs_set (i := 7) nd rfl (by first | exact Or.inl rfl | exact Or.inr rfl) qe_bl))))) (fun pn xe => (qss_cons (qs_ofX (W := fun _ _ _ _ => True) (qsx_fSet ciBook.c ciBook.is_busy (qex_of qe_bl) (qv 0)))
    (qss_cons (qs_if (qt_cmp o_isN (qv 7) qe_non (nomark _)) (qss_cons (qs_ofX (W := fun _ _ _ _ => True) (qsx_fSet ciBook.c ciBook.panels (qex_of (qv 4)) (qv 0)))
    (qss_one (qs_ofX (W := fun _ _ _ _ => True) (qsx_fSet ciBook.c ciBook.kept (qex_of (qv 5)) (qv 0))))) qss_nil)
    (qss_one (qs_expr (qe_fApp ciBook.c ciBook.rows (qv 0) (qe_tup (qa_cons qe_str (qa_cons (qv 6) qa_nil))))))))))))))))))), p_Book_runL_35fc CBook _⟩
theorem kb_Book_runL_35fc {f fd} (F : FunD K "run" "Book.run" (defArgs st_Book_runL_35fc) (defBody st_Book_runL_35fc) (defScope st_Book_runL_35fc) [] [("on_step", V.non)] f fd) : KBn K fd ["self", "batch", "on_step"] 2 ["on_step"] (fun us ws => us ++ ws) (fun vs zs => vs ++ zs) :=
  kb1 F fun kV doc pm an cdv ct a b c => by rfl
theorem sc_Book_log_00c1 : FnScope ["self"] ["self"] (defScope st_Book_log_00c1) := ⟨rfl, rfl, rfl, by decide +kernel, rfl, by decide +kernel, by decide +kernel⟩
theorem ok_Book_log_00c1 {f fd} {CBook : Addr} (ciBook : CiBook K CBook) (b : Bi w K mg) (F : Fn K "log" "Book.log" st_Book_log_00c1 f fd) : FnOk P w K mg base (L2N.CX P w) 1 f fd ["self"] (spBX K mg (sp_Book_log_00c1 CBook)) :=
  okBX F sc_Book_log_00c1 (len_Book_log_00c1 CBook) ⟨t_Book_log_00c1 CBook, fun cdv A outer s H E hr => by
    have nd := sc_Book_log_00c1.nd
    exact (qssx_of (qss_one (qs_ret (qe_callTy c_tuple rfl b.f_tuple bt_tuple (qa_cons (qe_fSl ciBook.c ciBook.rows (qv 0) (qo_some (qe_un o_neg (qe_gl rfl b.g_LOG_ROWS))) qo_none) qa_nil))))), p_Book_log_00c1 CBook⟩
theorem sc_Book___len___d650 : FnScope ["self"] ["self"] (defScope st_Book___len___d650) := ⟨rfl, rfl, rfl, by decide +kernel, rfl, by decide +kernel, by decide +kernel⟩
theorem ok_Book___len___d650 {f fd} {CBook : Addr} (ciBook : CiBook K CBook) (b : Bi w K mg) (F : Fn K "__len__" "Book.__len__" st_Book___len___d650 f fd) : FnOk P w K mg base (L2N.CX P w) 1 f fd ["self"] (spBX K mg (sp_Book___len___d650 CBook)) :=
  okBX F sc_Book___len___d650 (len_Book___len___d650 CBook) ⟨t_Book___len___d650 CBook, fun cdv A outer s H E hr => by
    have nd := sc_Book___len___d650.nd
    exact (qssx_of (qss_one (qs_ret (qe_callB c_len rfl b.f_len bt_len (qa_cons (qe_fI ciBook.c ciBook.kept (qv 0)) qa_nil))))), p_Book___len___d650 CBook⟩
theorem sc_full_right_e03f : FnScope ["_law_book", "_law_action_here", "_law_notes", "_law_one_here"] ["_law_book", "_law_action_here"] (defScope st_full_right_e03f) := ⟨rfl, rfl, rfl, by decide +kernel, rfl, by decide +kernel, by decide +kernel⟩
theorem ok_full_right_e03f {fd} (tb : Tabs K mg base tfl) {CBook : Addr} (ciBook : CiBook K CBook) (b : Bi w K mg) (g_hear_2917 : GloX P w K mg base "_law_hear" 3 (spQ (gBk (gNb K)) mg (sp_hear_2917 CBook (errH K mg))) 12) (g_Book_runL_35fc : GloRU P w K mg base CBook "run" "on_step" (fun U => (spQ (gBk (gNb K)) mg (sp_Book_runL_35fc CBook (lisA P w K mg base 14 (gBk (gNb K)) U)))) 16) (g_Book_undo_292d : GloMX P w K mg base CBook "undo" 1 (spBX K mg (sp_Book_undo_292d CBook)) 2) (g_Book_log_00c1 : GloMX P w K mg base CBook "log" 1 (spBX K mg (sp_Book_log_00c1 CBook)) 1) (g_Book___len___d650 : GloD P w K mg base CBook "__len__" (spBX K mg (sp_Book___len___d650 CBook)) 1) (F : Fn K "_law_full_right" "_law_full_right" st_full_right_e03f (He.fAd K ("_law_full_right", none)) fd) : FnOk P w K mg base (L2N.CX P w) 17 (He.fAd K ("_law_full_right", none)) fd ["_law_book", "_law_action_here"] (spQ (gBk (gT (none0 K) (tabsT K tfl))) mg (sp_full_right_e03f CBook (errH K mg))) :=
  okQC (G := (gBk (gT (none0 K) (tabsT K tfl)))) rfl F sc_full_right_e03f (len_full_right_e03f CBook (errH K mg)) ⟨t_full_right_e03f CBook (errH K mg), fun A outer s H E hr => by
    have nd := sc_full_right_e03f.nd
    exact (qssx_cons (qsx_of (qs_setOwn (i := 2) nd rfl (by first | exact Or.inl rfl | exact Or.inr rfl) (qf_lst qa_nil)))
    (qssx_cons (qsx_expr (qex_runL (kb := 13) (g_Book_runL_35fc.at hr (by decide)) ciBook.c (L2N.takes_of rfl rfl rfl rfl) (qv 0) (qe_set (qf_lst qa_nil)) (tb.at_ _ (List.Mem.head _)) rfl (tabsT_mem (List.Mem.head _)) (tabsT_one (List.Mem.head _) tb.apart) (lamS1_by (sc := defScope st_full_right_e03f) (by decide +kernel)) rfl (fun _ _ _ _ _ _ => rfl) nd rfl (fun A outer s H E f c2 hr => (qex_callQ (g_hear_2917.at hr (by decide)) (L2N.takes_of rfl rfl rfl rfl) rfl (qa_cons (qv 3) (qa_cons (qv 2) (qa_cons (qv 1) qa_nil)))))))
    (qssx_cons (qsx_of (qs_if (PW.pt (qw_or (qt_cmpOwn (o_ne hr) (pv 2) (qe_set (qf_lst qa_nil)) (nomark _)) (qw_or (qt_cmp (o_ne hr) (qe_methI0 (g_Book_log_00c1.at hr (by decide)) ciBook.c (qv 0)) (qe_tup (qa_cons (qe_tup (qa_cons qe_str (qa_cons qe_int qa_nil))) (qa_cons (qe_tup (qa_cons qe_str (qa_cons qe_int qa_nil))) qa_nil))) (nomark _)) (qw_and1 (qt_cmp (o_ne hr) (qe_dunL (g_Book___len___d650.at hr (by decide)) (qv 0) rfl b.f_len) qe_int (nomark _)))))) (qss_one (qs_ret qe_bl)) qss_nil))
    (qssx_cons (qsx_expr (qex_methI0 (g_Book_undo_292d.at hr (by decide)) ciBook.c (L2N.takes_of rfl rfl rfl rfl) (qv 0)))
    (qssx_cons (qsx_expr (qex_runL (kb := 13) (g_Book_runL_35fc.at hr (by decide)) ciBook.c (L2N.takes_of rfl rfl rfl rfl) (qv 0) (qe_tup (qa_cons (qv 1) qa_nil)) (tb.at_ _ (List.Mem.head _)) rfl (tabsT_mem (List.Mem.head _)) (tabsT_one (List.Mem.head _) tb.apart) (lamS1_by (sc := defScope st_full_right_e03f) (by decide +kernel)) rfl (fun _ _ _ _ _ _ => rfl) nd rfl (fun A outer s H E f c2 hr => (qex_callQ (g_hear_2917.at hr (by decide)) (L2N.takes_of rfl rfl rfl rfl) rfl (qa_cons (qv 3) (qa_cons (qv 2) (qa_cons (qv 1) qa_nil)))))))
    (qssx_of (qss_one (qs_ret (qe_and (qe_cmpOwn (o_eq hr) (pv 2) (qe_set (qf_lst (qa_cons qe_str qa_nil))) (nomark _)) (qe_one (qe_cmp (o_eq hr) (qe_dunL (g_Book___len___d650.at hr (by decide)) (qv 0) rfl b.f_len) qe_int (nomark _)))))))))))), p_full_right_e03f CBook (errH K mg)⟩
theorem sc_undone_a4b1 : FnScope ["_law_book", "_law_error"] ["_law_book"] (defScope st_undone_a4b1) := ⟨rfl, rfl, rfl, by decide +kernel, rfl, by decide +kernel, by decide +kernel⟩
theorem ok_undone_a4b1 {f fd} {CBook : Addr} (ciBook : CiBook K CBook) (b : Bi w K mg) (g_class_4baa : GloK0 P w K mg base "_law_class" (spP K (sp_class_4baa (errH K mg))) 1) (g_Book_undo_292d : GloMX P w K mg base CBook "undo" 1 (spBX K mg (sp_Book_undo_292d CBook)) 2) (F : Fn K "_law_undone" "_law_undone" st_undone_a4b1 f fd) : FnOk P w K mg base (L2N.CX P w) 3 f fd ["_law_book"] (spBX K mg (sp_undone_a4b1 CBook (errH K mg))) :=
  okBX F sc_undone_a4b1 (len_undone_a4b1 CBook (errH K mg)) ⟨t_undone_a4b1 CBook (errH K mg), fun cdv A outer s H E hr => by
    have nd := sc_undone_a4b1.nd
    exact (qssx_cons (qsx_of (qs_tryAsW (f := lookT [("Busy", "MarksError", true), ("NothingToUndo", "MarksError", true)]) rfl rfl nd rfl rfl (fun _ => rfl) rfl (lookT_ok b.exc.sub (by decide +kernel)) ⟨"Busy", rfl⟩ (fun W pn xe tk po => (qssx_one (qsx_expr (qex_methI0 (g_Book_undo_292d.at hr (by decide)) ciBook.c (takesN tk) (qv 0))))) (fun a oe cls d pn Z0 x hx => (qss_one (qs_ret (qe_hot0 hx (sub_all b.exc.xq (by decide +kernel)) (g_class_4baa.at hr (by decide)) rfl (pv 1)))))))
    (qssx_of (qss_one (qs_ret qe_str)))), p_undone_a4b1 CBook (errH K mg)⟩
theorem sc_is_tuple_7f37 : FnScope ["value", "low", "high"] ["value", "low", "high"] (defScope st_is_tuple_7f37) := ⟨rfl, rfl, rfl, by decide +kernel, rfl, by decide +kernel, by decide +kernel⟩
theorem ok_is_tuple_7f37 {f fd} (b : Bi w K mg) (F : Fn K "is_tuple" "is_tuple" st_is_tuple_7f37 f fd) : FnOk P w K mg base CX0 1 f fd ["value", "low", "high"] (spP K sp_is_tuple_7f37) :=
  okP F sc_is_tuple_7f37 len_is_tuple_7f37 ⟨t_is_tuple_7f37, fun cdv A outer s H E hr => by
    have nd := sc_is_tuple_7f37.nd
    exact (qss_one (qs_ret (qe_and (qe_isi (by decide) (qv 0) rfl b.f_isinstance rfl b.f_tuple bt_tuple) (qe_one (qe_chain o_le o_le (qv 1) (qe_callB c_len rfl b.f_len bt_len (qa_cons (qv 0) qa_nil)) (qv 2)))))), p_is_tuple_7f37⟩
theorem sc_item_fault_6a6b : FnScope ["index", "item"] ["index", "item"] (defScope st_item_fault_6a6b) := ⟨rfl, rfl, rfl, by decide +kernel, rfl, by decide +kernel, by decide +kernel⟩
theorem ok_item_fault_6a6b {f fd} (b : Bi w K mg) (g_is_tuple_7f37 : Glo P w K mg base "is_tuple" 3 (spP K (sp_is_tuple_7f37)) 1) (g_is_mark_f168 : Glo P w K mg base "is_mark" 1 (spP K (sp_is_mark_f168)) 3) (g_is_weight_6941 : Glo P w K mg base "is_weight" 1 (spP K (sp_is_weight_6941)) 3) (F : Fn K "item_fault" "item_fault" st_item_fault_6a6b f fd) : FnOk P w K mg base CX0 4 f fd ["index", "item"] (spP K sp_item_fault_6a6b) :=
  okP F sc_item_fault_6a6b len_item_fault_6a6b ⟨t_item_fault_6a6b, fun cdv A outer s H E hr => by
    have nd := sc_item_fault_6a6b.nd
    exact (qss_cons (qs_if (qt_not (qt_val (qe_call (g_is_tuple_7f37.at hr (by decide)) rfl (qa_cons (qv 1) (qa_cons qe_int (qa_cons qe_int qa_nil)))))) (qss_one (qs_ret (qe_tup (qa_cons (qe_tup (qa_cons qe_int (qa_cons (qv 0) qa_nil))) (qa_cons qe_str qa_nil))))) qss_nil)
    (qss_cons (qs_if (qt_not (qt_val (qe_call (g_is_mark_f168.at hr (by decide)) rfl (qa_cons (qe_ix (qv 1) qe_int) qa_nil)))) (qss_one (qs_ret (qe_tup (qa_cons (qe_tup (qa_cons qe_int (qa_cons (qv 0) (qa_cons qe_int qa_nil)))) (qa_cons qe_str qa_nil))))) qss_nil)
    (qss_one (qs_ret (qe_if (qt_val (qe_call (g_is_weight_6941.at hr (by decide)) rfl (qa_cons (qe_ix (qv 1) qe_int) qa_nil))) qe_non (qe_tup (qa_cons (qe_tup (qa_cons qe_int (qa_cons (qv 0) (qa_cons qe_int qa_nil)))) (qa_cons qe_str qa_nil)))))))), p_item_fault_6a6b⟩
theorem sc_rule_fault_c7d6 : FnScope ["index", "rule", "items"] ["index", "rule", "items"] (defScope st_rule_fault_c7d6) := ⟨rfl, rfl, rfl, by decide +kernel, rfl, by decide +kernel, by decide +kernel⟩
theorem ok_rule_fault_c7d6 {f fd} (b : Bi w K mg) (g_is_tuple_7f37 : Glo P w K mg base "is_tuple" 3 (spP K (sp_is_tuple_7f37)) 1) (g_is_within_3133 : Glo P w K mg base "is_within" 3 (spP K (sp_is_within_3133)) 2) (F : Fn K "rule_fault" "rule_fault" st_rule_fault_c7d6 f fd) : FnOk P w K mg base CX0 3 f fd ["index", "rule", "items"] (spP K sp_rule_fault_c7d6) :=
  okP F sc_rule_fault_c7d6 len_rule_fault_c7d6 ⟨t_rule_fault_c7d6, fun cdv A outer s H E hr => by
    have nd := sc_rule_fault_c7d6.nd
    exact (qss_cons (qs_if (qt_not (qt_val (qe_call (g_is_tuple_7f37.at hr (by decide)) rfl (qa_cons (qv 1) (qa_cons qe_int (qa_cons qe_int qa_nil)))))) (qss_one (qs_ret (qe_tup (qa_cons (qe_tup (qa_cons qe_int (qa_cons (qv 0) qa_nil))) (qa_cons qe_str qa_nil))))) qss_nil)
    (qss_cons (qs_if (qt_not (qt_val (qe_call (g_is_within_3133.at hr (by decide)) rfl (qa_cons (qe_ix (qv 1) qe_int) (qa_cons qe_int (qa_cons (qe_bin o_sub (qv 2) qe_int) qa_nil)))))) (qss_one (qs_ret (qe_tup (qa_cons (qe_tup (qa_cons qe_int (qa_cons (qv 0) (qa_cons qe_int qa_nil)))) (qa_cons qe_str qa_nil))))) qss_nil)
    (qss_cons (qs_if (PW.pt (qw_or (qt_not (qt_val (qe_call (g_is_within_3133.at hr (by decide)) rfl (qa_cons (qe_ix (qv 1) qe_int) (qa_cons qe_int (qa_cons (qe_bin o_sub (qv 2) qe_int) qa_nil)))))) (qw_and1 (qt_cmp (o_eq hr) (qe_ix (qv 1) qe_int) (qe_ix (qv 1) qe_int) (nomark _))))) (qss_one (qs_ret (qe_tup (qa_cons (qe_tup (qa_cons qe_int (qa_cons (qv 0) (qa_cons qe_int qa_nil)))) (qa_cons qe_str qa_nil))))) qss_nil)
    (qss_one (qs_ret qe_non))))), p_rule_fault_c7d6⟩
theorem sc_find_fault_effe : FnScope ["value", "faults", "fault", "index", "item", "rule"] ["value"] (defScope st_find_fault_effe) := ⟨rfl, rfl, rfl, by decide +kernel, rfl, by decide +kernel, by decide +kernel⟩
theorem ok_find_fault_effe {f fd} (b : Bi w K mg) (g_is_tuple_7f37 : Glo P w K mg base "is_tuple" 3 (spP K (sp_is_tuple_7f37)) 1) (g_item_fault_6a6b : Glo P w K mg base "item_fault" 2 (spP K (sp_item_fault_6a6b)) 4) (g_rule_fault_c7d6 : Glo P w K mg base "rule_fault" 3 (spP K (sp_rule_fault_c7d6)) 3) (F : Fn K "find_fault" "find_fault" st_find_fault_effe f fd) : FnOk P w K mg base CX0 5 f fd ["value"] (spP K sp_find_fault_effe) :=
  okP F sc_find_fault_effe len_find_fault_effe ⟨t_find_fault_effe, fun cdv A outer s H E hr => by
    have nd := sc_find_fault_effe.nd
    exact (qss_cons (qs_if (qt_not (qt_val (qe_call (g_is_tuple_7f37.at hr (by decide)) rfl (qa_cons (qv 0) (qa_cons qe_int (qa_cons qe_int qa_nil)))))) (qss_one (qs_ret (qe_tup (qa_cons (qe_tup qa_nil) (qa_cons qe_str qa_nil))))) qss_nil)
    (qss_cons (qs_if (qt_not (qt_val (qe_call (g_is_tuple_7f37.at hr (by decide)) rfl (qa_cons (qe_ix (qv 0) qe_int) (qa_cons qe_int (qa_cons (qe_gl rfl b.g_ITEMS) qa_nil)))))) (qss_one (qs_ret (qe_tup (qa_cons (qe_tup (qa_cons qe_int qa_nil)) (qa_cons qe_str qa_nil))))) qss_nil)
    (qss_cons (qs_if (qt_not (qt_val (qe_call (g_is_tuple_7f37.at hr (by decide)) rfl (qa_cons (qe_ix (qv 0) qe_int) (qa_cons qe_int (qa_cons (qe_gl rfl b.g_RULES) qa_nil)))))) (qss_one (qs_ret (qe_tup (qa_cons (qe_tup (qa_cons qe_int qa_nil)) (qa_cons qe_str qa_nil))))) qss_nil)
    (qss_cons (qs_lc rfl nd rfl rfl rfl (qi_enum rfl b.f_enumerate (qa_cons (qe_ix (qv 0) qe_int) qa_nil)) (own := [("index", 3), ("item", 4)]) (blkOk_by (by kernel_rfl)) (by decide) (fun _ _ _ _ _ => (qg_tup rfl (qgs_cons (qg_name nd rfl (by first | exact Or.inl rfl | exact Or.inr rfl)) (qgs_cons (qg_name nd rfl (by first | exact Or.inl rfl | exact Or.inr rfl)) qgs_nil)))) (fun _ _ _ _ _ => qts_nil) (fun _ _ _ _ _ => (qe_call (g_item_fault_6a6b.at hr (by decide)) rfl (qa_cons (qv 3) (qa_cons (qv 4) qa_nil)))))
    (qss_cons (qs_set (i := 1) nd rfl (by first | exact Or.inl rfl | exact Or.inr rfl) (qe_bin o_add (qv 1) (qe_set (qf_lc rfl nd (qi_enum rfl b.f_enumerate (qa_cons (qe_ix (qv 0) qe_int) qa_nil)) (own := [("index", 3), ("rule", 5)]) (blkOk_by (by kernel_rfl)) (by decide) (fun _ _ _ _ _ => (qg_tup rfl (qgs_cons (qg_name nd rfl (by first | exact Or.inl rfl | exact Or.inr rfl)) (qgs_cons (qg_name nd rfl (by first | exact Or.inl rfl | exact Or.inr rfl)) qgs_nil)))) (fun _ _ _ _ _ => qts_nil) (fun _ _ _ _ _ => (qe_call (g_rule_fault_c7d6.at hr (by decide)) rfl (qa_cons (qv 3) (qa_cons (qv 5) (qa_cons (qe_callB c_len rfl b.f_len bt_len (qa_cons (qe_ix (qv 0) qe_int) qa_nil)) qa_nil)))))))))
    (qss_cons (qs_for PassesOwn.never rfl (qi_seq (qv 1)) (qg_name nd rfl (by first | exact Or.inl rfl | exact Or.inr rfl)) (qss_one (qs_if (qt_cmp o_notN (qv 2) qe_non (nomark _)) (qss_one (qs_ret (qv 2))) qss_nil)))
    (qss_one (qs_ret qe_non)))))))), p_find_fault_effe⟩
theorem sc_Book___init___c536 : FnScope ["self", "panel", "fault"] ["self", "panel"] (defScope st_Book___init___c536) := ⟨rfl, rfl, rfl, by decide +kernel, rfl, by decide +kernel, by decide +kernel⟩
theorem ok_Book___init___c536 {f fd} {CBook : Addr} (ciBook : CiBook K CBook) (b : Bi w K mg) (g_find_fault_effe : Glo P w K mg base "find_fault" 1 (spP K (sp_find_fault_effe)) 5) (F : Fn K "__init__" "Book.__init__" st_Book___init___c536 f fd) : FnOk P w K mg base (L2N.CX P w) 6 f fd ["self", "panel"] (spBX K mg (sp_Book___init___c536 CBook)) :=
  okBX F sc_Book___init___c536 (len_Book___init___c536 CBook) ⟨t_Book___init___c536 CBook, fun cdv A outer s H E hr => by
    have nd := sc_Book___init___c536.nd
    exact (qssx_cons (qsx_of (qs_set (i := 2) nd rfl (by first | exact Or.inl rfl | exact Or.inr rfl) (qe_call (g_find_fault_effe.at hr (by decide)) rfl (qa_cons (qv 1) qa_nil))))
    (qssx_cons (qsx_if (qt_cmp o_notN (qv 2) qe_non (nomark _)) (qssx_one (qsx_of qs_never)) (qssx_of qss_nil))
    (qssx_cons (qsx_fSet ciBook.c ciBook.panels (qex_of (qe_tup (qa_cons (qv 1) qa_nil))) (qv 0))
    (qssx_cons (qsx_fSet ciBook.c ciBook.kept (qex_of (qe_tup qa_nil)) (qv 0))
    (qssx_cons (qsx_fNew ciBook.c ciBook.rows (qf_lst qa_nil) (qv 0))
    (qssx_one (qsx_fSet ciBook.c ciBook.is_busy (qex_of qe_bl) (qv 0)))))))), p_Book___init___c536 CBook⟩
theorem sc_Book_actions_a3eb : FnScope ["self"] ["self"] (defScope st_Book_actions_a3eb) := ⟨rfl, rfl, rfl, by decide +kernel, rfl, by decide +kernel, by decide +kernel⟩
theorem ok_Book_actions_a3eb {f fd} {CBook : Addr} (ciBook : CiBook K CBook) (b : Bi w K mg) (F : Fn K "actions" "Book.actions" st_Book_actions_a3eb f fd) : FnOk P w K mg base (L2N.CX P w) 1 f fd ["self"] (spBX K mg (sp_Book_actions_a3eb CBook)) :=
  okBX F sc_Book_actions_a3eb (len_Book_actions_a3eb CBook) ⟨t_Book_actions_a3eb CBook, fun cdv A outer s H E hr => by
    have nd := sc_Book_actions_a3eb.nd
    exact (qssx_of (qss_one (qs_ret (qe_fI ciBook.c ciBook.kept (qv 0))))), p_Book_actions_a3eb CBook⟩
theorem sc_sixty_right_718b : FnScope ["_law_panel_here", "_law_book", "_law_some", "_law_k", "_law_more", "_law_action_here"] ["_law_panel_here"] (defScope st_sixty_right_718b) := ⟨rfl, rfl, rfl, by decide +kernel, rfl, by decide +kernel, by decide +kernel⟩
theorem ok_sixty_right_718b {f fd} {CBook : Addr} (ciBook : CiBook K CBook) (b : Bi w K mg) (g_full_right_e03f : GloX P w K mg base "_law_full_right" 2 (spQ (gBk (gT (none0 K) (tabsT K tfl))) mg (sp_full_right_e03f CBook (errH K mg))) 17) (g_do_b165 : GloX P w K mg base "_law_do" 2 (spBX K mg (sp_do_b165 CBook)) 10) (g_limited_235d : GloX P w K mg base "_law_limited" 2 (spBX K mg (sp_limited_235d CBook (errH K mg))) 11) (g_undone_a4b1 : GloX P w K mg base "_law_undone" 1 (spBX K mg (sp_undone_a4b1 CBook (errH K mg))) 3) (g_Book___init___c536 : GloCX P w K mg base CBook "Book" 2 (spBX K mg (sp_Book___init___c536 CBook)) 6) (g_Book___len___d650 : GloD P w K mg base CBook "__len__" (spBX K mg (sp_Book___len___d650 CBook)) 1) (g_Book_actions_a3eb : GloMX P w K mg base CBook "actions" 1 (spBX K mg (sp_Book_actions_a3eb CBook)) 1) (F : Fn K "_law_sixty_right" "_law_sixty_right" st_sixty_right_718b f fd) : FnOk P w K mg base (L2N.CX P w) 18 f fd ["_law_panel_here"] (spQ (gBk (gT (none0 K) (tabsT K tfl))) mg (sp_sixty_right_718b CBook (errH K mg))) :=
  okQ (G := (gBk (gT (none0 K) (tabsT K tfl)))) rfl F sc_sixty_right_718b (len_sixty_right_718b CBook (errH K mg)) ⟨t_sixty_right_718b CBook (errH K mg), fun cdv A outer s H E hr => by
    have nd := sc_sixty_right_718b.nd
    exact (qssx_cons (qsx_of (qs_set (i := 1) nd rfl (by first | exact Or.inl rfl | exact Or.inr rfl) (qe_makeI (g_Book___init___c536.at hr (by decide)) rfl (qa_cons (qv 0) qa_nil))))
    (qssx_cons (qsx_of (qs_set (i := 2) nd rfl (by first | exact Or.inl rfl | exact Or.inr rfl) (qe_set (qf_lst (qa_cons (qe_tup (qa_cons qe_str (qa_cons qe_int (qa_cons qe_int qa_nil)))) (qa_cons (qe_tup (qa_cons qe_str (qa_cons qe_int (qa_cons qe_int qa_nil)))) qa_nil))))))
    (qssx_cons (qsx_for (passes_of rfl) rfl (qi_range1 rfl b.f_range (qa_cons qe_int qa_nil)) (qg_name nd rfl (by first | exact Or.inl rfl | exact Or.inr rfl)) (qssx_one (qsx_expr (qex_callI (g_do_b165.at hr (by decide)) (L2N.takes_of rfl rfl rfl rfl) rfl (qa_cons (qv 1) (qa_cons (qe_ix (qv 2) (qe_bin o_mod (qv 3) qe_int)) qa_nil))))))
    (qssx_cons (qsx_of (qs_set (i := 4) nd rfl (by first | exact Or.inl rfl | exact Or.inr rfl) (qe_set (qf_lst (qa_cons (qe_ix (qv 2) qe_int) (qa_cons (qe_tup (qa_cons qe_str (qa_cons qe_non (qa_cons qe_int qa_nil)))) (qa_cons (qe_tup (qa_cons qe_str (qa_cons qe_int (qa_cons qe_int qa_nil)))) (qa_cons (qe_tup (qa_cons qe_str (qa_cons qe_non (qa_cons qe_int qa_nil)))) (qa_cons (qe_tup (qa_cons qe_str (qa_cons (qe_un o_neg qe_int) qa_nil))) qa_nil)))))))))
    (qssx_cons (qsx_of (qs_for (by first | exact PassesOwn.never | exact passes_of rfl) rfl (qi_seq (qe_bin o_add (qv 4) (qe_set (qf_lst (qa_cons (qe_tup (qa_cons qe_str (qa_cons qe_int (qa_cons qe_int qa_nil)))) (qa_cons (qe_tup (qa_cons qe_str (qa_cons (qe_un o_neg qe_int) qa_nil))) qa_nil)))))) (qg_name nd rfl (by first | exact Or.inl rfl | exact Or.inr rfl)) (qss_one (qs_if (qt_cmp (o_ne hr) (qe_callI (g_limited_235d.at hr (by decide)) rfl (qa_cons (qv 1) (qa_cons (qv 5) qa_nil))) qe_str (nomark _)) (qss_one (qs_ret qe_bl)) qss_nil))))
    (qssx_cons (qsx_of (qs_if (PW.pt (qw_or (qt_cmp (o_ne hr) (qe_callI (g_undone_a4b1.at hr (by decide)) rfl (qa_cons (qv 1) qa_nil)) qe_str (nomark _)) (qw_or (qt_cmp (o_ne hr) (qe_callI (g_limited_235d.at hr (by decide)) rfl (qa_cons (qv 1) (qa_cons (qe_ix (qv 2) qe_int) qa_nil))) qe_str (nomark _)) (qw_and1 (qt_cmp (o_ne hr) (qe_dunL (g_Book___len___d650.at hr (by decide)) (qv 1) rfl b.f_len) qe_int (nomark _)))))) (qss_one (qs_ret qe_bl)) qss_nil))
    (qssx_cons (qsx_of (qs_if (PW.pt (qw_or (qt_cmp (o_ne hr) (qe_callI (g_limited_235d.at hr (by decide)) rfl (qa_cons (qv 1) (qa_cons (qe_ix (qv 2) qe_int) qa_nil))) qe_str (nomark _)) (qw_and1 (qt_cmp (o_ne hr) (qe_ix (qe_methI0 (g_Book_actions_a3eb.at hr (by decide)) ciBook.c (qv 1)) (qe_un o_neg qe_int)) (qe_ix (qv 2) qe_int) (nomark _))))) (qss_one (qs_ret qe_bl)) qss_nil))
    (qssx_one (qsx_ret (qex_callQ (g_full_right_e03f.at hr (by decide)) (L2N.takes_of rfl rfl rfl rfl) rfl (qa_cons (qv 1) (qa_cons (qe_ix (qv 2) qe_int) qa_nil)))))))))))), p_sixty_right_718b CBook (errH K mg)⟩
theorem sc_one_be76 : FnScope ["_law_drawn", "_law_items_here"] ["_law_drawn", "_law_items_here"] (defScope st_one_be76) := ⟨rfl, rfl, rfl, by decide +kernel, rfl, by decide +kernel, by decide +kernel⟩
theorem ok_one_be76 {f fd} {r c q : Addr} (b : Bi w K mg) (g_next : ∀ r c q, Glo P w K mg base "_law_next" 2 (spG (gr K r c q) (nextS r)) 1) (F : Fn K "_law_one" "_law_one" st_one_be76 f fd) : FnOk P w K mg base CX0 2 f fd ["_law_drawn", "_law_items_here"] (spG (gr K r c q) (sp_one_be76 r)) :=
  okG (P := P) (w := w) (mg := mg) (base := base) (G := gr K r c q) (k := 1) rfl F sc_one_be76 (len_one_be76 r) ⟨t_one_be76 r, fun cdv A outer s H E hr => by
    have nd := sc_one_be76.nd
    exact (qss_one (qs_ret (qe_ix (qv 1) (qe_callG ((g_next _ _ _).at hr (by decide)) rfl (qa_cons (qv 0) (qa_cons (qe_callB c_len rfl b.f_len bt_len (qa_cons (qv 1) qa_nil)) qa_nil)))))), p_one_be76 r⟩ (fun _ _ _ h => h)
theorem sc_action_0538 : FnScope ["_law_drawn", "_law_panel_here", "_law_names", "_law_name", "_law_count", "_law_k"] ["_law_drawn", "_law_panel_here"] (defScope st_action_0538) := ⟨rfl, rfl, rfl, by decide +kernel, rfl, by decide +kernel, by decide +kernel⟩
theorem ok_action_0538 {f fd} {r c q : Addr} (b : Bi w K mg) (g_next : ∀ r c q, Glo P w K mg base "_law_next" 2 (spG (gr K r c q) (nextS r)) 1) (g_one_be76 : ∀ r c q, Glo P w K mg base "_law_one" 2 (spG (gr K r c q) (sp_one_be76 r)) 2) (F : Fn K "_law_action" "_law_action" st_action_0538 f fd) : FnOk P w K mg base CX0 3 f fd ["_law_drawn", "_law_panel_here"] (spG (gr K r c q) (sp_action_0538 r)) :=
  okG (P := P) (w := w) (mg := mg) (base := base) (G := gr K r c q) (k := 2) rfl F sc_action_0538 (len_action_0538 r) ⟨t_action_0538 r, fun cdv A outer s H E hr => by
    have nd := sc_action_0538.nd
    exact (qss_cons (qs_set (i := 2) nd rfl (by first | exact Or.inl rfl | exact Or.inr rfl) (qe_set (qf_lst (qa_cons qe_str (qa_cons qe_str (qa_cons qe_str (qa_cons qe_str (qa_cons qe_str (qa_cons qe_str (qa_cons qe_str (qa_cons qe_str qa_nil)))))))))))
    (qss_cons (qs_par rfl nd rfl rfl (by decide) rfl rfl (qa_cons (qe_callG ((g_one_be76 _ _ _).at hr (by decide)) rfl (qa_cons (qv 0) (qa_cons (qv 2) qa_nil))) (qa_cons (qe_callB c_len rfl b.f_len bt_len (qa_cons (qe_ix (qv 1) qe_int) qa_nil)) qa_nil)) rfl)
    (qss_cons (qs_set (i := 5) nd rfl (by first | exact Or.inl rfl | exact Or.inr rfl) (qe_callG ((g_next _ _ _).at hr (by decide)) rfl (qa_cons (qv 0) (qa_cons (qv 4) qa_nil))))
    (qss_cons (qs_if (qt_cmp (o_eq hr) (qv 3) qe_str (nomark _)) (qss_one (qs_ret (qe_tup (qa_cons (qv 3) (qa_cons (qv 5) (qa_cons (qe_bin o_sub (qe_callG ((g_next _ _ _).at hr (by decide)) rfl (qa_cons (qv 0) (qa_cons qe_int qa_nil))) qe_int) qa_nil)))))) qss_nil)
    (qss_cons (qs_if (qt_cmp (o_eq hr) (qv 3) qe_str (nomark _)) (qss_one (qs_ret (qe_tup (qa_cons (qv 3) (qa_cons (qv 5) (qa_cons (qe_bin o_add qe_int (qe_callG ((g_next _ _ _).at hr (by decide)) rfl (qa_cons (qv 0) (qa_cons qe_int qa_nil)))) qa_nil)))))) qss_nil)
    (qss_cons (qs_if (qt_cmp (o_eq hr) (qv 3) qe_str (nomark _)) (qss_one (qs_ret (qe_tup (qa_cons (qv 3) (qa_cons (qe_bin o_sub (qe_callG ((g_next _ _ _).at hr (by decide)) rfl (qa_cons (qv 0) (qa_cons qe_int qa_nil))) qe_int) (qa_cons (qe_bin o_add qe_int (qe_callG ((g_next _ _ _).at hr (by decide)) rfl (qa_cons (qv 0) (qa_cons qe_int qa_nil)))) qa_nil)))))) qss_nil)
    (qss_cons (qs_if (qt_cmp (o_eq hr) (qv 3) qe_str (nomark _)) (qss_one (qs_ret (qe_tup (qa_cons (qv 3) (qa_cons (qv 5) qa_nil))))) qss_nil)
    (qss_cons (qs_if (qt_cmp (o_eq hr) (qv 3) qe_str (nomark _)) (qss_one (qs_ret (qe_tup (qa_cons (qv 3) (qa_cons (qe_callG ((g_next _ _ _).at hr (by decide)) rfl (qa_cons (qv 0) (qa_cons (qe_callB (c_max2 rfl) rfl b.f_max bt_max (qa_cons qe_int (qa_cons (qe_callB c_len rfl b.f_len bt_len (qa_cons (qe_ix (qv 1) qe_int) qa_nil)) qa_nil))) qa_nil))) qa_nil))))) qss_nil)
    (qss_one (qs_ret (qe_tup (qa_cons (qv 3) (qa_cons (qv 5) (qa_cons (qe_bin o_mod (qe_bin o_add (qe_bin o_add (qv 5) qe_int) (qe_callG ((g_next _ _ _).at hr (by decide)) rfl (qa_cons (qv 0) (qa_cons (qe_callB (c_max2 rfl) rfl b.f_max bt_max (qa_cons qe_int (qa_cons (qe_bin o_sub (qv 4) qe_int) qa_nil))) qa_nil)))) (qe_callB (c_max2 rfl) rfl b.f_max bt_max (qa_cons qe_int (qa_cons (qv 4) qa_nil)))) qa_nil)))))))))))))), p_action_0538 r⟩ (fun _ _ _ h => h)
theorem sc_integer_3c56 : FnScope ["_law_value", "_law_low", "_law_high"] ["_law_value", "_law_low", "_law_high"] (defScope st_integer_3c56) := ⟨rfl, rfl, rfl, by decide +kernel, rfl, by decide +kernel, by decide +kernel⟩
theorem ok_integer_3c56 {f fd} (b : Bi w K mg) (F : Fn K "_law_integer" "_law_integer" st_integer_3c56 f fd) : FnOk P w K mg base CX0 1 f fd ["_law_value", "_law_low", "_law_high"] (spP K sp_integer_3c56) :=
  okP F sc_integer_3c56 len_integer_3c56 ⟨t_integer_3c56, fun cdv A outer s H E hr => by
    have nd := sc_integer_3c56.nd
    exact (qss_one (qs_ret (qe_and (qe_isi (by decide) (qv 0) rfl b.f_isinstance rfl b.f_int bt_int) (qe_and (qe_not (qe_isi (by decide) (qv 0) rfl b.f_isinstance rfl b.f_bool bt_bool)) (qe_one (qe_chain o_le o_le (qv 1) (qv 0) (qv 2))))))), p_integer_3c56⟩
theorem sc_index_4ee9 : FnScope ["_law_value", "_law_count"] ["_law_value", "_law_count"] (defScope st_index_4ee9) := ⟨rfl, rfl, rfl, by decide +kernel, rfl, by decide +kernel, by decide +kernel⟩
theorem ok_index_4ee9 {f fd} (b : Bi w K mg) (g_integer_3c56 : Glo P w K mg base "_law_integer" 3 (spP K (sp_integer_3c56)) 1) (F : Fn K "_law_index" "_law_index" st_index_4ee9 f fd) : FnOk P w K mg base CX0 2 f fd ["_law_value", "_law_count"] (spP K sp_index_4ee9) :=
  okP F sc_index_4ee9 len_index_4ee9 ⟨t_index_4ee9, fun cdv A outer s H E hr => by
    have nd := sc_index_4ee9.nd
    exact (qss_one (qs_ret (qe_call (g_integer_3c56.at hr (by decide)) rfl (qa_cons (qv 0) (qa_cons qe_int (qa_cons (qe_bin o_sub (qv 1) qe_int) qa_nil)))))), p_index_4ee9⟩
theorem sc_rule_error_9639 : FnScope ["_law_panel_here", "_law_action_here", "_law_k"] ["_law_panel_here", "_law_action_here"] (defScope st_rule_error_9639) := ⟨rfl, rfl, rfl, by decide +kernel, rfl, by decide +kernel, by decide +kernel⟩
theorem ok_rule_error_9639 {f fd} (b : Bi w K mg) (g_index_4ee9 : Glo P w K mg base "_law_index" 2 (spP K (sp_index_4ee9)) 2) (F : Fn K "_law_rule_error" "_law_rule_error" st_rule_error_9639 f fd) : FnOk P w K mg base CX0 3 f fd ["_law_panel_here", "_law_action_here"] (spP K sp_rule_error_9639) :=
  okP F sc_rule_error_9639 len_rule_error_9639 ⟨t_rule_error_9639, fun cdv A outer s H E hr => by
    have nd := sc_rule_error_9639.nd
    exact (qss_cons (qs_if (qt_cmp (o_eq hr) (qe_ix (qv 1) qe_int) qe_str (nomark _)) (qss_one (qs_ret (qe_if (qt_val (qe_call (g_index_4ee9.at hr (by decide)) rfl (qa_cons (qe_ix (qv 1) qe_int) (qa_cons (qe_callB c_len rfl b.f_len bt_len (qa_cons (qe_ix (qv 0) qe_int) qa_nil)) qa_nil)))) qe_non (qe_tup (qa_cons qe_str (qa_cons (qe_ix (qv 1) qe_int) qa_nil)))))) qss_nil)
    (qss_cons (qs_for PassesOwn.never rfl (qi_seq (qe_set (qf_lst (qa_cons qe_int (qa_cons qe_int qa_nil))))) (qg_name nd rfl (by first | exact Or.inl rfl | exact Or.inr rfl)) (qss_one (qs_if (PW.pt (qw_or (qt_not (qt_val (qe_call (g_index_4ee9.at hr (by decide)) rfl (qa_cons (qe_ix (qv 1) (qv 2)) (qa_cons (qe_callB c_len rfl b.f_len bt_len (qa_cons (qe_ix (qv 0) qe_int) qa_nil)) qa_nil))))) (qw_and1 (PW.pt (qw_and (qt_cmp (o_eq hr) (qv 2) qe_int (nomark _)) (qw_and1 (qt_cmp (o_eq hr) (qe_ix (qv 1) qe_int) (qe_ix (qv 1) qe_int) (nomark _)))))))) (qss_one (qs_ret (qe_tup (qa_cons qe_str (qa_cons (qe_ix (qv 1) (qv 2)) qa_nil))))) qss_nil)))
    (qss_one (qs_ret (qe_if (qt_cmp (o_eq hr) (qe_callB c_len rfl b.f_len bt_len (qa_cons (qe_ix (qv 0) qe_int) qa_nil)) qe_int (nomark _)) (qe_tup (qa_cons qe_str qa_nil)) qe_non))))), p_rule_error_9639⟩
theorem sc_item_error_fff0 : FnScope ["_law_panel_here", "_law_action_here", "_law_name", "_law_value", "_law_mark"] ["_law_panel_here", "_law_action_here"] (defScope st_item_error_fff0) := ⟨rfl, rfl, rfl, by decide +kernel, rfl, by decide +kernel, by decide +kernel⟩
theorem ok_item_error_fff0 {f fd} (b : Bi w K mg) (g_index_4ee9 : Glo P w K mg base "_law_index" 2 (spP K (sp_index_4ee9)) 2) (g_integer_3c56 : Glo P w K mg base "_law_integer" 3 (spP K (sp_integer_3c56)) 1) (F : Fn K "_law_item_error" "_law_item_error" st_item_error_fff0 f fd) : FnOk P w K mg base CX0 3 f fd ["_law_panel_here", "_law_action_here"] (spP K sp_item_error_fff0) :=
  okP F sc_item_error_fff0 len_item_error_fff0 ⟨t_item_error_fff0, fun cdv A outer s H E hr => by
    have nd := sc_item_error_fff0.nd
    exact (qss_cons (qs_setT (qe_slice (qv 1) qo_none (qo_some qe_int)) (qg_tup rfl (qgs_cons (qg_name nd rfl (by first | exact Or.inl rfl | exact Or.inr rfl)) (qgs_cons (qg_name nd rfl (by first | exact Or.inl rfl | exact Or.inr rfl)) qgs_nil))))
    (qss_cons (qs_if (PW.pt (qw_and (qt_cmp (o_ne hr) (qv 2) qe_str (nomark _)) (qw_and1 (qt_not (qt_val (qe_call (g_index_4ee9.at hr (by decide)) rfl (qa_cons (qv 3) (qa_cons (qe_callB c_len rfl b.f_len bt_len (qa_cons (qe_ix (qv 0) qe_int) qa_nil)) qa_nil)))))))) (qss_one (qs_ret (qe_tup (qa_cons qe_str (qa_cons (qv 3) qa_nil))))) qss_nil)
    (qss_cons (qs_if (qt_cmp (o_eq hr) (qv 2) qe_str (nomark _)) (qss_one (qs_ret (qe_if (qt_cmp (o_eq hr) (qe_callB c_len rfl b.f_len bt_len (qa_cons (qe_ix (qv 0) qe_int) qa_nil)) qe_int (nomark _)) (qe_tup (qa_cons qe_str qa_nil)) qe_non))) qss_nil)
    (qss_cons (qs_set (i := 4) nd rfl (by first | exact Or.inl rfl | exact Or.inr rfl) (qe_ix (qe_set (qf_lst (qa_cons (qv 3) (qa_cons (qe_ix (qv 1) qe_int) qa_nil)))) (qe_callTy c_int rfl b.f_int bt_int (qa_cons (qe_cmp (o_eq hr) (qv 2) qe_str (nomark _)) qa_nil))))
    (qss_cons (qs_if (PW.pt (qw_and (qt_cmp (o_ne hr) (qv 2) qe_str (nomark _)) (qw_and1 (qt_not (qt_val (qe_call (g_integer_3c56.at hr (by decide)) rfl (qa_cons (qv 4) (qa_cons (qe_un o_neg (qe_bin o_pow qe_int qe_int)) (qa_cons (qe_bin o_pow qe_int qe_int) qa_nil))))))))) (qss_one (qs_ret (qe_tup (qa_cons qe_str (qa_cons (qv 4) qa_nil))))) qss_nil)
    (qss_cons (qs_if (PW.pt (qw_and (qt_cmp (o_ne hr) (qv 2) qe_str (nomark _)) (qw_and1 (qt_not (qt_val (qe_call (g_integer_3c56.at hr (by decide)) rfl (qa_cons (qe_ix (qv 1) qe_int) (qa_cons qe_int (qa_cons (qe_bin o_pow qe_int qe_int) qa_nil))))))))) (qss_one (qs_ret (qe_tup (qa_cons qe_str (qa_cons (qe_ix (qv 1) qe_int) qa_nil))))) qss_nil)
    (qss_one (qs_ret (qe_if (PW.pt (qw_and (qt_cmp (o_eq hr) (qv 2) qe_str (nomark _)) (qw_and1 (qt_cmp (o_eq hr) (qe_callB c_len rfl b.f_len bt_len (qa_cons (qe_ix (qv 0) qe_int) qa_nil)) qe_int (nomark _))))) (qe_tup (qa_cons qe_str qa_nil)) qe_non))))))))), p_item_error_fff0⟩
theorem sc_without_de10 : FnScope ["_law_panel_here", "_law_item", "_law_rules_here", "_law_rule", "_law_low", "_law_high"] ["_law_panel_here", "_law_item"] (defScope st_without_de10) := ⟨rfl, rfl, rfl, by decide +kernel, rfl, by decide +kernel, by decide +kernel⟩
theorem ok_without_de10 {f fd} (b : Bi w K mg) (F : Fn K "_law_without" "_law_without" st_without_de10 f fd) : FnOk P w K mg base CX0 1 f fd ["_law_panel_here", "_law_item"] (spP K sp_without_de10) :=
  okP F sc_without_de10 len_without_de10 ⟨t_without_de10, fun cdv A outer s H E hr => by
    have nd := sc_without_de10.nd
    exact (qss_cons (qs_lc rfl nd rfl rfl rfl (qi_seq (qe_ix (qv 0) qe_int)) (own := [("_law_rule", 3)]) (blkOk_by (by kernel_rfl)) (by decide) (fun _ _ _ _ _ => (qg_name nd rfl (by first | exact Or.inl rfl | exact Or.inr rfl))) (fun _ _ _ _ _ => (qts_one (qt_cmp (o_notIn hr) (qv 1) (qv 3) (by rfl)))) (fun _ _ _ _ _ => (qv 3)))
    (qss_cons (qs_lc rfl nd rfl rfl rfl (qi_seq (qv 2)) (own := [("_law_low", 4), ("_law_high", 5)]) (blkOk_by (by kernel_rfl)) (by decide) (fun _ _ _ _ _ => (qg_tup rfl (qgs_cons (qg_name nd rfl (by first | exact Or.inl rfl | exact Or.inr rfl)) (qgs_cons (qg_name nd rfl (by first | exact Or.inl rfl | exact Or.inr rfl)) qgs_nil)))) (fun _ _ _ _ _ => qts_nil) (fun _ _ _ _ _ => (qe_tup (qa_cons (qe_bin o_sub (qv 4) (qe_callTy c_int rfl b.f_int bt_int (qa_cons (qe_cmp o_gt (qv 4) (qv 1) (nomark _)) qa_nil))) (qa_cons (qe_bin o_sub (qv 5) (qe_callTy c_int rfl b.f_int bt_int (qa_cons (qe_cmp o_gt (qv 5) (qv 1) (nomark _)) qa_nil))) qa_nil)))))
    (qss_one (qs_ret (qe_tup (qa_cons (qe_bin o_add (qe_slice (qe_ix (qv 0) qe_int) qo_none (qo_some (qv 1))) (qe_slice (qe_ix (qv 0) qe_int) (qo_some (qe_bin o_add (qv 1) qe_int)) qo_none)) (qa_cons (qe_callTy c_tuple rfl b.f_tuple bt_tuple (qa_cons (qv 2) qa_nil)) qa_nil))))))), p_without_de10⟩
theorem sc_after_0530 : FnScope ["_law_panel_here", "_law_action_here", "_law_name", "_law_items_here", "_law_rules_here", "_law_error", "_law_k", "_law_new"] ["_law_panel_here", "_law_action_here"] (defScope st_after_0530) := ⟨rfl, rfl, rfl, by decide +kernel, rfl, by decide +kernel, by decide +kernel⟩
theorem ok_after_0530 {f fd} (b : Bi w K mg) (g_rule_error_9639 : Glo P w K mg base "_law_rule_error" 2 (spP K (sp_rule_error_9639)) 3) (g_item_error_fff0 : Glo P w K mg base "_law_item_error" 2 (spP K (sp_item_error_fff0)) 3) (g_without_de10 : Glo P w K mg base "_law_without" 2 (spP K (sp_without_de10)) 1) (F : Fn K "_law_after" "_law_after" st_after_0530 f fd) : FnOk P w K mg base CX0 4 f fd ["_law_panel_here", "_law_action_here"] (spP K sp_after_0530) :=
  okP F sc_after_0530 len_after_0530 ⟨t_after_0530, fun cdv A outer s H E hr => by
    have nd := sc_after_0530.nd
    exact (qss_cons (qs_parM3 rfl nd rfl rfl rfl (by decide) (by decide) (by decide) rfl rfl rfl (qm_val (qe_ix (qv 1) qe_int) (qm_val (qe_ix (qv 0) qe_int) (qm_val (qe_ix (qv 0) qe_int) qm_nil))) rfl)
    (qss_cons (qs_if (qt_cmp (o_in hr) (qv 2) (qe_tup (qa_cons qe_str (qa_cons qe_str qa_nil))) (by rfl)) (qss_one (qs_set (i := 5) nd rfl (by first | exact Or.inl rfl | exact Or.inr rfl) (qe_call (g_rule_error_9639.at hr (by decide)) rfl (qa_cons (qv 0) (qa_cons (qv 1) qa_nil))))) (qss_one (qs_set (i := 5) nd rfl (by first | exact Or.inl rfl | exact Or.inr rfl) (qe_call (g_item_error_fff0.at hr (by decide)) rfl (qa_cons (qv 0) (qa_cons (qv 1) qa_nil))))))
    (qss_cons (qs_if (qt_cmp o_notN (qv 5) qe_non (nomark _)) (qss_one (qs_ret (qe_set (qf_lst (qa_cons (qv 5) (qa_cons (qv 0) qa_nil)))))) qss_nil)
    (qss_cons (qs_set (i := 6) nd rfl (by first | exact Or.inl rfl | exact Or.inr rfl) (qe_ix (qv 1) qe_int))
    (qss_cons (qs_if (qt_cmp (o_eq hr) (qv 2) qe_str (nomark _)) (qss_one (qs_ret (qe_set (qf_lst (qa_cons qe_non (qa_cons (qe_tup (qa_cons (qv 3) (qa_cons (qe_bin o_add (qv 4) (qe_tup (qa_cons (qe_slice (qv 1) (qo_some qe_int) qo_none) qa_nil))) qa_nil))) qa_nil)))))) qss_nil)
    (qss_cons (qs_if (qt_cmp (o_eq hr) (qv 2) qe_str (nomark _)) (qss_one (qs_ret (qe_set (qf_lst (qa_cons qe_non (qa_cons (qe_tup (qa_cons (qv 3) (qa_cons (qe_bin o_add (qe_slice (qv 4) qo_none (qo_some (qv 6))) (qe_slice (qv 4) (qo_some (qe_bin o_add (qv 6) qe_int)) qo_none)) qa_nil))) qa_nil)))))) qss_nil)
    (qss_cons (qs_if (qt_cmp (o_eq hr) (qv 2) qe_str (nomark _)) (qss_one (qs_ret (qe_set (qf_lst (qa_cons qe_non (qa_cons (qe_call (g_without_de10.at hr (by decide)) rfl (qa_cons (qv 0) (qa_cons (qv 6) qa_nil))) qa_nil)))))) qss_nil)
    (qss_cons (qs_if (qt_cmp (o_eq hr) (qv 2) qe_str (nomark _)) (qss_one (qs_ret (qe_set (qf_lst (qa_cons qe_non (qa_cons (qe_tup (qa_cons (qe_bin o_add (qv 3) (qe_tup (qa_cons (qe_slice (qv 1) (qo_some qe_int) qo_none) qa_nil))) (qa_cons (qv 4) qa_nil))) qa_nil)))))) qss_nil)
    (qss_cons (qs_set (i := 7) nd rfl (by first | exact Or.inl rfl | exact Or.inr rfl) (qe_if (qt_cmp (o_eq hr) (qv 2) qe_str (nomark _)) (qe_tup (qa_cons (qe_ix (qv 1) qe_int) (qa_cons (qe_ix (qe_ix (qv 3) (qv 6)) qe_int) qa_nil))) (qe_tup (qa_cons (qe_ix (qe_ix (qv 3) (qv 6)) qe_int) (qa_cons (qe_ix (qv 1) qe_int) qa_nil)))))
    (qss_one (qs_ret (qe_set (qf_lst (qa_cons qe_non (qa_cons (qe_tup (qa_cons (qe_bin o_add (qe_bin o_add (qe_slice (qv 3) qo_none (qo_some (qv 6))) (qe_tup (qa_cons (qv 7) qa_nil))) (qe_slice (qv 3) (qo_some (qe_bin o_add (qv 6) qe_int)) qo_none)) (qa_cons (qv 4) qa_nil))) qa_nil))))))))))))))), p_after_0530⟩
theorem sc_Book_panel_40b0 : FnScope ["self"] ["self"] (defScope st_Book_panel_40b0) := ⟨rfl, rfl, rfl, by decide +kernel, rfl, by decide +kernel, by decide +kernel⟩
theorem ok_Book_panel_40b0 {f fd} {CBook : Addr} (ciBook : CiBook K CBook) (b : Bi w K mg) (F : Fn K "panel" "Book.panel" st_Book_panel_40b0 f fd) : FnOk P w K mg base (L2N.CX P w) 1 f fd ["self"] (spBX K mg (sp_Book_panel_40b0 CBook)) :=
  okBX F sc_Book_panel_40b0 (len_Book_panel_40b0 CBook) ⟨t_Book_panel_40b0 CBook, fun cdv A outer s H E hr => by
    have nd := sc_Book_panel_40b0.nd
    exact (qssx_of (qss_one (qs_ret (qe_ix (qe_fI ciBook.c ciBook.panels (qv 0)) (qe_un o_neg qe_int))))), p_Book_panel_40b0 CBook⟩
theorem sc_Book___str___29d1 : FnScope ["self", "items", "rules"] ["self"] (defScope st_Book___str___29d1) := ⟨rfl, rfl, rfl, by decide +kernel, rfl, by decide +kernel, by decide +kernel⟩
theorem ok_Book___str___29d1 {f fd} {CBook : Addr} (ciBook : CiBook K CBook) (b : Bi w K mg) (g_Book_panel_40b0 : GloMX P w K mg base CBook "panel" 1 (spBX K mg (sp_Book_panel_40b0 CBook)) 1) (F : Fn K "__str__" "Book.__str__" st_Book___str___29d1 f fd) : FnOk P w K mg base (L2N.CX P w) 2 f fd ["self"] (spBX K mg (sp_Book___str___29d1 CBook)) :=
  okBX F sc_Book___str___29d1 (len_Book___str___29d1 CBook) ⟨t_Book___str___29d1 CBook, fun cdv A outer s H E hr => by
    have nd := sc_Book___str___29d1.nd
    exact (qssx_of (qss_cons (qs_setT (qe_methI0 (g_Book_panel_40b0.at hr (by decide)) ciBook.c (qv 0)) (qg_tup rfl (qgs_cons (qg_name nd rfl (by first | exact Or.inl rfl | exact Or.inr rfl)) (qgs_cons (qg_name nd rfl (by first | exact Or.inl rfl | exact Or.inr rfl)) qgs_nil))))
    (qss_one (qs_ret (qe_fs (QJ.cons (qe_fmt (qe_callB c_len rfl b.f_len bt_len (qa_cons (qv 1) qa_nil))) (QJ.cons qe_str (QJ.cons (qe_fmt (qe_callB c_len rfl b.f_len bt_len (qa_cons (qv 2) qa_nil))) (QJ.cons qe_str (QJ.cons (qe_fmt (qe_callB c_len rfl b.f_len bt_len (qa_cons (qe_fI ciBook.c ciBook.kept (qv 0)) qa_nil))) (QJ.cons qe_str QJ.nil))))))))))), p_Book___str___29d1 CBook⟩
theorem sc_seen_4665 : FnScope ["_law_book"] ["_law_book"] (defScope st_seen_4665) := ⟨rfl, rfl, rfl, by decide +kernel, rfl, by decide +kernel, by decide +kernel⟩
theorem ok_seen_4665 {f fd} {CBook : Addr} (ciBook : CiBook K CBook) (b : Bi w K mg) (g_Book_panel_40b0 : GloMX P w K mg base CBook "panel" 1 (spBX K mg (sp_Book_panel_40b0 CBook)) 1) (g_Book_actions_a3eb : GloMX P w K mg base CBook "actions" 1 (spBX K mg (sp_Book_actions_a3eb CBook)) 1) (g_Book___len___d650 : GloD P w K mg base CBook "__len__" (spBX K mg (sp_Book___len___d650 CBook)) 1) (g_Book___str___29d1 : GloD P w K mg base CBook "__str__" (spBX K mg (sp_Book___str___29d1 CBook)) 2) (F : Fn K "_law_seen" "_law_seen" st_seen_4665 f fd) : FnOk P w K mg base (L2N.CX P w) 5 f fd ["_law_book"] (spBX K mg (sp_seen_4665 CBook)) :=
  okBX F sc_seen_4665 (len_seen_4665 CBook) ⟨t_seen_4665 CBook, fun cdv A outer s H E hr => by
    have nd := sc_seen_4665.nd
    exact (qssx_of (qss_one (qs_ret (qe_tup (qa_cons (qe_methI0 (g_Book_panel_40b0.at hr (by decide)) ciBook.c (qv 0)) (qa_cons (qe_methI0 (g_Book_actions_a3eb.at hr (by decide)) ciBook.c (qv 0)) (qa_cons (qe_dunL (g_Book___len___d650.at hr (by decide)) (qv 0) rfl b.f_len) (qa_cons (qe_dunS (g_Book___str___29d1.at hr (by decide)) (qv 0) rfl b.f_str) qa_nil)))))))), p_seen_4665 CBook⟩
theorem sc_due_seen_6cad : FnScope ["_law_panel_here", "_law_actions", "_law_text"] ["_law_panel_here", "_law_actions"] (defScope st_due_seen_6cad) := ⟨rfl, rfl, rfl, by decide +kernel, rfl, by decide +kernel, by decide +kernel⟩
theorem ok_due_seen_6cad {f fd} (b : Bi w K mg) (F : Fn K "_law_due_seen" "_law_due_seen" st_due_seen_6cad f fd) : FnOk P w K mg base CX0 1 f fd ["_law_panel_here", "_law_actions"] (spP K sp_due_seen_6cad) :=
  okP F sc_due_seen_6cad len_due_seen_6cad ⟨t_due_seen_6cad, fun cdv A outer s H E hr => by
    have nd := sc_due_seen_6cad.nd
    exact (qss_cons (qs_set (i := 2) nd rfl (by first | exact Or.inl rfl | exact Or.inr rfl) (qe_fs (QJ.cons (qe_fmt (qe_callB c_len rfl b.f_len bt_len (qa_cons (qe_ix (qv 0) qe_int) qa_nil))) (QJ.cons qe_str (QJ.cons (qe_fmt (qe_callB c_len rfl b.f_len bt_len (qa_cons (qe_ix (qv 0) qe_int) qa_nil))) (QJ.cons qe_str (QJ.cons (qe_fmt (qe_callB c_len rfl b.f_len bt_len (qa_cons (qv 1) qa_nil))) (QJ.cons qe_str QJ.nil))))))))
    (qss_one (qs_ret (qe_tup (qa_cons (qv 0) (qa_cons (qv 1) (qa_cons (qe_callB c_len rfl b.f_len bt_len (qa_cons (qv 1) qa_nil)) (qa_cons (qv 2) qa_nil)))))))), p_due_seen_6cad⟩
theorem sc_law_9d52 : FnScope ["_law_script", "_law_drawn", "_law_panel_here", "_law_book", "_law_panels", "_law_actions", "_law_turn", "_law_action_here", "_law_error", "_law_after_here"] ["_law_script"] (defScope st_law_9d52) := ⟨rfl, rfl, rfl, by decide +kernel, rfl, by decide +kernel, by decide +kernel⟩
theorem ok_law_9d52 {f fd} {CBook : Addr} (ciBook : CiBook K CBook) (b : Bi w K mg) (g_draws : Glo P w K mg base "_law_draws" 1 (spDraws K) 1) (g_panel_3836 : ∀ r c q, Glo P w K mg base "_law_panel" 2 (spG (gr K r c q) (sp_panel_3836 r)) 4) (g_states_right_c0ad : GloX P w K mg base "_law_states_right" 2 (spBX K mg (sp_states_right_c0ad CBook (errH K mg))) 26) (g_sixty_right_718b : GloX P w K mg base "_law_sixty_right" 1 (spQ (gBk (gT (none0 K) (tabsT K tfl))) mg (sp_sixty_right_718b CBook (errH K mg))) 18) (g_next : ∀ r c q, Glo P w K mg base "_law_next" 2 (spG (gr K r c q) (nextS r)) 1) (g_action_0538 : ∀ r c q, Glo P w K mg base "_law_action" 2 (spG (gr K r c q) (sp_action_0538 r)) 3) (g_after_0530 : Glo P w K mg base "_law_after" 2 (spP K (sp_after_0530)) 4) (g_equal_17a7 : Glo P w K mg base "_law_equal" 2 (spP K (sp_equal_17a7 24)) 25) (g_undone_a4b1 : GloX P w K mg base "_law_undone" 1 (spBX K mg (sp_undone_a4b1 CBook (errH K mg))) 3) (g_do_b165 : GloX P w K mg base "_law_do" 2 (spBX K mg (sp_do_b165 CBook)) 10) (g_seen_4665 : GloX P w K mg base "_law_seen" 1 (spBX K mg (sp_seen_4665 CBook)) 5) (g_due_seen_6cad : Glo P w K mg base "_law_due_seen" 2 (spP K (sp_due_seen_6cad)) 1) (g_Book___init___c536 : GloCX P w K mg base CBook "Book" 2 (spBX K mg (sp_Book___init___c536 CBook)) 6) (F : Fn K "law" "law" st_law_9d52 f fd) : FnG P w K mg base 27 f fd ["_law_script"] (spLawT K (tabsT K tfl)) :=
  ok_lawTB F sc_law_9d52 (i := 1) (by decide) (by rfl) ⟨t_law_9d52 CBook (errH K mg), fun cdv A outer s H E hr gd => by
    have nd := sc_law_9d52.nd
    exact ⟨ps_set nd rfl (by first | exact Or.inl rfl | exact Or.inr rfl) (pe_callD (g_draws.at hr (by decide)) rfl (pa_cons (pv 0) pa_nil)), fun r c q => (qss_cons (qs_set (i := 2) nd rfl (by first | exact Or.inl rfl | exact Or.inr rfl) (qe_callNT ((g_panel_3836 _ _ _).at hr (by decide)) rfl (qa_cons (qv 1) (qa_cons qe_int qa_nil))))
    (qss_cons (qs_parM3 rfl nd rfl rfl rfl (by decide) (by decide) (by decide) rfl rfl rfl (qm_val (qe_makeI (g_Book___init___c536.at hr (by decide)) rfl (qa_cons (qv 2) qa_nil)) (qm_val (qe_set (qf_lst (qa_cons (qv 2) qa_nil))) (qm_val (qe_tup qa_nil) qm_nil))) rfl)
    (qss_cons (qs_for PassesOwn.never rfl (qi_range1 rfl b.f_range (qa_cons qe_int qa_nil)) (qg_name nd rfl (by first | exact Or.inl rfl | exact Or.inr rfl)) (qss_cons (qs_if (qt_cmp (o_eq hr) (qe_callNT ((g_next _ _ _).at hr (by decide)) rfl (qa_cons (qv 1) (qa_cons qe_int qa_nil))) qe_int (nomark _)) (qss_cons (qs_if (qt_cmp (o_ne hr) (qe_callI (g_undone_a4b1.at hr (by decide)) rfl (qa_cons (qv 3) qa_nil)) (qe_ix (qe_set (qf_lst (qa_cons qe_str (qa_cons qe_str qa_nil)))) (qe_callTy c_int rfl b.f_int bt_int (qa_cons (qe_cmp (o_eq hr) (qv 5) (qe_tup qa_nil) (nomark _)) qa_nil))) (nomark _)) (qss_one (qs_ret qe_bl)) qss_nil)
    (qss_one (qs_par rfl nd rfl rfl (by decide) rfl rfl (qa_cons (qe_slice (qv 4) qo_none (qo_some (qe_callB (c_max2 rfl) rfl b.f_max bt_max (qa_cons qe_int (qa_cons (qe_callB c_len rfl b.f_len bt_len (qa_cons (qv 5) qa_nil)) qa_nil))))) (qa_cons (qe_slice (qv 5) qo_none (qo_some (qe_un o_neg qe_int))) qa_nil)) rfl))) (qss_cons (qs_set (i := 7) nd rfl (by first | exact Or.inl rfl | exact Or.inr rfl) (qe_callNT ((g_action_0538 _ _ _).at hr (by decide)) rfl (qa_cons (qv 1) (qa_cons (qe_ix (qv 4) (qe_un o_neg qe_int)) qa_nil))))
    (qss_cons (qs_setT (qe_call (g_after_0530.at hr (by decide)) rfl (qa_cons (qe_ix (qv 4) (qe_un o_neg qe_int)) (qa_cons (qv 7) qa_nil))) (qg_tup rfl (qgs_cons (qg_name nd rfl (by first | exact Or.inl rfl | exact Or.inr rfl)) (qgs_cons (qg_name nd rfl (by first | exact Or.inl rfl | exact Or.inr rfl)) qgs_nil))))
    (qss_one (qs_if (qt_cmp o_isN (qv 8) qe_non (nomark _)) (qss_cons (qs_expr (qe_callI (g_do_b165.at hr (by decide)) rfl (qa_cons (qv 3) (qa_cons (qv 7) qa_nil))))
    (qss_one (qs_par rfl nd rfl rfl (by decide) rfl rfl (qa_cons (qe_bin o_add (qv 4) (qe_set (qf_lst (qa_cons (qv 9) qa_nil)))) (qa_cons (qe_bin o_add (qv 5) (qe_tup (qa_cons (qv 7) qa_nil))) qa_nil)) rfl))) qss_nil)))))
    (qss_one (qs_if (qt_not (qt_val (qe_call (g_equal_17a7.at hr (by decide)) rfl (qa_cons (qe_callI (g_seen_4665.at hr (by decide)) rfl (qa_cons (qv 3) qa_nil)) (qa_cons (qe_call (g_due_seen_6cad.at hr (by decide)) rfl (qa_cons (qe_ix (qv 4) (qe_un o_neg qe_int)) (qa_cons (qv 5) qa_nil))) qa_nil))))) (qss_one (qs_ret qe_bl)) qss_nil))))
    (qss_one (qs_ret (qe_and (qe_callI (g_states_right_c0ad.at hr (by decide)) rfl (qa_cons (qv 3) (qa_cons (qv 4) qa_nil))) (qe_one (qe_x0 (qex_callT (g_sixty_right_718b.at hr (by decide)) takes0N rfl (qa_cons (qv 2) qa_nil))))))))))⟩, p_law_9d52 CBook (errH K mg)⟩
end
theorem ob_eq (s : PySem.W.SharedT) : ob s = hk.obs s.abs := obsXTG_eq (HandSHeadRun.getT_eq s)
theorem facts {P : Program} {w : World} {K : PySem.W.Frag} {h : Heap} {mg : Str → Option Value} {f : Addr} (X : K.In h) (G : h.Ns mainGlobals mg) (hfa : mg ("law" : Str) = some (.ref f)) (c0 : SaysXT fal fnl exl tbl tfl w h K) :
    ∃ fd : FuncData, (∀ (s : Shared) (v : Value), BindsTo s fd ⟨[v], []⟩ [("_law_script", v)]) ∧ ∀ base : Heap, K.In base → base.Ns mainGlobals mg → Tabs K mg base tfl → FnG P w K mg base 27 f fd ["_law_script"] (spLawT K (tabsT K tfl)) := by
  have c := c0.x.d
  have e_0 := c0.x.own
  have e_1 := (He.ba e_0).2
  have e_2 := (He.ba e_1).2
  have e_3 := (He.ba e_2).2
  have e_4 := (He.ba e_3).2
  have e_5 := (He.ba e_4).2
  have e_6 := (He.ba e_5).2
  have e_7 := (He.ba e_6).2
  have b : Bi w K mg := ⟨He.free_ok X G (c.fact 65 (f := .free "all") rfl), He.free_ok X G (c.fact 66 (f := .free "bool") rfl), He.free_ok X G (c.fact 67 (f := .free "enumerate") rfl), He.free_ok X G (c.fact 68 (f := .free "int") rfl), He.free_ok X G (c.fact 69 (f := .free "isinstance") rfl), He.free_ok X G (c.fact 70 (f := .free "len") rfl), He.free_ok X G (c.fact 71 (f := .free "list") rfl), He.free_ok X G (c.fact 72 (f := .free "max") rfl), He.free_ok X G (c.fact 73 (f := .free "min") rfl), He.free_ok X G (c.fact 74 (f := .free "range") rfl), He.free_ok X G (c.fact 75 (f := .free "str") rfl), He.free_ok X G (c.fact 76 (f := .free "tuple") rfl), He.free_ok X G (c.fact 77 (f := .free "zip") rfl), gl_int X G (c.fact 78 (f := .int "ACTIONS" 60) rfl), gl_int X G (c.fact 79 (f := .int "BATCH" 20) rfl), gl_int X G (c.fact 80 (f := .int "ITEMS" 8) rfl), gl_int X G (c.fact 81 (f := .int "LOG_ROWS" 10) rfl), gl_int X G (c.fact 82 (f := .int "MARK" 1000000000) rfl), gl_int X G (c.fact 83 (f := .int "RULES" 16) rfl), gl_int X G (c.fact 84 (f := .int "WEIGHT" 1000000) rfl), excs_ok X G (He.ba e_0).1, gdc_ok X G (He.ba e_7).1 (c0.x.tab 0 rfl)⟩
  obtain ⟨fd_draws, F_draws⟩ := c.def_ 0 (d := d_draws) rfl
  have m_draws := He.glo_ok X G (c.fact 0 (f := .glo "_law_draws") rfl)
  obtain ⟨fd_next, F_next⟩ := c.def_ 1 (d := d_next) rfl
  have m_next := He.glo_ok X G (c.fact 1 (f := .glo "_law_next") rfl)
  obtain ⟨fd_size_3de8, F_size_3de8⟩ := c.def_ 2 (d := d_size_3de8) rfl
  have m_size_3de8 := He.glo_ok X G (c.fact 2 (f := .glo "_law_size") rfl)
  obtain ⟨fd_items_cafd, F_items_cafd⟩ := c.def_ 3 (d := d_items_cafd) rfl
  have m_items_cafd := He.glo_ok X G (c.fact 3 (f := .glo "_law_items") rfl)
  obtain ⟨fd_rules_ccf3, F_rules_ccf3⟩ := c.def_ 4 (d := d_rules_ccf3) rfl
  have m_rules_ccf3 := He.glo_ok X G (c.fact 4 (f := .glo "_law_rules") rfl)
  obtain ⟨fd_panel_3836, F_panel_3836⟩ := c.def_ 5 (d := d_panel_3836) rfl
  have m_panel_3836 := He.glo_ok X G (c.fact 5 (f := .glo "_law_panel") rfl)
  obtain ⟨fd_equal_17a7, F_equal_17a7⟩ := c.def_ 6 (d := d_equal_17a7) rfl
  have m_equal_17a7 := He.glo_ok X G (c.fact 6 (f := .glo "_law_equal") rfl)
  obtain ⟨fd_class_4baa, F_class_4baa⟩ := c.def_ 7 (d := d_class_4baa) rfl
  have m_class_4baa := He.glo_ok X G (c.fact 7 (f := .glo "_law_class") rfl)
  obtain ⟨fd_is_integer_8a5f, F_is_integer_8a5f⟩ := c.def_ 8 (d := d_is_integer_8a5f) rfl
  have m_is_integer_8a5f := He.glo_ok X G (c.fact 8 (f := .glo "is_integer") rfl)
  obtain ⟨fd_is_within_3133, F_is_within_3133⟩ := c.def_ 9 (d := d_is_within_3133) rfl
  have m_is_within_3133 := He.glo_ok X G (c.fact 9 (f := .glo "is_within") rfl)
  obtain ⟨fd_Book_state_at_6f16, F_Book_state_at_6f16⟩ := c.def_ 10 (d := d_Book_state_at_6f16) rfl
  obtain ⟨fd_state_at_fc8a, F_state_at_fc8a⟩ := c.def_ 11 (d := d_state_at_fc8a) rfl
  have m_state_at_fc8a := He.glo_ok X G (c.fact 11 (f := .glo "_law_state_at") rfl)
  obtain ⟨fd_states_right_c0ad, F_states_right_c0ad⟩ := c.def_ 12 (d := d_states_right_c0ad) rfl
  have m_states_right_c0ad := He.glo_ok X G (c.fact 12 (f := .glo "_law_states_right") rfl)
  obtain ⟨fd_Book_need_idle_a04f, F_Book_need_idle_a04f⟩ := c.def_ 13 (d := d_Book_need_idle_a04f) rfl
  obtain ⟨fd_need_item_44a7x, F_need_item_44a7x⟩ := c.def_ 14 (d := d_need_item_44a7x) rfl
  have m_need_item_44a7x := He.glo_ok X G (c.fact 14 (f := .glo "need_item") rfl)
  obtain ⟨fd_is_weight_6941, F_is_weight_6941⟩ := c.def_ 15 (d := d_is_weight_6941) rfl
  have m_is_weight_6941 := He.glo_ok X G (c.fact 15 (f := .glo "is_weight") rfl)
  obtain ⟨fd_need_weight_e9e3x, F_need_weight_e9e3x⟩ := c.def_ 16 (d := d_need_weight_e9e3x) rfl
  have m_need_weight_e9e3x := He.glo_ok X G (c.fact 16 (f := .glo "need_weight") rfl)
  obtain ⟨fd_with_mark_afe3, F_with_mark_afe3⟩ := c.def_ 17 (d := d_with_mark_afe3) rfl
  have m_with_mark_afe3 := He.glo_ok X G (c.fact 17 (f := .glo "with_mark") rfl)
  obtain ⟨fd_is_mark_f168, F_is_mark_f168⟩ := c.def_ 18 (d := d_is_mark_f168) rfl
  have m_is_mark_f168 := He.glo_ok X G (c.fact 18 (f := .glo "is_mark") rfl)
  obtain ⟨fd_need_mark_99a8x, F_need_mark_99a8x⟩ := c.def_ 19 (d := d_need_mark_99a8x) rfl
  have m_need_mark_99a8x := He.glo_ok X G (c.fact 19 (f := .glo "need_mark") rfl)
  obtain ⟨fd_panel_with_item_7316x, F_panel_with_item_7316x⟩ := c.def_ 20 (d := d_panel_with_item_7316x) rfl
  have m_panel_with_item_7316x := He.glo_ok X G (c.fact 20 (f := .glo "panel_with_item") rfl)
  obtain ⟨fd_with_rule_a65e, F_with_rule_a65e⟩ := c.def_ 21 (d := d_with_rule_a65e) rfl
  have m_with_rule_a65e := He.glo_ok X G (c.fact 21 (f := .glo "with_rule") rfl)
  obtain ⟨fd_panel_with_rule_8c3dx, F_panel_with_rule_8c3dx⟩ := c.def_ 22 (d := d_panel_with_rule_8c3dx) rfl
  have m_panel_with_rule_8c3dx := He.glo_ok X G (c.fact 22 (f := .glo "panel_with_rule") rfl)
  obtain ⟨fd_without_rule_deb1, F_without_rule_deb1⟩ := c.def_ 23 (d := d_without_rule_deb1) rfl
  have m_without_rule_deb1 := He.glo_ok X G (c.fact 23 (f := .glo "without_rule") rfl)
  obtain ⟨fd_without_item_d43ax, F_without_item_d43ax⟩ := c.def_ 24 (d := d_without_item_d43ax) rfl
  have m_without_item_d43ax := He.glo_ok X G (c.fact 24 (f := .glo "without_item") rfl)
  obtain ⟨fd_panel_after_5edax, F_panel_after_5edax⟩ := c.def_ 25 (d := d_panel_after_5edax) rfl
  have m_panel_after_5edax := He.glo_ok X G (c.fact 25 (f := .glo "panel_after") rfl)
  obtain ⟨fd_Book_keep_3d59, F_Book_keep_3d59⟩ := c.def_ 26 (d := d_Book_keep_3d59) rfl
  obtain ⟨fd_Book_act_56f7, F_Book_act_56f7⟩ := c.def_ 27 (d := d_Book_act_56f7) rfl
  obtain ⟨fd_Book_set_mark_d750, F_Book_set_mark_d750⟩ := c.def_ 28 (d := d_Book_set_mark_d750) rfl
  obtain ⟨fd_Book_set_weight_80a1, F_Book_set_weight_80a1⟩ := c.def_ 29 (d := d_Book_set_weight_80a1) rfl
  obtain ⟨fd_Book_add_item_5e3f, F_Book_add_item_5e3f⟩ := c.def_ 30 (d := d_Book_add_item_5e3f) rfl
  obtain ⟨fd_Book_drop_item_c5ba, F_Book_drop_item_c5ba⟩ := c.def_ 31 (d := d_Book_drop_item_c5ba) rfl
  obtain ⟨fd_Book_add_rule_b6a8, F_Book_add_rule_b6a8⟩ := c.def_ 32 (d := d_Book_add_rule_b6a8) rfl
  obtain ⟨fd_Book_drop_rule_1deb, F_Book_drop_rule_1deb⟩ := c.def_ 33 (d := d_Book_drop_rule_1deb) rfl
  obtain ⟨fd_Book_undo_292d, F_Book_undo_292d⟩ := c.def_ 34 (d := d_Book_undo_292d) rfl
  obtain ⟨fd_do_b165, F_do_b165⟩ := c.def_ 35 (d := d_do_b165) rfl
  have m_do_b165 := He.glo_ok X G (c.fact 35 (f := .glo "_law_do") rfl)
  obtain ⟨fd_limited_235d, F_limited_235d⟩ := c.def_ 36 (d := d_limited_235d) rfl
  have m_limited_235d := He.glo_ok X G (c.fact 36 (f := .glo "_law_limited") rfl)
  obtain ⟨fd_hear_2917, F_hear_2917⟩ := c.def_ 37 (d := d_hear_2917) rfl
  have m_hear_2917 := He.glo_ok X G (c.fact 37 (f := .glo "_law_hear") rfl)
  obtain ⟨fd_is_action_d748, F_is_action_d748⟩ := c.def_ 38 (d := d_is_action_d748) rfl
  have m_is_action_d748 := He.glo_ok X G (c.fact 38 (f := .glo "is_action") rfl)
  obtain ⟨fd_Book_performL_64d2, F_Book_performL_64d2⟩ := c.def_ 39 (d := d_Book_performL_64d2) rfl
  obtain ⟨fd_Book_runL_35fc, F_Book_runL_35fc⟩ := c.def_ 40 (d := d_Book_runL_35fc) rfl
  obtain ⟨fd_Book_log_00c1, F_Book_log_00c1⟩ := c.def_ 41 (d := d_Book_log_00c1) rfl
  obtain ⟨fd_Book___len___d650, F_Book___len___d650⟩ := c.def_ 42 (d := d_Book___len___d650) rfl
  obtain ⟨fd_full_right_e03f, F_full_right_e03f⟩ := c.def_ 43 (d := d_full_right_e03f) rfl
  have m_full_right_e03f := He.glo_ok X G (c.fact 43 (f := .glo "_law_full_right") rfl)
  obtain ⟨fd_undone_a4b1, F_undone_a4b1⟩ := c.def_ 44 (d := d_undone_a4b1) rfl
  have m_undone_a4b1 := He.glo_ok X G (c.fact 44 (f := .glo "_law_undone") rfl)
  obtain ⟨fd_is_tuple_7f37, F_is_tuple_7f37⟩ := c.def_ 45 (d := d_is_tuple_7f37) rfl
  have m_is_tuple_7f37 := He.glo_ok X G (c.fact 45 (f := .glo "is_tuple") rfl)
  obtain ⟨fd_item_fault_6a6b, F_item_fault_6a6b⟩ := c.def_ 46 (d := d_item_fault_6a6b) rfl
  have m_item_fault_6a6b := He.glo_ok X G (c.fact 46 (f := .glo "item_fault") rfl)
  obtain ⟨fd_rule_fault_c7d6, F_rule_fault_c7d6⟩ := c.def_ 47 (d := d_rule_fault_c7d6) rfl
  have m_rule_fault_c7d6 := He.glo_ok X G (c.fact 47 (f := .glo "rule_fault") rfl)
  obtain ⟨fd_find_fault_effe, F_find_fault_effe⟩ := c.def_ 48 (d := d_find_fault_effe) rfl
  have m_find_fault_effe := He.glo_ok X G (c.fact 48 (f := .glo "find_fault") rfl)
  obtain ⟨fd_Book___init___c536, F_Book___init___c536⟩ := c.def_ 49 (d := d_Book___init___c536) rfl
  have m_Book___init___c536 := He.glo_ok X G (c.fact 49 (f := .glo "Book") rfl)
  obtain ⟨fd_Book_actions_a3eb, F_Book_actions_a3eb⟩ := c.def_ 50 (d := d_Book_actions_a3eb) rfl
  obtain ⟨fd_sixty_right_718b, F_sixty_right_718b⟩ := c.def_ 51 (d := d_sixty_right_718b) rfl
  have m_sixty_right_718b := He.glo_ok X G (c.fact 51 (f := .glo "_law_sixty_right") rfl)
  obtain ⟨fd_one_be76, F_one_be76⟩ := c.def_ 52 (d := d_one_be76) rfl
  have m_one_be76 := He.glo_ok X G (c.fact 52 (f := .glo "_law_one") rfl)
  obtain ⟨fd_action_0538, F_action_0538⟩ := c.def_ 53 (d := d_action_0538) rfl
  have m_action_0538 := He.glo_ok X G (c.fact 53 (f := .glo "_law_action") rfl)
  obtain ⟨fd_integer_3c56, F_integer_3c56⟩ := c.def_ 54 (d := d_integer_3c56) rfl
  have m_integer_3c56 := He.glo_ok X G (c.fact 54 (f := .glo "_law_integer") rfl)
  obtain ⟨fd_index_4ee9, F_index_4ee9⟩ := c.def_ 55 (d := d_index_4ee9) rfl
  have m_index_4ee9 := He.glo_ok X G (c.fact 55 (f := .glo "_law_index") rfl)
  obtain ⟨fd_rule_error_9639, F_rule_error_9639⟩ := c.def_ 56 (d := d_rule_error_9639) rfl
  have m_rule_error_9639 := He.glo_ok X G (c.fact 56 (f := .glo "_law_rule_error") rfl)
  obtain ⟨fd_item_error_fff0, F_item_error_fff0⟩ := c.def_ 57 (d := d_item_error_fff0) rfl
  have m_item_error_fff0 := He.glo_ok X G (c.fact 57 (f := .glo "_law_item_error") rfl)
  obtain ⟨fd_without_de10, F_without_de10⟩ := c.def_ 58 (d := d_without_de10) rfl
  have m_without_de10 := He.glo_ok X G (c.fact 58 (f := .glo "_law_without") rfl)
  obtain ⟨fd_after_0530, F_after_0530⟩ := c.def_ 59 (d := d_after_0530) rfl
  have m_after_0530 := He.glo_ok X G (c.fact 59 (f := .glo "_law_after") rfl)
  obtain ⟨fd_Book_panel_40b0, F_Book_panel_40b0⟩ := c.def_ 60 (d := d_Book_panel_40b0) rfl
  obtain ⟨fd_Book___str___29d1, F_Book___str___29d1⟩ := c.def_ 61 (d := d_Book___str___29d1) rfl
  obtain ⟨fd_seen_4665, F_seen_4665⟩ := c.def_ 62 (d := d_seen_4665) rfl
  have m_seen_4665 := He.glo_ok X G (c.fact 62 (f := .glo "_law_seen") rfl)
  obtain ⟨fd_due_seen_6cad, F_due_seen_6cad⟩ := c.def_ 63 (d := d_due_seen_6cad) rfl
  have m_due_seen_6cad := He.glo_ok X G (c.fact 63 (f := .glo "_law_due_seen") rfl)
  obtain ⟨fd_law_9d52, F_law_9d52⟩ := c.def_ 64 (d := d_law_9d52) rfl
  have e := hfa.symm.trans (He.glo_ok X G (c.fact 64 (f := .glo "law") rfl))
  cases e
  have bl := FunD.bindsA (ps := ["_law_script"]) F_law_9d52 fun _ _ _ _ _ _ us hl => match us, hl with | [_], _ => rfl
  refine ⟨fd_law_9d52, fun s v => bl s [v] rfl, fun base _ _ tb => ?_⟩
  obtain ⟨fd_BatchFailed, F_BatchFailed⟩ := c.def_ 65 (d := d_BatchFailed) rfl
  have j_BatchFailed : GloE P w K mg base "BatchFailed" ["index"] := gloE_ok X G (fd := fd_BatchFailed) (ps := ["self", "index"]) (He.ba e_1).1 (fun T no => okInitE F_BatchFailed sc_BatchFailed rfl (by decide) T (no _ (.head _)) fun _ _ _ _ _ _ => pss_one (ps_oe (pv 0) (pv 1))) (FunD.bindsN F_BatchFailed fun _ _ _ _ _ _ us hl => match us, hl with | [_, _], _ => rfl)
  obtain ⟨fd_InvalidMark, F_InvalidMark⟩ := c.def_ 66 (d := d_InvalidMark) rfl
  have j_InvalidMark : GloE P w K mg base "InvalidMark" ["mark"] := gloE_ok X G (fd := fd_InvalidMark) (ps := ["self", "mark"]) (He.ba e_2).1 (fun T no => okInitE F_InvalidMark sc_InvalidMark rfl (by decide) T (no _ (.head _)) fun _ _ _ _ _ _ => pss_one (ps_oe (pv 0) (pv 1))) (FunD.bindsN F_InvalidMark fun _ _ _ _ _ _ us hl => match us, hl with | [_, _], _ => rfl)
  obtain ⟨fd_InvalidWeight, F_InvalidWeight⟩ := c.def_ 67 (d := d_InvalidWeight) rfl
  have j_InvalidWeight : GloE P w K mg base "InvalidWeight" ["weight"] := gloE_ok X G (fd := fd_InvalidWeight) (ps := ["self", "weight"]) (He.ba e_3).1 (fun T no => okInitE F_InvalidWeight sc_InvalidWeight rfl (by decide) T (no _ (.head _)) fun _ _ _ _ _ _ => pss_one (ps_oe (pv 0) (pv 1))) (FunD.bindsN F_InvalidWeight fun _ _ _ _ _ _ us hl => match us, hl with | [_, _], _ => rfl)
  obtain ⟨fd_NoSuchItem, F_NoSuchItem⟩ := c.def_ 68 (d := d_NoSuchItem) rfl
  have j_NoSuchItem : GloE P w K mg base "NoSuchItem" ["item"] := gloE_ok X G (fd := fd_NoSuchItem) (ps := ["self", "item"]) (He.ba e_4).1 (fun T no => okInitE F_NoSuchItem sc_NoSuchItem rfl (by decide) T (no _ (.head _)) fun _ _ _ _ _ _ => pss_one (ps_oe (pv 0) (pv 1))) (FunD.bindsN F_NoSuchItem fun _ _ _ _ _ _ us hl => match us, hl with | [_, _], _ => rfl)
  obtain ⟨fd_NoSuchRule, F_NoSuchRule⟩ := c.def_ 69 (d := d_NoSuchRule) rfl
  have j_NoSuchRule : GloE P w K mg base "NoSuchRule" ["rule"] := gloE_ok X G (fd := fd_NoSuchRule) (ps := ["self", "rule"]) (He.ba e_5).1 (fun T no => okInitE F_NoSuchRule sc_NoSuchRule rfl (by decide) T (no _ (.head _)) fun _ _ _ _ _ _ => pss_one (ps_oe (pv 0) (pv 1))) (FunD.bindsN F_NoSuchRule fun _ _ _ _ _ _ us hl => match us, hl with | [_, _], _ => rfl)
  obtain ⟨fd_NoSuchStep, F_NoSuchStep⟩ := c.def_ 70 (d := d_NoSuchStep) rfl
  have j_NoSuchStep : GloE P w K mg base "NoSuchStep" ["step"] := gloE_ok X G (fd := fd_NoSuchStep) (ps := ["self", "step"]) (He.ba e_6).1 (fun T no => okInitE F_NoSuchStep sc_NoSuchStep rfl (by decide) T (no _ (.head _)) fun _ _ _ _ _ _ => pss_one (ps_oe (pv 0) (pv 1))) (FunD.bindsN F_NoSuchStep fun _ _ _ _ _ _ us hl => match us, hl with | [_, _], _ => rfl)
  have ciBook : CiBook K (He.ga K "Book") := ⟨He.cls_ok (c.fact 85 (f := .cls "Book") rfl), He.noat_ok (c.fact 87 (f := .noat "Book" "panels") rfl), He.noat_ok (c.fact 88 (f := .noat "Book" "kept") rfl), He.noat_ok (c.fact 89 (f := .noat "Book" "rows") rfl), He.noat_ok (c.fact 90 (f := .noat "Book" "is_busy") rfl)⟩
  have mk_Book := He.mkr_ok (c.fact 86 (f := .mkr "Book") rfl)
  have g_draws : Glo P w K mg base "_law_draws" 1 (spDraws K) 1 := ⟨_, fd_draws, ["_law_script"], ok_draws0 b  F_draws, m_draws, FunD.kp F_draws, FunD.bindsN F_draws fun _ _ _ _ _ _ us hl => match us, hl with | [_], _ => rfl, rfl⟩
  have g_next : ∀ r c q, Glo P w K mg base "_law_next" 2 (spG (gr K r c q) (nextS r)) 1 := fun r c q => ⟨_, fd_next, ["_law_drawn", "_law_many"], ok_next0 b  F_next, m_next, FunD.kp F_next, FunD.bindsN F_next fun _ _ _ _ _ _ us hl => match us, hl with | [_, _], _ => rfl, rfl⟩
  have g_size_3de8 : ∀ r c q, Glo P w K mg base "_law_size" 2 (spG (gr K r c q) (sp_size_3de8 r)) 2 := fun r c q => ⟨_, fd_size_3de8, ["_law_drawn", "_law_great"], ok_size_3de8 b g_next F_size_3de8, m_size_3de8, FunD.kp F_size_3de8, FunD.bindsN F_size_3de8 fun _ _ _ _ _ _ us hl => match us, hl with | [_, _], _ => rfl, rfl⟩
  have g_items_cafd : ∀ r c q, Glo P w K mg base "_law_items" 2 (spG (gr K r c q) (sp_items_cafd r)) 3 := fun r c q => ⟨_, fd_items_cafd, ["_law_drawn", "_law_count"], ok_items_cafd b g_next g_size_3de8 F_items_cafd, m_items_cafd, FunD.kp F_items_cafd, FunD.bindsN F_items_cafd fun _ _ _ _ _ _ us hl => match us, hl with | [_, _], _ => rfl, rfl⟩
  have g_rules_ccf3 : ∀ r c q, Glo P w K mg base "_law_rules" 2 (spG (gr K r c q) (sp_rules_ccf3 r)) 2 := fun r c q => ⟨_, fd_rules_ccf3, ["_law_drawn", "_law_count"], ok_rules_ccf3 b g_next F_rules_ccf3, m_rules_ccf3, FunD.kp F_rules_ccf3, FunD.bindsN F_rules_ccf3 fun _ _ _ _ _ _ us hl => match us, hl with | [_, _], _ => rfl, rfl⟩
  have g_panel_3836 : ∀ r c q, Glo P w K mg base "_law_panel" 2 (spG (gr K r c q) (sp_panel_3836 r)) 4 := fun r c q => ⟨_, fd_panel_3836, ["_law_drawn", "_law_most"], ok_panel_3836 b g_next g_items_cafd g_rules_ccf3 F_panel_3836, m_panel_3836, FunD.kp F_panel_3836, FunD.bindsN F_panel_3836 fun _ _ _ _ _ _ us hl => match us, hl with | [_, _], _ => rfl, rfl⟩
  have gn_equal_17a7 : ∀ (r c q : Addr) (n : Nat), Glo P w K mg base "_law_equal" 2 (spP K (sp_equal_17a7 n)) (1 + n) := fun r c q n => by
    induction n with
    | zero => exact ⟨_, fd_equal_17a7, ["_law_one_here", "_law_other"], okP (k := 0) F_equal_17a7 sc_equal_17a7 (len_equal_17a7 0) ⟨qNever, fun _ _ _ _ _ _ _ => qss_never, fun ds R h => (z_equal_17a7 ds R h).elim⟩, m_equal_17a7, FunD.kp F_equal_17a7, FunD.bindsN F_equal_17a7 fun _ _ _ _ _ _ us hl => match us, hl with | [_, _], _ => rfl, rfl⟩
    | succ n ih => exact ⟨_, fd_equal_17a7, ["_law_one_here", "_law_other"], ok_equal_17a7 (k := 1 + n) (by omega) (len_equal_17a7 (n + 1)) (p_equal_17a7 n) ih b  F_equal_17a7, m_equal_17a7, FunD.kp F_equal_17a7, FunD.bindsN F_equal_17a7 fun _ _ _ _ _ _ us hl => match us, hl with | [_, _], _ => rfl, rfl⟩
  have g_equal_17a7 : Glo P w K mg base "_law_equal" 2 (spP K (sp_equal_17a7 24)) 25 := gn_equal_17a7 0 0 0 24
  have g_class_4baa : GloK0 P w K mg base "_law_class" (spP K (sp_class_4baa (errH K mg))) 1 := ⟨_, fd_class_4baa, "_law_error", ok_class_4baa b  F_class_4baa, m_class_4baa, FunD.kp F_class_4baa, FunD.bindsN F_class_4baa fun _ _ _ _ _ _ us hl => match us, hl with | [_], _ => rfl⟩
  have g_is_integer_8a5f : Glo P w K mg base "is_integer" 1 (spP K (sp_is_integer_8a5f)) 1 := ⟨_, fd_is_integer_8a5f, ["value"], ok_is_integer_8a5f b  F_is_integer_8a5f, m_is_integer_8a5f, FunD.kp F_is_integer_8a5f, FunD.bindsN F_is_integer_8a5f fun _ _ _ _ _ _ us hl => match us, hl with | [_], _ => rfl, rfl⟩
  have g_is_within_3133 : Glo P w K mg base "is_within" 3 (spP K (sp_is_within_3133)) 2 := ⟨_, fd_is_within_3133, ["value", "low", "high"], ok_is_within_3133 b g_is_integer_8a5f F_is_within_3133, m_is_within_3133, FunD.kp F_is_within_3133, FunD.bindsN F_is_within_3133 fun _ _ _ _ _ _ us hl => match us, hl with | [_, _, _], _ => rfl, rfl⟩
  have g_Book_state_at_6f16 : GloMX P w K mg base (He.ga K "Book") "state_at" 2 (spBX K mg (sp_Book_state_at_6f16 (He.ga K "Book"))) 3 := ⟨_, fd_Book_state_at_6f16, ["self", "step"], ok_Book_state_at_6f16 ciBook b g_is_within_3133 j_NoSuchStep F_Book_state_at_6f16, He.meth_ok (c.fact 91 (f := .meth "Book" "state_at") rfl), FunD.bindsN F_Book_state_at_6f16 fun _ _ _ _ _ _ us hl => match us, hl with | [_, _], _ => rfl, rfl⟩
  have g_state_at_fc8a : GloX P w K mg base "_law_state_at" 2 (spBX K mg (sp_state_at_fc8a (He.ga K "Book") (errH K mg))) 4 := ⟨_, fd_state_at_fc8a, ["_law_book", "_law_step"], ok_state_at_fc8a ciBook b g_class_4baa g_Book_state_at_6f16 F_state_at_fc8a, m_state_at_fc8a, FunD.kp F_state_at_fc8a, FunD.bindsN F_state_at_fc8a fun _ _ _ _ _ _ us hl => match us, hl with | [_, _], _ => rfl, rfl⟩
  have g_states_right_c0ad : GloX P w K mg base "_law_states_right" 2 (spBX K mg (sp_states_right_c0ad (He.ga K "Book") (errH K mg))) 26 := ⟨_, fd_states_right_c0ad, ["_law_book", "_law_panels"], ok_states_right_c0ad ciBook b g_equal_17a7 g_state_at_fc8a F_states_right_c0ad, m_states_right_c0ad, FunD.kp F_states_right_c0ad, FunD.bindsN F_states_right_c0ad fun _ _ _ _ _ _ us hl => match us, hl with | [_, _], _ => rfl, rfl⟩
  have g_Book_need_idle_a04f : GloMX P w K mg base (He.ga K "Book") "need_idle" 1 (spBX K mg (sp_Book_need_idle_a04f (He.ga K "Book"))) 1 := ⟨_, fd_Book_need_idle_a04f, ["self"], ok_Book_need_idle_a04f ciBook b  F_Book_need_idle_a04f, He.meth_ok (c.fact 92 (f := .meth "Book" "need_idle") rfl), FunD.bindsN F_Book_need_idle_a04f fun _ _ _ _ _ _ us hl => match us, hl with | [_], _ => rfl, rfl⟩
  have g_need_item_44a7x : GloX P w K mg base "need_item" 2 (spPX K mg (sp_need_item_44a7x)) 3 := ⟨_, fd_need_item_44a7x, ["panel", "value"], ok_need_item_44a7x b g_is_within_3133 j_NoSuchItem F_need_item_44a7x, m_need_item_44a7x, FunD.kp F_need_item_44a7x, FunD.bindsN F_need_item_44a7x fun _ _ _ _ _ _ us hl => match us, hl with | [_, _], _ => rfl, rfl⟩
  have g_is_weight_6941 : Glo P w K mg base "is_weight" 1 (spP K (sp_is_weight_6941)) 3 := ⟨_, fd_is_weight_6941, ["value"], ok_is_weight_6941 b g_is_within_3133 F_is_weight_6941, m_is_weight_6941, FunD.kp F_is_weight_6941, FunD.bindsN F_is_weight_6941 fun _ _ _ _ _ _ us hl => match us, hl with | [_], _ => rfl, rfl⟩
  have g_need_weight_e9e3x : GloX P w K mg base "need_weight" 1 (spPX K mg (sp_need_weight_e9e3x)) 4 := ⟨_, fd_need_weight_e9e3x, ["value"], ok_need_weight_e9e3x b g_is_weight_6941 j_InvalidWeight F_need_weight_e9e3x, m_need_weight_e9e3x, FunD.kp F_need_weight_e9e3x, FunD.bindsN F_need_weight_e9e3x fun _ _ _ _ _ _ us hl => match us, hl with | [_], _ => rfl, rfl⟩
  have g_with_mark_afe3 : Glo P w K mg base "with_mark" 4 (spP K (sp_with_mark_afe3)) 1 := ⟨_, fd_with_mark_afe3, ["panel", "item", "mark", "weight"], ok_with_mark_afe3 b  F_with_mark_afe3, m_with_mark_afe3, FunD.kp F_with_mark_afe3, FunD.bindsN F_with_mark_afe3 fun _ _ _ _ _ _ us hl => match us, hl with | [_, _, _, _], _ => rfl, rfl⟩
  have g_is_mark_f168 : Glo P w K mg base "is_mark" 1 (spP K (sp_is_mark_f168)) 3 := ⟨_, fd_is_mark_f168, ["value"], ok_is_mark_f168 b g_is_within_3133 F_is_mark_f168, m_is_mark_f168, FunD.kp F_is_mark_f168, FunD.bindsN F_is_mark_f168 fun _ _ _ _ _ _ us hl => match us, hl with | [_], _ => rfl, rfl⟩
  have g_need_mark_99a8x : GloX P w K mg base "need_mark" 1 (spPX K mg (sp_need_mark_99a8x)) 4 := ⟨_, fd_need_mark_99a8x, ["value"], ok_need_mark_99a8x b g_is_mark_f168 j_InvalidMark F_need_mark_99a8x, m_need_mark_99a8x, FunD.kp F_need_mark_99a8x, FunD.bindsN F_need_mark_99a8x fun _ _ _ _ _ _ us hl => match us, hl with | [_], _ => rfl, rfl⟩
  have g_panel_with_item_7316x : GloX P w K mg base "panel_with_item" 3 (spPX K mg (sp_panel_with_item_7316x)) 5 := ⟨_, fd_panel_with_item_7316x, ["panel", "mark", "weight"], ok_panel_with_item_7316x b g_need_mark_99a8x g_need_weight_e9e3x F_panel_with_item_7316x, m_panel_with_item_7316x, FunD.kp F_panel_with_item_7316x, FunD.bindsN F_panel_with_item_7316x fun _ _ _ _ _ _ us hl => match us, hl with | [_, _, _], _ => rfl, rfl⟩
  have g_with_rule_a65e : Glo P w K mg base "with_rule" 3 (spP K (sp_with_rule_a65e)) 1 := ⟨_, fd_with_rule_a65e, ["panel", "low", "high"], ok_with_rule_a65e b  F_with_rule_a65e, m_with_rule_a65e, FunD.kp F_with_rule_a65e, FunD.bindsN F_with_rule_a65e fun _ _ _ _ _ _ us hl => match us, hl with | [_, _, _], _ => rfl, rfl⟩
  have g_panel_with_rule_8c3dx : GloX P w K mg base "panel_with_rule" 3 (spPX K mg (sp_panel_with_rule_8c3dx)) 4 := ⟨_, fd_panel_with_rule_8c3dx, ["panel", "low", "high"], ok_panel_with_rule_8c3dx b g_need_item_44a7x g_with_rule_a65e j_NoSuchItem F_panel_with_rule_8c3dx, m_panel_with_rule_8c3dx, FunD.kp F_panel_with_rule_8c3dx, FunD.bindsN F_panel_with_rule_8c3dx fun _ _ _ _ _ _ us hl => match us, hl with | [_, _, _], _ => rfl, rfl⟩
  have g_without_rule_deb1 : Glo P w K mg base "without_rule" 2 (spP K (sp_without_rule_deb1)) 1 := ⟨_, fd_without_rule_deb1, ["panel", "rule"], ok_without_rule_deb1 b  F_without_rule_deb1, m_without_rule_deb1, FunD.kp F_without_rule_deb1, FunD.bindsN F_without_rule_deb1 fun _ _ _ _ _ _ us hl => match us, hl with | [_, _], _ => rfl, rfl⟩
  have g_without_item_d43ax : GloX P w K mg base "without_item" 2 (spPX K mg (sp_without_item_d43ax)) 1 := ⟨_, fd_without_item_d43ax, ["panel", "item"], ok_without_item_d43ax b  F_without_item_d43ax, m_without_item_d43ax, FunD.kp F_without_item_d43ax, FunD.bindsN F_without_item_d43ax fun _ _ _ _ _ _ us hl => match us, hl with | [_, _], _ => rfl, rfl⟩
  have g_panel_after_5edax : GloX P w K mg base "panel_after" 2 (spPX K mg (sp_panel_after_5edax)) 6 := ⟨_, fd_panel_after_5edax, ["panel", "action"], ok_panel_after_5edax b g_need_item_44a7x g_need_weight_e9e3x g_with_mark_afe3 g_panel_with_item_7316x g_panel_with_rule_8c3dx g_without_rule_deb1 g_without_item_d43ax g_need_mark_99a8x g_is_within_3133 j_NoSuchRule F_panel_after_5edax, m_panel_after_5edax, FunD.kp F_panel_after_5edax, FunD.bindsN F_panel_after_5edax fun _ _ _ _ _ _ us hl => match us, hl with | [_, _], _ => rfl, rfl⟩
  have g_Book_keep_3d59 : GloMX P w K mg base (He.ga K "Book") "keep" 2 (spBX K mg (sp_Book_keep_3d59 (He.ga K "Book"))) 7 := ⟨_, fd_Book_keep_3d59, ["self", "action"], ok_Book_keep_3d59 ciBook b g_panel_after_5edax F_Book_keep_3d59, He.meth_ok (c.fact 93 (f := .meth "Book" "keep") rfl), FunD.bindsN F_Book_keep_3d59 fun _ _ _ _ _ _ us hl => match us, hl with | [_, _], _ => rfl, rfl⟩
  have g_Book_act_56f7 : GloMX P w K mg base (He.ga K "Book") "act" 2 (spBX K mg (sp_Book_act_56f7 (He.ga K "Book"))) 8 := ⟨_, fd_Book_act_56f7, ["self", "action"], ok_Book_act_56f7 ciBook b g_Book_need_idle_a04f g_Book_keep_3d59 F_Book_act_56f7, He.meth_ok (c.fact 94 (f := .meth "Book" "act") rfl), FunD.bindsN F_Book_act_56f7 fun _ _ _ _ _ _ us hl => match us, hl with | [_, _], _ => rfl, rfl⟩
  have g_Book_set_mark_d750 : GloMX P w K mg base (He.ga K "Book") "set_mark" 3 (spBX K mg (sp_Book_set_mark_d750 (He.ga K "Book"))) 9 := ⟨_, fd_Book_set_mark_d750, ["self", "item", "mark"], ok_Book_set_mark_d750 ciBook b g_Book_act_56f7 F_Book_set_mark_d750, He.meth_ok (c.fact 95 (f := .meth "Book" "set_mark") rfl), FunD.bindsN F_Book_set_mark_d750 fun _ _ _ _ _ _ us hl => match us, hl with | [_, _, _], _ => rfl, rfl⟩
  have g_Book_set_weight_80a1 : GloMX P w K mg base (He.ga K "Book") "set_weight" 3 (spBX K mg (sp_Book_set_weight_80a1 (He.ga K "Book"))) 9 := ⟨_, fd_Book_set_weight_80a1, ["self", "item", "weight"], ok_Book_set_weight_80a1 ciBook b g_Book_act_56f7 F_Book_set_weight_80a1, He.meth_ok (c.fact 96 (f := .meth "Book" "set_weight") rfl), FunD.bindsN F_Book_set_weight_80a1 fun _ _ _ _ _ _ us hl => match us, hl with | [_, _, _], _ => rfl, rfl⟩
  have g_Book_add_item_5e3f : GloMX P w K mg base (He.ga K "Book") "add_item" 3 (spBX K mg (sp_Book_add_item_5e3f (He.ga K "Book"))) 9 := ⟨_, fd_Book_add_item_5e3f, ["self", "mark", "weight"], ok_Book_add_item_5e3f ciBook b g_Book_act_56f7 F_Book_add_item_5e3f, He.meth_ok (c.fact 97 (f := .meth "Book" "add_item") rfl), FunD.bindsN F_Book_add_item_5e3f fun _ _ _ _ _ _ us hl => match us, hl with | [_, _, _], _ => rfl, rfl⟩
  have g_Book_drop_item_c5ba : GloMX P w K mg base (He.ga K "Book") "drop_item" 2 (spBX K mg (sp_Book_drop_item_c5ba (He.ga K "Book"))) 9 := ⟨_, fd_Book_drop_item_c5ba, ["self", "item"], ok_Book_drop_item_c5ba ciBook b g_Book_act_56f7 F_Book_drop_item_c5ba, He.meth_ok (c.fact 98 (f := .meth "Book" "drop_item") rfl), FunD.bindsN F_Book_drop_item_c5ba fun _ _ _ _ _ _ us hl => match us, hl with | [_, _], _ => rfl, rfl⟩
  have g_Book_add_rule_b6a8 : GloMX P w K mg base (He.ga K "Book") "add_rule" 3 (spBX K mg (sp_Book_add_rule_b6a8 (He.ga K "Book"))) 9 := ⟨_, fd_Book_add_rule_b6a8, ["self", "low", "high"], ok_Book_add_rule_b6a8 ciBook b g_Book_act_56f7 F_Book_add_rule_b6a8, He.meth_ok (c.fact 99 (f := .meth "Book" "add_rule") rfl), FunD.bindsN F_Book_add_rule_b6a8 fun _ _ _ _ _ _ us hl => match us, hl with | [_, _, _], _ => rfl, rfl⟩
  have g_Book_drop_rule_1deb : GloMX P w K mg base (He.ga K "Book") "drop_rule" 2 (spBX K mg (sp_Book_drop_rule_1deb (He.ga K "Book"))) 9 := ⟨_, fd_Book_drop_rule_1deb, ["self", "rule"], ok_Book_drop_rule_1deb ciBook b g_Book_act_56f7 F_Book_drop_rule_1deb, He.meth_ok (c.fact 100 (f := .meth "Book" "drop_rule") rfl), FunD.bindsN F_Book_drop_rule_1deb fun _ _ _ _ _ _ us hl => match us, hl with | [_, _], _ => rfl, rfl⟩
  have g_Book_undo_292d : GloMX P w K mg base (He.ga K "Book") "undo" 1 (spBX K mg (sp_Book_undo_292d (He.ga K "Book"))) 2 := ⟨_, fd_Book_undo_292d, ["self"], ok_Book_undo_292d ciBook b g_Book_need_idle_a04f F_Book_undo_292d, He.meth_ok (c.fact 101 (f := .meth "Book" "undo") rfl), FunD.bindsN F_Book_undo_292d fun _ _ _ _ _ _ us hl => match us, hl with | [_], _ => rfl, rfl⟩
  have g_do_b165 : GloX P w K mg base "_law_do" 2 (spBX K mg (sp_do_b165 (He.ga K "Book"))) 10 := ⟨_, fd_do_b165, ["_law_book", "_law_action_here"], ok_do_b165 ciBook b g_Book_set_mark_d750 g_Book_set_weight_80a1 g_Book_add_item_5e3f g_Book_drop_item_c5ba g_Book_add_rule_b6a8 g_Book_drop_rule_1deb g_Book_undo_292d F_do_b165, m_do_b165, FunD.kp F_do_b165, FunD.bindsN F_do_b165 fun _ _ _ _ _ _ us hl => match us, hl with | [_, _], _ => rfl, rfl⟩
  have g_limited_235d : GloX P w K mg base "_law_limited" 2 (spBX K mg (sp_limited_235d (He.ga K "Book") (errH K mg))) 11 := ⟨_, fd_limited_235d, ["_law_book", "_law_action_here"], ok_limited_235d ciBook b g_do_b165 g_class_4baa F_limited_235d, m_limited_235d, FunD.kp F_limited_235d, FunD.bindsN F_limited_235d fun _ _ _ _ _ _ us hl => match us, hl with | [_, _], _ => rfl, rfl⟩
  have g_hear_2917 : GloX P w K mg base "_law_hear" 3 (spQ (gBk (gNb K)) mg (sp_hear_2917 (He.ga K "Book") (errH K mg))) 12 := ⟨_, fd_hear_2917, ["_law_book", "_law_notes", "_law_action_here"], ok_hear_2917 ciBook b g_limited_235d F_hear_2917, m_hear_2917, FunD.kp F_hear_2917, FunD.bindsN F_hear_2917 fun _ _ _ _ _ _ us hl => match us, hl with | [_, _, _], _ => rfl, rfl⟩
  have g_is_action_d748 : Glo P w K mg base "is_action" 1 (spP K (sp_is_action_d748)) 1 := ⟨_, fd_is_action_d748, ["value"], ok_is_action_d748 b  F_is_action_d748, m_is_action_d748, FunD.kp F_is_action_d748, FunD.bindsN F_is_action_d748 fun _ _ _ _ _ _ us hl => match us, hl with | [_], _ => rfl, rfl⟩
  have g_Book_performL_64d2 : ∀ U : UT, GloMU P w K mg base U (He.ga K "Book") "perform" 3 (spQ (gBk (gNb K)) mg (sp_Book_performL_64d2 (He.ga K "Book") (lisA P w K mg base 14 (gBk (gNb K)) U))) 15 := fun U => ⟨_, fd_Book_performL_64d2, ["self", "batch", "on_step"], ok_Book_performL_64d2 ciBook b g_Book_keep_3d59 j_BatchFailed F_Book_performL_64d2, He.meth_ok (c.fact 102 (f := .meth "Book" "perform") rfl), FunD.bindsN F_Book_performL_64d2 fun _ _ _ _ _ _ us hl => match us, hl with | [_, _, _], _ => rfl, rfl⟩
  obtain ⟨dv_Book_runL_35fc, hv_Book_runL_35fc, hb_Book_runL_35fc⟩ := FunD.binds0 (ps := ["self", "batch", "on_step"]) F_Book_runL_35fc 2 (by intro z; cases z) rfl fun D doc pm an cdv ct us ks h1 h2 => match us, ks, h1, h2 with | [_, _], [_], _, _ => ⟨_, _, _, _, _, _, rfl, rfl, rfl⟩
  have g_Book_runL_35fc : GloRU P w K mg base (He.ga K "Book") "run" "on_step" (fun U => (spQ (gBk (gNb K)) mg (sp_Book_runL_35fc (He.ga K "Book") (lisA P w K mg base 14 (gBk (gNb K)) U)))) 16 := ⟨_, fd_Book_runL_35fc, ["self", "batch", "on_step"], fun U => ok_Book_runL_35fc ciBook b g_is_action_d748 g_Book_need_idle_a04f (g_Book_performL_64d2 U) F_Book_runL_35fc, He.meth_ok (c.fact 103 (f := .meth "Book" "run") rfl), kb_Book_runL_35fc F_Book_runL_35fc⟩
  have g_Book_log_00c1 : GloMX P w K mg base (He.ga K "Book") "log" 1 (spBX K mg (sp_Book_log_00c1 (He.ga K "Book"))) 1 := ⟨_, fd_Book_log_00c1, ["self"], ok_Book_log_00c1 ciBook b  F_Book_log_00c1, He.meth_ok (c.fact 104 (f := .meth "Book" "log") rfl), FunD.bindsN F_Book_log_00c1 fun _ _ _ _ _ _ us hl => match us, hl with | [_], _ => rfl, rfl⟩
  have g_Book___len___d650 : GloD P w K mg base (He.ga K "Book") "__len__" (spBX K mg (sp_Book___len___d650 (He.ga K "Book"))) 1 := ⟨_, fd_Book___len___d650, "self", ok_Book___len___d650 ciBook b  F_Book___len___d650, He.meth_ok (c.fact 105 (f := .meth "Book" "__len__") rfl), FunD.bindsN F_Book___len___d650 fun _ _ _ _ _ _ us hl => match us, hl with | [_], _ => rfl⟩
  have g_full_right_e03f : GloX P w K mg base "_law_full_right" 2 (spQ (gBk (gT (none0 K) (tabsT K tfl))) mg (sp_full_right_e03f (He.ga K "Book") (errH K mg))) 17 := ⟨_, fd_full_right_e03f, ["_law_book", "_law_action_here"], ok_full_right_e03f tb ciBook b g_hear_2917 g_Book_runL_35fc g_Book_undo_292d g_Book_log_00c1 g_Book___len___d650 F_full_right_e03f, m_full_right_e03f, FunD.kp F_full_right_e03f, FunD.bindsN F_full_right_e03f fun _ _ _ _ _ _ us hl => match us, hl with | [_, _], _ => rfl, rfl⟩
  have g_undone_a4b1 : GloX P w K mg base "_law_undone" 1 (spBX K mg (sp_undone_a4b1 (He.ga K "Book") (errH K mg))) 3 := ⟨_, fd_undone_a4b1, ["_law_book"], ok_undone_a4b1 ciBook b g_class_4baa g_Book_undo_292d F_undone_a4b1, m_undone_a4b1, FunD.kp F_undone_a4b1, FunD.bindsN F_undone_a4b1 fun _ _ _ _ _ _ us hl => match us, hl with | [_], _ => rfl, rfl⟩
  have g_is_tuple_7f37 : Glo P w K mg base "is_tuple" 3 (spP K (sp_is_tuple_7f37)) 1 := ⟨_, fd_is_tuple_7f37, ["value", "low", "high"], ok_is_tuple_7f37 b  F_is_tuple_7f37, m_is_tuple_7f37, FunD.kp F_is_tuple_7f37, FunD.bindsN F_is_tuple_7f37 fun _ _ _ _ _ _ us hl => match us, hl with | [_, _, _], _ => rfl, rfl⟩
  have g_item_fault_6a6b : Glo P w K mg base "item_fault" 2 (spP K (sp_item_fault_6a6b)) 4 := ⟨_, fd_item_fault_6a6b, ["index", "item"], ok_item_fault_6a6b b g_is_tuple_7f37 g_is_mark_f168 g_is_weight_6941 F_item_fault_6a6b, m_item_fault_6a6b, FunD.kp F_item_fault_6a6b, FunD.bindsN F_item_fault_6a6b fun _ _ _ _ _ _ us hl => match us, hl with | [_, _], _ => rfl, rfl⟩
  have g_rule_fault_c7d6 : Glo P w K mg base "rule_fault" 3 (spP K (sp_rule_fault_c7d6)) 3 := ⟨_, fd_rule_fault_c7d6, ["index", "rule", "items"], ok_rule_fault_c7d6 b g_is_tuple_7f37 g_is_within_3133 F_rule_fault_c7d6, m_rule_fault_c7d6, FunD.kp F_rule_fault_c7d6, FunD.bindsN F_rule_fault_c7d6 fun _ _ _ _ _ _ us hl => match us, hl with | [_, _, _], _ => rfl, rfl⟩
  have g_find_fault_effe : Glo P w K mg base "find_fault" 1 (spP K (sp_find_fault_effe)) 5 := ⟨_, fd_find_fault_effe, ["value"], ok_find_fault_effe b g_is_tuple_7f37 g_item_fault_6a6b g_rule_fault_c7d6 F_find_fault_effe, m_find_fault_effe, FunD.kp F_find_fault_effe, FunD.bindsN F_find_fault_effe fun _ _ _ _ _ _ us hl => match us, hl with | [_], _ => rfl, rfl⟩
  have g_Book___init___c536 : GloCX P w K mg base (He.ga K "Book") "Book" 2 (spBX K mg (sp_Book___init___c536 (He.ga K "Book"))) 6 := ⟨_, fd_Book___init___c536, ["self", "panel"], ok_Book___init___c536 ciBook b g_find_fault_effe F_Book___init___c536, mk_Book, m_Book___init___c536, FunD.bindsN F_Book___init___c536 fun _ _ _ _ _ _ us hl => match us, hl with | [_, _], _ => rfl, rfl⟩
  have g_Book_actions_a3eb : GloMX P w K mg base (He.ga K "Book") "actions" 1 (spBX K mg (sp_Book_actions_a3eb (He.ga K "Book"))) 1 := ⟨_, fd_Book_actions_a3eb, ["self"], ok_Book_actions_a3eb ciBook b  F_Book_actions_a3eb, He.meth_ok (c.fact 106 (f := .meth "Book" "actions") rfl), FunD.bindsN F_Book_actions_a3eb fun _ _ _ _ _ _ us hl => match us, hl with | [_], _ => rfl, rfl⟩
  have g_sixty_right_718b : GloX P w K mg base "_law_sixty_right" 1 (spQ (gBk (gT (none0 K) (tabsT K tfl))) mg (sp_sixty_right_718b (He.ga K "Book") (errH K mg))) 18 := ⟨_, fd_sixty_right_718b, ["_law_panel_here"], ok_sixty_right_718b ciBook b g_full_right_e03f g_do_b165 g_limited_235d g_undone_a4b1 g_Book___init___c536 g_Book___len___d650 g_Book_actions_a3eb F_sixty_right_718b, m_sixty_right_718b, FunD.kp F_sixty_right_718b, FunD.bindsN F_sixty_right_718b fun _ _ _ _ _ _ us hl => match us, hl with | [_], _ => rfl, rfl⟩
  have g_one_be76 : ∀ r c q, Glo P w K mg base "_law_one" 2 (spG (gr K r c q) (sp_one_be76 r)) 2 := fun r c q => ⟨_, fd_one_be76, ["_law_drawn", "_law_items_here"], ok_one_be76 b g_next F_one_be76, m_one_be76, FunD.kp F_one_be76, FunD.bindsN F_one_be76 fun _ _ _ _ _ _ us hl => match us, hl with | [_, _], _ => rfl, rfl⟩
  have g_action_0538 : ∀ r c q, Glo P w K mg base "_law_action" 2 (spG (gr K r c q) (sp_action_0538 r)) 3 := fun r c q => ⟨_, fd_action_0538, ["_law_drawn", "_law_panel_here"], ok_action_0538 b g_next g_one_be76 F_action_0538, m_action_0538, FunD.kp F_action_0538, FunD.bindsN F_action_0538 fun _ _ _ _ _ _ us hl => match us, hl with | [_, _], _ => rfl, rfl⟩
  have g_integer_3c56 : Glo P w K mg base "_law_integer" 3 (spP K (sp_integer_3c56)) 1 := ⟨_, fd_integer_3c56, ["_law_value", "_law_low", "_law_high"], ok_integer_3c56 b  F_integer_3c56, m_integer_3c56, FunD.kp F_integer_3c56, FunD.bindsN F_integer_3c56 fun _ _ _ _ _ _ us hl => match us, hl with | [_, _, _], _ => rfl, rfl⟩
  have g_index_4ee9 : Glo P w K mg base "_law_index" 2 (spP K (sp_index_4ee9)) 2 := ⟨_, fd_index_4ee9, ["_law_value", "_law_count"], ok_index_4ee9 b g_integer_3c56 F_index_4ee9, m_index_4ee9, FunD.kp F_index_4ee9, FunD.bindsN F_index_4ee9 fun _ _ _ _ _ _ us hl => match us, hl with | [_, _], _ => rfl, rfl⟩
  have g_rule_error_9639 : Glo P w K mg base "_law_rule_error" 2 (spP K (sp_rule_error_9639)) 3 := ⟨_, fd_rule_error_9639, ["_law_panel_here", "_law_action_here"], ok_rule_error_9639 b g_index_4ee9 F_rule_error_9639, m_rule_error_9639, FunD.kp F_rule_error_9639, FunD.bindsN F_rule_error_9639 fun _ _ _ _ _ _ us hl => match us, hl with | [_, _], _ => rfl, rfl⟩
  have g_item_error_fff0 : Glo P w K mg base "_law_item_error" 2 (spP K (sp_item_error_fff0)) 3 := ⟨_, fd_item_error_fff0, ["_law_panel_here", "_law_action_here"], ok_item_error_fff0 b g_index_4ee9 g_integer_3c56 F_item_error_fff0, m_item_error_fff0, FunD.kp F_item_error_fff0, FunD.bindsN F_item_error_fff0 fun _ _ _ _ _ _ us hl => match us, hl with | [_, _], _ => rfl, rfl⟩
  have g_without_de10 : Glo P w K mg base "_law_without" 2 (spP K (sp_without_de10)) 1 := ⟨_, fd_without_de10, ["_law_panel_here", "_law_item"], ok_without_de10 b  F_without_de10, m_without_de10, FunD.kp F_without_de10, FunD.bindsN F_without_de10 fun _ _ _ _ _ _ us hl => match us, hl with | [_, _], _ => rfl, rfl⟩
  have g_after_0530 : Glo P w K mg base "_law_after" 2 (spP K (sp_after_0530)) 4 := ⟨_, fd_after_0530, ["_law_panel_here", "_law_action_here"], ok_after_0530 b g_rule_error_9639 g_item_error_fff0 g_without_de10 F_after_0530, m_after_0530, FunD.kp F_after_0530, FunD.bindsN F_after_0530 fun _ _ _ _ _ _ us hl => match us, hl with | [_, _], _ => rfl, rfl⟩
  have g_Book_panel_40b0 : GloMX P w K mg base (He.ga K "Book") "panel" 1 (spBX K mg (sp_Book_panel_40b0 (He.ga K "Book"))) 1 := ⟨_, fd_Book_panel_40b0, ["self"], ok_Book_panel_40b0 ciBook b  F_Book_panel_40b0, He.meth_ok (c.fact 107 (f := .meth "Book" "panel") rfl), FunD.bindsN F_Book_panel_40b0 fun _ _ _ _ _ _ us hl => match us, hl with | [_], _ => rfl, rfl⟩
  have g_Book___str___29d1 : GloD P w K mg base (He.ga K "Book") "__str__" (spBX K mg (sp_Book___str___29d1 (He.ga K "Book"))) 2 := ⟨_, fd_Book___str___29d1, "self", ok_Book___str___29d1 ciBook b g_Book_panel_40b0 F_Book___str___29d1, He.meth_ok (c.fact 108 (f := .meth "Book" "__str__") rfl), FunD.bindsN F_Book___str___29d1 fun _ _ _ _ _ _ us hl => match us, hl with | [_], _ => rfl⟩
  have g_seen_4665 : GloX P w K mg base "_law_seen" 1 (spBX K mg (sp_seen_4665 (He.ga K "Book"))) 5 := ⟨_, fd_seen_4665, ["_law_book"], ok_seen_4665 ciBook b g_Book_panel_40b0 g_Book_actions_a3eb g_Book___len___d650 g_Book___str___29d1 F_seen_4665, m_seen_4665, FunD.kp F_seen_4665, FunD.bindsN F_seen_4665 fun _ _ _ _ _ _ us hl => match us, hl with | [_], _ => rfl, rfl⟩
  have g_due_seen_6cad : Glo P w K mg base "_law_due_seen" 2 (spP K (sp_due_seen_6cad)) 1 := ⟨_, fd_due_seen_6cad, ["_law_panel_here", "_law_actions"], ok_due_seen_6cad b  F_due_seen_6cad, m_due_seen_6cad, FunD.kp F_due_seen_6cad, FunD.bindsN F_due_seen_6cad fun _ _ _ _ _ _ us hl => match us, hl with | [_, _], _ => rfl, rfl⟩
  exact ok_law_9d52 ciBook b g_draws g_panel_3836 g_states_right_c0ad g_sixty_right_718b g_next g_action_0538 g_after_0530 g_equal_17a7 g_undone_a4b1 g_do_b165 g_seen_4665 g_due_seen_6cad g_Book___init___c536 F_law_9d52
end Pm
open PySem PySem.W PySem.Calls PyProof.Rows
theorem PySem.Challenge.cw_poolmarks_k67_undo_and_kept_states_holds : PySem.Challenge.rw_poolmarks_k67_undo_and_kept_states.Holds := by
  w_on; o_law
  refine HandSHeadRun.head_any (r := OpenLaw.row PySem.Challenge.rw_poolmarks_k67_undo_and_kept_states) (q := view (OpenLaw.row PySem.Challenge.rw_poolmarks_k67_undo_and_kept_states).prog [77]) (H := Pm.hk) (ob := Pm.ob) (M := 20000) (loose := Pm.loose) (d := HandSHeadRun.topDef (OpenLaw.row PySem.Challenge.rw_poolmarks_k67_undo_and_kept_states).prog 77) (kwd := []) Pm.ob_eq
    (by kernel_rfl) (fun s => by kernel_rfl) Pm.run (by kernel_rfl) (by kernel_rfl) (by kernel_rfl) (by rfl) (by first | assumption | decide +kernel) (by decide +kernel) ⟨rfl, rfl, rfl, rfl, rfl, by decide +kernel⟩ ?hw ?hc
  case hw => w_witness2
  case hc =>
    refine Pm.walk_ofGT (l := PySem.Challenge.rw_poolmarks_k67_undo_and_kept_states) (n := 63) (k := 27) (x := "_law_script") (xs := Pm.tfl) rfl (by decide) (by kernel_rfl) ⟨rfl, by decide, by decide⟩ ?F
    intro w mg fa h Y G hmg0
    obtain ⟨K, KX, c⟩ := Y
    have hmg : mg ("law" : PySem.Str) = some (.ref fa) := by
      have e : (HandSHeadRun.topDef (OpenLaw.row PySem.Challenge.rw_poolmarks_k67_undo_and_kept_states).prog 77).name = ("law" : PySem.Str) := by kernel_rfl
      rw [← e]
      exact hmg0
    obtain ⟨fd, hb, hF⟩ := Pm.facts (P := (PySem.Challenge.rw_poolmarks_k67_undo_and_kept_states).prog) (w := w) KX G hmg c
    exact ⟨K, fd, KX, hb, fun y hy => ⟨(c.tab y hy).1, (c.tab y hy).2.1, PySem.W.codeHd_of_K KX (c.tab y hy).2.2⟩, c.apart, hF⟩

