/- The abstract machine without a bound on its steps: its runs satisfy its own equation. -/
import Derived.Test.YtcjkjjnnicadfaaGreatDoorAbSound5
set_option linter.unusedSimpArgs false
set_option linter.unusedVariables false
namespace Go.Ab
open Go

def Le (run run' : RunT) : Prop := ∀ rd c fr σ r, run rd c fr σ = some r → run' rd c fr σ = some r

/-- What depends on runs in a way that needs finitely many of them. -/
structure Cont {α : Type} (Φ : RunT → Option α) : Prop where
  mono : ∀ run run', Le run run' → ∀ r, Φ run = some r → Φ run' = some r
  fin : ∀ (ch : Nat → RunT) (l : RunT), (∀ f g, f ≤ g → Le (ch f) (ch g)) → (∀ rd c fr σ r, l rd c fr σ = some r → ∃ f, ch f rd c fr σ = some r) → ∀ r, Φ l = some r → ∃ f, Φ (ch f) = some r

theorem Cont.const {α : Type} (x : Option α) : Cont fun _ => x := ⟨fun _ _ _ _ h => h, fun _ _ _ _ _ h => ⟨0, h⟩⟩
theorem Cont.run (rd : Option Nat) (c : Code) (fr : Fr) (σ : St) : Cont fun run => run rd c fr σ := ⟨fun _ _ h r hr => h rd c fr σ r hr, fun _ _ _ h r hr => h rd c fr σ r hr⟩
theorem Cont.ob {α β : Type} {Φ : RunT → Option α} {Ψ : α → RunT → Option β} (h : Cont Φ) (k : ∀ a, Cont (Ψ a)) : Cont fun run => Ab.ob (Φ run) fun a => Ψ a run := by
  constructor
  · intro run run' hl r hr
    obtain ⟨a, h1, h2⟩ := ob_eq hr
    show Ab.ob (Φ run') _ = _
    rw [h.mono _ _ hl _ h1]
    exact (k a).mono _ _ hl _ h2
  · intro ch l hc hl r hr
    obtain ⟨a, h1, h2⟩ := ob_eq hr
    obtain ⟨f, hf⟩ := h.fin ch l hc hl _ h1
    obtain ⟨g, hg⟩ := (k a).fin ch l hc hl _ h2
    refine ⟨max f g, ?_⟩
    show Ab.ob (Φ (ch (max f g))) _ = _
    rw [h.mono _ _ (hc f _ (Nat.le_max_left _ _)) _ hf]
    exact (k a).mono _ _ (hc g _ (Nat.le_max_right _ _)) _ hg
theorem Cont.bb {β : Type} (c : Bool) {Φ : RunT → Option β} (h : Cont Φ) : Cont fun run => Ab.bb c (Φ run) := by
  cases c with
  | true => exact h
  | false => exact .const none
theorem Cont.bi {β : Type} (c : Bool) {Φ Ψ : RunT → Option β} (h : Cont Φ) (k : Cont Ψ) : Cont fun run => Ab.bi c (Φ run) (Ψ run) := by
  cases c with
  | true => exact h
  | false => exact k

section
variable {P : Program} {H : Sums}

theorem cont_onNormal (r : Res) {next : RunT → Fr → St → Option Res} (h : ∀ fr σ, Cont fun run => next run fr σ) : Cont fun run => onNormal r (next run) := by
  obtain ⟨o, fr, σ⟩ := r
  cases o with
  | normal => exact h fr σ
  | exit i => exact .const _
  | ret => exact .const _
  | pan v => exact .const _

theorem cont_callG (g : Nat) (vs : List Value) (σ : St) : Cont fun run => callG P H run g vs σ := by
  unfold callG
  cases H g with
  | some s => exact .const _
  | none =>
    refine Cont.ob (.const _) fun fn => ?_
    cases fn.body with
    | none => exact .const _
    | some body => exact Cont.ob (.run _ _ _ _) fun _ => .const _
theorem cont_callY (b : Nat) (vs : List Value) (σ : St) : Cont fun run => callY run b vs σ := by
  unfold callY
  refine Cont.ob (.const _) fun L => ?_
  obtain ⟨fr, ps, assign, body, st, pend⟩ := L
  refine Cont.bb _ (Cont.ob (.const _) fun fr => Cont.ob (.run _ _ _ _) fun r => ?_)
  obtain ⟨o, fr, σ⟩ := r
  cases o with
  | exit i => exact .const _
  | ret => exact .const _
  | pan v => exact .const _
  | normal =>
    refine Cont.ob (.const _) fun L => ?_
    obtain ⟨fr, ps, assign, body, st, pend⟩ := L
    exact Cont.bb _ (Cont.ob (.const _) fun σ => Cont.ob (.run _ _ _ _) fun r => .const _)
theorem cont_callF (t : Tgt) (vs : List Value) (σ : St) : Cont fun run => callF P H run t vs σ := by
  cases t with
  | fn g => exact cont_callG g vs σ
  | yld b => exact cont_callY b vs σ

theorem cont_step (fr : Fr) (σ : St) (o : Oper) : Cont fun run => step P (callF P H run) fr σ o := by
  have key : ∀ x : Op, Cont fun run => stepK x P (callF P H run) fr σ o := by
    intro x
    cases x with
    | call c =>
      show Cont fun run => stepC P (callF P H run) fr σ c
      unfold stepC
      cases c.callee with
      | value f =>
        show Cont fun run => asCall (eCall (callF P H run) fr σ c f)
        unfold asCall eCall
        refine Cont.ob (Cont.ob (.const _) fun vs => Cont.ob (.const _) fun v => Cont.ob (.const _) fun f => ?_) fun _ => .const _
        obtain ⟨g, first, captured⟩ := f
        exact cont_callF _ _ _
      | builtin b => exact .const _
      | _ => exact .const _
    | _ => exact .const _
  exact key o.op

theorem cont_opsV (all : Array Oper) : ∀ (l : List Oper) (fr : Fr) (σ : St), Cont fun run => opsV P (callF P H run) all l fr σ := by
  intro l
  induction l with
  | nil => intro fr σ; exact .const _
  | cons o l ih =>
    intro fr σ
    refine Cont.ob (.const _) fun c => Cont.bi c (Cont.ob (cont_step fr σ o) fun r => ?_) (ih _ _)
    obtain ⟨v, σ1, d⟩ := r
    cases d with
    | pan => exact .const _
    | none => exact ih _ _
    | read r => exact ih _ _
    | eff => exact ih _ _
theorem cont_opsD (all : Array Oper) : ∀ (l : List Oper) (i : Nat) (fr : Fr) (σ : St) (ds : List Trace), Cont fun run => opsD P (callF P H run) all l i fr σ ds := by
  intro l
  induction l with
  | nil => intro i fr σ ds; exact .const _
  | cons o l ih =>
    intro i fr σ ds
    refine Cont.ob (.const _) fun c => Cont.bi c (Cont.ob (cont_step fr σ o) fun r => ?_) (ih _ _ _ _)
    obtain ⟨v, σ1, d⟩ := r
    cases d with
    | pan => exact .const _
    | none => exact ih _ _ _ _
    | read r => exact ih _ _ _ _
    | eff => exact ih _ _ _ _

theorem cont_exec1 (rd : Option Nat) (c : Code) (fr : Fr) (σ : St) : Cont fun run => exec1 P H run rd c fr σ := by
  show Cont fun run => execK c P H run rd fr σ
  cases c with
  | region id os draw =>
    refine Cont.bi draw (Cont.ob (cont_opsD _ _ _ _ _ _) fun r => ?_) (cont_opsV _ _ _ _)
    exact .const _
  | seq a b => exact Cont.ob (.run _ _ _ _) fun r => cont_onNormal r fun fr σ => .run _ _ _ _
  | cond c a b => exact Cont.ob (.const _) fun v => Cont.ob (.const _) fun t => Cont.bi t (.run _ _ _ _) (.run _ _ _ _)
  | block id c => exact Cont.ob (.run _ _ _ _) fun r => .const _
  | scope c => exact .run _ _ _ _
  | loop c => exact Cont.ob (.run _ _ _ _) fun r => cont_onNormal r fun fr σ => .run _ _ _ _
  | rangeFunc f ps assign body =>
    refine Cont.bb _ (Cont.ob (.const _) fun v => Cont.ob (.const _) fun f => ?_)
    obtain ⟨t, first, captured⟩ := f
    exact Cont.ob (.const _) fun g => Cont.bb _ (Cont.ob (cont_callF _ _ _) fun r => .const _)
  | _ => exact .const _

theorem exec_le : ∀ f, Le (exec P H f) (exec P H (f + 1)) := by
  intro f
  induction f with
  | zero => intro rd c fr σ r h; cases h
  | succ f ih => intro rd c fr σ r h; exact (cont_exec1 rd c fr σ).mono _ _ ih r h
theorem exec_mono (f g : Nat) (h : f ≤ g) : Le (exec P H f) (exec P H g) := by
  induction h with
  | refl => intro _ _ _ _ _ h; exact h
  | step _ ih => intro rd c fr σ r h; exact exec_le _ _ _ _ _ _ (ih _ _ _ _ _ h)

open Classical in
/-- The runs, without a bound. -/
noncomputable def lim (P : Program) (H : Sums) : RunT := fun rd c fr σ => if h : ∃ f r, exec P H f rd c fr σ = some r then exec P H h.choose rd c fr σ else none

theorem lim_of {f : Nat} {rd : Option Nat} {c : Code} {fr : Fr} {σ : St} {r : Res} (h : exec P H f rd c fr σ = some r) : lim P H rd c fr σ = some r := by
  have hx : ∃ f r, exec P H f rd c fr σ = some r := ⟨f, r, h⟩
  obtain ⟨r', h'⟩ := hx.choose_spec
  unfold lim
  rw [dif_pos hx, h']
  have h1 := exec_mono _ _ (Nat.le_max_left f hx.choose) _ _ _ _ _ h
  have h2 := exec_mono _ _ (Nat.le_max_right f hx.choose) _ _ _ _ _ h'
  rw [h1] at h2
  exact h2.symm
theorem lim_some {rd : Option Nat} {c : Code} {fr : Fr} {σ : St} {r : Res} (h : lim P H rd c fr σ = some r) : ∃ f, exec P H f rd c fr σ = some r := by
  unfold lim at h
  split at h
  · exact ⟨_, h⟩
  · cases h
theorem lim_eq (rd : Option Nat) (c : Code) (fr : Fr) (σ : St) : lim P H rd c fr σ = execK c P H (lim P H) rd fr σ := by
  apply Option.ext
  intro r
  constructor
  · intro h
    obtain ⟨f, h⟩ := lim_some h
    cases f with
    | zero => cases h
    | succ f => exact (cont_exec1 rd c fr σ).mono (exec P H f) _ (fun _ _ _ _ _ h => lim_of h) r h
  · intro h
    obtain ⟨f, h⟩ := (cont_exec1 rd c fr σ).fin (exec P H) (lim P H) exec_mono (fun _ _ _ _ _ h => lim_some h) r h
    exact lim_of (f := f + 1) h

/-- A call, without a bound. -/
noncomputable def go (P : Program) (H : Sums) (t : Tgt) (vs : List Value) (σ : St) : Option CR := callF P H (lim P H) t vs σ
theorem go_some {t : Tgt} {vs : List Value} {σ : St} {r : CR} (h : go P H t vs σ = some r) : ∃ f, callF P H (exec P H f) t vs σ = some r :=
  (cont_callF t vs σ).fin (exec P H) (lim P H) exec_mono (fun _ _ _ _ _ h => lim_some h) r h
theorem go_of {f : Nat} {t : Tgt} {vs : List Value} {σ : St} {r : CR} (h : callF P H (exec P H f) t vs σ = some r) : go P H t vs σ = some r :=
  (cont_callF t vs σ).mono _ _ (fun _ _ _ _ _ h => lim_of h) r h
end
end Go.Ab
