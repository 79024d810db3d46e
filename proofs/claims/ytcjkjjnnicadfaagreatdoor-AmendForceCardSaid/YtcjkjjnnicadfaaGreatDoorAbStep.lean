/- One operation of the abstract machine, of whatever kind. -/
import Derived.Test.YtcjkjjnnicadfaaGreatDoorAbMap
import Derived.OrdersIn
set_option linter.unusedSimpArgs false
set_option linter.unusedVariables false
namespace Go.Ab
open Go

/-- How memory goes on: no block goes, and one that changes bears a greater number. -/
structure Adv (σ σ' : St) : Prop where
  n : σ.n ≤ σ'.n
  ver : ∀ b, b < σ.n → σ'.h.get b = σ.h.get b ∨ σ.ver b < σ'.ver b
  fresh : (∀ b, σ.n ≤ b → σ.h.get b = none) → ∀ b, σ'.n ≤ b → σ'.h.get b = none
theorem Adv.refl (σ : St) : Adv σ σ := ⟨Nat.le_refl _, fun _ _ => .inl rfl, fun h => h⟩
theorem ver_eq {σ σ' : St} {b : Nat} (h : σ'.h.get b = σ.h.get b) : σ'.ver b = σ.ver b := by unfold St.ver; rw [h]
theorem Adv.le {σ σ' : St} (h : Adv σ σ') {b : Nat} (hb : b < σ.n) : σ.ver b ≤ σ'.ver b := by
  rcases h.ver b hb with h1 | h1
  · rw [ver_eq h1]; exact Nat.le_refl _
  · omega
theorem Adv.trans {σ σ' σ'' : St} (h : Adv σ σ') (k : Adv σ' σ'') : Adv σ σ'' := by
  refine ⟨Nat.le_trans h.n k.n, fun b hb => ?_, fun hf => k.fresh (h.fresh hf)⟩
  have hb' := Nat.lt_of_lt_of_le hb h.n
  rcases k.ver b hb' with h2 | h2
  · rcases h.ver b hb with h1 | h1
    · exact .inl (h2.trans h1)
    · exact .inr (by rw [ver_eq h2]; exact h1)
  · exact .inr (Nat.lt_of_le_of_lt (h.le hb) h2)
theorem Adv.new (σ : St) (cs : List Value) (k : Kind := .row) : Adv σ (σ.newK cs k) :=
  ⟨Nat.le_succ _, fun b hb => .inl (Tr.get_set_ne _ _ (by omega)), fun hf b hb => by
    change σ.n + 1 ≤ b at hb
    show (σ.h.set σ.n _).get b = none
    rw [Tr.get_set_ne _ _ (by omega)]; exact hf b (by omega)⟩
theorem Adv.set {σ : St} {b : Nat} {B B' : Blk} (hB : σ.blk b = some B) (hv : B'.ver = B.ver + 1) : Adv σ ⟨σ.h.set b B', σ.n⟩ := by
  refine ⟨Nat.le_refl _, fun b' hb => ?_, fun hf b' hb => ?_⟩
  · by_cases hbb : b' = b
    · subst hbb
      right
      have h1 := (blk_get hB).1
      have e1 : σ.ver b' = B.ver := by unfold St.ver; rw [h1]
      have e2 : (⟨σ.h.set b' B', σ.n⟩ : St).ver b' = B'.ver := by
        show (match (σ.h.set b' B').get b' with | some B => B.ver | none => 0) = _
        rw [Tr.get_set_same]
      rw [e1, e2, hv]; omega
    · exact .inl (Tr.get_set_ne _ _ hbb)
  · change σ.n ≤ b' at hb
    show (σ.h.set b B').get b' = none
    have hbb : b' ≠ b := by
      intro he
      subst he
      have := hf b' hb
      rw [(blk_get hB).1] at this
      cases this
    rw [Tr.get_set_ne _ _ hbb]; exact hf b' hb
theorem Adv.write {σ σ' : St} {b off : Nat} {vs : List Value} (h : σ.write b off vs = some σ') : Adv σ σ' := by
  obtain ⟨B, cs, h1, h2, h3, h4, rfl⟩ := write_facts h
  exact .set (rblk_blk h1).1 rfl
theorem Adv.kill {σ σ' : St} {b : Nat} (h : σ.kill b = some σ') : Adv σ σ' := by
  obtain ⟨B, h1, h2, rfl⟩ := kill_facts h
  exact .set (rblk_blk h1).1 rfl

/-- May an operation of this kind change memory? -/
def isEff (o : Op) : Bool := match o with
  | .store .. => true
  | .lookup .. => true
  | .mapUpdate .. => true
  | .insert .. => true
  | .makeMap .. => true
  | .call c => (match c.callee with
    | .builtin .len | .builtin .max | .builtin .min => false
    | _ => true)
  | _ => false

section
variable {P : Program} {base : Env} {G : Nat}

/-- The package-level variables lie where the model has them. -/
def Glob (ρ : Place) (G : Nat) : Prop := ∀ g, g < G → ∃ m, ρ g = some ⟨g, 0, m⟩
theorem Glob.mono {ρ ρ' : Place} {G : Nat} (hm : ρ.le ρ') (h : Glob ρ G) : Glob ρ' G := fun g hg => let ⟨m, h1⟩ := h g hg; ⟨m, hm _ _ h1⟩

/-- How the model's call ends. -/
def ended (pan : Bool) (v' : Value) : Ending := match pan with
  | true => .panicked [{ v := v', recovered := false }]
  | false => .returned v'
/-- How an activation is left by a panic. -/
def panX (v' : Value) : Exit := .panic [{ v := v', recovered := false }]
/-- Every function, every depth; in a round of a range over a function or not. -/
def FW (r : Option Nat) : Fence := { Fence.wide with round := r }

/-- What a call of a function comes to. -/
def CallOk (P : Program) (base : Env) (ρ : Place) (g : Nat) (vs' : List Value) (σ : St) (w : World) (r : CR) : Prop :=
  ∃ fn, P.funcs[g]? = some fn ∧ (fn.name == "runtime.NumGoroutine") = false ∧
    ((fn.body.isSome = true ∧ Calls P g ⟨vs'⟩ w fun e w' => ∃ v' ρ', e = ended r.pan v' ∧ Rel base ρ' r.σ w' ∧ Fram ρ σ w ρ' r.σ w' ∧ VRel ρ' r.v v') ∨
     (∃ v', (callFunc g ⟨vs'⟩).run P w = .ok (.value v') w ∧ r.σ = σ ∧ r.pan = false ∧ VRel ρ r.v v'))
/-- What a round of a range over a function comes to. -/
def RoundOk (P : Program) (base : Env) (ρ : Place) (l : Nat) (vs' : List Value) (σ : St) (w : World) (r : CR) : Prop :=
  ∃ f tmps assign body, (Instr.yield l ⟨vs'⟩).run P w = .ok (.round l f tmps assign body) w ∧
    RoundIn Fence.wide 0 P l f tmps assign body w fun e w' => ∃ v' ρ', e = ended r.pan v' ∧ Rel base ρ' r.σ w' ∧ Fram ρ σ w ρ' r.σ w' ∧ VRel ρ' r.v v'
def TgtOk (P : Program) (base : Env) (ρ : Place) (t : Tgt) (vs' : List Value) (σ : St) (w : World) (r : CR) : Prop := match t with
  | .fn g => CallOk P base ρ g vs' σ w r
  | .yld b => ∀ q, ρ b = some q → RoundOk P base ρ q.c vs' σ w r
/-- A table of calls that is as the model is. -/
def CallsOk (P : Program) (base : Env) (G : Nat) (call : CallT) : Prop :=
  ∀ t vs σ r, call t vs σ = some r → Adv σ r.σ ∧ ∀ ρ w vs' N, Rel base ρ σ w → Free ρ σ.n N → r.σ.n ≤ N → Glob ρ G → VsRel ρ vs vs' → TgtOk P base ρ t vs' σ w r

def PureFact (P : Program) (fr : Fr) (o : Oper) (v : Value) : Prop := ∀ ρ e w, Known ρ fr e o.op.operands.toList → PureOk P ρ e o w v
def NewFact (P : Program) (fr : Fr) (o : Oper) (cs : List Value) (vf : Nat → Value) : Prop := ∀ ρ e w, Known ρ fr e o.op.operands.toList → NewOk P ρ e o w cs vf
def ReadFact (P : Program) (fr : Fr) (σ : St) (o : Oper) (v : Value) (r : RowAt) : Prop :=
  (∃ cs, σ.read r.b r.off r.n = some cs) ∧ ∀ ρ e w, Known ρ fr e o.op.operands.toList → (∃ q, ρ r.b = some q) ∧ ((∀ q cs, ρ r.b = some q → σ.read r.b r.off r.n = some cs → Seg ρ w q r.off cs) → PureOk P ρ e o w v)
def EffFact (P : Program) (base : Env) (G : Nat) (fr : Fr) (σ : St) (o : Oper) (v : Value) (σ' : St) : Prop :=
  Adv σ σ' ∧ isEff o.op = true ∧ ∀ ρ (a : Act) w N, Known ρ fr a.eval o.op.operands.toList → Rel base ρ σ w → Free ρ σ.n N → σ'.n ≤ N → Glob ρ G →
    ∀ (rd : Option Nat) (next : Act → World → Prop) (Q : Exit → Act → World → Prop), (∀ v' w' ρ', Rel base ρ' σ' w' → Fram ρ σ w ρ' σ' w' → VRel ρ' v v' → next (a.put o.dst v') w') → o.wpIn (FW rd) 0 P a w next Q
def PanFact (P : Program) (base : Env) (G : Nat) (fr : Fr) (σ : St) (o : Oper) (v : Value) (σ' : St) : Prop :=
  Adv σ σ' ∧ ∀ ρ (a : Act) w N, Known ρ fr a.eval o.op.operands.toList → Rel base ρ σ w → Free ρ σ.n N → σ'.n ≤ N → Glob ρ G →
    ∀ (rd : Option Nat) (next : Act → World → Prop) (Q : Exit → Act → World → Prop), (∀ v' w' ρ', Rel base ρ' σ' w' → Fram ρ σ w ρ' σ' w' → VRel ρ' v v' → Q (panX v') a w') → o.wpIn (FW rd) 0 P a w next Q

/-- An operation that is no 'defer' runs in a round as elsewhere. -/
theorem wpIn_of {rd : Option Nat} {a : Act} {w : World} {o : Oper} {next : Act → World → Prop} {Q : Exit → Act → World → Prop} (hd : ∀ c, o.op ≠ .defer c)
    (h : o.uponIn (FW rd) 0 P a next Q ((execOp a.eval o).run P w)) : o.wpIn (FW rd) 0 P a w next Q := by
  refine ⟨fun _ _ => trivial, ?_⟩
  rw [Oper.semAt_eq _ _ _ hd]
  exact h

theorem eff_fact {fr : Fr} {σ σ' : St} {o : Oper} {v : Value} (hd : ∀ c, o.op ≠ .defer c) (h1 : Adv σ σ') (h2 : isEff o.op = true)
    (h3 : ∀ ρ e w N, Known ρ fr e o.op.operands.toList → Rel base ρ σ w → Free ρ σ.n N → σ'.n ≤ N → EffOk P base ρ e o σ w σ' v) : EffFact P base G fr σ o v σ' := by
  refine ⟨h1, h2, fun ρ a w N hk hR hF hN hG rd next Q hn => wpIn_of hd ?_⟩
  obtain ⟨w', nx, v', ρ', k1, k2, k3, k4, k5⟩ := h3 ρ a.eval w N hk hR hF hN
  rw [k1]
  cases nx with
  | value u => rw [Oper.uponIn_value]; cases k2; exact hn _ _ _ k3 k4 k5
  | skip => rw [Oper.uponIn_skip]; cases k2; exact hn _ _ _ k3 k4 k5
  | _ => cases k2

theorem storeV_adv {σ σ' : St} {t : TypeId} {a v : Value} (h : storeV P σ t a v = some σ') : Adv σ σ' := by
  obtain ⟨⟨b, off⟩, h4, k4⟩ := ob_eq h
  obtain ⟨n, h5, k5⟩ := ob_eq (show ob (size? P t) _ = some σ' from k4)
  obtain ⟨ht, k6⟩ := bi_none k5
  obtain ⟨h6, h7⟩ := bb_eq k6
  exact .write h7
theorem append_adv {σ σ' : St} {t : TypeId} {s x v : Value} (h : appendV P σ t s x = some (v, σ')) : Adv σ σ' := by
  obtain ⟨el, h6, k6⟩ := ob_eq h
  obtain ⟨i, h7, k7⟩ := ob_eq k6
  clear h k6
  split at k7
  · rename_i bs len cap
    obtain ⟨⟨n, new⟩, h8, k8⟩ := ob_eq k7
    obtain ⟨h9, k9⟩ := bb_eq (show bb (Nat.ble 1 i.size) _ = some (v, σ') from k8)
    cases hle : Nat.ble (len + n) cap with
    | true =>
      rw [hle] at k9
      change appendIn σ i.size bs len cap n new = some (v, σ') at k9
      unfold appendIn at k9
      split at k9
      · obtain ⟨σ2, h10, k10⟩ := ob_eq k9
        cases k10
        exact .write h10
      · obtain ⟨h10, k10⟩ := bb_eq k9
        cases k10
        exact .refl _
    | false =>
      rw [hle] at k9
      obtain ⟨h10, k10⟩ := bb_eq (show bb _ _ = some (v, σ') from k9)
      obtain ⟨z, h11, k11⟩ := ob_eq k10
      obtain ⟨h12, k12⟩ := bb_eq k11
      unfold appendNew at k12
      split at k12
      · obtain ⟨h13, k13⟩ := bb_eq k12
        cases k13
        exact .new _ _
      · obtain ⟨old, h13, k13⟩ := ob_eq k12
        cases k13
        exact .new _ _
      · obtain ⟨h13, k13⟩ := bb_eq k12
        obtain ⟨old, h14, k14⟩ := ob_eq k13
        obtain ⟨σ1, h15, k15⟩ := ob_eq k14
        cases k15
        exact (Adv.kill h15).trans (.new _ _)
  · cases k7

theorem wmap_adv {σ σ' : St} {b : Nat} {cs : List Value} (h : σ.wmap b cs = some σ') : Adv σ σ' := by
  obtain ⟨B, h1, h2, rfl⟩ := wmap_facts h
  exact .set (mblk_blk h1).1 rfl
theorem mapUpdate_adv {fr : Fr} {σ σ' : St} {t : TypeId} {m k x : Operand} {v : Value} (h : eMapUpdate P fr σ t m k x = some (v, σ')) : Adv σ σ' := by
  obtain ⟨⟨kt, el⟩, h1, k1⟩ := ob_eq h
  obtain ⟨mv, h2, k2⟩ := ob_eq (show ob (ev fr m) _ = some (v, σ') from k1)
  obtain ⟨a, h3, k3⟩ := ob_eq k2
  obtain ⟨mb, h4, k4⟩ := ob_eq k3
  obtain ⟨kv, h5, k5⟩ := ob_eq k4
  obtain ⟨h6, k6⟩ := bb_eq k5
  obtain ⟨u, h7, k7⟩ := ob_eq k6
  obtain ⟨B, h8, k8⟩ := ob_eq k7
  obtain ⟨cs, h9, k9⟩ := ob_eq k8
  obtain ⟨σ1, h10, k10⟩ := ob_eq k9
  cases k10
  exact wmap_adv h10
theorem lookup_adv {fr : Fr} {σ σ' : St} {t : TypeId} {x ix : Operand} {ok : Bool} {v : Value} (h : eLookup P fr σ t x ix ok = some (v, σ')) : Adv σ σ' := by
  obtain ⟨⟨kt, el⟩, h1, k1⟩ := ob_eq h
  obtain ⟨m, h2, k2⟩ := ob_eq (show ob (ev fr x) _ = some (v, σ') from k1)
  obtain ⟨a, h3, k3⟩ := ob_eq k2
  obtain ⟨k, h4, k4⟩ := ob_eq k3
  obtain ⟨h5, k5⟩ := bb_eq k4
  obtain ⟨cs, h6, k6⟩ := ob_eq k5
  obtain ⟨r, h7, k7⟩ := ob_eq k6
  obtain ⟨⟨u, b⟩, h8, k8⟩ := ob_eq k7
  cases k8
  exact .refl _
theorem makeMap_adv {fr : Fr} {σ σ' : St} {r : Option Operand} {v : Value} (h : eMakeMap fr σ r = some (v, σ')) : Adv σ σ' := by
  obtain ⟨h1, h2⟩ := bb_eq h
  cases h2
  exact .new _ _ _

def TgtRel (ρ : Place) (u' : Value) (t : Tgt) (first' captured' : List Value) : Prop := match t with
  | .fn g => u' = .func (.func g) ⟨first'⟩ ⟨captured'⟩
  | .yld b => ∃ q, ρ b = some q ∧ u' = .func (.yield q.c) ⟨[]⟩ ⟨[]⟩ ∧ first' = [] ∧ captured' = []
theorem func_rel {ρ : Place} {u u' : Value} {f : Fun} (h : VRel ρ u u') (hf : func? u = some f) : ∃ first' captured', TgtRel ρ u' f.g first' captured' ∧ VsRel ρ f.first first' ∧ VsRel ρ f.captured captured' := by
  unfold func? at hf
  split at hf
  · cases hf
    cases h with
    | func hy h1 h2 => exact ⟨_, _, rfl, h1, h2⟩
    | scal hs => simp [scal] at hs
  · cases hf
    cases h with
    | func hy h1 h2 => cases hy
    | yld hq => exact ⟨[], [], ⟨_, hq, rfl, rfl, rfl⟩, .nil, .nil⟩
    | scal hs => simp [scal] at hs
  · cases hf

/-- A call, of whatever is called: what follows it. -/
theorem call_upon {call : CallT} (hC : CallsOk P base G call) {fr : Fr} {σ : St} {o : Oper} {c : Call} {f : Operand} {r : CR} (ho : o.op = .call c) (hc : c.callee = .value f)
    (h : eCall call fr σ c f = some r) : Adv σ r.σ ∧ ∀ ρ (a : Act) w N, Known ρ fr a.eval o.op.operands.toList → Rel base ρ σ w → Free ρ σ.n N → r.σ.n ≤ N → Glob ρ G →
      ∀ (rd : Option Nat) (next : Act → World → Prop) (Q : Exit → Act → World → Prop),
        (∀ v' w' ρ', Rel base ρ' r.σ w' → Fram ρ σ w ρ' r.σ w' → VRel ρ' r.v v' → match r.pan with | true => Q (panX v') a w' | false => next (a.put o.dst v') w') → o.wpIn (FW rd) 0 P a w next Q := by
  obtain ⟨vs, h1, k1⟩ := ob_eq h
  obtain ⟨u, h2, k2⟩ := ob_eq k1
  obtain ⟨fn, h3, k3⟩ := ob_eq k2
  change call fn.g (fn.first ++ vs ++ fn.captured) σ = some r at k3
  clear h k1 k2
  obtain ⟨hadv, hcall⟩ := hC _ _ _ _ k3
  refine ⟨hadv, fun ρ a w N hk hR hF hN hG rd next Q hn => wpIn_of (by intro c' he; rw [ho] at he; cases he) ?_⟩
  have hr := (args_known ho hk).evs h1
  have hu := hk f u (by simp [ho, Op.operands, Call.operands, hc]) h2
  obtain ⟨first', captured', hf, r1, r2⟩ := func_rel hu h3
  have hT := hcall ρ w (first' ++ c.args.toList.map a.eval ++ captured') N hR hF hN hG (VsRel.append r2 (VsRel.append hr r1))
  have hargs : (⟨first'⟩ : Array Value) ++ c.args.map a.eval ++ ⟨captured'⟩ = ⟨first' ++ c.args.toList.map a.eval ++ captured'⟩ := by
    rw [← Array.toList_inj]; simp
  have hend : ∀ (en : Ending) w', (∃ v' ρ', en = ended r.pan v' ∧ Rel base ρ' r.σ w' ∧ Fram ρ σ w ρ' r.σ w' ∧ VRel ρ' r.v v') → (match en, w' with
      | .returned v, w'' => next (a.put o.dst v) w''
      | .panicked chain, w'' => Q (.panic chain) a w''
      | .outgrown, _ => LetsOut Q : Prop) := by
    rintro en w' ⟨v', ρ', rfl, q1, q2, q3⟩
    have := hn v' w' ρ' q1 q2 q3
    cases hp : r.pan with
    | true => rw [hp] at this; exact this
    | false => rw [hp] at this; exact this
  cases hg : fn.g with
  | fn g =>
    rw [hg] at hT hf
    obtain ⟨fd, e1, e2, e3⟩ := hT
    have hf : a.eval f = .func (.func g) ⟨first'⟩ ⟨captured'⟩ := hf
    have hexec : execOp a.eval o = callFunc g ⟨first' ++ c.args.toList.map a.eval ++ captured'⟩ := by
      simp only [execOp, ho, resolve, hc, hf, Deferred.ofValue]
      rw [← hargs]
      rfl
    rw [hexec]
    rcases e3 with ⟨b1, b2⟩ | ⟨v', b1, b2, b3, b4⟩
    · have hrun : (callFunc g ⟨first' ++ c.args.toList.map a.eval ++ captured'⟩).run P w = .ok (.enter g ⟨first' ++ c.args.toList.map a.eval ++ captured'⟩) w := by
        have hn0 : fd.body.isNone = false := by cases hb : fd.body with | none => rw [hb] at b1; cases b1 | some c => rfl
        simp only [callFunc, Sem.run_bind, run_program, Result.andThen_ok, e1, e2, hn0, Bool.false_eq_true, if_false, Sem.run_pure]
      rw [hrun, Oper.uponIn_enter]
      refine ⟨fun h => (by cases h), ?_⟩
      exact (callsIn_wide (n := 0)).2 (b2.mono hend)
    · rw [b1, Oper.uponIn_value]
      have hp := hn v' w ρ (by rw [b2]; exact hR) (by rw [b2]; exact .refl _ _ _) b4
      rw [b3] at hp
      exact hp
  | yld b =>
    rw [hg] at hT hf
    obtain ⟨q, hq, hf, hf1, hf2⟩ := hf
    subst hf1
    subst hf2
    obtain ⟨f0, tmps, assign, body, e1, e2⟩ := hT q hq
    have hexec : execOp a.eval o = Instr.yield q.c ⟨[] ++ c.args.toList.map a.eval ++ []⟩ := by
      simp only [execOp, ho, resolve, hc, hf, Deferred.ofValue]
      rw [← hargs]
      rfl
    rw [hexec, e1, Oper.uponIn_round]
    refine ⟨fun h => (by cases h), ?_⟩
    exact e2.mono hend

theorem call_fact {call : CallT} (hC : CallsOk P base G call) {fr : Fr} {σ : St} {o : Oper} {c : Call} {f : Operand} {v : Value} {σ' : St} (ho : o.op = .call c) (hc : c.callee = .value f)
    (h : eCall call fr σ c f = some ⟨false, v, σ'⟩) : EffFact P base G fr σ o v σ' :=
  let ⟨h1, h2⟩ := call_upon hC ho hc h
  ⟨h1, by simp [ho, isEff, hc], fun ρ a w N hk hR hF hN hG rd next Q hn => h2 ρ a w N hk hR hF hN hG rd next Q hn⟩
theorem call_pan {call : CallT} (hC : CallsOk P base G call) {fr : Fr} {σ : St} {o : Oper} {c : Call} {f : Operand} {v : Value} {σ' : St} (ho : o.op = .call c) (hc : c.callee = .value f)
    (h : eCall call fr σ c f = some ⟨true, v, σ'⟩) : PanFact P base G fr σ o v σ' :=
  let ⟨h1, h2⟩ := call_upon hC ho hc h
  ⟨h1, fun ρ a w N hk hR hF hN hG rd next Q hn => h2 ρ a w N hk hR hF hN hG rd next Q hn⟩

theorem panic_fact {fr : Fr} {σ : St} {o : Oper} {x : Operand} {s : Stepped} (ho : o.op = .panic x) (h : ePanic fr σ x = some s) : s.d = .pan ∧ s.σ = σ ∧ PanFact P base G fr σ o s.v σ := by
  obtain ⟨u, h1, h2⟩ := ob_eq h
  split at h2
  · rename_i t v
    cases h2
    refine ⟨rfl, rfl, .refl _, fun ρ a w N hk hR hF hN hG rd next Q hn => wpIn_of (by intro c' he; rw [ho] at he; cases he) ?_⟩
    have hx := hk x _ (by simp [ho, Op.operands]) h1
    cases hx' : a.eval x with
    | iface t' v' =>
      rw [hx'] at hx
      have hexec : (execOp a.eval o).run P w = .halt (.panic (.iface t' v')) w := by
        simp only [execOp, ho, hx', Instr.panic]
        rfl
      rw [hexec, Oper.uponIn_panic]
      exact hn _ _ _ hR (.refl _ _ _) hx
    | _ => rw [hx'] at hx; cases hx <;> (rename_i hs; simp [scal] at hs)
  · cases h2

/-- What one operation did. -/
inductive Class (P : Program) (base : Env) (G : Nat) (fr : Fr) (σ : St) (o : Oper) : Stepped → Prop
  | pure {v : Value} (h : PureFact P fr o v) : Class P base G fr σ o ⟨v, σ, .none⟩
  | new {cs : List Value} {vf : Nat → Value} (h : NewFact P fr o cs vf) : Class P base G fr σ o ⟨vf σ.n, σ.new cs, .none⟩
  | read {v : Value} {r : RowAt} (h : ReadFact P fr σ o v r) : Class P base G fr σ o ⟨v, σ, .read r⟩
  | eff {v : Value} {σ' : St} (h : EffFact P base G fr σ o v σ') : Class P base G fr σ o ⟨v, σ', .eff⟩
  | pan {v : Value} {σ' : St} (h : PanFact P base G fr σ o v σ') : Class P base G fr σ o ⟨v, σ', .pan⟩

theorem asPure_eq {σ : St} {x : Option Value} {s : Stepped} (h : asPure σ x = some s) : ∃ v, x = some v ∧ s = ⟨v, σ, .none⟩ := by
  obtain ⟨v, h1, h2⟩ := ob_eq h
  cases h2
  exact ⟨v, h1, rfl⟩
theorem asNew_eq {σ : St} {x : Option (List Value × (Nat → Value))} {s : Stepped} (h : asNew σ x = some s) : ∃ cs vf, x = some (cs, vf) ∧ s = ⟨vf σ.n, σ.new cs, .none⟩ := by
  obtain ⟨⟨cs, vf⟩, h1, h2⟩ := ob_eq h
  cases h2
  exact ⟨cs, vf, h1, rfl⟩
theorem asRead_eq {σ : St} {x : Option (Value × RowAt)} {s : Stepped} (h : asRead σ x = some s) : ∃ v b, x = some (v, b) ∧ s = ⟨v, σ, .read b⟩ := by
  obtain ⟨⟨v, b⟩, h1, h2⟩ := ob_eq h
  cases h2
  exact ⟨v, b, h1, rfl⟩
theorem asEff_eq {x : Option (Value × St)} {s : Stepped} (h : asEff x = some s) : ∃ v σ', x = some (v, σ') ∧ s = ⟨v, σ', .eff⟩ := by
  obtain ⟨⟨v, σ'⟩, h1, h2⟩ := ob_eq h
  cases h2
  exact ⟨v, σ', h1, rfl⟩

theorem load_fact {fr : Fr} {σ : St} {o : Oper} {t : TypeId} {x : Operand} {v : Value} {r : RowAt} (ho : o.op = .load t x) (h : rLoad P fr σ t x = some (v, r)) : ReadFact P fr σ o v r := by
  have hc := h
  obtain ⟨u, h1, k1⟩ := ob_eq h
  obtain ⟨⟨b', off⟩, h2, k2⟩ := ob_eq k1
  obtain ⟨m, hm, k2⟩ := ob_eq (show ob (span? P t) _ = some (v, r) from k2)
  obtain ⟨v0, h3, k3⟩ := ob_eq (show ob (loadA P σ t b' off) _ = some (v, r) from k2)
  cases k3
  refine ⟨?_, fun ρ e w hk => ⟨?_, fun hrow => load_sound ho hk hc hrow⟩⟩
  · obtain ⟨g, h4, h5⟩ := ob_eq h3
    obtain ⟨g', hg', hm⟩ := ob_eq hm
    rw [h4] at hg'; cases hg'
    cases g with
    | true =>
      obtain ⟨n, h6, h7⟩ := ob_eq (show ob (size? P t) _ = some v from h5)
      obtain ⟨cs, h8, h9⟩ := ob_eq h7
      rw [show size? P t = some m from hm] at h6
      cases h6
      exact ⟨cs, h8⟩
    | false =>
      cases hm
      obtain ⟨cs, h8, h9⟩ := ob_eq (show ob (σ.read b' off 1) _ = some v from h5)
      exact ⟨cs, h8⟩
  · obtain ⟨q, hq, _⟩ := at_rel (hk x u (by simp [ho, Op.operands]) h1) h2
    exact ⟨q, hq⟩
theorem string_fact {fr : Fr} {σ : St} {o : Oper} {s d : TypeId} {x : Operand} {v : Value} {r : RowAt} (ho : o.op = .convert s d x) (h : rString P fr σ s d x = some (v, r)) : ReadFact P fr σ o v r := by
  have hc := h
  obtain ⟨u, h1, k1⟩ := ob_eq h
  obtain ⟨⟨b', off, n⟩, h2, k2⟩ := ob_eq k1
  obtain ⟨el, h3, k3⟩ := ob_eq (show ob (elem? P s) _ = some (v, r) from k2)
  obtain ⟨h4, k4⟩ := bb_eq k3
  obtain ⟨h5, k5⟩ := bb_eq k4
  obtain ⟨l, h6, k6⟩ := ob_eq k5
  obtain ⟨r', h7, k7⟩ := ob_eq k6
  cases k7
  refine ⟨?_, fun ρ e w hk => ⟨?_, fun hrow => string_sound ho hk hc hrow⟩⟩
  · exact ⟨l, h6⟩
  · obtain ⟨q, a, k', hq, _, _⟩ := rowAt_rel (hk x u (by simp [ho, Op.operands]) h1) h2
    exact ⟨q, hq⟩

theorem step_noDefer {call : CallT} {fr : Fr} {σ : St} {o : Oper} {s : Stepped} (h : step P call fr σ o = some s) : ∀ c, o.op ≠ .defer c := by
  intro c ho
  unfold step at h
  rw [ho] at h
  cases h

theorem step_class {call : CallT} (hC : CallsOk P base G call) {fr : Fr} {σ : St} {o : Oper} {s : Stepped}
    (h : step P call fr σ o = some s) : Class P base G fr σ o s := by
  have hd := step_noDefer h
  unfold step at h
  cases ho : o.op with
  | move x => rw [ho] at h; obtain ⟨v, h1, rfl⟩ := asPure_eq h; exact .pure fun ρ e w hk => move_sound (.inl ho) hk h1
  | assign x => rw [ho] at h; obtain ⟨v, h1, rfl⟩ := asPure_eq h; exact .pure fun ρ e w hk => move_sound (.inr ho) hk h1
  | pick c a b => rw [ho] at h; obtain ⟨v, h1, rfl⟩ := asPure_eq h; exact .pure fun ρ e w hk => pick_sound ho hk h1
  | alloc t => rw [ho] at h; obtain ⟨cs, vf, h1, rfl⟩ := asNew_eq h; exact .new fun ρ e w hk => alloc_sound ho h1
  | box t x => rw [ho] at h; obtain ⟨cs, vf, h1, rfl⟩ := asNew_eq h; exact .new fun ρ e w hk => box_sound ho hk h1
  | build t parts => rw [ho] at h; obtain ⟨v, h1, rfl⟩ := asPure_eq h; exact .pure fun ρ e w hk => build_sound ho hk h1
  | buildSlice t len parts => rw [ho] at h; obtain ⟨cs, vf, h1, rfl⟩ := asNew_eq h; exact .new fun ρ e w hk => buildSlice_sound ho hk h1
  | load t x => rw [ho] at h; obtain ⟨v, b, h1, rfl⟩ := asRead_eq h; exact .read (load_fact ho h1)
  | store t x y =>
    rw [ho] at h
    obtain ⟨v, σ', h1, rfl⟩ := asEff_eq h
    refine .eff (eff_fact hd ?_ (by rw [ho]; rfl) fun ρ e w N hk hR hF hN => store_sound ho hk hR h1)
    obtain ⟨a, g1, k1⟩ := ob_eq h1
    obtain ⟨u, g2, k2⟩ := ob_eq k1
    obtain ⟨σ1, g3, k3⟩ := ob_eq k2
    cases k3
    exact storeV_adv g3
  | lookup t x ix ok =>
    rw [ho] at h
    obtain ⟨v, σ', h1, rfl⟩ := asEff_eq h
    exact .eff (eff_fact hd (lookup_adv h1) (by rw [ho]; rfl) fun ρ e w N hk hR hF hN => lookup_sound ho hk hR h1)
  | mapUpdate t m k x =>
    rw [ho] at h
    obtain ⟨v, σ', h1, rfl⟩ := asEff_eq h
    exact .eff (eff_fact hd (mapUpdate_adv h1) (by rw [ho]; rfl) fun ρ e w N hk hR hF hN => mapUpdate_sound (.inl ho) hk hR h1)
  | insert t m k x =>
    rw [ho] at h
    obtain ⟨v, σ', h1, rfl⟩ := asEff_eq h
    exact .eff (eff_fact hd (mapUpdate_adv h1) (by rw [ho]; rfl) fun ρ e w N hk hR hF hN => mapUpdate_sound (.inr ho) hk hR h1)
  | makeMap t r =>
    rw [ho] at h
    obtain ⟨v, σ', h1, rfl⟩ := asEff_eq h
    exact .eff (eff_fact hd (makeMap_adv h1) (by rw [ho]; rfl) fun ρ e w N hk hR hF hN => makeMap_sound ho hR hF hN h1)
  | panic x =>
    rw [ho] at h
    obtain ⟨h1, h2, h3⟩ := panic_fact (P := P) (base := base) (G := G) ho h
    obtain ⟨v, σ', d⟩ := s
    cases h1
    cases h2
    exact .pan h3
  | nilCheck x => rw [ho] at h; obtain ⟨v, h1, rfl⟩ := asPure_eq h; exact .pure fun ρ e w hk => nilCheck_sound ho hk h1
  | binOp b t x y yt => rw [ho] at h; obtain ⟨v, h1, rfl⟩ := asPure_eq h; exact .pure fun ρ e w hk => bin_sound ho hk h1
  | unOp u t x => rw [ho] at h; obtain ⟨v, h1, rfl⟩ := asPure_eq h; exact .pure fun ρ e w hk => flat1_sound (by rw [ho]; rfl) (by simp [ho]) hk h1
  | convert s0 d x =>
    rw [ho] at h
    change orS (asNew σ (nBytes P fr s0 d x)) (orS (asRead σ (rString P fr σ s0 d x)) (asPure σ (pFlat P fr o x))) = some s at h
    cases hn : asNew σ (nBytes P fr s0 d x) with
    | some s1 =>
      rw [hn] at h
      cases h
      obtain ⟨cs, vf, h1, rfl⟩ := asNew_eq hn
      exact .new fun ρ e w hk => bytes_sound ho hk h1
    | none =>
      rw [hn] at h
      change orS (asRead σ (rString P fr σ s0 d x)) (asPure σ (pFlat P fr o x)) = some s at h
      cases hr : asRead σ (rString P fr σ s0 d x) with
      | some s1 =>
        rw [hr] at h
        cases h
        obtain ⟨v, b, h1, rfl⟩ := asRead_eq hr
        exact .read (string_fact ho h1)
      | none =>
        rw [hr] at h
        change asPure σ (pFlat P fr o x) = some s at h
        obtain ⟨v, h1, rfl⟩ := asPure_eq h
        exact .pure fun ρ e w hk => flat1_sound (by rw [ho]; rfl) (by simp [ho]) hk h1
  | makeInterface t x => rw [ho] at h; obtain ⟨v, h1, rfl⟩ := asPure_eq h; exact .pure fun ρ e w hk => iface_sound ho hk h1
  | makeFunc fn fs cs => rw [ho] at h; obtain ⟨v, h1, rfl⟩ := asPure_eq h; exact .pure fun ρ e w hk => func_sound ho hk h1
  | makeSlice t l c => rw [ho] at h; obtain ⟨cs, vf, h1, rfl⟩ := asNew_eq h; exact .new fun ρ e w hk => make_sound ho hk h1
  | slice t x lo hi mx => rw [ho] at h; obtain ⟨v, h1, rfl⟩ := asPure_eq h; exact .pure fun ρ e w hk => slice_sound ho hk h1
  | fieldAddr s x f => rw [ho] at h; obtain ⟨v, h1, rfl⟩ := asPure_eq h; exact .pure fun ρ e w hk => fieldAddr_sound ho hk h1
  | field s x f => rw [ho] at h; obtain ⟨v, h1, rfl⟩ := asPure_eq h; exact .pure fun ρ e w hk => field_sound ho hk h1
  | indexAddr t x ix => rw [ho] at h; obtain ⟨v, h1, rfl⟩ := asPure_eq h; exact .pure fun ρ e w hk => indexAddr_sound ho hk h1
  | index t x ix => rw [ho] at h; obtain ⟨v, h1, rfl⟩ := asPure_eq h; exact .pure fun ρ e w hk => index_sound ho hk h1
  | extract t ix => rw [ho] at h; obtain ⟨v, h1, rfl⟩ := asPure_eq h; exact .pure fun ρ e w hk => extract_sound ho hk h1
  | call c =>
    rw [ho] at h
    change stepC P call fr σ c = some s at h
    unfold stepC at h
    cases hc : c.callee with
    | value f =>
      rw [hc] at h
      obtain ⟨⟨p, v, σ'⟩, h1, h2⟩ := ob_eq (show ob (eCall call fr σ c f) _ = some s from h)
      cases h2
      cases p with
      | true => exact .pan (call_pan hC ho hc h1)
      | false => exact .eff (call_fact hC ho hc h1)
    | invoke r m => rw [hc] at h; cases h
    | builtin b =>
      rw [hc] at h
      change stepB b P fr σ c = some s at h
      cases b with
      | len => obtain ⟨v, h1, rfl⟩ := asPure_eq h; exact .pure fun ρ e w hk => len_sound ho hc hk h1
      | max => obtain ⟨v, h1, rfl⟩ := asPure_eq h; exact .pure fun ρ e w hk => mm_sound true ho hc hk h1
      | min => obtain ⟨v, h1, rfl⟩ := asPure_eq h; exact .pure fun ρ e w hk => mm_sound false ho hc hk h1
      | append =>
        obtain ⟨v, σ', h1, rfl⟩ := asEff_eq h
        refine .eff (eff_fact hd ?_ (by rw [ho]; simp [isEff, hc]) fun ρ e w N hk hR hF hN => append_sound ho hc hk hR hF hN h1)
        obtain ⟨vs, g1, k1⟩ := ob_eq h1
        obtain ⟨⟨s, x⟩, g2, k2⟩ := ob_eq k1
        obtain ⟨t, g3, k3⟩ := ob_eq (show ob (argT c) _ = some (v, σ') from k2)
        obtain ⟨t2, g4, k4⟩ := ob_eq k3
        obtain ⟨g5, k5⟩ := bb_eq k4
        exact append_adv k5
      | copy =>
        obtain ⟨v, σ', h1, rfl⟩ := asEff_eq h
        refine .eff (eff_fact hd ?_ (by rw [ho]; simp [isEff, hc]) fun ρ e w N hk hR hF hN => copy_sound ho hc hk hR h1)
        obtain ⟨vs, g1, k1⟩ := ob_eq h1
        obtain ⟨⟨d, s⟩, g2, k2⟩ := ob_eq k1
        obtain ⟨t, g3, k3⟩ := ob_eq (show ob (argT c) _ = some (v, σ') from k2)
        obtain ⟨el, g4, k4⟩ := ob_eq (show ob (elem? P t) _ = some (v, σ') from k3)
        obtain ⟨size, g5, k5⟩ := ob_eq k4
        obtain ⟨⟨b, off, dl⟩, g6, k6⟩ := ob_eq k5
        obtain ⟨⟨n, cs⟩, g7, k7⟩ := ob_eq (show ob (srcCells σ size s) _ = some (v, σ') from k6)
        obtain ⟨cs2, g8, k8⟩ := ob_eq (show ob (takeN (Nat.min n dl * size) cs) _ = some (v, σ') from k7)
        obtain ⟨σ2, g9, k9⟩ := ob_eq k8
        cases k9
        exact .write g9
      | clear =>
        obtain ⟨v, σ', h1, rfl⟩ := asEff_eq h
        refine .eff (eff_fact hd ?_ (by rw [ho]; simp [isEff, hc]) fun ρ e w N hk hR hF hN => clear_sound ho hc hk hR h1)
        obtain ⟨vs, g1, k1⟩ := ob_eq h1
        obtain ⟨x, g2, k2⟩ := ob_eq k1
        obtain ⟨t, g3, k3⟩ := ob_eq k2
        obtain ⟨el, g4, k4⟩ := ob_eq (show ob (elem? P t) _ = some (v, σ') from k3)
        obtain ⟨z, g5, k5⟩ := ob_eq k4
        obtain ⟨⟨b, off, n⟩, g6, k6⟩ := ob_eq k5
        obtain ⟨σ2, g9, k9⟩ := ob_eq (show ob (σ.write b off (rep (cellsL z) n)) _ = some (v, σ') from k6)
        cases k9
        exact .write g9
      | _ => cases h
  | _ => rw [ho] at h; cases h

end
end Go.Ab
