/- Ranges over functions: rules on what their rounds and their ends come to. -/
import Derived.Test.YtcjkjjnnicadfaaGreatDoorAbRules
set_option linter.unusedSimpArgs false
set_option linter.unusedVariables false
namespace Go.Ab
open Go
/-- A block is the record of a range over a function. -/
def LoopAt (σ : St) (b : Nat) (fr : Fr) (ps : List Nat) (assign body : Code) (st : LoopState) (pend : Option Code) : Prop := ∃ cells ver, σ.h.get b = some ⟨cells, true, true, ver, .loop fr ps assign body st pend⟩
noncomputable def St.updL (σ : St) (b : Nat) (fr : Fr) (ps : List Nat) (assign body : Code) (st : LoopState) (pend : Option Code) : St := ⟨σ.h.set b ⟨[], true, true, σ.ver b + 1, .loop fr ps assign body st pend⟩, σ.n⟩
section
variable {σ : St} {b : Nat} {fr : Fr} {ps : List Nat} {assign body : Code} {st : LoopState} {pend : Option Code}
theorem LoopAt.blk (h : LoopAt σ b fr ps assign body st pend) : ∃ cells ver, σ.blk b = some ⟨cells, true, true, ver, .loop fr ps assign body st pend⟩ := by
  obtain ⟨c, v, h⟩ := h
  refine ⟨c, v, ?_⟩
  show ob (σ.h.get b) _ = _
  rw [h]; rfl
theorem LoopAt.lblk (h : LoopAt σ b fr ps assign body st pend) : σ.lblk b = some ⟨fr, ps, assign, body, st, pend⟩ := by
  obtain ⟨c, v, h⟩ := h.blk
  show ob (σ.blk b) _ = _
  rw [h]; rfl
theorem LoopAt.wloop (h : LoopAt σ b fr ps assign body st pend) (st' : LoopState) (pend' : Option Code) : σ.wloop b st' pend' = some (σ.updL b fr ps assign body st' pend') := by
  obtain ⟨c, v, hg⟩ := h
  have hv : σ.ver b = v := by unfold St.ver; rw [hg]
  obtain ⟨c', v', h'⟩ := LoopAt.blk ⟨c, v, hg⟩
  have hv' : v' = v := by
    have := (blk_get h').1
    rw [hg] at this
    cases this; rfl
  subst hv'
  show ob (σ.blk b) _ = _
  unfold St.updL
  rw [h', hv]; rfl
@[simp] theorem updL_n : (σ.updL b fr ps assign body st pend).n = σ.n := rfl
@[simp] theorem newK_n (cs : List Value) (k : Kind) : (σ.newK cs k).n = σ.n + 1 := rfl
theorem updL_get (c : Nat) : (σ.updL b fr ps assign body st pend).h.get c = if c = b then some ⟨[], true, true, σ.ver b + 1, .loop fr ps assign body st pend⟩ else σ.h.get c := Tr.get_set _ _ _ _
theorem newK_get (cs : List Value) (k : Kind) (c : Nat) : (σ.newK cs k).h.get c = if c = σ.n then some ⟨cs, true, true, 0, k⟩ else σ.h.get c := Tr.get_set _ _ _ _
theorem LoopAt.new : LoopAt (σ.newK [] (.loop fr ps assign body st pend)) σ.n fr ps assign body st pend := ⟨[], 0, by rw [newK_get, if_pos rfl]⟩
theorem LoopAt.upd : LoopAt (σ.updL b fr ps assign body st pend) b fr ps assign body st pend := ⟨[], _, by rw [updL_get, if_pos rfl]⟩
theorem LoopAt.of_get {σ' : St} (h : LoopAt σ b fr ps assign body st pend) (he : σ'.h.get b = σ.h.get b) : LoopAt σ' b fr ps assign body st pend := let ⟨c, v, h⟩ := h; ⟨c, v, by rw [he]; exact h⟩
theorem Own.of_get {σ' : St} {cs : List Value} (h : Own σ b cs) (he : σ'.h.get b = σ.h.get b) : Own σ' b cs := let ⟨v, h⟩ := h; ⟨v, by rw [he]; exact h⟩
theorem RowAt'.of_get {σ' : St} {cs : List Value} (h : RowAt' σ b cs) (he : σ'.h.get b = σ.h.get b) : RowAt' σ' b cs := let ⟨o, v, h⟩ := h; ⟨o, v, by rw [he]; exact h⟩
theorem Ext.newK {σ0 : St} (h : Ext σ0 σ) (cs : List Value) (k : Kind) : Ext σ0 (σ.newK cs k) := ⟨Nat.le_succ_of_le h.n, fun c hc => by rw [newK_get, if_neg (by have := h.n; omega), h.same c hc]⟩
theorem Ext.updL {σ0 : St} (h : Ext σ0 σ) (hb : σ0.n ≤ b) : Ext σ0 (σ.updL b fr ps assign body st pend) := ⟨h.n, fun c hc => by rw [updL_get, if_neg (by omega), h.same c hc]⟩
theorem read_newK_ne (cs : List Value) (k : Kind) {c : Nat} (off n : Nat) (h : c ≠ σ.n) : (σ.newK cs k).read c off n = σ.read c off n := read_congr (by rw [newK_get, if_neg h]) _ _
theorem read_updL_ne {c : Nat} (off n : Nat) (h : c ≠ b) : (σ.updL b fr ps assign body st pend).read c off n = σ.read c off n := read_congr (by rw [updL_get, if_neg h]) _ _
end
section
variable {P : Program} {H : Sums} {σ : St} {b : Nat} {fr : Fr} {ps : List Nat} {assign body : Code} {pend : Option Code}
/-- What a round's end comes to. -/
def YEnd (b : Nat) (Q : CR → Prop) (r : Res) : Prop := ∃ fr ps assign body st pend, LoopAt r.σ b fr ps assign body st pend ∧ (match r.o with
  | .normal => Q ⟨false, .bool true, r.σ.updL b fr ps assign body .ready none⟩
  | .exit i => Q ⟨false, .bool false, r.σ.updL b fr ps assign body .done (some (.exit i))⟩
  | .ret => Q ⟨false, .bool false, r.σ.updL b fr ps assign body .done (some .ret)⟩
  | .pan _ => False)
theorem roundEnd_ev {r : Res} {Q : CR → Prop} {uq : Hd Q} (h : YEnd b Q r) : Ev (roundEnd b r) Q uq := by
  obtain ⟨fr, ps, as, bd, st, pend, h1, h2⟩ := h
  obtain ⟨o, fr', σ'⟩ := r
  cases o with
  | normal =>
    show Ev (ob (σ'.wloop b .ready none) _) Q _
    rw [LoopAt.wloop h1, ob_some, ev_some]; exact h2
  | exit i =>
    show Ev (ob (σ'.wloop b .done (some (.exit i))) _) Q _
    rw [LoopAt.wloop h1, ob_some, ev_some]; exact h2
  | ret =>
    show Ev (ob (σ'.wloop b .done (some .ret)) _) Q _
    rw [LoopAt.wloop h1, ob_some, ev_some]; exact h2
  | pan v => exact h2.elim
/-- A round of a range over a function. -/
theorem ev_yld {vs : List Value} {fr1 : Fr} {Q : CR → Prop} {uq : Hd Q} (hL : LoopAt σ b fr ps assign body .ready pend) (hset : setAll ps vs fr = some fr1)
    (h : Ev (lim P H (some b) assign fr1 σ) (fun r => ∃ fr2 σ1 fr' ps' as' bd' pend', r = ⟨.normal, fr2, σ1⟩ ∧ LoopAt σ1 b fr' ps' as' bd' .ready pend' ∧ Ev (lim P H (some b) body fr2 (σ1.updL b fr' ps' as' bd' .busy pend')) (YEnd b Q) ⟨⟩) ⟨⟩) :
    Ev (go P H (.yld b) vs σ) Q uq := by
  show Ev (ob (σ.lblk b) _) Q _
  rw [hL.lblk, ob_some]
  show Ev (ob (setAll ps vs fr) _) Q _
  rw [hset, ob_some, ev_ob]
  refine h.mono ?_
  rintro r ⟨fr2, σ1, fr', ps', as', bd', pend', rfl, h1, h2⟩
  show Ev (ob (σ1.lblk b) _) Q _
  rw [h1.lblk, ob_some]
  show Ev (ob (σ1.wloop b .busy pend') _) Q _
  rw [h1.wloop, ob_some, ev_ob]
  exact h2.mono fun r hr => roundEnd_ev hr
/-- A range over a function, outside of rounds. -/
theorem ev_range {f : Operand} {l : List Tmp} {g : Nat} {fs cs : Array Value} {Q : Res → Prop} {uq : Hd Q} (hf : ev fr f = some (.func (.func g) fs cs)) (hb : hasBody P g = true)
    (h : Ev (go P H (.fn g) (fs.toList ++ [.func (.yield σ.n) #[] #[]] ++ cs.toList) (σ.newK [] (.loop fr l assign body .ready none))) (fun r => ∃ v σ1 fr' ps' as' bd' st pend' o, r = ⟨false, v, σ1⟩ ∧ LoopAt σ1 σ.n fr' ps' as' bd' st pend' ∧ isBusy st = false ∧
      outOf pend' = some o ∧ Q ⟨o, fr, σ1.updL σ.n fr' ps' as' bd' .exhausted pend'⟩) ⟨⟩) : Ev (lim P H none (.rangeFunc f l.toArray assign body) fr σ) Q uq := by
  rw [ru_range']
  show Ev (ob (ev fr f) _) Q _
  rw [hf, ob_some]
  show Ev (bb (hasBody P g) _) Q _
  rw [hb, bb_true, ev_ob]
  refine h.mono ?_
  rintro r ⟨v, σ1, fr', ps', as', bd', st, pend', o, rfl, h1, h2, h3, h4⟩
  show Ev (ob (σ1.lblk σ.n) _) Q _
  rw [h1.lblk, ob_some]
  show Ev (bi (isBusy st) none (ob (σ1.wloop σ.n .exhausted pend') fun σ => ob (outOf pend') fun o => some ⟨o, fr, σ⟩)) Q _
  rw [h2, bi_false, h1.wloop, ob_some, h3, ob_some, ev_some]
  exact h4
end
end Go.Ab
