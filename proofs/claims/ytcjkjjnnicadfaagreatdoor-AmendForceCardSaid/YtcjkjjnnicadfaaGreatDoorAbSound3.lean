/- Rounds of ranges over functions, and these statements themselves. -/
import Derived.Test.YtcjkjjnnicadfaaGreatDoorAbSound2
import Derived.RangeFuncRecord
set_option linter.unusedSimpArgs false
set_option linter.unusedVariables false
namespace Go.Ab
open Go
section
variable {P : Program} {base : Env} {G : Nat}

theorem lblk_facts {σ : St} {b : Nat} {L : LoopV} (h : σ.lblk b = some L) : ∃ B, σ.blk b = some B ∧ B.own = true ∧ B.kind = .loop L.fr L.ps L.assign L.body L.st L.pend := by
  obtain ⟨B, h1, h2⟩ := ob_eq h
  obtain ⟨h3, h4⟩ := bb_eq h2
  obtain ⟨cells, live, own, ver, kind⟩ := B
  cases kind with
  | row => cases h4
  | map => cases h4
  | loop fr ps as bd st pend => cases h4; exact ⟨_, h1, h3, rfl⟩
theorem wloop_facts {σ σ' : St} {b : Nat} {st : LoopState} {pend : Option Code} (h : σ.wloop b st pend = some σ') : ∃ B fr ps as bd st0 pend0, σ.blk b = some B ∧ B.own = true ∧ B.kind = .loop fr ps as bd st0 pend0 ∧
    σ' = ⟨σ.h.set b ⟨[], true, true, B.ver + 1, .loop fr ps as bd st pend⟩, σ.n⟩ := by
  obtain ⟨B, h1, h2⟩ := ob_eq h
  obtain ⟨h3, h4⟩ := bb_eq h2
  obtain ⟨cells, live, own, ver, kind⟩ := B
  cases kind with
  | row => cases h4
  | map => cases h4
  | loop fr ps as bd st0 pend0 => cases h4; exact ⟨_, fr, ps, as, bd, st0, pend0, h1, h3, rfl, rfl⟩
theorem wloop_adv {σ σ' : St} {b : Nat} {st : LoopState} {pend : Option Code} (h : σ.wloop b st pend = some σ') : Adv σ σ' := by
  obtain ⟨B, fr, ps, as, bd, st0, pend0, h1, h2, h3, rfl⟩ := wloop_facts h
  exact .set h1 rfl
theorem Rel.loop {ρ : Place} {σ : St} {w : World} (hR : Rel base ρ σ w) {b : Nat} {q : Spot} {L : LoopV} (hq : ρ b = some q) (h : σ.lblk b = some L) : ∃ r, LoopRow base ρ w q.c L.fr L.ps L.assign L.body L.st L.pend r := by
  obtain ⟨B, h1, h2, h3⟩ := lblk_facts h
  have := hR.sits b q B hq h1
  unfold Sits at this
  rw [h3] at this
  exact this
theorem putObj_same {w : World} {c : Nat} {o o' : Obj} (h : w.heap[c]? = some o) : (w.putObj c o').heap[c]? = some o' := by
  refine World.putObj_heap_same ?_
  rcases Nat.lt_or_ge c w.heap.size with hh | hh
  · exact hh
  · rw [Array.getElem?_eq_none hh] at h; cases h
theorem Rel.wloop {ρ : Place} {σ σ' : St} {w : World} (hR : Rel base ρ σ w) {b : Nat} {q : Spot} {st : LoopState} {pend : Option Code} (hq : ρ b = some q) (h : σ.wloop b st pend = some σ') {L : LoopV} (hL : σ.lblk b = some L) {r : Loop}
    (hr : LoopRow base ρ w q.c L.fr L.ps L.assign L.body L.st L.pend r) : Rel base ρ σ' (w.putObj q.c (.loop { r with state := st, pending := pend })) ∧ Fram ρ σ w ρ σ' (w.putObj q.c (.loop { r with state := st, pending := pend })) := by
  obtain ⟨B, fr, ps, as, bd, st0, pend0, h1, h2, h3, rfl⟩ := wloop_facts h
  obtain ⟨B', g1, g2, g3⟩ := lblk_facts hL
  rw [h1] at g1; cases g1
  rw [h3] at g3
  cases g3
  refine hR.set hq h1 h2 rfl rfl (fun c hc => World.putObj_heap_other hc) World.putObj_size ⟨rfl, rfl, rfl⟩ (.loop rfl (r := { r with state := st, pending := pend }) ?_)
  exact ⟨putObj_same hr.lies, rfl, rfl, hr.hps, hr.has, hr.hbd, hr.hfr, hr.hlt, hr.hchk⟩

/-- The variables of a round. -/
theorem setAll_rel {ρ : Place} : ∀ (ps : List Nat) (vs vs' : List Value) (fr fr1 : Fr) (tmps : Array Value), setAll ps vs fr = some fr1 → VsRel ρ vs vs' → (∀ p ∈ ps, p < tmps.size) → FRel ρ fr { tmps := tmps, defers := [] } →
    FRel ρ fr1 { tmps := (ps.zip vs').foldl (fun tmps (x : Tmp × Value) => tmps.setIfInBounds x.1 x.2) tmps, defers := [] } ∧ ((ps.zip vs').foldl (fun tmps (x : Tmp × Value) => tmps.setIfInBounds x.1 x.2) tmps).size = tmps.size ∧ vs'.length = ps.length := by
  intro ps
  induction ps with
  | nil =>
    intro vs vs' fr fr1 tmps h hv _ hr
    cases hv with
    | nil => cases h; exact ⟨hr, rfl, rfl⟩
    | cons _ _ => cases h
  | cons p ps ih =>
    intro vs vs' fr fr1 tmps h hv hp hr
    cases hv with
    | nil => cases h
    | @cons v v' l l' h1 h2 =>
      change setAll ps l (fr.set p v) = some fr1 at h
      have hr' : FRel ρ (fr.set p v) { tmps := tmps.setIfInBounds p v', defers := [] } := by
        have := FRel.put (d := some p) hr h1 (fun t ht => by cases ht; exact hp p (by simp))
        exact this
      obtain ⟨g1, g2, g3⟩ := ih l l' (fr.set p v) fr1 (tmps.setIfInBounds p v') h h2 (fun p' hp' => by simpa using hp p' (by simp [hp'])) hr'
      exact ⟨g1, by simpa using g2, by simp [g3]⟩
theorem zip_fold (ps : Array Tmp) (vs' : List Value) (tmps : Array Value) : (ps.zip (⟨vs'⟩ : Array Value)).foldl (fun tmps (x : Tmp × Value) => tmps.setIfInBounds x.1 x.2) tmps = (ps.toList.zip vs').foldl (fun tmps (x : Tmp × Value) => tmps.setIfInBounds x.1 x.2) tmps := by
  rw [← Array.foldl_toList, Array.toList_zip]

theorem isReady_eq {s : LoopState} (h : isReady s = true) : s = .ready := by
  cases s <;> first | rfl | cases h

theorem callY_ok {run : RunT} (hE : ExecOk P base G run) (hchk : ∀ n c, base.chk n c = codeOk P n G c) {b : Nat} {vs : List Value} {σ : St} {r : CR} (h : callY run b vs σ = some r) :
    Adv σ r.σ ∧ ∀ ρ w vs' N, Rel base ρ σ w → Free ρ σ.n N → r.σ.n ≤ N → Glob ρ G → VsRel ρ vs vs' → ∀ q, ρ b = some q → RoundOk P base ρ q.c vs' σ w r := by
  obtain ⟨L, h1, k1⟩ := ob_eq h
  obtain ⟨lfr, lps, las, lbd, lst, lpend⟩ := L
  obtain ⟨h2, k2⟩ := bb_eq (show bb (isReady lst) _ = some r from k1)
  obtain ⟨fr1, h3, k3⟩ := ob_eq k2
  obtain ⟨⟨o1, fr2, σ1⟩, h4, k4⟩ := ob_eq k3
  clear h k1 k2 k3
  cases o1 with
  | normal =>
    obtain ⟨L', h5, k5⟩ := ob_eq (show ob (σ1.lblk b) _ = some r from k4)
    obtain ⟨lfr', lps', las', lbd', lst', lpend'⟩ := L'
    obtain ⟨h6, k6⟩ := bb_eq (show bb (isReady lst') _ = some r from k5)
    obtain ⟨σ2, h7, k7⟩ := ob_eq k6
    obtain ⟨⟨o2, fr3, σ3⟩, h8, k8⟩ := ob_eq k7
    clear k4 k5 k6 k7
    have hend : ∃ st jump σ4, σ3.wloop b st jump = some σ4 ∧ r = ⟨false, .bool jump.isNone, σ4⟩ ∧ st = (if jump.isNone then .ready else .done) ∧ (jump = none ∧ o2 = .normal ∨ jump = some .ret ∧ o2 = .ret ∨ ∃ i, jump = some (.exit i) ∧ o2 = .exit i) := by
      cases o2 with
      | normal =>
        obtain ⟨σ4, g1, g2⟩ := ob_eq (show ob (σ3.wloop b .ready none) _ = some r from k8)
        cases g2
        exact ⟨_, _, _, g1, rfl, rfl, .inl ⟨rfl, rfl⟩⟩
      | exit i =>
        obtain ⟨σ4, g1, g2⟩ := ob_eq (show ob (σ3.wloop b .done (some (.exit i))) _ = some r from k8)
        cases g2
        exact ⟨_, _, _, g1, rfl, rfl, .inr (.inr ⟨i, rfl, rfl⟩)⟩
      | ret =>
        obtain ⟨σ4, g1, g2⟩ := ob_eq (show ob (σ3.wloop b .done (some .ret)) _ = some r from k8)
        cases g2
        exact ⟨_, _, _, g1, rfl, rfl, .inr (.inl ⟨rfl, rfl⟩)⟩
      | pan v => cases k8
    obtain ⟨st, jump, σ4, h9, rfl, hst, hj⟩ := hend
    obtain ⟨e1, e2⟩ := hE (some b) las fr1 σ _ h4
    obtain ⟨e3, e4⟩ := hE (some b) lbd fr2 σ2 _ h8
    have a2 := wloop_adv h7
    have a4 := wloop_adv h9
    refine ⟨((e1.trans a2).trans e3).trans a4, fun ρ w vs' N hR hF hN hG hv q hq => ?_⟩
    obtain ⟨r0, hL⟩ := hR.loop hq h1
    have hN3 : σ3.n ≤ N := Nat.le_trans a4.n hN
    have hN2 : σ2.n ≤ N := Nat.le_trans e3.n hN3
    have hN1 : σ1.n ≤ N := Nat.le_trans a2.n hN2
    obtain ⟨f1, f2, f3⟩ := setAll_rel lps vs vs' lfr fr1 r0.tmps h3 hv hL.hlt hL.hfr
    obtain ⟨n, hn, hca, hcb⟩ := hL.hchk
    rw [hchk] at hca hcb
    have hps : r0.params.toList = lps := hL.hps
    refine ⟨r0.fn, _, r0.assign, r0.body, run_yield hL.lies (by show vs'.length = _; rw [f3, ← hps, Array.length_toList]), roundIn_of_wpIn trivial ?_⟩
    rw [hL.has, hL.hbd]
    have hz := zip_fold r0.params vs' r0.tmps
    rw [hps] at hz
    have hz' : (r0.params.zip (⟨vs'⟩ : Array Value)).foldl (fun tmps (t, a) => tmps.setIfInBounds t a) r0.tmps = (lps.zip vs').foldl (fun tmps (x : Tmp × Value) => tmps.setIfInBounds x.1 x.2) r0.tmps := hz
    rw [hz']
    refine e2 n hca w.heap.size ρ _ w N (some q.c) (Nat.le_refl _) hR hF hN1 f1 (by show n ≤ _; rw [f2]; exact hn) (.nil _ _) hG ⟨q, hq, rfl⟩ _ ?_
    intro e a' w' ρ' q0 q1 q2 q3 q4 q5
    have q0 : e = .normal := q0
    subst q0
    have hle := q2.le hF hN1
    have hq' : ρ' b = some q := hle _ _ hq
    obtain ⟨r1, hL1⟩ := q1.loop hq' h5
    obtain ⟨p1, p2⟩ := q1.wloop hq' h7 h5 hL1
    have hb1 := run_beginRound (P := P) hL1.lies (hL1.hst.trans (isReady_eq h6))
    have hpend : ({ r1 with state := .busy, pending := lpend' } : Loop) = { r1 with state := .busy } := by rw [← (show r1.pending = lpend' from hL1.hpend)]
    rw [hpend] at p1 p2
    refine ⟨_, hb1, ?_⟩
    refine e4 n hcb w.heap.size ρ' a' _ N (some q.c) (by rw [World.putObj_size]; exact q2.size) p1 (by have := q2.free hF; intro c hc1 hc2; exact this c (Nat.le_trans a2.n hc1) hc2) hN3 q3 (by rw [q4]; show n ≤ _; rw [f2]; exact hn) (q5.fram q1 p2) (hG.mono hle) ⟨q, hq', rfl⟩ _ ?_
    intro e a'' w'' ρ'' u0 u1 u2 u3 u4 u5
    have hfr2 : Free ρ' σ2.n N := by have := q2.free hF; intro c hc1 hc2; exact this c (Nat.le_trans a2.n hc1) hc2
    have hle2 := u2.le hfr2 hN3
    have hq'' : ρ'' b = some q := hle2 _ _ hq'
    obtain ⟨B3, fr3', ps3, as3, bd3, st3, pend3, w1, w2, w3, w4⟩ := wloop_facts h9
    have hL3 : σ3.lblk b = some ⟨fr3', ps3, as3, bd3, st3, pend3⟩ := by
      show ob (σ3.blk b) _ = _
      rw [w1]
      show bb B3.own _ = _
      rw [w2]
      obtain ⟨cells, live, own, ver, kind⟩ := B3
      cases w3
      rfl
    obtain ⟨r3, hL3r⟩ := u1.loop hq'' hL3
    obtain ⟨t1, t2⟩ := u1.wloop hq'' h9 hL3 hL3r
    have he := run_endRound (P := P) jump hL3r.lies
    rw [hst] at t1 t2
    have fin : ∃ v w', (Instr.endRound q.c jump).run P w'' = .ok v w' ∧ ∃ v' ρ3, Ending.returned v = ended false v' ∧ Rel base ρ3 σ4 w' ∧ Fram ρ σ w ρ3 σ4 w' ∧ VRel ρ3 (.bool jump.isNone) v' :=
      ⟨_, _, he, _, ρ'', rfl, t1, ((q2.trans p2).trans u2).trans t2, .scal rfl⟩
    rcases hj with ⟨rfl, rfl⟩ | ⟨rfl, rfl⟩ | ⟨i, rfl, rfl⟩
    · have u0 : e = .normal := u0
      subst u0
      exact fin
    · have u0 : e = .ret := u0
      subst u0
      exact fin
    · have u0 : e = .exit i := u0
      subst u0
      exact fin
  | exit i => cases k4
  | ret => cases k4
  | pan v => cases k4

end
end Go.Ab
