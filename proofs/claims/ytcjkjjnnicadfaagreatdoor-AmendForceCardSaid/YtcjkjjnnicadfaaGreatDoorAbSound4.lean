/- Ranges over functions, calls, and the whole. -/
import Derived.Test.YtcjkjjnnicadfaaGreatDoorAbSound3
import Derived.Below
set_option linter.unusedSimpArgs false
set_option linter.unusedVariables false
namespace Go.Ab
open Go
section
variable {P : Program} {base : Env} {G : Nat}

theorem run_enterLoop_inner {w : World} {l : Nat} {r : Loop} (h : w.heap[l]? = some (.loop r)) (fn : FuncId) (tmps : Array Value) (ps : Array Tmp) (assign body : Code) :
    (Instr.enterLoop fn tmps ps assign body (some l)).run P w =
      .ok (w.heap.size, []) (w.alloc (.loop { state := .ready, pending := none, fn, tmps, params := ps, assign, body, defers := r.defers })) := by
  unfold Instr.enterLoop
  simp only [Sem.run_bind, run_newObj_alloc, Result.andThen, Sem.run_pure, run_getLoop h]

theorem alloc_old {w : World} {o : Obj} {c : Nat} (h : c < w.heap.size) : (w.alloc o).heap[c]? = w.heap[c]? := RowKit.Below.heap_alloc w o c h

theorem isBusy_ne {s : LoopState} (h : isBusy s = false) : s ≠ .busy := by
  intro he; subst he; cases h

theorem range_ok {call : CallT} (hC : CallsOk P base G call) (hchk : ∀ n c, base.chk n c = codeOk P n G c) {rd : Option Nat} {f : Operand} {ps : Array Tmp} {assign body : Code} {fr : Fr} {σ : St} {res : Res} (h : rangeV P call rd f ps.toList assign body fr σ = some res) :
    Adv σ res.σ ∧ ∀ n, codeOk P n G (.rangeFunc f ps assign body) = true → ∀ lo ρ a w N rl, lo ≤ w.heap.size → Rel base ρ σ w → Free ρ σ.n N → res.σ.n ≤ N → FRel ρ fr a → n ≤ a.tmps.size → Marks lo w a.defers → Glob ρ G → RdOk ρ rd rl →
      ∀ Q : Exit → Act → World → Prop, Post base lo ρ σ w a res Q → (Code.rangeFunc f ps assign body).wpIn (FW rl) 0 P Q a w := by
  obtain ⟨h1, k1⟩ := bb_eq h
  obtain ⟨u, h2, k2⟩ := ob_eq k1
  obtain ⟨⟨t, first, captured⟩, h3, k3⟩ := ob_eq k2
  obtain ⟨g, h4, k4⟩ := ob_eq (show ob (tgtFn t) _ = some res from k3)
  obtain ⟨h5, k5⟩ := bb_eq k4
  obtain ⟨⟨p, cv, σ2⟩, h6, k6⟩ := ob_eq k5
  clear h k1 k2 k3 k4 k5
  have ht : t = .fn g := by
    cases t with
    | fn g' => cases h4; rfl
    | yld b => cases h4
  subst ht
  cases p with
  | true => cases k6
  | false =>
    obtain ⟨L, h7, k7⟩ := ob_eq (show ob (σ2.lblk σ.n) _ = some res from k6)
    obtain ⟨lfr, lps, las, lbd, lst, lpend⟩ := L
    have k7 : bi (isBusy lst) none (ob (σ2.wloop σ.n .exhausted lpend) fun σ => ob (outOf lpend) fun o => some ⟨o, fr, σ⟩) = some res := k7
    obtain ⟨h8, k8⟩ := bi_none k7
    obtain ⟨σ3, h9, k9⟩ := ob_eq k8
    obtain ⟨o, h10, k10⟩ := ob_eq k9
    clear k6 k7 k8 k9
    cases k10
    obtain ⟨c1, c2⟩ := hC _ _ _ _ h6
    have a3 := wloop_adv h9
    refine ⟨((Adv.new _ _ _).trans c1).trans a3, fun n hc lo ρ a w N rl hlo hR hF hN hr hn hd hG hrd Q hQ => ?_⟩
    obtain ⟨hc1, hc'⟩ := bi_false_eq (show bi (opndOk G f) (bi (ps.toList.all fun p => Nat.blt p n) (bi (codeOk P n G assign) (codeOk P n G body) false) false) false = true from hc)
    obtain ⟨hc2, hc'⟩ := bi_false_eq hc'
    obtain ⟨hc3, hc4⟩ := bi_false_eq hc'
    rw [List.all_eq_true] at hc2
    have hN2 : σ2.n ≤ N := Nat.le_trans a3.n hN
    have hN1 : σ.n + 1 ≤ N := Nat.le_trans c1.n hN2
    have hfree : ρ σ.n = none := hF σ.n (Nat.le_refl _) (by omega)
    have hu := ev_rel (a := a) hG hc1 (fun t _ v hv => hr t v hv) h2
    obtain ⟨first', captured', hfv, r1, r2⟩ := func_rel hu h3
    have hfv : a.eval f = .func (.func g) ⟨first'⟩ ⟨captured'⟩ := hfv
    refine wpIn_rangeFunc fun fnid _ => ?_

    have hlay : ∃ l mark w1 rec, (Instr.enterLoop fnid a.tmps ps assign body (FW rl).round).run P w = .ok (l, mark) w1 ∧ w1.heap[l]? = some (.loop rec) ∧ w.heap.size ≤ l ∧ l < w1.heap.size ∧ w.heap.size ≤ w1.heap.size ∧
        (∀ c, c < w.heap.size → w1.heap[c]? = w.heap[c]?) ∧ Outside w w1 ∧ Marks lo w1 (mark ++ a.defers) ∧
        rec.state = .ready ∧ rec.pending = none ∧ rec.params = ps ∧ rec.assign = assign ∧ rec.body = body ∧ rec.tmps = a.tmps := by
      cases rl with
      | none =>
        refine ⟨_, _, _, { state := .ready, pending := none, fn := fnid, tmps := a.tmps, params := ps, assign, body, defers := w.heap.size }, run_enterLoop_outer (P := P) (w := w) fnid a.tmps ps assign body, ?_, ?_, ?_, ?_, ?_, ⟨rfl, rfl, rfl⟩, ?_, rfl, rfl, rfl, rfl, rfl, rfl⟩
        · have := World.alloc_heap_new (w.alloc (.deferred (some []))) (.loop { state := .ready, pending := none, fn := fnid, tmps := a.tmps, params := ps, assign, body, defers := w.heap.size })
          rw [World.size_alloc] at this
          exact this
        · omega
        · rw [World.size_alloc, World.size_alloc]; omega
        · rw [World.size_alloc, World.size_alloc]; omega
        · intro c hcc
          rw [alloc_old (by rw [World.size_alloc]; omega), alloc_old hcc]
        · obtain ⟨Ds, m1, m2, m3⟩ := hd
          have hlt : ∀ D ∈ Ds, D < w.heap.size := by
            intro D hD
            have := (m3 D hD).2
            rcases Nat.lt_or_ge D w.heap.size with hh | hh
            · exact hh
            · rw [Array.getElem?_eq_none hh] at this; cases this
          refine ⟨w.heap.size :: Ds, by rw [m1]; rfl, List.nodup_cons.2 ⟨fun hm => by have := hlt _ hm; omega, m2⟩, fun D hD => ?_⟩
          rcases List.mem_cons.1 hD with rfl | hD
          · refine ⟨hlo, ?_⟩
            rw [alloc_old (by rw [World.size_alloc]; omega)]
            exact World.alloc_heap_new _ _
          · refine ⟨(m3 D hD).1, ?_⟩
            have := hlt D hD
            rw [alloc_old (by rw [World.size_alloc]; omega), alloc_old this]
            exact (m3 D hD).2
      | some l0 =>
        cases rd with
        | none => cases hrd
        | some b0 =>
          obtain ⟨q0, g1, g2⟩ := hrd
          cases g2
          obtain ⟨L0, hL0⟩ := Option.isSome_iff_exists.1 (show (σ.lblk b0).isSome = true from h1)
          obtain ⟨r0, hr0⟩ := hR.loop g1 hL0
          refine ⟨_, _, _, { state := .ready, pending := none, fn := fnid, tmps := a.tmps, params := ps, assign, body, defers := r0.defers }, run_enterLoop_inner (P := P) hr0.lies fnid a.tmps ps assign body, World.alloc_heap_new _ _, Nat.le_refl _, ?_, ?_, ?_, ⟨rfl, rfl, rfl⟩, ?_, rfl, rfl, rfl, rfl, rfl, rfl⟩
          · rw [World.size_alloc]; omega
          · rw [World.size_alloc]; omega
          · intro c hcc; exact alloc_old hcc
          · obtain ⟨Ds, m1, m2, m3⟩ := hd
            refine ⟨Ds, m1, m2, fun D hD => ⟨(m3 D hD).1, ?_⟩⟩
            have h := (m3 D hD).2
            have hlt : D < w.heap.size := by
              rcases Nat.lt_or_ge D w.heap.size with hh | hh
              · exact hh
              · rw [Array.getElem?_eq_none hh] at h; cases h
            rw [alloc_old hlt]; exact h
    obtain ⟨l, mark, w1, rec, hen, hrec, hl1, hl2, hsz, hold, hout, hmarks, e1, e2, e3, e4, e5, e6⟩ := hlay
    have hsit : LoopRow base (ρ.put σ.n ⟨l, 0, 0⟩) w1 l fr ps.toList assign body .ready none rec := by
      refine ⟨hrec, e1, e2, by rw [e3], e4, e5, fun t v hv => ?_, fun p hp => ?_, n, by rw [e6]; exact hn, by rw [hchk]; exact hc3, by rw [hchk]; exact hc4⟩
      · obtain ⟨v', g1, g2⟩ := hr t v hv
        exact ⟨v', by rw [e6]; exact g1, g2.mono (Place.put_le _ hfree)⟩
      · have := hc2 p hp
        rw [Nat.blt_eq] at this
        rw [e6]; omega
    obtain ⟨R1, F1⟩ := hR.newK (cs := []) (k := .loop fr ps.toList assign body .ready none) hfree hl1 hl2 hsz hold hout (.loop rfl hsit)
    have hle1 : ρ.le (ρ.put σ.n ⟨l, 0, 0⟩) := Place.put_le _ hfree
    have hy : VRel (ρ.put σ.n ⟨l, 0, 0⟩) (.func (.yield σ.n) #[] #[]) (.func (.yield l) #[] #[]) := .yld (q := ⟨l, 0, 0⟩) (Place.put_same _ _ _)
    have hfree1 : Free (ρ.put σ.n ⟨l, 0, 0⟩) (σ.n + 1) N := by
      intro b g1 g2
      rw [Place.put_ne _ _ (by omega)]
      exact hF b (by omega) g2
    obtain ⟨fd, d1, d2, d3⟩ := c2 _ w1 (first' ++ [.func (.yield l) #[] #[]] ++ captured') N R1 hfree1 hN2 (hG.mono hle1) (VsRel.append (r2.mono hle1) (VsRel.append (.cons hy .nil) (r1.mono hle1)))
    have hbody : fd.body.isSome = true := by
      unfold hasBody at h5
      rw [d1] at h5
      exact h5
    have hargs : ((⟨first'⟩ : Array Value) ++ #[.func (.yield l) #[] #[]]) ++ ⟨captured'⟩ = ⟨first' ++ [.func (.yield l) #[] #[]] ++ captured'⟩ := by
      rw [← Array.toList_inj]; simp
    have hrun : (callFunc g ⟨first' ++ [.func (.yield l) #[] #[]] ++ captured'⟩).run P w1 = .ok (.enter g ⟨first' ++ [.func (.yield l) #[] #[]] ++ captured'⟩) w1 := by
      have hn0 : fd.body.isNone = false := by cases hb : fd.body with | none => rw [hb] at hbody; cases hbody | some c => rfl
      simp only [callFunc, Sem.run_bind, run_program, Result.andThen_ok, d1, d2, hn0, Bool.false_eq_true, if_false, Sem.run_pure]
    rcases d3 with ⟨_, d3⟩ | ⟨v', d3, _⟩
    · refine ⟨l, mark, w1, { target := .fn (.func g) ⟨captured'⟩, args := (⟨first'⟩ : Array Value) ++ #[.func (.yield l) #[] #[]] }, w1, g, (((⟨first'⟩ : Array Value) ++ #[.func (.yield l) #[] #[]]) ++ ⟨captured'⟩), w1, hen, ?_, fun _ _ => trivial, ?_, fun h => (by cases h), ?_⟩
      · have hmap : Array.map a.eval #[Operand.const (Value.func (Fn.yield l) #[] #[])] = #[Value.func (Fn.yield l) #[] #[]] := by simp [Act.eval]
        simp only [resolve, hfv, Deferred.ofValue, hmap]
        rfl
      · show (callFunc g (((⟨first'⟩ : Array Value) ++ #[.func (.yield l) #[] #[]]) ++ ⟨captured'⟩)).run P w1 = _
        rw [hargs]
        exact hrun
      · rw [hargs]
        refine (callsIn_wide (n := 0)).2 (d3.mono ?_)
        rintro en w' ⟨v', ρ', rfl, q1, q2, q3⟩
        have hle2 := q2.le (σ := σ.newK [] _) hfree1 hN2
        have hq : ρ' σ.n = some ⟨l, 0, 0⟩ := hle2 _ _ (Place.put_same _ _ _)
        obtain ⟨r3, hL3⟩ := q1.loop hq h7
        obtain ⟨t1, t2⟩ := q1.wloop hq h9 h7 hL3
        have hst3 : r3.state ≠ .busy := by
          have : r3.state = lst := hL3.hst
          rw [this]
          exact isBusy_ne h8
        have hpend3 : r3.pending = lpend := hL3.hpend
        have hfr : Fram ρ σ w ρ' σ3 (w'.putObj l (.loop { r3 with state := .exhausted, pending := lpend })) := (F1.trans q2).trans t2
        have hend := run_endLoop (P := P) hL3.lies hst3
        have hobj : ({ r3 with state := .exhausted } : Loop) = { r3 with state := .exhausted, pending := lpend } := by rw [← hpend3]
        rw [hobj] at hend
        refine ⟨_, _, hend, ?_⟩
        rw [hpend3]
        have hm3 : Marks lo (w'.putObj l (.loop { r3 with state := .exhausted, pending := lpend })) (mark ++ a.defers) := (hmarks.fram R1 q2).fram q1 t2
        have hfrel : FRel ρ' fr { a with defers := mark ++ a.defers } := (hr.mono (Place.le_trans hle1 hle2) : FRel ρ' fr a)
        have hpost : ∀ e, ExR ρ' o e → Q e { a with defers := mark ++ a.defers } (w'.putObj l (.loop { r3 with state := .exhausted, pending := lpend })) :=
          fun e he => hQ e _ _ ρ' he t1 hfr hfrel rfl hm3
        unfold outOf at h10
        split at h10
        · cases h10; exact hpost _ rfl
        · cases h10; exact wpIn_ret (hpost _ rfl)
        · cases h10; exact wpIn_exit (hpost _ rfl)
        · cases h10
    · rw [hrun] at d3
      cases d3

end
end Go.Ab
