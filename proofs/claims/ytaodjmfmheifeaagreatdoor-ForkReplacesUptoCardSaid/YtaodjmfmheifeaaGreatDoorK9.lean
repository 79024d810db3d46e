/- A part of the proof: a walk of some functions. -/
import Derived.Test.YtaodjmfmheifeaaGreatDoorK8
set_option linter.unusedSimpArgs false
set_option linter.unusedVariables false
namespace Go.Proofs.G
open Go Go.Ab
set_option maxRecDepth 100000
set_option maxHeartbeats 8000000 in
theorem rsame_ok {σ : St} {cp cq ca cb : List Value} {p q : List Cho} {a b : List Int} (hp : PrAt σ cp p) (hq : PrAt σ cq q) (ha : ReAt σ ca a) (hb : ReAt σ cb b) (lp : p.length ≤ 1000) (lq : q.length ≤ 1000) (la : a.length ≤ 1048576) (lb : b.length ≤ 1048576) :
    Ev (go Tryz.prog HS (.fn 13) [.agg ⟨cp⟩, .agg ⟨cq⟩, .agg ⟨ca⟩, .agg ⟨cb⟩] σ) (fun r => ∃ σ', r = ⟨false, .bool (decide (win p a = win q b)), σ'⟩ ∧ Ext σ σ') ⟨⟩ := by
  refine ev_go Tryz.func13 rfl rfl ?_
  obtain ⟨vl, vc, vr, mo, bu, rfl, hp⟩ := hp
  obtain ⟨vl', vc', vr', mo', bu', rfl, hq⟩ := hq
  obtain ⟨vt, pp, bo, vn, rfl, ha⟩ := ha
  obtain ⟨vt', pp', bo', vn', rfl, hb⟩ := hb
  simp (maxSteps := 1000000) (disch := first | omega | ((try simp only [bunN]) <;> omega) | fail) only [↓bD, bW, Nat.reduceMul, Nat.reduceEqDiff, Nat.reduceAdd, Nat.reduceBEq, reduceIte]
  refine (rwinners_ok (hp.mono (eX)) (SL.mono ha (eX)) lp la).mono ?_
  rintro r ⟨w1, σ1, rfl, hE1, ho1⟩
  have hn1 := hE1.n
  simp only [new_n] at hn1
  have r5 : σ1.row (σ.n + 1) = some [vl', vc', vr', .int .i64 mo', .int .i64 bu'] := by rw [hE1.row (by simp)]; exact cL
  have r7 : σ1.row (σ.n + 1 + 1 + 1) = some [vt', .int .i64 pp', .int .i64 bo', vn'] := by rw [hE1.row (by simp)]; exact cL
  have hE01 : Ext σ σ1 := Ext.trans (eX) hE1
  simp (maxSteps := 1000000) (disch := first | omega | ((try simp only [bunN]) <;> omega) | fail) only [↓bD, bW, Nat.reduceMul, Nat.reduceEqDiff, Nat.reduceAdd, Nat.reduceBEq, reduceIte, r5, r7]
  refine (rwinners_ok (hq.mono hE01) (SL.mono hb hE01) lq lb).mono ?_
  rintro r ⟨w2, σ2, rfl, hE2, ho2⟩
  have hE : Ext σ σ2 := hE01.trans hE2
  have hl := SL.mono ho1.sl hE2
  have hk := ho2.sl
  have hn := Nat.le_trans (win_len (cs := p)) la
  have hn2 := Nat.le_trans (win_len (cs := q)) lb
  generalize win p a = l at *
  generalize win q b = m at *
  obtain ⟨a1, c1, b1, off, cells, rfl, h1, h2⟩ := SL.use' hl
  obtain ⟨a2, c2, b2, off', cells', rfl, h1', h2'⟩ := SL.use' hk
  by_cases hlen : l.length = m.length
  · have hd : decide ((l.length : Int) = (m.length : Int)) = true := by simp [hlen]
    simp (maxSteps := 1000000) (disch := first | omega | ((try simp only [bunN]) <;> omega) | fail) only [↓bD, bW, Nat.reduceMul, Nat.reduceEqDiff, Nat.reduceAdd, Nat.reduceBEq, reduceIte, hd]
    refine ev_count l.length (fun i fr σ' => fr.get 11 = some (.int .i64 i) ∧ fr.get 9 = some (.slice a1 l.length c1) ∧ fr.get 10 = some (.slice a2 m.length c2) ∧ σ' = σ2 ∧ l.take i = m.take i)
      (fun r => (∃ fr, r = ⟨.exit 0, fr, σ2⟩ ∧ l = m) ∨ (∃ fr, r = ⟨.ret, fr, σ2⟩ ∧ fr.get 8 = some (.bool false) ∧ l ≠ m)) ?_ ?_ ?_ ?_
    · exact ⟨fR, fR, fR, rfl, by simp⟩
    · rintro i fr σ' hi ⟨g11, g9, g10, rfl, hm⟩
      have hc := lt_true hi
      have hci : i < m.length := by omega
      obtain ⟨sp, rfl, hb, hr⟩ := h1 (by omega)
      obtain ⟨sp', rfl, hb', hr'⟩ := h1' (by omega)
      obtain ⟨x, hx⟩ := at_some hi
      obtain ⟨y, hy⟩ := at_some hci
      have h2 := h2 i x hx
      have h2' := h2' i y hy
      cases hd2 : decide (x = y) with
      | true =>
        have hxy : x = y := of_decide_eq_true hd2
        simp (maxSteps := 1000000) (disch := first | omega | ((try simp only [bunN]) <;> omega) | fail) only [↓bD, bW, Nat.reduceMul, Nat.reduceEqDiff, Nat.reduceAdd, Nat.reduceBEq, reduceIte, g9, g10, g11, hc, hr, hr', h2, h2', b2_cho, hd2]
        try refine Must.intro (by (repeat first | simp (disch := omega) only [as_read, as_upd, as_newb] | rw [as_ord (by kernel_rfl)]); rfl) ?_
        try simp (maxSteps := 1000000) (disch := first | omega | ((try simp only [bunN]) <;> omega) | fail) only [↓bD, bW, Nat.reduceMul, Nat.reduceEqDiff, Nat.reduceAdd, Nat.reduceBEq, reduceIte, g9, g10, g11, hd2]
        exact ⟨fR, fR1 g9, fR1 g10, by trivial, by rw [List.take_add_one, List.take_add_one, hm, hx, hy, hxy]⟩
      | false =>
        have hxy : ¬ x = y := of_decide_eq_false hd2
        simp (maxSteps := 1000000) (disch := first | omega | ((try simp only [bunN]) <;> omega) | fail) only [↓bD, bW, Nat.reduceMul, Nat.reduceEqDiff, Nat.reduceAdd, Nat.reduceBEq, reduceIte, g9, g10, g11, hc, hr, hr', h2, h2', b2_cho, hd2]
        try refine Must.intro (by (repeat first | simp (disch := omega) only [as_read, as_upd, as_newb] | rw [as_ord (by kernel_rfl)]); rfl) ?_
        try simp (maxSteps := 1000000) (disch := first | omega | ((try simp only [bunN]) <;> omega) | fail) only [↓bD, bW, Nat.reduceMul, Nat.reduceEqDiff, Nat.reduceAdd, Nat.reduceBEq, reduceIte, g9, g10, g11, hd2]
        refine .inr ⟨_, rfl, fR, fun h => ?_⟩
        subst h
        rw [hx] at hy; cases hy; exact hxy rfl
    · rintro fr σ' ⟨g11, g9, g10, rfl, hm⟩
      simp (maxSteps := 1000000) (disch := first | omega | ((try simp only [bunN]) <;> omega) | fail) only [↓bD, bW, Nat.reduceMul, Nat.reduceEqDiff, Nat.reduceAdd, Nat.reduceBEq, reduceIte, g9, g11]
      refine .inl ⟨_, rfl, ?_⟩
      rw [List.take_length, hlen, List.take_length] at hm
      exact hm
    · rintro r (⟨fr, rfl, hm⟩ | ⟨fr, rfl, g4, hm⟩)
      · simp (maxSteps := 1000000) (disch := first | omega | ((try simp only [bunN]) <;> omega) | fail) only [↓bD, bW, Nat.reduceMul, Nat.reduceEqDiff, Nat.reduceAdd, Nat.reduceBEq, reduceIte, Tryz.results13]
        exact ⟨_, by rw [decide_eq_true hm], hE⟩
      · simp (maxSteps := 1000000) (disch := first | omega | ((try simp only [bunN]) <;> omega) | fail) only [↓bD, bW, Nat.reduceMul, Nat.reduceEqDiff, Nat.reduceAdd, Nat.reduceBEq, reduceIte, Tryz.results13, g4]
        exact ⟨_, by rw [decide_eq_false hm], hE⟩
  · have hd : decide ((l.length : Int) = (m.length : Int)) = false := by simp; omega
    simp (maxSteps := 1000000) (disch := first | omega | ((try simp only [bunN]) <;> omega) | fail) only [↓bD, bW, Nat.reduceMul, Nat.reduceEqDiff, Nat.reduceAdd, Nat.reduceBEq, reduceIte, hd, Tryz.results13]
    exact ⟨_, by rw [decide_eq_false (fun h => hlen (by rw [h]))], hE⟩
end Go.Proofs.G
