/- A part of the proof: a walk of some functions. -/
import Derived.Test.YtaodjmfmheifeaaGreatDoorK7
set_option linter.unusedSimpArgs false
set_option linter.unusedVariables false
namespace Go.Proofs.G
open Go Go.Ab
set_option maxRecDepth 100000
set_option maxHeartbeats 8000000 in
theorem eq_tri_ok {σ : St} {v w : Value} {l m : List (Int × Int × Int)} (hl : SL σ 3 v (l.map tri)) (hk : SL σ 3 w (m.map tri)) (hn : l.length ≤ 1048576) (hn2 : m.length ≤ 1048576) :
    Ev (go Tryz.prog HS (.fn 22) [v, w] σ) (fun r => r = ⟨false, .bool (decide (l = m)), σ⟩) ⟨⟩ := by
  obtain ⟨a, c, b, off, cells, rfl, h1, h2⟩ := SL.use' hl
  obtain ⟨a', c', b', off', cells', rfl, h1', h2'⟩ := SL.use' hk
  refine ev_go Tryz.func22 rfl rfl ?_
  by_cases hlen : l.length = m.length
  · have hd : decide ((l.length : Int) = (m.length : Int)) = true := by simp [hlen]
    simp (maxSteps := 1000000) (disch := first | omega | ((try simp only [bunN]) <;> omega) | fail) only [↓bD, bW, Nat.reduceMul, Nat.reduceEqDiff, Nat.reduceAdd, Nat.reduceBEq, reduceIte, hd]
    refine ev_count l.length (fun i fr σ' => fr.get 13 = some (.int .i64 i) ∧ fr.get 12 = some (.int .i64 l.length) ∧ fr.get 0 = some (.slice a l.length c) ∧ fr.get 1 = some (.slice a' m.length c') ∧ σ' = σ ∧ l.take i = m.take i)
      (fun r => (∃ fr, r = ⟨.exit 0, fr, σ⟩ ∧ l = m) ∨ (∃ fr, r = ⟨.ret, fr, σ⟩ ∧ fr.get 4 = some (.bool false) ∧ l ≠ m)) ?_ ?_ ?_ ?_
    · exact ⟨fR, fR, fR, fR, rfl, by simp⟩
    · rintro i fr σ' hi ⟨g13, g12, g0, g1, rfl, hm⟩
      have hc := lt_true hi
      have hci : i < m.length := by omega
      obtain ⟨sp, rfl, hb, hr⟩ := h1 (by omega)
      obtain ⟨sp', rfl, hb', hr'⟩ := h1' (by omega)
      obtain ⟨x, hx⟩ := at_some hi
      obtain ⟨y, hy⟩ := at_some hci
      have h2 := h2 i x hx
      have h2' := h2' i y hy
      cases hd2 : decide (x = y) with
      | true =>
        have hxy : x = y := of_decide_eq_true hd2
        simp (maxSteps := 1000000) (disch := first | omega | ((try simp only [bunN]) <;> omega) | fail) only [↓bD, bW, Nat.reduceMul, Nat.reduceEqDiff, Nat.reduceAdd, Nat.reduceBEq, reduceIte, g0, g1, g12, g13, hc, hr, hr', h2, h2', b2_tri, hd2]
        try refine Must.intro (by (repeat first | simp (disch := omega) only [as_read, as_upd, as_newb] | rw [as_ord (by kernel_rfl)]); rfl) ?_
        try simp (maxSteps := 1000000) (disch := first | omega | ((try simp only [bunN]) <;> omega) | fail) only [↓bD, bW, Nat.reduceMul, Nat.reduceEqDiff, Nat.reduceAdd, Nat.reduceBEq, reduceIte, g0, g1, g12, g13, hd2]
        exact ⟨fR, fR1 g12, fR1 g0, fR1 g1, by trivial, by rw [List.take_add_one, List.take_add_one, hm, hx, hy, hxy]⟩
      | false =>
        have hxy : ¬ x = y := of_decide_eq_false hd2
        simp (maxSteps := 1000000) (disch := first | omega | ((try simp only [bunN]) <;> omega) | fail) only [↓bD, bW, Nat.reduceMul, Nat.reduceEqDiff, Nat.reduceAdd, Nat.reduceBEq, reduceIte, g0, g1, g12, g13, hc, hr, hr', h2, h2', b2_tri, hd2]
        try refine Must.intro (by (repeat first | simp (disch := omega) only [as_read, as_upd, as_newb] | rw [as_ord (by kernel_rfl)]); rfl) ?_
        try simp (maxSteps := 1000000) (disch := first | omega | ((try simp only [bunN]) <;> omega) | fail) only [↓bD, bW, Nat.reduceMul, Nat.reduceEqDiff, Nat.reduceAdd, Nat.reduceBEq, reduceIte, g0, g1, g12, g13, hd2]
        refine .inr ⟨_, rfl, fR, fun h => ?_⟩
        subst h
        rw [hx] at hy; cases hy; exact hxy rfl
    · rintro fr σ' ⟨g13, g12, g0, g1, rfl, hm⟩
      simp (maxSteps := 1000000) (disch := first | omega | ((try simp only [bunN]) <;> omega) | fail) only [↓bD, bW, Nat.reduceMul, Nat.reduceEqDiff, Nat.reduceAdd, Nat.reduceBEq, reduceIte, g12, g13]
      refine .inl ⟨_, rfl, ?_⟩
      rw [List.take_length, hlen, List.take_length] at hm
      exact hm
    · rintro r (⟨fr, rfl, hm⟩ | ⟨fr, rfl, g4, hm⟩)
      · simp (maxSteps := 1000000) (disch := first | omega | ((try simp only [bunN]) <;> omega) | fail) only [↓bD, bW, Nat.reduceMul, Nat.reduceEqDiff, Nat.reduceAdd, Nat.reduceBEq, reduceIte, Tryz.results22]
        rw [decide_eq_true hm]
      · simp (maxSteps := 1000000) (disch := first | omega | ((try simp only [bunN]) <;> omega) | fail) only [↓bD, bW, Nat.reduceMul, Nat.reduceEqDiff, Nat.reduceAdd, Nat.reduceBEq, reduceIte, Tryz.results22, g4]
        rw [decide_eq_false hm]
  · have hd : decide ((l.length : Int) = (m.length : Int)) = false := by simp; omega
    simp (maxSteps := 1000000) (disch := first | omega | ((try simp only [bunN]) <;> omega) | fail) only [↓bD, bW, Nat.reduceMul, Nat.reduceEqDiff, Nat.reduceAdd, Nat.reduceBEq, reduceIte, hd, Tryz.results22]
    rw [decide_eq_false (fun h => hlen (by rw [h]))]
/-- A problem, as its cells: only the choices matter. -/
def PrAt (σ : St) (cells : List Value) (cs : List Cho) : Prop := ∃ vl vc vr mo bu, cells = [vl, vc, vr, .int .i64 mo, .int .i64 bu] ∧ SL σ 4 vc (cs.map Cho.row)
/-- A result, as its cells: only the take matters. -/
def ReAt (σ : St) (cells : List Value) (take : List Int) : Prop := ∃ vt p bo vn, cells = [vt, .int .i64 p, .int .i64 bo, vn] ∧ Nums σ vt take
theorem PrAt.ext {σ σ' : St} {cells : List Value} {cs : List Cho} (h : PrAt σ cells cs) (hE : Ext σ σ') : PrAt σ' cells cs := by
  obtain ⟨vl, vc, vr, mo, bu, rfl, h⟩ := h
  exact ⟨_, _, _, _, _, rfl, h.mono hE⟩
theorem ReAt.ext {σ σ' : St} {cells : List Value} {l : List Int} (h : ReAt σ cells l) (hE : Ext σ σ') : ReAt σ' cells l := by
  obtain ⟨vt, p, bo, vn, rfl, h⟩ := h
  exact ⟨_, _, _, _, rfl, SL.mono h hE⟩
set_option maxHeartbeats 8000000 in
theorem fsame_ok {σ : St} {cp cq ca cb : List Value} {p q : List Cho} {a b : List Int} (hp : PrAt σ cp p) (hq : PrAt σ cq q) (ha : ReAt σ ca a) (hb : ReAt σ cb b) (lp : p.length ≤ 1000) (lq : q.length ≤ 1000) (la : a.length ≤ 1048576) (lb : b.length ≤ 1048576) :
    Ev (go Tryz.prog HS (.fn 12) [.agg ⟨cp⟩, .agg ⟨cq⟩, .agg ⟨ca⟩, .agg ⟨cb⟩] σ) (fun r => ∃ σ', r = ⟨false, .bool (decide (win p a = win q b)), σ'⟩ ∧ Ext σ σ') ⟨⟩ := by
  refine ev_go Tryz.func12 rfl rfl ?_
  obtain ⟨vl, vc, vr, mo, bu, rfl, hp⟩ := hp
  obtain ⟨vl', vc', vr', mo', bu', rfl, hq⟩ := hq
  obtain ⟨vt, pp, bo, vn, rfl, ha⟩ := ha
  obtain ⟨vt', pp', bo', vn', rfl, hb⟩ := hb
  simp (maxSteps := 1000000) (disch := first | omega | ((try simp only [bunN]) <;> omega) | fail) only [↓bD, bW, Nat.reduceMul, Nat.reduceEqDiff, Nat.reduceAdd, Nat.reduceBEq, reduceIte]
  refine (winners_ok (hp.mono (eX)) (SL.mono ha (eX)) lp la).mono ?_
  rintro r ⟨w1, σ1, rfl, hE1, ho1⟩
  have hn1 := hE1.n
  simp only [new_n] at hn1
  have r5 : σ1.row (σ.n + 1) = some [vl', vc', vr', .int .i64 mo', .int .i64 bu'] := by rw [hE1.row (by simp)]; exact cL
  have r7 : σ1.row (σ.n + 1 + 1 + 1) = some [vt', .int .i64 pp', .int .i64 bo', vn'] := by rw [hE1.row (by simp)]; exact cL
  have hE01 : Ext σ σ1 := Ext.trans (eX) hE1
  simp (maxSteps := 1000000) (disch := first | omega | ((try simp only [bunN]) <;> omega) | fail) only [↓bD, bW, Nat.reduceMul, Nat.reduceEqDiff, Nat.reduceAdd, Nat.reduceBEq, reduceIte, r5, r7]
  refine (winners_ok (hq.mono hE01) (SL.mono hb hE01) lq lb).mono ?_
  rintro r ⟨w2, σ2, rfl, hE2, ho2⟩
  simp (maxSteps := 1000000) (disch := first | omega | ((try simp only [bunN]) <;> omega) | fail) only [↓bD, bW, Nat.reduceMul, Nat.reduceEqDiff, Nat.reduceAdd, Nat.reduceBEq, reduceIte]
  refine (eq_tri_ok (SL.mono ho1.sl hE2) ho2.sl (Nat.le_trans win_len la) (Nat.le_trans win_len lb)).mono ?_
  rintro r rfl
  simp (maxSteps := 1000000) (disch := first | omega | ((try simp only [bunN]) <;> omega) | fail) only [↓bD, bW, Nat.reduceMul, Nat.reduceEqDiff, Nat.reduceAdd, Nat.reduceBEq, reduceIte]
  refine Must.intro (by (repeat first | simp (disch := omega) only [as_read, as_upd, as_newb, asx hE1, asx hE2, asx (Ext.refl _)] | rw [as_ord (by kernel_rfl)]); rfl) ?_
  simp (maxSteps := 1000000) (disch := first | omega | ((try simp only [bunN]) <;> omega) | fail) only [↓bD, bW, Nat.reduceMul, Nat.reduceEqDiff, Nat.reduceAdd, Nat.reduceBEq, reduceIte, Tryz.results12]
  exact ⟨_, rfl, hE01.trans hE2⟩
end Go.Proofs.G
