/- A part of the proof: a walk of some functions. -/
import Derived.Test.YtaodjmfmheifeaaGreatDoorK1
set_option linter.unusedSimpArgs false
set_option linter.unusedVariables false
namespace Go.Proofs.G
open Go Go.Ab
set_option maxRecDepth 100000
set_option maxHeartbeats 8000000 in
/-- A list of events is the same as itself, wherever it lies. -/
theorem same_ok {σ : St} {v w : Value} {rows : List (List Value)} (hl : SL σ 46 v rows) (hk : SL σ 46 w rows) (hrows : ∀ r ∈ rows, EvRow r) (hlen : rows.length ≤ 1048576) :
    Ev (go Tryz.prog HS (.fn 8) [v, w] σ) (fun r => r = ⟨false, .bool true, σ⟩) ⟨⟩ := by
  refine ev_go Tryz.func8 rfl rfl ?_
  obtain ⟨a, c, b, off, cells, rfl, h1, h2⟩ := SL.use hl
  obtain ⟨a', c', b', off', cells', rfl, h1', h2'⟩ := SL.use hk
  have hd : decide ((rows.length : Int) = (rows.length : Int)) = true := by simp
  simp (maxSteps := 1000000) (disch := first | omega | ((try simp only [bunN]) <;> omega) | fail) only [↓bD, bW, Nat.reduceMul, Nat.reduceEqDiff, Nat.reduceAdd, Nat.reduceBEq, reduceIte, hd]
  refine ev_count rows.length (fun i fr σ' => fr.get 5 = some (.int .i64 i) ∧ fr.get 0 = some (.slice a rows.length c) ∧ fr.get 1 = some (.slice a' rows.length c') ∧ σ' = σ)
    (fun r => ∃ fr, r = ⟨.exit 0, fr, σ⟩) ?_ ?_ ?_ ?_
  · exact ⟨fR, fR, fR, rfl⟩
  · rintro i fr σ' hi ⟨g5, g0, g1, rfl⟩
    have hc := lt_true hi
    obtain ⟨sp, rfl, hb, hr⟩ := h1 (by omega)
    obtain ⟨sp', rfl, hb', hr'⟩ := h1' (by omega)
    obtain ⟨x, hx⟩ := at_some hi
    have h2 := h2 i x hx
    have h2' := h2' i x hx
    have hrefl := fun {o n : Operand} => (hrows x (mem_at hx)).refl (x := o) (y := n)
    simp (maxSteps := 1000000) (disch := first | omega | ((try simp only [bunN]) <;> omega) | fail) only [↓bD, bW, Nat.reduceMul, Nat.reduceEqDiff, Nat.reduceAdd, Nat.reduceBEq, reduceIte, g0, g1, g5, hc, hr, hr', h2, h2', hrefl]
    try refine Must.intro (by (repeat first | simp (disch := omega) only [as_read, as_upd, as_newb] | rw [as_ord (by kernel_rfl)]); rfl) ?_
    try simp (maxSteps := 1000000) (disch := first | omega | ((try simp only [bunN]) <;> omega) | fail) only [↓bD, bW, Nat.reduceMul, Nat.reduceEqDiff, Nat.reduceAdd, Nat.reduceBEq, reduceIte, g0, g1, g5]
    exact ⟨fR, fR1 g0, fR1 g1, by trivial⟩
  · rintro fr σ' ⟨g5, g0, g1, rfl⟩
    simp (maxSteps := 1000000) (disch := first | omega | ((try simp only [bunN]) <;> omega) | fail) only [↓bD, bW, Nat.reduceMul, Nat.reduceEqDiff, Nat.reduceAdd, Nat.reduceBEq, reduceIte, g0, g1, g5]
    exact ⟨_, rfl⟩
  · rintro r ⟨fr, rfl⟩
    simp (maxSteps := 1000000) (disch := first | omega | ((try simp only [bunN]) <;> omega) | fail) only [↓bD, bW, Nat.reduceMul, Nat.reduceEqDiff, Nat.reduceAdd, Nat.reduceBEq, reduceIte, Tryz.results8]
end Go.Proofs.G
