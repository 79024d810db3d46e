/- A part of the proof: a walk of some functions. -/
import Derived.Test.YtaodjmfmheifeaaGreatDoorK2
import Derived.Test.YtaodjmfmheifeaaGreatDoorK3
set_option linter.unusedSimpArgs false
set_option linter.unusedVariables false
namespace Go.Proofs.G
open Go Go.Ab
set_option maxRecDepth 100000
theorem mod_ok {σ : St} {a b : Int} (hb : b ≠ 0) : Ev (go Tryz.prog HS (.fn 7) [.int .i64 a, .int .i64 b] σ) (fun r => ∃ n : Int, r = ⟨false, .int .i64 n, σ⟩) ⟨⟩ := by
  refine ev_go Tryz.func7 rfl rfl ?_
  simp (maxSteps := 1000000) (disch := first | omega | ((try simp only [bunN]) <;> omega) | fail) only [↓bD, bW, Nat.reduceMul, Nat.reduceEqDiff, Nat.reduceAdd, Nat.reduceBEq, reduceIte, b2_rem hb, Tryz.results7]
  exact ⟨_, rfl⟩
theorem repl_row {rows : List (List Value)} {n : Int} {e : List Value} (he : EvRow e) (hrows : ∀ r ∈ rows, EvRow r) : ∀ r ∈ repl rows n e, EvRow r := by
  intro r hr
  unfold repl at hr
  split at hr
  · rename_i h
    rcases List.mem_or_eq_of_mem_set hr with h' | rfl
    · exact hrows r h'
    · obtain ⟨x, hx⟩ := at_some (l := rows) (k := n.toNat) (by omega)
      rw [hx]
      exact (hrows x (mem_at hx)).mix he
  · cases hr
theorem repl_len {rows : List (List Value)} {n : Int} {e : List Value} : (repl rows n e).length ≤ rows.length := by
  unfold repl; split <;> simp
set_option maxHeartbeats 8000000 in
/-- The law of the replacements gives true. -/
theorem law_replaces_ok {σ : St} {v : Value} {rows : List (List Value)} {n : Int} {e : List Value} (hl : SLs σ 46 v rows) (hlen : rows.length ≤ 1048576) (he : EvRow e) (hrows : ∀ r ∈ rows, EvRow r) :
    Ev (go Tryz.prog HS (.fn 3) [v, .int .i64 n, .agg ⟨e⟩] σ) (fun r => ∃ σ', r = ⟨false, .bool true, σ'⟩) ⟨⟩ := by
  refine ev_go Tryz.func3 rfl rfl ?_
  obtain ⟨a, c, hv⟩ := hl.shape
  subst hv
  have hel := he.len
  simp (maxSteps := 1000000) (disch := first | omega | ((try simp only [bunN]) <;> omega) | fail) only [↓bD, bW, Nat.reduceMul, Nat.reduceEqDiff, Nat.reduceAdd, Nat.reduceBEq, reduceIte, ev_san]
  refine (mod_ok (a := n) (b := ((rows.length + 1 : Nat) : Int)) (by omega)).mono ?_
  rintro r ⟨m, rfl⟩
  simp (maxSteps := 1000000) (disch := first | omega | ((try simp only [bunN]) <;> omega) | fail) only [↓bD, bW, Nat.reduceMul, Nat.reduceEqDiff, Nat.reduceAdd, Nat.reduceBEq, reduceIte]
  refine ev_count 4 (fun i fr σ' => fr.get 22 = some (.int .i64 i) ∧ fr.get 21 = some (.int .i64 4) ∧ fr.get 20 = some (.slice (some ⟨σ.n + 1, 0, none⟩) 4 4) ∧ fr.get 0 = some (.slice a rows.length c) ∧ fr.get 5 = some (ptrTo σ.n) ∧ fr.get 7 = some (.bool true) ∧ Ext ((σ.new e).new [.int .i64 n, .int .i64 m, .int .i64 0, .int .i64 ((rows.length : Int) - 1)]) σ')
    (fun r => ∃ fr σ', r = ⟨.exit 0, fr, σ'⟩ ∧ fr.get 7 = some (.bool true)) ?_ ?_ ?_ ?_
  · refine ⟨fR, fR, fR, fR, fR, fR, ?_⟩
    exact Ext.refl _
  · rintro i fr σ' hi ⟨g22, g21, g20, g0, g5, g7, hE⟩
    have hc : decide ((i : Int) < 4) = true := decide_eq_true (by omega)
    obtain ⟨x, hx⟩ : ∃ x : Int, sub [Value.int .i64 n, .int .i64 m, .int .i64 0, .int .i64 ((rows.length : Int) - 1)] i 1 = some [.int .i64 x] := by
      rcases (by omega : i = 0 ∨ i = 1 ∨ i = 2 ∨ i = 3) with rfl | rfl | rfl | rfl <;> exact ⟨_, rfl⟩
    have hq : σ'.row (σ.n + 1) = some [.int .i64 n, .int .i64 m, .int .i64 0, .int .i64 ((rows.length : Int) - 1)] := by rw [hE.row (by simp)]; exact row_new_same (by simp) (by simp)
    have hbx : σ'.row σ.n = some e := by rw [hE.row (by simp; omega)]; exact (row_new_ne (by simp)).trans (row_new_same (by simp) (by simp))
    have hE0 : Ext σ σ' := ((Ext.new σ e).trans (.new _ _)).trans hE
    have he46 : sub e 0 46 = some e := sub_full (by omega) (by omega)
    have hn := hE.n
    simp only [new_n] at hn
    simp (maxSteps := 1000000) (disch := first | omega | ((try simp only [bunN]) <;> omega) | fail) only [↓bD, bW, Nat.reduceMul, Nat.reduceEqDiff, Nat.reduceAdd, Nat.reduceBEq, reduceIte, g0, g5, g7, g20, g21, g22, hc, hq, hx, hbx, he46]
    refine (replace_ok (n := x) (hl.ext hE0) hlen he hrows).mono ?_
    rintro r ⟨w1, σ1, rfl, hE1, ho1⟩
    have hbx1 : σ1.row σ.n = some e := by rw [hE1.row (by omega)]; exact hbx
    simp (maxSteps := 1000000) (disch := first | omega | ((try simp only [bunN]) <;> omega) | fail) only [↓bD, bW, Nat.reduceMul, Nat.reduceEqDiff, Nat.reduceAdd, Nat.reduceBEq, reduceIte, g0, g5, hbx1, he46]
    refine (rreplace_ok (n := x) (hl.ext (hE0.trans hE1)) hlen he hrows).mono ?_
    rintro r ⟨w2, σ2, rfl, hE2, ho2⟩
    simp (maxSteps := 1000000) (disch := first | omega | ((try simp only [bunN]) <;> omega) | fail) only [↓bD, bW, Nat.reduceMul, Nat.reduceEqDiff, Nat.reduceAdd, Nat.reduceBEq, reduceIte, g0, g5]
    refine (same_ok (SL.mono ho1.sl hE2) ho2.sl (repl_row he hrows) (Nat.le_trans repl_len hlen)).mono ?_
    rintro r rfl
    simp (maxSteps := 1000000) (disch := first | omega | ((try simp only [bunN]) <;> omega) | fail) only [↓bD, bW, Nat.reduceMul, Nat.reduceEqDiff, Nat.reduceAdd, Nat.reduceBEq, reduceIte, g0, g5, g22]
    refine Must.intro (by (repeat first | simp (disch := omega) only [as_read, as_upd, as_newb, asx hE1, asx hE2, asx (Ext.refl σ2)] | rw [as_ord (by kernel_rfl)]); rfl) ?_
    simp (maxSteps := 1000000) (disch := first | omega | ((try simp only [bunN]) <;> omega) | fail) only [↓bD, bW, Nat.reduceMul, Nat.reduceEqDiff, Nat.reduceAdd, Nat.reduceBEq, reduceIte, g0, g5, g22]
    exact ⟨fR, fR1 g21, fR1 g20, fR1 g0, fR1 g5, fR1 g7, (hE.trans hE1).trans hE2⟩
  · rintro fr σ' ⟨g22, g21, g20, g0, g5, g7, hE⟩
    have hc : decide (((4 : Nat) : Int) < 4) = false := rfl
    simp (maxSteps := 1000000) (disch := first | omega | ((try simp only [bunN]) <;> omega) | fail) only [↓bD, bW, Nat.reduceMul, Nat.reduceEqDiff, Nat.reduceAdd, Nat.reduceBEq, reduceIte, g21, g22, g7, hc]
    exact ⟨_, _, rfl, fR1 g7⟩
  · rintro r ⟨fr, σ', rfl, g7⟩
    simp (maxSteps := 1000000) (disch := first | omega | ((try simp only [bunN]) <;> omega) | fail) only [↓bD, bW, Nat.reduceMul, Nat.reduceEqDiff, Nat.reduceAdd, Nat.reduceBEq, reduceIte, g7, Tryz.results3]
    exact ⟨_, rfl⟩
end Go.Proofs.G
