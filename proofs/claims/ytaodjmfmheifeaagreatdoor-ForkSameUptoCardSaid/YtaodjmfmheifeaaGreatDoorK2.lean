/- A part of the proof: a walk of some functions. -/
import Derived.Test.YtaodjmfmheifeaaGreatDoorK1
set_option linter.unusedSimpArgs false
set_option linter.unusedVariables false
namespace Go.Proofs.G
open Go Go.Ab
set_option maxRecDepth 100000
set_option maxHeartbeats 8000000 in
theorem rreplace_ok {σ : St} {v : Value} {rows : List (List Value)} {n : Int} {e : List Value} (hl : SLs σ 46 v rows) (hlen : rows.length ≤ 1048576) (he : EvRow e) (hrows : ∀ r ∈ rows, EvRow r) :
    Ev (go Tryz.prog HS (.fn 10) [v, .int .i64 n, .agg ⟨e⟩] σ) (fun r => ∃ w σ', r = ⟨false, w, σ'⟩ ∧ Ext σ σ' ∧ OL σ.n σ' 46 w (repl rows n e)) ⟨⟩ := by
  refine ev_go Tryz.func10 rfl rfl ?_
  obtain ⟨a, c, hv⟩ := hl.shape
  subst hv
  have hel := he.len
  by_cases h0 : n < 0
  · have hc0 := lt0 h0
    simp (maxSteps := 1000000) (disch := first | omega | ((try simp only [bunN]) <;> omega) | fail) only [↓bD, bW, Nat.reduceMul, Nat.reduceEqDiff, Nat.reduceAdd, Nat.reduceBEq, reduceIte, hc0, Tryz.results10]
    have hrep : repl rows n e = [] := by unfold repl; rw [if_neg (by omega)]
    rw [hrep]
    exact ⟨_, _, rfl, eX, .nil⟩
  · obtain ⟨k, rfl⟩ : ∃ k : Nat, n = (k : Int) := ⟨n.toNat, by omega⟩
    have hc0 := nlt0 (n := (k : Int)) (by omega)
    by_cases hk : k < rows.length
    · have hck := lt_true hk
      simp (maxSteps := 1000000) (disch := first | omega | ((try simp only [bunN]) <;> omega) | fail) only [↓bD, bU, Nat.reduceMul, Nat.reduceEqDiff, Nat.reduceAdd, Nat.reduceBEq, reduceIte, splice_succ, ap33, ap38, ap39, ap78, hc0, hck]
      refine ev_clone (fun _ _ _ _ => ap22) (orow_new_same (Nat.le_refl _) (Nat.le_refl _)) (by simp) ((hl.ext (.new _ _)).ext (.new _ _)) (by omega) ?_
      intro v1 σ1 ho hEX
      have hE : Ext σ σ1 := hEX.ext ((Ext.new σ e).trans (.new _ _)) (by simp)
      have hl1 := (hl.ext hE).sl
      obtain ⟨a', c', b, off, cells, he1, hb, hrd⟩ := SL.use hl1
      cases he1
      obtain ⟨sp, rfl, hbn, hrow⟩ := hb (by omega)
      obtain ⟨x, hx⟩ := at_some hk
      have hsub := hrd k x hx
      obtain ⟨s, kk, w, t, r, rfl, hr⟩ := (hrows x (mem_at hx)).four
      have hbσ : b < σ.n := by
        have h2 := hl.sl
        obtain ⟨a2, c2, b2, off2, cells2, he2, hb2, -⟩ := SL.use h2
        cases he2
        obtain ⟨sp2, he3, hb3, -⟩ := hb2 (by omega)
        cases he3; exact hb3
      have hs1 : sub cells (off + k * 46 + 1) 1 = some [.int .i64 kk] := by rw [sub_in hsub (by omega)]; rfl
      have hs2 : sub cells (off + k * 46 + 2) 1 = some [.int .i64 w] := by rw [sub_in hsub (by omega)]; rfl
      have hs3 : sub cells (off + k * 46 + 3) 1 = some [.int .i64 t] := by rw [sub_in hsub (by omega)]; rfl
      obtain ⟨s', k', w', t', r', rfl, hr'⟩ := he.four
      have hn1 := hEX.n
      simp only [new_n] at hn1
      have hbx : σ1.row σ.n = some (.int .i64 s' :: .int .i64 k' :: .int .i64 w' :: .int .i64 t' :: r') := by
        rw [hEX.row (by simp; omega) (by simp)]
        exact (row_new_ne (by simp)).trans (row_new_same (Nat.le_refl _) (Nat.le_refl _))
      simp (maxSteps := 1000000) (disch := first | omega | ((try simp only [bunN]) <;> omega) | fail) only [↓bD, bW, Nat.reduceMul, Nat.reduceEqDiff, Nat.reduceAdd, Nat.reduceBEq, reduceIte, hrow, hs1, hs2, hs3, hbx]
      obtain ⟨hr1, ⟨-, rfl⟩ | ⟨b2, sp2, rfl, hsp, b3, b4, b5⟩⟩ := ho
      · simp at hk
      have b3' : σ.n + 1 ≤ b2 := b3
      have hm46 : (mix (k : Int) (.int .i64 s :: .int .i64 kk :: .int .i64 w :: .int .i64 t :: r) (.int .i64 s' :: .int .i64 k' :: .int .i64 w' :: .int .i64 t' :: r')).length = 46 := ((hrows _ (mem_at hx)).mix he).len
      have hspl := splice_rows hr1 hm46 hk
      have hmx : mix (k : Int) (.int .i64 s :: .int .i64 kk :: .int .i64 w :: .int .i64 t :: r) (.int .i64 s' :: .int .i64 k' :: .int .i64 w' :: .int .i64 t' :: r') = .int .i64 k :: .int .i64 kk :: .int .i64 w :: .int .i64 t :: r' := rfl
      rw [hmx] at hspl hm46
      simp (maxSteps := 1000000) (disch := first | omega | ((try simp only [bunN]) <;> omega) | fail) only [↓bD, bW, Nat.reduceMul, Nat.reduceEqDiff, Nat.reduceAdd, Nat.reduceBEq, reduceIte, b5, hspl, hck, hm46, Tryz.results10]
      have hrep : repl rows (k : Int) (.int .i64 s' :: .int .i64 k' :: .int .i64 w' :: .int .i64 t' :: r') = rows.set k (.int .i64 k :: .int .i64 kk :: .int .i64 w :: .int .i64 t :: r') := by
        unfold repl; rw [if_pos (by omega)]
        simp only [Int.toNat_natCast, hx, Option.getD_some]; rfl
      rw [hrep]
      refine ⟨_, _, rfl, eX, fun r hr => ?_, .inr ⟨b2, sp2, by simp, hsp, by omega, by simp; omega, orow_upd_same⟩⟩
      rcases List.mem_or_eq_of_mem_set hr with h | rfl
      · exact hr1 r h
      · exact hm46
    · have hck : decide (k < rows.length) = false := decide_eq_false hk
      simp (maxSteps := 1000000) (disch := first | omega | ((try simp only [bunN]) <;> omega) | fail) only [↓bD, bW, Nat.reduceMul, Nat.reduceEqDiff, Nat.reduceAdd, Nat.reduceBEq, reduceIte, hc0, hck, Tryz.results10]
      have hrep : repl rows (k : Int) e = [] := by unfold repl; rw [if_neg (by omega)]
      rw [hrep]
      exact ⟨_, _, rfl, eX, .nil⟩
end Go.Proofs.G
