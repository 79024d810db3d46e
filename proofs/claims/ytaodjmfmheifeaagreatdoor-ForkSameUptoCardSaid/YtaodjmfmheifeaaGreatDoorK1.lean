/- A part of the proof: a walk of some functions. -/
import Derived.Test.YtaodjmfmheifeaaGreatDoorK0
set_option linter.unusedSimpArgs false
set_option linter.unusedVariables false
namespace Go.Proofs.G
open Go Go.Ab
set_option maxRecDepth 100000
/-- A row in the place of another one. -/
theorem splice_rows {α : Type} {k : Nat} : ∀ {rows : List (List α)} {i : Nat} {r' : List α}, (∀ r ∈ rows, r.length = k) → r'.length = k → i < rows.length → splice rows.flatten (i * k) r' = some (rows.set i r').flatten := by
  intro rows i r' hr hk hi
  have hf := flatten_len rows hr
  have h1 : i * k + k ≤ rows.length * k := by
    have : (i + 1) * k ≤ rows.length * k := Nat.mul_le_mul_right k hi
    rw [Nat.succ_mul] at this; exact this
  rw [splice_at (by omega), hk]
  congr 1
  clear hf h1
  induction rows generalizing i with
  | nil => simp at hi
  | cons x rows ih =>
    have hx : x.length = k := hr x (by simp)
    cases i with
    | zero =>
      simp only [Nat.zero_mul, List.take_zero, List.nil_append, Nat.zero_add, List.set_cons_zero, List.flatten_cons]
      rw [← hx, List.drop_left]
    | succ i =>
      have := ih (i := i) (fun r h => hr r (by simp [h])) (by simpa using hi)
      rw [List.set_cons_succ, List.flatten_cons, List.flatten_cons, ← this, Nat.succ_mul]
      have e1 : (x ++ rows.flatten).take (i * k + k) = x ++ rows.flatten.take (i * k) := by rw [List.take_append, List.take_of_length_le (by omega)]; congr 2; omega
      have e2 : (x ++ rows.flatten).drop (i * k + k + k) = rows.flatten.drop (i * k + k) := by rw [List.drop_append, List.drop_eq_nil_of_le (by omega), List.nil_append]; congr 1; omega
      rw [e1, e2]; simp
/-- A list in which an event is replaced. -/
def repl (rows : List (List Value)) (n : Int) (e : List Value) : List (List Value) := if 0 ≤ n ∧ n < rows.length then rows.set n.toNat (mix n (rows[n.toNat]?.getD []) e) else []
set_option maxHeartbeats 4000000 in
theorem changed_ok {σ : St} {n : Int} {c e : List Value} (hc : EvRow c) (he : EvRow e) :
    Ev (go Tryz.prog HS (.fn 20) [.agg ⟨c⟩, .int .i64 n, .agg ⟨e⟩] σ) (fun r => ∃ σ', r = ⟨false, .agg ⟨mix n c e⟩, σ'⟩ ∧ Ext σ σ') ⟨⟩ := by
  refine ev_go Tryz.func20 rfl rfl ?_
  obtain ⟨s, k, w, t, r, rfl, hr⟩ := hc.four
  obtain ⟨s', k', w', t', r', rfl, hr'⟩ := he.four
  simp (maxSteps := 1000000) (disch := first | omega | ((try simp only [bunN]) <;> omega) | fail) only [↓bD, bW, Nat.reduceMul, Nat.reduceEqDiff, Nat.reduceAdd, Nat.reduceBEq, reduceIte]
  refine Must.intro (by (repeat first | simp (disch := omega) only [as_read, as_upd, as_newb] | rw [as_ord (by kernel_rfl)]); rfl) ?_
  simp (maxSteps := 1000000) (disch := first | omega | ((try simp only [bunN]) <;> omega) | fail) only [↓bD, bW, Nat.reduceMul, Nat.reduceEqDiff, Nat.reduceAdd, Nat.reduceBEq, reduceIte, Tryz.results20]
  exact ⟨_, rfl, eX⟩
theorem lt0 {n : Int} (h : n < 0) : decide (n < 0) = true := decide_eq_true h
theorem nlt0 {n : Int} (h : 0 ≤ n) : decide (n < 0) = false := decide_eq_false (by omega)
theorem mem_at {α : Type} {l : List α} {k : Nat} {a : α} (h : l[k]? = some a) : a ∈ l := List.mem_of_getElem? h
theorem bq_nil {x y : Operand} : bin2 Tryz.prog .eql 22 x y (.slice none 0 0) (.slice none 0 0) = some (.bool true) := by kernel_rfl
theorem bq_not {x y : Operand} {n k : Nat} {a : Addr} : bin2 Tryz.prog .eql 22 x y (.slice (some a) n k) (.slice none 0 0) = some (.bool false) := by kernel_rfl
set_option maxHeartbeats 4000000 in
theorem clone_ev_ok {σ : St} {v : Value} {rows : List (List Value)} (hl : SLs σ 46 v rows) (hlen : rows.length ≤ 1048576) :
    Ev (go Tryz.prog HS (.fn 19) [v] σ) (fun r => ∃ w σ', r = ⟨false, w, σ'⟩ ∧ Ext σ σ' ∧ OL σ.n σ' 46 w rows) ⟨⟩ := by
  refine ev_go Tryz.func19 rfl rfl ?_
  have hl' := hl
  obtain ⟨hr, ⟨rfl, rfl⟩ | ⟨b, off, sp, c, cells, rfl, h1, h2, h3⟩⟩ := hl
  · simp (maxSteps := 1000000) (disch := first | omega | ((try simp only [bunN]) <;> omega) | fail) only [↓bD, bW, Nat.reduceMul, Nat.reduceEqDiff, Nat.reduceAdd, Nat.reduceBEq, reduceIte, bq_nil, Tryz.results19]
    exact ⟨_, _, rfl, Ext.refl _, .nil⟩
  · simp (maxSteps := 1000000) (disch := first | omega | ((try simp only [bunN]) <;> omega) | fail) only [↓bD, bU, Nat.reduceMul, Nat.reduceEqDiff, Nat.reduceAdd, Nat.reduceBEq, reduceIte, splice_succ, ap33, ap38, ap39, ap78, bq_not]
    refine ev_clone (fun _ _ _ _ => ap22) (orow_new_same (Nat.le_refl _) (Nat.le_refl _)) (by simp) (hl'.ext (.new _ _)) (by omega) ?_
    intro v' σ' hv hE
    simp (maxSteps := 1000000) (disch := first | omega | ((try simp only [bunN]) <;> omega) | fail) only [↓bD, bW, Nat.reduceMul, Nat.reduceEqDiff, Nat.reduceAdd, Nat.reduceBEq, reduceIte, Tryz.results19]
    exact ⟨_, _, rfl, hE.ext (Ext.new _ _) (Nat.le_refl _), hv⟩
set_option maxHeartbeats 4000000 in
theorem replace_ok {σ : St} {v : Value} {rows : List (List Value)} {n : Int} {e : List Value} (hl : SLs σ 46 v rows) (hlen : rows.length ≤ 1048576) (he : EvRow e) (hrows : ∀ r ∈ rows, EvRow r) :
    Ev (go Tryz.prog HS (.fn 9) [v, .int .i64 n, .agg ⟨e⟩] σ) (fun r => ∃ w σ', r = ⟨false, w, σ'⟩ ∧ Ext σ σ' ∧ OL σ.n σ' 46 w (repl rows n e)) ⟨⟩ := by
  refine ev_go Tryz.func9 rfl rfl ?_
  obtain ⟨a, c, hv⟩ := hl.shape
  subst hv
  have hel := he.len
  by_cases h0 : n < 0
  · have hc0 := lt0 h0
    simp (maxSteps := 1000000) (disch := first | omega | ((try simp only [bunN]) <;> omega) | fail) only [↓bD, bW, Nat.reduceMul, Nat.reduceEqDiff, Nat.reduceAdd, Nat.reduceBEq, reduceIte, hc0, Tryz.results9]
    have hrep : repl rows n e = [] := by unfold repl; rw [if_neg (by omega)]
    rw [hrep]
    exact ⟨_, _, rfl, eX, .nil⟩
  · obtain ⟨k, rfl⟩ : ∃ k : Nat, n = (k : Int) := ⟨n.toNat, by omega⟩
    have hc0 := nlt0 (n := (k : Int)) (by omega)
    by_cases hk : k < rows.length
    · have hck := lt_true hk
      simp (maxSteps := 1000000) (disch := first | omega | ((try simp only [bunN]) <;> omega) | fail) only [↓bD, bW, Nat.reduceMul, Nat.reduceEqDiff, Nat.reduceAdd, Nat.reduceBEq, reduceIte, hc0, hck]
      refine (clone_ev_ok (hl.ext (.new _ _)) hlen).mono ?_
      rintro r ⟨w, σ1, rfl, hE1, ho⟩
      have hE := (Ext.new σ e).trans hE1
      have hl1 := (hl.ext hE).sl
      obtain ⟨a', c', b, off, cells, he1, hb, hrd⟩ := SL.use hl1
      cases he1
      obtain ⟨sp, rfl, hbn, hrow⟩ := hb (by omega)
      obtain ⟨x, hx⟩ := at_some hk
      have hsub := hrd k x hx
      have he46 : sub e 0 46 = some e := sub_full (by omega) (by omega)
      have hbx : σ1.row σ.n = some e := by rw [hE1.row (by simp)]; exact row_new_same (Nat.le_refl _) (Nat.le_refl _)
      simp (maxSteps := 1000000) (disch := first | omega | ((try simp only [bunN]) <;> omega) | fail) only [↓bD, bW, Nat.reduceMul, Nat.reduceEqDiff, Nat.reduceAdd, Nat.reduceBEq, reduceIte, hrow, hsub, hbx, he46]
      refine (changed_ok (hrows x (mem_at hx)) he).mono ?_
      rintro r ⟨σ2, rfl, hE2⟩
      obtain ⟨hr1, ⟨-, rfl⟩ | ⟨b2, sp2, rfl, hsp, b3, b4, b5⟩⟩ := ho.ext hE2
      · simp at hk
      have hm46 : (mix (k : Int) x e).length = 46 := ((hrows x (mem_at hx)).mix he).len
      have hspl := splice_rows hr1 hm46 hk
      have hbσ : b < σ.n := by
        have h2 := hl.sl
        obtain ⟨a2, c2, b2, off2, cells2, he2, hb2, -⟩ := SL.use h2
        cases he2
        obtain ⟨sp2, he3, hb3, -⟩ := hb2 (by omega)
        cases he3; exact hb3
      have b3' : σ.n + 1 ≤ b2 := b3
      simp (maxSteps := 1000000) (disch := first | omega | ((try simp only [bunN]) <;> omega) | fail) only [↓bD, bW, Nat.reduceMul, Nat.reduceEqDiff, Nat.reduceAdd, Nat.reduceBEq, reduceIte, b5, hspl, hm46]
      refine Must.intro (by (repeat first | simp (disch := omega) only [as_read, as_upd, as_newb, asx hE2] | rw [as_ord (by kernel_rfl)]); rfl) ?_
      simp (maxSteps := 1000000) (disch := first | omega | ((try simp only [bunN]) <;> omega) | fail) only [↓bD, bW, Nat.reduceMul, Nat.reduceEqDiff, Nat.reduceAdd, Nat.reduceBEq, reduceIte, Tryz.results9]
      have hrep : repl rows (k : Int) e = rows.set k (mix (k : Int) x e) := by
        unfold repl; rw [if_pos (by omega)]
        simp only [Int.toNat_natCast, hx, Option.getD_some]
      rw [hrep]
      refine ⟨_, _, rfl, (hE.trans hE2).upd (by omega) _, fun r hr => ?_, .inr ⟨b2, sp2, by simp, hsp, by omega, by simpa using b4, orow_upd_same⟩⟩
      rcases List.mem_or_eq_of_mem_set hr with h | rfl
      · exact hr1 r h
      · exact hm46
    · have hck : decide (k < rows.length) = false := decide_eq_false hk
      simp (maxSteps := 1000000) (disch := first | omega | ((try simp only [bunN]) <;> omega) | fail) only [↓bD, bW, Nat.reduceMul, Nat.reduceEqDiff, Nat.reduceAdd, Nat.reduceBEq, reduceIte, hc0, hck, Tryz.results9]
      have hrep : repl rows (k : Int) e = [] := by unfold repl; rw [if_neg (by omega)]
      rw [hrep]
      exact ⟨_, _, rfl, eX, .nil⟩
end Go.Proofs.G
