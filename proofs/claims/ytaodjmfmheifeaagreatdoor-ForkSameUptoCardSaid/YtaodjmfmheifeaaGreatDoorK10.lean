/- A part of the proof: a walk of some functions. -/
import Derived.Test.YtaodjmfmheifeaaGreatDoorK9
set_option linter.unusedSimpArgs false
set_option linter.unusedVariables false
namespace Go.Proofs.G
open Go Go.Ab
set_option maxRecDepth 100000
def In64 (n : Int) : Prop := -9223372036854775808 ≤ n ∧ n ≤ 9223372036854775807
theorem nn_ptr {a : Addr} : nonNil (.pointer (some a)) = some (.pointer (some a)) := rfl
theorem mod1_ok {σ : St} {n m : Int} (h1 : In64 n) (h3 : 0 < m) (h4 : m ≤ 4294967296) :
    Ev (go Tryz.prog HS (.fn 32) [.int .i64 n, .int .i64 m] σ) (fun r => r = ⟨false, .int .i64 (n % m), σ⟩) ⟨⟩ := by
  obtain ⟨h1, h2⟩ := h1
  have hm0 : m ≠ 0 := by omega
  have a1 := Int.tmod_lt_of_pos n h3
  have a2 : -m < n.tmod m := by
    have := Int.lt_tmod_of_pos n h3
    omega
  have e : (n.tmod m + m).tmod m = n % m := by
    rw [Int.tmod_eq_emod_of_nonneg (by omega), Int.add_emod_right]
    rw [Int.tmod_def]
    exact Int.sub_mul_emod_self_left _ _ _
  refine ev_go Tryz.func32 rfl rfl ?_
  simp (maxSteps := 1000000) (disch := first | omega | ((try simp only [bunN]) <;> omega) | fail) only [↓bD, bW, Nat.reduceMul, Nat.reduceEqDiff, Nat.reduceAdd, Nat.reduceBEq, reduceIte, b2_rem hm0, Tryz.results32, e]
/-- A list of numbers that came in. -/
def ArgInts (σ : St) (v : Value) (l : List Int) : Prop := Nums σ v l ∧ ∀ n ∈ l, In64 n
/-- A maker of numbers: its list, and how far it has come. -/
structure MkAt (σ : St) (q : Nat) (v : Value) (l : List Int) (k : Nat) : Prop where
  row : σ.orow q = some [v, .int .i64 (k : Nat)]
  lt : q < σ.n
  le : k ≤ l.length
theorem next_ok {σ0 σ : St} {q k : Nat} {v : Value} {l : List Int} {n : Int} (hE : Ext σ0 σ) (hq : σ0.n ≤ q) (hm : MkAt σ q v l k) (hl : ArgInts σ0 v l) (hll : l.length ≤ 1048576) (h1 : 0 < n) (h2 : n ≤ 1000) :
    Ev (go Tryz.prog HS (.fn 21) [.pointer (some ⟨q, 0, none⟩), .int .i64 n] σ) (fun r => ∃ x k' σ', r = ⟨false, .int .i64 x, σ'⟩ ∧ 0 ≤ x ∧ x < n ∧ MkAt σ' q v l k' ∧ ExtX q σ σ') ⟨⟩ := by
  obtain ⟨a, c, b, off, cells, rfl, l1, l2⟩ := SL.use' hl.1
  have ro := hm.row
  have rr := row_of ro
  have hk := hm.le
  refine ev_go Tryz.func21 rfl rfl ?_
  by_cases hlt : k < l.length
  · have c1 : decide (k < l.length) = true := decide_eq_true hlt
    obtain ⟨y, hy⟩ := at_some hlt
    obtain ⟨sp, rfl, l3, l4⟩ := l1 (by omega)
    have l4 : σ.row b = some cells := by rw [hE.row l3]; exact l4
    have hne : b ≠ q := by omega
    have s1 : sub cells (off + k) 1 = some [.int .i64 y] := by have := l2 k y hy; rwa [Nat.mul_one] at this
    have e1 : (((k + 1 : Nat) : Int) - 1) = (k : Int) := by omega
    simp (maxSteps := 1000000) (disch := first | omega | ((try simp only [bunN]) <;> omega) | fail) only [↓bD, bW, Nat.reduceMul, Nat.reduceEqDiff, Nat.reduceAdd, Nat.reduceBEq, reduceIte, rr, ro, c1, l4, s1, e1, nn_ptr]
    have hn64 := hl.2 y (List.mem_of_getElem? hy)
    refine (mod1_ok hn64 h1 (by omega)).mono ?_
    rintro r rfl
    simp (maxSteps := 1000000) (disch := first | omega | ((try simp only [bunN]) <;> omega) | fail) only [↓bD, bW, Nat.reduceMul, Nat.reduceEqDiff, Nat.reduceAdd, Nat.reduceBEq, reduceIte, asx (Ext.refl _), Tryz.results21]
    try refine Must.intro (by (repeat first | simp (disch := omega) only [as_read, as_upd, as_newb, asx (Ext.refl _)] | rw [as_ord (by kernel_rfl)]); rfl) ?_
    try simp (maxSteps := 1000000) (disch := first | omega | ((try simp only [bunN]) <;> omega) | fail) only [↓bD, bW, Nat.reduceMul, Nat.reduceEqDiff, Nat.reduceAdd, Nat.reduceBEq, reduceIte, Tryz.results21]
    exact ⟨_, k + 1, _, rfl, Int.emod_nonneg _ (by omega), Int.emod_lt_of_pos _ h1, ⟨cL, hm.lt, by omega⟩, ExtX.refl.upd _⟩
  · have c1 : decide (k < l.length) = false := decide_eq_false hlt
    simp (maxSteps := 1000000) (disch := first | omega | ((try simp only [bunN]) <;> omega) | fail) only [↓bD, bW, Nat.reduceMul, Nat.reduceEqDiff, Nat.reduceAdd, Nat.reduceBEq, reduceIte, rr, c1, nn_ptr, Tryz.results21]
    exact ⟨0, k, _, rfl, by omega, h1, hm, .refl⟩
end Go.Proofs.G
