/- A part of the proof: a walk of some functions. -/
import Derived.Test.YtcjkjjnnicadfaaGreatDoorGA
import Derived.Test.YtcjkjjnnicadfaaGreatDoorAbD
import Derived.Test.YtcjkjjnnicadfaaGreatDoorGB
set_option linter.unusedSimpArgs false
set_option linter.unusedVariables false
namespace Go.Proofs.G
open Go Go.Ab
set_option maxRecDepth 100000
variable {σ : St}
/-- Is it among the first k? -/
def among (l : List (List UInt8)) (s : List UInt8) : Nat → Bool
  | 0 => false
  | k + 1 => among l s k || decide (l[k]? = some s)
theorem among_all (l : List (List UInt8)) (s : List UInt8) (k : Nat) : among l s k = true ↔ ∃ i, i < k ∧ l[i]? = some s := by
  induction k with
  | zero => simp [among]
  | succ k ih =>
    simp only [among, Bool.or_eq_true, ih, decide_eq_true_iff]
    constructor
    · rintro (⟨i, h1, h2⟩ | h)
      · exact ⟨i, by omega, h2⟩
      · exact ⟨k, by omega, h⟩
    · rintro ⟨i, h1, h2⟩
      by_cases e : i = k
      · subst e; exact .inr h2
      · exact .inl ⟨i, by omega, h2⟩
theorem among_contains (l : List (List UInt8)) (s : List UInt8) : among l s l.length = l.contains s := by
  rw [Bool.eq_iff_iff, among_all, List.contains_iff_mem, List.mem_iff_getElem?]
  constructor
  · rintro ⟨i, -, h⟩; exact ⟨i, h⟩
  · rintro ⟨i, h⟩
    obtain ⟨hlt, _⟩ := List.getElem?_eq_some_iff.1 h
    exact ⟨i, hlt, h⟩
theorem has_ok {v : Value} {l : List (List UInt8)} {s : List UInt8} (hl : Strs σ v l) (hn : l.length ≤ 4294967296) :
    Ev (go Tryz.prog HS (.fn 90) [v, str s] σ) (fun r => r = ⟨false, .bool (l.contains s), σ⟩) ⟨⟩ := by
  obtain ⟨a, c, b, off, cells, rfl, h1, h2⟩ := hl.use
  refine ev_go Tryz.func90 rfl rfl ?_
  simp (maxSteps := 1000000) (disch := first | omega | ((try simp only [bunN]) <;> omega) | fail) only [↓bunD, bunU, ↓bunFD, bunFU, Nat.reduceMul, Nat.reduceEqDiff, Nat.reduceAdd, Nat.reduceBEq, reduceIte, splice_succ, bunAP]
  refine ev_loop (fun j fr σ' => ∃ k, j = l.length - k ∧ k ≤ l.length ∧ fr.get 0 = some (.slice a l.length c) ∧ fr.get 1 = some (str s) ∧ fr.get 5 = some (.int .i64 k) ∧ σ' = σ ∧ among l s k = false)
    (fun r => (∃ fr, r = ⟨.exit 0, fr, σ⟩ ∧ among l s l.length = false) ∨ (∃ fr, r = ⟨.ret, fr, σ⟩ ∧ fr.get 4 = some (.bool true) ∧ l.contains s = true)) l.length ?_ ?_ ?_
  · refine ⟨0, rfl, by omega, ?_, ?_, ?_, rfl, rfl⟩
    all_goals first | trivial | rfl | assumption | omega | (simp only [bunM]; omega) | (simp (disch := first | omega | ((try simp only [bunN]) <;> omega) | fail) only [bunR, ↓get_set, Nat.reduceEqDiff, reduceIte, init_cons, init_nil]; first | done | rfl | assumption | omega)
  · rintro j fr σ' ⟨k, rfl, hk, g0, g1, g5, rfl, hm⟩
    by_cases hc : k < l.length
    · obtain ⟨sp, rfl, hb, hr⟩ := h1 (by omega)
      obtain ⟨x, hx⟩ : ∃ x, l[k]? = some x := ⟨_, List.getElem?_eq_getElem hc⟩
      have h2 := h2 k x hx
      have hc' : decide (k < l.length) = true := by simpa using hc
      simp (maxSteps := 1000000) (disch := first | omega | ((try simp only [bunN]) <;> omega) | fail) only [↓bunD, bunU, ↓bunFD, bunFU, Nat.reduceMul, Nat.reduceEqDiff, Nat.reduceAdd, Nat.reduceBEq, reduceIte, splice_succ, bunAP, g0, g1, g5, lt_nat, hc', hr, Nat.mul_one, h2]
      refine Br.intro (fun hd => ?_) (fun hd => ?_)
      · obtain rfl : x = s := by simpa using hd
        simp (maxSteps := 1000000) (disch := first | omega | ((try simp only [bunN]) <;> omega) | fail) only [↓bunD, bunU, ↓bunFD, bunFU, Nat.reduceMul, Nat.reduceEqDiff, Nat.reduceAdd, Nat.reduceBEq, reduceIte, splice_succ, bunAP, g0, g1, g5, lp_ret]
        refine .inr ⟨_, rfl, by first | trivial | rfl | assumption | omega | (simp only [bunM]; omega) | (simp (disch := first | omega | ((try simp only [bunN]) <;> omega) | fail) only [bunR, ↓get_set, Nat.reduceEqDiff, reduceIte]; first | done | rfl | assumption | omega), ?_⟩
        rw [List.contains_iff_mem]
        exact List.mem_of_getElem? hx
      · have hd : x ≠ s := by simpa using hd
        simp (maxSteps := 1000000) (disch := first | omega | ((try simp only [bunN]) <;> omega) | fail) only [↓bunD, bunU, ↓bunFD, bunFU, Nat.reduceMul, Nat.reduceEqDiff, Nat.reduceAdd, Nat.reduceBEq, reduceIte, splice_succ, bunAP, g0, g1, g5, nat_succ, lp_normal]
        refine ⟨l.length - (k + 1), by omega, k + 1, rfl, by omega, by first | trivial | rfl | assumption | omega | (simp only [bunM]; omega) | (simp (disch := first | omega | ((try simp only [bunN]) <;> omega) | fail) only [bunR, ↓get_set, Nat.reduceEqDiff, reduceIte, g0]; first | done | rfl | assumption | omega), by first | trivial | rfl | assumption | omega | (simp only [bunM]; omega) | (simp (disch := first | omega | ((try simp only [bunN]) <;> omega) | fail) only [bunR, ↓get_set, Nat.reduceEqDiff, reduceIte, g1]; first | done | rfl | assumption | omega), by first | trivial | rfl | assumption | omega | (simp only [bunM]; omega) | (simp (disch := first | omega | ((try simp only [bunN]) <;> omega) | fail) only [bunR, ↓get_set, Nat.reduceEqDiff, reduceIte]; first | done | rfl | assumption | omega), by trivial, ?_⟩
        show (among l s k || decide (l[k]? = some s)) = false
        rw [hm, hx]
        simpa using hd
    · have hc' : decide (k < l.length) = false := by simpa using hc
      obtain rfl : k = l.length := by omega
      simp (maxSteps := 1000000) (disch := first | omega | ((try simp only [bunN]) <;> omega) | fail) only [↓bunD, bunU, ↓bunFD, bunFU, Nat.reduceMul, Nat.reduceEqDiff, Nat.reduceAdd, Nat.reduceBEq, reduceIte, splice_succ, bunAP, g0, g1, g5, lt_nat, hc', lp_exit]
      exact .inl ⟨_, rfl, hm⟩
  · rintro r (⟨fr, rfl, hm⟩ | ⟨fr, rfl, g4, hm⟩)
    · simp (maxSteps := 1000000) (disch := first | omega | ((try simp only [bunN]) <;> omega) | fail) only [↓bunD, bunU, ↓bunFD, bunFU, Nat.reduceMul, Nat.reduceEqDiff, Nat.reduceAdd, Nat.reduceBEq, reduceIte, splice_succ, bunAP, Tryz.results90]
      rw [← among_contains, hm]
    · simp (maxSteps := 1000000) (disch := first | omega | ((try simp only [bunN]) <;> omega) | fail) only [↓bunD, bunU, ↓bunFD, bunFU, Nat.reduceMul, Nat.reduceEqDiff, Nat.reduceAdd, Nat.reduceBEq, reduceIte, splice_succ, bunAP, Tryz.results90, g4]
      rw [hm]
end Go.Proofs.G
namespace Go.Proofs.G
open Go Go.Ab
set_option maxRecDepth 100000
variable {σ : St}
/-- Where a string is first among others; as the library says. -/
def indexOf (l : List (List UInt8)) (s : List UInt8) : Int := if l.contains s then (l.idxOf s : Nat) else -1
theorem index_strings {v : Value} {l : List (List UInt8)} {s : List UInt8} (hl : Strs σ v l) (hn : l.length ≤ 4294967296) :
    Ev (go Tryz.prog HS (.fn 72) [v, str s] σ) (fun r => ∃ n : Int, r = ⟨false, .int .i64 n, σ⟩ ∧ (0 ≤ n ↔ l.contains s = true) ∧ -1 ≤ n ∧ n < 4294967297) ⟨⟩ := by
  obtain ⟨a, c, b, off, cells, rfl, h1, h2⟩ := hl.use
  refine ev_go Tryz.func72 rfl rfl ?_
  simp (maxSteps := 1000000) (disch := first | omega | ((try simp only [bunN]) <;> omega) | fail) only [↓bunD, bunU, ↓bunFD, bunFU, Nat.reduceMul, Nat.reduceEqDiff, Nat.reduceAdd, Nat.reduceBEq, reduceIte, splice_succ, bunAP]
  refine ev_loop (fun j fr σ' => ∃ k, j = l.length - k ∧ k ≤ l.length ∧ fr.get 0 = some (.slice a l.length c) ∧ fr.get 1 = some (str s) ∧ fr.get 7 = some (.int .i64 l.length) ∧ fr.get 8 = some (.int .i64 k) ∧ σ' = σ ∧ among l s k = false)
    (fun r => (∃ fr, r = ⟨.exit 0, fr, σ⟩ ∧ among l s l.length = false) ∨ (∃ fr k, r = ⟨.ret, fr, σ⟩ ∧ fr.get 4 = some (.int .i64 (k : Nat)) ∧ k < l.length ∧ l.contains s = true)) l.length ?_ ?_ ?_
  · refine ⟨0, rfl, by omega, ?_, ?_, ?_, ?_, rfl, rfl⟩
    all_goals first | trivial | rfl | assumption | omega | (simp only [bunM]; omega) | (simp (disch := first | omega | ((try simp only [bunN]) <;> omega) | fail) only [bunR, ↓get_set, Nat.reduceEqDiff, reduceIte, init_cons, init_nil]; first | done | rfl | assumption | omega)
  · rintro j fr σ' ⟨k, rfl, hk, g0, g1, g7, g8, rfl, hm⟩
    by_cases hc : k < l.length
    · obtain ⟨sp, rfl, hb, hr⟩ := h1 (by omega)
      obtain ⟨x, hx⟩ : ∃ x, l[k]? = some x := ⟨_, List.getElem?_eq_getElem hc⟩
      have h2 := h2 k x hx
      have hc' : decide (k < l.length) = true := by simpa using hc
      simp (maxSteps := 1000000) (disch := first | omega | ((try simp only [bunN]) <;> omega) | fail) only [↓bunD, bunU, ↓bunFD, bunFU, Nat.reduceMul, Nat.reduceEqDiff, Nat.reduceAdd, Nat.reduceBEq, reduceIte, splice_succ, bunAP, g0, g1, g7, g8, lt_nat, hc', hr, Nat.mul_one, h2]
      refine Br.intro (fun hd => ?_) (fun hd => ?_)
      · obtain rfl : s = x := by simpa using hd
        simp (maxSteps := 1000000) (disch := first | omega | ((try simp only [bunN]) <;> omega) | fail) only [↓bunD, bunU, ↓bunFD, bunFU, Nat.reduceMul, Nat.reduceEqDiff, Nat.reduceAdd, Nat.reduceBEq, reduceIte, splice_succ, bunAP, g0, g1, g7, g8, lp_ret]
        refine .inr ⟨_, k, rfl, by first | trivial | rfl | assumption | omega | (simp only [bunM]; omega) | (simp (disch := first | omega | ((try simp only [bunN]) <;> omega) | fail) only [bunR, ↓get_set, Nat.reduceEqDiff, reduceIte]; first | done | rfl | assumption | omega), hc, ?_⟩
        rw [List.contains_iff_mem]
        exact List.mem_of_getElem? hx
      · have hd : s ≠ x := by simpa using hd
        simp (maxSteps := 1000000) (disch := first | omega | ((try simp only [bunN]) <;> omega) | fail) only [↓bunD, bunU, ↓bunFD, bunFU, Nat.reduceMul, Nat.reduceEqDiff, Nat.reduceAdd, Nat.reduceBEq, reduceIte, splice_succ, bunAP, g0, g1, g7, g8, nat_succ, lp_normal]
        refine ⟨l.length - (k + 1), by omega, k + 1, rfl, by omega, by first | trivial | rfl | assumption | omega | (simp only [bunM]; omega) | (simp (disch := first | omega | ((try simp only [bunN]) <;> omega) | fail) only [bunR, ↓get_set, Nat.reduceEqDiff, reduceIte, g0]; first | done | rfl | assumption | omega), by first | trivial | rfl | assumption | omega | (simp only [bunM]; omega) | (simp (disch := first | omega | ((try simp only [bunN]) <;> omega) | fail) only [bunR, ↓get_set, Nat.reduceEqDiff, reduceIte, g1]; first | done | rfl | assumption | omega), by first | trivial | rfl | assumption | omega | (simp only [bunM]; omega) | (simp (disch := first | omega | ((try simp only [bunN]) <;> omega) | fail) only [bunR, ↓get_set, Nat.reduceEqDiff, reduceIte, g7]; first | done | rfl | assumption | omega), by first | trivial | rfl | assumption | omega | (simp only [bunM]; omega) | (simp (disch := first | omega | ((try simp only [bunN]) <;> omega) | fail) only [bunR, ↓get_set, Nat.reduceEqDiff, reduceIte]; first | done | rfl | assumption | omega), by trivial, ?_⟩
        show (among l s k || decide (l[k]? = some s)) = false
        rw [hm, hx]
        simpa using fun h => hd h.symm
    · have hc' : decide (k < l.length) = false := by simpa using hc
      obtain rfl : k = l.length := by omega
      simp (maxSteps := 1000000) (disch := first | omega | ((try simp only [bunN]) <;> omega) | fail) only [↓bunD, bunU, ↓bunFD, bunFU, Nat.reduceMul, Nat.reduceEqDiff, Nat.reduceAdd, Nat.reduceBEq, reduceIte, splice_succ, bunAP, g0, g1, g7, g8, lt_nat, hc', lp_exit]
      exact .inl ⟨_, rfl, hm⟩
  · rintro r (⟨fr, rfl, hm⟩ | ⟨fr, k, rfl, g4, hk, hm⟩)
    · simp (maxSteps := 1000000) (disch := first | omega | ((try simp only [bunN]) <;> omega) | fail) only [↓bunD, bunU, ↓bunFD, bunFU, Nat.reduceMul, Nat.reduceEqDiff, Nat.reduceAdd, Nat.reduceBEq, reduceIte, splice_succ, bunAP, Tryz.results72]
      refine ⟨-1, rfl, ?_, by omega, by omega⟩
      rw [← among_contains, hm]
      simp
    · simp (maxSteps := 1000000) (disch := first | omega | ((try simp only [bunN]) <;> omega) | fail) only [↓bunD, bunU, ↓bunFD, bunFU, Nat.reduceMul, Nat.reduceEqDiff, Nat.reduceAdd, Nat.reduceBEq, reduceIte, splice_succ, bunAP, Tryz.results72, g4]
      exact ⟨k, rfl, by rw [hm]; simp, by omega, by omega⟩
theorem contains_strings {v : Value} {l : List (List UInt8)} {s : List UInt8} (hl : Strs σ v l) (hn : l.length ≤ 4294967296) :
    Ev (go Tryz.prog HS (.fn 45) [v, str s] σ) (fun r => r = ⟨false, .bool (l.contains s), σ⟩) ⟨⟩ := by
  have hl' := hl
  obtain ⟨a, c, b, off, cells, rfl, h1, h2⟩ := hl.use
  refine ev_go Tryz.func45 rfl rfl ?_
  simp (maxSteps := 1000000) (disch := first | omega | ((try simp only [bunN]) <;> omega) | fail) only [↓bunD, bunU, ↓bunFD, bunFU, Nat.reduceMul, Nat.reduceEqDiff, Nat.reduceAdd, Nat.reduceBEq, reduceIte, splice_succ, bunAP]
  refine (index_strings hl' hn).mono ?_
  rintro r ⟨n, rfl, h3, h4, h5⟩
  have hb : (!decide (n < 0)) = l.contains s := by
    rw [Bool.eq_iff_iff, ← h3]; simp
  simp (maxSteps := 1000000) (disch := first | omega | ((try simp only [bunN]) <;> omega) | fail) only [↓bunD, bunU, ↓bunFD, bunFU, Nat.reduceMul, Nat.reduceEqDiff, Nat.reduceAdd, Nat.reduceBEq, reduceIte, splice_succ, bunAP, Tryz.results45, hb]
theorem mod_ok {n m : Int} (h1 : -9223372036854775808 ≤ n) (h2 : n ≤ 9223372036854775807) (h3 : 0 < m) (h4 : m ≤ 4294967296) :
    Ev (go Tryz.prog HS (.fn 40) [.int .i64 n, .int .i64 m] σ) (fun r => r = ⟨false, .int .i64 (n % m), σ⟩) ⟨⟩ := by
  have hm0 : m ≠ 0 := by omega
  have a1 := Int.tmod_lt_of_pos n h3
  have a2 : -m < n.tmod m := by
    have := Int.lt_tmod_of_pos n h3
    omega
  have e : (n.tmod m + m).tmod m = n % m := by
    rw [Int.tmod_eq_emod_of_nonneg (by omega), Int.add_emod_right]
    rw [Int.tmod_def]
    exact Int.sub_mul_emod_self_left _ _ _
  refine ev_go Tryz.func40 rfl rfl ?_
  simp (maxSteps := 1000000) (disch := first | omega | ((try simp only [bunN]) <;> omega) | fail) only [↓bunD, bunU, ↓bunFD, bunFU, Nat.reduceMul, Nat.reduceEqDiff, Nat.reduceAdd, Nat.reduceBEq, reduceIte, splice_succ, bunAP, Tryz.results40, e]
theorem same_ok {v w : Value} {l k : List (List UInt8)} (hl : Strs σ v l) (hk : Strs σ w k) (hn : l.length ≤ 4294967296) (hn2 : k.length ≤ 4294967296) :
    Ev (go Tryz.prog HS (.fn 14) [v, w] σ) (fun r => r = ⟨false, .bool (decide (l = k)), σ⟩) ⟨⟩ := by
  obtain ⟨a, c, b, off, cells, rfl, h1, h2⟩ := hl.use
  obtain ⟨a', c', b', off', cells', rfl, h1', h2'⟩ := hk.use
  refine ev_go Tryz.func14 rfl rfl ?_
  simp (maxSteps := 1000000) (disch := first | omega | ((try simp only [bunN]) <;> omega) | fail) only [↓bunD, bunU, ↓bunFD, bunFU, Nat.reduceMul, Nat.reduceEqDiff, Nat.reduceAdd, Nat.reduceBEq, reduceIte, splice_succ, bunAP]
  refine Br.intro (fun hd => ?_) (fun hd => ?_)
  · have hd : l.length ≠ k.length := by simp at hd; omega
    simp (maxSteps := 1000000) (disch := first | omega | ((try simp only [bunN]) <;> omega) | fail) only [↓bunD, bunU, ↓bunFD, bunFU, Nat.reduceMul, Nat.reduceEqDiff, Nat.reduceAdd, Nat.reduceBEq, reduceIte, splice_succ, bunAP, Tryz.results14]
    rw [decide_eq_false (fun h => hd (by rw [h]))]
  have hd : l.length = k.length := by simp at hd; omega
  simp (maxSteps := 1000000) (disch := first | omega | ((try simp only [bunN]) <;> omega) | fail) only [↓bunD, bunU, ↓bunFD, bunFU, Nat.reduceMul, Nat.reduceEqDiff, Nat.reduceAdd, Nat.reduceBEq, reduceIte, splice_succ, bunAP]
  refine ev_loop (fun j fr σ' => ∃ i, j = l.length - i ∧ i ≤ l.length ∧ fr.get 0 = some (.slice a l.length c) ∧ fr.get 1 = some (.slice a' k.length c') ∧ fr.get 5 = some (.int .i64 i) ∧ σ' = σ ∧ l.take i = k.take i)
    (fun r => (∃ fr, r = ⟨.exit 0, fr, σ⟩ ∧ l = k) ∨ (∃ fr, r = ⟨.ret, fr, σ⟩ ∧ fr.get 4 = some (.bool false) ∧ l ≠ k)) l.length ?_ ?_ ?_
  · refine ⟨0, rfl, by omega, ?_, ?_, ?_, rfl, by simp⟩
    all_goals first | trivial | rfl | assumption | omega | (simp only [bunM]; omega) | (simp (disch := first | omega | ((try simp only [bunN]) <;> omega) | fail) only [bunR, ↓get_set, Nat.reduceEqDiff, reduceIte, init_cons, init_nil]; first | done | rfl | assumption | omega)
  · rintro j fr σ' ⟨i, rfl, hi, g0, g1, g5, rfl, hm⟩
    by_cases hc : i < l.length
    · obtain ⟨sp, rfl, hb, hr⟩ := h1 (by omega)
      obtain ⟨sp', rfl, hb', hr'⟩ := h1' (by omega)
      obtain ⟨x, hx⟩ : ∃ x, l[i]? = some x := ⟨_, List.getElem?_eq_getElem hc⟩
      obtain ⟨y, hy⟩ : ∃ x, k[i]? = some x := ⟨_, List.getElem?_eq_getElem (by omega)⟩
      have h2 := h2 i x hx
      have h2' := h2' i y hy
      have hc' : decide (i < l.length) = true := by simpa using hc
      have hci : i < k.length := by omega
      simp (maxSteps := 1000000) (disch := first | omega | ((try simp only [bunN]) <;> omega) | fail) only [↓bunD, bunU, ↓bunFD, bunFU, Nat.reduceMul, Nat.reduceEqDiff, Nat.reduceAdd, Nat.reduceBEq, reduceIte, splice_succ, bunAP, g0, g1, g5, lt_nat, hc', hr, hr', Nat.mul_one, h2, h2']
      refine Br.intro (fun hd => ?_) (fun hd => ?_)
      · have hd : x ≠ y := by simpa using hd
        simp (maxSteps := 1000000) (disch := first | omega | ((try simp only [bunN]) <;> omega) | fail) only [↓bunD, bunU, ↓bunFD, bunFU, Nat.reduceMul, Nat.reduceEqDiff, Nat.reduceAdd, Nat.reduceBEq, reduceIte, splice_succ, bunAP, g0, g1, g5, lp_ret]
        refine .inr ⟨_, rfl, by first | trivial | rfl | assumption | omega | (simp only [bunM]; omega) | (simp (disch := first | omega | ((try simp only [bunN]) <;> omega) | fail) only [bunR, ↓get_set, Nat.reduceEqDiff, reduceIte]; first | done | rfl | assumption | omega), fun h => ?_⟩
        subst h
        rw [hx] at hy; cases hy; exact hd rfl
      · have hd : x = y := by simpa using hd
        simp (maxSteps := 1000000) (disch := first | omega | ((try simp only [bunN]) <;> omega) | fail) only [↓bunD, bunU, ↓bunFD, bunFU, Nat.reduceMul, Nat.reduceEqDiff, Nat.reduceAdd, Nat.reduceBEq, reduceIte, splice_succ, bunAP, g0, g1, g5, nat_succ, lp_normal]
        refine ⟨l.length - (i + 1), by omega, i + 1, rfl, by omega, by first | trivial | rfl | assumption | omega | (simp only [bunM]; omega) | (simp (disch := first | omega | ((try simp only [bunN]) <;> omega) | fail) only [bunR, ↓get_set, Nat.reduceEqDiff, reduceIte, g0]; first | done | rfl | assumption | omega), by first | trivial | rfl | assumption | omega | (simp only [bunM]; omega) | (simp (disch := first | omega | ((try simp only [bunN]) <;> omega) | fail) only [bunR, ↓get_set, Nat.reduceEqDiff, reduceIte, g1]; first | done | rfl | assumption | omega), by first | trivial | rfl | assumption | omega | (simp only [bunM]; omega) | (simp (disch := first | omega | ((try simp only [bunN]) <;> omega) | fail) only [bunR, ↓get_set, Nat.reduceEqDiff, reduceIte]; first | done | rfl | assumption | omega), by trivial, ?_⟩
        rw [List.take_add_one, List.take_add_one, hm, hx, hy, hd]
    · have hc' : decide (i < l.length) = false := by simpa using hc
      obtain rfl : i = l.length := by omega
      simp (maxSteps := 1000000) (disch := first | omega | ((try simp only [bunN]) <;> omega) | fail) only [↓bunD, bunU, ↓bunFD, bunFU, Nat.reduceMul, Nat.reduceEqDiff, Nat.reduceAdd, Nat.reduceBEq, reduceIte, splice_succ, bunAP, g0, g1, g5, lt_nat, hc', lp_exit]
      refine .inl ⟨_, rfl, ?_⟩
      rw [List.take_length, hd, List.take_length] at hm
      exact hm
  · rintro r (⟨fr, rfl, hm⟩ | ⟨fr, rfl, g4, hm⟩)
    · simp (maxSteps := 1000000) (disch := first | omega | ((try simp only [bunN]) <;> omega) | fail) only [↓bunD, bunU, ↓bunFD, bunFU, Nat.reduceMul, Nat.reduceEqDiff, Nat.reduceAdd, Nat.reduceBEq, reduceIte, splice_succ, bunAP, Tryz.results14]
      rw [decide_eq_true hm]
    · simp (maxSteps := 1000000) (disch := first | omega | ((try simp only [bunN]) <;> omega) | fail) only [↓bunD, bunU, ↓bunFD, bunFU, Nat.reduceMul, Nat.reduceEqDiff, Nat.reduceAdd, Nat.reduceBEq, reduceIte, splice_succ, bunAP, Tryz.results14, g4]
      rw [decide_eq_false hm]
end Go.Proofs.G
namespace Go.Proofs.G
open Go Go.Ab
set_option maxRecDepth 100000
/-- A digit. -/
def dig (n : Nat) : UInt8 := UInt8.ofNat (48 + n % 10)
/-- A number in decimal, with so many digits at most. -/
def decF : Nat → Nat → List UInt8
  | 0, _ => []
  | f + 1, n => if n < 10 then [dig n] else decF f (n / 10) ++ [dig n]
theorem decF_any : ∀ (f g n : Nat), n < f → n < g → decF f n = decF g n := by
  intro f
  induction f with
  | zero => intro g n h; omega
  | succ f ih =>
    intro g n h1 h2
    cases g with
    | zero => omega
    | succ g =>
      show (if n < 10 then [dig n] else decF f (n / 10) ++ [dig n]) = (if n < 10 then [dig n] else decF g (n / 10) ++ [dig n])
      by_cases h : n < 10
      · rw [if_pos h, if_pos h]
      · rw [if_neg h, if_neg h, ih g (n / 10) (by omega) (by omega)]
/-- A number in decimal. -/
def decN (n : Nat) : List UInt8 := decF (n + 1) n
def dec (n : Int) : List UInt8 := if n < 0 then 45 :: decN n.natAbs else decN n.natAbs
theorem decN_small {n : Nat} (h : n < 10) : decN n = [dig n] := by
  show (if n < 10 then [dig n] else _) = _
  rw [if_pos h]
theorem decN_big {n : Nat} (h : ¬ n < 10) : decN n = decN (n / 10) ++ [dig n] := by
  show (if n < 10 then [dig n] else decF n (n / 10) ++ [dig n]) = decF (n / 10 + 1) (n / 10) ++ [dig n]
  rw [if_neg h, decF_any n (n / 10 + 1) (n / 10) (by omega) (by omega)]
theorem decN_len : ∀ (k n : Nat), n < 10 ^ (k + 1) → (decN n).length ≤ k + 1 := by
  intro k
  induction k with
  | zero => intro n h; rw [decN_small (by omega)]; simp
  | succ k ih =>
    intro n h
    by_cases h10 : n < 10
    · rw [decN_small h10]; simp
    · rw [decN_big h10]
      have := ih (n / 10) (by rw [Nat.pow_succ] at h; omega)
      simp; omega
theorem decN_len20 {n : Nat} (h : n < 18446744073709551616) : (decN n).length ≤ 20 := decN_len 19 n (by omega)
theorem dec_len {n : Int} (h1 : -9223372036854775808 ≤ n) (h2 : n ≤ 9223372036854775807) : (dec n).length ≤ 21 := by
  have := decN_len20 (n := n.natAbs) (by omega)
  unfold dec
  split
  · simp; omega
  · omega
theorem decimal_pos {σ : St} : ∀ (f n : Nat), n < f → n ≤ 9223372036854775807 →
    Ev (go Tryz.prog HS (.fn 56) [.int .i64 (n : Nat)] σ) (fun r => ∃ σ', r = ⟨false, str (decN n), σ'⟩ ∧ Ext σ σ') ⟨⟩ := by
  intro f
  induction f generalizing σ with
  | zero => intro n h; omega
  | succ f ih =>
    intro n hf hn
    refine ev_go Tryz.func56 rfl rfl ?_
    have hge : (!decide ((n : Int) < 0)) = true := by first | (simp; done) | (simp; omega)
    by_cases h10 : n < 10
    · have hc : decide ((n : Int) < 10) = true := by first | (simp; done) | (simp; omega)
      have hd : UInt8.ofNat (48 + (n : Int)).toNat = dig n := by unfold dig; congr 1; omega
      simp (maxSteps := 1000000) (disch := first | omega | ((try simp only [bunN]) <;> omega) | fail) only [↓bunD, bunU, ↓bunFD, bunFU, Nat.reduceMul, Nat.reduceEqDiff, Nat.reduceAdd, Nat.reduceBEq, reduceIte, splice_succ, bunAP, hge, hc, Nat.one_mul, Nat.mul_one, Nat.zero_mul, Nat.reduceMul, hd, Tryz.results56]
      rw [decN_small h10]
      exact ⟨_, rfl, (Ext.refl _).new' _⟩
    · have hc : decide ((n : Int) < 10) = false := by first | (simp; done) | (simp; omega)
      have hlt : decide ((n : Int) < 0) = false := by simp
      have hq : IntKind.i64.wrap ((n : Int).tdiv 10) = ((n / 10 : Nat) : Int) := by
        rw [show (n : Int).tdiv 10 = ((n / 10 : Nat) : Int) from rfl]
        exact wrap64_in (by omega) (by omega)
      simp (maxSteps := 1000000) (disch := first | omega | ((try simp only [bunN]) <;> omega) | fail) only [↓bunD, bunU, ↓bunFD, bunFU, Nat.reduceMul, Nat.reduceEqDiff, Nat.reduceAdd, Nat.reduceBEq, reduceIte, splice_succ, bunAP, hge, hc, hlt, hq]
      refine (ih (n / 10) (by omega) (by omega)).mono ?_
      rintro r ⟨σ', rfl, hE⟩
      have hEn := hE.n
      have hr : (n : Int).tmod 10 = ((n % 10 : Nat) : Int) := rfl
      have hd : UInt8.ofNat (48 + ((n % 10 : Nat) : Int)).toNat = dig n := by unfold dig; congr 1
      have hlt10 : n % 10 < 10 := Nat.mod_lt _ (by omega)
      have hlen := decN_len20 (n := n / 10) (by omega)
      simp (maxSteps := 1000000) (disch := first | omega | ((try simp only [bunN]) <;> omega) | fail) only [↓bunD, bunU, ↓bunFD, bunFU, Nat.reduceMul, Nat.reduceEqDiff, Nat.reduceAdd, Nat.reduceBEq, reduceIte, splice_succ, bunAP, hr, hd, Nat.one_mul, Nat.mul_one, Nat.zero_mul, Nat.reduceMul, Tryz.results56]
      rw [← decN_big h10]
      exact ⟨_, rfl, hE.new' _⟩
theorem decimal_ok {σ : St} {n : Int} (h1 : -9223372036854775808 ≤ n) (h2 : n ≤ 9223372036854775807) :
    Ev (go Tryz.prog HS (.fn 56) [.int .i64 n] σ) (fun r => ∃ σ', r = ⟨false, str (dec n), σ'⟩ ∧ Ext σ σ') ⟨⟩ := by
  by_cases hn : n < 0
  · obtain ⟨m, rfl⟩ : ∃ m : Nat, n = -(m : Int) := ⟨n.natAbs, by omega⟩
    refine ev_go Tryz.func56 rfl rfl ?_
    have hge : (!decide (-(m : Int) < 0)) = false := by first | (simp; done) | (simp; omega)
    have hlt : decide (-(m : Int) < 0) = true := by first | (simp; done) | (simp; omega)
    have hr : (-(m : Int)).tmod 10 = -((m % 10 : Nat) : Int) := by rw [Int.neg_tmod]; rfl
    have hd : UInt8.ofNat (48 - -((m % 10 : Nat) : Int)).toNat = dig m := by unfold dig; congr 1; omega
    have hlt10 : m % 10 < 10 := Nat.mod_lt _ (by omega)
    have hdec : dec (-(m : Int)) = 45 :: decN m := by unfold dec; rw [if_pos hn]; congr 2; omega
    by_cases h10 : m < 10
    · have hc : (!decide (-10 < -(m : Int))) = false := by first | (simp; done) | (simp; omega)
      simp (maxSteps := 1000000) (disch := first | omega | ((try simp only [bunN]) <;> omega) | fail) only [↓bunD, bunU, ↓bunFD, bunFU, Nat.reduceMul, Nat.reduceEqDiff, Nat.reduceAdd, Nat.reduceBEq, reduceIte, splice_succ, bunAP, hge, hlt, hc, hr, hd, undef_q, Nat.one_mul, Nat.mul_one, Nat.zero_mul, Nat.reduceMul, Tryz.results56]
      rw [hdec, decN_small h10]
      exact ⟨_, rfl, (Ext.refl _).new' _⟩
    · have hc : (!decide (-10 < -(m : Int))) = true := by first | (simp; done) | (simp; omega)
      have hq : IntKind.i64.wrap ((-(m : Int)).tdiv 10) = -((m / 10 : Nat) : Int) := by
        rw [Int.neg_tdiv, show (m : Int).tdiv 10 = ((m / 10 : Nat) : Int) from rfl]
        exact wrap64_in (by omega) (by omega)
      have hq2 : IntKind.i64.wrap (0 - -((m / 10 : Nat) : Int)) = ((m / 10 : Nat) : Int) := by rw [wrap64_in (by omega) (by omega)]; omega
      simp (maxSteps := 1000000) (disch := first | omega | ((try simp only [bunN]) <;> omega) | fail) only [↓bunD, bunU, ↓bunFD, bunFU, Nat.reduceMul, Nat.reduceEqDiff, Nat.reduceAdd, Nat.reduceBEq, reduceIte, splice_succ, bunAP, hge, hlt, hc, hq, hq2, undef_q]
      refine (decimal_pos (m / 10 + 1) (m / 10) (by omega) (by omega)).mono ?_
      rintro r ⟨σ', rfl, hE⟩
      have hEn := hE.n
      have hlen := decN_len20 (n := m / 10) (by omega)
      simp (maxSteps := 1000000) (disch := first | omega | ((try simp only [bunN]) <;> omega) | fail) only [↓bunD, bunU, ↓bunFD, bunFU, Nat.reduceMul, Nat.reduceEqDiff, Nat.reduceAdd, Nat.reduceBEq, reduceIte, splice_succ, bunAP, hge, hlt, hc, hr, hd, undef_q, Nat.one_mul, Nat.mul_one, Nat.zero_mul, Nat.reduceMul, Tryz.results56]
      rw [hdec, decN_big h10]
      exact ⟨_, rfl, hE.new' _⟩
  · obtain ⟨m, rfl⟩ := Int.eq_ofNat_of_zero_le (by omega : 0 ≤ n)
    have hdec : dec (m : Int) = decN m := by unfold dec; rw [if_neg hn]; rfl
    rw [hdec]
    exact decimal_pos (m + 1) m (by omega) (by omega)
end Go.Proofs.G
namespace Go.Proofs.G
open Go Go.Ab
set_option maxRecDepth 100000
/-- The clauses. -/
def lotC (id : Int) : By := [108, 111, 116, 32] ++ dec id
def critC (nm : By) : By := [99, 114, 105, 116, 101, 114, 105, 111, 110, 32] ++ nm
def reqC (k : Nat) : By := [114, 101, 113, 117, 105, 114, 101, 32] ++ dec (k : Int)
def nameC : By := [110, 97, 109, 101]
def rangeC : By := [114, 97, 110, 103, 101]
def formulaC : By := [102, 111, 114, 109, 117, 108, 97]
def tiesC : By := [116, 105, 101, 115]
def mostC : By := [109, 111, 115, 116]
def combosC : By := [99, 111, 109, 98, 111, 115]
def budgetC : By := [98, 117, 100, 103, 101, 116]
def timesC : By := [116, 105, 109, 101, 115]
def fixedC : List By := [rangeC, formulaC, tiesC, mostC, combosC, budgetC, timesC]
def addNew (out : List By) (s : By) : List By := if out.contains s then out else out ++ [s]
def heads (T : Tn) : List By := nameC :: T.lots.map (fun l => lotC l.id) ++ T.crits.map (fun c => critC c.name) ++ (List.range T.reqs.length).map (fun k => reqC (k + 1))
def clausesR (T : Tn) : List By := (heads T ++ fixedC).foldl addNew []
theorem addNew_no {out : List By} {s : By} (h : (!out.contains s) = true) : addNew out s = out ++ [s] := by
  unfold addNew; rw [if_neg (by simpa using h)]
theorem addNew_yes {out : List By} {s : By} (h : (!out.contains s) = false) : addNew out s = out := by
  unfold addNew; rw [if_pos (by simpa using h)]
theorem addNew_len (out : List By) (s : By) : (addNew out s).length ≤ out.length + 1 := by
  unfold addNew; split <;> simp
theorem fold_len (l : List By) : ∀ out : List By, (l.foldl addNew out).length ≤ out.length + l.length := by
  induction l with
  | nil => intro out; simp
  | cons s l ih => intro out; have h1 := ih (addNew out s); have h2 := addNew_len out s; simp only [List.foldl_cons, List.length_cons]; omega
theorem heads_len {T : Tn} (h : T.Ok) : (heads T).length ≤ 41 := by
  have h1 := h.lots; have h2 := h.crits; have h3 := h.reqs
  simp [heads]; omega
theorem clausesR_len {T : Tn} (h : T.Ok) : (clausesR T).length ≤ 48 := by
  have h1 := heads_len h
  have h2 := fold_len (heads T ++ fixedC) []
  have h3 : fixedC.length = 7 := rfl
  rw [List.length_append] at h2
  simp only [List.length_nil] at h2
  unfold clausesR
  omega
theorem rlot_ok {σ : St} {n : Int} (h : In64 n) : Ev (go Tryz.prog HS (.fn 124) [.int .i64 n] σ) (fun r => ∃ σ', r = ⟨false, str (lotC n), σ'⟩ ∧ Ext σ σ') ⟨⟩ := by
  refine ev_go Tryz.func124 rfl rfl ?_
  simp (maxSteps := 1000000) (disch := first | omega | ((try simp only [bunN]) <;> omega) | fail) only [↓bunD, bunU, ↓bunFD, bunFU, Nat.reduceMul, Nat.reduceEqDiff, Nat.reduceAdd, Nat.reduceBEq, reduceIte, splice_succ, bunAP]
  refine (decimal_ok h.1 h.2).mono ?_
  rintro r ⟨σ', rfl, hE⟩
  have hl := dec_len h.1 h.2
  simp (maxSteps := 1000000) (disch := first | omega | ((try simp only [bunN]) <;> omega) | fail) only [↓bunD, bunU, ↓bunFD, bunFU, Nat.reduceMul, Nat.reduceEqDiff, Nat.reduceAdd, Nat.reduceBEq, reduceIte, splice_succ, bunAP, Tryz.results124]
  exact ⟨_, rfl, hE⟩
end Go.Proofs.G
namespace Go.Proofs.G
open Go Go.Ab
set_option maxRecDepth 100000
/-- A list with so many elements taken in: what is known of it. -/
def RC (σ : St) (cells : List Value) (fr : Fr) (σ' : St) (done : List By) : Prop :=
  ∃ v, fr.get 3 = some v ∧ fr.get 1 = some (.pointer (some ⟨σ.n, 0, none⟩)) ∧ Ext (σ.new cells) σ' ∧ OStrs (σ.n + 1) σ' v done
set_option maxHeartbeats 4000000 in
theorem rclauses_ok {σ : St} {cells : List Value} {T : Tn} (hT : TnAt σ cells T) (ok : T.Ok) : Ev (go Tryz.prog HS (.fn 89) [.agg ⟨cells⟩] σ) (fun r => ∃ v σ', r = ⟨false, v, σ'⟩ ∧ Ext σ σ' ∧ OStrs σ.n σ' v (clausesR T)) ⟨⟩ := by
  obtain ⟨vl, vc, vr, ex, vt, vk, rfl, h2, h3, h4, h5, h6, h7⟩ := hT
  obtain ⟨la, lc, lb, lo, lcs, rfl, l1, l2⟩ := h2.use
  obtain ⟨ca, cc, cb, co, ccs, rfl, k1, k2⟩ := h3.use
  obtain ⟨ra, rc, rb, ro, rcs, rfl, r1, r2⟩ := h4.use
  refine ev_go Tryz.func89 rfl rfl ?_
  generalize hcs : tnRow T.name _ _ _ T.low T.high ex vt T.most vk T.budget T.t = cells
  have c1 : sub cells 1 1 = some [.slice la T.lots.length lc] := by rw [← hcs]; rfl
  have c3 : sub cells 2 1 = some [.slice ca T.crits.length cc] := by rw [← hcs]; rfl
  have c4 : sub cells 3 1 = some [.slice ra T.reqs.length rc] := by rw [← hcs]; rfl
  have ok1 := ok.lots
  have ok2 := ok.crits
  have ok3 := ok.reqs
  simp (maxSteps := 1000000) (disch := first | omega | ((try simp only [bunN]) <;> omega) | fail) only [↓bunD, bunU, ↓bunFD, bunFU, Nat.reduceMul, Nat.reduceEqDiff, Nat.reduceAdd, Nat.reduceBEq, reduceIte, splice_succ, bunAP]
  refine ev_count T.lots.length (fun k fr σ' => fr.get 4 = some (.int .i64 k) ∧ RC σ cells fr σ' (nameC :: (T.lots.take k).map fun l => lotC l.id))
    (fun r => ∃ fr σ', r = ⟨.exit 0, fr, σ'⟩ ∧ RC σ cells fr σ' (nameC :: T.lots.map fun l => lotC l.id)) ?_ ?_ ?_ ?_
  · refine ⟨by first | trivial | rfl | assumption | omega | (simp only [bunM]; omega) | (simp (disch := first | omega | ((try simp only [bunN]) <;> omega) | fail) only [bunR, ↓get_set, Nat.reduceEqDiff, reduceIte]; first | done | rfl | assumption | omega), _, by first | trivial | rfl | assumption | omega | (simp only [bunM]; omega) | (simp (disch := first | omega | ((try simp only [bunN]) <;> omega) | fail) only [bunR, ↓get_set, Nat.reduceEqDiff, reduceIte]; first | done | rfl | assumption | omega), by first | trivial | rfl | assumption | omega | (simp only [bunM]; omega) | (simp (disch := first | omega | ((try simp only [bunN]) <;> omega) | fail) only [bunR, ↓get_set, Nat.reduceEqDiff, reduceIte]; first | done | rfl | assumption | omega), (Ext.refl _).new' _, ?_⟩
    exact OL.mk rfl rfl (by simp) (.inl rfl) (Nat.le_refl _) (by simp) (by first | trivial | rfl | assumption | omega | (simp only [bunM]; omega) | (simp (disch := first | omega | ((try simp only [bunN]) <;> omega) | fail) only [bunR]; first | done | rfl | assumption | omega))
  · rintro k fr σ' hk ⟨g4, v, g3, g1, hE, hv⟩
    have hc := lt_true hk
    obtain ⟨a, ha⟩ := at_some hk
    have c2 : σ'.row σ.n = some cells := by rw [hE.row (by simp)]; first | trivial | rfl | assumption | omega | (simp only [bunM]; omega) | (simp (disch := first | omega | ((try simp only [bunN]) <;> omega) | fail) only [bunR]; first | done | rfl | assumption | omega)
    obtain ⟨sp, rfl, l3, l4⟩ := l1 (by omega)
    have l5 : σ'.row lb = some lcs := by rw [hE.row (by simp; omega), row_new_ne (by omega)]; exact l4
    obtain ⟨-, l7, -⟩ := l2 k a ha
    simp (maxSteps := 1000000) (disch := first | omega | ((try simp only [bunN]) <;> omega) | fail) only [↓bunD, bunU, ↓bunFD, bunFU, Nat.reduceMul, Nat.reduceEqDiff, Nat.reduceAdd, Nat.reduceBEq, reduceIte, splice_succ, bunAP, g1, g3, g4, c1, c2, hc, l5, l7]
    have oka := ok.lot a (List.mem_of_getElem? ha)
    have hEn := hE.n
    refine (rlot_ok (by unfold In64; omega)).mono ?_
    rintro r ⟨σ2, rfl, hE2⟩
    simp (maxSteps := 1000000) (disch := first | omega | ((try simp only [bunN]) <;> omega) | fail) only [↓bunD, bunU, ↓bunFD, bunFU, Nat.reduceMul, Nat.reduceEqDiff, Nat.reduceAdd, Nat.reduceBEq, reduceIte, splice_succ, ap22, ap23, ap24, ap25, ap26, ap33, ap34, ap35, ap38, ap49, ap74, g1, g3, g4]
    refine ev_push (fun _ _ _ _ => ap41) hv hE hE2 (by simp) (by simpa using hEn) (by simp; omega) ?_
    rintro v' σ3 hv' hE3 hn3 -
    simp (maxSteps := 1000000) (disch := first | omega | ((try simp only [bunN]) <;> omega) | fail) only [↓bunD, bunU, ↓bunFD, bunFU, Nat.reduceMul, Nat.reduceEqDiff, Nat.reduceAdd, Nat.reduceBEq, reduceIte, splice_succ, ap22, ap23, ap24, ap25, ap26, ap33, ap34, ap35, ap38, ap49, ap74, g1, g3, g4]
    refine ⟨by first | trivial | rfl | assumption | omega | (simp only [bunM]; omega) | (simp (disch := first | omega | ((try simp only [bunN]) <;> omega) | fail) only [bunR, ↓get_set, Nat.reduceEqDiff, reduceIte]; first | done | rfl | assumption | omega), _, by first | trivial | rfl | assumption | omega | (simp only [bunM]; omega) | (simp (disch := first | omega | ((try simp only [bunN]) <;> omega) | fail) only [bunR, ↓get_set, Nat.reduceEqDiff, reduceIte]; first | done | rfl | assumption | omega), by first | trivial | rfl | assumption | omega | (simp only [bunM]; omega) | (simp (disch := first | omega | ((try simp only [bunN]) <;> omega) | fail) only [bunR, ↓get_set, Nat.reduceEqDiff, reduceIte, g1]; first | done | rfl | assumption | omega), hE3, ?_⟩
    rw [take_map _ ha, ← List.cons_append]; exact hv'
  · rintro fr σ' ⟨g4, v, g3, g1, hE, hv⟩
    have c2 : σ'.row σ.n = some cells := by rw [hE.row (by simp)]; first | trivial | rfl | assumption | omega | (simp only [bunM]; omega) | (simp (disch := first | omega | ((try simp only [bunN]) <;> omega) | fail) only [bunR]; first | done | rfl | assumption | omega)
    rw [List.take_length] at hv
    simp (maxSteps := 1000000) (disch := first | omega | ((try simp only [bunN]) <;> omega) | fail) only [↓bunD, bunU, ↓bunFD, bunFU, Nat.reduceMul, Nat.reduceEqDiff, Nat.reduceAdd, Nat.reduceBEq, reduceIte, splice_succ, bunAP, g1, g3, g4, c1, c2]
    exact ⟨_, _, rfl, _, by first | trivial | rfl | assumption | omega | (simp only [bunM]; omega) | (simp (disch := first | omega | ((try simp only [bunN]) <;> omega) | fail) only [bunR, ↓get_set, Nat.reduceEqDiff, reduceIte, g3]; first | done | rfl | assumption | omega), by first | trivial | rfl | assumption | omega | (simp only [bunM]; omega) | (simp (disch := first | omega | ((try simp only [bunN]) <;> omega) | fail) only [bunR, ↓get_set, Nat.reduceEqDiff, reduceIte, g1]; first | done | rfl | assumption | omega), hE, hv⟩
  rintro r ⟨fr, σ', rfl, v, g3, g1, hE, hv⟩
  simp (maxSteps := 1000000) (disch := first | omega | ((try simp only [bunN]) <;> omega) | fail) only [↓bunD, bunU, ↓bunFD, bunFU, Nat.reduceMul, Nat.reduceEqDiff, Nat.reduceAdd, Nat.reduceBEq, reduceIte, splice_succ, bunAP, g3, g1]
  refine ev_count T.crits.length (fun k fr σ' => fr.get 5 = some (.int .i64 k) ∧ RC σ cells fr σ' (nameC :: (T.lots.map fun l => lotC l.id) ++ (T.crits.take k).map fun c => critC c.name))
    (fun r => ∃ fr σ', r = ⟨.exit 2, fr, σ'⟩ ∧ RC σ cells fr σ' (nameC :: (T.lots.map fun l => lotC l.id) ++ T.crits.map fun c => critC c.name)) ?_ ?_ ?_ ?_
  · refine ⟨by first | trivial | rfl | assumption | omega | (simp only [bunM]; omega) | (simp (disch := first | omega | ((try simp only [bunN]) <;> omega) | fail) only [bunR, ↓get_set, Nat.reduceEqDiff, reduceIte]; first | done | rfl | assumption | omega), v, by first | trivial | rfl | assumption | omega | (simp only [bunM]; omega) | (simp (disch := first | omega | ((try simp only [bunN]) <;> omega) | fail) only [bunR, ↓get_set, Nat.reduceEqDiff, reduceIte, g3]; first | done | rfl | assumption | omega), by first | trivial | rfl | assumption | omega | (simp only [bunM]; omega) | (simp (disch := first | omega | ((try simp only [bunN]) <;> omega) | fail) only [bunR, ↓get_set, Nat.reduceEqDiff, reduceIte, g1]; first | done | rfl | assumption | omega), hE, ?_⟩
    rw [List.take_zero, List.map_nil, List.append_nil]; exact hv
  · clear hv hE g1 g3 v fr σ'
    rintro k fr σ' hk ⟨g4, v, g3, g1, hE, hv⟩
    have hc := lt_true hk
    obtain ⟨a, ha⟩ := at_some hk
    have c2 : σ'.row σ.n = some cells := by rw [hE.row (by simp)]; first | trivial | rfl | assumption | omega | (simp only [bunM]; omega) | (simp (disch := first | omega | ((try simp only [bunN]) <;> omega) | fail) only [bunR]; first | done | rfl | assumption | omega)
    obtain ⟨sp, rfl, l3, l4⟩ := k1 (by omega)
    have l5 : σ'.row cb = some ccs := by rw [hE.row (by simp; omega), row_new_ne (by omega)]; exact l4
    obtain ⟨-, l7, -⟩ := k2 k a ha
    have hnl := names_len (ok.crit a (List.mem_of_getElem? ha)).1
    have hEn := hE.n
    simp (maxSteps := 1000000) (disch := first | omega | ((try simp only [bunN]) <;> omega) | fail) only [↓bunD, bunU, ↓bunFD, bunFU, Nat.reduceMul, Nat.reduceEqDiff, Nat.reduceAdd, Nat.reduceBEq, reduceIte, splice_succ, ap22, ap23, ap24, ap25, ap26, ap33, ap34, ap35, ap38, ap49, ap74, g1, g3, g4, c3, c2, hc, l5, l7]
    refine ev_push (fun _ _ _ _ => ap41) hv hE (.refl _) (by simp) (by simpa using hEn) (by simp; omega) ?_
    rintro v' σ3 hv' hE3 hn3 -
    simp (maxSteps := 1000000) (disch := first | omega | ((try simp only [bunN]) <;> omega) | fail) only [↓bunD, bunU, ↓bunFD, bunFU, Nat.reduceMul, Nat.reduceEqDiff, Nat.reduceAdd, Nat.reduceBEq, reduceIte, splice_succ, ap22, ap23, ap24, ap25, ap26, ap33, ap34, ap35, ap38, ap49, ap74, g1, g3, g4]
    refine ⟨by first | trivial | rfl | assumption | omega | (simp only [bunM]; omega) | (simp (disch := first | omega | ((try simp only [bunN]) <;> omega) | fail) only [bunR, ↓get_set, Nat.reduceEqDiff, reduceIte]; first | done | rfl | assumption | omega), _, by first | trivial | rfl | assumption | omega | (simp only [bunM]; omega) | (simp (disch := first | omega | ((try simp only [bunN]) <;> omega) | fail) only [bunR, ↓get_set, Nat.reduceEqDiff, reduceIte]; first | done | rfl | assumption | omega), by first | trivial | rfl | assumption | omega | (simp only [bunM]; omega) | (simp (disch := first | omega | ((try simp only [bunN]) <;> omega) | fail) only [bunR, ↓get_set, Nat.reduceEqDiff, reduceIte, g1]; first | done | rfl | assumption | omega), hE3, ?_⟩
    rw [take_map _ ha, ← List.append_assoc]; exact hv'
  · rintro fr σ' ⟨g4, v, g3, g1, hE, hv⟩
    have c2 : σ'.row σ.n = some cells := by rw [hE.row (by simp)]; first | trivial | rfl | assumption | omega | (simp only [bunM]; omega) | (simp (disch := first | omega | ((try simp only [bunN]) <;> omega) | fail) only [bunR]; first | done | rfl | assumption | omega)
    rw [List.take_length] at hv
    simp (maxSteps := 1000000) (disch := first | omega | ((try simp only [bunN]) <;> omega) | fail) only [↓bunD, bunU, ↓bunFD, bunFU, Nat.reduceMul, Nat.reduceEqDiff, Nat.reduceAdd, Nat.reduceBEq, reduceIte, splice_succ, bunAP, g1, g3, g4, c3, c2]
    exact ⟨_, _, rfl, _, by first | trivial | rfl | assumption | omega | (simp only [bunM]; omega) | (simp (disch := first | omega | ((try simp only [bunN]) <;> omega) | fail) only [bunR, ↓get_set, Nat.reduceEqDiff, reduceIte, g3]; first | done | rfl | assumption | omega), by first | trivial | rfl | assumption | omega | (simp only [bunM]; omega) | (simp (disch := first | omega | ((try simp only [bunN]) <;> omega) | fail) only [bunR, ↓get_set, Nat.reduceEqDiff, reduceIte, g1]; first | done | rfl | assumption | omega), hE, hv⟩
  clear hv hE g1 g3 v fr σ'
  rintro r ⟨fr, σ', rfl, v, g3, g1, hE, hv⟩
  simp (maxSteps := 1000000) (disch := first | omega | ((try simp only [bunN]) <;> omega) | fail) only [↓bunD, bunU, ↓bunFD, bunFU, Nat.reduceMul, Nat.reduceEqDiff, Nat.reduceAdd, Nat.reduceBEq, reduceIte, splice_succ, bunAP, g3, g1]
  refine ev_count T.reqs.length (fun k fr σ' => fr.get 6 = some (.int .i64 k) ∧ RC σ cells fr σ' (nameC :: (T.lots.map fun l => lotC l.id) ++ (T.crits.map fun c => critC c.name) ++ (List.range k).map fun k => reqC (k + 1)))
    (fun r => ∃ fr σ', r = ⟨.exit 4, fr, σ'⟩ ∧ RC σ cells fr σ' (heads T)) ?_ ?_ ?_ ?_
  · refine ⟨by first | trivial | rfl | assumption | omega | (simp only [bunM]; omega) | (simp (disch := first | omega | ((try simp only [bunN]) <;> omega) | fail) only [bunR, ↓get_set, Nat.reduceEqDiff, reduceIte]; first | done | rfl | assumption | omega), v, by first | trivial | rfl | assumption | omega | (simp only [bunM]; omega) | (simp (disch := first | omega | ((try simp only [bunN]) <;> omega) | fail) only [bunR, ↓get_set, Nat.reduceEqDiff, reduceIte, g3]; first | done | rfl | assumption | omega), by first | trivial | rfl | assumption | omega | (simp only [bunM]; omega) | (simp (disch := first | omega | ((try simp only [bunN]) <;> omega) | fail) only [bunR, ↓get_set, Nat.reduceEqDiff, reduceIte, g1]; first | done | rfl | assumption | omega), hE, ?_⟩
    rw [List.range_zero, List.map_nil, List.append_nil]; exact hv
  · clear hv hE g1 g3 v fr σ'
    rintro k fr σ' hk ⟨g4, v, g3, g1, hE, hv⟩
    have hc := lt_true hk
    have c2 : σ'.row σ.n = some cells := by rw [hE.row (by simp)]; first | trivial | rfl | assumption | omega | (simp only [bunM]; omega) | (simp (disch := first | omega | ((try simp only [bunN]) <;> omega) | fail) only [bunR]; first | done | rfl | assumption | omega)
    have hEn := hE.n
    simp (maxSteps := 1000000) (disch := first | omega | ((try simp only [bunN]) <;> omega) | fail) only [↓bunD, bunU, ↓bunFD, bunFU, Nat.reduceMul, Nat.reduceEqDiff, Nat.reduceAdd, Nat.reduceBEq, reduceIte, splice_succ, ap22, ap23, ap24, ap25, ap26, ap33, ap34, ap35, ap38, ap49, ap74, g1, g3, g4, c4, c2, hc]
    refine (decimal_ok (by omega) (by omega)).mono ?_
    rintro r ⟨σ2, rfl, hE2⟩
    have hdl := dec_len (n := ((k + 1 : Nat) : Int)) (by omega) (by omega)
    simp (maxSteps := 1000000) (disch := first | omega | ((try simp only [bunN]) <;> omega) | fail) only [↓bunD, bunU, ↓bunFD, bunFU, Nat.reduceMul, Nat.reduceEqDiff, Nat.reduceAdd, Nat.reduceBEq, reduceIte, splice_succ, ap22, ap23, ap24, ap25, ap26, ap33, ap34, ap35, ap38, ap49, ap74, g1, g3, g4]
    refine ev_push (fun _ _ _ _ => ap41) hv hE hE2 (by simp) (by simpa using hEn) (by simp; omega) ?_
    rintro v' σ3 hv' hE3 hn3 -
    simp (maxSteps := 1000000) (disch := first | omega | ((try simp only [bunN]) <;> omega) | fail) only [↓bunD, bunU, ↓bunFD, bunFU, Nat.reduceMul, Nat.reduceEqDiff, Nat.reduceAdd, Nat.reduceBEq, reduceIte, splice_succ, ap22, ap23, ap24, ap25, ap26, ap33, ap34, ap35, ap38, ap49, ap74, g1, g3, g4]
    refine ⟨by first | trivial | rfl | assumption | omega | (simp only [bunM]; omega) | (simp (disch := first | omega | ((try simp only [bunN]) <;> omega) | fail) only [bunR, ↓get_set, Nat.reduceEqDiff, reduceIte]; first | done | rfl | assumption | omega), _, by first | trivial | rfl | assumption | omega | (simp only [bunM]; omega) | (simp (disch := first | omega | ((try simp only [bunN]) <;> omega) | fail) only [bunR, ↓get_set, Nat.reduceEqDiff, reduceIte]; first | done | rfl | assumption | omega), by first | trivial | rfl | assumption | omega | (simp only [bunM]; omega) | (simp (disch := first | omega | ((try simp only [bunN]) <;> omega) | fail) only [bunR, ↓get_set, Nat.reduceEqDiff, reduceIte, g1]; first | done | rfl | assumption | omega), hE3, ?_⟩
    rw [List.range_succ, List.map_append, ← List.append_assoc]; exact hv'
  · rintro fr σ' ⟨g4, v, g3, g1, hE, hv⟩
    have c2 : σ'.row σ.n = some cells := by rw [hE.row (by simp)]; first | trivial | rfl | assumption | omega | (simp only [bunM]; omega) | (simp (disch := first | omega | ((try simp only [bunN]) <;> omega) | fail) only [bunR]; first | done | rfl | assumption | omega)
    simp (maxSteps := 1000000) (disch := first | omega | ((try simp only [bunN]) <;> omega) | fail) only [↓bunD, bunU, ↓bunFD, bunFU, Nat.reduceMul, Nat.reduceEqDiff, Nat.reduceAdd, Nat.reduceBEq, reduceIte, splice_succ, bunAP, g1, g3, g4, c4, c2]
    exact ⟨_, _, rfl, _, by first | trivial | rfl | assumption | omega | (simp only [bunM]; omega) | (simp (disch := first | omega | ((try simp only [bunN]) <;> omega) | fail) only [bunR, ↓get_set, Nat.reduceEqDiff, reduceIte, g3]; first | done | rfl | assumption | omega), by first | trivial | rfl | assumption | omega | (simp only [bunM]; omega) | (simp (disch := first | omega | ((try simp only [bunN]) <;> omega) | fail) only [bunR, ↓get_set, Nat.reduceEqDiff, reduceIte, g1]; first | done | rfl | assumption | omega), hE, hv⟩
  clear hv hE g1 g3 v fr σ'
  rintro r ⟨fr, σ', rfl, v, g3, g1, hE, hv⟩
  have hEn := hE.n
  have hhl := heads_len ok
  simp (maxSteps := 1000000) (disch := first | omega | ((try simp only [bunN]) <;> omega) | fail) only [↓bunD, bunU, ↓bunFD, bunFU, Nat.reduceMul, Nat.reduceEqDiff, Nat.reduceAdd, Nat.reduceBEq, reduceIte, splice_succ, ap22, ap23, ap24, ap25, ap26, ap33, ap34, ap35, ap38, ap49, ap74, g3, g1]
  refine ev_pushs (l2 := fixedC) (fun _ _ _ _ => ap41) rfl rfl (by omega) hv hE (.refl _) (by simp) (by simpa using hEn) (by omega) ?_
  clear hv
  rintro v' σ3 hv hE3 hn3 -
  obtain ⟨va, vc', vb, vo, vcs, rfl, v1, v2⟩ := hv.strs.use
  have hvl : (heads T ++ fixedC).length ≤ 48 := by have : fixedC.length = 7 := rfl; rw [List.length_append]; omega
  generalize hall : heads T ++ fixedC = all at *
  simp (maxSteps := 1000000) (disch := first | omega | ((try simp only [bunN]) <;> omega) | fail) only [↓bunD, bunU, ↓bunFD, bunFU, Nat.reduceMul, Nat.reduceEqDiff, Nat.reduceAdd, Nat.reduceBEq, reduceIte, splice_succ, ap22, ap23, ap24, ap25, ap26, ap33, ap34, ap35, ap38, ap49, ap74, g1]
  refine ev_count all.length (fun k fr σ' => fr.get 8 = some (.int .i64 k) ∧ fr.get 3 = some (.slice va all.length vc') ∧ Ext σ3 σ' ∧ ∃ w, fr.get 7 = some w ∧ OStrs σ3.n σ' w ((all.take k).foldl addNew []))
    (fun r => ∃ fr σ' w, r = ⟨.exit 6, fr, σ'⟩ ∧ Ext σ3 σ' ∧ fr.get 7 = some w ∧ OStrs σ3.n σ' w (all.foldl addNew [])) ?_ ?_ ?_ ?_
  · exact ⟨by first | trivial | rfl | assumption | omega | (simp only [bunM]; omega) | (simp (disch := first | omega | ((try simp only [bunN]) <;> omega) | fail) only [bunR, ↓get_set, Nat.reduceEqDiff, reduceIte]; first | done | rfl | assumption | omega), by first | trivial | rfl | assumption | omega | (simp only [bunM]; omega) | (simp (disch := first | omega | ((try simp only [bunN]) <;> omega) | fail) only [bunR, ↓get_set, Nat.reduceEqDiff, reduceIte]; first | done | rfl | assumption | omega), .refl _, _, by first | trivial | rfl | assumption | omega | (simp only [bunM]; omega) | (simp (disch := first | omega | ((try simp only [bunN]) <;> omega) | fail) only [bunR, ↓get_set, Nat.reduceEqDiff, reduceIte]; first | done | rfl | assumption | omega), OL.nil⟩
  · rintro k fr σ' hk ⟨g8, g3, hE', w, g7, hw⟩
    have hc := lt_true hk
    obtain ⟨a, ha⟩ := at_some hk
    obtain ⟨sp, rfl, l3, l4⟩ := v1 (by omega)
    have l5 : σ'.row vb = some vcs := by rw [hE'.row l3]; exact l4
    have l7 := v2 k a ha
    have hEn' := hE'.n
    have hwl := fold_len (all.take k) []
    rw [List.length_take, List.length_nil] at hwl
    simp (maxSteps := 1000000) (disch := first | omega | ((try simp only [bunN]) <;> omega) | fail) only [↓bunD, bunU, ↓bunFD, bunFU, Nat.reduceMul, Nat.reduceEqDiff, Nat.reduceAdd, Nat.reduceBEq, reduceIte, splice_succ, ap22, ap23, ap24, ap25, ap26, ap33, ap34, ap35, ap38, ap49, ap74, g3, g7, g8, hc, l5, l7]
    refine (has_ok hw.strs (by omega)).mono ?_
    rintro r rfl
    have hfold : (all.take (k + 1)).foldl addNew [] = addNew ((all.take k).foldl addNew []) a := by rw [List.take_add_one, ha]; simp [List.foldl_append]
    simp (maxSteps := 1000000) (disch := first | omega | ((try simp only [bunN]) <;> omega) | fail) only [↓bunD, bunU, ↓bunFD, bunFU, Nat.reduceMul, Nat.reduceEqDiff, Nat.reduceAdd, Nat.reduceBEq, reduceIte, splice_succ, ap22, ap23, ap24, ap25, ap26, ap33, ap34, ap35, ap38, ap49, ap74, g3, g7, g8, hc, l5, l7]
    refine Br.intro (fun hd => ?_) (fun hd => ?_)
    · simp (maxSteps := 1000000) (disch := first | omega | ((try simp only [bunN]) <;> omega) | fail) only [↓bunD, bunU, ↓bunFD, bunFU, Nat.reduceMul, Nat.reduceEqDiff, Nat.reduceAdd, Nat.reduceBEq, reduceIte, splice_succ, ap22, ap23, ap24, ap25, ap26, ap33, ap34, ap35, ap38, ap49, ap74, g3, g7, g8, hc, l5, l7]
      refine ev_push (fun _ _ _ _ => ap41) hw hE' (.refl _) (Nat.le_refl _) hEn' (by omega) ?_
      rintro w' σ4 hw' hE4 hn4 -
      simp (maxSteps := 1000000) (disch := first | omega | ((try simp only [bunN]) <;> omega) | fail) only [↓bunD, bunU, ↓bunFD, bunFU, Nat.reduceMul, Nat.reduceEqDiff, Nat.reduceAdd, Nat.reduceBEq, reduceIte, splice_succ, ap22, ap23, ap24, ap25, ap26, ap33, ap34, ap35, ap38, ap49, ap74, g3, g7, g8]
      refine ⟨by first | trivial | rfl | assumption | omega | (simp only [bunM]; omega) | (simp (disch := first | omega | ((try simp only [bunN]) <;> omega) | fail) only [bunR, ↓get_set, Nat.reduceEqDiff, reduceIte]; first | done | rfl | assumption | omega), by first | trivial | rfl | assumption | omega | (simp only [bunM]; omega) | (simp (disch := first | omega | ((try simp only [bunN]) <;> omega) | fail) only [bunR, ↓get_set, Nat.reduceEqDiff, reduceIte, g3]; first | done | rfl | assumption | omega), hE4, _, by first | trivial | rfl | assumption | omega | (simp only [bunM]; omega) | (simp (disch := first | omega | ((try simp only [bunN]) <;> omega) | fail) only [bunR, ↓get_set, Nat.reduceEqDiff, reduceIte]; first | done | rfl | assumption | omega), ?_⟩
      rw [hfold, addNew_no hd]; exact hw'
    · simp (maxSteps := 1000000) (disch := first | omega | ((try simp only [bunN]) <;> omega) | fail) only [↓bunD, bunU, ↓bunFD, bunFU, Nat.reduceMul, Nat.reduceEqDiff, Nat.reduceAdd, Nat.reduceBEq, reduceIte, splice_succ, ap22, ap23, ap24, ap25, ap26, ap33, ap34, ap35, ap38, ap49, ap74, g3, g7, g8]
      refine ⟨by first | trivial | rfl | assumption | omega | (simp only [bunM]; omega) | (simp (disch := first | omega | ((try simp only [bunN]) <;> omega) | fail) only [bunR, ↓get_set, Nat.reduceEqDiff, reduceIte]; first | done | rfl | assumption | omega), by first | trivial | rfl | assumption | omega | (simp only [bunM]; omega) | (simp (disch := first | omega | ((try simp only [bunN]) <;> omega) | fail) only [bunR, ↓get_set, Nat.reduceEqDiff, reduceIte, g3]; first | done | rfl | assumption | omega), hE', _, by first | trivial | rfl | assumption | omega | (simp only [bunM]; omega) | (simp (disch := first | omega | ((try simp only [bunN]) <;> omega) | fail) only [bunR, ↓get_set, Nat.reduceEqDiff, reduceIte, g7]; first | done | rfl | assumption | omega), ?_⟩
      rw [hfold, addNew_yes hd]; exact hw
  · rintro fr σ' ⟨g8, g3, hE', w, g7, hw⟩
    rw [List.take_length] at hw
    simp (maxSteps := 1000000) (disch := first | omega | ((try simp only [bunN]) <;> omega) | fail) only [↓bunD, bunU, ↓bunFD, bunFU, Nat.reduceMul, Nat.reduceEqDiff, Nat.reduceAdd, Nat.reduceBEq, reduceIte, splice_succ, ap22, ap23, ap24, ap25, ap26, ap33, ap34, ap35, ap38, ap49, ap74, g3, g7, g8]
    exact ⟨_, _, w, rfl, hE', by first | trivial | rfl | assumption | omega | (simp only [bunM]; omega) | (simp (disch := first | omega | ((try simp only [bunN]) <;> omega) | fail) only [bunR, ↓get_set, Nat.reduceEqDiff, reduceIte, g7]; first | done | rfl | assumption | omega), hw⟩
  rintro r ⟨fr, σ', w, rfl, hE', g7, hw⟩
  simp (maxSteps := 1000000) (disch := first | omega | ((try simp only [bunN]) <;> omega) | fail) only [↓bunD, bunU, ↓bunFD, bunFU, Nat.reduceMul, Nat.reduceEqDiff, Nat.reduceAdd, Nat.reduceBEq, reduceIte, splice_succ, ap22, ap23, ap24, ap25, ap26, ap33, ap34, ap35, ap38, ap49, ap74, g7, Tryz.results89]
  have hEn2 := hE3.n
  refine ⟨w, σ', rfl, ((Ext.refl _).new' _).trans (hE3.trans hE'), ?_⟩
  rw [show clausesR T = all.foldl addNew [] from by rw [← hall]; rfl]
  exact hw.lower (by simp at hEn2; omega)
end Go.Proofs.G
namespace Go.Proofs.G
open Go Go.Ab
set_option maxRecDepth 100000
section
variable {x y : Operand}
theorem beq_dec {a b : Int} : (a == b) = decide (a = b) := by rw [Bool.eq_iff_iff]; simp
theorem beq_bytes' {a b : By} : ((⟨⟨a⟩⟩ : ByteArray) == ⟨⟨b⟩⟩) = decide (a = b) := by
  rw [beq_toListBytes, ByteArray.toList_eq, ByteArray.toList_eq]
  show (a == b) = _
  rw [Bool.eq_iff_iff]; simp
theorem bi_and {a b : Bool} : bi a (some b) (some false) = some (a && b) := by cases a <;> rfl
def ratV (a b : Int) : Value := .agg ⟨[.int .i64 a, .int .i64 b]⟩
theorem b2_rat {a b c d : Int} : bin2 Tryz.prog .eql 37 x y (.agg ⟨[.int .i64 a, .int .i64 b]⟩) (.agg ⟨[.int .i64 c, .int .i64 d]⟩) = some (.bool (decide (a = c) && decide (b = d))) ∧
    bin2 Tryz.prog .neq 37 x y (.agg ⟨[.int .i64 a, .int .i64 b]⟩) (.agg ⟨[.int .i64 c, .int .i64 d]⟩) = some (.bool (!(decide (a = c) && decide (b = d)))) := by
  have he : eqF Tryz.prog 9999 ⟨[.int .i64 a, .int .i64 b]⟩ ⟨[.int .i64 c, .int .i64 d]⟩ (Tryz.prog.fieldsOf 37).toList = bi (a == c) (bi (b == d) (some true) (some false)) (some false) := by kernel_rfl
  have h := b2_struct (x := x) (y := y) rfl (by kernel_rfl) (by kernel_rfl) (by kernel_rfl) he
  rw [bi_and, bi_and, beq_dec, beq_dec, Bool.and_true] at h
  exact h
theorem b2_lot {a b : Lot} : bin2 Tryz.prog .eql 86 x y (.agg ⟨a.row⟩) (.agg ⟨b.row⟩) = some (.bool (decide (a = b))) ∧ bin2 Tryz.prog .neq 86 x y (.agg ⟨a.row⟩) (.agg ⟨b.row⟩) = some (.bool (!decide (a = b))) := by
  have he : eqF Tryz.prog 9999 ⟨a.row⟩ ⟨b.row⟩ (Tryz.prog.fieldsOf 86).toList = bi (a.id == b.id) (bi (a.most == b.most) (some true) (some false)) (some false) := by kernel_rfl
  have h := b2_struct (x := x) (y := y) rfl (by kernel_rfl) (by kernel_rfl) (by kernel_rfl) he
  rw [bi_and, bi_and, beq_dec, beq_dec, Bool.and_true] at h
  have e : (decide (a.id = b.id) && decide (a.most = b.most)) = decide (a = b) := by
    rw [Bool.eq_iff_iff]; cases a; cases b; simp
  rw [e] at h
  exact h
theorem b2_crit {a b : Crit} : bin2 Tryz.prog .eql 78 x y (.agg ⟨a.row⟩) (.agg ⟨b.row⟩) = some (.bool (decide (a = b))) ∧ bin2 Tryz.prog .neq 78 x y (.agg ⟨a.row⟩) (.agg ⟨b.row⟩) = some (.bool (!decide (a = b))) := by
  have he : eqF Tryz.prog 9999 ⟨a.row⟩ ⟨b.row⟩ (Tryz.prog.fieldsOf 78).toList = bi ((⟨⟨a.name⟩⟩ : ByteArray) == ⟨⟨b.name⟩⟩) (bi (a.kind == b.kind) (bi (a.low == b.low) (bi (a.high == b.high) (bi (a.less == b.less) (some true) (some false)) (some false)) (some false)) (some false)) (some false) := by kernel_rfl
  have h := b2_struct (x := x) (y := y) rfl (by kernel_rfl) (by kernel_rfl) (by kernel_rfl) he
  rw [bi_and, bi_and, bi_and, bi_and, bi_and, beq_bytes', beq_dec, beq_dec, beq_dec, Bool.and_true] at h
  have e : (decide (a.name = b.name) && (decide (a.kind = b.kind) && (decide (a.low = b.low) && (decide (a.high = b.high) && (a.less == b.less))))) = decide (a = b) := by
    rw [Bool.eq_iff_iff]; cases a; cases b; simp
  rw [e] at h
  exact h
theorem b2_req {a b : Req} : bin2 Tryz.prog .eql 88 x y (.agg ⟨a.row⟩) (.agg ⟨b.row⟩) = some (.bool (decide (a = b))) ∧ bin2 Tryz.prog .neq 88 x y (.agg ⟨a.row⟩) (.agg ⟨b.row⟩) = some (.bool (!decide (a = b))) := by
  have he : eqF Tryz.prog 9999 ⟨a.row⟩ ⟨b.row⟩ (Tryz.prog.fieldsOf 88).toList = bi ((⟨⟨a.name⟩⟩ : ByteArray) == ⟨⟨b.name⟩⟩) (bi ((⟨⟨a.rel⟩⟩ : ByteArray) == ⟨⟨b.rel⟩⟩) (bi (a.value == b.value) (some true) (some false)) (some false)) (some false) := by kernel_rfl
  have h := b2_struct (x := x) (y := y) rfl (by kernel_rfl) (by kernel_rfl) (by kernel_rfl) he
  rw [bi_and, bi_and, bi_and, beq_bytes', beq_bytes', beq_dec, Bool.and_true] at h
  have e : (decide (a.name = b.name) && (decide (a.rel = b.rel) && decide (a.value = b.value))) = decide (a = b) := by
    rw [Bool.eq_iff_iff]; cases a; cases b; simp
  rw [e] at h
  exact h
def Tim.row (t : Tim) : List Value := [.int .i64 t.q, .int .i64 t.b, .int .i64 t.g, .int .i64 t.p, .int .i64 t.s]
theorem b2_tim {a b : Tim} : bin2 Tryz.prog .eql 43 x y (.agg ⟨a.row⟩) (.agg ⟨b.row⟩) = some (.bool (decide (a = b))) ∧ bin2 Tryz.prog .neq 43 x y (.agg ⟨a.row⟩) (.agg ⟨b.row⟩) = some (.bool (!decide (a = b))) := by
  have he : eqF Tryz.prog 9999 ⟨a.row⟩ ⟨b.row⟩ (Tryz.prog.fieldsOf 43).toList = bi (a.q == b.q) (bi (a.b == b.b) (bi (a.g == b.g) (bi (a.p == b.p) (bi (a.s == b.s) (some true) (some false)) (some false)) (some false)) (some false)) (some false) := by kernel_rfl
  have h := b2_struct (x := x) (y := y) rfl (by kernel_rfl) (by kernel_rfl) (by kernel_rfl) he
  rw [bi_and, bi_and, bi_and, bi_and, bi_and, beq_dec, beq_dec, beq_dec, beq_dec, beq_dec, Bool.and_true] at h
  have e : (decide (a.q = b.q) && (decide (a.b = b.b) && (decide (a.g = b.g) && (decide (a.p = b.p) && decide (a.s = b.s))))) = decide (a = b) := by
    rw [Bool.eq_iff_iff]; cases a; cases b; simp
  rw [e] at h
  exact h
end
end Go.Proofs.G
namespace Go.Proofs.G
open Go Go.Ab
set_option maxRecDepth 100000
mutual
def exEqb : Ex → Ex → Bool
  | .mk o n d nm es, .mk o' n' d' nm' es' => decide (o = o') && (decide (n = n') && decide (d = d')) && decide (nm = nm') && exsEqb es es'
def exsEqb : List Ex → List Ex → Bool
  | [], [] => true
  | a :: es, b :: fs => exEqb a b && exsEqb es fs
  | [], _ :: _ => false
  | _ :: _, [] => false
end
theorem exsEqb_len : ∀ {es fs : List Ex}, es.length ≠ fs.length → exsEqb es fs = false
  | [], [], h => absurd rfl h
  | a :: es, b :: fs, h => by
    unfold exsEqb
    rw [exsEqb_len (es := es) (fs := fs) (by simpa using h), Bool.and_false]
  | [], _ :: _, _ => by unfold exsEqb; rfl
  | _ :: _, [], _ => by unfold exsEqb; rfl
theorem exsEqb_take : ∀ {es fs : List Ex} {k : Nat} {a b : Ex}, es.length = fs.length → es[k]? = some a → fs[k]? = some b → exEqb a b = false → exsEqb es fs = false
  | a :: es, b :: fs, 0, _, _, _, h1, h2, h => by cases h1; cases h2; unfold exsEqb; rw [h, Bool.false_and]
  | a :: es, b :: fs, k + 1, _, _, hl, h1, h2, h => by
    unfold exsEqb
    rw [exsEqb_take (es := es) (fs := fs) (k := k) (by simpa using hl) (by simpa using h1) (by simpa using h2) h, Bool.and_false]
  | [], _, _, _, _, _, h1, _, _ => by simp at h1
  | _ :: _, [], _, _, _, hl, _, _, _ => by simp at hl
theorem exsEqb_all : ∀ {es fs : List Ex}, es.length = fs.length → (∀ (k : Nat) (a b : Ex), es[k]? = some a → fs[k]? = some b → exEqb a b = true) → exsEqb es fs = true
  | [], [], _, _ => by unfold exsEqb; rfl
  | a :: es, b :: fs, hl, h => by
    unfold exsEqb
    rw [h 0 a b rfl rfl, exsEqb_all (es := es) (fs := fs) (by simpa using hl) (fun k x y hx hy => h (k + 1) x y (by simpa using hx) (by simpa using hy)), Bool.and_true]
  | [], _ :: _, hl, _ => by simp at hl
  | _ :: _, [], hl, _ => by simp at hl
mutual
theorem exEqb_refl : ∀ a : Ex, exEqb a a = true
  | .mk o n d nm es => by unfold exEqb; rw [exsEqb_refl es]; simp
theorem exsEqb_refl : ∀ es : List Ex, exsEqb es es = true
  | [] => by unfold exsEqb; rfl
  | a :: es => by unfold exsEqb; rw [exEqb_refl a, exsEqb_refl es]; rfl
end
theorem ExsAt.slice {σ : St} {v : Value} {rows : List (List Value)} {es : List Ex} (h : SL σ 5 v rows) (hx : ExsAt σ rows es) : ∃ a c b off cells, v = .slice a es.length c ∧ (0 < es.length → ∃ sp, a = some ⟨b, off, sp⟩ ∧ b < σ.n ∧ σ.row b = some cells) ∧
    ∀ k e, es[k]? = some e → ∃ row, sub cells (off + k * 5) 5 = some row ∧ ExAt σ row e := by
  obtain ⟨a, c, b, off, cells, h1, h2, h3⟩ := SL.use h
  rw [hx.len] at h1 h2
  refine ⟨a, c, b, off, cells, h1, h2, fun k e he => ?_⟩
  obtain ⟨hlt, _⟩ := List.getElem?_eq_some_iff.1 he
  obtain ⟨row, hr⟩ := at_some (l := rows) (k := k) (by rw [hx.len]; exact hlt)
  exact ⟨row, h3 k row hr, hx.get hr he⟩
set_option maxHeartbeats 4000000 in
theorem rsame_ok : ∀ (n : Nat) {σ : St} {ra rb : List Value} {a b : Ex}, SizeOf.sizeOf a < n → ExAt σ ra a → ExAt σ rb b → Ev (go Tryz.prog HS (.fn 91) [.agg ⟨ra⟩, .agg ⟨rb⟩] σ) (fun r => ∃ σ', r = ⟨false, .bool (exEqb a b), σ'⟩ ∧ Ext σ σ') ⟨⟩ := by
  intro n
  induction n with
  | zero => intro σ ra rb a b h; omega
  | succ n ih =>
    rintro σ ra rb ⟨o, nu, de, nm, es⟩ ⟨o', nu', de', nm', es'⟩ hsz ⟨v, rows, rfl, h2, h4, h3⟩ ⟨v', rows', rfl, h2', h4', h3'⟩
    obtain ⟨sa, sc, sb, so, scs, rfl, s1, s2⟩ := ExsAt.slice h2 h3
    obtain ⟨sa', sc', sb', so', scs', rfl, s1', s2'⟩ := ExsAt.slice h2' h3'
    have e0 : exEqb (.mk o nu de nm es) (.mk o' nu' de' nm' es') = (decide (o = o') && (decide (nu = nu') && decide (de = de')) && decide (nm = nm') && exsEqb es es') := by unfold exEqb; rfl
    refine ev_go Tryz.func91 rfl rfl ?_
    rw [e0]
    have ext2 : ∀ u v : List Value, Ext σ ((σ.new u).new v) := fun u v => ((Ext.refl _).new' _).new' _
    cases hd1 : decide (o = o') with
    | false => simp (maxSteps := 1000000) (disch := first | omega | ((try simp only [bunN]) <;> omega) | fail) only [↓bunD, bunU, ↓bunFD, bunFU, Nat.reduceMul, Nat.reduceEqDiff, Nat.reduceAdd, Nat.reduceBEq, reduceIte, splice_succ, bunAP, b2_rat.1, b2_rat.2, hd1, Bool.false_and, Tryz.results91]; exact ⟨_, rfl, ext2 _ _⟩
    | true =>
    cases hd2 : (decide (nu = nu') && decide (de = de')) with
    | false => simp (maxSteps := 1000000) (disch := first | omega | ((try simp only [bunN]) <;> omega) | fail) only [↓bunD, bunU, ↓bunFD, bunFU, Nat.reduceMul, Nat.reduceEqDiff, Nat.reduceAdd, Nat.reduceBEq, reduceIte, splice_succ, bunAP, b2_rat.1, b2_rat.2, hd1, hd2, Bool.false_and, Bool.true_and, Tryz.results91]; exact ⟨_, rfl, ext2 _ _⟩
    | true =>
    cases hd3 : decide (nm = nm') with
    | false => simp (maxSteps := 1000000) (disch := first | omega | ((try simp only [bunN]) <;> omega) | fail) only [↓bunD, bunU, ↓bunFD, bunFU, Nat.reduceMul, Nat.reduceEqDiff, Nat.reduceAdd, Nat.reduceBEq, reduceIte, splice_succ, bunAP, b2_rat.1, b2_rat.2, hd1, hd2, hd3, Bool.false_and, Bool.true_and, Tryz.results91]; exact ⟨_, rfl, ext2 _ _⟩
    | true =>
    by_cases hlen : es.length = es'.length
    · have hd4 : decide ((es.length : Int) = (es'.length : Int)) = true := by simp [hlen]
      simp (maxSteps := 1000000) (disch := first | omega | ((try simp only [bunN]) <;> omega) | fail) only [↓bunD, bunU, ↓bunFD, bunFU, Nat.reduceMul, Nat.reduceEqDiff, Nat.reduceAdd, Nat.reduceBEq, reduceIte, splice_succ, bunAP, b2_rat.1, b2_rat.2, hd1, hd2, hd3, hd4, Bool.false_and, Bool.true_and]
      refine ev_count es.length (fun k fr σ' => fr.get 5 = some (.int .i64 k) ∧ fr.get 2 = some (.pointer (some ⟨σ.n, 0, none⟩)) ∧ fr.get 3 = some (.pointer (some ⟨σ.n + 1, 0, none⟩)) ∧
          Ext ((σ.new [str o, .int .i64 nu, .int .i64 de, str nm, .slice sa es.length sc]).new [str o', .int .i64 nu', .int .i64 de', str nm', .slice sa' es'.length sc']) σ' ∧ (∀ i a b, i < k → es[i]? = some a → es'[i]? = some b → exEqb a b = true))
        (fun r => (∃ fr σ', r = ⟨.exit 0, fr, σ'⟩ ∧ Ext σ σ' ∧ exsEqb es es' = true) ∨ (∃ fr σ', r = ⟨.ret, fr, σ'⟩ ∧ Ext σ σ' ∧ fr.get 4 = some (.bool false) ∧ exsEqb es es' = false)) ?_ ?_ ?_ ?_
      · exact ⟨by first | trivial | rfl | assumption | omega | (simp only [bunM]; omega) | (simp (disch := first | omega | ((try simp only [bunN]) <;> omega) | fail) only [bunR, ↓get_set, Nat.reduceEqDiff, reduceIte]; first | done | rfl | assumption | omega), by first | trivial | rfl | assumption | omega | (simp only [bunM]; omega) | (simp (disch := first | omega | ((try simp only [bunN]) <;> omega) | fail) only [bunR, ↓get_set, Nat.reduceEqDiff, reduceIte]; first | done | rfl | assumption | omega), by first | trivial | rfl | assumption | omega | (simp only [bunM]; omega) | (simp (disch := first | omega | ((try simp only [bunN]) <;> omega) | fail) only [bunR, ↓get_set, Nat.reduceEqDiff, reduceIte]; first | done | rfl | assumption | omega), .refl _, fun i a b h => by omega⟩
      · rintro k fr σ' hk ⟨g5, g2, g3, hE, hm⟩
        have hc := lt_true hk
        have hE0 : Ext σ σ' := (ext2 _ _).trans hE
        have hc' : k < es'.length := by omega
        obtain ⟨x, hx⟩ := at_some hk
        obtain ⟨y, hy⟩ := at_some hc'
        obtain ⟨rx, hrx, hex⟩ := s2 k x hx
        obtain ⟨ry, hry, hey⟩ := s2' k y hy
        obtain ⟨sp, rfl, l3, l4⟩ := s1 (by omega)
        obtain ⟨sp', rfl, l3', l4'⟩ := s1' (by omega)
        have r1 : σ'.row sb = some scs := by rw [hE0.row l3]; exact l4
        have r2 : σ'.row sb' = some scs' := by rw [hE0.row l3']; exact l4'
        have r3 : σ'.row σ.n = some [str o, .int .i64 nu, .int .i64 de, str nm, .slice (some ⟨sb, so, sp⟩) es.length sc] := by rw [hE.row (by simp; omega)]; first | trivial | rfl | assumption | omega | (simp only [bunM]; omega) | (simp (disch := first | omega | ((try simp only [bunN]) <;> omega) | fail) only [bunR]; first | done | rfl | assumption | omega)
        have r4 : σ'.row (σ.n + 1) = some [str o', .int .i64 nu', .int .i64 de', str nm', .slice (some ⟨sb', so', sp'⟩) es'.length sc'] := by rw [hE.row (by simp)]; first | trivial | rfl | assumption | omega | (simp only [bunM]; omega) | (simp (disch := first | omega | ((try simp only [bunN]) <;> omega) | fail) only [bunR]; first | done | rfl | assumption | omega)
        have hrl : rx.length = 5 := hex.len
        have hrl' : ry.length = 5 := hey.len
        simp (maxSteps := 1000000) (disch := first | omega | ((try simp only [bunN]) <;> omega) | fail) only [↓bunD, bunU, ↓bunFD, bunFU, Nat.reduceMul, Nat.reduceEqDiff, Nat.reduceAdd, Nat.reduceBEq, reduceIte, splice_succ, bunAP, g2, g3, g5, hc, r1, r2, r3, r4, hrx, hry]
        refine (ih (a := x) (b := y) ?_ (hex.mono hE0) (hey.mono hE0)).mono ?_
        · have h5 := List.sizeOf_lt_of_mem (List.mem_of_getElem? hx)
          simp at hsz
          omega
        rintro r ⟨σ2, rfl, hE2⟩
        simp (maxSteps := 1000000) (disch := first | omega | ((try simp only [bunN]) <;> omega) | fail) only [↓bunD, bunU, ↓bunFD, bunFU, Nat.reduceMul, Nat.reduceEqDiff, Nat.reduceAdd, Nat.reduceBEq, reduceIte, splice_succ, bunAP, g2, g3, g5, asx hE2]
        cases hq : exEqb x y with
        | true =>
          simp (maxSteps := 1000000) (disch := first | omega | ((try simp only [bunN]) <;> omega) | fail) only [↓bunD, bunU, ↓bunFD, bunFU, Nat.reduceMul, Nat.reduceEqDiff, Nat.reduceAdd, Nat.reduceBEq, reduceIte, splice_succ, bunAP, g2, g3, g5]
          refine ⟨by first | trivial | rfl | assumption | omega | (simp only [bunM]; omega) | (simp (disch := first | omega | ((try simp only [bunN]) <;> omega) | fail) only [bunR, ↓get_set, Nat.reduceEqDiff, reduceIte]; first | done | rfl | assumption | omega), by first | trivial | rfl | assumption | omega | (simp only [bunM]; omega) | (simp (disch := first | omega | ((try simp only [bunN]) <;> omega) | fail) only [bunR, ↓get_set, Nat.reduceEqDiff, reduceIte, g2]; first | done | rfl | assumption | omega), by first | trivial | rfl | assumption | omega | (simp only [bunM]; omega) | (simp (disch := first | omega | ((try simp only [bunN]) <;> omega) | fail) only [bunR, ↓get_set, Nat.reduceEqDiff, reduceIte, g3]; first | done | rfl | assumption | omega), hE.trans hE2, fun i a b hi ha hb => ?_⟩
          by_cases e : i = k
          · subst e; rw [hx] at ha; rw [hy] at hb; cases ha; cases hb; exact hq
          · exact hm i a b (by omega) ha hb
        | false =>
          simp (maxSteps := 1000000) (disch := first | omega | ((try simp only [bunN]) <;> omega) | fail) only [↓bunD, bunU, ↓bunFD, bunFU, Nat.reduceMul, Nat.reduceEqDiff, Nat.reduceAdd, Nat.reduceBEq, reduceIte, splice_succ, bunAP, g2, g3, g5]
          exact .inr ⟨_, _, rfl, hE0.trans hE2, by first | trivial | rfl | assumption | omega | (simp only [bunM]; omega) | (simp (disch := first | omega | ((try simp only [bunN]) <;> omega) | fail) only [bunR, ↓get_set, Nat.reduceEqDiff, reduceIte]; first | done | rfl | assumption | omega), exsEqb_take hlen hx hy hq⟩
      · rintro fr σ' ⟨g5, g2, g3, hE, hm⟩
        have r3 : σ'.row σ.n = some [str o, .int .i64 nu, .int .i64 de, str nm, .slice sa es.length sc] := by rw [hE.row (by simp; omega)]; first | trivial | rfl | assumption | omega | (simp only [bunM]; omega) | (simp (disch := first | omega | ((try simp only [bunN]) <;> omega) | fail) only [bunR]; first | done | rfl | assumption | omega)
        simp (maxSteps := 1000000) (disch := first | omega | ((try simp only [bunN]) <;> omega) | fail) only [↓bunD, bunU, ↓bunFD, bunFU, Nat.reduceMul, Nat.reduceEqDiff, Nat.reduceAdd, Nat.reduceBEq, reduceIte, splice_succ, bunAP, g2, g3, g5, r3]
        exact .inl ⟨_, _, rfl, (ext2 _ _).trans hE, exsEqb_all hlen fun k a b ha hb => hm k a b (List.getElem?_eq_some_iff.1 ha).1 ha hb⟩
      · rintro r (⟨fr, σ', rfl, hE, hq⟩ | ⟨fr, σ', rfl, hE, g4, hq⟩)
        · simp (maxSteps := 1000000) (disch := first | omega | ((try simp only [bunN]) <;> omega) | fail) only [↓bunD, bunU, ↓bunFD, bunFU, Nat.reduceMul, Nat.reduceEqDiff, Nat.reduceAdd, Nat.reduceBEq, reduceIte, splice_succ, bunAP, Tryz.results91]; rw [hq]; exact ⟨_, rfl, hE⟩
        · simp (maxSteps := 1000000) (disch := first | omega | ((try simp only [bunN]) <;> omega) | fail) only [↓bunD, bunU, ↓bunFD, bunFU, Nat.reduceMul, Nat.reduceEqDiff, Nat.reduceAdd, Nat.reduceBEq, reduceIte, splice_succ, bunAP, Tryz.results91, g4]; rw [hq]; exact ⟨_, rfl, hE⟩
    · have hd4 : decide ((es.length : Int) = (es'.length : Int)) = false := by simp; omega
      simp (maxSteps := 1000000) (disch := first | omega | ((try simp only [bunN]) <;> omega) | fail) only [↓bunD, bunU, ↓bunFD, bunFU, Nat.reduceMul, Nat.reduceEqDiff, Nat.reduceAdd, Nat.reduceBEq, reduceIte, splice_succ, bunAP, b2_rat.1, b2_rat.2, hd1, hd2, hd3, hd4, Bool.false_and, Bool.true_and, Tryz.results91]
      rw [exsEqb_len hlen]
      exact ⟨_, rfl, ext2 _ _⟩
end Go.Proofs.G
