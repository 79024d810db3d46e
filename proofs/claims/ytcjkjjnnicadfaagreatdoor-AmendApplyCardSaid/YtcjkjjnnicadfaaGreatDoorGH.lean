/- A part of the proof: a walk of some functions. -/
import Derived.Test.YtcjkjjnnicadfaaGreatDoorGA
import Derived.Test.YtcjkjjnnicadfaaGreatDoorGC
import Derived.Test.YtcjkjjnnicadfaaGreatDoorGG
import Derived.Test.YtcjkjjnnicadfaaGreatDoorGB
set_option linter.unusedSimpArgs false
set_option linter.unusedVariables false
namespace Go.Proofs.G
open Go Go.Ab
set_option maxRecDepth 100000
/-- A fraction in lowest terms. -/
def qn (n d : Int) : Int := (if d < 0 then -n else n) / (Int.gcd n d : Nat)
def qd (n d : Int) : Int := (if d < 0 then -d else d) / (Int.gcd n d : Nat)
theorem gcd_step {a b : Nat} : Nat.gcd b (a % b) = Nat.gcd a b := by
  rw [Nat.gcd_comm b, ← Nat.gcd_rec, Nat.gcd_comm]
def Lim (n : Int) : Prop := -4000000000000000000 ≤ n ∧ n ≤ 4000000000000000000
theorem tmod_nat {a b : Nat} : (a : Int).tmod (b : Int) = ((a % b : Nat) : Int) := rfl
theorem tdiv_gcd {n : Int} {g : Nat} (h : (g : Int) ∣ n) : n.tdiv g = n / g := Int.tdiv_eq_ediv_of_dvd h
theorem quick_ok {σ : St} {n d : Int} (h1 : Lim n) (h2 : Lim d) (h3 : d ≠ 0) :
    Ev (go Tryz.prog HS (.fn 120) [.int .i64 n, .int .i64 d] σ) (fun r => ∃ σ', r = ⟨false, .agg ⟨[.int .i64 (qn n d), .int .i64 (qd n d)]⟩, σ'⟩ ∧ Ext σ σ') ⟨⟩ := by
  obtain ⟨a1, a2⟩ := h1
  obtain ⟨b1, b2⟩ := h2
  obtain ⟨N, hN⟩ : ∃ N, (if d < 0 then -n else n) = N := ⟨_, rfl⟩
  obtain ⟨D, hD⟩ : ∃ D, (if d < 0 then -d else d) = D := ⟨_, rfl⟩
  have hgcd : Int.gcd n d = Nat.gcd N.natAbs D.natAbs := by
    have h1 : N.natAbs = n.natAbs := by rw [← hN]; split <;> omega
    have h2 : D.natAbs = d.natAbs := by rw [← hD]; split <;> omega
    unfold Int.gcd; rw [h1, h2]
  have hDp : 0 < D := by rw [← hD]; split <;> omega
  have hDl : D ≤ 4000000000000000000 := by rw [← hD]; split <;> omega
  have hNl : -4000000000000000000 ≤ N ∧ N ≤ 4000000000000000000 := by rw [← hN]; split <;> omega
  have e3 : IntKind.i64.wrap (0 - N) = -N := by rw [wrap64_in (by omega) (by omega)]; omega
  have hmx : max N (-N) = (N.natAbs : Int) := by omega
  have hDn : D = (D.natAbs : Int) := by omega
  have hq1 : qn n d = N / (Nat.gcd N.natAbs D.natAbs : Nat) := by unfold qn; rw [hN, hgcd]
  have hq2 : qd n d = D / (Nat.gcd N.natAbs D.natAbs : Nat) := by unfold qd; rw [hD, hgcd]
  rw [hq1, hq2]
  have hg0 : Nat.gcd N.natAbs D.natAbs ≠ 0 := fun h => by have := Nat.eq_zero_of_gcd_eq_zero_right h; omega
  have hgN : ((Nat.gcd N.natAbs D.natAbs : Nat) : Int) ∣ N := Int.ofNat_dvd_left.2 (Nat.gcd_dvd_left _ _)
  have hgD : ((Nat.gcd N.natAbs D.natAbs : Nat) : Int) ∣ D := Int.ofNat_dvd_left.2 (Nat.gcd_dvd_right _ _)
  obtain ⟨g, hg⟩ : ∃ g, Nat.gcd N.natAbs D.natAbs = g := ⟨_, rfl⟩
  rw [hg] at hg0 hgN hgD ⊢
  have hgi : (g : Int) ≠ 0 := by omega
  have c1 : N.tdiv g = N / g := tdiv_gcd hgN
  have c2 : D.tdiv g = D / g := tdiv_gcd hgD
  have hb1 : -4000000000000000000 ≤ N / (g : Int) ∧ N / (g : Int) ≤ 4000000000000000000 := by
    obtain ⟨k, hk⟩ := hgN
    rw [hk, Int.mul_ediv_cancel_left _ hgi]
    have hg1 : 1 ≤ (g : Int) := by omega
    constructor
    · rcases Int.le_total 0 k with h | h
      · omega
      · have := Int.mul_le_mul_of_nonpos_right hg1 h; omega
    · rcases Int.le_total 0 k with h | h
      · have := Int.mul_le_mul_of_nonneg_right hg1 h; omega
      · omega
  have hb2 : 0 ≤ D / (g : Int) ∧ D / (g : Int) ≤ 4000000000000000000 := by
    refine ⟨Int.ediv_nonneg (by omega) (by omega), Int.le_trans (Int.ediv_le_self _ (by omega)) hDl⟩
  have w1 : IntKind.i64.wrap (N / (g : Int)) = N / (g : Int) := wrap64_in (by omega) (by omega)
  have w2 : IntKind.i64.wrap (D / (g : Int)) = D / (g : Int) := wrap64_in (by omega) (by omega)
  refine ev_go Tryz.func120 rfl rfl ?_
  have hcases : (decide (d < 0) = true ∧ IntKind.i64.wrap (0 - n) = N ∧ IntKind.i64.wrap (0 - d) = D) ∨ (decide (D < 0) = false ∧ n = N ∧ d = D) := by
    by_cases hd : d < 0
    · rw [if_pos hd] at hN hD
      exact .inl ⟨by simpa using hd, by rw [wrap64_in (by omega) (by omega)]; omega, by rw [wrap64_in (by omega) (by omega)]; omega⟩
    · rw [if_neg hd] at hN hD
      exact .inr ⟨by rw [← hD]; simpa using hd, hN, hD⟩
  clear hN hD hgcd hq1 hq2
  rcases hcases with ⟨hc, e1, e2⟩ | ⟨hc, e1, e2⟩
  all_goals
    simp (maxSteps := 1000000) (disch := first | omega | ((try simp only [bunN]) <;> omega) | fail) only [↓bunD, bunU, ↓bunFD, bunFU, Nat.reduceMul, Nat.reduceEqDiff, Nat.reduceAdd, Nat.reduceBEq, reduceIte, splice_succ, bunAP, hc, e1, e2, e3, hmx]
    refine ev_loop (fun m fr σ' => ∃ a : Nat, fr.get 0 = some (.int .i64 N) ∧ fr.get 1 = some (.int .i64 D) ∧ fr.get 4 = some (.pointer (some ⟨σ.n, 0, none⟩)) ∧ fr.get 5 = some (.int .i64 (a : Int)) ∧ fr.get 6 = some (.int .i64 (m : Int)) ∧ σ' = σ.new [.int .i64 0, .int .i64 0] ∧ Nat.gcd a m = g)
      (fun r => ∃ fr, r = ⟨.exit 0, fr, σ.new [.int .i64 0, .int .i64 0]⟩ ∧ fr.get 0 = some (.int .i64 N) ∧ fr.get 1 = some (.int .i64 D) ∧ fr.get 4 = some (.pointer (some ⟨σ.n, 0, none⟩)) ∧ fr.get 5 = some (.int .i64 (g : Int))) D.natAbs ?_ ?_ ?_
    · exact ⟨N.natAbs, by first | trivial | rfl | assumption | omega | (simp only [bunM]; omega) | (simp (disch := first | omega | ((try simp only [bunN]) <;> omega) | fail) only [bunR, ↓get_set, Nat.reduceEqDiff, reduceIte, init_cons, init_nil, e1, e2]; first | done | rfl | assumption | omega), by first | trivial | rfl | assumption | omega | (simp only [bunM]; omega) | (simp (disch := first | omega | ((try simp only [bunN]) <;> omega) | fail) only [bunR, ↓get_set, Nat.reduceEqDiff, reduceIte, init_cons, init_nil, e1, e2]; first | done | rfl | assumption | omega), by first | trivial | rfl | assumption | omega | (simp only [bunM]; omega) | (simp (disch := first | omega | ((try simp only [bunN]) <;> omega) | fail) only [bunR, ↓get_set, Nat.reduceEqDiff, reduceIte, init_cons, init_nil, e1, e2]; first | done | rfl | assumption | omega), by first | trivial | rfl | assumption | omega | (simp only [bunM]; omega) | (simp (disch := first | omega | ((try simp only [bunN]) <;> omega) | fail) only [bunR, ↓get_set, Nat.reduceEqDiff, reduceIte, init_cons, init_nil, e1, e2]; first | done | rfl | assumption | omega), by rw [← hDn]; first | trivial | rfl | assumption | omega | (simp only [bunM]; omega) | (simp (disch := first | omega | ((try simp only [bunN]) <;> omega) | fail) only [bunR, ↓get_set, Nat.reduceEqDiff, reduceIte, init_cons, init_nil, e1, e2]; first | done | rfl | assumption | omega), rfl, hg⟩
    · rintro m fr σ' ⟨a, g0, g1, g4, g5, g6, rfl, hgc⟩
      by_cases hm : 0 < m
      · have hc' : decide ((0 : Int) < (m : Int)) = true := by simpa using hm
        have hm0 : (m : Int) ≠ 0 := by omega
        simp (maxSteps := 1000000) (disch := first | omega | ((try simp only [bunN]) <;> omega) | fail) only [↓bunD, bunU, ↓bunFD, bunFU, Nat.reduceMul, Nat.reduceEqDiff, Nat.reduceAdd, Nat.reduceBEq, reduceIte, splice_succ, bunAP, g0, g1, g4, g5, g6, hc', tmod_nat, lp_normal]
        refine ⟨a % m, Nat.mod_lt _ hm, m, by first | trivial | rfl | assumption | omega | (simp only [bunM]; omega) | (simp (disch := first | omega | ((try simp only [bunN]) <;> omega) | fail) only [bunR, ↓get_set, Nat.reduceEqDiff, reduceIte, g0]; first | done | rfl | assumption | omega), by first | trivial | rfl | assumption | omega | (simp only [bunM]; omega) | (simp (disch := first | omega | ((try simp only [bunN]) <;> omega) | fail) only [bunR, ↓get_set, Nat.reduceEqDiff, reduceIte, g1]; first | done | rfl | assumption | omega), by first | trivial | rfl | assumption | omega | (simp only [bunM]; omega) | (simp (disch := first | omega | ((try simp only [bunN]) <;> omega) | fail) only [bunR, ↓get_set, Nat.reduceEqDiff, reduceIte, g4]; first | done | rfl | assumption | omega), by first | trivial | rfl | assumption | omega | (simp only [bunM]; omega) | (simp (disch := first | omega | ((try simp only [bunN]) <;> omega) | fail) only [bunR, ↓get_set, Nat.reduceEqDiff, reduceIte]; first | done | rfl | assumption | omega), by first | trivial | rfl | assumption | omega | (simp only [bunM]; omega) | (simp (disch := first | omega | ((try simp only [bunN]) <;> omega) | fail) only [bunR, ↓get_set, Nat.reduceEqDiff, reduceIte]; first | done | rfl | assumption | omega), by trivial, by rw [gcd_step]; exact hgc⟩
      · obtain rfl : m = 0 := by omega
        have hc' : decide ((0 : Int) < ((0 : Nat) : Int)) = false := by decide
        rw [Nat.gcd_zero_right] at hgc
        subst hgc
        simp (maxSteps := 1000000) (disch := first | omega | ((try simp only [bunN]) <;> omega) | fail) only [↓bunD, bunU, ↓bunFD, bunFU, Nat.reduceMul, Nat.reduceEqDiff, Nat.reduceAdd, Nat.reduceBEq, reduceIte, splice_succ, bunAP, g0, g1, g4, g5, g6, hc', lp_exit]
        exact ⟨_, rfl, by first | trivial | rfl | assumption | omega | (simp only [bunM]; omega) | (simp (disch := first | omega | ((try simp only [bunN]) <;> omega) | fail) only [bunR, ↓get_set, Nat.reduceEqDiff, reduceIte, g0]; first | done | rfl | assumption | omega), by first | trivial | rfl | assumption | omega | (simp only [bunM]; omega) | (simp (disch := first | omega | ((try simp only [bunN]) <;> omega) | fail) only [bunR, ↓get_set, Nat.reduceEqDiff, reduceIte, g1]; first | done | rfl | assumption | omega), by first | trivial | rfl | assumption | omega | (simp only [bunM]; omega) | (simp (disch := first | omega | ((try simp only [bunN]) <;> omega) | fail) only [bunR, ↓get_set, Nat.reduceEqDiff, reduceIte, g4]; first | done | rfl | assumption | omega), by first | trivial | rfl | assumption | omega | (simp only [bunM]; omega) | (simp (disch := first | omega | ((try simp only [bunN]) <;> omega) | fail) only [bunR, ↓get_set, Nat.reduceEqDiff, reduceIte, g5]; first | done | rfl | assumption | omega)⟩
    · rintro r ⟨fr, rfl, g0, g1, g4, g5⟩
      simp (maxSteps := 1000000) (disch := first | omega | ((try simp only [bunN]) <;> omega) | fail) only [↓bunD, bunU, ↓bunFD, bunFU, Nat.reduceMul, Nat.reduceEqDiff, Nat.reduceAdd, Nat.reduceBEq, reduceIte, splice_succ, bunAP, g0, g1, g4, g5, c1, c2, w1, w2, Tryz.results120]
      exact ⟨_, rfl, by (repeat' (first | assumption | exact Ext.refl _ | refine Ext.new' ?_ _ | refine Ext.upd ?_ (by (try simp only [bunM]) <;> omega) _ | refine Ext.dead ?_ (by (try simp only [bunM]) <;> omega)))⟩
end Go.Proofs.G
namespace Go.Proofs.G
open Go Go.Ab
set_option maxRecDepth 100000
theorem small_ok {σ : St} {n : Int} (h1 : -1000000000 < n) (h2 : n < 1000000000) : Ev (go Tryz.prog HS (.fn 119) [.int .i64 n] σ) (fun r => r = ⟨false, .bool true, σ⟩) ⟨⟩ := by
  have c1 : decide (-1000000000 < n) = true := by simpa using h1
  have c2 : decide (n < 1000000000) = true := by simpa using h2
  refine ev_go Tryz.func119 rfl rfl ?_
  simp (maxSteps := 1000000) (disch := first | omega | ((try simp only [bunN]) <;> omega) | fail) only [↓bunD, bunU, ↓bunFD, bunFU, Nat.reduceMul, Nat.reduceEqDiff, Nat.reduceAdd, Nat.reduceBEq, reduceIte, splice_succ, bunAP, c1, c2, yu_t, yu_f, Tryz.results119]
theorem make_ok {σ : St} {n d : Int} (h1 : -1000000000 < n) (h2 : n < 1000000000) (h3 : -1000000000 < d) (h4 : d < 1000000000) (h5 : d ≠ 0) :
    Ev (go Tryz.prog HS (.fn 85) [.int .i64 n, .int .i64 d] σ) (fun r => ∃ σ', r = ⟨false, .tuple ⟨[.agg ⟨[.int .i64 (qn n d), .int .i64 (qd n d)]⟩, .bool true]⟩, σ'⟩ ∧ Ext σ σ') ⟨⟩ := by
  have c5 : decide (d = 0) = false := by simpa using h5
  refine ev_go Tryz.func85 rfl rfl ?_
  simp (maxSteps := 1000000) (disch := first | omega | ((try simp only [bunN]) <;> omega) | fail) only [↓bunD, bunU, ↓bunFD, bunFU, Nat.reduceMul, Nat.reduceEqDiff, Nat.reduceAdd, Nat.reduceBEq, reduceIte, splice_succ, bunAP, c5]
  refine (small_ok h1 h2).mono ?_
  rintro r rfl
  simp (maxSteps := 1000000) (disch := first | omega | ((try simp only [bunN]) <;> omega) | fail) only [↓bunD, bunU, ↓bunFD, bunFU, Nat.reduceMul, Nat.reduceEqDiff, Nat.reduceAdd, Nat.reduceBEq, reduceIte, splice_succ, bunAP, yu_t]
  refine (small_ok h3 h4).mono ?_
  rintro r rfl
  simp (maxSteps := 1000000) (disch := first | omega | ((try simp only [bunN]) <;> omega) | fail) only [↓bunD, bunU, ↓bunFD, bunFU, Nat.reduceMul, Nat.reduceEqDiff, Nat.reduceAdd, Nat.reduceBEq, reduceIte, splice_succ, bunAP]
  refine (quick_ok ⟨by omega, by omega⟩ ⟨by omega, by omega⟩ h5).mono ?_
  rintro r ⟨σ2, rfl, e2⟩
  have n2 := e2.n
  have o2 : σ2.orow σ.n = some [.int .i64 0, .int .i64 0] := by rw [e2.orow (by first | trivial | rfl | assumption | omega | (simp only [bunM]; omega) | (simp (disch := first | omega | ((try simp only [bunN]) <;> omega) | fail) only [bunR]; first | done | rfl | assumption | omega))]; first | trivial | rfl | assumption | omega | (simp only [bunM]; omega) | (simp (disch := first | omega | ((try simp only [bunN]) <;> omega) | fail) only [bunR]; first | done | rfl | assumption | omega)
  have hE : Ext σ σ2 := Ext.trans (by (repeat' (first | assumption | exact Ext.refl _ | refine Ext.new' ?_ _ | refine Ext.upd ?_ (by (try simp only [bunM]) <;> omega) _ | refine Ext.dead ?_ (by (try simp only [bunM]) <;> omega)))) e2
  simp (maxSteps := 1000000) (disch := first | omega | ((try simp only [bunN]) <;> omega) | fail) only [↓bunD, bunU, ↓bunFD, bunFU, Nat.reduceMul, Nat.reduceEqDiff, Nat.reduceAdd, Nat.reduceBEq, reduceIte, splice_succ, bunAP, o2, Tryz.results85]
  exact ⟨_, rfl, by (repeat' (first | assumption | exact Ext.refl _ | refine Ext.new' ?_ _ | refine Ext.upd ?_ (by (try simp only [bunM]) <;> omega) _ | refine Ext.dead ?_ (by (try simp only [bunM]) <;> omega)))⟩
/-- The names of criteria, by numbers. -/
def nameOf (n : Int) : By := [[113,117,97,108,105,116,121], [100,97,121,115], [115,116,97,102,102], [112,114,105,99,101], [108,111,119]].getD (n % 5).toNat []
theorem nameOf_names (n : Int) : nameOf n ∈ names := by
  have h1 : 0 ≤ n % 5 := Int.emod_nonneg _ (by omega)
  have h2 : n % 5 < 5 := Int.emod_lt_of_pos _ (by omega)
  obtain ⟨k, hk, hk5⟩ : ∃ k : Nat, (n % 5).toNat = k ∧ k < 5 := ⟨_, rfl, by omega⟩
  unfold nameOf
  rw [hk]
  have : ∀ k, k < 5 → [[113,117,97,108,105,116,121], [100,97,121,115], [115,116,97,102,102], [112,114,105,99,101], [108,111,119]].getD k ([] : By) ∈ names := by decide
  exact this k hk5
theorem name_ok {σ : St} {n : Int} (h : In64 n) : Ev (go Tryz.prog HS (.fn 41) [.int .i64 n] σ) (fun r => ∃ σ', r = ⟨false, str (nameOf n), σ'⟩ ∧ Ext σ σ') ⟨⟩ := by
  refine ev_go Tryz.func41 rfl rfl ?_
  have h1 : 0 ≤ n % 5 := Int.emod_nonneg _ (by omega)
  have h2 : n % 5 < 5 := Int.emod_lt_of_pos _ (by omega)
  simp (maxSteps := 1000000) (disch := first | omega | ((try simp only [bunN]) <;> omega) | fail) only [↓bunD, bunU, ↓bunFD, bunFU, Nat.reduceMul, Nat.reduceEqDiff, Nat.reduceAdd, Nat.reduceBEq, reduceIte, splice_succ, bunAP]
  refine (mod_ok h.1 h.2 (by omega) (by omega)).mono ?_
  rintro r rfl
  unfold nameOf
  obtain ⟨k, hk, hk5⟩ : ∃ k : Nat, n % 5 = (k : Int) ∧ k < 5 := ⟨(n % 5).toNat, by omega, by omega⟩
  rw [hk]
  rcases (by omega : k = 0 ∨ k = 1 ∨ k = 2 ∨ k = 3 ∨ k = 4) with rfl | rfl | rfl | rfl | rfl
  all_goals
    simp (maxSteps := 1000000) (disch := first | omega | ((try simp only [bunN]) <;> omega) | fail) only [↓bunD, bunU, ↓bunFD, bunFU, Nat.reduceMul, Nat.reduceEqDiff, Nat.reduceAdd, Nat.reduceBEq, reduceIte, splice_succ, bunAP, Tryz.results41]
    exact ⟨_, rfl, by (repeat' (first | assumption | exact Ext.refl _ | refine Ext.new' ?_ _ | refine Ext.upd ?_ (by (try simp only [bunM]) <;> omega) _ | refine Ext.dead ?_ (by (try simp only [bunM]) <;> omega)))⟩
end Go.Proofs.G
namespace Go.Proofs.G
open Go Go.Ab
set_option maxRecDepth 100000
/-- A slice of integers that came in. -/
def ArgInts (σ : St) (v : Value) (l : List Int) : Prop := Ints σ v l ∧ ∀ n ∈ l, In64 n
theorem rnames_ok {σ : St} : Ev (go Tryz.prog HS (.fn 86) [] σ) (fun r => r = ⟨false, .slice (some ⟨σ.n, 0, none⟩) 4 4, σ.new [str [112,114,105,99,101], str [108,111,119], str [113,117,97,108,105,116,121], str [100,97,121,115]]⟩) ⟨⟩ := by
  refine ev_go Tryz.func86 rfl rfl ?_
  simp (maxSteps := 1000000) (disch := first | omega | ((try simp only [bunN]) <;> omega) | fail) only [↓bunD, bunU, ↓bunFD, bunFU, Nat.reduceMul, Nat.reduceEqDiff, Nat.reduceAdd, Nat.reduceBEq, reduceIte, splice_succ, bunAP, Tryz.results86]
theorem zz : decide (((0 : Nat) : Int) = 0) = true ∧ decide (((0 : Nat) : Int) = 1) = false ∧ decide (((0 : Nat) : Int) = 2) = false ∧ decide (((0 : Nat) : Int) = 3) = false ∧ decide (((0 : Nat) : Int) = 4) = false ∧ decide (((1 : Nat) : Int) = 0) = false ∧ decide (((1 : Nat) : Int) = 1) = true ∧ decide (((1 : Nat) : Int) = 2) = false ∧ decide (((1 : Nat) : Int) = 3) = false ∧ decide (((1 : Nat) : Int) = 4) = false ∧ decide (((2 : Nat) : Int) = 0) = false ∧ decide (((2 : Nat) : Int) = 1) = false ∧ decide (((2 : Nat) : Int) = 2) = true ∧ decide (((2 : Nat) : Int) = 3) = false ∧ decide (((2 : Nat) : Int) = 4) = false ∧ decide (((3 : Nat) : Int) = 0) = false ∧ decide (((3 : Nat) : Int) = 1) = false ∧ decide (((3 : Nat) : Int) = 2) = false ∧ decide (((3 : Nat) : Int) = 3) = true ∧ decide (((3 : Nat) : Int) = 4) = false ∧ decide (((4 : Nat) : Int) = 0) = false ∧ decide (((4 : Nat) : Int) = 1) = false ∧ decide (((4 : Nat) : Int) = 2) = false ∧ decide (((4 : Nat) : Int) = 3) = false ∧ decide (((4 : Nat) : Int) = 4) = true := by decide
theorem five {l : List Value} (h : l.length = 5) : ∃ a b c d e, l = [a, b, c, d, e] := by
  match l, h with
  | [a, b, c, d, e], _ => exact ⟨a, b, c, d, e, rfl⟩
def opsL : List By := [[43], [45], [42], [47], [109, 105, 110], [109, 97, 120]]
/-- What the frame of Made holds. -/
def MD (H : List Nat) (base : St) (v : Value) (fr : Fr) (σ' : St) (k : Nat) : Prop := ∃ s n, fr.get 0 = some v ∧ fr.get 2 = some (.pointer (some ⟨base.n - 2, 0, none⟩)) ∧ fr.get 3 = some s ∧ fr.get 4 = some (.slice (some ⟨base.n - 1, 0, none⟩) 6 6) ∧ Ext base σ' ∧ Stk ((base.n - 2) :: H) base.n σ' s n ∧ n ≤ k
set_option maxHeartbeats 4000000 in
theorem made_ok {σ : St} {v : Value} {l : List Int} (H : List Nat) (hH0 : ∀ q ∈ H, q < σ.n) (hl : ArgInts σ v l) : Ev (go Tryz.prog HS (.fn 57) [v] σ) (fun r => ∃ cells e σ', r = ⟨false, .agg ⟨cells⟩, σ'⟩ ∧ Ext σ σ' ∧ ExAt (hide σ' H) cells e) ⟨⟩ := by
  obtain ⟨hl, hin⟩ := hl
  obtain ⟨a, c, b, off, cells, rfl, h1, h2⟩ := hl.use
  refine ev_go Tryz.func57 rfl rfl ?_
  simp (maxSteps := 1000000) (disch := first | omega | ((try simp only [bunN]) <;> omega) | fail) only [↓bunD, bunU, ↓bunFD, bunFU, Nat.reduceMul, Nat.reduceEqDiff, Nat.reduceAdd, Nat.reduceBEq, reduceIte, splice_succ, ap22, ap23, ap24, ap25, ap26, ap33, ap34, ap35, ap41, ap49, ap74]
  refine ev_count (min l.length 80) (fun k fr σ' => fr.get 5 = some (.int .i64 k) ∧ MD H ((σ.new [str [], .int .i64 0, .int .i64 0, str [], .slice none 0 0]).new (opsL.map str)) (.slice a l.length c) fr σ' k)
    (fun r => ∃ fr σ', r = ⟨.exit 0, fr, σ'⟩ ∧ MD H ((σ.new [str [], .int .i64 0, .int .i64 0, str [], .slice none 0 0]).new (opsL.map str)) (.slice a l.length c) fr σ' 80) ?_ ?_ ?_ ?_
  · exact ⟨by first | trivial | rfl | assumption | omega | (simp only [bunM]; omega) | (simp (disch := first | omega | ((try simp only [bunN]) <;> omega) | fail) only [bunR, ↓get_set, Nat.reduceEqDiff, reduceIte]; first | done | rfl | assumption | omega), .slice none 0 0, 0, by first | trivial | rfl | assumption | omega | (simp only [bunM]; omega) | (simp (disch := first | omega | ((try simp only [bunN]) <;> omega) | fail) only [bunR, ↓get_set, Nat.reduceEqDiff, reduceIte, init_cons, init_nil]; first | done | rfl | assumption | omega), by first | trivial | rfl | assumption | omega | (simp only [bunM]; omega) | (simp (disch := first | omega | ((try simp only [bunN]) <;> omega) | fail) only [bunR, ↓get_set, Nat.reduceEqDiff, reduceIte]; first | done | rfl | assumption | omega), by first | trivial | rfl | assumption | omega | (simp only [bunM]; omega) | (simp (disch := first | omega | ((try simp only [bunN]) <;> omega) | fail) only [bunR, ↓get_set, Nat.reduceEqDiff, reduceIte]; first | done | rfl | assumption | omega), by first | trivial | rfl | assumption | omega | (simp only [bunM]; omega) | (simp (disch := first | omega | ((try simp only [bunN]) <;> omega) | fail) only [bunR, ↓get_set, Nat.reduceEqDiff, reduceIte]; first | done | rfl | assumption | omega), .refl _, .inl ⟨rfl, rfl⟩, Nat.le_refl _⟩
  · rintro k fr σ' hk ⟨g5, s, n, g0, g2, g3, g4, hE, hs, hn⟩
    have hH : ∀ q ∈ (((σ.new [str [], .int .i64 0, .int .i64 0, str [], .slice none 0 0]).new (opsL.map str)).n - 2) :: H, q < ((σ.new [str [], .int .i64 0, .int .i64 0, str [], .slice none 0 0]).new (opsL.map str)).n := by
      intro q hq
      rcases List.mem_cons.1 hq with rfl | hq
      · simp only [new_n]; omega
      · have := hH0 q hq; simp only [new_n]; omega
    have hc1 : decide (k < l.length) = true := by simpa using (by omega : k < l.length)
    have hc2 : decide ((k : Int) < 80) = true := by rw [decide_eq_true_iff]; omega
    have hk1 : k < l.length := by omega
    obtain ⟨x, hx⟩ := at_some hk1
    have hx64 := hin x (List.mem_of_getElem? hx)
    obtain ⟨sp, rfl, l3, l4⟩ := h1 (by omega)
    have hE0 : Ext σ σ' := Ext.trans (by (repeat' (first | assumption | exact Ext.refl _ | refine Ext.new' ?_ _ | refine Ext.upd ?_ (by (try simp only [bunM]) <;> omega) _ | refine Ext.dead ?_ (by (try simp only [bunM]) <;> omega)))) hE
    have l5 : σ'.row b = some cells := by rw [hE0.row l3]; exact l4
    have l7 := h2 k x hx
    simp (maxSteps := 1000000) (disch := first | omega | ((try simp only [bunN]) <;> omega) | fail) only [↓bunD, bunU, ↓bunFD, bunFU, Nat.reduceMul, Nat.reduceEqDiff, Nat.reduceAdd, Nat.reduceBEq, reduceIte, splice_succ, ap22, ap23, ap24, ap25, ap26, ap33, ap34, ap35, ap41, ap49, ap74, g0, g3, g5, hc1, hc2, yu_t, yu_f, l5, l7]
    refine (mod_ok (m := 1000) hx64.1 hx64.2 (by omega) (by omega)).mono ?_
    rintro r rfl
    obtain ⟨m, hm, hm1⟩ : ∃ m : Nat, x % 1000 = (m : Int) ∧ m < 1000 := ⟨(x % 1000).toNat, by omega, by omega⟩
    have f1 : IntKind.i64.wrap ((m : Int).tdiv 10) = ((m / 10 : Nat) : Int) := by rw [show (m : Int).tdiv 10 = ((m / 10 : Nat) : Int) from rfl, wrap64_in (by omega) (by omega)]
    have f2 : (m : Int).tmod 10 = ((m % 10 : Nat) : Int) := rfl
    obtain ⟨q, hq⟩ : ∃ q, m / 10 = q := ⟨_, rfl⟩
    obtain ⟨d, hd⟩ : ∃ d, m % 10 = d := ⟨_, rfl⟩
    have hq1 : q < 100 := by omega
    have hd1 : d < 10 := by omega
    rw [hq] at f1
    rw [hd] at f2
    rw [hm]
    rcases (by omega : (d = 0 ∨ d = 1) ∨ (d = 2 ∨ d = 3 ∨ d = 4) ∨ 4 < d) with hk0 | hk0 | hk0
    · have p1 : (q : Int).tmod 13 = ((q % 13 : Nat) : Int) := rfl
      have p2 : IntKind.i64.wrap ((q : Int).tdiv 13) = ((q / 13 : Nat) : Int) := by rw [show (q : Int).tdiv 13 = ((q / 13 : Nat) : Int) from rfl, wrap64_in (by omega) (by omega)]
      have p3 : ((q / 13 : Nat) : Int).tmod 4 = ((q / 13 % 4 : Nat) : Int) := rfl
      rcases hk0 with rfl | rfl
      all_goals
        simp (maxSteps := 1000000) (disch := first | omega | ((try simp only [bunN]) <;> omega) | fail) only [↓bunD, bunU, ↓bunFD, bunFU, Nat.reduceMul, Nat.reduceEqDiff, Nat.reduceAdd, Nat.reduceBEq, reduceIte, splice_succ, ap22, ap23, ap24, ap25, ap26, ap33, ap34, ap35, ap41, ap49, ap74, g0, g3, g5, f1, f2, p1, p2, p3, zz]
        refine (make_ok (n := ((q % 13 : Nat) : Int) - 3) (d := 1 + ((q / 13 % 4 : Nat) : Int)) (by omega) (by omega) (by omega) (by omega) (by omega)).mono ?_
        rintro r ⟨σ2, rfl, e2⟩
        simp (maxSteps := 1000000) (disch := first | omega | ((try simp only [bunN]) <;> omega) | fail) only [↓bunD, bunU, ↓bunFD, bunFU, Nat.reduceMul, Nat.reduceEqDiff, Nat.reduceAdd, Nat.reduceBEq, reduceIte, splice_succ, ap22, ap23, ap24, ap25, ap26, ap33, ap34, ap35, ap41, ap49, ap74, g0, g3, g5]
        have n2 := e2.n
        have E2 : Ext σ' (((σ2.new [.int .i64 0, .int .i64 0]).upd σ2.n [.int .i64 (qn (((q % 13 : Nat) : Int) - 3) (1 + ((q / 13 % 4 : Nat) : Int))), .int .i64 (qd (((q % 13 : Nat) : Int) - 3) (1 + ((q / 13 % 4 : Nat) : Int)))]).new [str [110, 117, 109], .int .i64 (qn (((q % 13 : Nat) : Int) - 3) (1 + ((q / 13 % 4 : Nat) : Int))), .int .i64 (qd (((q % 13 : Nat) : Int) - 3) (1 + ((q / 13 % 4 : Nat) : Int))), str [], .slice none 0 0]) := e2.trans (by (repeat' (first | assumption | exact Ext.refl _ | refine Ext.new' ?_ _ | refine Ext.upd ?_ (by (try simp only [bunM]) <;> omega) _ | refine Ext.dead ?_ (by (try simp only [bunM]) <;> omega))))
        refine ev_push_ex (fun _ _ _ _ => ap38) (hs.keep E2) (row_new_same (by simp) (by simp)) (sub_full (by simp) (by simp)) ex0_at (by omega) (Nat.le_trans hE.n E2.n) hH ?_
        rintro s' σ3 hs' hP
        simp (maxSteps := 1000000) (disch := first | omega | ((try simp only [bunN]) <;> omega) | fail) only [↓bunD, bunU, ↓bunFD, bunFU, Nat.reduceMul, Nat.reduceEqDiff, Nat.reduceAdd, Nat.reduceBEq, reduceIte, splice_succ, ap22, ap23, ap24, ap25, ap26, ap33, ap34, ap35, ap41, ap49, ap74, g0, g2, g3, g4, g5]
        refine ⟨by first | trivial | rfl | assumption | omega | (simp only [bunM]; omega) | (simp (disch := first | omega | ((try simp only [bunN]) <;> omega) | fail) only [bunR, ↓get_set, Nat.reduceEqDiff, reduceIte]; first | done | rfl | assumption | omega), s', _, by first | trivial | rfl | assumption | omega | (simp only [bunM]; omega) | (simp (disch := first | omega | ((try simp only [bunN]) <;> omega) | fail) only [bunR, ↓get_set, Nat.reduceEqDiff, reduceIte, g0]; first | done | rfl | assumption | omega), by first | trivial | rfl | assumption | omega | (simp only [bunM]; omega) | (simp (disch := first | omega | ((try simp only [bunN]) <;> omega) | fail) only [bunR, ↓get_set, Nat.reduceEqDiff, reduceIte, g2]; first | done | rfl | assumption | omega), by first | trivial | rfl | assumption | omega | (simp only [bunM]; omega) | (simp (disch := first | omega | ((try simp only [bunN]) <;> omega) | fail) only [bunR, ↓get_set, Nat.reduceEqDiff, reduceIte]; first | done | rfl | assumption | omega), by first | trivial | rfl | assumption | omega | (simp only [bunM]; omega) | (simp (disch := first | omega | ((try simp only [bunN]) <;> omega) | fail) only [bunR, ↓get_set, Nat.reduceEqDiff, reduceIte, g4]; first | done | rfl | assumption | omega), hP.ext (hE.trans E2) (hs.keep E2) (Nat.le_refl _), hs', by omega⟩
    · have p4 : (q : Int).tmod 4 = ((q % 4 : Nat) : Int) := rfl
      have hj : q % 4 < 4 := Nat.mod_lt _ (by omega)
      obtain ⟨nm, hnm⟩ : ∃ nm, sub [str [112,114,105,99,101], str [108,111,119], str [113,117,97,108,105,116,121], str [100,97,121,115]] (q % 4) 1 = some [str nm] := by
        generalize q % 4 = j at hj
        rcases (by omega : j = 0 ∨ j = 1 ∨ j = 2 ∨ j = 3) with rfl | rfl | rfl | rfl <;> exact ⟨_, rfl⟩
      rcases hk0 with rfl | rfl | rfl
      all_goals
        simp (maxSteps := 1000000) (disch := first | omega | ((try simp only [bunN]) <;> omega) | fail) only [↓bunD, bunU, ↓bunFD, bunFU, Nat.reduceMul, Nat.reduceEqDiff, Nat.reduceAdd, Nat.reduceBEq, reduceIte, splice_succ, ap22, ap23, ap24, ap25, ap26, ap33, ap34, ap35, ap41, ap49, ap74, g0, g3, g5, f1, f2, zz]
        refine rnames_ok.mono ?_
        rintro r rfl
        simp (maxSteps := 1000000) (disch := first | omega | ((try simp only [bunN]) <;> omega) | fail) only [↓bunD, bunU, ↓bunFD, bunFU, Nat.reduceMul, Nat.reduceEqDiff, Nat.reduceAdd, Nat.reduceBEq, reduceIte, splice_succ, ap22, ap23, ap24, ap25, ap26, ap33, ap34, ap35, ap41, ap49, ap74, g0, g3, g5, p4, hnm]
        have E2 : Ext σ' ((σ'.new [str [112,114,105,99,101], str [108,111,119], str [113,117,97,108,105,116,121], str [100,97,121,115]]).new [str [110, 97, 109, 101], .int .i64 0, .int .i64 0, str nm, .slice none 0 0]) := by (repeat' (first | assumption | exact Ext.refl _ | refine Ext.new' ?_ _ | refine Ext.upd ?_ (by (try simp only [bunM]) <;> omega) _ | refine Ext.dead ?_ (by (try simp only [bunM]) <;> omega)))
        refine ev_push_ex (fun _ _ _ _ => ap38) (hs.keep E2) (row_new_same (by simp) (by simp)) (sub_full (by simp) (by simp)) ex0_at (by omega) (Nat.le_trans hE.n E2.n) hH ?_
        rintro s' σ3 hs' hP
        simp (maxSteps := 1000000) (disch := first | omega | ((try simp only [bunN]) <;> omega) | fail) only [↓bunD, bunU, ↓bunFD, bunFU, Nat.reduceMul, Nat.reduceEqDiff, Nat.reduceAdd, Nat.reduceBEq, reduceIte, splice_succ, ap22, ap23, ap24, ap25, ap26, ap33, ap34, ap35, ap41, ap49, ap74, g0, g2, g3, g4, g5]
        refine ⟨by first | trivial | rfl | assumption | omega | (simp only [bunM]; omega) | (simp (disch := first | omega | ((try simp only [bunN]) <;> omega) | fail) only [bunR, ↓get_set, Nat.reduceEqDiff, reduceIte]; first | done | rfl | assumption | omega), s', _, by first | trivial | rfl | assumption | omega | (simp only [bunM]; omega) | (simp (disch := first | omega | ((try simp only [bunN]) <;> omega) | fail) only [bunR, ↓get_set, Nat.reduceEqDiff, reduceIte, g0]; first | done | rfl | assumption | omega), by first | trivial | rfl | assumption | omega | (simp only [bunM]; omega) | (simp (disch := first | omega | ((try simp only [bunN]) <;> omega) | fail) only [bunR, ↓get_set, Nat.reduceEqDiff, reduceIte, g2]; first | done | rfl | assumption | omega), by first | trivial | rfl | assumption | omega | (simp only [bunM]; omega) | (simp (disch := first | omega | ((try simp only [bunN]) <;> omega) | fail) only [bunR, ↓get_set, Nat.reduceEqDiff, reduceIte]; first | done | rfl | assumption | omega), by first | trivial | rfl | assumption | omega | (simp only [bunM]; omega) | (simp (disch := first | omega | ((try simp only [bunN]) <;> omega) | fail) only [bunR, ↓get_set, Nat.reduceEqDiff, reduceIte, g4]; first | done | rfl | assumption | omega), hP.ext (hE.trans E2) (hs.keep E2) (Nat.le_refl _), hs', by omega⟩
    · have z0 : decide ((d : Int) = 0) = false := by rw [decide_eq_false_iff_not]; omega
      have z1 : decide ((d : Int) = 1) = false := by rw [decide_eq_false_iff_not]; omega
      have z2 : decide ((d : Int) = 2) = false := by rw [decide_eq_false_iff_not]; omega
      have z3 : decide ((d : Int) = 3) = false := by rw [decide_eq_false_iff_not]; omega
      have z4 : decide ((d : Int) = 4) = false := by rw [decide_eq_false_iff_not]; omega
      by_cases hn1 : 1 < n
      · have hb1 : decide (1 < (n : Int)) = true := by rw [decide_eq_true_iff]; omega
        obtain ⟨sb, sc, scs, ra, ea, rfl, t1, t2, t3, t4, t5, t6⟩ := hs.get (k := n - 2) (by omega)
        obtain ⟨sb', sc', scs', rb, eb, ht, t1', t2', t3', t4', t5', t6'⟩ := hs.get (k := n - 1) (by omega)
        cases ht
        rw [t4] at t4'; cases t4'
        have m2 : (n : Int) - 2 = ((n - 2 : Nat) : Int) := by omega
        have m1 : (n : Int) - 1 = ((n - 1 : Nat) : Int) := by omega
        have t7 := row_of t4
        have la := t6.len
        have lb := t6'.len
        obtain ⟨x1, x2, x3, x4, x5, rfl⟩ := five la
        obtain ⟨y1, y2, y3, y4, y5, rfl⟩ := five lb
        have g4' : fr.get 4 = some (.slice (some ⟨σ.n + 1, 0, none⟩) 6 6) := g4
        have en := hE.n
        simp only [new_n] at en t2
        have r4 : σ'.row (σ.n + 1) = some (opsL.map str) := by rw [hE.row (by first | trivial | rfl | assumption | omega | (simp only [bunM]; omega) | (simp (disch := first | omega | ((try simp only [bunN]) <;> omega) | fail) only [bunR]; first | done | rfl | assumption | omega))]; first | trivial | rfl | assumption | omega | (simp only [bunM]; omega) | (simp (disch := first | omega | ((try simp only [bunN]) <;> omega) | fail) only [bunR]; first | done | rfl | assumption | omega)
        have p6 : (q : Int).tmod 6 = ((q % 6 : Nat) : Int) := rfl
        have hj : q % 6 < 6 := Nat.mod_lt _ (by omega)
        obtain ⟨nm, hnm⟩ : ∃ nm, sub (opsL.map str) (q % 6) 1 = some [str nm] := by
          generalize q % 6 = j at hj
          rcases (by omega : j = 0 ∨ j = 1 ∨ j = 2 ∨ j = 3 ∨ j = 4 ∨ j = 5) with rfl | rfl | rfl | rfl | rfl | rfl <;> exact ⟨_, rfl⟩
        simp (maxSteps := 1000000) (disch := first | omega | ((try simp only [bunN]) <;> omega) | fail) only [↓bunD, bunU, ↓bunFD, bunFU, Nat.reduceMul, Nat.reduceEqDiff, Nat.reduceAdd, Nat.reduceBEq, reduceIte, splice_succ, ap22, ap23, ap24, ap25, ap26, ap33, ap34, ap35, ap41, ap49, ap74, g0, g3, g4', g5, f1, f2, z0, z1, z2, z3, z4, hb1, m1, m2, t7, t5, t5', r4, p6, hnm, Option.isNone_none, Nat.sub_zero]
        have E2 : Ext σ' ((((((σ'.new [str [], .int .i64 0, .int .i64 0, str [], .slice none 0 0]).upd σ'.n [x1, x2, x3, x4, x5]).new [str [], .int .i64 0, .int .i64 0, str [], .slice none 0 0]).upd (σ'.n + 1) [y1, y2, y3, y4, y5]).new [x1, x2, x3, x4, x5, y1, y2, y3, y4, y5]).new
          [str nm, .int .i64 0, .int .i64 0, str [], .slice (some ⟨σ'.n + 1 + 1, 0, none⟩) 2 2]) := by (repeat' (first | assumption | exact Ext.refl _ | refine Ext.new' ?_ _ | refine Ext.upd ?_ (by (try simp only [bunM]) <;> omega) _ | refine Ext.dead ?_ (by (try simp only [bunM]) <;> omega)))
        have hs2 := (hs.cut (m := n - 2) (by omega)).keep E2
        have kd := keep_ext (l := sb :: (((σ.new [str [], .int .i64 0, .int .i64 0, str [], .slice none 0 0]).new (opsL.map str)).n - 2) :: H) E2
        refine ev_push_ex (fun _ _ _ _ => ap38) hs2 (row_new_same (by simp) (by simp)) (sub_full (by simp) (by simp)) (ex2_at (x := ea) (y := eb) (ra := [x1, x2, x3, x4, x5]) (rb := [y1, y2, y3, y4, y5]) (cells := [x1, x2, x3, x4, x5, y1, y2, y3, y4, y5]) (by rw [hide_n]; simp) (by rw [hide_row (by intro hm; have := hm; simp only [blks, blkOf, Option.toList, List.singleton_append, List.mem_cons, new_n] at this; rcases this with h | h | h <;> first | omega | (have := hH0 _ h; omega))]; first | trivial | rfl | assumption | omega | (simp only [bunM]; omega) | (simp (disch := first | omega | ((try simp only [bunN]) <;> omega) | fail) only [bunR]; first | done | rfl | assumption | omega)) rfl (t6.keep kd) (t6'.keep kd)) (by omega) (Nat.le_trans hE.n E2.n) hH ?_
        rintro s' σ3 hs' hP
        simp (maxSteps := 1000000) (disch := first | omega | ((try simp only [bunN]) <;> omega) | fail) only [↓bunD, bunU, ↓bunFD, bunFU, Nat.reduceMul, Nat.reduceEqDiff, Nat.reduceAdd, Nat.reduceBEq, reduceIte, splice_succ, ap22, ap23, ap24, ap25, ap26, ap33, ap34, ap35, ap41, ap49, ap74, g0, g2, g3, g4, g5]
        refine Must.intro (by rw [as_ord (by kernel_rfl), as_ord (by kernel_rfl), as_ord (by kernel_rfl)]; rfl) ?_
        simp (maxSteps := 1000000) (disch := first | omega | ((try simp only [bunN]) <;> omega) | fail) only [↓bunD, bunU, ↓bunFD, bunFU, Nat.reduceMul, Nat.reduceEqDiff, Nat.reduceAdd, Nat.reduceBEq, reduceIte, splice_succ, ap22, ap23, ap24, ap25, ap26, ap33, ap34, ap35, ap41, ap49, ap74, g0, g2, g3, g4, g5]
        exact ⟨by first | trivial | rfl | assumption | omega | (simp only [bunM]; omega) | (simp (disch := first | omega | ((try simp only [bunN]) <;> omega) | fail) only [bunR, ↓get_set, Nat.reduceEqDiff, reduceIte]; first | done | rfl | assumption | omega), s', _, by first | trivial | rfl | assumption | omega | (simp only [bunM]; omega) | (simp (disch := first | omega | ((try simp only [bunN]) <;> omega) | fail) only [bunR, ↓get_set, Nat.reduceEqDiff, reduceIte, g0]; first | done | rfl | assumption | omega), by first | trivial | rfl | assumption | omega | (simp only [bunM]; omega) | (simp (disch := first | omega | ((try simp only [bunN]) <;> omega) | fail) only [bunR, ↓get_set, Nat.reduceEqDiff, reduceIte, g2]; first | done | rfl | assumption | omega), by first | trivial | rfl | assumption | omega | (simp only [bunM]; omega) | (simp (disch := first | omega | ((try simp only [bunN]) <;> omega) | fail) only [bunR, ↓get_set, Nat.reduceEqDiff, reduceIte]; first | done | rfl | assumption | omega), by first | trivial | rfl | assumption | omega | (simp only [bunM]; omega) | (simp (disch := first | omega | ((try simp only [bunN]) <;> omega) | fail) only [bunR, ↓get_set, Nat.reduceEqDiff, reduceIte, g4]; first | done | rfl | assumption | omega), hP.ext (hE.trans E2) hs2 (Nat.le_refl _), hs', by omega⟩
      · have hb1 : decide (1 < (n : Int)) = false := by rw [decide_eq_false_iff_not]; omega
        obtain ⟨sa, sc, rfl⟩ := hs.shape
        simp (maxSteps := 1000000) (disch := first | omega | ((try simp only [bunN]) <;> omega) | fail) only [↓bunD, bunU, ↓bunFD, bunFU, Nat.reduceMul, Nat.reduceEqDiff, Nat.reduceAdd, Nat.reduceBEq, reduceIte, splice_succ, ap22, ap23, ap24, ap25, ap26, ap33, ap34, ap35, ap41, ap49, ap74, g0, g3, g5, f1, f2, z0, z1, z2, z3, z4, hb1]
        exact ⟨by first | trivial | rfl | assumption | omega | (simp only [bunM]; omega) | (simp (disch := first | omega | ((try simp only [bunN]) <;> omega) | fail) only [bunR, ↓get_set, Nat.reduceEqDiff, reduceIte]; first | done | rfl | assumption | omega), _, n, by first | trivial | rfl | assumption | omega | (simp only [bunM]; omega) | (simp (disch := first | omega | ((try simp only [bunN]) <;> omega) | fail) only [bunR, ↓get_set, Nat.reduceEqDiff, reduceIte, g0]; first | done | rfl | assumption | omega), by first | trivial | rfl | assumption | omega | (simp only [bunM]; omega) | (simp (disch := first | omega | ((try simp only [bunN]) <;> omega) | fail) only [bunR, ↓get_set, Nat.reduceEqDiff, reduceIte, g2]; first | done | rfl | assumption | omega), by first | trivial | rfl | assumption | omega | (simp only [bunM]; omega) | (simp (disch := first | omega | ((try simp only [bunN]) <;> omega) | fail) only [bunR, ↓get_set, Nat.reduceEqDiff, reduceIte, g3]; first | done | rfl | assumption | omega), by first | trivial | rfl | assumption | omega | (simp only [bunM]; omega) | (simp (disch := first | omega | ((try simp only [bunN]) <;> omega) | fail) only [bunR, ↓get_set, Nat.reduceEqDiff, reduceIte, g4]; first | done | rfl | assumption | omega), hE, hs, by omega⟩
  · rintro fr σ' ⟨g5, s, n, g0, g2, g3, g4, hE, hs, hn⟩
    by_cases hk1 : l.length ≤ 80
    · have e1 : min l.length 80 = l.length := by omega
      rw [e1] at g5 hn
      simp (maxSteps := 1000000) (disch := first | omega | ((try simp only [bunN]) <;> omega) | fail) only [↓bunD, bunU, ↓bunFD, bunFU, Nat.reduceMul, Nat.reduceEqDiff, Nat.reduceAdd, Nat.reduceBEq, reduceIte, splice_succ, ap22, ap23, ap24, ap25, ap26, ap33, ap34, ap35, ap41, ap49, ap74, g0, g3, g5, yu_t, yu_f]
      exact ⟨_, _, rfl, s, n, by first | trivial | rfl | assumption | omega | (simp only [bunM]; omega) | (simp (disch := first | omega | ((try simp only [bunN]) <;> omega) | fail) only [bunR, ↓get_set, Nat.reduceEqDiff, reduceIte, g0]; first | done | rfl | assumption | omega), by first | trivial | rfl | assumption | omega | (simp only [bunM]; omega) | (simp (disch := first | omega | ((try simp only [bunN]) <;> omega) | fail) only [bunR, ↓get_set, Nat.reduceEqDiff, reduceIte, g2]; first | done | rfl | assumption | omega), by first | trivial | rfl | assumption | omega | (simp only [bunM]; omega) | (simp (disch := first | omega | ((try simp only [bunN]) <;> omega) | fail) only [bunR, ↓get_set, Nat.reduceEqDiff, reduceIte, g3]; first | done | rfl | assumption | omega), by first | trivial | rfl | assumption | omega | (simp only [bunM]; omega) | (simp (disch := first | omega | ((try simp only [bunN]) <;> omega) | fail) only [bunR, ↓get_set, Nat.reduceEqDiff, reduceIte, g4]; first | done | rfl | assumption | omega), hE, hs, by omega⟩
    · have e1 : min l.length 80 = 80 := by omega
      rw [e1] at g5 hn
      have hc1 : decide (80 < l.length) = true := by simpa using (by omega : 80 < l.length)
      have hc2 : decide (((80 : Nat) : Int) < 80) = false := by decide
      simp (maxSteps := 1000000) (disch := first | omega | ((try simp only [bunN]) <;> omega) | fail) only [↓bunD, bunU, ↓bunFD, bunFU, Nat.reduceMul, Nat.reduceEqDiff, Nat.reduceAdd, Nat.reduceBEq, reduceIte, splice_succ, ap22, ap23, ap24, ap25, ap26, ap33, ap34, ap35, ap41, ap49, ap74, g0, g3, g5, hc1, hc2, yu_t, yu_f]
      exact ⟨_, _, rfl, s, n, by first | trivial | rfl | assumption | omega | (simp only [bunM]; omega) | (simp (disch := first | omega | ((try simp only [bunN]) <;> omega) | fail) only [bunR, ↓get_set, Nat.reduceEqDiff, reduceIte, g0]; first | done | rfl | assumption | omega), by first | trivial | rfl | assumption | omega | (simp only [bunM]; omega) | (simp (disch := first | omega | ((try simp only [bunN]) <;> omega) | fail) only [bunR, ↓get_set, Nat.reduceEqDiff, reduceIte, g2]; first | done | rfl | assumption | omega), by first | trivial | rfl | assumption | omega | (simp only [bunM]; omega) | (simp (disch := first | omega | ((try simp only [bunN]) <;> omega) | fail) only [bunR, ↓get_set, Nat.reduceEqDiff, reduceIte, g3]; first | done | rfl | assumption | omega), by first | trivial | rfl | assumption | omega | (simp only [bunM]; omega) | (simp (disch := first | omega | ((try simp only [bunN]) <;> omega) | fail) only [bunR, ↓get_set, Nat.reduceEqDiff, reduceIte, g4]; first | done | rfl | assumption | omega), hE, hs, by omega⟩
  rintro r ⟨fr, σ3, rfl, s, n, g0, g2, g3, g4, hE, hs, hn⟩
  have g2' : fr.get 2 = some (.pointer (some ⟨σ.n, 0, none⟩)) := g2
  have en := hE.n
  simp only [new_n] at en
  have hE0 : Ext σ σ3 := Ext.trans (by (repeat' (first | assumption | exact Ext.refl _ | refine Ext.new' ?_ _ | refine Ext.upd ?_ (by (try simp only [bunM]) <;> omega) _ | refine Ext.dead ?_ (by (try simp only [bunM]) <;> omega)))) hE
  have o3 : σ3.orow σ.n = some [str [], .int .i64 0, .int .i64 0, str [], .slice none 0 0] := by rw [hE.orow (by first | trivial | rfl | assumption | omega | (simp only [bunM]; omega) | (simp (disch := first | omega | ((try simp only [bunN]) <;> omega) | fail) only [bunR]; first | done | rfl | assumption | omega))]; first | trivial | rfl | assumption | omega | (simp only [bunM]; omega) | (simp (disch := first | omega | ((try simp only [bunN]) <;> omega) | fail) only [bunR]; first | done | rfl | assumption | omega)
  by_cases hn0 : n = 0
  · subst hn0
    obtain ⟨sa, sc, rfl⟩ := hs.shape
    have z0 : decide (((0 : Nat) : Int) = 0) = true := by decide
    simp (maxSteps := 1000000) (disch := first | omega | ((try simp only [bunN]) <;> omega) | fail) only [↓bunD, bunU, ↓bunFD, bunFU, Nat.reduceMul, Nat.reduceEqDiff, Nat.reduceAdd, Nat.reduceBEq, reduceIte, splice_succ, ap22, ap23, ap24, ap25, ap26, ap33, ap34, ap35, ap41, ap49, ap74, g2', g3, z0, o3, Tryz.results57]
    exact ⟨_, _, _, rfl, by (repeat' (first | assumption | exact Ext.refl _ | refine Ext.new' ?_ _ | refine Ext.upd ?_ (by (try simp only [bunM]) <;> omega) _ | refine Ext.dead ?_ (by (try simp only [bunM]) <;> omega))), ex0_at⟩
  · have z0 : decide ((n : Int) = 0) = false := by rw [decide_eq_false_iff_not]; omega
    obtain ⟨sb, sc, scs, ra, ea, rfl, t1, t2, t3, t4, t5, t6⟩ := hs.get (k := 0) (by omega)
    have t7 := row_of t4
    have la := t6.len
    simp only [new_n] at t2
    obtain ⟨x1, x2, x3, x4, x5, rfl⟩ := five la
    rw [Nat.zero_mul] at t5
    simp (maxSteps := 1000000) (disch := first | omega | ((try simp only [bunN]) <;> omega) | fail) only [↓bunD, bunU, ↓bunFD, bunFU, Nat.reduceMul, Nat.reduceEqDiff, Nat.reduceAdd, Nat.reduceBEq, reduceIte, splice_succ, ap22, ap23, ap24, ap25, ap26, ap33, ap34, ap35, ap41, ap49, ap74, g2', g3, z0, t7, t5]
    have hm2 : ∀ c, c < σ3.n → c ∉ (sb :: σ.n :: H) → c ∉ (sb :: σ3.n :: σ.n :: H) := fun c hc hm hm' => by
      rcases List.mem_cons.1 hm' with rfl | hm'
      · exact hm (by simp)
      rcases List.mem_cons.1 hm' with rfl | hm'
      · omega
      · exact hm (List.mem_cons_of_mem _ hm')
    refine ev_count (n - 1) (fun k fr σ' => fr.get 13 = some (.int .i64 ((k + 1 : Nat) : Int)) ∧ fr.get 2 = some (.pointer (some ⟨σ.n, 0, none⟩)) ∧ fr.get 3 = some (.slice (some ⟨sb, 0, some 5⟩) n sc) ∧ fr.get 12 = some (.pointer (some ⟨σ3.n, 0, none⟩)) ∧ Ext σ3 σ' ∧ σ3.n < σ'.n ∧ ∃ row e, σ'.orow σ3.n = some row ∧ ExAt (hide σ' (sb :: σ3.n :: σ.n :: H)) row e)
      (fun r => ∃ fr σ' row e, r = ⟨.exit 3, fr, σ'⟩ ∧ fr.get 2 = some (.pointer (some ⟨σ.n, 0, none⟩)) ∧ fr.get 12 = some (.pointer (some ⟨σ3.n, 0, none⟩)) ∧ Ext σ3 σ' ∧ σ3.n < σ'.n ∧ σ'.orow σ3.n = some row ∧ ExAt (hide σ' (sb :: σ3.n :: σ.n :: H)) row e) ?_ ?_ ?_ ?_
    · exact ⟨by first | trivial | rfl | assumption | omega | (simp only [bunM]; omega) | (simp (disch := first | omega | ((try simp only [bunN]) <;> omega) | fail) only [bunR, ↓get_set, Nat.reduceEqDiff, reduceIte]; first | done | rfl | assumption | omega), by first | trivial | rfl | assumption | omega | (simp only [bunM]; omega) | (simp (disch := first | omega | ((try simp only [bunN]) <;> omega) | fail) only [bunR, ↓get_set, Nat.reduceEqDiff, reduceIte, g2']; first | done | rfl | assumption | omega), by first | trivial | rfl | assumption | omega | (simp only [bunM]; omega) | (simp (disch := first | omega | ((try simp only [bunN]) <;> omega) | fail) only [bunR, ↓get_set, Nat.reduceEqDiff, reduceIte, g3]; first | done | rfl | assumption | omega), by first | trivial | rfl | assumption | omega | (simp only [bunM]; omega) | (simp (disch := first | omega | ((try simp only [bunN]) <;> omega) | fail) only [bunR, ↓get_set, Nat.reduceEqDiff, reduceIte]; first | done | rfl | assumption | omega), by (repeat' (first | assumption | exact Ext.refl _ | refine Ext.new' ?_ _ | refine Ext.upd ?_ (by (try simp only [bunM]) <;> omega) _ | refine Ext.dead ?_ (by (try simp only [bunM]) <;> omega))), by simp, _, ea, orow_upd_same, t6.keep (keep_hide (by simp) fun c hc hm => ⟨hm2 c hc hm, by rw [row_upd_ne (by omega), row_new_ne (by omega)]⟩)⟩
    · rintro k fr σ' hk ⟨g13, g2, g3, g12, hE3, hp, row, e, hr, hx⟩
      have hc1 : decide (((k + 1 : Nat) : Int) < (n : Int)) = true := by rw [decide_eq_true_iff]; omega
      obtain ⟨sb', sc', scs', rb, eb, ht, u1, u2, u3, u4, u5, u6⟩ := hs.get (k := k + 1) (by omega)
      cases ht
      have u7 := row_of (show σ'.orow sb = some scs' by rw [hE3.orow u3]; exact u4)
      have hr' := row_of hr
      have lr := hx.len
      have lb := u6.len
      obtain ⟨y1, y2, y3, y4, y5, rfl⟩ := five lr
      obtain ⟨w1, w2, w3, w4, w5, rfl⟩ := five lb
      have en3 := hE3.n
      simp (maxSteps := 1000000) (disch := first | omega | ((try simp only [bunN]) <;> omega) | fail) only [↓bunD, bunU, ↓bunFD, bunFU, Nat.reduceMul, Nat.reduceEqDiff, Nat.reduceAdd, Nat.reduceBEq, reduceIte, splice_succ, ap22, ap23, ap24, ap25, ap26, ap33, ap34, ap35, ap41, ap49, ap74, g13, g3, g12, hc1, u7, u5, hr, hr']
      refine Must.intro (by rw [as_ord (by kernel_rfl), as_ord (by kernel_rfl)]; rfl) ?_
      simp (maxSteps := 1000000) (disch := first | omega | ((try simp only [bunN]) <;> omega) | fail) only [↓bunD, bunU, ↓bunFD, bunFU, Nat.reduceMul, Nat.reduceEqDiff, Nat.reduceAdd, Nat.reduceBEq, reduceIte, splice_succ, ap22, ap23, ap24, ap25, ap26, ap33, ap34, ap35, ap41, ap49, ap74, g13, g3, g12]
      have en4 : σ3.n < σ'.n := hp
      have hk2 : Keep (hide σ' (sb :: σ3.n :: σ.n :: H)) (hide ((σ'.new [y1, y2, y3, y4, y5, w1, w2, w3, w4, w5]).upd σ3.n [str [43], .int .i64 0, .int .i64 0, str [], .slice (some ⟨σ'.n, 0, none⟩) 2 2]) (sb :: σ3.n :: σ.n :: H)) := keep_hide (by simp) fun c hc hm => ⟨hm, by rw [row_upd_ne (fun e => hm (by simp [e])), row_new_ne (by omega)]⟩
      have hk3 : Keep (hide σ3 (sb :: σ.n :: H)) (hide σ' (sb :: σ3.n :: σ.n :: H)) := keep_hide hE3.n fun c hc hm => ⟨hm2 c hc hm, hE3.row hc⟩
      refine ⟨by first | trivial | rfl | assumption | omega | (simp only [bunM]; omega) | (simp (disch := first | omega | ((try simp only [bunN]) <;> omega) | fail) only [bunR, ↓get_set, Nat.reduceEqDiff, reduceIte]; first | done | rfl | assumption | omega), by first | trivial | rfl | assumption | omega | (simp only [bunM]; omega) | (simp (disch := first | omega | ((try simp only [bunN]) <;> omega) | fail) only [bunR, ↓get_set, Nat.reduceEqDiff, reduceIte, g2]; first | done | rfl | assumption | omega), by first | trivial | rfl | assumption | omega | (simp only [bunM]; omega) | (simp (disch := first | omega | ((try simp only [bunN]) <;> omega) | fail) only [bunR, ↓get_set, Nat.reduceEqDiff, reduceIte, g3]; first | done | rfl | assumption | omega), by first | trivial | rfl | assumption | omega | (simp only [bunM]; omega) | (simp (disch := first | omega | ((try simp only [bunN]) <;> omega) | fail) only [bunR, ↓get_set, Nat.reduceEqDiff, reduceIte, g12]; first | done | rfl | assumption | omega), by (repeat' (first | assumption | exact Ext.refl _ | refine Ext.new' ?_ _ | refine Ext.upd ?_ (by (try simp only [bunM]) <;> omega) _ | refine Ext.dead ?_ (by (try simp only [bunM]) <;> omega))), by first | trivial | rfl | assumption | omega | (simp only [bunM]; omega) | (simp (disch := first | omega | ((try simp only [bunN]) <;> omega) | fail) only [bunR]; first | done | rfl | assumption | omega), _, _, rfl, ex2_at (x := e) (y := eb) (ra := [y1, y2, y3, y4, y5]) (rb := [w1, w2, w3, w4, w5]) (cells := [y1, y2, y3, y4, y5, w1, w2, w3, w4, w5]) ?_ ?_ rfl (hx.keep hk2) ((u6.keep hk3).keep hk2)⟩
      · rw [hide_n]; simp
      · rw [hide_row (by intro hm; simp only [List.mem_cons] at hm; rcases hm with h | h | h | h <;> first | omega | (have := hH0 _ h; omega))]; first | trivial | rfl | assumption | omega | (simp only [bunM]; omega) | (simp (disch := first | omega | ((try simp only [bunN]) <;> omega) | fail) only [bunR]; first | done | rfl | assumption | omega)
    · rintro fr σ' ⟨g13, g2, g3, g12, hE3, hp, row, e, hr, hx⟩
      have hc1 : decide (((n - 1 + 1 : Nat) : Int) < (n : Int)) = false := by rw [decide_eq_false_iff_not]; omega
      simp (maxSteps := 1000000) (disch := first | omega | ((try simp only [bunN]) <;> omega) | fail) only [↓bunD, bunU, ↓bunFD, bunFU, Nat.reduceMul, Nat.reduceEqDiff, Nat.reduceAdd, Nat.reduceBEq, reduceIte, splice_succ, ap22, ap23, ap24, ap25, ap26, ap33, ap34, ap35, ap41, ap49, ap74, g13, g3, g12, hc1]
      exact ⟨_, _, _, e, rfl, by first | trivial | rfl | assumption | omega | (simp only [bunM]; omega) | (simp (disch := first | omega | ((try simp only [bunN]) <;> omega) | fail) only [bunR, ↓get_set, Nat.reduceEqDiff, reduceIte, g2]; first | done | rfl | assumption | omega), by first | trivial | rfl | assumption | omega | (simp only [bunM]; omega) | (simp (disch := first | omega | ((try simp only [bunN]) <;> omega) | fail) only [bunR, ↓get_set, Nat.reduceEqDiff, reduceIte, g12]; first | done | rfl | assumption | omega), hE3, hp, hr, hx⟩
    rintro r ⟨fr, σ4, row, e, rfl, g2, g12, hE3, hp, hr, hx⟩
    have lr := hx.len
    obtain ⟨y1, y2, y3, y4, y5, rfl⟩ := five lr
    have hr' := row_of hr
    have o4 : σ4.orow σ.n = some [str [], .int .i64 0, .int .i64 0, str [], .slice none 0 0] := by rw [hE3.orow (by omega)]; exact o3
    simp (maxSteps := 1000000) (disch := first | omega | ((try simp only [bunN]) <;> omega) | fail) only [↓bunD, bunU, ↓bunFD, bunFU, Nat.reduceMul, Nat.reduceEqDiff, Nat.reduceAdd, Nat.reduceBEq, reduceIte, splice_succ, ap22, ap23, ap24, ap25, ap26, ap33, ap34, ap35, ap41, ap49, ap74, g2, g12, hr', o4, Tryz.results57]
    have hE4 : Ext σ σ4 := hE0.trans hE3
    exact ⟨_, _, _, rfl, by (repeat' (first | assumption | exact Ext.refl _ | refine Ext.new' ?_ _ | refine Ext.upd ?_ (by (try simp only [bunM]) <;> omega) _ | refine Ext.dead ?_ (by (try simp only [bunM]) <;> omega))), hx.keep (keep_hide (by simp) fun c hc hm => ⟨fun h => hm (by simp [h]), row_upd_ne fun e => hm (by simp [e])⟩)⟩
end Go.Proofs.G
