/- A part of the proof: a walk of some functions. -/
import Derived.Test.YtcjkjjnnicadfaaGreatDoorGA
import Derived.Test.YtcjkjjnnicadfaaGreatDoorGC
import Derived.Test.YtcjkjjnnicadfaaGreatDoorGE
import Derived.Test.YtcjkjjnnicadfaaGreatDoorGB
set_option linter.unusedSimpArgs false
set_option linter.unusedVariables false
namespace Go.Proofs.G
open Go Go.Ab
open Nat (reduceMul reduceEqDiff reduceAdd)
set_option maxRecDepth 100000
def qn (n d : Int) : Int := (if d < 0 then -n else n) / (Int.gcd n d : Nat)
def qd (n d : Int) : Int := (if d < 0 then -d else d) / (Int.gcd n d : Nat)
theorem gcd_step {a b : Nat} : Nat.gcd b (a % b) = Nat.gcd a b := by
 rw [Nat.gcd_comm b, ← Nat.gcd_rec, Nat.gcd_comm]
def Lim (n : Int) : Prop := -4000000000000000000 ≤ n ∧ n ≤ 4000000000000000000
theorem tmod_nat {a b : Nat} : (a : Int).tmod (b : Int) = ((a % b : Nat) : Int) := rfl
theorem tdiv_gcd {n : Int} {g : Nat} (h : (g : Int) ∣ n) : n.tdiv g = n / g := Int.tdiv_eq_ediv_of_dvd h
theorem quick_ok {σ : St} {n d : Int} (h1 : Lim n) (h2 : Lim d) (h3 : d ≠ 0) :
  Ev (go Tryz.prog HS (.fn 120) [.int .i64 n, .int .i64 d] σ) (fun r => ∃ σ', r = ⟨false, .agg ⟨[.int .i64 (qn n d), .int .i64 (qd n d)]⟩, σ'⟩ ∧ Ext σ σ') ⟨⟩ := by
 obtain ⟨a1, a2⟩ := h1
 obtain ⟨b1, b2⟩ := h2
 obtain ⟨N, hN⟩ : ∃ N, (if d < 0 then -n else n) = N := ⟨_, rfl⟩
 obtain ⟨D, hD⟩ : ∃ D, (if d < 0 then -d else d) = D := ⟨_, rfl⟩
 have hgcd : Int.gcd n d = Nat.gcd N.natAbs D.natAbs := by
  have h1 : N.natAbs = n.natAbs := by rw [← hN]; split <;> omega
  have h2 : D.natAbs = d.natAbs := by rw [← hD]; split <;> omega
  unfold Int.gcd; rw [h1, h2]
 have hDp : 0 < D := by rw [← hD]; split <;> omega
 have hDl : D ≤ 4000000000000000000 := by rw [← hD]; split <;> omega
 have hNl : -4000000000000000000 ≤ N ∧ N ≤ 4000000000000000000 := by rw [← hN]; split <;> omega
 have e3 : IntKind.i64.wrap (0 - N) = -N := by rw [wrap64_in (by omega) (by omega)]; omega
 have hmx : max N (-N) = (N.natAbs : Int) := by omega
 have hDn : D = (D.natAbs : Int) := by omega
 have hq1 : qn n d = N / (Nat.gcd N.natAbs D.natAbs : Nat) := by unfold qn; rw [hN, hgcd]
 have hq2 : qd n d = D / (Nat.gcd N.natAbs D.natAbs : Nat) := by unfold qd; rw [hD, hgcd]
 rw [hq1, hq2]
 have hg0 : Nat.gcd N.natAbs D.natAbs ≠ 0 := fun h => by have := Nat.eq_zero_of_gcd_eq_zero_right h; omega
 have hgN : ((Nat.gcd N.natAbs D.natAbs : Nat) : Int) ∣ N := Int.ofNat_dvd_left.2 (Nat.gcd_dvd_left _ _)
 have hgD : ((Nat.gcd N.natAbs D.natAbs : Nat) : Int) ∣ D := Int.ofNat_dvd_left.2 (Nat.gcd_dvd_right _ _)
 obtain ⟨g, hg⟩ : ∃ g, Nat.gcd N.natAbs D.natAbs = g := ⟨_, rfl⟩
 rw [hg] at hg0 hgN hgD ⊢
 have hgi : (g : Int) ≠ 0 := by omega
 have c1 : N.tdiv g = N / g := tdiv_gcd hgN
 have c2 : D.tdiv g = D / g := tdiv_gcd hgD
 have hb1 : -4000000000000000000 ≤ N / (g : Int) ∧ N / (g : Int) ≤ 4000000000000000000 := by
  obtain ⟨k, hk⟩ := hgN
  rw [hk, Int.mul_ediv_cancel_left _ hgi]
  have hg1 : 1 ≤ (g : Int) := by omega
  constructor
  ·rcases Int.le_total 0 k with h | h
   ·omega
   ·have := Int.mul_le_mul_of_nonpos_right hg1 h; omega
  ·rcases Int.le_total 0 k with h | h
   ·have := Int.mul_le_mul_of_nonneg_right hg1 h; omega
   ·omega
 have hb2 : 0 ≤ D / (g : Int) ∧ D / (g : Int) ≤ 4000000000000000000 := by
  refine ⟨Int.ediv_nonneg (by omega) (by omega), Int.le_trans (Int.ediv_le_self _ (by omega)) hDl⟩
 have w1 : IntKind.i64.wrap (N / (g : Int)) = N / (g : Int) := wrap64_in (by omega) (by omega)
 have w2 : IntKind.i64.wrap (D / (g : Int)) = D / (g : Int) := wrap64_in (by omega) (by omega)
 refine ev_go Tryz.func120 rfl rfl ?_
 have hcases : (decide (d < 0) = true ∧ IntKind.i64.wrap (0 - n) = N ∧ IntKind.i64.wrap (0 - d) = D) ∨ (decide (D < 0) = false ∧ n = N ∧ d = D) := by
  by_cases hd : d < 0
  ·rw [if_pos hd] at hN hD
   exact .inl ⟨by simpa using hd, by rw [wrap64_in (by omega) (by omega)]; omega, by rw [wrap64_in (by omega) (by omega)]; omega⟩
  ·rw [if_neg hd] at hN hD
   exact .inr ⟨by rw [← hD]; simpa using hd, hN, hD⟩
 clear hN hD hgcd hq1 hq2
 rcases hcases with ⟨hc, e1, e2⟩ | ⟨hc, e1, e2⟩
 all_goals
  refine gS1 (And.intro @hc (And.intro @e1 (And.intro @e2 (And.intro @e3 @hmx)))) ?_;try exact ⟨⟩
  refine ev_loop (fun m fr σ' => ∃ a : Nat, fr.get 0 = some (.int .i64 N) ∧ fr.get 1 = some (.int .i64 D) ∧ fr.get 4 = some (.pointer (some ⟨σ.n, 0, none⟩)) ∧ fr.get 5 = some (.int .i64 (a : Int)) ∧ fr.get 6 = some (.int .i64 (m : Int)) ∧ σ' = σ.new [.int .i64 0, .int .i64 0] ∧ Nat.gcd a m = g)
   (fun r => ∃ fr, r = ⟨.exit 0, fr, σ.new [.int .i64 0, .int .i64 0]⟩ ∧ fr.get 0 = some (.int .i64 N) ∧ fr.get 1 = some (.int .i64 D) ∧ fr.get 4 = some (.pointer (some ⟨σ.n, 0, none⟩)) ∧ fr.get 5 = some (.int .i64 (g : Int))) D.natAbs ?_ ?_ ?_
  ·exact ⟨N.natAbs, fR1 (And.intro e1 e2), fR1 (And.intro e1 e2), fR1 (And.intro e1 e2), fR1 (And.intro e1 e2), by rw [← hDn]; exact fR1 (And.intro e1 e2), rfl, hg⟩
  ·rintro m fr σ' ⟨a, g0, g1, g4, g5, g6, rfl, hgc⟩
   by_cases hm : 0 < m
   ·have hc' : decide ((0 : Int) < (m : Int)) = true := by simpa using hm
    have hm0 : (m : Int) ≠ 0 := by omega
    refine gS1 (And.intro @g0 (And.intro @g1 (And.intro @g4 (And.intro @g5 (And.intro @g6 (And.intro @hc' (And.intro @tmod_nat @lp_normal))))))) ?_;try exact ⟨⟩
    refine ⟨a % m, Nat.mod_lt _ hm, m, fR1 g0, fR1 g1, fR1 g4, fR, fR, by trivial, by rw [gcd_step]; exact hgc⟩
   ·obtain rfl : m = 0 := by omega
    have hc' : decide ((0 : Int) < ((0 : Nat) : Int)) = false := by decide
    rw [Nat.gcd_zero_right] at hgc
    subst hgc
    refine gS1 (And.intro @g0 (And.intro @g1 (And.intro @g4 (And.intro @g5 (And.intro @g6 (And.intro @hc' @lp_exit)))))) ?_;try exact ⟨⟩
    exact ⟨_, rfl, fR1 g0, fR1 g1, fR1 g4, fR1 g5⟩
  ·rintro r ⟨fr, rfl, g0, g1, g4, g5⟩
   refine gS1 (And.intro @g0 (And.intro @g1 (And.intro @g4 (And.intro @g5 (And.intro @c1 (And.intro @c2 (And.intro @w1 (And.intro @w2 @Tryz.results120)))))))) ?_;try exact ⟨⟩
   exact ⟨_, rfl, eX⟩
end Go.Proofs.G
namespace Go.Proofs.G
open Go Go.Ab
open Nat (reduceMul reduceEqDiff reduceAdd)
set_option maxRecDepth 100000
theorem small_ok {σ : St} {n : Int} (h1 : -1000000000 < n) (h2 : n < 1000000000) : Ev (go Tryz.prog HS (.fn 119) [.int .i64 n] σ) (fun r => r = ⟨false, .bool true, σ⟩) ⟨⟩ := by
 have c1 : decide (-1000000000 < n) = true := by simpa using h1
 have c2 : decide (n < 1000000000) = true := by simpa using h2
 refine ev_go Tryz.func119 rfl rfl ?_
 refine gS1 (And.intro @c1 (And.intro @c2 (And.intro @yu_t (And.intro @yu_f @Tryz.results119)))) ?_;try exact ⟨⟩
theorem make_ok {σ : St} {n d : Int} (h1 : -1000000000 < n) (h2 : n < 1000000000) (h3 : -1000000000 < d) (h4 : d < 1000000000) (h5 : d ≠ 0) :
  Ev (go Tryz.prog HS (.fn 85) [.int .i64 n, .int .i64 d] σ) (fun r => ∃ σ', r = ⟨false, .tuple ⟨[.agg ⟨[.int .i64 (qn n d), .int .i64 (qd n d)]⟩, .bool true]⟩, σ'⟩ ∧ Ext σ σ') ⟨⟩ := by
 have c5 : decide (d = 0) = false := by simpa using h5
 refine ev_go Tryz.func85 rfl rfl ?_
 refine gS1 @c5 ?_;try exact ⟨⟩
 refine (small_ok h1 h2).mono ?_
 rintro r rfl
 refine gS1 @yu_t ?_;try exact ⟨⟩
 refine (small_ok h3 h4).mono ?_
 rintro r rfl
 refine gS ?_;try exact ⟨⟩
 refine (quick_ok ⟨by omega, by omega⟩ ⟨by omega, by omega⟩ h5).mono ?_
 rintro r ⟨σ2, rfl, e2⟩
 have n2 := e2.n
 have o2 : σ2.orow σ.n = some [.int .i64 0, .int .i64 0] := by rw [e2.orow (cL)]; exact cL
 have hE : Ext σ σ2 := Ext.trans (eX) e2
 refine gS1 (And.intro @o2 @Tryz.results85) ?_;try exact ⟨⟩
 exact ⟨_, rfl, eX⟩
def nameOf (n : Int) : By := [[113,117,97,108,105,116,121], [100,97,121,115], [115,116,97,102,102], [112,114,105,99,101], [108,111,119]].getD (n % 5).toNat []
theorem nameOf_names (n : Int) : nameOf n ∈ names := by
 have h1 : 0 ≤ n % 5 := Int.emod_nonneg _ (by omega)
 have h2 : n % 5 < 5 := Int.emod_lt_of_pos _ (by omega)
 obtain ⟨k, hk, hk5⟩ : ∃ k : Nat, (n % 5).toNat = k ∧ k < 5 := ⟨_, rfl, by omega⟩
 unfold nameOf
 rw [hk]
 have : ∀ k, k < 5 → [[113,117,97,108,105,116,121], [100,97,121,115], [115,116,97,102,102], [112,114,105,99,101], [108,111,119]].getD k ([] : By) ∈ names := by decide
 exact this k hk5
theorem name_ok {σ : St} {n : Int} (h : In64 n) : Ev (go Tryz.prog HS (.fn 41) [.int .i64 n] σ) (fun r => ∃ σ', r = ⟨false, str (nameOf n), σ'⟩ ∧ Ext σ σ') ⟨⟩ := by
 refine ev_go Tryz.func41 rfl rfl ?_
 have h1 : 0 ≤ n % 5 := Int.emod_nonneg _ (by omega)
 have h2 : n % 5 < 5 := Int.emod_lt_of_pos _ (by omega)
 refine gS ?_;try exact ⟨⟩
 refine (mod_ok h.1 h.2 (by omega) (by omega)).mono ?_
 rintro r rfl
 unfold nameOf
 obtain ⟨k, hk, hk5⟩ : ∃ k : Nat, n % 5 = (k : Int) ∧ k < 5 := ⟨(n % 5).toNat, by omega, by omega⟩
 rw [hk]
 rcases (by omega : k = 0 ∨ k = 1 ∨ k = 2 ∨ k = 3 ∨ k = 4) with rfl | rfl | rfl | rfl | rfl
 all_goals
  refine gS1 @Tryz.results41 ?_;try exact ⟨⟩
  exact ⟨_, rfl, eX⟩
end Go.Proofs.G
namespace Go.Proofs.G
open Go Go.Ab
set_option maxRecDepth 100000
def ArgInts (σ : St) (v : Value) (l : List Int) : Prop := Ints σ v l ∧ ∀ n ∈ l, In64 n
theorem zz : decide (((0 : Nat) : Int) = 0) = true ∧ decide (((0 : Nat) : Int) = 1) = false ∧ decide (((0 : Nat) : Int) = 2) = false ∧ decide (((0 : Nat) : Int) = 3) = false ∧ decide (((0 : Nat) : Int) = 4) = false ∧ decide (((1 : Nat) : Int) = 0) = false ∧ decide (((1 : Nat) : Int) = 1) = true ∧ decide (((1 : Nat) : Int) = 2) = false ∧ decide (((1 : Nat) : Int) = 3) = false ∧ decide (((1 : Nat) : Int) = 4) = false ∧ decide (((2 : Nat) : Int) = 0) = false ∧ decide (((2 : Nat) : Int) = 1) = false ∧ decide (((2 : Nat) : Int) = 2) = true ∧ decide (((2 : Nat) : Int) = 3) = false ∧ decide (((2 : Nat) : Int) = 4) = false ∧ decide (((3 : Nat) : Int) = 0) = false ∧ decide (((3 : Nat) : Int) = 1) = false ∧ decide (((3 : Nat) : Int) = 2) = false ∧ decide (((3 : Nat) : Int) = 3) = true ∧ decide (((3 : Nat) : Int) = 4) = false ∧ decide (((4 : Nat) : Int) = 0) = false ∧ decide (((4 : Nat) : Int) = 1) = false ∧ decide (((4 : Nat) : Int) = 2) = false ∧ decide (((4 : Nat) : Int) = 3) = false ∧ decide (((4 : Nat) : Int) = 4) = true := by decide
theorem five {l : List Value} (h : l.length = 5) : ∃ a b c d e, l = [a, b, c, d, e] := by
 match l, h with
 | [a, b, c, d, e], _ => exact ⟨a, b, c, d, e, rfl⟩
end Go.Proofs.G
