/- A part of the proof: a walk of some functions. -/
import Derived.Test.YtcjkjjnnicadfaaGreatDoorGF
import Derived.Test.YtcjkjjnnicadfaaGreatDoorGA
import Derived.Test.YtcjkjjnnicadfaaGreatDoorGB
set_option linter.unusedSimpArgs false
set_option linter.unusedVariables false
namespace Go.Proofs.G
open Go Go.Ab
open Nat (reduceMul reduceEqDiff reduceAdd)
set_option maxRecDepth 100000
structure RQ (n d : Int) : Prop where
 n1 : -1000000000 < n
 n2 : n < 1000000000
 d1 : 1 ≤ d
 d2 : d < 1000000000
 low : Int.gcd n d = 1
def ratQ (n d : Int) : Value := .agg ⟨[.int .i64 n, .int .i64 d]⟩
theorem q_low {n d : Int} (h : d ≠ 0) : Int.gcd (qn n d) (qd n d) = 1 ∧ 1 ≤ qd n d := by
 obtain ⟨N, hN⟩ : ∃ N, (if d < 0 then -n else n) = N := ⟨_, rfl⟩
 obtain ⟨D, hD⟩ : ∃ D, (if d < 0 then -d else d) = D := ⟨_, rfl⟩
 have hDp : 0 < D := by rw [← hD]; split <;> omega
 have hg : Int.gcd n d = Int.gcd N D := by rw [← hN, ← hD]; split <;> simp [Int.gcd]
 unfold qn qd
 rw [hN, hD, hg]
 have hg0 : 0 < Int.gcd N D := Int.gcd_pos_of_ne_zero_right _ (by omega)
 obtain ⟨k, hk⟩ : ((Int.gcd N D : Nat) : Int) ∣ N := Int.gcd_dvd_left _ _
 obtain ⟨m, hm⟩ : ((Int.gcd N D : Nat) : Int) ∣ D := Int.gcd_dvd_right _ _
 obtain ⟨g, hgg⟩ : ∃ g, Int.gcd N D = g := ⟨_, rfl⟩
 rw [hgg] at hk hm hg0 ⊢
 have hgi : (0 : Int) < (g : Int) := by omega
 have e1 : N / (g : Int) = k := by rw [hk, Int.mul_ediv_cancel_left _ (by omega)]
 have e2 : D / (g : Int) = m := by rw [hm, Int.mul_ediv_cancel_left _ (by omega)]
 rw [e1, e2]
 refine ⟨?_, ?_⟩
 ·rw [hk, hm, Int.gcd_mul_left, Int.natAbs_natCast] at hgg
  exact Nat.eq_of_mul_eq_mul_left hg0 (by rw [hgg, Nat.mul_one])
 ·rcases Int.lt_or_le 0 m with h | h
  ·omega
  ·exfalso
   have := Int.mul_nonpos_of_nonneg_of_nonpos (Int.le_of_lt hgi) h
   omega
theorem q_self {n d : Int} (h : 1 ≤ d) (hg : Int.gcd n d = 1) : qn n d = n ∧ qd n d = d := by
 unfold qn qd
 rw [if_neg (by omega), if_neg (by omega), hg]
 simp
theorem right_ok {σ : St} {n d : Int} (h : RQ n d) : Ev (go Tryz.prog HS (.fn 164) [ratQ n d] σ) (fun r => ∃ σ', r = ⟨false, .bool true, σ'⟩ ∧ Ext σ σ') ⟨⟩ := by
 have c1 : decide (d < 1) = false := by rw [decide_eq_false_iff_not]; have := h.d1; omega
 obtain ⟨e1, e2⟩ := q_self h.d1 h.low
 refine ev_go Tryz.func164 rfl rfl ?_
 unfold ratQ
 refine gS1 @c1 ?_;try exact ⟨⟩
 refine (small_ok h.n1 h.n2).mono ?_
 rintro r rfl
 refine gS1 @yu_t ?_;try exact ⟨⟩
 refine (small_ok (by have := h.d1; omega) h.d2).mono ?_
 rintro r rfl
 refine gS ?_;try exact ⟨⟩
 refine (quick_ok (n := n) (d := d) ⟨by have := h.n1; omega, by have := h.n2; omega⟩ ⟨by have := h.d1; omega, by have := h.d2; omega⟩ (by have := h.d1; omega)).mono ?_
 rintro r ⟨σ2, rfl, hE2⟩
 have n2 := hE2.n
 simp only [new_n] at n2
 have q2 : σ2.row σ.n = some [.int .i64 n, .int .i64 d] := by rw [hE2.row (cL)]; exact cL
 have hee : (decide (n = n) && decide (d = d)) = true := by simp
 have hE : Ext σ σ2 := Ext.trans (eX) hE2
 rw [e1, e2]
 simp (maxSteps := 1000000) (disch := first | exact dS | fail) only [↓bD, bW, reduceMul, reduceEqDiff, reduceAdd, Nat.reduceBEq, reduceIte, q2, b2_rat.1, hee, asx hE2, as_newb, Tryz.results164]
 exact ⟨_, rfl, eX⟩
theorem rboth_ok {σ : St} {n d m e : Int} (h : RQ n d) (k : RQ m e) : Ev (go Tryz.prog HS (.fn 133) [ratQ n d, ratQ m e] σ) (fun r => ∃ σ', r = ⟨false, .bool true, σ'⟩ ∧ Ext σ σ') ⟨⟩ := by
 refine ev_go Tryz.func133 rfl rfl ?_
 unfold ratQ
 refine gS ?_;try exact ⟨⟩
 refine (right_ok h).mono ?_
 rintro r ⟨σ2, rfl, hE2⟩
 have n2 := hE2.n
 simp only [new_n] at n2
 have q2 : σ2.row (σ.n + 1) = some [.int .i64 m, .int .i64 e] := by rw [hE2.row (cL)]; exact cL
 refine gS1 @q2 ?_;try exact ⟨⟩
 refine (right_ok k).mono ?_
 rintro r ⟨σ3, rfl, hE3⟩
 have hE : Ext σ σ3 := Ext.trans (eX) (hE2.trans hE3)
 refine gS1 (And.intro @yu_t @Tryz.results133) ?_;try exact ⟨⟩
 exact ⟨_, rfl, hE⟩
theorem tiny_ok {σ : St} {n d m e : Int} (h : RQ n d) (k : RQ m e) : Ev (go Tryz.prog HS (.fn 134) [ratQ n d, ratQ m e] σ) (fun r => ∃ σ', r = ⟨false, .bool true, σ'⟩ ∧ Ext σ σ') ⟨⟩ := by
 refine ev_go Tryz.func134 rfl rfl ?_
 unfold ratQ
 refine gS ?_;try exact ⟨⟩
 refine (small_ok h.n1 h.n2).mono ?_
 rintro r rfl
 refine gS1 @yu_t ?_;try exact ⟨⟩
 refine (small_ok (by have := h.d1; omega) h.d2).mono ?_
 rintro r rfl
 refine gS1 @yu_t ?_;try exact ⟨⟩
 refine (small_ok k.n1 k.n2).mono ?_
 rintro r rfl
 refine gS1 @yu_t ?_;try exact ⟨⟩
 refine (small_ok (by have := k.d1; omega) k.d2).mono ?_
 rintro r rfl
 refine gS1 (And.intro @yu_t @Tryz.results134) ?_;try exact ⟨⟩
 exact ⟨_, rfl, eX⟩
theorem mul_lim {a b : Int} (h1 : -1000000000 < a) (h2 : a < 1000000000) (h3 : -1000000000 < b) (h4 : b < 1000000000) : -1000000000000000000 ≤ a * b ∧ a * b ≤ 1000000000000000000 := by
 have h : (a * b).natAbs ≤ 1000000000 * 1000000000 := by
  rw [Int.natAbs_mul]
  exact Nat.mul_le_mul (by omega) (by omega)
 omega
theorem radd_ok {σ : St} {n d m e : Int} (h : RQ n d) (k : RQ m e) : Ev (go Tryz.prog HS (.fn 99) [ratQ n d, ratQ m e] σ) (fun r => ∃ σ', r = ⟨false, .tuple ⟨[ratQ (qn (n * e + m * d) (d * e)) (qd (n * e + m * d) (d * e)), .bool true]⟩, σ'⟩ ∧ Ext σ σ') ⟨⟩ := by
 obtain ⟨x1, x2, x3, x4, x5⟩ := id h
 obtain ⟨y1, y2, y3, y4, y5⟩ := id k
 have p1 := mul_lim x1 x2 (by omega : -1000000000 < e) y4
 have p2 := mul_lim y1 y2 (by omega : -1000000000 < d) x4
 have p3 := mul_lim (by omega : -1000000000 < d) x4 (by omega : -1000000000 < e) y4
 have p4 := mul_lim x1 x2 y1 y2
 have p5 := mul_lim (by omega : -1000000000 < d) x4 y1 y2
 have hd0 : d * e ≠ 0 := Int.mul_ne_zero (by omega) (by omega)
 refine ev_go Tryz.func99 rfl rfl ?_
 unfold ratQ
 refine gS ?_;try exact ⟨⟩
 refine (rboth_ok h k).mono ?_
 rintro r ⟨σ2, rfl, hE2⟩
 have n2 := hE2.n
 simp only [new_n] at n2
 have r1 : σ2.row σ.n = some [.int .i64 n, .int .i64 d] := by rw [hE2.row (cL)]; exact cL
 have r2 : σ2.row (σ.n + 1) = some [.int .i64 m, .int .i64 e] := by rw [hE2.row (cL)]; exact cL
 have r3 : σ2.orow (σ.n + 1 + 1) = some [.int .i64 0, .int .i64 0] := by rw [hE2.orow (cL)]; exact cL
 refine gS1 (And.intro @r1 @r2) ?_;try exact ⟨⟩
 refine (tiny_ok h k).mono ?_
 rintro r ⟨σ3, rfl, hE3⟩
 have n3 := hE3.n
 have q1 : σ3.row σ.n = some [.int .i64 n, .int .i64 d] := by rw [hE3.row (by omega)]; exact r1
 have q2 : σ3.row (σ.n + 1) = some [.int .i64 m, .int .i64 e] := by rw [hE3.row (by omega)]; exact r2
 have q3 : σ3.orow (σ.n + 1 + 1) = some [.int .i64 0, .int .i64 0] := by rw [hE3.orow (by omega)]; exact r3
 refine gS1 (And.intro @q1 @q2) ?_;try exact ⟨⟩
 refine (quick_ok (n := n * e + m * d) (d := d * e) ⟨by omega, by omega⟩ ⟨by omega, by omega⟩ hd0).mono ?_
 rintro r ⟨σ4, rfl, hE4⟩
 have n4 := hE4.n
 have o4 : σ4.orow (σ.n + 1 + 1) = some [.int .i64 0, .int .i64 0] := by rw [hE4.orow (by omega)]; exact q3
 have hE : Ext σ σ4 := Ext.trans (eX) (hE2.trans (hE3.trans hE4))
 refine gS1 (And.intro @o4 @Tryz.results99) ?_;try exact ⟨⟩
 exact ⟨_, rfl, eX⟩
theorem rsub_ok {σ : St} {n d m e : Int} (h : RQ n d) (k : RQ m e) : Ev (go Tryz.prog HS (.fn 101) [ratQ n d, ratQ m e] σ) (fun r => ∃ σ', r = ⟨false, .tuple ⟨[ratQ (qn (n * e - m * d) (d * e)) (qd (n * e - m * d) (d * e)), .bool true]⟩, σ'⟩ ∧ Ext σ σ') ⟨⟩ := by
 obtain ⟨x1, x2, x3, x4, x5⟩ := id h
 obtain ⟨y1, y2, y3, y4, y5⟩ := id k
 have p1 := mul_lim x1 x2 (by omega : -1000000000 < e) y4
 have p2 := mul_lim y1 y2 (by omega : -1000000000 < d) x4
 have p3 := mul_lim (by omega : -1000000000 < d) x4 (by omega : -1000000000 < e) y4
 have p4 := mul_lim x1 x2 y1 y2
 have p5 := mul_lim (by omega : -1000000000 < d) x4 y1 y2
 have hd0 : d * e ≠ 0 := Int.mul_ne_zero (by omega) (by omega)
 refine ev_go Tryz.func101 rfl rfl ?_
 unfold ratQ
 refine gS ?_;try exact ⟨⟩
 refine (rboth_ok h k).mono ?_
 rintro r ⟨σ2, rfl, hE2⟩
 have n2 := hE2.n
 simp only [new_n] at n2
 have r1 : σ2.row σ.n = some [.int .i64 n, .int .i64 d] := by rw [hE2.row (cL)]; exact cL
 have r2 : σ2.row (σ.n + 1) = some [.int .i64 m, .int .i64 e] := by rw [hE2.row (cL)]; exact cL
 have r3 : σ2.orow (σ.n + 1 + 1) = some [.int .i64 0, .int .i64 0] := by rw [hE2.orow (cL)]; exact cL
 refine gS1 (And.intro @r1 @r2) ?_;try exact ⟨⟩
 refine (tiny_ok h k).mono ?_
 rintro r ⟨σ3, rfl, hE3⟩
 have n3 := hE3.n
 have q1 : σ3.row σ.n = some [.int .i64 n, .int .i64 d] := by rw [hE3.row (by omega)]; exact r1
 have q2 : σ3.row (σ.n + 1) = some [.int .i64 m, .int .i64 e] := by rw [hE3.row (by omega)]; exact r2
 have q3 : σ3.orow (σ.n + 1 + 1) = some [.int .i64 0, .int .i64 0] := by rw [hE3.orow (by omega)]; exact r3
 refine gS1 (And.intro @q1 @q2) ?_;try exact ⟨⟩
 refine (quick_ok (n := n * e - m * d) (d := d * e) ⟨by omega, by omega⟩ ⟨by omega, by omega⟩ hd0).mono ?_
 rintro r ⟨σ4, rfl, hE4⟩
 have n4 := hE4.n
 have o4 : σ4.orow (σ.n + 1 + 1) = some [.int .i64 0, .int .i64 0] := by rw [hE4.orow (by omega)]; exact q3
 have hE : Ext σ σ4 := Ext.trans (eX) (hE2.trans (hE3.trans hE4))
 refine gS1 (And.intro @o4 @Tryz.results101) ?_;try exact ⟨⟩
 exact ⟨_, rfl, eX⟩
theorem rmul_ok {σ : St} {n d m e : Int} (h : RQ n d) (k : RQ m e) : Ev (go Tryz.prog HS (.fn 102) [ratQ n d, ratQ m e] σ) (fun r => ∃ σ', r = ⟨false, .tuple ⟨[ratQ (qn (n * m) (d * e)) (qd (n * m) (d * e)), .bool true]⟩, σ'⟩ ∧ Ext σ σ') ⟨⟩ := by
 obtain ⟨x1, x2, x3, x4, x5⟩ := id h
 obtain ⟨y1, y2, y3, y4, y5⟩ := id k
 have p1 := mul_lim x1 x2 (by omega : -1000000000 < e) y4
 have p2 := mul_lim y1 y2 (by omega : -1000000000 < d) x4
 have p3 := mul_lim (by omega : -1000000000 < d) x4 (by omega : -1000000000 < e) y4
 have p4 := mul_lim x1 x2 y1 y2
 have p5 := mul_lim (by omega : -1000000000 < d) x4 y1 y2
 have hd0 : d * e ≠ 0 := Int.mul_ne_zero (by omega) (by omega)
 refine ev_go Tryz.func102 rfl rfl ?_
 unfold ratQ
 refine gS ?_;try exact ⟨⟩
 refine (rboth_ok h k).mono ?_
 rintro r ⟨σ2, rfl, hE2⟩
 have n2 := hE2.n
 simp only [new_n] at n2
 have r1 : σ2.row σ.n = some [.int .i64 n, .int .i64 d] := by rw [hE2.row (cL)]; exact cL
 have r2 : σ2.row (σ.n + 1) = some [.int .i64 m, .int .i64 e] := by rw [hE2.row (cL)]; exact cL
 have r3 : σ2.orow (σ.n + 1 + 1) = some [.int .i64 0, .int .i64 0] := by rw [hE2.orow (cL)]; exact cL
 refine gS1 (And.intro @r1 @r2) ?_;try exact ⟨⟩
 refine (tiny_ok h k).mono ?_
 rintro r ⟨σ3, rfl, hE3⟩
 have n3 := hE3.n
 have q1 : σ3.row σ.n = some [.int .i64 n, .int .i64 d] := by rw [hE3.row (by omega)]; exact r1
 have q2 : σ3.row (σ.n + 1) = some [.int .i64 m, .int .i64 e] := by rw [hE3.row (by omega)]; exact r2
 have q3 : σ3.orow (σ.n + 1 + 1) = some [.int .i64 0, .int .i64 0] := by rw [hE3.orow (by omega)]; exact r3
 refine gS1 (And.intro @q1 @q2) ?_;try exact ⟨⟩
 refine (quick_ok (n := n * m) (d := d * e) ⟨by omega, by omega⟩ ⟨by omega, by omega⟩ hd0).mono ?_
 rintro r ⟨σ4, rfl, hE4⟩
 have n4 := hE4.n
 have o4 : σ4.orow (σ.n + 1 + 1) = some [.int .i64 0, .int .i64 0] := by rw [hE4.orow (by omega)]; exact q3
 have hE : Ext σ σ4 := Ext.trans (eX) (hE2.trans (hE3.trans hE4))
 refine gS1 (And.intro @o4 @Tryz.results102) ?_;try exact ⟨⟩
 exact ⟨_, rfl, eX⟩
theorem rquo_ok {σ : St} {n d m e : Int} (h : RQ n d) (k : RQ m e) (hm : m ≠ 0) : Ev (go Tryz.prog HS (.fn 104) [ratQ n d, ratQ m e] σ) (fun r => ∃ σ', r = ⟨false, .tuple ⟨[ratQ (qn (n * e) (d * m)) (qd (n * e) (d * m)), .bool true]⟩, σ'⟩ ∧ Ext σ σ') ⟨⟩ := by
 obtain ⟨x1, x2, x3, x4, x5⟩ := id h
 obtain ⟨y1, y2, y3, y4, y5⟩ := id k
 have p1 := mul_lim x1 x2 (by omega : -1000000000 < e) y4
 have p2 := mul_lim y1 y2 (by omega : -1000000000 < d) x4
 have p3 := mul_lim (by omega : -1000000000 < d) x4 (by omega : -1000000000 < e) y4
 have p4 := mul_lim x1 x2 y1 y2
 have p5 := mul_lim (by omega : -1000000000 < d) x4 y1 y2
 have hd0 : d * m ≠ 0 := Int.mul_ne_zero (by omega) (by omega)
 refine ev_go Tryz.func104 rfl rfl ?_
 unfold ratQ
 refine gS ?_;try exact ⟨⟩
 refine (rboth_ok h k).mono ?_
 rintro r ⟨σ2, rfl, hE2⟩
 have n2 := hE2.n
 simp only [new_n] at n2
 have r1 : σ2.row σ.n = some [.int .i64 n, .int .i64 d] := by rw [hE2.row (cL)]; exact cL
 have r2 : σ2.row (σ.n + 1) = some [.int .i64 m, .int .i64 e] := by rw [hE2.row (cL)]; exact cL
 have r3 : σ2.orow (σ.n + 1 + 1) = some [.int .i64 0, .int .i64 0] := by rw [hE2.orow (cL)]; exact cL
 have cm : decide (m = 0) = false := by simpa using hm
 refine gS1 (And.intro @r1 (And.intro @r2 (And.intro @cm (And.intro @yu_t @yu_f)))) ?_;try exact ⟨⟩
 refine (tiny_ok h k).mono ?_
 rintro r ⟨σ3, rfl, hE3⟩
 have n3 := hE3.n
 have q1 : σ3.row σ.n = some [.int .i64 n, .int .i64 d] := by rw [hE3.row (by omega)]; exact r1
 have q2 : σ3.row (σ.n + 1) = some [.int .i64 m, .int .i64 e] := by rw [hE3.row (by omega)]; exact r2
 have q3 : σ3.orow (σ.n + 1 + 1) = some [.int .i64 0, .int .i64 0] := by rw [hE3.orow (by omega)]; exact r3
 refine gS1 (And.intro @q1 @q2) ?_;try exact ⟨⟩
 refine (quick_ok (n := n * e) (d := d * m) ⟨by omega, by omega⟩ ⟨by omega, by omega⟩ hd0).mono ?_
 rintro r ⟨σ4, rfl, hE4⟩
 have n4 := hE4.n
 have o4 : σ4.orow (σ.n + 1 + 1) = some [.int .i64 0, .int .i64 0] := by rw [hE4.orow (by omega)]; exact q3
 have hE : Ext σ σ4 := Ext.trans (eX) (hE2.trans (hE3.trans hE4))
 refine gS1 (And.intro @o4 @Tryz.results104) ?_;try exact ⟨⟩
 exact ⟨_, rfl, eX⟩
end Go.Proofs.G
namespace Go.Proofs.G
open Go Go.Ab
open Nat (reduceMul reduceEqDiff reduceAdd)
set_option maxRecDepth 100000
def Dg (σ : St) (v : Value) (l : List Nat) : Prop := (∀ x ∈ l, x < 65536) ∧ ((v = .slice none 0 0 ∧ l = []) ∨ ∃ b off sp c cells, v = .slice (some ⟨b, off, sp⟩) l.length c ∧ l.length ≤ c ∧ b < σ.n ∧ σ.row b = some cells ∧ (sp = none ∨ sp = some 1) ∧ ∀ k x, l[k]? = some x → sub cells (off + k) 1 = some [.int .i64 (x : Nat)])
theorem Dg.mono {σ σ' : St} {v : Value} {l : List Nat} (h : Dg σ v l) (hE : Ext σ σ') : Dg σ' v l := by
 obtain ⟨h0, h | ⟨b, off, sp, c, cells, h1, h2, h3, h4, h5, h6⟩⟩ := h
 ·exact ⟨h0, .inl h⟩
 ·exact ⟨h0, .inr ⟨b, off, sp, c, cells, h1, h2, Nat.lt_of_lt_of_le h3 hE.n, by rw [hE.row h3]; exact h4, h5, h6⟩⟩
theorem Dg.use {σ : St} {v : Value} {l : List Nat} (h : Dg σ v l) : ∃ a c b off cells, v = .slice a l.length c ∧ (0 < l.length → ∃ sp, a = some ⟨b, off, sp⟩ ∧ b < σ.n ∧ σ.row b = some cells ∧ l.length ≤ c ∧ (sp = none ∨ sp = some 1)) ∧ ∀ k x, l[k]? = some x → sub cells (off + k) 1 = some [.int .i64 (x : Nat)] := by
 obtain ⟨h0, ⟨rfl, rfl⟩ | ⟨b, off, sp, c, cells, h1, h2, h3, h4, h5, h6⟩⟩ := h
 ·exact ⟨none, 0, 0, 0, [], rfl, fun h => by simp at h, fun k x h => by simp at h⟩
 ·exact ⟨_, c, b, off, cells, h1, fun _ => ⟨sp, rfl, h3, h4, h2, h5⟩, h6⟩
theorem Dg.of_ol {lo : Nat} {σ : St} {v : Value} {l : List Nat} (h : OL lo σ 1 v (l.map fun (n : Nat) => [.int .i64 (n : Int)])) (h0 : ∀ x ∈ l, x < 65536) : Dg σ v l := by
 obtain ⟨hr, ⟨rfl, hn⟩ | ⟨b, sp, rfl, hs, h1, h2, h3⟩⟩ := h
 ·exact ⟨h0, .inl ⟨rfl, by simpa using hn⟩⟩
 ·refine ⟨h0, .inr ⟨b, 0, sp, _, _, by rw [List.length_map], by simp, h2, row_of h3, hs, fun k x hk => ?_⟩⟩
  have hk' := getmap (fun (n : Nat) => ([.int .i64 (n : Int)] : List Value)) hk
  have := sub_rows hr hk' (o := 0) (n := 1) (by omega)
  rw [Nat.zero_add, ← Nat.add_zero k, ← Nat.mul_one k, this]
  rfl
def trimN (l : List Nat) : Nat → List Nat
 | 0 => []
 | k + 1 => if l[k]? = some 0 then trimN l k else l.take (k + 1)
def trimD (l : List Nat) : List Nat := trimN l l.length
theorem Dg.take {σ : St} {b off c : Nat} {sp : Option Nat} {l : List Nat} {m : Nat} (h : Dg σ (.slice (some ⟨b, off, sp⟩) l.length c) l) (hm : m ≤ l.length) : Dg σ (.slice (some ⟨b, off, sp⟩) m c) (l.take m) := by
 obtain ⟨h0, ⟨h, -⟩ | ⟨b', off', sp', c', cells, h1, h2, h3, h4, h5, h6⟩⟩ := h
 ·cases h
 ·cases h1
  refine ⟨fun x hx => h0 x (List.mem_of_mem_take hx), .inr ⟨b, off, sp, c, cells, by rw [List.length_take, Nat.min_eq_left hm], by rw [List.length_take]; omega, h3, h4, h5, fun k x hk => h6 k x ?_⟩⟩
  rw [List.getElem?_take] at hk
  split at hk
  ·exact hk
  ·cases hk
theorem trim_dig {σ : St} {v : Value} {l : List Nat} (h : Dg σ v l) (hl : l.length ≤ 1000) : Ev (go Tryz.prog HS (.fn 137) [v] σ) (fun r => ∃ v', r = ⟨false, v', σ⟩ ∧ Dg σ v' (trimD l)) ⟨⟩ := by
 obtain ⟨a, c, b, off, cells, rfl, h1, h2⟩ := id h.use
 refine ev_go Tryz.func137 rfl rfl ?_
 refine gT ?_;try exact ⟨⟩
 refine ev_loop (fun m fr σ' => fr.get 0 = some (.slice a m c) ∧ σ' = σ ∧ m ≤ l.length ∧ trimN l m = trimD l) (fun r => ∃ fr m, r = ⟨.exit 0, fr, σ⟩ ∧ fr.get 0 = some (.slice a m c) ∧ m ≤ l.length ∧ l.take m = trimD l) l.length ?_ ?_ ?_
 ·exact ⟨fR, rfl, Nat.le_refl _, rfl⟩
 ·rintro m fr σ' ⟨g0, rfl, hm, ht⟩
  by_cases hm0 : m = 0
  ·subst hm0
   have hc1 : decide ((0 : Int) < ((0 : Nat) : Int)) = false := by decide
   refine gT1 (And.intro @g0 (And.intro @hc1 (And.intro @yu_t (And.intro @yu_f @lp_exit)))) ?_;try exact ⟨⟩
   exact ⟨_, 0, rfl, fR1 g0, by omega, by rw [← ht]; rfl⟩
  ·obtain ⟨k, rfl⟩ : ∃ k, m = k + 1 := ⟨m - 1, by omega⟩
   obtain ⟨x, hx⟩ := at_some (l := l) (k := k) (by omega)
   obtain ⟨sp, rfl, l3, l4, l5, l6⟩ := h1 (by omega)
   have l7 := h2 k x hx
   have hc1 : decide ((0 : Int) < ((k + 1 : Nat) : Int)) = true := by rw [decide_eq_true_iff]; omega
   have hw : wrapF .i64 (((k + 1 : Nat) : Int) - 1) = (k : Int) := by rw [show ((k + 1 : Nat) : Int) - 1 = (k : Int) by omega]; exact wrap_in (by omega) (by omega)
   by_cases hx0 : x = 0
   ·have hc2 : decide ((x : Int) = 0) = true := by rw [decide_eq_true_iff]; omega
    have hsa : sliceAt 1 (some ⟨b, off, sp⟩) 0 k c = some (.slice (some ⟨b, off, sp⟩) k c) := by
     rcases l6 with rfl | rfl
     ·rfl
     ·rw [sa_some]; rfl
    have hb1 : Nat.ble k c = true := ble_of (by omega)
    simp (maxSteps := 1000000) (disch := first | exact dS | fail) only [↓bD2, bW2, reduceMul, reduceEqDiff, reduceAdd, Nat.reduceBEq, reduceIte, g0, hc1, hw, l4, l7, hc2, yu_t, yu_f, lp_normal, Option.isNone_none, hsa, hb1]
    refine ⟨k, by omega, fR, trivial, by omega, ?_⟩
    rw [← ht]
    show _ = if l[k]? = some 0 then trimN l k else l.take (k + 1)
    rw [hx, hx0, if_pos rfl]
   ·have hc2 : decide ((x : Int) = 0) = false := by rw [decide_eq_false_iff_not]; omega
    refine gT1 (And.intro @g0 (And.intro @hc1 (And.intro @hw (And.intro @l4 (And.intro @l7 (And.intro @hc2 (And.intro @yu_t (And.intro @yu_f @lp_exit)))))))) ?_;try exact ⟨⟩
    refine ⟨_, k + 1, rfl, fR1 g0, hm, ?_⟩
    rw [← ht]
    show _ = if l[k]? = some 0 then trimN l k else l.take (k + 1)
    rw [hx, if_neg (fun e => hx0 (by cases e; rfl))]
 rintro r ⟨fr, m, rfl, g0, hm, ht⟩
 refine gT1 (And.intro @g0 @Tryz.results137) ?_;try exact ⟨⟩
 refine ⟨_, rfl, ?_⟩
 rw [← ht]
 by_cases hl0 : 0 < l.length
 ·obtain ⟨sp, rfl, -⟩ := h1 hl0
  exact h.take hm
 ·obtain rfl : l = [] := List.eq_nil_of_length_eq_zero (by omega)
  obtain rfl : m = 0 := by simpa using hm
  exact h
def digF : Nat → Nat → List Nat
 | 0, _ => []
 | f + 1, n => if n = 0 then [] else (n % 65536) :: digF f (n / 65536)
theorem digF_any : ∀ (f g n : Nat), n < f → n < g → digF f n = digF g n := by
 intro f
 induction f with
 | zero => intro g n h; omega
 | succ f ih =>
  intro g n h1 h2
  cases g with
  | zero => omega
  | succ g =>
   show (if n = 0 then [] else (n % 65536) :: digF f (n / 65536)) = (if n = 0 then [] else (n % 65536) :: digF g (n / 65536))
   by_cases h : n = 0
   ·rw [if_pos h, if_pos h]
   ·rw [if_neg h, if_neg h, ih g (n / 65536) (by omega) (by omega)]
def digs (n : Nat) : List Nat := digF (n + 1) n
theorem digs_zero : digs 0 = [] := rfl
theorem digs_pos {n : Nat} (h : n ≠ 0) : digs n = (n % 65536) :: digs (n / 65536) := by
 show (if n = 0 then [] else (n % 65536) :: digF n (n / 65536)) = (n % 65536) :: digF (n / 65536 + 1) (n / 65536)
 rw [if_neg h, digF_any n (n / 65536 + 1) (n / 65536) (by omega) (by omega)]
theorem digs_len : ∀ (k n : Nat), n < 65536 ^ k → (digs n).length ≤ k := by
 intro k
 induction k with
 | zero =>
  intro n h
  obtain rfl : n = 0 := by rw [Nat.pow_zero] at h; omega
  exact Nat.le_refl 0
 | succ k ih =>
  intro n h
  by_cases h0 : n = 0
  ·subst h0; exact Nat.zero_le _
  ·rw [digs_pos h0]
   have := ih (n / 65536) (by rw [Nat.pow_succ] at h; omega)
   simp; omega
theorem digs_lt : ∀ (f n : Nat), n < f → ∀ x ∈ digs n, x < 65536 := by
 intro f
 induction f with
 | zero => intro n h; omega
 | succ f ih =>
  intro n h x hx
  by_cases h0 : n = 0
  ·subst h0; cases hx
  ·rw [digs_pos h0] at hx
   rcases List.mem_cons.1 hx with rfl | hx
   ·omega
   ·exact ih (n / 65536) (by omega) x hx
def BigAt (σ : St) (v : Value) (neg : Bool) (l : List Nat) : Prop := ∃ w, v = .agg ⟨[.bool neg, w]⟩ ∧ Dg σ w l
theorem of_ok {σ : St} {n : Int} (h : In64 n) : Ev (go Tryz.prog HS (.fn 122) [.int .i64 n] σ) (fun r => ∃ v σ', r = ⟨false, v, σ'⟩ ∧ Ext σ σ' ∧ BigAt σ' v (decide (n < 0)) (digs n.natAbs)) ⟨⟩ := by
 obtain ⟨h1, h2⟩ := h
 obtain ⟨N, hN⟩ : ∃ N, n.natAbs = N := ⟨_, rfl⟩
 have hNl : N ≤ 9223372036854775808 := by omega
 have hlen : (digs N).length ≤ 4 := digs_len 4 N (by omega)
 have wu : ∀ m : Int, IntKind.u64.wrap m = m % 18446744073709551616 := fun m => rfl
 rw [hN]
 refine ev_go Tryz.func122 rfl rfl ?_
 have hcases : (decide (n < 0) = true ∧ IntKind.u64.wrap (0 - IntKind.u64.wrap n) = (N : Int)) ∨ (decide (n < 0) = false ∧ IntKind.u64.wrap n = (N : Int)) := by
  by_cases hn : n < 0
  ·exact .inl ⟨by simpa using hn, by rw [wu, wu]; omega⟩
  ·exact .inr ⟨by simpa using hn, by rw [wu]; omega⟩
 rcases hcases with ⟨hc, e1⟩ | ⟨hc, e1⟩
 all_goals
  simp (maxSteps := 1000000) (disch := first | exact dS | fail) only [↓bD2, bU2, reduceMul, reduceEqDiff, reduceAdd, Nat.reduceBEq, reduceIte, splice_succ, ap22, ap23, ap24, ap26, ap33, ap34, ap35, ap38, ap41, ap49, ap74, hc, e1]
  refine ev_loop (fun m fr σ' => ∃ v l, fr.get 0 = some (.int .i64 n) ∧ fr.get 2 = some (.pointer (some ⟨σ.n, 0, none⟩)) ∧ fr.get 3 = some v ∧ fr.get 4 = some (.int .u64 (m : Int)) ∧ Ext (σ.new [.bool false, .slice none 0 0]) σ' ∧ OL (σ.n + 1) σ' 1 v (l.map fun (n : Nat) => [.int .i64 (n : Int)]) ∧ l ++ digs m = digs N ∧ m ≤ N)
   (fun r => ∃ fr σ' v, r = ⟨.exit 0, fr, σ'⟩ ∧ fr.get 0 = some (.int .i64 n) ∧ fr.get 2 = some (.pointer (some ⟨σ.n, 0, none⟩)) ∧ fr.get 3 = some v ∧ Ext (σ.new [.bool false, .slice none 0 0]) σ' ∧ OL (σ.n + 1) σ' 1 v ((digs N).map fun (n : Nat) => [.int .i64 (n : Int)])) N ?_ ?_ ?_
  ·exact ⟨.slice none 0 0, [], fR, fR, fR, fR, .refl _, OL.nil, rfl, Nat.le_refl _⟩
  ·rintro m fr σ' ⟨v, l, g0, g2, g3, g4, hE, ho, hl, hm⟩
   by_cases hm0 : m = 0
   ·subst hm0
    have hc' : decide ((0 : Int) < ((0 : Nat) : Int)) = false := by decide
    simp (maxSteps := 1000000) (disch := first | exact dS | fail) only [↓bD2, bU2, reduceMul, reduceEqDiff, reduceAdd, Nat.reduceBEq, reduceIte, splice_succ, ap22, ap23, ap24, ap26, ap33, ap34, ap35, ap38, ap41, ap49, ap74, g0, g2, g3, g4, hc', lp_exit]
    rw [digs_zero, List.append_nil] at hl
    subst hl
    exact ⟨_, _, v, rfl, fR1 g0, fR1 g2, fR1 g3, hE, ho⟩
   ·have hc' : decide ((0 : Int) < (m : Int)) = true := by rw [decide_eq_true_iff]; omega
    have f1 : (m : Int).tmod 65536 = ((m % 65536 : Nat) : Int) := rfl
    have f2 : IntKind.i64.wrap ((m % 65536 : Nat) : Int) = ((m % 65536 : Nat) : Int) := wrap64_in (by omega) (by omega)
    have f3 : IntKind.u64.wrap ((m : Int).tdiv 65536) = ((m / 65536 : Nat) : Int) := by rw [wu, show (m : Int).tdiv 65536 = ((m / 65536 : Nat) : Int) from rfl]; omega
    simp (maxSteps := 1000000) (disch := first | exact dS | fail) only [↓bD2, bU2, reduceMul, reduceEqDiff, reduceAdd, Nat.reduceBEq, reduceIte, splice_succ, ap22, ap23, ap24, ap26, ap33, ap34, ap35, ap38, ap41, ap49, ap74, g0, g2, g3, g4, hc', f1, f2, f3]
    have hoN : OL (σ.n + 1) (σ'.new [.int .i64 ((m % 65536 : Nat) : Int)]) 1 v (l.map fun (n : Nat) => [.int .i64 (n : Int)]) := OL.ext ho (.new _ _)
    have hll : l.length ≤ 4 := by have := congrArg List.length hl; rw [List.length_append] at this; omega
    have en := hE.n
    refine ev_append (row := [.int .i64 ((m % 65536 : Nat) : Int)]) (fun _ _ _ _ => ap25) hoN (row_new_same (Nat.le_refl _) (Nat.le_refl _)) (sub_full (by simp) (by simp)) (by rw [List.length_map]; omega) (by simp only [new_n] at en ⊢; omega) ?_
    rintro v' σ8 ho' hA -
    simp (maxSteps := 1000000) (disch := first | exact dS | fail) only [↓bD2, bU2, reduceMul, reduceEqDiff, reduceAdd, Nat.reduceBEq, reduceIte, splice_succ, ap22, ap23, ap24, ap26, ap33, ap34, ap35, ap38, ap41, ap49, ap74, g0, g2, g3, g4, f1, f2, f3, lp_normal]
    refine ⟨m / 65536, by omega, v', l ++ [m % 65536], fR1 g0, fR1 g2, fR, fR, hA.ext (hE.new' _) hoN (by simp), by rw [List.map_append]; exact ho', ?_, by omega⟩
    rw [← hl, digs_pos hm0]; simp
  ·rintro r ⟨fr, σ', v, rfl, g0, g2, g3, hE, ho⟩
   have en := hE.n
   simp only [new_n] at en
   obtain ⟨hs, ht⟩ : cellsL v = [v] ∧ isTup v = false := by obtain ⟨va, h⟩ := OL.shape ho; rw [h]; exact ⟨rfl, rfl⟩
   have o3 : σ'.orow σ.n = some [.bool false, .slice none 0 0] := by rw [hE.orow (cL)]; exact cL
   have hE0 : Ext σ σ' := Ext.trans (eX) hE
   simp (maxSteps := 1000000) (disch := first | exact dS | fail) only [↓bD2, bU2, reduceMul, reduceEqDiff, reduceAdd, Nat.reduceBEq, reduceIte, splice_succ, ap22, ap23, ap24, ap26, ap33, ap34, ap35, ap38, ap41, ap49, ap74, g0, g2, g3, hc, hs, ht, o3, Tryz.results122]
   have hD := Dg.of_ol (OL.keepX (p := σ.n) ho (ExtX.refl.upd [.bool (decide (n < 0)), v]) (by omega)) (digs_lt (N + 1) N (by omega))
   rw [hc] at hD
   exact ⟨_, _, rfl, eX, v, rfl, hD⟩
end Go.Proofs.G
namespace Go.Proofs.G
open Go Go.Ab
open Nat (reduceMul reduceEqDiff reduceAdd)
set_option maxRecDepth 100000
def cmpN (a b : List Nat) : Nat → Int
 | 0 => 0
 | k + 1 => if a.getD k 0 = b.getD k 0 then cmpN a b k else if a.getD k 0 < b.getD k 0 then -1 else 1
def cmpD (a b : List Nat) : Int := if a.length = b.length then cmpN a b a.length else if a.length < b.length then -1 else 1
theorem getD_at {l : List Nat} {k x : Nat} (h : l[k]? = some x) : l.getD k 0 = x := by simp [List.getD, h]
theorem dg_lt {σ : St} {v : Value} {l : List Nat} (h : Dg σ v l) (k : Nat) : l.getD k 0 < 65536 := by
 cases hk : l[k]? with
 | none => simp [List.getD, hk]
 | some x => rw [getD_at hk]; exact h.1 x (List.mem_of_getElem? hk)
theorem compare_ok {σ : St} {v w : Value} {a b : List Nat} (ha : Dg σ v a) (hb : Dg σ w b) (la : a.length ≤ 1000) (lb : b.length ≤ 1000) : Ev (go Tryz.prog HS (.fn 166) [v, w] σ) (fun r => r = ⟨false, .int .i64 (cmpD a b), σ⟩) ⟨⟩ := by
 obtain ⟨va, vc, vb, vo, vcs, rfl, h1, h2⟩ := ha.use
 obtain ⟨wa, wc, wb, wo, wcs, rfl, k1, k2⟩ := hb.use
 refine ev_go Tryz.func166 rfl rfl ?_
 by_cases hl : a.length = b.length
 ·have c1 : decide ((a.length : Int) = (b.length : Int)) = true := by rw [decide_eq_true_iff]; omega
  have hcm : cmpD a b = cmpN a b a.length := by unfold cmpD; rw [if_pos hl]
  have hw0 : wrapF .i64 ((a.length : Int) - 1) = (a.length : Int) - 1 := wrap_in (by omega) (by omega)
  refine gT1 (And.intro @c1 @hw0) ?_;try exact ⟨⟩
  refine ev_loop (fun m fr σ' => fr.get 5 = some (.int .i64 ((m : Int) - 1)) ∧ fr.get 0 = some (.slice va a.length vc) ∧ fr.get 1 = some (.slice wa b.length wc) ∧ σ' = σ ∧ m ≤ a.length ∧ cmpN a b m = cmpN a b a.length)
   (fun r => (∃ fr, r = ⟨.exit 0, fr, σ⟩ ∧ cmpN a b a.length = 0) ∨ (∃ fr, r = ⟨.ret, fr, σ⟩ ∧ fr.get 4 = some (.int .i64 (cmpN a b a.length)))) a.length ?_ ?_ ?_
  ·exact ⟨fR, fR, fR, rfl, Nat.le_refl _, rfl⟩
  ·rintro m fr σ' ⟨g5, g0, g1, rfl, hm, hc⟩
   by_cases hm0 : m = 0
   ·subst hm0
    have c2 : decide (((0 : Nat) : Int) - 1 < 0) = true := by decide
    refine gT1 (And.intro @g5 (And.intro @c2 @lp_exit)) ?_;try exact ⟨⟩
    exact .inl ⟨_, rfl, by rw [← hc]; rfl⟩
   ·obtain ⟨k, rfl⟩ : ∃ k, m = k + 1 := ⟨m - 1, by omega⟩
    have e1 : ((k + 1 : Nat) : Int) - 1 = (k : Int) := by omega
    rw [e1] at g5
    obtain ⟨x, hx⟩ := at_some (l := a) (k := k) (by omega)
    obtain ⟨y, hy⟩ := at_some (l := b) (k := k) (by omega)
    obtain ⟨sp, rfl, l3, l4, -, -⟩ := h1 (by omega)
    obtain ⟨sp', rfl, l3', l4', -, -⟩ := k1 (by omega)
    have l7 := h2 k x hx
    have l7' := k2 k y hy
    have c2 : decide ((k : Int) < 0) = false := by rw [decide_eq_false_iff_not]; omega
    have hcs : cmpN a b (k + 1) = if x = y then cmpN a b k else if x < y then -1 else 1 := by
     show (if a.getD k 0 = b.getD k 0 then _ else _) = _
     rw [getD_at hx, getD_at hy]
    have hwk : wrapF .i64 ((k : Int) - 1) = (k : Int) - 1 := wrap_in (by omega) (by omega)
    by_cases hxy : x = y
    ·have c3 : decide ((x : Int) = (y : Int)) = true := by rw [decide_eq_true_iff]; omega
     refine gT1 (And.intro @g5 (And.intro @g0 (And.intro @g1 (And.intro @c2 (And.intro @l4 (And.intro @l7 (And.intro @l4' (And.intro @l7' (And.intro @c3 (And.intro @hwk @lp_normal)))))))))) ?_;try exact ⟨⟩
     exact ⟨k, by omega, fR, fR1 g0, fR1 g1, trivial, by omega, by rw [← hc, hcs, if_pos hxy]⟩
    ·have c3 : decide ((x : Int) = (y : Int)) = false := by rw [decide_eq_false_iff_not]; omega
     by_cases hlt : x < y
     ·have c4 : decide (x < y) = true := by simpa using hlt
      refine gT1 (And.intro @g5 (And.intro @g0 (And.intro @g1 (And.intro @c2 (And.intro @l4 (And.intro @l7 (And.intro @l4' (And.intro @l7' (And.intro @c3 (And.intro @c4 @lp_ret)))))))))) ?_;try exact ⟨⟩
      exact .inr ⟨_, rfl, by rw [← hc, hcs, if_neg hxy, if_pos hlt]; exact fR⟩
     ·have c4 : decide (x < y) = false := by simpa using hlt
      refine gT1 (And.intro @g5 (And.intro @g0 (And.intro @g1 (And.intro @c2 (And.intro @l4 (And.intro @l7 (And.intro @l4' (And.intro @l7' (And.intro @c3 (And.intro @c4 @lp_ret)))))))))) ?_;try exact ⟨⟩
      exact .inr ⟨_, rfl, by rw [← hc, hcs, if_neg hxy, if_neg hlt]; exact fR⟩
  rintro r (⟨fr, rfl, h0⟩ | ⟨fr, rfl, g4⟩)
  ·refine gT1 @Tryz.results166 ?_;try exact ⟨⟩
   rw [hcm, h0]
  ·refine gT1 (And.intro @g4 @Tryz.results166) ?_;try exact ⟨⟩
   rw [hcm]
 ·have c1 : decide ((a.length : Int) = (b.length : Int)) = false := by rw [decide_eq_false_iff_not]; omega
  by_cases hlt : a.length < b.length
  ·have c2 : decide (a.length < b.length) = true := by simpa using hlt
   have hcm : cmpD a b = -1 := by unfold cmpD; rw [if_neg hl, if_pos hlt]
   refine gT1 (And.intro @c1 (And.intro @c2 (And.intro @hcm @Tryz.results166))) ?_;try exact ⟨⟩
  ·have c2 : decide (a.length < b.length) = false := by simpa using hlt
   have hcm : cmpD a b = 1 := by unfold cmpD; rw [if_neg hl, if_neg hlt]
   refine gT1 (And.intro @c1 (And.intro @c2 (And.intro @hcm @Tryz.results166))) ?_;try exact ⟨⟩
end Go.Proofs.G
namespace Go.Proofs.G
open Go Go.Ab
open Nat (reduceMul reduceEqDiff reduceAdd)
set_option maxRecDepth 100000
def plusSt (a b : List Nat) : Nat → List Nat × Nat
 | 0 => ([], 0)
 | k + 1 => ((plusSt a b k).1 ++ [((plusSt a b k).2 + a.getD k 0 + b.getD k 0) % 65536], ((plusSt a b k).2 + a.getD k 0 + b.getD k 0) / 65536)
def plusD (a b : List Nat) : List Nat := if (plusSt a b (max a.length b.length)).2 = 0 then (plusSt a b (max a.length b.length)).1 else (plusSt a b (max a.length b.length + 1)).1
theorem plusSt_len (a b : List Nat) : ∀ k, (plusSt a b k).1.length = k
 | 0 => rfl
 | k + 1 => by rw [plusSt, List.length_append, plusSt_len a b k]; rfl
theorem plusSt_lt (a b : List Nat) : ∀ k, ∀ x ∈ (plusSt a b k).1, x < 65536
 | 0 => fun x hx => by cases hx
 | k + 1 => fun x hx => by
  rw [plusSt] at hx
  rcases List.mem_append.1 hx with hx | hx
  ·exact plusSt_lt a b k x hx
  ·rw [List.mem_singleton] at hx; subst hx; omega
theorem plusSt_carry {a b : List Nat} (ha : ∀ k, a.getD k 0 < 65536) (hb : ∀ k, b.getD k 0 < 65536) : ∀ k, (plusSt a b k).2 ≤ 1
 | 0 => Nat.zero_le _
 | k + 1 => by
  have := plusSt_carry ha hb k
  have := ha k
  have := hb k
  rw [plusSt]
  show _ / 65536 ≤ 1
  omega
theorem plusD_lt (a b : List Nat) : ∀ x ∈ plusD a b, x < 65536 := by
 unfold plusD
 split <;> exact plusSt_lt a b _
theorem plusD_len (a b : List Nat) : (plusD a b).length ≤ max a.length b.length + 1 := by
 unfold plusD
 split <;> rw [plusSt_len] <;> omega
theorem getD_out {l : List Nat} {k : Nat} (h : ¬ k < l.length) : l.getD k 0 = 0 := by simp [List.getD, List.getElem?_eq_none (Nat.not_lt.1 h)]
set_option maxHeartbeats 4000000 in
theorem plus_ok {σ : St} {v w : Value} {a b : List Nat} (ha : Dg σ v a) (hb : Dg σ w b) (la : a.length ≤ 1000) (lb : b.length ≤ 1000) : Ev (go Tryz.prog HS (.fn 165) [v, w] σ) (fun r => ∃ v' σ', r = ⟨false, v', σ'⟩ ∧ Ext σ σ' ∧ Dg σ' v' (plusD a b)) ⟨⟩ := by
 have dla := dg_lt ha
 have dlb := dg_lt hb
 have hcar := plusSt_carry dla dlb
 obtain ⟨va, vc, vb, vo, vcs, rfl, h1, h2⟩ := ha.use
 obtain ⟨wa, wc, wb, wo, wcs, rfl, k1, k2⟩ := hb.use
 obtain ⟨N, hN⟩ : ∃ N, max a.length b.length = N := ⟨_, rfl⟩
 have hNl : N ≤ 1000 := by omega
 refine ev_go Tryz.func165 rfl rfl ?_
 simp (maxSteps := 1000000) (disch := first | exact dS | fail) only [↓bD2, bU2, reduceMul, reduceEqDiff, reduceAdd, Nat.reduceBEq, reduceIte, splice_succ, ap22, ap23, ap24, ap26, ap33, ap34, ap35, ap38, ap41, ap49, ap74]
 refine ev_loop (fun m fr σ' => ∃ k v, fr.get 5 = some v ∧ fr.get 6 = some (.int .i64 ((plusSt a b k).2 : Nat)) ∧ fr.get 7 = some (.int .i64 (k : Nat)) ∧ fr.get 0 = some (.slice va a.length vc) ∧ fr.get 1 = some (.slice wa b.length wc) ∧ Ext σ σ' ∧
   OL σ.n σ' 1 v ((plusSt a b k).1.map fun (n : Nat) => [.int .i64 (n : Int)]) ∧ k ≤ N + 1 ∧ m = N + 1 - k ∧ (k = N + 1 → (plusSt a b N).2 ≠ 0))
  (fun r => ∃ fr σ' v, r = ⟨.exit 0, fr, σ'⟩ ∧ fr.get 5 = some v ∧ Ext σ σ' ∧ OL σ.n σ' 1 v ((plusD a b).map fun (n : Nat) => [.int .i64 (n : Int)])) (N + 1) ?_ ?_ ?_
 ·exact ⟨0, .slice none 0 0, fR, fR, fR, fR, fR, .refl _, OL.nil, by omega, rfl, fun h => by omega⟩
 ·rintro m fr σ' ⟨k, v, g5, g6, g7, g0, g1, hE, ho, hk, rfl, hk2⟩
  obtain ⟨c, hc⟩ : ∃ c, (plusSt a b k).2 = c := ⟨_, rfl⟩
  have hc1 := hcar k
  rw [hc] at g6 hc1
  have hst : (plusSt a b (k + 1)).1 = (plusSt a b k).1 ++ [(c + a.getD k 0 + b.getD k 0) % 65536] := by rw [plusSt, hc]
  have hst2 : (plusSt a b (k + 1)).2 = (c + a.getD k 0 + b.getD k 0) / 65536 := by rw [plusSt, hc]
  have hlen := plusSt_len a b k
  have xl := dla k
  have yl := dlb k
  obtain ⟨x, hx⟩ : ∃ x, a.getD k 0 = x := ⟨_, rfl⟩
  obtain ⟨y, hy⟩ : ∃ y, b.getD k 0 = y := ⟨_, rfl⟩
  rw [hx, hy] at hst hst2
  rw [hx] at xl
  rw [hy] at yl
  by_cases hgo : k < a.length ∨ k < b.length ∨ 0 < c
  ·obtain ⟨D, hD⟩ : ∃ D, c + x + y = D := ⟨_, rfl⟩
   rw [hD] at hst hst2
   have f1 : (D : Int).tmod 65536 = ((D % 65536 : Nat) : Int) := rfl
   have f2 : IntKind.i64.wrap ((D : Int).tdiv 65536) = ((D / 65536 : Nat) : Int) := by rw [show (D : Int).tdiv 65536 = ((D / 65536 : Nat) : Int) from rfl]; exact wrap64_in (by omega) (by omega)
   have hkN : k ≤ N := by
    rcases Nat.lt_or_ge N k with h | h
    ·exfalso
     obtain rfl : k = N + 1 := by omega
     have h3 := hk2 rfl
     have h4 := hcar N
     have h5 : c = 0 := by
      rw [← hc, plusSt, getD_out (by omega), getD_out (by omega)]
      show (_ + 0 + 0) / 65536 = 0
      omega
     omega
    ·exact h
   have hnext : k + 1 = N + 1 → (plusSt a b N).2 ≠ 0 := fun h => by
    obtain rfl : k = N := by omega
    rw [hc]
    omega
   have hoN : OL σ.n (σ'.new [.int .i64 ((D % 65536 : Nat) : Int)]) 1 v ((plusSt a b k).1.map fun (n : Nat) => [.int .i64 (n : Int)]) := OL.ext ho (.new _ _)
   have en := hE.n
   have hwk : wrapF .i64 ((k : Int) + 1) = ((k + 1 : Nat) : Int) := wrap_in (by omega) (by omega)
   have q1 : c = 0 → decide ((0 : Int) < (c : Int)) = false := fun h => by rw [decide_eq_false_iff_not]; omega
   have q2 : 0 < c → decide ((0 : Int) < (c : Int)) = true := fun h => by rw [decide_eq_true_iff]; omega
   by_cases hka : k < a.length
   ·by_cases hkb : k < b.length
    ·have ca : decide (k < a.length) = true := by simpa using hka
     obtain ⟨x', hx'⟩ := at_some hka
     obtain rfl : x' = x := by rw [← hx, getD_at hx']
     obtain ⟨sp, rfl, l3, l4, -, -⟩ := h1 (by omega)
     have l5 : σ'.row vb = some vcs := by rw [hE.row l3]; exact l4
     have l7 := h2 k _ hx'
     have cb : decide (k < b.length) = true := by simpa using hkb
     obtain ⟨y', hy'⟩ := at_some hkb
     obtain rfl : y' = y := by rw [← hy, getD_at hy']
     obtain ⟨sp', rfl, l3', l4', -, -⟩ := k1 (by omega)
     have l5' : σ'.row wb = some wcs := by rw [hE.row l3']; exact l4'
     have l7' := k2 k _ hy'
     have hs1 : wrapF .i64 ((c : Int) + (x' : Int)) = (c : Int) + (x' : Int) := wrap_in (by omega) (by omega)
     have hs2 : wrapF .i64 ((c : Int) + (x' : Int) + (y' : Int)) = (D : Int) := by rw [wrap_in (by omega) (by omega)]; omega
     simp (maxSteps := 1000000) (disch := first | exact dS | fail) only [↓bD2, bU2, reduceMul, reduceEqDiff, reduceAdd, Nat.reduceBEq, reduceIte, splice_succ, ap22, ap23, ap24, ap26, ap33, ap34, ap35, ap38, ap41, ap49, ap74, g5, g6, g7, g0, g1, ca, cb, yu_t, yu_f, l5, l7, l5', l7', hs1, hs2, f1, f2]
     refine ev_append (row := [.int .i64 ((D % 65536 : Nat) : Int)]) (fun _ _ _ _ => ap25) hoN (row_new_same (Nat.le_refl _) (Nat.le_refl _)) (sub_full (by simp) (by simp)) (by rw [List.length_map]; omega) (by simp only [new_n] at en ⊢; omega) ?_
     rintro v' σ8 ho' hA -
     simp (maxSteps := 1000000) (disch := first | exact dS | fail) only [↓bD2, bU2, reduceMul, reduceEqDiff, reduceAdd, Nat.reduceBEq, reduceIte, splice_succ, ap22, ap23, ap24, ap26, ap33, ap34, ap35, ap38, ap41, ap49, ap74, g5, g6, g7, g0, g1, f1, f2, hwk, lp_normal]
     exact ⟨N + 1 - (k + 1), by omega, k + 1, v', rfl, by rw [hst2], rfl, trivial, trivial, hA.ext (hE.new' _) hoN (Nat.le_refl _), by rw [hst, List.map_append]; exact ho', by omega, rfl, hnext⟩
    ·have ca : decide (k < a.length) = true := by simpa using hka
     obtain ⟨x', hx'⟩ := at_some hka
     obtain rfl : x' = x := by rw [← hx, getD_at hx']
     obtain ⟨sp, rfl, l3, l4, -, -⟩ := h1 (by omega)
     have l5 : σ'.row vb = some vcs := by rw [hE.row l3]; exact l4
     have l7 := h2 k _ hx'
     have cb : decide (k < b.length) = false := by simpa using hkb
     obtain rfl : 0 = y := by rw [← hy, getD_out hkb]
     have hs1 : wrapF .i64 ((c : Int) + (x' : Int)) = (D : Int) := by rw [wrap_in (by omega) (by omega)]; omega
     simp (maxSteps := 1000000) (disch := first | exact dS | fail) only [↓bD2, bU2, reduceMul, reduceEqDiff, reduceAdd, Nat.reduceBEq, reduceIte, splice_succ, ap22, ap23, ap24, ap26, ap33, ap34, ap35, ap38, ap41, ap49, ap74, g5, g6, g7, g0, g1, ca, cb, yu_t, yu_f, l5, l7, hs1, f1, f2]
     refine ev_append (row := [.int .i64 ((D % 65536 : Nat) : Int)]) (fun _ _ _ _ => ap25) hoN (row_new_same (Nat.le_refl _) (Nat.le_refl _)) (sub_full (by simp) (by simp)) (by rw [List.length_map]; omega) (by simp only [new_n] at en ⊢; omega) ?_
     rintro v' σ8 ho' hA -
     simp (maxSteps := 1000000) (disch := first | exact dS | fail) only [↓bD2, bU2, reduceMul, reduceEqDiff, reduceAdd, Nat.reduceBEq, reduceIte, splice_succ, ap22, ap23, ap24, ap26, ap33, ap34, ap35, ap38, ap41, ap49, ap74, g5, g6, g7, g0, g1, f1, f2, hwk, lp_normal]
     exact ⟨N + 1 - (k + 1), by omega, k + 1, v', rfl, by rw [hst2], rfl, trivial, trivial, hA.ext (hE.new' _) hoN (Nat.le_refl _), by rw [hst, List.map_append]; exact ho', by omega, rfl, hnext⟩
   ·by_cases hkb : k < b.length
    ·have ca : decide (k < a.length) = false := by simpa using hka
     obtain rfl : 0 = x := by rw [← hx, getD_out hka]
     have cb : decide (k < b.length) = true := by simpa using hkb
     obtain ⟨y', hy'⟩ := at_some hkb
     obtain rfl : y' = y := by rw [← hy, getD_at hy']
     obtain ⟨sp', rfl, l3', l4', -, -⟩ := k1 (by omega)
     have l5' : σ'.row wb = some wcs := by rw [hE.row l3']; exact l4'
     have l7' := k2 k _ hy'
     have hs1 : wrapF .i64 ((c : Int) + (y' : Int)) = (D : Int) := by rw [wrap_in (by omega) (by omega)]; omega
     simp (maxSteps := 1000000) (disch := first | exact dS | fail) only [↓bD2, bU2, reduceMul, reduceEqDiff, reduceAdd, Nat.reduceBEq, reduceIte, splice_succ, ap22, ap23, ap24, ap26, ap33, ap34, ap35, ap38, ap41, ap49, ap74, g5, g6, g7, g0, g1, ca, cb, yu_t, yu_f, l5', l7', hs1, f1, f2]
     refine ev_append (row := [.int .i64 ((D % 65536 : Nat) : Int)]) (fun _ _ _ _ => ap25) hoN (row_new_same (Nat.le_refl _) (Nat.le_refl _)) (sub_full (by simp) (by simp)) (by rw [List.length_map]; omega) (by simp only [new_n] at en ⊢; omega) ?_
     rintro v' σ8 ho' hA -
     simp (maxSteps := 1000000) (disch := first | exact dS | fail) only [↓bD2, bU2, reduceMul, reduceEqDiff, reduceAdd, Nat.reduceBEq, reduceIte, splice_succ, ap22, ap23, ap24, ap26, ap33, ap34, ap35, ap38, ap41, ap49, ap74, g5, g6, g7, g0, g1, f1, f2, hwk, lp_normal]
     exact ⟨N + 1 - (k + 1), by omega, k + 1, v', rfl, by rw [hst2], rfl, trivial, trivial, hA.ext (hE.new' _) hoN (Nat.le_refl _), by rw [hst, List.map_append]; exact ho', by omega, rfl, hnext⟩
    ·have ca : decide (k < a.length) = false := by simpa using hka
     obtain rfl : 0 = x := by rw [← hx, getD_out hka]
     have cb : decide (k < b.length) = false := by simpa using hkb
     obtain rfl : 0 = y := by rw [← hy, getD_out hkb]
     have hs1 : (c : Int) = (D : Int) := by omega
     have hq2 := q2 (by omega)
     have f3 : (c : Int).tmod 65536 = ((D % 65536 : Nat) : Int) := by rw [hs1]; rfl
     have f4 : IntKind.i64.wrap ((c : Int).tdiv 65536) = ((D / 65536 : Nat) : Int) := by rw [hs1]; exact f2
     simp (maxSteps := 1000000) (disch := first | exact dS | fail) only [↓bD2, bU2, reduceMul, reduceEqDiff, reduceAdd, Nat.reduceBEq, reduceIte, splice_succ, ap22, ap23, ap24, ap26, ap33, ap34, ap35, ap38, ap41, ap49, ap74, g5, g6, g7, g0, g1, ca, cb, yu_t, yu_f, hq2, f3, f4, f1, f2]
     refine ev_append (row := [.int .i64 ((D % 65536 : Nat) : Int)]) (fun _ _ _ _ => ap25) hoN (row_new_same (Nat.le_refl _) (Nat.le_refl _)) (sub_full (by simp) (by simp)) (by rw [List.length_map]; omega) (by simp only [new_n] at en ⊢; omega) ?_
     rintro v' σ8 ho' hA -
     simp (maxSteps := 1000000) (disch := first | exact dS | fail) only [↓bD2, bU2, reduceMul, reduceEqDiff, reduceAdd, Nat.reduceBEq, reduceIte, splice_succ, ap22, ap23, ap24, ap26, ap33, ap34, ap35, ap38, ap41, ap49, ap74, g5, g6, g7, g0, g1, f1, f2, f4, hwk, lp_normal]
     exact ⟨N + 1 - (k + 1), by omega, k + 1, v', rfl, by rw [hst2], rfl, trivial, trivial, hA.ext (hE.new' _) hoN (Nat.le_refl _), by rw [hst, List.map_append]; exact ho', by omega, rfl, hnext⟩
  ·have ca : decide (k < a.length) = false := by rw [decide_eq_false_iff_not]; omega
   have cb : decide (k < b.length) = false := by rw [decide_eq_false_iff_not]; omega
   obtain rfl : c = 0 := by omega
   have cc : decide ((0 : Int) < ((0 : Nat) : Int)) = false := by decide
   simp (maxSteps := 1000000) (disch := first | exact dS | fail) only [↓bD2, bU2, reduceMul, reduceEqDiff, reduceAdd, Nat.reduceBEq, reduceIte, splice_succ, ap22, ap23, ap24, ap26, ap33, ap34, ap35, ap38, ap41, ap49, ap74, g5, g6, g7, g0, g1, ca, cb, cc, yu_t, yu_f, lp_exit]
   refine ⟨_, _, v, rfl, fR1 g5, hE, ?_⟩
   have : plusD a b = (plusSt a b k).1 := by
    unfold plusD
    rw [hN]
    by_cases hkN : k = N + 1
    ·subst hkN; rw [if_neg (hk2 rfl)]
    ·obtain rfl : k = N := by omega
     rw [if_pos hc]
   rw [this]
   exact ho
 rintro r ⟨fr, σ', v, rfl, g5, hE, ho⟩
 refine gT1 (And.intro @g5 @Tryz.results165) ?_;try exact ⟨⟩
 exact ⟨_, _, rfl, hE, Dg.of_ol ho (plusD_lt a b)⟩
end Go.Proofs.G
namespace Go.Proofs.G
open Go Go.Ab
open Nat (reduceMul reduceEqDiff reduceAdd)
set_option maxRecDepth 100000
def minusSt (a b : List Nat) : Nat → List Nat × Nat
 | 0 => ([], 0)
 | k + 1 => if a.getD k 0 < (minusSt a b k).2 + b.getD k 0 then ((minusSt a b k).1 ++ [a.getD k 0 + 65536 - ((minusSt a b k).2 + b.getD k 0)], 1) else ((minusSt a b k).1 ++ [a.getD k 0 - ((minusSt a b k).2 + b.getD k 0)], 0)
def minusD (a b : List Nat) : List Nat := trimD (minusSt a b a.length).1
theorem minusSt_len (a b : List Nat) : ∀ k, (minusSt a b k).1.length = k
 | 0 => rfl
 | k + 1 => by
  rw [minusSt]
  split <;> rw [List.length_append, minusSt_len a b k] <;> rfl
theorem minusSt_borrow (a b : List Nat) : ∀ k, (minusSt a b k).2 ≤ 1
 | 0 => Nat.zero_le _
 | k + 1 => by
  rw [minusSt]
  split
  ·exact Nat.le_refl _
  ·exact Nat.zero_le _
theorem minusSt_lt {a : List Nat} (ha : ∀ k, a.getD k 0 < 65536) (b : List Nat) : ∀ k, ∀ x ∈ (minusSt a b k).1, x < 65536
 | 0 => fun x hx => by cases hx
 | k + 1 => fun x hx => by
  have := ha k
  rw [minusSt] at hx
  split at hx
  ·rcases List.mem_append.1 hx with hx | hx
   ·exact minusSt_lt ha b k x hx
   ·rw [List.mem_singleton] at hx; subst hx; omega
  ·rcases List.mem_append.1 hx with hx | hx
   ·exact minusSt_lt ha b k x hx
   ·rw [List.mem_singleton] at hx; subst hx; omega
theorem trimN_len (l : List Nat) : ∀ k, (trimN l k).length ≤ k
 | 0 => Nat.le_refl _
 | k + 1 => by
  rw [trimN]
  split
  ·have := trimN_len l k; omega
  ·rw [List.length_take]; omega
theorem trimD_len (l : List Nat) : (trimD l).length ≤ l.length := trimN_len l _
theorem minusD_len (a b : List Nat) : (minusD a b).length ≤ a.length := by
 have := trimD_len (minusSt a b a.length).1
 rw [minusSt_len] at this
 exact this
set_option maxHeartbeats 4000000 in
theorem minus_ok {σ : St} {v w : Value} {a b : List Nat} (ha : Dg σ v a) (hb : Dg σ w b) (la : a.length ≤ 1000) (lb : b.length ≤ 1000) : Ev (go Tryz.prog HS (.fn 167) [v, w] σ) (fun r => ∃ v' σ', r = ⟨false, v', σ'⟩ ∧ Ext σ σ' ∧ Dg σ' v' (minusD a b)) ⟨⟩ := by
 have dla := dg_lt ha
 have dlb := dg_lt hb
 have hbor := minusSt_borrow a b
 obtain ⟨va, vc, vb, vo, vcs, rfl, h1, h2⟩ := ha.use
 obtain ⟨wa, wc, wb, wo, wcs, rfl, k1, k2⟩ := hb.use
 refine ev_go Tryz.func167 rfl rfl ?_
 simp (maxSteps := 1000000) (disch := first | exact dS | fail) only [↓bD2, bU2, reduceMul, reduceEqDiff, reduceAdd, Nat.reduceBEq, reduceIte, splice_succ, ap22, ap23, ap24, ap26, ap33, ap34, ap35, ap38, ap41, ap49, ap74]
 refine ev_count a.length (fun k fr σ' => ∃ v, fr.get 5 = some v ∧ fr.get 6 = some (.int .i64 ((minusSt a b k).2 : Nat)) ∧ fr.get 7 = some (.int .i64 (k : Nat)) ∧ fr.get 0 = some (.slice va a.length vc) ∧ fr.get 1 = some (.slice wa b.length wc) ∧ Ext σ σ' ∧
   OL σ.n σ' 1 v ((minusSt a b k).1.map fun (n : Nat) => [.int .i64 (n : Int)]))
  (fun r => ∃ fr σ' v, r = ⟨.exit 0, fr, σ'⟩ ∧ fr.get 5 = some v ∧ Ext σ σ' ∧ OL σ.n σ' 1 v ((minusSt a b a.length).1.map fun (n : Nat) => [.int .i64 (n : Int)])) ?_ ?_ ?_ ?_
 ·exact ⟨.slice none 0 0, fR, fR, fR, fR, fR, .refl _, OL.nil⟩
 ·rintro k fr σ' hka ⟨v, g5, g6, g7, g0, g1, hE, ho⟩
  obtain ⟨c, hc⟩ : ∃ c, (minusSt a b k).2 = c := ⟨_, rfl⟩
  have hc1 := hbor k
  rw [hc] at g6 hc1
  have hlen := minusSt_len a b k
  have xl := dla k
  have yl := dlb k
  have ca : decide (k < a.length) = true := by simpa using hka
  obtain ⟨x, hx'⟩ := at_some hka
  have hx := getD_at hx'
  obtain ⟨y, hy⟩ : ∃ y, b.getD k 0 = y := ⟨_, rfl⟩
  rw [hx] at xl
  rw [hy] at yl
  obtain ⟨sp, rfl, l3, l4, -, -⟩ := h1 (by omega)
  have l5 : σ'.row vb = some vcs := by rw [hE.row l3]; exact l4
  have l7 := h2 k _ hx'
  have hst : minusSt a b (k + 1) = if x < c + y then ((minusSt a b k).1 ++ [x + 65536 - (c + y)], 1) else ((minusSt a b k).1 ++ [x - (c + y)], 0) := by rw [minusSt, hc, hx, hy]
  have en := hE.n
  have hs0 : wrapF .i64 ((x : Int) - (c : Int)) = (x : Int) - (c : Int) := wrap_in (by omega) (by omega)
  by_cases hkb : k < b.length
  ·by_cases hneg : x < c + y
   ·have cb : decide (k < b.length) = true := by simpa using hkb
    obtain ⟨y', hy'⟩ := at_some hkb
    obtain rfl : y' = y := by rw [← hy, getD_at hy']
    obtain ⟨sp', rfl, l3', l4', -, -⟩ := k1 (by omega)
    have l5' : σ'.row wb = some wcs := by rw [hE.row l3']; exact l4'
    have l7' := k2 k _ hy'
    have hs1 : wrapF .i64 ((x : Int) - (c : Int) - (y' : Int)) = (x : Int) - (c : Int) - (y' : Int) := wrap_in (by omega) (by omega)
    obtain ⟨D, hD⟩ : ∃ D, x + 65536 - (c + y') = D := ⟨_, rfl⟩
    have c3 : decide ((x : Int) - (c : Int) - (y' : Int) < 0) = true := by rw [decide_eq_true_iff]; omega
    have hs3 : wrapF .i64 ((x : Int) - (c : Int) - (y' : Int) + 65536) = (D : Int) := by rw [wrap_in (by omega) (by omega)]; omega
    rw [if_pos hneg, hD] at hst
    have hoN : OL σ.n (σ'.new [.int .i64 (D : Int)]) 1 v ((minusSt a b k).1.map fun (n : Nat) => [.int .i64 (n : Int)]) := OL.ext ho (.new _ _)
    simp (maxSteps := 1000000) (disch := first | exact dS | fail) only [↓bD2, bU2, reduceMul, reduceEqDiff, reduceAdd, Nat.reduceBEq, reduceIte, splice_succ, ap22, ap23, ap24, ap26, ap33, ap34, ap35, ap38, ap41, ap49, ap74, g5, g6, g7, g0, g1, ca, cb, l5, l7, hs0, l5', l7', hs1, c3, hs3]
    refine ev_append (row := [.int .i64 (D : Int)]) (fun _ _ _ _ => ap25) hoN (row_new_same (Nat.le_refl _) (Nat.le_refl _)) (sub_full (by simp) (by simp)) (by rw [List.length_map]; omega) (by simp only [new_n] at en ⊢; omega) ?_
    rintro v' σ8 ho' hA -
    simp (maxSteps := 1000000) (disch := first | exact dS | fail) only [↓bD2, bU2, reduceMul, reduceEqDiff, reduceAdd, Nat.reduceBEq, reduceIte, splice_succ, ap22, ap23, ap24, ap26, ap33, ap34, ap35, ap38, ap41, ap49, ap74, g5, g6, g7, g0, g1]
    exact ⟨v', by first | rfl | trivial, by rw [hst]; rfl, by first | trivial | rfl, by first | trivial | rfl, by first | trivial | rfl, hA.ext (hE.new' _) hoN (Nat.le_refl _), by rw [hst, List.map_append]; exact ho'⟩
   ·have cb : decide (k < b.length) = true := by simpa using hkb
    obtain ⟨y', hy'⟩ := at_some hkb
    obtain rfl : y' = y := by rw [← hy, getD_at hy']
    obtain ⟨sp', rfl, l3', l4', -, -⟩ := k1 (by omega)
    have l5' : σ'.row wb = some wcs := by rw [hE.row l3']; exact l4'
    have l7' := k2 k _ hy'
    have hs1 : wrapF .i64 ((x : Int) - (c : Int) - (y' : Int)) = (x : Int) - (c : Int) - (y' : Int) := wrap_in (by omega) (by omega)
    obtain ⟨D, hD⟩ : ∃ D, x - (c + y') = D := ⟨_, rfl⟩
    have c3 : decide ((x : Int) - (c : Int) - (y' : Int) < 0) = false := by rw [decide_eq_false_iff_not]; omega
    have hs3 : (x : Int) - (c : Int) - (y' : Int) = (D : Int) := by omega
    rw [if_neg hneg, hD] at hst
    have c4 : decide ((D : Int) < 0) = false := by rw [decide_eq_false_iff_not]; omega
    have hoN : OL σ.n (σ'.new [.int .i64 (D : Int)]) 1 v ((minusSt a b k).1.map fun (n : Nat) => [.int .i64 (n : Int)]) := OL.ext ho (.new _ _)
    simp (maxSteps := 1000000) (disch := first | exact dS | fail) only [↓bD2, bU2, reduceMul, reduceEqDiff, reduceAdd, Nat.reduceBEq, reduceIte, splice_succ, ap22, ap23, ap24, ap26, ap33, ap34, ap35, ap38, ap41, ap49, ap74, g5, g6, g7, g0, g1, ca, cb, l5, l7, hs0, l5', l7', hs1, c3, hs3, c4]
    refine ev_append (row := [.int .i64 (D : Int)]) (fun _ _ _ _ => ap25) hoN (row_new_same (Nat.le_refl _) (Nat.le_refl _)) (sub_full (by simp) (by simp)) (by rw [List.length_map]; omega) (by simp only [new_n] at en ⊢; omega) ?_
    rintro v' σ8 ho' hA -
    simp (maxSteps := 1000000) (disch := first | exact dS | fail) only [↓bD2, bU2, reduceMul, reduceEqDiff, reduceAdd, Nat.reduceBEq, reduceIte, splice_succ, ap22, ap23, ap24, ap26, ap33, ap34, ap35, ap38, ap41, ap49, ap74, g5, g6, g7, g0, g1]
    exact ⟨v', by first | rfl | trivial, by rw [hst]; rfl, by first | trivial | rfl, by first | trivial | rfl, by first | trivial | rfl, hA.ext (hE.new' _) hoN (Nat.le_refl _), by rw [hst, List.map_append]; exact ho'⟩
  ·by_cases hneg : x < c + y
   ·have cb : decide (k < b.length) = false := by simpa using hkb
    obtain rfl : 0 = y := by rw [← hy, getD_out hkb]
    obtain ⟨D, hD⟩ : ∃ D, x + 65536 - (c + 0) = D := ⟨_, rfl⟩
    have c3 : decide ((x : Int) - (c : Int) < 0) = true := by rw [decide_eq_true_iff]; omega
    have hs3 : wrapF .i64 ((x : Int) - (c : Int) + 65536) = (D : Int) := by rw [wrap_in (by omega) (by omega)]; omega
    rw [if_pos hneg, hD] at hst
    have hoN : OL σ.n (σ'.new [.int .i64 (D : Int)]) 1 v ((minusSt a b k).1.map fun (n : Nat) => [.int .i64 (n : Int)]) := OL.ext ho (.new _ _)
    simp (maxSteps := 1000000) (disch := first | exact dS | fail) only [↓bD2, bU2, reduceMul, reduceEqDiff, reduceAdd, Nat.reduceBEq, reduceIte, splice_succ, ap22, ap23, ap24, ap26, ap33, ap34, ap35, ap38, ap41, ap49, ap74, g5, g6, g7, g0, g1, ca, cb, l5, l7, hs0, c3, hs3]
    refine ev_append (row := [.int .i64 (D : Int)]) (fun _ _ _ _ => ap25) hoN (row_new_same (Nat.le_refl _) (Nat.le_refl _)) (sub_full (by simp) (by simp)) (by rw [List.length_map]; omega) (by simp only [new_n] at en ⊢; omega) ?_
    rintro v' σ8 ho' hA -
    simp (maxSteps := 1000000) (disch := first | exact dS | fail) only [↓bD2, bU2, reduceMul, reduceEqDiff, reduceAdd, Nat.reduceBEq, reduceIte, splice_succ, ap22, ap23, ap24, ap26, ap33, ap34, ap35, ap38, ap41, ap49, ap74, g5, g6, g7, g0, g1]
    exact ⟨v', by first | rfl | trivial, by rw [hst]; rfl, by first | trivial | rfl, by first | trivial | rfl, by first | trivial | rfl, hA.ext (hE.new' _) hoN (Nat.le_refl _), by rw [hst, List.map_append]; exact ho'⟩
   ·have cb : decide (k < b.length) = false := by simpa using hkb
    obtain rfl : 0 = y := by rw [← hy, getD_out hkb]
    obtain ⟨D, hD⟩ : ∃ D, x - (c + 0) = D := ⟨_, rfl⟩
    have c3 : decide ((x : Int) - (c : Int) < 0) = false := by rw [decide_eq_false_iff_not]; omega
    have hs3 : (x : Int) - (c : Int) = (D : Int) := by omega
    rw [if_neg hneg, hD] at hst
    have c4 : decide ((D : Int) < 0) = false := by rw [decide_eq_false_iff_not]; omega
    have hoN : OL σ.n (σ'.new [.int .i64 (D : Int)]) 1 v ((minusSt a b k).1.map fun (n : Nat) => [.int .i64 (n : Int)]) := OL.ext ho (.new _ _)
    simp (maxSteps := 1000000) (disch := first | exact dS | fail) only [↓bD2, bU2, reduceMul, reduceEqDiff, reduceAdd, Nat.reduceBEq, reduceIte, splice_succ, ap22, ap23, ap24, ap26, ap33, ap34, ap35, ap38, ap41, ap49, ap74, g5, g6, g7, g0, g1, ca, cb, l5, l7, hs0, c3, hs3, c4]
    refine ev_append (row := [.int .i64 (D : Int)]) (fun _ _ _ _ => ap25) hoN (row_new_same (Nat.le_refl _) (Nat.le_refl _)) (sub_full (by simp) (by simp)) (by rw [List.length_map]; omega) (by simp only [new_n] at en ⊢; omega) ?_
    rintro v' σ8 ho' hA -
    simp (maxSteps := 1000000) (disch := first | exact dS | fail) only [↓bD2, bU2, reduceMul, reduceEqDiff, reduceAdd, Nat.reduceBEq, reduceIte, splice_succ, ap22, ap23, ap24, ap26, ap33, ap34, ap35, ap38, ap41, ap49, ap74, g5, g6, g7, g0, g1]
    exact ⟨v', by first | rfl | trivial, by rw [hst]; rfl, by first | trivial | rfl, by first | trivial | rfl, by first | trivial | rfl, hA.ext (hE.new' _) hoN (Nat.le_refl _), by rw [hst, List.map_append]; exact ho'⟩
 ·rintro fr σ' ⟨v, g5, g6, g7, g0, g1, hE, ho⟩
  simp (maxSteps := 1000000) (disch := first | exact dS | fail) only [↓bD2, bU2, reduceMul, reduceEqDiff, reduceAdd, Nat.reduceBEq, reduceIte, splice_succ, ap22, ap23, ap24, ap26, ap33, ap34, ap35, ap38, ap41, ap49, ap74, g5, g6, g7, g0, g1]
  exact ⟨_, _, v, rfl, fR1 g5, hE, ho⟩
 rintro r ⟨fr, σ', v, rfl, g5, hE, ho⟩
 have hD := Dg.of_ol ho (minusSt_lt dla b _)
 refine gT1 @g5 ?_;try exact ⟨⟩
 refine (trim_dig hD (by rw [minusSt_len]; exact la)).mono ?_
 rintro r ⟨v', rfl, hv'⟩
 refine gT1 @Tryz.results167 ?_;try exact ⟨⟩
 exact ⟨_, _, rfl, hE, hv'⟩
end Go.Proofs.G
namespace Go.Proofs.G
open Go Go.Ab
open Nat (reduceMul reduceEqDiff reduceAdd)
set_option maxRecDepth 100000
def trow (x : Nat) (b : List Nat) (i : Nat) (out : List Nat) : Nat → List Nat × Nat
 | 0 => (out, 0)
 | k + 1 => ((trow x b i out k).1.set (i + k) (((trow x b i out k).1.getD (i + k) 0 + x * b.getD k 0 + (trow x b i out k).2) % 65536), ((trow x b i out k).1.getD (i + k) 0 + x * b.getD k 0 + (trow x b i out k).2) / 65536)
def tall (a b : List Nat) : Nat → List Nat
 | 0 => List.replicate (a.length + b.length) 0
 | i + 1 => (trow (a.getD i 0) b i (tall a b i) b.length).1.set (i + b.length) (trow (a.getD i 0) b i (tall a b i) b.length).2
def timesD (a b : List Nat) : List Nat := trimD (tall a b a.length)
theorem set_lt {l : List Nat} {j y : Nat} (h : ∀ x ∈ l, x < 65536) (hy : y < 65536) : ∀ x ∈ l.set j y, x < 65536 := fun x hx => by
 rcases List.mem_or_eq_of_mem_set hx with hx | rfl
 ·exact h x hx
 ·exact hy
theorem getD_lt {l : List Nat} (h : ∀ x ∈ l, x < 65536) (k : Nat) : l.getD k 0 < 65536 := by
 cases hk : l[k]? with
 | none => simp [List.getD, hk]
 | some x => rw [getD_at hk]; exact h x (List.mem_of_getElem? hk)
theorem trow_len (x : Nat) (b : List Nat) (i : Nat) (out : List Nat) : ∀ k, (trow x b i out k).1.length = out.length
 | 0 => rfl
 | k + 1 => by rw [trow, List.length_set, trow_len x b i out k]
theorem mul_dig {x y : Nat} (hx : x < 65536) (hy : y < 65536) : x * y ≤ 4294836225 := by
 have := Nat.mul_le_mul (Nat.le_of_lt_succ hx) (Nat.le_of_lt_succ hy)
 omega
theorem trow_lt {x : Nat} {b : List Nat} {i : Nat} {out : List Nat} (hx : x < 65536) (hb : ∀ k, b.getD k 0 < 65536) (ho : ∀ x ∈ out, x < 65536) : ∀ k, (∀ z ∈ (trow x b i out k).1, z < 65536) ∧ (trow x b i out k).2 < 65536
 | 0 => ⟨ho, by show 0 < 65536; omega⟩
 | k + 1 => by
  obtain ⟨h1, h2⟩ := trow_lt (i := i) hx hb ho k
  have h3 := getD_lt h1 (i + k)
  have h4 := mul_dig hx (hb k)
  rw [trow]
  exact ⟨set_lt h1 (by omega), by show _ / 65536 < 65536; omega⟩
theorem tall_len (a b : List Nat) : ∀ i, (tall a b i).length = a.length + b.length
 | 0 => by simp [tall]
 | i + 1 => by rw [tall, List.length_set, trow_len, tall_len a b i]
theorem tall_lt {a b : List Nat} (ha : ∀ k, a.getD k 0 < 65536) (hb : ∀ k, b.getD k 0 < 65536) : ∀ i, ∀ x ∈ tall a b i, x < 65536
 | 0 => fun x hx => by
  rw [tall] at hx
  obtain ⟨_, rfl⟩ := List.mem_replicate.1 hx
  omega
 | i + 1 => by
  obtain ⟨h1, h2⟩ := trow_lt (i := i) (ha i) hb (tall_lt ha hb i) b.length
  rw [tall]
  exact set_lt h1 h2
theorem timesD_len (a b : List Nat) : (timesD a b).length ≤ a.length + b.length := by
 have := trimD_len (tall a b a.length)
 rw [tall_len] at this
 exact this
def intN (n : Nat) : Value := .int .i64 (n : Int)
theorem splice_set {l : List Nat} {j y : Nat} (h : j < l.length) : splice (l.map intN) j [intN y] = some ((l.set j y).map intN) := by
 rw [splice_at' (by simp; omega), List.map_set, List.set_eq_take_append_cons_drop, if_pos (by simpa using h)]
 simp
theorem sub_at {l : List Nat} {j : Nat} (h : j < l.length) : sub (l.map intN) j 1 = some [intN (l.getD j 0)] := by
 rw [sub_of (by simp; omega), List.drop_eq_getElem_cons (by simpa using h)]
 simp [List.getD, List.getElem?_eq_getElem h]
theorem rep_intN : ∀ n, rep [intN 0] n = (List.replicate n 0).map intN
 | 0 => rfl
 | n + 1 => by rw [rep_succ, rep_intN n]; rfl
theorem Dg.of_row {σ : St} {b : Nat} {l : List Nat} (hb : b < σ.n) (hr : σ.row b = some (l.map intN)) (h0 : ∀ x ∈ l, x < 65536) : Dg σ (.slice (some ⟨b, 0, none⟩) l.length l.length) l :=
 ⟨h0, .inr ⟨b, 0, none, _, _, rfl, Nat.le_refl _, hb, hr, .inl rfl, fun k x hk => by
  have hlt := (List.getElem?_eq_some_iff.1 hk).1
  rw [Nat.zero_add, sub_at hlt, getD_at hk]; rfl⟩⟩
set_option maxHeartbeats 4000000 in
theorem times_ok {σ : St} {v w : Value} {a b : List Nat} (ha : Dg σ v a) (hb : Dg σ w b) (la : a.length ≤ 400) (lb : b.length ≤ 400) : Ev (go Tryz.prog HS (.fn 168) [v, w] σ) (fun r => ∃ v' σ', r = ⟨false, v', σ'⟩ ∧ Ext σ σ' ∧ Dg σ' v' (timesD a b)) ⟨⟩ := by
 have dla := dg_lt ha
 have dlb := dg_lt hb
 obtain ⟨va, vc, vb, vo, vcs, rfl, h1, h2⟩ := ha.use
 obtain ⟨wa, wc, wb, wo, wcs, rfl, k1, k2⟩ := hb.use
 have hsum : wrapF .i64 ((a.length : Int) + (b.length : Int)) = ((a.length + b.length : Nat) : Int) := by rw [wrap_in (by omega) (by omega)]; omega
 have hrep : rep [.int .i64 0] (a.length + b.length) = (tall a b 0).map intN := rep_intN _
 refine ev_go Tryz.func168 rfl rfl ?_
 simp (maxSteps := 1000000) (disch := first | exact dS | fail) only [↓bD2, bU2, reduceMul, reduceEqDiff, reduceAdd, Nat.reduceBEq, reduceIte, splice_succ, ap22, ap23, ap24, ap26, ap33, ap34, ap35, ap38, ap41, ap49, ap74, hsum, hrep]
 refine ev_count a.length (fun i fr σ' => fr.get 5 = some (.slice (some ⟨σ.n, 0, none⟩) (a.length + b.length) (a.length + b.length)) ∧ fr.get 6 = some (.int .i64 (i : Nat)) ∧ fr.get 0 = some (.slice va a.length vc) ∧ fr.get 1 = some (.slice wa b.length wc) ∧ Ext σ σ' ∧ σ.n < σ'.n ∧ σ'.orow σ.n = some ((tall a b i).map intN))
  (fun r => ∃ fr σ', r = ⟨.exit 0, fr, σ'⟩ ∧ fr.get 5 = some (.slice (some ⟨σ.n, 0, none⟩) (a.length + b.length) (a.length + b.length)) ∧ Ext σ σ' ∧ σ.n < σ'.n ∧ σ'.orow σ.n = some ((tall a b a.length).map intN)) ?_ ?_ ?_ ?_
 ·exact ⟨fR, fR, fR, fR, eX, by simp, cL⟩
 ·rintro i fr σ1 hi ⟨g5, g6, g0, g1, hE1, hn1, ho1⟩
  have ca : decide (i < a.length) = true := by simpa using hi
  obtain ⟨x, hx'⟩ := at_some hi
  have hx := getD_at hx'
  have xl := dla i
  rw [hx] at xl
  obtain ⟨sp, rfl, l3, l4, -, -⟩ := h1 (by omega)
  have l7 := h2 i _ hx'
  obtain ⟨tr, htr⟩ : ∃ tr, trow x b i (tall a b i) = tr := ⟨_, rfl⟩
  have hlt : ∀ k, (∀ z ∈ (tr k).1, z < 65536) ∧ (tr k).2 < 65536 := fun k => by rw [← htr]; exact trow_lt xl dlb (tall_lt dla dlb i) k
  have hln : ∀ k, (tr k).1.length = a.length + b.length := fun k => by rw [← htr, trow_len, tall_len]
  have ht0 : (tr 0) = (tall a b i, 0) := by rw [← htr]; rfl
  have hts : ∀ k, tr (k + 1) = ((tr k).1.set (i + k) (((tr k).1.getD (i + k) 0 + x * b.getD k 0 + (tr k).2) % 65536), ((tr k).1.getD (i + k) 0 + x * b.getD k 0 + (tr k).2) / 65536) := fun k => by rw [← htr]; rfl
  simp (maxSteps := 1000000) (disch := first | exact dS | fail) only [↓bD2, bU2, reduceMul, reduceEqDiff, reduceAdd, Nat.reduceBEq, reduceIte, splice_succ, ap22, ap23, ap24, ap26, ap33, ap34, ap35, ap38, ap41, ap49, ap74, g5, g6, g0, g1, ca]
  refine ev_count b.length (fun k fr σ' => fr.get 5 = some (.slice (some ⟨σ.n, 0, none⟩) (a.length + b.length) (a.length + b.length)) ∧ fr.get 6 = some (.int .i64 (i : Nat)) ∧ fr.get 7 = some (.int .i64 ((tr k).2 : Nat)) ∧ fr.get 8 = some (.int .i64 (k : Nat)) ∧ fr.get 0 = some (.slice (some ⟨vb, vo, sp⟩) a.length vc) ∧ fr.get 1 = some (.slice wa b.length wc) ∧ Ext σ σ' ∧ σ.n < σ'.n ∧ σ'.orow σ.n = some ((tr k).1.map intN))
   (fun r => ∃ fr σ', r = ⟨.exit 2, fr, σ'⟩ ∧ fr.get 5 = some (.slice (some ⟨σ.n, 0, none⟩) (a.length + b.length) (a.length + b.length)) ∧ fr.get 6 = some (.int .i64 (i : Nat)) ∧ fr.get 7 = some (.int .i64 ((tr b.length).2 : Nat)) ∧ fr.get 0 = some (.slice (some ⟨vb, vo, sp⟩) a.length vc) ∧ fr.get 1 = some (.slice wa b.length wc) ∧ Ext σ σ' ∧ σ.n < σ'.n ∧ σ'.orow σ.n = some ((tr b.length).1.map intN)) ?_ ?_ ?_ ?_
  ·exact ⟨fR1 g5, fR1 g6, by rw [ht0]; exact fR, fR, fR1 g0, fR1 g1, hE1, hn1, by rw [ht0]; exact ho1⟩
  ·rintro k fr σ' hk ⟨g5, g6, g7, g8, g0, g1, hE, hn, ho⟩
   have cb : decide (k < b.length) = true := by simpa using hk
   obtain ⟨y, hy'⟩ := at_some hk
   have hy := getD_at hy'
   have yl := dlb k
   rw [hy] at yl
   obtain ⟨sp', rfl, l3', l4', -, -⟩ := k1 (by omega)
   have l5 : σ'.row vb = some vcs := by rw [hE.row l3]; exact l4
   have l5' : σ'.row wb = some wcs := by rw [hE.row l3']; exact l4'
   have l7' := k2 k _ hy'
   have hij : i + k < (tr k).1.length := by rw [hln]; omega
   obtain ⟨ts, hts'⟩ : ∃ ts, (tr k).1 = ts := ⟨_, rfl⟩
   obtain ⟨c, hc⟩ : ∃ c, (tr k).2 = c := ⟨_, rfl⟩
   have hcl := (hlt k).2
   have htl := (hlt k).1
   have hst := hts k
   have hll := hln k
   rw [hts'] at ho hij htl hst hll
   rw [hc] at g7 hcl hst
   obtain ⟨o, hod⟩ : ∃ o, ts.getD (i + k) 0 = o := ⟨_, rfl⟩
   have ol : o < 65536 := by rw [← hod]; exact getD_lt htl _
   obtain ⟨Pr, hP⟩ : ∃ Pr, x * y = Pr := ⟨_, rfl⟩
   have hPl : Pr ≤ 4294836225 := by rw [← hP]; exact mul_dig xl yl
   have hPi : (x : Int) * (y : Int) = (Pr : Int) := by rw [← hP]; exact (Int.natCast_mul x y).symm
   obtain ⟨D, hD⟩ : ∃ D, o + Pr + c = D := ⟨_, rfl⟩
   rw [hy, hod, hP, hD] at hst
   have so := sub_at hij
   rw [hod] at so
   have ho' := row_of ho
   have hix : wrapF .i64 ((i : Int) + (k : Int)) = ((i + k : Nat) : Int) := by rw [wrap_in (by omega) (by omega)]; omega
   have hbl : Nat.blt (i + k) (a.length + b.length) = true := blt_of (by omega)
   have f0 : wrapF .i64 (Pr : Int) = (Pr : Int) := wrap_in (by omega) (by omega)
   have f1 : wrapF .i64 ((o : Int) + (Pr : Int)) = (o : Int) + (Pr : Int) := wrap_in (by omega) (by omega)
   have f2 : wrapF .i64 ((o : Int) + (Pr : Int) + (c : Int)) = (D : Int) := by rw [wrap_in (by omega) (by omega)]; omega
   have f3 : (D : Int).tmod 65536 = ((D % 65536 : Nat) : Int) := rfl
   have f4 : IntKind.i64.wrap ((D : Int).tdiv 65536) = ((D / 65536 : Nat) : Int) := by rw [show (D : Int).tdiv 65536 = ((D / 65536 : Nat) : Int) from rfl]; exact wrap64_in (by omega) (by omega)
   have f5 : intN o = .int .i64 (o : Int) := rfl
   have f6 : splice (ts.map intN) (i + k) [.int .i64 ((D % 65536 : Nat) : Int)] = some ((ts.set (i + k) (D % 65536)).map intN) := splice_set hij
   simp (maxSteps := 1000000) (disch := first | exact dS | fail) only [↓bD2, bU2, reduceMul, reduceEqDiff, reduceAdd, Nat.reduceBEq, reduceIte, splice_succ, ap22, ap23, ap24, ap26, ap33, ap34, ap35, ap38, ap41, ap49, ap74, g5, g6, g7, g8, g0, g1, cb, hix, hbl, ho', so, f5, l5, l7, l5', l7', hPi, f0, f1, f2, f3, f4, ho, f6]
   refine ⟨trivial, trivial, by rw [hst], trivial, trivial, trivial, hE.upd (Nat.le_refl _) _, by simpa using hn, by rw [hst]⟩
  ·rintro fr σ' ⟨g5, g6, g7, g8, g0, g1, hE, hn, ho⟩
   simp (maxSteps := 1000000) (disch := first | exact dS | fail) only [↓bD2, bU2, reduceMul, reduceEqDiff, reduceAdd, Nat.reduceBEq, reduceIte, splice_succ, ap22, ap23, ap24, ap26, ap33, ap34, ap35, ap38, ap41, ap49, ap74, g5, g6, g7, g8, g0, g1]
   exact ⟨_, _, rfl, fR1 g5, fR1 g6, fR1 g7, fR1 g0, fR1 g1, hE, hn, ho⟩
  rintro r ⟨fr, σ', rfl, g5, g6, g7, g0, g1, hE, hn, ho⟩
  have hix : wrapF .i64 ((i : Int) + (b.length : Int)) = ((i + b.length : Nat) : Int) := by rw [wrap_in (by omega) (by omega)]; omega
  have hbl : Nat.blt (i + b.length) (a.length + b.length) = true := blt_of (by omega)
  have f6 : splice ((tr b.length).1.map intN) (i + b.length) [.int .i64 ((tr b.length).2 : Nat)] = some (((tr b.length).1.set (i + b.length) (tr b.length).2).map intN) := splice_set (by rw [hln]; omega)
  simp (maxSteps := 1000000) (disch := first | exact dS | fail) only [↓bD2, bU2, reduceMul, reduceEqDiff, reduceAdd, Nat.reduceBEq, reduceIte, splice_succ, ap22, ap23, ap24, ap26, ap33, ap34, ap35, ap38, ap41, ap49, ap74, g5, g6, g7, g0, g1, hix, hbl, ho, f6]
  refine ⟨trivial, trivial, trivial, trivial, hE.upd (Nat.le_refl _) _, by simpa using hn, ?_⟩
  rw [show tall a b (i + 1) = (tr b.length).1.set (i + b.length) (tr b.length).2 from by rw [tall, hx, htr]]
 ·rintro i σ' ⟨g5, g6, g0, g1, hE, hn, ho⟩
  simp (maxSteps := 1000000) (disch := first | exact dS | fail) only [↓bD2, bU2, reduceMul, reduceEqDiff, reduceAdd, Nat.reduceBEq, reduceIte, splice_succ, ap22, ap23, ap24, ap26, ap33, ap34, ap35, ap38, ap41, ap49, ap74, g5, g6, g0, g1]
  exact ⟨_, _, rfl, fR1 g5, hE, hn, ho⟩
 rintro r ⟨fr, σ', rfl, g5, hE, hn, ho⟩
 have hD := Dg.of_row hn (row_of ho) (tall_lt dla dlb _)
 rw [tall_len] at hD
 simp (maxSteps := 1000000) (disch := first | exact dS | fail) only [↓bD2, bU2, reduceMul, reduceEqDiff, reduceAdd, Nat.reduceBEq, reduceIte, splice_succ, ap22, ap23, ap24, ap26, ap33, ap34, ap35, ap38, ap41, ap49, ap74, g5]
 refine (trim_dig hD (by rw [tall_len]; omega)).mono ?_
 rintro r ⟨v', rfl, hv'⟩
 refine gT1 @Tryz.results168 ?_;try exact ⟨⟩
 exact ⟨_, _, rfl, hE, hv'⟩
end Go.Proofs.G
namespace Go.Proofs.G
open Go Go.Ab
open Nat (reduceMul reduceEqDiff reduceAdd)
set_option maxRecDepth 100000
theorem Dg.cell {σ : St} {v : Value} {l : List Nat} (h : Dg σ v l) : cellsL v = [v] ∧ isTup v = false ∧ ∃ a c, v = .slice a l.length c := by
 obtain ⟨a, c, b, off, cells, rfl, -⟩ := h.use
 exact ⟨rfl, rfl, a, c, rfl⟩
def bigV (neg : Bool) (w : Value) : Value := .agg ⟨[.bool neg, w]⟩
noncomputable def bneq (a b : Bool) : Bool := !(bi a b (!b))
theorem bq_ne {x y : Operand} {a b : Bool} : bin2 Tryz.prog .neq 4 x y (.bool a) (.bool b) = some (.bool (bneq a b)) := by cases a <;> cases b <;> kernel_rfl
theorem no_int {b : Bool} {w : Value} (hw : ∀ z, w ≠ .int .i64 z) : ∀ (o : Nat) (z : Int), sub [.bool b, w] o 1 ≠ some [.int .i64 z] := by
 intro o z h
 rcases o with _ | _ | o
 ·cases h
 ·simp only [sub_skip, sub_cons, takeN_zero, ob_some, Option.some.injEq, List.cons.injEq, and_true] at h
  exact hw z h
 ·obtain ⟨h1, -⟩ := sub_eq h
  simp at h1
theorem Dg.upd {σ : St} {v : Value} {l : List Nat} {q : Nat} {cs new : List Value} (h : Dg σ v l) (hq : σ.row q = some cs) (hcs : ∀ (o : Nat) (z : Int), sub cs o 1 ≠ some [.int .i64 z]) : Dg (σ.upd q new) v l := by
 obtain ⟨h0, h | ⟨b, off, sp, c, cells, h1, h2, h3, h4, h5, h6⟩⟩ := h
 ·exact ⟨h0, .inl h⟩
 ·by_cases e : b = q
  ·subst e
   rw [hq] at h4
   cases h4
   cases l with
   | nil => exact ⟨h0, .inr ⟨b, off, sp, c, new, h1, h2, h3, row_upd_same, h5, fun k x hk => by simp at hk⟩⟩
   | cons x l => exact absurd (h6 0 x rfl) (hcs _ _)
  ·exact ⟨h0, .inr ⟨b, off, sp, c, cells, h1, h2, h3, by rw [row_upd_ne e]; exact h4, h5, h6⟩⟩
theorem mul_ok {σ : St} {v w : Value} {a b : List Nat} {n m : Bool} (ha : Dg σ v a) (hb : Dg σ w b) (la : a.length ≤ 400) (lb : b.length ≤ 400) : Ev (go Tryz.prog HS (.fn 136) [bigV n v, bigV m w] σ) (fun r => ∃ v' σ', r = ⟨false, bigV (bneq n m) v', σ'⟩ ∧ Ext σ σ' ∧ Dg σ' v' (timesD a b)) ⟨⟩ := by
 obtain ⟨c1, c2, -⟩ := ha.cell
 obtain ⟨d1, d2, -⟩ := hb.cell
 refine ev_go Tryz.func136 rfl rfl ?_
 unfold bigV
 refine gT1 (And.intro @c1 (And.intro @c2 (And.intro @d1 (And.intro @d2 @bq_ne)))) ?_;try exact ⟨⟩
 refine (times_ok (ha.mono (eX)) (hb.mono (eX)) la lb).mono ?_
 rintro r ⟨v', σ2, rfl, hE2, hv'⟩
 have n2 := hE2.n
 simp only [new_n] at n2
 obtain ⟨e1, e2, -⟩ := hv'.cell
 have o2 : σ2.orow (σ.n + 1 + 1) = some [.bool false, .slice none 0 0] := by rw [hE2.orow (cL)]; exact cL
 have hE : Ext σ σ2 := Ext.trans (eX) hE2
 simp (maxSteps := 1000000) (disch := first | exact dS | fail) only [↓bD2, bW2, reduceMul, reduceEqDiff, reduceAdd, Nat.reduceBEq, reduceIte, e1, e2, o2, asx hE2, as_newb, as_upd, Tryz.results136]
 exact ⟨_, _, rfl, eX, hv'.upd (row_of o2) (no_int (fun z h => by cases h))⟩
def addB (n m : Bool) (a b : List Nat) : Bool × List Nat := if n = m then (n, plusD a b) else if cmpD (trimD a) (trimD b) < 0 then (m, minusD b a) else (n, minusD a b)
theorem add_big_ok {σ : St} {v w : Value} {a b : List Nat} {n m : Bool} (ha : Dg σ v a) (hb : Dg σ w b) (la : a.length ≤ 400) (lb : b.length ≤ 400) : Ev (go Tryz.prog HS (.fn 135) [bigV n v, bigV m w] σ) (fun r => ∃ v' σ', r = ⟨false, bigV (addB n m a b).1 v', σ'⟩ ∧ Ext σ σ' ∧ Dg σ' v' (addB n m a b).2) ⟨⟩ := by
 obtain ⟨c1, c2, -⟩ := ha.cell
 obtain ⟨d1, d2, -⟩ := hb.cell
 have hnv : ∀ z : Int, (Value.slice none 0 0) ≠ .int .i64 z := fun z h => by cases h
 refine ev_go Tryz.func135 rfl rfl ?_
 unfold bigV
 have E0 : Ext σ (((σ.new [.bool n, v]).new [.bool m, w]).new [.bool false, .slice none 0 0]) := eX
 by_cases hnm : n = m
 ·have hb1 : bi n m (!m) = true := by subst hnm; cases n <;> rfl
  have hadd : addB n m a b = (n, plusD a b) := by unfold addB; rw [if_pos hnm]
  refine gT1 (And.intro @c1 (And.intro @c2 (And.intro @d1 (And.intro @d2 @hb1)))) ?_;try exact ⟨⟩
  refine (plus_ok (ha.mono E0) (hb.mono E0) (by omega) (by omega)).mono ?_
  rintro r ⟨v', σ2, rfl, hE2, hv'⟩
  have n2 := hE2.n
  simp only [new_n] at n2
  obtain ⟨e1, e2, -⟩ := hv'.cell
  have o2 : σ2.orow (σ.n + 1 + 1) = some [.bool false, .slice none 0 0] := by rw [hE2.orow (cL)]; exact cL
  have hE : Ext σ σ2 := E0.trans hE2
  simp (maxSteps := 1000000) (disch := first | exact dS | fail) only [↓bD2, bW2, reduceMul, reduceEqDiff, reduceAdd, Nat.reduceBEq, reduceIte, e1, e2, o2, asx hE2, as_newb, as_upd, Tryz.results135]
  rw [hadd]
  exact ⟨_, _, rfl, eX, hv'.upd (row_of o2) (no_int hnv)⟩
 ·have hb1 : bi n m (!m) = false := by cases n <;> cases m <;> first | rfl | exact absurd rfl hnm
  refine gT1 (And.intro @c1 (And.intro @c2 (And.intro @d1 (And.intro @d2 @hb1)))) ?_;try exact ⟨⟩
  refine (trim_dig (ha.mono E0) (by omega)).mono ?_
  rintro r ⟨ta, rfl, hta⟩
  obtain ⟨x1, x2, xa, xc, hx⟩ := hta.cell
  refine gT1 (And.intro @c1 (And.intro @c2 (And.intro @d1 @d2))) ?_;try exact ⟨⟩
  refine (trim_dig (hb.mono E0) (by omega)).mono ?_
  rintro r ⟨tb, rfl, htb⟩
  have lta := trimD_len a
  have ltb := trimD_len b
  refine gT ?_;try exact ⟨⟩
  refine (compare_ok hta htb (by omega) (by omega)).mono ?_
  rintro r rfl
  by_cases hcm : cmpD (trimD a) (trimD b) < 0
  ·have hadd : addB n m a b = (m, minusD b a) := by unfold addB; rw [if_neg hnm, if_pos hcm]
   have hc : decide (cmpD (trimD a) (trimD b) < 0) = true := by simpa using hcm
   simp (maxSteps := 1000000) (disch := first | exact dS | fail) only [↓bD2, bW2, reduceMul, reduceEqDiff, reduceAdd, Nat.reduceBEq, reduceIte, c1, c2, d1, d2, hc, asx (Ext.refl _), as_newb, as_upd]
   refine (minus_ok (hb.mono E0) (ha.mono E0) (by omega) (by omega)).mono ?_
   rintro r ⟨v', σ2, rfl, hE2, hv'⟩
   have n2 := hE2.n
   simp only [new_n] at n2
   obtain ⟨e1, e2, -⟩ := hv'.cell
   have o2 : σ2.orow (σ.n + 1 + 1) = some [.bool false, .slice none 0 0] := by rw [hE2.orow (cL)]; exact cL
   have hE : Ext σ σ2 := E0.trans hE2
   simp (maxSteps := 1000000) (disch := first | exact dS | fail) only [↓bD2, bW2, reduceMul, reduceEqDiff, reduceAdd, Nat.reduceBEq, reduceIte, e1, e2, o2, asx hE2, as_newb, as_upd, Tryz.results135]
   rw [hadd]
   exact ⟨_, _, rfl, eX, hv'.upd (row_of o2) (no_int hnv)⟩
  ·have hadd : addB n m a b = (n, minusD a b) := by unfold addB; rw [if_neg hnm, if_neg hcm]
   have hc : decide (cmpD (trimD a) (trimD b) < 0) = false := by simpa using hcm
   simp (maxSteps := 1000000) (disch := first | exact dS | fail) only [↓bD2, bW2, reduceMul, reduceEqDiff, reduceAdd, Nat.reduceBEq, reduceIte, c1, c2, d1, d2, hc, asx (Ext.refl _), as_newb, as_upd]
   refine (minus_ok (ha.mono E0) (hb.mono E0) (by omega) (by omega)).mono ?_
   rintro r ⟨v', σ2, rfl, hE2, hv'⟩
   have n2 := hE2.n
   simp only [new_n] at n2
   obtain ⟨e1, e2, -⟩ := hv'.cell
   have o2 : σ2.orow (σ.n + 1 + 1) = some [.bool false, .slice none 0 0] := by rw [hE2.orow (cL)]; exact cL
   have hE : Ext σ σ2 := E0.trans hE2
   simp (maxSteps := 1000000) (disch := first | exact dS | fail) only [↓bD2, bW2, reduceMul, reduceEqDiff, reduceAdd, Nat.reduceBEq, reduceIte, e1, e2, o2, asx hE2, as_newb, as_upd, Tryz.results135]
   rw [hadd]
   exact ⟨_, _, rfl, eX, hv'.upd (row_of o2) (no_int hnv)⟩
end Go.Proofs.G
