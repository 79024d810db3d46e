/- The summands of the formulas that Good makes: the ends of their intervals. -/
import Derived.Test.YtcjkjjnnicadfaaGreatDoorGH
import Derived.Test.YtcjkjjnnicadfaaGreatDoorGL
import Derived.KernelRfl
set_option linter.unusedSimpArgs false
set_option linter.unusedVariables false
namespace Go.Proofs.G
open Go Go.Ab
set_option maxRecDepth 100000
structure Rng (T : Tn) : Prop where
 l1 : 1 ≤ T.low
 l3 : T.low ≤ 3
 h1 : T.low + 1 ≤ T.high
 h5 : T.high ≤ T.low + 5
 crit : ∀ c ∈ T.crits, c.name ≠ priceS ∧ c.name ≠ lowS ∧ c.name.length ≤ 30 ∧ 0 ≤ c.low ∧ c.low ≤ 4 ∧ 0 ≤ c.high ∧ c.high ≤ 4
theorem find_mem {α : Type} {p : α → Bool} : ∀ {l : List α} {x : α}, l.find? p = some x → x ∈ l ∧ p x = true
 | [], x, h => by cases h
 | a :: l, x, h => by
  rw [List.find?_cons] at h
  cases hp : p a with
  | true => rw [hp] at h; cases h; exact ⟨by simp, hp⟩
  | false => rw [hp] at h; obtain ⟨h1, h2⟩ := find_mem h; exact ⟨by simp [h1], h2⟩
theorem mulb {a b A B : Int} (h1 : -A ≤ a) (h2 : a ≤ A) (h3 : -B ≤ b) (h4 : b ≤ B) : -(A * B) ≤ a * b ∧ a * b ≤ A * B := by
 have h := Int.natAbs_mul a b
 have h5 : a.natAbs * b.natAbs ≤ A.natAbs * B.natAbs := Nat.mul_le_mul (by omega) (by omega)
 have h6 : ((A.natAbs * B.natAbs : Nat) : Int) = A * B := by
  rw [Int.natCast_mul, Int.natAbs_of_nonneg (by omega), Int.natAbs_of_nonneg (by omega)]
 omega
theorem q_pos {n d : Int} (hn : 0 < n) (hd : 0 < d) : 0 < qn n d := by
 unfold qn
 rw [if_neg (by omega)]
 have hg0 : 0 < Int.gcd n d := Int.gcd_pos_of_ne_zero_right _ (by omega)
 obtain ⟨k, hk⟩ : ((Int.gcd n d : Nat) : Int) ∣ n := Int.gcd_dvd_left _ _
 obtain ⟨g, hgg⟩ : ∃ g, Int.gcd n d = g := ⟨_, rfl⟩
 rw [hgg] at hk hg0 ⊢
 have e1 : n / (g : Int) = k := by rw [hk, Int.mul_ediv_cancel_left _ (by omega)]
 rw [e1]
 rcases Int.lt_or_le 0 k with h | h
 ·exact h
 ·exfalso
  have := Int.mul_nonpos_of_nonneg_of_nonpos (show (0 : Int) ≤ (g : Int) by omega) h
  omega
theorem rq1 {n : Int} (h1 : -1000000000 < n) (h2 : n < 1000000000) : RQ n 1 := ⟨h1, h2, by omega, by omega, by simp [Int.gcd]⟩
def Whole (A B : Int) : RatP := fun a b => b = 1 ∧ A ≤ a ∧ a ≤ B
theorem Whole.rq {A B n d : Int} (hA : -1000000000 < A) (hB : B < 1000000000) (h : Whole A B n d) : RQ n d := by
 obtain ⟨rfl, h1, h2⟩ := h
 exact rq1 (by omega) (by omega)
section
variable {T : Tn}
theorem bounds_price (T : Tn) : boundsR T priceS = (T.low, T.high, true) := by unfold boundsR; rw [if_pos rfl]
theorem bounds_low (T : Tn) : boundsR T lowS = (T.low, T.high, true) := by unfold boundsR; rw [if_neg (by decide), if_pos rfl]
theorem bounds_crit (h : Rng T) {s : By} (h1 : s ≠ priceS) (h2 : s ≠ lowS) (hk : (boundsR T s).2.2 = true) : 0 ≤ (boundsR T s).1 ∧ (boundsR T s).1 ≤ 4 ∧ 0 ≤ (boundsR T s).2.1 ∧ (boundsR T s).2.1 ≤ 4 := by
 unfold boundsR at hk ⊢
 rw [if_neg h1, if_neg h2] at hk ⊢
 cases hf : T.crits.find? (fun x => decide (x.name = s)) with
 | none => rw [hf] at hk; cases hk
 | some x =>
  obtain ⟨-, -, -, a, b, c, d⟩ := h.crit x (find_mem hf).1
  exact ⟨a, b, c, d⟩
theorem iv_ends (s : By) (hs : s = priceS ∨ s = lowS) : Iv T (nameE s) (fun a b => b = 1 ∧ (a = T.low ∨ a = T.high)) := by
 refine .name fun _ => ?_
 rcases hs with rfl | rfl
 ·rw [bounds_price]; exact ⟨⟨rfl, .inl rfl⟩, ⟨rfl, .inr rfl⟩⟩
 ·rw [bounds_low]; exact ⟨⟨rfl, .inl rfl⟩, ⟨rfl, .inr rfl⟩⟩
theorem iv_crit (h : Rng T) {s : By} (h1 : s ≠ priceS) (h2 : s ≠ lowS) : Iv T (nameE s) (Whole 0 4) :=
 .name fun hk => by obtain ⟨a, b, c, d⟩ := bounds_crit h h1 h2 hk; exact ⟨⟨rfl, a, b⟩, ⟨rfl, c, d⟩⟩
structure Wt (n d : Int) : Prop where
 rq : RQ n d
 n1 : 1 ≤ n
 n9 : n ≤ 9
 d10 : d ≤ 10
 dec : (1000000 : Int) % d = 0
theorem iv_wt {n d : Int} : Iv T (numE n d) (fun a b => a = n ∧ b = d) := .num ⟨rfl, rfl⟩
theorem fok_wt {n d : Int} (h : Wt n d) : FOk 1 (numE n d) := .num h.rq (by have := h.n1; omega) h.dec
theorem opAdd {A B P : RatP} (h : ∀ n d m e, A n d → B m e → P (qn (n * e + m * d) (d * e)) (qd (n * e + m * d) (d * e))) : OpP addO A B P := by unfold OpP; rw [if_pos rfl]; exact h
theorem opSub {A B P : RatP} (h : ∀ n d m e, A n d → B m e → P (qn (n * e - m * d) (d * e)) (qd (n * e - m * d) (d * e))) : OpP subO A B P := by unfold OpP; rw [if_neg (by decide), if_pos rfl]; exact h
theorem opMul {A B P : RatP} (h : ∀ n d m e, A n d → B m e → P (qn (n * m) (d * e)) (qd (n * m) (d * e))) : OpP mulO A B P := by unfold OpP; rw [if_neg (by decide), if_neg (by decide), if_pos rfl]; exact h
theorem opQuo {A B P : RatP} (h : ∀ n d m e, A n d → B m e → m ≠ 0 ∧ P (qn (n * e) (d * m)) (qd (n * e) (d * m))) : OpP quoO A B P := by unfold OpP; rw [if_neg (by decide), if_neg (by decide), if_neg (by decide), if_pos rfl]; exact h
theorem opMM {A B P : RatP} {o : By} (ho : o = minO ∨ o = maxO) (h1 : ∀ n d, A n d → P n d) (h2 : ∀ n d, B n d → P n d) : OpP o A B P := by
 unfold OpP
 rcases ho with rfl | rfl
 ·rw [if_neg (by decide), if_neg (by decide), if_neg (by decide), if_neg (by decide)]; exact ⟨h1, h2⟩
 ·rw [if_neg (by decide), if_neg (by decide), if_neg (by decide), if_neg (by decide)]; exact ⟨h1, h2⟩
theorem iv_op {o : By} {a b : Ex} {A B P : RatP} (h1 : o ≠ numO) (h2 : o ≠ nameO) (ha : Iv T a A) (hb : Iv T b B) (hA : ∀ n d, A n d → RQ n d) (hB : ∀ n d, B n d → RQ n d) (hP : OpP o A B P) : Iv T (opE o a b) P := .op h1 h2 ha hb hA hB hP
theorem rq_ends (h : Rng T) : ∀ n d, (d = 1 ∧ (n = T.low ∨ n = T.high)) → RQ n d := by
 rintro n d ⟨rfl, hn⟩
 have := h.l1; have := h.l3; have := h.h1; have := h.h5
 exact rq1 (by omega) (by omega)
theorem rq_wt {n d : Int} (h : Wt n d) : ∀ a b, (a = n ∧ b = d) → RQ a b := by rintro a b ⟨rfl, rfl⟩; exact h.rq
theorem iv0 (h : Rng T) {n d : Int} (w : Wt n d) : Iv T (opE mulO (numE n d) (opE quoO (nameE lowS) (nameE priceS))) (Bd 80 144) := by
 have a1 := h.l1; have a2 := h.l3; have a3 := h.h1; have a4 := h.h5
 have b1 := w.n1; have b2 := w.n9; have b3 := w.d10; have b4 := w.rq.d1
 have i1 : Iv T (opE quoO (nameE lowS) (nameE priceS)) (Bd 8 8) := by
  refine iv_op (by decide) (by decide) (iv_ends lowS (.inr rfl)) (iv_ends priceS (.inl rfl)) (rq_ends h) (rq_ends h) (opQuo ?_)
  rintro n d m e ⟨rfl, hn⟩ ⟨rfl, hm⟩
  exact ⟨by omega, rq_q (by omega) (by omega) (by omega) (by omega) (by omega) (by omega) (by omega)⟩
 refine iv_op (by decide) (by decide) iv_wt i1 (rq_wt w) (fun _ _ h => h.1) (opMul ?_)
 rintro a b m e ⟨rfl, rfl⟩ ⟨hr, m1, m2, m3⟩
 have e1 := hr.d1
 have p1 := mulb (a := a) (b := m) (A := 9) (B := 8) (by omega) (by omega) m1 m2
 have p2 := mulb (a := b) (b := e) (A := 10) (B := 8) (by omega) (by omega) (by omega) m3
 have p3 : b * e ≠ 0 := Int.mul_ne_zero (by omega) (by omega)
 exact rq_q p3 (by omega) (by omega) (by omega) (by omega) (by omega) (by omega)
theorem iv2 {n d : Int} (w : Wt n d) : Iv T (numE n d) (Bd 80 144) := .num ⟨w.rq, by have := w.n1; omega, by have := w.n9; omega, by have := w.d10; omega⟩
theorem iv3 (h : Rng T) {n d : Int} (w : Wt n d) {s : By} (h1 : s ≠ priceS) (h2 : s ≠ lowS) : Iv T (opE mulO (numE n d) (nameE s)) (Bd 80 144) := by
 have b1 := w.n1; have b2 := w.n9; have b3 := w.d10; have b4 := w.rq.d1
 refine iv_op (by decide) (by decide) iv_wt (iv_crit h h1 h2) (rq_wt w) (fun _ _ h => h.rq (by omega) (by omega)) (opMul ?_)
 rintro a b m e ⟨rfl, rfl⟩ ⟨rfl, m1, m2⟩
 have p1 := mulb (a := a) (b := m) (A := 9) (B := 4) (by omega) (by omega) (by omega) (by omega)
 exact rq_q (by omega) (by omega) (by omega) (by omega) (by omega) (by omega) (by omega)
theorem iv5 (h : Rng T) {n d : Int} (w : Wt n d) {s o : By} (h1 : s ≠ priceS) (h2 : s ≠ lowS) (ho : o = minO ∨ o = maxO) : Iv T (opE o (nameE s) (numE n d)) (Bd 80 144) := by
 have b1 := w.n1; have b2 := w.n9; have b3 := w.d10; have b4 := w.rq.d1
 refine iv_op (by rcases ho with rfl | rfl <;> decide) (by rcases ho with rfl | rfl <;> decide) (iv_crit h h1 h2) iv_wt (fun _ _ h => h.rq (by omega) (by omega)) (rq_wt w) (opMM ho ?_ ?_)
 ·intro a b hab
  have hr := hab.rq (by omega) (by omega)
  obtain ⟨rfl, m1, m2⟩ := hab
  exact ⟨hr, by omega, by omega, by omega⟩
 ·rintro a b ⟨rfl, rfl⟩
  exact ⟨w.rq, by omega, by omega, by omega⟩
theorem iv6 (h : Rng T) {s t : By} (h1 : s ≠ priceS) (h2 : s ≠ lowS) (h3 : t ≠ priceS) (h4 : t ≠ lowS) : Iv T (opE mulO (nameE s) (nameE t)) (Bd 80 144) := by
 refine iv_op (by decide) (by decide) (iv_crit h h1 h2) (iv_crit h h3 h4) (fun _ _ h => h.rq (by omega) (by omega)) (fun _ _ h => h.rq (by omega) (by omega)) (opMul ?_)
 rintro a b m e ⟨rfl, a1, a2⟩ ⟨rfl, m1, m2⟩
 have p1 := mulb (a := a) (b := m) (A := 4) (B := 4) (by omega) (by omega) (by omega) (by omega)
 exact rq_q (by omega) (by omega) (by omega) (by omega) (by omega) (by omega) (by omega)
theorem iv7 (h : Rng T) {n d : Int} (w : Wt n d) {s t : By} (h1 : s ≠ priceS) (h2 : s ≠ lowS) (h3 : t ≠ priceS) (h4 : t ≠ lowS) : Iv T (opE quoO (nameE s) (opE addO (numE n d) (nameE t))) (Bd 80 144) := by
 have b1 := w.n1; have b2 := w.n9; have b3 := w.d10; have b4 := w.rq.d1
 have i1 : Iv T (opE addO (numE n d) (nameE t)) (fun a b => Bd 49 10 a b ∧ 0 < a) := by
  refine iv_op (by decide) (by decide) iv_wt (iv_crit h h3 h4) (rq_wt w) (fun _ _ h => h.rq (by omega) (by omega)) (opAdd ?_)
  rintro a b m e ⟨rfl, rfl⟩ ⟨rfl, m1, m2⟩
  have p1 := mulb (a := m) (b := b) (A := 4) (B := 10) (by omega) (by omega) (by omega) (by omega)
  have p2 : 0 ≤ m * b := Int.mul_nonneg m1 (by omega)
  exact ⟨rq_q (by omega) (by omega) (by omega) (by omega) (by omega) (by omega) (by omega), q_pos (by omega) (by omega)⟩
 refine iv_op (by decide) (by decide) (iv_crit h h1 h2) i1 (fun _ _ h => h.rq (by omega) (by omega)) (fun _ _ h => h.1.1) (opQuo ?_)
 rintro a b m e ⟨rfl, a1, a2⟩ ⟨⟨hr, m1, m2, m3⟩, m4⟩
 have e1 := hr.d1
 have p1 := mulb (a := a) (b := e) (A := 4) (B := 10) (by omega) (by omega) (by omega) (by omega)
 exact ⟨by omega, rq_q (by omega) (by omega) (by omega) (by omega) (by omega) (by omega) (by omega)⟩
end
end Go.Proofs.G
namespace Go.Proofs.G
open Go Go.Ab
set_option maxRecDepth 100000
def dds : List Int := [1, 2, 10, 4]
theorem wt_dec : (([1, 2, 3, 4, 5, 6, 7, 8, 9] : List Int).all fun n => dds.all fun d => decide ((1000000 : Int) % qd n d = 0)) = true := by kernel_rfl
theorem nine {n : Int} (h1 : 1 ≤ n) (h2 : n ≤ 9) : n ∈ ([1, 2, 3, 4, 5, 6, 7, 8, 9] : List Int) := by
  have : n = 1 ∨ n = 2 ∨ n = 3 ∨ n = 4 ∨ n = 5 ∨ n = 6 ∨ n = 7 ∨ n = 8 ∨ n = 9 := by omega
  simpa using this
theorem dds_bd {d : Int} (h : d ∈ dds) : 1 ≤ d ∧ d ≤ 10 := by
  have : d = 1 ∨ d = 2 ∨ d = 10 ∨ d = 4 := by simpa [dds] using h
  omega
theorem wt_of {n d : Int} (h1 : 1 ≤ n) (h2 : n ≤ 9) (h : d ∈ dds) : Wt (qn n d) (qd n d) := by
  obtain ⟨d1, d10⟩ := dds_bd h
  obtain ⟨a, b, c, e⟩ := q_bound (n := n) (d := d) (N := 9) (D := 10) (by omega) (by omega) (by omega) (by omega) (by omega)
  refine ⟨⟨by omega, by omega, c, by omega, (q_low (by omega)).1⟩, ?_, b, e, ?_⟩
  · have := q_pos (n := n) (d := d) (by omega) (by omega); omega
  · have h3 := List.all_eq_true.1 wt_dec n (nine h1 h2)
    have h4 := List.all_eq_true.1 h3 d h
    exact of_decide_eq_true h4
def q1f (x y : Int) : Int × Int := (qn (x * 1) (1 * y), qd (x * 1) (1 * y))
def q2f (p : Int × Int) : Int × Int := (qn (1 * p.2 - p.1 * 1) (1 * p.2), qd (1 * p.2 - p.1 * 1) (1 * p.2))
def q3f (p w : Int × Int) : Int × Int := (qn (p.1 * w.2) (p.2 * w.1), qd (p.1 * w.2) (p.2 * w.1))
def okf (s : Int × Int) : Bool := decide (-80 ≤ s.1) && decide (s.1 ≤ 80) && decide (s.2 ≤ 144)
theorem chk1 : (([1, 2, 3] : List Int).all fun lo => ([1, 2, 3, 4, 5] : List Int).all fun df => [lo, lo + df].all fun x => [lo + lo, lo + (lo + df), (lo + df) + (lo + df)].all fun y =>
    ([1, 2, 3, 4, 5, 6, 7, 8, 9] : List Int).all fun n => dds.all fun d => okf (q3f (q2f (q1f x y)) (qn n d, qd n d))) = true := by kernel_rfl
theorem chk1_use {lo df x y n d : Int} (h1 : 1 ≤ lo) (h2 : lo ≤ 3) (h3 : 1 ≤ df) (h4 : df ≤ 5) (hx : x = lo ∨ x = lo + df) (hy : y = lo + lo ∨ y = lo + (lo + df) ∨ y = (lo + df) + (lo + df)) (n1 : 1 ≤ n) (n9 : n ≤ 9) (hd : d ∈ dds) :
    okf (q3f (q2f (q1f x y)) (qn n d, qd n d)) = true := by
  have a1 := List.all_eq_true.1 chk1 lo (by have : lo = 1 ∨ lo = 2 ∨ lo = 3 := by omega
                                            simpa using this)
  have a2 := List.all_eq_true.1 a1 df (by have : df = 1 ∨ df = 2 ∨ df = 3 ∨ df = 4 ∨ df = 5 := by omega
                                          simpa using this)
  have a3 := List.all_eq_true.1 a2 x (by simpa using hx)
  have a4 := List.all_eq_true.1 a3 y (by simpa using hy)
  have a5 := List.all_eq_true.1 a4 n (nine n1 n9)
  exact List.all_eq_true.1 a5 d hd
theorem iv1 {T : Tn} (h : Rng T) {n d : Int} (n1 : 1 ≤ n) (n9 : n ≤ 9) (hd : d ∈ dds) :
    Iv T (opE quoO (opE subO (numE 1 1) (opE quoO (nameE priceS) (opE addO (nameE priceS) (nameE lowS)))) (numE (qn n d) (qd n d))) (Bd 80 144) := by
  have a1 := h.l1; have a2 := h.l3; have a3 := h.h1; have a4 := h.h5
  have w := wt_of n1 n9 hd
  obtain ⟨lo, hlo⟩ : ∃ lo, T.low = lo := ⟨_, rfl⟩
  obtain ⟨df, hdf⟩ : ∃ df, T.high = lo + df := ⟨T.high - lo, by omega⟩
  have i1 : Iv T (opE addO (nameE priceS) (nameE lowS)) (fun a b => b = 1 ∧ (a = lo + lo ∨ a = lo + (lo + df) ∨ a = (lo + df) + (lo + df))) := by
    refine iv_op (by decide) (by decide) (iv_ends priceS (.inl rfl)) (iv_ends lowS (.inr rfl)) (rq_ends h) (rq_ends h) (opAdd ?_)
    rintro n d m e ⟨rfl, hn⟩ ⟨rfl, hm⟩
    have e1 := q_self (n := n * 1 + m * 1) (d := 1 * 1) (by omega) (by simp [Int.gcd])
    rw [e1.1, e1.2]
    rw [hlo, hdf] at hn hm
    exact ⟨by omega, by omega⟩
  have r1 : ∀ n d, (d = 1 ∧ (n = lo + lo ∨ n = lo + (lo + df) ∨ n = (lo + df) + (lo + df))) → RQ n d := by
    rintro n d ⟨rfl, hn⟩; exact rq1 (by omega) (by omega)
  have i2 : Iv T (opE quoO (nameE priceS) (opE addO (nameE priceS) (nameE lowS))) (fun a b => Bd 8 16 a b ∧ ∃ x y, (x = lo ∨ x = lo + df) ∧ (y = lo + lo ∨ y = lo + (lo + df) ∨ y = (lo + df) + (lo + df)) ∧ (a, b) = q1f x y) := by
    refine iv_op (by decide) (by decide) (iv_ends priceS (.inl rfl)) i1 (rq_ends h) r1 (opQuo ?_)
    rintro n d m e ⟨rfl, hn⟩ ⟨rfl, hm⟩
    rw [hlo, hdf] at hn
    exact ⟨by omega, rq_q (by omega) (by omega) (by omega) (by omega) (by omega) (by omega) (by omega), n, m, hn, hm, rfl⟩
  have i3 : Iv T (opE subO (numE 1 1) (opE quoO (nameE priceS) (opE addO (nameE priceS) (nameE lowS)))) (fun a b => Bd 24 16 a b ∧ ∃ x y, (x = lo ∨ x = lo + df) ∧ (y = lo + lo ∨ y = lo + (lo + df) ∨ y = (lo + df) + (lo + df)) ∧ (a, b) = q2f (q1f x y)) := by
    refine iv_op (by decide) (by decide) (A := fun a b => a = 1 ∧ b = 1) (.num ⟨rfl, rfl⟩) i2 (by rintro a b ⟨rfl, rfl⟩; exact rq1 (by omega) (by omega)) (fun _ _ h => h.1.1) (opSub ?_)
    rintro n d m e ⟨rfl, rfl⟩ ⟨⟨hr, m1, m2, m3⟩, x, y, hx, hy, hq⟩
    have e1 := hr.d1
    refine ⟨rq_q (by omega) (by omega) (by omega) (by omega) (by omega) (by omega) (by omega), x, y, hx, hy, ?_⟩
    rw [← hq]; rfl
  refine iv_op (by decide) (by decide) i3 iv_wt (fun _ _ h => h.1.1) (rq_wt w) (opQuo ?_)
  rintro a b m e ⟨⟨hr, m1, m2, m3⟩, x, y, hx, hy, hq⟩ ⟨rfl, rfl⟩
  have b1 := w.n1; have b2 := w.n9; have b3 := w.d10; have b4 := w.rq.d1; have e1 := hr.d1
  refine ⟨by omega, ?_⟩
  have hc := chk1_use (lo := lo) (df := df) (by omega) (by omega) (by omega) (by omega) hx hy n1 n9 hd
  rw [← hq] at hc
  unfold okf q3f at hc
  simp only [Bool.and_eq_true, decide_eq_true_eq] at hc
  obtain ⟨⟨c1, c2⟩, c3⟩ := hc
  have p3 : b * qn n d ≠ 0 := Int.mul_ne_zero (by omega) (by omega)
  obtain ⟨g1, g2⟩ := q_low (n := a * qd n d) p3
  exact ⟨⟨by omega, by omega, g2, by omega, g1⟩, c1, c2, c3⟩
end Go.Proofs.G
