/- What a run comes to, step by step: a run's end is asked of its pieces in turn; what follows a piece is out of reach till the piece has ended. -/
import Derived.Test.YtcjkjjnnicadfaaGreatDoorAbHeap
set_option linter.unusedSimpArgs false
set_option linter.unusedVariables false
namespace Go.Ab
open Go

universe q
/-- A type for a thing: what depends on it stays as it is. -/
structure Hd {α : Sort q} (a : α) : Type where
/-- There is a value, and it is as asked. -/
def Ev {α : Type} (x : Option α) (Q : α → Prop) (_u : Hd Q) : Prop := ∃ a, x = some a ∧ Q a
def Must (c : Bool) (A : Prop) (_u : Hd A) : Prop := c = true ∧ A
def Br (c : Bool) (A B : Prop) (_u : Hd fun x : Bool => cond x A B) : Prop := (c = true → A) ∧ (c = false → B)

theorem Ev.mono {α : Type} {x : Option α} {Q R : α → Prop} {u : Hd Q} {v : Hd R} (h : Ev x R v) (k : ∀ a, R a → Q a) : Ev x Q u := let ⟨a, h1, h2⟩ := h; ⟨a, h1, k a h2⟩
theorem Ev.intro {α : Type} {x : Option α} {a : α} {Q : α → Prop} {u : Hd Q} (h : x = some a) (k : Q a) : Ev x Q u := ⟨a, h, k⟩
theorem ev_some {α : Type} {a : α} {Q : α → Prop} {u : Hd Q} : Ev (some a) Q u = Q a := propext ⟨fun ⟨b, h1, h2⟩ => by cases h1; exact h2, fun h => ⟨a, rfl, h⟩⟩
theorem ev_ob {α β : Type} {x : Option α} {f : α → Option β} {Q : β → Prop} {u : Hd Q} : Ev (ob x f) Q u = Ev x (fun a => Ev (f a) Q ⟨⟩) ⟨⟩ := propext ⟨fun ⟨b, h1, h2⟩ => by
  obtain ⟨a, h3, h4⟩ := ob_eq h1
  exact ⟨a, h3, b, h4, h2⟩, fun ⟨a, h1, b, h2, h3⟩ => ⟨b, by rw [h1]; exact h2, h3⟩⟩
theorem ev_bb {β : Type} {c : Bool} {x : Option β} {Q : β → Prop} {u : Hd Q} : Ev (bb c x) Q u = Must c (Ev x Q ⟨⟩) ⟨⟩ := propext ⟨fun ⟨b, h1, h2⟩ => by
  obtain ⟨h3, h4⟩ := bb_eq h1
  exact ⟨h3, b, h4, h2⟩, fun ⟨h1, b, h2, h3⟩ => ⟨b, by rw [h1]; exact h2, h3⟩⟩
theorem ev_bi {β : Type} {c : Bool} {x y : Option β} {Q : β → Prop} {u : Hd Q} : Ev (bi c x y) Q u = Br c (Ev x Q ⟨⟩) (Ev y Q ⟨⟩) ⟨⟩ := by
  cases c with
  | true => exact propext ⟨fun h => ⟨fun _ => h, fun h => by cases h⟩, fun h => h.1 rfl⟩
  | false => exact propext ⟨fun h => ⟨fun h => (by cases h), fun _ => h⟩, fun h => h.2 rfl⟩
theorem ev_none {α : Type} {Q : α → Prop} {u : Hd Q} : Ev none Q u = False := propext ⟨fun ⟨a, h, _⟩ => (by cases h), fun h => h.elim⟩
theorem ev_ite {β : Type} {c : Prop} [Decidable c] {x y : Option β} {Q : β → Prop} {u : Hd Q} : Ev (if c then x else y) Q u = Br (decide c) (Ev x Q ⟨⟩) (Ev y Q ⟨⟩) ⟨⟩ := by
  by_cases h : c
  · rw [if_pos h]; exact propext ⟨fun k => ⟨fun _ => k, fun g => by simp [h] at g⟩, fun k => k.1 (by simp [h])⟩
  · rw [if_neg h]; exact propext ⟨fun k => ⟨fun g => by simp [h] at g, fun _ => k⟩, fun k => k.2 (by simp [h])⟩
theorem must_true {A : Prop} {u : Hd A} : Must true A u = A := propext ⟨fun h => h.2, fun h => ⟨rfl, h⟩⟩
theorem br_true {A B : Prop} {u : Hd fun x : Bool => cond x A B} : Br true A B u = A := propext ⟨fun h => h.1 rfl, fun h => ⟨fun _ => h, fun h => by cases h⟩⟩
theorem br_false {A B : Prop} {u : Hd fun x : Bool => cond x A B} : Br false A B u = B := propext ⟨fun h => h.2 rfl, fun h => ⟨fun h => (by cases h), fun _ => h⟩⟩
theorem Br.intro {c : Bool} {A B : Prop} {u : Hd fun x : Bool => cond x A B} (h : c = true → A) (k : c = false → B) : Br c A B u := ⟨h, k⟩
theorem Must.intro {c : Bool} {A : Prop} {u : Hd A} (h : c = true) (k : A) : Must c A u := ⟨h, k⟩

section
variable {P : Program} {H : Sums} {rd : Option Nat} {fr : Fr} {σ : St}
/-- What a round of a loop must come to. -/
def LP (I : Nat → Fr → St → Prop) (R : Res → Prop) (n : Nat) (r : Res) : Prop := match r.o with
  | .normal => ∃ m, m < n ∧ I m r.fr r.σ
  | _ => R r
theorem lp_normal {I : Nat → Fr → St → Prop} {R : Res → Prop} {n : Nat} : LP I R n ⟨.normal, fr, σ⟩ = ∃ m, m < n ∧ I m fr σ := rfl
theorem lp_exit {I : Nat → Fr → St → Prop} {R : Res → Prop} {n k : Nat} : LP I R n ⟨.exit k, fr, σ⟩ = R ⟨.exit k, fr, σ⟩ := rfl
theorem lp_ret {I : Nat → Fr → St → Prop} {R : Res → Prop} {n : Nat} : LP I R n ⟨.ret, fr, σ⟩ = R ⟨.ret, fr, σ⟩ := rfl
theorem lp_pan {I : Nat → Fr → St → Prop} {R : Res → Prop} {n : Nat} {v : Value} : LP I R n ⟨.pan v, fr, σ⟩ = R ⟨.pan v, fr, σ⟩ := rfl
theorem ev_loop {body : Code} {Q : Res → Prop} {u : Hd Q} (I : Nat → Fr → St → Prop) (R : Res → Prop) (n : Nat) (h0 : I n fr σ) (hs : ∀ n fr σ, I n fr σ → Ev (lim P H rd body fr σ) (LP I R n) ⟨⟩) (hR : ∀ r, R r → Q r) :
    Ev (lim P H rd (.loop body) fr σ) Q u := by
  have key : ∀ n, ∀ m, m ≤ n → ∀ fr σ, I m fr σ → Ev (lim P H rd (.loop body) fr σ) R ⟨⟩ := by
    intro n
    induction n with
    | zero =>
      intro m hm fr σ h
      rw [ru_loop, ev_ob]
      refine (hs m fr σ h).mono ?_
      rintro ⟨o, fr', σ'⟩ hq
      cases o with
      | normal => obtain ⟨k, hk, _⟩ := hq; omega
      | exit i => rw [on_exit, ev_some]; exact hq
      | ret => rw [on_ret, ev_some]; exact hq
      | pan v => rw [on_pan, ev_some]; exact hq
    | succ n ih =>
      intro m hm fr σ h
      rw [ru_loop, ev_ob]
      refine (hs m fr σ h).mono ?_
      rintro ⟨o, fr', σ'⟩ hq
      cases o with
      | normal => obtain ⟨k, hk, hi⟩ := hq; rw [on_normal]; exact ih k (by omega) fr' σ' hi
      | exit i => rw [on_exit, ev_some]; exact hq
      | ret => rw [on_ret, ev_some]; exact hq
      | pan v => rw [on_pan, ev_some]; exact hq
  exact (key n n (Nat.le_refl _) fr σ h0).mono hR
theorem ru_region' {k : Nat} {l : List Oper} : lim P H rd (.region k l.toArray false) fr σ = opsV P (go P H) l.toArray l fr σ := lim_eq ..
theorem ru_draw' {k : Nat} {l : List Oper} : lim P H rd (.region k l.toArray true) fr σ = drawn l.toArray (opsD P (go P H) l.toArray l 0 fr σ []) := lim_eq ..
theorem ru_range' {f : Operand} {ps : List Tmp} {assign body : Code} : lim P H rd (.rangeFunc f ps.toArray assign body) fr σ = rangeV P (go P H) rd f ps assign body fr σ := lim_eq ..
theorem toArray_toList {α : Type} {l : List α} : l.toArray.toList = l := rfl

/- Operations on values. -/
section
variable {x y : Operand} {o : Oper} {t u : TypeId} {k : IntKind}
theorem len1 {c : Callee} : pLen P fr ⟨c, #[x], #[t]⟩ = ob (ev fr x) fun v => ob (lenV (P.underlying t) v) fun n => some (.int .i64 n) := by
  show ob (ob (ev fr x) fun v => ob (some []) fun vs => some (v :: vs)) _ = _
  cases ev fr x <;> rfl
theorem len_slice {e : TypeId} {a : Option Addr} {n c : Nat} : lenV (some (.slice e)) (.slice a n c) = some n := rfl
theorem len_string {s : ByteArray} : lenV (some .string) (.string s) = some s.data.toList.length := rfl
theorem bin_add {a b : Int} : binV P fr o .add t (.int k a) (.int k b) = some (.int k (wrapF k (a + b))) := by cases k <;> rfl
theorem bin_sub {a b : Int} : binV P fr o .sub t (.int k a) (.int k b) = some (.int k (wrapF k (a - b))) := by cases k <;> rfl
theorem bin_mul {a b : Int} : binV P fr o .mul t (.int k a) (.int k b) = some (.int k (wrapF k (a * b))) := by cases k <;> rfl
theorem bin_eql {a b : Int} : binV P fr o .eql t (.int k a) (.int k b) = some (.bool (decide (a = b))) := by rw [← ieq_eq]; cases k <;> rfl
theorem bin_neq {a b : Int} : binV P fr o .neq t (.int k a) (.int k b) = some (.bool (!decide (a = b))) := by
  rw [← ieq_eq]
  have h : binV P fr o .neq t (.int k a) (.int k b) = some (.bool (bi (ieq a b) false true)) := by cases k <;> rfl
  rw [h]; cases ieq a b <;> rfl
theorem bin_lss {a b : Int} : binV P fr o .lss t (.int k a) (.int k b) = some (.bool (decide (a < b))) := by rw [← ilt_eq]; cases k <;> rfl
theorem bin_leq {a b : Int} : binV P fr o .leq t (.int k a) (.int k b) = some (.bool (!decide (b < a))) := by
  rw [← ilt_eq]
  have h : binV P fr o .leq t (.int k a) (.int k b) = some (.bool (bi (ilt b a) false true)) := by cases k <;> rfl
  rw [h]; cases ilt b a <;> rfl
theorem bin_gtr {a b : Int} : binV P fr o .gtr t (.int k a) (.int k b) = some (.bool (decide (b < a))) := by rw [← ilt_eq]; cases k <;> rfl
theorem bin_geq {a b : Int} : binV P fr o .geq t (.int k a) (.int k b) = some (.bool (!decide (a < b))) := by
  rw [← ilt_eq]
  have h : binV P fr o .geq t (.int k a) (.int k b) = some (.bool (bi (ilt a b) false true)) := by cases k <;> rfl
  rw [h]; cases ilt a b <;> rfl
theorem beq_bytes (a b : ByteArray) : beqL a.data.toList b.data.toList = decide (a = b) := by
  rw [beqL_eq]
  by_cases h : a = b
  · subst h; simp
  · rw [decide_eq_false h, decide_eq_false]
    intro e
    apply h
    obtain ⟨⟨a⟩⟩ := a
    obtain ⟨⟨b⟩⟩ := b
    exact congrArg (fun l => (⟨⟨l⟩⟩ : ByteArray)) e
theorem bin_seql {a b : ByteArray} : binV P fr o .eql t (.string a) (.string b) = some (.bool (decide (a = b))) := by rw [← beq_bytes]; rfl
theorem bin_sneq {a b : ByteArray} : binV P fr o .neq t (.string a) (.string b) = some (.bool (!decide (a = b))) := by
  rw [← beq_bytes]
  show some (Value.bool (bi (beqL a.data.toList b.data.toList) false true)) = _
  cases beqL a.data.toList b.data.toList <;> rfl
theorem wrap_in {n : Int} (h1 : -9223372036854775808 ≤ n) (h2 : n ≤ 9223372036854775807) : wrapF .i64 n = n := by
  unfold wrapF
  have : inR .i64 n = true := by
    cases n with
    | ofNat m => simp only [inR, nblt, decide_eq_true_iff]; simp only [Int.ofNat_eq_natCast] at h2; omega
    | negSucc m => simp only [inR, nblt, decide_eq_true_iff]; rw [Int.negSucc_eq] at h1; omega
  rw [this]; rfl
theorem nat_succ (n : Nat) : ((n : Int) + 1) = ((n + 1 : Nat) : Int) := rfl
theorem nat_pred (n : Nat) (h : 1 ≤ n) : ((n : Int) - 1) = ((n - 1 : Nat) : Int) := by omega
theorem lt_nat (a b : Nat) : decide ((a : Int) < (b : Int)) = decide (a < b) := by simp
theorem nat_zero : ((0 : Nat) : Int) = 0 := rfl
theorem cells_agg {l : List Value} : cellsL (.agg ⟨l⟩) = l := rfl
theorem cells_int {n : Int} : cellsL (.int k n) = [.int k n] := rfl
theorem cells_bool {b : Bool} : cellsL (.bool b) = [.bool b] := rfl
theorem cells_string {s : ByteArray} : cellsL (.string s) = [.string s] := rfl
theorem cells_slice {a : Option Addr} {n c : Nat} : cellsL (.slice a n c) = [.slice a n c] := rfl
theorem cells_ptr {a : Option Addr} : cellsL (.pointer a) = [.pointer a] := rfl
theorem cells_func {f : Fn} {a b : Array Value} : cellsL (.func f a b) = [.func f a b] := rfl
theorem tup_agg {l : Array Value} : isTup (.agg l) = false := rfl
theorem tup_int {n : Int} : isTup (.int k n) = false := rfl
theorem tup_bool {b : Bool} : isTup (.bool b) = false := rfl
theorem tup_string {s : ByteArray} : isTup (.string s) = false := rfl
theorem tup_slice {a : Option Addr} {n c : Nat} : isTup (.slice a n c) = false := rfl
theorem tup_ptr {a : Option Addr} : isTup (.pointer a) = false := rfl
theorem tup_func {f : Fn} {a b : Array Value} : isTup (.func f a b) = false := rfl
theorem beq_len {n m : Nat} (h : n = m) : n.beq m = true := by subst h; simp
theorem blt_of {n m : Nat} (h : n < m) : Nat.blt n m = true := by rw [nblt]; simpa using h
theorem ble_of {n m : Nat} (h : n ≤ m) : Nat.ble n m = true := Nat.ble_eq_true_of_le h
end
end

/-- A row gets other cells in the place of all. -/
theorem splice_all {α : Type} {l new : List α} (h : new.length = l.length) : splice l 0 new = some new := by
  have key : ∀ (new l : List α), new.length = l.length → over new l = some new := by
    intro new
    induction new with
    | nil => intro l h; cases l with
      | nil => rfl
      | cons => simp at h
    | cons x xs ih =>
      intro l h
      cases l with
      | nil => simp at h
      | cons y ys =>
        show ob (over xs ys) _ = _
        rw [ih ys (by simpa using h)]; rfl
  exact key new l h
end Go.Ab
