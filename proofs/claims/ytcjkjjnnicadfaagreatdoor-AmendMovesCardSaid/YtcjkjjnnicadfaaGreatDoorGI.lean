/- A part of the proof: a walk of some functions. -/
import Derived.Test.YtcjkjjnnicadfaaGreatDoorGH
import Derived.Test.YtcjkjjnnicadfaaGreatDoorGC
set_option linter.unusedSimpArgs false
set_option linter.unusedVariables false
namespace Go.Proofs.G
open Go Go.Ab
open Nat (reduceMul reduceEqDiff reduceAdd)
set_option maxRecDepth 100000
def letB (n : Int) : Bool := (!decide (n < 97) && !decide (122 < n)) || (!decide (n < 65) && !decide (90 < n))
def digB (n : Int) : Bool := !decide (n < 48) && !decide (57 < n)
def folB (n : Int) : Bool := letB n || digB n || decide (n = 95)
theorem letter_ok {σ : St} {n : Int} : Ev (go Tryz.prog HS (.fn 126) [.int .u8 n] σ) (fun r => r = ⟨false, .bool (letB n), σ⟩) ⟨⟩ := by
 refine ev_go Tryz.func126 rfl rfl ?_
 unfold letB
 cases a : decide (n < 97) <;> cases b : decide (122 < n) <;> cases c : decide (n < 65) <;> cases d : decide (90 < n) <;> simp (maxSteps := 1000000) (disch := first | exact dS | fail) only [↓bD2, bW2, reduceMul, reduceEqDiff, reduceAdd, Nat.reduceBEq, reduceIte, a, b, c, d, yu_t, yu_f, Tryz.results126] <;> rfl
theorem digit_ok {σ : St} {n : Int} : Ev (go Tryz.prog HS (.fn 157) [.int .u8 n] σ) (fun r => r = ⟨false, .bool (digB n), σ⟩) ⟨⟩ := by
 refine ev_go Tryz.func157 rfl rfl ?_
 unfold digB
 cases a : decide (n < 48) <;> cases b : decide (57 < n) <;> simp (maxSteps := 1000000) (disch := first | exact dS | fail) only [↓bD2, bW2, reduceMul, reduceEqDiff, reduceAdd, Nat.reduceBEq, reduceIte, a, b, Tryz.results157] <;> rfl
theorem follows_ok {σ : St} {n : Int} : Ev (go Tryz.prog HS (.fn 125) [.int .u8 n] σ) (fun r => r = ⟨false, .bool (folB n), σ⟩) ⟨⟩ := by
 refine ev_go Tryz.func125 rfl rfl ?_
 refine gT ?_;try exact ⟨⟩
 refine letter_ok.mono ?_
 rintro r rfl
 refine gT ?_;try exact ⟨⟩
 refine digit_ok.mono ?_
 rintro r rfl
 unfold folB
 cases a : letB n <;> cases b : digB n <;> cases c : decide (n = 95) <;> simp (maxSteps := 1000000) (disch := first | exact dS | fail) only [↓bD2, bW2, reduceMul, reduceEqDiff, reduceAdd, Nat.reduceBEq, reduceIte, a, b, c, Tryz.results125] <;> rfl
theorem oneB_one {c : UInt8} : oneB [c] = some (.int .u8 (c.toNat : Nat)) := rfl
theorem sub_at1 {α : Type} {l : List α} {k : Nat} {a : α} (h : l[k]? = some a) : sub l k 1 = some [a] := by
 obtain ⟨h1, h2⟩ := List.getElem?_eq_some_iff.1 h
 rw [sub_of (by omega), List.drop_eq_getElem_cons h1, h2]; rfl
def nameB (s : By) : Bool := decide (0 < s.length) && decide (s.length ≤ 30) && (s.all fun c => folB c.toNat) && (match s with | c :: _ => letB c.toNat | [] => false)
set_option maxHeartbeats 1000000 in
theorem isname_ok {σ : St} {s : By} : Ev (go Tryz.prog HS (.fn 93) [str s] σ) (fun r => r = ⟨false, .bool (nameB s), σ⟩) ⟨⟩ := by
 refine ev_go Tryz.func93 rfl rfl ?_
 by_cases h1 : s.length < 1
 ·have e1 : decide ((s.length : Int) < 1) = true := by rw [decide_eq_true_iff]; omega
  have hb : nameB s = false := by unfold nameB; rw [decide_eq_false (show ¬ 0 < s.length by omega)]; rfl
  refine gT1 (And.intro @e1 (And.intro @hb @Tryz.results93)) ?_;try exact ⟨⟩
 have e1 : decide ((s.length : Int) < 1) = false := by rw [decide_eq_false_iff_not]; omega
 by_cases h2 : 30 < s.length
 ·have e2 : decide (30 < (s.length : Int)) = true := by rw [decide_eq_true_iff]; omega
  have hb : nameB s = false := by unfold nameB; rw [decide_eq_false (show ¬ s.length ≤ 30 by omega)]; simp
  refine gT1 (And.intro @e1 (And.intro @e2 (And.intro @hb @Tryz.results93))) ?_;try exact ⟨⟩
 have e2 : decide (30 < (s.length : Int)) = false := by rw [decide_eq_false_iff_not]; omega
 refine gT1 (And.intro @e1 @e2) ?_;try exact ⟨⟩
 refine ev_count s.length (fun k fr σ' => fr.get 3 = some (.int .i64 k) ∧ fr.get 0 = some (str s) ∧ σ' = σ ∧ (∀ i c, i < k → s[i]? = some c → folB c.toNat = true) ∧ (∀ c, 0 < k → s[0]? = some c → letB c.toNat = true))
  (fun r => (∃ fr, r = ⟨.exit 0, fr, σ⟩ ∧ nameB s = true) ∨ ∃ fr, r = ⟨.ret, fr, σ⟩ ∧ fr.get 2 = some (.bool false) ∧ nameB s = false) ?_ ?_ ?_ ?_
 ·exact ⟨fR, fR, rfl, fun i c h => by omega, fun c h => by omega⟩
 ·rintro k fr σ' hk ⟨g3, g0, rfl, ha, hb⟩
  have hc := lt_true hk
  obtain ⟨c, hck⟩ := at_some hk
  have hs := sub_at1 hck
  refine gT1 (And.intro @g3 (And.intro @g0 (And.intro @hc (And.intro @hs @oneB_one)))) ?_;try exact ⟨⟩
  refine follows_ok.mono ?_
  rintro r rfl
  refine gT1 (And.intro @g3 (And.intro @g0 (And.intro @hs @oneB_one))) ?_;try exact ⟨⟩
  refine letter_ok.mono ?_
  rintro r rfl
  have no : ∀ x, (∀ d ∈ s, folB d.toNat = true) = x → True := fun _ _ => trivial
  cases q1 : folB c.toNat with
  | false =>
   have hn : nameB s = false := by
    unfold nameB
    have : (s.all fun c => folB c.toNat) = false := by
     rw [Bool.eq_false_iff]; intro h
     rw [List.all_eq_true] at h
     have := h c (List.mem_of_getElem? hck)
     rw [q1] at this; cases this
    rw [this]; simp
   refine gT1 (And.intro @g3 (And.intro @g0 (And.intro @q1 (And.intro @yu_t @yu_f)))) ?_;try exact ⟨⟩
   exact Or.inr ⟨_, rfl, fR, hn⟩
  | true =>
   by_cases k0 : k = 0
   ·subst k0
    have e3 : decide (((0 : Nat) : Int) = 0) = true := by decide
    cases q2 : letB c.toNat with
    | false =>
     have hn : nameB s = false := by
      cases s with
      | nil => rfl
      | cons d s => cases hck; unfold nameB; simp only [q2, Bool.and_false]
     refine gT1 (And.intro @g3 (And.intro @g0 (And.intro @q1 (And.intro @q2 (And.intro @e3 (And.intro @yu_t @yu_f)))))) ?_;try exact ⟨⟩
     exact Or.inr ⟨_, rfl, fR, hn⟩
    | true =>
     refine gT1 (And.intro @g3 (And.intro @g0 (And.intro @q1 (And.intro @q2 (And.intro @e3 (And.intro @yu_t @yu_f)))))) ?_;try exact ⟨⟩
     refine ⟨fR, fR1 g0, by trivial, fun i d hi hd => ?_, fun d _ hd => ?_⟩
     ·obtain rfl : i = 0 := by omega
      rw [hck] at hd; cases hd; exact q1
     ·rw [hck] at hd; cases hd; exact q2
   ·have e3 : decide ((k : Int) = 0) = false := by rw [decide_eq_false_iff_not]; omega
    refine gT1 (And.intro @g3 (And.intro @g0 (And.intro @q1 (And.intro @e3 (And.intro @yu_t @yu_f))))) ?_;try exact ⟨⟩
    refine ⟨fR, fR1 g0, by trivial, fun i d hi hd => ?_, fun d _ hd => hb d (by omega) hd⟩
    by_cases e : i = k
    ·subst e; rw [hck] at hd; cases hd; exact q1
    ·exact ha i d (by omega) hd
 ·rintro fr σ' ⟨g3, g0, rfl, ha, hb⟩
  refine gT1 (And.intro @g3 @g0) ?_;try exact ⟨⟩
  refine Or.inl ⟨_, rfl, ?_⟩
  unfold nameB
  rw [decide_eq_true (show 0 < s.length by omega), decide_eq_true (show s.length ≤ 30 by omega)]
  have : (s.all fun c => folB c.toNat) = true := by
   rw [List.all_eq_true]
   intro c hc
   obtain ⟨i, hi, he⟩ := List.mem_iff_getElem.1 hc
   exact ha i c hi (by rw [List.getElem?_eq_getElem hi, he])
  rw [this]
  cases s with
  | nil => simp at h1
  | cons c s => simpa using hb c (by simp) rfl
 rintro r (⟨fr, rfl, hn⟩ | ⟨fr, rfl, g2, hn⟩)
 ·refine gT1 (And.intro @hn @Tryz.results93) ?_;try exact ⟨⟩
 ·refine gT1 (And.intro @g2 (And.intro @hn @Tryz.results93)) ?_;try exact ⟨⟩
def wordB (s : By) : Bool := nameB s && !decide (s = [112,114,105,99,101]) && !decide (s = [108,111,119]) && !decide (s = [109,105,110]) && !decide (s = [109,97,120])
theorem isword_ok {σ : St} {s : By} : Ev (go Tryz.prog HS (.fn 130) [str s] σ) (fun r => r = ⟨false, .bool (wordB s), σ⟩) ⟨⟩ := by
 refine ev_go Tryz.func130 rfl rfl ?_
 refine gT ?_;try exact ⟨⟩
 refine isname_ok.mono ?_
 rintro r rfl
 unfold wordB
 cases a : nameB s
 ·simp (maxSteps := 1000000) (disch := first | exact dS | fail) only [↓bD2, bW2, reduceMul, reduceEqDiff, reduceAdd, Nat.reduceBEq, reduceIte, a, yu_t, yu_f, Tryz.results130]; rfl
 cases b : decide (s = [112,114,105,99,101])
 case true => simp (maxSteps := 1000000) (disch := first | exact dS | fail) only [↓bD2, bW2, reduceMul, reduceEqDiff, reduceAdd, Nat.reduceBEq, reduceIte, a, b, yu_t, yu_f, Tryz.results130]; rfl
 cases c : decide (s = [108,111,119])
 case true => simp (maxSteps := 1000000) (disch := first | exact dS | fail) only [↓bD2, bW2, reduceMul, reduceEqDiff, reduceAdd, Nat.reduceBEq, reduceIte, a, b, c, yu_t, yu_f, Tryz.results130]; rfl
 cases d : decide (s = [109,105,110])
 case true => simp (maxSteps := 1000000) (disch := first | exact dS | fail) only [↓bD2, bW2, reduceMul, reduceEqDiff, reduceAdd, Nat.reduceBEq, reduceIte, a, b, c, d, yu_t, yu_f, Tryz.results130]; rfl
 cases e : decide (s = [109,97,120]) <;> simp (maxSteps := 1000000) (disch := first | exact dS | fail) only [↓bD2, bW2, reduceMul, reduceEqDiff, reduceAdd, Nat.reduceBEq, reduceIte, a, b, c, d, e, yu_t, yu_f, Tryz.results130] <;> rfl
end Go.Proofs.G
namespace Go.Proofs.G
open Go Go.Ab
open Nat (reduceMul reduceEqDiff reduceAdd)
set_option maxRecDepth 100000
theorem tmod0 {a d : Int} (h0 : 0 ≤ a) (h : a % d = 0) : a.tmod d = 0 := by rw [Int.tmod_eq_emod_of_nonneg h0]; exact h
theorem FOk.use {j : Nat} {e : Ex} (hf : FOk j e) {σ : St} {row : List Value} (he : ExAt σ row e) : ∃ o n d nm v c k, row = [str o, .int .i64 n, .int .i64 d, str nm, .slice v k c] ∧ o.length ≤ 4 ∧ nm.length ≤ 30 ∧ (k = 0 ∨ k = 2) := by
 cases hf with
 | num h h0 hd =>
  obtain ⟨v, rows, rfl, h1, -, h2⟩ := he
  obtain rfl : rows = [] := h2
  obtain ⟨a, c, b, off, cells, rfl, -⟩ := SL.use h1
  exact ⟨_, _, _, _, _, _, _, rfl, by decide, by simp, .inl rfl⟩
 | name h =>
  obtain ⟨v, rows, rfl, h1, -, h2⟩ := he
  obtain rfl : rows = [] := h2
  obtain ⟨a, c, b, off, cells, rfl, -⟩ := SL.use h1
  exact ⟨_, _, _, _, _, _, _, rfl, by decide, h, .inl rfl⟩
 | op h1 h2 hl ha hb =>
  obtain ⟨v, rows, rfl, hs, -, hx⟩ := he
  obtain ⟨B, off, sp, c, cells, r1, r2, rfl, -⟩ := two_args hs hx
  exact ⟨_, _, _, _, _, _, _, rfl, hl, by simp, .inr rfl⟩
set_option maxHeartbeats 4000000 in
theorem fits_ok {σ : St} {j : Nat} {e : Ex} {row : List Value} (hf : FOk j e) (he : ExAt σ row e) : Ev (go Tryz.prog HS (.fn 158) [.agg ⟨row⟩] σ) (fun r => ∃ b σ', r = ⟨false, .bool b, σ'⟩ ∧ Ext σ σ') ⟨⟩ := by
 cases hf with
 | @num n d h h0 hd =>
  obtain ⟨v, rows, rfl, h1, -, h2⟩ := he
  obtain rfl : rows = [] := h2
  obtain ⟨a, c, b, off, cells, rfl, -⟩ := SL.use h1
  refine ev_go Tryz.func158 rfl rfl ?_
  simp (maxSteps := 1000000) (disch := first | exact dS | fail) only [↓bD2, bW2, reduceMul, reduceEqDiff, reduceAdd, Nat.reduceBEq, reduceIte, numO]
  refine (right_ok h).mono ?_
  rintro r ⟨σ2, rfl, hE2⟩
  have r1 : σ2.row σ.n = some [str [110,117,109], .int .i64 n, .int .i64 d, str [], .slice a 0 c] := by rw [hE2.row (cL)]; exact cL
  have c1 : decide (n < 0) = false := decide_eq_false (by omega)
  have c2 : decide (d = 0) = false := decide_eq_false (by have := h.d1; omega)
  have c3 := tmod0 (a := 1000000) (d := d) (by omega) hd
  have c4 : decide (1000000000 * d < n) = false := decide_eq_false (by have := h.d1; have := h.n2; omega)
  have i1 := h.d1
  have i2 := h.d2
  have hE : Ext σ σ2 := (Ext.new' (.refl _) _).trans hE2
  refine gT1 (And.intro @r1 (And.intro @c1 (And.intro @c2 (And.intro @c3 (And.intro @c4 (And.intro @yu_t (And.intro @yu_f @Tryz.results158))))))) ?_;try exact ⟨⟩
  exact ⟨_, _, rfl, hE⟩
 | @name nm h =>
  obtain ⟨v, rows, rfl, h1, -, h2⟩ := he
  obtain rfl : rows = [] := h2
  obtain ⟨a, c, b, off, cells, rfl, -⟩ := SL.use h1
  have d1 : decide (([110,97,109,101] : By) = [110,117,109]) = false := by decide
  refine ev_go Tryz.func158 rfl rfl ?_
  simp (maxSteps := 1000000) (disch := first | exact dS | fail) only [↓bD2, bW2, reduceMul, reduceEqDiff, reduceAdd, Nat.reduceBEq, reduceIte, nameO, d1]
  refine isname_ok.mono ?_
  rintro r rfl
  cases a1 : nameB nm
  ·refine gT1 (And.intro @a1 (And.intro @yu_t (And.intro @yu_f @Tryz.results158))) ?_;try exact ⟨⟩
   exact ⟨_, _, rfl, eX⟩
  cases a2 : decide (nm = [109,105,110])
  case true =>
   refine gT1 (And.intro @a1 (And.intro @a2 (And.intro @yu_t (And.intro @yu_f @Tryz.results158)))) ?_;try exact ⟨⟩
   exact ⟨_, _, rfl, eX⟩
  cases a3 : decide (nm = [109,97,120])
  case true =>
   refine gT1 (And.intro @a1 (And.intro @a2 (And.intro @a3 (And.intro @yu_t (And.intro @yu_f @Tryz.results158))))) ?_;try exact ⟨⟩
   exact ⟨_, _, rfl, eX⟩
  simp (maxSteps := 1000000) (disch := first | exact dS | fail) only [↓bD2, bW2, reduceMul, reduceEqDiff, reduceAdd, Nat.reduceBEq, reduceIte, a1, a2, a3, yu_t, yu_f, b2_rat.1, Bool.and_self, Tryz.results158]
  exact ⟨_, _, rfl, eX⟩
 | @op o j k a b h1 h2 hl ha hb =>
  obtain ⟨v, rows, rfl, hs, -, hx⟩ := he
  obtain ⟨B, off, sp, c, cells, r1, r2, rfl, -⟩ := two_args hs hx
  have d1 : decide (o = [110,117,109]) = false := decide_eq_false h1
  have d2 : decide (o = [110,97,109,101]) = false := decide_eq_false h2
  refine ev_go Tryz.func158 rfl rfl ?_
  have fin : ∀ b1, ∃ b σ', (⟨false, .bool b1, σ.new [str o, .int .i64 0, .int .i64 0, str [], .slice (some ⟨B, off, sp⟩) 2 c]⟩ : CR) = ⟨false, .bool b, σ'⟩ ∧ Ext σ σ' := fun b1 => ⟨b1, _, rfl, eX⟩
  cases a1 : decide (o = [43])
  case true => simp (maxSteps := 1000000) (disch := first | exact dS | fail) only [↓bD2, bW2, reduceMul, reduceEqDiff, reduceAdd, Nat.reduceBEq, reduceIte, d1, d2, a1, yu_t, yu_f, b2_rat.1, Bool.and_self, Tryz.results158]; exact fin _
  cases a2 : decide (o = [45])
  case true => simp (maxSteps := 1000000) (disch := first | exact dS | fail) only [↓bD2, bW2, reduceMul, reduceEqDiff, reduceAdd, Nat.reduceBEq, reduceIte, d1, d2, a1, a2, yu_t, yu_f, b2_rat.1, Bool.and_self, Tryz.results158]; exact fin _
  cases a3 : decide (o = [42])
  case true => simp (maxSteps := 1000000) (disch := first | exact dS | fail) only [↓bD2, bW2, reduceMul, reduceEqDiff, reduceAdd, Nat.reduceBEq, reduceIte, d1, d2, a1, a2, a3, yu_t, yu_f, b2_rat.1, Bool.and_self, Tryz.results158]; exact fin _
  cases a4 : decide (o = [47])
  case true => simp (maxSteps := 1000000) (disch := first | exact dS | fail) only [↓bD2, bW2, reduceMul, reduceEqDiff, reduceAdd, Nat.reduceBEq, reduceIte, d1, d2, a1, a2, a3, a4, yu_t, yu_f, b2_rat.1, Bool.and_self, Tryz.results158]; exact fin _
  cases a5 : decide (o = [109,105,110])
  case true => simp (maxSteps := 1000000) (disch := first | exact dS | fail) only [↓bD2, bW2, reduceMul, reduceEqDiff, reduceAdd, Nat.reduceBEq, reduceIte, d1, d2, a1, a2, a3, a4, a5, yu_t, yu_f, b2_rat.1, Bool.and_self, Tryz.results158]; exact fin _
  cases a6 : decide (o = [109,97,120])
  case true => simp (maxSteps := 1000000) (disch := first | exact dS | fail) only [↓bD2, bW2, reduceMul, reduceEqDiff, reduceAdd, Nat.reduceBEq, reduceIte, d1, d2, a1, a2, a3, a4, a5, a6, yu_t, yu_f, b2_rat.1, Bool.and_self, Tryz.results158]; exact fin _
  simp (maxSteps := 1000000) (disch := first | exact dS | fail) only [↓bD2, bW2, reduceMul, reduceEqDiff, reduceAdd, Nat.reduceBEq, reduceIte, d1, d2, a1, a2, a3, a4, a5, a6, yu_t, yu_f, b2_rat.1, Bool.and_self, Tryz.results158]; exact fin _
theorem FOk.pos {j : Nat} {e : Ex} (hf : FOk j e) : 1 ≤ j := by
 induction hf with
 | num => omega
 | name => omega
 | op _ _ _ _ _ h1 h2 => omega
theorem FOk.arg {j : Nat} {e : Ex} (hf : FOk j e) {σ : St} {row : List Value} (he : ExAt σ row e) : ∃ o n d nm a m c, row = [str o, .int .i64 n, .int .i64 d, str nm, .slice a m c] ∧ ((m = 0 ∧ j = 1) ∨ ∃ B off sp cells j1 j2 e1 e2 r1 r2, m = 2 ∧ a = some ⟨B, off, sp⟩ ∧ B < σ.n ∧ σ.row B = some cells ∧ j = j1 + j2 ∧ 1 ≤ j1 ∧ 1 ≤ j2 ∧ FOk j1 e1 ∧ FOk j2 e2 ∧
  sub cells off 5 = some r1 ∧ sub cells (off + 5) 5 = some r2 ∧ ExAt σ r1 e1 ∧ ExAt σ r2 e2) := by
 cases hf with
 | num h h0 hd =>
  obtain ⟨v, rows, rfl, h1, -, h2⟩ := he
  obtain rfl : rows = [] := h2
  obtain ⟨a, c, b, off, cells, rfl, -⟩ := SL.use h1
  exact ⟨_, _, _, _, _, _, _, rfl, .inl ⟨rfl, rfl⟩⟩
 | name h =>
  obtain ⟨v, rows, rfl, h1, -, h2⟩ := he
  obtain rfl : rows = [] := h2
  obtain ⟨a, c, b, off, cells, rfl, -⟩ := SL.use h1
  exact ⟨_, _, _, _, _, _, _, rfl, .inl ⟨rfl, rfl⟩⟩
 | op h1 h2 hl ha hb =>
  obtain ⟨v, rows, rfl, hs, -, hx⟩ := he
  obtain ⟨B, off, sp, c, cells, r1, r2, rfl, l3, l4, s1, s2, x1, x2⟩ := two_args hs hx
  exact ⟨_, _, _, _, _, _, _, rfl, .inr ⟨B, off, sp, cells, _, _, _, _, r1, r2, rfl, rfl, l3, l4, rfl, ha.pos, hb.pos, ha, hb, s1, s2, x1, x2⟩⟩
set_option maxHeartbeats 4000000 in
theorem parts_ok : ∀ (s : Nat) {σ : St} {j : Nat} {e : Ex} {row : List Value}, j < s → j ≤ 1000 → FOk j e → ExAt σ row e → Ev (go Tryz.prog HS (.fn 128) [.agg ⟨row⟩] σ) (fun r => ∃ (p : Nat) (σ' : St), r = ⟨false, .int .i64 (p : Nat), σ'⟩ ∧ p + 1 = 2 * j ∧ Ext σ σ') ⟨⟩ := by
 intro s
 induction s with
 | zero => intro σ j e row hs; omega
 | succ s ih =>
  intro σ j e row hs hj hf he
  obtain ⟨o, n, d, nm, a, m, c, rfl, h⟩ := hf.arg he
  refine ev_go Tryz.func128 rfl rfl ?_
  refine gT ?_;try exact ⟨⟩
  obtain ⟨R, hR⟩ : ∃ R : List Value, [str o, .int .i64 n, .int .i64 d, str nm, .slice a m c] = R := ⟨_, rfl⟩
  have hs3 : sub R 4 1 = some [.slice a m c] := by rw [← hR]; rfl
  rw [hR]
  rcases h with ⟨rfl, rfl⟩ | ⟨B, off, sp, cells, j1, j2, e1, e2, r1, r2, rfl, rfl, l3, l4, rfl, p1, p2, f1, f2, s1, s2, x1, x2⟩
  ·refine ev_count 0 (fun k fr σ' => fr.get 4 = some (.int .i64 k) ∧ fr.get 1 = some (.pointer (some ⟨σ.n, 0, none⟩)) ∧ σ' = σ.new R ∧ fr.get 3 = some (.int .i64 1))
    (fun r => ∃ fr, r = ⟨.exit 0, fr, σ.new R⟩ ∧ fr.get 3 = some (.int .i64 1)) ?_ ?_ ?_ ?_
   ·exact ⟨fR, fR, rfl, fR⟩
   ·rintro k fr σ' hk; omega
   ·rintro fr σ' ⟨g4, g1, rfl, g3⟩
    refine gT1 (And.intro @g4 (And.intro @g1 @hs3)) ?_;try exact ⟨⟩
    exact ⟨_, rfl, fR1 g3⟩
   rintro r ⟨fr, rfl, g3⟩
   refine gT1 (And.intro @g3 @Tryz.results128) ?_;try exact ⟨⟩
   exact ⟨1, _, rfl, by omega, eX⟩
  refine ev_count 2 (fun k fr σ' => fr.get 4 = some (.int .i64 k) ∧ fr.get 1 = some (.pointer (some ⟨σ.n, 0, none⟩)) ∧ Ext (σ.new R) σ' ∧ ∃ p : Nat, fr.get 3 = some (.int .i64 (p : Nat)) ∧ ((k = 0 ∧ p = 1) ∨ (k = 1 ∧ p = 2 * j1) ∨ (k = 2 ∧ p + 1 = 2 * (j1 + j2))))
   (fun r => ∃ fr σ', r = ⟨.exit 0, fr, σ'⟩ ∧ Ext σ σ' ∧ ∃ p : Nat, fr.get 3 = some (.int .i64 (p : Nat)) ∧ p + 1 = 2 * (j1 + j2)) ?_ ?_ ?_ ?_
  ·exact ⟨fR, fR, .refl _, _, fR, .inl ⟨rfl, rfl⟩⟩
  ·rintro k fr σ' hk ⟨g4, g1, hE, p, g3, hh⟩
   have hc := lt_true hk
   have w1 : σ'.row σ.n = some R := by rw [hE.row (by simp)]; exact cL
   have hEn := hE.n
   simp only [new_n] at hEn
   have hE0 : Ext σ σ' := Ext.trans (eX) hE
   have w2 : σ'.row B = some cells := by rw [hE0.row l3]; exact l4
   have hk2 : k = 0 ∨ k = 1 := by omega
   have both : ∃ jj ee rr, sub cells (off + k * 5) 5 = some rr ∧ FOk jj ee ∧ ExAt σ rr ee ∧ jj < s ∧ jj ≤ 1000 ∧ ((k = 0 ∧ jj = j1) ∨ (k = 1 ∧ jj = j2)) := by
    rcases hk2 with rfl | rfl
    ·exact ⟨j1, e1, r1, by simpa using s1, f1, x1, by omega, by omega, .inl ⟨rfl, rfl⟩⟩
    ·exact ⟨j2, e2, r2, by simpa using s2, f2, x2, by omega, by omega, .inr ⟨rfl, rfl⟩⟩
   obtain ⟨jj, ee, rr, s3, f3, x3, y1, y2, y3⟩ := both
   refine gT1 (And.intro @g4 (And.intro @g1 (And.intro @g3 (And.intro @hc (And.intro @w1 (And.intro @hs3 (And.intro @w2 @s3))))))) ?_;try exact ⟨⟩
   refine (ih y1 y2 f3 (x3.mono hE0)).mono ?_
   rintro r ⟨q, σ2, rfl, hq2, hE2⟩
   refine gT1 (And.intro @g4 (And.intro @g1 @g3)) ?_;try exact ⟨⟩
   refine ⟨fR, fR1 g1, hE.trans hE2, p + q, fR, ?_⟩
   omega
  ·rintro fr σ' ⟨g4, g1, hE, p, g3, hh⟩
   have w1 : σ'.row σ.n = some R := by rw [hE.row (by simp)]; exact cL
   refine gT1 (And.intro @g4 (And.intro @g1 (And.intro @w1 @hs3))) ?_;try exact ⟨⟩
   exact ⟨_, _, rfl, Ext.trans (eX) hE, p, fR1 g3, by omega⟩
  rintro r ⟨fr, σ', rfl, hE, p, g3, hp⟩
  refine gT1 (And.intro @g3 @Tryz.results128) ?_;try exact ⟨⟩
  exact ⟨p, _, rfl, by omega, hE⟩
set_option maxHeartbeats 4000000 in
theorem depth_ok : ∀ (s : Nat) {σ : St} {j : Nat} {e : Ex} {row : List Value}, j < s → j ≤ 1000 → FOk j e → ExAt σ row e → Ev (go Tryz.prog HS (.fn 129) [.agg ⟨row⟩] σ) (fun r => ∃ (p : Nat) (σ' : St), r = ⟨false, .int .i64 (p : Nat), σ'⟩ ∧ (p ≤ j ∧ 1 ≤ p) ∧ Ext σ σ') ⟨⟩ := by
 intro s
 induction s with
 | zero => intro σ j e row hs; omega
 | succ s ih =>
  intro σ j e row hs hj hf he
  obtain ⟨o, n, d, nm, a, m, c, rfl, h⟩ := hf.arg he
  refine ev_go Tryz.func129 rfl rfl ?_
  refine gT ?_;try exact ⟨⟩
  obtain ⟨R, hR⟩ : ∃ R : List Value, [str o, .int .i64 n, .int .i64 d, str nm, .slice a m c] = R := ⟨_, rfl⟩
  have hs3 : sub R 4 1 = some [.slice a m c] := by rw [← hR]; rfl
  rw [hR]
  rcases h with ⟨rfl, rfl⟩ | ⟨B, off, sp, cells, j1, j2, e1, e2, r1, r2, rfl, rfl, l3, l4, rfl, p1, p2, f1, f2, s1, s2, x1, x2⟩
  ·refine ev_count 0 (fun k fr σ' => fr.get 4 = some (.int .i64 k) ∧ fr.get 1 = some (.pointer (some ⟨σ.n, 0, none⟩)) ∧ σ' = σ.new R ∧ fr.get 3 = some (.int .i64 0))
    (fun r => ∃ fr, r = ⟨.exit 0, fr, σ.new R⟩ ∧ fr.get 3 = some (.int .i64 0)) ?_ ?_ ?_ ?_
   ·exact ⟨fR, fR, rfl, fR⟩
   ·rintro k fr σ' hk; omega
   ·rintro fr σ' ⟨g4, g1, rfl, g3⟩
    refine gT1 (And.intro @g4 (And.intro @g1 @hs3)) ?_;try exact ⟨⟩
    exact ⟨_, rfl, fR1 g3⟩
   rintro r ⟨fr, rfl, g3⟩
   refine gT1 (And.intro @g3 @Tryz.results129) ?_;try exact ⟨⟩
   exact ⟨1, _, rfl, by omega, eX⟩
  refine ev_count 2 (fun k fr σ' => fr.get 4 = some (.int .i64 k) ∧ fr.get 1 = some (.pointer (some ⟨σ.n, 0, none⟩)) ∧ Ext (σ.new R) σ' ∧ ∃ p : Nat, fr.get 3 = some (.int .i64 (p : Nat)) ∧ ((k = 0 ∧ p = 0) ∨ (k = 1 ∧ p ≤ j1) ∨ (k = 2 ∧ p + 1 ≤ j1 + j2)))
   (fun r => ∃ fr σ', r = ⟨.exit 0, fr, σ'⟩ ∧ Ext σ σ' ∧ ∃ p : Nat, fr.get 3 = some (.int .i64 (p : Nat)) ∧ p + 1 ≤ j1 + j2) ?_ ?_ ?_ ?_
  ·exact ⟨fR, fR, .refl _, _, fR, .inl ⟨rfl, rfl⟩⟩
  ·rintro k fr σ' hk ⟨g4, g1, hE, p, g3, hh⟩
   have hc := lt_true hk
   have w1 : σ'.row σ.n = some R := by rw [hE.row (by simp)]; exact cL
   have hEn := hE.n
   simp only [new_n] at hEn
   have hE0 : Ext σ σ' := Ext.trans (eX) hE
   have w2 : σ'.row B = some cells := by rw [hE0.row l3]; exact l4
   have hk2 : k = 0 ∨ k = 1 := by omega
   have both : ∃ jj ee rr, sub cells (off + k * 5) 5 = some rr ∧ FOk jj ee ∧ ExAt σ rr ee ∧ jj < s ∧ jj ≤ 1000 ∧ ((k = 0 ∧ jj = j1) ∨ (k = 1 ∧ jj = j2)) := by
    rcases hk2 with rfl | rfl
    ·exact ⟨j1, e1, r1, by simpa using s1, f1, x1, by omega, by omega, .inl ⟨rfl, rfl⟩⟩
    ·exact ⟨j2, e2, r2, by simpa using s2, f2, x2, by omega, by omega, .inr ⟨rfl, rfl⟩⟩
   obtain ⟨jj, ee, rr, s3, f3, x3, y1, y2, y3⟩ := both
   refine gT1 (And.intro @g4 (And.intro @g1 (And.intro @g3 (And.intro @hc (And.intro @w1 (And.intro @hs3 (And.intro @w2 @s3))))))) ?_;try exact ⟨⟩
   refine (ih y1 y2 f3 (x3.mono hE0)).mono ?_
   rintro r ⟨q, σ2, rfl, hq2, hE2⟩
   refine gT1 (And.intro @g4 (And.intro @g1 @g3)) ?_;try exact ⟨⟩
   refine ⟨fR, fR1 g1, hE.trans hE2, max p q, by rw [show ((max p q : Nat) : Int) = max (p : Int) (q : Int) by omega], ?_⟩
   omega
  ·rintro fr σ' ⟨g4, g1, hE, p, g3, hh⟩
   have w1 : σ'.row σ.n = some R := by rw [hE.row (by simp)]; exact cL
   refine gT1 (And.intro @g4 (And.intro @g1 (And.intro @w1 @hs3))) ?_;try exact ⟨⟩
   exact ⟨_, _, rfl, Ext.trans (eX) hE, p, fR1 g3, by omega⟩
  rintro r ⟨fr, σ', rfl, hE, p, g3, hp⟩
  refine gT1 (And.intro @g3 @Tryz.results129) ?_;try exact ⟨⟩
  exact ⟨p + 1, _, rfl, by omega, hE⟩
set_option maxHeartbeats 4000000 in
theorem sound_ok : ∀ (s : Nat) {σ : St} {j : Nat} {e : Ex} {row : List Value}, j < s → j ≤ 1000 → FOk j e → ExAt σ row e → Ev (go Tryz.prog HS (.fn 127) [.agg ⟨row⟩] σ) (fun r => ∃ b σ', r = ⟨false, .bool b, σ'⟩ ∧ Ext σ σ') ⟨⟩ := by
 intro s
 induction s with
 | zero => intro σ j e row hs; omega
 | succ s ih =>
  intro σ j e row hs hj hf he
  have hlen := he.len
  have hfr : sub row 0 5 = some row := sub_full (by omega) (by omega)
  refine ev_go Tryz.func127 rfl rfl ?_
  refine gT1 @hfr ?_;try exact ⟨⟩
  have E0 : Ext σ (σ.new row) := eX
  refine (fits_ok hf (he.mono E0)).mono ?_
  rintro r ⟨b, σ2, rfl, hE2⟩
  have n2 := hE2.n
  simp only [new_n] at n2
  obtain ⟨o, n, d, nm, a, m, c, rfl, h⟩ := hf.arg he
  obtain ⟨R, hR⟩ : ∃ R : List Value, [str o, .int .i64 n, .int .i64 d, str nm, .slice a m c] = R := ⟨_, rfl⟩
  have hs3 : sub R 4 1 = some [.slice a m c] := by rw [← hR]; rfl
  rw [hR] at hE2
  have E0 : Ext σ (σ.new R) := eX
  refine gT ?_;try exact ⟨⟩
  refine ev_count m (fun k fr σ' => fr.get 4 = some (.int .i64 k) ∧ fr.get 1 = some (.pointer (some ⟨σ.n, 0, none⟩)) ∧ Ext (σ.new R) σ' ∧ ∃ b, fr.get 3 = some (.bool b))
   (fun r => ∃ fr σ', r = ⟨.exit 0, fr, σ'⟩ ∧ Ext σ σ' ∧ ∃ b, fr.get 3 = some (.bool b)) ?_ ?_ ?_ ?_
  ·exact ⟨fR, fR, hE2, b, fR⟩
  ·rintro k fr σ' hk ⟨g4, g1, hE, b, g3⟩
   have hc := lt_true hk
   have w1 : σ'.row σ.n = some R := by rw [hE.row (by simp)]; exact cL
   have hEn := hE.n
   simp only [new_n] at hEn
   have hE0 : Ext σ σ' := E0.trans hE
   cases b with
   | false =>
    refine gT1 (And.intro @g4 (And.intro @g1 (And.intro @g3 (And.intro @hc (And.intro @w1 (And.intro @hs3 (And.intro @yu_t @yu_f))))))) ?_;try exact ⟨⟩
    exact ⟨_, _, rfl, hE0, false, fR1 g3⟩
   | true =>
   rcases h with ⟨rfl, rfl⟩ | ⟨B, off, sp, cells, j1, j2, e1, e2, r1, r2, rfl, rfl, l3, l4, rfl, p1, p2, f1, f2, s1, s2, x1, x2⟩
   ·omega
   have w2 : σ'.row B = some cells := by rw [hE0.row l3]; exact l4
   have hk2 : k = 0 ∨ k = 1 := by omega
   have both : ∃ jj ee rr, sub cells (off + k * 5) 5 = some rr ∧ FOk jj ee ∧ ExAt σ rr ee ∧ jj < s ∧ jj ≤ 1000 := by
    rcases hk2 with rfl | rfl
    ·exact ⟨j1, e1, r1, by simpa using s1, f1, x1, by omega, by omega⟩
    ·exact ⟨j2, e2, r2, by simpa using s2, f2, x2, by omega, by omega⟩
   obtain ⟨jj, ee, rr, s3, f3, x3, y1, y2⟩ := both
   refine gT1 (And.intro @g4 (And.intro @g1 (And.intro @g3 (And.intro @hc (And.intro @w1 (And.intro @hs3 (And.intro @w2 (And.intro @s3 (And.intro @yu_t @yu_f))))))))) ?_;try exact ⟨⟩
   refine (ih y1 y2 f3 (x3.mono hE0)).mono ?_
   rintro r ⟨q, σ3, rfl, hE3⟩
   refine gT1 (And.intro @g4 (And.intro @g1 @g3)) ?_;try exact ⟨⟩
   exact ⟨fR, fR1 g1, hE.trans hE3, q, fR⟩
  ·rintro fr σ' ⟨g4, g1, hE, b, g3⟩
   have w1 : σ'.row σ.n = some R := by rw [hE.row (by simp)]; exact cL
   refine gT1 (And.intro @g4 (And.intro @g1 (And.intro @w1 (And.intro @hs3 (And.intro @yu_t @yu_f))))) ?_;try exact ⟨⟩
   exact ⟨_, _, rfl, E0.trans hE, b, fR1 g3⟩
  rintro r ⟨fr, σ', rfl, hE, b, g3⟩
  refine gT1 (And.intro @g3 @Tryz.results127) ?_;try exact ⟨⟩
  exact ⟨b, _, rfl, hE⟩
theorem rightformula_ok {σ : St} {j : Nat} {e : Ex} {row : List Value} (hj : j ≤ 1000) (hf : FOk j e) (he : ExAt σ row e) : Ev (go Tryz.prog HS (.fn 94) [.agg ⟨row⟩] σ) (fun r => ∃ b σ', r = ⟨false, .bool b, σ'⟩ ∧ Ext σ σ') ⟨⟩ := by
 have hlen := he.len
 have hfr : sub row 0 5 = some row := sub_full (by omega) (by omega)
 refine ev_go Tryz.func94 rfl rfl ?_
 refine gT1 @hfr ?_;try exact ⟨⟩
 have E0 : Ext σ (σ.new row) := eX
 refine (sound_ok _ (Nat.lt_succ_self _) hj hf (he.mono E0)).mono ?_
 rintro r ⟨b, σ2, rfl, hE2⟩
 have w2 : σ2.row σ.n = some row := by rw [hE2.row (by simp)]; exact cL
 have E2 := E0.trans hE2
 cases b with
 | false =>
  refine gT1 (And.intro @yu_t (And.intro @yu_f @Tryz.results94)) ?_;try exact ⟨⟩
  exact ⟨_, _, rfl, E2⟩
 | true =>
  refine gT1 (And.intro @w2 (And.intro @hfr (And.intro @yu_t @yu_f))) ?_;try exact ⟨⟩
  refine (parts_ok _ (Nat.lt_succ_self _) hj hf (he.mono E2)).mono ?_
  rintro r ⟨p, σ3, rfl, -, hE3⟩
  have w3 : σ3.row σ.n = some row := by rw [hE3.row (by have := hE2.n; simp at this; omega)]; exact w2
  have E3 := E2.trans hE3
  cases q : decide (60 < (p : Int)) with
  | true =>
   refine gT1 (And.intro @q (And.intro @yu_t (And.intro @yu_f @Tryz.results94))) ?_;try exact ⟨⟩
   exact ⟨_, _, rfl, E3⟩
  | false =>
   refine gT1 (And.intro @q (And.intro @w3 (And.intro @hfr (And.intro @yu_t @yu_f)))) ?_;try exact ⟨⟩
   refine (depth_ok _ (Nat.lt_succ_self _) hj hf (he.mono E3)).mono ?_
   rintro r ⟨p', σ4, rfl, -, hE4⟩
   refine gT1 (And.intro @yu_t (And.intro @yu_f @Tryz.results94)) ?_;try exact ⟨⟩
   exact ⟨_, _, rfl, E3.trans hE4⟩
end Go.Proofs.G
namespace Go.Proofs.G
open Go Go.Ab
open Nat (reduceMul reduceEqDiff reduceAdd)
set_option maxRecDepth 100000
theorem rdec_pos : ∀ (f n : Nat) {σ : St}, n < f → n ≤ 9223372036854775807 →
  Ev (go Tryz.prog HS (.fn 187) [.int .i64 (n : Nat)] σ) (fun r => ∃ σ', r = ⟨false, str (decN n), σ'⟩ ∧ Ext σ σ') ⟨⟩ := by
 intro f
 induction f with
 | zero => intro n σ h; omega
 | succ f ih =>
  intro n σ hf hn
  refine ev_go Tryz.func187 rfl rfl ?_
  have hlt : decide ((n : Int) < 0) = false := by first | (simp; done) | (simp; omega)
  by_cases h10 : n < 10
  ·have hc : decide ((n : Int) < 10) = true := by first | (simp; done) | (simp; omega)
   have hd : UInt8.ofNat (48 + (n : Int)).toNat = dig n := by unfold dig; congr 1; omega
   simp (maxSteps := 1000000) (disch := first | exact dS | fail) only [↓bD2, bW2, reduceMul, reduceEqDiff, reduceAdd, Nat.reduceBEq, reduceIte, hlt, hc, yu_t, yu_f, Nat.one_mul, Nat.mul_one, Nat.zero_mul, Nat.reduceMul, hd, Tryz.results187]
   rw [decN_small h10]
   exact ⟨_, rfl, (Ext.refl _).new' _⟩
  ·have hc : decide ((n : Int) < 10) = false := by first | (simp; done) | (simp; omega)
   have hq : IntKind.i64.wrap ((n : Int).tdiv 10) = ((n / 10 : Nat) : Int) := by
    rw [show (n : Int).tdiv 10 = ((n / 10 : Nat) : Int) from rfl]
    exact wrap64_in (by omega) (by omega)
   refine gT1 (And.intro @hlt (And.intro @hc (And.intro @hq (And.intro @yu_t @yu_f)))) ?_;try exact ⟨⟩
   refine (ih (n / 10) (by omega) (by omega)).mono ?_
   rintro r ⟨σ', rfl, hE⟩
   have hr : (n : Int).tmod 10 = ((n % 10 : Nat) : Int) := rfl
   refine gT1 @hr ?_;try exact ⟨⟩
   refine (ih (n % 10) (by omega) (by omega)).mono ?_
   rintro r ⟨σ2, rfl, hE2⟩
   have hlen := decN_len20 (n := n / 10) (by omega)
   have h1 : decN (n % 10) = [dig n] := by rw [decN_small (by omega)]; unfold dig; congr 2; omega
   rw [h1]
   refine gT1 @Tryz.results187 ?_;try exact ⟨⟩
   rw [← decN_big h10]
   exact ⟨_, rfl, hE.trans hE2⟩
theorem rq_int {n : Nat} (h : n < 1000000000) : RQ (n : Int) 1 := ⟨by omega, by omega, by omega, by omega, by simp⟩
theorem rtext_ok {σ : St} {n : Nat} (h : n < 1000000000) : Ev (go Tryz.prog HS (.fn 159) [ratQ (n : Nat) 1] σ) (fun r => ∃ σ', r = ⟨false, str (decN n), σ'⟩ ∧ Ext σ σ') ⟨⟩ := by
 refine ev_go Tryz.func159 rfl rfl ?_
 unfold ratQ
 refine gT ?_;try exact ⟨⟩
 refine (right_ok (rq_int h)).mono ?_
 rintro r ⟨σ2, rfl, hE2⟩
 have r1 : σ2.row σ.n = some [.int .i64 (n : Nat), .int .i64 1] := by rw [hE2.row (cL)]; exact cL
 refine gT1 @r1 ?_;try exact ⟨⟩
 refine (rdec_pos _ n (Nat.lt_succ_self _) (by omega)).mono ?_
 rintro r ⟨σ3, rfl, hE3⟩
 refine gT1 @Tryz.results159 ?_;try exact ⟨⟩
 exact ⟨_, rfl, Ext.trans (eX) (hE2.trans hE3)⟩
theorem rnumber_ok {σ : St} {n : Nat} (h : n < 1000000000) : Ev (go Tryz.prog HS (.fn 131) [.int .i64 (n : Nat)] σ) (fun r => ∃ σ', r = ⟨false, str (decN n), σ'⟩ ∧ Ext σ σ') ⟨⟩ := by
 refine ev_go Tryz.func131 rfl rfl ?_
 refine gT ?_;try exact ⟨⟩
 refine (rtext_ok h).mono ?_
 rintro r ⟨σ2, rfl, hE2⟩
 refine gT1 @Tryz.results131 ?_;try exact ⟨⟩
 exact ⟨_, rfl, hE2⟩
theorem decN_len9 {n : Nat} (h : n < 1000000000) : (decN n).length ≤ 9 := decN_len 8 n (by omega)
set_option maxHeartbeats 2000000 in
theorem rdecimal_ok {σ : St} {n d : Int} (h : RQ n d) (h0 : 0 ≤ n) (hd : (1000000 : Int) % d = 0) : Ev (go Tryz.prog HS (.fn 160) [ratQ n d] σ) (fun r => ∃ s σ', r = ⟨false, str s, σ'⟩ ∧ s.length ≤ 40 ∧ Ext σ σ') ⟨⟩ := by
 obtain ⟨N, rfl⟩ := Int.eq_ofNat_of_zero_le h0
 obtain ⟨D, rfl⟩ := Int.eq_ofNat_of_zero_le (by have := h.d1; omega : 0 ≤ d)
 have d1 := h.d1
 have d2 := h.d2
 have n2 := h.n2
 have hD : 0 < D := by omega
 obtain ⟨m, hm⟩ : ∃ m, N % D = m := ⟨_, rfl⟩
 have last : ∀ x, x = 10 ^ 6 * m → x % D = 0 := by
  intro x hx
  have hdd : (10 ^ 6) % D = 0 := Int.natCast_inj.1 (by rw [Int.natCast_emod]; exact hd)
  rw [hx, Nat.mul_mod, hdd, Nat.zero_mul, Nat.zero_mod]
 clear hd
 refine ev_go Tryz.func160 rfl rfl ?_
 unfold ratQ
 have z0 : decide ((D : Int) = 0) = false := decide_eq_false (by omega)
 obtain ⟨q, hq⟩ : ∃ q, N / D = q := ⟨_, rfl⟩
 have b1 : q < 1000000000 := by rw [← hq]; exact Nat.lt_of_le_of_lt (Nat.div_le_self _ _) (by omega)
 have b2 : m < D := by rw [← hm]; exact Nat.mod_lt _ hD
 have e1 : IntKind.i64.wrap ((N : Int).tdiv D) = (q : Int) := by
  rw [show (N : Int).tdiv D = ((N / D : Nat) : Int) from rfl, hq]; exact wrap64_in (by omega) (by omega)
 have e2 : (N : Int).tmod D = (m : Int) := by rw [← hm]; rfl
 refine gT1 (And.intro @z0 (And.intro @e1 @e2)) ?_;try exact ⟨⟩
 refine (rnumber_ok b1).mono ?_
 rintro r ⟨σ2, rfl, hE2⟩
 have r1 : σ2.row σ.n = some [.int .i64 (N : Nat), .int .i64 (D : Nat)] := by rw [hE2.row (cL)]; exact cL
 have hl := decN_len9 b1
 have step : ∀ k, (10 ^ (k + 1) * m) % D = (10 * ((10 ^ k * m) % D)) % D := by
  intro k
  rw [Nat.pow_succ, Nat.mul_comm (10 ^ k) 10, Nat.mul_assoc, Nat.mul_mod 10, Nat.mul_mod 10 ((10 ^ k * m) % D), Nat.mod_mod]
 by_cases m0 : m = 0
 ·have c0 : decide (0 < (m : Int)) = false := decide_eq_false (by omega)
  refine gT1 (And.intro @r1 (And.intro @z0 (And.intro @e2 @c0))) ?_;try exact ⟨⟩
  refine ev_loop (fun j fr σ3 => ∃ k s rest, j + k = 6 ∧ rest = (10 ^ k * m) % D ∧ fr.get 4 = some (.int .i64 (rest : Nat)) ∧ fr.get 3 = some (str s) ∧ s.length ≤ 10 + k ∧ fr.get 1 = some (.pointer (some ⟨σ.n, 0, none⟩)) ∧ Ext (σ.new [.int .i64 (N : Nat), .int .i64 (D : Nat)]) σ3)
   (fun r => ∃ fr σ3 s, r = ⟨.exit 0, fr, σ3⟩ ∧ fr.get 3 = some (str s) ∧ s.length ≤ 20 ∧ Ext σ σ3) 6 ⟨0, _, m, rfl, by rw [Nat.pow_zero, Nat.one_mul, Nat.mod_eq_of_lt b2], fR, fR, by omega, fR, hE2⟩ ?_ ?_
  ·rintro j fr σ3 ⟨k, s, rest, hj, hrest, g4, g3, hs, g1, hE⟩
   by_cases r0 : rest = 0
   ·have c1 : decide (0 < (rest : Int)) = false := decide_eq_false (by omega)
    refine gT1 (And.intro @g4 (And.intro @g3 @c1)) ?_;try exact ⟨⟩
    exact ⟨_, _, s, rfl, fR1 g3, by omega, Ext.trans (eX) hE⟩
   have k6 : k < 6 := by
    rcases Nat.lt_or_ge k 6 with h | h
    ·exact h
    ·obtain rfl : k = 6 := by omega
     exact absurd (hrest.trans (last _ rfl)) r0
   have c1 : decide (0 < (rest : Int)) = true := decide_eq_true (by omega)
   have rD : rest < D := by rw [hrest]; exact Nat.mod_lt _ hD
   have w1 : σ3.row σ.n = some [.int .i64 (N : Nat), .int .i64 (D : Nat)] := by rw [hE.row (by simp)]; exact cL
   obtain ⟨u, hu⟩ : ∃ u, 10 * rest / D = u := ⟨_, rfl⟩
   obtain ⟨v, hv⟩ : ∃ v, 10 * rest % D = v := ⟨_, rfl⟩
   have u10 : u < 10 := by rw [← hu]; exact Nat.div_lt_of_lt_mul (by rw [Nat.mul_comm]; omega)
   have f1 : IntKind.i64.wrap ((10 * (rest : Int)).tdiv D) = (u : Int) := by
    rw [show (10 * (rest : Int)) = ((10 * rest : Nat) : Int) by omega, show ((10 * rest : Nat) : Int).tdiv D = ((10 * rest / D : Nat) : Int) from rfl, hu]; exact wrap64_in (by omega) (by omega)
   have f2 : (10 * (rest : Int)).tmod D = (v : Int) := by
    rw [show (10 * (rest : Int)) = ((10 * rest : Nat) : Int) by omega, show ((10 * rest : Nat) : Int).tmod D = ((10 * rest % D : Nat) : Int) from rfl, hv]
   refine gT1 (And.intro @g4 (And.intro @g3 (And.intro @g1 (And.intro @c1 (And.intro @w1 (And.intro @z0 @f1)))))) ?_;try exact ⟨⟩
   refine (rnumber_ok (n := u) (by omega)).mono ?_
   rintro r ⟨σ4, rfl, hE4⟩
   have w2 : σ4.row σ.n = some [.int .i64 (N : Nat), .int .i64 (D : Nat)] := by rw [hE4.row (by have := hE.n; simp at this; omega)]; exact w1
   have l1 : (decN u).length = 1 := by rw [decN_small u10]; rfl
   refine gT1 (And.intro @g4 (And.intro @g3 (And.intro @g1 (And.intro @w2 (And.intro @z0 @f2))))) ?_;try exact ⟨⟩
   refine ⟨6 - (k + 1), by omega, k + 1, s ++ decN u, v, by omega, by rw [step, ← hrest, hv], fR, fR, by simp; omega, fR1 g1, hE.trans hE4⟩
  rintro r ⟨fr, σ3, s, rfl, g3, hs, hE⟩
  refine gT1 (And.intro @g3 @Tryz.results160) ?_;try exact ⟨⟩
  exact ⟨s, _, rfl, by omega, hE⟩
 ·have c0 : decide (0 < (m : Int)) = true := decide_eq_true (by omega)
  refine gT1 (And.intro @r1 (And.intro @z0 (And.intro @e2 @c0))) ?_;try exact ⟨⟩
  refine ev_loop (fun j fr σ3 => ∃ k s rest, j + k = 6 ∧ rest = (10 ^ k * m) % D ∧ fr.get 4 = some (.int .i64 (rest : Nat)) ∧ fr.get 3 = some (str s) ∧ s.length ≤ 10 + k ∧ fr.get 1 = some (.pointer (some ⟨σ.n, 0, none⟩)) ∧ Ext (σ.new [.int .i64 (N : Nat), .int .i64 (D : Nat)]) σ3)
   (fun r => ∃ fr σ3 s, r = ⟨.exit 0, fr, σ3⟩ ∧ fr.get 3 = some (str s) ∧ s.length ≤ 20 ∧ Ext σ σ3) 6 ⟨0, decN q ++ [46], m, rfl, by rw [Nat.pow_zero, Nat.one_mul, Nat.mod_eq_of_lt b2], fR, fR, by simp; omega, fR, hE2⟩ ?_ ?_
  ·rintro j fr σ3 ⟨k, s, rest, hj, hrest, g4, g3, hs, g1, hE⟩
   by_cases r0 : rest = 0
   ·have c1 : decide (0 < (rest : Int)) = false := decide_eq_false (by omega)
    refine gT1 (And.intro @g4 (And.intro @g3 @c1)) ?_;try exact ⟨⟩
    exact ⟨_, _, s, rfl, fR1 g3, by omega, Ext.trans (eX) hE⟩
   have k6 : k < 6 := by
    rcases Nat.lt_or_ge k 6 with h | h
    ·exact h
    ·obtain rfl : k = 6 := by omega
     exact absurd (hrest.trans (last _ rfl)) r0
   have c1 : decide (0 < (rest : Int)) = true := decide_eq_true (by omega)
   have rD : rest < D := by rw [hrest]; exact Nat.mod_lt _ hD
   have w1 : σ3.row σ.n = some [.int .i64 (N : Nat), .int .i64 (D : Nat)] := by rw [hE.row (by simp)]; exact cL
   obtain ⟨u, hu⟩ : ∃ u, 10 * rest / D = u := ⟨_, rfl⟩
   obtain ⟨v, hv⟩ : ∃ v, 10 * rest % D = v := ⟨_, rfl⟩
   have u10 : u < 10 := by rw [← hu]; exact Nat.div_lt_of_lt_mul (by rw [Nat.mul_comm]; omega)
   have f1 : IntKind.i64.wrap ((10 * (rest : Int)).tdiv D) = (u : Int) := by
    rw [show (10 * (rest : Int)) = ((10 * rest : Nat) : Int) by omega, show ((10 * rest : Nat) : Int).tdiv D = ((10 * rest / D : Nat) : Int) from rfl, hu]; exact wrap64_in (by omega) (by omega)
   have f2 : (10 * (rest : Int)).tmod D = (v : Int) := by
    rw [show (10 * (rest : Int)) = ((10 * rest : Nat) : Int) by omega, show ((10 * rest : Nat) : Int).tmod D = ((10 * rest % D : Nat) : Int) from rfl, hv]
   refine gT1 (And.intro @g4 (And.intro @g3 (And.intro @g1 (And.intro @c1 (And.intro @w1 (And.intro @z0 @f1)))))) ?_;try exact ⟨⟩
   refine (rnumber_ok (n := u) (by omega)).mono ?_
   rintro r ⟨σ4, rfl, hE4⟩
   have w2 : σ4.row σ.n = some [.int .i64 (N : Nat), .int .i64 (D : Nat)] := by rw [hE4.row (by have := hE.n; simp at this; omega)]; exact w1
   have l1 : (decN u).length = 1 := by rw [decN_small u10]; rfl
   refine gT1 (And.intro @g4 (And.intro @g3 (And.intro @g1 (And.intro @w2 (And.intro @z0 @f2))))) ?_;try exact ⟨⟩
   refine ⟨6 - (k + 1), by omega, k + 1, s ++ decN u, v, by omega, by rw [step, ← hrest, hv], fR, fR, by simp; omega, fR1 g1, hE.trans hE4⟩
  rintro r ⟨fr, σ3, s, rfl, g3, hs, hE⟩
  refine gT1 (And.intro @g3 @Tryz.results160) ?_;try exact ⟨⟩
  exact ⟨s, _, rfl, by omega, hE⟩
end Go.Proofs.G
