/- A part of the proof: a walk of some functions. -/
import Derived.Test.YtcjkjjnnicadfaaGreatDoorGI
import Derived.Test.YtcjkjjnnicadfaaGreatDoorGE
import Derived.Test.YtcjkjjnnicadfaaGreatDoorG53
set_option linter.unusedSimpArgs false
set_option linter.unusedVariables false
namespace Go.Proofs.G
open Go Go.Ab
open Nat (reduceMul reduceEqDiff reduceAdd)
set_option maxRecDepth 100000
theorem isprod_ok {σ : St} {row : List Value} {o : By} {r : List Value} (hr : row = str o :: r) (hl : row.length = 5) : Ev (go Tryz.prog HS (.fn 161) [.agg ⟨row⟩] σ) (fun r => ∃ b σ', r = ⟨false, .bool b, σ'⟩ ∧ Ext σ σ') ⟨⟩ := by
 have hfr : sub row 0 5 = some row := sub_full (by omega) (by omega)
 have h1 : sub row 0 1 = some [str o] := by subst hr; rfl
 refine ev_go Tryz.func161 rfl rfl ?_
 cases a : decide (o = [42]) <;> simp (maxSteps := 1000000) (disch := first | exact dS | fail) only [↓bD2, bW2, reduceMul, reduceEqDiff, reduceAdd, Nat.reduceBEq, reduceIte, hfr, h1, a, yu_t, yu_f, Tryz.results161] <;> exact ⟨_, _, rfl, eX⟩
theorem issum_ok {σ : St} {row : List Value} {o : By} {r : List Value} (hr : row = str o :: r) (hl : row.length = 5) : Ev (go Tryz.prog HS (.fn 162) [.agg ⟨row⟩] σ) (fun r => ∃ b σ', r = ⟨false, .bool b, σ'⟩ ∧ Ext σ σ') ⟨⟩ := by
 have hfr : sub row 0 5 = some row := sub_full (by omega) (by omega)
 have h1 : sub row 0 1 = some [str o] := by subst hr; rfl
 refine ev_go Tryz.func162 rfl rfl ?_
 cases a : decide (o = [43]) <;> simp (maxSteps := 1000000) (disch := first | exact dS | fail) only [↓bD2, bW2, reduceMul, reduceEqDiff, reduceAdd, Nat.reduceBEq, reduceIte, hfr, h1, a, yu_t, yu_f, Tryz.results162] <;> exact ⟨_, _, rfl, eX⟩
def PrintOk (j : Nat) (e : Ex) : Prop := ∀ {σ : St} {row : List Value}, j ≤ 1000 → ExAt σ row e → Ev (go Tryz.prog HS (.fn 132) [.agg ⟨row⟩] σ) (fun r => ∃ s σ', r = ⟨false, str s, σ'⟩ ∧ s.length + 10 ≤ 50 * j ∧ Ext σ σ') ⟨⟩
theorem argument_ok {j : Nat} {e : Ex} (h : PrintOk j e) {σ : St} {row : List Value} {b : Bool} (hj : j ≤ 1000) (he : ExAt σ row e) : Ev (go Tryz.prog HS (.fn 163) [.agg ⟨row⟩, .bool b] σ) (fun r => ∃ s σ', r = ⟨false, str s, σ'⟩ ∧ s.length + 8 ≤ 50 * j ∧ Ext σ σ') ⟨⟩ := by
 have hlen := he.len
 have hfr : sub row 0 5 = some row := sub_full (by omega) (by omega)
 refine ev_go Tryz.func163 rfl rfl ?_
 have E0 : Ext σ (σ.new row) := eX
 cases b with
 | true =>
  refine gT1 @hfr ?_;try exact ⟨⟩
  refine (h hj (he.mono E0)).mono ?_
  rintro r ⟨s, σ2, rfl, hs, hE⟩
  refine gT1 @Tryz.results163 ?_;try exact ⟨⟩
  exact ⟨_, _, rfl, by simp; omega, E0.trans hE⟩
 | false =>
  refine gT1 @hfr ?_;try exact ⟨⟩
  refine (h hj (he.mono E0)).mono ?_
  rintro r ⟨s, σ2, rfl, hs, hE⟩
  refine gT1 @Tryz.results163 ?_;try exact ⟨⟩
  exact ⟨_, _, rfl, by omega, E0.trans hE⟩
set_option maxHeartbeats 4000000 in
theorem print_ok {j : Nat} {e : Ex} (hf : FOk j e) : PrintOk j e := by
 induction hf with
 | @num n d h h0 hd =>
  intro σ row hj he
  obtain ⟨v, rows, rfl, -, -, -⟩ := he
  refine ev_go Tryz.func132 rfl rfl ?_
  simp (maxSteps := 1000000) (disch := first | exact dS | fail) only [↓bD2, bW2, reduceMul, reduceEqDiff, reduceAdd, Nat.reduceBEq, reduceIte, numO]
  refine (rdecimal_ok h h0 hd).mono ?_
  rintro r ⟨s, σ2, rfl, hs, hE⟩
  refine gT1 @Tryz.results132 ?_;try exact ⟨⟩
  exact ⟨_, _, rfl, by omega, Ext.trans (eX) hE⟩
 | @name nm h =>
  intro σ row hj he
  obtain ⟨v, rows, rfl, -, -, -⟩ := he
  have d1 : decide (([110,97,109,101] : By) = [110,117,109]) = false := by decide
  refine ev_go Tryz.func132 rfl rfl ?_
  simp (maxSteps := 1000000) (disch := first | exact dS | fail) only [↓bD2, bW2, reduceMul, reduceEqDiff, reduceAdd, Nat.reduceBEq, reduceIte, nameO, d1, Tryz.results132]
  exact ⟨_, _, rfl, by omega, eX⟩
 | @op o j k a b h1 h2 hl ha hb iha ihb =>
  intro σ row hj he
  obtain ⟨v, rows, rfl, hsl, -, hex⟩ := he
  obtain ⟨B, off, sp, c, cells, r1, r2, rfl, l3, l4, s1, s2, x1, x2⟩ := two_args hsl hex
  have d1 : decide (o = [110,117,109]) = false := decide_eq_false h1
  have d2 : decide (o = [110,97,109,101]) = false := decide_eq_false h2
  have len1 := x1.len
  have len2 := x2.len
  have hf1 : sub r1 0 5 = some r1 := sub_full (by omega) (by omega)
  have hf2 : sub r2 0 5 = some r2 := sub_full (by omega) (by omega)
  refine ev_go Tryz.func132 rfl rfl ?_
  obtain ⟨R, hR⟩ : ∃ R : List Value, [str o, .int .i64 0, .int .i64 0, str [], .slice (some ⟨B, off, sp⟩) 2 c] = R := ⟨_, rfl⟩
  have q0 : sub R 0 1 = some [str o] := by rw [← hR]; rfl
  have q4 : sub R 4 1 = some [.slice (some ⟨B, off, sp⟩) 2 c] := by rw [← hR]; rfl
  have qf : sub R 0 5 = some R := by rw [← hR]; rfl
  have ql : R.length = 5 := by rw [← hR]; rfl
  rw [hR]
  have E0 : Ext σ (σ.new R) := eX
  have mm : ∀ (x : Bool), decide (o = [109,105,110]) = x → (x = true ∨ decide (o = [109,97,120]) = true) → Ev (lim Tryz.prog HS none .skip .nil σ) (fun _ => True) ⟨⟩ := by
   intro x _ _; rw [er_skip]; trivial
  clear mm
  cases m1 : decide (o = [109,105,110]) with
  | true =>
   refine gT1 (And.intro @q0 (And.intro @q4 (And.intro @qf (And.intro @d1 (And.intro @d2 (And.intro @m1 (And.intro @l4 (And.intro @s1 @Nat.add_zero)))))))) ?_;try exact ⟨⟩
   refine (iha (by omega) (x1.mono E0)).mono ?_
   rintro r ⟨u, σ2, rfl, hu, hE2⟩
   have n2 := hE2.n
   simp only [new_n] at n2
   have w1 : σ2.row σ.n = some R := by rw [hE2.row (by simp)]; exact cL
   have E2 := E0.trans hE2
   have w2 : σ2.row B = some cells := by rw [E2.row l3]; exact l4
   refine gT1 (And.intro @w1 (And.intro @w2 (And.intro @q4 @s2))) ?_;try exact ⟨⟩
   refine (ihb (by omega) (x2.mono E2)).mono ?_
   rintro r ⟨u2, σ3, rfl, hu2, hE3⟩
   simp (maxSteps := 1000000) (disch := first | exact dS | fail) only [↓bD2, bW2, reduceMul, reduceEqDiff, reduceAdd, Nat.reduceBEq, reduceIte, asx hE2, asx hE3, Tryz.results132]
   try refine Must.intro (by (repeat first | simp (disch := omega) only [as_read, as_upd, as_newb, asx hE2, asx hE3] | rw [as_ord (by kernel_rfl)]); rfl) ?_
   try simp (maxSteps := 1000000) (disch := first | exact dS | fail) only [↓bD2, bW2, reduceMul, reduceEqDiff, reduceAdd, Nat.reduceBEq, reduceIte, Tryz.results132]
   exact ⟨_, _, rfl, by simp; omega, E2.trans hE3⟩
  | false =>
  cases m2 : decide (o = [109,97,120]) with
  | true =>
   refine gT1 (And.intro @q0 (And.intro @q4 (And.intro @qf (And.intro @d1 (And.intro @d2 (And.intro @m1 (And.intro @m2 (And.intro @l4 (And.intro @s1 @Nat.add_zero))))))))) ?_;try exact ⟨⟩
   refine (iha (by omega) (x1.mono E0)).mono ?_
   rintro r ⟨u, σ2, rfl, hu, hE2⟩
   have n2 := hE2.n
   simp only [new_n] at n2
   have w1 : σ2.row σ.n = some R := by rw [hE2.row (by simp)]; exact cL
   have E2 := E0.trans hE2
   have w2 : σ2.row B = some cells := by rw [E2.row l3]; exact l4
   refine gT1 (And.intro @w1 (And.intro @w2 (And.intro @q4 @s2))) ?_;try exact ⟨⟩
   refine (ihb (by omega) (x2.mono E2)).mono ?_
   rintro r ⟨u2, σ3, rfl, hu2, hE3⟩
   simp (maxSteps := 1000000) (disch := first | exact dS | fail) only [↓bD2, bW2, reduceMul, reduceEqDiff, reduceAdd, Nat.reduceBEq, reduceIte, asx hE2, asx hE3, Tryz.results132]
   try refine Must.intro (by (repeat first | simp (disch := omega) only [as_read, as_upd, as_newb, asx hE2, asx hE3] | rw [as_ord (by kernel_rfl)]); rfl) ?_
   try simp (maxSteps := 1000000) (disch := first | exact dS | fail) only [↓bD2, bW2, reduceMul, reduceEqDiff, reduceAdd, Nat.reduceBEq, reduceIte, Tryz.results132]
   exact ⟨_, _, rfl, by simp; omega, E2.trans hE3⟩
  | false =>
  refine gT1 (And.intro @q0 (And.intro @q4 (And.intro @qf (And.intro @d1 (And.intro @d2 (And.intro @m1 (And.intro @m2 (And.intro @l4 (And.intro @s1 (And.intro @s2 @Nat.add_zero)))))))))) ?_;try exact ⟨⟩
  obtain ⟨S0, hS0⟩ : ∃ S, (((((σ.new R).new [str [], .int .i64 0, .int .i64 0, str [], .slice none 0 0]).upd (σ.n + 1) r1).new [str [], .int .i64 0, .int .i64 0, str [], .slice none 0 0]).upd (σ.n + 1 + 1) r2) = S := ⟨_, rfl⟩
  rw [hS0]
  have E0 : Ext σ S0 := by rw [← hS0]; exact eX
  have n0 : S0.n = σ.n + 3 := by rw [← hS0]; rfl
  have C0 : Cl S0 [(σ.n, R), (σ.n + 1, r1), (σ.n + 1 + 1, r2)] := ⟨⟨by omega, by rw [← hS0]; exact cL⟩, ⟨by omega, by rw [← hS0]; exact cL⟩, ⟨by omega, by rw [← hS0]; exact cL⟩, trivial⟩
  obtain ⟨o1, m1', k1', nn1, v1, hr1, -⟩ := x1.row5
  obtain ⟨o2, m2', k2', nn2, v2, hr2, -⟩ := x2.row5
  refine (isprod_ok hR.symm ql).mono ?_
  rintro r ⟨b1, σ2, rfl, hE2⟩
  have C2 := C0.ext hE2
  have E2 := E0.trans hE2
  obtain ⟨⟨-, a0⟩, ⟨-, a1⟩, ⟨-, a2⟩, -⟩ := id C2
  have a0 := row_of a0
  have a1 := row_of a1
  have a2 := row_of a2
  refine gT1 (And.intro @a1 @hf1) ?_;try exact ⟨⟩
  refine (issum_ok hr1 len1).mono ?_
  rintro r ⟨b2, σ3, rfl, hE3⟩
  have C3 := C2.ext hE3
  have E3 := E2.trans hE3
  obtain ⟨⟨-, a0⟩, ⟨-, a1⟩, ⟨-, a2⟩, -⟩ := id C3
  have a0 := row_of a0
  have a1 := row_of a1
  have a2 := row_of a2
  refine gT1 (And.intro @a2 @hf2) ?_;try exact ⟨⟩
  refine (issum_ok hr2 len2).mono ?_
  rintro r ⟨b3, σ4, rfl, hE4⟩
  have C4 := C3.ext hE4
  have E4 := E3.trans hE4
  obtain ⟨⟨-, a0⟩, ⟨-, a1⟩, ⟨-, a2⟩, -⟩ := id C4
  have a0 := row_of a0
  have a1 := row_of a1
  have a2 := row_of a2
  refine gT1 (And.intro @a2 @hf2) ?_;try exact ⟨⟩
  refine (isprod_ok hr2 len2).mono ?_
  rintro r ⟨b4, σ5, rfl, hE5⟩
  have C5 := C4.ext hE5
  have E5 := E4.trans hE5
  obtain ⟨⟨-, a0⟩, ⟨-, a1⟩, ⟨-, a2⟩, -⟩ := id C5
  have a0 := row_of a0
  have a1 := row_of a1
  have a2 := row_of a2
  have arg : ∀ (x : Bool), ∀ (y : Bool), True := fun _ _ => trivial
  clear arg
  cases b2 <;> (
   refine gT1 (And.intro @a1 (And.intro @hf1 (And.intro @yu_t @yu_f))) ?_;try exact ⟨⟩
   refine (argument_ok iha (by omega) (x1.mono E5)).mono ?_
   rintro r ⟨u, σ6, rfl, hu, hE6⟩
   have C6 := C5.ext hE6
   have E6 := E5.trans hE6
   obtain ⟨⟨-, a0⟩, ⟨-, a1⟩, ⟨-, a2⟩, -⟩ := id C6
   have a0 := row_of a0
   have a1 := row_of a1
   have a2 := row_of a2
   cases b3 <;> cases b4 <;> (
    refine gT1 (And.intro @a0 (And.intro @a2 (And.intro @q0 (And.intro @hf2 (And.intro @yu_t @yu_f))))) ?_;try exact ⟨⟩
    refine (argument_ok ihb (by omega) (x2.mono E6)).mono ?_
    rintro r ⟨u2, σ7, rfl, hu2, hE7⟩
    simp (maxSteps := 1000000) (disch := first | exact dS | fail) only [↓bD2, bW2, reduceMul, reduceEqDiff, reduceAdd, Nat.reduceBEq, reduceIte, asx hE6, asx hE7, Tryz.results132]
    try refine Must.intro (by (repeat first | simp (disch := omega) only [as_read, as_upd, as_newb, asx hE6, asx hE7] | rw [as_ord (by kernel_rfl)]); rfl) ?_
    try simp (maxSteps := 1000000) (disch := first | exact dS | fail) only [↓bD2, bW2, reduceMul, reduceEqDiff, reduceAdd, Nat.reduceBEq, reduceIte, Tryz.results132]
    exact ⟨_, _, rfl, by simp; omega, E6.trans hE7⟩))
end Go.Proofs.G
namespace Go.Proofs.G
open Go Go.Ab
open Nat (reduceMul reduceEqDiff reduceAdd)
set_option maxRecDepth 100000
theorem br_cut {α : Type} {c : Bool} {x y : Option α} {Q : α → Prop} {u v : Hd Q} {w : Hd fun z : Bool => cond z (Ev x Q u) (Ev y Q v)} (J : α → Prop) (h : Br c (Ev x J ⟨⟩) (Ev y J ⟨⟩) ⟨⟩) (k : ∀ a, J a → Q a) : Br c (Ev x Q u) (Ev y Q v) w :=
 ⟨fun e => (h.1 e).mono k, fun e => (h.2 e).mono k⟩
theorem small2_ok {σ : St} {n m : Int} : Ev (go Tryz.prog HS (.fn 96) [.int .i64 n, .int .i64 m] σ) (fun r => ∃ b, r = ⟨false, .bool b, σ⟩) ⟨⟩ := by
 refine ev_go Tryz.func96 rfl rfl ?_
 cases a : decide (n < m) <;> simp (maxSteps := 1000000) (disch := first | exact dS | fail) only [↓bD2, bW2, reduceMul, reduceEqDiff, reduceAdd, Nat.reduceBEq, reduceIte, a, yu_t, yu_f, Tryz.results96] <;> exact ⟨_, rfl⟩
structure Parts (σ : St) (ca : List Value) (T : Tn) (vl vc vr : Value) (ex : List Value) (vt vk : Value) : Prop where
 all : sub ca 0 20 = some ca
 p0 : sub ca 0 1 = some [str T.name]
 p1 : sub ca 1 1 = some [vl]
 p2 : sub ca 2 1 = some [vc]
 p3 : sub ca 3 1 = some [vr]
 p4 : sub ca 4 1 = some [.int .i64 T.low]
 p5 : sub ca 5 1 = some [.int .i64 T.high]
 p6 : sub ca 6 5 = some ex
 p11 : sub ca 11 1 = some [vt]
 p12 : sub ca 12 1 = some [.int .i64 T.most]
 p13 : sub ca 13 1 = some [vk]
 p14 : sub ca 14 1 = some [.int .i64 T.budget]
 p15 : sub ca 15 5 = some [.int .i64 T.t.q, .int .i64 T.t.b, .int .i64 T.t.g, .int .i64 T.t.p, .int .i64 T.t.s]
 q15 : sub ca 15 1 = some [.int .i64 T.t.q]
 q16 : sub ca 16 1 = some [.int .i64 T.t.b]
 q17 : sub ca 17 1 = some [.int .i64 T.t.g]
 q18 : sub ca 18 1 = some [.int .i64 T.t.p]
 q19 : sub ca 19 1 = some [.int .i64 T.t.s]
theorem Good.parts {σ : St} {ca : List Value} {T : Tn} (h : Good σ ca T) : ∃ vl vc vr ex vt vk, Parts σ ca T vl vc vr ex vt vk ∧ Lots σ vl T.lots ∧ Crits σ vc T.crits ∧ Reqs σ vr T.reqs ∧ ExAt σ ex T.f ∧ Strs σ vt T.ties ∧ Combos σ vk T.combos := by
 obtain ⟨vl, vc, vr, ex, vt, vk, rfl, h2, h3, h4, h5, h6, h7⟩ := h.at'
 have hx := h5.len
 match ex, hx with
 | [x0, x1, x2, x3, x4], _ =>
 exact ⟨vl, vc, vr, _, vt, vk, ⟨rfl, rfl, rfl, rfl, rfl, rfl, rfl, rfl, rfl, rfl, rfl, rfl, rfl, rfl, rfl, rfl, rfl, rfl⟩, h2, h3, h4, h5, h6, h7⟩
set_option maxHeartbeats 8000000 in
theorem listed_ok {σ : St} {ca : List Value} {T : Tn} (hT : Good σ ca T) : Ev (go Tryz.prog HS (.fn 95) [.agg ⟨ca⟩] σ) (fun r => ∃ b σ', r = ⟨false, .bool b, σ'⟩ ∧ Ext σ σ') ⟨⟩ := by
 obtain ⟨vl, vc, vr, ex, vt, vk, hp, h2, h3, h4, h5, h6, vs, h7, h8⟩ := hT.parts
 obtain ⟨la, lc, lb, lo, lcs, rfl, l1, l2⟩ := h2.use
 obtain ⟨ca', cc, cb, co, ccs, rfl, c1, c2⟩ := h3.use
 obtain ⟨ra, rc, rb, ro, rcs, rfl, r1, r2⟩ := h4.use
 obtain ⟨ta, tc, tb, to', tcs, rfl, t1, t2⟩ := h6.use
 obtain ⟨ka, kc, kb, ko, kcs, rfl, k1, k2⟩ := SL.use' h7
 have hfa := hp.all
 have L1 := hT.ok.lots
 have L2 := hT.ok.crits
 have L3 := hT.ok.reqs
 have L4 := hT.ok.ties
 have L5 := hT.ok.combos
 have L6 := h8.len
 have s1 := hp.p1
 have s2 := hp.p2
 have s3 := hp.p3
 have s7 := hp.p11
 have s9 := hp.p13
 refine ev_go Tryz.func95 rfl rfl ?_
 refine gT1 (And.intro @hfa @s1) ?_;try exact ⟨⟩
 have E0 : Ext σ (σ.new ca) := eX
 have fin : ∀ b, ∃ b' σ', (⟨false, .bool b, σ.new ca⟩ : CR) = ⟨false, .bool b', σ'⟩ ∧ Ext σ σ' := fun b => ⟨b, _, rfl, E0⟩
 cases z1 : decide ((T.lots.length : Int) < 1)
 case true => simp (maxSteps := 1000000) (disch := first | exact dS | fail) only [↓bD2, bW2, reduceMul, reduceEqDiff, reduceAdd, Nat.reduceBEq, reduceIte, z1, yu_t, yu_f, Tryz.results95]; exact fin _
 cases z2 : decide (12 < (T.lots.length : Int))
 case true => simp (maxSteps := 1000000) (disch := first | exact dS | fail) only [↓bD2, bW2, reduceMul, reduceEqDiff, reduceAdd, Nat.reduceBEq, reduceIte, z1, z2, s1, yu_t, yu_f, Tryz.results95]; exact fin _
 cases z3 : decide (12 < (T.crits.length : Int))
 case true => simp (maxSteps := 1000000) (disch := first | exact dS | fail) only [↓bD2, bW2, reduceMul, reduceEqDiff, reduceAdd, Nat.reduceBEq, reduceIte, z1, z2, z3, s1, s2, yu_t, yu_f, Tryz.results95]; exact fin _
 cases z4 : decide (24 < (T.reqs.length : Int))
 case true => simp (maxSteps := 1000000) (disch := first | exact dS | fail) only [↓bD2, bW2, reduceMul, reduceEqDiff, reduceAdd, Nat.reduceBEq, reduceIte, z1, z2, z3, z4, s1, s2, s3, yu_t, yu_f, Tryz.results95]; exact fin _
 cases z5 : decide (12 < (T.ties.length : Int))
 case true => simp (maxSteps := 1000000) (disch := first | exact dS | fail) only [↓bD2, bW2, reduceMul, reduceEqDiff, reduceAdd, Nat.reduceBEq, reduceIte, z1, z2, z3, z4, z5, s1, s2, s3, s7, yu_t, yu_f, Tryz.results95]; exact fin _
 cases z6 : decide (12 < (vs.length : Int))
 case true => simp (maxSteps := 1000000) (disch := first | exact dS | fail) only [↓bD2, bW2, reduceMul, reduceEqDiff, reduceAdd, Nat.reduceBEq, reduceIte, z1, z2, z3, z4, z5, z6, s1, s2, s3, s7, s9, yu_t, yu_f, Tryz.results95]; exact fin _
 refine gT1 (And.intro @z1 (And.intro @z2 (And.intro @z3 (And.intro @z4 (And.intro @z5 (And.intro @z6 (And.intro @s1 (And.intro @s2 (And.intro @s3 (And.intro @s7 (And.intro @s9 (And.intro @yu_t @yu_f)))))))))))) ?_;try exact ⟨⟩
 clear z1 z2 z3 z4 z5 z6 fin
 refine ev_count T.lots.length (fun k fr σ' => fr.get 4 = some (.int .i64 k) ∧ fr.get 1 = some (.pointer (some ⟨σ.n, 0, none⟩)) ∧ (∃ b, fr.get 3 = some (.bool b)) ∧ Ext (σ.new ca) σ')
  (fun r => ∃ fr σ', r = ⟨.exit 0, fr, σ'⟩ ∧ fr.get 1 = some (.pointer (some ⟨σ.n, 0, none⟩)) ∧ (∃ b, fr.get 3 = some (.bool b)) ∧ Ext (σ.new ca) σ') ?_ ?_ ?_ ?_
 ·exact ⟨fR, fR, ⟨_, fR⟩, .refl _⟩
 ·skip
  rintro k fr σ' hk ⟨g4, g1, ⟨b, g3⟩, hE⟩
  have hc := lt_true hk
  have w1 : σ'.row σ.n = some ca := by rw [hE.row (by simp)]; exact cL
  have hEn := hE.n
  simp only [new_n] at hEn
  have hE0 : Ext σ σ' := E0.trans hE
  obtain ⟨x, hx⟩ := at_some hk
  obtain ⟨sp, rfl, l3, l4⟩ := l1 (by omega)
  have w2 : σ'.row lb = some lcs := by rw [hE0.row l3]; exact l4
  obtain ⟨-, m1, m2⟩ := l2 k x hx
  have tail : ∀ fr : Fr, fr.get 5 = some (.int .i64 0) → fr.get 4 = some (.int .i64 k) → fr.get 1 = some (.pointer (some ⟨σ.n, 0, none⟩)) → (∃ b, fr.get 3 = some (.bool b)) → True := fun _ _ _ _ _ => trivial
  clear tail
  obtain ⟨S, hS⟩ : ∃ S, σ' = S := ⟨_, rfl⟩
  rw [hS] at w1 w2 hE hE0 ⊢
  cases b with
  | false =>
   refine gT1 (And.intro @g4 (And.intro @g1 (And.intro @g3 (And.intro @hc (And.intro @w1 (And.intro @s1 (And.intro @yu_t @yu_f))))))) ?_;try exact ⟨⟩
   refine ev_count k (fun j fr τ => fr.get 5 = some (.int .i64 j) ∧ fr.get 4 = some (.int .i64 k) ∧ fr.get 1 = some (.pointer (some ⟨σ.n, 0, none⟩)) ∧ (∃ b, fr.get 3 = some (.bool b)) ∧ τ = S)
    (fun r => ∃ fr, r = ⟨.exit 2, fr, S⟩ ∧ fr.get 4 = some (.int .i64 k) ∧ fr.get 1 = some (.pointer (some ⟨σ.n, 0, none⟩)) ∧ (∃ b, fr.get 3 = some (.bool b))) ?_ ?_ ?_ ?_
   ·exact ⟨fR, fR1 g4, fR1 g1, ⟨_, fR1 g3⟩, rfl⟩
   ·rintro j fr τ hj ⟨h5, h4, g1, ⟨b, g3⟩, rfl⟩
    have hc := lt_true hj
    cases b with
    | false =>
     refine gT1 (And.intro @h5 (And.intro @h4 (And.intro @g1 (And.intro @g3 (And.intro @hc (And.intro @yu_t @yu_f)))))) ?_;try exact ⟨⟩
     exact ⟨fR, fR1 h4, fR1 g1, ⟨_, fR⟩, by trivial⟩
    | true =>
     obtain ⟨y, hy⟩ := at_some (show j < T.lots.length by omega)
     obtain ⟨-, n1, -⟩ := l2 j y hy
     refine gT1 (And.intro @h5 (And.intro @h4 (And.intro @g1 (And.intro @g3 (And.intro @hc (And.intro @w1 (And.intro @s1 (And.intro @w2 (And.intro @m1 (And.intro @n1 (And.intro @yu_t @yu_f))))))))))) ?_;try exact ⟨⟩
     exact ⟨fR, fR1 h4, fR1 g1, ⟨_, fR⟩, by trivial⟩
   ·rintro fr τ ⟨h5, h4, g1, ⟨b, g3⟩, rfl⟩
    refine gT1 (And.intro @h5 @h4) ?_;try exact ⟨⟩
    exact ⟨_, rfl, fR1 h4, fR1 g1, ⟨b, fR1 g3⟩⟩
   rintro r ⟨fr, rfl, g4, g1, ⟨b, g3⟩⟩
   refine gT1 (And.intro @g4 @g1) ?_;try exact ⟨⟩
   exact ⟨fR, fR1 g1, ⟨b, fR1 g3⟩, hE⟩
  | true =>
   refine gT1 (And.intro @g4 (And.intro @g1 (And.intro @g3 (And.intro @hc (And.intro @w1 (And.intro @s1 (And.intro @w2 (And.intro @m1 (And.intro @yu_t @yu_f))))))))) ?_;try exact ⟨⟩
   refine small2_ok.mono ?_
   rintro r ⟨b1, rfl⟩
   cases b1 with
   | false =>
    refine gT1 (And.intro @g4 (And.intro @g1 (And.intro @g3 (And.intro @w1 (And.intro @s1 (And.intro @w2 (And.intro @m1 (And.intro @yu_t @yu_f)))))))) ?_;try exact ⟨⟩
    refine ev_count k (fun j fr τ => fr.get 5 = some (.int .i64 j) ∧ fr.get 4 = some (.int .i64 k) ∧ fr.get 1 = some (.pointer (some ⟨σ.n, 0, none⟩)) ∧ (∃ b, fr.get 3 = some (.bool b)) ∧ τ = S)
     (fun r => ∃ fr, r = ⟨.exit 2, fr, S⟩ ∧ fr.get 4 = some (.int .i64 k) ∧ fr.get 1 = some (.pointer (some ⟨σ.n, 0, none⟩)) ∧ (∃ b, fr.get 3 = some (.bool b))) ?_ ?_ ?_ ?_
    ·exact ⟨fR, fR1 g4, fR1 g1, ⟨_, fR1 g3⟩, rfl⟩
    ·rintro j fr τ hj ⟨h5, h4, g1, ⟨b, g3⟩, rfl⟩
     have hc := lt_true hj
     cases b with
     | false =>
      refine gT1 (And.intro @h5 (And.intro @h4 (And.intro @g1 (And.intro @g3 (And.intro @hc (And.intro @yu_t @yu_f)))))) ?_;try exact ⟨⟩
      exact ⟨fR, fR1 h4, fR1 g1, ⟨_, fR⟩, by trivial⟩
     | true =>
      obtain ⟨y, hy⟩ := at_some (show j < T.lots.length by omega)
      obtain ⟨-, n1, -⟩ := l2 j y hy
      refine gT1 (And.intro @h5 (And.intro @h4 (And.intro @g1 (And.intro @g3 (And.intro @hc (And.intro @w1 (And.intro @s1 (And.intro @w2 (And.intro @m1 (And.intro @n1 (And.intro @yu_t @yu_f))))))))))) ?_;try exact ⟨⟩
      exact ⟨fR, fR1 h4, fR1 g1, ⟨_, fR⟩, by trivial⟩
    ·rintro fr τ ⟨h5, h4, g1, ⟨b, g3⟩, rfl⟩
     refine gT1 (And.intro @h5 @h4) ?_;try exact ⟨⟩
     exact ⟨_, rfl, fR1 h4, fR1 g1, ⟨b, fR1 g3⟩⟩
    rintro r ⟨fr, rfl, g4, g1, ⟨b, g3⟩⟩
    refine gT1 (And.intro @g4 @g1) ?_;try exact ⟨⟩
    exact ⟨fR, fR1 g1, ⟨b, fR1 g3⟩, hE⟩
   | true =>
    refine gT1 (And.intro @g4 (And.intro @g1 (And.intro @g3 (And.intro @w1 (And.intro @s1 (And.intro @w2 (And.intro @m1 (And.intro @m2 (And.intro @yu_t @yu_f))))))))) ?_;try exact ⟨⟩
    refine small2_ok.mono ?_
    rintro r ⟨b2, rfl⟩
    refine gT1 (And.intro @g4 (And.intro @g1 (And.intro @g3 (And.intro @w1 (And.intro @s1 (And.intro @w2 (And.intro @m1 (And.intro @yu_t @yu_f)))))))) ?_;try exact ⟨⟩
    refine ev_count k (fun j fr τ => fr.get 5 = some (.int .i64 j) ∧ fr.get 4 = some (.int .i64 k) ∧ fr.get 1 = some (.pointer (some ⟨σ.n, 0, none⟩)) ∧ (∃ b, fr.get 3 = some (.bool b)) ∧ τ = S)
     (fun r => ∃ fr, r = ⟨.exit 2, fr, S⟩ ∧ fr.get 4 = some (.int .i64 k) ∧ fr.get 1 = some (.pointer (some ⟨σ.n, 0, none⟩)) ∧ (∃ b, fr.get 3 = some (.bool b))) ?_ ?_ ?_ ?_
    ·exact ⟨fR, fR1 g4, fR1 g1, ⟨_, fR1 g3⟩, rfl⟩
    ·rintro j fr τ hj ⟨h5, h4, g1, ⟨b, g3⟩, rfl⟩
     have hc := lt_true hj
     cases b with
     | false =>
      refine gT1 (And.intro @h5 (And.intro @h4 (And.intro @g1 (And.intro @g3 (And.intro @hc (And.intro @yu_t @yu_f)))))) ?_;try exact ⟨⟩
      exact ⟨fR, fR1 h4, fR1 g1, ⟨_, fR⟩, by trivial⟩
     | true =>
      obtain ⟨y, hy⟩ := at_some (show j < T.lots.length by omega)
      obtain ⟨-, n1, -⟩ := l2 j y hy
      refine gT1 (And.intro @h5 (And.intro @h4 (And.intro @g1 (And.intro @g3 (And.intro @hc (And.intro @w1 (And.intro @s1 (And.intro @w2 (And.intro @m1 (And.intro @n1 (And.intro @yu_t @yu_f))))))))))) ?_;try exact ⟨⟩
      exact ⟨fR, fR1 h4, fR1 g1, ⟨_, fR⟩, by trivial⟩
    ·rintro fr τ ⟨h5, h4, g1, ⟨b, g3⟩, rfl⟩
     refine gT1 (And.intro @h5 @h4) ?_;try exact ⟨⟩
     exact ⟨_, rfl, fR1 h4, fR1 g1, ⟨b, fR1 g3⟩⟩
    rintro r ⟨fr, rfl, g4, g1, ⟨b, g3⟩⟩
    refine gT1 (And.intro @g4 @g1) ?_;try exact ⟨⟩
    exact ⟨fR, fR1 g1, ⟨b, fR1 g3⟩, hE⟩
 ·rintro fr σ' ⟨g4, g1, ⟨b, g3⟩, hE⟩
  have w1 : σ'.row σ.n = some ca := by rw [hE.row (by simp)]; exact cL
  refine gT1 (And.intro @g4 (And.intro @g1 (And.intro @w1 @s1))) ?_;try exact ⟨⟩
  exact ⟨_, _, rfl, fR1 g1, ⟨b, fR1 g3⟩, hE⟩
 rintro r ⟨fr, σ', rfl, g1, ⟨b, g3⟩, hE⟩
 refine gT ?_;try exact ⟨⟩
 refine ev_count T.crits.length (fun k fr σ' => fr.get 6 = some (.int .i64 k) ∧ fr.get 1 = some (.pointer (some ⟨σ.n, 0, none⟩)) ∧ (∃ b, fr.get 3 = some (.bool b)) ∧ Ext (σ.new ca) σ')
  (fun r => ∃ fr σ', r = ⟨.exit 4, fr, σ'⟩ ∧ fr.get 1 = some (.pointer (some ⟨σ.n, 0, none⟩)) ∧ (∃ b, fr.get 3 = some (.bool b)) ∧ Ext (σ.new ca) σ') ?_ ?_ ?_ ?_
 ·exact ⟨fR, fR1 g1, ⟨b, fR1 g3⟩, hE⟩
 ·clear g1 g3 hE b fr
  rintro k fr σ' hk ⟨g4, g1, ⟨b, g3⟩, hE⟩
  have hc := lt_true hk
  have w1 : σ'.row σ.n = some ca := by rw [hE.row (by simp)]; exact cL
  have hEn := hE.n
  simp only [new_n] at hEn
  have hE0 : Ext σ σ' := E0.trans hE
  obtain ⟨x, hx⟩ := at_some hk
  obtain ⟨sp, rfl, l3, l4⟩ := c1 (by omega)
  have w2 : σ'.row cb = some ccs := by rw [hE0.row l3]; exact l4
  obtain ⟨m0, m1, -⟩ := c2 k x hx
  unfold Crit.row at m0
  refine gT1 (And.intro @g4 (And.intro @g1 (And.intro @g3 (And.intro @hc (And.intro @w1 (And.intro @s2 (And.intro @w2 @m0))))))) ?_;try exact ⟨⟩
  obtain ⟨S, hS⟩ : ∃ S, ((σ'.new [str [], .int .i64 0, .int .i64 0, .int .i64 0, .bool false]).upd σ'.n [str x.name, .int .i64 x.kind, .int .i64 x.low, .int .i64 x.high, .bool x.less]) = S := ⟨_, rfl⟩
  rw [hS]
  have E1 : Ext σ' S := by rw [← hS]; exact eX
  have wS : S.row σ'.n = some [str x.name, .int .i64 x.kind, .int .i64 x.low, .int .i64 x.high, .bool x.less] := by rw [← hS]; exact cL
  have w1 : S.row σ.n = some ca := by rw [E1.row (by omega)]; exact w1
  have w2 : S.row cb = some ccs := by rw [E1.row (by omega)]; exact w2
  refine br_cut (fun r => ∃ fr', r = ⟨.normal, fr', S⟩ ∧ fr'.get 6 = some (.int .i64 k) ∧ fr'.get 1 = some (.pointer (some ⟨σ.n, 0, none⟩)) ∧ fr'.get 7 = some (.pointer (some ⟨σ'.n, 0, none⟩)) ∧ ∃ b, fr'.get 3 = some (.bool b)) ?_ ?_
  ·cases b with
   | false =>
    refine gT1 (And.intro @yu_t @yu_f) ?_;try exact ⟨⟩
    exact ⟨_, rfl, fR1 g4, fR1 g1, fR, _, fR⟩
   | true =>
   refine gT1 (And.intro @wS (And.intro @yu_t @yu_f)) ?_;try exact ⟨⟩
   refine isword_ok.mono ?_
   rintro r rfl
   cases q1 : wordB x.name with
   | false =>
    refine gT1 (And.intro @yu_t @yu_f) ?_;try exact ⟨⟩
    exact ⟨_, rfl, fR1 g4, fR1 g1, fR, _, fR⟩
   | true =>
   refine gT1 (And.intro @wS (And.intro @yu_t @yu_f)) ?_;try exact ⟨⟩
   refine small2_ok.mono ?_
   rintro r ⟨b1, rfl⟩
   cases b1 with
   | false =>
    refine gT1 (And.intro @yu_t @yu_f) ?_;try exact ⟨⟩
    exact ⟨_, rfl, fR1 g4, fR1 g1, fR, _, fR⟩
   | true =>
   refine gT1 (And.intro @wS (And.intro @yu_t @yu_f)) ?_;try exact ⟨⟩
   refine small2_ok.mono ?_
   rintro r ⟨b2, rfl⟩
   cases b2 with
   | false =>
    refine gT1 (And.intro @yu_t @yu_f) ?_;try exact ⟨⟩
    exact ⟨_, rfl, fR1 g4, fR1 g1, fR, _, fR⟩
   | true =>
   refine gT1 (And.intro @wS (And.intro @yu_t @yu_f)) ?_;try exact ⟨⟩
   cases q2 : decide (x.kind = 1) with
   | true =>
    refine gT1 (And.intro @wS (And.intro @yu_t @yu_f)) ?_;try exact ⟨⟩
    exact ⟨_, rfl, fR1 g4, fR1 g1, fR, _, fR⟩
   | false =>
    refine gT1 (And.intro @wS (And.intro @yu_t @yu_f)) ?_;try exact ⟨⟩
    exact ⟨_, rfl, fR1 g4, fR1 g1, fR, _, fR⟩
  clear g4 g1 g3
  rintro r ⟨fr, rfl, g4, g1, g7, b, g3⟩
  refine gT ?_;try exact ⟨⟩
  refine ev_count k (fun j fr τ => fr.get 8 = some (.int .i64 j) ∧ fr.get 6 = some (.int .i64 k) ∧ fr.get 1 = some (.pointer (some ⟨σ.n, 0, none⟩)) ∧ fr.get 7 = some (.pointer (some ⟨σ'.n, 0, none⟩)) ∧ (∃ b, fr.get 3 = some (.bool b)) ∧ τ = S)
   (fun r => ∃ fr, r = ⟨.exit 6, fr, S⟩ ∧ fr.get 6 = some (.int .i64 k) ∧ fr.get 1 = some (.pointer (some ⟨σ.n, 0, none⟩)) ∧ fr.get 7 = some (.pointer (some ⟨σ'.n, 0, none⟩)) ∧ (∃ b, fr.get 3 = some (.bool b))) ?_ ?_ ?_ ?_
  ·exact ⟨fR, fR1 g4, fR1 g1, fR1 g7, ⟨_, fR1 g3⟩, rfl⟩
  ·rintro j fr τ hj ⟨h5, h4, g1, g7, ⟨b, g3⟩, rfl⟩
   have hc := lt_true hj
   cases b with
   | false =>
    refine gT1 (And.intro @h5 (And.intro @h4 (And.intro @g1 (And.intro @g3 (And.intro @hc (And.intro @yu_t @yu_f)))))) ?_;try exact ⟨⟩
    exact ⟨fR, fR1 h4, fR1 g1, fR1 g7, ⟨_, fR⟩, by trivial⟩
   | true =>
    obtain ⟨y, hy⟩ := at_some (show j < T.crits.length by omega)
    obtain ⟨-, n1, -⟩ := c2 j y hy
    refine gT1 (And.intro @h5 (And.intro @h4 (And.intro @g1 (And.intro @g3 (And.intro @hc (And.intro @w1 (And.intro @g7 (And.intro @s2 (And.intro @w2 (And.intro @n1 (And.intro @wS (And.intro @yu_t @yu_f)))))))))))) ?_;try exact ⟨⟩
    exact ⟨fR, fR1 h4, fR1 g1, fR1 g7, ⟨_, fR⟩, by trivial⟩
  ·rintro fr τ ⟨h5, h4, g1, g7, ⟨b, g3⟩, rfl⟩
   refine gT1 (And.intro @h5 @h4) ?_;try exact ⟨⟩
   exact ⟨_, rfl, fR1 h4, fR1 g1, fR1 g7, ⟨b, fR1 g3⟩⟩
  rintro r ⟨fr, rfl, g4, g1, g7, ⟨b, g3⟩⟩
  refine gT1 (And.intro @g4 @g1) ?_;try exact ⟨⟩
  exact ⟨fR, fR1 g1, ⟨b, fR1 g3⟩, hE.trans E1⟩
 ·rintro fr σ' ⟨g4, g1, ⟨b, g3⟩, hE⟩
  have w1 : σ'.row σ.n = some ca := by rw [hE.row (by simp)]; exact cL
  refine gT1 (And.intro @g4 (And.intro @g1 (And.intro @w1 @s2))) ?_;try exact ⟨⟩
  exact ⟨_, _, rfl, fR1 g1, ⟨b, fR1 g3⟩, hE⟩
 rintro r ⟨fr, σ', rfl, g1, ⟨b, g3⟩, hE⟩
 refine gT ?_;try exact ⟨⟩
 refine ev_count T.reqs.length (fun k fr σ' => fr.get 9 = some (.int .i64 k) ∧ fr.get 1 = some (.pointer (some ⟨σ.n, 0, none⟩)) ∧ (∃ b, fr.get 3 = some (.bool b)) ∧ Ext (σ.new ca) σ')
  (fun r => ∃ fr σ', r = ⟨.exit 8, fr, σ'⟩ ∧ fr.get 1 = some (.pointer (some ⟨σ.n, 0, none⟩)) ∧ (∃ b, fr.get 3 = some (.bool b)) ∧ Ext (σ.new ca) σ') ?_ ?_ ?_ ?_
 ·exact ⟨fR, fR1 g1, ⟨b, fR1 g3⟩, hE⟩
 ·clear g1 g3 hE b fr
  rintro k fr σ' hk ⟨g4, g1, ⟨b, g3⟩, hE⟩
  have hc := lt_true hk
  have w1 : σ'.row σ.n = some ca := by rw [hE.row (by simp)]; exact cL
  have hEn := hE.n
  simp only [new_n] at hEn
  have hE0 : Ext σ σ' := E0.trans hE
  obtain ⟨x, hx⟩ := at_some hk
  obtain ⟨sp, rfl, l3, l4⟩ := r1 (by omega)
  have w2 : σ'.row rb = some rcs := by rw [hE0.row l3]; exact l4
  obtain ⟨m0, m1, -⟩ := r2 k x hx
  unfold Req.row at m0
  refine gT1 (And.intro @g4 (And.intro @g1 (And.intro @g3 (And.intro @hc (And.intro @w1 (And.intro @s3 (And.intro @w2 @m0))))))) ?_;try exact ⟨⟩
  obtain ⟨S, hS⟩ : ∃ S, ((σ'.new [str [], str [], .int .i64 0]).upd σ'.n [str x.name, str x.rel, .int .i64 x.value]) = S := ⟨_, rfl⟩
  rw [hS]
  have E1 : Ext σ' S := by rw [← hS]; exact eX
  have wS : S.row σ'.n = some [str x.name, str x.rel, .int .i64 x.value] := by rw [← hS]; exact cL
  refine br_cut (fun r => ∃ fr', r = ⟨.normal, fr', S⟩ ∧ fr'.get 9 = some (.int .i64 k) ∧ fr'.get 1 = some (.pointer (some ⟨σ.n, 0, none⟩)) ∧ ∃ b, fr'.get 3 = some (.bool b)) ?_ ?_
  ·cases b with
   | false =>
    refine gT1 (And.intro @yu_t @yu_f) ?_;try exact ⟨⟩
    exact ⟨_, rfl, fR1 g4, fR1 g1, _, fR⟩
   | true =>
   refine gT1 (And.intro @wS (And.intro @yu_t @yu_f)) ?_;try exact ⟨⟩
   refine isword_ok.mono ?_
   rintro r rfl
   cases q1 : wordB x.name with
   | false =>
    refine gT1 (And.intro @yu_t @yu_f) ?_;try exact ⟨⟩
    exact ⟨_, rfl, fR1 g4, fR1 g1, _, fR⟩
   | true =>
   refine gT1 (And.intro @wS (And.intro @yu_t @yu_f)) ?_;try exact ⟨⟩
   refine small2_ok.mono ?_
   rintro r ⟨b1, rfl⟩
   cases b1 with
   | false =>
    refine gT1 (And.intro @yu_t @yu_f) ?_;try exact ⟨⟩
    exact ⟨_, rfl, fR1 g4, fR1 g1, _, fR⟩
   | true =>
   refine gT1 (And.intro @wS (And.intro @yu_t @yu_f)) ?_;try exact ⟨⟩
   cases q2 : decide (x.rel = [60, 61]) with
   | true =>
    refine gT1 (And.intro @wS (And.intro @yu_t @yu_f)) ?_;try exact ⟨⟩
    exact ⟨_, rfl, fR1 g4, fR1 g1, _, fR⟩
   | false =>
    refine gT1 (And.intro @wS (And.intro @yu_t @yu_f)) ?_;try exact ⟨⟩
    exact ⟨_, rfl, fR1 g4, fR1 g1, _, fR⟩
  clear g4 g1 g3
  rintro r ⟨fr, rfl, g4, g1, b, g3⟩
  refine gT1 @g4 ?_;try exact ⟨⟩
  exact ⟨fR, fR1 g1, ⟨b, fR1 g3⟩, hE.trans E1⟩
 ·rintro fr σ' ⟨g4, g1, ⟨b, g3⟩, hE⟩
  have w1 : σ'.row σ.n = some ca := by rw [hE.row (by simp)]; exact cL
  refine gT1 (And.intro @g4 (And.intro @g1 (And.intro @w1 @s3))) ?_;try exact ⟨⟩
  exact ⟨_, _, rfl, fR1 g1, ⟨b, fR1 g3⟩, hE⟩
 rintro r ⟨fr, σ', rfl, g1, ⟨b, g3⟩, hE⟩
 refine gT ?_;try exact ⟨⟩
 refine ev_count T.ties.length (fun k fr σ' => fr.get 11 = some (.int .i64 k) ∧ fr.get 1 = some (.pointer (some ⟨σ.n, 0, none⟩)) ∧ (∃ b, fr.get 3 = some (.bool b)) ∧ Ext (σ.new ca) σ')
  (fun r => ∃ fr σ', r = ⟨.exit 10, fr, σ'⟩ ∧ fr.get 1 = some (.pointer (some ⟨σ.n, 0, none⟩)) ∧ (∃ b, fr.get 3 = some (.bool b)) ∧ Ext (σ.new ca) σ') ?_ ?_ ?_ ?_
 ·exact ⟨fR, fR1 g1, ⟨b, fR1 g3⟩, hE⟩
 ·clear g1 g3 hE b fr
  rintro k fr σ' hk ⟨g4, g1, ⟨b, g3⟩, hE⟩
  have hc := lt_true hk
  have w1 : σ'.row σ.n = some ca := by rw [hE.row (by simp)]; exact cL
  have hEn := hE.n
  simp only [new_n] at hEn
  have hE0 : Ext σ σ' := E0.trans hE
  obtain ⟨x, hx⟩ := at_some hk
  obtain ⟨sp, rfl, l3, l4⟩ := t1 (by omega)
  have w2 : σ'.row tb = some tcs := by rw [hE0.row l3]; exact l4
  have m1 := t2 k x hx
  refine gT1 (And.intro @g4 (And.intro @g1 (And.intro @g3 (And.intro @hc (And.intro @w1 @s7))))) ?_;try exact ⟨⟩
  obtain ⟨S, hS⟩ : ∃ S, σ' = S := ⟨_, rfl⟩
  rw [hS] at w1 w2 hE hE0 ⊢
  refine br_cut (fun r => ∃ fr', r = ⟨.normal, fr', S⟩ ∧ fr'.get 11 = some (.int .i64 k) ∧ fr'.get 1 = some (.pointer (some ⟨σ.n, 0, none⟩)) ∧ ∃ b, fr'.get 3 = some (.bool b)) ?_ ?_
  ·cases b with
   | false =>
    refine gT1 (And.intro @g4 (And.intro @g1 (And.intro @g3 (And.intro @yu_t @yu_f)))) ?_;try exact ⟨⟩
    exact ⟨_, rfl, fR1 g4, fR1 g1, _, fR⟩
   | true =>
   cases q2 : decide (x = [112, 114, 105, 99, 101]) with
   | true =>
    refine gT1 (And.intro @g4 (And.intro @g1 (And.intro @g3 (And.intro @w1 (And.intro @s7 (And.intro @w2 (And.intro @m1 (And.intro @q2 (And.intro @yu_t @yu_f))))))))) ?_;try exact ⟨⟩
    exact ⟨_, rfl, fR1 g4, fR1 g1, _, fR⟩
   | false =>
    refine gT1 (And.intro @g4 (And.intro @g1 (And.intro @g3 (And.intro @w1 (And.intro @s7 (And.intro @w2 (And.intro @m1 (And.intro @q2 (And.intro @yu_t @yu_f))))))))) ?_;try exact ⟨⟩
    refine isword_ok.mono ?_
    rintro r rfl
    refine gT1 (And.intro @yu_t @yu_f) ?_;try exact ⟨⟩
    exact ⟨_, rfl, fR1 g4, fR1 g1, _, fR⟩
  clear g4 g1 g3
  rintro r ⟨fr, rfl, g4, g1, b, g3⟩
  refine gT ?_;try exact ⟨⟩
  refine ev_count k (fun j fr τ => fr.get 12 = some (.int .i64 j) ∧ fr.get 11 = some (.int .i64 k) ∧ fr.get 1 = some (.pointer (some ⟨σ.n, 0, none⟩)) ∧ (∃ b, fr.get 3 = some (.bool b)) ∧ τ = S)
   (fun r => ∃ fr, r = ⟨.exit 12, fr, S⟩ ∧ fr.get 11 = some (.int .i64 k) ∧ fr.get 1 = some (.pointer (some ⟨σ.n, 0, none⟩)) ∧ (∃ b, fr.get 3 = some (.bool b))) ?_ ?_ ?_ ?_
  ·exact ⟨fR, fR1 g4, fR1 g1, ⟨_, fR1 g3⟩, rfl⟩
  ·rintro j fr τ hj ⟨h5, h4, g1, ⟨b, g3⟩, rfl⟩
   have hc := lt_true hj
   cases b with
   | false =>
    refine gT1 (And.intro @h5 (And.intro @h4 (And.intro @g1 (And.intro @g3 (And.intro @hc (And.intro @yu_t @yu_f)))))) ?_;try exact ⟨⟩
    exact ⟨fR, fR1 h4, fR1 g1, ⟨_, fR⟩, by trivial⟩
   | true =>
    obtain ⟨y, hy⟩ := at_some (show j < T.ties.length by omega)
    have n1 := t2 j y hy
    refine gT1 (And.intro @h5 (And.intro @h4 (And.intro @g1 (And.intro @g3 (And.intro @hc (And.intro @w1 (And.intro @s7 (And.intro @w2 (And.intro @n1 (And.intro @m1 (And.intro @yu_t @yu_f))))))))))) ?_;try exact ⟨⟩
    exact ⟨fR, fR1 h4, fR1 g1, ⟨_, fR⟩, by trivial⟩
  ·rintro fr τ ⟨h5, h4, g1, ⟨b, g3⟩, rfl⟩
   refine gT1 (And.intro @h5 @h4) ?_;try exact ⟨⟩
   exact ⟨_, rfl, fR1 h4, fR1 g1, ⟨b, fR1 g3⟩⟩
  rintro r ⟨fr, rfl, g4, g1, ⟨b, g3⟩⟩
  refine gT1 (And.intro @g4 @g1) ?_;try exact ⟨⟩
  exact ⟨fR, fR1 g1, ⟨b, fR1 g3⟩, hE⟩
 ·rintro fr σ' ⟨g4, g1, ⟨b, g3⟩, hE⟩
  have w1 : σ'.row σ.n = some ca := by rw [hE.row (by simp)]; exact cL
  refine gT1 (And.intro @g4 (And.intro @g1 (And.intro @w1 @s7))) ?_;try exact ⟨⟩
  exact ⟨_, _, rfl, fR1 g1, ⟨b, fR1 g3⟩, hE⟩
 rintro r ⟨fr, σ', rfl, g1, ⟨b, g3⟩, hE⟩
 refine gT ?_;try exact ⟨⟩
 refine ev_count vs.length (fun k fr σ' => fr.get 13 = some (.int .i64 k) ∧ fr.get 1 = some (.pointer (some ⟨σ.n, 0, none⟩)) ∧ (∃ b, fr.get 3 = some (.bool b)) ∧ Ext (σ.new ca) σ')
  (fun r => ∃ fr σ', r = ⟨.exit 14, fr, σ'⟩ ∧ fr.get 1 = some (.pointer (some ⟨σ.n, 0, none⟩)) ∧ (∃ b, fr.get 3 = some (.bool b)) ∧ Ext (σ.new ca) σ') ?_ ?_ ?_ ?_
 ·exact ⟨fR, fR1 g1, ⟨b, fR1 g3⟩, hE⟩
 ·clear g1 g3 hE b fr
  rintro k fr σ' hk ⟨g4, g1, ⟨b, g3⟩, hE⟩
  have hc := lt_true hk
  have w1 : σ'.row σ.n = some ca := by rw [hE.row (by simp)]; exact cL
  have hEn := hE.n
  simp only [new_n] at hEn
  have hE0 : Ext σ σ' := E0.trans hE
  obtain ⟨x, hx⟩ := at_some hk
  obtain ⟨C, hC⟩ := at_some (show k < T.combos.length by omega)
  obtain ⟨ia, ic, ib, io, ics, rfl, i1, i2⟩ := (h8.get hx hC).use
  have LC := (hT.ok.combo C (List.mem_of_getElem? hC)).1
  obtain ⟨sp, rfl, l3, l4⟩ := k1 (by omega)
  have w2 : σ'.row kb = some kcs := by rw [hE0.row l3]; exact l4
  have m1 := k2 k _ hx
  rw [Nat.mul_one] at m1
  refine gT1 (And.intro @g4 (And.intro @g1 (And.intro @g3 (And.intro @hc (And.intro @w1 (And.intro @s9 (And.intro @w2 @m1))))))) ?_;try exact ⟨⟩
  obtain ⟨S, hS⟩ : ∃ S, σ' = S := ⟨_, rfl⟩
  rw [hS] at w1 w2 hE hE0 ⊢
  refine br_cut (fun r => ∃ fr', r = ⟨.normal, fr', S⟩ ∧ fr'.get 13 = some (.int .i64 k) ∧ fr'.get 1 = some (.pointer (some ⟨σ.n, 0, none⟩)) ∧ fr'.get 14 = some (.slice ia C.length ic) ∧ ∃ b, fr'.get 3 = some (.bool b)) ?_ ?_
  ·cases b with
   | false =>
    refine gT1 (And.intro @yu_t @yu_f) ?_;try exact ⟨⟩
    exact ⟨_, rfl, fR1 g4, fR1 g1, fR, _, fR⟩
   | true =>
   refine gT1 (And.intro @yu_t @yu_f) ?_;try exact ⟨⟩
   cases q2 : decide ((C.length : Int) < 2) with
   | true =>
    refine gT1 (And.intro @yu_t @yu_f) ?_;try exact ⟨⟩
    exact ⟨_, rfl, fR1 g4, fR1 g1, fR, _, fR⟩
   | false =>
    refine gT1 (And.intro @yu_t @yu_f) ?_;try exact ⟨⟩
    exact ⟨_, rfl, fR1 g4, fR1 g1, fR, _, fR⟩
  clear g4 g1 g3
  rintro r ⟨fr, rfl, g4, g1, g14, b, g3⟩
  refine gT ?_;try exact ⟨⟩
  refine ev_count C.length (fun i fr τ => fr.get 15 = some (.int .i64 i) ∧ fr.get 13 = some (.int .i64 k) ∧ fr.get 1 = some (.pointer (some ⟨σ.n, 0, none⟩)) ∧ fr.get 14 = some (.slice ia C.length ic) ∧ (∃ b, fr.get 3 = some (.bool b)) ∧ τ = S)
   (fun r => ∃ fr, r = ⟨.exit 16, fr, S⟩ ∧ fr.get 13 = some (.int .i64 k) ∧ fr.get 1 = some (.pointer (some ⟨σ.n, 0, none⟩)) ∧ (∃ b, fr.get 3 = some (.bool b))) ?_ ?_ ?_ ?_
  ·exact ⟨fR, fR1 g4, fR1 g1, fR1 g14, ⟨b, fR1 g3⟩, rfl⟩
  ·clear g4 g1 g3 g14 b fr
   rintro i fr τ hi ⟨g15, g13, g1, g14, ⟨b, g3⟩, rfl⟩
   have hc := lt_true hi
   obtain ⟨y, hy⟩ := at_some hi
   obtain ⟨sp, rfl, l3, l4⟩ := i1 (by omega)
   have w3 : τ.row ib = some ics := by rw [hE0.row l3]; exact l4
   have n1 := i2 i y hy
   refine gT1 (And.intro @g15 (And.intro @g14 (And.intro @hc @g3))) ?_;try exact ⟨⟩
   obtain ⟨S, hS⟩ : ∃ S, τ = S := ⟨_, rfl⟩
   rw [hS] at w1 w2 w3 hE hE0 ⊢
   refine br_cut (fun r => ∃ fr', r = ⟨.normal, fr', S⟩ ∧ fr'.get 15 = some (.int .i64 i) ∧ fr'.get 13 = some (.int .i64 k) ∧ fr'.get 1 = some (.pointer (some ⟨σ.n, 0, none⟩)) ∧ fr'.get 14 = some (.slice (some ⟨ib, io, sp⟩) C.length ic) ∧ ∃ b, fr'.get 3 = some (.bool b)) ?_ ?_
   ·cases b with
    | false =>
     refine gT1 (And.intro @g3 (And.intro @yu_t @yu_f)) ?_;try exact ⟨⟩
     exact ⟨_, rfl, fR1 g15, fR1 g13, fR1 g1, fR1 g14, _, fR⟩
    | true =>
    refine gT1 (And.intro @g15 (And.intro @g14 (And.intro @w3 (And.intro @n1 (And.intro @yu_t @yu_f))))) ?_;try exact ⟨⟩
    refine small2_ok.mono ?_
    rintro r ⟨b1, rfl⟩
    refine gT1 (And.intro @g3 (And.intro @yu_t @yu_f)) ?_;try exact ⟨⟩
    exact ⟨_, rfl, fR1 g15, fR1 g13, fR1 g1, fR1 g14, _, fR⟩
   clear g15 g13 g14 g1 g3 b fr
   rintro r ⟨fr, rfl, g15, g13, g1, g14, b, g3⟩
   refine gT ?_;try exact ⟨⟩
   refine ev_count i (fun j fr τ => fr.get 16 = some (.int .i64 j) ∧ fr.get 15 = some (.int .i64 i) ∧ fr.get 13 = some (.int .i64 k) ∧ fr.get 1 = some (.pointer (some ⟨σ.n, 0, none⟩)) ∧ fr.get 14 = some (.slice (some ⟨ib, io, sp⟩) C.length ic) ∧ (∃ b, fr.get 3 = some (.bool b)) ∧ τ = S)
    (fun r => ∃ fr, r = ⟨.exit 18, fr, S⟩ ∧ fr.get 15 = some (.int .i64 i) ∧ fr.get 13 = some (.int .i64 k) ∧ fr.get 1 = some (.pointer (some ⟨σ.n, 0, none⟩)) ∧ fr.get 14 = some (.slice (some ⟨ib, io, sp⟩) C.length ic) ∧ (∃ b, fr.get 3 = some (.bool b))) ?_ ?_ ?_ ?_
   ·exact ⟨fR, fR1 g15, fR1 g13, fR1 g1, fR1 g14, ⟨b, fR1 g3⟩, rfl⟩
   ·clear g15 g13 g14 g1 g3 b fr
    rintro j fr τ hj ⟨g16, g15, g13, g1, g14, ⟨b, g3⟩, rfl⟩
    have hc := lt_true hj
    obtain ⟨z, hz⟩ := at_some (show j < C.length by omega)
    have n2 := i2 j z hz
    cases b with
    | false =>
     refine gT1 (And.intro @g16 (And.intro @g15 (And.intro @g13 (And.intro @g1 (And.intro @g14 (And.intro @g3 (And.intro @hc (And.intro @yu_t @yu_f)))))))) ?_;try exact ⟨⟩
     exact ⟨fR, fR1 g15, fR1 g13, fR1 g1, fR1 g14, ⟨_, fR⟩, by trivial⟩
    | true =>
     refine gT1 (And.intro @g16 (And.intro @g15 (And.intro @g13 (And.intro @g1 (And.intro @g14 (And.intro @g3 (And.intro @hc (And.intro @w3 (And.intro @n1 (And.intro @n2 (And.intro @yu_t @yu_f))))))))))) ?_;try exact ⟨⟩
     exact ⟨fR, fR1 g15, fR1 g13, fR1 g1, fR1 g14, ⟨_, fR⟩, by trivial⟩
   ·rintro fr τ ⟨g16, g15, g13, g1, g14, ⟨b, g3⟩, rfl⟩
    refine gT1 (And.intro @g16 @g15) ?_;try exact ⟨⟩
    exact ⟨_, rfl, fR1 g15, fR1 g13, fR1 g1, fR1 g14, ⟨b, fR1 g3⟩⟩
   clear g15 g13 g14 g1 g3 b fr
   rintro r ⟨fr, rfl, g15, g13, g1, g14, ⟨b, g3⟩⟩
   refine gT1 @g15 ?_;try exact ⟨⟩
   exact ⟨fR, fR1 g13, fR1 g1, fR1 g14, ⟨b, fR1 g3⟩, by trivial⟩
  ·clear g4 g1 g3 g14 b fr
   rintro fr τ ⟨g15, g13, g1, g14, ⟨b, g3⟩, rfl⟩
   refine gT1 (And.intro @g15 @g14) ?_;try exact ⟨⟩
   exact ⟨_, rfl, fR1 g13, fR1 g1, ⟨b, fR1 g3⟩⟩
  clear g4 g1 g3 g14 b fr
  rintro r ⟨fr, rfl, g4, g1, ⟨b, g3⟩⟩
  refine gT1 @g4 ?_;try exact ⟨⟩
  exact ⟨fR, fR1 g1, ⟨b, fR1 g3⟩, hE⟩
 ·rintro fr σ' ⟨g4, g1, ⟨b, g3⟩, hE⟩
  have w1 : σ'.row σ.n = some ca := by rw [hE.row (by simp)]; exact cL
  refine gT1 (And.intro @g4 (And.intro @g1 (And.intro @w1 @s9))) ?_;try exact ⟨⟩
  exact ⟨_, _, rfl, fR1 g1, ⟨b, fR1 g3⟩, hE⟩
 rintro r ⟨fr, σ', rfl, g1, ⟨b, g3⟩, hE⟩
 refine gT ?_;try exact ⟨⟩
 refine gT1 (And.intro @g3 @Tryz.results95) ?_;try exact ⟨⟩
 exact ⟨b, _, rfl, E0.trans hE⟩
end Go.Proofs.G
