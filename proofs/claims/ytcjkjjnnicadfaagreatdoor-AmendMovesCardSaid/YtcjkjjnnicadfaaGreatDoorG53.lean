/- A part of the proof: a walk of some functions. -/
import Derived.Test.YtcjkjjnnicadfaaGreatDoorGH
set_option linter.unusedSimpArgs false
set_option linter.unusedVariables false
namespace Go.Proofs.G
open Go Go.Ab
open Nat (reduceMul reduceEqDiff reduceAdd)
set_option maxRecDepth 100000
def Cl (σ : St) : List (Nat × List Value) → Prop
 | [] => True
 | (b, cs) :: l => (b < σ.n ∧ σ.orow b = some cs) ∧ Cl σ l
theorem Cl.ext_ {σ σ' : St} (hE : Ext σ σ') : ∀ {l : List (Nat × List Value)}, Cl σ l → Cl σ' l
 | [], _ => trivial
 | (b, cs) :: l, h => ⟨⟨Nat.lt_of_lt_of_le h.1.1 hE.n, by rw [hE.orow h.1.1]; exact h.1.2⟩, Cl.ext_ hE h.2⟩
theorem Cl.ext {σ σ' : St} {l : List (Nat × List Value)} (h : Cl σ l) (hE : Ext σ σ') : Cl σ' l := Cl.ext_ hE h
set_option maxHeartbeats 8000000 in
theorem interval_ok {T : Tn} {e : Ex} {P : RatP} (h : Iv T e P) : ∀ {σ : St} {ca row : List Value}, (∀ n d, P n d → RQ n d) → Good σ ca T → ExAt σ row e → Ev (go Tryz.prog HS (.fn 67) [.agg ⟨ca⟩, .agg ⟨row⟩] σ) (fun r => ∃ n d m e c σ', r = ⟨false, .tuple ⟨[ratQ n d, ratQ m e, .int .i64 c]⟩, σ'⟩ ∧ (c = 0 → P n d ∧ P m e) ∧ Ext σ σ') ⟨⟩ := by
 induction h with
 | @num n d nm l P h =>
  intro σ ca row hP hT he
  obtain ⟨v, rows, rfl, -, -, -⟩ := he
  have hca := hT.len
  have hfa : sub ca 0 20 = some ca := sub_full (by omega) (by omega)
  refine ev_go Tryz.func67 rfl rfl ?_
  simp (maxSteps := 1000000) (disch := first | exact dS | fail) only [↓bD2, bW2, reduceMul, reduceEqDiff, reduceAdd, Nat.reduceBEq, reduceIte, hfa, numO, Tryz.results67]
  refine Must.intro (by (repeat first | simp (disch := omega) only [as_read, as_upd, as_newb] | rw [as_ord (by kernel_rfl)]); rfl) ?_
  simp (maxSteps := 1000000) (disch := first | exact dS | fail) only [↓bD2, bW2, reduceMul, reduceEqDiff, reduceAdd, Nat.reduceBEq, reduceIte, hfa, numO, Tryz.results67]
  exact ⟨n, d, n, d, 0, _, rfl, fun _ => ⟨h, h⟩, eX⟩
 | @name n d nm l P h =>
  intro σ ca row hP hT he
  obtain ⟨v, rows, rfl, -, -, -⟩ := he
  have hca := hT.len
  have hfa : sub ca 0 20 = some ca := sub_full (by omega) (by omega)
  have d1 : decide (([110,97,109,101] : By) = [110,117,109]) = false := by decide
  refine ev_go Tryz.func67 rfl rfl ?_
  simp (maxSteps := 1000000) (disch := first | exact dS | fail) only [↓bD2, bW2, reduceMul, reduceEqDiff, reduceAdd, Nat.reduceBEq, reduceIte, hfa, nameO, d1]
  obtain ⟨S1, hS1⟩ : ∃ S, ((((σ.new ca).new [str [110,97,109,101], .int .i64 n, .int .i64 d, str nm, v]).new [.int .i64 0, .int .i64 0]).new [.int .i64 0, .int .i64 0]) = S := ⟨_, rfl⟩
  rw [hS1]
  have E1 : Ext σ S1 := by rw [← hS1]; exact eX
  have n1 : S1.n = σ.n + 4 := by rw [← hS1]; rfl
  have x2 : S1.orow (σ.n + 1 + 1) = some [.int .i64 0, .int .i64 0] := by rw [← hS1]; exact cL
  have x3 : S1.orow (σ.n + 1 + 1 + 1) = some [.int .i64 0, .int .i64 0] := by rw [← hS1]; exact cL
  refine (bounds_ok (s := nm) (hT.mono E1)).mono ?_
  rintro r ⟨σ2, rfl, hE2⟩
  have n2 := hE2.n
  have y2 : σ2.orow (σ.n + 1 + 1) = some [.int .i64 0, .int .i64 0] := by rw [hE2.orow (by omega)]; exact x2
  have y3 : σ2.orow (σ.n + 1 + 1 + 1) = some [.int .i64 0, .int .i64 0] := by rw [hE2.orow (by omega)]; exact x3
  have hE : Ext σ σ2 := E1.trans hE2
  unfold boundsV
  cases hk : (boundsR T nm).2.2 with
  | false =>
   refine gT1 (And.intro @hk (And.intro @y2 (And.intro @y3 @Tryz.results67))) ?_;try exact ⟨⟩
   exact ⟨0, 0, 0, 0, _, _, rfl, fun h => by omega, eX⟩
  | true =>
   obtain ⟨h1, h2⟩ := h hk
   cases hl : decide ((boundsR T nm).2.1 < (boundsR T nm).1) with
   | true =>
    refine gT1 (And.intro @hk (And.intro @hl (And.intro @y2 (And.intro @y3 @Tryz.results67)))) ?_;try exact ⟨⟩
    exact ⟨0, 0, 0, 0, _, _, rfl, fun h => by omega, eX⟩
   | false =>
    refine gT1 (And.intro @hk @hl) ?_;try exact ⟨⟩
    refine rof_ok.mono ?_
    rintro r ⟨σ3, rfl, hE3⟩
    have n3 := hE3.n
    refine gT ?_;try exact ⟨⟩
    refine rof_ok.mono ?_
    rintro r ⟨σ4, rfl, hE4⟩
    have n4 := hE4.n
    have z2 : σ4.orow (σ.n + 1 + 1) = some [.int .i64 0, .int .i64 0] := by rw [hE4.orow (by omega), hE3.orow (by omega)]; exact y2
    have z3 : σ4.orow (σ.n + 1 + 1 + 1) = some [.int .i64 0, .int .i64 0] := by rw [hE4.orow (by omega), hE3.orow (by omega)]; exact y3
    have hE' : Ext σ σ4 := hE.trans (hE3.trans hE4)
    unfold ratQ
    refine gT1 (And.intro @z2 (And.intro @z3 @Tryz.results67)) ?_;try exact ⟨⟩
    exact ⟨_, _, _, _, 0, _, rfl, fun _ => ⟨h1, h2⟩, eX⟩
 | @op o nm n d a b A B P h1 h2 ha hb hA hB hPP iha ihb =>
  intro σ ca row hP hT he
  obtain ⟨v, rows, rfl, hsl, -, hex⟩ := he
  obtain ⟨BB, off, sp, c, cells, r1, r2, rfl, l3, l4, s1, s2, x1, x2⟩ := two_args hsl hex
  have hca := hT.len
  have hfa : sub ca 0 20 = some ca := sub_full (by omega) (by omega)
  have d1 : decide (o = [110,117,109]) = false := decide_eq_false h1
  have d2 : decide (o = [110,97,109,101]) = false := decide_eq_false h2
  refine ev_go Tryz.func67 rfl rfl ?_
  refine gT1 (And.intro @hfa (And.intro @d1 (And.intro @d2 (And.intro @l4 (And.intro @s1 @Nat.add_zero))))) ?_;try exact ⟨⟩
  obtain ⟨R, hR⟩ : ∃ R : List Value, [str o, .int .i64 n, .int .i64 d, str nm, .slice (some ⟨BB, off, sp⟩) 2 c] = R := ⟨_, rfl⟩
  obtain ⟨S1, hS1⟩ : ∃ S, ((((σ.new ca).new R).new [.int .i64 0, .int .i64 0]).new [.int .i64 0, .int .i64 0]) = S := ⟨_, rfl⟩
  rw [hR, hS1]
  have E1 : Ext σ S1 := by rw [← hS1]; exact eX
  have n1 : S1.n = σ.n + 4 := by rw [← hS1]; rfl
  have x2' : S1.orow (σ.n + 1 + 1) = some [.int .i64 0, .int .i64 0] := by rw [← hS1]; exact cL
  have x3' : S1.orow (σ.n + 1 + 1 + 1) = some [.int .i64 0, .int .i64 0] := by rw [← hS1]; exact cL
  have x0' : S1.row σ.n = some ca := by rw [← hS1]; exact cL
  have x1' : S1.row (σ.n + 1) = some R := by rw [← hS1]; exact cL
  refine (iha hA (hT.mono E1) (x1.mono E1)).mono ?_
  rintro r ⟨xn, xd, ym, ye, c1, σ2, rfl, k1, hE2⟩
  have n2 := hE2.n
  have y0 : σ2.row σ.n = some ca := by rw [hE2.row (by omega)]; exact x0'
  have y1 : σ2.row (σ.n + 1) = some R := by rw [hE2.row (by omega)]; exact x1'
  have y2 : σ2.orow (σ.n + 1 + 1) = some [.int .i64 0, .int .i64 0] := by rw [hE2.orow (by omega)]; exact x2'
  have y3 : σ2.orow (σ.n + 1 + 1 + 1) = some [.int .i64 0, .int .i64 0] := by rw [hE2.orow (by omega)]; exact x3'
  have C0 : Cl σ2 [(σ.n, ca), (σ.n + 1, R), (σ.n + 1 + 1, [.int .i64 0, .int .i64 0]), (σ.n + 1 + 1 + 1, [.int .i64 0, .int .i64 0])] := ⟨⟨by omega, by rw [hE2.orow (by omega), ← hS1]; exact cL⟩, ⟨by omega, by rw [hE2.orow (by omega), ← hS1]; exact cL⟩, ⟨by omega, y2⟩, ⟨by omega, y3⟩, trivial⟩
  have y4 : σ2.row BB = some cells := by rw [hE2.row (by omega), E1.row l3]; exact l4
  have hE : Ext σ σ2 := E1.trans hE2
  unfold ratQ
  simp (maxSteps := 1000000) (disch := first | exact dS | fail) only [↓bD2, bW2, reduceMul, reduceEqDiff, reduceAdd, Nat.reduceBEq, reduceIte, asx hE2]
  refine Must.intro (by (repeat first | simp (disch := omega) only [as_read, as_upd, as_newb, asx hE2] | rw [as_ord (by kernel_rfl)]); rfl) ?_
  refine gT ?_;try exact ⟨⟩
  obtain ⟨S2, hS2⟩ : ∃ S, ((((σ2.new [.int .i64 0, .int .i64 0]).new [.int .i64 0, .int .i64 0]).upd σ2.n [.int .i64 xn, .int .i64 xd]).upd (σ2.n + 1) [.int .i64 ym, .int .i64 ye]) = S := ⟨_, rfl⟩
  rw [hS2]
  have E2 : Ext σ2 S2 := by rw [← hS2]; exact eX
  have m2 : S2.n = σ2.n + 2 := by rw [← hS2]; rfl
  have C2 : Cl S2 [(σ2.n, [.int .i64 xn, .int .i64 xd]), (σ2.n + 1, [.int .i64 ym, .int .i64 ye])] := ⟨⟨by omega, by rw [← hS2]; exact cL⟩, ⟨by omega, by rw [← hS2]; exact cL⟩, trivial⟩
  have C1 : Cl S2 [(σ.n, ca), (σ.n + 1, R), (σ.n + 1 + 1, [.int .i64 0, .int .i64 0]), (σ.n + 1 + 1 + 1, [.int .i64 0, .int .i64 0])] := C0.ext E2
  have y4 : S2.row BB = some cells := by rw [E2.row (by omega)]; exact y4
  have hE : Ext σ S2 := hE.trans E2
  obtain ⟨⟨-, f0⟩, ⟨-, f1⟩, ⟨-, f2⟩, ⟨-, f3⟩, -⟩ := C1
  by_cases he : c1 = 0
  case neg =>
   have e1 : decide (c1 = 0) = false := decide_eq_false he
   refine gT1 (And.intro @e1 (And.intro @f2 (And.intro @f3 @Tryz.results67))) ?_;try exact ⟨⟩
   exact ⟨0, 0, 0, 0, c1, _, rfl, fun h => absurd h he, eX⟩
  subst he
  obtain ⟨pX, pY⟩ := k1 rfl
  have f0r := row_of f0
  have f1r := row_of f1
  rw [← hR] at f1r
  refine gT1 (And.intro @f0r (And.intro @hfa (And.intro @f1r (And.intro @y4 (And.intro @s2 @Nat.add_zero))))) ?_;try exact ⟨⟩
  refine (ihb hB (hT.mono hE) (x2.mono hE)).mono ?_
  rintro r ⟨un, ud, vm, ve, c2, σ3, rfl, k2, hE3⟩
  have n3 := hE3.n
  unfold ratQ
  simp (maxSteps := 1000000) (disch := first | exact dS | fail) only [↓bD2, bW2, reduceMul, reduceEqDiff, reduceAdd, Nat.reduceBEq, reduceIte, asx hE3]
  refine Must.intro (by (repeat first | simp (disch := omega) only [as_read, as_upd, as_newb, asx hE3] | rw [as_ord (by kernel_rfl)]); rfl) ?_
  refine gT ?_;try exact ⟨⟩
  obtain ⟨S3, hS3⟩ : ∃ S, ((((σ3.new [.int .i64 0, .int .i64 0]).new [.int .i64 0, .int .i64 0]).upd σ3.n [.int .i64 un, .int .i64 ud]).upd (σ3.n + 1) [.int .i64 vm, .int .i64 ve]) = S := ⟨_, rfl⟩
  rw [hS3]
  have E3 : Ext σ3 S3 := by rw [← hS3]; exact eX
  have m3 : S3.n = σ3.n + 2 := by rw [← hS3]; rfl
  have hE : Ext σ S3 := hE.trans (hE3.trans E3)
  have C2' : Cl S2 [(σ2.n, [.int .i64 xn, .int .i64 xd]), (σ2.n + 1, [.int .i64 ym, .int .i64 ye]), (σ.n, ca), (σ.n + 1, R), (σ.n + 1 + 1, [.int .i64 0, .int .i64 0]), (σ.n + 1 + 1 + 1, [.int .i64 0, .int .i64 0])] := ⟨C2.1, C2.2.1, C0.ext E2⟩
  have C3 : Cl S3 [(σ3.n, [.int .i64 un, .int .i64 ud]), (σ3.n + 1, [.int .i64 vm, .int .i64 ve]), (σ2.n, [.int .i64 xn, .int .i64 xd]), (σ2.n + 1, [.int .i64 ym, .int .i64 ye]), (σ.n, ca), (σ.n + 1, R), (σ.n + 1 + 1, [.int .i64 0, .int .i64 0]), (σ.n + 1 + 1 + 1, [.int .i64 0, .int .i64 0])] :=
   ⟨⟨by omega, by rw [← hS3]; exact cL⟩, ⟨by omega, by rw [← hS3]; exact cL⟩, (C2'.ext hE3).ext E3⟩
  obtain ⟨-, -, -, -, -, -, ⟨-, f2⟩, ⟨-, f3⟩, -⟩ := id C3
  by_cases he : c2 = 0
  case neg =>
   have e1 : decide (c2 = 0) = false := decide_eq_false he
   refine gT1 (And.intro @e1 (And.intro @f2 (And.intro @f3 @Tryz.results67))) ?_;try exact ⟨⟩
   exact ⟨0, 0, 0, 0, c2, _, rfl, fun h => absurd h he, eX⟩
  subst he
  obtain ⟨pU, pV⟩ := k2 rfl
  refine gT ?_;try exact ⟨⟩
  refine rof_ok.mono ?_
  rintro r ⟨σ4, rfl, hE4⟩
  have n4 := hE4.n
  unfold ratQ
  obtain ⟨-, -, -, -, -, ⟨-, wR⟩, -⟩ := C3.ext hE4
  have wR' := row_of wR
  rw [← hR] at wR'
  refine gT1 @wR' ?_;try exact ⟨⟩
  rw [hR] at wR'
  obtain ⟨S4, hS4⟩ : ∃ S, ((σ4.new [.int .i64 0, .int .i64 0]).upd σ4.n [.int .i64 0, .int .i64 1]) = S := ⟨_, rfl⟩
  rw [hS4]
  have E4 : Ext σ4 S4 := by rw [← hS4]; exact eX
  have m4 : S4.n = σ4.n + 1 := by rw [← hS4]; rfl
  have hE : Ext σ S4 := hE.trans (hE4.trans E4)
  have CC : Cl S4 [(σ4.n, [.int .i64 0, .int .i64 1]), (σ3.n, [.int .i64 un, .int .i64 ud]), (σ3.n + 1, [.int .i64 vm, .int .i64 ve]), (σ2.n, [.int .i64 xn, .int .i64 xd]), (σ2.n + 1, [.int .i64 ym, .int .i64 ye]), (σ.n, ca), (σ.n + 1, R), (σ.n + 1 + 1, [.int .i64 0, .int .i64 0]), (σ.n + 1 + 1 + 1, [.int .i64 0, .int .i64 0])] :=
   ⟨⟨by omega, by rw [← hS4]; exact cL⟩, (C3.ext hE4).ext E4⟩
  clear hS4 hS3 hS2 hS1 C3 C2' C2 C0 f0 f1 f2 f3 f0r f1r x0' x1' x2' x3' y0 y1 y2 y3 iha ihb
  obtain ⟨⟨-, w16⟩, ⟨-, w13⟩, ⟨-, w14⟩, ⟨-, w10⟩, ⟨-, w11⟩, -, ⟨-, wR⟩, ⟨-, o2⟩, ⟨-, o3⟩, -⟩ := id CC
  have w16r := row_of w16
  have w13r := row_of w13
  have w14r := row_of w14
  have w10r := row_of w10
  have w11r := row_of w11
  have pA1 := hA _ _ pX
  have pA2 := hA _ _ pY
  have pB1 := hB _ _ pU
  have pB2 := hB _ _ pV
  by_cases g0 : o = addO
  case pos =>
   subst g0
   unfold OpP at hPP
   rw [if_pos rfl] at hPP
   have gg : decide ((addO : By) = [43]) = true := by decide
   refine gT1 (And.intro @gg (And.intro @w10r (And.intro @w11r (And.intro @w13r (And.intro @w14r @w16r))))) ?_;try exact ⟨⟩
   refine (radd_ok pA1 pB1).mono ?_
   rintro r ⟨τ0, rfl, e0⟩
   have nn0 := e0.n
   try unfold ratQ
   have CC := CC.ext e0
   obtain ⟨⟨-, w16⟩, ⟨-, w13⟩, ⟨-, w14⟩, ⟨-, w10⟩, ⟨-, w11⟩, -, ⟨-, wR⟩, ⟨-, o2⟩, ⟨-, o3⟩, -⟩ := id CC
   have w10r := row_of w10
   have w11r := row_of w11
   have w13r := row_of w13
   have w14r := row_of w14
   refine gT1 (And.intro @w10r (And.intro @w11r (And.intro @w13r @w14r))) ?_;try exact ⟨⟩
   obtain ⟨T0, hT0⟩ : ∃ S, ((τ0.new [.int .i64 0, .int .i64 0]).upd τ0.n [.int .i64 (qn (xn * ud + un * xd) (xd * ud)), .int .i64 (qd (xn * ud + un * xd) (xd * ud))]) = S := ⟨_, rfl⟩
   rw [hT0]
   have F0 : Ext τ0 T0 := by rw [← hT0]; exact eX
   have mm0 : T0.n = τ0.n + 1 := by rw [← hT0]; rfl
   have hE : Ext σ T0 := hE.trans (e0.trans F0)
   have D0 : Cl T0 [(τ0.n, [.int .i64 (qn (xn * ud + un * xd) (xd * ud)), .int .i64 (qd (xn * ud + un * xd) (xd * ud))])] := ⟨⟨by omega, by rw [← hT0]; exact cL⟩, trivial⟩
   have CC : Cl T0 [(σ4.n, [.int .i64 0, .int .i64 1]), (σ3.n, [.int .i64 un, .int .i64 ud]), (σ3.n + 1, [.int .i64 vm, .int .i64 ve]), (σ2.n, [.int .i64 xn, .int .i64 xd]), (σ2.n + 1, [.int .i64 ym, .int .i64 ye]), (σ.n, ca), (σ.n + 1, R), (σ.n + 1 + 1, [.int .i64 0, .int .i64 0]), (σ.n + 1 + 1 + 1, [.int .i64 0, .int .i64 0])] := CC.ext F0
   obtain ⟨⟨-, w16⟩, ⟨-, w13⟩, ⟨-, w14⟩, ⟨-, w10⟩, ⟨-, w11⟩, -, ⟨-, wR⟩, ⟨-, o2⟩, ⟨-, o3⟩, -⟩ := id CC
   refine (radd_ok pA2 pB2).mono ?_
   rintro r ⟨τ1, rfl, e1⟩
   have nn1 := e1.n
   try unfold ratQ
   have CC := CC.ext e1
   obtain ⟨⟨-, w16⟩, ⟨-, w13⟩, ⟨-, w14⟩, ⟨-, w10⟩, ⟨-, w11⟩, -, ⟨-, wR⟩, ⟨-, o2⟩, ⟨-, o3⟩, -⟩ := id CC
   have w10r := row_of w10
   have w11r := row_of w11
   have w13r := row_of w13
   have w14r := row_of w14
   have D0 := D0.ext e1
   obtain ⟨⟨-, v0⟩, -⟩ := id D0
   have v0r := row_of v0
   refine gT1 (And.intro @w10r (And.intro @w11r (And.intro @w13r (And.intro @w14r @v0r)))) ?_;try exact ⟨⟩
   obtain ⟨T1, hT1⟩ : ∃ S, ((τ1.new [.int .i64 0, .int .i64 0]).upd τ1.n [.int .i64 (qn (ym * ve + vm * ye) (ye * ve)), .int .i64 (qd (ym * ve + vm * ye) (ye * ve))]) = S := ⟨_, rfl⟩
   rw [hT1]
   have F1 : Ext τ1 T1 := by rw [← hT1]; exact eX
   have mm1 : T1.n = τ1.n + 1 := by rw [← hT1]; rfl
   have hE : Ext σ T1 := hE.trans (e1.trans F1)
   have D1 : Cl T1 [(τ1.n, [.int .i64 (qn (ym * ve + vm * ye) (ye * ve)), .int .i64 (qd (ym * ve + vm * ye) (ye * ve))]), (τ0.n, [.int .i64 (qn (xn * ud + un * xd) (xd * ud)), .int .i64 (qd (xn * ud + un * xd) (xd * ud))])] := ⟨⟨by omega, by rw [← hT1]; exact cL⟩, D0.ext F1⟩
   have CC : Cl T1 [(σ4.n, [.int .i64 0, .int .i64 1]), (σ3.n, [.int .i64 un, .int .i64 ud]), (σ3.n + 1, [.int .i64 vm, .int .i64 ve]), (σ2.n, [.int .i64 xn, .int .i64 xd]), (σ2.n + 1, [.int .i64 ym, .int .i64 ye]), (σ.n, ca), (σ.n + 1, R), (σ.n + 1 + 1, [.int .i64 0, .int .i64 0]), (σ.n + 1 + 1 + 1, [.int .i64 0, .int .i64 0])] := CC.ext F1
   obtain ⟨⟨-, w16⟩, ⟨-, w13⟩, ⟨-, w14⟩, ⟨-, w10⟩, ⟨-, w11⟩, -, ⟨-, wR⟩, ⟨-, o2⟩, ⟨-, o3⟩, -⟩ := id CC
   refine (ends_ok (qs := [(qn (xn * ud + un * xd) (xd * ud), qd (xn * ud + un * xd) (xd * ud)), (qn (ym * ve + vm * ye) (ye * ve), qd (ym * ve + vm * ye) (ye * ve))]) hP (sl_of (by simp [rats]) (cL) (cL) rfl rfl) (sl_of (by simp) (cL) (cL) rfl rfl) (by simp) (by simp) ?_).mono ?_
   ·intro q hq
    simp only [List.mem_cons, List.not_mem_nil, or_false] at hq
    rcases hq with rfl | rfl
    ·exact hPP _ _ _ _ pX pU
    ·exact hPP _ _ _ _ pY pV
   rintro r ⟨zn, zd, zm, ze, σ9, rfl, z1, z2, e9⟩
   have nn9 := e9.n
   simp only [new_n] at nn9
   have o2' : σ9.orow (σ.n + 1 + 1) = some [.int .i64 0, .int .i64 0] := by rw [e9.orow (cL)]; exact cL1 o2
   have o3' : σ9.orow (σ.n + 1 + 1 + 1) = some [.int .i64 0, .int .i64 0] := by rw [e9.orow (cL)]; exact cL1 o3
   have hE : Ext σ σ9 := Ext.trans (eX) e9
   try unfold ratQ
   refine gT1 (And.intro @o2' (And.intro @o3' @Tryz.results67)) ?_;try exact ⟨⟩
   exact ⟨zn, zd, zm, ze, 0, _, rfl, fun _ => ⟨z1, z2⟩, eX⟩
  by_cases g1 : o = subO
  case pos =>
   subst g1
   unfold OpP at hPP
   rw [if_neg (by decide)] at hPP
   rw [if_pos rfl] at hPP
   have gg : decide ((subO : By) = [45]) = true := by decide
   have h0_ : decide ((subO : By) = [43]) = false := by decide
   refine gT1 (And.intro @gg (And.intro @h0_ (And.intro @w10r (And.intro @w11r (And.intro @w13r (And.intro @w14r @w16r)))))) ?_;try exact ⟨⟩
   refine (rsub_ok pA1 pB2).mono ?_
   rintro r ⟨τ0, rfl, e0⟩
   have nn0 := e0.n
   try unfold ratQ
   have CC := CC.ext e0
   obtain ⟨⟨-, w16⟩, ⟨-, w13⟩, ⟨-, w14⟩, ⟨-, w10⟩, ⟨-, w11⟩, -, ⟨-, wR⟩, ⟨-, o2⟩, ⟨-, o3⟩, -⟩ := id CC
   have w10r := row_of w10
   have w11r := row_of w11
   have w13r := row_of w13
   have w14r := row_of w14
   refine gT1 (And.intro @w10r (And.intro @w11r (And.intro @w13r @w14r))) ?_;try exact ⟨⟩
   obtain ⟨T0, hT0⟩ : ∃ S, ((τ0.new [.int .i64 0, .int .i64 0]).upd τ0.n [.int .i64 (qn (xn * ve - vm * xd) (xd * ve)), .int .i64 (qd (xn * ve - vm * xd) (xd * ve))]) = S := ⟨_, rfl⟩
   rw [hT0]
   have F0 : Ext τ0 T0 := by rw [← hT0]; exact eX
   have mm0 : T0.n = τ0.n + 1 := by rw [← hT0]; rfl
   have hE : Ext σ T0 := hE.trans (e0.trans F0)
   have D0 : Cl T0 [(τ0.n, [.int .i64 (qn (xn * ve - vm * xd) (xd * ve)), .int .i64 (qd (xn * ve - vm * xd) (xd * ve))])] := ⟨⟨by omega, by rw [← hT0]; exact cL⟩, trivial⟩
   have CC : Cl T0 [(σ4.n, [.int .i64 0, .int .i64 1]), (σ3.n, [.int .i64 un, .int .i64 ud]), (σ3.n + 1, [.int .i64 vm, .int .i64 ve]), (σ2.n, [.int .i64 xn, .int .i64 xd]), (σ2.n + 1, [.int .i64 ym, .int .i64 ye]), (σ.n, ca), (σ.n + 1, R), (σ.n + 1 + 1, [.int .i64 0, .int .i64 0]), (σ.n + 1 + 1 + 1, [.int .i64 0, .int .i64 0])] := CC.ext F0
   obtain ⟨⟨-, w16⟩, ⟨-, w13⟩, ⟨-, w14⟩, ⟨-, w10⟩, ⟨-, w11⟩, -, ⟨-, wR⟩, ⟨-, o2⟩, ⟨-, o3⟩, -⟩ := id CC
   refine (rsub_ok pA2 pB1).mono ?_
   rintro r ⟨τ1, rfl, e1⟩
   have nn1 := e1.n
   try unfold ratQ
   have CC := CC.ext e1
   obtain ⟨⟨-, w16⟩, ⟨-, w13⟩, ⟨-, w14⟩, ⟨-, w10⟩, ⟨-, w11⟩, -, ⟨-, wR⟩, ⟨-, o2⟩, ⟨-, o3⟩, -⟩ := id CC
   have w10r := row_of w10
   have w11r := row_of w11
   have w13r := row_of w13
   have w14r := row_of w14
   have D0 := D0.ext e1
   obtain ⟨⟨-, v0⟩, -⟩ := id D0
   have v0r := row_of v0
   refine gT1 (And.intro @w10r (And.intro @w11r (And.intro @w13r (And.intro @w14r @v0r)))) ?_;try exact ⟨⟩
   obtain ⟨T1, hT1⟩ : ∃ S, ((τ1.new [.int .i64 0, .int .i64 0]).upd τ1.n [.int .i64 (qn (ym * ud - un * ye) (ye * ud)), .int .i64 (qd (ym * ud - un * ye) (ye * ud))]) = S := ⟨_, rfl⟩
   rw [hT1]
   have F1 : Ext τ1 T1 := by rw [← hT1]; exact eX
   have mm1 : T1.n = τ1.n + 1 := by rw [← hT1]; rfl
   have hE : Ext σ T1 := hE.trans (e1.trans F1)
   have D1 : Cl T1 [(τ1.n, [.int .i64 (qn (ym * ud - un * ye) (ye * ud)), .int .i64 (qd (ym * ud - un * ye) (ye * ud))]), (τ0.n, [.int .i64 (qn (xn * ve - vm * xd) (xd * ve)), .int .i64 (qd (xn * ve - vm * xd) (xd * ve))])] := ⟨⟨by omega, by rw [← hT1]; exact cL⟩, D0.ext F1⟩
   have CC : Cl T1 [(σ4.n, [.int .i64 0, .int .i64 1]), (σ3.n, [.int .i64 un, .int .i64 ud]), (σ3.n + 1, [.int .i64 vm, .int .i64 ve]), (σ2.n, [.int .i64 xn, .int .i64 xd]), (σ2.n + 1, [.int .i64 ym, .int .i64 ye]), (σ.n, ca), (σ.n + 1, R), (σ.n + 1 + 1, [.int .i64 0, .int .i64 0]), (σ.n + 1 + 1 + 1, [.int .i64 0, .int .i64 0])] := CC.ext F1
   obtain ⟨⟨-, w16⟩, ⟨-, w13⟩, ⟨-, w14⟩, ⟨-, w10⟩, ⟨-, w11⟩, -, ⟨-, wR⟩, ⟨-, o2⟩, ⟨-, o3⟩, -⟩ := id CC
   refine (ends_ok (qs := [(qn (xn * ve - vm * xd) (xd * ve), qd (xn * ve - vm * xd) (xd * ve)), (qn (ym * ud - un * ye) (ye * ud), qd (ym * ud - un * ye) (ye * ud))]) hP (sl_of (by simp [rats]) (cL) (cL) rfl rfl) (sl_of (by simp) (cL) (cL) rfl rfl) (by simp) (by simp) ?_).mono ?_
   ·intro q hq
    simp only [List.mem_cons, List.not_mem_nil, or_false] at hq
    rcases hq with rfl | rfl
    ·exact hPP _ _ _ _ pX pV
    ·exact hPP _ _ _ _ pY pU
   rintro r ⟨zn, zd, zm, ze, σ9, rfl, z1, z2, e9⟩
   have nn9 := e9.n
   simp only [new_n] at nn9
   have o2' : σ9.orow (σ.n + 1 + 1) = some [.int .i64 0, .int .i64 0] := by rw [e9.orow (cL)]; exact cL1 o2
   have o3' : σ9.orow (σ.n + 1 + 1 + 1) = some [.int .i64 0, .int .i64 0] := by rw [e9.orow (cL)]; exact cL1 o3
   have hE : Ext σ σ9 := Ext.trans (eX) e9
   try unfold ratQ
   refine gT1 (And.intro @o2' (And.intro @o3' @Tryz.results67)) ?_;try exact ⟨⟩
   exact ⟨zn, zd, zm, ze, 0, _, rfl, fun _ => ⟨z1, z2⟩, eX⟩
  by_cases g2 : o = mulO
  case pos =>
   subst g2
   unfold OpP at hPP
   rw [if_neg (by decide)] at hPP
   rw [if_neg (by decide)] at hPP
   rw [if_pos rfl] at hPP
   have gg : decide ((mulO : By) = [42]) = true := by decide
   have h0_ : decide ((mulO : By) = [43]) = false := by decide
   have h1_ : decide ((mulO : By) = [45]) = false := by decide
   refine gT1 (And.intro @gg (And.intro @h0_ (And.intro @h1_ (And.intro @w10r (And.intro @w11r (And.intro @w13r (And.intro @w14r @w16r))))))) ?_;try exact ⟨⟩
   refine (rmul_ok pA1 pB1).mono ?_
   rintro r ⟨τ0, rfl, e0⟩
   have nn0 := e0.n
   try unfold ratQ
   have CC := CC.ext e0
   obtain ⟨⟨-, w16⟩, ⟨-, w13⟩, ⟨-, w14⟩, ⟨-, w10⟩, ⟨-, w11⟩, -, ⟨-, wR⟩, ⟨-, o2⟩, ⟨-, o3⟩, -⟩ := id CC
   have w10r := row_of w10
   have w11r := row_of w11
   have w13r := row_of w13
   have w14r := row_of w14
   refine gT1 (And.intro @w10r (And.intro @w11r (And.intro @w13r @w14r))) ?_;try exact ⟨⟩
   obtain ⟨T0, hT0⟩ : ∃ S, ((τ0.new [.int .i64 0, .int .i64 0]).upd τ0.n [.int .i64 (qn (xn * un) (xd * ud)), .int .i64 (qd (xn * un) (xd * ud))]) = S := ⟨_, rfl⟩
   rw [hT0]
   have F0 : Ext τ0 T0 := by rw [← hT0]; exact eX
   have mm0 : T0.n = τ0.n + 1 := by rw [← hT0]; rfl
   have hE : Ext σ T0 := hE.trans (e0.trans F0)
   have D0 : Cl T0 [(τ0.n, [.int .i64 (qn (xn * un) (xd * ud)), .int .i64 (qd (xn * un) (xd * ud))])] := ⟨⟨by omega, by rw [← hT0]; exact cL⟩, trivial⟩
   have CC : Cl T0 [(σ4.n, [.int .i64 0, .int .i64 1]), (σ3.n, [.int .i64 un, .int .i64 ud]), (σ3.n + 1, [.int .i64 vm, .int .i64 ve]), (σ2.n, [.int .i64 xn, .int .i64 xd]), (σ2.n + 1, [.int .i64 ym, .int .i64 ye]), (σ.n, ca), (σ.n + 1, R), (σ.n + 1 + 1, [.int .i64 0, .int .i64 0]), (σ.n + 1 + 1 + 1, [.int .i64 0, .int .i64 0])] := CC.ext F0
   obtain ⟨⟨-, w16⟩, ⟨-, w13⟩, ⟨-, w14⟩, ⟨-, w10⟩, ⟨-, w11⟩, -, ⟨-, wR⟩, ⟨-, o2⟩, ⟨-, o3⟩, -⟩ := id CC
   refine (rmul_ok pA1 pB2).mono ?_
   rintro r ⟨τ1, rfl, e1⟩
   have nn1 := e1.n
   try unfold ratQ
   have CC := CC.ext e1
   obtain ⟨⟨-, w16⟩, ⟨-, w13⟩, ⟨-, w14⟩, ⟨-, w10⟩, ⟨-, w11⟩, -, ⟨-, wR⟩, ⟨-, o2⟩, ⟨-, o3⟩, -⟩ := id CC
   have w10r := row_of w10
   have w11r := row_of w11
   have w13r := row_of w13
   have w14r := row_of w14
   have D0 := D0.ext e1
   obtain ⟨⟨-, v0⟩, -⟩ := id D0
   have v0r := row_of v0
   refine gT1 (And.intro @w10r (And.intro @w11r (And.intro @w13r (And.intro @w14r @v0r)))) ?_;try exact ⟨⟩
   obtain ⟨T1, hT1⟩ : ∃ S, ((τ1.new [.int .i64 0, .int .i64 0]).upd τ1.n [.int .i64 (qn (xn * vm) (xd * ve)), .int .i64 (qd (xn * vm) (xd * ve))]) = S := ⟨_, rfl⟩
   rw [hT1]
   have F1 : Ext τ1 T1 := by rw [← hT1]; exact eX
   have mm1 : T1.n = τ1.n + 1 := by rw [← hT1]; rfl
   have hE : Ext σ T1 := hE.trans (e1.trans F1)
   have D1 : Cl T1 [(τ1.n, [.int .i64 (qn (xn * vm) (xd * ve)), .int .i64 (qd (xn * vm) (xd * ve))]), (τ0.n, [.int .i64 (qn (xn * un) (xd * ud)), .int .i64 (qd (xn * un) (xd * ud))])] := ⟨⟨by omega, by rw [← hT1]; exact cL⟩, D0.ext F1⟩
   have CC : Cl T1 [(σ4.n, [.int .i64 0, .int .i64 1]), (σ3.n, [.int .i64 un, .int .i64 ud]), (σ3.n + 1, [.int .i64 vm, .int .i64 ve]), (σ2.n, [.int .i64 xn, .int .i64 xd]), (σ2.n + 1, [.int .i64 ym, .int .i64 ye]), (σ.n, ca), (σ.n + 1, R), (σ.n + 1 + 1, [.int .i64 0, .int .i64 0]), (σ.n + 1 + 1 + 1, [.int .i64 0, .int .i64 0])] := CC.ext F1
   obtain ⟨⟨-, w16⟩, ⟨-, w13⟩, ⟨-, w14⟩, ⟨-, w10⟩, ⟨-, w11⟩, -, ⟨-, wR⟩, ⟨-, o2⟩, ⟨-, o3⟩, -⟩ := id CC
   refine (rmul_ok pA2 pB1).mono ?_
   rintro r ⟨τ2, rfl, e2⟩
   have nn2 := e2.n
   try unfold ratQ
   have CC := CC.ext e2
   obtain ⟨⟨-, w16⟩, ⟨-, w13⟩, ⟨-, w14⟩, ⟨-, w10⟩, ⟨-, w11⟩, -, ⟨-, wR⟩, ⟨-, o2⟩, ⟨-, o3⟩, -⟩ := id CC
   have w10r := row_of w10
   have w11r := row_of w11
   have w13r := row_of w13
   have w14r := row_of w14
   have D1 := D1.ext e2
   obtain ⟨⟨-, v1⟩, ⟨-, v0⟩, -⟩ := id D1
   have v0r := row_of v0
   have v1r := row_of v1
   refine gT1 (And.intro @w10r (And.intro @w11r (And.intro @w13r (And.intro @w14r (And.intro @v0r @v1r))))) ?_;try exact ⟨⟩
   obtain ⟨T2, hT2⟩ : ∃ S, ((τ2.new [.int .i64 0, .int .i64 0]).upd τ2.n [.int .i64 (qn (ym * un) (ye * ud)), .int .i64 (qd (ym * un) (ye * ud))]) = S := ⟨_, rfl⟩
   rw [hT2]
   have F2 : Ext τ2 T2 := by rw [← hT2]; exact eX
   have mm2 : T2.n = τ2.n + 1 := by rw [← hT2]; rfl
   have hE : Ext σ T2 := hE.trans (e2.trans F2)
   have D2 : Cl T2 [(τ2.n, [.int .i64 (qn (ym * un) (ye * ud)), .int .i64 (qd (ym * un) (ye * ud))]), (τ1.n, [.int .i64 (qn (xn * vm) (xd * ve)), .int .i64 (qd (xn * vm) (xd * ve))]), (τ0.n, [.int .i64 (qn (xn * un) (xd * ud)), .int .i64 (qd (xn * un) (xd * ud))])] := ⟨⟨by omega, by rw [← hT2]; exact cL⟩, D1.ext F2⟩
   have CC : Cl T2 [(σ4.n, [.int .i64 0, .int .i64 1]), (σ3.n, [.int .i64 un, .int .i64 ud]), (σ3.n + 1, [.int .i64 vm, .int .i64 ve]), (σ2.n, [.int .i64 xn, .int .i64 xd]), (σ2.n + 1, [.int .i64 ym, .int .i64 ye]), (σ.n, ca), (σ.n + 1, R), (σ.n + 1 + 1, [.int .i64 0, .int .i64 0]), (σ.n + 1 + 1 + 1, [.int .i64 0, .int .i64 0])] := CC.ext F2
   obtain ⟨⟨-, w16⟩, ⟨-, w13⟩, ⟨-, w14⟩, ⟨-, w10⟩, ⟨-, w11⟩, -, ⟨-, wR⟩, ⟨-, o2⟩, ⟨-, o3⟩, -⟩ := id CC
   refine (rmul_ok pA2 pB2).mono ?_
   rintro r ⟨τ3, rfl, e3⟩
   have nn3 := e3.n
   try unfold ratQ
   have CC := CC.ext e3
   obtain ⟨⟨-, w16⟩, ⟨-, w13⟩, ⟨-, w14⟩, ⟨-, w10⟩, ⟨-, w11⟩, -, ⟨-, wR⟩, ⟨-, o2⟩, ⟨-, o3⟩, -⟩ := id CC
   have w10r := row_of w10
   have w11r := row_of w11
   have w13r := row_of w13
   have w14r := row_of w14
   have D2 := D2.ext e3
   obtain ⟨⟨-, v2⟩, ⟨-, v1⟩, ⟨-, v0⟩, -⟩ := id D2
   have v0r := row_of v0
   have v1r := row_of v1
   have v2r := row_of v2
   refine gT1 (And.intro @w10r (And.intro @w11r (And.intro @w13r (And.intro @w14r (And.intro @v0r (And.intro @v1r @v2r)))))) ?_;try exact ⟨⟩
   obtain ⟨T3, hT3⟩ : ∃ S, ((τ3.new [.int .i64 0, .int .i64 0]).upd τ3.n [.int .i64 (qn (ym * vm) (ye * ve)), .int .i64 (qd (ym * vm) (ye * ve))]) = S := ⟨_, rfl⟩
   rw [hT3]
   have F3 : Ext τ3 T3 := by rw [← hT3]; exact eX
   have mm3 : T3.n = τ3.n + 1 := by rw [← hT3]; rfl
   have hE : Ext σ T3 := hE.trans (e3.trans F3)
   have D3 : Cl T3 [(τ3.n, [.int .i64 (qn (ym * vm) (ye * ve)), .int .i64 (qd (ym * vm) (ye * ve))]), (τ2.n, [.int .i64 (qn (ym * un) (ye * ud)), .int .i64 (qd (ym * un) (ye * ud))]), (τ1.n, [.int .i64 (qn (xn * vm) (xd * ve)), .int .i64 (qd (xn * vm) (xd * ve))]), (τ0.n, [.int .i64 (qn (xn * un) (xd * ud)), .int .i64 (qd (xn * un) (xd * ud))])] := ⟨⟨by omega, by rw [← hT3]; exact cL⟩, D2.ext F3⟩
   have CC : Cl T3 [(σ4.n, [.int .i64 0, .int .i64 1]), (σ3.n, [.int .i64 un, .int .i64 ud]), (σ3.n + 1, [.int .i64 vm, .int .i64 ve]), (σ2.n, [.int .i64 xn, .int .i64 xd]), (σ2.n + 1, [.int .i64 ym, .int .i64 ye]), (σ.n, ca), (σ.n + 1, R), (σ.n + 1 + 1, [.int .i64 0, .int .i64 0]), (σ.n + 1 + 1 + 1, [.int .i64 0, .int .i64 0])] := CC.ext F3
   obtain ⟨⟨-, w16⟩, ⟨-, w13⟩, ⟨-, w14⟩, ⟨-, w10⟩, ⟨-, w11⟩, -, ⟨-, wR⟩, ⟨-, o2⟩, ⟨-, o3⟩, -⟩ := id CC
   refine (ends_ok (qs := [(qn (xn * un) (xd * ud), qd (xn * un) (xd * ud)), (qn (xn * vm) (xd * ve), qd (xn * vm) (xd * ve)), (qn (ym * un) (ye * ud), qd (ym * un) (ye * ud)), (qn (ym * vm) (ye * ve), qd (ym * vm) (ye * ve))]) hP (sl_of (by simp [rats]) (cL) (cL) rfl rfl) (sl_of (by simp) (cL) (cL) rfl rfl) (by simp) (by simp) ?_).mono ?_
   ·intro q hq
    simp only [List.mem_cons, List.not_mem_nil, or_false] at hq
    rcases hq with rfl | rfl | rfl | rfl
    ·exact hPP _ _ _ _ pX pU
    ·exact hPP _ _ _ _ pX pV
    ·exact hPP _ _ _ _ pY pU
    ·exact hPP _ _ _ _ pY pV
   rintro r ⟨zn, zd, zm, ze, σ9, rfl, z1, z2, e9⟩
   have nn9 := e9.n
   simp only [new_n] at nn9
   have o2' : σ9.orow (σ.n + 1 + 1) = some [.int .i64 0, .int .i64 0] := by rw [e9.orow (cL)]; exact cL1 o2
   have o3' : σ9.orow (σ.n + 1 + 1 + 1) = some [.int .i64 0, .int .i64 0] := by rw [e9.orow (cL)]; exact cL1 o3
   have hE : Ext σ σ9 := Ext.trans (eX) e9
   try unfold ratQ
   refine gT1 (And.intro @o2' (And.intro @o3' @Tryz.results67)) ?_;try exact ⟨⟩
   exact ⟨zn, zd, zm, ze, 0, _, rfl, fun _ => ⟨z1, z2⟩, eX⟩
  by_cases g3 : o = quoO
  case pos =>
   subst g3
   unfold OpP at hPP
   rw [if_neg (by decide)] at hPP
   rw [if_neg (by decide)] at hPP
   rw [if_neg (by decide)] at hPP
   rw [if_pos rfl] at hPP
   have gg : decide ((quoO : By) = [47]) = true := by decide
   have h0_ : decide ((quoO : By) = [43]) = false := by decide
   have h1_ : decide ((quoO : By) = [45]) = false := by decide
   have h2_ : decide ((quoO : By) = [42]) = false := by decide
   refine gT1 (And.intro @gg (And.intro @h0_ (And.intro @h1_ (And.intro @h2_ (And.intro @w10r (And.intro @w11r (And.intro @w13r (And.intro @w14r @w16r)))))))) ?_;try exact ⟨⟩
   have rz : RQ 0 1 := ⟨by omega, by omega, by omega, by omega, by decide⟩
   refine (cmp_ok pB1 rz).mono ?_
   rintro r ⟨σ5, rfl, hE5⟩
   have n5 := hE5.n
   have CC := CC.ext hE5
   have hE := hE.trans hE5
   obtain ⟨⟨-, w16⟩, ⟨-, w13⟩, ⟨-, w14⟩, ⟨-, w10⟩, ⟨-, w11⟩, -, ⟨-, wR⟩, ⟨-, o2⟩, ⟨-, o3⟩, -⟩ := id CC
   have w16r := row_of w16
   have w13r := row_of w13
   have w14r := row_of w14
   have w10r := row_of w10
   have w11r := row_of w11
   cases q1 : decide (0 < cmpQ un ud 0 1) with
   | true =>
    simp (maxSteps := 1000000) (disch := first | exact dS | fail) only [↓bD2, bW2, reduceMul, reduceEqDiff, reduceAdd, Nat.reduceBEq, reduceIte, q1, asx hE5, w10r, w11r, w13r, w14r, w16r]
    refine (rquo_ok pA1 pB1 (hPP _ _ _ _ pX pU).1).mono ?_
    rintro r ⟨τ0, rfl, e0⟩
    have nn0 := e0.n
    try unfold ratQ
    have CC := CC.ext e0
    obtain ⟨⟨-, w16⟩, ⟨-, w13⟩, ⟨-, w14⟩, ⟨-, w10⟩, ⟨-, w11⟩, -, ⟨-, wR⟩, ⟨-, o2⟩, ⟨-, o3⟩, -⟩ := id CC
    have w10r := row_of w10
    have w11r := row_of w11
    have w13r := row_of w13
    have w14r := row_of w14
    refine gT1 (And.intro @w10r (And.intro @w11r (And.intro @w13r @w14r))) ?_;try exact ⟨⟩
    obtain ⟨T0, hT0⟩ : ∃ S, ((τ0.new [.int .i64 0, .int .i64 0]).upd τ0.n [.int .i64 (qn (xn * ud) (xd * un)), .int .i64 (qd (xn * ud) (xd * un))]) = S := ⟨_, rfl⟩
    rw [hT0]
    have F0 : Ext τ0 T0 := by rw [← hT0]; exact eX
    have mm0 : T0.n = τ0.n + 1 := by rw [← hT0]; rfl
    have hE : Ext σ T0 := hE.trans (e0.trans F0)
    have D0 : Cl T0 [(τ0.n, [.int .i64 (qn (xn * ud) (xd * un)), .int .i64 (qd (xn * ud) (xd * un))])] := ⟨⟨by omega, by rw [← hT0]; exact cL⟩, trivial⟩
    have CC : Cl T0 [(σ4.n, [.int .i64 0, .int .i64 1]), (σ3.n, [.int .i64 un, .int .i64 ud]), (σ3.n + 1, [.int .i64 vm, .int .i64 ve]), (σ2.n, [.int .i64 xn, .int .i64 xd]), (σ2.n + 1, [.int .i64 ym, .int .i64 ye]), (σ.n, ca), (σ.n + 1, R), (σ.n + 1 + 1, [.int .i64 0, .int .i64 0]), (σ.n + 1 + 1 + 1, [.int .i64 0, .int .i64 0])] := CC.ext F0
    obtain ⟨⟨-, w16⟩, ⟨-, w13⟩, ⟨-, w14⟩, ⟨-, w10⟩, ⟨-, w11⟩, -, ⟨-, wR⟩, ⟨-, o2⟩, ⟨-, o3⟩, -⟩ := id CC
    refine (rquo_ok pA1 pB2 (hPP _ _ _ _ pX pV).1).mono ?_
    rintro r ⟨τ1, rfl, e1⟩
    have nn1 := e1.n
    try unfold ratQ
    have CC := CC.ext e1
    obtain ⟨⟨-, w16⟩, ⟨-, w13⟩, ⟨-, w14⟩, ⟨-, w10⟩, ⟨-, w11⟩, -, ⟨-, wR⟩, ⟨-, o2⟩, ⟨-, o3⟩, -⟩ := id CC
    have w10r := row_of w10
    have w11r := row_of w11
    have w13r := row_of w13
    have w14r := row_of w14
    have D0 := D0.ext e1
    obtain ⟨⟨-, v0⟩, -⟩ := id D0
    have v0r := row_of v0
    refine gT1 (And.intro @w10r (And.intro @w11r (And.intro @w13r (And.intro @w14r @v0r)))) ?_;try exact ⟨⟩
    obtain ⟨T1, hT1⟩ : ∃ S, ((τ1.new [.int .i64 0, .int .i64 0]).upd τ1.n [.int .i64 (qn (xn * ve) (xd * vm)), .int .i64 (qd (xn * ve) (xd * vm))]) = S := ⟨_, rfl⟩
    rw [hT1]
    have F1 : Ext τ1 T1 := by rw [← hT1]; exact eX
    have mm1 : T1.n = τ1.n + 1 := by rw [← hT1]; rfl
    have hE : Ext σ T1 := hE.trans (e1.trans F1)
    have D1 : Cl T1 [(τ1.n, [.int .i64 (qn (xn * ve) (xd * vm)), .int .i64 (qd (xn * ve) (xd * vm))]), (τ0.n, [.int .i64 (qn (xn * ud) (xd * un)), .int .i64 (qd (xn * ud) (xd * un))])] := ⟨⟨by omega, by rw [← hT1]; exact cL⟩, D0.ext F1⟩
    have CC : Cl T1 [(σ4.n, [.int .i64 0, .int .i64 1]), (σ3.n, [.int .i64 un, .int .i64 ud]), (σ3.n + 1, [.int .i64 vm, .int .i64 ve]), (σ2.n, [.int .i64 xn, .int .i64 xd]), (σ2.n + 1, [.int .i64 ym, .int .i64 ye]), (σ.n, ca), (σ.n + 1, R), (σ.n + 1 + 1, [.int .i64 0, .int .i64 0]), (σ.n + 1 + 1 + 1, [.int .i64 0, .int .i64 0])] := CC.ext F1
    obtain ⟨⟨-, w16⟩, ⟨-, w13⟩, ⟨-, w14⟩, ⟨-, w10⟩, ⟨-, w11⟩, -, ⟨-, wR⟩, ⟨-, o2⟩, ⟨-, o3⟩, -⟩ := id CC
    refine (rquo_ok pA2 pB1 (hPP _ _ _ _ pY pU).1).mono ?_
    rintro r ⟨τ2, rfl, e2⟩
    have nn2 := e2.n
    try unfold ratQ
    have CC := CC.ext e2
    obtain ⟨⟨-, w16⟩, ⟨-, w13⟩, ⟨-, w14⟩, ⟨-, w10⟩, ⟨-, w11⟩, -, ⟨-, wR⟩, ⟨-, o2⟩, ⟨-, o3⟩, -⟩ := id CC
    have w10r := row_of w10
    have w11r := row_of w11
    have w13r := row_of w13
    have w14r := row_of w14
    have D1 := D1.ext e2
    obtain ⟨⟨-, v1⟩, ⟨-, v0⟩, -⟩ := id D1
    have v0r := row_of v0
    have v1r := row_of v1
    refine gT1 (And.intro @w10r (And.intro @w11r (And.intro @w13r (And.intro @w14r (And.intro @v0r @v1r))))) ?_;try exact ⟨⟩
    obtain ⟨T2, hT2⟩ : ∃ S, ((τ2.new [.int .i64 0, .int .i64 0]).upd τ2.n [.int .i64 (qn (ym * ud) (ye * un)), .int .i64 (qd (ym * ud) (ye * un))]) = S := ⟨_, rfl⟩
    rw [hT2]
    have F2 : Ext τ2 T2 := by rw [← hT2]; exact eX
    have mm2 : T2.n = τ2.n + 1 := by rw [← hT2]; rfl
    have hE : Ext σ T2 := hE.trans (e2.trans F2)
    have D2 : Cl T2 [(τ2.n, [.int .i64 (qn (ym * ud) (ye * un)), .int .i64 (qd (ym * ud) (ye * un))]), (τ1.n, [.int .i64 (qn (xn * ve) (xd * vm)), .int .i64 (qd (xn * ve) (xd * vm))]), (τ0.n, [.int .i64 (qn (xn * ud) (xd * un)), .int .i64 (qd (xn * ud) (xd * un))])] := ⟨⟨by omega, by rw [← hT2]; exact cL⟩, D1.ext F2⟩
    have CC : Cl T2 [(σ4.n, [.int .i64 0, .int .i64 1]), (σ3.n, [.int .i64 un, .int .i64 ud]), (σ3.n + 1, [.int .i64 vm, .int .i64 ve]), (σ2.n, [.int .i64 xn, .int .i64 xd]), (σ2.n + 1, [.int .i64 ym, .int .i64 ye]), (σ.n, ca), (σ.n + 1, R), (σ.n + 1 + 1, [.int .i64 0, .int .i64 0]), (σ.n + 1 + 1 + 1, [.int .i64 0, .int .i64 0])] := CC.ext F2
    obtain ⟨⟨-, w16⟩, ⟨-, w13⟩, ⟨-, w14⟩, ⟨-, w10⟩, ⟨-, w11⟩, -, ⟨-, wR⟩, ⟨-, o2⟩, ⟨-, o3⟩, -⟩ := id CC
    refine (rquo_ok pA2 pB2 (hPP _ _ _ _ pY pV).1).mono ?_
    rintro r ⟨τ3, rfl, e3⟩
    have nn3 := e3.n
    try unfold ratQ
    have CC := CC.ext e3
    obtain ⟨⟨-, w16⟩, ⟨-, w13⟩, ⟨-, w14⟩, ⟨-, w10⟩, ⟨-, w11⟩, -, ⟨-, wR⟩, ⟨-, o2⟩, ⟨-, o3⟩, -⟩ := id CC
    have w10r := row_of w10
    have w11r := row_of w11
    have w13r := row_of w13
    have w14r := row_of w14
    have D2 := D2.ext e3
    obtain ⟨⟨-, v2⟩, ⟨-, v1⟩, ⟨-, v0⟩, -⟩ := id D2
    have v0r := row_of v0
    have v1r := row_of v1
    have v2r := row_of v2
    refine gT1 (And.intro @w10r (And.intro @w11r (And.intro @w13r (And.intro @w14r (And.intro @v0r (And.intro @v1r @v2r)))))) ?_;try exact ⟨⟩
    obtain ⟨T3, hT3⟩ : ∃ S, ((τ3.new [.int .i64 0, .int .i64 0]).upd τ3.n [.int .i64 (qn (ym * ve) (ye * vm)), .int .i64 (qd (ym * ve) (ye * vm))]) = S := ⟨_, rfl⟩
    rw [hT3]
    have F3 : Ext τ3 T3 := by rw [← hT3]; exact eX
    have mm3 : T3.n = τ3.n + 1 := by rw [← hT3]; rfl
    have hE : Ext σ T3 := hE.trans (e3.trans F3)
    have D3 : Cl T3 [(τ3.n, [.int .i64 (qn (ym * ve) (ye * vm)), .int .i64 (qd (ym * ve) (ye * vm))]), (τ2.n, [.int .i64 (qn (ym * ud) (ye * un)), .int .i64 (qd (ym * ud) (ye * un))]), (τ1.n, [.int .i64 (qn (xn * ve) (xd * vm)), .int .i64 (qd (xn * ve) (xd * vm))]), (τ0.n, [.int .i64 (qn (xn * ud) (xd * un)), .int .i64 (qd (xn * ud) (xd * un))])] := ⟨⟨by omega, by rw [← hT3]; exact cL⟩, D2.ext F3⟩
    have CC : Cl T3 [(σ4.n, [.int .i64 0, .int .i64 1]), (σ3.n, [.int .i64 un, .int .i64 ud]), (σ3.n + 1, [.int .i64 vm, .int .i64 ve]), (σ2.n, [.int .i64 xn, .int .i64 xd]), (σ2.n + 1, [.int .i64 ym, .int .i64 ye]), (σ.n, ca), (σ.n + 1, R), (σ.n + 1 + 1, [.int .i64 0, .int .i64 0]), (σ.n + 1 + 1 + 1, [.int .i64 0, .int .i64 0])] := CC.ext F3
    obtain ⟨⟨-, w16⟩, ⟨-, w13⟩, ⟨-, w14⟩, ⟨-, w10⟩, ⟨-, w11⟩, -, ⟨-, wR⟩, ⟨-, o2⟩, ⟨-, o3⟩, -⟩ := id CC
    refine (ends_ok (qs := [(qn (xn * ud) (xd * un), qd (xn * ud) (xd * un)), (qn (xn * ve) (xd * vm), qd (xn * ve) (xd * vm)), (qn (ym * ud) (ye * un), qd (ym * ud) (ye * un)), (qn (ym * ve) (ye * vm), qd (ym * ve) (ye * vm))]) hP (sl_of (by simp [rats]) (cL) (cL) rfl rfl) (sl_of (by simp) (cL) (cL) rfl rfl) (by simp) (by simp) ?_).mono ?_
    ·intro q hq
     simp only [List.mem_cons, List.not_mem_nil, or_false] at hq
     rcases hq with rfl | rfl | rfl | rfl
     ·exact (hPP _ _ _ _ pX pU).2
     ·exact (hPP _ _ _ _ pX pV).2
     ·exact (hPP _ _ _ _ pY pU).2
     ·exact (hPP _ _ _ _ pY pV).2
    rintro r ⟨zn, zd, zm, ze, σ9, rfl, z1, z2, e9⟩
    have nn9 := e9.n
    simp only [new_n] at nn9
    have o2' : σ9.orow (σ.n + 1 + 1) = some [.int .i64 0, .int .i64 0] := by rw [e9.orow (cL)]; exact cL1 o2
    have o3' : σ9.orow (σ.n + 1 + 1 + 1) = some [.int .i64 0, .int .i64 0] := by rw [e9.orow (cL)]; exact cL1 o3
    have hE : Ext σ σ9 := Ext.trans (eX) e9
    try unfold ratQ
    refine gT1 (And.intro @o2' (And.intro @o3' @Tryz.results67)) ?_;try exact ⟨⟩
    exact ⟨zn, zd, zm, ze, 0, _, rfl, fun _ => ⟨z1, z2⟩, eX⟩
   | false =>
    simp (maxSteps := 1000000) (disch := first | exact dS | fail) only [↓bD2, bW2, reduceMul, reduceEqDiff, reduceAdd, Nat.reduceBEq, reduceIte, q1, asx hE5, w10r, w11r, w13r, w14r, w16r]
    refine (cmp_ok pB2 rz).mono ?_
    rintro r ⟨σ6, rfl, hE6⟩
    have n6 := hE6.n
    have CC := CC.ext hE6
    have hE := hE.trans hE6
    obtain ⟨⟨-, w16⟩, ⟨-, w13⟩, ⟨-, w14⟩, ⟨-, w10⟩, ⟨-, w11⟩, -, ⟨-, wR⟩, ⟨-, o2⟩, ⟨-, o3⟩, -⟩ := id CC
    have w16r := row_of w16
    have w13r := row_of w13
    have w14r := row_of w14
    have w10r := row_of w10
    have w11r := row_of w11
    cases q2 : decide (cmpQ vm ve 0 1 < 0) with
    | false =>
     simp (maxSteps := 1000000) (disch := first | exact dS | fail) only [↓bD2, bW2, reduceMul, reduceEqDiff, reduceAdd, Nat.reduceBEq, reduceIte, q2, asx hE5, asx hE6, o2, o3, Tryz.results67]
     exact ⟨0, 0, 0, 0, 15, _, rfl, fun h => by omega, eX⟩
    | true =>
     simp (maxSteps := 1000000) (disch := first | exact dS | fail) only [↓bD2, bW2, reduceMul, reduceEqDiff, reduceAdd, Nat.reduceBEq, reduceIte, q2, asx hE5, asx hE6, w10r, w11r, w13r, w14r, w16r]
     refine (rquo_ok pA1 pB1 (hPP _ _ _ _ pX pU).1).mono ?_
     rintro r ⟨τ0, rfl, e0⟩
     have nn0 := e0.n
     try unfold ratQ
     have CC := CC.ext e0
     obtain ⟨⟨-, w16⟩, ⟨-, w13⟩, ⟨-, w14⟩, ⟨-, w10⟩, ⟨-, w11⟩, -, ⟨-, wR⟩, ⟨-, o2⟩, ⟨-, o3⟩, -⟩ := id CC
     have w10r := row_of w10
     have w11r := row_of w11
     have w13r := row_of w13
     have w14r := row_of w14
     refine gT1 (And.intro @w10r (And.intro @w11r (And.intro @w13r @w14r))) ?_;try exact ⟨⟩
     obtain ⟨T0, hT0⟩ : ∃ S, ((τ0.new [.int .i64 0, .int .i64 0]).upd τ0.n [.int .i64 (qn (xn * ud) (xd * un)), .int .i64 (qd (xn * ud) (xd * un))]) = S := ⟨_, rfl⟩
     rw [hT0]
     have F0 : Ext τ0 T0 := by rw [← hT0]; exact eX
     have mm0 : T0.n = τ0.n + 1 := by rw [← hT0]; rfl
     have hE : Ext σ T0 := hE.trans (e0.trans F0)
     have D0 : Cl T0 [(τ0.n, [.int .i64 (qn (xn * ud) (xd * un)), .int .i64 (qd (xn * ud) (xd * un))])] := ⟨⟨by omega, by rw [← hT0]; exact cL⟩, trivial⟩
     have CC : Cl T0 [(σ4.n, [.int .i64 0, .int .i64 1]), (σ3.n, [.int .i64 un, .int .i64 ud]), (σ3.n + 1, [.int .i64 vm, .int .i64 ve]), (σ2.n, [.int .i64 xn, .int .i64 xd]), (σ2.n + 1, [.int .i64 ym, .int .i64 ye]), (σ.n, ca), (σ.n + 1, R), (σ.n + 1 + 1, [.int .i64 0, .int .i64 0]), (σ.n + 1 + 1 + 1, [.int .i64 0, .int .i64 0])] := CC.ext F0
     obtain ⟨⟨-, w16⟩, ⟨-, w13⟩, ⟨-, w14⟩, ⟨-, w10⟩, ⟨-, w11⟩, -, ⟨-, wR⟩, ⟨-, o2⟩, ⟨-, o3⟩, -⟩ := id CC
     refine (rquo_ok pA1 pB2 (hPP _ _ _ _ pX pV).1).mono ?_
     rintro r ⟨τ1, rfl, e1⟩
     have nn1 := e1.n
     try unfold ratQ
     have CC := CC.ext e1
     obtain ⟨⟨-, w16⟩, ⟨-, w13⟩, ⟨-, w14⟩, ⟨-, w10⟩, ⟨-, w11⟩, -, ⟨-, wR⟩, ⟨-, o2⟩, ⟨-, o3⟩, -⟩ := id CC
     have w10r := row_of w10
     have w11r := row_of w11
     have w13r := row_of w13
     have w14r := row_of w14
     have D0 := D0.ext e1
     obtain ⟨⟨-, v0⟩, -⟩ := id D0
     have v0r := row_of v0
     refine gT1 (And.intro @w10r (And.intro @w11r (And.intro @w13r (And.intro @w14r @v0r)))) ?_;try exact ⟨⟩
     obtain ⟨T1, hT1⟩ : ∃ S, ((τ1.new [.int .i64 0, .int .i64 0]).upd τ1.n [.int .i64 (qn (xn * ve) (xd * vm)), .int .i64 (qd (xn * ve) (xd * vm))]) = S := ⟨_, rfl⟩
     rw [hT1]
     have F1 : Ext τ1 T1 := by rw [← hT1]; exact eX
     have mm1 : T1.n = τ1.n + 1 := by rw [← hT1]; rfl
     have hE : Ext σ T1 := hE.trans (e1.trans F1)
     have D1 : Cl T1 [(τ1.n, [.int .i64 (qn (xn * ve) (xd * vm)), .int .i64 (qd (xn * ve) (xd * vm))]), (τ0.n, [.int .i64 (qn (xn * ud) (xd * un)), .int .i64 (qd (xn * ud) (xd * un))])] := ⟨⟨by omega, by rw [← hT1]; exact cL⟩, D0.ext F1⟩
     have CC : Cl T1 [(σ4.n, [.int .i64 0, .int .i64 1]), (σ3.n, [.int .i64 un, .int .i64 ud]), (σ3.n + 1, [.int .i64 vm, .int .i64 ve]), (σ2.n, [.int .i64 xn, .int .i64 xd]), (σ2.n + 1, [.int .i64 ym, .int .i64 ye]), (σ.n, ca), (σ.n + 1, R), (σ.n + 1 + 1, [.int .i64 0, .int .i64 0]), (σ.n + 1 + 1 + 1, [.int .i64 0, .int .i64 0])] := CC.ext F1
     obtain ⟨⟨-, w16⟩, ⟨-, w13⟩, ⟨-, w14⟩, ⟨-, w10⟩, ⟨-, w11⟩, -, ⟨-, wR⟩, ⟨-, o2⟩, ⟨-, o3⟩, -⟩ := id CC
     refine (rquo_ok pA2 pB1 (hPP _ _ _ _ pY pU).1).mono ?_
     rintro r ⟨τ2, rfl, e2⟩
     have nn2 := e2.n
     try unfold ratQ
     have CC := CC.ext e2
     obtain ⟨⟨-, w16⟩, ⟨-, w13⟩, ⟨-, w14⟩, ⟨-, w10⟩, ⟨-, w11⟩, -, ⟨-, wR⟩, ⟨-, o2⟩, ⟨-, o3⟩, -⟩ := id CC
     have w10r := row_of w10
     have w11r := row_of w11
     have w13r := row_of w13
     have w14r := row_of w14
     have D1 := D1.ext e2
     obtain ⟨⟨-, v1⟩, ⟨-, v0⟩, -⟩ := id D1
     have v0r := row_of v0
     have v1r := row_of v1
     refine gT1 (And.intro @w10r (And.intro @w11r (And.intro @w13r (And.intro @w14r (And.intro @v0r @v1r))))) ?_;try exact ⟨⟩
     obtain ⟨T2, hT2⟩ : ∃ S, ((τ2.new [.int .i64 0, .int .i64 0]).upd τ2.n [.int .i64 (qn (ym * ud) (ye * un)), .int .i64 (qd (ym * ud) (ye * un))]) = S := ⟨_, rfl⟩
     rw [hT2]
     have F2 : Ext τ2 T2 := by rw [← hT2]; exact eX
     have mm2 : T2.n = τ2.n + 1 := by rw [← hT2]; rfl
     have hE : Ext σ T2 := hE.trans (e2.trans F2)
     have D2 : Cl T2 [(τ2.n, [.int .i64 (qn (ym * ud) (ye * un)), .int .i64 (qd (ym * ud) (ye * un))]), (τ1.n, [.int .i64 (qn (xn * ve) (xd * vm)), .int .i64 (qd (xn * ve) (xd * vm))]), (τ0.n, [.int .i64 (qn (xn * ud) (xd * un)), .int .i64 (qd (xn * ud) (xd * un))])] := ⟨⟨by omega, by rw [← hT2]; exact cL⟩, D1.ext F2⟩
     have CC : Cl T2 [(σ4.n, [.int .i64 0, .int .i64 1]), (σ3.n, [.int .i64 un, .int .i64 ud]), (σ3.n + 1, [.int .i64 vm, .int .i64 ve]), (σ2.n, [.int .i64 xn, .int .i64 xd]), (σ2.n + 1, [.int .i64 ym, .int .i64 ye]), (σ.n, ca), (σ.n + 1, R), (σ.n + 1 + 1, [.int .i64 0, .int .i64 0]), (σ.n + 1 + 1 + 1, [.int .i64 0, .int .i64 0])] := CC.ext F2
     obtain ⟨⟨-, w16⟩, ⟨-, w13⟩, ⟨-, w14⟩, ⟨-, w10⟩, ⟨-, w11⟩, -, ⟨-, wR⟩, ⟨-, o2⟩, ⟨-, o3⟩, -⟩ := id CC
     refine (rquo_ok pA2 pB2 (hPP _ _ _ _ pY pV).1).mono ?_
     rintro r ⟨τ3, rfl, e3⟩
     have nn3 := e3.n
     try unfold ratQ
     have CC := CC.ext e3
     obtain ⟨⟨-, w16⟩, ⟨-, w13⟩, ⟨-, w14⟩, ⟨-, w10⟩, ⟨-, w11⟩, -, ⟨-, wR⟩, ⟨-, o2⟩, ⟨-, o3⟩, -⟩ := id CC
     have w10r := row_of w10
     have w11r := row_of w11
     have w13r := row_of w13
     have w14r := row_of w14
     have D2 := D2.ext e3
     obtain ⟨⟨-, v2⟩, ⟨-, v1⟩, ⟨-, v0⟩, -⟩ := id D2
     have v0r := row_of v0
     have v1r := row_of v1
     have v2r := row_of v2
     refine gT1 (And.intro @w10r (And.intro @w11r (And.intro @w13r (And.intro @w14r (And.intro @v0r (And.intro @v1r @v2r)))))) ?_;try exact ⟨⟩
     obtain ⟨T3, hT3⟩ : ∃ S, ((τ3.new [.int .i64 0, .int .i64 0]).upd τ3.n [.int .i64 (qn (ym * ve) (ye * vm)), .int .i64 (qd (ym * ve) (ye * vm))]) = S := ⟨_, rfl⟩
     rw [hT3]
     have F3 : Ext τ3 T3 := by rw [← hT3]; exact eX
     have mm3 : T3.n = τ3.n + 1 := by rw [← hT3]; rfl
     have hE : Ext σ T3 := hE.trans (e3.trans F3)
     have D3 : Cl T3 [(τ3.n, [.int .i64 (qn (ym * ve) (ye * vm)), .int .i64 (qd (ym * ve) (ye * vm))]), (τ2.n, [.int .i64 (qn (ym * ud) (ye * un)), .int .i64 (qd (ym * ud) (ye * un))]), (τ1.n, [.int .i64 (qn (xn * ve) (xd * vm)), .int .i64 (qd (xn * ve) (xd * vm))]), (τ0.n, [.int .i64 (qn (xn * ud) (xd * un)), .int .i64 (qd (xn * ud) (xd * un))])] := ⟨⟨by omega, by rw [← hT3]; exact cL⟩, D2.ext F3⟩
     have CC : Cl T3 [(σ4.n, [.int .i64 0, .int .i64 1]), (σ3.n, [.int .i64 un, .int .i64 ud]), (σ3.n + 1, [.int .i64 vm, .int .i64 ve]), (σ2.n, [.int .i64 xn, .int .i64 xd]), (σ2.n + 1, [.int .i64 ym, .int .i64 ye]), (σ.n, ca), (σ.n + 1, R), (σ.n + 1 + 1, [.int .i64 0, .int .i64 0]), (σ.n + 1 + 1 + 1, [.int .i64 0, .int .i64 0])] := CC.ext F3
     obtain ⟨⟨-, w16⟩, ⟨-, w13⟩, ⟨-, w14⟩, ⟨-, w10⟩, ⟨-, w11⟩, -, ⟨-, wR⟩, ⟨-, o2⟩, ⟨-, o3⟩, -⟩ := id CC
     refine (ends_ok (qs := [(qn (xn * ud) (xd * un), qd (xn * ud) (xd * un)), (qn (xn * ve) (xd * vm), qd (xn * ve) (xd * vm)), (qn (ym * ud) (ye * un), qd (ym * ud) (ye * un)), (qn (ym * ve) (ye * vm), qd (ym * ve) (ye * vm))]) hP (sl_of (by simp [rats]) (cL) (cL) rfl rfl) (sl_of (by simp) (cL) (cL) rfl rfl) (by simp) (by simp) ?_).mono ?_
     ·intro q hq
      simp only [List.mem_cons, List.not_mem_nil, or_false] at hq
      rcases hq with rfl | rfl | rfl | rfl
      ·exact (hPP _ _ _ _ pX pU).2
      ·exact (hPP _ _ _ _ pX pV).2
      ·exact (hPP _ _ _ _ pY pU).2
      ·exact (hPP _ _ _ _ pY pV).2
     rintro r ⟨zn, zd, zm, ze, σ9, rfl, z1, z2, e9⟩
     have nn9 := e9.n
     simp only [new_n] at nn9
     have o2' : σ9.orow (σ.n + 1 + 1) = some [.int .i64 0, .int .i64 0] := by rw [e9.orow (cL)]; exact cL1 o2
     have o3' : σ9.orow (σ.n + 1 + 1 + 1) = some [.int .i64 0, .int .i64 0] := by rw [e9.orow (cL)]; exact cL1 o3
     have hE : Ext σ σ9 := Ext.trans (eX) e9
     try unfold ratQ
     refine gT1 (And.intro @o2' (And.intro @o3' @Tryz.results67)) ?_;try exact ⟨⟩
     exact ⟨zn, zd, zm, ze, 0, _, rfl, fun _ => ⟨z1, z2⟩, eX⟩
  case neg =>
   unfold OpP at hPP
   rw [if_neg g0, if_neg g1, if_neg g2, if_neg g3] at hPP
   obtain ⟨pa, pb⟩ := hPP
   have f0 : decide (o = [43]) = false := decide_eq_false g0
   have f1 : decide (o = [45]) = false := decide_eq_false g1
   have f2 : decide (o = [42]) = false := decide_eq_false g2
   have f3 : decide (o = [47]) = false := decide_eq_false g3
   cases f4 : decide (o = [109,105,110]) with
   | true =>
    refine gT1 (And.intro @f0 (And.intro @f1 (And.intro @f2 (And.intro @f3 (And.intro @f4 (And.intro @w10r @w13r)))))) ?_;try exact ⟨⟩
    refine (less_ok pA1 pB1).mono ?_
    rintro r ⟨x, y, σ5, rfl, one1, e5⟩
    have n5 := e5.n
    have CC := CC.ext e5
    have hE := hE.trans e5
    obtain ⟨⟨-, w16⟩, ⟨-, w13⟩, ⟨-, w14⟩, ⟨-, w10⟩, ⟨-, w11⟩, -, ⟨-, wR⟩, ⟨-, o2⟩, ⟨-, o3⟩, -⟩ := id CC
    have w11r := row_of w11
    have w14r := row_of w14
    simp (maxSteps := 1000000) (disch := first | exact dS | fail) only [↓bD2, bW2, reduceMul, reduceEqDiff, reduceAdd, Nat.reduceBEq, reduceIte, asx e5, w11r, w14r]
    refine (less_ok pA2 pB2).mono ?_
    rintro r ⟨x', y', σ6, rfl, one2, e6⟩
    have n6 := e6.n
    have CC := CC.ext e6
    have hE := hE.trans e6
    obtain ⟨⟨-, w16⟩, ⟨-, w13⟩, ⟨-, w14⟩, ⟨-, w10⟩, ⟨-, w11⟩, -, ⟨-, wR⟩, ⟨-, o2⟩, ⟨-, o3⟩, -⟩ := id CC
    try unfold ratQ
    simp (maxSteps := 1000000) (disch := first | exact dS | fail) only [↓bD2, bW2, reduceMul, reduceEqDiff, reduceAdd, Nat.reduceBEq, reduceIte, asx e5, asx e6, o2, o3, as_upd]
    refine gT1 (And.intro @o2 (And.intro @o3 @Tryz.results67)) ?_;try exact ⟨⟩
    exact ⟨x, y, x', y', 0, _, rfl, fun _ => ⟨one1.pick (pa _ _ pX) (pb _ _ pU), one2.pick (pa _ _ pY) (pb _ _ pV)⟩, eX⟩
   | false =>
    refine gT1 (And.intro @f0 (And.intro @f1 (And.intro @f2 (And.intro @f3 (And.intro @f4 (And.intro @w10r @w13r)))))) ?_;try exact ⟨⟩
    refine (more_ok pA1 pB1).mono ?_
    rintro r ⟨x, y, σ5, rfl, one1, e5⟩
    have n5 := e5.n
    have CC := CC.ext e5
    have hE := hE.trans e5
    obtain ⟨⟨-, w16⟩, ⟨-, w13⟩, ⟨-, w14⟩, ⟨-, w10⟩, ⟨-, w11⟩, -, ⟨-, wR⟩, ⟨-, o2⟩, ⟨-, o3⟩, -⟩ := id CC
    have w11r := row_of w11
    have w14r := row_of w14
    simp (maxSteps := 1000000) (disch := first | exact dS | fail) only [↓bD2, bW2, reduceMul, reduceEqDiff, reduceAdd, Nat.reduceBEq, reduceIte, asx e5, w11r, w14r]
    refine (more_ok pA2 pB2).mono ?_
    rintro r ⟨x', y', σ6, rfl, one2, e6⟩
    have n6 := e6.n
    have CC := CC.ext e6
    have hE := hE.trans e6
    obtain ⟨⟨-, w16⟩, ⟨-, w13⟩, ⟨-, w14⟩, ⟨-, w10⟩, ⟨-, w11⟩, -, ⟨-, wR⟩, ⟨-, o2⟩, ⟨-, o3⟩, -⟩ := id CC
    try unfold ratQ
    simp (maxSteps := 1000000) (disch := first | exact dS | fail) only [↓bD2, bW2, reduceMul, reduceEqDiff, reduceAdd, Nat.reduceBEq, reduceIte, asx e5, asx e6, o2, o3, as_upd]
    refine gT1 (And.intro @o2 (And.intro @o3 @Tryz.results67)) ?_;try exact ⟨⟩
    exact ⟨x, y, x', y', 0, _, rfl, fun _ => ⟨one1.pick (pa _ _ pX) (pb _ _ pU), one2.pick (pa _ _ pY) (pb _ _ pV)⟩, eX⟩
end Go.Proofs.G
