/- Bounds of fractions and of intervals. -/
import Derived.Test.YtcjkjjnnicadfaaGreatDoorGG
set_option linter.unusedSimpArgs false
set_option linter.unusedVariables false
namespace Go.Proofs.G
open Go Go.Ab
open Nat (reduceMul reduceEqDiff reduceAdd)
set_option maxRecDepth 100000
noncomputable def cmpX (n d m e : Int) : Bool × List Nat := addB (bneq (decide (n < 0)) (decide (e < 0))) (!(bneq (decide (m < 0)) (decide (d < 0)))) (timesD (digs n.natAbs) (digs e.natAbs)) (timesD (digs m.natAbs) (digs d.natAbs))
noncomputable def cmpQ (n d m e : Int) : Int := if (trimD (cmpX n d m e).2).length = 0 then 0 else if (cmpX n d m e).1 = true then -1 else 1
theorem addB_len (n m : Bool) (a b : List Nat) : (addB n m a b).2.length ≤ a.length + b.length + 1 := by
 unfold addB
 split
 ·have := plusD_len a b; show (plusD a b).length ≤ _; omega
 ·split
  ·have := minusD_len b a; show (minusD b a).length ≤ _; omega
  ·have := minusD_len a b; show (minusD a b).length ≤ _; omega
theorem cmp_ok {σ : St} {n d m e : Int} (h : RQ n d) (k : RQ m e) : Ev (go Tryz.prog HS (.fn 103) [ratQ n d, ratQ m e] σ) (fun r => ∃ σ', r = ⟨false, .int .i64 (cmpQ n d m e), σ'⟩ ∧ Ext σ σ') ⟨⟩ := by
 obtain ⟨x1, x2, x3, x4, x5⟩ := id h
 obtain ⟨y1, y2, y3, y4, y5⟩ := id k
 have i1 : In64 n := ⟨by omega, by omega⟩
 have i2 : In64 d := ⟨by omega, by omega⟩
 have i3 : In64 m := ⟨by omega, by omega⟩
 have i4 : In64 e := ⟨by omega, by omega⟩
 have z1 : (digs n.natAbs).length ≤ 4 := digs_len 4 _ (by omega)
 have z2 : (digs d.natAbs).length ≤ 4 := digs_len 4 _ (by omega)
 have z3 : (digs m.natAbs).length ≤ 4 := digs_len 4 _ (by omega)
 have z4 : (digs e.natAbs).length ≤ 4 := digs_len 4 _ (by omega)
 refine ev_go Tryz.func103 rfl rfl ?_
 unfold ratQ
 refine gT ?_;try exact ⟨⟩
 refine (rboth_ok h k).mono ?_
 rintro r ⟨σ2, rfl, hE2⟩
 have n2 := hE2.n
 simp only [new_n] at n2
 have r1 : σ2.row σ.n = some [.int .i64 n, .int .i64 d] := by rw [hE2.row (cL)]; exact cL
 have r2 : σ2.row (σ.n + 1) = some [.int .i64 m, .int .i64 e] := by rw [hE2.row (cL)]; exact cL
 have EA : Ext σ σ2 := Ext.trans (eX) hE2
 refine gT1 (And.intro @r1 @r2) ?_;try exact ⟨⟩
 refine (of_ok i3).mono ?_
 rintro r ⟨v, σ3, rfl, hE3, w3, rfl, hw3⟩
 have n3 := hE3.n
 have q1 : σ3.row σ.n = some [.int .i64 n, .int .i64 d] := by rw [hE3.row (by omega)]; exact r1
 have q2 : σ3.row (σ.n + 1) = some [.int .i64 m, .int .i64 e] := by rw [hE3.row (by omega)]; exact r2
 refine gT1 (And.intro @q1 @q2) ?_;try exact ⟨⟩
 refine (of_ok i2).mono ?_
 rintro r ⟨v, σ4, rfl, hE4, w4, rfl, hw4⟩
 have n4 := hE4.n
 refine gT ?_;try exact ⟨⟩
 refine (mul_ok (hw3.mono hE4) hw4 (by omega) (by omega)).mono ?_
 rintro r ⟨w5, σ5, rfl, hE5, hw5⟩
 have n5 := hE5.n
 obtain ⟨c1, c2, -⟩ := hw5.cell
 have l5 := timesD_len (digs m.natAbs) (digs d.natAbs)
 have s1 : σ5.row σ.n = some [.int .i64 n, .int .i64 d] := by rw [hE5.row (by omega), hE4.row (by omega)]; exact q1
 have s2 : σ5.row (σ.n + 1) = some [.int .i64 m, .int .i64 e] := by rw [hE5.row (by omega), hE4.row (by omega)]; exact q2
 unfold bigV
 simp (maxSteps := 1000000) (disch := first | exact dS | fail) only [↓bD2, bW2, reduceMul, reduceEqDiff, reduceAdd, Nat.reduceBEq, reduceIte, c1, c2, asx hE3, asx hE4, asx hE5, as_newb, as_upd, s1, s2]
 obtain ⟨S6, hS6⟩ : ∃ S6, (((σ5.new [.bool false, .slice none 0 0]).upd σ5.n [.bool (bneq (decide (m < 0)) (decide (d < 0))), w5]).upd σ5.n [.bool !bneq (decide (m < 0)) (decide (d < 0)), w5]) = S6 := ⟨_, rfl⟩
 have E6 : Ext σ5 S6 := by rw [← hS6]; exact eX
 have n6 : S6.n = σ5.n + 1 := by rw [← hS6]; rfl
 have x6 : S6.row σ5.n = some [.bool !bneq (decide (m < 0)) (decide (d < 0)), w5] := by rw [← hS6]; exact row_upd_same
 have t1 : S6.row σ.n = some [.int .i64 n, .int .i64 d] := by rw [E6.row (by omega)]; exact s1
 have t2 : S6.row (σ.n + 1) = some [.int .i64 m, .int .i64 e] := by rw [E6.row (by omega)]; exact s2
 rw [hS6]
 refine (of_ok i1).mono ?_
 rintro r ⟨v, σ7, rfl, hE7, w7, rfl, hw7⟩
 have n7 := hE7.n
 have u1 : σ7.row σ.n = some [.int .i64 n, .int .i64 d] := by rw [hE7.row (by omega)]; exact t1
 have u2 : σ7.row (σ.n + 1) = some [.int .i64 m, .int .i64 e] := by rw [hE7.row (by omega)]; exact t2
 refine gT1 (And.intro @u1 @u2) ?_;try exact ⟨⟩
 refine (of_ok i4).mono ?_
 rintro r ⟨v, σ8, rfl, hE8, w8, rfl, hw8⟩
 have n8 := hE8.n
 refine gT ?_;try exact ⟨⟩
 refine (mul_ok (hw7.mono hE8) hw8 (by omega) (by omega)).mono ?_
 rintro r ⟨w9, σ9, rfl, hE9, hw9⟩
 have n9 := hE9.n
 have l9 := timesD_len (digs n.natAbs) (digs e.natAbs)
 have x9 : σ9.row σ5.n = some [.bool !bneq (decide (m < 0)) (decide (d < 0)), w5] := by rw [hE9.row (by omega), hE8.row (by omega), hE7.row (by omega)]; exact x6
 refine gT1 @x9 ?_;try exact ⟨⟩
 refine (add_big_ok hw9 (hw5.mono (E6.trans (hE7.trans (hE8.trans hE9)))) (by omega) (by omega)).mono ?_
 rintro r ⟨wa, σa, rfl, hEa, hwa⟩
 have na := hEa.n
 obtain ⟨a1, a2, aa, ac, ha⟩ := hwa.cell
 have hX : addB (bneq (decide (n < 0)) (decide (e < 0))) (!(bneq (decide (m < 0)) (decide (d < 0)))) (timesD (digs n.natAbs) (digs e.natAbs)) (timesD (digs m.natAbs) (digs d.natAbs)) = cmpX n d m e := rfl
 rw [hX] at hwa ⊢
 have la := addB_len (bneq (decide (n < 0)) (decide (e < 0))) (!(bneq (decide (m < 0)) (decide (d < 0)))) (timesD (digs n.natAbs) (digs e.natAbs)) (timesD (digs m.natAbs) (digs d.natAbs))
 rw [hX] at la
 have EB : Ext σ σa := EA.trans (hE3.trans (hE4.trans (hE5.trans (E6.trans (hE7.trans (hE8.trans (hE9.trans hEa)))))))
 unfold bigV
 simp (maxSteps := 1000000) (disch := first | exact dS | fail) only [↓bD2, bW2, reduceMul, reduceEqDiff, reduceAdd, Nat.reduceBEq, reduceIte, a1, a2, asx hE7, asx hE8, asx hE9, asx hEa, as_newb, as_upd]
 obtain ⟨Sb, hSb⟩ : ∃ Sb, ((σa.new [.bool false, .slice none 0 0]).upd σa.n [.bool (cmpX n d m e).1, wa]) = Sb := ⟨_, rfl⟩
 have Eb : Ext σa Sb := by rw [← hSb]; exact eX
 have xb : Sb.row σa.n = some [.bool (cmpX n d m e).1, wa] := by rw [← hSb]; exact row_upd_same
 rw [hSb]
 refine (trim_dig (hwa.mono Eb) (by omega)).mono ?_
 rintro r ⟨wt, rfl, hwt⟩
 obtain ⟨b1, b2, ta, tc, rfl⟩ := hwt.cell
 have EC : Ext σ Sb := EB.trans Eb
 by_cases h0 : (trimD (cmpX n d m e).2).length = 0
 ·have c0 : decide (((trimD (cmpX n d m e).2).length : Int) = 0) = true := by rw [decide_eq_true_iff]; omega
  have hq : cmpQ n d m e = 0 := by unfold cmpQ; rw [if_pos h0]
  refine gT1 (And.intro @xb (And.intro @c0 (And.intro @hq @Tryz.results103))) ?_;try exact ⟨⟩
  exact ⟨_, rfl, EC⟩
 ·have c0 : decide (((trimD (cmpX n d m e).2).length : Int) = 0) = false := by rw [decide_eq_false_iff_not]; omega
  cases hs : (cmpX n d m e).1 with
  | true =>
   have hq : cmpQ n d m e = -1 := by unfold cmpQ; rw [if_neg h0, if_pos hs]
   refine gT1 (And.intro @xb (And.intro @c0 (And.intro @hq (And.intro @hs @Tryz.results103)))) ?_;try exact ⟨⟩
   exact ⟨_, rfl, EC⟩
  | false =>
   have hq : cmpQ n d m e = 1 := by unfold cmpQ; rw [if_neg h0, if_neg (by rw [hs]; simp)]
   refine gT1 (And.intro @xb (And.intro @c0 (And.intro @hq (And.intro @hs @Tryz.results103)))) ?_;try exact ⟨⟩
   exact ⟨_, rfl, EC⟩
end Go.Proofs.G
namespace Go.Proofs.G
open Go Go.Ab
open Nat (reduceMul reduceEqDiff reduceAdd)
set_option maxRecDepth 100000
def OneQ (n d m e x y : Int) : Prop := (x = n ∧ y = d) ∨ (x = m ∧ y = e)
theorem less_ok {σ : St} {n d m e : Int} (h : RQ n d) (k : RQ m e) : Ev (go Tryz.prog HS (.fn 105) [ratQ n d, ratQ m e] σ) (fun r => ∃ x y σ', r = ⟨false, ratQ x y, σ'⟩ ∧ OneQ n d m e x y ∧ Ext σ σ') ⟨⟩ := by
 refine ev_go Tryz.func105 rfl rfl ?_
 unfold ratQ
 refine gT ?_;try exact ⟨⟩
 refine (cmp_ok h k).mono ?_
 rintro r ⟨σ2, rfl, hE2⟩
 have n2 := hE2.n
 simp only [new_n] at n2
 have r1 : σ2.row σ.n = some [.int .i64 n, .int .i64 d] := by rw [hE2.row (cL)]; exact cL
 have r2 : σ2.row (σ.n + 1) = some [.int .i64 m, .int .i64 e] := by rw [hE2.row (cL)]; exact cL
 have r3 : σ2.orow (σ.n + 1 + 1) = some [.int .i64 0, .int .i64 0] := by rw [hE2.orow (cL)]; exact cL
 have EA : Ext σ σ2 := Ext.trans (eX) hE2
 by_cases c : 0 < cmpQ n d m e
 ·have c2 : decide (0 < cmpQ n d m e) = true := decide_eq_true c
  simp (maxSteps := 1000000) (disch := first | exact dS | fail) only [↓bD2, bW2, reduceMul, reduceEqDiff, reduceAdd, Nat.reduceBEq, reduceIte, r1, r2, r3, c2, asx hE2, as_newb, Tryz.results105]
  exact ⟨m, e, _, rfl, Or.inr ⟨rfl, rfl⟩, Ext.upd EA (by omega) _⟩
 ·have c2 : decide (0 < cmpQ n d m e) = false := decide_eq_false c
  simp (maxSteps := 1000000) (disch := first | exact dS | fail) only [↓bD2, bW2, reduceMul, reduceEqDiff, reduceAdd, Nat.reduceBEq, reduceIte, r1, r2, r3, c2, asx hE2, as_newb, Tryz.results105]
  exact ⟨n, d, _, rfl, Or.inl ⟨rfl, rfl⟩, Ext.upd EA (by omega) _⟩
theorem more_ok {σ : St} {n d m e : Int} (h : RQ n d) (k : RQ m e) : Ev (go Tryz.prog HS (.fn 106) [ratQ n d, ratQ m e] σ) (fun r => ∃ x y σ', r = ⟨false, ratQ x y, σ'⟩ ∧ OneQ n d m e x y ∧ Ext σ σ') ⟨⟩ := by
 refine ev_go Tryz.func106 rfl rfl ?_
 unfold ratQ
 refine gT ?_;try exact ⟨⟩
 refine (cmp_ok h k).mono ?_
 rintro r ⟨σ2, rfl, hE2⟩
 have n2 := hE2.n
 simp only [new_n] at n2
 have r1 : σ2.row σ.n = some [.int .i64 n, .int .i64 d] := by rw [hE2.row (cL)]; exact cL
 have r2 : σ2.row (σ.n + 1) = some [.int .i64 m, .int .i64 e] := by rw [hE2.row (cL)]; exact cL
 have r3 : σ2.orow (σ.n + 1 + 1) = some [.int .i64 0, .int .i64 0] := by rw [hE2.orow (cL)]; exact cL
 have EA : Ext σ σ2 := Ext.trans (eX) hE2
 by_cases c : cmpQ n d m e < 0
 ·have c2 : decide (cmpQ n d m e < 0) = true := decide_eq_true c
  simp (maxSteps := 1000000) (disch := first | exact dS | fail) only [↓bD2, bW2, reduceMul, reduceEqDiff, reduceAdd, Nat.reduceBEq, reduceIte, r1, r2, r3, c2, asx hE2, as_newb, Tryz.results106]
  exact ⟨m, e, _, rfl, Or.inr ⟨rfl, rfl⟩, Ext.upd EA (by omega) _⟩
 ·have c2 : decide (cmpQ n d m e < 0) = false := decide_eq_false c
  simp (maxSteps := 1000000) (disch := first | exact dS | fail) only [↓bD2, bW2, reduceMul, reduceEqDiff, reduceAdd, Nat.reduceBEq, reduceIte, r1, r2, r3, c2, asx hE2, as_newb, Tryz.results106]
  exact ⟨n, d, _, rfl, Or.inl ⟨rfl, rfl⟩, Ext.upd EA (by omega) _⟩
end Go.Proofs.G
namespace Go.Proofs.G
open Go Go.Ab
open Nat (reduceMul reduceEqDiff reduceAdd)
set_option maxRecDepth 100000
def priceS : By := [112,114,105,99,101]
def lowS : By := [108,111,119]
def boundsR (T : Tn) (s : By) : Int × Int × Bool :=
 if s = priceS then (T.low, T.high, true) else if s = lowS then (T.low, T.high, true) else
  match T.crits.find? (fun x => decide (x.name = s)) with
  | some x => (x.low, x.high, true)
  | none => (0, 0, false)
def boundsV (p : Int × Int × Bool) : Value := .tuple ⟨[.int .i64 p.1, .int .i64 p.2.1, .bool p.2.2]⟩
theorem bounds_ok {σ : St} {ca : List Value} {T : Tn} {s : By} (hT : Good σ ca T) : Ev (go Tryz.prog HS (.fn 68) [.agg ⟨ca⟩, str s] σ) (fun r => ∃ σ', r = ⟨false, boundsV (boundsR T s), σ'⟩ ∧ Ext σ σ') ⟨⟩ := by
 refine ev_go Tryz.func68 rfl rfl ?_
 obtain ⟨vl, vc, vr, ex, vt, vk, rfl, h2, h3, h4, h5, h6, h7⟩ := hT.at'
 have hx5 := h5.len
 match ex, hx5 with
 | [x0, x1, x2, x3, x4], _ =>
 obtain ⟨a, c, b, off, cells, rfl, c1, c2⟩ := Crits.use h3
 unfold tnRow
 refine gT ?_;try exact ⟨⟩
 by_cases e1 : s = priceS
 ·subst e1
  simp (maxSteps := 1000000) (disch := first | exact dS | fail) only [↓bD2, bW2, reduceMul, reduceEqDiff, reduceAdd, Nat.reduceBEq, reduceIte, priceS, Tryz.results68]
  exact ⟨_, rfl, Ext.new' (.refl _) _⟩
 have d1 : decide (s = [112,114,105,99,101]) = false := decide_eq_false e1
 by_cases e2 : s = lowS
 ·have d3 : decide (s = [108,111,119]) = true := decide_eq_true e2
  have hb : boundsR T s = (T.low, T.high, true) := by unfold boundsR; rw [if_neg e1, if_pos e2]
  refine gT1 (And.intro @d1 (And.intro @d3 @Tryz.results68)) ?_;try exact ⟨⟩
  exact ⟨_, by rw [hb]; rfl, Ext.new' (.refl _) _⟩
 have d2 : decide (s = [108,111,119]) = false := decide_eq_false e2
 have hb : boundsR T s = (match T.crits.find? (fun x => decide (x.name = s)) with | some x => (x.low, x.high, true) | none => (0, 0, false)) := by
  unfold boundsR; rw [if_neg e1, if_neg e2]
 refine gT1 (And.intro @d1 @d2) ?_;try exact ⟨⟩
 obtain ⟨R, hR⟩ : ∃ R : List Value, R = [str T.name, vl, .slice a T.crits.length c, vr, .int .i64 T.low, .int .i64 T.high, x0, x1, x2, x3, x4, vt, .int .i64 T.most, vk, .int .i64 T.budget, .int .i64 T.t.q, .int .i64 T.t.b, .int .i64 T.t.g, .int .i64 T.t.p, .int .i64 T.t.s] := ⟨_, rfl⟩
 have hs2 : sub R 2 1 = some [.slice a T.crits.length c] := by rw [hR]; rfl
 refine ev_count T.crits.length (fun k fr σ' => fr.get 7 = some (.int .i64 k) ∧ fr.get 2 = some (.pointer (some ⟨σ.n, 0, none⟩)) ∧ fr.get 1 = some (str s) ∧ Ext σ σ' ∧ σ'.row σ.n = some R ∧ ∀ (i : Nat) (x : Crit), i < k → T.crits[i]? = some x → decide (x.name = s) = false)
  (fun r => ∃ z fr σ', r = ⟨z, fr, σ'⟩ ∧ Ext σ σ' ∧ ((z = .exit 0 ∧ T.crits.find? (fun x => decide (x.name = s)) = none) ∨ ∃ x, z = .ret ∧ fr.get 4 = some (.int .i64 x.low) ∧ fr.get 5 = some (.int .i64 x.high) ∧ fr.get 6 = some (.bool true) ∧ T.crits.find? (fun x => decide (x.name = s)) = some x)) ?_ ?_ ?_ ?_
 ·refine ⟨fR, fR, fR, Ext.new' (.refl _) _, by rw [hR]; exact cL, fun i x h => by omega⟩
 ·rintro k fr σ' hk ⟨g7, g2, g1, hE, hr, hm⟩
  have hc := lt_true hk
  have hcl := hT.ok.crits
  obtain ⟨x, hx⟩ := at_some hk
  obtain ⟨sp, rfl, l3, l4⟩ := c1 (by omega)
  have l5 : σ'.row b = some cells := by rw [hE.row l3]; exact l4
  obtain ⟨l7, m1, m2, m3, m4, m5⟩ := c2 k x hx
  refine gT1 (And.intro @g2 (And.intro @g1 (And.intro @g7 (And.intro @hc (And.intro @hr (And.intro @hs2 (And.intro @l5 @m1))))))) ?_;try exact ⟨⟩
  cases hp : decide (x.name = s) with
  | true =>
   refine gT1 (And.intro @g2 (And.intro @g1 (And.intro @g7 (And.intro @hr (And.intro @hs2 (And.intro @l5 (And.intro @m3 @m4))))))) ?_;try exact ⟨⟩
   exact ⟨_, _, _, rfl, hE, .inr ⟨x, rfl, fR, fR, fR, find_at hx hp hm⟩⟩
  | false =>
   refine gT1 (And.intro @g2 (And.intro @g1 @g7)) ?_;try exact ⟨⟩
   refine ⟨fR, fR1 g2, fR1 g1, hE, hr, fun i y hi hy => ?_⟩
   by_cases e : i = k
   ·subst e; rw [hx] at hy; cases hy; exact hp
   ·exact hm i y (by omega) hy
 ·rintro fr σ' ⟨g7, g2, g1, hE, hr, hm⟩
  refine gT1 (And.intro @g2 (And.intro @g7 (And.intro @hr @hs2))) ?_;try exact ⟨⟩
  exact ⟨_, _, _, rfl, hE, .inl ⟨rfl, find_no fun i x hx => hm i x (List.getElem?_eq_some_iff.1 hx).1 hx⟩⟩
 rintro r ⟨z, fr, σ', rfl, hE, ⟨rfl, hq⟩ | ⟨x, rfl, g4, g5, g6, hq⟩⟩
 ·refine gT1 @Tryz.results68 ?_;try exact ⟨⟩
  exact ⟨_, by rw [hb, hq]; rfl, hE⟩
 ·refine gT1 (And.intro @Tryz.results68 (And.intro @g4 (And.intro @g5 @g6))) ?_;try exact ⟨⟩
  exact ⟨_, by rw [hb, hq]; rfl, hE⟩
end Go.Proofs.G
namespace Go.Proofs.G
open Go Go.Ab
open Nat (reduceMul reduceEqDiff reduceAdd)
set_option maxRecDepth 100000
def numO : By := [110,117,109]
def nameO : By := [110,97,109,101]
inductive FOk : Nat → Ex → Prop
 | num {n d : Int} (h : RQ n d) (h0 : 0 ≤ n) (hd : (1000000 : Int) % d = 0) : FOk 1 (.mk numO n d [] [])
 | name {nm : By} (h : nm.length ≤ 30) : FOk 1 (.mk nameO 0 0 nm [])
 | op {o : By} {j k : Nat} {a b : Ex} (h1 : o ≠ numO) (h2 : o ≠ nameO) (hl : o.length ≤ 4) (ha : FOk j a) (hb : FOk k b) : FOk (j + k) (.mk o 0 0 [] [a, b])
theorem ExAt.row5 {σ : St} {row : List Value} : ∀ {e : Ex}, ExAt σ row e → ∃ o n d nm v, row = [str o, .int .i64 n, .int .i64 d, str nm, v] ∧ ∃ l, e = .mk o n d nm l
 | .mk o n d nm l, h => by obtain ⟨v, rows, h, -⟩ := h; exact ⟨o, n, d, nm, v, h, l, rfl⟩
theorem two_args {σ : St} {v : Value} {rows : List (List Value)} {a b : Ex} (hs : SL σ 5 v rows) (hx : ExsAt σ rows [a, b]) : ∃ B off sp c cells r1 r2, v = .slice (some ⟨B, off, sp⟩) 2 c ∧ B < σ.n ∧ σ.row B = some cells ∧
  sub cells off 5 = some r1 ∧ sub cells (off + 5) 5 = some r2 ∧ ExAt σ r1 a ∧ ExAt σ r2 b := by
 obtain ⟨r1, rs1, rfl, hx1, hx⟩ := hx
 obtain ⟨r2, rs2, rfl, hx2, hx⟩ := hx
 obtain rfl : rs2 = [] := hx
 obtain ⟨A, C, B, off, cells, rfl, c1, c2⟩ := SL.use hs
 obtain ⟨sp, rfl, l3, l4⟩ := c1 (by simp)
 exact ⟨B, off, sp, C, cells, r1, r2, rfl, l3, l4, by simpa using c2 0 r1 rfl, by simpa using c2 1 r2 rfl, hx1, hx2⟩
theorem sub_head {cells r : List Value} {o n : Nat} {x : Value} (h : sub cells o (n + 1) = some (x :: r)) : sub cells o 1 = some [x] := by
 have := sub_in (i := 0) (m := 1) h (by omega)
 rw [Nat.add_zero] at this
 rw [this]; rfl
set_option maxHeartbeats 2000000 in
theorem power_ok {T : Tn} {j : Nat} {e : Ex} (hf : FOk j e) : ∀ {σ : St} {ca row : List Value}, j ≤ 1000 → Good σ ca T → ExAt σ row e → Ev (go Tryz.prog HS (.fn 66) [.agg ⟨ca⟩, .agg ⟨row⟩] σ) (fun r => ∃ p c σ', r = ⟨false, .tuple ⟨[.int .i64 p, .int .i64 c]⟩, σ'⟩ ∧ -(j : Int) ≤ p ∧ p ≤ j ∧ Ext σ σ') ⟨⟩ := by
 induction hf with
 | @num n d h h0 hd =>
  intro σ ca row hj hT he
  obtain ⟨v, rows, rfl, -, -, -⟩ := he
  have hca := hT.len
  have hfa : sub ca 0 20 = some ca := sub_full (by omega) (by omega)
  refine ev_go Tryz.func66 rfl rfl ?_
  simp (maxSteps := 1000000) (disch := first | exact dS | fail) only [↓bD2, bW2, reduceMul, reduceEqDiff, reduceAdd, Nat.reduceBEq, reduceIte, hfa, numO, Tryz.results66]
  exact ⟨0, 0, _, rfl, by omega, by omega, eX⟩
 | @name nm h =>
  intro σ ca row hj hT he
  obtain ⟨v, rows, rfl, -, -, -⟩ := he
  have hca := hT.len
  have hfa : sub ca 0 20 = some ca := sub_full (by omega) (by omega)
  have d1 : decide (([110,97,109,101] : By) = [110,117,109]) = false := by decide
  refine ev_go Tryz.func66 rfl rfl ?_
  simp (maxSteps := 1000000) (disch := first | exact dS | fail) only [↓bD2, bW2, reduceMul, reduceEqDiff, reduceAdd, Nat.reduceBEq, reduceIte, hfa, nameO, d1]
  have hE0 : Ext σ ((σ.new ca).new [str [110,97,109,101], .int .i64 0, .int .i64 0, str nm, v]) := ((Ext.refl _).new' _).new' _
  refine (bounds_ok (s := nm) (hT.mono hE0)).mono ?_
  rintro r ⟨σ2, rfl, hE2⟩
  have n2 := hE2.n
  simp only [new_n] at n2
  have r2 : σ2.row (σ.n + 1) = some [str [110,97,109,101], .int .i64 0, .int .i64 0, str nm, v] := by rw [hE2.row (cL)]; exact cL
  have hE : Ext σ σ2 := hE0.trans hE2
  unfold boundsV
  cases hk : (boundsR T nm).2.2 with
  | false =>
   refine gT1 (And.intro @hk @Tryz.results66) ?_;try exact ⟨⟩
   exact ⟨0, _, _, rfl, by omega, by omega, hE⟩
  | true =>
   cases d2 : decide (nm = [112,114,105,99,101]) with
   | true =>
    refine gT1 (And.intro @hk (And.intro @r2 (And.intro @d2 @Tryz.results66))) ?_;try exact ⟨⟩
    exact ⟨1, _, _, rfl, by omega, by omega, hE⟩
   | false =>
    cases d3 : decide (nm = [108,111,119]) with
    | true =>
     refine gT1 (And.intro @hk (And.intro @r2 (And.intro @d2 (And.intro @d3 @Tryz.results66)))) ?_;try exact ⟨⟩
     exact ⟨1, _, _, rfl, by omega, by omega, hE⟩
    | false =>
     refine gT1 (And.intro @hk (And.intro @r2 (And.intro @d2 (And.intro @d3 @Tryz.results66)))) ?_;try exact ⟨⟩
     exact ⟨0, _, _, rfl, by omega, by omega, hE⟩
 | @op o j k a b h1 h2 hl ha hb iha ihb =>
  intro σ ca row hj hT he
  obtain ⟨v, rows, rfl, hsl, -, hex⟩ := he
  obtain ⟨B, off, sp, c, cells, r1, r2, rfl, l3, l4, s1, s2, x1, x2⟩ := two_args hsl hex
  have hca := hT.len
  have hfa : sub ca 0 20 = some ca := sub_full (by omega) (by omega)
  have d1 : decide (o = [110,117,109]) = false := decide_eq_false h1
  have d2 : decide (o = [110,97,109,101]) = false := decide_eq_false h2
  refine ev_go Tryz.func66 rfl rfl ?_
  refine gT1 (And.intro @hfa (And.intro @d1 (And.intro @d2 (And.intro @l4 (And.intro @s1 @Nat.add_zero))))) ?_;try exact ⟨⟩
  have hE0 : Ext σ ((σ.new ca).new [str o, .int .i64 0, .int .i64 0, str [], .slice (some ⟨B, off, sp⟩) 2 c]) := ((Ext.refl _).new' _).new' _
  refine (iha (by omega) (hT.mono hE0) (x1.mono hE0)).mono ?_
  rintro r ⟨p, e, σ2, rfl, p1, p2, hE2⟩
  have n2 := hE2.n
  simp only [new_n] at n2
  have hE : Ext σ σ2 := hE0.trans hE2
  have q1 : σ2.row σ.n = some ca := by rw [hE2.row (cL)]; exact cL
  have q2 : σ2.row (σ.n + 1) = some [str o, .int .i64 0, .int .i64 0, str [], .slice (some ⟨B, off, sp⟩) 2 c] := by rw [hE2.row (cL)]; exact cL
  have q3 : σ2.row B = some cells := by rw [hE.row l3]; exact l4
  by_cases he : e = 0
  case neg =>
   have e1 : decide (e = 0) = false := decide_eq_false he
   simp (maxSteps := 1000000) (disch := first | exact dS | fail) only [↓bD2, bW2, reduceMul, reduceEqDiff, reduceAdd, Nat.reduceBEq, reduceIte, asx hE2, e1, Tryz.results66]
   exact ⟨0, _, _, rfl, by omega, by omega, hE⟩
  subst he
  simp (maxSteps := 1000000) (disch := first | exact dS | fail) only [↓bD2, bW2, reduceMul, reduceEqDiff, reduceAdd, Nat.reduceBEq, reduceIte, asx hE2, q1, hfa, q2, q3, s2, Nat.add_zero]
  refine (ihb (by omega) (hT.mono hE) (x2.mono hE)).mono ?_
  rintro r ⟨q, f, σ3, rfl, p3, p4, hE3⟩
  have n3 := hE3.n
  have hE' : Ext σ σ3 := hE.trans hE3
  have t2 : σ3.row (σ.n + 1) = some [str o, .int .i64 0, .int .i64 0, str [], .slice (some ⟨B, off, sp⟩) 2 c] := by rw [hE3.row (by omega)]; exact q2
  have t3 : σ3.row B = some cells := by rw [hE'.row l3]; exact l4
  by_cases hf : f = 0
  case neg =>
   have e1 : decide (f = 0) = false := decide_eq_false hf
   simp (maxSteps := 1000000) (disch := first | exact dS | fail) only [↓bD2, bW2, reduceMul, reduceEqDiff, reduceAdd, Nat.reduceBEq, reduceIte, asx hE3, e1, Tryz.results66]
   exact ⟨0, _, _, rfl, by omega, by omega, hE'⟩
  subst hf
  obtain ⟨o1, m1, k1, nn1, v1, rfl, -⟩ := x1.row5
  obtain ⟨o2, m2, k2, nn2, v2, rfl, -⟩ := x2.row5
  have u1 := sub_head s1
  have u2 := sub_head s2
  simp (maxSteps := 1000000) (disch := first | exact dS | fail) only [↓bD2, bW2, reduceMul, reduceEqDiff, reduceAdd, Nat.reduceBEq, reduceIte, asx hE3, t2, t3, u1, u2, Nat.add_zero]
  have fin : ∀ (x y : Int), -(((j + k : Nat)) : Int) ≤ x → x ≤ ((j + k : Nat) : Int) → ∃ p c σ', (⟨false, .tuple ⟨[.int .i64 x, .int .i64 y]⟩, σ3⟩ : CR) = ⟨false, .tuple ⟨[.int .i64 p, .int .i64 c]⟩, σ'⟩ ∧ -((j + k : Nat) : Int) ≤ p ∧ p ≤ ((j + k : Nat) : Int) ∧ Ext σ σ' := fun x y a b => ⟨x, y, σ3, rfl, a, b, hE'⟩
  cases g1 : decide (o = [42]) with
  | true =>
   refine gT1 (And.intro @g1 @Tryz.results66) ?_;try exact ⟨⟩
   refine fin _ _ ?_ ?_ <;> omega
  | false =>
  cases g2 : decide (o = [47]) with
  | true =>
   cases g3 : decide (o2 = [110,117,109]) with
   | true =>
    cases g4 : decide (p = 1) with
    | true =>
     refine gT1 (And.intro @g1 (And.intro @g2 (And.intro @g3 (And.intro @g4 @Tryz.results66)))) ?_;try exact ⟨⟩
     refine fin _ _ ?_ ?_ <;> omega
    | false =>
     refine gT1 (And.intro @g1 (And.intro @g2 (And.intro @g3 (And.intro @g4 @Tryz.results66)))) ?_;try exact ⟨⟩
     refine fin _ _ ?_ ?_ <;> omega
   | false =>
    refine gT1 (And.intro @g1 (And.intro @g2 (And.intro @g3 @Tryz.results66))) ?_;try exact ⟨⟩
    refine fin _ _ ?_ ?_ <;> omega
  | false =>
  cases g3 : decide (o1 = [110,117,109]) with
  | true =>
   cases g4 : decide (o2 = [110,117,109]) with
   | true =>
    refine gT1 (And.intro @g1 (And.intro @g2 (And.intro @g3 (And.intro @g4 @Tryz.results66)))) ?_;try exact ⟨⟩
    refine fin _ _ ?_ ?_ <;> omega
   | false =>
    refine gT1 (And.intro @g1 (And.intro @g2 (And.intro @g3 (And.intro @g4 @Tryz.results66)))) ?_;try exact ⟨⟩
    refine fin _ _ ?_ ?_ <;> omega
  | false =>
   cases g4 : decide (o2 = [110,117,109]) with
   | true =>
    refine gT1 (And.intro @g1 (And.intro @g2 (And.intro @g3 (And.intro @g4 @Tryz.results66)))) ?_;try exact ⟨⟩
    refine fin _ _ ?_ ?_ <;> omega
   | false =>
    cases g5 : decide (p = q) with
    | true =>
     refine gT1 (And.intro @g1 (And.intro @g2 (And.intro @g3 (And.intro @g4 (And.intro @g5 @Tryz.results66))))) ?_;try exact ⟨⟩
     refine fin _ _ ?_ ?_ <;> omega
    | false =>
     refine gT1 (And.intro @g1 (And.intro @g2 (And.intro @g3 (And.intro @g4 (And.intro @g5 @Tryz.results66))))) ?_;try exact ⟨⟩
     refine fin _ _ ?_ ?_ <;> omega
end Go.Proofs.G
namespace Go.Proofs.G
open Go Go.Ab
set_option maxRecDepth 100000
theorem q_bound {n d N D : Int} (hd : d ≠ 0) (h1 : -N ≤ n) (h2 : n ≤ N) (h3 : -D ≤ d) (h4 : d ≤ D) : -N ≤ qn n d ∧ qn n d ≤ N ∧ 1 ≤ qd n d ∧ qd n d ≤ D := by
 have hlow := (q_low (n := n) hd).2
 obtain ⟨n', hN⟩ : ∃ N, (if d < 0 then -n else n) = N := ⟨_, rfl⟩
 obtain ⟨d', hD⟩ : ∃ D, (if d < 0 then -d else d) = D := ⟨_, rfl⟩
 have hg : Int.gcd n d = Int.gcd n' d' := by rw [← hN, ← hD]; split <;> simp [Int.gcd]
 have b1 : -N ≤ n' ∧ n' ≤ N := by rw [← hN]; split <;> omega
 have b2 : 0 < d' ∧ d' ≤ D := by rw [← hD]; split <;> omega
 unfold qd at hlow
 unfold qn qd
 rw [hD, hg] at hlow
 rw [hN, hD, hg]
 have hg0 : 0 < Int.gcd n' d' := Int.gcd_pos_of_ne_zero_right _ (by omega)
 obtain ⟨k, hk⟩ : ((Int.gcd n' d' : Nat) : Int) ∣ n' := Int.gcd_dvd_left _ _
 obtain ⟨m, hm⟩ : ((Int.gcd n' d' : Nat) : Int) ∣ d' := Int.gcd_dvd_right _ _
 obtain ⟨g, hgg⟩ : ∃ g, Int.gcd n' d' = g := ⟨_, rfl⟩
 rw [hgg] at hk hm hg0 hlow ⊢
 have hgi : (1 : Int) ≤ (g : Int) := by omega
 have e1 : n' / (g : Int) = k := by rw [hk, Int.mul_ediv_cancel_left _ (by omega)]
 have e2 : d' / (g : Int) = m := by rw [hm, Int.mul_ediv_cancel_left _ (by omega)]
 rw [e2] at hlow
 rw [e1, e2]
 have key : ∀ x : Int, 0 ≤ x → x ≤ g * x := fun x hx => by
  have := Int.mul_le_mul_of_nonneg_right hgi hx
  rw [Int.one_mul] at this; exact this
 refine ⟨?_, ?_, hlow, ?_⟩
 ·rcases Int.le_total 0 k with h | h
  ·have := key k h; omega
  ·have := key (-k) (by omega)
   rw [Int.mul_neg] at this; omega
 ·rcases Int.le_total 0 k with h | h
  ·have := key k h; omega
  ·have := key (-k) (by omega)
   rw [Int.mul_neg] at this; omega
 ·have := key m (by omega); omega
abbrev RatP := Int → Int → Prop
def Bd (N D : Int) : RatP := fun n d => RQ n d ∧ -N ≤ n ∧ n ≤ N ∧ d ≤ D
theorem rq_q {n d N D : Int} (hd : d ≠ 0) (h1 : -N ≤ n) (h2 : n ≤ N) (h3 : -D ≤ d) (h4 : d ≤ D) (hN : N < 1000000000) (hD : D < 1000000000) : Bd N D (qn n d) (qd n d) := by
 obtain ⟨a, b, c, e⟩ := q_bound hd h1 h2 h3 h4
 exact ⟨⟨by omega, by omega, c, by omega, (q_low hd).1⟩, a, b, e⟩
def addO : By := [43]
def subO : By := [45]
def mulO : By := [42]
def quoO : By := [47]
def minO : By := [109,105,110]
def maxO : By := [109,97,120]
def OpP (o : By) (A B P : RatP) : Prop :=
 if o = addO then ∀ n d m e, A n d → B m e → P (qn (n * e + m * d) (d * e)) (qd (n * e + m * d) (d * e))
 else if o = subO then ∀ n d m e, A n d → B m e → P (qn (n * e - m * d) (d * e)) (qd (n * e - m * d) (d * e))
 else if o = mulO then ∀ n d m e, A n d → B m e → P (qn (n * m) (d * e)) (qd (n * m) (d * e))
 else if o = quoO then ∀ n d m e, A n d → B m e → m ≠ 0 ∧ P (qn (n * e) (d * m)) (qd (n * e) (d * m))
 else (∀ n d, A n d → P n d) ∧ ∀ n d, B n d → P n d
inductive Iv (T : Tn) : Ex → RatP → Prop
 | num {n d : Int} {nm : By} {l : List Ex} {P : RatP} (h : P n d) : Iv T (.mk numO n d nm l) P
 | name {n d : Int} {nm : By} {l : List Ex} {P : RatP} (h : (boundsR T nm).2.2 = true → P (boundsR T nm).1 1 ∧ P (boundsR T nm).2.1 1) : Iv T (.mk nameO n d nm l) P
 | op {o nm : By} {n d : Int} {a b : Ex} {A B P : RatP} (h1 : o ≠ numO) (h2 : o ≠ nameO) (ha : Iv T a A) (hb : Iv T b B) (hA : ∀ n d, A n d → RQ n d) (hB : ∀ n d, B n d → RQ n d) (hP : OpP o A B P) : Iv T (.mk o n d nm [a, b]) P
end Go.Proofs.G
namespace Go.Proofs.G
open Go Go.Ab
open Nat (reduceMul reduceEqDiff reduceAdd)
set_option maxRecDepth 100000
theorem OneQ.pick {P : RatP} {n d m e x y : Int} (h : OneQ n d m e x y) (a : P n d) (b : P m e) : P x y := by
 rcases h with ⟨rfl, rfl⟩ | ⟨rfl, rfl⟩
 ·exact a
 ·exact b
def rats (qs : List (Int × Int)) : List (List Value) := qs.map fun q => [.int .i64 q.1, .int .i64 q.2]
set_option maxHeartbeats 2000000 in
theorem ends_ok {σ : St} {v w : Value} {qs : List (Int × Int)} {P : RatP} (hP : ∀ n d, P n d → RQ n d) (hs : SL σ 2 v (rats qs)) (hb : SL σ 1 w (qs.map fun _ => [.bool true])) (h0 : 0 < qs.length) (hl : qs.length ≤ 4) (hq : ∀ q ∈ qs, P q.1 q.2) :
  Ev (go Tryz.prog HS (.fn 100) [v, w] σ) (fun r => ∃ n d m e σ', r = ⟨false, .tuple ⟨[ratQ n d, ratQ m e, .int .i64 0]⟩, σ'⟩ ∧ P n d ∧ P m e ∧ Ext σ σ') ⟨⟩ := by
 obtain ⟨a1, c1, b1, o1, cs1, rfl, e1, f1⟩ := SL.use' hs
 obtain ⟨a2, c2, b2, o2, cs2, rfl, e2, f2⟩ := SL.use' hb
 obtain ⟨s1, rfl, l1, r1⟩ := e1 h0
 obtain ⟨s2, rfl, l2, r2⟩ := e2 h0
 obtain ⟨q0, hq0⟩ := at_some h0
 have g0 : sub cs1 o1 2 = some [.int .i64 q0.1, .int .i64 q0.2] := by simpa using f1 0 q0 hq0
 have p0 := hq q0 (List.mem_of_getElem? hq0)
 refine ev_go Tryz.func100 rfl rfl ?_
 refine gT1 (And.intro @r1 (And.intro @g0 (And.intro @Nat.zero_mul @Nat.add_zero))) ?_;try exact ⟨⟩
 obtain ⟨S0, hS0⟩ : ∃ S0, ((((((σ.new [.int .i64 0, .int .i64 0]).new [.int .i64 0, .int .i64 0]).new [.int .i64 0, .int .i64 0]).upd (σ.n + 1 + 1) [.int .i64 q0.1, .int .i64 q0.2]).new [.int .i64 0, .int .i64 0]).upd (σ.n + 1 + 1 + 1) [.int .i64 q0.1, .int .i64 q0.2]) = S0 := ⟨_, rfl⟩
 have E0 : Ext σ S0 := by rw [← hS0]; exact eX
 have n0 : S0.n = σ.n + 4 := by rw [← hS0]; rfl
 have x0 : S0.orow σ.n = some [.int .i64 0, .int .i64 0] := by rw [← hS0]; exact cL
 have x1 : S0.orow (σ.n + 1) = some [.int .i64 0, .int .i64 0] := by rw [← hS0]; exact cL
 have x2 : S0.orow (σ.n + 1 + 1) = some [.int .i64 q0.1, .int .i64 q0.2] := by rw [← hS0]; exact cL
 have x3 : S0.orow (σ.n + 1 + 1 + 1) = some [.int .i64 q0.1, .int .i64 q0.2] := by rw [← hS0]; exact cL
 rw [hS0]
 refine ev_count qs.length (fun k fr σ' => fr.get 9 = some (.int .i64 k) ∧ fr.get 0 = some (.slice (some ⟨b1, o1, s1⟩) qs.length c1) ∧ fr.get 1 = some (.slice (some ⟨b2, o2, s2⟩) qs.length c2) ∧
   fr.get 4 = some (.pointer (some ⟨σ.n, 0, none⟩)) ∧ fr.get 5 = some (.pointer (some ⟨σ.n + 1, 0, none⟩)) ∧ fr.get 7 = some (.pointer (some ⟨σ.n + 1 + 1, 0, none⟩)) ∧ fr.get 8 = some (.pointer (some ⟨σ.n + 1 + 1 + 1, 0, none⟩)) ∧ Ext σ σ' ∧ σ.n + 4 ≤ σ'.n ∧
   σ'.orow σ.n = some [.int .i64 0, .int .i64 0] ∧ σ'.orow (σ.n + 1) = some [.int .i64 0, .int .i64 0] ∧ ∃ n d m e, P n d ∧ P m e ∧ σ'.orow (σ.n + 1 + 1) = some [.int .i64 n, .int .i64 d] ∧ σ'.orow (σ.n + 1 + 1 + 1) = some [.int .i64 m, .int .i64 e])
  (fun r => ∃ fr σ', r = ⟨.exit 0, fr, σ'⟩ ∧ fr.get 4 = some (.pointer (some ⟨σ.n, 0, none⟩)) ∧ fr.get 5 = some (.pointer (some ⟨σ.n + 1, 0, none⟩)) ∧ fr.get 7 = some (.pointer (some ⟨σ.n + 1 + 1, 0, none⟩)) ∧ fr.get 8 = some (.pointer (some ⟨σ.n + 1 + 1 + 1, 0, none⟩)) ∧ Ext σ σ' ∧ σ.n + 4 ≤ σ'.n ∧
   σ'.orow σ.n = some [.int .i64 0, .int .i64 0] ∧ σ'.orow (σ.n + 1) = some [.int .i64 0, .int .i64 0] ∧ ∃ n d m e, P n d ∧ P m e ∧ σ'.orow (σ.n + 1 + 1) = some [.int .i64 n, .int .i64 d] ∧ σ'.orow (σ.n + 1 + 1 + 1) = some [.int .i64 m, .int .i64 e]) ?_ ?_ ?_ ?_
 ·refine ⟨?_, ?_, ?_, ?_, ?_, ?_, ?_, E0, by omega, x0, x1, _, _, _, _, p0, p0, x2, x3⟩ <;> exact fR
 ·rintro k fr σ' hk ⟨g9, g0', g1, g4, g5, g7, g8, hE, hn, y0, y1, n, d, m, e, pn, pm, y2, y3⟩
  have hc := lt_true hk
  obtain ⟨q, hqk⟩ := at_some hk
  have pq := hq q (List.mem_of_getElem? hqk)
  have h1 := f1 k q hqk
  have h2 := f2 k q hqk
  rw [Nat.mul_one] at h2
  have z1 : σ'.row b1 = some cs1 := by rw [hE.row l1]; exact r1
  have z2 : σ'.row b2 = some cs2 := by rw [hE.row l2]; exact r2
  have w2 := row_of y2
  have w3 := row_of y3
  refine gT1 (And.intro @g9 (And.intro @g0' (And.intro @g1 (And.intro @g7 (And.intro @hc (And.intro @z1 (And.intro @z2 (And.intro @h1 (And.intro @h2 @w2))))))))) ?_;try exact ⟨⟩
  refine (less_ok (hP _ _ pn) (hP _ _ pq)).mono ?_
  rintro r ⟨x, y, σ2, rfl, one1, hE2⟩
  have n2 := hE2.n
  have z3 : σ2.row b1 = some cs1 := by rw [hE2.row (by omega)]; exact z1
  have y2' : σ2.orow (σ.n + 1 + 1) = some [.int .i64 n, .int .i64 d] := by rw [hE2.orow (by omega)]; exact y2
  have y3' : σ2.row (σ.n + 1 + 1 + 1) = some [.int .i64 m, .int .i64 e] := by rw [hE2.row (by omega)]; exact w3
  unfold ratQ
  simp (maxSteps := 1000000) (disch := first | exact dS | fail) only [↓bD2, bW2, reduceMul, reduceEqDiff, reduceAdd, Nat.reduceBEq, reduceIte, g9, g0', g1, g7, g8, z3, h1, y2', y3', asx hE2, as_upd]
  refine Must.intro (by (repeat first | simp (disch := omega) only [as_read, as_upd, asx hE2] | rw [as_ord (by kernel_rfl)]); rfl) ?_
  have y3'' : (σ2.upd (σ.n + 1 + 1) [.int .i64 x, .int .i64 y]).orow (σ.n + 1 + 1 + 1) = some [.int .i64 m, .int .i64 e] := by rw [orow_upd_ne (by omega), hE2.orow (by omega)]; exact y3
  simp (maxSteps := 1000000) (disch := first | exact dS | fail) only [↓bD2, bW2, reduceMul, reduceEqDiff, reduceAdd, Nat.reduceBEq, reduceIte, g9, g0', g1, g7, g8, z3, h1, y2', row_of y3'']
  refine (more_ok (hP _ _ pm) (hP _ _ pq)).mono ?_
  rintro r ⟨x', y', σ4, rfl, one2, hE4⟩
  have n4 := hE4.n
  simp only [upd_n] at n4
  have y4 : σ4.orow (σ.n + 1 + 1 + 1) = some [.int .i64 m, .int .i64 e] := by rw [hE4.orow (cL)]; exact y3''
  have y5 : σ4.orow (σ.n + 1 + 1) = some [.int .i64 x, .int .i64 y] := by rw [hE4.orow (cL)]; exact cL
  have y6 : σ4.orow σ.n = some [.int .i64 0, .int .i64 0] := by rw [hE4.orow (cL), orow_upd_ne (by omega), hE2.orow (by omega)]; exact y0
  have y7 : σ4.orow (σ.n + 1) = some [.int .i64 0, .int .i64 0] := by rw [hE4.orow (cL), orow_upd_ne (by omega), hE2.orow (by omega)]; exact y1
  have E4 : Ext σ σ4 := Ext.trans (Ext.upd (hE.trans hE2) (by omega) _) hE4
  unfold ratQ
  simp (maxSteps := 1000000) (disch := first | exact dS | fail) only [↓bD2, bW2, reduceMul, reduceEqDiff, reduceAdd, Nat.reduceBEq, reduceIte, g9, g0', g1, g4, g5, g7, g8, y4, asx hE4, as_upd]
  refine Must.intro (by (repeat first | simp (disch := omega) only [as_read, as_upd, asx hE4] | rw [as_ord (by kernel_rfl)]); rfl) ?_
  refine gT1 (And.intro @g9 (And.intro @g0' (And.intro @g1 (And.intro @g4 (And.intro @g5 (And.intro @g7 @g8)))))) ?_;try exact ⟨⟩
  refine ⟨?_, ?_, ?_, ?_, ?_, ?_, ?_, Ext.upd E4 (by omega) _, ?_, ?_, ?_, x, y, x', y', one1.pick pn pq, one2.pick pm pq, ?_, ?_⟩ <;> exact fR1 (And.intro g0' (And.intro g1 (And.intro g4 (And.intro g5 (And.intro g7 (And.intro g8 (And.intro y5 (And.intro y6 y7))))))))
 ·rintro fr σ' ⟨g9, g0', g1, g4, g5, g7, g8, hE, hn, y0, y1, n, d, m, e, pn, pm, y2, y3⟩
  refine gT1 (And.intro @g9 @g0') ?_;try exact ⟨⟩
  exact ⟨_, _, rfl, fR1 g4, fR1 g5, fR1 g7, fR1 g8, hE, hn, y0, y1, n, d, m, e, pn, pm, y2, y3⟩
 rintro r ⟨fr, σ', rfl, g4, g5, g7, g8, hE, hn, y0, y1, n, d, m, e, pn, pm, y2, y3⟩
 have w2 := row_of y2
 have w3 := row_of y3
 refine gT1 (And.intro @g4 (And.intro @g5 (And.intro @g7 (And.intro @g8 (And.intro @w2 (And.intro @w3 (And.intro @y0 (And.intro @y1 (And.intro @as_upd @Tryz.results100))))))))) ?_;try exact ⟨⟩
 exact ⟨n, d, m, e, _, rfl, pn, pm, eX⟩
theorem rof_ok {σ : St} {n : Int} : Ev (go Tryz.prog HS (.fn 98) [.int .i64 n] σ) (fun r => ∃ σ', r = ⟨false, ratQ n 1, σ'⟩ ∧ Ext σ σ') ⟨⟩ := by
 refine ev_go Tryz.func98 rfl rfl ?_
 refine gT1 @Tryz.results98 ?_;try exact ⟨⟩
 exact ⟨_, rfl, eX⟩
theorem sl_of {σ : St} {b size c : Nat} {sp : Option Nat} {rows : List (List Value)} {cells : List Value} {n : Nat} (hr : ∀ r ∈ rows, r.length = size) (hb : b < σ.n) (hc : σ.row b = some cells) (hf : cells = rows.flatten) (hn : n = rows.length) : SL σ size (.slice (some ⟨b, 0, sp⟩) n c) rows := by
 subst hf; subst hn
 refine .inr ⟨b, 0, sp, c, _, rfl, hb, hc, fun k r hk => ?_⟩
 have := sub_rows hr hk (o := 0) (n := size) (by omega)
 have hl : r.length = size := hr r (List.mem_of_getElem? hk)
 rw [Nat.add_zero] at this
 rw [Nat.zero_add, this]
 exact sub_full (by omega) (by omega)
end Go.Proofs.G
