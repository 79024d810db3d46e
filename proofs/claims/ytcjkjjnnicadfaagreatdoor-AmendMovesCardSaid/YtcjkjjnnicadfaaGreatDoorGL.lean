/- A part of the proof: a walk of some functions. -/
import Derived.Test.YtcjkjjnnicadfaaGreatDoorGK
import Derived.Test.YtcjkjjnnicadfaaGreatDoorGB
import Derived.Test.YtcjkjjnnicadfaaGreatDoorGF
set_option linter.unusedSimpArgs false
set_option linter.unusedVariables false
namespace Go.Proofs.G
open Go Go.Ab
open Nat (reduceMul reduceEqDiff reduceAdd)
set_option maxRecDepth 100000
set_option maxHeartbeats 16000000 in
theorem right02_ok {σ : St} {ca : List Value} {T : Tn} {jf : Nat} (hT : Good σ ca T) (hS : T.Sm) (hf : FOk jf T.f) (hj : jf ≤ 1000) : Ev (go Tryz.prog HS (.fn 65) [.agg ⟨ca⟩] σ) (fun r => ∃ s b σ', r = ⟨false, .tuple ⟨[str s, .bool b]⟩, σ'⟩ ∧ Ext σ σ') ⟨⟩ := by
 obtain ⟨vl, vc, vr, ex, vt, vk, hp, -, -, -, h5, -⟩ := hT.parts
 have hfa := hp.all
 have s0 := hp.p0
 have s4 := hp.p4
 have s5 := hp.p5
 have s6 := hp.p6
 have s8 := hp.p12
 have s10 := hp.p14
 have s15 := hp.p15
 refine ev_go Tryz.func65 rfl rfl ?_
 refine gT1 (And.intro @hfa @s0) ?_;try exact ⟨⟩
 have E0 : Ext σ (σ.new ca) := eX
 refine isname_ok.mono ?_
 rintro r rfl
 refine gT1 @s6 ?_;try exact ⟨⟩
 refine (rightformula_ok hj hf (h5.mono E0)).mono ?_
 rintro r ⟨b2, σ2, rfl, hE2⟩
 have n2 := hE2.n
 simp only [new_n] at n2
 have w2 : σ2.row σ.n = some ca := by rw [hE2.row (cL)]; exact cL
 have E2 := E0.trans hE2
 refine gT1 (And.intro @w2 @hfa) ?_;try exact ⟨⟩
 refine (listed_ok (hT.mono E2)).mono ?_
 rintro r ⟨b3, σ3, rfl, hE3⟩
 have n3 := hE3.n
 have w3 : σ3.row σ.n = some ca := by rw [hE3.row (by omega)]; exact w2
 have E3 := E2.trans hE3
 refine gT1 (And.intro @w3 (And.intro @s15 @s4)) ?_;try exact ⟨⟩
 obtain ⟨S, hS'⟩ : ∃ S, ((σ3.new [.int .i64 0, .int .i64 0, .int .i64 0, .int .i64 0, .int .i64 0]).upd σ3.n [.int .i64 T.t.q, .int .i64 T.t.b, .int .i64 T.t.g, .int .i64 T.t.p, .int .i64 T.t.s]) = S := ⟨_, rfl⟩
 rw [hS']
 have E1 : Ext σ3 S := by rw [← hS']; exact eX
 have nS : S.n = σ3.n + 1 := by rw [← hS']; rfl
 have wS : S.row σ3.n = some [.int .i64 T.t.q, .int .i64 T.t.b, .int .i64 T.t.g, .int .i64 T.t.p, .int .i64 T.t.s] := by rw [← hS']; exact cL
 have w1 : S.row σ.n = some ca := by rw [E1.row (by omega)]; exact w3
 have EF := E3.trans E1
 refine small2_ok.mono ?_
 rintro r ⟨c0, rfl⟩
 refine gT ?_;try exact ⟨⟩
 refine br_cut (fun r => ∃ fr', r = ⟨.normal, fr', S⟩ ∧ fr'.get 1 = some (.pointer (some ⟨σ.n, 0, none⟩)) ∧ fr'.get 4 = some (.bool (nameB T.name)) ∧ fr'.get 5 = some (.bool b2) ∧ fr'.get 6 = some (.bool b3) ∧ ∃ b, fr'.get 8 = some (.bool b)) ?_ ?_
 ·cases c0 with
  | false =>
   refine gT1 (And.intro @yu_t @yu_f) ?_;try exact ⟨⟩
   exact ⟨_, rfl, fR, fR, fR, fR, _, fR⟩
  | true =>
  refine gT1 (And.intro @w1 (And.intro @s5 (And.intro @yu_t @yu_f))) ?_;try exact ⟨⟩
  refine small2_ok.mono ?_
  rintro r ⟨c1, rfl⟩
  cases c1 with
  | false =>
   refine gT1 (And.intro @yu_t @yu_f) ?_;try exact ⟨⟩
   exact ⟨_, rfl, fR, fR, fR, fR, _, fR⟩
  | true =>
  refine gT1 (And.intro @w1 (And.intro @s8 (And.intro @yu_t @yu_f))) ?_;try exact ⟨⟩
  refine small2_ok.mono ?_
  rintro r ⟨c2, rfl⟩
  cases c2 with
  | false =>
   refine gT1 (And.intro @yu_t @yu_f) ?_;try exact ⟨⟩
   exact ⟨_, rfl, fR, fR, fR, fR, _, fR⟩
  | true =>
  refine gT1 (And.intro @w1 (And.intro @s10 (And.intro @yu_t @yu_f))) ?_;try exact ⟨⟩
  refine small2_ok.mono ?_
  rintro r ⟨c3, rfl⟩
  cases c3 with
  | false =>
   refine gT1 (And.intro @yu_t @yu_f) ?_;try exact ⟨⟩
   exact ⟨_, rfl, fR, fR, fR, fR, _, fR⟩
  | true =>
  refine gT1 (And.intro @wS (And.intro @yu_t @yu_f)) ?_;try exact ⟨⟩
  refine small2_ok.mono ?_
  rintro r ⟨c4, rfl⟩
  cases c4 with
  | false =>
   refine gT1 (And.intro @yu_t @yu_f) ?_;try exact ⟨⟩
   exact ⟨_, rfl, fR, fR, fR, fR, _, fR⟩
  | true =>
  refine gT1 (And.intro @wS (And.intro @yu_t @yu_f)) ?_;try exact ⟨⟩
  refine small2_ok.mono ?_
  rintro r ⟨c5, rfl⟩
  cases c5 with
  | false =>
   refine gT1 (And.intro @yu_t @yu_f) ?_;try exact ⟨⟩
   exact ⟨_, rfl, fR, fR, fR, fR, _, fR⟩
  | true =>
  refine gT1 (And.intro @wS (And.intro @yu_t @yu_f)) ?_;try exact ⟨⟩
  refine small2_ok.mono ?_
  rintro r ⟨c6, rfl⟩
  cases c6 with
  | false =>
   refine gT1 (And.intro @yu_t @yu_f) ?_;try exact ⟨⟩
   exact ⟨_, rfl, fR, fR, fR, fR, _, fR⟩
  | true =>
  refine gT1 (And.intro @wS (And.intro @yu_t @yu_f)) ?_;try exact ⟨⟩
  refine small2_ok.mono ?_
  rintro r ⟨c7, rfl⟩
  cases c7 with
  | false =>
   refine gT1 (And.intro @yu_t @yu_f) ?_;try exact ⟨⟩
   exact ⟨_, rfl, fR, fR, fR, fR, _, fR⟩
  | true =>
  refine gT1 (And.intro @wS (And.intro @yu_t @yu_f)) ?_;try exact ⟨⟩
  refine small2_ok.mono ?_
  rintro r ⟨c8, rfl⟩
  refine gT1 (And.intro @yu_t @yu_f) ?_;try exact ⟨⟩
  exact ⟨_, rfl, fR, fR, fR, fR, _, fR⟩
 rintro r ⟨fr, rfl, g1, g4, g5, g6, b8, g8⟩
 cases q1 : nameB T.name with
 | false =>
  refine gT1 (And.intro @g4 (And.intro @q1 (And.intro @yu_t (And.intro @yu_f @Tryz.results65)))) ?_;try exact ⟨⟩
  exact ⟨_, _, _, rfl, EF⟩
 | true =>
 cases b2 with
 | false =>
  refine gT1 (And.intro @g4 (And.intro @g5 (And.intro @q1 (And.intro @yu_t (And.intro @yu_f @Tryz.results65))))) ?_;try exact ⟨⟩
  exact ⟨_, _, _, rfl, EF⟩
 | true =>
 cases b3 with
 | false =>
  refine gT1 (And.intro @g4 (And.intro @g5 (And.intro @g6 (And.intro @q1 (And.intro @yu_t (And.intro @yu_f @Tryz.results65)))))) ?_;try exact ⟨⟩
  exact ⟨_, _, _, rfl, EF⟩
 | true =>
 cases b8 with
 | false =>
  refine gT1 (And.intro @g4 (And.intro @g5 (And.intro @g6 (And.intro @g8 (And.intro @q1 (And.intro @yu_t (And.intro @yu_f @Tryz.results65))))))) ?_;try exact ⟨⟩
  exact ⟨_, _, _, rfl, EF⟩
 | true =>
 refine gT1 (And.intro @g1 (And.intro @g4 (And.intro @g5 (And.intro @g6 (And.intro @g8 (And.intro @q1 (And.intro @w1 (And.intro @hfa (And.intro @yu_t @yu_f))))))))) ?_;try exact ⟨⟩
 refine (printed_ok (hT.mono EF) hS hf hj).mono ?_
 rintro r ⟨s, σ4, rfl, hs, hE4⟩
 refine gT1 @Tryz.results65 ?_;try exact ⟨⟩
 exact ⟨_, _, _, rfl, EF.trans hE4⟩
set_option maxHeartbeats 16000000 in
theorem check_ok {σ : St} {ca : List Value} {T : Tn} {jf : Nat} {P : RatP} (hT : Good σ ca T) (hS : T.Sm) (hf : FOk jf T.f) (hj : jf ≤ 1000) (hiv : Iv T T.f P) (hP : ∀ n d, P n d → RQ n d) : Ev (go Tryz.prog HS (.fn 38) [.agg ⟨ca⟩] σ) (fun r => ∃ s c σ', r = ⟨false, .tuple ⟨[str s, .int .i64 c]⟩, σ'⟩ ∧ Ext σ σ') ⟨⟩ := by
 obtain ⟨vl, vc, vr, ex, vt, vk, hp, h2, h3, h4, h5, h6, vs, h7, h8⟩ := hT.parts
 obtain ⟨la, lc, lb, lo, lcs, rfl, l1, l2⟩ := h2.use
 obtain ⟨ca', cc, cb, co, ccs, rfl, c1, c2⟩ := h3.use
 obtain ⟨ra, rc, rb, ro, rcs, rfl, r1, r2⟩ := h4.use
 obtain ⟨ta, tc, tb, to', tcs, rfl, t1, t2⟩ := h6.use
 obtain ⟨ka, kc, kb, ko, kcs, rfl, k1, k2⟩ := SL.use' h7
 have hfa := hp.all
 have L1 := hT.ok.lots
 have L2 := hT.ok.crits
 have L3 := hT.ok.reqs
 have L4 := hT.ok.ties
 have L5 := hT.ok.combos
 have L6 := h8.len
 have s1 := hp.p1
 have s2 := hp.p2
 have s3 := hp.p3
 have s4 := hp.p4
 have s5 := hp.p5
 have s6 := hp.p6
 have s7 := hp.p11
 have s9 := hp.p13
 have s15 := hp.q15
 have s16 := hp.q16
 have s17 := hp.q17
 have s18 := hp.q18
 refine ev_go Tryz.func38 rfl rfl ?_
 refine gT1 @hfa ?_;try exact ⟨⟩
 have E0 : Ext σ (σ.new ca) := eX
 refine (right02_ok (hT.mono E0) hS hf hj).mono ?_
 rintro r ⟨s, b, σ1, rfl, hE1⟩
 cases b with
 | false =>
  refine gT1 @Tryz.results38 ?_;try exact ⟨⟩
  exact ⟨_, _, _, rfl, E0.trans hE1⟩
 | true =>
 refine gT ?_;try exact ⟨⟩
 refine ev_count T.crits.length (fun k fr σ' => fr.get 6 = some (.int .i64 k) ∧ fr.get 1 = some (.pointer (some ⟨σ.n, 0, none⟩)) ∧ Ext (σ.new ca) σ') (fun r => ∃ fr σ', Ext (σ.new ca) σ' ∧ ((r = ⟨.exit 0, fr, σ'⟩ ∧ fr.get 1 = some (.pointer (some ⟨σ.n, 0, none⟩))) ∨ (r = ⟨.ret, fr, σ'⟩ ∧ ∃ s c, fr.get 2 = some (str s) ∧ fr.get 3 = some (.int .i64 c)))) ?_ ?_ ?_ ?_
 ·exact ⟨fR, fR, hE1⟩
 ·skip
  rintro k fr σ' hk ⟨g4, g1, hE⟩
  have hc := lt_true hk
  have w1 : σ'.row σ.n = some ca := by rw [hE.row (by simp)]; exact cL
  have hEn := hE.n
  simp only [new_n] at hEn
  have hE0 : Ext σ σ' := E0.trans hE
  obtain ⟨x, hx⟩ := at_some hk
  obtain ⟨sp, rfl, l3, l4⟩ := c1 (by omega)
  have w2 : σ'.row cb = some ccs := by rw [hE0.row l3]; exact l4
  obtain ⟨m0, m1, m2, m3, m4, m5⟩ := c2 k x hx
  refine gT1 (And.intro @g4 (And.intro @g1 (And.intro @hc (And.intro @w1 (And.intro @s2 (And.intro @w2 (And.intro @m3 @m4))))))) ?_;try exact ⟨⟩
  cases q : decide (x.high < x.low) with
  | true =>
   refine gT1 (And.intro @g4 (And.intro @g1 (And.intro @w1 (And.intro @s2 (And.intro @w2 @m1))))) ?_;try exact ⟨⟩
   exact ⟨_, _, hE, .inr ⟨rfl, _, _, fR, fR⟩⟩
  | false =>
   refine gT1 @g4 ?_;try exact ⟨⟩
   exact ⟨fR, fR1 g1, hE⟩
 ·rintro fr σ' ⟨g4, g1, hE⟩
  have w1 : σ'.row σ.n = some ca := by rw [hE.row (by simp)]; exact cL
  refine gT1 (And.intro @g4 (And.intro @g1 (And.intro @w1 @s2))) ?_;try exact ⟨⟩
  exact ⟨_, _, hE, .inl ⟨rfl, fR1 g1⟩⟩
 rintro r ⟨fr, σ', hE, ⟨rfl, g1⟩ | ⟨rfl, s', c', g2, g3⟩⟩
 case inr =>
  refine gT1 (And.intro @g2 (And.intro @g3 @Tryz.results38)) ?_;try exact ⟨⟩
  exact ⟨_, _, _, rfl, E0.trans hE⟩
 have w1 : σ'.row σ.n = some ca := by rw [hE.row (by simp)]; exact cL
 have hEn := hE.n
 simp only [new_n] at hEn
 have hE0 : Ext σ σ' := E0.trans hE
 refine gT1 (And.intro @g1 (And.intro @w1 (And.intro @s4 @s5))) ?_;try exact ⟨⟩
 cases q0 : decide (T.high < T.low) with
 | true =>
  refine gT1 @Tryz.results38 ?_;try exact ⟨⟩
  exact ⟨_, _, _, rfl, hE0⟩
 | false =>
 refine gT ?_;try exact ⟨⟩
 clear w1 hEn hE0
 refine ev_count T.lots.length (fun k fr σ' => fr.get 7 = some (.int .i64 k) ∧ fr.get 1 = some (.pointer (some ⟨σ.n, 0, none⟩)) ∧ Ext (σ.new ca) σ') (fun r => ∃ fr σ', Ext (σ.new ca) σ' ∧ ((r = ⟨.exit 2, fr, σ'⟩ ∧ fr.get 1 = some (.pointer (some ⟨σ.n, 0, none⟩))) ∨ (r = ⟨.ret, fr, σ'⟩ ∧ ∃ s c, fr.get 2 = some (str s) ∧ fr.get 3 = some (.int .i64 c)))) ?_ ?_ ?_ ?_
 ·exact ⟨fR, fR1 g1, hE⟩
 ·clear g1 hE fr
  rintro k fr σ' hk ⟨g4, g1, hE⟩
  have hc := lt_true hk
  have w1 : σ'.row σ.n = some ca := by rw [hE.row (by simp)]; exact cL
  have hEn := hE.n
  simp only [new_n] at hEn
  have hE0 : Ext σ σ' := E0.trans hE
  obtain ⟨x, hx⟩ := at_some hk
  obtain ⟨sp, rfl, l3, l4⟩ := l1 (by omega)
  have w2 : σ'.row lb = some lcs := by rw [hE0.row l3]; exact l4
  obtain ⟨-, m1, m2⟩ := l2 k x hx
  refine gT1 (And.intro @g4 (And.intro @g1 (And.intro @hc (And.intro @w1 (And.intro @s1 (And.intro @s4 (And.intro @w2 @m2))))))) ?_;try exact ⟨⟩
  cases q : decide (x.most < T.low) with
  | true =>
   refine gT ?_;try exact ⟨⟩
   exact ⟨_, _, hE, .inr ⟨rfl, _, _, fR, fR⟩⟩
  | false =>
   refine gT1 @g4 ?_;try exact ⟨⟩
   exact ⟨fR, fR1 g1, hE⟩
 ·rintro fr σ' ⟨g4, g1, hE⟩
  have w1 : σ'.row σ.n = some ca := by rw [hE.row (by simp)]; exact cL
  refine gT1 (And.intro @g4 (And.intro @g1 (And.intro @w1 @s1))) ?_;try exact ⟨⟩
  exact ⟨_, _, hE, .inl ⟨rfl, fR1 g1⟩⟩
 rintro r ⟨fr, σ', hE, ⟨rfl, g1⟩ | ⟨rfl, s', c', g2, g3⟩⟩
 case inr =>
  refine gT1 (And.intro @g2 (And.intro @g3 @Tryz.results38)) ?_;try exact ⟨⟩
  exact ⟨_, _, _, rfl, E0.trans hE⟩
 refine gT ?_;try exact ⟨⟩
 refine ev_count T.reqs.length (fun k fr σ' => fr.get 8 = some (.int .i64 k) ∧ fr.get 1 = some (.pointer (some ⟨σ.n, 0, none⟩)) ∧ Ext (σ.new ca) σ') (fun r => ∃ fr σ', Ext (σ.new ca) σ' ∧ ((r = ⟨.exit 4, fr, σ'⟩ ∧ fr.get 1 = some (.pointer (some ⟨σ.n, 0, none⟩))) ∨ (r = ⟨.ret, fr, σ'⟩ ∧ ∃ s c, fr.get 2 = some (str s) ∧ fr.get 3 = some (.int .i64 c)))) ?_ ?_ ?_ ?_
 ·exact ⟨fR, fR1 g1, hE⟩
 ·clear g1 hE fr
  rintro k fr σ' hk ⟨g4, g1, hE⟩
  have hc := lt_true hk
  have w1 : σ'.row σ.n = some ca := by rw [hE.row (by simp)]; exact cL
  have hEn := hE.n
  simp only [new_n] at hEn
  have hE0 : Ext σ σ' := E0.trans hE
  obtain ⟨x, hx⟩ := at_some hk
  obtain ⟨sp, rfl, l3, l4⟩ := r1 (by omega)
  have w2 : σ'.row rb = some rcs := by rw [hE0.row l3]; exact l4
  obtain ⟨-, m1, -⟩ := r2 k x hx
  refine gT1 (And.intro @g4 (And.intro @g1 (And.intro @hc (And.intro @w1 @s3)))) ?_;try exact ⟨⟩
  refine ev_count T.crits.length (fun j fr τ => fr.get 10 = some (.int .i64 j) ∧ fr.get 8 = some (.int .i64 k) ∧ fr.get 1 = some (.pointer (some ⟨σ.n, 0, none⟩)) ∧ (∃ n, fr.get 9 = some (.int .i64 n)) ∧ τ = σ')
   (fun r => ∃ fr, r = ⟨.exit 6, fr, σ'⟩ ∧ fr.get 8 = some (.int .i64 k) ∧ fr.get 1 = some (.pointer (some ⟨σ.n, 0, none⟩)) ∧ (∃ n, fr.get 9 = some (.int .i64 n))) ?_ ?_ ?_ ?_
  ·exact ⟨fR, fR1 g4, fR1 g1, ⟨_, fR⟩, rfl⟩
  ·clear g4 g1 fr
   rintro j fr τ hj ⟨g10, g4, g1, ⟨n, g9⟩, rfl⟩
   have hc := lt_true hj
   obtain ⟨y, hy⟩ := at_some hj
   obtain ⟨sp', rfl, l5, l6⟩ := c1 (by omega)
   have w3 : τ.row cb = some ccs := by rw [hE0.row l5]; exact l6
   obtain ⟨-, n1, n2, -⟩ := c2 j y hy
   refine gT1 (And.intro @g10 (And.intro @g4 (And.intro @g1 (And.intro @hc (And.intro @w1 (And.intro @s2 (And.intro @s3 (And.intro @w2 (And.intro @w3 (And.intro @m1 @n1)))))))))) ?_;try exact ⟨⟩
   cases q : decide (y.name = x.name) with
   | true =>
    refine gT1 (And.intro @g10 (And.intro @g1 (And.intro @w1 (And.intro @s2 (And.intro @w3 @n2))))) ?_;try exact ⟨⟩
    exact ⟨fR, fR1 g4, fR1 g1, ⟨_, fR⟩, by trivial⟩
   | false =>
    refine gT1 @g10 ?_;try exact ⟨⟩
    exact ⟨fR, fR1 g4, fR1 g1, ⟨n, fR1 g9⟩, by trivial⟩
  ·clear g4 g1 fr
   rintro fr τ ⟨g10, g4, g1, ⟨n, g9⟩, rfl⟩
   refine gT1 (And.intro @g10 (And.intro @g1 (And.intro @w1 @s2))) ?_;try exact ⟨⟩
   exact ⟨_, rfl, fR1 g4, fR1 g1, ⟨n, fR1 g9⟩⟩
  clear g4 g1 fr
  rintro r ⟨fr, rfl, g4, g1, ⟨n, g9⟩⟩
  cases q1 : decide (n = 0) with
  | true =>
   refine gT1 (And.intro @g9 @q1) ?_;try exact ⟨⟩
   exact ⟨_, _, hE, .inr ⟨rfl, _, _, fR, fR⟩⟩
  | false =>
  cases q2 : decide (n = 2) with
  | false =>
   refine gT1 (And.intro @g9 (And.intro @q1 @q2)) ?_;try exact ⟨⟩
   exact ⟨_, _, hE, .inr ⟨rfl, _, _, fR, fR⟩⟩
  | true =>
   refine gT1 (And.intro @g9 (And.intro @q1 (And.intro @q2 @g4))) ?_;try exact ⟨⟩
   exact ⟨fR, fR1 g1, hE⟩
 ·rintro fr σ' ⟨g4, g1, hE⟩
  have w1 : σ'.row σ.n = some ca := by rw [hE.row (by simp)]; exact cL
  refine gT1 (And.intro @g4 (And.intro @g1 (And.intro @w1 @s3))) ?_;try exact ⟨⟩
  exact ⟨_, _, hE, .inl ⟨rfl, fR1 g1⟩⟩
 rintro r ⟨fr, σ', hE, ⟨rfl, g1⟩ | ⟨rfl, s', c', g2, g3⟩⟩
 case inr =>
  refine gT1 (And.intro @g2 (And.intro @g3 @Tryz.results38)) ?_;try exact ⟨⟩
  exact ⟨_, _, _, rfl, E0.trans hE⟩
 have w1 : σ'.row σ.n = some ca := by rw [hE.row (by simp)]; exact cL
 have hEn := hE.n
 simp only [new_n] at hEn
 have hE0 : Ext σ σ' := E0.trans hE
 refine gT1 (And.intro @g1 (And.intro @w1 (And.intro @hfa @s6))) ?_;try exact ⟨⟩
 refine (power_ok hf hj (hT.mono hE0) (h5.mono hE0)).mono ?_
 rintro r ⟨p, c, σ2, rfl, -, -, hE2⟩
 have n2 := hE2.n
 have w2 : σ2.row σ.n = some ca := by rw [hE2.row (by omega)]; exact w1
 have hF := hE.trans hE2
 have hF0 := hE0.trans hE2
 refine gT ?_;try exact ⟨⟩
 cases qc : decide (c = 0) with
 | false =>
  have qc' : c ≠ 0 := of_decide_eq_false qc
  refine gT1 (And.intro @qc (And.intro @yu_t (And.intro @yu_f @Tryz.results38))) ?_;try exact ⟨⟩
  exact ⟨_, _, _, rfl, hF0⟩
 | true =>
 cases qp : decide (p = 0) with
 | false =>
  have d14 : decide ((14 : Int) = 0) = false := by decide
  refine gT1 (And.intro @qc (And.intro @qp (And.intro @d14 (And.intro @yu_t (And.intro @yu_f @Tryz.results38))))) ?_;try exact ⟨⟩
  exact ⟨_, _, _, rfl, hF0⟩
 | true =>
 refine gT1 (And.intro @qc (And.intro @qp (And.intro @g1 (And.intro @w2 (And.intro @hfa (And.intro @s6 (And.intro @yu_t @yu_f))))))) ?_;try exact ⟨⟩
 refine (interval_ok hiv hP (hT.mono hF0) (h5.mono hF0)).mono ?_
 rintro r ⟨i1, i2, i3, i4, c2', σ3, rfl, -, hE3⟩
 have n3 := hE3.n
 have hG := hF.trans hE3
 have hG0 := hF0.trans hE3
 refine gT ?_;try exact ⟨⟩
 cases qd : decide (c2' = 0) with
 | false =>
  simp (maxSteps := 1000000) (disch := first | exact dS | fail) only [↓bD2, bW2, reduceMul, reduceEqDiff, reduceAdd, Nat.reduceBEq, reduceIte, qd, Tryz.results38]
  exact ⟨_, _, _, rfl, hG0⟩
 | true =>
 simp (maxSteps := 1000000) (disch := first | exact dS | fail) only [↓bD2, bW2, reduceMul, reduceEqDiff, reduceAdd, Nat.reduceBEq, reduceIte, qd]
 clear w1 hEn hE0 n2 w2
 have hE := hG
 clear hF hF0 hG hG0
 refine ev_count T.ties.length (fun k fr σ' => fr.get 13 = some (.int .i64 k) ∧ fr.get 1 = some (.pointer (some ⟨σ.n, 0, none⟩)) ∧ Ext (σ.new ca) σ') (fun r => ∃ fr σ', Ext (σ.new ca) σ' ∧ ((r = ⟨.exit 8, fr, σ'⟩ ∧ fr.get 1 = some (.pointer (some ⟨σ.n, 0, none⟩))) ∨ (r = ⟨.ret, fr, σ'⟩ ∧ ∃ s c, fr.get 2 = some (str s) ∧ fr.get 3 = some (.int .i64 c)))) ?_ ?_ ?_ ?_
 ·exact ⟨fR, fR1 g1, hE⟩
 ·clear g1 hE fr
  rintro k fr σ' hk ⟨g4, g1, hE⟩
  have hc := lt_true hk
  have w1 : σ'.row σ.n = some ca := by rw [hE.row (by simp)]; exact cL
  have hEn := hE.n
  simp only [new_n] at hEn
  have hE0 : Ext σ σ' := E0.trans hE
  obtain ⟨x, hx⟩ := at_some hk
  obtain ⟨sp, rfl, l3, l4⟩ := t1 (by omega)
  have w2 : σ'.row tb = some tcs := by rw [hE0.row l3]; exact l4
  have m1 := t2 k x hx
  refine gT1 (And.intro @g4 (And.intro @g1 (And.intro @hc (And.intro @w1 (And.intro @hfa (And.intro @s7 (And.intro @w2 @m1))))))) ?_;try exact ⟨⟩
  refine (bounds_ok (s := x) (hT.mono hE0)).mono ?_
  rintro r ⟨σ2, rfl, hE2⟩
  have n2 := hE2.n
  have v1 : σ2.row σ.n = some ca := by rw [hE2.row (by omega)]; exact w1
  have v2 : σ2.row tb = some tcs := by rw [hE2.row (by omega)]; exact w2
  have hF := hE.trans hE2
  unfold boundsV
  simp (maxSteps := 1000000) (disch := first | exact dS | fail) only [↓bD2, bW2, reduceMul, reduceEqDiff, reduceAdd, Nat.reduceBEq, reduceIte, asx hE2]
  try refine Must.intro (by (repeat first | simp (disch := omega) only [as_read, as_upd, as_newb, asx hE2] | rw [as_ord (by kernel_rfl)]); rfl) ?_
  try simp (maxSteps := 1000000) (disch := first | exact dS | fail) only [↓bD2, bW2, reduceMul, reduceEqDiff, reduceAdd, Nat.reduceBEq, reduceIte]
  cases q1 : (boundsR T x).2.2 with
  | false =>
   refine gT1 (And.intro @q1 (And.intro @yu_t @yu_f)) ?_;try exact ⟨⟩
   exact ⟨_, _, hF, .inr ⟨rfl, _, _, fR, fR⟩⟩
  | true =>
  cases q2 : decide (x = [108, 111, 119]) with
  | true =>
   refine gT1 (And.intro @q1 (And.intro @q2 (And.intro @g1 (And.intro @g4 (And.intro @v1 (And.intro @s7 (And.intro @v2 (And.intro @m1 (And.intro @yu_t @yu_f))))))))) ?_;try exact ⟨⟩
   exact ⟨_, _, hF, .inr ⟨rfl, _, _, fR, fR⟩⟩
  | false =>
   refine gT1 (And.intro @q1 (And.intro @q2 (And.intro @g1 (And.intro @g4 (And.intro @v1 (And.intro @s7 (And.intro @v2 (And.intro @m1 (And.intro @yu_t @yu_f))))))))) ?_;try exact ⟨⟩
   exact ⟨fR, fR1 g1, hF⟩
 ·rintro fr σ' ⟨g4, g1, hE⟩
  have w1 : σ'.row σ.n = some ca := by rw [hE.row (by simp)]; exact cL
  refine gT1 (And.intro @g4 (And.intro @g1 (And.intro @w1 @s7))) ?_;try exact ⟨⟩
  exact ⟨_, _, hE, .inl ⟨rfl, fR1 g1⟩⟩
 rintro r ⟨fr, σ', hE, ⟨rfl, g1⟩ | ⟨rfl, s', c', g2, g3⟩⟩
 case inr =>
  refine gT1 (And.intro @g2 (And.intro @g3 @Tryz.results38)) ?_;try exact ⟨⟩
  exact ⟨_, _, _, rfl, E0.trans hE⟩
 refine gT ?_;try exact ⟨⟩
 refine ev_count vs.length (fun k fr σ' => fr.get 17 = some (.int .i64 k) ∧ fr.get 1 = some (.pointer (some ⟨σ.n, 0, none⟩)) ∧ Ext (σ.new ca) σ') (fun r => ∃ fr σ', Ext (σ.new ca) σ' ∧ ((r = ⟨.exit 10, fr, σ'⟩ ∧ fr.get 1 = some (.pointer (some ⟨σ.n, 0, none⟩))) ∨ (r = ⟨.ret, fr, σ'⟩ ∧ ∃ s c, fr.get 2 = some (str s) ∧ fr.get 3 = some (.int .i64 c)))) ?_ ?_ ?_ ?_
 ·exact ⟨fR, fR1 g1, hE⟩
 ·clear g1 hE fr
  rintro k fr σ' hk ⟨g4, g1, hE⟩
  have hc := lt_true hk
  have w1 : σ'.row σ.n = some ca := by rw [hE.row (by simp)]; exact cL
  have hEn := hE.n
  simp only [new_n] at hEn
  have hE0 : Ext σ σ' := E0.trans hE
  obtain ⟨x, hx⟩ := at_some hk
  obtain ⟨C, hC⟩ := at_some (show k < T.combos.length by omega)
  obtain ⟨ia, ic, ib, io, ics, rfl, i1, i2⟩ := (h8.get hx hC).use
  have LC := (hT.ok.combo C (List.mem_of_getElem? hC)).1
  obtain ⟨sp, rfl, l3, l4⟩ := k1 (by omega)
  have w2 : σ'.row kb = some kcs := by rw [hE0.row l3]; exact l4
  have m1 := k2 k _ hx
  rw [Nat.mul_one] at m1
  refine gT1 (And.intro @g4 (And.intro @g1 (And.intro @hc (And.intro @w1 @s9)))) ?_;try exact ⟨⟩
  refine ev_count C.length (fun i fr τ => fr.get 18 = some (.int .i64 i) ∧ fr.get 17 = some (.int .i64 k) ∧ fr.get 1 = some (.pointer (some ⟨σ.n, 0, none⟩)) ∧ τ = σ')
   (fun r => ∃ fr, (r = ⟨.exit 12, fr, σ'⟩ ∧ fr.get 17 = some (.int .i64 k) ∧ fr.get 1 = some (.pointer (some ⟨σ.n, 0, none⟩))) ∨ (r = ⟨.ret, fr, σ'⟩ ∧ ∃ s c, fr.get 2 = some (str s) ∧ fr.get 3 = some (.int .i64 c))) ?_ ?_ ?_ ?_
  ·exact ⟨fR, fR1 g4, fR1 g1, rfl⟩
  ·clear g4 g1 fr
   rintro i fr τ hi ⟨g18, g4, g1, rfl⟩
   have hc := lt_true hi
   obtain ⟨y, hy⟩ := at_some hi
   obtain ⟨sp', rfl, l5, l6⟩ := i1 (by omega)
   have w3 : τ.row ib = some ics := by rw [hE0.row l5]; exact l6
   have n1 := i2 i y hy
   refine gT1 (And.intro @g18 (And.intro @g4 (And.intro @g1 (And.intro @hc (And.intro @w1 (And.intro @s9 (And.intro @w2 @m1))))))) ?_;try exact ⟨⟩
   refine ev_count T.lots.length (fun j fr υ => fr.get 20 = some (.int .i64 j) ∧ fr.get 18 = some (.int .i64 i) ∧ fr.get 17 = some (.int .i64 k) ∧ fr.get 1 = some (.pointer (some ⟨σ.n, 0, none⟩)) ∧ (∃ b, fr.get 19 = some (.bool b)) ∧ υ = τ)
    (fun r => ∃ fr, r = ⟨.exit 14, fr, τ⟩ ∧ fr.get 18 = some (.int .i64 i) ∧ fr.get 17 = some (.int .i64 k) ∧ fr.get 1 = some (.pointer (some ⟨σ.n, 0, none⟩)) ∧ (∃ b, fr.get 19 = some (.bool b))) ?_ ?_ ?_ ?_
   ·exact ⟨fR, fR1 g18, fR1 g4, fR1 g1, ⟨_, fR⟩, rfl⟩
   ·clear g18 g4 g1 fr
    rintro j fr υ hj ⟨g20, g18, g4, g1, ⟨b, g19⟩, rfl⟩
    have hc := lt_true hj
    obtain ⟨z, hz⟩ := at_some hj
    obtain ⟨sp'', rfl, l7, l8⟩ := l1 (by omega)
    have w4 : υ.row lb = some lcs := by rw [hE0.row l7]; exact l8
    obtain ⟨-, n2, -⟩ := l2 j z hz
    cases b with
    | true =>
     refine gT1 (And.intro @g20 (And.intro @g18 (And.intro @g4 (And.intro @g1 (And.intro @g19 (And.intro @hc (And.intro @w1 (And.intro @s1 (And.intro @yu_t @yu_f))))))))) ?_;try exact ⟨⟩
     exact ⟨fR, fR1 g18, fR1 g4, fR1 g1, ⟨_, fR⟩, by trivial⟩
    | false =>
     refine gT1 (And.intro @g20 (And.intro @g18 (And.intro @g4 (And.intro @g1 (And.intro @g19 (And.intro @hc (And.intro @w1 (And.intro @s1 (And.intro @s9 (And.intro @w2 (And.intro @m1 (And.intro @w3 (And.intro @n1 (And.intro @w4 (And.intro @n2 (And.intro @yu_t @yu_f)))))))))))))))) ?_;try exact ⟨⟩
     exact ⟨fR, fR1 g18, fR1 g4, fR1 g1, ⟨_, fR⟩, by trivial⟩
   ·clear g18 g4 g1 fr
    rintro fr υ ⟨g20, g18, g4, g1, ⟨b, g19⟩, rfl⟩
    refine gT1 (And.intro @g20 (And.intro @g1 (And.intro @w1 @s1))) ?_;try exact ⟨⟩
    exact ⟨_, rfl, fR1 g18, fR1 g4, fR1 g1, ⟨b, fR1 g19⟩⟩
   clear g18 g4 g1 fr
   rintro r ⟨fr, rfl, g18, g4, g1, ⟨b, g19⟩⟩
   cases b with
   | false =>
    refine gT1 @g19 ?_;try exact ⟨⟩
    exact ⟨_, .inr ⟨rfl, _, _, fR, fR⟩⟩
   | true =>
    refine gT1 (And.intro @g19 @g18) ?_;try exact ⟨⟩
    exact ⟨fR, fR1 g4, fR1 g1, by trivial⟩
  ·clear g4 g1 fr
   rintro fr τ ⟨g18, g4, g1, rfl⟩
   refine gT1 (And.intro @g18 (And.intro @g4 (And.intro @g1 (And.intro @w1 (And.intro @s9 (And.intro @w2 @m1)))))) ?_;try exact ⟨⟩
   exact ⟨_, .inl ⟨rfl, fR1 g4, fR1 g1⟩⟩
  clear g4 g1 fr
  rintro r ⟨fr, ⟨rfl, g4, g1⟩ | ⟨rfl, s', c', g2, g3⟩⟩
  ·refine gT1 @g4 ?_;try exact ⟨⟩
   exact ⟨fR, fR1 g1, hE⟩
  ·refine gT ?_;try exact ⟨⟩
   exact ⟨_, _, hE, .inr ⟨rfl, _, _, fR1 g2, fR1 g3⟩⟩
 ·rintro fr σ' ⟨g4, g1, hE⟩
  have w1 : σ'.row σ.n = some ca := by rw [hE.row (by simp)]; exact cL
  refine gT1 (And.intro @g4 (And.intro @g1 (And.intro @w1 @s9))) ?_;try exact ⟨⟩
  exact ⟨_, _, hE, .inl ⟨rfl, fR1 g1⟩⟩
 rintro r ⟨fr, σ', hE, ⟨rfl, g1⟩ | ⟨rfl, s', c', g2, g3⟩⟩
 case inr =>
  refine gT1 (And.intro @g2 (And.intro @g3 @Tryz.results38)) ?_;try exact ⟨⟩
  exact ⟨_, _, _, rfl, E0.trans hE⟩
 have w1 : σ'.row σ.n = some ca := by rw [hE.row (by simp)]; exact cL
 have hEn := hE.n
 simp only [new_n] at hEn
 have hE0 : Ext σ σ' := E0.trans hE
 have fin : ∀ s' c', ∃ s c τ, (⟨false, .tuple ⟨[str s', .int .i64 c']⟩, σ'⟩ : CR) = ⟨false, .tuple ⟨[str s, .int .i64 c]⟩, τ⟩ ∧ Ext σ τ := fun s' c' => ⟨_, _, _, rfl, hE0⟩
 refine gT1 (And.intro @g1 (And.intro @w1 (And.intro @s15 @s16))) ?_;try exact ⟨⟩
 cases q1 : decide (T.t.b < T.t.q) with
 | true =>
  refine gT1 (And.intro @q1 (And.intro @yu_t (And.intro @yu_f @Tryz.results38))) ?_;try exact ⟨⟩
  exact fin _ _
 | false =>
 cases q2 : decide (T.t.g < T.t.b) with
 | true =>
  refine gT1 (And.intro @q1 (And.intro @q2 (And.intro @g1 (And.intro @w1 (And.intro @s16 (And.intro @s17 (And.intro @yu_t (And.intro @yu_f @Tryz.results38)))))))) ?_;try exact ⟨⟩
  exact fin _ _
 | false =>
 cases q3 : decide (T.t.p < T.t.g) with
 | true =>
  refine gT1 (And.intro @q1 (And.intro @q2 (And.intro @q3 (And.intro @g1 (And.intro @w1 (And.intro @s16 (And.intro @s17 (And.intro @s18 (And.intro @yu_t (And.intro @yu_f @Tryz.results38)))))))))) ?_;try exact ⟨⟩
  exact fin _ _
 | false =>
  refine gT1 (And.intro @q1 (And.intro @q2 (And.intro @q3 (And.intro @g1 (And.intro @w1 (And.intro @s16 (And.intro @s17 (And.intro @s18 (And.intro @yu_t (And.intro @yu_f @Tryz.results38)))))))))) ?_;try exact ⟨⟩
  exact fin _ _
end Go.Proofs.G
namespace Go.Proofs.G
open Go Go.Ab
open Nat (reduceMul reduceEqDiff reduceAdd)
set_option maxRecDepth 100000
theorem mod1_ok {σ : St} {n m : Int} (h1 : In64 n) (h3 : 0 < m) (h4 : m ≤ 4294967296) :
  Ev (go Tryz.prog HS (.fn 63) [.int .i64 n, .int .i64 m] σ) (fun r => r = ⟨false, .int .i64 (n % m), σ⟩) ⟨⟩ := by
 obtain ⟨h1, h2⟩ := h1
 have hm0 : m ≠ 0 := by omega
 have a1 := Int.tmod_lt_of_pos n h3
 have a2 : -m < n.tmod m := by
  have := Int.lt_tmod_of_pos n h3
  omega
 have e : (n.tmod m + m).tmod m = n % m := by
  rw [Int.tmod_eq_emod_of_nonneg (by omega), Int.add_emod_right]
  rw [Int.tmod_def]
  exact Int.sub_mul_emod_self_left _ _ _
 refine ev_go Tryz.func63 rfl rfl ?_
 refine gT1 (And.intro @Tryz.results63 @e) ?_;try exact ⟨⟩
structure MkAt (σ : St) (q : Nat) (v : Value) (l : List Int) (k : Nat) : Prop where
 row : σ.orow q = some [v, .int .i64 (k : Nat)]
 lt : q < σ.n
 le : k ≤ l.length
theorem next_ok {σ : St} {q k : Nat} {v : Value} {l : List Int} {n : Int} (H : List Nat) (hH : q ∈ H) (hm : MkAt σ q v l k) (hl : ArgInts (hide σ H) v l) (hll : l.length ≤ 9223372036854775807) (h1 : 0 < n) (h2 : n ≤ 1000) :
  Ev (go Tryz.prog HS (.fn 35) [.pointer (some ⟨q, 0, none⟩), .int .i64 n] σ) (fun r => ∃ x k' σ', r = ⟨false, .int .i64 x, σ'⟩ ∧ 0 ≤ x ∧ x < n ∧ MkAt σ' q v l k' ∧ ExtX q σ σ') ⟨⟩ := by
 obtain ⟨a, c, b, off, cells, rfl, l1, l2⟩ := hl.1.use
 have ro := hm.row
 have rr := row_of ro
 have hk := hm.le
 refine ev_go Tryz.func35 rfl rfl ?_
 by_cases hlt : k < l.length
 ·have c1 : decide (k < l.length) = true := decide_eq_true hlt
  obtain ⟨y, hy⟩ := at_some hlt
  obtain ⟨sp, rfl, l3, l4⟩ := l1 (by omega)
  have hbq : b ∉ H := fun hb => by rw [hide_mem hb] at l4; cases l4
  have hne : b ≠ q := fun h => hbq (h ▸ hH)
  rw [hide_row hbq] at l4
  rw [hide_n] at l3
  have s1 := l2 k y hy
  have e1 : (((k + 1 : Nat) : Int) - 1) = (k : Int) := by omega
  refine gT1 (And.intro @rr (And.intro @ro (And.intro @c1 (And.intro @l4 (And.intro @s1 (And.intro @e1 @nn_ptr)))))) ?_;try exact ⟨⟩
  have hn64 := hl.2 y (List.mem_of_getElem? hy)
  refine (mod1_ok hn64 h1 (by omega)).mono ?_
  rintro r rfl
  simp (maxSteps := 1000000) (disch := first | exact dS | fail) only [↓bD2, bW2, reduceMul, reduceEqDiff, reduceAdd, Nat.reduceBEq, reduceIte, asx (Ext.refl _), Tryz.results35]
  try refine Must.intro (by (repeat first | simp (disch := omega) only [as_read, as_upd, as_newb, asx (Ext.refl _)] | rw [as_ord (by kernel_rfl)]); rfl) ?_
  try simp (maxSteps := 1000000) (disch := first | exact dS | fail) only [↓bD2, bW2, reduceMul, reduceEqDiff, reduceAdd, Nat.reduceBEq, reduceIte, Tryz.results35]
  exact ⟨_, k + 1, _, rfl, Int.emod_nonneg _ (by omega), Int.emod_lt_of_pos _ h1, ⟨cL, hm.lt, by omega⟩, ExtX.refl.upd _⟩
 ·have c1 : decide (k < l.length) = false := decide_eq_false hlt
  refine gT1 (And.intro @rr (And.intro @c1 (And.intro @nn_ptr @Tryz.results35))) ?_;try exact ⟨⟩
  exact ⟨0, k, _, rfl, by omega, h1, hm, .refl⟩
def numE (n d : Int) : Ex := .mk numO n d [] []
def nameE (s : By) : Ex := .mk nameO 0 0 s []
def opE (o : By) (a b : Ex) : Ex := .mk o 0 0 [] [a, b]
theorem mkname_ok {σ : St} {s : By} : Ev (go Tryz.prog HS (.fn 39) [str s] σ) (fun r => ∃ row σ', r = ⟨false, .agg ⟨row⟩, σ'⟩ ∧ Ext σ σ' ∧ ∀ τ, ExAt τ row (nameE s)) ⟨⟩ := by
 refine ev_go Tryz.func39 rfl rfl ?_
 refine gT1 @Tryz.results39 ?_;try exact ⟨⟩
 exact ⟨_, _, rfl, eX, fun τ => ex0_at⟩
theorem mknum_ok {σ : St} {n d : Int} (h1 : -1000000000 < n) (h2 : n < 1000000000) (h3 : -1000000000 < d) (h4 : d < 1000000000) (h5 : d ≠ 0) : Ev (go Tryz.prog HS (.fn 64) [.int .i64 n, .int .i64 d] σ) (fun r => ∃ row σ', r = ⟨false, .agg ⟨row⟩, σ'⟩ ∧ Ext σ σ' ∧ ∀ τ, ExAt τ row (numE (qn n d) (qd n d))) ⟨⟩ := by
 refine ev_go Tryz.func64 rfl rfl ?_
 refine gT ?_;try exact ⟨⟩
 refine (make_ok h1 h2 h3 h4 h5).mono ?_
 rintro r ⟨σ2, rfl, hE2⟩
 have x2 : σ2.orow σ.n = some [str [], .int .i64 0, .int .i64 0, str [], .slice none 0 0] := by rw [hE2.orow (cL)]; exact cL
 have n2 := hE2.n
 simp only [new_n] at n2
 refine gT1 (And.intro @x2 @Tryz.results64) ?_;try exact ⟨⟩
 exact ⟨_, _, rfl, Ext.upd (Ext.upd (Ext.new' (Ext.trans (Ext.new' (.refl _) _) hE2) _) (by omega) _) (by omega) _, fun τ => ex0_at⟩
theorem mkop_ok {σ : St} {o : By} {ra rb : List Value} {a b : Ex} (H : List Nat) (hH : ∀ q ∈ H, q < σ.n) (ha : ExAt (hide σ H) ra a) (hb : ExAt (hide σ H) rb b) : Ev (go Tryz.prog HS (.fn 37) [str o, .agg ⟨ra⟩, .agg ⟨rb⟩] σ) (fun r => ∃ row σ', r = ⟨false, .agg ⟨row⟩, σ'⟩ ∧ Ext σ σ' ∧ ExAt (hide σ' H) row (opE o a b)) ⟨⟩ := by
 have la := ha.len
 have lb := hb.len
 have fa : sub ra 0 5 = some ra := sub_full (by omega) (by omega)
 have fb : sub rb 0 5 = some rb := sub_full (by omega) (by omega)
 refine ev_go Tryz.func37 rfl rfl ?_
 obtain ⟨a1, a2, a3, a4, a5, rfl⟩ := five la
 obtain ⟨b1, b2, b3, b4, b5, rfl⟩ := five lb
 refine gT1 (And.intro @fa (And.intro @fb @Tryz.results37)) ?_;try exact ⟨⟩
 refine ⟨_, _, rfl, eX, ?_⟩
 have hE : ∀ (S : St), S = ((((σ.new [a1, a2, a3, a4, a5]).new [b1, b2, b3, b4, b5]).new [str [], .int .i64 0, .int .i64 0, str [], .slice none 0 0]).new [a1, a2, a3, a4, a5, b1, b2, b3, b4, b5]).upd (σ.n + 1 + 1) [str o, .int .i64 0, .int .i64 0, str [], .slice (some ⟨σ.n + 1 + 1 + 1, 0, none⟩) 2 2] → Ext σ S ∧ S.n = σ.n + 4 ∧ S.row (σ.n + 1 + 1 + 1) = some [a1, a2, a3, a4, a5, b1, b2, b3, b4, b5] :=
  fun S hS => by subst hS; exact ⟨eX, rfl, cL⟩
 obtain ⟨E, nn, ro⟩ := hE _ rfl
 exact ex2_at (by rw [hide_n]; omega) (by rw [hide_row fun h => by have := hH _ h; omega]; exact ro) rfl (ha.keep (keep_ext E)) (hb.keep (keep_ext E))
theorem Cl.keepX {q : Nat} {σ σ' : St} (hE : ExtX q σ σ') : ∀ {l : List (Nat × List Value)}, (∀ p ∈ l, p.1 ≠ q) → Cl σ l → Cl σ' l
 | [], _, _ => trivial
 | (b, cs) :: l, hn, h => ⟨⟨Nat.lt_of_lt_of_le h.1.1 hE.n, by rw [hE.orow h.1.1 (hn (b, cs) (by simp))]; exact h.1.2⟩, Cl.keepX hE (fun p hp => hn p (by simp [hp])) h.2⟩
theorem ExtX.keepH {q : Nat} {σ σ' : St} {H : List Nat} (h : ExtX q σ σ') (hq : q ∈ H) : Keep (hide σ H) (hide σ' H) := keep_hide h.n fun c hc hm => ⟨hm, h.row hc fun e => hm (e ▸ hq)⟩
theorem ArgInts.keep {σ σ' : St} {v : Value} {l : List Int} (h : ArgInts σ v l) (hE : Keep σ σ') : ArgInts σ' v l := ⟨SL.keep h.1 hE, h.2⟩
structure MS (H : List Nat) (q : Nat) (v : Value) (l : List Int) (σ : St) : Prop where
 mem : q ∈ H
 mker : ∃ k, MkAt σ q v l k
 arg : ArgInts (hide σ H) v l
 len : l.length ≤ 9223372036854775807
theorem MS.ext {H : List Nat} {q : Nat} {v : Value} {l : List Int} {σ σ' : St} (h : MS H q v l σ) (hE : Ext σ σ') : MS H q v l σ' := by
 obtain ⟨m, ⟨k, h1, h2, h3⟩, h4, h5⟩ := h
 exact ⟨m, ⟨k, by rw [hE.orow h2]; exact h1, Nat.lt_of_lt_of_le h2 hE.n, h3⟩, h4.keep (keep_ext hE), h5⟩
theorem MS.lt {H : List Nat} {q : Nat} {v : Value} {l : List Int} {σ : St} (h : MS H q v l σ) : q < σ.n := by
 obtain ⟨k, hk⟩ := h.mker
 exact hk.lt
theorem nx_ok {H : List Nat} {q : Nat} {v : Value} {l : List Int} {σ : St} {n : Int} (h : MS H q v l σ) (h1 : 0 < n) (h2 : n ≤ 1000) :
  Ev (go Tryz.prog HS (.fn 35) [.pointer (some ⟨q, 0, none⟩), .int .i64 n] σ) (fun r => ∃ (x : Nat) (σ' : St), r = ⟨false, .int .i64 (x : Nat), σ'⟩ ∧ (x : Int) < n ∧ MS H q v l σ' ∧ ExtX q σ σ') ⟨⟩ := by
 obtain ⟨k, hk⟩ := h.mker
 refine (next_ok H h.mem hk h.arg h.len h1 h2).mono ?_
 rintro r ⟨x, k', σ', rfl, x0, x1, hm, hE⟩
 obtain ⟨X, rfl⟩ := Int.eq_ofNat_of_zero_le x0
 exact ⟨X, σ', rfl, x1, ⟨h.mem, ⟨k', hm⟩, h.arg.keep (hE.keepH h.mem), h.len⟩, hE⟩
end Go.Proofs.G
