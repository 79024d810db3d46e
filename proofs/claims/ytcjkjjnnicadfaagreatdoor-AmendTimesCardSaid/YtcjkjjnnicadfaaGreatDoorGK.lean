/- A part of the proof: a walk of some functions. -/
import Derived.Test.YtcjkjjnnicadfaaGreatDoorGJ
set_option linter.unusedSimpArgs false
set_option linter.unusedVariables false
namespace Go.Proofs.G
open Go Go.Ab
open Nat (reduceMul reduceEqDiff reduceAdd)
set_option maxRecDepth 100000
theorem ev_cut {P : Program} {H : Sums} {rd : Option Nat} {a b : Code} {fr : Fr} {σ : St} {Q : Res → Prop} {u : Hd Q} (J : Fr → St → Prop) (h : Ev (lim P H rd a fr σ) (fun r => ∃ fr' σ', r = ⟨.normal, fr', σ'⟩ ∧ J fr' σ') ⟨⟩)
  (k : ∀ fr' σ', J fr' σ' → Ev (lim P H rd b fr' σ') Q ⟨⟩) : Ev (lim P H rd (.seq a b) fr σ) Q u := by
 rw [er_seq]
 refine h.mono ?_
 rintro r ⟨fr', σ', rfl, hJ⟩
 rw [en_normal]
 exact k fr' σ' hJ
def Sm (n : Int) : Prop := 0 ≤ n ∧ n < 1000000000
structure Tn.Sm (T : Tn) : Prop where
 lot : ∀ l ∈ T.lots, G.Sm l.id ∧ G.Sm l.most
 crit : ∀ c ∈ T.crits, (c.kind = 1 ∨ c.kind = 2) ∧ G.Sm c.low ∧ G.Sm c.high
 req : ∀ r ∈ T.reqs, G.Sm r.value
 combo : ∀ l ∈ T.combos, ∀ n ∈ l, G.Sm n
 low : G.Sm T.low
 high : G.Sm T.high
 most : G.Sm T.most
 budget : G.Sm T.budget
 tim : G.Sm T.t.q ∧ G.Sm T.t.b ∧ G.Sm T.t.g ∧ G.Sm T.t.p ∧ G.Sm T.t.s
theorem rnum_ok {σ : St} {n : Int} (h : Sm n) : Ev (go Tryz.prog HS (.fn 131) [.int .i64 n] σ) (fun r => ∃ s σ', r = ⟨false, str s, σ'⟩ ∧ s.length ≤ 9 ∧ Ext σ σ') ⟨⟩ := by
 obtain ⟨N, rfl⟩ := Int.eq_ofNat_of_zero_le h.1
 have h2 := h.2
 refine (rnumber_ok (n := N) (by omega)).mono ?_
 rintro r ⟨σ', rfl, hE⟩
 exact ⟨_, _, rfl, decN_len9 (by omega), hE⟩
set_option maxHeartbeats 16000000 in
theorem printed_ok {σ : St} {ca : List Value} {T : Tn} {jf : Nat} (hT : Good σ ca T) (hS : T.Sm) (hf : FOk jf T.f) (hj : jf ≤ 1000) : Ev (go Tryz.prog HS (.fn 97) [.agg ⟨ca⟩] σ) (fun r => ∃ s σ', r = ⟨false, str s, σ'⟩ ∧ s.length ≤ 100000 ∧ Ext σ σ') ⟨⟩ := by
 obtain ⟨vl, vc, vr, ex, vt, vk, hp, h2, h3, h4, h5, h6, vs, h7, h8⟩ := hT.parts
 obtain ⟨la, lc, lb, lo, lcs, rfl, l1, l2⟩ := h2.use
 obtain ⟨ca', cc, cb, co, ccs, rfl, c1, c2⟩ := h3.use
 obtain ⟨ra, rc, rb, ro, rcs, rfl, r1, r2⟩ := h4.use
 obtain ⟨ta, tc, tb, to', tcs, rfl, t1, t2⟩ := h6.use
 obtain ⟨ka, kc, kb, ko, kcs, rfl, k1, k2⟩ := SL.use' h7
 have hfa := hp.all
 have L0 := hT.nm
 have L1 := hT.ok.lots
 have L2 := hT.ok.crits
 have L3 := hT.ok.reqs
 have L4 := hT.ok.ties
 have L5 := hT.ok.combos
 have L6 := h8.len
 have s0 := hp.p0
 have s1 := hp.p1
 have s2 := hp.p2
 have s3 := hp.p3
 have s4 := hp.p4
 have s5 := hp.p5
 have s6 := hp.p6
 have s7 := hp.p11
 have s8 := hp.p12
 have s9 := hp.p13
 have s10 := hp.p14
 have s15 := hp.p15
 refine ev_go Tryz.func97 rfl rfl ?_
 refine gT1 (And.intro @hfa @s0) ?_;try exact ⟨⟩
 have E0 : Ext σ (σ.new ca) := eX
 refine ev_count T.lots.length (fun k fr σ' => fr.get 4 = some (.int .i64 k) ∧ fr.get 1 = some (.pointer (some ⟨σ.n, 0, none⟩)) ∧ (∃ s, fr.get 3 = some (str s) ∧ s.length ≤ 200 + 100 * k) ∧ Ext (σ.new ca) σ')
  (fun r => ∃ fr σ', r = ⟨.exit 0, fr, σ'⟩ ∧ fr.get 1 = some (.pointer (some ⟨σ.n, 0, none⟩)) ∧ (∃ s, fr.get 3 = some (str s) ∧ s.length ≤ 2000) ∧ Ext (σ.new ca) σ') ?_ ?_ ?_ ?_
 ·exact ⟨fR, fR, ⟨_, fR, by simp; omega⟩, .refl _⟩
 ·skip
  rintro k fr σ' hk ⟨g4, g1, ⟨s, g3, hs⟩, hE⟩
  have hc := lt_true hk
  have w1 : σ'.row σ.n = some ca := by rw [hE.row (by simp)]; exact cL
  have hEn := hE.n
  simp only [new_n] at hEn
  have hE0 : Ext σ σ' := E0.trans hE
  obtain ⟨x, hx⟩ := at_some hk
  obtain ⟨sp, rfl, l3, l4⟩ := l1 (by omega)
  have w2 : σ'.row lb = some lcs := by rw [hE0.row l3]; exact l4
  obtain ⟨-, m1, m2⟩ := l2 k x hx
  obtain ⟨z1, z2⟩ := hS.lot x (List.mem_of_getElem? hx)
  refine gT1 (And.intro @g4 (And.intro @g1 (And.intro @g3 (And.intro @hc (And.intro @w1 (And.intro @s1 (And.intro @w2 @m1))))))) ?_;try exact ⟨⟩
  refine (rnum_ok z1).mono ?_
  rintro r ⟨u1, σ2, rfl, hu1, hE2⟩
  have n2 := hE2.n
  have w1 : σ2.row σ.n = some ca := by rw [hE2.row (by omega)]; exact w1
  have w2 : σ2.row lb = some lcs := by rw [hE2.row (by omega)]; exact w2
  refine gT1 (And.intro @g4 (And.intro @g1 (And.intro @w1 (And.intro @s1 (And.intro @w2 @m2))))) ?_;try exact ⟨⟩
  refine (rnum_ok z2).mono ?_
  rintro r ⟨u2, σ3, rfl, hu2, hE3⟩
  simp (maxSteps := 1000000) (disch := first | exact dS | fail) only [↓bD2, bW2, reduceMul, reduceEqDiff, reduceAdd, Nat.reduceBEq, reduceIte, asx hE2, asx hE3, g4, g1]
  try refine Must.intro (by (repeat first | simp (disch := omega) only [as_read, as_upd, as_newb, asx hE2, asx hE3] | rw [as_ord (by kernel_rfl)]); rfl) ?_
  try simp (maxSteps := 1000000) (disch := first | exact dS | fail) only [↓bD2, bW2, reduceMul, reduceEqDiff, reduceAdd, Nat.reduceBEq, reduceIte, g4, g1]
  exact ⟨fR, fR1 g1, ⟨_, fR, by simp; omega⟩, hE.trans (hE2.trans hE3)⟩
 ·rintro fr σ' ⟨g4, g1, ⟨s, g3, hs⟩, hE⟩
  have w1 : σ'.row σ.n = some ca := by rw [hE.row (by simp)]; exact cL
  refine gT1 (And.intro @g4 (And.intro @g1 (And.intro @w1 @s1))) ?_;try exact ⟨⟩
  exact ⟨_, _, rfl, fR1 g1, ⟨s, fR1 g3, by omega⟩, hE⟩
 rintro r ⟨fr, σ', rfl, g1, ⟨s, g3, hs⟩, hE⟩
 refine gT ?_;try exact ⟨⟩
 refine ev_count T.crits.length (fun k fr σ' => fr.get 5 = some (.int .i64 k) ∧ fr.get 1 = some (.pointer (some ⟨σ.n, 0, none⟩)) ∧ (∃ s, fr.get 3 = some (str s) ∧ s.length ≤ 2000 + 100 * k) ∧ Ext (σ.new ca) σ')
  (fun r => ∃ fr σ', r = ⟨.exit 2, fr, σ'⟩ ∧ fr.get 1 = some (.pointer (some ⟨σ.n, 0, none⟩)) ∧ (∃ s, fr.get 3 = some (str s) ∧ s.length ≤ 4000) ∧ Ext (σ.new ca) σ') ?_ ?_ ?_ ?_
 ·exact ⟨fR, fR1 g1, ⟨_, fR1 g3, by (try simp) <;> omega⟩, hE⟩
 ·clear g1 g3 hs hE s fr
  rintro k fr σ' hk ⟨g4, g1, ⟨s, g3, hs⟩, hE⟩
  have hc := lt_true hk
  have w1 : σ'.row σ.n = some ca := by rw [hE.row (by simp)]; exact cL
  have hEn := hE.n
  simp only [new_n] at hEn
  have hE0 : Ext σ σ' := E0.trans hE
  obtain ⟨x, hx⟩ := at_some hk
  obtain ⟨sp, rfl, l3, l4⟩ := c1 (by omega)
  have w2 : σ'.row cb = some ccs := by rw [hE0.row l3]; exact l4
  obtain ⟨m0, m1, -⟩ := c2 k x hx
  have mem := List.mem_of_getElem? hx
  obtain ⟨kd, z1, z2⟩ := hS.crit x mem
  have ln := names_len (hT.ok.crit x mem).1
  unfold Crit.row at m0
  refine gT1 (And.intro @g4 (And.intro @g1 (And.intro @hc (And.intro @w1 (And.intro @s2 (And.intro @w2 @m0)))))) ?_;try exact ⟨⟩
  obtain ⟨S, hS'⟩ : ∃ S, ((σ'.new [str [], .int .i64 0, .int .i64 0, .int .i64 0, .bool false]).upd σ'.n [str x.name, .int .i64 x.kind, .int .i64 x.low, .int .i64 x.high, .bool x.less]) = S := ⟨_, rfl⟩
  rw [hS']
  have E1 : Ext σ' S := by rw [← hS']; exact eX
  have nS : S.n = σ'.n + 1 := by rw [← hS']; rfl
  have wS : S.row σ'.n = some [str x.name, .int .i64 x.kind, .int .i64 x.low, .int .i64 x.high, .bool x.less] := by rw [← hS']; exact cL
  clear hS'
  have ix : ∃ t : By, t.length = 5 ∧ sub [str [103, 114, 97, 100, 101], str [111, 102, 102, 101, 114]] (x.kind - 1).toNat 1 = some [str t] ∧ (∃ q : Nat, x.kind = (q : Int) + 1 ∧ q < 2) := by
   rcases kd with h | h
   ·exact ⟨_, rfl, by rw [h]; rfl, 0, by omega, by omega⟩
   ·exact ⟨_, rfl, by rw [h]; rfl, 1, by omega, by omega⟩
  obtain ⟨t, ht, ix, q, hq, q2⟩ := ix
  rw [hq] at wS ix
  rw [show ((q : Int) + 1 - 1).toNat = q by omega] at ix
  have e1 : (((q + 1 : Nat) : Int) - 1) = (q : Int) := by omega
  refine gT1 (And.intro @g3 (And.intro @wS (And.intro @e1 @ix))) ?_;try exact ⟨⟩
  refine (rnum_ok z1).mono ?_
  rintro r ⟨u1, σ2, rfl, hu1, hE2⟩
  have n2 := hE2.n
  simp only [new_n] at n2
  have wS2 : σ2.row σ'.n = some [str x.name, .int .i64 ((q : Int) + 1), .int .i64 x.low, .int .i64 x.high, .bool x.less] := by rw [hE2.row (cL), row_new_ne (by omega)]; exact wS
  refine gT1 @wS2 ?_;try exact ⟨⟩
  refine (rnum_ok z2).mono ?_
  rintro r ⟨u2, σ3, rfl, hu2, hE3⟩
  have n3 := hE3.n
  have wS3 : σ3.row σ'.n = some [str x.name, .int .i64 ((q : Int) + 1), .int .i64 x.low, .int .i64 x.high, .bool x.less] := by rw [hE3.row (by omega)]; exact wS2
  have hE' : Ext (σ.new ca) σ3 := hE.trans (E1.trans (Ext.trans (Ext.trans (Ext.new' (.refl _) _) hE2) hE3))
  simp (maxSteps := 1000000) (disch := first | exact dS | fail) only [↓bD2, bW2, reduceMul, reduceEqDiff, reduceAdd, Nat.reduceBEq, reduceIte, asx hE2, asx hE3, as_newb, g4, g1, wS3]
  try refine Must.intro (by (repeat first | simp (disch := omega) only [as_read, as_upd, as_newb, asx hE2, asx hE3] | rw [as_ord (by kernel_rfl)]); rfl) ?_
  try simp (maxSteps := 1000000) (disch := first | exact dS | fail) only [↓bD2, bW2, reduceMul, reduceEqDiff, reduceAdd, Nat.reduceBEq, reduceIte, g4, g1, wS3]
  cases hl : x.less with
  | true =>
   refine gT1 (And.intro @hl (And.intro @g4 @g1)) ?_;try exact ⟨⟩
   exact ⟨fR, fR1 g1, ⟨_, fR, by simp; omega⟩, hE'⟩
  | false =>
   refine gT1 (And.intro @hl (And.intro @g4 @g1)) ?_;try exact ⟨⟩
   exact ⟨fR, fR1 g1, ⟨_, fR, by simp; omega⟩, hE'⟩
 ·rintro fr σ' ⟨g4, g1, ⟨s, g3, hs⟩, hE⟩
  have w1 : σ'.row σ.n = some ca := by rw [hE.row (by simp)]; exact cL
  refine gT1 (And.intro @g4 (And.intro @g1 (And.intro @w1 @s2))) ?_;try exact ⟨⟩
  exact ⟨_, _, rfl, fR1 g1, ⟨s, fR1 g3, by omega⟩, hE⟩
 clear g1 g3 hs hE s fr
 rintro r ⟨fr, σ', rfl, g1, ⟨s, g3, hs⟩, hE⟩
 refine gT ?_;try exact ⟨⟩
 refine ev_count T.reqs.length (fun k fr σ' => fr.get 7 = some (.int .i64 k) ∧ fr.get 1 = some (.pointer (some ⟨σ.n, 0, none⟩)) ∧ (∃ s, fr.get 3 = some (str s) ∧ s.length ≤ 4000 + 100 * k) ∧ Ext (σ.new ca) σ')
  (fun r => ∃ fr σ', r = ⟨.exit 4, fr, σ'⟩ ∧ fr.get 1 = some (.pointer (some ⟨σ.n, 0, none⟩)) ∧ (∃ s, fr.get 3 = some (str s) ∧ s.length ≤ 6000) ∧ Ext (σ.new ca) σ') ?_ ?_ ?_ ?_
 ·exact ⟨fR, fR1 g1, ⟨_, fR1 g3, by (try simp) <;> omega⟩, hE⟩
 ·clear g1 g3 hs hE s fr
  rintro k fr σ' hk ⟨g4, g1, ⟨s, g3, hs⟩, hE⟩
  have hc := lt_true hk
  have w1 : σ'.row σ.n = some ca := by rw [hE.row (by simp)]; exact cL
  have hEn := hE.n
  simp only [new_n] at hEn
  have hE0 : Ext σ σ' := E0.trans hE
  obtain ⟨x, hx⟩ := at_some hk
  obtain ⟨sp, rfl, l3, l4⟩ := r1 (by omega)
  have w2 : σ'.row rb = some rcs := by rw [hE0.row l3]; exact l4
  obtain ⟨m0, m1, -⟩ := r2 k x hx
  have mem := List.mem_of_getElem? hx
  have z1 := hS.req x mem
  obtain ⟨ln, lr, -⟩ := hT.ok.req x mem
  have ln := names_len ln
  unfold Req.row at m0
  refine gT1 (And.intro @g4 (And.intro @g1 (And.intro @g3 (And.intro @hc (And.intro @w1 (And.intro @s3 (And.intro @w2 @m0))))))) ?_;try exact ⟨⟩
  obtain ⟨S, hS'⟩ : ∃ S, ((σ'.new [str [], str [], .int .i64 0]).upd σ'.n [str x.name, str x.rel, .int .i64 x.value]) = S := ⟨_, rfl⟩
  rw [hS']
  have E1 : Ext σ' S := by rw [← hS']; exact eX
  refine (rnum_ok z1).mono ?_
  rintro r ⟨u1, σ2, rfl, hu1, hE2⟩
  simp (maxSteps := 1000000) (disch := first | exact dS | fail) only [↓bD2, bW2, reduceMul, reduceEqDiff, reduceAdd, Nat.reduceBEq, reduceIte, asx hE2, g4, g1]
  try refine Must.intro (by (repeat first | simp (disch := omega) only [as_read, as_upd, as_newb, asx hE2] | rw [as_ord (by kernel_rfl)]); rfl) ?_
  try simp (maxSteps := 1000000) (disch := first | exact dS | fail) only [↓bD2, bW2, reduceMul, reduceEqDiff, reduceAdd, Nat.reduceBEq, reduceIte, g4, g1]
  exact ⟨fR, fR1 g1, ⟨_, fR, by simp; omega⟩, hE.trans (E1.trans hE2)⟩
 ·rintro fr σ' ⟨g4, g1, ⟨s, g3, hs⟩, hE⟩
  have w1 : σ'.row σ.n = some ca := by rw [hE.row (by simp)]; exact cL
  refine gT1 (And.intro @g4 (And.intro @g1 (And.intro @w1 @s3))) ?_;try exact ⟨⟩
  exact ⟨_, _, rfl, fR1 g1, ⟨s, fR1 g3, by omega⟩, hE⟩
 clear g1 g3 hs hE s fr
 rintro r ⟨fr, σ', rfl, g1, ⟨s, g3, hs⟩, hE⟩
 refine Ev.mono (R := fun r => r = ⟨.normal, fr, σ'⟩) (v := ⟨⟩) (by simp (maxSteps := 1000000) (disch := first | exact dS | fail) only [↓bD2, bW2, reduceMul, reduceEqDiff, reduceAdd, Nat.reduceBEq, reduceIte]) ?_
 rintro r rfl
 simp only [en_normal]
 refine ev_cut (fun fr σ' => fr.get 1 = some (.pointer (some ⟨σ.n, 0, none⟩)) ∧ (∃ s, fr.get 3 = some (str s) ∧ s.length ≤ 60000) ∧ Ext (σ.new ca) σ') ?_ ?_
 ·
  have w1 : σ'.row σ.n = some ca := by rw [hE.row (by simp)]; exact cL
  have hEn := hE.n
  simp only [new_n] at hEn
  have hE0 : Ext σ σ' := E0.trans hE
  refine gT1 (And.intro @g1 (And.intro @g3 (And.intro @w1 @s4))) ?_;try exact ⟨⟩
  refine (rnum_ok hS.low).mono ?_
  rintro r ⟨u1, σ2, rfl, hu1, hE2⟩
  have n2 := hE2.n
  have w2 : σ2.row σ.n = some ca := by rw [hE2.row (by omega)]; exact w1
  refine gT1 (And.intro @g1 (And.intro @w2 @s5)) ?_;try exact ⟨⟩
  refine (rnum_ok hS.high).mono ?_
  rintro r ⟨u2, σ3, rfl, hu2, hE3⟩
  have n3 := hE3.n
  have w3 : σ3.row σ.n = some ca := by rw [hE3.row (by omega)]; exact w2
  have E3 : Ext σ σ3 := hE0.trans (hE2.trans hE3)
  refine gT1 (And.intro @g1 (And.intro @w3 @s6)) ?_;try exact ⟨⟩
  refine (print_ok hf hj (h5.mono E3)).mono ?_
  rintro r ⟨u3, σ4, rfl, hu3, hE4⟩
  simp (maxSteps := 1000000) (disch := first | exact dS | fail) only [↓bD2, bW2, reduceMul, reduceEqDiff, reduceAdd, Nat.reduceBEq, reduceIte, asx hE2, asx hE3, asx hE4, g1]
  try refine Must.intro (by (repeat first | simp (disch := omega) only [as_read, as_upd, as_newb, asx hE2, asx hE3, asx hE4] | rw [as_ord (by kernel_rfl)]); rfl) ?_
  exact ⟨_, _, rfl, fR1 g1, ⟨_, fR, by simp; omega⟩, hE.trans (hE2.trans (hE3.trans hE4))⟩
 clear g1 g3 hs hE s fr σ'
 rintro fr σ' ⟨g1, ⟨s, g3, hs⟩, hE⟩
 refine ev_cut (fun fr σ' => fr.get 1 = some (.pointer (some ⟨σ.n, 0, none⟩)) ∧ (∃ s, fr.get 3 = some (str s) ∧ s.length ≤ 62000) ∧ Ext (σ.new ca) σ') ?_ ?_
 ·
  have w1 : σ'.row σ.n = some ca := by rw [hE.row (by simp)]; exact cL
  have hEn := hE.n
  simp only [new_n] at hEn
  have hE0 : Ext σ σ' := E0.trans hE
  refine gT1 (And.intro @g1 (And.intro @w1 @s7)) ?_;try exact ⟨⟩
  cases ht : decide (0 < (T.ties.length : Int)) with
  | false =>
   refine gT ?_;try exact ⟨⟩
   exact ⟨_, _, rfl, fR1 g1, ⟨_, fR1 g3, by omega⟩, hE⟩
  | true =>
   refine gT1 @g3 ?_;try exact ⟨⟩
   refine ev_count T.ties.length (fun k fr σ' => fr.get 9 = some (.int .i64 k) ∧ fr.get 1 = some (.pointer (some ⟨σ.n, 0, none⟩)) ∧ (∃ s, fr.get 3 = some (str s) ∧ s.length ≤ 60010 + 100 * k) ∧ Ext (σ.new ca) σ')
    (fun r => ∃ fr σ', r = ⟨.exit 6, fr, σ'⟩ ∧ fr.get 1 = some (.pointer (some ⟨σ.n, 0, none⟩)) ∧ (∃ s, fr.get 3 = some (str s) ∧ s.length ≤ 61900) ∧ Ext (σ.new ca) σ') ?_ ?_ ?_ ?_
   ·exact ⟨fR, fR1 g1, ⟨_, fR1 g3, by (try simp) <;> omega⟩, hE⟩
   ·clear g1 g3 hs hE s fr
    rintro k fr σ' hk ⟨g4, g1, ⟨s, g3, hs⟩, hE⟩
    have hc := lt_true hk
    have w1 : σ'.row σ.n = some ca := by rw [hE.row (by simp)]; exact cL
    have hEn := hE.n
    simp only [new_n] at hEn
    have hE0 : Ext σ σ' := E0.trans hE
    obtain ⟨x, hx⟩ := at_some hk
    obtain ⟨sp, rfl, l3, l4⟩ := t1 (by omega)
    have w2 : σ'.row tb = some tcs := by rw [hE0.row l3]; exact l4
    have m1 := t2 k x hx
    have ln := names_len (hT.ok.tie x (List.mem_of_getElem? hx))
    refine gT1 (And.intro @g4 (And.intro @g1 (And.intro @g3 (And.intro @hc (And.intro @w1 (And.intro @s7 (And.intro @w2 @m1))))))) ?_;try exact ⟨⟩
    exact ⟨fR, fR1 g1, ⟨_, fR, by simp; omega⟩, hE⟩
   ·rintro fr σ' ⟨g4, g1, ⟨s, g3, hs⟩, hE⟩
    have w1 : σ'.row σ.n = some ca := by rw [hE.row (by simp)]; exact cL
    refine gT1 (And.intro @g4 (And.intro @g1 (And.intro @w1 @s7))) ?_;try exact ⟨⟩
    exact ⟨_, _, rfl, fR1 g1, ⟨s, fR1 g3, by omega⟩, hE⟩
   rintro r ⟨fr, σ', rfl, g1, ⟨s, g3, hs⟩, hE⟩
   refine gT1 @g3 ?_;try exact ⟨⟩
   exact ⟨_, _, rfl, fR1 g1, ⟨_, fR, by simp; omega⟩, hE⟩
 clear g1 g3 hs hE s fr σ'
 rintro fr σ' ⟨g1, ⟨s, g3, hs⟩, hE⟩
 refine ev_cut (fun fr σ' => fr.get 1 = some (.pointer (some ⟨σ.n, 0, none⟩)) ∧ (∃ s, fr.get 3 = some (str s) ∧ s.length ≤ 62100) ∧ Ext (σ.new ca) σ') ?_ ?_
 ·
  have w1 : σ'.row σ.n = some ca := by rw [hE.row (by simp)]; exact cL
  have hEn := hE.n
  simp only [new_n] at hEn
  have hE0 : Ext σ σ' := E0.trans hE
  refine gT1 (And.intro @g1 (And.intro @w1 @s8)) ?_;try exact ⟨⟩
  cases hm : decide (T.most = 0) with
  | true =>
   refine gT ?_;try exact ⟨⟩
   exact ⟨_, _, rfl, fR1 g1, ⟨_, fR1 g3, by omega⟩, hE⟩
  | false =>
   refine gT1 (And.intro @g1 (And.intro @g3 (And.intro @w1 @s8))) ?_;try exact ⟨⟩
   refine (rnum_ok hS.most).mono ?_
   rintro r ⟨u1, σ2, rfl, hu1, hE2⟩
   refine gT ?_;try exact ⟨⟩
   exact ⟨_, _, rfl, fR1 g1, ⟨_, fR, by simp; omega⟩, hE.trans hE2⟩
 clear g1 g3 hs hE s fr σ'
 rintro fr σ' ⟨g1, ⟨s, g3, hs⟩, hE⟩
 refine gT ?_;try exact ⟨⟩
 refine ev_count vs.length (fun k fr σ' => fr.get 10 = some (.int .i64 k) ∧ fr.get 1 = some (.pointer (some ⟨σ.n, 0, none⟩)) ∧ (∃ s, fr.get 3 = some (str s) ∧ s.length ≤ 62100 + 200 * k) ∧ Ext (σ.new ca) σ')
  (fun r => ∃ fr σ', r = ⟨.exit 8, fr, σ'⟩ ∧ fr.get 1 = some (.pointer (some ⟨σ.n, 0, none⟩)) ∧ (∃ s, fr.get 3 = some (str s) ∧ s.length ≤ 66000) ∧ Ext (σ.new ca) σ') ?_ ?_ ?_ ?_
 ·exact ⟨fR, fR1 g1, ⟨_, fR1 g3, by (try simp) <;> omega⟩, hE⟩
 ·clear g1 g3 hs hE s fr
  rintro k fr σ' hk ⟨g4, g1, ⟨s, g3, hs⟩, hE⟩
  have hc := lt_true hk
  have w1 : σ'.row σ.n = some ca := by rw [hE.row (by simp)]; exact cL
  have hEn := hE.n
  simp only [new_n] at hEn
  have hE0 : Ext σ σ' := E0.trans hE
  obtain ⟨x, hx⟩ := at_some hk
  obtain ⟨C, hC⟩ := at_some (show k < T.combos.length by omega)
  obtain ⟨ia, ic, ib, io, ics, rfl, i1, i2⟩ := (h8.get hx hC).use
  have LC := (hT.ok.combo C (List.mem_of_getElem? hC)).1
  obtain ⟨sp, rfl, l3, l4⟩ := k1 (by omega)
  have w2 : σ'.row kb = some kcs := by rw [hE0.row l3]; exact l4
  have m1 := k2 k _ hx
  rw [Nat.mul_one] at m1
  refine gT1 (And.intro @g4 (And.intro @g1 (And.intro @g3 (And.intro @hc (And.intro @w1 @s9))))) ?_;try exact ⟨⟩
  refine ev_count C.length (fun i fr τ => fr.get 11 = some (.int .i64 i) ∧ fr.get 10 = some (.int .i64 k) ∧ fr.get 1 = some (.pointer (some ⟨σ.n, 0, none⟩)) ∧ (∃ s, fr.get 3 = some (str s) ∧ s.length ≤ 62110 + 200 * k + 20 * i) ∧ Ext (σ.new ca) τ)
   (fun r => ∃ fr τ, r = ⟨.exit 10, fr, τ⟩ ∧ fr.get 10 = some (.int .i64 k) ∧ fr.get 1 = some (.pointer (some ⟨σ.n, 0, none⟩)) ∧ (∃ s, fr.get 3 = some (str s) ∧ s.length ≤ 62200 + 200 * k) ∧ Ext (σ.new ca) τ) ?_ ?_ ?_ ?_
  ·exact ⟨fR, fR1 g4, fR1 g1, ⟨_, fR, by simp; omega⟩, hE⟩
  ·clear g4 g1 g3 hs s fr
   rintro i fr τ hi ⟨g11, g10, g1, ⟨s, g3, hs⟩, hF⟩
   have hc := lt_true hi
   obtain ⟨y, hy⟩ := at_some hi
   obtain ⟨sp', rfl, l5, l6⟩ := i1 (by omega)
   have zy := hS.combo C (List.mem_of_getElem? hC) y (List.mem_of_getElem? hy)
   have hF0 : Ext σ τ := E0.trans hF
   have v1 : τ.row σ.n = some ca := by rw [hF.row (by simp)]; exact cL
   have v2 : τ.row kb = some kcs := by rw [hF0.row l3]; exact l4
   have v3 : τ.row ib = some ics := by rw [hF0.row l5]; exact l6
   have n1 := i2 i y hy
   refine gT1 (And.intro @g11 (And.intro @g10 (And.intro @g1 (And.intro @g3 (And.intro @hc (And.intro @v1 (And.intro @s9 (And.intro @v2 (And.intro @m1 (And.intro @v3 @n1)))))))))) ?_;try exact ⟨⟩
   refine (rnum_ok zy).mono ?_
   rintro r ⟨u1, σ2, rfl, hu1, hE2⟩
   refine gT1 @g11 ?_;try exact ⟨⟩
   exact ⟨fR, fR1 g10, fR1 g1, ⟨_, fR, by simp; omega⟩, hF.trans hE2⟩
  ·clear g4 g1 g3 hs s fr
   rintro fr τ ⟨g11, g10, g1, ⟨s, g3, hs⟩, hF⟩
   have hF0 : Ext σ τ := E0.trans hF
   have v1 : τ.row σ.n = some ca := by rw [hF.row (by simp)]; exact cL
   have v2 : τ.row kb = some kcs := by rw [hF0.row l3]; exact l4
   refine gT1 (And.intro @g11 (And.intro @g10 (And.intro @g1 (And.intro @v1 (And.intro @s9 (And.intro @v2 @m1)))))) ?_;try exact ⟨⟩
   exact ⟨_, _, rfl, fR1 g10, fR1 g1, ⟨s, fR1 g3, by omega⟩, hF⟩
  clear g4 g1 g3 hs s fr
  rintro r ⟨fr, τ, rfl, g4, g1, ⟨s, g3, hs⟩, hF⟩
  refine gT1 (And.intro @g4 @g3) ?_;try exact ⟨⟩
  exact ⟨fR, fR1 g1, ⟨_, fR, by simp; omega⟩, hF⟩
 ·rintro fr σ' ⟨g4, g1, ⟨s, g3, hs⟩, hE⟩
  have w1 : σ'.row σ.n = some ca := by rw [hE.row (by simp)]; exact cL
  refine gT1 (And.intro @g4 (And.intro @g1 (And.intro @w1 @s9))) ?_;try exact ⟨⟩
  exact ⟨_, _, rfl, fR1 g1, ⟨s, fR1 g3, by omega⟩, hE⟩
 rintro r ⟨fr, σ', rfl, g1, ⟨s, g3, hs⟩, hE⟩
 have w1 : σ'.row σ.n = some ca := by rw [hE.row (by simp)]; exact cL
 have hEn := hE.n
 simp only [new_n] at hEn
 have hE0 : Ext σ σ' := E0.trans hE
 refine gT1 (And.intro @g1 (And.intro @w1 @s15)) ?_;try exact ⟨⟩
 obtain ⟨S, hS'⟩ : ∃ S, ((σ'.new [.int .i64 0, .int .i64 0, .int .i64 0, .int .i64 0, .int .i64 0]).upd σ'.n [.int .i64 T.t.q, .int .i64 T.t.b, .int .i64 T.t.g, .int .i64 T.t.p, .int .i64 T.t.s]) = S := ⟨_, rfl⟩
 rw [hS']
 have E1 : Ext σ' S := by rw [← hS']; exact eX
 have nS : S.n = σ'.n + 1 := by rw [← hS']; rfl
 have wS : S.row σ'.n = some [.int .i64 T.t.q, .int .i64 T.t.b, .int .i64 T.t.g, .int .i64 T.t.p, .int .i64 T.t.s] := by rw [← hS']; exact cL
 have w1 : S.row σ.n = some ca := by rw [E1.row (by omega)]; exact w1
 have EF := hE0.trans E1
 refine gT1 (And.intro @g1 (And.intro @g3 (And.intro @w1 @s10))) ?_;try exact ⟨⟩
 refine (rnum_ok hS.budget).mono ?_
 rintro r ⟨u1, σ2, rfl, hu1, hE2⟩
 have n2 := hE2.n
 have wS : σ2.row σ'.n = some [.int .i64 T.t.q, .int .i64 T.t.b, .int .i64 T.t.g, .int .i64 T.t.p, .int .i64 T.t.s] := by rw [hE2.row (by omega)]; exact wS
 have EF := EF.trans hE2
 refine gT1 @wS ?_;try exact ⟨⟩
 refine (rnum_ok hS.tim.1).mono ?_
 rintro r ⟨v0, σ3, rfl, hv0, hF0⟩
 have m0 := hF0.n
 have wS : σ3.row σ'.n = some [.int .i64 T.t.q, .int .i64 T.t.b, .int .i64 T.t.g, .int .i64 T.t.p, .int .i64 T.t.s] := by rw [hF0.row (by omega)]; exact wS
 have EF := EF.trans hF0
 refine gT1 @wS ?_;try exact ⟨⟩
 refine (rnum_ok hS.tim.2.1).mono ?_
 rintro r ⟨v1, σ4, rfl, hv1, hF1⟩
 have m1 := hF1.n
 have wS : σ4.row σ'.n = some [.int .i64 T.t.q, .int .i64 T.t.b, .int .i64 T.t.g, .int .i64 T.t.p, .int .i64 T.t.s] := by rw [hF1.row (by omega)]; exact wS
 have EF := EF.trans hF1
 refine gT1 @wS ?_;try exact ⟨⟩
 refine (rnum_ok hS.tim.2.2.1).mono ?_
 rintro r ⟨v2, σ5, rfl, hv2, hF2⟩
 have m2 := hF2.n
 have wS : σ5.row σ'.n = some [.int .i64 T.t.q, .int .i64 T.t.b, .int .i64 T.t.g, .int .i64 T.t.p, .int .i64 T.t.s] := by rw [hF2.row (by omega)]; exact wS
 have EF := EF.trans hF2
 refine gT1 @wS ?_;try exact ⟨⟩
 refine (rnum_ok hS.tim.2.2.2.1).mono ?_
 rintro r ⟨v3, σ6, rfl, hv3, hF3⟩
 have m3 := hF3.n
 have wS : σ6.row σ'.n = some [.int .i64 T.t.q, .int .i64 T.t.b, .int .i64 T.t.g, .int .i64 T.t.p, .int .i64 T.t.s] := by rw [hF3.row (by omega)]; exact wS
 have EF := EF.trans hF3
 refine gT1 @wS ?_;try exact ⟨⟩
 refine (rnum_ok hS.tim.2.2.2.2).mono ?_
 rintro r ⟨v4, σ7, rfl, hv4, hF4⟩
 have m4 := hF4.n
 have wS : σ7.row σ'.n = some [.int .i64 T.t.q, .int .i64 T.t.b, .int .i64 T.t.g, .int .i64 T.t.p, .int .i64 T.t.s] := by rw [hF4.row (by omega)]; exact wS
 have EF := EF.trans hF4
 simp (maxSteps := 1000000) (disch := first | exact dS | fail) only [↓bD2, bW2, reduceMul, reduceEqDiff, reduceAdd, Nat.reduceBEq, reduceIte, asx hF0, asx hF1, asx hF2, asx hF3, asx hF4, Tryz.results97]
 try refine Must.intro (by (repeat first | simp (disch := omega) only [as_read, as_upd, as_newb, asx hF0, asx hF1, asx hF2, asx hF3, asx hF4] | rw [as_ord (by kernel_rfl)]); rfl) ?_
 try simp (maxSteps := 1000000) (disch := first | exact dS | fail) only [↓bD2, bW2, reduceMul, reduceEqDiff, reduceAdd, Nat.reduceBEq, reduceIte, Tryz.results97]
 exact ⟨_, _, rfl, by simp; omega, EF⟩
end Go.Proofs.G
