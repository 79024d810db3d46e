/- A part of the proof: a walk of some functions. -/
import Derived.Test.YtcjkjjnnicadfaaGreatDoorGB
import Derived.Test.YtcjkjjnnicadfaaGreatDoorG62
import Derived.Test.YtcjkjjnnicadfaaGreatDoorGE
import Derived.Test.YtcjkjjnnicadfaaGreatDoorG34
set_option linter.unusedSimpArgs false
set_option linter.unusedVariables false
namespace Go.Proofs.G
open Go Go.Ab
open Nat (reduceMul reduceEqDiff reduceAdd)
set_option maxRecDepth 100000
section
variable {p : By → Bool}
theorem filt_step : ∀ {l : List By} {k : Nat} {a : By}, l[k]? = some a → (l.take (k + 1)).filter p = (l.take k).filter p ++ [a].filter p
 | x :: l, 0, a, h => by
  obtain rfl : x = a := by simpa using h
  simp
 | x :: l, k + 1, a, h => by
  have h' : l[k]? = some a := by simpa using h
  rw [List.take_succ_cons, List.take_succ_cons, List.filter_cons, List.filter_cons, filt_step h']
  split <;> rfl
theorem filt_at : ∀ {l : List By} {k : Nat} {a : By}, l[k]? = some a → p a = true → (l.filter p)[((l.take k).filter p).length]? = some a
 | x :: l, 0, a, h, hp => by
  obtain rfl : x = a := by simpa using h
  simp [hp]
 | x :: l, k + 1, a, h, hp => by
  have h' : l[k]? = some a := by simpa using h
  rw [List.take_succ_cons, List.filter_cons, List.filter_cons]
  split
  ·simpa using filt_at h' hp
  ·exact filt_at h' hp
end
theorem later_0 {n : Int} (h : n < 1000000000) : later n n 0 = n := by unfold later; rw [if_pos (by omega)]; omega
theorem by_zero {T U : Tn} : byP T U = 0 ↔ (movesP T U).length = 0 := by
 constructor
 ·intro h
  cases hm : movesP T U with
  | nil => rfl
  | cons c l =>
   exfalso
   have hc : dist c ≠ 0 := by
    have : c ∈ movesP T U := by rw [hm]; simp
    unfold movesP at this
    have := (List.mem_filter.1 this).2
    simpa using this
   have mono : ∀ (l : List By) (m : Int), m ≤ l.foldl (fun m c => max m (dist c)) m := by
    intro l
    induction l with
    | nil => intro m; exact Int.le_refl _
    | cons a l ih => intro m; rw [List.foldl_cons]; exact Int.le_trans (by omega) (ih _)
   have hp : 0 < dist c := by
    unfold dist at hc ⊢
    by_cases h1 : c = nameC
    ·rw [if_pos h1] at hc; exact absurd rfl hc
    ·by_cases h2 : c = timesC
     ·rw [if_neg h1, if_pos h2] at hc; exact absurd rfl hc
     ·rw [if_neg h1, if_neg h2]; split <;> omega
   unfold byP at h
   rw [hm, List.foldl_cons] at h
   have := mono l (max 0 (dist c))
   omega
 ·intro h
  unfold byP
  rw [List.eq_nil_of_length_eq_zero h]
  rfl
theorem moved_same {T U : Tn} (hb : byP T U = byOf T U) (ht : U.t = T.t) (h : T.t.b < 1000000 ∧ T.t.g < 1000000 ∧ T.t.p < 1000000) : decide (moved T U = T.t) = decide (((movesP T U).length : Int) = 0) := by
 have hz := by_zero (T := T) (U := U)
 rw [hb] at hz
 have hc := byOf_cases T U
 by_cases e : (movesP T U).length = 0
 ·rw [decide_eq_true (show ((movesP T U).length : Int) = 0 by omega), decide_eq_true_iff]
  unfold moved
  rw [hz.2 e, ht, later_0 (by omega), later_0 (by omega), later_0 (by omega)]
 ·rw [decide_eq_false (show ¬ ((movesP T U).length : Int) = 0 by omega), decide_eq_false_iff_not]
  intro hm
  have h1 : (moved T U).b = T.t.b := by rw [hm]
  have : byOf T U ≠ 0 := fun h => e (hz.1 h)
  unfold moved later at h1
  rw [ht] at h1
  simp only at h1
  rw [if_pos (by omega)] at h1
  omega
set_option maxHeartbeats 8000000 in
theorem law_moves_ok {σ : St} {v : Value} {l : List Int} {a0 a1 a2 b0 b1 b2 : Int} (hl : ArgInts σ v l) (hll : l.length ≤ 9223372036854775807) (ha : In64 a0 ∧ In64 a1 ∧ In64 a2) (hb : In64 b0 ∧ In64 b1 ∧ In64 b2) :
  Ev (go Tryz.prog HS (.fn 4) [v, .agg ⟨[.int .i64 a0, .int .i64 a1, .int .i64 a2, .int .i64 b0, .int .i64 b1, .int .i64 b2]⟩] σ) (fun r => ∃ σ', r = ⟨false, .bool true, σ'⟩) ⟨⟩ := by
 have hv : ∃ a n c, v = .slice a n c := by
  obtain ⟨a, c, b, off, cells, h, -⟩ := hl.1.use; exact ⟨a, _, c, h⟩
 have hvc : cellsL v = [v] ∧ isTup v = false := by obtain ⟨a, n, c, rfl⟩ := hv; exact ⟨rfl, rfl⟩
 obtain ⟨q, hq⟩ : ∃ q : List Value, [.int .i64 a0, .int .i64 a1, .int .i64 a2, .int .i64 b0, .int .i64 b1, .int .i64 b2] = q := ⟨_, rfl⟩
 rw [hq]
 have y0 : sub q 0 3 = some [.int .i64 a0, .int .i64 a1, .int .i64 a2] := by rw [← hq]; rfl
 have y1 : sub q 3 3 = some [.int .i64 b0, .int .i64 b1, .int .i64 b2] := by rw [← hq]; rfl
 have yl : q.length = 6 := by rw [← hq]; rfl
 have yf : sub q 0 6 = some q := sub_full (by omega) (by omega)
 refine ev_go Tryz.func4 rfl rfl ?_
 simp (maxSteps := 1000000) (disch := first | exact dS | fail) only [↓bD2, bW2, reduceMul, reduceEqDiff, reduceAdd, Nat.reduceBEq, reduceIte, hvc.1, hvc.2, ev_san, yl, yf]
 have E1 : Ext σ (σ.new q) := eX
 refine (good_ok (σ := σ.new q) (l := l) [] (fun c hc => by cases hc) ⟨SL.mono hl.1 E1, hl.2⟩ hll).mono ?_
 rintro r ⟨ca, T, σ2, rfl, hE2, hTX, hG⟩
 have n2 := hE2.n
 simp only [new_n] at n2
 have lca := hTX.tn.len
 have fca : sub ca 0 20 = some ca := sub_full (by omega) (by omega)
 have q2 : σ2.row σ.n = some q := by rw [hE2.row (by simp)]; exact row_new_same (Nat.le_refl _) (Nat.le_refl _)
 refine gT1 (And.intro @fca (And.intro @q2 @y0)) ?_;try exact ⟨⟩
 obtain ⟨S3, hS3⟩ : ∃ S, ((σ2.new [str [], .slice none 0 0, .slice none 0 0, .slice none 0 0, .int .i64 0, .int .i64 0, str [], .int .i64 0, .int .i64 0, str [], .slice none 0 0, .slice none 0 0, .int .i64 0, .slice none 0 0, .int .i64 0, .int .i64 0, .int .i64 0, .int .i64 0, .int .i64 0, .int .i64 0]).upd σ2.n ca) = S := ⟨_, rfl⟩
 rw [hS3]
 have E3 : Ext σ2 S3 := by rw [← hS3]; exact eX
 have n3 : S3.n = σ2.n + 1 := by rw [← hS3]; rfl
 have c3 : S3.row σ2.n = some ca := by rw [← hS3]; exact row_upd_same
 have q3 : S3.row σ.n = some q := by rw [E3.row (by omega)]; exact q2
 clear hS3
 refine (edit_ok (n := 5) [] (by simp) (hTX.keep (keep_ext E3)) hG.ok hG.le (by omega) ha.1 ha.2.1 ha.2.2).mono ?_
 rintro r ⟨cu, U, σ4, rfl, e4, hU, okU, leU, nmU⟩
 have n4 := e4.n
 have q4 : σ4.row σ.n = some q := by rw [e4.row (by omega)]; exact q3
 refine gT1 (And.intro @q4 @y1) ?_;try exact ⟨⟩
 refine (edit_ok (n := 6) [] (by simp) hU okU leU (by omega) hb.1 hb.2.1 hb.2.2).mono ?_
 rintro r ⟨cw, W, σ5, rfl, e5, hW, okW, leW, nmW⟩
 have n5 := e5.n
 have lcw := hW.tn.len
 have c5 : σ5.row σ2.n = some ca := by rw [e5.row (by omega), e4.row (by omega)]; exact c3
 obtain ⟨y1', y2', y3', z1', z2', z3', z4', z5', y4', y5', hca, -⟩ := sub_self hTX.tn
 obtain ⟨w1, w2, w3, v1, v2, v3, v4, v5, w4, w5, hcw, g1, g2, g3, g4, g5, g6⟩ := sub_self hW.tn
 have sa : sub ca 15 5 = some T.t.row := by rw [hca]; rfl
 have sq : sub ca 15 1 = some [.int .i64 T.t.q] := by rw [hca]; rfl
 have sb : sub ca 16 1 = some [.int .i64 T.t.b] := by rw [hca]; rfl
 have ss : sub ca 19 1 = some [.int .i64 T.t.s] := by rw [hca]; rfl
 obtain ⟨co, hco⟩ : ∃ co : List Value, co = tnRow W.name w1 w2 w3 W.low W.high [v1, v2, v3, v4, v5] w4 W.most w5 W.budget T.t := ⟨_, rfl⟩
 have so : splice cw 15 T.t.row = some co := by rw [hcw, hco]; rfl
 have lo : co.length = 20 := by rw [hco]; rfl
 have fo : sub co 0 20 = some co := sub_full (by omega) (by omega)
 have tl : T.t.row.length = 5 := rfl
 have hO : ∀ {σ'}, Ext σ5 σ' → Good σ' co { W with t := T.t } := fun hE => ⟨⟨w1, w2, w3, [v1, v2, v3, v4, v5], w4, w5, hco, SL.mono g1 hE, SL.mono g2 hE, SL.mono g3 hE, g4.mono hE, g5.mono hE, g6.mono hE⟩, ⟨okW.lots, okW.lot, okW.crits, okW.crit, okW.reqs, okW.req, okW.low, okW.high, okW.ties, okW.tie, okW.most, okW.combos, okW.combo, okW.budget, hG.ok.tim⟩, by show W.name.length ≤ 100; rw [nmW, nmU, hG.nm]; decide⟩
 obtain ⟨V, hV⟩ : ∃ V : Tn, { W with t := T.t } = V := ⟨_, rfl⟩
 rw [hV] at hO
 have hVt : V.t = T.t := by rw [← hV]
 clear hco hcw hca
 have E25 : Ext σ2 σ5 := E3.trans (e4.trans e5)
 simp (maxSteps := 1000000) (disch := first | exact dS | fail) only [↓bD2, bW2, reduceMul, reduceEqDiff, reduceAdd, Nat.reduceBEq, reduceIte, asx e4, asx e5, as_newb, as_upd, lcw, c5, sa, so, tl]
 obtain ⟨S6, hS6⟩ : ∃ S, (((σ5.new [str [], .slice none 0 0, .slice none 0 0, .slice none 0 0, .int .i64 0, .int .i64 0, str [], .int .i64 0, .int .i64 0, str [], .slice none 0 0, .slice none 0 0, .int .i64 0, .slice none 0 0, .int .i64 0, .int .i64 0, .int .i64 0, .int .i64 0, .int .i64 0, .int .i64 0]).upd σ5.n cw).upd σ5.n co) = S := ⟨_, rfl⟩
 rw [hS6]
 have E6 : Ext σ5 S6 := by rw [← hS6]; exact eX
 have n6 : S6.n = σ5.n + 1 := by rw [← hS6]; rfl
 have t6 : S6.row σ2.n = some ca := by rw [E6.row (by omega)]; exact c5
 have u6 : S6.row σ5.n = some co := by rw [← hS6]; exact row_upd_same
 clear hS6
 have gTn : ∀ {τ}, Ext σ2 τ → Good τ ca T := fun hE => ⟨hTX.tn.mono hE, hG.ok, by rw [hG.nm]; decide⟩
 have gV : ∀ {τ}, Ext S6 τ → Good τ co V := fun hE => hO (E6.trans hE)
 have E26 : Ext σ2 S6 := E25.trans E6
 have okV : V.Ok := (gV (Ext.refl _)).ok
 refine (pmoves_ok (gTn E26) (gV (Ext.refl _))).mono ?_
 rintro r ⟨vm, σ7, rfl, e7, hm⟩
 have n7 := e7.n
 have t7 : σ7.row σ2.n = some ca := by rw [e7.row (by omega)]; exact t6
 have u7 : σ7.row σ5.n = some co := by rw [e7.row (by omega)]; exact u6
 obtain ⟨ma, mc, mb, mo, mcs, hmv, m1, m2⟩ := hm.strs.use
 subst hmv
 refine gT1 (And.intro @t7 (And.intro @u7 (And.intro @fca @fo))) ?_;try exact ⟨⟩
 refine (pchanged_ok (gTn (E26.trans e7)) (gV e7)).mono ?_
 rintro r ⟨vw, σ8, rfl, e8, hw⟩
 have n8 := e8.n
 have t8 : σ8.row σ2.n = some ca := by rw [e8.row (by omega)]; exact t7
 have u8 : σ8.row σ5.n = some co := by rw [e8.row (by omega)]; exact u7
 obtain ⟨wa, wc, wb, wo, wcs, hwv, w1, w2⟩ := hw.strs.use
 subst hwv
 have m1' : 0 < (movesP T V).length → ∃ sp, ma = some ⟨mb, mo, sp⟩ ∧ σ8.row mb = some mcs := fun h => by
  obtain ⟨sp, h1, h2, h3⟩ := m1 h
  exact ⟨sp, h1, by rw [e8.row h2]; exact h3⟩
 refine gT ?_;try exact ⟨⟩
 have lC := changedP_len hG.ok okV
 have lM := movesP_len hG.ok okV
 refine ev_count (changedP T V).length (fun k fr σ' => fr.get 11 = some (.int .i64 k) ∧ fr.get 10 = some (.int .i64 ((((changedP T V).take k).filter fun c => !decide (dist c = 0)).length : Nat)) ∧ fr.get 8 = some (.slice ma (movesP T V).length mc) ∧ fr.get 9 = some (.slice wa (changedP T V).length wc) ∧ fr.get 6 = some (.pointer (some ⟨σ2.n, 0, none⟩)) ∧ fr.get 7 = some (.pointer (some ⟨σ5.n, 0, none⟩)) ∧ fr.get 5 = some (.bool true) ∧ σ' = σ8)
  (fun r => ∃ fr, r = ⟨.exit 0, fr, σ8⟩ ∧ fr.get 10 = some (.int .i64 (movesP T V).length) ∧ fr.get 8 = some (.slice ma (movesP T V).length mc) ∧ fr.get 6 = some (.pointer (some ⟨σ2.n, 0, none⟩)) ∧ fr.get 7 = some (.pointer (some ⟨σ5.n, 0, none⟩)) ∧ fr.get 5 = some (.bool true)) ?_ ?_ ?_ ?_
 ·exact ⟨fR, fR, fR, fR, fR, fR, fR, rfl⟩
 ·rintro k fr σ' hk ⟨g11, g10, g8, g9, g6, g7, g5, rfl⟩
  have hc := lt_true hk
  obtain ⟨a, ha⟩ := at_some hk
  obtain ⟨sp, rfl, l3, l4⟩ := w1 (by omega)
  have l7 := w2 k a ha
  have hst := filt_step (p := fun c => !decide (dist c = 0)) ha
  cases hp : (!decide (dist a = 0)) with
  | false =>
   have hst' : (((changedP T V).take (k + 1)).filter fun c => !decide (dist c = 0)) = ((changedP T V).take k).filter fun c => !decide (dist c = 0) := by rw [hst, List.filter_cons, if_neg (by simp [hp])]; simp
   have hd := dist_zero a
   rw [hp] at hd
   by_cases e1 : a = nameC
   ·subst e1
    have z1 : decide (nameC = [110, 97, 109, 101]) = true := by decide
    refine gT1 (And.intro @g11 (And.intro @g10 (And.intro @g9 (And.intro @hc (And.intro @l4 (And.intro @l7 @z1)))))) ?_;try exact ⟨⟩
    exact ⟨fR, by rw [hst'], fR1 g8, fR1 g9, fR1 g6, fR1 g7, fR1 g5, trivial⟩
   ·by_cases e2 : a = timesC
    ·subst e2
     have z1 : decide (timesC = [110, 97, 109, 101]) = false := by decide
     have z2 : decide (timesC = [116, 105, 109, 101, 115]) = true := by decide
     refine gT1 (And.intro @g11 (And.intro @g10 (And.intro @g9 (And.intro @hc (And.intro @l4 (And.intro @l7 (And.intro @z1 @z2))))))) ?_;try exact ⟨⟩
     exact ⟨fR, by rw [hst'], fR1 g8, fR1 g9, fR1 g6, fR1 g7, fR1 g5, trivial⟩
    ·rw [decide_eq_false e1, decide_eq_false e2] at hd; cases hd
  | true =>
   have hM : (movesP T V)[(((changedP T V).take k).filter fun c => !decide (dist c = 0)).length]? = some a := filt_at ha hp
   have hst' : (((changedP T V).take (k + 1)).filter fun c => !decide (dist c = 0)).length = (((changedP T V).take k).filter fun c => !decide (dist c = 0)).length + 1 := by rw [hst, List.filter_cons, if_pos (by simp [hp])]; simp
   obtain ⟨j, hj⟩ : ∃ j, (((changedP T V).take k).filter fun c => !decide (dist c = 0)).length = j := ⟨_, rfl⟩
   rw [hj] at g10 hM hst'
   have hjl : j < (movesP T V).length := by
    rcases Nat.lt_or_ge j (movesP T V).length with h | h
    ·exact h
    ·rw [List.getElem?_eq_none h] at hM; cases hM
   obtain ⟨sp2, rfl, l5⟩ := m1' (by omega)
   have l8 := m2 j a hM
   have hd := dist_zero a
   rw [hp] at hd
   have e1 : a ≠ nameC := fun h => by rw [decide_eq_true h] at hd; cases hd
   have e2 : a ≠ timesC := fun h => by rw [decide_eq_true h] at hd; simp at hd
   have z1 : decide (a = [110, 97, 109, 101]) = false := decide_eq_false e1
   have z2 : decide (a = [116, 105, 109, 101, 115]) = false := decide_eq_false e2
   have z3 : decide (a = a) = true := by simp
   have hjc := lt_true hjl
   refine gT1 (And.intro @g11 (And.intro @g10 (And.intro @g9 (And.intro @g8 (And.intro @hc (And.intro @l4 (And.intro @l7 (And.intro @z1 (And.intro @z2 (And.intro @z3 (And.intro @hjc (And.intro @l5 @l8)))))))))))) ?_;try exact ⟨⟩
   exact ⟨fR, by rw [hst'], fR1 g8, fR1 g9, fR1 g6, fR1 g7, fR1 g5, trivial⟩
 ·rintro fr σ' ⟨g11, g10, g8, g9, g6, g7, g5, rfl⟩
  rw [List.take_length] at g10
  refine gT1 (And.intro @g11 @g9) ?_;try exact ⟨⟩
  exact ⟨_, rfl, fR1 g10, fR1 g8, fR1 g6, fR1 g7, fR1 g5⟩
 rintro r ⟨fr, rfl, g10, g8, g6, g7, g5⟩
 have h1 := hG.q1
 have h2 := hG.b1
 have h3 := hG.g1
 have h4 := hG.p1
 refine gT1 (And.intro @g6 (And.intro @g7 (And.intro @t8 (And.intro @u8 (And.intro @fca (And.intro @fo @sb)))))) ?_;try exact ⟨⟩
 have E28 : Ext σ2 σ8 := E26.trans (e7.trans e8)
 refine (papply_ok (time := T.t.b - 1) (gTn E28) (gV (e7.trans e8)) (by_same hG.ok okV)).mono ?_
 rintro r ⟨ra, σ9, rfl, e9, hA⟩
 have n9 := e9.n
 have hap : applied T V (T.t.b - 1) = ({ V with t := moved T V }, 0) := by
  unfold applied
  rw [if_neg (by omega), hVt]
  have he : earlierT T.t T.t = false := by unfold earlierT; simp
  rw [he, if_neg (by simp)]
 rw [hap] at hA ⊢
 have lra := hA.len
 have fra : sub ra 0 20 = some ra := sub_full (by omega) (by omega)
 obtain ⟨b1', b2', b3', c1', c2', c3', c4', c5', b4', b5', hra, -⟩ := sub_self hA
 have ra15 : sub ra 15 5 = some (moved T V).row := by rw [hra]; rfl
 have raq : sub ra 15 1 = some [.int .i64 T.t.q] := by rw [hra]; show some [Value.int .i64 V.t.q] = _; rw [hVt]
 have ras : sub ra 19 1 = some [.int .i64 T.t.s] := by rw [hra]; show some [Value.int .i64 V.t.s] = _; rw [hVt]
 clear hra
 have t9 : σ9.row σ2.n = some ca := by rw [e9.row (by omega)]; exact t8
 have z0 : decide ((0 : Int) = 0) = true := by decide
 have zm : decide (((movesP T V).length : Int) = (movesP T V).length) = true := by simp
 have zq : decide (T.t.q = T.t.q) = true := by simp
 have zs : decide (T.t.s = T.t.s) = true := by simp
 have hk := moved_same (by_same hG.ok okV) hVt ⟨by omega, by omega, by omega⟩
 cases hz : decide (((movesP T V).length : Int) = 0)
 all_goals
  rw [hz] at hk
  simp (maxSteps := 1000000) (disch := first | exact dS | fail) only [↓bD2, bW2, reduceMul, reduceEqDiff, reduceAdd, Nat.reduceBEq, reduceIte, g6, g7, g8, g10, g5, lra, t9, ra15, raq, ras, sa, sq, ss, z0, zm, zq, zs, hk, hz, b2_tim.1, bq_bool, yu_t, yu_f, Tryz.results4]
  try exact ⟨_, rfl⟩
end Go.Proofs.G
