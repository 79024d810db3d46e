/- A part of the proof: a walk of some functions. -/
import Derived.Test.YtcjkjjnnicadfaaGreatDoorGD
import Derived.Test.YtcjkjjnnicadfaaGreatDoorGA
set_option linter.unusedSimpArgs false
set_option linter.unusedVariables false
namespace Go.Proofs.G
open Go Go.Ab
open Nat (reduceMul reduceEqDiff reduceAdd)
set_option maxRecDepth 100000
def lotOf (T : Tn) (c : By) : Lot := (T.lots.find? fun l => lotC l.id == c).getD zeroLot
def critOf (T : Tn) (c : By) : Crit := (T.crits.find? fun x => critC x.name == c).getD zeroCrit
def reqOf (T : Tn) (c : By) : Option Req := ((List.range T.reqs.length).find? fun k => c == reqC (k + 1)).bind fun k => T.reqs[k]?
def eqP (T U : Tn) (c : By) : Bool :=
 if c = nameC then decide (T.name = U.name) else if c = rangeC then decide (T.low = U.low) && decide (T.high = U.high) else if c = formulaC then exEqb T.f U.f else if c = tiesC then decide (T.ties = U.ties)
 else if c = mostC then decide (T.most = U.most) else if c = combosC then decide (T.combos = U.combos) else if c = budgetC then decide (T.budget = U.budget) else if c = timesC then decide (T.t = U.t)
 else if lotP.isPrefixOf c = true then decide ((lotOf T c).most = (lotOf U c).most) else if critP.isPrefixOf c = true then decide (critOf T c = critOf U c) else decide (reqOf T c = reqOf U c)
theorem req_inj {k j : Nat} (hk : k < 8) (hj : j < 8) (h : reqC (k + 1) = reqC (j + 1)) : k = j := by
 unfold reqC at h
 rw [List.append_cancel_left_eq, dec_digit (by omega), dec_digit (by omega)] at h
 simp only [List.cons.injEq, and_true] at h
 have := congrArg UInt8.toNat h
 rw [UInt8.toNat_ofNat', UInt8.toNat_ofNat', Nat.mod_eq_of_lt (by omega), Nat.mod_eq_of_lt (by omega)] at this
 omega
theorem reqOf_at {T : Tn} (ok : T.Ok) {k : Nat} {x : Req} (h : T.reqs[k]? = some x) : reqOf T (reqC (k + 1)) = some x := by
 have hk := (List.getElem?_eq_some_iff.1 h).1
 have ok3 := ok.reqs
 unfold reqOf
 rw [find_at (k := k) (a := k) (by simp [hk]) (by simp) fun i b hi hb => ?_]
 ·exact h
 ·obtain rfl : i = b := by
   rw [List.getElem?_range (by omega)] at hb; cases hb; rfl
  cases hq : (reqC (k + 1) == reqC (i + 1)) with
  | false => rfl
  | true => have := req_inj (k := k) (j := i) (by omega) (by omega) (by simpa using hq); omega
theorem pre_app (p s : By) : p.isPrefixOf (p ++ s) = true := by
 rw [List.isPrefixOf_iff_prefix]; exact List.prefix_append _ _
theorem req_of {T : Tn} {c : By} (h : c ∈ clausesR T) (h1 : ¬ c = nameC) (h2 : c ∉ fixedC) (h3 : ¬ lotP.isPrefixOf c = true) (h4 : ¬ critP.isPrefixOf c = true) : ∃ k x, c = reqC (k + 1) ∧ T.reqs[k]? = some x := by
 rcases mem_fold h with h | h
 ·simp at h
 rcases List.mem_append.1 h with h | h
 ·unfold heads at h
  simp only [List.cons_append, List.mem_cons, List.mem_append, List.mem_map, List.mem_range, or_assoc] at h
  rcases h with h | ⟨l, hl, rfl⟩ | ⟨x, hx, rfl⟩ | ⟨k, hk, rfl⟩
  ·exact absurd h h1
  ·exact absurd (pre_app lotP (dec l.id)) h3
  ·exact absurd (pre_app critP x.name) h4
  ·obtain ⟨x, hx⟩ := at_some hk
   exact ⟨k, x, rfl, hx⟩
 ·exact absurd h h2
theorem hasl_ok {σ : St} {c : By} (h : c ∈ allC) : Ev (go Tryz.prog HS (.fn 75) [str c, str [108, 111, 116, 32]] σ) (fun r => r = ⟨false, .bool (lotP.isPrefixOf c), σ⟩) ⟨⟩ := ⟨_, go_of (List.map_inj_left.1 (hasl_all σ) c h), rfl⟩
theorem hasc_ok {σ : St} {c : By} (h : c ∈ allC) : Ev (go Tryz.prog HS (.fn 75) [str c, str [99, 114, 105, 116, 101, 114, 105, 111, 110, 32]] σ) (fun r => r = ⟨false, .bool (critP.isPrefixOf c), σ⟩) ⟨⟩ := ⟨_, go_of (List.map_inj_left.1 (hasc_all σ) c h), rfl⟩
set_option maxHeartbeats 8000000 in
theorem equal_ok {σ : St} {ca cb : List Value} {T U : Tn} {c : By} (hT : Good σ ca T) (hU : Good σ cb U) (hcT : c ∈ clausesR T) (hcU : c ∈ clausesR U) :
  Ev (go Tryz.prog HS (.fn 46) [.agg ⟨ca⟩, .agg ⟨cb⟩, str c] σ) (fun r => ∃ σ', r = ⟨false, .bool (eqP T U c), σ'⟩ ∧ Ext σ σ') ⟨⟩ := by
 obtain ⟨vl, vc, vr, x1, x2, x3, x4, x5, vt, vk, ha0, u1, u2, u3, u4, u5, u6⟩ := sub_self hT.at'
 obtain ⟨vl', vc', vr', x1', x2', x3', x4', x5', vt', vk', hb0, u1', u2', u3', u4', u5', u6'⟩ := sub_self hU.at'
 have hca := hT.len
 have hcb := hU.len
 have hfa : sub ca 0 20 = some ca := sub_full (by omega) (by omega)
 have hfb : sub cb 0 20 = some cb := sub_full (by omega) (by omega)
 have hall := clauses_allC hT.ok hcT
 have q0 : sub ca 0 1 = some [str T.name] := by rw [ha0]; rfl
 have p0 : sub cb 0 1 = some [str U.name] := by rw [hb0]; rfl
 have q4 : sub ca 4 1 = some [.int .i64 T.low] := by rw [ha0]; rfl
 have p4 : sub cb 4 1 = some [.int .i64 U.low] := by rw [hb0]; rfl
 have q5 : sub ca 5 1 = some [.int .i64 T.high] := by rw [ha0]; rfl
 have p5 : sub cb 5 1 = some [.int .i64 U.high] := by rw [hb0]; rfl
 have q12 : sub ca 12 1 = some [.int .i64 T.most] := by rw [ha0]; rfl
 have p12 : sub cb 12 1 = some [.int .i64 U.most] := by rw [hb0]; rfl
 have q14 : sub ca 14 1 = some [.int .i64 T.budget] := by rw [ha0]; rfl
 have p14 : sub cb 14 1 = some [.int .i64 U.budget] := by rw [hb0]; rfl
 have q1 : sub ca 1 1 = some [vl] := by rw [ha0]; rfl
 have p1 : sub cb 1 1 = some [vl'] := by rw [hb0]; rfl
 have q2 : sub ca 2 1 = some [vc] := by rw [ha0]; rfl
 have p2 : sub cb 2 1 = some [vc'] := by rw [hb0]; rfl
 have q3 : sub ca 3 1 = some [vr] := by rw [ha0]; rfl
 have p3 : sub cb 3 1 = some [vr'] := by rw [hb0]; rfl
 have q11 : sub ca 11 1 = some [vt] := by rw [ha0]; rfl
 have p11 : sub cb 11 1 = some [vt'] := by rw [hb0]; rfl
 have q13 : sub ca 13 1 = some [vk] := by rw [ha0]; rfl
 have p13 : sub cb 13 1 = some [vk'] := by rw [hb0]; rfl
 have q15 : sub ca 15 5 = some T.t.row := by rw [ha0]; rfl
 have p15 : sub cb 15 5 = some U.t.row := by rw [hb0]; rfl
 have q6 : sub ca 6 5 = some [x1, x2, x3, x4, x5] := by rw [ha0]; rfl
 have p6 : sub cb 6 5 = some [x1', x2', x3', x4', x5'] := by rw [hb0]; rfl
 have htl : T.t.row.length = 5 := rfl
 have htl' : U.t.row.length = 5 := rfl
 have okT := hT.ok
 have okU := hU.ok
 clear ha0 hb0
 have ext3 : Ext σ (((σ.new ca).new cb).new [str c]) := eX
 refine ev_go Tryz.func46 rfl rfl ?_
 cases d1 : decide (c = [110, 97, 109, 101]) with
 | true =>
  have hr : eqP T U c = decide (T.name = U.name) := by unfold eqP; rw [if_pos (show c = nameC from of_decide_eq_true d1)]
  refine gS1 (And.intro @d1 (And.intro @q0 (And.intro @p0 (And.intro @hr @Tryz.results46)))) ?_;try exact ⟨⟩
  exact ⟨_, rfl, ext3⟩
 | false =>
 have n1 : ¬ c = nameC := of_decide_eq_false d1
 cases d2 : decide (c = [114, 97, 110, 103, 101]) with
 | true =>
  have hr : eqP T U c = (decide (T.low = U.low) && decide (T.high = U.high)) := by unfold eqP; rw [if_neg n1, if_pos (show c = rangeC from of_decide_eq_true d2)]
  rw [hr]
  cases d : decide (T.low = U.low) with
  | true => simp (maxSteps := 1000000) (disch := first | exact dS | fail) only [↓bD, bW, reduceMul, reduceEqDiff, reduceAdd, Nat.reduceBEq, reduceIte, d1, d2, d, q4, p4, q5, p5, Bool.true_and, Tryz.results46]; exact ⟨_, rfl, ext3⟩
  | false => simp (maxSteps := 1000000) (disch := first | exact dS | fail) only [↓bD, bW, reduceMul, reduceEqDiff, reduceAdd, Nat.reduceBEq, reduceIte, d1, d2, d, q4, p4, q5, p5, Bool.false_and, Tryz.results46]; exact ⟨_, rfl, ext3⟩
 | false =>
 have n2 : ¬ c = rangeC := of_decide_eq_false d2
 cases d3 : decide (c = [102, 111, 114, 109, 117, 108, 97]) with
 | true =>
  have hr : eqP T U c = exEqb T.f U.f := by unfold eqP; rw [if_neg n1, if_neg n2, if_pos (show c = formulaC from of_decide_eq_true d3)]
  refine gS1 (And.intro @d1 (And.intro @d2 (And.intro @d3 (And.intro @q6 @p6)))) ?_;try exact ⟨⟩
  refine (psame_ok _ (Nat.lt_succ_self _) (u4.mono ext3) (u4'.mono ext3)).mono ?_
  rintro r ⟨σ2, rfl, e2⟩
  refine gS1 (And.intro @hr @Tryz.results46) ?_;try exact ⟨⟩
  exact ⟨_, rfl, ext3.trans e2⟩
 | false =>
 have n3 : ¬ c = formulaC := of_decide_eq_false d3
 cases d4 : decide (c = [116, 105, 101, 115]) with
 | true =>
  have hr : eqP T U c = decide (T.ties = U.ties) := by unfold eqP; rw [if_neg n1, if_neg n2, if_neg n3, if_pos (show c = tiesC from of_decide_eq_true d4)]
  obtain ⟨ta, tc, tb, to, tcs, rfl, -, -⟩ := u5.use
  obtain ⟨ta', tc', tb', to', tcs', rfl, -, -⟩ := u5'.use
  refine gS1 (And.intro @d1 (And.intro @d2 (And.intro @d3 (And.intro @d4 (And.intro @q11 @p11))))) ?_;try exact ⟨⟩
  refine (sliceseq_str_ok (u5.mono ext3) (u5'.mono ext3) (by have := okT.ties; omega) (by have := okU.ties; omega)).mono ?_
  rintro r rfl
  refine gS1 (And.intro @hr @Tryz.results46) ?_;try exact ⟨⟩
  exact ⟨_, rfl, ext3⟩
 | false =>
 have n4 : ¬ c = tiesC := of_decide_eq_false d4
 cases d5 : decide (c = [109, 111, 115, 116]) with
 | true =>
  have hr : eqP T U c = decide (T.most = U.most) := by unfold eqP; rw [if_neg n1, if_neg n2, if_neg n3, if_neg n4, if_pos (show c = mostC from of_decide_eq_true d5)]
  refine gS1 (And.intro @d1 (And.intro @d2 (And.intro @d3 (And.intro @d4 (And.intro @d5 (And.intro @q12 (And.intro @p12 (And.intro @hr @Tryz.results46)))))))) ?_;try exact ⟨⟩
  exact ⟨_, rfl, ext3⟩
 | false =>
 have n5 : ¬ c = mostC := of_decide_eq_false d5
 cases d6 : decide (c = [99, 111, 109, 98, 111, 115]) with
 | true =>
  have hr : eqP T U c = decide (T.combos = U.combos) := by unfold eqP; rw [if_neg n1, if_neg n2, if_neg n3, if_neg n4, if_neg n5, if_pos (show c = combosC from of_decide_eq_true d6)]
  obtain ⟨kvs, k71, k72⟩ := id u6
  obtain ⟨ka, kc, kb, ko, kcs, rfl, -, -⟩ := SL.use' k71
  obtain ⟨kvs', k71', k72'⟩ := id u6'
  obtain ⟨ka', kc', kb', ko', kcs', rfl, -, -⟩ := SL.use' k71'
  refine gS1 (And.intro @d1 (And.intro @d2 (And.intro @d3 (And.intro @d4 (And.intro @d5 (And.intro @d6 (And.intro @q13 @p13))))))) ?_;try exact ⟨⟩
  refine (eqcombos_ok (u6.mono ext3) (u6'.mono ext3) (by have := okT.combos; omega) (by have := okU.combos; omega) (fun x hx => by have := (okT.combo x hx).1; omega) (fun x hx => by have := (okU.combo x hx).1; omega)).mono ?_
  rintro r rfl
  refine gS1 (And.intro @hr @Tryz.results46) ?_;try exact ⟨⟩
  exact ⟨_, rfl, ext3⟩
 | false =>
 have n6 : ¬ c = combosC := of_decide_eq_false d6
 cases d7 : decide (c = [98, 117, 100, 103, 101, 116]) with
 | true =>
  have hr : eqP T U c = decide (T.budget = U.budget) := by unfold eqP; rw [if_neg n1, if_neg n2, if_neg n3, if_neg n4, if_neg n5, if_neg n6, if_pos (show c = budgetC from of_decide_eq_true d7)]
  refine gS1 (And.intro @d1 (And.intro @d2 (And.intro @d3 (And.intro @d4 (And.intro @d5 (And.intro @d6 (And.intro @d7 (And.intro @q14 (And.intro @p14 (And.intro @hr @Tryz.results46)))))))))) ?_;try exact ⟨⟩
  exact ⟨_, rfl, ext3⟩
 | false =>
 have n7 : ¬ c = budgetC := of_decide_eq_false d7
 cases d8 : decide (c = [116, 105, 109, 101, 115]) with
 | true =>
  have hr : eqP T U c = decide (T.t = U.t) := by unfold eqP; rw [if_neg n1, if_neg n2, if_neg n3, if_neg n4, if_neg n5, if_neg n6, if_neg n7, if_pos (show c = timesC from of_decide_eq_true d8)]
  simp (maxSteps := 1000000) (disch := first | exact dS | fail) only [↓bD, bW, reduceMul, reduceEqDiff, reduceAdd, Nat.reduceBEq, reduceIte, d1, d2, d3, d4, d5, d6, d7, d8, q15, p15, b2_tim.1, htl, htl', hr, Tryz.results46]
  exact ⟨_, rfl, ext3⟩
 | false =>
 have n8 : ¬ c = timesC := of_decide_eq_false d8
 refine gS1 (And.intro @d1 (And.intro @d2 (And.intro @d3 (And.intro @d4 (And.intro @d5 (And.intro @d6 (And.intro @d7 @d8))))))) ?_;try exact ⟨⟩
 refine (hasl_ok hall).mono ?_
 rintro r rfl
 cases d9 : lotP.isPrefixOf c with
 | true =>
  have hr : eqP T U c = decide ((lotOf T c).most = (lotOf U c).most) := by unfold eqP; rw [if_neg n1, if_neg n2, if_neg n3, if_neg n4, if_neg n5, if_neg n6, if_neg n7, if_neg n8, if_pos d9]
  refine gS1 (And.intro @d9 @q1) ?_;try exact ⟨⟩
  refine (find_Lot_ok (p := fun l => lotC l.id == c) (u1.mono ext3) (by have := okT.lots; omega) fun x hx σ' hE => eq2_ok ⟨(okT.lot x hx).1, (okT.lot x hx).2.1⟩ (by have := hE.n; simp at this; omega) (by rw [hE.row (by simp)]; exact cL)).mono ?_
  rintro r ⟨σ4, ok4, rfl, e4⟩
  generalize hx : (List.find? (fun l => lotC l.id == c) T.lots).getD zeroLot = x
  have q0 : x.row = [.int .i64 x.id, .int .i64 x.most] := rfl
  have xl : x.row.length = 2 := rfl
  have n4 := e4.n
  simp only [new_n] at n4
  have w4 : σ4.row (σ.n + 1) = some cb := by rw [e4.row (cL)]; exact cL
  have e40 : Ext σ σ4 := ext3.trans e4
  refine gS1 (And.intro @w4 (And.intro @p1 (And.intro @xl @q0))) ?_;try exact ⟨⟩
  refine (find_Lot_ok (p := fun l => lotC l.id == c) (u1'.mono (eX)) (by have := okU.lots; omega) fun y hy σ' hE => eq2_ok ⟨(okU.lot y hy).1, (okU.lot y hy).2.1⟩ (by have := hE.n; simp at this; omega) (by rw [hE.row (by simp; omega)]; exact cL1 @e4.row)).mono ?_
  rintro r ⟨σ5, ok5, rfl, e5⟩
  generalize hy : (List.find? (fun l => lotC l.id == c) U.lots).getD zeroLot = y
  have q0' : y.row = [.int .i64 y.id, .int .i64 y.most] := rfl
  have yl : y.row.length = 2 := rfl
  have n5 := e5.n
  simp only [new_n, upd_n] at n5
  have w5 : σ5.row σ4.n = some x.row := by rw [e5.row (cL)]; exact cL1 q0
  rw [q0] at w5
  have e50 : Ext σ σ5 := Ext.trans (eX) e5
  rw [hr, show lotOf T c = x from hx, show lotOf U c = y from hy]
  refine gS1 (And.intro @w5 (And.intro @xl (And.intro @yl (And.intro @q0' @Tryz.results46)))) ?_;try exact ⟨⟩
  exact ⟨_, rfl, eX⟩
 | false =>
 refine gS1 @d9 ?_;try exact ⟨⟩
 refine (hasc_ok hall).mono ?_
 rintro r rfl
 cases d10 : critP.isPrefixOf c with
 | true =>
  have hr : eqP T U c = decide (critOf T c = critOf U c) := by unfold eqP; rw [if_neg n1, if_neg n2, if_neg n3, if_neg n4, if_neg n5, if_neg n6, if_neg n7, if_neg n8, if_neg (by rw [d9]; simp), if_pos d10]
  refine gS1 (And.intro @d10 @q2) ?_;try exact ⟨⟩
  refine (find_Crit_ok (p := fun x => critC x.name == c) (u2.mono ext3) (by have := okT.crits; omega) fun x hx σ' hE => eq3_ok (names_len (okT.crit x hx).1) (by have := hE.n; simp at this; omega) (by rw [hE.row (by simp)]; exact cL)).mono ?_
  rintro r ⟨σ4, ok4, rfl, e4⟩
  generalize hx : (List.find? (fun x => critC x.name == c) T.crits).getD zeroCrit = x
  have q0 : x.row = [str x.name, .int .i64 x.kind, .int .i64 x.low, .int .i64 x.high, .bool x.less] := rfl
  have xl : x.row.length = 5 := rfl
  have n4 := e4.n
  simp only [new_n] at n4
  have w4 : σ4.row (σ.n + 1) = some cb := by rw [e4.row (cL)]; exact cL
  have e40 : Ext σ σ4 := ext3.trans e4
  refine gS1 (And.intro @w4 (And.intro @p2 (And.intro @xl @q0))) ?_;try exact ⟨⟩
  refine (find_Crit_ok (p := fun x => critC x.name == c) (u2'.mono (eX)) (by have := okU.crits; omega) fun y hy σ' hE => eq3_ok (names_len (okU.crit y hy).1) (by have := hE.n; simp at this; omega) (by rw [hE.row (by simp; omega)]; exact cL1 @e4.row)).mono ?_
  rintro r ⟨σ5, ok5, rfl, e5⟩
  generalize hy : (List.find? (fun x => critC x.name == c) U.crits).getD zeroCrit = y
  have q0' : y.row = [str y.name, .int .i64 y.kind, .int .i64 y.low, .int .i64 y.high, .bool y.less] := rfl
  have yl : y.row.length = 5 := rfl
  have n5 := e5.n
  simp only [new_n, upd_n] at n5
  have w5 : σ5.row σ4.n = some x.row := by rw [e5.row (cL)]; exact cL1 q0
  rw [q0] at w5
  have e50 : Ext σ σ5 := Ext.trans (eX) e5
  rw [hr, show critOf T c = x from hx, show critOf U c = y from hy]
  have hbc : bin2 Tryz.prog .eql 78 (.tmp 120) (.tmp 121) (.agg ⟨[str x.name, .int .i64 x.kind, .int .i64 x.low, .int .i64 x.high, .bool x.less]⟩) (.agg ⟨[str y.name, .int .i64 y.kind, .int .i64 y.low, .int .i64 y.high, .bool y.less]⟩) = some (.bool (decide (x = y))) := b2_crit.1
  refine gS1 (And.intro @w5 (And.intro @xl (And.intro @yl (And.intro @q0' (And.intro @hbc @Tryz.results46))))) ?_;try exact ⟨⟩
  exact ⟨_, rfl, eX⟩
 | false =>
  have hr : eqP T U c = decide (reqOf T c = reqOf U c) := by unfold eqP; rw [if_neg n1, if_neg n2, if_neg n3, if_neg n4, if_neg n5, if_neg n6, if_neg n7, if_neg n8, if_neg (by rw [d9]; simp), if_neg (by rw [d10]; simp)]
  have nf : c ∉ fixedC := by
   simp only [fixedC, List.mem_cons, List.not_mem_nil, or_false, not_or]
   exact ⟨n2, n3, n4, n5, n6, n7, n8⟩
  obtain ⟨k, x, rfl, hx⟩ := req_of hcT n1 nf (by rw [d9]; simp) (by rw [d10]; simp)
  obtain ⟨j, y, hkj, hy⟩ := req_of hcU n1 nf (by rw [d9]; simp) (by rw [d10]; simp)
  have hk := (List.getElem?_eq_some_iff.1 hx).1
  have hj := (List.getElem?_eq_some_iff.1 hy).1
  have ok3 := okT.reqs
  have ok3' := okU.reqs
  obtain rfl : k = j := req_inj (by omega) (by omega) hkj
  rw [hr, reqOf_at okT hx, reqOf_at okU hy]
  refine gS1 (And.intro @d10 (And.intro @hfa @hfb)) ?_;try exact ⟨⟩
  refine (require_ok (hT.at'.mono ext3) okT hx).mono ?_
  rintro r ⟨σ4, rfl, e4⟩
  have n4' := e4.n
  simp only [new_n] at n4'
  have w4 : σ4.row (σ.n + 1) = some cb := by rw [e4.row (cL)]; exact cL
  have w4c : σ4.row (σ.n + 1 + 1) = some [str (reqC (k + 1))] := by rw [e4.row (cL)]; exact cL
  refine gS1 (And.intro @w4 (And.intro @w4c @hfb)) ?_;try exact ⟨⟩
  refine (require_ok (hU.at'.mono (ext3.trans e4)) okU hy).mono ?_
  rintro r ⟨σ5, rfl, e5⟩
  have hdd : decide (some x = some y) = decide (x = y) := by rw [Bool.eq_iff_iff]; simp
  simp (maxSteps := 1000000) (disch := first | exact dS | fail) only [↓bD, bW, reduceMul, reduceEqDiff, reduceAdd, Nat.reduceBEq, reduceIte, asx e4, asx e5, b2_req.1, hdd, Tryz.results46]
  exact ⟨_, rfl, ext3.trans (e4.trans e5)⟩
end Go.Proofs.G
namespace Go.Proofs.G
open Go Go.Ab
open Nat (reduceMul reduceEqDiff reduceAdd)
set_option maxRecDepth 100000
set_option maxHeartbeats 4000000 in
theorem pboth_ok {σ : St} {ca cb : List Value} {T U : Tn} (hT : Good σ ca T) (hU : Good σ cb U) : Ev (go Tryz.prog HS (.fn 43) [.agg ⟨ca⟩, .agg ⟨cb⟩] σ) (fun r => ∃ v σ', r = ⟨false, v, σ'⟩ ∧ Ext σ σ' ∧ OStrs σ.n σ' v (bothR T U)) ⟨⟩ := by
 refine ev_go Tryz.func43 rfl rfl ?_
 have ext2 : Ext σ ((σ.new ca).new cb) := ((Ext.refl _).new' _).new' _
 have hca := hT.len
 have hcb := hU.len
 have hfa : sub ca 0 20 = some ca := sub_full (by omega) (by omega)
 have hfb : sub cb 0 20 = some cb := sub_full (by omega) (by omega)
 refine gS1 (And.intro @hfa @hfb) ?_;try exact ⟨⟩
 refine (pclauses_ok (hU.mono ext2).at' hU.ok).mono ?_
 rintro r ⟨v, σ2, rfl, e2, hv⟩
 have n2 := e2.n
 have c2 : σ2.row σ.n = some ca := by rw [e2.row (by simp; omega)]; exact cL
 refine gS1 (And.intro @c2 @hfa) ?_;try exact ⟨⟩
 refine (pclauses_ok ((hT.mono ext2).mono e2).at' hT.ok).mono ?_
 rintro r ⟨w, σ3, rfl, e3, hw⟩
 have n3 := e3.n
 have hv3 : OStrs ((σ.new ca).new cb).n σ3 v (clausesR U) := OL.ext hv e3
 have hlT := clausesR_len hT.ok
 have hlU := clausesR_len hU.ok
 have hvw : ∀ b, blkOf v = some b → b < σ2.n := fun b hb => (hv.blk hb).2
 have hwb : ∀ b, blkOf w = some b → σ2.n ≤ b ∧ b < σ3.n := fun b hb => hw.blk hb
 obtain ⟨wa, wc, wb, wo, wcs, rfl, w1, w2⟩ := hw.strs.use
 refine gS ?_;try exact ⟨⟩
 refine ev_count (clausesR T).length (fun k fr σ' => fr.get 13 = some (.int .i64 k) ∧ fr.get 12 = some (.int .i64 (clausesR T).length) ∧ fr.get 11 = some (.slice wa (clausesR T).length wc) ∧ Ext ((σ.new ca).new cb) σ' ∧ σ3.n ≤ σ'.n ∧ (0 < (clausesR T).length → σ'.row wb = some wcs) ∧
   ∃ v, fr.get 5 = some v ∧ OStrs ((σ.new ca).new cb).n σ' v (((clausesR T).take k).foldl addNew (clausesR U)) ∧ (0 < (clausesR T).length → blkOf v ≠ some wb))
  (fun r => ∃ fr σ' v, r = ⟨.exit 0, fr, σ'⟩ ∧ Ext σ σ' ∧ fr.get 5 = some v ∧ OStrs σ.n σ' v (bothR T U)) ?_ ?_ ?_ ?_
 ·refine ⟨fR, fR, fR, e2.trans e3, Nat.le_refl _, fun h => ?_, v, fR, hv3, fun h hb => ?_⟩
  ·obtain ⟨sp, rfl, l3, l4⟩ := w1 h; exact l4
  ·obtain ⟨sp, rfl, l3, l4⟩ := w1 h
   have h1 := hvw _ hb
   have h2 := hwb wb rfl
   omega
 ·rintro k fr σ' hk ⟨g7, g12, g6, hE, hn, hrow, u, g5, hu, hne⟩
  have hc := lt_true hk
  obtain ⟨a, ha⟩ := at_some hk
  have l5 := hrow (by omega)
  have hne := hne (by omega)
  obtain ⟨sp, rfl, l3, l4⟩ := w1 (by omega)
  have l7 := w2 k a ha
  have hwl := fold_len ((clausesR T).take k) (clausesR U)
  rw [List.length_take] at hwl
  simp (maxSteps := 1000000) (disch := first | exact dS | fail) only [↓bD, bU, reduceMul, reduceEqDiff, reduceAdd, Nat.reduceBEq, reduceIte, splice_succ, ap22, ap23, ap24, ap25, ap26, ap33, ap34, ap35, ap38, ap49, ap74, g5, g6, g7, g12, hc, l5, l7]
  refine (contains_strings hu.strs (by omega)).mono ?_
  rintro r rfl
  have hfold := fold_take addNew (s := clausesR U) ha
  simp (maxSteps := 1000000) (disch := first | exact dS | fail) only [↓bD, bU, reduceMul, reduceEqDiff, reduceAdd, Nat.reduceBEq, reduceIte, splice_succ, ap22, ap23, ap24, ap25, ap26, ap33, ap34, ap35, ap38, ap49, ap74, g5, g6, g7, g12, hc, l5, l7]
  refine Br.intro (fun hd => ?_) (fun hd => ?_)
  ·simp (maxSteps := 1000000) (disch := first | exact dS | fail) only [↓bD, bU, reduceMul, reduceEqDiff, reduceAdd, Nat.reduceBEq, reduceIte, splice_succ, ap22, ap23, ap24, ap25, ap26, ap33, ap34, ap35, ap38, ap49, ap74, g5, g6, g7, g12, hc, l5, l7]
   refine ev_pushA (fun _ _ _ _ => ap41) hu (.refl _) hE.n (by omega) ?_
   rintro w' σ4 hw' hA -
   simp (maxSteps := 1000000) (disch := first | exact dS | fail) only [↓bD, bU, reduceMul, reduceEqDiff, reduceAdd, Nat.reduceBEq, reduceIte, splice_succ, ap22, ap23, ap24, ap25, ap26, ap33, ap34, ap35, ap38, ap49, ap74, g5, g6, g7, g12]
   refine ⟨fR, fR1 g12, fR1 g6, hA.ext hE hu (Nat.le_refl _), Nat.le_trans hn hA.n, fun _ => by rw [hA.row (by omega) hne]; exact l5, _, fR, ?_, fun _ => hA.far (by omega)⟩
   rw [hfold, addNew_no hd]; exact hw'
  ·simp (maxSteps := 1000000) (disch := first | exact dS | fail) only [↓bD, bU, reduceMul, reduceEqDiff, reduceAdd, Nat.reduceBEq, reduceIte, splice_succ, ap22, ap23, ap24, ap25, ap26, ap33, ap34, ap35, ap38, ap49, ap74, g5, g6, g7, g12]
   refine ⟨fR, fR1 g12, fR1 g6, hE, hn, fun _ => l5, _, fR1 g5, ?_, fun _ => hne⟩
   rw [hfold, addNew_yes hd]; exact hu
 ·rintro fr σ' ⟨g7, g12, g6, hE, hn, hrow, u, g5, hu, hne⟩
  rw [List.take_length] at hu
  simp (maxSteps := 1000000) (disch := first | exact dS | fail) only [↓bD, bU, reduceMul, reduceEqDiff, reduceAdd, Nat.reduceBEq, reduceIte, splice_succ, ap22, ap23, ap24, ap25, ap26, ap33, ap34, ap35, ap38, ap49, ap74, g5, g6, g7, g12]
  exact ⟨_, _, u, rfl, ext2.trans hE, fR1 g5, hu.lower (by simp; omega)⟩
 rintro r ⟨fr, σ', u, rfl, hE, g5, hu⟩
 refine gS1 (And.intro @g5 @Tryz.results43) ?_;try exact ⟨⟩
 exact ⟨u, σ', rfl, hE, hu⟩
def keeps (T U : Tn) (c : By) : Bool := (clausesR T).contains c && (clausesR U).contains c && eqP T U c
theorem ch1_ok {σ : St} {ca cb : List Value} {T U : Tn} {c : By} {v w : Value} {pa pb pc pd : Nat} (hT : Good σ ca T) (hU : Good σ cb U) (hv : Strs σ v (clausesR T)) (hw : Strs σ w (clausesR U))
  (ra : pa < σ.n ∧ σ.row pa = some [v]) (rb : pb < σ.n ∧ σ.row pb = some [w]) (rc : pc < σ.n ∧ σ.row pc = some ca) (rd : pd < σ.n ∧ σ.row pd = some cb) :
  Ev (go Tryz.prog HS (.fn 44) [str c, .pointer (some ⟨pa, 0, none⟩), .pointer (some ⟨pb, 0, none⟩), .pointer (some ⟨pc, 0, none⟩), .pointer (some ⟨pd, 0, none⟩)] σ) (fun r => ∃ σ', r = ⟨false, .bool (keeps T U c), σ'⟩ ∧ Ext σ σ') ⟨⟩ := by
 have hca := hT.len
 have hcb := hU.len
 have hfa : sub ca 0 20 = some ca := sub_full (by omega) (by omega)
 have hfb : sub cb 0 20 = some cb := sub_full (by omega) (by omega)
 have hlT := clausesR_len hT.ok
 have hlU := clausesR_len hU.ok
 have ra2 := ra.2
 have rb2 := rb.2
 have rc2 := rc.2
 have rd2 := rd.2
 refine ev_go Tryz.func44 rfl rfl ?_
 refine gS1 @ra2 ?_;try exact ⟨⟩
 refine (contains_strings hv (by omega)).mono ?_
 rintro r rfl
 cases h1 : (clausesR T).contains c with
 | false =>
  have hr : keeps T U c = false := by unfold keeps; rw [h1]; rfl
  refine gS1 (And.intro @h1 (And.intro @hr (And.intro @yu_t @Tryz.results44))) ?_;try exact ⟨⟩
  exact ⟨_, rfl, .refl _⟩
 | true =>
 refine gS1 (And.intro @h1 @rb2) ?_;try exact ⟨⟩
 refine (contains_strings hw (by omega)).mono ?_
 rintro r rfl
 cases h2 : (clausesR U).contains c with
 | false =>
  have hr : keeps T U c = false := by unfold keeps; rw [h1, h2]; rfl
  refine gS1 (And.intro @h2 (And.intro @hr (And.intro @yu_t @Tryz.results44))) ?_;try exact ⟨⟩
  exact ⟨_, rfl, .refl _⟩
 | true =>
 have hr : keeps T U c = eqP T U c := by unfold keeps; rw [h1, h2]; rfl
 refine gS1 (And.intro @h2 (And.intro @rc2 (And.intro @rd2 (And.intro @hfa @hfb)))) ?_;try exact ⟨⟩
 refine (equal_ok hT hU (by simpa using h1) (by simpa using h2)).mono ?_
 rintro r ⟨σ2, rfl, e2⟩
 refine gS1 (And.intro @hr @Tryz.results44) ?_;try exact ⟨⟩
 exact ⟨_, rfl, e2⟩
end Go.Proofs.G
namespace Go.Proofs.G
open Go Go.Ab
open Nat (reduceMul reduceEqDiff reduceAdd)
set_option maxRecDepth 100000
theorem index_str_ok {σ : St} {v : Value} {l : List By} {g : Nat} {cs : List Value} {p : By → Bool} (hl : Strs σ v l) (hn : l.length ≤ 100)
  (hf : ∀ x ∈ l, ∀ σ', Ext σ σ' → Ev (go Tryz.prog HS (.fn g) (str x :: cs) σ') (fun r => ∃ σ2, r = ⟨false, .bool (p x), σ2⟩ ∧ Ext σ' σ2) ⟨⟩) :
  Ev (go Tryz.prog HS (.fn 60) [v, .func (.func g) ⟨[]⟩ ⟨cs⟩] σ) (fun r => ∃ σ2, Ext σ σ2 ∧ ((r = ⟨false, .int .i64 (-1), σ2⟩ ∧ l.find? p = none) ∨ ∃ (k : Nat) (a : By), r = ⟨false, .int .i64 k, σ2⟩ ∧ l[k]? = some a ∧ p a = true ∧ ∀ (i : Nat) (b : By), i < k → l[i]? = some b → p b = false)) ⟨⟩ := by
 obtain ⟨a, c, b, off, cells, rfl, h1, h2⟩ := hl.use
 refine ev_go Tryz.func60 rfl rfl ?_
 refine gS ?_;try exact ⟨⟩
 refine ev_count l.length (fun k fr σ' => fr.get 8 = some (.int .i64 k) ∧ fr.get 7 = some (.int .i64 l.length) ∧ fr.get 0 = some (.slice a l.length c) ∧ fr.get 1 = some (.func (.func g) ⟨[]⟩ ⟨cs⟩) ∧ Ext σ σ' ∧ ∀ (i : Nat) (x : By), i < k → l[i]? = some x → p x = false)
  (fun r => (∃ fr σ', r = ⟨.exit 0, fr, σ'⟩ ∧ Ext σ σ' ∧ l.find? p = none) ∨ (∃ fr σ' k x, r = ⟨.ret, fr, σ'⟩ ∧ Ext σ σ' ∧ fr.get 4 = some (.int .i64 (k : Nat)) ∧ l[k]? = some x ∧ p x = true ∧ ∀ (i : Nat) (b : By), i < k → l[i]? = some b → p b = false)) ?_ ?_ ?_ ?_
 ·refine ⟨fR, fR, fR, fR, .refl _, fun i x h => by omega⟩
 ·rintro k fr σ' hk ⟨g8, g7, g0, g1, hE, hm⟩
  have hc := lt_true hk
  obtain ⟨x, hx⟩ := at_some hk
  obtain ⟨sp, rfl, l3, l4⟩ := h1 (by omega)
  have l5 : σ'.row b = some cells := by rw [hE.row l3]; exact l4
  have l7 := h2 k x hx
  refine gS1 (And.intro @g0 (And.intro @g1 (And.intro @g7 (And.intro @g8 (And.intro @hc (And.intro @l5 @l7)))))) ?_;try exact ⟨⟩
  refine (hf x (List.mem_of_getElem? hx) σ' hE).mono ?_
  rintro r ⟨σ2, rfl, hE2⟩
  refine gS1 (And.intro @g0 (And.intro @g1 (And.intro @g7 @g8))) ?_;try exact ⟨⟩
  cases hp : p x with
  | true =>
   refine gS1 (And.intro @g0 (And.intro @g1 (And.intro @g7 @g8))) ?_;try exact ⟨⟩
   exact .inr ⟨_, _, k, x, rfl, hE.trans hE2, fR, hx, hp, hm⟩
  | false =>
   refine gS1 (And.intro @g0 (And.intro @g1 (And.intro @g7 @g8))) ?_;try exact ⟨⟩
   refine ⟨fR, fR1 g7, fR1 g0, fR1 g1, hE.trans hE2, fun i y hi hy => ?_⟩
   by_cases e : i = k
   ·subst e; rw [hx] at hy; cases hy; exact hp
   ·exact hm i y (by omega) hy
 ·rintro fr σ' ⟨g8, g7, g0, g1, hE, hm⟩
  refine gS1 (And.intro @g7 @g8) ?_;try exact ⟨⟩
  exact .inl ⟨_, _, rfl, hE, find_no fun i x hx => hm i x (List.getElem?_eq_some_iff.1 hx).1 hx⟩
 rintro r (⟨fr, σ', rfl, hE, hq⟩ | ⟨fr, σ', k, x, rfl, hE, g4, hx, hq, hm⟩)
 ·refine gS1 @Tryz.results60 ?_;try exact ⟨⟩
  exact ⟨_, hE, .inl ⟨rfl, hq⟩⟩
 ·refine gS1 (And.intro @Tryz.results60 @g4) ?_;try exact ⟨⟩
  exact ⟨_, hE, .inr ⟨k, x, rfl, hx, hq, hm⟩⟩
def OSl (lo : Nat) (σ : St) (v : Value) (l : List By) : Prop := (v = .slice none 0 0 ∧ l = []) ∨ ∃ (b : Nat) (sp : Option Nat) (c : Nat) (arr : List By), v = .slice (some ⟨b, 0, sp⟩) l.length c ∧ l.length ≤ c ∧ lo ≤ b ∧ b < σ.n ∧ σ.orow b = some (arr.map str) ∧ arr.take l.length = l ∧ (sp = none ∨ sp = some 1)
theorem OStrs.osl {lo : Nat} {σ : St} {v : Value} {l : List By} (h : OStrs lo σ v l) : OSl lo σ v l := by
 obtain ⟨hr, ⟨rfl, h⟩ | ⟨b, sp, rfl, h2, h3, h4, h5⟩⟩ := h
 ·exact .inl ⟨rfl, by simpa using h⟩
 ·refine .inr ⟨b, sp, l.length, l, by simp, Nat.le_refl _, h3, h4, ?_, by simp, h2⟩
  rw [h5]
  congr 1
  clear h5 hr
  induction l with
  | nil => rfl
  | cons s l ih => simp [ih]
theorem OSl.strs {lo : Nat} {σ : St} {v : Value} {l : List By} (h : OSl lo σ v l) : Strs σ v l := by
 obtain ⟨rfl, rfl⟩ | ⟨b, sp, c, arr, rfl, h1, h2, h3, h4, h5, h6⟩ := h
 ·exact SL.nil
 ·refine .inr ⟨b, 0, sp, c, _, by rw [List.length_map], h3, row_of h4, fun k r hr => ?_⟩
  rw [List.getElem?_map] at hr
  cases hs : l[k]? with
  | none => rw [hs] at hr; cases hr
  | some s =>
   rw [hs] at hr; cases hr
   have hk := (List.getElem?_eq_some_iff.1 hs).1
   have ha : arr[k]? = some s := by rw [← h5, List.getElem?_take, if_pos hk] at hs; exact hs
   obtain ⟨hlt, he⟩ := List.getElem?_eq_some_iff.1 ha
   rw [Nat.zero_add, Nat.mul_one, sub_of (by simp; omega), ← List.map_drop, ← List.map_take, List.drop_eq_getElem_cons hlt, he]
   rfl
theorem OSl.ext {lo : Nat} {σ σ' : St} {v : Value} {l : List By} (h : OSl lo σ v l) (hE : Ext σ σ') : OSl lo σ' v l := by
 obtain h | ⟨b, sp, c, arr, h0, h1, h2, h3, h4, h5, h6⟩ := h
 ·exact .inl h
 ·exact .inr ⟨b, sp, c, arr, h0, h1, h2, Nat.lt_of_lt_of_le h3 hE.n, by rw [hE.orow h3]; exact h4, h5, h6⟩
theorem cl41 {σ : St} {b off n c : Nat} {sp : Option Nat} : clearV Tryz.prog σ 41 (.slice (some ⟨b, off, sp⟩) n c) = ob (σ.write b off (rep [str []] n)) fun σ => some (undefV, σ) := by kernel_rfl
end Go.Proofs.G
namespace Go.Proofs.G
open Go Go.Ab
set_option maxRecDepth 100000
theorem filter_all {p : By → Bool} {l : List By} {k : Nat} (h : ∀ (i : Nat) (b : By), i < k → l[i]? = some b → p b = false) : (l.take k).filter (fun c => !p c) = l.take k := by
 rw [List.filter_eq_self]
 intro c hc
 obtain ⟨i, hi⟩ := List.mem_iff_getElem?.1 hc
 rw [List.getElem?_take] at hi
 split at hi
 ·rw [h i c (by assumption) hi]; rfl
 ·cases hi
theorem filter_step {q : By → Bool} {l : List By} {k : Nat} {a : By} (h : l[k]? = some a) : (l.take (k + 1)).filter q = (l.take k).filter q ++ (if q a = true then [a] else []) := by
 rw [List.take_add_one, h]; simp [List.filter_append, List.filter_cons]
theorem splice_at {α : Type} {l new : List α} : ∀ {o : Nat}, o + new.length ≤ l.length → splice l o new = some (l.take o ++ new ++ l.drop (o + new.length)) := by
 induction l with
 | nil =>
  intro o h
  obtain rfl : o = 0 := by simp at h; omega
  obtain rfl : new = [] := by simpa using h
  rfl
 | cons x l ih =>
  intro o h
  cases o with
  | zero =>
   rw [show splice (x :: l) 0 new = over new (x :: l) from rfl]
   simp only [List.take_zero, List.nil_append, Nat.zero_add]
   clear ih
   generalize x :: l = m at *
   induction new generalizing m with
   | nil => simp; cases m <;> rfl
   | cons y new ih2 =>
    cases m with
    | nil => simp at h
    | cons z m =>
     rw [over_cons, ih2 m (by simp at h ⊢; omega), ob_some]
     simp
  | succ o =>
   rw [splice_succ, ih (o := o) (by simp at h ⊢; omega), ob_some]
   simp [Nat.add_right_comm]
theorem rep_map {n : Nat} : rep [str []] n = (List.replicate n ([] : By)).map str := by
 induction n with
 | zero => rfl
 | succ n ih => rw [rep_succ, ih]; rfl
end Go.Proofs.G
namespace Go.Proofs.G
open Go Go.Ab
open Nat (reduceMul reduceEqDiff reduceAdd)
set_option maxRecDepth 100000
set_option maxHeartbeats 4000000 in
theorem deletef_ok {σ0 σ : St} {lo : Nat} {v : Value} {l : List By} {g : Nat} {cs : List Value} {p : By → Bool} (hl : OSl lo σ v l) (hE0 : Ext σ0 σ) (h0 : σ0.n ≤ lo) (hn : l.length ≤ 100)
  (hf : ∀ x ∈ l, ∀ σ', Ext σ0 σ' → Ev (go Tryz.prog HS (.fn g) (str x :: cs) σ') (fun r => ∃ σ2, r = ⟨false, .bool (p x), σ2⟩ ∧ Ext σ' σ2) ⟨⟩) :
  Ev (go Tryz.prog HS (.fn 32) [v, .func (.func g) ⟨[]⟩ ⟨cs⟩] σ) (fun r => ∃ w σ', r = ⟨false, w, σ'⟩ ∧ Ext σ0 σ' ∧ OSl lo σ' w (l.filter fun c => !p c)) ⟨⟩ := by
 refine ev_go Tryz.func32 rfl rfl ?_
 obtain ⟨sa, sc, hvs⟩ := hl.strs.shape
 refine gS ?_;try exact ⟨⟩
 refine (index_str_ok (p := p) hl.strs hn fun x hx σ' hE => hf x hx σ' (hE0.trans hE)).mono ?_
 rintro r ⟨σ2, hE2, ⟨rfl, hq⟩ | ⟨k, a, rfl, ha, hpa, hpre⟩⟩
 ·have hd : decide ((-1 : Int) = -1) = true := rfl
  have hfil : l.filter (fun c => !p c) = l := by
   rw [List.filter_eq_self]
   intro c hc
   have := List.find?_eq_none.1 hq c hc
   simpa using this
  refine gS1 (And.intro @hd @Tryz.results32) ?_;try exact ⟨⟩
  rw [hfil]
  exact ⟨_, _, rfl, hE0.trans hE2, hl.ext hE2⟩
 obtain ⟨rfl, rfl⟩ | ⟨b, sp, c, arr0, rfl, b1, b2, b3, b4, b5, b6⟩ := hl.ext hE2
 ·simp at ha
 have hk := (List.getElem?_eq_some_iff.1 ha).1
 have hE02 : Ext σ0 σ2 := hE0.trans hE2
 have hd : decide ((k : Int) = -1) = false := by first | (simp; done) | (simp; omega)
 have harr : ∀ i, i < l.length → arr0[i]? = l[i]? := fun i hi => by conv => rhs; rw [← b5, List.getElem?_take, if_pos hi]
 have hal : l.length ≤ arr0.length := by have := congrArg List.length b5; rw [List.length_take] at this; omega
 refine gS1 @hd ?_;try exact ⟨⟩
 have hfk : (l.take (k + 1)).filter (fun c => !p c) = l.take k := by rw [filter_step ha, filter_all hpre, hpa]; simp
 refine ev_count (l.length - (k + 1)) (fun t fr σ' => fr.get 6 = some (.int .i64 ((k + 1 + t : Nat) : Int)) ∧ fr.get 0 = some (.slice (some ⟨b, 0, sp⟩) l.length c) ∧ fr.get 1 = some (.func (.func g) ⟨[]⟩ ⟨cs⟩) ∧ Ext σ0 σ' ∧ b < σ'.n ∧
   ∃ (i : Nat) (arr : List By), fr.get 5 = some (.int .i64 (i : Nat)) ∧ i ≤ k + t ∧ σ'.orow b = some (arr.map str) ∧ arr.length = arr0.length ∧ arr.take i = (l.take (k + 1 + t)).filter (fun c => !p c) ∧ (∀ m, k + 1 + t ≤ m → arr[m]? = arr0[m]?))
  (fun r => ∃ fr σ', r = ⟨.exit 0, fr, σ'⟩ ∧ fr.get 0 = some (.slice (some ⟨b, 0, sp⟩) l.length c) ∧ Ext σ0 σ' ∧ b < σ'.n ∧
   ∃ (i : Nat) (arr : List By), fr.get 5 = some (.int .i64 (i : Nat)) ∧ i ≤ l.length ∧ σ'.orow b = some (arr.map str) ∧ arr.length = arr0.length ∧ arr.take i = l.filter (fun c => !p c)) ?_ ?_ ?_ ?_
 ·refine ⟨fR, fR, fR, hE02, b3, k, arr0, fR, by omega, b4, rfl, ?_, fun m _ => rfl⟩
  rw [Nat.add_zero, hfk, ← b5, List.take_take, Nat.min_eq_left (by omega)]
 ·rintro t fr σ' ht ⟨g6, g0, g1, hE, hbn, i, arr, g5, hi, ho, hlen, htk, hrest⟩
  have hj : k + 1 + t < l.length := by omega
  have hc : decide (((k + 1 + t : Nat) : Int) < (l.length : Int)) = true := by simp; omega
  obtain ⟨x, hx⟩ := at_some hj
  have hr := row_of ho
  have hax : arr[k + 1 + t]? = some x := by rw [hrest _ (Nat.le_refl _), harr _ hj]; exact hx
  obtain ⟨hlt, hae⟩ := List.getElem?_eq_some_iff.1 hax
  have l7 : sub (arr.map str) (k + 1 + t) 1 = some [str x] := by
   rw [sub_of (by simp; omega), ← List.map_drop, ← List.map_take, List.drop_eq_getElem_cons hlt, hae]; rfl
  refine gS1 (And.intro @g0 (And.intro @g1 (And.intro @g5 (And.intro @g6 (And.intro @hc (And.intro @hr @l7)))))) ?_;try exact ⟨⟩
  refine (hf x (List.mem_of_getElem? hx) σ' hE).mono ?_
  rintro r ⟨σ3, rfl, hE3⟩
  have ho3 : σ3.orow b = some (arr.map str) := by rw [hE3.orow hbn]; exact ho
  have n3 := hE3.n
  have hst := filter_step (q := fun c => !p c) hx
  refine gS1 (And.intro @g0 (And.intro @g1 (And.intro @g5 @g6))) ?_;try exact ⟨⟩
  cases hp : p x with
  | true =>
   refine gS1 (And.intro @g0 (And.intro @g1 (And.intro @g5 @g6))) ?_;try exact ⟨⟩
   refine ⟨fR, fR1 g0, fR1 g1, hE.trans hE3, by omega, i, arr, fR1 g5, by omega, ho3, hlen, ?_, fun m hm => hrest m (by omega)⟩
   rw [show k + 1 + (t + 1) = k + 1 + t + 1 from rfl, hst, hp]; simpa using htk
  | false =>
   have hspl : splice (arr.map str) i [str x] = some ((arr.take i ++ x :: arr.drop (i + 1)).map str) := by
    rw [splice_at (by simp; omega)]; simp [List.map_take, List.map_drop]
   refine gS1 (And.intro @g0 (And.intro @g1 (And.intro @g5 (And.intro @g6 (And.intro @ho3 @hspl))))) ?_;try exact ⟨⟩
   refine ⟨fR, fR1 g0, fR1 g1, (hE.trans hE3).upd (by omega) _, cL, i + 1, arr.take i ++ x :: arr.drop (i + 1), fR, by omega, cL, ?_, ?_, fun m hm => ?_⟩
   ·simp; omega
   ·rw [show k + 1 + (t + 1) = k + 1 + t + 1 from rfl, hst, hp, ← htk, List.take_append, List.take_take]
    have : (arr.take i).length = i := by rw [List.length_take]; omega
    rw [this]; simp
   ·rw [← hrest m (by omega), List.getElem?_append_right (by rw [List.length_take]; omega), List.length_take, Nat.min_eq_left (by omega)]
    obtain ⟨d, rfl⟩ : ∃ d, m = i + 1 + d := ⟨m - (i + 1), by omega⟩
    rw [show i + 1 + d - i = d + 1 by omega, List.getElem?_cons_succ, List.getElem?_drop]
 ·rintro fr σ' ⟨g6, g0, g1, hE, hbn, i, arr, g5, hi, ho, hlen, htk, hrest⟩
  have hc : decide (((k + 1 + (l.length - (k + 1)) : Nat) : Int) < (l.length : Int)) = false := by simp; omega
  refine gS1 (And.intro @g0 (And.intro @g6 @hc)) ?_;try exact ⟨⟩
  refine ⟨_, _, rfl, fR1 g0, hE, hbn, i, arr, fR1 g5, by omega, ho, hlen, ?_⟩
  rw [htk, show k + 1 + (l.length - (k + 1)) = l.length by omega, List.take_length]
 rintro r ⟨fr, σ', rfl, g0, hE, hbn, i, arr, g5, hi, ho, hlen, htk⟩
 have hil : (l.filter fun c => !p c).length = i := by rw [← htk, List.length_take]; omega
 have hspl : splice (arr.map str) i (rep [str []] (l.length - i)) = some ((arr.take i ++ List.replicate (l.length - i) [] ++ arr.drop l.length).map str) := by
  rw [rep_map, splice_at (by simp; omega)]
  simp only [List.length_map, List.length_replicate, List.map_append, List.map_take, List.map_drop]
  rw [show i + (l.length - i) = l.length by omega]
 have hcl : (cellsL (str [])) = [str []] := rfl
 rcases b6 with rfl | rfl
 ·simp (maxSteps := 1000000) (disch := first | exact dS | fail) only [↓bD, bW, reduceMul, reduceEqDiff, reduceAdd, Nat.reduceBEq, reduceIte, g0, g5, eClear, cl41, Nat.sub_zero, Option.isNone_none, ho, hspl, Tryz.results32]
  refine ⟨_, _, rfl, hE.upd (by omega) _, .inr ⟨b, none, c, arr.take i ++ List.replicate (l.length - i) [] ++ arr.drop l.length, by rw [hil], by omega, b2, by simpa using hbn, orow_upd_same, ?_, .inl rfl⟩⟩
  rw [hil, List.append_assoc, List.take_append_of_le_length (by rw [List.length_take]; omega), List.take_take, Nat.min_self]
  exact htk
 ·simp (maxSteps := 1000000) (disch := first | exact dS | fail) only [↓bD, bW, reduceMul, reduceEqDiff, reduceAdd, Nat.reduceBEq, reduceIte, g0, g5, eClear, cl41, Nat.sub_zero, Option.isNone_none, ho, hspl, Tryz.results32]
  refine ⟨_, _, rfl, hE.upd (by omega) _, .inr ⟨b, some 1, c, arr.take i ++ List.replicate (l.length - i) [] ++ arr.drop l.length, by rw [hil], by omega, b2, by simpa using hbn, orow_upd_same, ?_, .inr rfl⟩⟩
  rw [hil, List.append_assoc, List.take_append_of_le_length (by rw [List.length_take]; omega), List.take_take, Nat.min_self]
  exact htk
end Go.Proofs.G
namespace Go.Proofs.G
open Go Go.Ab
open Nat (reduceMul reduceEqDiff reduceAdd)
set_option maxRecDepth 100000
theorem as_newb {bs : List Nat} {i j b o n : Nat} {a : St} {l : List Value} {ds : List Ab.Trace} : allSame bs i ⟨b, o, n⟩ (.eff j a (a.new l) :: ds) = allSame bs i ⟨b, o, n⟩ ds := as_eff fun h => (Ext.new a l).same b h
theorem as_upd {bs : List Nat} {i j b o n c : Nat} {a : St} {l : List Value} {ds : List Ab.Trace} (h : b ≠ c) : allSame bs i ⟨b, o, n⟩ (.eff j a (a.upd c l) :: ds) = allSame bs i ⟨b, o, n⟩ ds := as_eff fun _ => by show (a.upd c l).h.get b = _; rw [upd_get, if_neg h]
def changedP (T U : Tn) : List By := (bothR T U).filter fun c => !keeps T U c
set_option maxHeartbeats 4000000 in
theorem pchanged_ok {σ : St} {ca cb : List Value} {T U : Tn} (hT : Good σ ca T) (hU : Good σ cb U) : Ev (go Tryz.prog HS (.fn 19) [.agg ⟨ca⟩, .agg ⟨cb⟩] σ) (fun r => ∃ v σ', r = ⟨false, v, σ'⟩ ∧ Ext σ σ' ∧ OSl σ.n σ' v (changedP T U)) ⟨⟩ := by
 refine ev_go Tryz.func19 rfl rfl ?_
 have ext2 : Ext σ ((σ.new ca).new cb) := ((Ext.refl _).new' _).new' _
 have hca := hT.len
 have hcb := hU.len
 have hfa : sub ca 0 20 = some ca := sub_full (by omega) (by omega)
 have hfb : sub cb 0 20 = some cb := sub_full (by omega) (by omega)
 refine gS1 (And.intro @hfa @hfb) ?_;try exact ⟨⟩
 refine (pclauses_ok (hT.mono ext2).at' hT.ok).mono ?_
 rintro r ⟨v, σ2, rfl, e2, hv⟩
 have n2 := e2.n
 simp only [new_n] at n2
 have c2 : σ2.row (σ.n + 1) = some cb := by rw [e2.row (by simp)]; exact cL
 refine gS1 (And.intro @c2 @hfb) ?_;try exact ⟨⟩
 refine (pclauses_ok ((hU.mono ext2).mono e2).at' hU.ok).mono ?_
 rintro r ⟨w, σ3, rfl, e3, hw⟩
 have n3 := e3.n
 obtain ⟨hv1, hv2⟩ := cells_strs hv.strs
 obtain ⟨hw1, hw2⟩ := cells_strs hw.strs
 have c3 : σ3.row σ.n = some ca := by rw [e3.row (by omega), e2.row (by simp; omega)]; exact cL
 have c4 : σ3.row (σ.n + 1) = some cb := by rw [e3.row (by omega)]; exact c2
 have hE3 : Ext σ σ3 := ext2.trans (e2.trans e3)
 simp (maxSteps := 1000000) (disch := first | exact dS | fail) only [↓bD, bW, reduceMul, reduceEqDiff, reduceAdd, Nat.reduceBEq, reduceIte, asx e2, asx e3, as_newb, as_upd, hv1, hv2, hw1, hw2, c3, c4, hfa, hfb]
 have hE34 : Ext σ3 ((((σ3.new [.slice none 0 0]).new [.slice none 0 0]).upd σ3.n [v]).upd (σ3.n + 1) [w]) := eX
 have r5 : ((((σ3.new [Value.slice none 0 0]).new [.slice none 0 0]).upd σ3.n [v]).upd (σ3.n + 1) [w]).row σ3.n = some [v] := cL
 have r6 : ((((σ3.new [Value.slice none 0 0]).new [.slice none 0 0]).upd σ3.n [v]).upd (σ3.n + 1) [w]).row (σ3.n + 1) = some [w] := cL
 have hn4 : ((((σ3.new [Value.slice none 0 0]).new [.slice none 0 0]).upd σ3.n [v]).upd (σ3.n + 1) [w]).n = σ3.n + 1 + 1 := rfl
 generalize ((((σ3.new [Value.slice none 0 0]).new [.slice none 0 0]).upd σ3.n [v]).upd (σ3.n + 1) [w]) = σ4 at *
 have hE4 : Ext σ σ4 := hE3.trans hE34
 refine (pboth_ok (hT.mono hE4) (hU.mono hE4)).mono ?_
 rintro r ⟨u, σ5, rfl, e5, hu⟩
 refine gS ?_;try exact ⟨⟩
 refine (deletef_ok (σ0 := σ4) (lo := σ4.n) (p := keeps T U) (l := bothR T U) (OStrs.osl hu) e5 (Nat.le_refl _) (by have := bothR_len hT.ok hU.ok; omega) fun x hx σ' hE => ?_).mono ?_
 ·refine ch1_ok (v := v) (w := w) (hT.mono (hE4.trans hE)) (hU.mono (hE4.trans hE)) ((hv.strs.mono e3).mono (hE34.trans hE)) (hw.strs.mono (hE34.trans hE)) ⟨?_, ?_⟩ ⟨?_, ?_⟩ ⟨?_, ?_⟩ ⟨?_, ?_⟩
  ·have := hE.n; omega
  ·rw [hE.row (by omega)]; exact r5
  ·have := hE.n; omega
  ·rw [hE.row (by omega)]; exact r6
  ·have := hE.n; omega
  ·rw [hE.row (by omega), hE34.row (by omega)]; exact c3
  ·have := hE.n; omega
  ·rw [hE.row (by omega), hE34.row (by omega)]; exact c4
 rintro r ⟨z, σ6, rfl, e6, hz⟩
 refine gS1 @Tryz.results19 ?_;try exact ⟨⟩
 refine ⟨z, σ6, rfl, hE4.trans e6, ?_⟩
 obtain h | ⟨b, sp, c, arr, h0, h1, h2, h3⟩ := hz
 ·exact .inl h
 ·exact .inr ⟨b, sp, c, arr, h0, h1, by omega, h3⟩
end Go.Proofs.G
namespace Go.Proofs.G
open Go Go.Ab
open Nat (reduceMul reduceEqDiff reduceAdd)
set_option maxRecDepth 100000
def movesP (T U : Tn) : List By := (changedP T U).filter fun c => !decide (dist c = 0)
theorem changedP_allC {T U : Tn} (ok : T.Ok) (ok' : U.Ok) {c : By} (h : c ∈ changedP T U) : c ∈ allC := both_allC ok ok' (List.mem_filter.1 h).1
theorem changedP_len {T U : Tn} (ok : T.Ok) (ok' : U.Ok) : (changedP T U).length ≤ 96 := Nat.le_trans (List.length_filter_le _ _) (bothR_len ok ok')
theorem mv1_ok {σ : St} {c : By} (h : c ∈ allC) : Ev (go Tryz.prog HS (.fn 33) [str c] σ) (fun r => r = ⟨false, .bool (decide (dist c = 0)), σ⟩) ⟨⟩ := by
 refine ev_go Tryz.func33 rfl rfl ?_
 refine gS ?_;try exact ⟨⟩
 refine (pdist_ok h).mono ?_
 rintro r rfl
 refine gS1 @Tryz.results33 ?_;try exact ⟨⟩
theorem pmoves_ok {σ : St} {ca cb : List Value} {T U : Tn} (hT : Good σ ca T) (hU : Good σ cb U) : Ev (go Tryz.prog HS (.fn 15) [.agg ⟨ca⟩, .agg ⟨cb⟩] σ) (fun r => ∃ v σ', r = ⟨false, v, σ'⟩ ∧ Ext σ σ' ∧ OSl σ.n σ' v (movesP T U)) ⟨⟩ := by
 refine ev_go Tryz.func15 rfl rfl ?_
 have ext2 : Ext σ ((σ.new ca).new cb) := ((Ext.refl _).new' _).new' _
 have hca := hT.len
 have hcb := hU.len
 have hfa : sub ca 0 20 = some ca := sub_full (by omega) (by omega)
 have hfb : sub cb 0 20 = some cb := sub_full (by omega) (by omega)
 refine gS1 (And.intro @hfa @hfb) ?_;try exact ⟨⟩
 refine (pchanged_ok (hT.mono ext2) (hU.mono ext2)).mono ?_
 rintro r ⟨v, σ2, rfl, e2, hv⟩
 refine gS ?_;try exact ⟨⟩
 refine (deletef_ok (σ0 := (σ.new ca).new cb) (lo := ((σ.new ca).new cb).n) (p := fun c => decide (dist c = 0)) (l := changedP T U) hv e2 (Nat.le_refl _) (by have := changedP_len hT.ok hU.ok; omega) fun x hx σ' hE => ?_).mono ?_
 ·refine (mv1_ok (changedP_allC hT.ok hU.ok hx)).mono ?_
  rintro r rfl
  exact ⟨_, rfl, .refl _⟩
 rintro r ⟨z, σ6, rfl, e6, hz⟩
 refine gS1 @Tryz.results15 ?_;try exact ⟨⟩
 refine ⟨z, σ6, rfl, ext2.trans e6, ?_⟩
 obtain h | ⟨b, sp, c, arr, h0, h1, h2, h3⟩ := hz
 ·exact .inl h
 ·exact .inr ⟨b, sp, c, arr, h0, h1, by simp at h2; omega, h3⟩
end Go.Proofs.G
namespace Go.Proofs.G
open Go Go.Ab
open Nat (reduceMul reduceEqDiff reduceAdd)
set_option maxRecDepth 100000
theorem earlier_ok {σ : St} {a b : Tim} : Ev (go Tryz.prog HS (.fn 25) [.agg ⟨a.row⟩, .agg ⟨b.row⟩] σ) (fun r => ∃ σ', r = ⟨false, .bool (earlierT a b), σ'⟩ ∧ Ext σ σ') ⟨⟩ := by
 have ha : a.row = [.int .i64 a.q, .int .i64 a.b, .int .i64 a.g, .int .i64 a.p, .int .i64 a.s] := rfl
 have hb : b.row = [.int .i64 b.q, .int .i64 b.b, .int .i64 b.g, .int .i64 b.p, .int .i64 b.s] := rfl
 refine ev_go Tryz.func25 rfl rfl ?_
 unfold earlierT
 rw [ha, hb]
 cases d1 : decide (a.q < b.q) with
 | true => simp (maxSteps := 1000000) (disch := first | exact dS | fail) only [↓bD, bW, reduceMul, reduceEqDiff, reduceAdd, Nat.reduceBEq, reduceIte, d1, Bool.true_or, yu_f, yu_t, Tryz.results25]; exact ⟨_, rfl, eX⟩
 | false =>
 cases d2 : decide (a.b < b.b) with
 | true => simp (maxSteps := 1000000) (disch := first | exact dS | fail) only [↓bD, bW, reduceMul, reduceEqDiff, reduceAdd, Nat.reduceBEq, reduceIte, d1, d2, Bool.true_or, Bool.false_or, yu_f, yu_t, Tryz.results25]; exact ⟨_, rfl, eX⟩
 | false =>
 cases d3 : decide (a.g < b.g) with
 | true => simp (maxSteps := 1000000) (disch := first | exact dS | fail) only [↓bD, bW, reduceMul, reduceEqDiff, reduceAdd, Nat.reduceBEq, reduceIte, d1, d2, d3, Bool.true_or, Bool.false_or, yu_f, yu_t, Tryz.results25]; exact ⟨_, rfl, eX⟩
 | false =>
 cases d4 : decide (a.p < b.p) with
 | true => simp (maxSteps := 1000000) (disch := first | exact dS | fail) only [↓bD, bW, reduceMul, reduceEqDiff, reduceAdd, Nat.reduceBEq, reduceIte, d1, d2, d3, d4, Bool.true_or, Bool.false_or, yu_f, yu_t, Tryz.results25]; exact ⟨_, rfl, eX⟩
 | false => simp (maxSteps := 1000000) (disch := first | exact dS | fail) only [↓bD, bW, reduceMul, reduceEqDiff, reduceAdd, Nat.reduceBEq, reduceIte, d1, d2, d3, d4, Bool.true_or, Bool.false_or, yu_f, yu_t, Tryz.results25]; exact ⟨_, rfl, eX⟩
theorem nn_ptr {a : Addr} : nonNil (.pointer (some a)) = some (.pointer (some a)) := rfl
theorem later_min {own old b : Int} : max own (min old (1000000000 - b) + b) = later own old b := by
 unfold later; split <;> omega
theorem move_ok {σ : St} {b o pb : Nat} {cells cells' : List Value} {own old by' : Int} (h1 : In64 own) (h2 : In64 old) (h3 : 0 ≤ by') (h4 : by' ≤ 10080) (hr : σ.orow b = some cells) (hs : sub cells o 1 = some [.int .i64 own]) (hw : splice cells o [.int .i64 (later own old by')] = some cells')
  (hpb : σ.row pb = some [.int .i64 by']) (hne : pb ≠ b) : Ev (go Tryz.prog HS (.fn 27) [.pointer (some ⟨b, o, none⟩), .int .i64 old, .pointer (some ⟨pb, 0, none⟩)] σ) (fun r => r = ⟨false, .tuple ⟨[]⟩, σ.upd b cells'⟩) ⟨⟩ := by
 obtain ⟨a1, a2⟩ := h1
 obtain ⟨b1, b2⟩ := h2
 have hr' := row_of hr
 have e1 : wrapF .i64 (1000000000 - by') = 1000000000 - by' := wrap_in (by omega) (by omega)
 have e2 : wrapF .i64 (min old (1000000000 - by') + by') = min old (1000000000 - by') + by' := wrap_in (by omega) (by omega)
 refine ev_go Tryz.func27 rfl rfl ?_
 refine gS1 (And.intro @hr (And.intro @hr' (And.intro @hs (And.intro @hpb (And.intro @e1 (And.intro @e2 (And.intro @later_min (And.intro @hw @nn_ptr)))))))) ?_;try exact ⟨⟩
 refine Must.intro (by kernel_rfl) ?_
 refine gS1 @Tryz.results27 ?_;try exact ⟨⟩
end Go.Proofs.G
namespace Go.Proofs.G
open Go Go.Ab
open Nat (reduceMul reduceEqDiff reduceAdd)
set_option maxRecDepth 100000
def byP (T U : Tn) : Int := (movesP T U).foldl (fun m c => max m (dist c)) 0
theorem movesP_len {T U : Tn} (ok : T.Ok) (ok' : U.Ok) : (movesP T U).length ≤ 96 := Nat.le_trans (List.length_filter_le _ _) (changedP_len ok ok')
theorem movesP_allC {T U : Tn} (ok : T.Ok) (ok' : U.Ok) {c : By} (h : c ∈ movesP T U) : c ∈ allC := changedP_allC ok ok' (List.mem_filter.1 h).1
theorem as_ord {bs : List Nat} {i j : Nat} {r : RowAt} {a b : St} {ds : List Ab.Trace} (h : ordered bs i j = true) : allSame bs i r (.eff j a b :: ds) = allSame bs i r ds := by
 show bi (bi (ordered bs i j) true (bi (Nat.blt r.b a.n) (bi (Nat.beq (a.ver r.b) (b.ver r.b)) true (sameRow (a.read r.b r.off r.n) (b.read r.b r.off r.n))) true)) (allSame bs i r ds) false = _
 rw [h]; rfl
set_option maxHeartbeats 8000000 in
theorem papply_ok {σ : St} {ca cb : List Value} {T U : Tn} {time : Int} (hT : Good σ ca T) (hU : Good σ cb U) (hby : byP T U = byOf T U) : Ev (go Tryz.prog HS (.fn 11) [.agg ⟨ca⟩, .agg ⟨cb⟩, .int .i64 time] σ) (fun r => ∃ cells σ', r = ⟨false, .tuple ⟨[.agg ⟨cells⟩, .int .i64 (applied T U time).2]⟩, σ'⟩ ∧ Ext σ σ' ∧ TnAt σ' cells (applied T U time).1) ⟨⟩ := by
 have hca := hT.len
 have hcb := hU.len
 have hfa : sub ca 0 20 = some ca := sub_full (by omega) (by omega)
 have hfb : sub cb 0 20 = some cb := sub_full (by omega) (by omega)
 obtain ⟨vl0, vc0, vr0, y1, y2, y3, y4, y5, vt0, vk0, ha0, -⟩ := sub_self hT.at'
 have a5 : sub ca 15 5 = some T.t.row := by rw [ha0]; rfl
 have a16 : sub ca 16 1 = some [.int .i64 T.t.b] := by rw [ha0]; rfl
 have a17 : sub ca 17 1 = some [.int .i64 T.t.g] := by rw [ha0]; rfl
 have a18 : sub ca 18 1 = some [.int .i64 T.t.p] := by rw [ha0]; rfl
 clear ha0
 obtain ⟨vl, vc, vr, x1, x2, x3, x4, x5, vt, vk, hcl, u1, u2, u3, u4, u5, u6⟩ := sub_self hU.at'
 have b5 : sub cb 15 5 = some U.t.row := by rw [hcl]; rfl
 have htl : T.t.row.length = 5 := rfl
 have hul : U.t.row.length = 5 := rfl
 obtain ⟨_, tb1, tg1, tp1, _⟩ := hT.ok.tim
 obtain ⟨_, ub1, ug1, up1, _⟩ := hU.ok.tim
 have hbc := byOf_cases T U
 have hz : zCells = [str [], .slice none 0 0, .slice none 0 0, .slice none 0 0, .int .i64 0, .int .i64 0, str [], .int .i64 0, .int .i64 0, str [], .slice none 0 0, .slice none 0 0, .int .i64 0, .slice none 0 0, .int .i64 0, .int .i64 0, .int .i64 0, .int .i64 0, .int .i64 0, .int .i64 0] := rfl
 refine ev_go Tryz.func11 rfl rfl ?_
 cases d0 : decide (time < T.t.b) with
 | false =>
  have hap : applied T U time = (zeroTn, 31) := by unfold applied; rw [if_pos (by simpa using d0)]
  refine gS1 (And.intro @a16 (And.intro @d0 (And.intro @hap @Tryz.results11))) ?_;try exact ⟨⟩
  exact ⟨zCells, _, rfl, eX, zero_at _⟩
 | true =>
 have d0' : ¬ T.t.b ≤ time := by simpa using d0
 refine gS1 (And.intro @a16 (And.intro @a5 (And.intro @b5 @d0))) ?_;try exact ⟨⟩
 refine earlier_ok.mono ?_
 rintro r ⟨σ2, rfl, e2⟩
 have n2 := e2.n
 simp only [new_n] at n2
 have o6 : σ2.orow (σ.n + 1 + 1) = some zCells := by rw [e2.orow (cL)]; exact cL1 hz
 have o4 : σ2.orow (σ.n + 1) = some cb := by rw [e2.orow (cL)]; exact cL
 have w3 : σ2.row σ.n = some ca := by rw [e2.row (cL)]; exact cL
 have hE2 : Ext σ σ2 := Ext.trans (eX) e2
 cases d1 : earlierT U.t T.t with
 | true =>
  have hap : applied T U time = (zeroTn, 1) := by unfold applied; rw [if_neg d0', if_pos d1]
  rw [hz] at o6
  refine gS1 (And.intro @o6 (And.intro @hap @Tryz.results11)) ?_;try exact ⟨⟩
  exact ⟨zCells, _, rfl, eX, zero_at _⟩
 | false =>
 have hap : applied T U time = ({ U with t := moved T U }, 0) := by unfold applied; rw [if_neg d0', if_neg (by rw [d1]; simp)]
 have w4 := row_of o4
 refine gS1 (And.intro @w3 (And.intro @w4 (And.intro @hfa @hfb))) ?_;try exact ⟨⟩
 refine (pmoves_ok (hT.mono (eX)) (hU.mono (eX))).mono ?_
 rintro r ⟨w, σ4, rfl, e4, hw⟩
 have n4 := e4.n
 simp only [new_n, upd_n] at n4
 have p4 : σ4.orow σ2.n = some [.int .i64 0] := by rw [e4.orow (cL)]; exact cL
 have hE4 : Ext σ2 σ4 := Ext.trans (eX) e4
 have hml := movesP_len hT.ok hU.ok
 obtain ⟨wa, wc, wb, wo, wcs, hwv, w1, w2⟩ := hw.strs.use
 have hwb : ∀ b, blkOf w = some b → σ2.n + 1 ≤ b := fun b hb => by
  obtain ⟨rfl, -⟩ | ⟨b', sp, c, arr, rfl, -, h2, -⟩ := hw
  ·cases hb
  ·cases hb; simpa using h2
 subst hwv
 refine gS ?_;try exact ⟨⟩
 refine ev_count (movesP T U).length (fun k fr σ' => fr.get 30 = some (.int .i64 k) ∧ fr.get 29 = some (.int .i64 (movesP T U).length) ∧ fr.get 28 = some (.slice wa (movesP T U).length wc) ∧ fr.get 8 = some (.pointer (some ⟨σ2.n, 0, none⟩)) ∧
   fr.get 3 = some (.pointer (some ⟨σ.n, 0, none⟩)) ∧ fr.get 4 = some (.pointer (some ⟨σ.n + 1, 0, none⟩)) ∧ fr.get 6 = some (.pointer (some ⟨σ.n + 1 + 1, 0, none⟩)) ∧ Ext σ2 σ' ∧ σ4.n ≤ σ'.n ∧ (0 < (movesP T U).length → σ'.row wb = some wcs) ∧ σ'.orow σ2.n = some [.int .i64 (((movesP T U).take k).foldl (fun m c => max m (dist c)) 0)])
  (fun r => ∃ fr σ', r = ⟨.exit 1, fr, σ'⟩ ∧ fr.get 8 = some (.pointer (some ⟨σ2.n, 0, none⟩)) ∧ fr.get 3 = some (.pointer (some ⟨σ.n, 0, none⟩)) ∧ fr.get 4 = some (.pointer (some ⟨σ.n + 1, 0, none⟩)) ∧ fr.get 6 = some (.pointer (some ⟨σ.n + 1 + 1, 0, none⟩)) ∧ Ext σ2 σ' ∧ σ4.n ≤ σ'.n ∧ σ'.orow σ2.n = some [.int .i64 (byP T U)]) ?_ ?_ ?_ ?_
 ·refine ⟨fR, fR, fR, fR, fR, fR, fR, hE4, Nat.le_refl _, fun h => ?_, p4⟩
  obtain ⟨sp, rfl, l3, l4⟩ := w1 h; exact l4
 ·rintro k fr σ' hk ⟨g30, g29, g28, g8, g3, g4, g6, hE, hn, hrow, hp⟩
  have hc := lt_true hk
  obtain ⟨a, ha⟩ := at_some hk
  have l5 := hrow (by omega)
  obtain ⟨sp, rfl, l3, l4⟩ := w1 (by omega)
  have hb := hwb wb rfl
  have l7 := w2 k a ha
  have hp' := row_of hp
  refine gS1 (And.intro @g28 (And.intro @g29 (And.intro @g30 (And.intro @g8 (And.intro @hc (And.intro @l5 (And.intro @l7 @hp'))))))) ?_;try exact ⟨⟩
  refine (pdist_ok (movesP_allC hT.ok hU.ok (List.mem_of_getElem? ha))).mono ?_
  rintro r rfl
  simp (maxSteps := 1000000) (disch := first | exact dS | fail) only [↓bD, bW, reduceMul, reduceEqDiff, reduceAdd, Nat.reduceBEq, reduceIte, g28, g29, g30, g8, hp, asx (Ext.refl _)]
  refine Must.intro (by rw [as_ord (by kernel_rfl), asx (Ext.refl _)]; rfl) ?_
  refine gS1 (And.intro @g28 (And.intro @g29 (And.intro @g30 @g8))) ?_;try exact ⟨⟩
  refine ⟨fR, fR1 g29, fR1 g28, fR1 g8, fR1 g3, fR1 g4, fR1 g6, hE.upd (Nat.le_refl _) _, by simpa using hn, fun _ => l5, ?_⟩
  rw [fold_take _ ha]
 ·rintro fr σ' ⟨g30, g29, g28, g8, g3, g4, g6, hE, hn, hrow, hp⟩
  rw [List.take_length] at hp
  refine gS1 (And.intro @g29 @g30) ?_;try exact ⟨⟩
  exact ⟨_, _, rfl, fR1 g8, fR1 g3, fR1 g4, fR1 g6, hE, hn, hp⟩
 rintro r ⟨fr, σ', rfl, g8, g3, g4, g6, hE, hn, hp⟩
 rw [hby] at hp
 have hp' := row_of hp
 have hEn := hE.n
 generalize hby' : byOf T U = b at *
 obtain ⟨cbs, hcbs⟩ : ∃ f : Int → Int → Int → List Value, f = fun b g p => [str U.name, vl, vc, vr, .int .i64 U.low, .int .i64 U.high, x1, x2, x3, x4, x5, vt, .int .i64 U.most, vk, .int .i64 U.budget, .int .i64 U.t.q, .int .i64 b, .int .i64 g, .int .i64 p, .int .i64 U.t.s] := ⟨_, rfl⟩
 have cb0 : cb = cbs U.t.b U.t.g U.t.p := by rw [hcbs]; exact hcl
 have t16 : ∀ b g p : Int, sub (cbs b g p) 16 1 = some [.int .i64 b] := fun b g p => by rw [hcbs]; rfl
 have t17 : ∀ b g p : Int, sub (cbs b g p) 17 1 = some [.int .i64 g] := fun b g p => by rw [hcbs]; rfl
 have t18 : ∀ b g p : Int, sub (cbs b g p) 18 1 = some [.int .i64 p] := fun b g p => by rw [hcbs]; rfl
 have s16 : ∀ b g p v : Int, splice (cbs b g p) 16 [.int .i64 v] = some (cbs v g p) := fun b g p v => by rw [hcbs]; rfl
 have s17 : ∀ b g p v : Int, splice (cbs b g p) 17 [.int .i64 v] = some (cbs b v p) := fun b g p v => by rw [hcbs]; rfl
 have s18 : ∀ b g p v : Int, splice (cbs b g p) 18 [.int .i64 v] = some (cbs b g v) := fun b g p v => by rw [hcbs]; rfl
 have sl : ∀ b g p : Int, (cbs b g p).length = 20 := fun b g p => by rw [hcbs]; rfl
 have su : ∀ b g p : Int, sub (cbs b g p) 0 20 = some (cbs b g p) := fun b g p => by rw [hcbs]; rfl
 have so : ∀ b g p : Int, splice zCells 0 (cbs b g p) = some (cbs b g p) := fun b g p => by rw [hcbs]; rfl
 have q4 : σ'.orow (σ.n + 1) = some (cbs U.t.b U.t.g U.t.p) := by rw [hE.orow (by omega), o4, cb0]
 have q6 : σ'.orow (σ.n + 1 + 1) = some zCells := by rw [hE.orow (by omega)]; exact o6
 have q3 : σ'.row σ.n = some ca := by rw [hE.row (by omega)]; exact w3
 refine gS1 (And.intro @g3 (And.intro @g4 (And.intro @g6 (And.intro @g8 (And.intro @q3 @a16))))) ?_;try exact ⟨⟩
 refine (move_ok (by' := b) ub1 tb1 (by omega) (by omega) q4 (t16 _ _ _) (s16 _ _ _ _) hp' (by omega)).mono ?_
 rintro r rfl
 refine gS1 (And.intro @g3 (And.intro @g4 (And.intro @g6 (And.intro @g8 (And.intro @q3 @a17))))) ?_;try exact ⟨⟩
 refine (move_ok (by' := b) (cells := cbs (later U.t.b T.t.b b) U.t.g U.t.p) ug1 tg1 (by omega) (by omega) orow_upd_same (t17 _ _ _) (s17 _ _ _ _) (by rw [row_upd_ne (by omega)]; exact hp') (by omega)).mono ?_
 rintro r rfl
 refine gS1 (And.intro @g3 (And.intro @g4 (And.intro @g6 (And.intro @g8 (And.intro @q3 @a18))))) ?_;try exact ⟨⟩
 refine (move_ok (by' := b) (cells := cbs (later U.t.b T.t.b b) (later U.t.g T.t.g b) U.t.p) up1 tp1 (by omega) (by omega) orow_upd_same (t18 _ _ _) (s18 _ _ _ _) (by rw [row_upd_ne (by omega), row_upd_ne (by omega)]; exact hp') (by omega)).mono ?_
 rintro r rfl
 simp (maxSteps := 1000000) (disch := first | exact dS | fail) only [↓bD, bU, reduceMul, reduceEqDiff, reduceAdd, Nat.reduceBEq, reduceIte, bunAP, g4, g6, q6, sl, su, so, hap, Tryz.results11]
 have hE' : Ext σ σ' := hE2.trans hE
 refine ⟨_, _, rfl, eX, ?_⟩
 have hE3 : ∀ σ', Ext σ σ' → TnAt σ' [str U.name, vl, vc, vr, .int .i64 U.low, .int .i64 U.high, x1, x2, x3, x4, x5, vt, .int .i64 U.most, vk, .int .i64 U.budget, .int .i64 U.t.q, .int .i64 (later U.t.b T.t.b b), .int .i64 (later U.t.g T.t.g b), .int .i64 (later U.t.p T.t.p b), .int .i64 U.t.s] { U with t := moved T U } := fun σ' hE =>
  ⟨vl, vc, vr, [x1, x2, x3, x4, x5], vt, vk, by rw [← hby']; rfl, SL.mono u1 hE, SL.mono u2 hE, SL.mono u3 hE, u4.mono hE, u5.mono hE, u6.mono hE⟩
 have hfin : cbs (later U.t.b T.t.b b) (later U.t.g T.t.g b) (later U.t.p T.t.p b) = [str U.name, vl, vc, vr, .int .i64 U.low, .int .i64 U.high, x1, x2, x3, x4, x5, vt, .int .i64 U.most, vk, .int .i64 U.budget, .int .i64 U.t.q, .int .i64 (later U.t.b T.t.b b), .int .i64 (later U.t.g T.t.g b), .int .i64 (later U.t.p T.t.p b), .int .i64 U.t.s] := by rw [hcbs]
 rw [hfin]
 exact hE3 _ (eX)
end Go.Proofs.G
namespace Go.Proofs.G
open Go Go.Ab
theorem dig_ne {n : Nat} {c : UInt8} (h : c.toNat < 48 ∨ 57 < c.toNat) : dig n ≠ c := by
  intro he
  have := congrArg UInt8.toNat he
  unfold dig at this
  rw [UInt8.toNat_ofNat', Nat.mod_eq_of_lt (by omega)] at this
  omega
theorem decN_not {c : UInt8} (h : c.toNat < 48 ∨ 57 < c.toNat) : ∀ (f n : Nat), n < f → c ∉ decN n := by
  intro f
  induction f with
  | zero => intro n h; omega
  | succ f ih =>
    intro n hn
    by_cases h10 : n < 10
    · rw [decN_small h10]
      intro hm
      exact dig_ne h (List.mem_singleton.1 hm).symm
    · rw [decN_big h10]
      intro hm
      rcases List.mem_append.1 hm with hm | hm
      · exact ih (n / 10) (by omega) hm
      · exact dig_ne h (List.mem_singleton.1 hm).symm
theorem dec_not {c : UInt8} (h : c.toNat < 48 ∨ 57 < c.toNat) (h' : c ≠ 45) (n : Int) : c ∉ dec n := by
  unfold dec
  split
  · intro hm
    rcases List.mem_cons.1 hm with hm | hm
    · exact h' hm
    · exact decN_not h _ _ (Nat.lt_succ_self _) hm
  · exact decN_not h _ _ (Nat.lt_succ_self _)
theorem decN_ne (n : Nat) : decN n ≠ [] := by
  by_cases h : n < 10
  · rw [decN_small h]; simp
  · rw [decN_big h]; simp
theorem dec_ne (n : Int) : dec n ≠ [] := by
  unfold dec
  split
  · simp
  · exact decN_ne _
def valN (l : By) : Nat := l.foldl (fun a c => a * 10 + (c.toNat - 48)) 0
theorem val_decN : ∀ (f n : Nat), n < f → valN (decN n) = n := by
  intro f
  induction f with
  | zero => intro n h; omega
  | succ f ih =>
    intro n hn
    have hd : (dig n).toNat = 48 + n % 10 := by
      unfold dig
      rw [UInt8.toNat_ofNat', Nat.mod_eq_of_lt (by omega)]
    by_cases h10 : n < 10
    · rw [decN_small h10]
      show 0 * 10 + ((dig n).toNat - 48) = n
      rw [hd]; omega
    · rw [decN_big h10]
      unfold valN
      rw [List.foldl_append]
      show valN (decN (n / 10)) * 10 + ((dig n).toNat - 48) = n
      rw [ih (n / 10) (by omega), hd]; omega
theorem decN_inj {a b : Nat} (h : decN a = decN b) : a = b := by
  have := congrArg valN h
  rwa [val_decN _ _ (Nat.lt_succ_self _), val_decN _ _ (Nat.lt_succ_self _)] at this
theorem dec_inj {a b : Int} (h : dec a = dec b) : a = b := by
  have n45 : ∀ n, (45 : UInt8) ∉ decN n := fun n => decN_not (by decide) _ _ (Nat.lt_succ_self _)
  unfold dec at h
  split at h <;> split at h
  · simp only [List.cons.injEq, true_and] at h
    have := decN_inj h
    omega
  · exact absurd (h ▸ List.mem_cons_self) (n45 _)
  · exact absurd (h.symm ▸ List.mem_cons_self) (n45 _)
  · have := decN_inj h
    omega
theorem dec_iff {a b : Int} : dec a = dec b ↔ a = b := ⟨dec_inj, fun h => h ▸ rfl⟩
theorem cut_at {x : UInt8} : ∀ {a b s t : By}, x ∉ a → x ∉ b → a ++ x :: s = b ++ x :: t → a = b ∧ s = t
  | [], [], s, t, _, _, h => ⟨rfl, by simpa using h⟩
  | [], c :: b, s, t, _, hb, h => by
    simp only [List.nil_append, List.cons_append, List.cons.injEq] at h
    exact absurd (h.1 ▸ List.mem_cons_self) hb
  | c :: a, [], s, t, ha, _, h => by
    simp only [List.nil_append, List.cons_append, List.cons.injEq] at h
    exact absurd (h.1 ▸ List.mem_cons_self) ha
  | c :: a, d :: b, s, t, ha, hb, h => by
    simp only [List.cons_append, List.cons.injEq] at h
    obtain ⟨h1, h2⟩ := cut_at (fun h => ha (List.mem_cons_of_mem _ h)) (fun h => hb (List.mem_cons_of_mem _ h)) h.2
    exact ⟨by rw [h.1, h1], h2⟩
theorem dec_sp (n : Int) : (32 : UInt8) ∉ dec n := dec_not (by decide) (by decide) n
theorem cut_dec {a b : Int} {s t : By} (h : dec a ++ 32 :: s = dec b ++ 32 :: t) : a = b ∧ s = t := by
  obtain ⟨h1, h2⟩ := cut_at (dec_sp a) (dec_sp b) h
  exact ⟨dec_inj h1, h2⟩
theorem critS_inj {a b : Crit} (h : critS a = critS b) : a.kind = b.kind ∧ a.low = b.low ∧ a.high = b.high ∧ a.less = b.less := by
  unfold critS at h
  simp only [List.append_assoc, List.cons_append, List.nil_append] at h
  obtain ⟨h1, h⟩ := cut_dec h
  obtain ⟨h2, h⟩ := cut_dec h
  refine ⟨h1, h2, ?_⟩
  cases ha : a.less <;> cases hb : b.less <;> rw [ha, hb] at h
  · simp only [Bool.false_eq_true, if_false, List.append_nil] at h
    exact ⟨dec_inj h, rfl⟩
  · simp only [Bool.false_eq_true, if_false, if_true, List.append_nil] at h
    exact absurd (h.symm ▸ List.mem_append_right _ List.mem_cons_self) (dec_sp a.high)
  · simp only [Bool.false_eq_true, if_false, if_true, List.append_nil] at h
    exact absurd (h ▸ List.mem_append_right _ List.mem_cons_self) (dec_sp b.high)
  · simp only [if_true] at h
    exact ⟨(cut_dec h).1, rfl⟩
theorem app_len {a b s t : By} (hl : a.length = b.length) (h : a ++ s = b ++ t) : a = b ∧ s = t := List.append_inj h hl
theorem reqS_inj {a b : Req} (h : reqS a = reqS b) : a = b := by
  unfold reqS at h
  simp only [List.append_assoc, List.cons_append, List.nil_append] at h
  obtain ⟨h1, h⟩ := cut_dec h
  obtain ⟨h2, h⟩ := app_len (by omega) h
  obtain ⟨h3, h⟩ := cut_dec h
  obtain ⟨h4, h⟩ := app_len (by omega) h
  have h5 := dec_inj h
  obtain ⟨_, _, _⟩ := a
  obtain ⟨_, _, _⟩ := b
  simp_all
def tieR (t : By) : By := dec (t.length : Nat) ++ 32 :: t
theorem tiesS_eq : ∀ (l : List By) (s : By), l.foldl tieS s = s ++ (l.map tieR).flatten
  | [], s => by simp
  | t :: l, s => by
    rw [List.foldl_cons, tiesS_eq l]
    simp [tieS, tieR, List.append_assoc]
theorem ties_inj : ∀ {l m : List By}, (l.map tieR).flatten = (m.map tieR).flatten → l = m
  | [], [], _ => rfl
  | [], t :: m, h => by
    simp [tieR] at h
  | t :: l, [], h => by
    simp [tieR] at h
  | t :: l, u :: m, h => by
    simp only [List.map_cons, List.flatten_cons, tieR, List.append_assoc, List.cons_append] at h
    obtain ⟨h1, h⟩ := cut_dec h
    obtain ⟨h2, h⟩ := app_len (by omega) h
    rw [h2, ties_inj h]
def numR (n : Int) : By := dec n ++ [32]
theorem nums_eq : ∀ (l : List Int) (s : By), l.foldl numS s = s ++ (l.map numR).flatten
  | [], s => by simp
  | n :: l, s => by
    rw [List.foldl_cons, nums_eq l]
    simp [numS, numR, List.append_assoc]
def comboR (c : List Int) : By := 124 :: (c.map numR).flatten
theorem combos_eq : ∀ (l : List (List Int)) (s : By), l.foldl comboS s = s ++ (l.map comboR).flatten
  | [], s => by simp
  | c :: l, s => by
    rw [List.foldl_cons, combos_eq l]
    simp [comboS, comboR, nums_eq, List.append_assoc]
def Bar (s : By) : Prop := s = [] ∨ ∃ r, s = 124 :: r
theorem bar_combos : ∀ l : List (List Int), Bar (l.map comboR).flatten
  | [] => .inl rfl
  | c :: l => .inr ⟨_, by simp [comboR]; rfl⟩
theorem num_head (n : Int) (s : By) : ∃ x r, numR n ++ s = x :: r ∧ x ≠ 124 := by
  have h1 : (124 : UInt8) ∉ dec n := dec_not (by decide) (by decide) n
  cases hd : dec n with
  | nil => exact absurd hd (dec_ne n)
  | cons x r =>
    rw [hd] at h1
    refine ⟨x, r ++ [32] ++ s, by simp [numR, hd], fun h => ?_⟩
    subst h
    exact h1 List.mem_cons_self
theorem nums_inj : ∀ {c d : List Int} {s t : By}, Bar s → Bar t → (c.map numR).flatten ++ s = (d.map numR).flatten ++ t → c = d ∧ s = t
  | [], [], s, t, _, _, h => ⟨rfl, by simpa using h⟩
  | [], n :: d, s, t, hs, ht, h => by
    obtain ⟨x, r, h1, h2⟩ := num_head n ((d.map numR).flatten ++ t)
    rw [List.map_cons, List.flatten_cons, List.append_assoc, h1] at h
    simp only [List.map_nil, List.flatten_nil, List.nil_append] at h
    rcases hs with rfl | ⟨q, rfl⟩
    · cases h
    · exact absurd (List.cons.inj h).1.symm h2
  | n :: c, [], s, t, hs, ht, h => by
    obtain ⟨x, r, h1, h2⟩ := num_head n ((c.map numR).flatten ++ s)
    rw [List.map_cons, List.flatten_cons, List.append_assoc, h1] at h
    simp only [List.map_nil, List.flatten_nil, List.nil_append] at h
    rcases ht with rfl | ⟨q, rfl⟩
    · cases h
    · exact absurd (List.cons.inj h).1 h2
  | n :: c, m :: d, s, t, hs, ht, h => by
    simp only [List.map_cons, List.flatten_cons, numR, List.append_assoc, List.cons_append, List.nil_append] at h
    obtain ⟨h1, h⟩ := cut_dec h
    obtain ⟨h2, h3⟩ := nums_inj hs ht h
    exact ⟨by rw [h1, h2], h3⟩
theorem combos_inj : ∀ {l m : List (List Int)}, (l.map comboR).flatten = (m.map comboR).flatten → l = m
  | [], [], _ => rfl
  | [], c :: m, h => by simp [comboR] at h
  | c :: l, [], h => by simp [comboR] at h
  | c :: l, d :: m, h => by
    simp only [List.map_cons, List.flatten_cons, comboR, List.cons_append, List.cons.injEq, true_and] at h
    obtain ⟨h1, h2⟩ := nums_inj (bar_combos l) (bar_combos m) h
    rw [h1, combos_inj h2]
theorem timS_inj {a b : Tim} (h : timS a = timS b) : a = b := by
  unfold timS at h
  simp only [List.append_assoc, List.cons_append, List.nil_append] at h
  obtain ⟨h1, h⟩ := cut_dec h
  obtain ⟨h2, h⟩ := cut_dec h
  obtain ⟨h3, h⟩ := cut_dec h
  obtain ⟨h4, h⟩ := cut_dec h
  have h5 := dec_inj h
  obtain ⟨_, _, _, _, _⟩ := a
  obtain ⟨_, _, _, _, _⟩ := b
  simp_all
theorem dec_if {p q : Prop} [Decidable p] [Decidable q] (h : p ↔ q) : decide p = decide q := by
  by_cases hp : p
  · rw [decide_eq_true hp, decide_eq_true (h.1 hp)]
  · rw [decide_eq_false hp, decide_eq_false (fun hq => hp (h.2 hq))]
theorem pre_ne {p c s : By} (h : p.isPrefixOf c = false) : c ≠ p ++ s := fun he => by rw [he, pre_app] at h; cases h
def reqP : By := [114, 101, 113, 117, 105, 114, 101, 32]
theorem lot_none {T : Tn} {c : By} (h : lotP.isPrefixOf c = false) : T.lots.find? (fun l => c == lotC l.id) = none := by
  rw [List.find?_eq_none]
  intro l _ he
  exact pre_ne (s := dec l.id) h (show c = lotC l.id by simpa using he)
theorem crit_none {T : Tn} {c : By} (h : critP.isPrefixOf c = false) : T.crits.find? (fun x => c == critC x.name) = none := by
  rw [List.find?_eq_none]
  intro x _ he
  exact pre_ne (s := x.name) h (show c = critC x.name by simpa using he)
theorem req_none {T : Tn} {c : By} (h : reqP.isPrefixOf c = false) : (List.range T.reqs.length).find? (fun k => c == reqC (k + 1)) = none := by
  rw [List.find?_eq_none]
  intro k _ he
  exact pre_ne (s := dec ((k + 1 : Nat) : Int)) h (show c = reqC (k + 1) by simpa using he)
theorem content_fixed {T : Tn} {c : By} (h1 : lotP.isPrefixOf c = false) (h2 : critP.isPrefixOf c = false) (h3 : reqP.isPrefixOf c = false) : content T c = fixedS T c := by
  unfold content
  rw [lot_none h1, crit_none h2, req_none h3]
theorem pre_crit {c : By} (h : critP.isPrefixOf c = true) : lotP.isPrefixOf c = false ∧ reqP.isPrefixOf c = false := by
  rw [List.isPrefixOf_iff_prefix] at h
  obtain ⟨s, rfl⟩ := h
  exact ⟨rfl, rfl⟩
theorem beq_comm' {a b : By} : (a == b) = (b == a) := by
  rw [Bool.eq_iff_iff, beq_iff_eq, beq_iff_eq]
  exact eq_comm
theorem lot_of {T : Tn} {c : By} (h : c ∈ clausesR T) (hp : lotP.isPrefixOf c = true) : ∃ l, T.lots.find? (fun l => c == lotC l.id) = some l := by
  cases hf : T.lots.find? (fun l => c == lotC l.id) with
  | some l => exact ⟨l, rfl⟩
  | none =>
    exfalso
    rw [List.find?_eq_none] at hf
    rcases mem_fold h with h | h
    · simp at h
    rcases List.mem_append.1 h with h | h
    · unfold heads at h
      simp only [List.cons_append, List.mem_cons, List.mem_append, List.mem_map, List.mem_range, or_assoc] at h
      rcases h with rfl | ⟨l, hl, rfl⟩ | ⟨x, hx, rfl⟩ | ⟨k, hk, rfl⟩
      · cases hp
      · exact hf l hl (by simp)
      · cases hp
      · cases hp
    · have : fixedC.all (fun c => !lotP.isPrefixOf c) = true := by decide
      have := List.all_eq_true.1 this c h
      rw [hp] at this
      cases this
theorem crit_of {T : Tn} {c : By} (h : c ∈ clausesR T) (hp : critP.isPrefixOf c = true) : ∃ x, T.crits.find? (fun x => c == critC x.name) = some x := by
  cases hf : T.crits.find? (fun x => c == critC x.name) with
  | some l => exact ⟨l, rfl⟩
  | none =>
    exfalso
    rw [List.find?_eq_none] at hf
    rcases mem_fold h with h | h
    · simp at h
    rcases List.mem_append.1 h with h | h
    · unfold heads at h
      simp only [List.cons_append, List.mem_cons, List.mem_append, List.mem_map, List.mem_range, or_assoc] at h
      rcases h with rfl | ⟨l, hl, rfl⟩ | ⟨x, hx, rfl⟩ | ⟨k, hk, rfl⟩
      · cases hp
      · cases hp
      · exact hf x hx (by simp)
      · cases hp
    · have : fixedC.all (fun c => !critP.isPrefixOf c) = true := by decide
      have := List.all_eq_true.1 this c h
      rw [hp] at this
      cases this
theorem content_lot {T : Tn} {c : By} (h : c ∈ clausesR T) (hp : lotP.isPrefixOf c = true) : content T c = dec (lotOf T c).most := by
  obtain ⟨l, hl⟩ := lot_of h hp
  unfold content lotOf
  rw [hl]
  have he : (fun l : Lot => lotC l.id == c) = fun l => c == lotC l.id := funext fun l => beq_comm'
  rw [he, hl]
  rfl
theorem content_crit {T : Tn} {c : By} (h : c ∈ clausesR T) (hp : critP.isPrefixOf c = true) : content T c = critS (critOf T c) ∧ critP ++ (critOf T c).name = c := by
  obtain ⟨x, hx⟩ := crit_of h hp
  unfold content critOf
  rw [lot_none (pre_crit hp).1]
  have he : (fun x : Crit => critC x.name == c) = fun x => c == critC x.name := funext fun l => beq_comm'
  rw [he, hx]
  have := List.find?_some hx
  exact ⟨rfl, by have : c = critC x.name := by simpa using this
                 rw [this]; rfl⟩
theorem content_req {T : Tn} (ok : T.Ok) {k : Nat} {x : Req} (h : T.reqs[k]? = some x) : content T (reqC (k + 1)) = reqS x := by
  have hk := (List.getElem?_eq_some_iff.1 h).1
  have ok3 := ok.reqs
  unfold content
  have hp : lotP.isPrefixOf (reqC (k + 1)) = false := rfl
  have hp' : critP.isPrefixOf (reqC (k + 1)) = false := rfl
  rw [lot_none hp, crit_none hp']
  have hf : (List.range T.reqs.length).find? (fun j => reqC (k + 1) == reqC (j + 1)) = some k := find_at (k := k) (a := k) (by simp [hk]) (by simp) fun i b hi hb => by
    obtain rfl : i = b := by
      rw [List.getElem?_range (by omega)] at hb; cases hb; rfl
    cases hq : (reqC (k + 1) == reqC (i + 1)) with
    | false => rfl
    | true => have := req_inj (k := k) (j := i) (by omega) (by omega) (by simpa using hq); omega
  rw [hf]
  show (T.reqs[k]?.map reqS).getD [] = _
  rw [h]
  rfl
theorem eqP_content {T U : Tn} (ok : T.Ok) (ok' : U.Ok) {c : By} (h : c ∈ clausesR T) (h' : c ∈ clausesR U) : eqP T U c = if c = formulaC then exEqb T.f U.f else decide (content T c = content U c) := by
  by_cases e1 : c = nameC
  · subst e1
    rw [content_fixed rfl rfl rfl, content_fixed rfl rfl rfl]; rfl
  by_cases e2 : c = rangeC
  · subst e2
    rw [content_fixed rfl rfl rfl, content_fixed rfl rfl rfl]
    show (decide (T.low = U.low) && decide (T.high = U.high)) = decide (dec T.low ++ [32] ++ dec T.high = dec U.low ++ [32] ++ dec U.high)
    rw [← Bool.decide_and]
    refine dec_if ⟨fun h => by rw [h.1, h.2], fun h => ?_⟩
    simp only [List.append_assoc, List.cons_append, List.nil_append] at h
    obtain ⟨h1, h2⟩ := cut_dec h
    exact ⟨h1, dec_inj h2⟩
  by_cases e3 : c = formulaC
  · subst e3; rfl
  by_cases e4 : c = tiesC
  · subst e4
    rw [content_fixed rfl rfl rfl, content_fixed rfl rfl rfl]
    show decide (T.ties = U.ties) = decide (tiesS T.ties = tiesS U.ties)
    refine dec_if ⟨fun h => by rw [h], fun h => ?_⟩
    unfold tiesS at h
    rw [tiesS_eq, tiesS_eq] at h
    exact ties_inj h
  by_cases e5 : c = mostC
  · subst e5
    rw [content_fixed rfl rfl rfl, content_fixed rfl rfl rfl]
    show decide (T.most = U.most) = decide (dec T.most = dec U.most)
    exact dec_if dec_iff.symm
  by_cases e6 : c = combosC
  · subst e6
    rw [content_fixed rfl rfl rfl, content_fixed rfl rfl rfl]
    show decide (T.combos = U.combos) = decide (combosS T.combos = combosS U.combos)
    refine dec_if ⟨fun h => by rw [h], fun h => ?_⟩
    unfold combosS at h
    rw [combos_eq, combos_eq] at h
    exact combos_inj h
  by_cases e7 : c = budgetC
  · subst e7
    rw [content_fixed rfl rfl rfl, content_fixed rfl rfl rfl]
    show decide (T.budget = U.budget) = decide (dec T.budget = dec U.budget)
    exact dec_if dec_iff.symm
  by_cases e8 : c = timesC
  · subst e8
    rw [content_fixed rfl rfl rfl, content_fixed rfl rfl rfl]
    show decide (T.t = U.t) = decide (timS T.t = timS U.t)
    exact dec_if ⟨fun h => by rw [h], timS_inj⟩
  unfold eqP
  rw [if_neg e1, if_neg e2, if_neg e3, if_neg e4, if_neg e5, if_neg e6, if_neg e7, if_neg e8, if_neg e3]
  cases hl : lotP.isPrefixOf c with
  | true =>
    rw [if_pos rfl, content_lot h hl, content_lot h' hl]
    exact dec_if dec_iff.symm
  | false =>
  cases hc : critP.isPrefixOf c with
  | true =>
    obtain ⟨a1, a2⟩ := content_crit h hc
    obtain ⟨b1, b2⟩ := content_crit h' hc
    rw [if_neg (by simp), if_pos rfl, a1, b1]
    refine dec_if ⟨fun h => by rw [h], fun h => ?_⟩
    obtain ⟨q1, q2, q3, q4⟩ := critS_inj h
    have q5 : (critOf T c).name = (critOf U c).name := List.append_cancel_left (a2.trans b2.symm)
    generalize critOf T c = a at *
    generalize critOf U c = b at *
    obtain ⟨_, _, _, _, _⟩ := a
    obtain ⟨_, _, _, _, _⟩ := b
    simp_all
  | false =>
  have hf : c ∉ fixedC := fun hm => by
    simp only [fixedC, List.mem_cons, List.not_mem_nil, or_false] at hm
    rcases hm with h | h | h | h | h | h | h <;> contradiction
  obtain ⟨k, x, rfl, hx⟩ := req_of h e1 hf (by simp [hl]) (by simp [hc])
  obtain ⟨j, y, hj, hy⟩ := req_of h' e1 hf (by simp [hl]) (by simp [hc])
  have kl := (List.getElem?_eq_some_iff.1 hx).1
  have jl := (List.getElem?_eq_some_iff.1 hy).1
  have ok3 := ok.reqs
  have ok3' := ok'.reqs
  obtain rfl := req_inj (k := k) (j := j) (by omega) (by omega) hj
  rw [if_neg (by simp), if_neg (by simp), reqOf_at ok hx, reqOf_at ok' hy, content_req ok hx, content_req ok' hy]
  refine dec_if ⟨fun h => by rw [Option.some.inj h], fun h => by rw [reqS_inj h]⟩
theorem keeps_differs {T U : Tn} (ok : T.Ok) (ok' : U.Ok) (c : By) : (!keeps T U c) = differsR T U c := by
  unfold keeps differsR
  cases h1 : (clausesR T).contains c with
  | false => rfl
  | true =>
  cases h2 : (clausesR U).contains c with
  | false => rfl
  | true =>
  rw [eqP_content ok ok' (by simpa using h1) (by simpa using h2)]
  simp only [Bool.true_and, Bool.not_true, Bool.or_self, Bool.false_eq_true, if_false]
  split <;> rfl
theorem changed_same {T U : Tn} (ok : T.Ok) (ok' : U.Ok) : changedP T U = changedR T U := by
  unfold changedP changedR
  rw [show (fun c => !keeps T U c) = differsR T U from funext (keeps_differs ok ok')]
theorem dist_zero (c : By) : (!decide (dist c = 0)) = (!decide (c = nameC) && !decide (c = timesC)) := by
  unfold dist
  by_cases h1 : c = nameC
  · rw [if_pos h1, decide_eq_true h1]; rfl
  · rw [if_neg h1, decide_eq_false h1]
    by_cases h2 : c = timesC
    · rw [if_pos h2, decide_eq_true h2]; rfl
    · rw [if_neg h2, decide_eq_false h2]
      split <;> rfl
theorem fold_skip : ∀ (l : List By) (m : Int), 0 ≤ m → (l.filter fun c => !decide (dist c = 0)).foldl (fun m c => max m (dist c)) m = l.foldl (fun m c => max m (dist c)) m
  | [], m, _ => rfl
  | c :: l, m, hm => by
    by_cases h : dist c = 0
    · rw [List.filter_cons, if_neg (by simp [h]), List.foldl_cons, h, fold_skip l m hm]
      congr 1
      omega
    · rw [List.filter_cons, if_pos (by simp [h]), List.foldl_cons, List.foldl_cons, fold_skip l _ (by omega)]
theorem by_same {T U : Tn} (ok : T.Ok) (ok' : U.Ok) : byP T U = byOf T U := by
  unfold byP byOf movesP
  rw [changed_same ok ok', fold_skip _ _ (Int.le_refl _)]
end Go.Proofs.G
