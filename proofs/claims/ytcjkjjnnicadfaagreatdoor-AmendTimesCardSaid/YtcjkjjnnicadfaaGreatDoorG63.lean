/- A part of the proof: a walk of some functions. -/
import Derived.Test.YtcjkjjnnicadfaaGreatDoorG62
import Derived.Test.YtcjkjjnnicadfaaGreatDoorGD
set_option linter.unusedSimpArgs false
set_option linter.unusedVariables false
namespace Go.Proofs.G
open Go Go.Ab
open Nat (reduceMul reduceEqDiff reduceAdd)
set_option maxRecDepth 100000
theorem sliceseq_lot_ok {σ : St} {v w : Value} {l m : List Lot} (hl : Lots σ v l) (hk : Lots σ w m) (hn : l.length ≤ 100) (hn2 : m.length ≤ 100) :
  Ev (go Tryz.prog HS (.fn 47) [v, w] σ) (fun r => r = ⟨false, .bool (decide (l = m)), σ⟩) ⟨⟩ := by
 obtain ⟨a, c, b, off, cells, rfl, h1, h2⟩ := hl.use
 obtain ⟨a', c', b', off', cells', rfl, h1', h2'⟩ := hk.use
 refine ev_go Tryz.func47 rfl rfl ?_
 by_cases hlen : l.length = m.length
 ·have hd : decide ((l.length : Int) = (m.length : Int)) = true := by simp [hlen]
  refine gT1 @hd ?_;try exact ⟨⟩
  refine ev_count l.length (fun i fr σ' => fr.get 13 = some (.int .i64 i) ∧ fr.get 12 = some (.int .i64 l.length) ∧ fr.get 0 = some (.slice a l.length c) ∧ fr.get 1 = some (.slice a' m.length c') ∧ σ' = σ ∧ l.take i = m.take i)
   (fun r => (∃ fr, r = ⟨.exit 0, fr, σ⟩ ∧ l = m) ∨ (∃ fr, r = ⟨.ret, fr, σ⟩ ∧ fr.get 4 = some (.bool false) ∧ l ≠ m)) ?_ ?_ ?_ ?_
  ·exact ⟨fR, fR, fR, fR, rfl, by simp⟩
  ·rintro i fr σ' hi ⟨g13, g12, g0, g1, rfl, hm⟩
   have hc := lt_true hi
   have hci : i < m.length := by omega
   obtain ⟨sp, rfl, hb, hr⟩ := h1 (by omega)
   obtain ⟨sp', rfl, hb', hr'⟩ := h1' (by omega)
   obtain ⟨x, hx⟩ := at_some hi
   obtain ⟨y, hy⟩ := at_some hci
   have h2 := (h2 i x hx).1
   have h2' := (h2' i y hy).1
   cases hd2 : decide (x = y) with
   | true =>
    have hxy : x = y := of_decide_eq_true hd2
    simp (maxSteps := 1000000) (disch := first | exact dS | fail) only [↓bD2, bW2, reduceMul, reduceEqDiff, reduceAdd, Nat.reduceBEq, reduceIte, g0, g1, g12, g13, hc, hr, hr', h2, h2', b2_lot.2, hd2]
    try refine Must.intro (by (repeat first | simp (disch := omega) only [as_read, as_upd, as_newb] | rw [as_ord (by kernel_rfl)]); rfl) ?_
    try simp (maxSteps := 1000000) (disch := first | exact dS | fail) only [↓bD2, bW2, reduceMul, reduceEqDiff, reduceAdd, Nat.reduceBEq, reduceIte, g0, g1, g12, g13, hd2]
    exact ⟨fR, fR1 g12, fR1 g0, fR1 g1, by trivial, by rw [List.take_add_one, List.take_add_one, hm, hx, hy, hxy]⟩
   | false =>
    have hxy : ¬ x = y := of_decide_eq_false hd2
    simp (maxSteps := 1000000) (disch := first | exact dS | fail) only [↓bD2, bW2, reduceMul, reduceEqDiff, reduceAdd, Nat.reduceBEq, reduceIte, g0, g1, g12, g13, hc, hr, hr', h2, h2', b2_lot.2, hd2]
    try refine Must.intro (by (repeat first | simp (disch := omega) only [as_read, as_upd, as_newb] | rw [as_ord (by kernel_rfl)]); rfl) ?_
    try simp (maxSteps := 1000000) (disch := first | exact dS | fail) only [↓bD2, bW2, reduceMul, reduceEqDiff, reduceAdd, Nat.reduceBEq, reduceIte, g0, g1, g12, g13, hd2]
    refine .inr ⟨_, rfl, fR, fun h => ?_⟩
    subst h
    rw [hx] at hy; cases hy; exact hxy rfl
  ·rintro fr σ' ⟨g13, g12, g0, g1, rfl, hm⟩
   refine gT1 (And.intro @g12 @g13) ?_;try exact ⟨⟩
   refine .inl ⟨_, rfl, ?_⟩
   rw [List.take_length, hlen, List.take_length] at hm
   exact hm
  ·rintro r (⟨fr, rfl, hm⟩ | ⟨fr, rfl, g4, hm⟩)
   ·refine gT1 @Tryz.results47 ?_;try exact ⟨⟩
    rw [decide_eq_true hm]
   ·refine gT1 (And.intro @Tryz.results47 @g4) ?_;try exact ⟨⟩
    rw [decide_eq_false hm]
 ·have hd : decide ((l.length : Int) = (m.length : Int)) = false := by simp; omega
  refine gT1 (And.intro @hd @Tryz.results47) ?_;try exact ⟨⟩
  rw [decide_eq_false (fun h => hlen (by rw [h]))]
theorem sliceseq_crit_ok {σ : St} {v w : Value} {l m : List Crit} (hl : Crits σ v l) (hk : Crits σ w m) (hn : l.length ≤ 100) (hn2 : m.length ≤ 100) :
  Ev (go Tryz.prog HS (.fn 48) [v, w] σ) (fun r => r = ⟨false, .bool (decide (l = m)), σ⟩) ⟨⟩ := by
 obtain ⟨a, c, b, off, cells, rfl, h1, h2⟩ := hl.use
 obtain ⟨a', c', b', off', cells', rfl, h1', h2'⟩ := hk.use
 refine ev_go Tryz.func48 rfl rfl ?_
 by_cases hlen : l.length = m.length
 ·have hd : decide ((l.length : Int) = (m.length : Int)) = true := by simp [hlen]
  refine gT1 @hd ?_;try exact ⟨⟩
  refine ev_count l.length (fun i fr σ' => fr.get 13 = some (.int .i64 i) ∧ fr.get 12 = some (.int .i64 l.length) ∧ fr.get 0 = some (.slice a l.length c) ∧ fr.get 1 = some (.slice a' m.length c') ∧ σ' = σ ∧ l.take i = m.take i)
   (fun r => (∃ fr, r = ⟨.exit 0, fr, σ⟩ ∧ l = m) ∨ (∃ fr, r = ⟨.ret, fr, σ⟩ ∧ fr.get 4 = some (.bool false) ∧ l ≠ m)) ?_ ?_ ?_ ?_
  ·exact ⟨fR, fR, fR, fR, rfl, by simp⟩
  ·rintro i fr σ' hi ⟨g13, g12, g0, g1, rfl, hm⟩
   have hc := lt_true hi
   have hci : i < m.length := by omega
   obtain ⟨sp, rfl, hb, hr⟩ := h1 (by omega)
   obtain ⟨sp', rfl, hb', hr'⟩ := h1' (by omega)
   obtain ⟨x, hx⟩ := at_some hi
   obtain ⟨y, hy⟩ := at_some hci
   have h2 := (h2 i x hx).1
   have h2' := (h2' i y hy).1
   cases hd2 : decide (x = y) with
   | true =>
    have hxy : x = y := of_decide_eq_true hd2
    simp (maxSteps := 1000000) (disch := first | exact dS | fail) only [↓bD2, bW2, reduceMul, reduceEqDiff, reduceAdd, Nat.reduceBEq, reduceIte, g0, g1, g12, g13, hc, hr, hr', h2, h2', b2_crit.2, hd2]
    try refine Must.intro (by (repeat first | simp (disch := omega) only [as_read, as_upd, as_newb] | rw [as_ord (by kernel_rfl)]); rfl) ?_
    try simp (maxSteps := 1000000) (disch := first | exact dS | fail) only [↓bD2, bW2, reduceMul, reduceEqDiff, reduceAdd, Nat.reduceBEq, reduceIte, g0, g1, g12, g13, hd2]
    exact ⟨fR, fR1 g12, fR1 g0, fR1 g1, by trivial, by rw [List.take_add_one, List.take_add_one, hm, hx, hy, hxy]⟩
   | false =>
    have hxy : ¬ x = y := of_decide_eq_false hd2
    simp (maxSteps := 1000000) (disch := first | exact dS | fail) only [↓bD2, bW2, reduceMul, reduceEqDiff, reduceAdd, Nat.reduceBEq, reduceIte, g0, g1, g12, g13, hc, hr, hr', h2, h2', b2_crit.2, hd2]
    try refine Must.intro (by (repeat first | simp (disch := omega) only [as_read, as_upd, as_newb] | rw [as_ord (by kernel_rfl)]); rfl) ?_
    try simp (maxSteps := 1000000) (disch := first | exact dS | fail) only [↓bD2, bW2, reduceMul, reduceEqDiff, reduceAdd, Nat.reduceBEq, reduceIte, g0, g1, g12, g13, hd2]
    refine .inr ⟨_, rfl, fR, fun h => ?_⟩
    subst h
    rw [hx] at hy; cases hy; exact hxy rfl
  ·rintro fr σ' ⟨g13, g12, g0, g1, rfl, hm⟩
   refine gT1 (And.intro @g12 @g13) ?_;try exact ⟨⟩
   refine .inl ⟨_, rfl, ?_⟩
   rw [List.take_length, hlen, List.take_length] at hm
   exact hm
  ·rintro r (⟨fr, rfl, hm⟩ | ⟨fr, rfl, g4, hm⟩)
   ·refine gT1 @Tryz.results48 ?_;try exact ⟨⟩
    rw [decide_eq_true hm]
   ·refine gT1 (And.intro @Tryz.results48 @g4) ?_;try exact ⟨⟩
    rw [decide_eq_false hm]
 ·have hd : decide ((l.length : Int) = (m.length : Int)) = false := by simp; omega
  refine gT1 (And.intro @hd @Tryz.results48) ?_;try exact ⟨⟩
  rw [decide_eq_false (fun h => hlen (by rw [h]))]
theorem sliceseq_req_ok {σ : St} {v w : Value} {l m : List Req} (hl : Reqs σ v l) (hk : Reqs σ w m) (hn : l.length ≤ 100) (hn2 : m.length ≤ 100) :
  Ev (go Tryz.prog HS (.fn 49) [v, w] σ) (fun r => r = ⟨false, .bool (decide (l = m)), σ⟩) ⟨⟩ := by
 obtain ⟨a, c, b, off, cells, rfl, h1, h2⟩ := hl.use
 obtain ⟨a', c', b', off', cells', rfl, h1', h2'⟩ := hk.use
 refine ev_go Tryz.func49 rfl rfl ?_
 by_cases hlen : l.length = m.length
 ·have hd : decide ((l.length : Int) = (m.length : Int)) = true := by simp [hlen]
  refine gT1 @hd ?_;try exact ⟨⟩
  refine ev_count l.length (fun i fr σ' => fr.get 13 = some (.int .i64 i) ∧ fr.get 12 = some (.int .i64 l.length) ∧ fr.get 0 = some (.slice a l.length c) ∧ fr.get 1 = some (.slice a' m.length c') ∧ σ' = σ ∧ l.take i = m.take i)
   (fun r => (∃ fr, r = ⟨.exit 0, fr, σ⟩ ∧ l = m) ∨ (∃ fr, r = ⟨.ret, fr, σ⟩ ∧ fr.get 4 = some (.bool false) ∧ l ≠ m)) ?_ ?_ ?_ ?_
  ·exact ⟨fR, fR, fR, fR, rfl, by simp⟩
  ·rintro i fr σ' hi ⟨g13, g12, g0, g1, rfl, hm⟩
   have hc := lt_true hi
   have hci : i < m.length := by omega
   obtain ⟨sp, rfl, hb, hr⟩ := h1 (by omega)
   obtain ⟨sp', rfl, hb', hr'⟩ := h1' (by omega)
   obtain ⟨x, hx⟩ := at_some hi
   obtain ⟨y, hy⟩ := at_some hci
   have h2 := (h2 i x hx).1
   have h2' := (h2' i y hy).1
   cases hd2 : decide (x = y) with
   | true =>
    have hxy : x = y := of_decide_eq_true hd2
    simp (maxSteps := 1000000) (disch := first | exact dS | fail) only [↓bD2, bW2, reduceMul, reduceEqDiff, reduceAdd, Nat.reduceBEq, reduceIte, g0, g1, g12, g13, hc, hr, hr', h2, h2', b2_req.2, hd2]
    try refine Must.intro (by (repeat first | simp (disch := omega) only [as_read, as_upd, as_newb] | rw [as_ord (by kernel_rfl)]); rfl) ?_
    try simp (maxSteps := 1000000) (disch := first | exact dS | fail) only [↓bD2, bW2, reduceMul, reduceEqDiff, reduceAdd, Nat.reduceBEq, reduceIte, g0, g1, g12, g13, hd2]
    exact ⟨fR, fR1 g12, fR1 g0, fR1 g1, by trivial, by rw [List.take_add_one, List.take_add_one, hm, hx, hy, hxy]⟩
   | false =>
    have hxy : ¬ x = y := of_decide_eq_false hd2
    simp (maxSteps := 1000000) (disch := first | exact dS | fail) only [↓bD2, bW2, reduceMul, reduceEqDiff, reduceAdd, Nat.reduceBEq, reduceIte, g0, g1, g12, g13, hc, hr, hr', h2, h2', b2_req.2, hd2]
    try refine Must.intro (by (repeat first | simp (disch := omega) only [as_read, as_upd, as_newb] | rw [as_ord (by kernel_rfl)]); rfl) ?_
    try simp (maxSteps := 1000000) (disch := first | exact dS | fail) only [↓bD2, bW2, reduceMul, reduceEqDiff, reduceAdd, Nat.reduceBEq, reduceIte, g0, g1, g12, g13, hd2]
    refine .inr ⟨_, rfl, fR, fun h => ?_⟩
    subst h
    rw [hx] at hy; cases hy; exact hxy rfl
  ·rintro fr σ' ⟨g13, g12, g0, g1, rfl, hm⟩
   refine gT1 (And.intro @g12 @g13) ?_;try exact ⟨⟩
   refine .inl ⟨_, rfl, ?_⟩
   rw [List.take_length, hlen, List.take_length] at hm
   exact hm
  ·rintro r (⟨fr, rfl, hm⟩ | ⟨fr, rfl, g4, hm⟩)
   ·refine gT1 @Tryz.results49 ?_;try exact ⟨⟩
    rw [decide_eq_true hm]
   ·refine gT1 (And.intro @Tryz.results49 @g4) ?_;try exact ⟨⟩
    rw [decide_eq_false hm]
 ·have hd : decide ((l.length : Int) = (m.length : Int)) = false := by simp; omega
  refine gT1 (And.intro @hd @Tryz.results49) ?_;try exact ⟨⟩
  rw [decide_eq_false (fun h => hlen (by rw [h]))]
theorem eqcombos2_ok {σ : St} {v w : Value} {l m : List (List Int)} (hl : Combos σ v l) (hk : Combos σ w m) (hn : l.length ≤ 100) (hn2 : m.length ≤ 100) (hi : ∀ c ∈ l, c.length ≤ 100) (hi2 : ∀ c ∈ m, c.length ≤ 100) :
  Ev (go Tryz.prog HS (.fn 51) [v, w, .func (.func 52) ⟨[]⟩ ⟨[]⟩] σ) (fun r => r = ⟨false, .bool (decide (l = m)), σ⟩) ⟨⟩ := by
 obtain ⟨vs, k1, k2⟩ := hl
 obtain ⟨vs', k1', k2'⟩ := hk
 obtain ⟨a, c, b, off, cells, rfl, h1, h2⟩ := SL.use' k1
 obtain ⟨a', c', b', off', cells', rfl, h1', h2'⟩ := SL.use' k1'
 have e1 := k2.len
 have e2 := k2'.len
 refine ev_go Tryz.func51 rfl rfl ?_
 by_cases hlen : l.length = m.length
 ·have hd : decide ((vs.length : Int) = (vs'.length : Int)) = true := by simp; omega
  refine gT1 @hd ?_;try exact ⟨⟩
  refine ev_count vs.length (fun i fr σ' => fr.get 17 = some (.int .i64 i) ∧ fr.get 16 = some (.int .i64 vs.length) ∧ fr.get 15 = some (.slice a vs.length c) ∧ fr.get 1 = some (.slice a' vs'.length c') ∧ fr.get 2 = some (.func (.func 52) ⟨[]⟩ ⟨[]⟩) ∧ σ' = σ ∧ l.take i = m.take i)
   (fun r => (∃ fr, r = ⟨.exit 0, fr, σ⟩ ∧ l = m) ∨ (∃ fr, r = ⟨.ret, fr, σ⟩ ∧ fr.get 6 = some (.bool false) ∧ l ≠ m)) ?_ ?_ ?_ ?_
  ·exact ⟨fR, fR, fR, fR, fR, rfl, by simp⟩
  ·rintro i fr σ' hi' ⟨g17, g16, g15, g1, g2, rfl, hm⟩
   have hc := lt_true hi'
   obtain ⟨sp, rfl, hb, hr⟩ := h1 (by omega)
   obtain ⟨sp', rfl, hb', hr'⟩ := h1' (by omega)
   obtain ⟨u, hu⟩ := at_some hi'
   obtain ⟨u', hu'⟩ := at_some (l := vs') (k := i) (by omega)
   obtain ⟨x, hx⟩ := at_some (l := l) (k := i) (by omega)
   obtain ⟨y, hy⟩ := at_some (l := m) (k := i) (by omega)
   have h2 := h2 i u hu
   have h2' := h2' i u' hu'
   rw [Nat.mul_one] at h2 h2'
   have i1 := k2.get hu hx
   have i2 := k2'.get hu' hy
   obtain ⟨sa, sc, sb, so, scs, rfl, -, -⟩ := i1.use
   obtain ⟨sa', sc', sb', so', scs', rfl, -, -⟩ := i2.use
   refine gT1 (And.intro @g1 (And.intro @g2 (And.intro @g15 (And.intro @g16 (And.intro @g17 (And.intro @hc (And.intro @hr (And.intro @hr' (And.intro @h2 @h2'))))))))) ?_;try exact ⟨⟩
   refine (sliceseq_int_ok i1 i2 (hi x (List.mem_of_getElem? hx)) (hi2 y (List.mem_of_getElem? hy))).mono ?_
   rintro r rfl
   cases hd2 : decide (x = y) with
   | true =>
    have hxy : x = y := of_decide_eq_true hd2
    refine gT1 (And.intro @g1 (And.intro @g2 (And.intro @g15 (And.intro @g16 @g17)))) ?_;try exact ⟨⟩
    exact ⟨fR, fR1 g16, fR1 g15, fR1 g1, fR1 g2, by trivial, by rw [List.take_add_one, List.take_add_one, hm, hx, hy, hxy]⟩
   | false =>
    have hxy : ¬ x = y := of_decide_eq_false hd2
    refine gT1 (And.intro @g1 (And.intro @g2 (And.intro @g15 (And.intro @g16 @g17)))) ?_;try exact ⟨⟩
    refine .inr ⟨_, rfl, fR, fun h => ?_⟩
    subst h
    rw [hx] at hy; cases hy; exact hxy rfl
  ·rintro fr σ' ⟨g17, g16, g15, g1, g2, rfl, hm⟩
   refine gT1 (And.intro @g16 @g17) ?_;try exact ⟨⟩
   refine .inl ⟨_, rfl, ?_⟩
   rw [e1, List.take_length, hlen, List.take_length] at hm
   exact hm
  ·rintro r (⟨fr, rfl, hm⟩ | ⟨fr, rfl, g4, hm⟩)
   ·refine gT1 @Tryz.results51 ?_;try exact ⟨⟩
    rw [decide_eq_true hm]
   ·refine gT1 (And.intro @Tryz.results51 @g4) ?_;try exact ⟨⟩
    rw [decide_eq_false hm]
 ·have hd : decide ((vs.length : Int) = (vs'.length : Int)) = false := by simp; omega
  refine gT1 (And.intro @hd @Tryz.results51) ?_;try exact ⟨⟩
  rw [decide_eq_false (fun h => hlen (by rw [h]))]
theorem eqf_ok : ∀ (n : Nat) {σ : St} {ra rb : List Value} {a b : Ex}, SizeOf.sizeOf a < n → ExAt σ ra a → ExAt σ rb b → Ev (go Tryz.prog HS (.fn 53) [.agg ⟨ra⟩, .agg ⟨rb⟩] σ) (fun r => ∃ σ', r = ⟨false, .bool (exEqb a b), σ'⟩ ∧ Ext σ σ') ⟨⟩ := by
 intro n
 induction n with
 | zero => intro σ ra rb a b h; omega
 | succ n ih =>
  rintro σ ra rb ⟨o, nu, de, nm, es⟩ ⟨o', nu', de', nm', es'⟩ hsz ⟨v, rows, rfl, h2, h4, h3⟩ ⟨v', rows', rfl, h2', h4', h3'⟩
  have e0 : exEqb (.mk o nu de nm es) (.mk o' nu' de' nm' es') = (decide (o = o') && (decide (nu = nu') && decide (de = de')) && decide (nm = nm') && exsEqb es es') := by unfold exEqb; rfl
  obtain ⟨sa, sc, sb, so, scs, rfl, -, -⟩ := ExsAt.slice h2 h3
  obtain ⟨sa', sc', sb', so', scs', rfl, -, -⟩ := ExsAt.slice h2' h3'
  refine ev_go Tryz.func53 rfl rfl ?_
  rw [e0]
  cases hd1 : decide (o = o') with
  | false => simp (maxSteps := 1000000) (disch := first | exact dS | fail) only [↓bD2, bW2, reduceMul, reduceEqDiff, reduceAdd, Nat.reduceBEq, reduceIte, b2_rat.1, b2_rat.2, hd1, yu_t, yu_f, Bool.false_and, Tryz.results53]; exact ⟨_, rfl, eX⟩
  | true =>
  cases hd2 : (decide (nu = nu') && decide (de = de')) with
  | false => simp (maxSteps := 1000000) (disch := first | exact dS | fail) only [↓bD2, bW2, reduceMul, reduceEqDiff, reduceAdd, Nat.reduceBEq, reduceIte, b2_rat.1, b2_rat.2, hd1, hd2, yu_t, yu_f, Bool.false_and, Bool.true_and, Tryz.results53]; exact ⟨_, rfl, eX⟩
  | true =>
  cases hd3 : decide (nm = nm') with
  | false => simp (maxSteps := 1000000) (disch := first | exact dS | fail) only [↓bD2, bW2, reduceMul, reduceEqDiff, reduceAdd, Nat.reduceBEq, reduceIte, b2_rat.1, b2_rat.2, hd1, hd2, hd3, yu_t, yu_f, Bool.false_and, Bool.true_and, Tryz.results53]; exact ⟨_, rfl, eX⟩
  | true =>
   simp (maxSteps := 1000000) (disch := first | exact dS | fail) only [↓bD2, bW2, reduceMul, reduceEqDiff, reduceAdd, Nat.reduceBEq, reduceIte, b2_rat.1, b2_rat.2, hd1, hd2, hd3, yu_t, yu_f, Bool.false_and, Bool.true_and]
   refine (eqfx_ok (h2.mono (eX)) (ExsAt.mono (eX) h3) (h2'.mono (eX)) (ExsAt.mono (eX) h3') h4 h4' fun a b ha ra rb σ' hE hra hrb => ih ?_ hra hrb).mono ?_
   ·have h5 := List.sizeOf_lt_of_mem ha
    simp at hsz
    omega
   rintro r ⟨σ2, rfl, hE2⟩
   refine gT1 (And.intro @yu_t (And.intro @yu_f @Tryz.results53)) ?_;try exact ⟨⟩
   exact ⟨_, rfl, Ext.trans (eX) hE2⟩
mutual
theorem exEqb_self : ∀ (e : Ex), exEqb e e = true
 | .mk o n d nm l => by unfold exEqb; rw [exsEqb_self l]; simp
theorem exsEqb_self : ∀ (l : List Ex), exsEqb l l = true
 | [] => by unfold exsEqb; rfl
 | a :: l => by unfold exsEqb; rw [exEqb_self a, exsEqb_self l]; rfl
end
set_option maxHeartbeats 4000000 in
theorem textequal_ok {σ : St} {ca cb : List Value} {T : Tn} (hT : Good σ ca T) (hU : Good σ cb T) : Ev (go Tryz.prog HS (.fn 20) [.agg ⟨ca⟩, .agg ⟨cb⟩] σ) (fun r => ∃ σ', r = ⟨false, .bool true, σ'⟩ ∧ Ext σ σ') ⟨⟩ := by
 obtain ⟨vl, vc, vr, ex, vt, vk, hp, h2, h3, h4, h5, h6, h7⟩ := hT.parts
 obtain ⟨ul, uc, ur, ey, ut, uk, hq, k2, k3, k4, k5, k6, k7⟩ := hU.parts
 have L1 := hT.ok.lots
 have L2 := hT.ok.crits
 have L3 := hT.ok.reqs
 have L4 := hT.ok.ties
 have L5 := hT.ok.combos
 have L6 : ∀ c ∈ T.combos, c.length ≤ 100 := fun c hc => by have := (hT.ok.combo c hc).1; omega
 have E0 : Ext σ ((σ.new ca).new cb) := eX
 have tq : ∀ (t : Tim), [Value.int .i64 t.q, .int .i64 t.b, .int .i64 t.g, .int .i64 t.p, .int .i64 t.s] = t.row := fun _ => rfl
 have p15 := hp.p15
 have q15 := hq.p15
 rw [tq] at p15 q15
 have dd : ∀ {α : Type} [DecidableEq α] (a : α), decide (a = a) = true := fun a => by simp
 refine ev_go Tryz.func20 rfl rfl ?_
 simp only [List.append_eq, List.cons_append, List.nil_append]
 simp (maxSteps := 1000000) (disch := first | exact dS | fail) only [↓bD2, bW2, reduceMul, reduceEqDiff, reduceAdd, Nat.reduceBEq, reduceIte, hp.all, hq.all, hp.p0, hq.p0, hp.p4, hq.p4, hp.p5, hq.p5, hp.p12, hq.p12, hp.p14, hq.p14, p15, q15, b2_tim.1, decide_true, dd, hp.p1, hq.p1, yu_t, yu_f]
 refine (sliceseq_lot_ok (h2.mono E0) (k2.mono E0) (by omega) (by omega)).mono ?_
 rintro r rfl
 refine gT1 (And.intro @dd (And.intro @hp.p2 (And.intro @hq.p2 (And.intro @yu_t @yu_f)))) ?_;try exact ⟨⟩
 refine (sliceseq_crit_ok (h3.mono E0) (k3.mono E0) (by omega) (by omega)).mono ?_
 rintro r rfl
 refine gT1 (And.intro @dd (And.intro @hp.p3 (And.intro @hq.p3 (And.intro @yu_t @yu_f)))) ?_;try exact ⟨⟩
 refine (sliceseq_req_ok (h4.mono E0) (k4.mono E0) (by omega) (by omega)).mono ?_
 rintro r rfl
 refine gT1 (And.intro @dd (And.intro @hp.p11 (And.intro @hq.p11 (And.intro @yu_t @yu_f)))) ?_;try exact ⟨⟩
 refine (sliceseq_str_ok (h6.mono E0) (k6.mono E0) (by omega) (by omega)).mono ?_
 rintro r rfl
 refine gT1 (And.intro @dd (And.intro @hp.p13 (And.intro @hq.p13 (And.intro @yu_t @yu_f)))) ?_;try exact ⟨⟩
 refine (eqcombos2_ok (h7.mono E0) (k7.mono E0) (by omega) (by omega) L6 L6).mono ?_
 rintro r rfl
 refine gT1 (And.intro @dd (And.intro @hp.p6 (And.intro @hq.p6 (And.intro @yu_t @yu_f)))) ?_;try exact ⟨⟩
 refine (eqf_ok _ (Nat.lt_succ_self _) (h5.mono E0) (k5.mono E0)).mono ?_
 rintro r ⟨σ2, rfl, hE2⟩
 rw [exEqb_self]
 refine gT1 (And.intro @dd (And.intro @yu_t (And.intro @yu_f @Tryz.results20))) ?_;try exact ⟨⟩
 exact ⟨_, rfl, E0.trans hE2⟩
end Go.Proofs.G
