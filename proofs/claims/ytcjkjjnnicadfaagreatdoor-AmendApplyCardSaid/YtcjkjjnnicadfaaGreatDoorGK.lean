/- A part of the proof: a walk of some functions. -/
import Derived.Test.YtcjkjjnnicadfaaGreatDoorGJ
import Derived.Test.YtcjkjjnnicadfaaGreatDoorAbD
set_option linter.unusedSimpArgs false
set_option linter.unusedVariables false
namespace Go.Proofs.G
open Go Go.Ab
set_option maxRecDepth 100000
theorem plan_mono {σ σ' : St} {cp : List Value} (hP : PlanAt σ cp) (hE : Ext σ σ') : PlanAt σ' cp := by
  obtain ⟨vl, vc, vr, vf, vt, vk, lots, crits, reqs, f, ties, vs, combos, o0, o1, o2, o3, o4, o5, o6, o7, o8, o9, h0, h1, h2, h3, h4, h5, ⟨h6, h7⟩, h8⟩ := hP
  refine ⟨vl, vc, vr, vf, vt, vk, lots, crits, reqs, f, ties, vs, combos, o0, o1, o2, o3, o4, o5, o6, o7, o8, o9, h0, ⟨SL.mono h1.1 hE, h1.2⟩, ⟨SL.mono h2.1 hE, h2.2⟩, ⟨SL.mono h3.1 hE, h3.2⟩, ⟨SL.mono h4.1 hE, h4.2⟩, ⟨SL.mono h5.1 hE, h5.2⟩, ⟨SL.mono h6 hE, h7.mono fun a l h => ⟨h.1, ?_⟩⟩, h8⟩
  rcases h.2 with h | ⟨b, off, c, cells, e1, e2, e3, e4, e5⟩
  · exact .inl h
  · exact .inr ⟨b, off, c, cells, e1, e2, Nat.lt_of_lt_of_le e3 hE.n, by rw [hE.row e3]; exact e4, e5⟩
set_option maxHeartbeats 4000000 in
theorem plan_ok {σ : St} {cp : List Value} {a0 a1 a2 b0 b1 b2 : Int} (hP : PlanAt σ cp) (ha : In64 a0 ∧ In64 a1 ∧ In64 a2) (hb : In64 b0 ∧ In64 b1 ∧ In64 b2) :
    Ev (go Tryz.prog HS (.fn 10) [.agg ⟨cp⟩, .agg ⟨[.int .i64 a0, .int .i64 a1, .int .i64 a2, .int .i64 b0, .int .i64 b1, .int .i64 b2]⟩] σ) (fun r => ∃ ca cb T U σ', r = ⟨false, .tuple ⟨[.agg ⟨ca⟩, .agg ⟨cb⟩]⟩, σ'⟩ ∧ Ext σ σ' ∧ Good σ' ca T ∧ Good σ' cb U) ⟨⟩ := by
  have hlen : cp.length = 16 := by
    obtain ⟨vl, vc, vr, vf, vt, vk, lots, crits, reqs, f, ties, vs, combos, o0, o1, o2, o3, o4, o5, o6, o7, o8, o9, rfl, -⟩ := hP
    rfl
  have hfull : sub cp 0 16 = some cp := sub_full (by omega) (by omega)
  have z45 : zCells = [str [], .slice none 0 0, .slice none 0 0, .slice none 0 0, .int .i64 0, .int .i64 0, str [], .int .i64 0, .int .i64 0, str [], .slice none 0 0, .slice none 0 0, .int .i64 0, .slice none 0 0, .int .i64 0, .int .i64 0, .int .i64 0, .int .i64 0, .int .i64 0, .int .i64 0] := rfl
  obtain ⟨q, hq⟩ : ∃ q : List Value, [.int .i64 a0, .int .i64 a1, .int .i64 a2, .int .i64 b0, .int .i64 b1, .int .i64 b2] = q := ⟨_, rfl⟩
  rw [hq]
  have y0 : sub q 0 3 = some [.int .i64 a0, .int .i64 a1, .int .i64 a2] := by rw [← hq]; rfl
  have y1 : sub q 3 3 = some [.int .i64 b0, .int .i64 b1, .int .i64 b2] := by rw [← hq]; rfl
  have yl : q.length = 6 := by rw [← hq]; rfl
  have hPk : ∀ {σ' : St}, Ext σ σ' → PlanAt σ' cp := fun hE => plan_mono hP hE
  refine ev_go Tryz.func10 rfl rfl ?_
  simp (maxSteps := 1000000) (disch := first | omega | ((try simp only [bunN]) <;> omega) | fail) only [↓bunD, bunU, ↓bunFD, bunFU, Nat.reduceMul, Nat.reduceEqDiff, Nat.reduceAdd, Nat.reduceBEq, reduceIte, splice_succ, bunAP, hlen, yl, hfull]
  refine (tender_ok [σ.n + 1 + 1, σ.n + 1 + 1 + 1] (by first | (simp; done) | (simp; omega)) (hPk (by (repeat' (first | assumption | exact Ext.refl _ | refine Ext.new' ?_ _ | refine Ext.upd ?_ (by (try simp only [bunM]) <;> omega) _ | refine Ext.dead ?_ (by (try simp only [bunM]) <;> omega)))))).mono ?_
  rintro r ⟨ct, T, σ2, rfl, e2, hT, okT, leT, nmT⟩
  have n2 := e2.n
  simp only [new_n] at n2
  have lt := hT.tn.len
  have ft : sub ct 0 20 = some ct := sub_full (by omega) (by omega)
  have ot : splice zCells 0 ct = some ct := splice_all (by rw [lt]; rfl)
  have q2 : σ2.row (σ.n + 1) = some q := by rw [e2.row (by first | trivial | rfl | assumption | omega | (simp only [bunM]; omega) | (simp (disch := first | omega | ((try simp only [bunN]) <;> omega) | fail) only [bunR]; first | done | rfl | assumption | omega))]; first | trivial | rfl | assumption | omega | (simp only [bunM]; omega) | (simp (disch := first | omega | ((try simp only [bunN]) <;> omega) | fail) only [bunR]; first | done | rfl | assumption | omega)
  have r2 : σ2.orow (σ.n + 1 + 1) = some zCells := by rw [e2.orow (by first | trivial | rfl | assumption | omega | (simp only [bunM]; omega) | (simp (disch := first | omega | ((try simp only [bunN]) <;> omega) | fail) only [bunR]; first | done | rfl | assumption | omega))]; first | trivial | rfl | assumption | omega | (simp only [bunM]; omega) | (simp (disch := first | omega | ((try simp only [bunN]) <;> omega) | fail) only [bunR, z45]; first | done | rfl | assumption | omega)
  have r3 : σ2.orow (σ.n + 1 + 1 + 1) = some zCells := by rw [e2.orow (by first | trivial | rfl | assumption | omega | (simp only [bunM]; omega) | (simp (disch := first | omega | ((try simp only [bunN]) <;> omega) | fail) only [bunR]; first | done | rfl | assumption | omega))]; first | trivial | rfl | assumption | omega | (simp only [bunM]; omega) | (simp (disch := first | omega | ((try simp only [bunN]) <;> omega) | fail) only [bunR, z45]; first | done | rfl | assumption | omega)
  simp (maxSteps := 1000000) (disch := first | omega | ((try simp only [bunN]) <;> omega) | fail) only [↓bunD, bunU, ↓bunFD, bunFU, Nat.reduceMul, Nat.reduceEqDiff, Nat.reduceAdd, Nat.reduceBEq, reduceIte, splice_succ, bunAP, lt, ft, q2, y0]
  refine (edit_ok (n := 5) [σ.n + 1 + 1, σ.n + 1 + 1 + 1] (by first | (simp; done) | (simp; omega)) (hT.keep (keep_ext (by (repeat' (first | assumption | exact Ext.refl _ | refine Ext.new' ?_ _ | refine Ext.upd ?_ (by (try simp only [bunM]) <;> omega) _ | refine Ext.dead ?_ (by (try simp only [bunM]) <;> omega)))))) okT leT (by omega) ha.1 ha.2.1 ha.2.2).mono ?_
  rintro r ⟨cu, U, σ3, rfl, e3, hU, okU, leU, nmU⟩
  have n3 := e3.n
  simp only [new_n, upd_n] at n3
  have q3 : σ3.row (σ.n + 1) = some q := by rw [e3.row (by first | trivial | rfl | assumption | omega | (simp only [bunM]; omega) | (simp (disch := first | omega | ((try simp only [bunN]) <;> omega) | fail) only [bunR]; first | done | rfl | assumption | omega))]; first | trivial | rfl | assumption | omega | (simp only [bunM]; omega) | (simp (disch := first | omega | ((try simp only [bunN]) <;> omega) | fail) only [bunR, q2]; first | done | rfl | assumption | omega)
  have r32 : σ3.orow (σ.n + 1 + 1) = some zCells := by rw [e3.orow (by first | trivial | rfl | assumption | omega | (simp only [bunM]; omega) | (simp (disch := first | omega | ((try simp only [bunN]) <;> omega) | fail) only [bunR]; first | done | rfl | assumption | omega))]; first | trivial | rfl | assumption | omega | (simp only [bunM]; omega) | (simp (disch := first | omega | ((try simp only [bunN]) <;> omega) | fail) only [bunR, r2]; first | done | rfl | assumption | omega)
  have r33 : σ3.orow (σ.n + 1 + 1 + 1) = some zCells := by rw [e3.orow (by first | trivial | rfl | assumption | omega | (simp only [bunM]; omega) | (simp (disch := first | omega | ((try simp only [bunN]) <;> omega) | fail) only [bunR]; first | done | rfl | assumption | omega))]; first | trivial | rfl | assumption | omega | (simp only [bunM]; omega) | (simp (disch := first | omega | ((try simp only [bunN]) <;> omega) | fail) only [bunR, r3]; first | done | rfl | assumption | omega)
  simp (maxSteps := 1000000) (disch := first | omega | ((try simp only [bunN]) <;> omega) | fail) only [↓bunD, bunU, ↓bunFD, bunFU, Nat.reduceMul, Nat.reduceEqDiff, Nat.reduceAdd, Nat.reduceBEq, reduceIte, splice_succ, bunAP, q3, y1]
  refine (edit_ok (n := 6) [σ.n + 1 + 1, σ.n + 1 + 1 + 1] (by first | (simp; done) | (simp; omega)) hU okU leU (by omega) hb.1 hb.2.1 hb.2.2).mono ?_
  rintro r ⟨cv, V, σ4, rfl, e4, hV, okV, leV, nmV⟩
  have n4 := e4.n
  have lv := hV.tn.len
  have fv : sub cv 0 20 = some cv := sub_full (by omega) (by omega)
  have ov : splice zCells 0 cv = some cv := splice_all (by rw [lv]; rfl)
  have r42 : σ4.orow (σ.n + 1 + 1) = some zCells := by rw [e4.orow (by omega)]; exact r32
  have r43 : σ4.orow (σ.n + 1 + 1 + 1) = some zCells := by rw [e4.orow (by omega)]; exact r33
  simp (maxSteps := 1000000) (disch := first | omega | ((try simp only [bunN]) <;> omega) | fail) only [↓bunD, bunU, ↓bunFD, bunFU, Nat.reduceMul, Nat.reduceEqDiff, Nat.reduceAdd, Nat.reduceBEq, reduceIte, splice_succ, bunAP, r42, r43, lt, lv, ot, ov, asx e3, asx e4, as_newb, as_upd, ft, fv, Tryz.results10]
  have hE4 : Ext σ σ4 := Ext.trans (Ext.trans (Ext.trans (by (repeat' (first | assumption | exact Ext.refl _ | refine Ext.new' ?_ _ | refine Ext.upd ?_ (by (try simp only [bunM]) <;> omega) _ | refine Ext.dead ?_ (by (try simp only [bunM]) <;> omega)))) e2) (Ext.trans (by (repeat' (first | assumption | exact Ext.refl _ | refine Ext.new' ?_ _ | refine Ext.upd ?_ (by (try simp only [bunM]) <;> omega) _ | refine Ext.dead ?_ (by (try simp only [bunM]) <;> omega)))) e3)) e4
  have hF : Keep (hide σ4 [σ.n + 1 + 1, σ.n + 1 + 1 + 1]) ((σ4.upd (σ.n + 1 + 1) ct).upd (σ.n + 1 + 1 + 1) cv) := by
    have := keep_hide (σ := σ4) (σ' := (σ4.upd (σ.n + 1 + 1) ct).upd (σ.n + 1 + 1 + 1) cv) (l := [σ.n + 1 + 1, σ.n + 1 + 1 + 1]) (l' := []) (Nat.le_refl _) fun c hc hm => ⟨by simp, by rw [row_upd_ne (fun e => hm (by simp [e])), row_upd_ne (fun e => hm (by simp [e]))]⟩
    exact this
  exact ⟨ct, cv, T, V, _, rfl, by (repeat' (first | assumption | exact Ext.refl _ | refine Ext.new' ?_ _ | refine Ext.upd ?_ (by (try simp only [bunM]) <;> omega) _ | refine Ext.dead ?_ (by (try simp only [bunM]) <;> omega))), ⟨((hT.keep (keep_ext (Ext.trans (Ext.trans (by (repeat' (first | assumption | exact Ext.refl _ | refine Ext.new' ?_ _ | refine Ext.upd ?_ (by (try simp only [bunM]) <;> omega) _ | refine Ext.dead ?_ (by (try simp only [bunM]) <;> omega)))) e3) e4))).keep hF).tn, okT, nmT⟩, ⟨(hV.keep hF).tn, okV, by rw [nmV, nmU]; exact nmT⟩⟩
end Go.Proofs.G
namespace Go.Proofs.G
open Go Go.Ab
set_option maxRecDepth 100000
theorem later_in64 {own old b : Int} (h1 : In64 own) (h2 : In64 old) (h3 : 0 ≤ b) (h4 : b ≤ 10080) : In64 (later own old b) := by
  obtain ⟨a1, a2⟩ := h1
  obtain ⟨b1, b2⟩ := h2
  unfold later In64
  split <;> omega
theorem in64_0 : In64 0 := ⟨by omega, by omega⟩
theorem zero_ok : zeroTn.Ok := ⟨by decide, by simp [zeroTn], by decide, by simp [zeroTn], by decide, by simp [zeroTn], in64_0, in64_0, by decide, by simp [zeroTn], in64_0, by decide, by simp [zeroTn], in64_0, ⟨in64_0, in64_0, in64_0, in64_0, in64_0⟩⟩
theorem applied_ok {T U : Tn} {time : Int} (ok : T.Ok) (ok' : U.Ok) : (applied T U time).1.Ok := by
  have hb := byOf_cases T U
  unfold applied
  split
  · exact zero_ok
  · split
    · exact zero_ok
    · exact ⟨ok'.lots, ok'.lot, ok'.crits, ok'.crit, ok'.reqs, ok'.req, ok'.low, ok'.high, ok'.ties, ok'.tie, ok'.most, ok'.combos, ok'.combo, ok'.budget, ⟨ok'.tim.1, later_in64 ok'.tim.2.1 ok.tim.2.1 (by omega) (by omega), later_in64 ok'.tim.2.2.1 ok.tim.2.2.1 (by omega) (by omega), later_in64 ok'.tim.2.2.2.1 ok.tim.2.2.2.1 (by omega) (by omega), ok'.tim.2.2.2.2⟩⟩
theorem splice_mid {p a r b : List Value} (h : a.length = b.length) {o : Nat} (ho : o = p.length) : splice (p ++ (a ++ r)) o b = some (p ++ (b ++ r)) := by
  subst ho
  rw [splice_at' (by simp; omega)]
  rw [List.take_left' rfl, ← h, ← List.drop_drop, List.drop_left' rfl, List.drop_left' rfl, List.append_assoc]
set_option maxHeartbeats 4000000 in
theorem law_apply_ok {σ : St} {cp : List Value} {a0 a1 a2 b0 b1 b2 time : Int} (hP : PlanAt σ cp) (ha : In64 a0 ∧ In64 a1 ∧ In64 a2) (hb : In64 b0 ∧ In64 b1 ∧ In64 b2) (ht : In64 time) :
    Ev (go Tryz.prog HS (.fn 3) [.agg ⟨cp⟩, .agg ⟨[.int .i64 a0, .int .i64 a1, .int .i64 a2, .int .i64 b0, .int .i64 b1, .int .i64 b2]⟩, .int .i64 time] σ) (fun r => ∃ σ', r = ⟨false, .bool true, σ'⟩) ⟨⟩ := by
  have hlen : cp.length = 16 := by
    obtain ⟨vl, vc, vr, vf, vt, vk, lots, crits, reqs, f, ties, vs, combos, o0, o1, o2, o3, o4, o5, o6, o7, o8, o9, rfl, -⟩ := hP
    rfl
  have hfull : sub cp 0 16 = some cp := sub_full (by omega) (by omega)
  obtain ⟨Z, hZ⟩ : ∃ Z : List Value, [str [], .slice none 0 0, .slice none 0 0, .slice none 0 0, .int .i64 0, .int .i64 0, str [], .int .i64 0, .int .i64 0, str [], .slice none 0 0, .slice none 0 0, .int .i64 0, .slice none 0 0, .int .i64 0, .int .i64 0, .int .i64 0, .int .i64 0, .int .i64 0, .int .i64 0] = Z := ⟨_, rfl⟩
  have lZ : Z.length = 20 := by rw [← hZ]; rfl
  obtain ⟨q, hq⟩ : ∃ q : List Value, [.int .i64 a0, .int .i64 a1, .int .i64 a2, .int .i64 b0, .int .i64 b1, .int .i64 b2] = q := ⟨_, rfl⟩
  have yl : q.length = 6 := by rw [← hq]; rfl
  have yf : sub q 0 6 = some q := sub_full (by omega) (by omega)
  have hPk : ∀ {σ' : St}, Ext σ σ' → PlanAt σ' cp := fun hE => plan_mono hP hE
  refine ev_go Tryz.func3 rfl rfl ?_
  rw [hq]
  simp (maxSteps := 1000000) (disch := first | omega | ((try simp only [bunN]) <;> omega) | fail) only [↓bunD, bunU, ↓bunFD, bunFU, Nat.reduceMul, Nat.reduceEqDiff, Nat.reduceAdd, Nat.reduceBEq, reduceIte, splice_succ, bunAP, hlen, yl, ev_san, hfull, yf]
  rw [← hq]
  refine (plan_ok (hPk (by (repeat' (first | assumption | exact Ext.refl _ | refine Ext.new' ?_ _ | refine Ext.upd ?_ (by (try simp only [bunM]) <;> omega) _ | refine Ext.dead ?_ (by (try simp only [bunM]) <;> omega))))) ha hb).mono ?_
  rintro r ⟨ca, cb, T, U, σ2, rfl, e2, hT, hU⟩
  rw [hq] at e2
  have la := hT.len
  have lb := hU.len
  have fa : sub ca 0 20 = some ca := sub_full (by omega) (by omega)
  have fb : sub cb 0 20 = some cb := sub_full (by omega) (by omega)
  obtain ⟨y1, y2, y3, z1, z2, z3, z4, z5, y4, y5, hca, -⟩ := sub_self hT.at'
  obtain ⟨w1, w2, w3, v1, v2, v3, v4, v5, w4, w5, hcb, g1, g2, g3, g4, g5, g6⟩ := sub_self hU.at'
  have sa : sub ca 15 5 = some T.t.row := by rw [hca]; rfl
  obtain ⟨co, hco⟩ : ∃ co : List Value, co = tnRow U.name w1 w2 w3 U.low U.high [v1, v2, v3, v4, v5] w4 U.most w5 U.budget T.t := ⟨_, rfl⟩
  have so : splice cb 15 T.t.row = some co := by rw [hcb, hco]; rfl
  have lo : co.length = 20 := by rw [hco]; rfl
  have fo : sub co 0 20 = some co := sub_full (by omega) (by omega)
  have hO : ∀ {σ'}, Ext σ2 σ' → Good σ' co { U with t := T.t } := fun hE => ⟨⟨w1, w2, w3, [v1, v2, v3, v4, v5], w4, w5, hco, SL.mono g1 hE, SL.mono g2 hE, SL.mono g3 hE, g4.mono hE, g5.mono hE, g6.mono hE⟩, ⟨hU.ok.lots, hU.ok.lot, hU.ok.crits, hU.ok.crit, hU.ok.reqs, hU.ok.req, hU.ok.low, hU.ok.high, hU.ok.ties, hU.ok.tie, hU.ok.most, hU.ok.combos, hU.ok.combo, hU.ok.budget, hT.ok.tim⟩, hU.nm⟩
  have tl : T.t.row.length = 5 := rfl
  clear hco hcb hca
  have n2 := e2.n
  simp only [new_n] at n2
  obtain ⟨Y, hY⟩ : ∃ Y : List Value, [str [], .slice none 0 0, .slice none 0 0, .slice none 0 0, .int .i64 0, .int .i64 0, str [], .int .i64 0, .int .i64 0, str [], .slice none 0 0, .slice none 0 0, .int .i64 0, .slice none 0 0, .int .i64 0, .int .i64 0, .int .i64 0, .int .i64 0, .int .i64 0, .int .i64 0, str [], .slice none 0 0, .slice none 0 0, .slice none 0 0, .int .i64 0, .int .i64 0, str [], .int .i64 0, .int .i64 0, str [], .slice none 0 0, .slice none 0 0, .int .i64 0, .slice none 0 0, .int .i64 0, .int .i64 0, .int .i64 0, .int .i64 0, .int .i64 0, .int .i64 0] = Y := ⟨_, rfl⟩
  have hYZ : Y = Z ++ Z := by rw [← hY, ← hZ]; rfl
  have lY : Y.length = 40 := by rw [← hY]; rfl
  have sY : ∀ a : List Value, a.length = 20 → splice Y 0 a = some (a ++ Z) := fun a h => by
    rw [hYZ]; exact splice_mid (p := []) (by omega) rfl
  have sYZ : ∀ a b : List Value, a.length = 20 → b.length = 20 → splice (a ++ Z) 20 b = some (a ++ b) := fun a b h h' => by
    have := splice_mid (p := a) (a := Z) (b := b) (r := []) (o := 20) (by omega) (by omega)
    rwa [List.append_nil, List.append_nil] at this
  have sa0 := sY ca la
  have sb0 := sY cb lb
  obtain ⟨p0, hp0⟩ : ∃ p, ca ++ cb = p := ⟨_, rfl⟩
  obtain ⟨p1, hp1⟩ : ∃ p, cb ++ ca = p := ⟨_, rfl⟩
  obtain ⟨p2, hp2⟩ : ∃ p, ca ++ co = p := ⟨_, rfl⟩
  obtain ⟨p3, hp3⟩ : ∃ p, ca ++ ca = p := ⟨_, rfl⟩
  have t0 : splice (ca ++ Z) 20 cb = some p0 := by rw [sYZ _ _ la lb, hp0]
  have t1 : splice (cb ++ Z) 20 ca = some p1 := by rw [sYZ _ _ lb la, hp1]
  have t2 : splice (ca ++ Z) 20 co = some p2 := by rw [sYZ _ _ la lo, hp2]
  have t3 : splice (ca ++ Z) 20 ca = some p3 := by rw [sYZ _ _ la la, hp3]
  have l0 : p0.length = 40 := by rw [← hp0]; simp; omega
  have l1 : p1.length = 40 := by rw [← hp1]; simp; omega
  have l2 : p2.length = 40 := by rw [← hp2]; simp; omega
  have l3 : p3.length = 40 := by rw [← hp3]; simp; omega
  have r0 : splice (Y ++ (Y ++ (Y ++ Y))) 0 p0 = some (p0 ++ (Y ++ (Y ++ Y))) := splice_mid (p := []) (by omega) rfl
  have r1 : splice (p0 ++ (Y ++ (Y ++ Y))) 40 p1 = some (p0 ++ (p1 ++ (Y ++ Y))) := splice_mid (by omega) (by omega)
  have r2 : splice (p0 ++ (p1 ++ (Y ++ Y))) 80 p2 = some (p0 ++ (p1 ++ (p2 ++ Y))) := by
    have := splice_mid (p := p0 ++ p1) (a := Y) (b := p2) (r := Y) (o := 80) (by omega) (by simp; omega)
    simpa [List.append_assoc] using this
  have r3 : splice (p0 ++ (p1 ++ (p2 ++ Y))) 120 p3 = some (p0 ++ (p1 ++ (p2 ++ p3))) := by
    have := splice_mid (p := p0 ++ (p1 ++ p2)) (a := Y) (b := p3) (r := []) (o := 120) (by omega) (by simp; omega)
    simpa [List.append_assoc] using this
  simp (maxSteps := 1000000) (disch := first | omega | ((try simp only [bunN]) <;> omega) | fail) only [↓bunD, bunU, ↓bunFD, bunFU, Nat.reduceMul, Nat.reduceEqDiff, Nat.reduceAdd, Nat.reduceBEq, reduceIte, splice_succ, bunAP, la, lb, lo, fa, fb, fo, sa, so, tl, ↓hY, sa0, sb0, t0, t1, t2, t3, l0, l1, l2, l3, r0, r1, r2, r3]
  obtain ⟨R, hR⟩ : ∃ R, p0 ++ (p1 ++ (p2 ++ p3)) = R := ⟨_, rfl⟩
  rw [hR]
  have pick : ∀ (k : Nat) (σ' : St), k < 4 → Ext σ2 σ' → ∃ x y T1 U1, sub R (k * 40) 40 = some (x ++ y) ∧ Good σ' x T1 ∧ Good σ' y U1 := by
    intro k σ' hk hE
    have hl : R.length = 160 := by rw [← hR]; simp; omega
    rcases (by omega : k = 0 ∨ k = 1 ∨ k = 2 ∨ k = 3) with rfl | rfl | rfl | rfl
    · exact ⟨ca, cb, T, U, by rw [hp0, sub_of (by omega), ← hR, Nat.zero_mul, List.drop_zero, List.take_left' l0], hT.mono hE, hU.mono hE⟩
    · exact ⟨cb, ca, U, T, by rw [hp1, sub_of (by omega), ← hR, Nat.one_mul, List.drop_left' l0, List.take_left' l1], hU.mono hE, hT.mono hE⟩
    · exact ⟨ca, co, T, { U with t := T.t }, by rw [hp2, sub_of (by omega), ← hR, show 2 * 40 = 40 + 40 from rfl, ← List.drop_drop, List.drop_left' l0, List.drop_left' l1, List.take_left' l2], hT.mono hE, hO hE⟩
    · exact ⟨ca, ca, T, T, by rw [hp3, sub_of (by omega), ← hR, show 3 * 40 = 40 + (40 + 40) from rfl, ← List.drop_drop, ← List.drop_drop, List.drop_left' l0, List.drop_left' l1, List.drop_left' l2, List.take_of_length_le (by omega)], hT.mono hE, hT.mono hE⟩
  refine ev_count 4 (fun k fr σ' => fr.get 42 = some (.int .i64 k) ∧ fr.get 41 = some (.int .i64 4) ∧ fr.get 40 = some (.slice (some ⟨σ2.n + 1 + 1 + 1, 0, none⟩) 4 4) ∧ fr.get 2 = some (.int .i64 time) ∧ fr.get 7 = some (.bool true) ∧ Ext σ2 σ' ∧ σ2.n + 3 < σ'.n ∧ σ'.row (σ2.n + 1 + 1 + 1) = some R)
    (fun r => ∃ fr σ', r = ⟨.exit 0, fr, σ'⟩ ∧ fr.get 7 = some (.bool true)) ?_ ?_ ?_ ?_
  · exact ⟨by first | trivial | rfl | assumption | omega | (simp only [bunM]; omega) | (simp (disch := first | omega | ((try simp only [bunN]) <;> omega) | fail) only [bunR, ↓get_set, Nat.reduceEqDiff, reduceIte]; first | done | rfl | assumption | omega), by first | trivial | rfl | assumption | omega | (simp only [bunM]; omega) | (simp (disch := first | omega | ((try simp only [bunN]) <;> omega) | fail) only [bunR, ↓get_set, Nat.reduceEqDiff, reduceIte]; first | done | rfl | assumption | omega), by first | trivial | rfl | assumption | omega | (simp only [bunM]; omega) | (simp (disch := first | omega | ((try simp only [bunN]) <;> omega) | fail) only [bunR, ↓get_set, Nat.reduceEqDiff, reduceIte]; first | done | rfl | assumption | omega), by first | trivial | rfl | assumption | omega | (simp only [bunM]; omega) | (simp (disch := first | omega | ((try simp only [bunN]) <;> omega) | fail) only [bunR, ↓get_set, Nat.reduceEqDiff, reduceIte, init_cons, init_nil]; first | done | rfl | assumption | omega), by first | trivial | rfl | assumption | omega | (simp only [bunM]; omega) | (simp (disch := first | omega | ((try simp only [bunN]) <;> omega) | fail) only [bunR, ↓get_set, Nat.reduceEqDiff, reduceIte]; first | done | rfl | assumption | omega), by (repeat' (first | assumption | exact Ext.refl _ | refine Ext.new' ?_ _ | refine Ext.upd ?_ (by (try simp only [bunM]) <;> omega) _ | refine Ext.dead ?_ (by (try simp only [bunM]) <;> omega))), by simp, by first | trivial | rfl | assumption | omega | (simp only [bunM]; omega) | (simp (disch := first | omega | ((try simp only [bunN]) <;> omega) | fail) only [bunR]; first | done | rfl | assumption | omega)⟩
  · rintro k fr σ' hk ⟨g42, g41, g40, g2, g7, hE, hn, hr⟩
    obtain ⟨x, y, T1, U1, hs, hx, hy⟩ := pick k σ' hk hE
    have lx := hx.len
    have ly := hy.len
    have hc1 : decide ((k : Int) < 4) = true := by rw [decide_eq_true_iff]; omega
    obtain ⟨pk, hpk⟩ : ∃ pk, x ++ y = pk := ⟨_, rfl⟩
    rw [hpk] at hs
    have lpk : pk.length = 40 := by rw [← hpk]; simp; omega
    have spx : sub pk 0 20 = some x := by rw [← hpk, sub_of (by simp; omega), List.drop_zero, List.take_left' lx]
    have spy : sub pk 20 20 = some y := by rw [← hpk, sub_of (by simp; omega), List.drop_left' lx, List.take_of_length_le (by omega)]
    have fx : sub x 0 20 = some x := sub_full (by omega) (by omega)
    have fy : sub y 0 20 = some y := sub_full (by omega) (by omega)
    simp (maxSteps := 1000000) (disch := first | omega | ((try simp only [bunN]) <;> omega) | fail) only [↓bunD, bunU, ↓bunFD, bunFU, Nat.reduceMul, Nat.reduceEqDiff, Nat.reduceAdd, Nat.reduceBEq, reduceIte, splice_succ, bunAP, g42, g41, g40, g2, hc1, hr, hs, ↓hY, lY, lpk, spx, spy, Nat.one_mul]
    obtain ⟨S1, hS1⟩ : ∃ S1, (σ'.new Y).upd σ'.n pk = S1 := ⟨_, rfl⟩
    have eS1 : Ext σ' S1 := by rw [← hS1]; (repeat' (first | assumption | exact Ext.refl _ | refine Ext.new' ?_ _ | refine Ext.upd ?_ (by (try simp only [bunM]) <;> omega) _ | refine Ext.dead ?_ (by (try simp only [bunM]) <;> omega)))
    have nS1 : S1.n = σ'.n + 1 := by rw [← hS1]; rfl
    have rS1 : S1.row σ'.n = some pk := by rw [← hS1]; exact row_upd_same
    rw [hS1]
    refine (papply_ok (time := time) (hx.mono eS1) (hy.mono eS1) (by_same hx.ok hy.ok)).mono ?_
    rintro r ⟨A1, σ4, rfl, e4, hA1⟩
    have n4 := e4.n
    have lA1 := hA1.len
    have r4 : σ4.row σ'.n = some pk := by rw [e4.row (by omega)]; exact rS1
    have fA1 : sub A1 0 20 = some A1 := sub_full (by omega) (by omega)
    have aZ : ∀ w : List Value, w.length = 20 → splice Z 0 w = some w := fun w h => splice_all (by omega)
    simp (maxSteps := 1000000) (disch := first | omega | ((try simp only [bunN]) <;> omega) | fail) only [↓bunD, bunU, ↓bunFD, bunFU, Nat.reduceMul, Nat.reduceEqDiff, Nat.reduceAdd, Nat.reduceBEq, reduceIte, splice_succ, bunAP, g42, g41, g40, g2, ↓hZ, lA1, lZ, r4, spx, spy, Nat.one_mul, Nat.zero_add]
    obtain ⟨S2, hS2⟩ : ∃ S2, (σ4.new Z).upd σ4.n A1 = S2 := ⟨_, rfl⟩
    have eS2 : Ext σ4 S2 := by rw [← hS2]; (repeat' (first | assumption | exact Ext.refl _ | refine Ext.new' ?_ _ | refine Ext.upd ?_ (by (try simp only [bunM]) <;> omega) _ | refine Ext.dead ?_ (by (try simp only [bunM]) <;> omega)))
    have nS2 : S2.n = σ4.n + 1 := by rw [← hS2]; rfl
    have rS2 : S2.row σ4.n = some A1 := by rw [← hS2]; exact row_upd_same
    rw [hS2]
    have E2 : Ext σ' S2 := (eS1.trans e4).trans eS2
    refine (rapply_ok (time := time) (hx.mono E2) (hy.mono E2)).mono ?_
    rintro r ⟨A2, σ5, rfl, e5, hA2⟩
    have n5 := e5.n
    have lA2 := hA2.len
    have fA2 : sub A2 0 20 = some A2 := sub_full (by omega) (by omega)
    have hcc : decide ((applied T1 U1 time).2 = (applied T1 U1 time).2) = true := by simp
    have ok1 : (applied T1 U1 time).1.Ok := applied_ok hx.ok hy.ok
    have r5 : σ5.row σ'.n = some pk := by rw [e5.row (by omega), eS2.row (by omega)]; exact r4
    have q5 : σ5.row σ4.n = some A1 := by rw [e5.row (by omega)]; exact rS2
    simp (maxSteps := 1000000) (disch := first | omega | ((try simp only [bunN]) <;> omega) | fail) only [↓bunD, bunU, ↓bunFD, bunFU, Nat.reduceMul, Nat.reduceEqDiff, Nat.reduceAdd, Nat.reduceBEq, reduceIte, splice_succ, bunAP, g42, g41, g40, g2, ↓hZ, lA2, lZ, r5, q5, fA1, fA2, hcc, yu_t, yu_f]
    obtain ⟨S3, hS3⟩ : ∃ S3, (σ5.new Z).upd σ5.n A2 = S3 := ⟨_, rfl⟩
    have eS3 : Ext σ5 S3 := by rw [← hS3]; (repeat' (first | assumption | exact Ext.refl _ | refine Ext.new' ?_ _ | refine Ext.upd ?_ (by (try simp only [bunM]) <;> omega) _ | refine Ext.dead ?_ (by (try simp only [bunM]) <;> omega)))
    have nS3 : S3.n = σ5.n + 1 := by rw [← hS3]; rfl
    have rS3 : S3.row σ'.n = some pk := by rw [eS3.row (by omega)]; exact r5
    rw [hS3]
    refine (requal_ok (hA1.mono ((eS2.trans e5).trans eS3)) (hA2.mono eS3) ok1).mono ?_
    rintro r ⟨σ6, rfl, e6⟩
    have n6 := e6.n
    have r6 : σ6.row σ'.n = some pk := by rw [e6.row (by omega)]; exact rS3
    have E6 : Ext σ' σ6 := ((E2.trans e5).trans eS3).trans e6
    simp (maxSteps := 1000000) (disch := first | omega | ((try simp only [bunN]) <;> omega) | fail) only [↓bunD, bunU, ↓bunFD, bunFU, Nat.reduceMul, Nat.reduceEqDiff, Nat.reduceAdd, Nat.reduceBEq, reduceIte, splice_succ, bunAP, g42, g41, g40, g2, r6, spx, spy, yu_t, yu_f, Nat.one_mul, Nat.zero_add]
    refine (pmoves_ok (hx.mono E6) (hy.mono E6)).mono ?_
    rintro r ⟨v1', σ7, rfl, e7, hv⟩
    have n7 := e7.n
    have r7 : σ7.row σ'.n = some pk := by rw [e7.row (by omega)]; exact r6
    simp (maxSteps := 1000000) (disch := first | omega | ((try simp only [bunN]) <;> omega) | fail) only [↓bunD, bunU, ↓bunFD, bunFU, Nat.reduceMul, Nat.reduceEqDiff, Nat.reduceAdd, Nat.reduceBEq, reduceIte, splice_succ, bunAP, g42, g41, g40, g2, r7, spx, spy, yu_t, yu_f, Nat.one_mul, Nat.zero_add]
    refine (rmoves_ok (hx.mono (E6.trans e7)) (hy.mono (E6.trans e7))).mono ?_
    rintro r ⟨v2', σ8, rfl, e8, hv2⟩
    have n8 := e8.n
    have hv' := OSl.strs hv
    rw [moves_same hx.ok hy.ok] at hv'
    have hml : (moves T1 U1).length ≤ 96 := Nat.le_trans (List.length_filter_le _ _) (changed_len hx.ok hy.ok)
    have hdd : decide (moves T1 U1 = moves T1 U1) = true := by simp
    simp (maxSteps := 1000000) (disch := first | omega | ((try simp only [bunN]) <;> omega) | fail) only [↓bunD, bunU, ↓bunFD, bunFU, Nat.reduceMul, Nat.reduceEqDiff, Nat.reduceAdd, Nat.reduceBEq, reduceIte, splice_succ, bunAP, g42, g41, g40, g2, yu_t, yu_f]
    refine (same_ok (hv'.mono e8) hv2 (by omega) (by omega)).mono ?_
    rintro r rfl
    simp (maxSteps := 1000000) (disch := first | omega | ((try simp only [bunN]) <;> omega) | fail) only [↓bunD, bunU, ↓bunFD, bunFU, Nat.reduceMul, Nat.reduceEqDiff, Nat.reduceAdd, Nat.reduceBEq, reduceIte, splice_succ, bunAP, g42, g41, g40, g2, g7, hdd, asx e6, asx e7, asx e8, asx (Ext.refl _), yu_t, yu_f]
    have E8 : Ext σ' σ8 := E6.trans (e7.trans e8)
    exact ⟨trivial, trivial, trivial, trivial, trivial, hE.trans E8, by have := E8.n; omega, by rw [E8.row (by omega)]; exact hr⟩
  · rintro fr σ' ⟨g42, g41, g40, g2, g7, hE, hn, hr⟩
    have hc1 : decide (((4 : Nat) : Int) < 4) = false := by decide
    simp (maxSteps := 1000000) (disch := first | omega | ((try simp only [bunN]) <;> omega) | fail) only [↓bunD, bunU, ↓bunFD, bunFU, Nat.reduceMul, Nat.reduceEqDiff, Nat.reduceAdd, Nat.reduceBEq, reduceIte, splice_succ, bunAP, g42, g41, g7, hc1]
    exact ⟨_, _, rfl, by first | trivial | rfl | assumption | omega | (simp only [bunM]; omega) | (simp (disch := first | omega | ((try simp only [bunN]) <;> omega) | fail) only [bunR, ↓get_set, Nat.reduceEqDiff, reduceIte, g7]; first | done | rfl | assumption | omega)⟩
  rintro r ⟨fr, σ', rfl, g7⟩
  simp (maxSteps := 1000000) (disch := first | omega | ((try simp only [bunN]) <;> omega) | fail) only [↓bunD, bunU, ↓bunFD, bunFU, Nat.reduceMul, Nat.reduceEqDiff, Nat.reduceAdd, Nat.reduceBEq, reduceIte, splice_succ, bunAP, g7, Tryz.results3]
  exact ⟨_, rfl⟩
end Go.Proofs.G
namespace Go.Proofs.G
open Go Go.Ab Go.Ab.Args
section
variable {P : Program} {σ : St}
theorem in64_wf {n : Int} (h : (Lit.int .i64 n).wf = true) : In64 n := by
  have h1 : IntKind.i64.min = -9223372036854775808 := rfl
  have h2 : IntKind.i64.max = 9223372036854775807 := rfl
  simp only [Lit.wf, Bool.and_eq_true, decide_eq_true_eq, h1, h2] at h
  exact ⟨h.1, h.2⟩
theorem ai_int {t : TypeId} (ht : P.underlying t = some (.int .i64)) {f : Nat} {cs : List Value} (h : AbIn P σ f t cs) : ∃ n, cs = [.int .i64 n] ∧ In64 n := by
  cases f with
  | zero => exact h.elim
  | succ f =>
    unfold AbIn at h
    rw [ht] at h
    obtain ⟨n, h1, h2⟩ := h
    exact ⟨n, h1, in64_wf h2⟩
theorem ints_of {e : TypeId} (he : P.underlying e = some (.int .i64)) {f : Nat} : ∀ {ps : List (List Value)}, (∀ p ∈ ps, AbIn P σ f e p) → ∃ l : List Int, ps = l.map (fun n => [.int .i64 n]) ∧ ps.flatten = l.map (.int .i64) ∧ ∀ n ∈ l, In64 n
  | [], _ => ⟨[], rfl, rfl, fun n h => by cases h⟩
  | p :: ps, h => by
    obtain ⟨n, hn, hw⟩ := ai_int he (h p (by simp))
    obtain ⟨l, h1, h2, h3⟩ := ints_of he fun q hq => h q (List.mem_cons_of_mem _ hq)
    refine ⟨n :: l, by rw [hn, h1]; rfl, by rw [List.flatten_cons, hn, h2]; rfl, fun m hm => ?_⟩
    rcases List.mem_cons.1 hm with rfl | hm
    · exact hw
    · exact h3 m hm
theorem ai_arr {t e : TypeId} {m : Nat} (ht : P.underlying t = some (.array m e)) (he : P.underlying e = some (.int .i64)) {f : Nat} {cs : List Value} (h : AbIn P σ f t cs) : ∃ l : List Int, l.length = m ∧ cs = l.map (.int .i64) ∧ ∀ n ∈ l, In64 n := by
  cases f with
  | zero => exact h.elim
  | succ f =>
    unfold AbIn at h
    rw [ht] at h
    obtain ⟨ps, h1, h2, h3⟩ := h
    obtain ⟨l, h4, h5, h6⟩ := ints_of he fun p hp => (h3 p hp).2
    exact ⟨l, by rw [← h2, h4, List.length_map], by rw [h1, h5], h6⟩
theorem ai_struct {t : TypeId} {fs : Array Field} (ht : P.underlying t = some (.struct fs)) {f : Nat} {cs : List Value} (h : AbIn P σ f t cs) : ∃ (g : Nat) (ps : List (List Value)), cs = ps.flatten ∧ Parts (fun (fd : Field) p => AbIn P σ g fd.type p) fs.toList ps := by
  cases f with
  | zero => exact h.elim
  | succ f =>
    unfold AbIn at h
    rw [ht] at h
    exact ⟨f, h⟩
theorem ai_array {t e : TypeId} {n : Nat} (ht : P.underlying t = some (.array n e)) {f : Nat} {cs : List Value} (h : AbIn P σ f t cs) : ∃ (g : Nat) (ps : List (List Value)), cs = ps.flatten ∧ ps.length = n ∧ ∀ p ∈ ps, AbIn P σ g e p := by
  cases f with
  | zero => exact h.elim
  | succ f =>
    unfold AbIn at h
    rw [ht] at h
    obtain ⟨ps, h1, h2, h3⟩ := h
    exact ⟨f, ps, h1, h2, fun p hp => (h3 p hp).2⟩
/-- Rows of integers. -/
theorem ai_rows {s t e : TypeId} {m : Nat} (hs : P.underlying s = some (.slice t)) (ht : P.underlying t = some (.array m e)) (he : P.underlying e = some (.int .i64)) (hm : P.cellsOf t = m) {f : Nat} {cs : List Value} (h : AbIn P σ f s cs) : ∃ v l, cs = [v] ∧ IRows σ m v l := by
  cases f with
  | zero => exact h.elim
  | succ f =>
    unfold AbIn at h
    rw [hs] at h
    rcases h with h | ⟨b, rows, cap, h1, h2, h3, h4, h5, h6⟩
    · exact ⟨_, [], h, SL.nil, fun r hr => by cases hr⟩
    · have key : ∀ {rows : List (List Value)}, (∀ r ∈ rows, AbIn P σ f t r) → ∃ l : List (List Int), rows = l.map (fun r => r.map (.int .i64)) ∧ ∀ r ∈ l, r.length = m ∧ ∀ n ∈ r, In64 n := by
        intro rows
        induction rows with
        | nil => intro _; exact ⟨[], rfl, fun r h => by cases h⟩
        | cons r rows ih =>
          intro h
          obtain ⟨l, a1, a2, a3⟩ := ai_arr ht he (h r (by simp))
          obtain ⟨L, c1, c2⟩ := ih fun q hq => h q (by simp [hq])
          refine ⟨l :: L, by rw [a2, c1]; rfl, fun q hq => ?_⟩
          rcases List.mem_cons.1 hq with rfl | hq
          · exact ⟨a1, a3⟩
          · exact c2 q hq
      obtain ⟨l, h7, h8⟩ := key fun r hr => (h6 r hr).2
      refine ⟨_, l, h1, .inr ⟨b, 0, none, cap, _, by rw [h7], h4, h5, fun k r hk => ?_⟩, h8⟩
      rw [← h7] at hk
      rw [Nat.zero_add, ← Nat.add_zero (k * m), sub_rows (fun r hr => by rw [(h6 r hr).1, hm]) hk (by omega)]
      have hl := (h6 r (List.mem_of_getElem? hk)).1
      exact sub_full (by omega) (by omega)
theorem ai_ints {s e : TypeId} (hs : P.underlying s = some (.slice e)) (he : P.underlying e = some (.int .i64)) (hm : P.cellsOf e = 1) {f : Nat} {cs : List Value} (h : AbIn P σ f s cs) : ∃ v l, cs = [v] ∧ ArgInts σ v l ∧ ArgIn σ v l := by
  cases f with
  | zero => exact h.elim
  | succ f =>
    unfold AbIn at h
    rw [hs] at h
    rcases h with h | ⟨b, rows, cap, h1, h2, h3, h4, h5, h6⟩
    · exact ⟨_, [], h, ⟨SL.nil, fun r hr => by cases hr⟩, fun r hr => (by cases hr), .inl ⟨rfl, rfl⟩⟩
    · obtain ⟨l, h7, h8, h9⟩ := ints_of he fun r hr => (h6 r hr).2
      have hll : rows.length = l.length := by rw [h7, List.length_map]
      refine ⟨_, l, h1, ⟨.inr ⟨b, 0, none, cap, _, by rw [hll, List.length_map], h4, h5, fun k r hk => ?_⟩, h9⟩, h9, .inr ⟨b, 0, cap, _, by rw [hll], by omega, h4, h5, ?_⟩⟩
      · rw [← h7] at hk
        rw [Nat.zero_add, ← Nat.add_zero (k * 1), sub_rows (fun r hr => by rw [(h6 r hr).1, hm]) hk (by omega)]
        have hl := (h6 r (List.mem_of_getElem? hk)).1
        exact sub_full (by omega) (by omega)
      · rw [h8]; exact sub_full (by simp) (by simp)
theorem ai_lists {s t e : TypeId} (hs : P.underlying s = some (.slice t)) (ht : P.underlying t = some (.slice e)) (he : P.underlying e = some (.int .i64)) (hm : P.cellsOf e = 1) (hm2 : P.cellsOf t = 1) {f : Nat} {cs : List Value} (h : AbIn P σ f s cs) :
    ∃ v vs L, cs = [v] ∧ SL σ 1 v (vs.map fun x => [x]) ∧ All2 (ArgIn σ) vs L := by
  cases f with
  | zero => exact h.elim
  | succ f =>
    unfold AbIn at h
    rw [hs] at h
    rcases h with h | ⟨b, rows, cap, h1, h2, h3, h4, h5, h6⟩
    · exact ⟨_, [], [], h, SL.nil, trivial⟩
    · have key : ∀ {rows : List (List Value)}, (∀ r ∈ rows, AbIn P σ f t r) → ∃ (vs : List Value) (L : List (List Int)), rows = vs.map (fun x => [x]) ∧ All2 (ArgIn σ) vs L := by
        intro rows
        induction rows with
        | nil => intro _; exact ⟨[], [], rfl, trivial⟩
        | cons r rows ih =>
          intro h
          obtain ⟨v, l, a1, -, a2⟩ := ai_ints ht he hm (h r (by simp))
          obtain ⟨vs, L, c1, c2⟩ := ih fun q hq => h q (by simp [hq])
          exact ⟨v :: vs, l :: L, by rw [a1, c1]; rfl, a2, c2⟩
      obtain ⟨vs, L, h7, h8⟩ := key fun r hr => (h6 r hr).2
      refine ⟨_, vs, L, h1, .inr ⟨b, 0, none, cap, _, by rw [h7], h4, h5, fun k r hk => ?_⟩, h8⟩
      rw [← h7] at hk
      rw [Nat.zero_add, ← Nat.add_zero (k * 1), sub_rows (fun r hr => by rw [(h6 r hr).1, hm2]) hk (by omega)]
      have hl := (h6 r (List.mem_of_getElem? hk)).1
      exact sub_full (by omega) (by omega)
end
end Go.Proofs.G
namespace Go.Proofs.G
open Go Go.Ab Go.Ab.Args
theorem parts_cons {α : Type} {R : α → List Value → Prop} {a : α} {l : List α} {ps : List (List Value)} (h : Parts R (a :: l) ps) : ∃ p qs, ps = p :: qs ∧ R a p ∧ Parts R l qs := by
  cases ps with
  | nil => exact h.elim
  | cons p qs => exact ⟨p, qs, rfl, h.1, h.2⟩
theorem parts_nil {α : Type} {R : α → List Value → Prop} {ps : List (List Value)} (h : Parts R [] ps) : ps = [] := by
  cases ps with
  | nil => rfl
  | cons p qs => exact h.elim
theorem plan_in {σ : St} {f : Nat} {cs : List Value} (h : AbIn Tryz.prog σ f 29 cs) : PlanAt σ cs := by
    obtain ⟨g, ps, rfl, hh⟩ := ai_struct Tryz.underlying29 h
    clear h
    obtain ⟨p1, ps, rfl, h1, h⟩ := parts_cons hh
    clear hh
    obtain ⟨p2, ps, rfl, h2, h⟩ := parts_cons h
    obtain ⟨p3, ps, rfl, h3, h⟩ := parts_cons h
    obtain ⟨p4, ps, rfl, h4, h⟩ := parts_cons h
    obtain ⟨p5, ps, rfl, h5, h⟩ := parts_cons h
    obtain ⟨p6, ps, rfl, h6, h⟩ := parts_cons h
    obtain ⟨p7, ps, rfl, h7, h⟩ := parts_cons h
    obtain rfl := parts_nil h
    obtain ⟨vl, lots, rfl, g1⟩ := ai_rows (m := 2) Tryz.underlying22 Tryz.underlying116 Tryz.underlying3 (by kernel_rfl) h1
    obtain ⟨vc, crits, rfl, g2⟩ := ai_rows (m := 4) Tryz.underlying23 Tryz.underlying117 Tryz.underlying3 (by kernel_rfl) h2
    obtain ⟨vr, reqs, rfl, g3⟩ := ai_rows (m := 3) Tryz.underlying24 Tryz.underlying30 Tryz.underlying3 (by kernel_rfl) h3
    obtain ⟨vf, fl, rfl, g4, -⟩ := ai_ints Tryz.underlying25 Tryz.underlying3 (by kernel_rfl) h4
    obtain ⟨vt, ties, rfl, g5, -⟩ := ai_ints Tryz.underlying25 Tryz.underlying3 (by kernel_rfl) h5
    obtain ⟨vk, vs, combos, rfl, g6, g6'⟩ := ai_lists Tryz.underlying26 Tryz.underlying25 Tryz.underlying3 (by kernel_rfl) (by kernel_rfl) h6
    obtain ⟨o, g7, rfl, g8⟩ := ai_arr Tryz.underlying27 Tryz.underlying3 h7
    match o, g7, g8 with
    | [o0, o1, o2, o3, o4, o5, o6, o7, o8, o9], _, g8 =>
      exact ⟨vl, vc, vr, vf, vt, vk, lots, crits, reqs, fl, ties, vs, combos, o0, o1, o2, o3, o4, o5, o6, o7, o8, o9, rfl, g1, g2, g3, g4, g5, ⟨g6, g6'⟩,
        g8 _ (by simp), g8 _ (by simp), g8 _ (by simp), g8 _ (by simp), g8 _ (by simp), g8 _ (by simp), g8 _ (by simp), g8 _ (by simp), g8 _ (by simp), g8 _ (by simp)⟩
theorem pair_in {σ : St} {f : Nat} {cs : List Value} (h : AbIn Tryz.prog σ f 31 cs) : ∃ a0 a1 a2 b0 b1 b2, cs = [.int .i64 a0, .int .i64 a1, .int .i64 a2, .int .i64 b0, .int .i64 b1, .int .i64 b2] ∧ (In64 a0 ∧ In64 a1 ∧ In64 a2) ∧ (In64 b0 ∧ In64 b1 ∧ In64 b2) := by
    obtain ⟨g, ps, rfl, h1, h2⟩ := ai_array Tryz.underlying31 h
    match ps, h1, h2 with
    | [p, q], _, h2 =>
      obtain ⟨a, a1, rfl, a2⟩ := ai_arr Tryz.underlying30 Tryz.underlying3 (h2 p (by simp))
      obtain ⟨b, b1, rfl, b2⟩ := ai_arr Tryz.underlying30 Tryz.underlying3 (h2 q (by simp))
      match a, a1, a2, b, b1, b2 with
      | [x0, x1, x2], _, a2, [y0, y1, y2], _, b2 =>
        exact ⟨x0, x1, x2, y0, y1, y2, rfl, ⟨a2 _ (by simp), a2 _ (by simp), a2 _ (by simp)⟩, ⟨b2 _ (by simp), b2 _ (by simp), b2 _ (by simp)⟩⟩
end Go.Proofs.G
