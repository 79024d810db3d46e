/- A part of the proof: a walk of some functions. -/
import Derived.Test.YtcjkjjnnicadfaaGreatDoorGD
set_option linter.unusedSimpArgs false
set_option linter.unusedVariables false
namespace Go.Proofs.G
open Go Go.Ab
set_option maxRecDepth 100000
def zeroTn : Tn := ⟨[], [], [], [], 0, 0, .mk [] 0 0 [] [], [], 0, [], 0, ⟨0, 0, 0, 0, 0⟩⟩
def zCells : List Value := tnRow [] (.slice none 0 0) (.slice none 0 0) (.slice none 0 0) 0 0 [str [], .int .i64 0, .int .i64 0, str [], .slice none 0 0] (.slice none 0 0) 0 (.slice none 0 0) 0 ⟨0, 0, 0, 0, 0⟩
theorem zero_at (σ : St) : TnAt σ zCells zeroTn := ⟨_, _, _, _, _, _, rfl, SL.nil, SL.nil, SL.nil, ⟨_, [], rfl, SL.nil, by simp, rfl⟩, SL.nil, [], SL.nil, trivial⟩
def earlierT (a b : Tim) : Bool := decide (a.q < b.q) || (decide (a.b < b.b) || (decide (a.g < b.g) || (decide (a.p < b.p) || decide (a.s < b.s))))
def moved (T U : Tn) : Tim := ⟨U.t.q, later U.t.b T.t.b (byOf T U), later U.t.g T.t.g (byOf T U), later U.t.p T.t.p (byOf T U), U.t.s⟩
def applied (T U : Tn) (time : Int) : Tn × Int :=
  if T.t.b ≤ time then (zeroTn, 31) else if earlierT U.t T.t = true then (zeroTn, 1) else ({ U with t := moved T U }, 0)
set_option maxHeartbeats 4000000 in
theorem rapply_ok {σ : St} {ca cb : List Value} {T U : Tn} {time : Int} (hT : Good σ ca T) (hU : Good σ cb U) : Ev (go Tryz.prog HS (.fn 12) [.agg ⟨ca⟩, .agg ⟨cb⟩, .int .i64 time] σ) (fun r => ∃ cells σ', r = ⟨false, .tuple ⟨[.agg ⟨cells⟩, .int .i64 (applied T U time).2]⟩, σ'⟩ ∧ Ext σ σ' ∧ TnAt σ' cells (applied T U time).1) ⟨⟩ := by
  have hca := hT.len
  have hcb := hU.len
  have hfa : sub ca 0 20 = some ca := sub_full (by omega) (by omega)
  have a5 : sub ca 15 5 = some T.t.row := by
    obtain ⟨vl, vc, vr, ex, vt, vk, h0, -, -, -, hex, -⟩ := hT.at'
    have hxl := hex.len
    rw [h0]
    match ex, hxl with
    | [_, _, _, _, _], _ => rfl
  obtain ⟨vl, vc, vr, ex, vt, vk, h0, u1, u2, u3, u4, u5, u6⟩ := hU.at'
  have hxl := u4.len
  obtain ⟨x1, x2, x3, x4, x5, rfl⟩ : ∃ a b c d e, ex = [a, b, c, d, e] := by
    match ex, hxl with
    | [a, b, c, d, e], _ => exact ⟨a, b, c, d, e, rfl⟩
  have hcb' : cb = [str U.name, vl, vc, vr, .int .i64 U.low, .int .i64 U.high, x1, x2, x3, x4, x5, vt, .int .i64 U.most, vk, .int .i64 U.budget, .int .i64 U.t.q, .int .i64 U.t.b, .int .i64 U.t.g, .int .i64 U.t.p, .int .i64 U.t.s] := h0
  have hta : T.t.row = [.int .i64 T.t.q, .int .i64 T.t.b, .int .i64 T.t.g, .int .i64 T.t.p, .int .i64 T.t.s] := rfl
  have htl : T.t.row.length = 5 := rfl
  obtain ⟨_, tb1, tg1, tp1, _⟩ := hT.ok.tim
  obtain ⟨_, ub1, ug1, up1, _⟩ := hU.ok.tim
  have hbc := byOf_cases T U
  have hz : zCells = [str [], .slice none 0 0, .slice none 0 0, .slice none 0 0, .int .i64 0, .int .i64 0, str [], .int .i64 0, .int .i64 0, str [], .slice none 0 0, .slice none 0 0, .int .i64 0, .slice none 0 0, .int .i64 0, .int .i64 0, .int .i64 0, .int .i64 0, .int .i64 0, .int .i64 0] := rfl
  refine ev_go Tryz.func12 rfl rfl ?_
  cases d0 : decide (time < T.t.b) with
  | false =>
    have hap : applied T U time = (zeroTn, 31) := by unfold applied; rw [if_pos (by simpa using d0)]
    rw [hcb']
    simp (maxSteps := 1000000) (disch := first | omega | ((try simp only [bunN]) <;> omega) | fail) only [↓bunD, bunU, ↓bunFD, bunFU, Nat.reduceMul, Nat.reduceEqDiff, Nat.reduceAdd, Nat.reduceBEq, reduceIte, splice_succ, bunAP, a5, hta, d0, hap, Tryz.results12]
    exact ⟨zCells, _, rfl, by (repeat' (first | assumption | exact Ext.refl _ | refine Ext.new' ?_ _ | refine Ext.upd ?_ (by (try simp only [bunM]) <;> omega) _ | refine Ext.dead ?_ (by (try simp only [bunM]) <;> omega))), zero_at _⟩
  | true =>
  have d0' : ¬ T.t.b ≤ time := by simpa using d0
  cases d1 : decide (U.t.q < T.t.q) with
  | true =>
    have hap : applied T U time = (zeroTn, 1) := by unfold applied; rw [if_neg d0', if_pos (by unfold earlierT; rw [d1]; rfl)]
    rw [hcb']
    simp (maxSteps := 1000000) (disch := first | omega | ((try simp only [bunN]) <;> omega) | fail) only [↓bunD, bunU, ↓bunFD, bunFU, Nat.reduceMul, Nat.reduceEqDiff, Nat.reduceAdd, Nat.reduceBEq, reduceIte, splice_succ, bunAP, a5, hta, d0, d1, hap, Tryz.results12]
    exact ⟨zCells, _, rfl, by (repeat' (first | assumption | exact Ext.refl _ | refine Ext.new' ?_ _ | refine Ext.upd ?_ (by (try simp only [bunM]) <;> omega) _ | refine Ext.dead ?_ (by (try simp only [bunM]) <;> omega))), zero_at _⟩
  | false =>
  cases d2 : decide (U.t.b < T.t.b) with
  | true =>
    have hap : applied T U time = (zeroTn, 1) := by unfold applied; rw [if_neg d0', if_pos (by unfold earlierT; rw [d1, d2]; rfl)]
    rw [hcb']
    simp (maxSteps := 1000000) (disch := first | omega | ((try simp only [bunN]) <;> omega) | fail) only [↓bunD, bunU, ↓bunFD, bunFU, Nat.reduceMul, Nat.reduceEqDiff, Nat.reduceAdd, Nat.reduceBEq, reduceIte, splice_succ, bunAP, a5, hta, d0, d1, d2, hap, Tryz.results12]
    exact ⟨zCells, _, rfl, by (repeat' (first | assumption | exact Ext.refl _ | refine Ext.new' ?_ _ | refine Ext.upd ?_ (by (try simp only [bunM]) <;> omega) _ | refine Ext.dead ?_ (by (try simp only [bunM]) <;> omega))), zero_at _⟩
  | false =>
  cases d3 : decide (U.t.g < T.t.g) with
  | true =>
    have hap : applied T U time = (zeroTn, 1) := by unfold applied; rw [if_neg d0', if_pos (by unfold earlierT; rw [d1, d2, d3]; rfl)]
    rw [hcb']
    simp (maxSteps := 1000000) (disch := first | omega | ((try simp only [bunN]) <;> omega) | fail) only [↓bunD, bunU, ↓bunFD, bunFU, Nat.reduceMul, Nat.reduceEqDiff, Nat.reduceAdd, Nat.reduceBEq, reduceIte, splice_succ, bunAP, a5, hta, d0, d1, d2, d3, hap, Tryz.results12]
    exact ⟨zCells, _, rfl, by (repeat' (first | assumption | exact Ext.refl _ | refine Ext.new' ?_ _ | refine Ext.upd ?_ (by (try simp only [bunM]) <;> omega) _ | refine Ext.dead ?_ (by (try simp only [bunM]) <;> omega))), zero_at _⟩
  | false =>
  cases d4 : decide (U.t.p < T.t.p) with
  | true =>
    have hap : applied T U time = (zeroTn, 1) := by unfold applied; rw [if_neg d0', if_pos (by unfold earlierT; rw [d1, d2, d3, d4]; rfl)]
    rw [hcb']
    simp (maxSteps := 1000000) (disch := first | omega | ((try simp only [bunN]) <;> omega) | fail) only [↓bunD, bunU, ↓bunFD, bunFU, Nat.reduceMul, Nat.reduceEqDiff, Nat.reduceAdd, Nat.reduceBEq, reduceIte, splice_succ, bunAP, a5, hta, d0, d1, d2, d3, d4, hap, Tryz.results12]
    exact ⟨zCells, _, rfl, by (repeat' (first | assumption | exact Ext.refl _ | refine Ext.new' ?_ _ | refine Ext.upd ?_ (by (try simp only [bunM]) <;> omega) _ | refine Ext.dead ?_ (by (try simp only [bunM]) <;> omega))), zero_at _⟩
  | false =>
  cases d5 : decide (U.t.s < T.t.s) with
  | true =>
    have hap : applied T U time = (zeroTn, 1) := by unfold applied; rw [if_neg d0', if_pos (by unfold earlierT; rw [d1, d2, d3, d4, d5]; rfl)]
    rw [hcb']
    simp (maxSteps := 1000000) (disch := first | omega | ((try simp only [bunN]) <;> omega) | fail) only [↓bunD, bunU, ↓bunFD, bunFU, Nat.reduceMul, Nat.reduceEqDiff, Nat.reduceAdd, Nat.reduceBEq, reduceIte, splice_succ, bunAP, a5, hta, d0, d1, d2, d3, d4, d5, hap, Tryz.results12]
    exact ⟨zCells, _, rfl, by (repeat' (first | assumption | exact Ext.refl _ | refine Ext.new' ?_ _ | refine Ext.upd ?_ (by (try simp only [bunM]) <;> omega) _ | refine Ext.dead ?_ (by (try simp only [bunM]) <;> omega))), zero_at _⟩
  | false =>
    have hap : applied T U time = ({ U with t := moved T U }, 0) := by unfold applied; rw [if_neg d0', if_neg (by unfold earlierT; rw [d1, d2, d3, d4, d5]; simp)]
    have hfb : sub cb 0 20 = some cb := sub_full (by omega) (by omega)
    have hU' := hU
    have hcl := hcb'
    have b5 : sub cb 15 5 = some U.t.row := by rw [hcl]; rfl
    have htb : U.t.row = [.int .i64 U.t.q, .int .i64 U.t.b, .int .i64 U.t.g, .int .i64 U.t.p, .int .i64 U.t.s] := rfl
    simp (maxSteps := 1000000) (disch := first | omega | ((try simp only [bunN]) <;> omega) | fail) only [↓bunD, bunU, ↓bunFD, bunFU, Nat.reduceMul, Nat.reduceEqDiff, Nat.reduceAdd, Nat.reduceBEq, reduceIte, splice_succ, bunAP, a5, b5, hta, htb, d0, d1, d2, d3, d4, d5, hap, hfa, hfb]
    refine (rdistance_ok (hT.mono (by (repeat' (first | assumption | exact Ext.refl _ | refine Ext.new' ?_ _ | refine Ext.upd ?_ (by (try simp only [bunM]) <;> omega) _ | refine Ext.dead ?_ (by (try simp only [bunM]) <;> omega))))) (hU.mono (by (repeat' (first | assumption | exact Ext.refl _ | refine Ext.new' ?_ _ | refine Ext.upd ?_ (by (try simp only [bunM]) <;> omega) _ | refine Ext.dead ?_ (by (try simp only [bunM]) <;> omega)))))).mono ?_
    rintro r ⟨σ2, rfl, e2⟩
    have n2 := e2.n
    simp only [new_n, upd_n] at n2
    have w8 : σ2.row (σ.n + 1 + 1 + 1) = some [.int .i64 T.t.q, .int .i64 T.t.b, .int .i64 T.t.g, .int .i64 T.t.p, .int .i64 T.t.s] := by rw [e2.row (by first | trivial | rfl | assumption | omega | (simp only [bunM]; omega) | (simp (disch := first | omega | ((try simp only [bunN]) <;> omega) | fail) only [bunR]; first | done | rfl | assumption | omega))]; first | trivial | rfl | assumption | omega | (simp only [bunM]; omega) | (simp (disch := first | omega | ((try simp only [bunN]) <;> omega) | fail) only [bunR]; first | done | rfl | assumption | omega)
    have w9 : σ2.row (σ.n + 1 + 1 + 1 + 1) = some [.int .i64 U.t.q, .int .i64 U.t.b, .int .i64 U.t.g, .int .i64 U.t.p, .int .i64 U.t.s] := by rw [e2.row (by first | trivial | rfl | assumption | omega | (simp only [bunM]; omega) | (simp (disch := first | omega | ((try simp only [bunN]) <;> omega) | fail) only [bunR]; first | done | rfl | assumption | omega))]; first | trivial | rfl | assumption | omega | (simp only [bunM]; omega) | (simp (disch := first | omega | ((try simp only [bunN]) <;> omega) | fail) only [bunR]; first | done | rfl | assumption | omega)
    have o4 : σ2.orow (σ.n + 1) = some cb := by rw [e2.orow (by first | trivial | rfl | assumption | omega | (simp only [bunM]; omega) | (simp (disch := first | omega | ((try simp only [bunN]) <;> omega) | fail) only [bunR]; first | done | rfl | assumption | omega))]; first | trivial | rfl | assumption | omega | (simp only [bunM]; omega) | (simp (disch := first | omega | ((try simp only [bunN]) <;> omega) | fail) only [bunR]; first | done | rfl | assumption | omega)
    have o6 : σ2.orow (σ.n + 1 + 1) = some zCells := by rw [e2.orow (by first | trivial | rfl | assumption | omega | (simp only [bunM]; omega) | (simp (disch := first | omega | ((try simp only [bunN]) <;> omega) | fail) only [bunR]; first | done | rfl | assumption | omega))]; first | trivial | rfl | assumption | omega | (simp only [bunM]; omega) | (simp (disch := first | omega | ((try simp only [bunN]) <;> omega) | fail) only [bunR]; first | done | rfl | assumption | omega)
    have hE2 : Ext σ σ2 := Ext.trans (by (repeat' (first | assumption | exact Ext.refl _ | refine Ext.new' ?_ _ | refine Ext.upd ?_ (by (try simp only [bunM]) <;> omega) _ | refine Ext.dead ?_ (by (try simp only [bunM]) <;> omega)))) e2
    rw [hz] at o6
    generalize hby : byOf T U = b at *
    obtain ⟨cbs, hcbs⟩ : ∃ f : Int → Int → Int → List Value, f = fun b g p => [str U.name, vl, vc, vr, .int .i64 U.low, .int .i64 U.high, x1, x2, x3, x4, x5, vt, .int .i64 U.most, vk, .int .i64 U.budget, .int .i64 U.t.q, .int .i64 b, .int .i64 g, .int .i64 p, .int .i64 U.t.s] := ⟨_, rfl⟩
    have cb0 : cb = cbs U.t.b U.t.g U.t.p := by rw [hcbs]; exact hcl
    have s16 : ∀ b g p v : Int, splice (cbs b g p) 16 [.int .i64 v] = some (cbs v g p) := fun b g p v => by rw [hcbs]; rfl
    have s17 : ∀ b g p v : Int, splice (cbs b g p) 17 [.int .i64 v] = some (cbs b v p) := fun b g p v => by rw [hcbs]; rfl
    have s18 : ∀ b g p v : Int, splice (cbs b g p) 18 [.int .i64 v] = some (cbs b g v) := fun b g p v => by rw [hcbs]; rfl
    have sl : ∀ b g p : Int, (cbs b g p).length = 20 := fun b g p => by rw [hcbs]; rfl
    have su : ∀ b g p : Int, sub (cbs b g p) 0 20 = some (cbs b g p) := fun b g p => by rw [hcbs]; rfl
    have so : ∀ b g p : Int, splice zCells 0 (cbs b g p) = some (cbs b g p) := fun b g p => by rw [hcbs]; rfl
    rw [← hz] at o6
    rw [cb0] at o4
    simp (maxSteps := 1000000) (disch := first | omega | ((try simp only [bunN]) <;> omega) | fail) only [↓bunD, bunU, ↓bunFD, bunFU, Nat.reduceMul, Nat.reduceEqDiff, Nat.reduceAdd, Nat.reduceBEq, reduceIte, splice_succ, bunAP, w8, w9]
    refine (later_ok ub1 tb1 (by omega) (by omega)).mono ?_
    rintro r rfl
    simp (maxSteps := 1000000) (disch := first | omega | ((try simp only [bunN]) <;> omega) | fail) only [↓bunD, bunU, ↓bunFD, bunFU, Nat.reduceMul, Nat.reduceEqDiff, Nat.reduceAdd, Nat.reduceBEq, reduceIte, bunAP, w8, w9, o4, s16, s17, s18, sl, su]
    refine (later_ok ug1 tg1 (by omega) (by omega)).mono ?_
    rintro r rfl
    simp (maxSteps := 1000000) (disch := first | omega | ((try simp only [bunN]) <;> omega) | fail) only [↓bunD, bunU, ↓bunFD, bunFU, Nat.reduceMul, Nat.reduceEqDiff, Nat.reduceAdd, Nat.reduceBEq, reduceIte, bunAP, w8, w9, o4, s16, s17, s18, sl, su]
    refine (later_ok up1 tp1 (by omega) (by omega)).mono ?_
    rintro r rfl
    simp (maxSteps := 1000000) (disch := first | omega | ((try simp only [bunN]) <;> omega) | fail) only [↓bunD, bunU, ↓bunFD, bunFU, Nat.reduceMul, Nat.reduceEqDiff, Nat.reduceAdd, Nat.reduceBEq, reduceIte, bunAP, w8, w9, o4, o6, s16, s17, s18, sl, su, so, hap, Tryz.results12]
    refine ⟨_, _, rfl, by (repeat' (first | assumption | exact Ext.refl _ | refine Ext.new' ?_ _ | refine Ext.upd ?_ (by (try simp only [bunM]) <;> omega) _ | refine Ext.dead ?_ (by (try simp only [bunM]) <;> omega))), ?_⟩
    have hE3 : ∀ σ', Ext σ σ' → TnAt σ' [str U.name, vl, vc, vr, .int .i64 U.low, .int .i64 U.high, x1, x2, x3, x4, x5, vt, .int .i64 U.most, vk, .int .i64 U.budget, .int .i64 U.t.q, .int .i64 (later U.t.b T.t.b b), .int .i64 (later U.t.g T.t.g b), .int .i64 (later U.t.p T.t.p b), .int .i64 U.t.s] { U with t := moved T U } := fun σ' hE =>
      ⟨vl, vc, vr, [x1, x2, x3, x4, x5], vt, vk, by rw [← hby]; rfl, SL.mono u1 hE, SL.mono u2 hE, SL.mono u3 hE, u4.mono hE, u5.mono hE, u6.mono hE⟩
    have hfin : cbs (later U.t.b T.t.b b) (later U.t.g T.t.g b) (later U.t.p T.t.p b) = [str U.name, vl, vc, vr, .int .i64 U.low, .int .i64 U.high, x1, x2, x3, x4, x5, vt, .int .i64 U.most, vk, .int .i64 U.budget, .int .i64 U.t.q, .int .i64 (later U.t.b T.t.b b), .int .i64 (later U.t.g T.t.g b), .int .i64 (later U.t.p T.t.p b), .int .i64 U.t.s] := by rw [hcbs]
    rw [hfin]
    exact hE3 _ (by (repeat' (first | assumption | exact Ext.refl _ | refine Ext.new' ?_ _ | refine Ext.upd ?_ (by (try simp only [bunM]) <;> omega) _ | refine Ext.dead ?_ (by (try simp only [bunM]) <;> omega))))
end Go.Proofs.G
namespace Go.Proofs.G
open Go Go.Ab
set_option maxRecDepth 100000
set_option maxHeartbeats 4000000 in
theorem requalf_ok : ∀ (n : Nat) {σ : St} {ra rb : List Value} {a b : Ex}, SizeOf.sizeOf a < n → ExAt σ ra a → ExAt σ rb b → Ev (go Tryz.prog HS (.fn 30) [.agg ⟨ra⟩, .agg ⟨rb⟩] σ) (fun r => ∃ σ', r = ⟨false, .bool (exEqb a b), σ'⟩ ∧ Ext σ σ') ⟨⟩ := by
  intro n
  induction n with
  | zero => intro σ ra rb a b h; omega
  | succ n ih =>
    rintro σ ra rb ⟨o, nu, de, nm, es⟩ ⟨o', nu', de', nm', es'⟩ hsz ⟨v, rows, rfl, h2, h4, h3⟩ ⟨v', rows', rfl, h2', h4', h3'⟩
    obtain ⟨sa, sc, sb, so, scs, rfl, s1, s2⟩ := ExsAt.slice h2 h3
    obtain ⟨sa', sc', sb', so', scs', rfl, s1', s2'⟩ := ExsAt.slice h2' h3'
    have e0 : exEqb (.mk o nu de nm es) (.mk o' nu' de' nm' es') = (decide (o = o') && (decide (nu = nu') && decide (de = de')) && decide (nm = nm') && exsEqb es es') := by unfold exEqb; rfl
    refine ev_go Tryz.func30 rfl rfl ?_
    rw [e0]
    have ext2 : ∀ u v : List Value, Ext σ ((σ.new u).new v) := fun u v => ((Ext.refl _).new' _).new' _
    cases hd1 : decide (o = o') with
    | false => simp (maxSteps := 1000000) (disch := first | omega | ((try simp only [bunN]) <;> omega) | fail) only [↓bunD, bunU, ↓bunFD, bunFU, Nat.reduceMul, Nat.reduceEqDiff, Nat.reduceAdd, Nat.reduceBEq, reduceIte, splice_succ, bunAP, b2_rat.1, b2_rat.2, hd1, Bool.false_and, Tryz.results30]; exact ⟨_, rfl, ext2 _ _⟩
    | true =>
    cases hd2 : (decide (nu = nu') && decide (de = de')) with
    | false => simp (maxSteps := 1000000) (disch := first | omega | ((try simp only [bunN]) <;> omega) | fail) only [↓bunD, bunU, ↓bunFD, bunFU, Nat.reduceMul, Nat.reduceEqDiff, Nat.reduceAdd, Nat.reduceBEq, reduceIte, splice_succ, bunAP, b2_rat.1, b2_rat.2, hd1, hd2, Bool.false_and, Bool.true_and, Tryz.results30]; exact ⟨_, rfl, ext2 _ _⟩
    | true =>
    cases hd3 : decide (nm = nm') with
    | false => simp (maxSteps := 1000000) (disch := first | omega | ((try simp only [bunN]) <;> omega) | fail) only [↓bunD, bunU, ↓bunFD, bunFU, Nat.reduceMul, Nat.reduceEqDiff, Nat.reduceAdd, Nat.reduceBEq, reduceIte, splice_succ, bunAP, b2_rat.1, b2_rat.2, hd1, hd2, hd3, Bool.false_and, Bool.true_and, Tryz.results30]; exact ⟨_, rfl, ext2 _ _⟩
    | true =>
    by_cases hlen : es.length = es'.length
    · have hd4 : decide ((es.length : Int) = (es'.length : Int)) = true := by simp [hlen]
      simp (maxSteps := 1000000) (disch := first | omega | ((try simp only [bunN]) <;> omega) | fail) only [↓bunD, bunU, ↓bunFD, bunFU, Nat.reduceMul, Nat.reduceEqDiff, Nat.reduceAdd, Nat.reduceBEq, reduceIte, splice_succ, bunAP, b2_rat.1, b2_rat.2, hd1, hd2, hd3, hd4, Bool.false_and, Bool.true_and]
      refine ev_count es.length (fun k fr σ' => fr.get 5 = some (.int .i64 k) ∧ fr.get 2 = some (.pointer (some ⟨σ.n, 0, none⟩)) ∧ fr.get 3 = some (.pointer (some ⟨σ.n + 1, 0, none⟩)) ∧
          Ext ((σ.new [str o, .int .i64 nu, .int .i64 de, str nm, .slice sa es.length sc]).new [str o', .int .i64 nu', .int .i64 de', str nm', .slice sa' es'.length sc']) σ' ∧ (∀ i a b, i < k → es[i]? = some a → es'[i]? = some b → exEqb a b = true))
        (fun r => (∃ fr σ', r = ⟨.exit 0, fr, σ'⟩ ∧ Ext σ σ' ∧ exsEqb es es' = true) ∨ (∃ fr σ', r = ⟨.ret, fr, σ'⟩ ∧ Ext σ σ' ∧ fr.get 4 = some (.bool false) ∧ exsEqb es es' = false)) ?_ ?_ ?_ ?_
      · exact ⟨by first | trivial | rfl | assumption | omega | (simp only [bunM]; omega) | (simp (disch := first | omega | ((try simp only [bunN]) <;> omega) | fail) only [bunR, ↓get_set, Nat.reduceEqDiff, reduceIte]; first | done | rfl | assumption | omega), by first | trivial | rfl | assumption | omega | (simp only [bunM]; omega) | (simp (disch := first | omega | ((try simp only [bunN]) <;> omega) | fail) only [bunR, ↓get_set, Nat.reduceEqDiff, reduceIte]; first | done | rfl | assumption | omega), by first | trivial | rfl | assumption | omega | (simp only [bunM]; omega) | (simp (disch := first | omega | ((try simp only [bunN]) <;> omega) | fail) only [bunR, ↓get_set, Nat.reduceEqDiff, reduceIte]; first | done | rfl | assumption | omega), .refl _, fun i a b h => by omega⟩
      · rintro k fr σ' hk ⟨g5, g2, g3, hE, hm⟩
        have hc := lt_true hk
        have hE0 : Ext σ σ' := (ext2 _ _).trans hE
        have hc' : k < es'.length := by omega
        obtain ⟨x, hx⟩ := at_some hk
        obtain ⟨y, hy⟩ := at_some hc'
        obtain ⟨rx, hrx, hex⟩ := s2 k x hx
        obtain ⟨ry, hry, hey⟩ := s2' k y hy
        obtain ⟨sp, rfl, l3, l4⟩ := s1 (by omega)
        obtain ⟨sp', rfl, l3', l4'⟩ := s1' (by omega)
        have r1 : σ'.row sb = some scs := by rw [hE0.row l3]; exact l4
        have r2 : σ'.row sb' = some scs' := by rw [hE0.row l3']; exact l4'
        have r3 : σ'.row σ.n = some [str o, .int .i64 nu, .int .i64 de, str nm, .slice (some ⟨sb, so, sp⟩) es.length sc] := by rw [hE.row (by simp; omega)]; first | trivial | rfl | assumption | omega | (simp only [bunM]; omega) | (simp (disch := first | omega | ((try simp only [bunN]) <;> omega) | fail) only [bunR]; first | done | rfl | assumption | omega)
        have r4 : σ'.row (σ.n + 1) = some [str o', .int .i64 nu', .int .i64 de', str nm', .slice (some ⟨sb', so', sp'⟩) es'.length sc'] := by rw [hE.row (by simp)]; first | trivial | rfl | assumption | omega | (simp only [bunM]; omega) | (simp (disch := first | omega | ((try simp only [bunN]) <;> omega) | fail) only [bunR]; first | done | rfl | assumption | omega)
        have hrl : rx.length = 5 := hex.len
        have hrl' : ry.length = 5 := hey.len
        simp (maxSteps := 1000000) (disch := first | omega | ((try simp only [bunN]) <;> omega) | fail) only [↓bunD, bunU, ↓bunFD, bunFU, Nat.reduceMul, Nat.reduceEqDiff, Nat.reduceAdd, Nat.reduceBEq, reduceIte, splice_succ, bunAP, g2, g3, g5, hc, r1, r2, r3, r4, hrx, hry]
        refine (ih (a := x) (b := y) ?_ (hex.mono hE0) (hey.mono hE0)).mono ?_
        · have h5 := List.sizeOf_lt_of_mem (List.mem_of_getElem? hx)
          simp at hsz
          omega
        rintro r ⟨σ2, rfl, hE2⟩
        simp (maxSteps := 1000000) (disch := first | omega | ((try simp only [bunN]) <;> omega) | fail) only [↓bunD, bunU, ↓bunFD, bunFU, Nat.reduceMul, Nat.reduceEqDiff, Nat.reduceAdd, Nat.reduceBEq, reduceIte, splice_succ, bunAP, g2, g3, g5, asx hE2]
        cases hq : exEqb x y with
        | true =>
          simp (maxSteps := 1000000) (disch := first | omega | ((try simp only [bunN]) <;> omega) | fail) only [↓bunD, bunU, ↓bunFD, bunFU, Nat.reduceMul, Nat.reduceEqDiff, Nat.reduceAdd, Nat.reduceBEq, reduceIte, splice_succ, bunAP, g2, g3, g5]
          refine ⟨by first | trivial | rfl | assumption | omega | (simp only [bunM]; omega) | (simp (disch := first | omega | ((try simp only [bunN]) <;> omega) | fail) only [bunR, ↓get_set, Nat.reduceEqDiff, reduceIte]; first | done | rfl | assumption | omega), by first | trivial | rfl | assumption | omega | (simp only [bunM]; omega) | (simp (disch := first | omega | ((try simp only [bunN]) <;> omega) | fail) only [bunR, ↓get_set, Nat.reduceEqDiff, reduceIte, g2]; first | done | rfl | assumption | omega), by first | trivial | rfl | assumption | omega | (simp only [bunM]; omega) | (simp (disch := first | omega | ((try simp only [bunN]) <;> omega) | fail) only [bunR, ↓get_set, Nat.reduceEqDiff, reduceIte, g3]; first | done | rfl | assumption | omega), hE.trans hE2, fun i a b hi ha hb => ?_⟩
          by_cases e : i = k
          · subst e; rw [hx] at ha; rw [hy] at hb; cases ha; cases hb; exact hq
          · exact hm i a b (by omega) ha hb
        | false =>
          simp (maxSteps := 1000000) (disch := first | omega | ((try simp only [bunN]) <;> omega) | fail) only [↓bunD, bunU, ↓bunFD, bunFU, Nat.reduceMul, Nat.reduceEqDiff, Nat.reduceAdd, Nat.reduceBEq, reduceIte, splice_succ, bunAP, g2, g3, g5]
          exact .inr ⟨_, _, rfl, hE0.trans hE2, by first | trivial | rfl | assumption | omega | (simp only [bunM]; omega) | (simp (disch := first | omega | ((try simp only [bunN]) <;> omega) | fail) only [bunR, ↓get_set, Nat.reduceEqDiff, reduceIte]; first | done | rfl | assumption | omega), exsEqb_take hlen hx hy hq⟩
      · rintro fr σ' ⟨g5, g2, g3, hE, hm⟩
        have r3 : σ'.row σ.n = some [str o, .int .i64 nu, .int .i64 de, str nm, .slice sa es.length sc] := by rw [hE.row (by simp; omega)]; first | trivial | rfl | assumption | omega | (simp only [bunM]; omega) | (simp (disch := first | omega | ((try simp only [bunN]) <;> omega) | fail) only [bunR]; first | done | rfl | assumption | omega)
        simp (maxSteps := 1000000) (disch := first | omega | ((try simp only [bunN]) <;> omega) | fail) only [↓bunD, bunU, ↓bunFD, bunFU, Nat.reduceMul, Nat.reduceEqDiff, Nat.reduceAdd, Nat.reduceBEq, reduceIte, splice_succ, bunAP, g2, g3, g5, r3]
        exact .inl ⟨_, _, rfl, (ext2 _ _).trans hE, exsEqb_all hlen fun k a b ha hb => hm k a b (List.getElem?_eq_some_iff.1 ha).1 ha hb⟩
      · rintro r (⟨fr, σ', rfl, hE, hq⟩ | ⟨fr, σ', rfl, hE, g4, hq⟩)
        · simp (maxSteps := 1000000) (disch := first | omega | ((try simp only [bunN]) <;> omega) | fail) only [↓bunD, bunU, ↓bunFD, bunFU, Nat.reduceMul, Nat.reduceEqDiff, Nat.reduceAdd, Nat.reduceBEq, reduceIte, splice_succ, bunAP, Tryz.results30]; rw [hq]; exact ⟨_, rfl, hE⟩
        · simp (maxSteps := 1000000) (disch := first | omega | ((try simp only [bunN]) <;> omega) | fail) only [↓bunD, bunU, ↓bunFD, bunFU, Nat.reduceMul, Nat.reduceEqDiff, Nat.reduceAdd, Nat.reduceBEq, reduceIte, splice_succ, bunAP, Tryz.results30, g4]; rw [hq]; exact ⟨_, rfl, hE⟩
    · have hd4 : decide ((es.length : Int) = (es'.length : Int)) = false := by simp; omega
      simp (maxSteps := 1000000) (disch := first | omega | ((try simp only [bunN]) <;> omega) | fail) only [↓bunD, bunU, ↓bunFD, bunFU, Nat.reduceMul, Nat.reduceEqDiff, Nat.reduceAdd, Nat.reduceBEq, reduceIte, splice_succ, bunAP, b2_rat.1, b2_rat.2, hd1, hd2, hd3, hd4, Bool.false_and, Bool.true_and, Tryz.results30]
      rw [exsEqb_len hlen]
      exact ⟨_, rfl, ext2 _ _⟩
theorem rints_ok {σ : St} {v w : Value} {l : List Int} (hl : Ints σ v l) (hk : Ints σ w l) (hn : l.length ≤ 4294967296) :
    Ev (go Tryz.prog HS (.fn 31) [v, w] σ) (fun r => r = ⟨false, .bool true, σ⟩) ⟨⟩ := by
  obtain ⟨a, c, b, off, cells, rfl, h1, h2⟩ := hl.use
  obtain ⟨a', c', b', off', cells', rfl, h1', h2'⟩ := hk.use
  refine ev_go Tryz.func31 rfl rfl ?_
  have hd : decide ((l.length : Int) = (l.length : Int)) = true := by simp
  simp (maxSteps := 1000000) (disch := first | omega | ((try simp only [bunN]) <;> omega) | fail) only [↓bunD, bunU, ↓bunFD, bunFU, Nat.reduceMul, Nat.reduceEqDiff, Nat.reduceAdd, Nat.reduceBEq, reduceIte, splice_succ, bunAP, hd]
  refine ev_count l.length (fun i fr σ' => fr.get 0 = some (.slice a l.length c) ∧ fr.get 1 = some (.slice a' l.length c') ∧ fr.get 5 = some (.int .i64 i) ∧ σ' = σ) (fun r => ∃ fr, r = ⟨.exit 0, fr, σ⟩) ?_ ?_ ?_ ?_
  · refine ⟨?_, ?_, ?_, rfl⟩
    all_goals first | trivial | rfl | assumption | omega | (simp only [bunM]; omega) | (simp (disch := first | omega | ((try simp only [bunN]) <;> omega) | fail) only [bunR, ↓get_set, Nat.reduceEqDiff, reduceIte, init_cons, init_nil]; first | done | rfl | assumption | omega)
  · rintro i fr σ' hi ⟨g0, g1, g5, rfl⟩
    have hc' := lt_true hi
    obtain ⟨sp, rfl, hb, hr⟩ := h1 (by omega)
    obtain ⟨sp', rfl, hb', hr'⟩ := h1' (by omega)
    obtain ⟨x, hx⟩ := at_some hi
    have h2 := h2 i x hx
    have h2' := h2' i x hx
    have hxx : decide (x = x) = true := by simp
    simp (maxSteps := 1000000) (disch := first | omega | ((try simp only [bunN]) <;> omega) | fail) only [↓bunD, bunU, ↓bunFD, bunFU, Nat.reduceMul, Nat.reduceEqDiff, Nat.reduceAdd, Nat.reduceBEq, reduceIte, splice_succ, bunAP, g0, g1, g5, hc', hr, hr', h2, h2', hxx]
    exact ⟨by first | trivial | rfl | assumption | omega | (simp only [bunM]; omega) | (simp (disch := first | omega | ((try simp only [bunN]) <;> omega) | fail) only [bunR, ↓get_set, Nat.reduceEqDiff, reduceIte, g0]; first | done | rfl | assumption | omega), by first | trivial | rfl | assumption | omega | (simp only [bunM]; omega) | (simp (disch := first | omega | ((try simp only [bunN]) <;> omega) | fail) only [bunR, ↓get_set, Nat.reduceEqDiff, reduceIte, g1]; first | done | rfl | assumption | omega), by first | trivial | rfl | assumption | omega | (simp only [bunM]; omega) | (simp (disch := first | omega | ((try simp only [bunN]) <;> omega) | fail) only [bunR, ↓get_set, Nat.reduceEqDiff, reduceIte]; first | done | rfl | assumption | omega), by trivial⟩
  · rintro fr σ' ⟨g0, g1, g5, rfl⟩
    simp (maxSteps := 1000000) (disch := first | omega | ((try simp only [bunN]) <;> omega) | fail) only [↓bunD, bunU, ↓bunFD, bunFU, Nat.reduceMul, Nat.reduceEqDiff, Nat.reduceAdd, Nat.reduceBEq, reduceIte, splice_succ, bunAP, g0, g1, g5]
    exact ⟨_, rfl⟩
  rintro r ⟨fr, rfl⟩
  simp (maxSteps := 1000000) (disch := first | omega | ((try simp only [bunN]) <;> omega) | fail) only [↓bunD, bunU, ↓bunFD, bunFU, Nat.reduceMul, Nat.reduceEqDiff, Nat.reduceAdd, Nat.reduceBEq, reduceIte, splice_succ, bunAP, Tryz.results31]
/-- What is known in a loop: the two tenders' slots. -/
def EQ (σ : St) (ca cb : List Value) (fr : Fr) (σ' : St) : Prop := fr.get 2 = some (.pointer (some ⟨σ.n, 0, none⟩)) ∧ fr.get 3 = some (.pointer (some ⟨σ.n + 1, 0, none⟩)) ∧ Ext ((σ.new ca).new cb) σ'
theorem EQ.set {σ : St} {ca cb : List Value} {fr : Fr} {σ' : St} {i : Nat} {v : Value} (h : EQ σ ca cb fr σ') (h2 : i ≠ 2) (h3 : i ≠ 3) : EQ σ ca cb (fr.set i v) σ' := by
  obtain ⟨g2, g3, hE⟩ := h
  exact ⟨by rw [get_set, if_neg (fun e => h2 e.symm)]; exact g2, by rw [get_set, if_neg (fun e => h3 e.symm)]; exact g3, hE⟩
theorem sub_self {σ : St} {cells : List Value} {T : Tn} (h : TnAt σ cells T) : ∃ vl vc vr x1 x2 x3 x4 x5 vt vk, cells = [str T.name, vl, vc, vr, .int .i64 T.low, .int .i64 T.high, x1, x2, x3, x4, x5, vt, .int .i64 T.most, vk, .int .i64 T.budget, .int .i64 T.t.q, .int .i64 T.t.b, .int .i64 T.t.g, .int .i64 T.t.p, .int .i64 T.t.s] ∧
    Lots σ vl T.lots ∧ Crits σ vc T.crits ∧ Reqs σ vr T.reqs ∧ ExAt σ [x1, x2, x3, x4, x5] T.f ∧ Strs σ vt T.ties ∧ Combos σ vk T.combos := by
  obtain ⟨vl, vc, vr, ex, vt, vk, h0, u1, u2, u3, u4, u5, u6⟩ := h
  have hxl := u4.len
  match ex, hxl with
  | [x1, x2, x3, x4, x5], _ => exact ⟨vl, vc, vr, x1, x2, x3, x4, x5, vt, vk, h0, u1, u2, u3, u4, u5, u6⟩
end Go.Proofs.G
