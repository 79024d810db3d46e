/- A part of the proof: a walk of some functions. -/
import Derived.Test.YtcjkjjnnicadfaaGreatDoorGH
import Derived.Test.YtcjkjjnnicadfaaGreatDoorGB
set_option linter.unusedSimpArgs false
set_option linter.unusedVariables false
namespace Go.Proofs.G
open Go Go.Ab
set_option maxRecDepth 100000
/-- Rows of integers that came in. -/
def IRows (σ : St) (m : Nat) (v : Value) (l : List (List Int)) : Prop := SL σ m v (l.map fun r => r.map (.int .i64)) ∧ ∀ r ∈ l, r.length = m ∧ ∀ n ∈ r, In64 n
/-- Integers that came in, with their room. -/
def ArgIn (σ : St) (v : Value) (l : List Int) : Prop := (∀ n ∈ l, In64 n) ∧ ((v = .slice none 0 0 ∧ l = []) ∨ ∃ b off c cells, v = .slice (some ⟨b, off, none⟩) l.length c ∧ l.length ≤ c ∧ b < σ.n ∧ σ.row b = some cells ∧ sub cells off l.length = some (l.map (.int .i64)))
def PlanAt (σ : St) (cells : List Value) : Prop := ∃ vl vc vr vf vt vk lots crits reqs f ties vs combos o0 o1 o2 o3 o4 o5 o6 o7 o8 o9,
  cells = [vl, vc, vr, vf, vt, vk, .int .i64 o0, .int .i64 o1, .int .i64 o2, .int .i64 o3, .int .i64 o4, .int .i64 o5, .int .i64 o6, .int .i64 o7, .int .i64 o8, .int .i64 o9] ∧
  IRows σ 2 vl lots ∧ IRows σ 4 vc crits ∧ IRows σ 3 vr reqs ∧ ArgInts σ vf f ∧ ArgInts σ vt ties ∧ (SL σ 1 vk (vs.map fun x => [x]) ∧ All2 (ArgIn σ) vs combos) ∧
  (In64 o0 ∧ In64 o1 ∧ In64 o2 ∧ In64 o3 ∧ In64 o4 ∧ In64 o5 ∧ In64 o6 ∧ In64 o7 ∧ In64 o8 ∧ In64 o9)
theorem as_ext {bs : List Nat} {i j q : Nat} {r : RowAt} {a b : St} {ds : List Ab.Trace} (h : ExtX q a b) (hne : r.b ≠ q) : allSame bs i r (.eff j a b :: ds) = allSame bs i r ds := as_eff fun hlt => h.same r.b hlt hne
def tieRow (s : By) : List Value := [str s]
theorem IRows.use {σ : St} {m : Nat} {v : Value} {l : List (List Int)} (h : IRows σ m v l) : ∃ a c b off cells, v = .slice a l.length c ∧ (0 < l.length → ∃ sp, a = some ⟨b, off, sp⟩ ∧ b < σ.n ∧ σ.row b = some cells) ∧
    ∀ k r, l[k]? = some r → sub cells (off + k * m) m = some (r.map (.int .i64)) ∧ ∀ i n, r[i]? = some n → sub cells (off + k * m + i) 1 = some [.int .i64 n] := by
  obtain ⟨h, hr⟩ := h
  obtain ⟨a, c, b, off, cells, h1, h2, h3⟩ := SL.use' h
  refine ⟨a, c, b, off, cells, h1, h2, fun k r hk => ⟨h3 k r hk, fun i n hi => ?_⟩⟩
  have hm := (hr r (List.mem_of_getElem? hk)).1
  obtain ⟨hlt, he⟩ := List.getElem?_eq_some_iff.1 hi
  rw [sub_in (h3 k r hk) (by omega), sub_of (by simp; omega), List.drop_eq_getElem_cons (by simp; omega), List.getElem_map, he]
  rfl
set_option maxHeartbeats 8000000 in
theorem tender_ok {σ : St} {cp : List Value} (H : List Nat) (hH0 : ∀ q ∈ H, q < σ.n) (hP : PlanAt σ cp) : Ev (go Tryz.prog HS (.fn 24) [.agg ⟨cp⟩] σ) (fun r => ∃ cells T σ', r = ⟨false, .agg ⟨cells⟩, σ'⟩ ∧ Ext σ σ' ∧ TnX (hide σ' H) cells T ∧ T.Ok ∧ T.Le 5 ∧ T.name.length ≤ 100) ⟨⟩ := by
  obtain ⟨vl, vc, vr, vf, vt, vk, lots, crits, reqs, f, ties, vs, combos, o0, o1, o2, o3, o4, o5, o6, o7, o8, o9, rfl, hl, hc, hr, hf, ht, ⟨hk, hkk⟩, q0, q1, q2, q3, q4, q5, q6, q7, q8, q9⟩ := hP
  obtain ⟨cp, hcp⟩ : ∃ cp : List Value, [vl, vc, vr, vf, vt, vk, .int .i64 o0, .int .i64 o1, .int .i64 o2, .int .i64 o3, .int .i64 o4, .int .i64 o5, .int .i64 o6, .int .i64 o7, .int .i64 o8, .int .i64 o9] = cp := ⟨_, rfl⟩
  rw [hcp]
  have hlen : cp.length = 16 := by rw [← hcp]; rfl
  have hfull : sub cp 0 16 = some cp := sub_full (by omega) (by omega)
  have s0 : sub cp 0 1 = some [vl] := by rw [← hcp]; rfl
  have s1 : sub cp 1 1 = some [vc] := by rw [← hcp]; rfl
  have s2 : sub cp 2 1 = some [vr] := by rw [← hcp]; rfl
  have s3 : sub cp 3 1 = some [vf] := by rw [← hcp]; rfl
  have s4 : sub cp 4 1 = some [vt] := by rw [← hcp]; rfl
  have s5 : sub cp 5 1 = some [vk] := by rw [← hcp]; rfl
  have s6 : sub cp 6 1 = some [.int .i64 o0] := by rw [← hcp]; rfl
  have s7 : sub cp 7 1 = some [.int .i64 o1] := by rw [← hcp]; rfl
  have s8 : sub cp 8 1 = some [.int .i64 o2] := by rw [← hcp]; rfl
  have s9 : sub cp 9 1 = some [.int .i64 o3] := by rw [← hcp]; rfl
  have s10 : sub cp 10 1 = some [.int .i64 o4] := by rw [← hcp]; rfl
  have s11 : sub cp 11 1 = some [.int .i64 o5] := by rw [← hcp]; rfl
  have s12 : sub cp 12 1 = some [.int .i64 o6] := by rw [← hcp]; rfl
  have s13 : sub cp 13 1 = some [.int .i64 o7] := by rw [← hcp]; rfl
  have s14 : sub cp 14 1 = some [.int .i64 o8] := by rw [← hcp]; rfl
  have s15 : sub cp 15 1 = some [.int .i64 o9] := by rw [← hcp]; rfl
  clear hcp
  have hvf : cellsL vf = [vf] ∧ isTup vf = false := by obtain ⟨a, c, b, off, cells, rfl, -⟩ := hf.1.use; exact ⟨rfl, rfl⟩
  refine ev_go Tryz.func24 rfl rfl ?_
  have z45 : zCells = [str [], .slice none 0 0, .slice none 0 0, .slice none 0 0, .int .i64 0, .int .i64 0, str [], .int .i64 0, .int .i64 0, str [], .slice none 0 0, .slice none 0 0, .int .i64 0, .slice none 0 0, .int .i64 0, .int .i64 0, .int .i64 0, .int .i64 0, .int .i64 0, .int .i64 0] := rfl
  simp (maxSteps := 1000000) (disch := first | omega | ((try simp only [bunN]) <;> omega) | fail) only [↓bunD, bunU, ↓bunFD, bunFU, Nat.reduceMul, Nat.reduceEqDiff, Nat.reduceAdd, Nat.reduceBEq, reduceIte, splice_succ, bunAP, hfull, s15]
  refine (decimal_ok q9.1 q9.2).mono ?_
  rintro r ⟨σ2, rfl, e2⟩
  have n2 := e2.n
  simp only [new_n] at n2
  have r2 : σ2.row σ.n = some cp := by rw [e2.row (by first | trivial | rfl | assumption | omega | (simp only [bunM]; omega) | (simp (disch := first | omega | ((try simp only [bunN]) <;> omega) | fail) only [bunR]; first | done | rfl | assumption | omega))]; first | trivial | rfl | assumption | omega | (simp only [bunM]; omega) | (simp (disch := first | omega | ((try simp only [bunN]) <;> omega) | fail) only [bunR]; first | done | rfl | assumption | omega)
  simp (maxSteps := 1000000) (disch := first | omega | ((try simp only [bunN]) <;> omega) | fail) only [↓bunD, bunU, ↓bunFD, bunFU, Nat.reduceMul, Nat.reduceEqDiff, Nat.reduceAdd, Nat.reduceBEq, reduceIte, splice_succ, bunAP, r2, s3, s6, s7, s8, s9]
  have hE2 : Ext σ σ2 := Ext.trans (by (repeat' (first | assumption | exact Ext.refl _ | refine Ext.new' ?_ _ | refine Ext.upd ?_ (by (try simp only [bunM]) <;> omega) _ | refine Ext.dead ?_ (by (try simp only [bunM]) <;> omega)))) e2
  refine (made_ok ((σ.n + 1) :: H) (fun q hq => by rcases List.mem_cons.1 hq with rfl | hq <;> first | omega | (have := hH0 q hq; omega)) (⟨SL.mono hf.1 hE2, hf.2⟩ : ArgInts σ2 vf f)).mono ?_
  rintro r ⟨ex, F, σ3, rfl, e3, hx⟩
  have n3 := e3.n
  have r3 : σ3.row σ.n = some cp := by rw [e3.row (by omega)]; exact r2
  obtain ⟨x1, x2, x3, x4, x5, rfl⟩ := five hx.len
  simp (maxSteps := 1000000) (disch := first | omega | ((try simp only [bunN]) <;> omega) | fail) only [↓bunD, bunU, ↓bunFD, bunFU, Nat.reduceMul, Nat.reduceEqDiff, Nat.reduceAdd, Nat.reduceBEq, reduceIte, splice_succ, bunAP, r3, asx e2, asx e3, as_newb, as_upd]
  have ro3 : σ3.orow (σ.n + 1) = some zCells := by rw [e3.orow (by omega), e2.orow (by first | trivial | rfl | assumption | omega | (simp only [bunM]; omega) | (simp (disch := first | omega | ((try simp only [bunN]) <;> omega) | fail) only [bunR]; first | done | rfl | assumption | omega))]; first | trivial | rfl | assumption | omega | (simp only [bunM]; omega) | (simp (disch := first | omega | ((try simp only [bunN]) <;> omega) | fail) only [bunR, z45]; first | done | rfl | assumption | omega)
  obtain ⟨nm, hnm⟩ : ∃ nm, dec o9 = nm := ⟨_, rfl⟩
  have hnl : nm.length ≤ 100 := by rw [← hnm]; have := dec_len q9.1 q9.2; omega
  rw [hnm]
  clear hnm
  obtain ⟨tc, htc⟩ : ∃ f : Value → Value → Value → Value → Value → List Value, f = fun vl vc vr vt vk => [str nm, vl, vc, vr, .int .i64 o0, .int .i64 o1, x1, x2, x3, x4, x5, vt, .int .i64 o2, vk, .int .i64 o3, .int .i64 o4, .int .i64 o5, .int .i64 o6, .int .i64 o7, .int .i64 o8] := ⟨_, rfl⟩
  obtain ⟨t0, ht0⟩ : ∃ t0 : List Value, t0 = [str nm, .slice none 0 0, .slice none 0 0, .slice none 0 0, .int .i64 o0, .int .i64 o1, x1, x2, x3, x4, x5, .slice none 0 0, .int .i64 o2, .slice none 0 0, .int .i64 o3, .int .i64 0, .int .i64 0, .int .i64 0, .int .i64 0, .int .i64 0] := ⟨_, rfl⟩
  rw [← ht0]
  have w15 : splice t0 15 [.int .i64 o4, .int .i64 o5, .int .i64 o6, .int .i64 o7, .int .i64 o8] = some (tc (.slice none 0 0) (.slice none 0 0) (.slice none 0 0) (.slice none 0 0) (.slice none 0 0)) := by rw [ht0, htc]; rfl
  clear ht0
  simp (maxSteps := 1000000) (disch := first | omega | ((try simp only [bunN]) <;> omega) | fail) only [↓bunD, bunU, ↓bunFD, bunFU, Nat.reduceMul, Nat.reduceEqDiff, Nat.reduceAdd, Nat.reduceBEq, reduceIte, splice_succ, bunAP, s10, s11, s12, s13, s14, r3, w15]
  have u1 : ∀ a b c d e, sub (tc a b c d e) 1 1 = some [a] := fun _ _ _ _ _ => by rw [htc]; rfl
  have u2 : ∀ a b c d e, sub (tc a b c d e) 2 1 = some [b] := fun _ _ _ _ _ => by rw [htc]; rfl
  have u3 : ∀ a b c d e, sub (tc a b c d e) 3 1 = some [c] := fun _ _ _ _ _ => by rw [htc]; rfl
  have u4 : ∀ a b c d e, sub (tc a b c d e) 11 1 = some [d] := fun _ _ _ _ _ => by rw [htc]; rfl
  have u5 : ∀ a b c d e, sub (tc a b c d e) 13 1 = some [e] := fun _ _ _ _ _ => by rw [htc]; rfl
  have v1 : ∀ a b c d e v, splice (tc a b c d e) 1 [v] = some (tc v b c d e) := fun _ _ _ _ _ _ => by rw [htc]; rfl
  have v2 : ∀ a b c d e v, splice (tc a b c d e) 2 [v] = some (tc a v c d e) := fun _ _ _ _ _ _ => by rw [htc]; rfl
  have v3 : ∀ a b c d e v, splice (tc a b c d e) 3 [v] = some (tc a b v d e) := fun _ _ _ _ _ _ => by rw [htc]; rfl
  have v4 : ∀ a b c d e v, splice (tc a b c d e) 11 [v] = some (tc a b c v e) := fun _ _ _ _ _ _ => by rw [htc]; rfl
  have v5 : ∀ a b c d e v, splice (tc a b c d e) 13 [v] = some (tc a b c d v) := fun _ _ _ _ _ _ => by rw [htc]; rfl
  have ul : ∀ a b c d e, (tc a b c d e).length = 20 := fun _ _ _ _ _ => by rw [htc]; rfl
  have uf : ∀ a b c d e, sub (tc a b c d e) 0 20 = some (tc a b c d e) := fun _ _ _ _ _ => by rw [htc]; rfl
  have uz : ∀ a b c d e, splice zCells 0 (tc a b c d e) = some (tc a b c d e) := fun _ _ _ _ _ => by rw [htc]; rfl
  obtain ⟨N, hN⟩ : ∃ N : Value, .slice none 0 0 = N := ⟨_, rfl⟩
  obtain ⟨p, hp⟩ : ∃ p, σ3.n = p := ⟨_, rfl⟩
  obtain ⟨σ4, h4⟩ : ∃ σ4, ((σ3.new [str [], .slice none 0 0, .slice none 0 0, .slice none 0 0, .int .i64 0, .int .i64 0, str [], .int .i64 0, .int .i64 0, str [], .slice none 0 0, .slice none 0 0, .int .i64 0, .slice none 0 0, .int .i64 0, .int .i64 0, .int .i64 0, .int .i64 0, .int .i64 0, .int .i64 0]).upd σ3.n t0).upd σ3.n (tc (.slice none 0 0) (.slice none 0 0) (.slice none 0 0) (.slice none 0 0) (.slice none 0 0)) = σ4 := ⟨_, rfl⟩
  have hE4 : ExtX p σ3 σ4 := by rw [← h4, ← hp]; exact ((ExtX.of (.new _ _)).upd _).upd _
  have n4 : p < σ4.n := by rw [← h4, ← hp]; simp
  have r4 : σ4.orow p = some (tc (.slice none 0 0) (.slice none 0 0) (.slice none 0 0) (.slice none 0 0) (.slice none 0 0)) := by rw [← h4, ← hp]; exact orow_upd_same
  rw [h4, hp]
  have hpn : σ.n + 1 < p := by omega
  have c4 : σ4.row σ.n = some cp := by rw [hE4.row (by omega) (by omega)]; exact r3
  have hE03 : Ext σ σ3 := hE2.trans e3
  -- loop 1
  have m1 := n4
  obtain ⟨la, lc, lb, lo, lcs, rfl, l1, l2⟩ := hl.use
  have hl64 := hl.2
  refine ev_count (min lots.length 5) (fun k fr σ' => fr.get 4 = some (.int .i64 k) ∧ fr.get 1 = some (.pointer (some ⟨σ.n, 0, none⟩)) ∧ fr.get 2 = some (.pointer (some ⟨σ.n + 1, 0, none⟩)) ∧ fr.get 3 = some (.pointer (some ⟨p, 0, none⟩)) ∧ ExtX p σ4 σ' ∧
      ∃ (v : Value) (l : List Lot), σ'.orow p = some (tc v (.slice none 0 0) (.slice none 0 0) (.slice none 0 0) (.slice none 0 0)) ∧ OL σ4.n σ' 2 v (l.map Lot.row) ∧ l.length = k ∧ ∀ x ∈ l, 0 ≤ x.id ∧ x.id < 10 ∧ In64 x.most)
    (fun r => ∃ fr σ' v, ∃ l : List Lot, r = ⟨.exit 0, fr, σ'⟩ ∧ fr.get 1 = some (.pointer (some ⟨σ.n, 0, none⟩)) ∧ fr.get 2 = some (.pointer (some ⟨σ.n + 1, 0, none⟩)) ∧ fr.get 3 = some (.pointer (some ⟨p, 0, none⟩)) ∧ ExtX p σ4 σ' ∧
      σ'.orow p = some (tc v (.slice none 0 0) (.slice none 0 0) (.slice none 0 0) (.slice none 0 0)) ∧ OL σ4.n σ' 2 v (l.map Lot.row) ∧ l.length ≤ 5 ∧ ∀ x ∈ l, 0 ≤ x.id ∧ x.id < 10 ∧ In64 x.most) ?_ ?_ ?_ ?_
  · exact ⟨by first | trivial | rfl | assumption | omega | (simp only [bunM]; omega) | (simp (disch := first | omega | ((try simp only [bunN]) <;> omega) | fail) only [bunR, ↓get_set, Nat.reduceEqDiff, reduceIte]; first | done | rfl | assumption | omega), by first | trivial | rfl | assumption | omega | (simp only [bunM]; omega) | (simp (disch := first | omega | ((try simp only [bunN]) <;> omega) | fail) only [bunR, ↓get_set, Nat.reduceEqDiff, reduceIte]; first | done | rfl | assumption | omega), by first | trivial | rfl | assumption | omega | (simp only [bunM]; omega) | (simp (disch := first | omega | ((try simp only [bunN]) <;> omega) | fail) only [bunR, ↓get_set, Nat.reduceEqDiff, reduceIte]; first | done | rfl | assumption | omega), by first | trivial | rfl | assumption | omega | (simp only [bunM]; omega) | (simp (disch := first | omega | ((try simp only [bunN]) <;> omega) | fail) only [bunR, ↓get_set, Nat.reduceEqDiff, reduceIte]; first | done | rfl | assumption | omega), .refl, (.slice none 0 0), [], r4, OL.nil, rfl, fun x hx => by cases hx⟩
  · rintro k fr σ' hk ⟨g4, g1, g2, g3, hE, v, l, ro, ho, hll, hlx⟩
    have hc1 : decide (k < lots.length) = true := by rw [decide_eq_true_iff]; omega
    have hc2 : decide ((k : Int) < 5) = true := by rw [decide_eq_true_iff]; omega
    have hn' := hE.n
    have ci : σ'.row σ.n = some cp := by rw [hE.row (by omega) (by omega)]; exact c4
    have rr := row_of ro
    have bv : blkOf v ≠ some p := fun hb => by have := (ho.blk hb).1; omega
    obtain ⟨x, hx⟩ := at_some (l := lots) (k := k) (by omega)
    obtain ⟨hxl, hx64⟩ := hl64 x (List.mem_of_getElem? hx)
    obtain ⟨x0, x1, rfl⟩ : ∃ a b, x = [a, b] := by
      match x, hxl with
      | [a, b], _ => exact ⟨a, b, rfl⟩
    obtain ⟨sp, rfl, l3, l4⟩ := l1 (by omega)
    have l5 : σ'.row lb = some lcs := by rw [hE.row (by omega) (by omega), hE4.row (by have := hE03.n; omega) (by omega), hE03.row l3]; exact l4
    obtain ⟨hx1, hx2⟩ := l2 k _ hx
    have e0 := hx2 0 x0 rfl
    have e1 := hx2 1 x1 rfl
    rw [Nat.add_zero] at e0
    simp (maxSteps := 1000000) (disch := first | omega | ((try simp only [bunN]) <;> omega) | fail) only [↓bunD, bunU, ↓bunFD, bunFU, Nat.reduceMul, Nat.reduceEqDiff, Nat.reduceAdd, Nat.reduceBEq, reduceIte, splice_succ, ap22, ap23, ap24, ap25, ap26, ap34, ap35, ap38, ap41, ap49, ap74, g1, g3, g4, hc1, hc2, yu_t, yu_f, ci, s0, rr, u1, l5, e0, e1, Nat.add_zero]
    refine (mod_ok (m := 4) (hx64 x0 (by simp)).1 (hx64 x0 (by simp)).2 (by omega) (by omega)).mono ?_
    rintro r rfl
    simp (maxSteps := 1000000) (disch := first | omega | ((try simp only [bunN]) <;> omega) | fail) only [↓bunD, bunU, ↓bunFD, bunFU, Nat.reduceMul, Nat.reduceEqDiff, Nat.reduceAdd, Nat.reduceBEq, reduceIte, splice_succ, ap22, ap23, ap24, ap25, ap26, ap34, ap35, ap38, ap41, ap49, ap74, g1, g3, g4, ci, s0, rr, u1, l5, e0, e1, Nat.add_zero]
    have hEN : ExtX p σ' (σ'.new [.int .i64 (x0 % 4), .int .i64 x1]) := ExtX.of (.new _ _)
    have roN := ro
    have hoN : OL σ4.n (σ'.new [.int .i64 (x0 % 4), .int .i64 x1]) 2 v (l.map Lot.row) := OL.ext ho (.new _ _)
    refine ev_append (row := Lot.row ⟨x0 % 4, x1⟩) (fun _ _ _ _ => ap33) hoN (row_new_same (Nat.le_refl _) (Nat.le_refl _)) (sub_full (by simp [Crit.row, Req.row, Lot.row]) (by simp)) (by rw [List.length_map]; omega) (by simp; omega) ?_
    rintro v' σ8 ho' hA -
    obtain ⟨va, rfl⟩ := OL.shape ho'
    have r8 : σ8.orow p = some (tc v (.slice none 0 0) (.slice none 0 0) (.slice none 0 0) (.slice none 0 0)) := by
      rw [orow_congr (hA.same p (by simp; omega) bv), orow_new_ne (by first | omega | (simp; omega))]; exact roN
    simp (maxSteps := 1000000) (disch := first | omega | ((try simp only [bunN]) <;> omega) | fail) only [↓bunD, bunU, ↓bunFD, bunFU, Nat.reduceMul, Nat.reduceEqDiff, Nat.reduceAdd, Nat.reduceBEq, reduceIte, splice_succ, ap22, ap23, ap24, ap25, ap26, ap34, ap35, ap38, ap41, ap49, ap74, g1, g2, g3, g4, r8, v1, asx (Ext.refl _), as_newb, as_upd]
    refine Must.intro (by (repeat first | simp only [as_read, asx (Ext.refl _), as_newb] | rw [as_ord (by kernel_rfl)]); rfl) ?_
    simp (maxSteps := 1000000) (disch := first | omega | ((try simp only [bunN]) <;> omega) | fail) only [↓bunD, bunU, ↓bunFD, bunFU, Nat.reduceMul, Nat.reduceEqDiff, Nat.reduceAdd, Nat.reduceBEq, reduceIte, splice_succ, ap22, ap23, ap24, ap25, ap26, ap34, ap35, ap38, ap41, ap49, ap74, g1, g2, g3, g4]
    refine ⟨by first | trivial | rfl | assumption | omega | (simp only [bunM]; omega) | (simp (disch := first | omega | ((try simp only [bunN]) <;> omega) | fail) only [bunR, ↓get_set, Nat.reduceEqDiff, reduceIte]; first | done | rfl | assumption | omega), by first | trivial | rfl | assumption | omega | (simp only [bunM]; omega) | (simp (disch := first | omega | ((try simp only [bunN]) <;> omega) | fail) only [bunR, ↓get_set, Nat.reduceEqDiff, reduceIte, g1]; first | done | rfl | assumption | omega), by first | trivial | rfl | assumption | omega | (simp only [bunM]; omega) | (simp (disch := first | omega | ((try simp only [bunN]) <;> omega) | fail) only [bunR, ↓get_set, Nat.reduceEqDiff, reduceIte, g2]; first | done | rfl | assumption | omega), by first | trivial | rfl | assumption | omega | (simp only [bunM]; omega) | (simp (disch := first | omega | ((try simp only [bunN]) <;> omega) | fail) only [bunR, ↓get_set, Nat.reduceEqDiff, reduceIte, g3]; first | done | rfl | assumption | omega), (ExtX.app hA (hE.trans hEN) hoN (Nat.le_refl _)).upd _, _, l ++ [⟨x0 % 4, x1⟩], rfl, ?_, by simp [hll], ?_⟩
    · rw [List.map_append]
      exact OL.keepX ho' (ExtX.refl.upd _) (by omega)
    · intro x hx
      rcases List.mem_append.1 hx with hx | hx
      · exact hlx x hx
      · rw [List.mem_singleton] at hx; subst hx
        exact ⟨Int.emod_nonneg _ (by omega), by have := Int.emod_lt_of_pos x0 (b := 4) (by omega); show x0 % 4 < 10; omega, hx64 x1 (by simp)⟩
  · rintro fr σ' ⟨g4, g1, g2, g3, hE, v, l, ro, ho, hll, hlx⟩
    have ci : σ'.row σ.n = some cp := by rw [hE.row (by have := hE.n; omega) (by omega)]; exact c4
    by_cases hk1 : lots.length ≤ 5
    · have e1 : min lots.length 5 = lots.length := by omega
      rw [e1] at g4 hll
      simp (maxSteps := 1000000) (disch := first | omega | ((try simp only [bunN]) <;> omega) | fail) only [↓bunD, bunU, ↓bunFD, bunFU, Nat.reduceMul, Nat.reduceEqDiff, Nat.reduceAdd, Nat.reduceBEq, reduceIte, splice_succ, ap22, ap23, ap24, ap25, ap26, ap34, ap35, ap38, ap41, ap49, ap74, g1, g3, g4, ci, s0, yu_t, yu_f]
      exact ⟨_, _, v, l, rfl, by first | trivial | rfl | assumption | omega | (simp only [bunM]; omega) | (simp (disch := first | omega | ((try simp only [bunN]) <;> omega) | fail) only [bunR, ↓get_set, Nat.reduceEqDiff, reduceIte, g1]; first | done | rfl | assumption | omega), by first | trivial | rfl | assumption | omega | (simp only [bunM]; omega) | (simp (disch := first | omega | ((try simp only [bunN]) <;> omega) | fail) only [bunR, ↓get_set, Nat.reduceEqDiff, reduceIte, g2]; first | done | rfl | assumption | omega), by first | trivial | rfl | assumption | omega | (simp only [bunM]; omega) | (simp (disch := first | omega | ((try simp only [bunN]) <;> omega) | fail) only [bunR, ↓get_set, Nat.reduceEqDiff, reduceIte, g3]; first | done | rfl | assumption | omega), hE, ro, ho, by omega, hlx⟩
    · have e1 : min lots.length 5 = 5 := by omega
      rw [e1] at g4 hll
      have hc1 : decide (5 < lots.length) = true := by rw [decide_eq_true_iff]; omega
      have hc2 : decide (((5 : Nat) : Int) < 5) = false := by decide
      simp (maxSteps := 1000000) (disch := first | omega | ((try simp only [bunN]) <;> omega) | fail) only [↓bunD, bunU, ↓bunFD, bunFU, Nat.reduceMul, Nat.reduceEqDiff, Nat.reduceAdd, Nat.reduceBEq, reduceIte, splice_succ, ap22, ap23, ap24, ap25, ap26, ap34, ap35, ap38, ap41, ap49, ap74, g1, g3, g4, ci, s0, hc1, hc2, yu_t, yu_f]
      exact ⟨_, _, v, l, rfl, by first | trivial | rfl | assumption | omega | (simp only [bunM]; omega) | (simp (disch := first | omega | ((try simp only [bunN]) <;> omega) | fail) only [bunR, ↓get_set, Nat.reduceEqDiff, reduceIte, g1]; first | done | rfl | assumption | omega), by first | trivial | rfl | assumption | omega | (simp only [bunM]; omega) | (simp (disch := first | omega | ((try simp only [bunN]) <;> omega) | fail) only [bunR, ↓get_set, Nat.reduceEqDiff, reduceIte, g2]; first | done | rfl | assumption | omega), by first | trivial | rfl | assumption | omega | (simp only [bunM]; omega) | (simp (disch := first | omega | ((try simp only [bunN]) <;> omega) | fail) only [bunR, ↓get_set, Nat.reduceEqDiff, reduceIte, g3]; first | done | rfl | assumption | omega), hE, ro, ho, by omega, hlx⟩
  rintro r ⟨fr, σ5, V1, L1, rfl, g1, g2, g3, hX5, r5, ho1, hl1, hx1⟩
  have n5 : p < σ5.n := Nat.lt_of_lt_of_le n4 hX5.n
  have c5 : σ5.row σ.n = some cp := by rw [hX5.row (by omega) (by omega)]; exact c4
  have hEb5 : ExtX p σ3 σ5 := hE4.trans hX5
  simp (maxSteps := 1000000) (disch := first | omega | ((try simp only [bunN]) <;> omega) | fail) only [↓bunD, bunU, ↓bunFD, bunFU, Nat.reduceMul, Nat.reduceEqDiff, Nat.reduceAdd, Nat.reduceBEq, reduceIte, splice_succ, bunAP]
  -- loop 2
  have m2 := n5
  obtain ⟨la, lc, lb, lo, lcs, rfl, l1, l2⟩ := hc.use
  have hc64 := hc.2
  refine ev_count (min crits.length 5) (fun k fr σ' => fr.get 5 = some (.int .i64 k) ∧ fr.get 1 = some (.pointer (some ⟨σ.n, 0, none⟩)) ∧ fr.get 2 = some (.pointer (some ⟨σ.n + 1, 0, none⟩)) ∧ fr.get 3 = some (.pointer (some ⟨p, 0, none⟩)) ∧ ExtX p σ5 σ' ∧
      ∃ (v : Value) (l : List Crit), σ'.orow p = some (tc V1 v (.slice none 0 0) (.slice none 0 0) (.slice none 0 0)) ∧ OL σ5.n σ' 5 v (l.map Crit.row) ∧ l.length = k ∧ ∀ x ∈ l, x.name ∈ names ∧ In64 x.kind ∧ In64 x.low ∧ In64 x.high)
    (fun r => ∃ fr σ' v, ∃ l : List Crit, r = ⟨.exit 2, fr, σ'⟩ ∧ fr.get 1 = some (.pointer (some ⟨σ.n, 0, none⟩)) ∧ fr.get 2 = some (.pointer (some ⟨σ.n + 1, 0, none⟩)) ∧ fr.get 3 = some (.pointer (some ⟨p, 0, none⟩)) ∧ ExtX p σ5 σ' ∧
      σ'.orow p = some (tc V1 v (.slice none 0 0) (.slice none 0 0) (.slice none 0 0)) ∧ OL σ5.n σ' 5 v (l.map Crit.row) ∧ l.length ≤ 5 ∧ ∀ x ∈ l, x.name ∈ names ∧ In64 x.kind ∧ In64 x.low ∧ In64 x.high) ?_ ?_ ?_ ?_
  · exact ⟨by first | trivial | rfl | assumption | omega | (simp only [bunM]; omega) | (simp (disch := first | omega | ((try simp only [bunN]) <;> omega) | fail) only [bunR, ↓get_set, Nat.reduceEqDiff, reduceIte]; first | done | rfl | assumption | omega), by first | trivial | rfl | assumption | omega | (simp only [bunM]; omega) | (simp (disch := first | omega | ((try simp only [bunN]) <;> omega) | fail) only [bunR, ↓get_set, Nat.reduceEqDiff, reduceIte, g1]; first | done | rfl | assumption | omega), by first | trivial | rfl | assumption | omega | (simp only [bunM]; omega) | (simp (disch := first | omega | ((try simp only [bunN]) <;> omega) | fail) only [bunR, ↓get_set, Nat.reduceEqDiff, reduceIte, g2]; first | done | rfl | assumption | omega), by first | trivial | rfl | assumption | omega | (simp only [bunM]; omega) | (simp (disch := first | omega | ((try simp only [bunN]) <;> omega) | fail) only [bunR, ↓get_set, Nat.reduceEqDiff, reduceIte, g3]; first | done | rfl | assumption | omega), .refl, (.slice none 0 0), [], r5, OL.nil, rfl, fun x hx => by cases hx⟩
  · rintro k fr σ' hk ⟨g5, g1, g2, g3, hE, v, l, ro, ho, hll, hlx⟩
    have hc1 : decide (k < crits.length) = true := by rw [decide_eq_true_iff]; omega
    have hc2 : decide ((k : Int) < 5) = true := by rw [decide_eq_true_iff]; omega
    have hn' := hE.n
    have ci : σ'.row σ.n = some cp := by rw [hE.row (by omega) (by omega)]; exact c5
    have rr := row_of ro
    have bv : blkOf v ≠ some p := fun hb => by have := (ho.blk hb).1; omega
    obtain ⟨x, hx⟩ := at_some (l := crits) (k := k) (by omega)
    obtain ⟨hxl, hx64⟩ := hc64 x (List.mem_of_getElem? hx)
    obtain ⟨x0, x1, x2, x3, rfl⟩ : ∃ a b c d, x = [a, b, c, d] := by
      match x, hxl with
      | [a, b, c, d], _ => exact ⟨a, b, c, d, rfl⟩
    obtain ⟨sp, rfl, l3, l4⟩ := l1 (by omega)
    have l5 : σ'.row lb = some lcs := by rw [hE.row (by have := hE03.n; omega) (by omega), hEb5.row (by have := hE03.n; omega) (by omega), hE03.row l3]; exact l4
    have e0 : sub lcs (lo + k * 4) 4 = some [.int .i64 x0, .int .i64 x1, .int .i64 x2, .int .i64 x3] := (l2 k _ hx).1
    simp (maxSteps := 1000000) (disch := first | omega | ((try simp only [bunN]) <;> omega) | fail) only [↓bunD, bunU, ↓bunFD, bunFU, Nat.reduceMul, Nat.reduceEqDiff, Nat.reduceAdd, Nat.reduceBEq, reduceIte, splice_succ, ap22, ap23, ap24, ap25, ap26, ap33, ap35, ap38, ap41, ap49, ap74, g1, g3, g5, hc1, hc2, yu_t, yu_f, ci, s1, rr, u2, l5, e0, Nat.add_zero]
    refine (name_ok (hx64 x0 (by simp))).mono ?_
    rintro r ⟨σ6, rfl, e6⟩
    have n6 := e6.n
    simp only [new_n, upd_n] at n6
    have q6 : σ6.row σ'.n = some [.int .i64 x0, .int .i64 x1, .int .i64 x2, .int .i64 x3] := by rw [e6.row (by first | trivial | rfl | assumption | omega | (simp only [bunM]; omega) | (simp (disch := first | omega | ((try simp only [bunN]) <;> omega) | fail) only [bunR]; first | done | rfl | assumption | omega))]; first | trivial | rfl | assumption | omega | (simp only [bunM]; omega) | (simp (disch := first | omega | ((try simp only [bunN]) <;> omega) | fail) only [bunR]; first | done | rfl | assumption | omega)
    simp (maxSteps := 1000000) (disch := first | omega | ((try simp only [bunN]) <;> omega) | fail) only [↓bunD, bunU, ↓bunFD, bunFU, Nat.reduceMul, Nat.reduceEqDiff, Nat.reduceAdd, Nat.reduceBEq, reduceIte, splice_succ, ap22, ap23, ap24, ap25, ap26, ap33, ap35, ap38, ap41, ap49, ap74, g1, g3, g5, ci, s1, rr, u2, q6, Nat.add_zero]
    refine (mod_ok (m := 3) (hx64 x1 (by simp)).1 (hx64 x1 (by simp)).2 (by omega) (by omega)).mono ?_
    rintro r rfl
    simp (maxSteps := 1000000) (disch := first | omega | ((try simp only [bunN]) <;> omega) | fail) only [↓bunD, bunU, ↓bunFD, bunFU, Nat.reduceMul, Nat.reduceEqDiff, Nat.reduceAdd, Nat.reduceBEq, reduceIte, splice_succ, ap22, ap23, ap24, ap25, ap26, ap33, ap35, ap38, ap41, ap49, ap74, g1, g3, g5, ci, s1, rr, u2, q6, Nat.add_zero]
    have hx6 : Ext σ' σ6 := Ext.trans (by (repeat' (first | assumption | exact Ext.refl _ | refine Ext.new' ?_ _ | refine Ext.upd ?_ (by (try simp only [bunM]) <;> omega) _ | refine Ext.dead ?_ (by (try simp only [bunM]) <;> omega)))) e6
    have hEN : ExtX p σ' (σ6.new [str (nameOf x0), .int .i64 (x1 % 3), .int .i64 x2, .int .i64 x3, .bool (!decide (x3.tmod 2 = 0))]) := ExtX.of (hx6.new' _)
    have roN : σ6.orow p = some (tc V1 v (.slice none 0 0) (.slice none 0 0) (.slice none 0 0)) := by rw [hx6.orow (by omega)]; exact ro
    have hoN : OL σ5.n (σ6.new [str (nameOf x0), .int .i64 (x1 % 3), .int .i64 x2, .int .i64 x3, .bool (!decide (x3.tmod 2 = 0))]) 5 v (l.map Crit.row) := OL.ext ho (hx6.new' _)
    refine ev_append (row := Crit.row ⟨nameOf x0, x1 % 3, x2, x3, !decide (x3.tmod 2 = 0)⟩) (fun _ _ _ _ => ap34) hoN (row_new_same (Nat.le_refl _) (Nat.le_refl _)) (sub_full (by simp [Crit.row, Req.row, Lot.row]) (by simp)) (by rw [List.length_map]; omega) (by simp; omega) ?_
    rintro v' σ8 ho' hA -
    obtain ⟨va, rfl⟩ := OL.shape ho'
    have r8 : σ8.orow p = some (tc V1 v (.slice none 0 0) (.slice none 0 0) (.slice none 0 0)) := by
      rw [orow_congr (hA.same p (by simp; omega) bv), orow_new_ne (by first | omega | (simp; omega))]; exact roN
    simp (maxSteps := 1000000) (disch := first | omega | ((try simp only [bunN]) <;> omega) | fail) only [↓bunD, bunU, ↓bunFD, bunFU, Nat.reduceMul, Nat.reduceEqDiff, Nat.reduceAdd, Nat.reduceBEq, reduceIte, splice_succ, ap22, ap23, ap24, ap25, ap26, ap33, ap35, ap38, ap41, ap49, ap74, g1, g2, g3, g5, r8, v2, asx (Ext.refl _), as_newb, as_upd, asx e6]
    refine Must.intro (by (repeat first | simp only [as_read, asx (Ext.refl _), as_newb, asx e6] | rw [as_ord (by kernel_rfl)]); rfl) ?_
    simp (maxSteps := 1000000) (disch := first | omega | ((try simp only [bunN]) <;> omega) | fail) only [↓bunD, bunU, ↓bunFD, bunFU, Nat.reduceMul, Nat.reduceEqDiff, Nat.reduceAdd, Nat.reduceBEq, reduceIte, splice_succ, ap22, ap23, ap24, ap25, ap26, ap33, ap35, ap38, ap41, ap49, ap74, g1, g2, g3, g5]
    refine ⟨by first | trivial | rfl | assumption | omega | (simp only [bunM]; omega) | (simp (disch := first | omega | ((try simp only [bunN]) <;> omega) | fail) only [bunR, ↓get_set, Nat.reduceEqDiff, reduceIte]; first | done | rfl | assumption | omega), by first | trivial | rfl | assumption | omega | (simp only [bunM]; omega) | (simp (disch := first | omega | ((try simp only [bunN]) <;> omega) | fail) only [bunR, ↓get_set, Nat.reduceEqDiff, reduceIte, g1]; first | done | rfl | assumption | omega), by first | trivial | rfl | assumption | omega | (simp only [bunM]; omega) | (simp (disch := first | omega | ((try simp only [bunN]) <;> omega) | fail) only [bunR, ↓get_set, Nat.reduceEqDiff, reduceIte, g2]; first | done | rfl | assumption | omega), by first | trivial | rfl | assumption | omega | (simp only [bunM]; omega) | (simp (disch := first | omega | ((try simp only [bunN]) <;> omega) | fail) only [bunR, ↓get_set, Nat.reduceEqDiff, reduceIte, g3]; first | done | rfl | assumption | omega), (ExtX.app hA (hE.trans hEN) hoN (Nat.le_refl _)).upd _, _, l ++ [⟨nameOf x0, x1 % 3, x2, x3, !decide (x3.tmod 2 = 0)⟩], rfl, ?_, by simp [hll], ?_⟩
    · rw [List.map_append]
      exact OL.keepX ho' (ExtX.refl.upd _) (by omega)
    · intro x hx
      rcases List.mem_append.1 hx with hx | hx
      · exact hlx x hx
      · rw [List.mem_singleton] at hx; subst hx
        exact ⟨nameOf_names _, ⟨by have := Int.emod_nonneg x1 (b := 3) (by omega); show _ ≤ x1 % 3; omega, by have := Int.emod_lt_of_pos x1 (b := 3) (by omega); show x1 % 3 ≤ _; omega⟩, hx64 x2 (by simp), hx64 x3 (by simp)⟩
  · rintro fr σ' ⟨g5, g1, g2, g3, hE, v, l, ro, ho, hll, hlx⟩
    have ci : σ'.row σ.n = some cp := by rw [hE.row (by have := hE.n; omega) (by omega)]; exact c5
    by_cases hk1 : crits.length ≤ 5
    · have e1 : min crits.length 5 = crits.length := by omega
      rw [e1] at g5 hll
      simp (maxSteps := 1000000) (disch := first | omega | ((try simp only [bunN]) <;> omega) | fail) only [↓bunD, bunU, ↓bunFD, bunFU, Nat.reduceMul, Nat.reduceEqDiff, Nat.reduceAdd, Nat.reduceBEq, reduceIte, splice_succ, ap22, ap23, ap24, ap25, ap26, ap33, ap35, ap38, ap41, ap49, ap74, g1, g3, g5, ci, s1, yu_t, yu_f]
      exact ⟨_, _, v, l, rfl, by first | trivial | rfl | assumption | omega | (simp only [bunM]; omega) | (simp (disch := first | omega | ((try simp only [bunN]) <;> omega) | fail) only [bunR, ↓get_set, Nat.reduceEqDiff, reduceIte, g1]; first | done | rfl | assumption | omega), by first | trivial | rfl | assumption | omega | (simp only [bunM]; omega) | (simp (disch := first | omega | ((try simp only [bunN]) <;> omega) | fail) only [bunR, ↓get_set, Nat.reduceEqDiff, reduceIte, g2]; first | done | rfl | assumption | omega), by first | trivial | rfl | assumption | omega | (simp only [bunM]; omega) | (simp (disch := first | omega | ((try simp only [bunN]) <;> omega) | fail) only [bunR, ↓get_set, Nat.reduceEqDiff, reduceIte, g3]; first | done | rfl | assumption | omega), hE, ro, ho, by omega, hlx⟩
    · have e1 : min crits.length 5 = 5 := by omega
      rw [e1] at g5 hll
      have hc1 : decide (5 < crits.length) = true := by rw [decide_eq_true_iff]; omega
      have hc2 : decide (((5 : Nat) : Int) < 5) = false := by decide
      simp (maxSteps := 1000000) (disch := first | omega | ((try simp only [bunN]) <;> omega) | fail) only [↓bunD, bunU, ↓bunFD, bunFU, Nat.reduceMul, Nat.reduceEqDiff, Nat.reduceAdd, Nat.reduceBEq, reduceIte, splice_succ, ap22, ap23, ap24, ap25, ap26, ap33, ap35, ap38, ap41, ap49, ap74, g1, g3, g5, ci, s1, hc1, hc2, yu_t, yu_f]
      exact ⟨_, _, v, l, rfl, by first | trivial | rfl | assumption | omega | (simp only [bunM]; omega) | (simp (disch := first | omega | ((try simp only [bunN]) <;> omega) | fail) only [bunR, ↓get_set, Nat.reduceEqDiff, reduceIte, g1]; first | done | rfl | assumption | omega), by first | trivial | rfl | assumption | omega | (simp only [bunM]; omega) | (simp (disch := first | omega | ((try simp only [bunN]) <;> omega) | fail) only [bunR, ↓get_set, Nat.reduceEqDiff, reduceIte, g2]; first | done | rfl | assumption | omega), by first | trivial | rfl | assumption | omega | (simp only [bunM]; omega) | (simp (disch := first | omega | ((try simp only [bunN]) <;> omega) | fail) only [bunR, ↓get_set, Nat.reduceEqDiff, reduceIte, g3]; first | done | rfl | assumption | omega), hE, ro, ho, by omega, hlx⟩
  rintro r ⟨fr, σ7, V2, L2, rfl, g1, g2, g3, hX7, r7, ho2, hl2, hx2⟩
  have n7 : p < σ7.n := Nat.lt_of_lt_of_le n5 hX7.n
  have c7 : σ7.row σ.n = some cp := by rw [hX7.row (by omega) (by omega)]; exact c5
  have hEb7 : ExtX p σ3 σ7 := hEb5.trans hX7
  simp (maxSteps := 1000000) (disch := first | omega | ((try simp only [bunN]) <;> omega) | fail) only [↓bunD, bunU, ↓bunFD, bunFU, Nat.reduceMul, Nat.reduceEqDiff, Nat.reduceAdd, Nat.reduceBEq, reduceIte, splice_succ, bunAP]
  -- loop 3
  have m3 := n7
  obtain ⟨la, lc, lb, lo, lcs, rfl, l1, l2⟩ := hr.use
  have hr64 := hr.2
  refine ev_count (min reqs.length 4) (fun k fr σ' => fr.get 7 = some (.int .i64 k) ∧ fr.get 1 = some (.pointer (some ⟨σ.n, 0, none⟩)) ∧ fr.get 2 = some (.pointer (some ⟨σ.n + 1, 0, none⟩)) ∧ fr.get 3 = some (.pointer (some ⟨p, 0, none⟩)) ∧ ExtX p σ7 σ' ∧
      ∃ (v : Value) (l : List Req), σ'.orow p = some (tc V1 V2 v (.slice none 0 0) (.slice none 0 0)) ∧ OL σ7.n σ' 3 v (l.map Req.row) ∧ l.length = k ∧ ∀ x ∈ l, x.name ∈ names ∧ x.rel.length ≤ 2 ∧ In64 x.value)
    (fun r => ∃ fr σ' v, ∃ l : List Req, r = ⟨.exit 4, fr, σ'⟩ ∧ fr.get 1 = some (.pointer (some ⟨σ.n, 0, none⟩)) ∧ fr.get 2 = some (.pointer (some ⟨σ.n + 1, 0, none⟩)) ∧ fr.get 3 = some (.pointer (some ⟨p, 0, none⟩)) ∧ ExtX p σ7 σ' ∧
      σ'.orow p = some (tc V1 V2 v (.slice none 0 0) (.slice none 0 0)) ∧ OL σ7.n σ' 3 v (l.map Req.row) ∧ l.length ≤ 4 ∧ ∀ x ∈ l, x.name ∈ names ∧ x.rel.length ≤ 2 ∧ In64 x.value) ?_ ?_ ?_ ?_
  · exact ⟨by first | trivial | rfl | assumption | omega | (simp only [bunM]; omega) | (simp (disch := first | omega | ((try simp only [bunN]) <;> omega) | fail) only [bunR, ↓get_set, Nat.reduceEqDiff, reduceIte]; first | done | rfl | assumption | omega), by first | trivial | rfl | assumption | omega | (simp only [bunM]; omega) | (simp (disch := first | omega | ((try simp only [bunN]) <;> omega) | fail) only [bunR, ↓get_set, Nat.reduceEqDiff, reduceIte, g1]; first | done | rfl | assumption | omega), by first | trivial | rfl | assumption | omega | (simp only [bunM]; omega) | (simp (disch := first | omega | ((try simp only [bunN]) <;> omega) | fail) only [bunR, ↓get_set, Nat.reduceEqDiff, reduceIte, g2]; first | done | rfl | assumption | omega), by first | trivial | rfl | assumption | omega | (simp only [bunM]; omega) | (simp (disch := first | omega | ((try simp only [bunN]) <;> omega) | fail) only [bunR, ↓get_set, Nat.reduceEqDiff, reduceIte, g3]; first | done | rfl | assumption | omega), .refl, (.slice none 0 0), [], r7, OL.nil, rfl, fun x hx => by cases hx⟩
  · rintro k fr σ' hk ⟨g7, g1, g2, g3, hE, v, l, ro, ho, hll, hlx⟩
    have hc1 : decide (k < reqs.length) = true := by rw [decide_eq_true_iff]; omega
    have hc2 : decide ((k : Int) < 4) = true := by rw [decide_eq_true_iff]; omega
    have hn' := hE.n
    have ci : σ'.row σ.n = some cp := by rw [hE.row (by omega) (by omega)]; exact c7
    have rr := row_of ro
    have bv : blkOf v ≠ some p := fun hb => by have := (ho.blk hb).1; omega
    obtain ⟨x, hx⟩ := at_some (l := reqs) (k := k) (by omega)
    obtain ⟨hxl, hx64⟩ := hr64 x (List.mem_of_getElem? hx)
    obtain ⟨x0, x1, x2, rfl⟩ : ∃ a b c, x = [a, b, c] := by
      match x, hxl with
      | [a, b, c], _ => exact ⟨a, b, c, rfl⟩
    obtain ⟨sp, rfl, l3, l4⟩ := l1 (by omega)
    have l5 : σ'.row lb = some lcs := by rw [hE.row (by have := hE03.n; omega) (by omega), hEb7.row (by have := hE03.n; omega) (by omega), hE03.row l3]; exact l4
    have e0 : sub lcs (lo + k * 3) 3 = some [.int .i64 x0, .int .i64 x1, .int .i64 x2] := (l2 k _ hx).1
    simp (maxSteps := 1000000) (disch := first | omega | ((try simp only [bunN]) <;> omega) | fail) only [↓bunD, bunU, ↓bunFD, bunFU, Nat.reduceMul, Nat.reduceEqDiff, Nat.reduceAdd, Nat.reduceBEq, reduceIte, splice_succ, ap22, ap23, ap24, ap25, ap26, ap33, ap34, ap38, ap41, ap49, ap74, g1, g3, g7, hc1, hc2, yu_t, yu_f, ci, s2, rr, u3, l5, e0, Nat.add_zero]
    refine (name_ok (hx64 x0 (by simp))).mono ?_
    rintro r ⟨σ6, rfl, e6⟩
    have n6 := e6.n
    simp only [new_n, upd_n] at n6
    have q6 : σ6.row σ'.n = some [.int .i64 x0, .int .i64 x1, .int .i64 x2] := by rw [e6.row (by first | trivial | rfl | assumption | omega | (simp only [bunM]; omega) | (simp (disch := first | omega | ((try simp only [bunN]) <;> omega) | fail) only [bunR]; first | done | rfl | assumption | omega))]; first | trivial | rfl | assumption | omega | (simp only [bunM]; omega) | (simp (disch := first | omega | ((try simp only [bunN]) <;> omega) | fail) only [bunR]; first | done | rfl | assumption | omega)
    simp (maxSteps := 1000000) (disch := first | omega | ((try simp only [bunN]) <;> omega) | fail) only [↓bunD, bunU, ↓bunFD, bunFU, Nat.reduceMul, Nat.reduceEqDiff, Nat.reduceAdd, Nat.reduceBEq, reduceIte, splice_succ, ap22, ap23, ap24, ap25, ap26, ap33, ap34, ap38, ap41, ap49, ap74, g1, g3, g7, ci, s2, rr, u3, q6, Nat.add_zero]
    refine (mod_ok (m := 2) (hx64 x1 (by simp)).1 (hx64 x1 (by simp)).2 (by omega) (by omega)).mono ?_
    rintro r rfl
    obtain ⟨j, hj, hj2⟩ : ∃ j : Nat, x1 % 2 = (j : Int) ∧ j < 2 := ⟨(x1 % 2).toNat, by omega, by omega⟩
    obtain ⟨rl, hrl, hrl2⟩ : ∃ rl : By, sub [str [60, 61], str [62, 61]] j 1 = some [str rl] ∧ rl.length ≤ 2 := by
      rcases (by omega : j = 0 ∨ j = 1) with rfl | rfl <;> exact ⟨_, rfl, by decide⟩
    rw [hj]
    simp (maxSteps := 1000000) (disch := first | omega | ((try simp only [bunN]) <;> omega) | fail) only [↓bunD, bunU, ↓bunFD, bunFU, Nat.reduceMul, Nat.reduceEqDiff, Nat.reduceAdd, Nat.reduceBEq, reduceIte, splice_succ, ap22, ap23, ap24, ap25, ap26, ap33, ap34, ap38, ap41, ap49, ap74, g1, g3, g7, ci, s2, rr, u3, q6, Nat.add_zero, hrl]
    have hx6 : Ext σ' (σ6.new [str [60, 61], str [62, 61]]) := Ext.trans (by (repeat' (first | assumption | exact Ext.refl _ | refine Ext.new' ?_ _ | refine Ext.upd ?_ (by (try simp only [bunM]) <;> omega) _ | refine Ext.dead ?_ (by (try simp only [bunM]) <;> omega)))) (e6.trans (.new _ _))
    have hEN : ExtX p σ' ((σ6.new [str [60, 61], str [62, 61]]).new [str (nameOf x0), str rl, .int .i64 x2]) := ExtX.of (hx6.new' _)
    have roN : (σ6.new [str [60, 61], str [62, 61]]).orow p = some (tc V1 V2 v (.slice none 0 0) (.slice none 0 0)) := by rw [hx6.orow (by omega)]; exact ro
    have hoN : OL σ7.n ((σ6.new [str [60, 61], str [62, 61]]).new [str (nameOf x0), str rl, .int .i64 x2]) 3 v (l.map Req.row) := OL.ext ho (hx6.new' _)
    refine ev_append (row := Req.row ⟨nameOf x0, rl, x2⟩) (fun _ _ _ _ => ap35) hoN (row_new_same (Nat.le_refl _) (Nat.le_refl _)) (sub_full (by simp [Crit.row, Req.row, Lot.row]) (by simp)) (by rw [List.length_map]; omega) (by simp; omega) ?_
    rintro v' σ8 ho' hA -
    obtain ⟨va, rfl⟩ := OL.shape ho'
    have r8 : σ8.orow p = some (tc V1 V2 v (.slice none 0 0) (.slice none 0 0)) := by
      rw [orow_congr (hA.same p (by simp; omega) bv), orow_new_ne (by first | omega | (simp; omega))]; exact roN
    simp (maxSteps := 1000000) (disch := first | omega | ((try simp only [bunN]) <;> omega) | fail) only [↓bunD, bunU, ↓bunFD, bunFU, Nat.reduceMul, Nat.reduceEqDiff, Nat.reduceAdd, Nat.reduceBEq, reduceIte, splice_succ, ap22, ap23, ap24, ap25, ap26, ap33, ap34, ap38, ap41, ap49, ap74, g1, g2, g3, g7, r8, v3, asx (Ext.refl _), as_newb, as_upd, asx e6]
    refine Must.intro (by (repeat first | simp only [as_read, asx (Ext.refl _), as_newb, asx e6] | rw [as_ord (by kernel_rfl)]); rfl) ?_
    simp (maxSteps := 1000000) (disch := first | omega | ((try simp only [bunN]) <;> omega) | fail) only [↓bunD, bunU, ↓bunFD, bunFU, Nat.reduceMul, Nat.reduceEqDiff, Nat.reduceAdd, Nat.reduceBEq, reduceIte, splice_succ, ap22, ap23, ap24, ap25, ap26, ap33, ap34, ap38, ap41, ap49, ap74, g1, g2, g3, g7]
    refine ⟨by first | trivial | rfl | assumption | omega | (simp only [bunM]; omega) | (simp (disch := first | omega | ((try simp only [bunN]) <;> omega) | fail) only [bunR, ↓get_set, Nat.reduceEqDiff, reduceIte]; first | done | rfl | assumption | omega), by first | trivial | rfl | assumption | omega | (simp only [bunM]; omega) | (simp (disch := first | omega | ((try simp only [bunN]) <;> omega) | fail) only [bunR, ↓get_set, Nat.reduceEqDiff, reduceIte, g1]; first | done | rfl | assumption | omega), by first | trivial | rfl | assumption | omega | (simp only [bunM]; omega) | (simp (disch := first | omega | ((try simp only [bunN]) <;> omega) | fail) only [bunR, ↓get_set, Nat.reduceEqDiff, reduceIte, g2]; first | done | rfl | assumption | omega), by first | trivial | rfl | assumption | omega | (simp only [bunM]; omega) | (simp (disch := first | omega | ((try simp only [bunN]) <;> omega) | fail) only [bunR, ↓get_set, Nat.reduceEqDiff, reduceIte, g3]; first | done | rfl | assumption | omega), (ExtX.app hA (hE.trans hEN) hoN (Nat.le_refl _)).upd _, _, l ++ [⟨nameOf x0, rl, x2⟩], rfl, ?_, by simp [hll], ?_⟩
    · rw [List.map_append]
      exact OL.keepX ho' (ExtX.refl.upd _) (by omega)
    · intro x hx
      rcases List.mem_append.1 hx with hx | hx
      · exact hlx x hx
      · rw [List.mem_singleton] at hx; subst hx
        exact ⟨nameOf_names _, hrl2, hx64 x2 (by simp)⟩
  · rintro fr σ' ⟨g7, g1, g2, g3, hE, v, l, ro, ho, hll, hlx⟩
    have ci : σ'.row σ.n = some cp := by rw [hE.row (by have := hE.n; omega) (by omega)]; exact c7
    by_cases hk1 : reqs.length ≤ 4
    · have e1 : min reqs.length 4 = reqs.length := by omega
      rw [e1] at g7 hll
      simp (maxSteps := 1000000) (disch := first | omega | ((try simp only [bunN]) <;> omega) | fail) only [↓bunD, bunU, ↓bunFD, bunFU, Nat.reduceMul, Nat.reduceEqDiff, Nat.reduceAdd, Nat.reduceBEq, reduceIte, splice_succ, ap22, ap23, ap24, ap25, ap26, ap33, ap34, ap38, ap41, ap49, ap74, g1, g3, g7, ci, s2, yu_t, yu_f]
      exact ⟨_, _, v, l, rfl, by first | trivial | rfl | assumption | omega | (simp only [bunM]; omega) | (simp (disch := first | omega | ((try simp only [bunN]) <;> omega) | fail) only [bunR, ↓get_set, Nat.reduceEqDiff, reduceIte, g1]; first | done | rfl | assumption | omega), by first | trivial | rfl | assumption | omega | (simp only [bunM]; omega) | (simp (disch := first | omega | ((try simp only [bunN]) <;> omega) | fail) only [bunR, ↓get_set, Nat.reduceEqDiff, reduceIte, g2]; first | done | rfl | assumption | omega), by first | trivial | rfl | assumption | omega | (simp only [bunM]; omega) | (simp (disch := first | omega | ((try simp only [bunN]) <;> omega) | fail) only [bunR, ↓get_set, Nat.reduceEqDiff, reduceIte, g3]; first | done | rfl | assumption | omega), hE, ro, ho, by omega, hlx⟩
    · have e1 : min reqs.length 4 = 4 := by omega
      rw [e1] at g7 hll
      have hc1 : decide (4 < reqs.length) = true := by rw [decide_eq_true_iff]; omega
      have hc2 : decide (((4 : Nat) : Int) < 4) = false := by decide
      simp (maxSteps := 1000000) (disch := first | omega | ((try simp only [bunN]) <;> omega) | fail) only [↓bunD, bunU, ↓bunFD, bunFU, Nat.reduceMul, Nat.reduceEqDiff, Nat.reduceAdd, Nat.reduceBEq, reduceIte, splice_succ, ap22, ap23, ap24, ap25, ap26, ap33, ap34, ap38, ap41, ap49, ap74, g1, g3, g7, ci, s2, hc1, hc2, yu_t, yu_f]
      exact ⟨_, _, v, l, rfl, by first | trivial | rfl | assumption | omega | (simp only [bunM]; omega) | (simp (disch := first | omega | ((try simp only [bunN]) <;> omega) | fail) only [bunR, ↓get_set, Nat.reduceEqDiff, reduceIte, g1]; first | done | rfl | assumption | omega), by first | trivial | rfl | assumption | omega | (simp only [bunM]; omega) | (simp (disch := first | omega | ((try simp only [bunN]) <;> omega) | fail) only [bunR, ↓get_set, Nat.reduceEqDiff, reduceIte, g2]; first | done | rfl | assumption | omega), by first | trivial | rfl | assumption | omega | (simp only [bunM]; omega) | (simp (disch := first | omega | ((try simp only [bunN]) <;> omega) | fail) only [bunR, ↓get_set, Nat.reduceEqDiff, reduceIte, g3]; first | done | rfl | assumption | omega), hE, ro, ho, by omega, hlx⟩
  rintro r ⟨fr, σ9, V3, L3, rfl, g1, g2, g3, hX9, r9, ho3, hl3, hx3⟩
  have n9 : p < σ9.n := Nat.lt_of_lt_of_le n7 hX9.n
  have c9 : σ9.row σ.n = some cp := by rw [hX9.row (by omega) (by omega)]; exact c7
  have hEb9 : ExtX p σ3 σ9 := hEb7.trans hX9
  simp (maxSteps := 1000000) (disch := first | omega | ((try simp only [bunN]) <;> omega) | fail) only [↓bunD, bunU, ↓bunFD, bunFU, Nat.reduceMul, Nat.reduceEqDiff, Nat.reduceAdd, Nat.reduceBEq, reduceIte, splice_succ, bunAP]
  -- loop 4
  have m4 := n9
  obtain ⟨la, lc, lb, lo, lcs, rfl, l1, l2⟩ := ht.1.use
  have ht64 := ht.2
  refine ev_count (min ties.length 4) (fun k fr σ' => fr.get 9 = some (.int .i64 k) ∧ fr.get 1 = some (.pointer (some ⟨σ.n, 0, none⟩)) ∧ fr.get 2 = some (.pointer (some ⟨σ.n + 1, 0, none⟩)) ∧ fr.get 3 = some (.pointer (some ⟨p, 0, none⟩)) ∧ ExtX p σ9 σ' ∧
      ∃ (v : Value) (l : List By), σ'.orow p = some (tc V1 V2 V3 v (.slice none 0 0)) ∧ OL σ9.n σ' 1 v (l.map tieRow) ∧ l.length = k ∧ ∀ x ∈ l, x ∈ names)
    (fun r => ∃ fr σ' v, ∃ l : List By, r = ⟨.exit 6, fr, σ'⟩ ∧ fr.get 1 = some (.pointer (some ⟨σ.n, 0, none⟩)) ∧ fr.get 2 = some (.pointer (some ⟨σ.n + 1, 0, none⟩)) ∧ fr.get 3 = some (.pointer (some ⟨p, 0, none⟩)) ∧ ExtX p σ9 σ' ∧
      σ'.orow p = some (tc V1 V2 V3 v (.slice none 0 0)) ∧ OL σ9.n σ' 1 v (l.map tieRow) ∧ l.length ≤ 4 ∧ ∀ x ∈ l, x ∈ names) ?_ ?_ ?_ ?_
  · exact ⟨by first | trivial | rfl | assumption | omega | (simp only [bunM]; omega) | (simp (disch := first | omega | ((try simp only [bunN]) <;> omega) | fail) only [bunR, ↓get_set, Nat.reduceEqDiff, reduceIte]; first | done | rfl | assumption | omega), by first | trivial | rfl | assumption | omega | (simp only [bunM]; omega) | (simp (disch := first | omega | ((try simp only [bunN]) <;> omega) | fail) only [bunR, ↓get_set, Nat.reduceEqDiff, reduceIte, g1]; first | done | rfl | assumption | omega), by first | trivial | rfl | assumption | omega | (simp only [bunM]; omega) | (simp (disch := first | omega | ((try simp only [bunN]) <;> omega) | fail) only [bunR, ↓get_set, Nat.reduceEqDiff, reduceIte, g2]; first | done | rfl | assumption | omega), by first | trivial | rfl | assumption | omega | (simp only [bunM]; omega) | (simp (disch := first | omega | ((try simp only [bunN]) <;> omega) | fail) only [bunR, ↓get_set, Nat.reduceEqDiff, reduceIte, g3]; first | done | rfl | assumption | omega), .refl, (.slice none 0 0), [], r9, OL.nil, rfl, fun x hx => by cases hx⟩
  · rintro k fr σ' hk ⟨g9, g1, g2, g3, hE, v, l, ro, ho, hll, hlx⟩
    have hc1 : decide (k < ties.length) = true := by rw [decide_eq_true_iff]; omega
    have hc2 : decide ((k : Int) < 4) = true := by rw [decide_eq_true_iff]; omega
    have hn' := hE.n
    have ci : σ'.row σ.n = some cp := by rw [hE.row (by omega) (by omega)]; exact c9
    have rr := row_of ro
    have bv : blkOf v ≠ some p := fun hb => by have := (ho.blk hb).1; omega
    obtain ⟨x, hx⟩ := at_some (l := ties) (k := k) (by omega)
    have hx64 := ht64 x (List.mem_of_getElem? hx)
    obtain ⟨sp, rfl, l3, l4⟩ := l1 (by omega)
    have l5 : σ'.row lb = some lcs := by rw [hE.row (by have := hE03.n; omega) (by omega), hEb9.row (by have := hE03.n; omega) (by omega), hE03.row l3]; exact l4
    have e0 := l2 k _ hx
    simp (maxSteps := 1000000) (disch := first | omega | ((try simp only [bunN]) <;> omega) | fail) only [↓bunD, bunU, ↓bunFD, bunFU, Nat.reduceMul, Nat.reduceEqDiff, Nat.reduceAdd, Nat.reduceBEq, reduceIte, splice_succ, ap22, ap23, ap24, ap25, ap26, ap33, ap34, ap35, ap38, ap49, ap74, g1, g3, g9, hc1, hc2, yu_t, yu_f, ci, s4, rr, u4, l5, e0, Nat.add_zero]
    refine (name_ok hx64).mono ?_
    rintro r ⟨σ6, rfl, e6⟩
    have n6 := e6.n
    simp (maxSteps := 1000000) (disch := first | omega | ((try simp only [bunN]) <;> omega) | fail) only [↓bunD, bunU, ↓bunFD, bunFU, Nat.reduceMul, Nat.reduceEqDiff, Nat.reduceAdd, Nat.reduceBEq, reduceIte, splice_succ, ap22, ap23, ap24, ap25, ap26, ap33, ap34, ap35, ap38, ap49, ap74, g1, g3, g9, ci, s4, rr, u4, Nat.add_zero]
    have hEN : ExtX p σ' (σ6.new [str (nameOf x)]) := ExtX.of (e6.new' _)
    have roN : σ6.orow p = some (tc V1 V2 V3 v (.slice none 0 0)) := by rw [e6.orow (by omega)]; exact ro
    have hoN : OL σ9.n (σ6.new [str (nameOf x)]) 1 v (l.map tieRow) := OL.ext ho (e6.new' _)
    refine ev_append (row := tieRow (nameOf x)) (fun _ _ _ _ => ap41) hoN (row_new_same (Nat.le_refl _) (Nat.le_refl _)) (sub_full (by simp [Crit.row, Req.row, Lot.row, tieRow]) (by simp)) (by rw [List.length_map]; omega) (by simp; omega) ?_
    rintro v' σ8 ho' hA -
    obtain ⟨va, rfl⟩ := OL.shape ho'
    have r8 : σ8.orow p = some (tc V1 V2 V3 v (.slice none 0 0)) := by
      rw [orow_congr (hA.same p (by simp; omega) bv), orow_new_ne (by first | omega | (simp; omega))]; exact roN
    simp (maxSteps := 1000000) (disch := first | omega | ((try simp only [bunN]) <;> omega) | fail) only [↓bunD, bunU, ↓bunFD, bunFU, Nat.reduceMul, Nat.reduceEqDiff, Nat.reduceAdd, Nat.reduceBEq, reduceIte, splice_succ, ap22, ap23, ap24, ap25, ap26, ap33, ap34, ap35, ap38, ap49, ap74, g1, g2, g3, g9, r8, v4, asx (Ext.refl _), as_newb, as_upd, asx e6]
    refine Must.intro (by (repeat first | simp only [as_read, asx (Ext.refl _), as_newb, asx e6] | rw [as_ord (by kernel_rfl)]); rfl) ?_
    simp (maxSteps := 1000000) (disch := first | omega | ((try simp only [bunN]) <;> omega) | fail) only [↓bunD, bunU, ↓bunFD, bunFU, Nat.reduceMul, Nat.reduceEqDiff, Nat.reduceAdd, Nat.reduceBEq, reduceIte, splice_succ, ap22, ap23, ap24, ap25, ap26, ap33, ap34, ap35, ap38, ap49, ap74, g1, g2, g3, g9]
    refine ⟨by first | trivial | rfl | assumption | omega | (simp only [bunM]; omega) | (simp (disch := first | omega | ((try simp only [bunN]) <;> omega) | fail) only [bunR, ↓get_set, Nat.reduceEqDiff, reduceIte]; first | done | rfl | assumption | omega), by first | trivial | rfl | assumption | omega | (simp only [bunM]; omega) | (simp (disch := first | omega | ((try simp only [bunN]) <;> omega) | fail) only [bunR, ↓get_set, Nat.reduceEqDiff, reduceIte, g1]; first | done | rfl | assumption | omega), by first | trivial | rfl | assumption | omega | (simp only [bunM]; omega) | (simp (disch := first | omega | ((try simp only [bunN]) <;> omega) | fail) only [bunR, ↓get_set, Nat.reduceEqDiff, reduceIte, g2]; first | done | rfl | assumption | omega), by first | trivial | rfl | assumption | omega | (simp only [bunM]; omega) | (simp (disch := first | omega | ((try simp only [bunN]) <;> omega) | fail) only [bunR, ↓get_set, Nat.reduceEqDiff, reduceIte, g3]; first | done | rfl | assumption | omega), (ExtX.app hA (hE.trans hEN) hoN (Nat.le_refl _)).upd _, _, l ++ [nameOf x], rfl, ?_, by simp [hll], ?_⟩
    · rw [List.map_append]
      exact OL.keepX ho' (ExtX.refl.upd _) (by omega)
    · intro x hx
      rcases List.mem_append.1 hx with hx | hx
      · exact hlx x hx
      · rw [List.mem_singleton] at hx; subst hx
        exact nameOf_names _
  · rintro fr σ' ⟨g9, g1, g2, g3, hE, v, l, ro, ho, hll, hlx⟩
    have ci : σ'.row σ.n = some cp := by rw [hE.row (by have := hE.n; omega) (by omega)]; exact c9
    by_cases hk1 : ties.length ≤ 4
    · have e1 : min ties.length 4 = ties.length := by omega
      rw [e1] at g9 hll
      simp (maxSteps := 1000000) (disch := first | omega | ((try simp only [bunN]) <;> omega) | fail) only [↓bunD, bunU, ↓bunFD, bunFU, Nat.reduceMul, Nat.reduceEqDiff, Nat.reduceAdd, Nat.reduceBEq, reduceIte, splice_succ, ap22, ap23, ap24, ap25, ap26, ap33, ap34, ap35, ap38, ap49, ap74, g1, g3, g9, ci, s4, yu_t, yu_f]
      exact ⟨_, _, v, l, rfl, by first | trivial | rfl | assumption | omega | (simp only [bunM]; omega) | (simp (disch := first | omega | ((try simp only [bunN]) <;> omega) | fail) only [bunR, ↓get_set, Nat.reduceEqDiff, reduceIte, g1]; first | done | rfl | assumption | omega), by first | trivial | rfl | assumption | omega | (simp only [bunM]; omega) | (simp (disch := first | omega | ((try simp only [bunN]) <;> omega) | fail) only [bunR, ↓get_set, Nat.reduceEqDiff, reduceIte, g2]; first | done | rfl | assumption | omega), by first | trivial | rfl | assumption | omega | (simp only [bunM]; omega) | (simp (disch := first | omega | ((try simp only [bunN]) <;> omega) | fail) only [bunR, ↓get_set, Nat.reduceEqDiff, reduceIte, g3]; first | done | rfl | assumption | omega), hE, ro, ho, by omega, hlx⟩
    · have e1 : min ties.length 4 = 4 := by omega
      rw [e1] at g9 hll
      have hc1 : decide (4 < ties.length) = true := by rw [decide_eq_true_iff]; omega
      have hc2 : decide (((4 : Nat) : Int) < 4) = false := by decide
      simp (maxSteps := 1000000) (disch := first | omega | ((try simp only [bunN]) <;> omega) | fail) only [↓bunD, bunU, ↓bunFD, bunFU, Nat.reduceMul, Nat.reduceEqDiff, Nat.reduceAdd, Nat.reduceBEq, reduceIte, splice_succ, ap22, ap23, ap24, ap25, ap26, ap33, ap34, ap35, ap38, ap49, ap74, g1, g3, g9, ci, s4, hc1, hc2, yu_t, yu_f]
      exact ⟨_, _, v, l, rfl, by first | trivial | rfl | assumption | omega | (simp only [bunM]; omega) | (simp (disch := first | omega | ((try simp only [bunN]) <;> omega) | fail) only [bunR, ↓get_set, Nat.reduceEqDiff, reduceIte, g1]; first | done | rfl | assumption | omega), by first | trivial | rfl | assumption | omega | (simp only [bunM]; omega) | (simp (disch := first | omega | ((try simp only [bunN]) <;> omega) | fail) only [bunR, ↓get_set, Nat.reduceEqDiff, reduceIte, g2]; first | done | rfl | assumption | omega), by first | trivial | rfl | assumption | omega | (simp only [bunM]; omega) | (simp (disch := first | omega | ((try simp only [bunN]) <;> omega) | fail) only [bunR, ↓get_set, Nat.reduceEqDiff, reduceIte, g3]; first | done | rfl | assumption | omega), hE, ro, ho, by omega, hlx⟩
  rintro r ⟨fr, σ11, V4, L4, rfl, g1, g2, g3, hX11, r11, ho4, hl4, hx4⟩
  have n11 : p < σ11.n := Nat.lt_of_lt_of_le n9 hX11.n
  have c11 : σ11.row σ.n = some cp := by rw [hX11.row (by omega) (by omega)]; exact c9
  have hEb11 : ExtX p σ3 σ11 := hEb9.trans hX11
  simp (maxSteps := 1000000) (disch := first | omega | ((try simp only [bunN]) <;> omega) | fail) only [↓bunD, bunU, ↓bunFD, bunFU, Nat.reduceMul, Nat.reduceEqDiff, Nat.reduceAdd, Nat.reduceBEq, reduceIte, splice_succ, bunAP]
  -- loop 5
  obtain ⟨la, lc, lb, lo, lcs, rfl, l1, l2⟩ := SL.use' hk
  have hlen5 : vs.length = combos.length := hkk.len
  refine ev_count (min vs.length 3) (fun k fr σ' => fr.get 10 = some (.int .i64 k) ∧ fr.get 1 = some (.pointer (some ⟨σ.n, 0, none⟩)) ∧ fr.get 2 = some (.pointer (some ⟨σ.n + 1, 0, none⟩)) ∧ fr.get 3 = some (.pointer (some ⟨p, 0, none⟩)) ∧ ExtX p σ11 σ' ∧
      ∃ (v : Value) (ws : List Value) (cs : List (List Int)), σ'.orow p = some (tc V1 V2 V3 V4 v) ∧ OL σ11.n σ' 1 v (ws.map fun x => [x]) ∧ ws.length = k ∧ All2 (Ints (hide σ' (p :: (σ.n + 1) :: (blks v ++ H)))) ws cs ∧ ∀ c ∈ cs, c.length ≤ 4 ∧ ∀ n ∈ c, In64 n)
    (fun r => ∃ (fr : Fr) (σ' : St) (v : Value) (ws : List Value) (cs : List (List Int)), r = ⟨.exit 8, fr, σ'⟩ ∧ fr.get 1 = some (.pointer (some ⟨σ.n, 0, none⟩)) ∧ fr.get 2 = some (.pointer (some ⟨σ.n + 1, 0, none⟩)) ∧ fr.get 3 = some (.pointer (some ⟨p, 0, none⟩)) ∧ ExtX p σ11 σ' ∧
      σ'.orow p = some (tc V1 V2 V3 V4 v) ∧ OL σ11.n σ' 1 v (ws.map fun x => [x]) ∧ ws.length ≤ 3 ∧ All2 (Ints (hide σ' (p :: (σ.n + 1) :: (blks v ++ H)))) ws cs ∧ ∀ c ∈ cs, c.length ≤ 4 ∧ ∀ n ∈ c, In64 n) ?_ ?_ ?_ ?_
  · exact ⟨by first | trivial | rfl | assumption | omega | (simp only [bunM]; omega) | (simp (disch := first | omega | ((try simp only [bunN]) <;> omega) | fail) only [bunR, ↓get_set, Nat.reduceEqDiff, reduceIte]; first | done | rfl | assumption | omega), by first | trivial | rfl | assumption | omega | (simp only [bunM]; omega) | (simp (disch := first | omega | ((try simp only [bunN]) <;> omega) | fail) only [bunR, ↓get_set, Nat.reduceEqDiff, reduceIte, g1]; first | done | rfl | assumption | omega), by first | trivial | rfl | assumption | omega | (simp only [bunM]; omega) | (simp (disch := first | omega | ((try simp only [bunN]) <;> omega) | fail) only [bunR, ↓get_set, Nat.reduceEqDiff, reduceIte, g2]; first | done | rfl | assumption | omega), by first | trivial | rfl | assumption | omega | (simp only [bunM]; omega) | (simp (disch := first | omega | ((try simp only [bunN]) <;> omega) | fail) only [bunR, ↓get_set, Nat.reduceEqDiff, reduceIte, g3]; first | done | rfl | assumption | omega), .refl, (.slice none 0 0), [], [], r11, OL.nil, rfl, trivial, fun x hx => by cases hx⟩
  · rintro k fr σ' hk ⟨g10, g1, g2, g3, hE, v, ws, cs, ro, ho, hll, hA2, hcs⟩
    have hc1 : decide (k < vs.length) = true := by rw [decide_eq_true_iff]; omega
    have hc2 : decide ((k : Int) < 3) = true := by rw [decide_eq_true_iff]; omega
    have hn' := hE.n
    have ci : σ'.row σ.n = some cp := by rw [hE.row (by omega) (by omega)]; exact c11
    have rr := row_of ro
    have bv : blkOf v ≠ some p := fun hb => by have := (ho.blk hb).1; omega
    obtain ⟨w, hw⟩ := at_some (l := vs) (k := k) (by omega)
    obtain ⟨c, hcc⟩ := at_some (l := combos) (k := k) (by omega)
    obtain ⟨hc64, hwc⟩ := hkk.get hw hcc
    obtain ⟨sp, rfl, l3, l4⟩ := l1 (by omega)
    have hold : ∀ {b cells}, b < σ.n → σ.row b = some cells → σ'.row b = some cells := fun hb hr => by rw [hE.row (by have := hE03.n; omega) (by omega), hEb11.row (by have := hE03.n; omega) (by omega), hE03.row hb]; exact hr
    have l5 := hold l3 l4
    have e0 := l2 k _ hw
    rw [Nat.mul_one] at e0
    have hmin : min (c.length : Int) 4 = ((min c.length 4 : Nat) : Int) := by omega
    have hme : min (c.length) 4 ≤ c.length := by omega
    -- the part that is copied
    obtain ⟨wa, wc, rfl, w', hw', hsl⟩ : ∃ wa wc, w = .slice wa c.length wc ∧ ∃ w', (min c.length 4 ≤ wc ∧ sliceAt 1 wa 0 (min c.length 4) wc = some w') ∧ SLs (σ'.new []) 1 w' ((c.take 4).map fun n => [.int .i64 n]) := by
      rcases hwc with ⟨rfl, rfl⟩ | ⟨b, off, cc, cells, rfl, hcl, hb, hbr, hbs⟩
      · exact ⟨none, 0, rfl, .slice none 0 0, ⟨by simp, rfl⟩, .nil⟩
      · refine ⟨_, cc, rfl, .slice (some ⟨b, off + 0 * 1, none⟩) (min c.length 4 - 0) (cc - 0), ⟨by omega, rfl⟩, ⟨fun r hr => ?_, .inr ⟨b, off, none, cc, cells, ?_, ?_, ?_, ?_⟩⟩⟩
        · obtain ⟨n, -, rfl⟩ := List.mem_map.1 hr; rfl
        · simp [Nat.min_comm]
        · have h0 := hE03.n; simp; omega
        · have h0 := hE03.n; rw [row_new_ne (by omega)]; exact hold hb hbr
        · rw [List.length_map, List.length_take, Nat.mul_one, ← Nat.add_zero off, sub_in hbs (by omega), sub_of (by simp; omega), List.drop_zero, Nat.min_comm, ← List.map_take]
          have hfl : ∀ l : List Int, (l.map fun n => [Value.int .i64 n]).flatten = l.map (.int .i64) := by
            intro l; induction l with
            | nil => rfl
            | cons a l ih => simp [ih]
          rw [hfl]
          congr 2
          rcases Nat.le_total c.length 4 with h | h
          · rw [Nat.min_eq_left h, List.take_of_length_le (Nat.le_refl _), List.take_of_length_le h]
          · rw [Nat.min_eq_right h]
    obtain ⟨hw1, hw2⟩ := hw'
    simp (maxSteps := 1000000) (disch := first | omega | ((try simp only [bunN]) <;> omega) | fail) only [↓bunD, bunU, ↓bunFD, bunFU, Nat.reduceMul, Nat.reduceEqDiff, Nat.reduceAdd, Nat.reduceBEq, reduceIte, splice_succ, ap22, ap23, ap24, ap33, ap34, ap35, ap38, ap41, ap49, ap74, g1, g3, g10, hc1, hc2, yu_t, yu_f, ci, s5, rr, u5, l5, e0, Nat.add_zero, hmin, Option.isNone_none, Nat.mul_one, hw2]
    refine ev_clone (fun _ _ _ _ => ap25) (orow_new_same (Nat.le_refl _) (Nat.le_refl _)) (by simp) hsl (by rw [List.length_map, List.length_take]; omega) ?_
    rintro v9 σ8 ho9 hX9
    obtain ⟨va9, rfl⟩ := OL.shape ho9
    have n8 := hX9.n
    simp only [new_n] at n8
    simp (maxSteps := 1000000) (disch := first | omega | ((try simp only [bunN]) <;> omega) | fail) only [↓bunD, bunU, ↓bunFD, bunFU, Nat.reduceMul, Nat.reduceEqDiff, Nat.reduceAdd, Nat.reduceBEq, reduceIte, splice_succ, ap22, ap23, ap24, ap33, ap34, ap35, ap38, ap41, ap49, ap74, g1, g3, g10]
    have hX8 : ExtX p σ' σ8 := ⟨by omega, fun b hb hne => by rw [hX9.same b (by simp; omega) (by omega), new_get, if_neg (by omega)]⟩
    have he8 : Ext σ' σ8 := ⟨by omega, fun b hb => by rw [hX9.same b (by simp; omega) (by omega), new_get, if_neg (by omega)]⟩
    have ho8 : OL σ11.n σ8 1 v (ws.map fun x => [x]) := OL.ext ho he8
    obtain ⟨v8, hv8⟩ : ∃ v8, Value.slice va9 (((c.take 4).map fun n => [Value.int .i64 n]).length) (((c.take 4).map fun n => [Value.int .i64 n]).length) = v8 := ⟨_, rfl⟩
    rw [hv8] at ho9 ⊢
    have hoN : OL σ11.n (σ8.new [v8]) 1 v (ws.map fun x => [x]) := OL.ext ho8 (.new _ _)
    have ro8 : σ8.orow p = some (tc V1 V2 V3 V4 v) := by rw [he8.orow (by omega)]; exact ro
    refine ev_append (row := [v8]) (fun _ _ _ _ => ap26) hoN (row_new_same (Nat.le_refl _) (Nat.le_refl _)) (sub_full (by simp) (by simp)) (by rw [List.length_map]; omega) (by simp; omega) ?_
    rintro v' σ10 ho' hA -
    obtain ⟨va, rfl⟩ := OL.shape ho'
    have r10 : σ10.orow p = some (tc V1 V2 V3 V4 v) := by
      rw [orow_congr (hA.same p (by simp; omega) bv), orow_new_ne (by first | omega | (simp; omega))]; exact ro8
    have hl0 := hE03.n
    simp (maxSteps := 1000000) (disch := first | omega | ((try simp only [bunN]) <;> omega) | fail) only [↓bunD, bunU, ↓bunFD, bunFU, Nat.reduceMul, Nat.reduceEqDiff, Nat.reduceAdd, Nat.reduceBEq, reduceIte, splice_succ, ap22, ap23, ap24, ap33, ap34, ap35, ap38, ap41, ap49, ap74, g1, g2, g3, g10, r10, v5, as_newb, as_upd]
    have as8 : ∀ {bs : List Nat} {i j b o n : Nat} {ds : List Ab.Trace}, b < σ'.n → allSame bs i ⟨b, o, n⟩ (.eff j (σ'.new []) σ8 :: ds) = allSame bs i ⟨b, o, n⟩ ds := fun h => as_ext hX9 (Nat.ne_of_lt h)
    have hlbn : lb < σ'.n := by omega
    refine Must.intro (by (repeat first | simp (disch := omega) only [as_read, as_newb, as8] | rw [as_ord (by kernel_rfl)]); rfl) ?_
    simp (maxSteps := 1000000) (disch := first | omega | ((try simp only [bunN]) <;> omega) | fail) only [↓bunD, bunU, ↓bunFD, bunFU, Nat.reduceMul, Nat.reduceEqDiff, Nat.reduceAdd, Nat.reduceBEq, reduceIte, splice_succ, ap22, ap23, ap24, ap33, ap34, ap35, ap38, ap41, ap49, ap74, g1, g2, g3, g10]
    have hb8 : ∀ b, blkOf v8 = some b → σ'.n ≤ b ∧ b < σ8.n := fun b hb => ho9.blk hb
    have hbv' : ∀ b ∈ blks (Value.slice va (((ws.map fun x => [x]) ++ [[v8]] : List (List Value)).length) (((ws.map fun x => [x]) ++ [[v8]] : List (List Value)).length)), σ8.n + 1 ≤ b := fun b hb => by
      have := hA.new b (by simpa [blks] using hb)
      simp only [new_n] at this; omega
    have hbvo : ∀ b, blkOf v = some b → b < σ'.n := fun b hb => (ho.blk hb).2
    refine ⟨by first | trivial | rfl | assumption | omega | (simp only [bunM]; omega) | (simp (disch := first | omega | ((try simp only [bunN]) <;> omega) | fail) only [bunR, ↓get_set, Nat.reduceEqDiff, reduceIte]; first | done | rfl | assumption | omega), by first | trivial | rfl | assumption | omega | (simp only [bunM]; omega) | (simp (disch := first | omega | ((try simp only [bunN]) <;> omega) | fail) only [bunR, ↓get_set, Nat.reduceEqDiff, reduceIte, g1]; first | done | rfl | assumption | omega), by first | trivial | rfl | assumption | omega | (simp only [bunM]; omega) | (simp (disch := first | omega | ((try simp only [bunN]) <;> omega) | fail) only [bunR, ↓get_set, Nat.reduceEqDiff, reduceIte, g2]; first | done | rfl | assumption | omega), by first | trivial | rfl | assumption | omega | (simp only [bunM]; omega) | (simp (disch := first | omega | ((try simp only [bunN]) <;> omega) | fail) only [bunR, ↓get_set, Nat.reduceEqDiff, reduceIte, g3]; first | done | rfl | assumption | omega), (ExtX.app hA (hE.trans (hX8.trans (ExtX.of (.new _ _)))) hoN (Nat.le_refl _)).upd _, _, ws ++ [v8], cs ++ [c.take 4], rfl, ?_, by simp [hll], ?_, ?_⟩
    · rw [List.map_append]
      exact OL.keepX ho' (ExtX.refl.upd _) (by omega)
    · have hk2 : Keep (hide σ' (p :: (σ.n + 1) :: (blks v ++ H))) (hide (σ10.upd p (tc V1 V2 V3 V4 (Value.slice va (((ws.map fun x => [x]) ++ [[v8]] : List (List Value)).length) (((ws.map fun x => [x]) ++ [[v8]] : List (List Value)).length)))) (p :: (σ.n + 1) :: (blks (Value.slice va (((ws.map fun x => [x]) ++ [[v8]] : List (List Value)).length) (((ws.map fun x => [x]) ++ [[v8]] : List (List Value)).length)) ++ H))) := by
        have hn10 := hA.n
        simp only [new_n] at hn10
        refine keep_hide (by simp; omega) fun c hc hm => ⟨fun hm' => ?_, ?_⟩
        · rcases List.mem_cons.1 hm' with rfl | hm'
          · exact hm (by simp)
          rcases List.mem_cons.1 hm' with rfl | hm'
          · exact hm (by simp)
          rcases List.mem_append.1 hm' with hm' | hm'
          · have := hbv' c hm'; omega
          · exact hm (by simp [hm'])
        · have hcp : c ≠ p := fun e => hm (by simp [e])
          have hcv : blkOf v ≠ some c := fun e => hm (by simp [blks, e])
          rw [row_upd_ne hcp, row_congr (hA.same c (by simp; omega) hcv), row_new_ne (by omega), he8.row hc]
      refine (hA2.mono fun a l h => SL.keep h hk2).app ?_
      refine SL.keep (σ := hide σ8 (p :: (σ.n + 1) :: (blks v ++ H))) ?_ ?_
      · have := OL.hide (H := p :: (σ.n + 1) :: (blks v ++ H)) ho9 fun q hq => ?_
        · have h2 := SLs.sl this
          exact h2
        · rcases List.mem_cons.1 hq with rfl | hq
          · omega
          rcases List.mem_cons.1 hq with rfl | hq
          · omega
          rcases List.mem_append.1 hq with hq | hq
          · exact hbvo q (by simpa [blks] using hq)
          · have := hH0 q hq; omega
      · have hn10 := hA.n
        simp only [new_n] at hn10
        refine keep_hide (by simp; omega) fun c hc hm => ⟨fun hm' => ?_, ?_⟩
        · rcases List.mem_cons.1 hm' with rfl | hm'
          · exact hm (by simp)
          rcases List.mem_cons.1 hm' with rfl | hm'
          · exact hm (by simp)
          rcases List.mem_append.1 hm' with hm' | hm'
          · have := hbv' c hm'; omega
          · exact hm (by simp [hm'])
        · have hcp : c ≠ p := fun e => hm (by simp [e])
          have hcv : blkOf v ≠ some c := fun e => hm (by simp [blks, e])
          rw [row_upd_ne hcp, row_congr (hA.same c (by simp; omega) hcv), row_new_ne (by omega)]
    · intro x hx
      rcases List.mem_append.1 hx with hx | hx
      · exact hcs x hx
      · rw [List.mem_singleton] at hx; subst hx
        exact ⟨by rw [List.length_take]; omega, fun n hn => hc64 n (List.mem_of_mem_take hn)⟩
  · rintro fr σ' ⟨g10, g1, g2, g3, hE, v, ws, cs, ro, ho, hll, hA2, hcs⟩
    have ci : σ'.row σ.n = some cp := by rw [hE.row (by have := hE.n; omega) (by omega)]; exact c11
    by_cases hk1 : vs.length ≤ 3
    · have e1 : min vs.length 3 = vs.length := by omega
      rw [e1] at g10 hll
      simp (maxSteps := 1000000) (disch := first | omega | ((try simp only [bunN]) <;> omega) | fail) only [↓bunD, bunU, ↓bunFD, bunFU, Nat.reduceMul, Nat.reduceEqDiff, Nat.reduceAdd, Nat.reduceBEq, reduceIte, splice_succ, ap22, ap23, ap24, ap26, ap33, ap34, ap35, ap38, ap41, ap49, ap74, g1, g3, g10, ci, s5, yu_t, yu_f]
      exact ⟨_, _, v, ws, cs, rfl, by first | trivial | rfl | assumption | omega | (simp only [bunM]; omega) | (simp (disch := first | omega | ((try simp only [bunN]) <;> omega) | fail) only [bunR, ↓get_set, Nat.reduceEqDiff, reduceIte, g1]; first | done | rfl | assumption | omega), by first | trivial | rfl | assumption | omega | (simp only [bunM]; omega) | (simp (disch := first | omega | ((try simp only [bunN]) <;> omega) | fail) only [bunR, ↓get_set, Nat.reduceEqDiff, reduceIte, g2]; first | done | rfl | assumption | omega), by first | trivial | rfl | assumption | omega | (simp only [bunM]; omega) | (simp (disch := first | omega | ((try simp only [bunN]) <;> omega) | fail) only [bunR, ↓get_set, Nat.reduceEqDiff, reduceIte, g3]; first | done | rfl | assumption | omega), hE, ro, ho, by omega, hA2, hcs⟩
    · have e1 : min vs.length 3 = 3 := by omega
      rw [e1] at g10 hll
      have hc1 : decide (3 < vs.length) = true := by rw [decide_eq_true_iff]; omega
      have hc2 : decide (((3 : Nat) : Int) < 3) = false := by decide
      simp (maxSteps := 1000000) (disch := first | omega | ((try simp only [bunN]) <;> omega) | fail) only [↓bunD, bunU, ↓bunFD, bunFU, Nat.reduceMul, Nat.reduceEqDiff, Nat.reduceAdd, Nat.reduceBEq, reduceIte, splice_succ, ap22, ap23, ap24, ap26, ap33, ap34, ap35, ap38, ap41, ap49, ap74, g1, g3, g10, ci, s5, hc1, hc2, yu_t, yu_f]
      exact ⟨_, _, v, ws, cs, rfl, by first | trivial | rfl | assumption | omega | (simp only [bunM]; omega) | (simp (disch := first | omega | ((try simp only [bunN]) <;> omega) | fail) only [bunR, ↓get_set, Nat.reduceEqDiff, reduceIte, g1]; first | done | rfl | assumption | omega), by first | trivial | rfl | assumption | omega | (simp only [bunM]; omega) | (simp (disch := first | omega | ((try simp only [bunN]) <;> omega) | fail) only [bunR, ↓get_set, Nat.reduceEqDiff, reduceIte, g2]; first | done | rfl | assumption | omega), by first | trivial | rfl | assumption | omega | (simp only [bunM]; omega) | (simp (disch := first | omega | ((try simp only [bunN]) <;> omega) | fail) only [bunR, ↓get_set, Nat.reduceEqDiff, reduceIte, g3]; first | done | rfl | assumption | omega), hE, ro, ho, by omega, hA2, hcs⟩
  rintro r ⟨fr, σ13, V5, ws, cs, rfl, g1, g2, g3, hX13, r13, ho5, hl5, hA2, hcs⟩
  have n13 : p < σ13.n := Nat.lt_of_lt_of_le n11 hX13.n
  have hEb13 : ExtX p σ3 σ13 := hEb11.trans hX13
  have q13 : σ13.orow (σ.n + 1) = some zCells := by rw [hEb13.orow (by omega) (by omega)]; exact ro3
  have rr := row_of r13
  simp (maxSteps := 1000000) (disch := first | omega | ((try simp only [bunN]) <;> omega) | fail) only [↓bunD, bunU, ↓bunFD, bunFU, Nat.reduceMul, Nat.reduceEqDiff, Nat.reduceAdd, Nat.reduceBEq, reduceIte, splice_succ, bunAP, g2, g3, rr, uf, ul, q13, uz, Tryz.results24]
  have hE13 : Ext σ σ13 := hEb13.ext hE03 (by omega)
  have hH : ∀ q ∈ (σ.n + 1) :: H, q < σ4.n := fun q hq => by
    rcases List.mem_cons.1 hq with rfl | hq
    · omega
    · have := hH0 q hq; omega
  have hF : ∀ cs', Keep (hide σ13 ((σ.n + 1) :: H)) (hide (σ13.upd (σ.n + 1) cs') H) := fun cs' =>
    keep_hide (Nat.le_refl _) fun c hc hm => ⟨fun h => hm (by simp [h]), row_upd_ne fun e => hm (by simp [e])⟩
  have m5 := hX5.n
  have m7 := hX7.n
  have m9 := hX9.n
  have m11 := hX11.n
  have f1 := OL.hide (OL.keepX (OL.keepX (OL.keepX (OL.keepX ho1 hX7 (by omega)) hX9 (by omega)) hX11 (by omega)) hX13 (by omega)) hH
  have f2 := OL.hide (OL.lower (OL.keepX (OL.keepX (OL.keepX ho2 hX9 (by omega)) hX11 (by omega)) hX13 (by omega)) m5) hH
  have f3 := OL.hide (OL.lower (OL.keepX (OL.keepX ho3 hX11 (by omega)) hX13 (by omega)) (Nat.le_trans m5 m7)) hH
  have f4 := OL.hide (OL.lower (OL.keepX ho4 hX13 (by omega)) (Nat.le_trans m5 (Nat.le_trans m7 m9))) hH
  have f5 := OL.hide (OL.lower ho5 (Nat.le_trans m5 (Nat.le_trans m7 (Nat.le_trans m9 m11)))) hH
  have f6 : ExAt (hide σ13 ((σ.n + 1) :: H)) [x1, x2, x3, x4, x5] F := hx.keep (keep_hide hEb13.n fun c hc hm => ⟨hm, hEb13.row hc (by omega)⟩)
  have f7 : All2 (Ints (hide σ13 ((σ.n + 1) :: H))) ws cs := hA2.mono fun a l h => SL.keep h (keep_hide (Nat.le_refl _) fun c hc hm => ⟨fun hm' => hm (by rcases List.mem_cons.1 hm' with h | h <;> simp [h]), rfl⟩)
  refine ⟨_, ⟨nm, L1, L2, L3, o0, o1, F, L4, o2, cs, o3, ⟨o4, o5, o6, o7, o8⟩⟩, _, rfl, hE13.upd (by omega) _, ?_, ?_, ?_, hnl⟩
  · refine ⟨V1, V2, V3, [x1, x2, x3, x4, x5], V4, V5, ws, by rw [htc]; rfl, f1.keep (hF _), f2.keep (hF _), f3.keep (hF _), f6.keep (hF _), f4.keep (hF _), f5.keep (hF _), f7.mono fun a l h => SL.keep h (hF _)⟩
  · exact ⟨by show L1.length ≤ 16; omega, hx1, by show L2.length ≤ 16; omega, hx2, by show L3.length ≤ 8; omega, hx3, q0, q1, by show L4.length ≤ 16; omega, hx4, q2, by have := hA2.len; show cs.length ≤ 16; omega, hcs, q3, q4, q5, q6, q7, q8⟩
  · exact ⟨hl1, hl2, by show L3.length ≤ 5; omega, by show L4.length ≤ 5; omega, by have := hA2.len; show cs.length ≤ 5; omega⟩
end Go.Proofs.G
