/- A part of the proof: a walk of some functions. -/
import Derived.Test.YtcjkjjnnicadfaaGreatDoorG33
set_option linter.unusedSimpArgs false
set_option linter.unusedVariables false
namespace Go.Proofs.G
open Go Go.Ab
open Nat (reduceMul reduceEqDiff reduceAdd)
set_option maxRecDepth 100000
theorem wrapF_in64 (n : Int) : In64 (wrapF .i64 n) := by
 have h : In64 (IntKind.i64.wrap n) := by
  rw [wrap_i64]
  have h1 : 0 ≤ n % 18446744073709551616 := Int.emod_nonneg _ (by omega)
  have h2 : n % 18446744073709551616 < 18446744073709551616 := Int.emod_lt_of_pos _ (by omega)
  unfold In64
  split <;> omega
 unfold wrapF
 cases hb : inR .i64 n with
 | false => exact h
 | true =>
  show In64 n
  cases n with
  | ofNat m =>
   have : m < 9223372036854775808 := by simpa [inR, Nat.blt_eq] using hb
   exact ⟨by simp only [Int.ofNat_eq_natCast]; omega, by simp only [Int.ofNat_eq_natCast]; omega⟩
  | negSucc m =>
   have : m < 9223372036854775808 := by simpa [inR, Nat.blt_eq] using hb
   exact ⟨by omega, by omega⟩
theorem OL.same {lo : Nat} {σ σ' : St} {size : Nat} {v : Value} {rows : List (List Value)} (h : OL lo σ size v rows) (hn : σ.n ≤ σ'.n) (hk : ∀ b, lo ≤ b → b < σ.n → blkOf v = some b → σ'.h.get b = σ.h.get b) : OL lo σ' size v rows :=
 h.keep hn fun b hb => hk b (h.blk hb).1 (h.blk hb).2 hb
theorem splice_rows {size : Nat} {x : Value} : ∀ {rows : List (List Value)} {k o : Nat} {r : List Value}, (∀ r ∈ rows, r.length = size) → rows[k]? = some r → o < size → splice rows.flatten (k * size + o) [x] = some (rows.set k (r.set o x)).flatten := by
 intro rows k o r hr hk ho
 obtain ⟨hlt, he⟩ := List.getElem?_eq_some_iff.1 hk
 have hfl := flatten_len rows hr
 have hmul : k * size + size ≤ rows.length * size := by
  have : (k + 1) * size ≤ rows.length * size := Nat.mul_le_mul_right size hlt
  rw [Nat.succ_mul] at this; exact this
 rw [splice_at' (by simp only [List.length_singleton]; omega)]
 congr 1
 clear hfl hmul he hlt
 induction rows generalizing k with
 | nil => simp at hk
 | cons a rows ih =>
  have ha := hr a (by simp)
  cases k with
  | zero =>
   cases hk
   rw [Nat.zero_mul, Nat.zero_add]
   simp only [List.set_cons_zero, List.flatten_cons, List.length_singleton]
   rw [List.take_append_of_le_length (by omega), List.drop_append_of_le_length (by omega), List.set_eq_take_append_cons_drop, if_pos (by omega)]
   simp [List.append_assoc]
  | succ k =>
   have := ih (k := k) (fun r hm => hr r (by simp [hm])) (by simpa using hk)
   simp only [List.set_cons_succ, List.flatten_cons]
   rw [← this]
   have e1 : (k + 1) * size + o = a.length + (k * size + o) := by rw [Nat.succ_mul]; omega
   rw [e1, List.take_length_add_append, Nat.add_assoc, List.drop_length_add_append]
   simp [List.append_assoc]
theorem splice_end {l : List Value} : splice l l.length [] = some l := by
 rw [splice_at' (by simp)]; simp
theorem ev_join {P : Program} {σ : St} {t size by' lo : Nat} {v w : Value} {rows rows2 : List (List Value)} {Q : Value × St → Prop} {uq : Hd Q}
  (hap : ∀ (b : Option Addr) (len cap : Nat) (w : Value), appendV P σ t (.slice b len cap) w = ob (srcCells σ size w) fun p => pr p fun n new => bi (Nat.ble (len + n) cap) (appendIn σ size b len cap n new) (bb (Nat.ble ((len + n) * by') room) (appendNew σ size b len n new)))
  (hl : OL lo σ size v rows) (hw : SLs σ size w rows2) (hb : (rows.length + rows2.length) * by' ≤ 4294967296) (hlo : lo ≤ σ.n)
  (h : ∀ v' σ', OL lo σ' size v' (rows ++ rows2) → σ.n ≤ σ'.n → (∀ c, c < σ.n → blkOf v ≠ some c → σ'.h.get c = σ.h.get c) → Q (v', σ')) : Ev (appendV P σ t v w) Q uq := by
 by_cases h0 : rows2 = []
 ·subst h0
  rw [List.append_nil] at h
  obtain ⟨hr, ⟨rfl, rfl⟩ | ⟨b, sp, rfl, hsp, h1, h2, h3⟩⟩ := hl
  ·rw [hap, hw.src, ob_some, pr_mk]
   rw [show Nat.ble (0 + ([] : List (List Value)).length) 0 = true from rfl, bi_true]
   show Ev (appendIn σ size none 0 0 0 _) Q _
   rw [ai_none, ev_some]
   exact h _ _ OL.nil (Nat.le_refl _) fun _ _ _ => rfl
  ·have hfl := flatten_len rows hr
   rw [hap, hw.src, ob_some, pr_mk, ble_of (by simp), bi_true, ai_some, write_eq, h3, ob_some, Nat.zero_add, ← hfl]
   rw [show ([] : List (List Value)).flatten = [] from rfl, splice_end, ob_some, ob_some, ev_some]
   exact h _ _ ⟨hr, .inr ⟨b, sp, by simp, hsp, h1, h2, orow_upd_same⟩⟩ (Nat.le_refl _) fun c _ hne => by rw [upd_get, if_neg (fun e => hne (by rw [e]; rfl))]
 ·obtain ⟨hr2, ⟨_, h1⟩ | ⟨b, off, sp, c, cells, rfl, h1, h2, h3⟩⟩ := hw
  ·exact absurd h1 h0
  ·refine ev_appends (rows2 := rows2) hap hl rfl (List.length_pos_iff.2 h0) hr2 h2 h3 hb hlo fun v' σ' h1 h2 h3 => h v' σ' h1 h2.n h2.same
theorem OL.cut {lo : Nat} {σ : St} {size bb L j : Nat} {sp : Option Nat} {rows : List (List Value)} (h : OL lo σ size (.slice (some ⟨bb, 0, sp⟩) L L) rows) (hL : L = rows.length) (hj : j < L) :
  (∃ w, sliceAt size (some ⟨bb, 0, sp⟩) 0 j L = some w ∧ SLs σ size w (rows.take j)) ∧ (∃ w, sliceAt size (some ⟨bb, 0, sp⟩) (j + 1) L L = some w ∧ SLs σ size w (rows.drop (j + 1))) := by
 obtain ⟨hr, ⟨hV, -⟩ | ⟨b', sp', hV, hsp, h1, h2, h3⟩⟩ := h
 ·cases hV
 ·cases hV
  have hfl := flatten_len rows hr
  have e : ∀ lo hi, sliceAt size (some ⟨bb, 0, sp⟩) lo hi rows.length = some (.slice (some ⟨bb, 0 + lo * size, sp⟩) (hi - lo) (rows.length - lo)) := fun lo hi => by
   rcases hsp with rfl | rfl
   ·rfl
   ·exact sa_some
  have hjm : j * size ≤ rows.length * size := Nat.mul_le_mul_right size (by omega)
  have hjm2 : (j + 1) * size + (rows.length - (j + 1)) * size = rows.length * size := by rw [← Nat.add_mul]; congr 1; omega
  refine ⟨⟨_, e _ _, fun r hm => hr r (List.mem_of_mem_take hm), .inr ⟨bb, 0 + 0 * size, sp, rows.length - 0, _, ?_, h2, row_of h3, ?_⟩⟩, ⟨_, e _ _, fun r hm => hr r (List.mem_of_mem_drop hm), .inr ⟨bb, 0 + (j + 1) * size, sp, rows.length - (j + 1), _, ?_, h2, row_of h3, ?_⟩⟩⟩
  ·rw [List.length_take, Nat.min_eq_left (by omega), Nat.sub_zero]
  ·rw [Nat.zero_mul, Nat.add_zero, List.length_take, Nat.min_eq_left (by omega), sub_of (by omega), List.drop_zero]
   have h4 : rows.flatten = (rows.take j).flatten ++ (rows.drop j).flatten := by rw [← List.flatten_append, List.take_append_drop]
   have h5 := flatten_len (rows.take j) (fun r hm => hr r (List.mem_of_mem_take hm))
   rw [List.length_take, Nat.min_eq_left (by omega)] at h5
   rw [h4, List.take_append_of_le_length (by omega), List.take_of_length_le (by omega)]
  ·rw [List.length_drop]
  ·rw [Nat.zero_add, List.length_drop, sub_of (by omega), flatten_drop rows (j + 1) hr, List.take_of_length_le]
   have h5 := flatten_len (rows.drop (j + 1)) (fun r hm => hr r (List.mem_of_mem_drop hm))
   rw [List.length_drop] at h5
   omega
set_option maxHeartbeats 16000000 in
theorem edit_ok {σ : St} {ca : List Value} {T : Tn} {n : Nat} {q0 q1 q2 : Int} (H : List Nat) (hH0 : ∀ q ∈ H, q < σ.n) (hT : TnX (hide σ H) ca T) (ok : T.Ok) (hle : T.Le n) (hn6 : n ≤ 6) (b0 : In64 q0) (b1 : In64 q1) (b2 : In64 q2) :
  Ev (go Tryz.prog HS (.fn 18) [.agg ⟨ca⟩, .agg ⟨[.int .i64 q0, .int .i64 q1, .int .i64 q2]⟩] σ) (fun r => ∃ cells T' σ', r = ⟨false, .agg ⟨cells⟩, σ'⟩ ∧ Ext σ σ' ∧ TnX (hide σ' H) cells T' ∧ T'.Ok ∧ T'.Le (n + 1) ∧ T'.name = T.name) ⟨⟩ := by
 obtain ⟨vl, vc, vr, ex, vt, vk, vs, hca, hl, hc, hr, hx, ht, hk, hkk⟩ := hT
 obtain ⟨x1, x2, x3, x4, x5, rfl⟩ := five hx.len
 have hlen : ca.length = 20 := by rw [hca]; rfl
 have hfull : sub ca 0 20 = some ca := sub_full (by omega) (by omega)
 obtain ⟨D, hD⟩ : ∃ f : Value → Value → Value → Value → List Value, f = fun vl vc vr vt => tnRow T.name vl vc vr T.low T.high [x1, x2, x3, x4, x5] vt T.most vk T.budget T.t := ⟨_, rfl⟩
 have hcD : ca = D vl vc vr vt := by rw [hca, hD]
 have w1 : ∀ a b c d v, splice (D a b c d) 1 [v] = some (D v b c d) := fun _ _ _ _ _ => by rw [hD]; rfl
 have w2 : ∀ a b c d v, splice (D a b c d) 2 [v] = some (D a v c d) := fun _ _ _ _ _ => by rw [hD]; rfl
 have w3 : ∀ a b c d v, splice (D a b c d) 3 [v] = some (D a b v d) := fun _ _ _ _ _ => by rw [hD]; rfl
 have w4 : ∀ a b c d v, splice (D a b c d) 11 [v] = some (D a b c v) := fun _ _ _ _ _ => by rw [hD]; rfl
 have u1 : ∀ a b c d, sub (D a b c d) 1 1 = some [a] := fun _ _ _ _ => by rw [hD]; rfl
 have u2 : ∀ a b c d, sub (D a b c d) 2 1 = some [b] := fun _ _ _ _ => by rw [hD]; rfl
 have u3 : ∀ a b c d, sub (D a b c d) 3 1 = some [c] := fun _ _ _ _ => by rw [hD]; rfl
 have u4 : ∀ a b c d, sub (D a b c d) 11 1 = some [d] := fun _ _ _ _ => by rw [hD]; rfl
 have uf : ∀ a b c d, sub (D a b c d) 0 20 = some (D a b c d) := fun _ _ _ _ => by rw [hD]; rfl
 have ul : ∀ a b c d, (D a b c d).length = 20 := fun _ _ _ _ => by rw [hD]; rfl
 have uz : ∀ a b c d, splice zCells 0 (D a b c d) = some (D a b c d) := fun _ _ _ _ => by rw [hD]; rfl
 have z45 : zCells = [str [], .slice none 0 0, .slice none 0 0, .slice none 0 0, .int .i64 0, .int .i64 0, str [], .int .i64 0, .int .i64 0, str [], .slice none 0 0, .slice none 0 0, .int .i64 0, .slice none 0 0, .int .i64 0, .int .i64 0, .int .i64 0, .int .i64 0, .int .i64 0, .int .i64 0] := rfl
 rw [hcD] at hlen hfull ⊢
 clear hca hcD
 obtain ⟨q, hq⟩ : ∃ q : List Value, [.int .i64 q0, .int .i64 q1, .int .i64 q2] = q := ⟨_, rfl⟩
 rw [hq]
 have y0 : sub q 0 1 = some [.int .i64 q0] := by rw [← hq]; rfl
 have y1 : sub q 1 1 = some [.int .i64 q1] := by rw [← hq]; rfl
 have y2 : sub q 2 1 = some [.int .i64 q2] := by rw [← hq]; rfl
 have yl : q.length = 3 := by rw [← hq]; rfl
 refine ev_go Tryz.func18 rfl rfl ?_
 simp (maxSteps := 1000000) (disch := first | exact dS | fail) only [↓bD, bU, reduceMul, reduceEqDiff, reduceAdd, Nat.reduceBEq, reduceIte, splice_succ, ap22, ap23, ap24, ap25, ap26, ap38, ap49, ap74, hlen, yl, y1]
 refine (mod_ok (m := 7) b1.1 b1.2 (by omega) (by omega)).mono ?_
 rintro r rfl
 obtain ⟨j, hj, hj7⟩ : ∃ j : Nat, q1 % 7 = (j : Int) ∧ j < 7 := ⟨(q1 % 7).toNat, by omega, by omega⟩
 rw [hj]
 obtain ⟨A0, hA0⟩ : ∃ A0, ((σ.new (D vl vc vr vt)).new q).new [str [], .slice none 0 0, .slice none 0 0, .slice none 0 0, .int .i64 0, .int .i64 0, str [], .int .i64 0, .int .i64 0, str [], .slice none 0 0, .slice none 0 0, .int .i64 0, .slice none 0 0, .int .i64 0, .int .i64 0, .int .i64 0, .int .i64 0, .int .i64 0, .int .i64 0] = A0 := ⟨_, rfl⟩
 have hEA0 : Ext σ A0 := by rw [← hA0]; exact eX
 have nA0 : A0.n = σ.n + 3 := by rw [← hA0]; rfl
 have pA0 : A0.orow σ.n = some (D vl vc vr vt) := by rw [← hA0]; exact cL
 have qA0 : A0.row (σ.n + 1) = some q := by rw [← hA0]; exact cL
 have zA0 : A0.orow (σ.n + 2) = some zCells := by rw [← hA0]; exact cL1 z45
 rw [hA0]
 have pA0' := row_of pA0
 have pA0' := row_of pA0
 simp (maxSteps := 1000000) (disch := first | exact dS | fail) only [↓bD, bU, reduceMul, reduceEqDiff, reduceAdd, Nat.reduceBEq, reduceIte, splice_succ, ap22, ap23, ap24, ap49, ap74, pA0', u1]
 refine ev_clone (size := 2) (rows := T.lots.map Lot.row) (fun _ _ _ _ => ap33) (orow_new_same (Nat.le_refl _) (Nat.le_refl _)) (by simp) (hl.keep (keep_all.trans (Keep.of_ext (hEA0.new' _)))) (by rw [List.length_map]; have := hle.1; omega) ?_
 rintro V1 S1 ho1 hX1
 obtain ⟨hs1, hq1⟩ : cellsL V1 = [V1] ∧ isTup V1 = false := by obtain ⟨va, h⟩ := OL.shape ho1; rw [h]; exact ⟨rfl, rfl⟩
 have hn1 := hX1.n
 simp only [new_n] at hn1
 have eX1 : Ext A0 S1 := ⟨by omega, fun b hb => by rw [hX1.same b (by simp; omega) (by omega), new_get, if_neg (by omega)]⟩
 have pS1 : S1.orow σ.n = some (D vl vc vr vt) := by rw [eX1.orow (by omega)]; exact pA0
 have qS1 : S1.row (σ.n + 1) = some q := by rw [eX1.row (by omega)]; exact qA0
 simp (maxSteps := 1000000) (disch := first | exact dS | fail) only [↓bD, bU, reduceMul, reduceEqDiff, reduceAdd, Nat.reduceBEq, reduceIte, splice_succ, ap22, ap23, ap24, ap49, ap74, pS1, w1, hs1, hq1]
 obtain ⟨A1, hA1⟩ : ∃ A1, S1.upd σ.n (D V1 vc vr vt) = A1 := ⟨_, rfl⟩
 have nA1 : A1.n = S1.n := by rw [← hA1]; rfl
 have hEA1 : Ext σ A1 := by rw [← hA1]; exact (hEA0.trans eX1).upd (Nat.le_refl _) _
 have eY1 : ExtX σ.n A0 A1 := by rw [← hA1]; exact (ExtX.of eX1).upd _
 have pA1 : A1.orow σ.n = some (D V1 vc vr vt) := by rw [← hA1]; exact orow_upd_same
 have qA1 : A1.row (σ.n + 1) = some q := by rw [eY1.row (by omega) (by omega)]; exact qA0
 have zA1 : A1.orow (σ.n + 2) = some zCells := by rw [eY1.orow (by omega) (by omega)]; exact zA0
 have ko1 : OL A0.n A1 2 V1 (T.lots.map Lot.row) := by rw [← hA1]; exact OL.keepX ho1 (ExtX.refl.upd _) (by omega)
 have mn1 : A0.n < A1.n := by omega
 rw [hA1]
 clear hA1
 have pA1' := row_of pA1
 simp (maxSteps := 1000000) (disch := first | exact dS | fail) only [↓bD, bU, reduceMul, reduceEqDiff, reduceAdd, Nat.reduceBEq, reduceIte, splice_succ, ap22, ap23, ap24, ap49, ap74, pA1', u2]
 refine ev_clone (size := 5) (rows := T.crits.map Crit.row) (fun _ _ _ _ => ap34) (orow_new_same (Nat.le_refl _) (Nat.le_refl _)) (by simp) (hc.keep (keep_all.trans (Keep.of_ext (hEA1.new' _)))) (by rw [List.length_map]; have := hle.2.1; omega) ?_
 rintro V2 S2 ho2 hX2
 obtain ⟨hs2, hq2⟩ : cellsL V2 = [V2] ∧ isTup V2 = false := by obtain ⟨va, h⟩ := OL.shape ho2; rw [h]; exact ⟨rfl, rfl⟩
 have hn2 := hX2.n
 simp only [new_n] at hn2
 have eX2 : Ext A1 S2 := ⟨by omega, fun b hb => by rw [hX2.same b (by simp; omega) (by omega), new_get, if_neg (by omega)]⟩
 have pS2 : S2.orow σ.n = some (D V1 vc vr vt) := by rw [eX2.orow (by omega)]; exact pA1
 have qS2 : S2.row (σ.n + 1) = some q := by rw [eX2.row (by omega)]; exact qA1
 simp (maxSteps := 1000000) (disch := first | exact dS | fail) only [↓bD, bU, reduceMul, reduceEqDiff, reduceAdd, Nat.reduceBEq, reduceIte, splice_succ, ap22, ap23, ap24, ap49, ap74, pS2, w2, hs2, hq2]
 obtain ⟨A2, hA2⟩ : ∃ A2, S2.upd σ.n (D V1 V2 vr vt) = A2 := ⟨_, rfl⟩
 have nA2 : A2.n = S2.n := by rw [← hA2]; rfl
 have hEA2 : Ext σ A2 := by rw [← hA2]; exact (hEA1.trans eX2).upd (Nat.le_refl _) _
 have eY2 : ExtX σ.n A1 A2 := by rw [← hA2]; exact (ExtX.of eX2).upd _
 have pA2 : A2.orow σ.n = some (D V1 V2 vr vt) := by rw [← hA2]; exact orow_upd_same
 have qA2 : A2.row (σ.n + 1) = some q := by rw [eY2.row (by omega) (by omega)]; exact qA1
 have zA2 : A2.orow (σ.n + 2) = some zCells := by rw [eY2.orow (by omega) (by omega)]; exact zA1
 have ko2 : OL A1.n A2 5 V2 (T.crits.map Crit.row) := by rw [← hA2]; exact OL.keepX ho2 (ExtX.refl.upd _) (by omega)
 have mn2 : A1.n < A2.n := by omega
 rw [hA2]
 clear hA2
 have pA2' := row_of pA2
 simp (maxSteps := 1000000) (disch := first | exact dS | fail) only [↓bD, bU, reduceMul, reduceEqDiff, reduceAdd, Nat.reduceBEq, reduceIte, splice_succ, ap22, ap23, ap24, ap49, ap74, pA2', u3]
 refine ev_clone (size := 3) (rows := T.reqs.map Req.row) (fun _ _ _ _ => ap35) (orow_new_same (Nat.le_refl _) (Nat.le_refl _)) (by simp) (hr.keep (keep_all.trans (Keep.of_ext (hEA2.new' _)))) (by rw [List.length_map]; have := hle.2.2.1; omega) ?_
 rintro V3 S3 ho3 hX3
 obtain ⟨hs3, hq3⟩ : cellsL V3 = [V3] ∧ isTup V3 = false := by obtain ⟨va, h⟩ := OL.shape ho3; rw [h]; exact ⟨rfl, rfl⟩
 have hn3 := hX3.n
 simp only [new_n] at hn3
 have eX3 : Ext A2 S3 := ⟨by omega, fun b hb => by rw [hX3.same b (by simp; omega) (by omega), new_get, if_neg (by omega)]⟩
 have pS3 : S3.orow σ.n = some (D V1 V2 vr vt) := by rw [eX3.orow (by omega)]; exact pA2
 have qS3 : S3.row (σ.n + 1) = some q := by rw [eX3.row (by omega)]; exact qA2
 simp (maxSteps := 1000000) (disch := first | exact dS | fail) only [↓bD, bU, reduceMul, reduceEqDiff, reduceAdd, Nat.reduceBEq, reduceIte, splice_succ, ap22, ap23, ap24, ap49, ap74, pS3, w3, hs3, hq3]
 obtain ⟨A3, hA3⟩ : ∃ A3, S3.upd σ.n (D V1 V2 V3 vt) = A3 := ⟨_, rfl⟩
 have nA3 : A3.n = S3.n := by rw [← hA3]; rfl
 have hEA3 : Ext σ A3 := by rw [← hA3]; exact (hEA2.trans eX3).upd (Nat.le_refl _) _
 have eY3 : ExtX σ.n A2 A3 := by rw [← hA3]; exact (ExtX.of eX3).upd _
 have pA3 : A3.orow σ.n = some (D V1 V2 V3 vt) := by rw [← hA3]; exact orow_upd_same
 have qA3 : A3.row (σ.n + 1) = some q := by rw [eY3.row (by omega) (by omega)]; exact qA2
 have zA3 : A3.orow (σ.n + 2) = some zCells := by rw [eY3.orow (by omega) (by omega)]; exact zA2
 have ko3 : OL A2.n A3 3 V3 (T.reqs.map Req.row) := by rw [← hA3]; exact OL.keepX ho3 (ExtX.refl.upd _) (by omega)
 have mn3 : A2.n < A3.n := by omega
 rw [hA3]
 clear hA3
 have pA3' := row_of pA3
 simp (maxSteps := 1000000) (disch := first | exact dS | fail) only [↓bD, bU, reduceMul, reduceEqDiff, reduceAdd, Nat.reduceBEq, reduceIte, splice_succ, ap22, ap23, ap24, ap49, ap74, pA3', u4]
 refine ev_clone (size := 1) (rows := T.ties.map tieRow) (fun _ _ _ _ => ap41) (orow_new_same (Nat.le_refl _) (Nat.le_refl _)) (by simp) (ht.keep (keep_all.trans (Keep.of_ext (hEA3.new' _)))) (by rw [List.length_map]; have := hle.2.2.2.1; omega) ?_
 rintro V4 S4 ho4 hX4
 obtain ⟨hs4, hq4⟩ : cellsL V4 = [V4] ∧ isTup V4 = false := by obtain ⟨va, h⟩ := OL.shape ho4; rw [h]; exact ⟨rfl, rfl⟩
 have hn4 := hX4.n
 simp only [new_n] at hn4
 have eX4 : Ext A3 S4 := ⟨by omega, fun b hb => by rw [hX4.same b (by simp; omega) (by omega), new_get, if_neg (by omega)]⟩
 have pS4 : S4.orow σ.n = some (D V1 V2 V3 vt) := by rw [eX4.orow (by omega)]; exact pA3
 have qS4 : S4.row (σ.n + 1) = some q := by rw [eX4.row (by omega)]; exact qA3
 simp (maxSteps := 1000000) (disch := first | exact dS | fail) only [↓bD, bU, reduceMul, reduceEqDiff, reduceAdd, Nat.reduceBEq, reduceIte, splice_succ, ap22, ap23, ap24, ap49, ap74, pS4, w4, hs4, hq4, qS4, y0]
 obtain ⟨A4, hA4⟩ : ∃ A4, S4.upd σ.n (D V1 V2 V3 V4) = A4 := ⟨_, rfl⟩
 have nA4 : A4.n = S4.n := by rw [← hA4]; rfl
 have hEA4 : Ext σ A4 := by rw [← hA4]; exact (hEA3.trans eX4).upd (Nat.le_refl _) _
 have eY4 : ExtX σ.n A3 A4 := by rw [← hA4]; exact (ExtX.of eX4).upd _
 have pA4 : A4.orow σ.n = some (D V1 V2 V3 V4) := by rw [← hA4]; exact orow_upd_same
 have qA4 : A4.row (σ.n + 1) = some q := by rw [eY4.row (by omega) (by omega)]; exact qA3
 have zA4 : A4.orow (σ.n + 2) = some zCells := by rw [eY4.orow (by omega) (by omega)]; exact zA3
 have ko4 : OL A3.n A4 1 V4 (T.ties.map tieRow) := by rw [← hA4]; exact OL.keepX ho4 (ExtX.refl.upd _) (by omega)
 have mn4 : A3.n < A4.n := by omega
 rw [hA4]
 clear hA4
 have o1 := OL.keepX (OL.keepX (OL.keepX ko1 eY2 (by omega)) eY3 (by omega)) eY4 (by omega)
 have o2 := OL.keepX (OL.keepX ko2 eY3 (by omega)) eY4 (by omega)
 have o3 := OL.keepX ko3 eY4 (by omega)
 have o4 := ko4
 have k1 : ∀ b, blkOf V1 = some b → A0.n ≤ b ∧ b < A1.n := fun b hb => ko1.blk hb
 have k2 : ∀ b, blkOf V2 = some b → A1.n ≤ b ∧ b < A2.n := fun b hb => ko2.blk hb
 have k3 : ∀ b, blkOf V3 = some b → A2.n ≤ b ∧ b < A3.n := fun b hb => ko3.blk hb
 have k4 : ∀ b, blkOf V4 = some b → A3.n ≤ b ∧ b < A4.n := fun b hb => ko4.blk hb
 clear ko1 ko2 ko3 ko4 ho1 ho2 ho3 ho4 hX1 hX2 hX3 hX4 eX1 eX2 eX3 eX4 eY1 eY2 eY3 eY4 pS1 pS2 pS3 pS4 qS1 qS2 qS3 qS4 pA0 pA1 pA2 pA3 pA0' pA1' pA2' pA3' qA0 qA1 qA2 qA3 zA0 zA1 zA2 zA3 nA1 nA2 nA3 nA4 hn1 hn2 hn3 hn4
 have pA4' := row_of pA4
 have hle' : T.Le (n + 1) := ⟨by have := hle.1; omega, by have := hle.2.1; omega, by have := hle.2.2.1; omega, by have := hle.2.2.2.1; omega, by have := hle.2.2.2.2; omega⟩
 refine (mod_ok (m := 12) b0.1 b0.2 (by omega) (by omega)).mono ?_
 rintro r rfl
 obtain ⟨m, hm, hm12⟩ : ∃ m : Nat, q0 % 12 = (m : Int) ∧ m < 12 := ⟨(q0 % 12).toNat, by omega, by omega⟩
 rw [hm]
 have fin : ∀ (F : St) (W1 W2 W3 W4 Wk : Value) (ws : List Value) (T' : Tn) (e : List Value), SLs F 2 W1 (T'.lots.map Lot.row) → SLs F 5 W2 (T'.crits.map Crit.row) → SLs F 3 W3 (T'.reqs.map Req.row) → ExAt F e T'.f → SLs F 1 W4 (T'.ties.map tieRow) →
   SLs F 1 Wk (ws.map fun x => [x]) → All2 (Ints F) ws T'.combos → TnX F (tnRow T'.name W1 W2 W3 T'.low T'.high e W4 T'.most Wk T'.budget T'.t) T' :=
  fun F W1 W2 W3 W4 Wk ws T' e h1 h2 h3 h4 h5 h6 h7 => ⟨W1, W2, W3, e, W4, Wk, ws, rfl, h1, h2, h3, h4, h5, h6, h7⟩
 have hH1 : ∀ q ∈ H, q < A0.n := fun q hq => by have := hH0 q hq; omega
 have hH2 : ∀ q ∈ H, q < A1.n := fun q hq => by have := hH0 q hq; omega
 have hH3 : ∀ q ∈ H, q < A2.n := fun q hq => by have := hH0 q hq; omega
 have hH4 : ∀ q ∈ H, q < A3.n := fun q hq => by have := hH0 q hq; omega
 have hH5 : ∀ q ∈ H, q < A4.n := fun q hq => by have := hH0 q hq; omega
 have ud : D V1 V2 V3 V4 = tnRow T.name V1 V2 V3 T.low T.high [x1, x2, x3, x4, x5] V4 T.most vk T.budget T.t := by rw [hD]
 rcases (by omega : m = 0 ∨ m = 1 ∨ m = 2 ∨ m = 3 ∨ m = 4 ∨ m = 5 ∨ m = 6 ∨ m = 7 ∨ m = 8 ∨ m = 9 ∨ m = 10 ∨ m = 11) with rfl | rfl | rfl | rfl | rfl | rfl | rfl | rfl | rfl | rfl | rfl | rfl
 ·have zz : decide (((0 : Nat) : Int) = 0) = true := by decide
  by_cases hj1 : j < T.lots.length
  ·have hc1 : decide (j < (T.lots.map Lot.row).length) = true := by rw [List.length_map, decide_eq_true_iff]; exact hj1
   obtain ⟨hr0, ⟨hV, hnil⟩ | ⟨bb, sp, hV, hsp, hb1, hb2, hb3⟩⟩ := o1
   ·have h0 := congrArg List.length hnil
    rw [List.length_map, List.length_nil] at h0
    omega
   subst hV
   obtain ⟨x, hxj⟩ := at_some hj1
   have hxr := getmap Lot.row hxj
   have hxl : x.most = x.most := rfl
   obtain ⟨W, hW⟩ : ∃ W, wrapF .i64 (x.most + q2) = W := ⟨_, rfl⟩
   have hW64 : In64 W := by rw [← hW]; exact wrapF_in64 _
   have e1 : sub (T.lots.map Lot.row).flatten (j * 2 + 1) 1 = some [.int .i64 x.most] := by rw [sub_rows (k := 2) hr0 hxr (by omega)]; rfl
   have e2 : splice (T.lots.map Lot.row).flatten (j * 2 + 1) [.int .i64 W] = some (((T.lots.set j { x with most := W }).map Lot.row).flatten) := by
    rw [splice_rows (size := 2) hr0 hxr (by omega), List.map_set]; rfl
   have hb3' := row_of hb3
   have hbb := k1 bb rfl
   have hblt : Nat.blt j (T.lots.map Lot.row).length = true := by rw [Nat.blt_eq, List.length_map]; exact hj1
   simp (maxSteps := 1000000) (disch := first | exact dS | fail) only [↓bD, bU, reduceMul, reduceEqDiff, reduceAdd, Nat.reduceBEq, reduceIte, splice_succ, ap22, ap23, ap24, ap49, ap74, zz, hc1, pA4, pA4', qA4, y2, u1, hb3', hb3, hblt, e1, e2, hW, as_newb, as_upd]
   refine Must.intro (by (repeat first | simp (disch := omega) only [as_read, as_upd] | rw [as_ord (by kernel_rfl)]); rfl) ?_
   simp (maxSteps := 1000000) (disch := first | exact dS | fail) only [↓bD, bU, reduceMul, reduceEqDiff, reduceAdd, Nat.reduceBEq, reduceIte, splice_succ, ap22, ap23, ap24, ap49, ap74, pA4, pA4', uf, ul, uz, zA4, Tryz.results18]
   obtain ⟨F, hFd⟩ : ∃ F, (A4.upd bb (((T.lots.set j { x with most := W }).map Lot.row).flatten)).upd (σ.n + 1 + 1) (D (.slice (some ⟨bb, 0, sp⟩) (T.lots.map Lot.row).length (T.lots.map Lot.row).length) V2 V3 V4) = F := ⟨_, rfl⟩
   have nF : A4.n ≤ F.n := by rw [← hFd]; simp
   have o2F := OL.same o2 nF fun b h1 h2 h3 => by have := k2 b h3; have := k1 bb rfl; rw [← hFd, upd_get, if_neg (by omega), upd_get, if_neg (by omega)]
   have o3F := OL.same o3 nF fun b h1 h2 h3 => by have := k3 b h3; have := k1 bb rfl; rw [← hFd, upd_get, if_neg (by omega), upd_get, if_neg (by omega)]
   have o4F := OL.same o4 nF fun b h1 h2 h3 => by have := k4 b h3; have := k1 bb rfl; rw [← hFd, upd_get, if_neg (by omega), upd_get, if_neg (by omega)]
   have o1F : OL A0.n F 2 (.slice (some ⟨bb, 0, sp⟩) (T.lots.map Lot.row).length (T.lots.map Lot.row).length) ((T.lots.set j { x with most := W }).map Lot.row) := ⟨fun r hr => by obtain ⟨y, -, rfl⟩ := List.mem_map.1 hr; rfl, .inr ⟨bb, sp, by rw [List.length_map, List.length_map, List.length_set], hsp, hb1, by omega, by rw [← hFd, orow_upd_ne (by omega)]; exact orow_upd_same⟩⟩
   rw [hFd]
   have ud' := ud
   rw [ud]
   have hF : Ext σ F := by rw [← hFd]; exact (hEA4.upd (by omega) _).upd (by omega) _
   exact ⟨_, { T with lots := T.lots.set j { x with most := W } }, _, rfl, hF, fin _ (.slice (some ⟨bb, 0, sp⟩) (T.lots.map Lot.row).length (T.lots.map Lot.row).length) V2 V3 V4 vk vs { T with lots := T.lots.set j { x with most := W } } [x1, x2, x3, x4, x5] (OL.hide o1F hH1) (OL.hide o2F hH2) (OL.hide o3F hH3) (hx.keep (keep_ext hF)) (OL.hide o4F hH4) (hk.keep (keep_ext hF)) (hkk.mono fun _ _ h => SL.keep h (keep_ext hF)), ⟨by simp only [List.length_set]; exact ok.lots, fun y hy => by
     rcases List.mem_or_eq_of_mem_set hy with h | rfl
     ·exact ok.lot y h
     ·have := ok.lot x (List.mem_of_getElem? hxj); exact ⟨this.1, this.2.1, hW64⟩, ok.crits, ok.crit, ok.reqs, ok.req, ok.low, ok.high, ok.ties, ok.tie, ok.most, ok.combos, ok.combo, ok.budget, ok.tim⟩, ⟨by show _ ≤ _; simp; have := hle'.1; omega, by show _ ≤ _; simp; have := hle'.2.1; omega, by show _ ≤ _; simp; have := hle'.2.2.1; omega, hle'.2.2.2.1, hle'.2.2.2.2⟩, rfl⟩
  ·have hc1 : decide (j < (T.lots.map Lot.row).length) = false := by rw [List.length_map, decide_eq_false_iff_not]; exact hj1
   obtain ⟨va, rfl⟩ := OL.shape o1
   simp (maxSteps := 1000000) (disch := first | exact dS | fail) only [↓bD, bU, reduceMul, reduceEqDiff, reduceAdd, Nat.reduceBEq, reduceIte, splice_succ, ap22, ap23, ap24, ap49, ap74, zz, hc1, pA4, pA4', u1, uf, ul, uz, zA4, Tryz.results18]
   obtain ⟨F, hFd⟩ : ∃ F, A4.upd (σ.n + 1 + 1) (D (.slice va (T.lots.map Lot.row).length (T.lots.map Lot.row).length) V2 V3 V4) = F := ⟨_, rfl⟩
   have nF : A4.n ≤ F.n := by rw [← hFd]; simp
   have sF : ∀ b, A0.n ≤ b → b < A4.n → F.h.get b = A4.h.get b := fun b h1 h2 => by rw [← hFd, upd_get, if_neg (by omega)]
   have o1F := OL.same o1 nF fun b h1 h2 _ => sF b (by omega) h2
   have o2F := OL.same o2 nF fun b h1 h2 _ => sF b (by omega) h2
   have o3F := OL.same o3 nF fun b h1 h2 _ => sF b (by omega) h2
   have o4F := OL.same o4 nF fun b h1 h2 _ => sF b (by omega) h2
   rw [hFd, ud]
   have hF : Ext σ F := by rw [← hFd]; exact hEA4.upd (by omega) _
   exact ⟨_, T, _, rfl, hF, fin _ _ _ _ _ vk vs T [x1, x2, x3, x4, x5] (OL.hide o1F hH1) (OL.hide o2F hH2) (OL.hide o3F hH3) (hx.keep (keep_ext hF)) (OL.hide o4F hH4) (hk.keep (keep_ext hF)) (hkk.mono fun _ _ h => SL.keep h (keep_ext hF)), ok, hle', rfl⟩
 ·have zz : decide (((1 : Nat) : Int) = 0) = false ∧ decide (((1 : Nat) : Int) = 1) = true := by decide
  by_cases hj1 : j < T.crits.length
  ·have hc1 : decide (j < (T.crits.map Crit.row).length) = true := by rw [List.length_map, decide_eq_true_iff]; exact hj1
   obtain ⟨hr0, ⟨hV, hnil⟩ | ⟨bb, sp, hV, hsp, hb1, hb2, hb3⟩⟩ := o2
   ·have h0 := congrArg List.length hnil
    rw [List.length_map, List.length_nil] at h0
    omega
   subst hV
   obtain ⟨x, hxj⟩ := at_some hj1
   have hxr := getmap Crit.row hxj
   have hxl : x.high = x.high := rfl
   obtain ⟨W, hW⟩ : ∃ W, wrapF .i64 (x.high + q2) = W := ⟨_, rfl⟩
   have hW64 : In64 W := by rw [← hW]; exact wrapF_in64 _
   have e1 : sub (T.crits.map Crit.row).flatten (j * 5 + 3) 1 = some [.int .i64 x.high] := by rw [sub_rows (k := 5) hr0 hxr (by omega)]; rfl
   have e2 : splice (T.crits.map Crit.row).flatten (j * 5 + 3) [.int .i64 W] = some (((T.crits.set j { x with high := W }).map Crit.row).flatten) := by
    rw [splice_rows (size := 5) hr0 hxr (by omega), List.map_set]; rfl
   have hb3' := row_of hb3
   have hbb := k2 bb rfl
   have hblt : Nat.blt j (T.crits.map Crit.row).length = true := by rw [Nat.blt_eq, List.length_map]; exact hj1
   simp (maxSteps := 1000000) (disch := first | exact dS | fail) only [↓bD, bU, reduceMul, reduceEqDiff, reduceAdd, Nat.reduceBEq, reduceIte, splice_succ, ap22, ap23, ap24, ap49, ap74, zz, hc1, pA4, pA4', qA4, y2, u2, hb3', hb3, hblt, e1, e2, hW, as_newb, as_upd]
   refine Must.intro (by (repeat first | simp (disch := omega) only [as_read, as_upd] | rw [as_ord (by kernel_rfl)]); rfl) ?_
   simp (maxSteps := 1000000) (disch := first | exact dS | fail) only [↓bD, bU, reduceMul, reduceEqDiff, reduceAdd, Nat.reduceBEq, reduceIte, splice_succ, ap22, ap23, ap24, ap49, ap74, pA4, pA4', uf, ul, uz, zA4, Tryz.results18]
   obtain ⟨F, hFd⟩ : ∃ F, (A4.upd bb (((T.crits.set j { x with high := W }).map Crit.row).flatten)).upd (σ.n + 1 + 1) (D V1 (.slice (some ⟨bb, 0, sp⟩) (T.crits.map Crit.row).length (T.crits.map Crit.row).length) V3 V4) = F := ⟨_, rfl⟩
   have nF : A4.n ≤ F.n := by rw [← hFd]; simp
   have o1F := OL.same o1 nF fun b h1 h2 h3 => by have := k1 b h3; have := k2 bb rfl; rw [← hFd, upd_get, if_neg (by omega), upd_get, if_neg (by omega)]
   have o3F := OL.same o3 nF fun b h1 h2 h3 => by have := k3 b h3; have := k2 bb rfl; rw [← hFd, upd_get, if_neg (by omega), upd_get, if_neg (by omega)]
   have o4F := OL.same o4 nF fun b h1 h2 h3 => by have := k4 b h3; have := k2 bb rfl; rw [← hFd, upd_get, if_neg (by omega), upd_get, if_neg (by omega)]
   have o2F : OL A1.n F 5 (.slice (some ⟨bb, 0, sp⟩) (T.crits.map Crit.row).length (T.crits.map Crit.row).length) ((T.crits.set j { x with high := W }).map Crit.row) := ⟨fun r hr => by obtain ⟨y, -, rfl⟩ := List.mem_map.1 hr; rfl, .inr ⟨bb, sp, by rw [List.length_map, List.length_map, List.length_set], hsp, hb1, by omega, by rw [← hFd, orow_upd_ne (by omega)]; exact orow_upd_same⟩⟩
   rw [hFd]
   have ud' := ud
   rw [ud]
   have hF : Ext σ F := by rw [← hFd]; exact (hEA4.upd (by omega) _).upd (by omega) _
   exact ⟨_, { T with crits := T.crits.set j { x with high := W } }, _, rfl, hF, fin _ V1 (.slice (some ⟨bb, 0, sp⟩) (T.crits.map Crit.row).length (T.crits.map Crit.row).length) V3 V4 vk vs { T with crits := T.crits.set j { x with high := W } } [x1, x2, x3, x4, x5] (OL.hide o1F hH1) (OL.hide o2F hH2) (OL.hide o3F hH3) (hx.keep (keep_ext hF)) (OL.hide o4F hH4) (hk.keep (keep_ext hF)) (hkk.mono fun _ _ h => SL.keep h (keep_ext hF)), ⟨ok.lots, ok.lot, by simp only [List.length_set]; exact ok.crits, fun y hy => by
     rcases List.mem_or_eq_of_mem_set hy with h | rfl
     ·exact ok.crit y h
     ·have := ok.crit x (List.mem_of_getElem? hxj); exact ⟨this.1, this.2.1, this.2.2.1, hW64⟩, ok.reqs, ok.req, ok.low, ok.high, ok.ties, ok.tie, ok.most, ok.combos, ok.combo, ok.budget, ok.tim⟩, ⟨by show _ ≤ _; simp; have := hle'.1; omega, by show _ ≤ _; simp; have := hle'.2.1; omega, by show _ ≤ _; simp; have := hle'.2.2.1; omega, hle'.2.2.2.1, hle'.2.2.2.2⟩, rfl⟩
  ·have hc1 : decide (j < (T.crits.map Crit.row).length) = false := by rw [List.length_map, decide_eq_false_iff_not]; exact hj1
   obtain ⟨va, rfl⟩ := OL.shape o2
   simp (maxSteps := 1000000) (disch := first | exact dS | fail) only [↓bD, bU, reduceMul, reduceEqDiff, reduceAdd, Nat.reduceBEq, reduceIte, splice_succ, ap22, ap23, ap24, ap49, ap74, zz, hc1, pA4, pA4', u2, uf, ul, uz, zA4, Tryz.results18]
   obtain ⟨F, hFd⟩ : ∃ F, A4.upd (σ.n + 1 + 1) (D V1 (.slice va (T.crits.map Crit.row).length (T.crits.map Crit.row).length) V3 V4) = F := ⟨_, rfl⟩
   have nF : A4.n ≤ F.n := by rw [← hFd]; simp
   have sF : ∀ b, A0.n ≤ b → b < A4.n → F.h.get b = A4.h.get b := fun b h1 h2 => by rw [← hFd, upd_get, if_neg (by omega)]
   have o1F := OL.same o1 nF fun b h1 h2 _ => sF b (by omega) h2
   have o2F := OL.same o2 nF fun b h1 h2 _ => sF b (by omega) h2
   have o3F := OL.same o3 nF fun b h1 h2 _ => sF b (by omega) h2
   have o4F := OL.same o4 nF fun b h1 h2 _ => sF b (by omega) h2
   rw [hFd, ud]
   have hF : Ext σ F := by rw [← hFd]; exact hEA4.upd (by omega) _
   exact ⟨_, T, _, rfl, hF, fin _ _ _ _ _ vk vs T [x1, x2, x3, x4, x5] (OL.hide o1F hH1) (OL.hide o2F hH2) (OL.hide o3F hH3) (hx.keep (keep_ext hF)) (OL.hide o4F hH4) (hk.keep (keep_ext hF)) (hkk.mono fun _ _ h => SL.keep h (keep_ext hF)), ok, hle', rfl⟩
 ·have zz : decide (((2 : Nat) : Int) = 0) = false ∧ decide (((2 : Nat) : Int) = 1) = false ∧ decide (((2 : Nat) : Int) = 2) = true := by decide
  by_cases hj1 : j < T.reqs.length
  ·have hc1 : decide (j < (T.reqs.map Req.row).length) = true := by rw [List.length_map, decide_eq_true_iff]; exact hj1
   obtain ⟨hr0, ⟨hV, hnil⟩ | ⟨bb, sp, hV, hsp, hb1, hb2, hb3⟩⟩ := o3
   ·have h0 := congrArg List.length hnil
    rw [List.length_map, List.length_nil] at h0
    omega
   subst hV
   obtain ⟨x, hxj⟩ := at_some hj1
   have hxr := getmap Req.row hxj
   have hxl : x.value = x.value := rfl
   obtain ⟨W, hW⟩ : ∃ W, wrapF .i64 (x.value + q2) = W := ⟨_, rfl⟩
   have hW64 : In64 W := by rw [← hW]; exact wrapF_in64 _
   have e1 : sub (T.reqs.map Req.row).flatten (j * 3 + 2) 1 = some [.int .i64 x.value] := by rw [sub_rows (k := 3) hr0 hxr (by omega)]; rfl
   have e2 : splice (T.reqs.map Req.row).flatten (j * 3 + 2) [.int .i64 W] = some (((T.reqs.set j { x with value := W }).map Req.row).flatten) := by
    rw [splice_rows (size := 3) hr0 hxr (by omega), List.map_set]; rfl
   have hb3' := row_of hb3
   have hbb := k3 bb rfl
   have hblt : Nat.blt j (T.reqs.map Req.row).length = true := by rw [Nat.blt_eq, List.length_map]; exact hj1
   simp (maxSteps := 1000000) (disch := first | exact dS | fail) only [↓bD, bU, reduceMul, reduceEqDiff, reduceAdd, Nat.reduceBEq, reduceIte, splice_succ, ap22, ap23, ap24, ap49, ap74, zz, hc1, pA4, pA4', qA4, y2, u3, hb3', hb3, hblt, e1, e2, hW, as_newb, as_upd]
   refine Must.intro (by (repeat first | simp (disch := omega) only [as_read, as_upd] | rw [as_ord (by kernel_rfl)]); rfl) ?_
   simp (maxSteps := 1000000) (disch := first | exact dS | fail) only [↓bD, bU, reduceMul, reduceEqDiff, reduceAdd, Nat.reduceBEq, reduceIte, splice_succ, ap22, ap23, ap24, ap49, ap74, pA4, pA4', uf, ul, uz, zA4, Tryz.results18]
   obtain ⟨F, hFd⟩ : ∃ F, (A4.upd bb (((T.reqs.set j { x with value := W }).map Req.row).flatten)).upd (σ.n + 1 + 1) (D V1 V2 (.slice (some ⟨bb, 0, sp⟩) (T.reqs.map Req.row).length (T.reqs.map Req.row).length) V4) = F := ⟨_, rfl⟩
   have nF : A4.n ≤ F.n := by rw [← hFd]; simp
   have o1F := OL.same o1 nF fun b h1 h2 h3 => by have := k1 b h3; have := k3 bb rfl; rw [← hFd, upd_get, if_neg (by omega), upd_get, if_neg (by omega)]
   have o2F := OL.same o2 nF fun b h1 h2 h3 => by have := k2 b h3; have := k3 bb rfl; rw [← hFd, upd_get, if_neg (by omega), upd_get, if_neg (by omega)]
   have o4F := OL.same o4 nF fun b h1 h2 h3 => by have := k4 b h3; have := k3 bb rfl; rw [← hFd, upd_get, if_neg (by omega), upd_get, if_neg (by omega)]
   have o3F : OL A2.n F 3 (.slice (some ⟨bb, 0, sp⟩) (T.reqs.map Req.row).length (T.reqs.map Req.row).length) ((T.reqs.set j { x with value := W }).map Req.row) := ⟨fun r hr => by obtain ⟨y, -, rfl⟩ := List.mem_map.1 hr; rfl, .inr ⟨bb, sp, by rw [List.length_map, List.length_map, List.length_set], hsp, hb1, by omega, by rw [← hFd, orow_upd_ne (by omega)]; exact orow_upd_same⟩⟩
   rw [hFd]
   have ud' := ud
   rw [ud]
   have hF : Ext σ F := by rw [← hFd]; exact (hEA4.upd (by omega) _).upd (by omega) _
   exact ⟨_, { T with reqs := T.reqs.set j { x with value := W } }, _, rfl, hF, fin _ V1 V2 (.slice (some ⟨bb, 0, sp⟩) (T.reqs.map Req.row).length (T.reqs.map Req.row).length) V4 vk vs { T with reqs := T.reqs.set j { x with value := W } } [x1, x2, x3, x4, x5] (OL.hide o1F hH1) (OL.hide o2F hH2) (OL.hide o3F hH3) (hx.keep (keep_ext hF)) (OL.hide o4F hH4) (hk.keep (keep_ext hF)) (hkk.mono fun _ _ h => SL.keep h (keep_ext hF)), ⟨ok.lots, ok.lot, ok.crits, ok.crit, by simp only [List.length_set]; exact ok.reqs, fun y hy => by
     rcases List.mem_or_eq_of_mem_set hy with h | rfl
     ·exact ok.req y h
     ·have := ok.req x (List.mem_of_getElem? hxj); exact ⟨this.1, this.2.1, hW64⟩, ok.low, ok.high, ok.ties, ok.tie, ok.most, ok.combos, ok.combo, ok.budget, ok.tim⟩, ⟨by show _ ≤ _; simp; have := hle'.1; omega, by show _ ≤ _; simp; have := hle'.2.1; omega, by show _ ≤ _; simp; have := hle'.2.2.1; omega, hle'.2.2.2.1, hle'.2.2.2.2⟩, rfl⟩
  ·have hc1 : decide (j < (T.reqs.map Req.row).length) = false := by rw [List.length_map, decide_eq_false_iff_not]; exact hj1
   obtain ⟨va, rfl⟩ := OL.shape o3
   simp (maxSteps := 1000000) (disch := first | exact dS | fail) only [↓bD, bU, reduceMul, reduceEqDiff, reduceAdd, Nat.reduceBEq, reduceIte, splice_succ, ap22, ap23, ap24, ap49, ap74, zz, hc1, pA4, pA4', u3, uf, ul, uz, zA4, Tryz.results18]
   obtain ⟨F, hFd⟩ : ∃ F, A4.upd (σ.n + 1 + 1) (D V1 V2 (.slice va (T.reqs.map Req.row).length (T.reqs.map Req.row).length) V4) = F := ⟨_, rfl⟩
   have nF : A4.n ≤ F.n := by rw [← hFd]; simp
   have sF : ∀ b, A0.n ≤ b → b < A4.n → F.h.get b = A4.h.get b := fun b h1 h2 => by rw [← hFd, upd_get, if_neg (by omega)]
   have o1F := OL.same o1 nF fun b h1 h2 _ => sF b (by omega) h2
   have o2F := OL.same o2 nF fun b h1 h2 _ => sF b (by omega) h2
   have o3F := OL.same o3 nF fun b h1 h2 _ => sF b (by omega) h2
   have o4F := OL.same o4 nF fun b h1 h2 _ => sF b (by omega) h2
   rw [hFd, ud]
   have hF : Ext σ F := by rw [← hFd]; exact hEA4.upd (by omega) _
   exact ⟨_, T, _, rfl, hF, fin _ _ _ _ _ vk vs T [x1, x2, x3, x4, x5] (OL.hide o1F hH1) (OL.hide o2F hH2) (OL.hide o3F hH3) (hx.keep (keep_ext hF)) (OL.hide o4F hH4) (hk.keep (keep_ext hF)) (hkk.mono fun _ _ h => SL.keep h (keep_ext hF)), ok, hle', rfl⟩
 ·have zz : decide (((3 : Nat) : Int) = 0) = false ∧ decide (((3 : Nat) : Int) = 1) = false ∧ decide (((3 : Nat) : Int) = 2) = false ∧ decide (((3 : Nat) : Int) = 3) = true := by decide
  have s5 : sub (D V1 V2 V3 V4) 5 1 = some [.int .i64 T.high] := by rw [hD]; rfl
  obtain ⟨W, hW⟩ : ∃ W, wrapF .i64 (T.high + q2) = W := ⟨_, rfl⟩
  have hW64 : In64 W := by rw [← hW]; exact wrapF_in64 _
  have w5 : splice (D V1 V2 V3 V4) 5 [.int .i64 W] = some (tnRow T.name V1 V2 V3 T.low W [x1, x2, x3, x4, x5] V4 T.most vk T.budget T.t) := by rw [hD]; rfl
  have z1 : (tnRow T.name V1 V2 V3 T.low W [x1, x2, x3, x4, x5] V4 T.most vk T.budget T.t).length = 20 := rfl
  have z2 : sub (tnRow T.name V1 V2 V3 T.low W [x1, x2, x3, x4, x5] V4 T.most vk T.budget T.t) 0 20 = some (tnRow T.name V1 V2 V3 T.low W [x1, x2, x3, x4, x5] V4 T.most vk T.budget T.t) := rfl
  have z3 : splice zCells 0 (tnRow T.name V1 V2 V3 T.low W [x1, x2, x3, x4, x5] V4 T.most vk T.budget T.t) = some (tnRow T.name V1 V2 V3 T.low W [x1, x2, x3, x4, x5] V4 T.most vk T.budget T.t) := rfl
  simp (maxSteps := 1000000) (disch := first | exact dS | fail) only [↓bD, bU, reduceMul, reduceEqDiff, reduceAdd, Nat.reduceBEq, reduceIte, splice_succ, ap22, ap23, ap24, ap49, ap74, zz, pA4, pA4', qA4, y2, s5, hW, w5, z1, z2, z3, zA4, Tryz.results18]
  obtain ⟨F, hFd⟩ : ∃ F, (A4.upd σ.n (tnRow T.name V1 V2 V3 T.low W [x1, x2, x3, x4, x5] V4 T.most vk T.budget T.t)).upd (σ.n + 1 + 1) (tnRow T.name V1 V2 V3 T.low W [x1, x2, x3, x4, x5] V4 T.most vk T.budget T.t) = F := ⟨_, rfl⟩
  have nF : A4.n ≤ F.n := by rw [← hFd]; simp
  have sF : ∀ b, A0.n ≤ b → b < A4.n → F.h.get b = A4.h.get b := fun b h1 h2 => by rw [← hFd]; simp only [upd_get, new_get]; rw [if_neg (by omega), if_neg (by omega)]
  have o1F := OL.same o1 nF fun b h1 h2 _ => sF b (by omega) h2
  have o2F := OL.same o2 nF fun b h1 h2 _ => sF b (by omega) h2
  have o3F := OL.same o3 nF fun b h1 h2 _ => sF b (by omega) h2
  have o4F := OL.same o4 nF fun b h1 h2 _ => sF b (by omega) h2
  rw [hFd]
  have hF : Ext σ F := by rw [← hFd]; exact (hEA4.upd (Nat.le_refl _) _).upd (by omega) _
  exact ⟨_, { T with high := W }, _, rfl, hF, fin _ V1 V2 V3 V4 vk vs { T with high := W } [x1, x2, x3, x4, x5] (OL.hide o1F hH1) (OL.hide o2F hH2) (OL.hide o3F hH3) (hx.keep (keep_ext hF)) (OL.hide o4F hH4) (hk.keep (keep_ext hF)) (hkk.mono fun _ _ h => SL.keep h (keep_ext hF)), ⟨ok.lots, ok.lot, ok.crits, ok.crit, ok.reqs, ok.req, ok.low, hW64, ok.ties, ok.tie, ok.most, ok.combos, ok.combo, ok.budget, ok.tim⟩, hle', rfl⟩
 ·have zz : decide (((4 : Nat) : Int) = 0) = false ∧ decide (((4 : Nat) : Int) = 1) = false ∧ decide (((4 : Nat) : Int) = 2) = false ∧ decide (((4 : Nat) : Int) = 3) = false ∧ decide (((4 : Nat) : Int) = 4) = true := by decide
  have s6 : sub (D V1 V2 V3 V4) 6 5 = some [x1, x2, x3, x4, x5] := by rw [hD]; rfl
  simp (maxSteps := 1000000) (disch := first | exact dS | fail) only [↓bD, bU, reduceMul, reduceEqDiff, reduceAdd, Nat.reduceBEq, reduceIte, splice_succ, ap22, ap23, ap24, ap49, ap74, zz, pA4, pA4', qA4, y2, s6]
  refine (name_ok b2).mono ?_
  rintro r ⟨σ6, rfl, hE6⟩
  have n6 := hE6.n
  have w6 : splice (D V1 V2 V3 V4) 6 [str [43], .int .i64 0, .int .i64 0, str [], .slice (some ⟨σ6.n, 0, none⟩) 2 2] = some (tnRow T.name V1 V2 V3 T.low T.high [str [43], .int .i64 0, .int .i64 0, str [], .slice (some ⟨σ6.n, 0, none⟩) 2 2] V4 T.most vk T.budget T.t) := by rw [hD]; rfl
  have p6 : σ6.orow σ.n = some (D V1 V2 V3 V4) := by rw [hE6.orow (by omega)]; exact pA4
  have z6 : σ6.orow (σ.n + 1 + 1) = some zCells := by rw [hE6.orow (by omega)]; exact zA4
  simp (maxSteps := 1000000) (disch := first | exact dS | fail) only [↓bD, bU, reduceMul, reduceEqDiff, reduceAdd, Nat.reduceBEq, reduceIte, splice_succ, ap22, ap23, ap24, ap49, ap74, p6, w6, asx hE6, as_newb, as_upd]
  refine Must.intro (by (repeat first | simp (disch := omega) only [as_read, as_newb, as_upd, asx hE6] | rw [as_ord (by kernel_rfl)]); rfl) ?_
  have z1 : (tnRow T.name V1 V2 V3 T.low T.high [str [43], .int .i64 0, .int .i64 0, str [], .slice (some ⟨σ6.n, 0, none⟩) 2 2] V4 T.most vk T.budget T.t).length = 20 := rfl
  have z2 : sub (tnRow T.name V1 V2 V3 T.low T.high [str [43], .int .i64 0, .int .i64 0, str [], .slice (some ⟨σ6.n, 0, none⟩) 2 2] V4 T.most vk T.budget T.t) 0 20 = some (tnRow T.name V1 V2 V3 T.low T.high [str [43], .int .i64 0, .int .i64 0, str [], .slice (some ⟨σ6.n, 0, none⟩) 2 2] V4 T.most vk T.budget T.t) := rfl
  have z3 : splice zCells 0 (tnRow T.name V1 V2 V3 T.low T.high [str [43], .int .i64 0, .int .i64 0, str [], .slice (some ⟨σ6.n, 0, none⟩) 2 2] V4 T.most vk T.budget T.t) = some (tnRow T.name V1 V2 V3 T.low T.high [str [43], .int .i64 0, .int .i64 0, str [], .slice (some ⟨σ6.n, 0, none⟩) 2 2] V4 T.most vk T.budget T.t) := rfl
  simp (maxSteps := 1000000) (disch := first | exact dS | fail) only [↓bD, bU, reduceMul, reduceEqDiff, reduceAdd, Nat.reduceBEq, reduceIte, splice_succ, ap22, ap23, ap24, ap49, ap74, z1, z2, z3, z6, Tryz.results18]
  obtain ⟨F, hFd⟩ : ∃ F, ((σ6.new [x1, x2, x3, x4, x5, str [110, 97, 109, 101], .int .i64 0, .int .i64 0, str (nameOf q2), .slice none 0 0]).upd σ.n (tnRow T.name V1 V2 V3 T.low T.high [str [43], .int .i64 0, .int .i64 0, str [], .slice (some ⟨σ6.n, 0, none⟩) 2 2] V4 T.most vk T.budget T.t)).upd (σ.n + 1 + 1) (tnRow T.name V1 V2 V3 T.low T.high [str [43], .int .i64 0, .int .i64 0, str [], .slice (some ⟨σ6.n, 0, none⟩) 2 2] V4 T.most vk T.budget T.t) = F := ⟨_, rfl⟩
  have nF : A4.n ≤ F.n := by rw [← hFd]; simp; omega
  have sF : ∀ b, A0.n ≤ b → b < A4.n → F.h.get b = A4.h.get b := fun b h1 h2 => by rw [← hFd]; simp only [upd_get, new_get]; rw [if_neg (by omega), if_neg (by omega), if_neg (by omega), hE6.same b h2]
  have o1F := OL.same o1 nF fun b h1 h2 _ => sF b (by omega) h2
  have o2F := OL.same o2 nF fun b h1 h2 _ => sF b (by omega) h2
  have o3F := OL.same o3 nF fun b h1 h2 _ => sF b (by omega) h2
  have o4F := OL.same o4 nF fun b h1 h2 _ => sF b (by omega) h2
  rw [hFd]
  have rF : F.row σ6.n = some [x1, x2, x3, x4, x5, str [110, 97, 109, 101], .int .i64 0, .int .i64 0, str (nameOf q2), .slice none 0 0] := by rw [← hFd, row_upd_ne (by omega), row_upd_ne (by omega), row_new_same (Nat.le_refl _) (Nat.le_refl _)]
  have hF : Ext σ F := by rw [← hFd]; exact (((hEA4.trans hE6).new' _).upd (Nat.le_refl _) _).upd (by omega) _
  exact ⟨_, { T with f := .mk [43] 0 0 [] [T.f, .mk [110, 97, 109, 101] 0 0 (nameOf q2) []] }, _, rfl, hF, fin _ V1 V2 V3 V4 vk vs { T with f := .mk [43] 0 0 [] [T.f, .mk [110, 97, 109, 101] 0 0 (nameOf q2) []] } [str [43], .int .i64 0, .int .i64 0, str [], .slice (some ⟨σ6.n, 0, none⟩) 2 2] (OL.hide o1F hH1) (OL.hide o2F hH2) (OL.hide o3F hH3) (ex2_at (ra := [x1, x2, x3, x4, x5]) (rb := [str [110, 97, 109, 101], .int .i64 0, .int .i64 0, str (nameOf q2), .slice none 0 0]) (by rw [hide_n, ← hFd]; simp) (by rw [hide_row fun h => by have := hH0 _ h; omega]; exact rF) rfl (hx.keep (keep_ext hF)) ex0_at) (OL.hide o4F hH4) (hk.keep (keep_ext hF)) (hkk.mono fun _ _ h => SL.keep h (keep_ext hF)), ⟨ok.lots, ok.lot, ok.crits, ok.crit, ok.reqs, ok.req, ok.low, ok.high, ok.ties, ok.tie, ok.most, ok.combos, ok.combo, ok.budget, ok.tim⟩, hle', rfl⟩
 ·have zz : decide (((5 : Nat) : Int) = 0) = false ∧ decide (((5 : Nat) : Int) = 1) = false ∧ decide (((5 : Nat) : Int) = 2) = false ∧ decide (((5 : Nat) : Int) = 3) = false ∧ decide (((5 : Nat) : Int) = 4) = false ∧ decide (((5 : Nat) : Int) = 5) = true := by decide
  simp (maxSteps := 1000000) (disch := first | exact dS | fail) only [↓bD, bU, reduceMul, reduceEqDiff, reduceAdd, Nat.reduceBEq, reduceIte, splice_succ, ap22, ap23, ap24, ap49, ap74, zz, pA4, pA4', qA4, y2, u4]
  refine (name_ok b2).mono ?_
  rintro r ⟨σ6, rfl, hE6⟩
  have n6 := hE6.n
  simp (maxSteps := 1000000) (disch := first | exact dS | fail) only [↓bD, bU, reduceMul, reduceEqDiff, reduceAdd, Nat.reduceBEq, reduceIte, splice_succ, ap22, ap23, ap24, ap49, ap74]
  have hoN : OL A3.n (σ6.new (tieRow (nameOf q2))) 1 V4 (T.ties.map tieRow) := OL.ext o4 (hE6.new' _)
  refine ev_append (row := tieRow (nameOf q2)) (fun _ _ _ _ => ap41) hoN (row_new_same (Nat.le_refl _) (Nat.le_refl _)) (sub_full (by simp [Lot.row, tieRow]) (by simp [Lot.row, tieRow])) (by rw [List.length_map]; have := hle'.1; have := hle'.2.2.2.1; omega) (by simp; omega) ?_
  rintro V' S ho' hA -
  obtain ⟨hs', hq'⟩ : cellsL V' = [V'] ∧ isTup V' = false := by obtain ⟨va, h⟩ := OL.shape ho'; rw [h]; exact ⟨rfl, rfl⟩
  have hSn := hA.n
  simp only [new_n] at hSn
  have pS : S.orow σ.n = some (D V1 V2 V3 V4) := by rw [orow_congr (hA.same σ.n (by simp; omega) (fun h => by have := k4 _ h; omega)), orow_new_ne (by omega), hE6.orow (by omega)]; exact pA4
  have zS : S.orow (σ.n + 1 + 1) = some zCells := by rw [orow_congr (hA.same _ (by simp; omega) (fun h => by have := k4 _ h; omega)), orow_new_ne (by omega), hE6.orow (by omega)]; exact zA4
  simp (maxSteps := 1000000) (disch := first | exact dS | fail) only [↓bD, bU, reduceMul, reduceEqDiff, reduceAdd, Nat.reduceBEq, reduceIte, splice_succ, ap22, ap23, ap24, ap49, ap74, pS, hs', hq', w4, asx hE6, as_newb, as_upd]
  refine Must.intro (by (repeat first | simp (disch := omega) only [as_read, as_newb, as_upd, asx hE6] | rw [as_ord (by kernel_rfl)]); rfl) ?_
  simp (maxSteps := 1000000) (disch := first | exact dS | fail) only [↓bD, bU, reduceMul, reduceEqDiff, reduceAdd, Nat.reduceBEq, reduceIte, splice_succ, ap22, ap23, ap24, ap49, ap74, pS, zS, hs', hq', w4, uf, ul, uz, Tryz.results18]
  obtain ⟨F, hFd⟩ : ∃ F, (S.upd σ.n (D V1 V2 V3 V')).upd (σ.n + 1 + 1) (D V1 V2 V3 V') = F := ⟨_, rfl⟩
  have nF : A4.n ≤ F.n := by rw [← hFd]; simp; omega
  have o1F := OL.same o1 nF fun b h1 h2 h3 => by have hk := k1 b h3; rw [← hFd, upd_get, if_neg (by omega), upd_get, if_neg (by omega), hA.same b (by simp; omega) (fun h => by have := k4 b h; omega), new_get, if_neg (by omega), hE6.same b h2]
  have o2F := OL.same o2 nF fun b h1 h2 h3 => by have hk := k2 b h3; rw [← hFd, upd_get, if_neg (by omega), upd_get, if_neg (by omega), hA.same b (by simp; omega) (fun h => by have := k4 b h; omega), new_get, if_neg (by omega), hE6.same b h2]
  have o3F := OL.same o3 nF fun b h1 h2 h3 => by have hk := k3 b h3; rw [← hFd, upd_get, if_neg (by omega), upd_get, if_neg (by omega), hA.same b (by simp; omega) (fun h => by have := k4 b h; omega), new_get, if_neg (by omega), hE6.same b h2]
  have o4F : OL A3.n F 1 V' ((T.ties ++ [(nameOf q2)]).map tieRow) := by
   rw [List.map_append]
   exact OL.same ho' (by rw [← hFd]; simp) fun b h1 h2 h3 => by rw [← hFd, upd_get, if_neg (by omega), upd_get, if_neg (by omega)]
  rw [hFd, show D V1 V2 V3 V' = tnRow T.name V1 V2 V3 T.low T.high [x1, x2, x3, x4, x5] V' T.most vk T.budget T.t from by rw [hD]]
  have hES : Ext σ S := hA.ext ((hEA4.trans hE6).new' _) hoN (by omega)
  have hF : Ext σ F := by rw [← hFd]; exact (hES.upd (Nat.le_refl _) _).upd (by omega) _
  exact ⟨_, { T with ties := T.ties ++ [nameOf q2] }, _, rfl, hF, fin _ V1 V2 V3 V' vk vs { T with ties := T.ties ++ [nameOf q2] } [x1, x2, x3, x4, x5] (OL.hide o1F hH1) (OL.hide o2F hH2) (OL.hide o3F hH3) (hx.keep (keep_ext hF)) (OL.hide o4F hH4) (hk.keep (keep_ext hF)) (hkk.mono fun _ _ h => SL.keep h (keep_ext hF)), ⟨ok.lots, ok.lot, ok.crits, ok.crit, ok.reqs, ok.req, ok.low, ok.high, by simp only [List.length_append, List.length_singleton]; have := hle.2.2.2.1; omega, fun y hy => by
   rcases List.mem_append.1 hy with h | h
   ·exact ok.tie y h
   ·rw [List.mem_singleton] at h; subst h; exact nameOf_names _, ok.most, ok.combos, ok.combo, ok.budget, ok.tim⟩, ⟨hle'.1, hle'.2.1, hle'.2.2.1, by show (T.ties ++ [_]).length ≤ _; simp only [List.length_append, List.length_singleton]; have := hle.2.2.2.1; omega, hle'.2.2.2.2⟩, rfl⟩
 ·have zz : decide (((6 : Nat) : Int) = 0) = false ∧ decide (((6 : Nat) : Int) = 1) = false ∧ decide (((6 : Nat) : Int) = 2) = false ∧ decide (((6 : Nat) : Int) = 3) = false ∧ decide (((6 : Nat) : Int) = 4) = false ∧ decide (((6 : Nat) : Int) = 5) = false ∧ decide (((6 : Nat) : Int) = 6) = true := by decide
  have s5 : sub (D V1 V2 V3 V4) 12 1 = some [.int .i64 T.most] := by rw [hD]; rfl
  obtain ⟨W, hW⟩ : ∃ W, wrapF .i64 (T.most + q2) = W := ⟨_, rfl⟩
  have hW64 : In64 W := by rw [← hW]; exact wrapF_in64 _
  have w5 : splice (D V1 V2 V3 V4) 12 [.int .i64 W] = some (tnRow T.name V1 V2 V3 T.low T.high [x1, x2, x3, x4, x5] V4 W vk T.budget T.t) := by rw [hD]; rfl
  have z1 : (tnRow T.name V1 V2 V3 T.low T.high [x1, x2, x3, x4, x5] V4 W vk T.budget T.t).length = 20 := rfl
  have z2 : sub (tnRow T.name V1 V2 V3 T.low T.high [x1, x2, x3, x4, x5] V4 W vk T.budget T.t) 0 20 = some (tnRow T.name V1 V2 V3 T.low T.high [x1, x2, x3, x4, x5] V4 W vk T.budget T.t) := rfl
  have z3 : splice zCells 0 (tnRow T.name V1 V2 V3 T.low T.high [x1, x2, x3, x4, x5] V4 W vk T.budget T.t) = some (tnRow T.name V1 V2 V3 T.low T.high [x1, x2, x3, x4, x5] V4 W vk T.budget T.t) := rfl
  simp (maxSteps := 1000000) (disch := first | exact dS | fail) only [↓bD, bU, reduceMul, reduceEqDiff, reduceAdd, Nat.reduceBEq, reduceIte, splice_succ, ap22, ap23, ap24, ap49, ap74, zz, pA4, pA4', qA4, y2, s5, hW, w5, z1, z2, z3, zA4, Tryz.results18]
  obtain ⟨F, hFd⟩ : ∃ F, (A4.upd σ.n (tnRow T.name V1 V2 V3 T.low T.high [x1, x2, x3, x4, x5] V4 W vk T.budget T.t)).upd (σ.n + 1 + 1) (tnRow T.name V1 V2 V3 T.low T.high [x1, x2, x3, x4, x5] V4 W vk T.budget T.t) = F := ⟨_, rfl⟩
  have nF : A4.n ≤ F.n := by rw [← hFd]; simp
  have sF : ∀ b, A0.n ≤ b → b < A4.n → F.h.get b = A4.h.get b := fun b h1 h2 => by rw [← hFd]; simp only [upd_get, new_get]; rw [if_neg (by omega), if_neg (by omega)]
  have o1F := OL.same o1 nF fun b h1 h2 _ => sF b (by omega) h2
  have o2F := OL.same o2 nF fun b h1 h2 _ => sF b (by omega) h2
  have o3F := OL.same o3 nF fun b h1 h2 _ => sF b (by omega) h2
  have o4F := OL.same o4 nF fun b h1 h2 _ => sF b (by omega) h2
  rw [hFd]
  have hF : Ext σ F := by rw [← hFd]; exact (hEA4.upd (Nat.le_refl _) _).upd (by omega) _
  exact ⟨_, { T with most := W }, _, rfl, hF, fin _ V1 V2 V3 V4 vk vs { T with most := W } [x1, x2, x3, x4, x5] (OL.hide o1F hH1) (OL.hide o2F hH2) (OL.hide o3F hH3) (hx.keep (keep_ext hF)) (OL.hide o4F hH4) (hk.keep (keep_ext hF)) (hkk.mono fun _ _ h => SL.keep h (keep_ext hF)), ⟨ok.lots, ok.lot, ok.crits, ok.crit, ok.reqs, ok.req, ok.low, ok.high, ok.ties, ok.tie, hW64, ok.combos, ok.combo, ok.budget, ok.tim⟩, hle', rfl⟩
 ·have zz : decide (((7 : Nat) : Int) = 0) = false ∧ decide (((7 : Nat) : Int) = 1) = false ∧ decide (((7 : Nat) : Int) = 2) = false ∧ decide (((7 : Nat) : Int) = 3) = false ∧ decide (((7 : Nat) : Int) = 4) = false ∧ decide (((7 : Nat) : Int) = 5) = false ∧ decide (((7 : Nat) : Int) = 6) = false ∧ decide (((7 : Nat) : Int) = 7) = true := by decide
  have s13 : sub (D V1 V2 V3 V4) 13 1 = some [vk] := by rw [hD]; rfl
  simp (maxSteps := 1000000) (disch := first | exact dS | fail) only [↓bD, bU, reduceMul, reduceEqDiff, reduceAdd, Nat.reduceBEq, reduceIte, splice_succ, ap22, ap23, ap24, ap49, ap74, zz, pA4, pA4', qA4, y2, s13]
  refine ev_clone (size := 1) (rows := vs.map fun x => [x]) (fun _ _ _ _ => ap26) (orow_new_same (Nat.le_refl _) (Nat.le_refl _)) (by simp) (hk.keep (keep_all.trans (Keep.of_ext (hEA4.new' _)))) (by rw [List.length_map, hkk.len]; have := hle'.2.2.2.2; omega) ?_
  rintro V5 σ6 ho5 hX5
  have n6 := hX5.n
  simp only [new_n] at n6
  have hE6 : Ext A4 σ6 := ⟨by omega, fun b hb => by rw [hX5.same b (by simp; omega) (by omega), new_get, if_neg (by omega)]⟩
  have k5 : ∀ b, blkOf V5 = some b → A4.n ≤ b ∧ b < σ6.n := fun b hb => ho5.blk hb
  have qA6 : σ6.row (σ.n + 1) = some q := by rw [hE6.row (by omega)]; exact qA4
  simp (maxSteps := 1000000) (disch := first | exact dS | fail) only [↓bD, bU, reduceMul, reduceEqDiff, reduceAdd, Nat.reduceBEq, reduceIte, splice_succ, ap22, ap23, ap24, ap49, ap74, qA6, y2]
  have hoN : OL A4.n ((σ6.new [.int .i64 (j : Int), .int .i64 q2]).new [.slice (some ⟨σ6.n, 0, none⟩) 2 2]) 1 V5 (vs.map fun x => [x]) := OL.ext ho5 ((Ext.new _ _).new' _)
  refine ev_append (row := [.slice (some ⟨σ6.n, 0, none⟩) 2 2]) (fun _ _ _ _ => ap26) hoN (row_new_same (by simp) (by simp)) (sub_full (by simp) (by simp)) (by rw [List.length_map, hkk.len]; have := hle'.2.2.2.2; omega) (by simp; omega) ?_
  rintro V' S ho' hA -
  obtain ⟨hs', hq'⟩ : cellsL V' = [V'] ∧ isTup V' = false := by obtain ⟨va, h⟩ := OL.shape ho'; rw [h]; exact ⟨rfl, rfl⟩
  have hSn := hA.n
  simp only [new_n] at hSn
  have hAs : ∀ b, b < A4.n → S.h.get b = A4.h.get b := fun b hb => by rw [hA.same b (by simp; omega) (fun h => by have := k5 b h; omega), new_get, if_neg (by simp; omega), new_get, if_neg (by omega), hE6.same b hb]
  have pS : S.orow σ.n = some (D V1 V2 V3 V4) := by rw [orow_congr (hAs _ (by omega))]; exact pA4
  have zS : S.orow (σ.n + 1 + 1) = some zCells := by rw [orow_congr (hAs _ (by omega))]; exact zA4
  have w13 : splice (D V1 V2 V3 V4) 13 [V'] = some (tnRow T.name V1 V2 V3 T.low T.high [x1, x2, x3, x4, x5] V4 T.most V' T.budget T.t) := by rw [hD]; rfl
  have as6 : ∀ {bs : List Nat} {i j b o n : Nat} {ds : List Ab.Trace}, b < A4.n → allSame bs i ⟨b, o, n⟩ (.eff j (A4.new []) σ6 :: ds) = allSame bs i ⟨b, o, n⟩ ds := fun h => as_ext hX5 (Nat.ne_of_lt h)
  simp (maxSteps := 1000000) (disch := first | exact dS | fail) only [↓bD, bU, reduceMul, reduceEqDiff, reduceAdd, Nat.reduceBEq, reduceIte, splice_succ, ap22, ap23, ap24, ap49, ap74, pS, hs', hq', w13, as6, as_newb, as_upd]
  refine Must.intro (by (repeat first | simp (disch := omega) only [as_read, as_newb, as_upd, as6] | rw [as_ord (by kernel_rfl)]); rfl) ?_
  have z1 : (tnRow T.name V1 V2 V3 T.low T.high [x1, x2, x3, x4, x5] V4 T.most V' T.budget T.t).length = 20 := rfl
  have z2 : sub (tnRow T.name V1 V2 V3 T.low T.high [x1, x2, x3, x4, x5] V4 T.most V' T.budget T.t) 0 20 = some (tnRow T.name V1 V2 V3 T.low T.high [x1, x2, x3, x4, x5] V4 T.most V' T.budget T.t) := rfl
  have z3 : splice zCells 0 (tnRow T.name V1 V2 V3 T.low T.high [x1, x2, x3, x4, x5] V4 T.most V' T.budget T.t) = some (tnRow T.name V1 V2 V3 T.low T.high [x1, x2, x3, x4, x5] V4 T.most V' T.budget T.t) := rfl
  simp (maxSteps := 1000000) (disch := first | exact dS | fail) only [↓bD, bU, reduceMul, reduceEqDiff, reduceAdd, Nat.reduceBEq, reduceIte, splice_succ, ap22, ap23, ap24, ap49, ap74, zS, z1, z2, z3, Tryz.results18]
  obtain ⟨F, hFd⟩ : ∃ F, (S.upd σ.n (tnRow T.name V1 V2 V3 T.low T.high [x1, x2, x3, x4, x5] V4 T.most V' T.budget T.t)).upd (σ.n + 1 + 1) (tnRow T.name V1 V2 V3 T.low T.high [x1, x2, x3, x4, x5] V4 T.most V' T.budget T.t) = F := ⟨_, rfl⟩
  have nF : A4.n ≤ F.n := by rw [← hFd]; simp; omega
  have sF : ∀ b, A0.n ≤ b → b < A4.n → F.h.get b = A4.h.get b := fun b h1 h2 => by rw [← hFd]; simp only [upd_get]; rw [if_neg (by omega), if_neg (by omega), hAs b h2]
  have o1F := OL.same o1 nF fun b h1 h2 _ => sF b (by omega) h2
  have o2F := OL.same o2 nF fun b h1 h2 _ => sF b (by omega) h2
  have o3F := OL.same o3 nF fun b h1 h2 _ => sF b (by omega) h2
  have o4F := OL.same o4 nF fun b h1 h2 _ => sF b (by omega) h2
  have hES : Ext σ S := ⟨by have := hEA4.n; omega, fun b hb => by rw [hAs b (by omega), hEA4.same b hb]⟩
  rw [hFd]
  have o5F : OL A4.n F 1 V' ((vs ++ [Value.slice (some ⟨σ6.n, 0, none⟩) 2 2]).map fun x => [x]) := by
   rw [List.map_append]
   exact OL.same ho' (by rw [← hFd]; simp) fun b h1 h2 h3 => by rw [← hFd, upd_get, if_neg (by omega), upd_get, if_neg (by omega)]
  have rF : F.row σ6.n = some [.int .i64 (j : Int), .int .i64 q2] := by rw [← hFd, row_upd_ne (by omega), row_upd_ne (by omega), row_congr (hA.same σ6.n (by simp; omega) (fun h => by have := k5 _ h; omega)), row_new_ne (by simp), row_new_same (Nat.le_refl _) (Nat.le_refl _)]
  have iF : Ints (hide F H) (.slice (some ⟨σ6.n, 0, none⟩) 2 2) [(j : Int), q2] := .inr ⟨σ6.n, 0, none, 2, _, rfl, by rw [hide_n, ← hFd]; simp; omega, by rw [hide_row fun h => by have := hH0 _ h; omega]; exact rF, fun k r hk => by
   rcases k with _ | _ | k
   ·cases hk; rfl
   ·cases hk; rfl
   ·simp at hk⟩
  have hF : Ext σ F := by rw [← hFd]; exact (hES.upd (Nat.le_refl _) _).upd (by omega) _
  exact ⟨_, { T with combos := T.combos ++ [[(j : Int), q2]] }, _, rfl, hF, fin _ V1 V2 V3 V4 V' (vs ++ [.slice (some ⟨σ6.n, 0, none⟩) 2 2]) { T with combos := T.combos ++ [[(j : Int), q2]] } [x1, x2, x3, x4, x5] (OL.hide o1F hH1) (OL.hide o2F hH2) (OL.hide o3F hH3) (hx.keep (keep_ext hF)) (OL.hide o4F hH4) (OL.hide o5F hH5) ((hkk.mono fun _ _ h => SL.keep h (keep_ext hF)).app iF), ⟨ok.lots, ok.lot, ok.crits, ok.crit, ok.reqs, ok.req, ok.low, ok.high, ok.ties, ok.tie, ok.most, by simp only [List.length_append, List.length_singleton]; have := hle.2.2.2.2; omega, fun y hy => by
   rcases List.mem_append.1 hy with h | h
   ·exact ok.combo y h
   ·rw [List.mem_singleton] at h; subst h; exact ⟨by simp, fun n hn => by rcases List.mem_cons.1 hn with rfl | hn; exact ⟨by omega, by omega⟩; rw [List.mem_singleton] at hn; subst hn; exact b2⟩, ok.budget, ok.tim⟩, ⟨hle'.1, hle'.2.1, hle'.2.2.1, hle'.2.2.2.1, by show (T.combos ++ [_]).length ≤ _; simp only [List.length_append, List.length_singleton]; have := hle.2.2.2.2; omega⟩, rfl⟩
 ·have zz : decide (((8 : Nat) : Int) = 0) = false ∧ decide (((8 : Nat) : Int) = 1) = false ∧ decide (((8 : Nat) : Int) = 2) = false ∧ decide (((8 : Nat) : Int) = 3) = false ∧ decide (((8 : Nat) : Int) = 4) = false ∧ decide (((8 : Nat) : Int) = 5) = false ∧ decide (((8 : Nat) : Int) = 6) = false ∧ decide (((8 : Nat) : Int) = 7) = false ∧ decide (((8 : Nat) : Int) = 8) = true := by decide
  have s5 : sub (D V1 V2 V3 V4) 14 1 = some [.int .i64 T.budget] := by rw [hD]; rfl
  obtain ⟨W, hW⟩ : ∃ W, wrapF .i64 (T.budget + q2) = W := ⟨_, rfl⟩
  have hW64 : In64 W := by rw [← hW]; exact wrapF_in64 _
  have w5 : splice (D V1 V2 V3 V4) 14 [.int .i64 W] = some (tnRow T.name V1 V2 V3 T.low T.high [x1, x2, x3, x4, x5] V4 T.most vk W T.t) := by rw [hD]; rfl
  have z1 : (tnRow T.name V1 V2 V3 T.low T.high [x1, x2, x3, x4, x5] V4 T.most vk W T.t).length = 20 := rfl
  have z2 : sub (tnRow T.name V1 V2 V3 T.low T.high [x1, x2, x3, x4, x5] V4 T.most vk W T.t) 0 20 = some (tnRow T.name V1 V2 V3 T.low T.high [x1, x2, x3, x4, x5] V4 T.most vk W T.t) := rfl
  have z3 : splice zCells 0 (tnRow T.name V1 V2 V3 T.low T.high [x1, x2, x3, x4, x5] V4 T.most vk W T.t) = some (tnRow T.name V1 V2 V3 T.low T.high [x1, x2, x3, x4, x5] V4 T.most vk W T.t) := rfl
  simp (maxSteps := 1000000) (disch := first | exact dS | fail) only [↓bD, bU, reduceMul, reduceEqDiff, reduceAdd, Nat.reduceBEq, reduceIte, splice_succ, ap22, ap23, ap24, ap49, ap74, zz, pA4, pA4', qA4, y2, s5, hW, w5, z1, z2, z3, zA4, Tryz.results18]
  obtain ⟨F, hFd⟩ : ∃ F, (A4.upd σ.n (tnRow T.name V1 V2 V3 T.low T.high [x1, x2, x3, x4, x5] V4 T.most vk W T.t)).upd (σ.n + 1 + 1) (tnRow T.name V1 V2 V3 T.low T.high [x1, x2, x3, x4, x5] V4 T.most vk W T.t) = F := ⟨_, rfl⟩
  have nF : A4.n ≤ F.n := by rw [← hFd]; simp
  have sF : ∀ b, A0.n ≤ b → b < A4.n → F.h.get b = A4.h.get b := fun b h1 h2 => by rw [← hFd]; simp only [upd_get, new_get]; rw [if_neg (by omega), if_neg (by omega)]
  have o1F := OL.same o1 nF fun b h1 h2 _ => sF b (by omega) h2
  have o2F := OL.same o2 nF fun b h1 h2 _ => sF b (by omega) h2
  have o3F := OL.same o3 nF fun b h1 h2 _ => sF b (by omega) h2
  have o4F := OL.same o4 nF fun b h1 h2 _ => sF b (by omega) h2
  rw [hFd]
  have hF : Ext σ F := by rw [← hFd]; exact (hEA4.upd (Nat.le_refl _) _).upd (by omega) _
  exact ⟨_, { T with budget := W }, _, rfl, hF, fin _ V1 V2 V3 V4 vk vs { T with budget := W } [x1, x2, x3, x4, x5] (OL.hide o1F hH1) (OL.hide o2F hH2) (OL.hide o3F hH3) (hx.keep (keep_ext hF)) (OL.hide o4F hH4) (hk.keep (keep_ext hF)) (hkk.mono fun _ _ h => SL.keep h (keep_ext hF)), ⟨ok.lots, ok.lot, ok.crits, ok.crit, ok.reqs, ok.req, ok.low, ok.high, ok.ties, ok.tie, ok.most, ok.combos, ok.combo, hW64, ok.tim⟩, hle', rfl⟩
 ·have zz : decide (((9 : Nat) : Int) = 0) = false ∧ decide (((9 : Nat) : Int) = 1) = false ∧ decide (((9 : Nat) : Int) = 2) = false ∧ decide (((9 : Nat) : Int) = 3) = false ∧ decide (((9 : Nat) : Int) = 4) = false ∧ decide (((9 : Nat) : Int) = 5) = false ∧ decide (((9 : Nat) : Int) = 6) = false ∧ decide (((9 : Nat) : Int) = 7) = false ∧ decide (((9 : Nat) : Int) = 8) = false ∧ decide (((9 : Nat) : Int) = 9) = true := by decide
  have s5 : sub (D V1 V2 V3 V4) 16 1 = some [.int .i64 T.t.b] := by rw [hD]; rfl
  obtain ⟨W, hW⟩ : ∃ W, wrapF .i64 (T.t.b + q2) = W := ⟨_, rfl⟩
  have hW64 : In64 W := by rw [← hW]; exact wrapF_in64 _
  have w5 : splice (D V1 V2 V3 V4) 16 [.int .i64 W] = some (tnRow T.name V1 V2 V3 T.low T.high [x1, x2, x3, x4, x5] V4 T.most vk T.budget { T.t with b := W }) := by rw [hD]; rfl
  have z1 : (tnRow T.name V1 V2 V3 T.low T.high [x1, x2, x3, x4, x5] V4 T.most vk T.budget { T.t with b := W }).length = 20 := rfl
  have z2 : sub (tnRow T.name V1 V2 V3 T.low T.high [x1, x2, x3, x4, x5] V4 T.most vk T.budget { T.t with b := W }) 0 20 = some (tnRow T.name V1 V2 V3 T.low T.high [x1, x2, x3, x4, x5] V4 T.most vk T.budget { T.t with b := W }) := rfl
  have z3 : splice zCells 0 (tnRow T.name V1 V2 V3 T.low T.high [x1, x2, x3, x4, x5] V4 T.most vk T.budget { T.t with b := W }) = some (tnRow T.name V1 V2 V3 T.low T.high [x1, x2, x3, x4, x5] V4 T.most vk T.budget { T.t with b := W }) := rfl
  simp (maxSteps := 1000000) (disch := first | exact dS | fail) only [↓bD, bU, reduceMul, reduceEqDiff, reduceAdd, Nat.reduceBEq, reduceIte, splice_succ, ap22, ap23, ap24, ap49, ap74, zz, pA4, pA4', qA4, y2, s5, hW, w5, z1, z2, z3, zA4, Tryz.results18]
  obtain ⟨F, hFd⟩ : ∃ F, (A4.upd σ.n (tnRow T.name V1 V2 V3 T.low T.high [x1, x2, x3, x4, x5] V4 T.most vk T.budget { T.t with b := W })).upd (σ.n + 1 + 1) (tnRow T.name V1 V2 V3 T.low T.high [x1, x2, x3, x4, x5] V4 T.most vk T.budget { T.t with b := W }) = F := ⟨_, rfl⟩
  have nF : A4.n ≤ F.n := by rw [← hFd]; simp
  have sF : ∀ b, A0.n ≤ b → b < A4.n → F.h.get b = A4.h.get b := fun b h1 h2 => by rw [← hFd]; simp only [upd_get, new_get]; rw [if_neg (by omega), if_neg (by omega)]
  have o1F := OL.same o1 nF fun b h1 h2 _ => sF b (by omega) h2
  have o2F := OL.same o2 nF fun b h1 h2 _ => sF b (by omega) h2
  have o3F := OL.same o3 nF fun b h1 h2 _ => sF b (by omega) h2
  have o4F := OL.same o4 nF fun b h1 h2 _ => sF b (by omega) h2
  rw [hFd]
  have hF : Ext σ F := by rw [← hFd]; exact (hEA4.upd (Nat.le_refl _) _).upd (by omega) _
  exact ⟨_, { T with t := { T.t with b := W } }, _, rfl, hF, fin _ V1 V2 V3 V4 vk vs { T with t := { T.t with b := W } } [x1, x2, x3, x4, x5] (OL.hide o1F hH1) (OL.hide o2F hH2) (OL.hide o3F hH3) (hx.keep (keep_ext hF)) (OL.hide o4F hH4) (hk.keep (keep_ext hF)) (hkk.mono fun _ _ h => SL.keep h (keep_ext hF)), ⟨ok.lots, ok.lot, ok.crits, ok.crit, ok.reqs, ok.req, ok.low, ok.high, ok.ties, ok.tie, ok.most, ok.combos, ok.combo, ok.budget, ⟨ok.tim.1, hW64, ok.tim.2.2.1, ok.tim.2.2.2.1, ok.tim.2.2.2.2⟩⟩, hle', rfl⟩
 ·have zz : decide (((10 : Nat) : Int) = 0) = false ∧ decide (((10 : Nat) : Int) = 1) = false ∧ decide (((10 : Nat) : Int) = 2) = false ∧ decide (((10 : Nat) : Int) = 3) = false ∧ decide (((10 : Nat) : Int) = 4) = false ∧ decide (((10 : Nat) : Int) = 5) = false ∧ decide (((10 : Nat) : Int) = 6) = false ∧ decide (((10 : Nat) : Int) = 7) = false ∧ decide (((10 : Nat) : Int) = 8) = false ∧ decide (((10 : Nat) : Int) = 9) = false ∧ decide (((10 : Nat) : Int) = 10) = true := by decide
  simp (maxSteps := 1000000) (disch := first | exact dS | fail) only [↓bD, bU, reduceMul, reduceEqDiff, reduceAdd, Nat.reduceBEq, reduceIte, splice_succ, ap22, ap23, ap24, ap49, ap74, zz, pA4, pA4', qA4, y2, u1]
  have hoN : OL A0.n (A4.new (Lot.row (⟨(j : Int), q2⟩ : Lot))) 2 V1 (T.lots.map Lot.row) := OL.ext o1 (.new _ _)
  refine ev_append (row := Lot.row (⟨(j : Int), q2⟩ : Lot)) (fun _ _ _ _ => ap33) hoN (row_new_same (Nat.le_refl _) (Nat.le_refl _)) (sub_full (by simp [Lot.row, tieRow]) (by simp [Lot.row, tieRow])) (by rw [List.length_map]; have := hle'.1; have := hle'.2.2.2.1; omega) (by simp; omega) ?_
  rintro V' S ho' hA -
  obtain ⟨hs', hq'⟩ : cellsL V' = [V'] ∧ isTup V' = false := by obtain ⟨va, h⟩ := OL.shape ho'; rw [h]; exact ⟨rfl, rfl⟩
  have hSn := hA.n
  simp only [new_n] at hSn
  have pS : S.orow σ.n = some (D V1 V2 V3 V4) := by rw [orow_congr (hA.same σ.n (by simp; omega) (fun h => by have := k1 _ h; omega)), orow_new_ne (by omega)]; exact pA4
  have zS : S.orow (σ.n + 1 + 1) = some zCells := by rw [orow_congr (hA.same _ (by simp; omega) (fun h => by have := k1 _ h; omega)), orow_new_ne (by omega)]; exact zA4
  simp (maxSteps := 1000000) (disch := first | exact dS | fail) only [↓bD, bU, reduceMul, reduceEqDiff, reduceAdd, Nat.reduceBEq, reduceIte, splice_succ, ap22, ap23, ap24, ap49, ap74, pS, zS, hs', hq', w1, uf, ul, uz, Tryz.results18]
  obtain ⟨F, hFd⟩ : ∃ F, (S.upd σ.n (D V' V2 V3 V4)).upd (σ.n + 1 + 1) (D V' V2 V3 V4) = F := ⟨_, rfl⟩
  have nF : A4.n ≤ F.n := by rw [← hFd]; simp; omega
  have o2F := OL.same o2 nF fun b h1 h2 h3 => by have hk := k2 b h3; rw [← hFd, upd_get, if_neg (by omega), upd_get, if_neg (by omega), hA.same b (by simp; omega) (fun h => by have := k1 b h; omega), new_get, if_neg (by omega)]
  have o3F := OL.same o3 nF fun b h1 h2 h3 => by have hk := k3 b h3; rw [← hFd, upd_get, if_neg (by omega), upd_get, if_neg (by omega), hA.same b (by simp; omega) (fun h => by have := k1 b h; omega), new_get, if_neg (by omega)]
  have o4F := OL.same o4 nF fun b h1 h2 h3 => by have hk := k4 b h3; rw [← hFd, upd_get, if_neg (by omega), upd_get, if_neg (by omega), hA.same b (by simp; omega) (fun h => by have := k1 b h; omega), new_get, if_neg (by omega)]
  have o1F : OL A0.n F 2 V' ((T.lots ++ [(⟨(j : Int), q2⟩ : Lot)]).map Lot.row) := by
   rw [List.map_append]
   exact OL.same ho' (by rw [← hFd]; simp) fun b h1 h2 h3 => by rw [← hFd, upd_get, if_neg (by omega), upd_get, if_neg (by omega)]
  rw [hFd, show D V' V2 V3 V4 = tnRow T.name V' V2 V3 T.low T.high [x1, x2, x3, x4, x5] V4 T.most vk T.budget T.t from by rw [hD]]
  have hES : Ext σ S := hA.ext (hEA4.new' _) hoN (by omega)
  have hF : Ext σ F := by rw [← hFd]; exact (hES.upd (Nat.le_refl _) _).upd (by omega) _
  exact ⟨_, { T with lots := T.lots ++ [⟨(j : Int), q2⟩] }, _, rfl, hF, fin _ V' V2 V3 V4 vk vs { T with lots := T.lots ++ [⟨(j : Int), q2⟩] } [x1, x2, x3, x4, x5] (OL.hide o1F hH1) (OL.hide o2F hH2) (OL.hide o3F hH3) (hx.keep (keep_ext hF)) (OL.hide o4F hH4) (hk.keep (keep_ext hF)) (hkk.mono fun _ _ h => SL.keep h (keep_ext hF)), ⟨by simp only [List.length_append, List.length_singleton]; have := hle.1; omega, fun y hy => by
   rcases List.mem_append.1 hy with h | h
   ·exact ok.lot y h
   ·rw [List.mem_singleton] at h; subst h; exact ⟨by simp, by show (j : Int) < 10; omega, b2⟩, ok.crits, ok.crit, ok.reqs, ok.req, ok.low, ok.high, ok.ties, ok.tie, ok.most, ok.combos, ok.combo, ok.budget, ok.tim⟩, ⟨by show (T.lots ++ [_]).length ≤ _; simp only [List.length_append, List.length_singleton]; have := hle.1; omega, hle'.2.1, hle'.2.2.1, hle'.2.2.2.1, hle'.2.2.2.2⟩, rfl⟩
 ·have zz : decide (((11 : Nat) : Int) = 0) = false ∧ decide (((11 : Nat) : Int) = 1) = false ∧ decide (((11 : Nat) : Int) = 2) = false ∧ decide (((11 : Nat) : Int) = 3) = false ∧ decide (((11 : Nat) : Int) = 4) = false ∧ decide (((11 : Nat) : Int) = 5) = false ∧ decide (((11 : Nat) : Int) = 6) = false ∧ decide (((11 : Nat) : Int) = 7) = false ∧ decide (((11 : Nat) : Int) = 8) = false ∧ decide (((11 : Nat) : Int) = 9) = false ∧ decide (((11 : Nat) : Int) = 10) = false ∧ decide (((11 : Nat) : Int) = 11) = true := by decide
  by_cases hj1 : j < T.crits.length
  ·have hc1 : decide (j < (T.crits.map Crit.row).length) = true := by rw [List.length_map, decide_eq_true_iff]; exact hj1
   have hjL : j < (T.crits.map Crit.row).length := by rw [List.length_map]; exact hj1
   obtain ⟨bb, sp, hV⟩ : ∃ bb sp, V2 = .slice (some ⟨bb, 0, sp⟩) (T.crits.map Crit.row).length (T.crits.map Crit.row).length := by
    obtain ⟨hr0, ⟨hV, hnil⟩ | ⟨bb, sp, hV, hsp, hb1, hb2, hb3⟩⟩ := o2
    ·have h0 := congrArg List.length hnil
     rw [List.length_nil] at h0
     omega
    ·exact ⟨bb, sp, hV⟩
   subst hV
   obtain ⟨⟨wa, hwa, hsa⟩, wb, hwb, hsb⟩ := OL.cut o2 rfl hjL
   have hm1 : wrapF .i64 ((j : Int) + 1) = ((j + 1 : Nat) : Int) := wrap_in (by omega) (by omega)
   have hb1 : Nat.ble j (T.crits.map Crit.row).length = true := ble_of (by omega)
   have hb2 : Nat.ble (j + 1) (T.crits.map Crit.row).length = true := ble_of (by omega)
   simp (maxSteps := 1000000) (disch := first | exact dS | fail) only [↓bD, bU, reduceMul, reduceEqDiff, reduceAdd, Nat.reduceBEq, reduceIte, splice_succ, ap22, ap23, ap24, ap49, ap74, zz, hc1, pA4, pA4', u2, Option.isNone_none, hwa, hb1]
   refine ev_clone (size := 5) (rows := (T.crits.map Crit.row).take j) (fun _ _ _ _ => ap34) (orow_new_same (Nat.le_refl _) (Nat.le_refl _)) (by simp) (hsa.keep (Keep.of_ext (.new _ _))) (by rw [List.length_take, List.length_map]; have := hle'.2.1; omega) ?_
   rintro V5 σ6 ho5 hX5
   have n6 := hX5.n
   simp only [new_n] at n6
   have hE6 : Ext A4 σ6 := ⟨by omega, fun b hb => by rw [hX5.same b (by simp; omega) (by omega), new_get, if_neg (by omega)]⟩
   have k5 : ∀ b, blkOf V5 = some b → A4.n ≤ b ∧ b < σ6.n := fun b hb => ho5.blk hb
   have p6 : σ6.row σ.n = some (D V1 (.slice (some ⟨bb, 0, sp⟩) (T.crits.map Crit.row).length (T.crits.map Crit.row).length) V3 V4) := by rw [hE6.row (by omega)]; exact pA4'
   simp (maxSteps := 1000000) (disch := first | exact dS | fail) only [↓bD, bU, reduceMul, reduceEqDiff, reduceAdd, Nat.reduceBEq, reduceIte, splice_succ, ap22, ap23, ap24, ap49, ap74, p6, u2, hm1, hb2, Option.isNone_none, hwb]
   refine ev_join (size := 5) (fun _ _ _ _ => ap34) ho5 (hsb.keep (Keep.of_ext hE6)) (by rw [List.length_take, List.length_drop, List.length_map]; have := hle'.2.1; omega) (by omega) ?_
   rintro V' S ho' hSn hSs
   obtain ⟨hs', hq'⟩ : cellsL V' = [V'] ∧ isTup V' = false := by obtain ⟨va, h⟩ := OL.shape ho'; rw [h]; exact ⟨rfl, rfl⟩
   have hAs : ∀ b, b < A4.n → S.h.get b = A4.h.get b := fun b hb => by rw [hSs b (by omega) (fun h => by have := k5 b h; omega), hE6.same b hb]
   have pS : S.orow σ.n = some (D V1 (.slice (some ⟨bb, 0, sp⟩) (T.crits.map Crit.row).length (T.crits.map Crit.row).length) V3 V4) := by rw [orow_congr (hAs _ (by omega))]; exact pA4
   have zS : S.orow (σ.n + 1 + 1) = some zCells := by rw [orow_congr (hAs _ (by omega))]; exact zA4
   have as6 : ∀ {bs : List Nat} {i j b o n : Nat} {ds : List Ab.Trace}, b < A4.n → allSame bs i ⟨b, o, n⟩ (.eff j (A4.new []) σ6 :: ds) = allSame bs i ⟨b, o, n⟩ ds := fun h => as_ext hX5 (Nat.ne_of_lt h)
   simp (maxSteps := 1000000) (disch := first | exact dS | fail) only [↓bD, bU, reduceMul, reduceEqDiff, reduceAdd, Nat.reduceBEq, reduceIte, splice_succ, ap22, ap23, ap24, ap49, ap74, pS, hs', hq', w2, as6, as_newb, as_upd]
   refine Must.intro (by (repeat first | simp (disch := omega) only [as_read, as_newb, as_upd, as6] | rw [as_ord (by kernel_rfl)]); rfl) ?_
   simp (maxSteps := 1000000) (disch := first | exact dS | fail) only [↓bD, bU, reduceMul, reduceEqDiff, reduceAdd, Nat.reduceBEq, reduceIte, splice_succ, ap22, ap23, ap24, ap49, ap74, zS, uf, ul, uz, Tryz.results18]
   obtain ⟨F, hFd⟩ : ∃ F, (S.upd σ.n (D V1 V' V3 V4)).upd (σ.n + 1 + 1) (D V1 V' V3 V4) = F := ⟨_, rfl⟩
   have nF : A4.n ≤ F.n := by rw [← hFd]; simp; omega
   have sF : ∀ b, A0.n ≤ b → b < A4.n → F.h.get b = A4.h.get b := fun b h1 h2 => by rw [← hFd]; simp only [upd_get]; rw [if_neg (by omega), if_neg (by omega), hAs b h2]
   have o1F := OL.same o1 nF fun b h1 h2 _ => sF b (by omega) h2
   have o3F := OL.same o3 nF fun b h1 h2 _ => sF b (by omega) h2
   have o4F := OL.same o4 nF fun b h1 h2 _ => sF b (by omega) h2
   have hES : Ext σ S := ⟨by have := hEA4.n; omega, fun b hb => by rw [hAs b (by omega), hEA4.same b hb]⟩
   rw [hFd, show D V1 V' V3 V4 = tnRow T.name V1 V' V3 T.low T.high [x1, x2, x3, x4, x5] V4 T.most vk T.budget T.t from by rw [hD]]
   have o2F : OL A4.n F 5 V' ((T.crits.take j ++ T.crits.drop (j + 1)).map Crit.row) := by
    rw [List.map_append, List.map_take, List.map_drop]
    exact OL.same ho' (by rw [← hFd]; simp) fun b h1 h2 h3 => by rw [← hFd, upd_get, if_neg (by omega), upd_get, if_neg (by omega)]
   have hF : Ext σ F := by rw [← hFd]; exact (hES.upd (Nat.le_refl _) _).upd (by omega) _
   exact ⟨_, { T with crits := T.crits.take j ++ T.crits.drop (j + 1) }, _, rfl, hF, fin _ V1 V' V3 V4 vk vs { T with crits := T.crits.take j ++ T.crits.drop (j + 1) } [x1, x2, x3, x4, x5] (OL.hide o1F hH1) (OL.hide o2F hH5) (OL.hide o3F hH3) (hx.keep (keep_ext hF)) (OL.hide o4F hH4) (hk.keep (keep_ext hF)) (hkk.mono fun _ _ h => SL.keep h (keep_ext hF)), ⟨ok.lots, ok.lot, by simp only [List.length_append, List.length_take, List.length_drop]; have := hle.2.1; omega, fun y hy => by
    rcases List.mem_append.1 hy with h | h
    ·exact ok.crit y (List.mem_of_mem_take h)
    ·exact ok.crit y (List.mem_of_mem_drop h), ok.reqs, ok.req, ok.low, ok.high, ok.ties, ok.tie, ok.most, ok.combos, ok.combo, ok.budget, ok.tim⟩, ⟨hle'.1, by show (T.crits.take j ++ T.crits.drop (j + 1)).length ≤ _; simp only [List.length_append, List.length_take, List.length_drop]; have := hle.2.1; omega, hle'.2.2.1, hle'.2.2.2.1, hle'.2.2.2.2⟩, rfl⟩
  ·have hc1 : decide (j < (T.crits.map Crit.row).length) = false := by rw [List.length_map, decide_eq_false_iff_not]; exact hj1
   obtain ⟨va, rfl⟩ := OL.shape o2
   simp (maxSteps := 1000000) (disch := first | exact dS | fail) only [↓bD, bU, reduceMul, reduceEqDiff, reduceAdd, Nat.reduceBEq, reduceIte, splice_succ, ap22, ap23, ap24, ap49, ap74, zz, hc1, pA4, pA4', u2, uf, ul, uz, zA4, Tryz.results18]
   obtain ⟨F, hFd⟩ : ∃ F, A4.upd (σ.n + 1 + 1) (D V1 (.slice va (T.crits.map Crit.row).length (T.crits.map Crit.row).length) V3 V4) = F := ⟨_, rfl⟩
   have nF : A4.n ≤ F.n := by rw [← hFd]; simp
   have sF : ∀ b, A0.n ≤ b → b < A4.n → F.h.get b = A4.h.get b := fun b h1 h2 => by rw [← hFd, upd_get, if_neg (by omega)]
   have o1F := OL.same o1 nF fun b h1 h2 _ => sF b (by omega) h2
   have o2F := OL.same o2 nF fun b h1 h2 _ => sF b (by omega) h2
   have o3F := OL.same o3 nF fun b h1 h2 _ => sF b (by omega) h2
   have o4F := OL.same o4 nF fun b h1 h2 _ => sF b (by omega) h2
   rw [hFd, ud]
   have hF : Ext σ F := by rw [← hFd]; exact hEA4.upd (by omega) _
   exact ⟨_, T, _, rfl, hF, fin _ _ _ _ _ vk vs T [x1, x2, x3, x4, x5] (OL.hide o1F hH1) (OL.hide o2F hH2) (OL.hide o3F hH3) (hx.keep (keep_ext hF)) (OL.hide o4F hH4) (hk.keep (keep_ext hF)) (hkk.mono fun _ _ h => SL.keep h (keep_ext hF)), ok, hle', rfl⟩
end Go.Proofs.G
