/- A part of the proof: a walk of some functions. -/
import Derived.Test.YtcjkjjnnicadfaaGreatDoorG63
import Derived.Test.YtcjkjjnnicadfaaGreatDoorGE
import Derived.Test.YtcjkjjnnicadfaaGreatDoorGA
set_option linter.unusedSimpArgs false
set_option linter.unusedVariables false
namespace Go.Proofs.G
open Go Go.Ab
open Nat (reduceMul reduceEqDiff reduceAdd)
set_option maxRecDepth 100000
theorem changed_self (T U : Tn) (hc : clausesR U = clausesR T) (hf : U.f = T.f) (hx : ∀ c ∈ clausesR T, c ≠ formulaC → c ≠ timesC → content T c = content U c) : ∀ c ∈ changedR T U, c = timesC := by
 intro c h
 unfold changedR at h
 obtain ⟨h1, h2⟩ := List.mem_filter.1 h
 unfold bothR at h1
 have hm : c ∈ clausesR T := by rcases mem_fold h1 with h | h <;> first | exact h | (rw [hc] at h; exact h)
 have hm' : c ∈ clausesR U := by rw [hc]; exact hm
 unfold differsR at h2
 rw [show (clausesR T).contains c = true from by simpa using hm, show (clausesR U).contains c = true from by simpa using hm'] at h2
 rw [if_neg (by simp)] at h2
 by_cases e : c = formulaC
 ·rw [if_pos e, hf, exEqb_self] at h2; cases h2
 ·rw [if_neg e] at h2
  by_cases e2 : c = timesC
  ·exact e2
  ·rw [decide_eq_true (hx c hm e e2)] at h2; cases h2
theorem by_none {T U : Tn} (h : ∀ c ∈ changedR T U, c = timesC) : byOf T U = 0 := by
 unfold byOf
 have key : ∀ (l : List By), (∀ c ∈ l, c = timesC) → l.foldl (fun m c => max m (dist c)) 0 = 0 := by
  intro l
  induction l with
  | nil => intro _; rfl
  | cons a l ih =>
   intro h
   rw [List.foldl_cons, h a (by simp), show dist timesC = 0 by decide]
   exact ih fun c hc => h c (by simp [hc])
 exact key _ h
theorem applied_self {T : Tn} {time : Int} (ht : ¬ T.t.b ≤ time) (hb : T.t.b < 1000000000 ∧ T.t.g < 1000000000 ∧ T.t.p < 1000000000) : applied T T time = (T, 0) := by
 unfold applied
 have he : earlierT T.t T.t = false := by unfold earlierT; simp
 rw [if_neg ht, he, if_neg (by simp)]
 unfold moved
 rw [by_none (changed_self T T rfl rfl fun _ _ _ _ => rfl)]
 have l1 : ∀ n : Int, n < 1000000000 → later n n 0 = n := fun n h => by unfold later; rw [if_pos (by omega)]; omega
 rw [l1 _ hb.1, l1 _ hb.2.1, l1 _ hb.2.2]
set_option maxHeartbeats 8000000 in
theorem law_late_ok {σ : St} {v : Value} {l : List Int} {time q0 q1 : Int} (hl : ArgInts σ v l) (hll : l.length ≤ 9223372036854775807) (ht : In64 time) (h0 : 0 ≤ q0 ∧ q0 < 256) (h1 : 0 ≤ q1 ∧ q1 < 256) :
  Ev (go Tryz.prog HS (.fn 6) [v, .int .i64 time, .agg ⟨[.int .u8 q0, .int .u8 q1]⟩] σ) (fun r => ∃ σ', r = ⟨false, .bool true, σ'⟩) ⟨⟩ := by
 have hv : ∃ a n c, v = .slice a n c := by
  obtain ⟨a, c, b, off, cells, h, -⟩ := hl.1.use; exact ⟨a, _, c, h⟩
 have hvc : cellsL v = [v] ∧ isTup v = false := by obtain ⟨a, n, c, rfl⟩ := hv; exact ⟨rfl, rfl⟩
 refine ev_go Tryz.func6 rfl rfl ?_
 simp (maxSteps := 1000000) (disch := first | exact dS | fail) only [↓bD2, bW2, reduceMul, reduceEqDiff, reduceAdd, Nat.reduceBEq, reduceIte, hvc.1, hvc.2, ev_san]
 have E1 : Ext σ (σ.new [.int .u8 q0, .int .u8 q1]) := eX
 refine (good_ok (σ := σ.new [.int .u8 q0, .int .u8 q1]) (l := l) [] (fun c hc => by cases hc) ⟨SL.mono hl.1 E1, hl.2⟩ hll).mono ?_
 rintro r ⟨ca, T, σ2, rfl, hE2, hTX, hG⟩
 have n2 := hE2.n
 simp only [new_n] at n2
 have hTA : TnAt σ2 ca T := hTX.tn
 have lca := hTA.len
 have fca : sub ca 0 20 = some ca := sub_full (by omega) (by omega)
 have gT : ∀ {τ}, Ext σ2 τ → Good τ ca T := fun hE => ⟨hTA.mono hE, hG.ok, by rw [hG.nm]; decide⟩
 have b0 : σ2.row σ.n = some [.int .u8 q0, .int .u8 q1] := by rw [hE2.row (by simp)]; exact row_new_same (Nat.le_refl _) (Nat.le_refl _)
 have aT : ∀ {τ} {cb U tm} (hE : Ext σ2 τ), Good τ cb U → Ev (go Tryz.prog HS (.fn 11) [.agg ⟨ca⟩, .agg ⟨cb⟩, .int .i64 tm] τ) (fun r => ∃ cells σ', r = ⟨false, .tuple ⟨[.agg ⟨cells⟩, .int .i64 (applied T U tm).2]⟩, σ'⟩ ∧ Ext τ σ' ∧ TnAt σ' cells (applied T U tm).1) ⟨⟩ := fun hE hU => papply_ok (gT hE) hU (by_same hG.ok hU.ok)
 refine gT1 @fca ?_;try exact ⟨⟩
 obtain ⟨S3, hS3⟩ : ∃ S, ((σ2.new [str [], .slice none 0 0, .slice none 0 0, .slice none 0 0, .int .i64 0, .int .i64 0, str [], .int .i64 0, .int .i64 0, str [], .slice none 0 0, .slice none 0 0, .int .i64 0, .slice none 0 0, .int .i64 0, .int .i64 0, .int .i64 0, .int .i64 0, .int .i64 0, .int .i64 0]).upd σ2.n ca) = S := ⟨_, rfl⟩
 rw [hS3]
 have E3 : Ext σ2 S3 := by rw [← hS3]; exact eX
 have n3 : S3.n = σ2.n + 1 := by rw [← hS3]; rfl
 have C3 : Cl S3 [(σ2.n, ca)] := ⟨⟨by omega, by rw [← hS3]; exact orow_upd_same⟩, trivial⟩
 clear hS3
 refine (aT (tm := time) E3 (gT E3)).mono ?_
 rintro r ⟨ra, σ4, rfl, hE4, hA⟩
 have n4 := hE4.n
 have lra := hA.len
 have fra : sub ra 0 20 = some ra := sub_full (by omega) (by omega)
 have C4 := C3.ext hE4
 obtain ⟨⟨-, d1⟩, -⟩ := id C4
 have d1r := row_of d1
 refine gT1 (And.intro @d1r @fca) ?_;try exact ⟨⟩
 obtain ⟨S5, hS5⟩ : ∃ S, ((((σ4.new [str [], .slice none 0 0, .slice none 0 0, .slice none 0 0, .int .i64 0, .int .i64 0, str [], .int .i64 0, .int .i64 0, str [], .slice none 0 0, .slice none 0 0, .int .i64 0, .slice none 0 0, .int .i64 0, .int .i64 0, .int .i64 0, .int .i64 0, .int .i64 0, .int .i64 0]).upd σ4.n ra).new [str [], .slice none 0 0, .slice none 0 0, .slice none 0 0, .int .i64 0, .int .i64 0, str [], .int .i64 0, .int .i64 0, str [], .slice none 0 0, .slice none 0 0, .int .i64 0, .slice none 0 0, .int .i64 0, .int .i64 0, .int .i64 0, .int .i64 0, .int .i64 0, .int .i64 0]).upd (σ4.n + 1) ca) = S := ⟨_, rfl⟩
 rw [hS5]
 have E5 : Ext σ4 S5 := by rw [← hS5]; exact eX
 have n5 : S5.n = σ4.n + 2 := by rw [← hS5]; rfl
 have C5 : Cl S5 [(σ4.n + 1, ca), (σ4.n, ra), (σ2.n, ca)] := ⟨⟨by omega, by rw [← hS5]; exact orow_upd_same⟩, ⟨by omega, by rw [← hS5]; exact cL⟩, C4.ext E5⟩
 clear hS5
 have b5 : S5.row σ.n = some [.int .u8 q0, .int .u8 q1] := by rw [E5.row (by omega), hE4.row (by omega), E3.row (by omega)]; exact b0
 obtain ⟨i, hi, hi5⟩ : ∃ i : Nat, q0.tmod 5 = (i : Int) ∧ i < 5 := by
  rw [Int.tmod_eq_emod_of_nonneg h0.1]
  exact ⟨(q0 % 5).toNat, by omega, by omega⟩
 simp (maxSteps := 1000000) (disch := first | exact dS | fail) only [↓bD2, bW2, reduceMul, reduceEqDiff, reduceAdd, Nat.reduceBEq, reduceIte, ↓ld63, ia63, ↓ld64, ↓st64, ia65, ↓ld65, ↓sl65, Tryz.underlying63, Tryz.underlying64, Tryz.underlying65, b5, hi]
 have ip : sub ([.pointer (some ⟨σ4.n + 1, 15, none⟩), .pointer (some ⟨σ4.n + 1, 16, none⟩), .pointer (some ⟨σ4.n + 1, 17, none⟩), .pointer (some ⟨σ4.n + 1, 18, none⟩), .pointer (some ⟨σ4.n + 1, 19, none⟩)] : List Value) i 1 = some [.pointer (some ⟨σ4.n + 1, 15 + i, none⟩)] := by
  rcases (by omega : i = 0 ∨ i = 1 ∨ i = 2 ∨ i = 3 ∨ i = 4) with rfl | rfl | rfl | rfl | rfl <;> rfl
 have g1 := hG.q1
 have g2 := hG.b1
 have g3 := hG.g1
 have g4 := hG.p1
 have g5 := hG.s1
 have key : ∃ x t' cu, sub ca (15 + i) 1 = some [.int .i64 x] ∧ splice ca (15 + i) [.int .i64 (x - (1 + q1))] = some cu ∧ (0 ≤ x ∧ x ≤ 100) ∧ earlierT t' T.t = true ∧ ∀ τ, Ext σ2 τ → Good τ cu { T with t := t' } := by
  obtain ⟨vl, vc, vr, ex, vt, vk, hca, k2, k3, k4, k5, k6, k7⟩ := hTA
  obtain ⟨x1, x2, x3, x4, x5, rfl⟩ := five k5.len
  have ok := hG.ok
  have gd : ∀ (t' : Tim), (In64 t'.q ∧ In64 t'.b ∧ In64 t'.g ∧ In64 t'.p ∧ In64 t'.s) → ∀ τ, Ext σ2 τ → Good τ (tnRow T.name vl vc vr T.low T.high [x1, x2, x3, x4, x5] vt T.most vk T.budget t') { T with t := t' } := fun t' ht' τ hE =>
   ⟨⟨vl, vc, vr, _, vt, vk, rfl, SL.mono k2 hE, SL.mono k3 hE, SL.mono k4 hE, k5.mono hE, k6.mono hE, k7.mono hE⟩, ⟨ok.lots, ok.lot, ok.crits, ok.crit, ok.reqs, ok.req, ok.low, ok.high, ok.ties, ok.tie, ok.most, ok.combos, ok.combo, ok.budget, ht'⟩, by show T.name.length ≤ 100; rw [hG.nm]; decide⟩
  obtain ⟨⟨q1', q2'⟩, ⟨b1', b2'⟩, ⟨g1', g2'⟩, ⟨p1', p2'⟩, ⟨s1', s2'⟩⟩ := ok.tim
  rw [hca]
  rcases (by omega : i = 0 ∨ i = 1 ∨ i = 2 ∨ i = 3 ∨ i = 4) with rfl | rfl | rfl | rfl | rfl
  ·exact ⟨T.t.q, ⟨T.t.q - (1 + q1), T.t.b, T.t.g, T.t.p, T.t.s⟩, _, rfl, rfl, by omega, by unfold earlierT; simp; omega, gd ⟨T.t.q - (1 + q1), T.t.b, T.t.g, T.t.p, T.t.s⟩ ⟨⟨by show _ ≤ T.t.q - (1 + q1); omega, by show T.t.q - (1 + q1) ≤ _; omega⟩, ⟨b1', b2'⟩, ⟨g1', g2'⟩, ⟨p1', p2'⟩, ⟨s1', s2'⟩⟩⟩
  ·exact ⟨T.t.b, ⟨T.t.q, T.t.b - (1 + q1), T.t.g, T.t.p, T.t.s⟩, _, rfl, rfl, by omega, by unfold earlierT; simp; omega, gd ⟨T.t.q, T.t.b - (1 + q1), T.t.g, T.t.p, T.t.s⟩ ⟨⟨q1', q2'⟩, ⟨by show _ ≤ T.t.b - (1 + q1); omega, by show T.t.b - (1 + q1) ≤ _; omega⟩, ⟨g1', g2'⟩, ⟨p1', p2'⟩, ⟨s1', s2'⟩⟩⟩
  ·exact ⟨T.t.g, ⟨T.t.q, T.t.b, T.t.g - (1 + q1), T.t.p, T.t.s⟩, _, rfl, rfl, by omega, by unfold earlierT; simp; omega, gd ⟨T.t.q, T.t.b, T.t.g - (1 + q1), T.t.p, T.t.s⟩ ⟨⟨q1', q2'⟩, ⟨b1', b2'⟩, ⟨by show _ ≤ T.t.g - (1 + q1); omega, by show T.t.g - (1 + q1) ≤ _; omega⟩, ⟨p1', p2'⟩, ⟨s1', s2'⟩⟩⟩
  ·exact ⟨T.t.p, ⟨T.t.q, T.t.b, T.t.g, T.t.p - (1 + q1), T.t.s⟩, _, rfl, rfl, by omega, by unfold earlierT; simp; omega, gd ⟨T.t.q, T.t.b, T.t.g, T.t.p - (1 + q1), T.t.s⟩ ⟨⟨q1', q2'⟩, ⟨b1', b2'⟩, ⟨g1', g2'⟩, ⟨by show _ ≤ T.t.p - (1 + q1); omega, by show T.t.p - (1 + q1) ≤ _; omega⟩, ⟨s1', s2'⟩⟩⟩
  ·exact ⟨T.t.s, ⟨T.t.q, T.t.b, T.t.g, T.t.p, T.t.s - (1 + q1)⟩, _, rfl, rfl, by omega, by unfold earlierT; simp; omega, gd ⟨T.t.q, T.t.b, T.t.g, T.t.p, T.t.s - (1 + q1)⟩ ⟨⟨q1', q2'⟩, ⟨b1', b2'⟩, ⟨g1', g2'⟩, ⟨p1', p2'⟩, ⟨by show _ ≤ T.t.s - (1 + q1); omega, by show T.t.s - (1 + q1) ≤ _; omega⟩⟩⟩
 obtain ⟨x, t', cu, kx, ks, hx, hear, gU⟩ := key
 obtain ⟨⟨-, e1⟩, ⟨-, e2⟩, ⟨-, e3⟩, -⟩ := id C5
 have e1' : (S5.new [.pointer (some ⟨σ4.n + 1, 15, none⟩), .pointer (some ⟨σ4.n + 1, 16, none⟩), .pointer (some ⟨σ4.n + 1, 17, none⟩), .pointer (some ⟨σ4.n + 1, 18, none⟩), .pointer (some ⟨σ4.n + 1, 19, none⟩)]).orow (σ4.n + 1) = some ca := by rw [orow_new_ne (by omega)]; exact e1
 have e1r := row_of e1'
 have b5' : (S5.new [.pointer (some ⟨σ4.n + 1, 15, none⟩), .pointer (some ⟨σ4.n + 1, 16, none⟩), .pointer (some ⟨σ4.n + 1, 17, none⟩), .pointer (some ⟨σ4.n + 1, 18, none⟩), .pointer (some ⟨σ4.n + 1, 19, none⟩)]).row σ.n = some [.int .u8 q0, .int .u8 q1] := by rw [row_new_ne (by omega)]; exact b5
 simp (maxSteps := 1000000) (disch := first | exact dS | fail) only [↓bD2, bW2, reduceMul, reduceEqDiff, reduceAdd, Nat.reduceBEq, reduceIte, ↓ld63, ia63, ↓ld64, ↓st64, ia65, ↓ld65, ↓sl65, Tryz.underlying63, Tryz.underlying64, Tryz.underlying65, ip, e1', e1r, kx, ks, b5', nn_ptr]
 try refine Must.intro (by (repeat first | simp (disch := omega) only [as_read, as_upd, as_newb] | rw [as_ord (by kernel_rfl)]); rfl) ?_
 have e3r := row_of e3
 refine gT1 (And.intro @e3r @fca) ?_;try exact ⟨⟩
 obtain ⟨S6, hS6⟩ : ∃ S, ((S5.new [.pointer (some ⟨σ4.n + 1, 15, none⟩), .pointer (some ⟨σ4.n + 1, 16, none⟩), .pointer (some ⟨σ4.n + 1, 17, none⟩), .pointer (some ⟨σ4.n + 1, 18, none⟩), .pointer (some ⟨σ4.n + 1, 19, none⟩)]).upd (σ4.n + 1) cu) = S := ⟨_, rfl⟩
 try rw [hS6]
 have E6 : Ext σ4 S6 := by rw [← hS6]; exact (E5.new' _).upd (by omega) _
 have n6 : S6.n = S5.n + 1 := by rw [← hS6]; rfl
 have f1 : S6.row (σ4.n + 1) = some cu := by rw [← hS6]; exact row_upd_same
 have f2 : S6.row σ4.n = some ra := by rw [← hS6, row_upd_ne (by omega), row_new_ne (by omega)]; exact row_of e2
 have f3 : S6.row σ2.n = some ca := by rw [← hS6, row_upd_ne (by omega), row_new_ne (by omega)]; exact e3r
 have E26 : Ext σ2 S6 := E3.trans (hE4.trans E6)
 clear hS6
 have lcu := (gU S6 E26).len
 have fcu : sub cu 0 20 = some cu := sub_full (by omega) (by omega)
 refine gT1 (And.intro @f1 (And.intro @f2 (And.intro @f3 (And.intro @fcu @fca)))) ?_;try exact ⟨⟩
 refine (aT (tm := time) E26 (gU S6 E26)).mono ?_
 rintro r ⟨rb, σ7, rfl, hE7, hB⟩
 have n7 := hE7.n
 have lrb := hB.len
 have frb : sub rb 0 20 = some rb := sub_full (by omega) (by omega)
 have c16 : sub ca 16 1 = some [.int .i64 T.t.b] := by
  obtain ⟨vl, vc, vr, ex, vt, vk, hca, k2, k3, k4, k5, k6, k7⟩ := hTA
  obtain ⟨x1, x2, x3, x4, x5, rfl⟩ := five k5.len
  rw [hca]; rfl
 have h2 : σ7.row σ4.n = some ra := by rw [hE7.row (by omega)]; exact f2
 have h3 : σ7.row σ2.n = some ca := by rw [hE7.row (by omega)]; exact f3
 by_cases tt : T.t.b ≤ time
 ·have dt : decide (time < T.t.b) = false := decide_eq_false (by omega)
  have ap1 : ∀ U, applied T U time = (zeroTn, 31) := fun U => by unfold applied; rw [if_pos tt]
  rw [ap1] at hA hB ⊢
  have na : sub ra 0 1 = some [str []] := by obtain ⟨vl, vc, vr, ex, vt, vk, h, -⟩ := hA; rw [h]; rfl
  have nb : sub rb 0 1 = some [str []] := by obtain ⟨vl, vc, vr, ex, vt, vk, h, -⟩ := hB; rw [h]; rfl
  refine gT1 (And.intro @h2 (And.intro @h3 (And.intro @c16 (And.intro @dt (And.intro @na (And.intro @nb (And.intro @ap1 (And.intro @yu_t (And.intro @yu_f @Tryz.results6))))))))) ?_;try exact ⟨⟩
  exact ⟨_, rfl⟩
 ·have dt : decide (time < T.t.b) = true := decide_eq_true (by omega)
  have ap1 : applied T T time = (T, 0) := applied_self tt ⟨by omega, by omega, by omega⟩
  have ap2 : applied T { T with t := t' } time = (zeroTn, 1) := by
   unfold applied
   rw [if_neg tt, if_pos hear]
  rw [ap1] at hA
  rw [ap2] at hB ⊢
  have nb : sub rb 0 1 = some [str []] := by obtain ⟨vl, vc, vr, ex, vt, vk, h, -⟩ := hB; rw [h]; rfl
  have z31 : decide ((0 : Int) = 0) = true := by decide
  have z1 : decide ((1 : Int) = 1) = true := by decide
  refine gT1 (And.intro @h2 (And.intro @h3 (And.intro @c16 (And.intro @dt (And.intro @ap1 (And.intro @z31 (And.intro @fra (And.intro @fca (And.intro @yu_t @yu_f))))))))) ?_;try exact ⟨⟩
  obtain ⟨S8, hS8⟩ : ∃ S, ((σ7.new [str [], .slice none 0 0, .slice none 0 0, .slice none 0 0, .int .i64 0, .int .i64 0, str [], .int .i64 0, .int .i64 0, str [], .slice none 0 0, .slice none 0 0, .int .i64 0, .slice none 0 0, .int .i64 0, .int .i64 0, .int .i64 0, .int .i64 0, .int .i64 0, .int .i64 0]).upd σ7.n rb) = S := ⟨_, rfl⟩
  have E8 : Ext σ7 S8 := by rw [← hS8]; exact eX
  have f8 : S8.row σ7.n = some rb := by rw [← hS8]; exact row_upd_same
  have n8 : S8.n = σ7.n + 1 := by rw [← hS8]; rfl
  try rw [hS8]
  have gA : Good S8 ra T := ⟨hA.mono (E6.trans (hE7.trans E8)), hG.ok, by rw [hG.nm]; decide⟩
  refine (textequal_ok gA (gT (E26.trans (hE7.trans E8)))).mono ?_
  rintro r ⟨σ9, rfl, hE9⟩
  have f9 : σ9.row σ7.n = some rb := by rw [hE9.row (by omega)]; exact f8
  refine gT1 (And.intro @f9 (And.intro @nb (And.intro @z1 (And.intro @yu_t (And.intro @yu_f @Tryz.results6))))) ?_;try exact ⟨⟩
  exact ⟨_, rfl⟩
end Go.Proofs.G
