/- A part of the proof: a walk of some functions. -/
import Derived.Test.YtcjkjjnnicadfaaGreatDoorGB
import Derived.Test.YtcjkjjnnicadfaaGreatDoorG62
import Derived.Test.YtcjkjjnnicadfaaGreatDoorGE
import Derived.Test.YtcjkjjnnicadfaaGreatDoorG34
import Derived.Test.YtcjkjjnnicadfaaGreatDoorG63
import Derived.Test.YtcjkjjnnicadfaaGreatDoorGA
set_option linter.unusedSimpArgs false
set_option linter.unusedVariables false
namespace Go.Proofs.G
open Go Go.Ab
open Nat (reduceMul reduceEqDiff reduceAdd)
set_option maxRecDepth 100000
theorem cv_u16 {σ : St} {n : Int} : convA Tryz.prog σ 60 3 (.int .u16 n) = some ⟨.int .i64 (IntKind.i64.wrap n), σ, .none⟩ := by kernel_rfl
inductive NameIs (c : By) : Prop
 | lot (h1 : decide ((4 : Int) < c.length) = true) (h2 : Nat.ble 4 c.length = true) (p : By) (h3 : sub c 0 4 = some p) (h4 : decide (p = [108, 111, 116, 32]) = true) (hd : dist c = 10080)
 | req (h1 : decide ((4 : Int) < c.length) = true) (h2 : Nat.ble 4 c.length = true) (p : By) (h3 : sub c 0 4 = some p) (h4 : decide (p = [108, 111, 116, 32]) = false)
   (h5 : decide ((8 : Int) < c.length) = true) (h6 : Nat.ble 8 c.length = true) (q : By) (h7 : sub c 0 8 = some q) (h8 : decide (q = [114, 101, 113, 117, 105, 114, 101, 32]) = true) (hd : dist c = 10080)
 | crit (h1 : decide ((4 : Int) < c.length) = true) (h2 : Nat.ble 4 c.length = true) (p : By) (h3 : sub c 0 4 = some p) (h4 : decide (p = [108, 111, 116, 32]) = false)
   (h5 : decide ((8 : Int) < c.length) = true) (h6 : Nat.ble 8 c.length = true) (q : By) (h7 : sub c 0 8 = some q) (h8 : decide (q = [114, 101, 113, 117, 105, 114, 101, 32]) = false)
   (h9 : Nat.ble 9 c.length = true) (r : By) (ha : sub c 0 9 = some r) (hb : decide (r = [99, 114, 105, 116, 101, 114, 105, 111, 110]) = true) (hd : dist c = 10080)
 | more (h1 : decide ((4 : Int) < c.length) = true) (h2 : Nat.ble 4 c.length = true) (p : By) (h3 : sub c 0 4 = some p) (h4 : decide (p = [108, 111, 116, 32]) = false)
   (h5 : decide ((8 : Int) < c.length) = false) (b : Bool) (h6 : decide (c = [114, 97, 110, 103, 101]) = b) (hd : dist c = if b then 10080 else 4320)
 | less (h1 : decide ((4 : Int) < c.length) = false) (h5 : decide ((8 : Int) < c.length) = false) (b : Bool) (h6 : decide (c = [114, 97, 110, 103, 101]) = b) (hd : dist c = if b then 10080 else 4320)
def nameQ (c : By) : Bool :=
 if 4 < c.length then
  if c.take 4 = [108, 111, 116, 32] then dist c == 10080
  else if 8 < c.length then (if c.take 8 = [114, 101, 113, 117, 105, 114, 101, 32] then dist c == 10080 else if c.take 9 = [99, 114, 105, 116, 101, 114, 105, 111, 110] then dist c == 10080 else false)
  else if c = [114, 97, 110, 103, 101] then dist c == 10080 else dist c == 4320
 else if 8 < c.length then false else if c = [114, 97, 110, 103, 101] then dist c == 10080 else dist c == 4320
theorem name_all : ∀ c ∈ allC, dist c = 0 ∨ nameQ c = true := by decide
theorem sub_pre {c : By} {n : Nat} (h : n ≤ c.length) : sub c 0 n = some (c.take n) := by rw [sub_of (by omega), List.drop_zero]
theorem name_is {c : By} (h : c ∈ allC) (hd : dist c ≠ 0) : NameIs c := by
 have hb : nameQ c = true := (name_all c h).resolve_left hd
 unfold nameQ at hb
 by_cases a1 : 4 < c.length
 ·rw [if_pos a1] at hb
  have d1 : decide ((4 : Int) < c.length) = true := by rw [decide_eq_true_iff]; omega
  have d2 : Nat.ble 4 c.length = true := ble_of (by omega)
  by_cases a2 : c.take 4 = [108, 111, 116, 32]
  ·rw [if_pos a2] at hb
   exact .lot d1 d2 _ (sub_pre (by omega)) (decide_eq_true a2) (by simpa using hb)
  ·rw [if_neg a2] at hb
   by_cases a3 : 8 < c.length
   ·rw [if_pos a3] at hb
    have d3 : decide ((8 : Int) < c.length) = true := by rw [decide_eq_true_iff]; omega
    have d4 : Nat.ble 8 c.length = true := ble_of (by omega)
    by_cases a4 : c.take 8 = [114, 101, 113, 117, 105, 114, 101, 32]
    ·rw [if_pos a4] at hb
     exact .req d1 d2 _ (sub_pre (by omega)) (decide_eq_false a2) d3 d4 _ (sub_pre (by omega)) (decide_eq_true a4) (by simpa using hb)
    ·rw [if_neg a4] at hb
     by_cases a5 : c.take 9 = [99, 114, 105, 116, 101, 114, 105, 111, 110]
     ·rw [if_pos a5] at hb
      exact .crit d1 d2 _ (sub_pre (by omega)) (decide_eq_false a2) d3 d4 _ (sub_pre (by omega)) (decide_eq_false a4) (ble_of (by omega)) _ (sub_pre (by omega)) (decide_eq_true a5) (by simpa using hb)
     ·rw [if_neg a5] at hb; cases hb
   ·rw [if_neg a3] at hb
    refine .more d1 d2 _ (sub_pre (by omega)) (decide_eq_false a2) (decide_eq_false (by omega)) _ rfl ?_
    by_cases a4 : c = [114, 97, 110, 103, 101]
    ·rw [if_pos a4] at hb; rw [decide_eq_true a4]; simpa using hb
    ·rw [if_neg a4] at hb; rw [decide_eq_false a4]; simpa using hb
 ·rw [if_neg a1] at hb
  by_cases a3 : 8 < c.length
  ·omega
  ·rw [if_neg a3] at hb
   refine .less (decide_eq_false (by omega)) (decide_eq_false (by omega)) _ rfl ?_
   by_cases a4 : c = [114, 97, 110, 103, 101]
   ·rw [if_pos a4] at hb; rw [decide_eq_true a4]; simpa using hb
   ·rw [if_neg a4] at hb; rw [decide_eq_false a4]; simpa using hb
theorem movesP_dist {T U : Tn} {c : By} (h : c ∈ movesP T U) : dist c ≠ 0 := by
 unfold movesP at h
 simpa using (List.mem_filter.1 h).2
set_option maxHeartbeats 16000000 in
theorem law_times_ok {σ : St} {v : Value} {l : List Int} {q0 q1 q2 r0 r1 r2 r3 r4 : Int} (hl : ArgInts σ v l) (hll : l.length ≤ 9223372036854775807) (hq : In64 q0 ∧ In64 q1 ∧ In64 q2)
  (k0 : 0 ≤ r0 ∧ r0 < 65536) (k1 : 0 ≤ r1 ∧ r1 < 65536) (k2 : 0 ≤ r2 ∧ r2 < 65536) (k3 : 0 ≤ r3 ∧ r3 < 65536) (k4 : 0 ≤ r4 ∧ r4 < 65536) :
  Ev (go Tryz.prog HS (.fn 5) [v, .agg ⟨[.int .i64 q0, .int .i64 q1, .int .i64 q2]⟩, .agg ⟨[.int .u16 r0, .int .u16 r1, .int .u16 r2, .int .u16 r3, .int .u16 r4]⟩] σ) (fun r => ∃ σ', r = ⟨false, .bool true, σ'⟩) ⟨⟩ := by
 have hv : ∃ a n c, v = .slice a n c := by
  obtain ⟨a, c, b, off, cells, h, -⟩ := hl.1.use; exact ⟨a, _, c, h⟩
 have hvc : cellsL v = [v] ∧ isTup v = false := by obtain ⟨a, n, c, rfl⟩ := hv; exact ⟨rfl, rfl⟩
 obtain ⟨q, hqq⟩ : ∃ q : List Value, [.int .i64 q0, .int .i64 q1, .int .i64 q2] = q := ⟨_, rfl⟩
 rw [hqq]
 have yl : q.length = 3 := by rw [← hqq]; rfl
 have yf : sub q 0 3 = some q := sub_full (by omega) (by omega)
 obtain ⟨g, hgg⟩ : ∃ g : List Value, [.int .u16 r0, .int .u16 r1, .int .u16 r2, .int .u16 r3, .int .u16 r4] = g := ⟨_, rfl⟩
 rw [hgg]
 have xl : g.length = 5 := by rw [← hgg]; rfl
 have xf : sub g 0 5 = some g := sub_full (by omega) (by omega)
 have x0 : sub g 0 1 = some [.int .u16 r0] := by rw [← hgg]; rfl
 have x1 : sub g 1 1 = some [.int .u16 r1] := by rw [← hgg]; rfl
 have x2 : sub g 2 1 = some [.int .u16 r2] := by rw [← hgg]; rfl
 have x3 : sub g 3 1 = some [.int .u16 r3] := by rw [← hgg]; rfl
 have x4 : sub g 4 1 = some [.int .u16 r4] := by rw [← hgg]; rfl
 refine ev_go Tryz.func5 rfl rfl ?_
 simp (maxSteps := 1000000) (disch := first | exact dS | fail) only [↓bD2, bW2, reduceMul, reduceEqDiff, reduceAdd, Nat.reduceBEq, reduceIte, hvc.1, hvc.2, ev_san, yl, yf, xl, xf]
 have E1 : Ext σ ((σ.new q).new g) := eX
 refine (good_ok (σ := (σ.new q).new g) (l := l) [] (fun c hc => by cases hc) ⟨SL.mono hl.1 E1, hl.2⟩ hll).mono ?_
 rintro r ⟨ca, T, σ2, rfl, hE2, hTX, hG⟩
 have n2 := hE2.n
 simp only [new_n] at n2
 have lca := hTX.tn.len
 have fca : sub ca 0 20 = some ca := sub_full (by omega) (by omega)
 have p2 : σ2.row σ.n = some q := by rw [hE2.row (by simp; omega), row_new_ne (by simp)]; exact row_new_same (Nat.le_refl _) (Nat.le_refl _)
 have w2 : σ2.row (σ.n + 1) = some g := by rw [hE2.row (by simp)]; exact row_new_same (Nat.le_refl _) (Nat.le_refl _)
 refine gT1 (And.intro @fca (And.intro @p2 @yf)) ?_;try exact ⟨⟩
 obtain ⟨S3, hS3⟩ : ∃ S, ((σ2.new [str [], .slice none 0 0, .slice none 0 0, .slice none 0 0, .int .i64 0, .int .i64 0, str [], .int .i64 0, .int .i64 0, str [], .slice none 0 0, .slice none 0 0, .int .i64 0, .slice none 0 0, .int .i64 0, .int .i64 0, .int .i64 0, .int .i64 0, .int .i64 0, .int .i64 0]).upd σ2.n ca) = S := ⟨_, rfl⟩
 rw [hS3]
 have E3 : Ext σ2 S3 := by rw [← hS3]; exact eX
 have n3 : S3.n = σ2.n + 1 := by rw [← hS3]; rfl
 have c3 : S3.row σ2.n = some ca := by rw [← hS3]; exact row_upd_same
 clear hS3
 rw [← hqq]
 refine (edit_ok (n := 5) [] (by simp) (hTX.keep (keep_ext E3)) hG.ok hG.le (by omega) hq.1 hq.2.1 hq.2.2).mono ?_
 rintro r ⟨cw, W, σ4, rfl, e4, hW, okW, leW, nmW⟩
 have n4 := e4.n
 have lcw := hW.tn.len
 have c4 : σ4.row σ2.n = some ca := by rw [e4.row (by omega)]; exact c3
 have w4 : σ4.row (σ.n + 1) = some g := by rw [e4.row (by omega), E3.row (by omega)]; exact w2
 obtain ⟨y1', y2', y3', z1', z2', z3', z4', z5', y4', y5', hca, -⟩ := sub_self hTX.tn
 obtain ⟨a1, a2, a3, b1, b2, b3, b4, b5, a4, a5, hcw, g1, g2, g3, g4, g5, g6⟩ := sub_self hW.tn
 have sa : sub ca 15 5 = some T.t.row := by rw [hca]; rfl
 have sb : sub ca 16 1 = some [.int .i64 T.t.b] := by rw [hca]; rfl
 have sg : sub ca 17 1 = some [.int .i64 T.t.g] := by rw [hca]; rfl
 have sp : sub ca 18 1 = some [.int .i64 T.t.p] := by rw [hca]; rfl
 obtain ⟨D, hD⟩ : ∃ D : Int → Int → Int → Int → Int → List Value, D = fun q b g p s => tnRow W.name a1 a2 a3 W.low W.high [b1, b2, b3, b4, b5] a4 W.most a5 W.budget ⟨q, b, g, p, s⟩ := ⟨_, rfl⟩
 have so : splice cw 15 T.t.row = some (D T.t.q T.t.b T.t.g T.t.p T.t.s) := by rw [hcw, hD]; rfl
 have dl : ∀ q b g p s, (D q b g p s).length = 20 := fun _ _ _ _ _ => by rw [hD]; rfl
 have dk : ∀ q b g p s, sub (D q b g p s) 0 20 = some (D q b g p s) := fun _ _ _ _ _ => by rw [hD]; rfl
 have dt : ∀ q b g p s, sub (D q b g p s) 15 5 = some (Tim.row ⟨q, b, g, p, s⟩) := fun _ _ _ _ _ => by rw [hD]; rfl
 have d0 : ∀ q b g p s, sub (D q b g p s) 15 1 = some [.int .i64 q] := fun _ _ _ _ _ => by rw [hD]; rfl
 have d1 : ∀ q b g p s, sub (D q b g p s) 16 1 = some [.int .i64 b] := fun _ _ _ _ _ => by rw [hD]; rfl
 have d2 : ∀ q b g p s, sub (D q b g p s) 17 1 = some [.int .i64 g] := fun _ _ _ _ _ => by rw [hD]; rfl
 have d3 : ∀ q b g p s, sub (D q b g p s) 18 1 = some [.int .i64 p] := fun _ _ _ _ _ => by rw [hD]; rfl
 have d4 : ∀ q b g p s, sub (D q b g p s) 19 1 = some [.int .i64 s] := fun _ _ _ _ _ => by rw [hD]; rfl
 have s0 : ∀ q b g p s v, splice (D q b g p s) 15 [.int .i64 v] = some (D v b g p s) := fun _ _ _ _ _ _ => by rw [hD]; rfl
 have s1 : ∀ q b g p s v, splice (D q b g p s) 16 [.int .i64 v] = some (D q v g p s) := fun _ _ _ _ _ _ => by rw [hD]; rfl
 have s2 : ∀ q b g p s v, splice (D q b g p s) 17 [.int .i64 v] = some (D q b v p s) := fun _ _ _ _ _ _ => by rw [hD]; rfl
 have s3 : ∀ q b g p s v, splice (D q b g p s) 18 [.int .i64 v] = some (D q b g v s) := fun _ _ _ _ _ _ => by rw [hD]; rfl
 have s4 : ∀ q b g p s v, splice (D q b g p s) 19 [.int .i64 v] = some (D q b g p v) := fun _ _ _ _ _ _ => by rw [hD]; rfl
 have h1 := hG.q1
 have h2 := hG.b1
 have h3 := hG.g1
 have h4 := hG.p1
 have h5 := hG.s1
 have tl : T.t.row.length = 5 := rfl
 have hO : ∀ {σ'} {t' : Tim}, Ext σ4 σ' → (In64 t'.q ∧ In64 t'.b ∧ In64 t'.g ∧ In64 t'.p ∧ In64 t'.s) → Good σ' (D t'.q t'.b t'.g t'.p t'.s) { W with t := t' } := fun hE ht => ⟨⟨a1, a2, a3, [b1, b2, b3, b4, b5], a4, a5, by rw [hD], SL.mono g1 hE, SL.mono g2 hE, SL.mono g3 hE, g4.mono hE, g5.mono hE, g6.mono hE⟩, ⟨okW.lots, okW.lot, okW.crits, okW.crit, okW.reqs, okW.req, okW.low, okW.high, okW.ties, okW.tie, okW.most, okW.combos, okW.combo, okW.budget, ht⟩, by show W.name.length ≤ 100; rw [nmW, hG.nm]; decide⟩
 clear hcw hca
 simp (maxSteps := 1000000) (disch := first | exact dS | fail) only [↓bD2, bU2, reduceMul, reduceEqDiff, reduceAdd, Nat.reduceBEq, reduceIte, bunAP, asx e4, as_newb, as_upd, lcw, fca, c4, w4, sa, sb, so, tl, dl, dk, d0, d1, d2, d3, d4, s0, s1, s2, s3, s4, x0, x1, x2, x3, x4, ↓ld60, ia61, cv_u16, Tryz.underlying60, Tryz.underlying61, natl]
 obtain ⟨t', ht'⟩ : ∃ t' : Tim, (⟨T.t.q + r0, T.t.b + r1, T.t.g + r2, T.t.p + r3, T.t.s + r4⟩ : Tim) = t' := ⟨_, rfl⟩
 have u0 : t'.q = T.t.q + r0 := by rw [← ht']
 have u1 : t'.b = T.t.b + r1 := by rw [← ht']
 have u2 : t'.g = T.t.g + r2 := by rw [← ht']
 have u3 : t'.p = T.t.p + r3 := by rw [← ht']
 have u4 : t'.s = T.t.s + r4 := by rw [← ht']
 have it : In64 t'.q ∧ In64 t'.b ∧ In64 t'.g ∧ In64 t'.p ∧ In64 t'.s := ⟨⟨by omega, by omega⟩, ⟨by omega, by omega⟩, ⟨by omega, by omega⟩, ⟨by omega, by omega⟩, ⟨by omega, by omega⟩⟩
 obtain ⟨S6, hS6⟩ : ∃ S, ((((((((σ4.new [str [], .slice none 0 0, .slice none 0 0, .slice none 0 0, .int .i64 0, .int .i64 0, str [], .int .i64 0, .int .i64 0, str [], .slice none 0 0, .slice none 0 0, .int .i64 0, .slice none 0 0, .int .i64 0, .int .i64 0, .int .i64 0, .int .i64 0, .int .i64 0, .int .i64 0]).upd σ4.n cw).upd σ4.n (D T.t.q T.t.b T.t.g T.t.p T.t.s)).upd σ4.n (D (T.t.q + r0) T.t.b T.t.g T.t.p T.t.s)).upd σ4.n (D (T.t.q + r0) (T.t.b + r1) T.t.g T.t.p T.t.s)).upd σ4.n (D (T.t.q + r0) (T.t.b + r1) (T.t.g + r2) T.t.p T.t.s)).upd σ4.n (D (T.t.q + r0) (T.t.b + r1) (T.t.g + r2) (T.t.p + r3) T.t.s)).upd σ4.n (D (T.t.q + r0) (T.t.b + r1) (T.t.g + r2) (T.t.p + r3) (T.t.s + r4))) = S := ⟨_, rfl⟩
 rw [hS6]
 have E6 : Ext σ4 S6 := by rw [← hS6]; exact eX
 have n6 : S6.n = σ4.n + 1 := by rw [← hS6]; rfl
 obtain ⟨cv, hcv⟩ : ∃ cv : List Value, D t'.q t'.b t'.g t'.p t'.s = cv := ⟨_, rfl⟩
 have hcv' : D (T.t.q + r0) (T.t.b + r1) (T.t.g + r2) (T.t.p + r3) (T.t.s + r4) = cv := by rw [← u0, ← u1, ← u2, ← u3, ← u4]; exact hcv
 rw [hcv']
 have v6 : S6.row σ4.n = some cv := by rw [← hS6, hcv']; exact row_upd_same
 have t6 : S6.row σ2.n = some ca := by rw [E6.row (by omega)]; exact c4
 clear hS6
 have fcv : sub cv 0 20 = some cv := by rw [← hcv]; exact dk _ _ _ _ _
 have vt : sub cv 15 5 = some t'.row := by rw [← hcv]; exact dt _ _ _ _ _
 have v0 : sub cv 15 1 = some [.int .i64 t'.q] := by rw [← hcv]; exact d0 _ _ _ _ _
 have v1 : sub cv 16 1 = some [.int .i64 t'.b] := by rw [← hcv]; exact d1 _ _ _ _ _
 have v2 : sub cv 17 1 = some [.int .i64 t'.g] := by rw [← hcv]; exact d2 _ _ _ _ _
 have v3 : sub cv 18 1 = some [.int .i64 t'.p] := by rw [← hcv]; exact d3 _ _ _ _ _
 have v4 : sub cv 19 1 = some [.int .i64 t'.s] := by rw [← hcv]; exact d4 _ _ _ _ _
 obtain ⟨V, hV⟩ : ∃ V : Tn, { W with t := t' } = V := ⟨_, rfl⟩
 have hVt : V.t = t' := by rw [← hV]
 have gTn : ∀ {τ}, Ext σ2 τ → Good τ ca T := fun hE => ⟨hTX.tn.mono hE, hG.ok, by rw [hG.nm]; decide⟩
 have gV : ∀ {τ}, Ext S6 τ → Good τ cv V := fun hE => by rw [← hcv, ← hV]; exact hO (E6.trans hE) it
 have E26 : Ext σ2 S6 := E3.trans (e4.trans E6)
 have okV : V.Ok := (gV (Ext.refl _)).ok
 clear hcv hcv' hO so dl dk dt d0 d1 d2 d3 d4 s0 s1 s2 s3 s4
 have hby := by_same hG.ok okV
 refine (papply_ok (time := T.t.b - 1) (gTn E26) (gV (Ext.refl _)) hby).mono ?_
 rintro r ⟨ra, σ7, rfl, e7, hA⟩
 have n7 := e7.n
 have hap : applied T V (T.t.b - 1) = ({ V with t := moved T V }, 0) := by
  unfold applied
  rw [if_neg (by omega), hVt]
  have he : earlierT t' T.t = false := by unfold earlierT; simp; omega
  rw [he, if_neg (by simp)]
 rw [hap] at hA ⊢
 obtain ⟨by', hb'⟩ : ∃ b, byOf T V = b := ⟨_, rfl⟩
 have hbc := byOf_cases T V
 rw [hb'] at hbc
 have hmv : moved T V = ⟨t'.q, max t'.b (T.t.b + by'), max t'.g (T.t.g + by'), max t'.p (T.t.p + by'), t'.s⟩ := by
  unfold moved later
  rw [hVt, hb', if_pos (by omega), if_pos (by omega), if_pos (by omega)]
 obtain ⟨mb, hmb⟩ : ∃ x, max t'.b (T.t.b + by') = x := ⟨_, rfl⟩
 obtain ⟨mg, hmg⟩ : ∃ x, max t'.g (T.t.g + by') = x := ⟨_, rfl⟩
 obtain ⟨mp, hmp⟩ : ∃ x, max t'.p (T.t.p + by') = x := ⟨_, rfl⟩
 rw [hmb, hmg, hmp] at hmv
 have z1 : decide (mb < t'.b) = false := decide_eq_false (by omega)
 have z2 : decide (mg < t'.g) = false := decide_eq_false (by omega)
 have z3 : decide (mp < t'.p) = false := decide_eq_false (by omega)
 rw [hmv] at hA
 have lra := hA.len
 have fra : sub ra 0 20 = some ra := sub_full (by omega) (by omega)
 obtain ⟨m1, m2, m3, o1, o2, o3, o4, o5, m4, m5, hra, f1, f2, f3, f4, f5, f6⟩ := sub_self hA
 have raq : sub ra 15 1 = some [.int .i64 t'.q] := by rw [hra]; rfl
 have rab : sub ra 16 1 = some [.int .i64 mb] := by rw [hra]; rfl
 have rag : sub ra 17 1 = some [.int .i64 mg] := by rw [hra]; rfl
 have rap : sub ra 18 1 = some [.int .i64 mp] := by rw [hra]; rfl
 have ras : sub ra 19 1 = some [.int .i64 t'.s] := by rw [hra]; rfl
 obtain ⟨rb, hrb⟩ : ∃ rb : List Value, rb = tnRow V.name m1 m2 m3 V.low V.high [o1, o2, o3, o4, o5] m4 V.most m5 V.budget t' := ⟨_, rfl⟩
 have rsp : splice ra 15 t'.row = some rb := by rw [hra, hrb]; rfl
 have lrb : rb.length = 20 := by rw [hrb]; rfl
 have frb : sub rb 0 20 = some rb := sub_full (by omega) (by omega)
 have gB : ∀ {τ}, Ext σ7 τ → Good τ rb V := fun hE => by
  have hg := gV (Ext.refl S6)
  refine ⟨⟨m1, m2, m3, [o1, o2, o3, o4, o5], m4, m5, by rw [hrb, hVt], SL.mono f1 hE, SL.mono f2 hE, SL.mono f3 hE, f4.mono hE, f5.mono hE, f6.mono hE⟩, hg.ok, hg.nm⟩
 clear hra hrb
 have t7 : σ7.row σ2.n = some ca := by rw [e7.row (by omega)]; exact t6
 have w7 : σ7.row σ4.n = some cv := by rw [e7.row (by omega)]; exact v6
 have zq : decide (t'.q = t'.q) = true := by simp
 have zs : decide (t'.s = t'.s) = true := by simp
 have z0 : decide ((0 : Int) = 0) = true := by decide
 refine gT1 (And.intro @lra (And.intro @t7 (And.intro @w7 (And.intro @raq (And.intro @rab (And.intro @rag (And.intro @rap (And.intro @ras (And.intro @v0 (And.intro @v1 (And.intro @v2 (And.intro @v3 (And.intro @v4 (And.intro @z0 (And.intro @z1 (And.intro @z2 (And.intro @z3 (And.intro @zq (And.intro @zs (And.intro @fca (And.intro @fcv (And.intro @yu_t @yu_f)))))))))))))))))))))) ?_;try exact ⟨⟩
 obtain ⟨S8, hS8⟩ : ∃ S, ((σ7.new [str [], .slice none 0 0, .slice none 0 0, .slice none 0 0, .int .i64 0, .int .i64 0, str [], .int .i64 0, .int .i64 0, str [], .slice none 0 0, .slice none 0 0, .int .i64 0, .slice none 0 0, .int .i64 0, .int .i64 0, .int .i64 0, .int .i64 0, .int .i64 0, .int .i64 0]).upd σ7.n ra) = S := ⟨_, rfl⟩
 rw [hS8]
 have E8 : Ext σ7 S8 := by rw [← hS8]; exact eX
 have n8 : S8.n = σ7.n + 1 := by rw [← hS8]; rfl
 have a8 : S8.row σ7.n = some ra := by rw [← hS8]; exact row_upd_same
 clear hS8
 have t8 : S8.row σ2.n = some ca := by rw [E8.row (by omega)]; exact t7
 have w8 : S8.row σ4.n = some cv := by rw [E8.row (by omega)]; exact w7
 have E28 : Ext σ2 S8 := E26.trans (e7.trans E8)
 refine (pmoves_ok (gTn E28) (gV (e7.trans E8))).mono ?_
 rintro r ⟨vm, σ9, rfl, e9, hm⟩
 have n9 := e9.n
 have a9 : σ9.row σ7.n = some ra := by rw [e9.row (by omega)]; exact a8
 have t9 : σ9.row σ2.n = some ca := by rw [e9.row (by omega)]; exact t8
 have w9 : σ9.row σ4.n = some cv := by rw [e9.row (by omega)]; exact w8
 obtain ⟨wa, wc, wb, wo, wcs, hwv, j1, j2⟩ := hm.strs.use
 subst hwv
 refine gT ?_;try exact ⟨⟩
 have lM := movesP_len hG.ok okV
 refine ev_count (movesP T V).length (fun k fr σ' => fr.get 14 = some (.int .i64 k) ∧ (∃ b, fr.get 12 = some (.int .i64 b) ∧ b = (((movesP T V).take k).foldl (fun m c => max m (dist c)) 0)) ∧ fr.get 13 = some (.slice wa (movesP T V).length wc) ∧ fr.get 8 = some (.pointer (some ⟨σ2.n, 0, none⟩)) ∧ fr.get 9 = some (.pointer (some ⟨σ4.n, 0, none⟩)) ∧ fr.get 10 = some (.pointer (some ⟨σ7.n, 0, none⟩)) ∧ fr.get 7 = some (.bool true) ∧ σ' = σ9)
  (fun r => ∃ fr, r = ⟨.exit 0, fr, σ9⟩ ∧ fr.get 12 = some (.int .i64 by') ∧ fr.get 8 = some (.pointer (some ⟨σ2.n, 0, none⟩)) ∧ fr.get 9 = some (.pointer (some ⟨σ4.n, 0, none⟩)) ∧ fr.get 10 = some (.pointer (some ⟨σ7.n, 0, none⟩)) ∧ fr.get 7 = some (.bool true)) ?_ ?_ ?_ ?_
 ·exact ⟨fR, ⟨_, fR, rfl⟩, fR, fR, fR, fR, fR, rfl⟩
 ·rintro k fr σ' hk ⟨g14, ⟨b, g12, hb⟩, g13, g8, g9, g10, g7, rfl⟩
  have hc := lt_true hk
  obtain ⟨a, ha⟩ := at_some hk
  obtain ⟨sp, rfl, l3, l4⟩ := j1 (by omega)
  have l7 := j2 k a ha
  have hma := List.mem_of_getElem? ha
  have hft := fold_take (fun m c => max m (dist c)) (s := (0 : Int)) ha
  rw [← hb] at hft
  cases name_is (movesP_allC hG.ok okV hma) (movesP_dist hma) with
  | lot c1 c2 p c3 c4 hd =>
   simp (maxSteps := 1000000) (disch := first | exact dS | fail) only [↓bD2, bW2, reduceMul, reduceEqDiff, reduceAdd, Nat.reduceBEq, reduceIte, g14, g13, g12, hc, l4, l7, c1, c2, c3, c4, Option.isNone_none, Nat.sub_zero, yu_t, yu_f]
   exact ⟨fR, ⟨_, rfl, by rw [hft, hd]⟩, fR1 g13, fR1 g8, fR1 g9, fR1 g10, fR1 g7, trivial⟩
  | req c1 c2 p c3 c4 c5 c6 q c7 c8 hd =>
   simp (maxSteps := 1000000) (disch := first | exact dS | fail) only [↓bD2, bW2, reduceMul, reduceEqDiff, reduceAdd, Nat.reduceBEq, reduceIte, g14, g13, g12, hc, l4, l7, c1, c2, c3, c4, c5, c6, c7, c8, Option.isNone_none, Nat.sub_zero, yu_t, yu_f]
   exact ⟨fR, ⟨_, rfl, by rw [hft, hd]⟩, fR1 g13, fR1 g8, fR1 g9, fR1 g10, fR1 g7, trivial⟩
  | crit c1 c2 p c3 c4 c5 c6 q c7 c8 c9 r ca' cb' hd =>
   simp (maxSteps := 1000000) (disch := first | exact dS | fail) only [↓bD2, bW2, reduceMul, reduceEqDiff, reduceAdd, Nat.reduceBEq, reduceIte, g14, g13, g12, hc, l4, l7, c1, c2, c3, c4, c5, c6, c7, c8, c9, ca', cb', Option.isNone_none, Nat.sub_zero, yu_t, yu_f]
   exact ⟨fR, ⟨_, rfl, by rw [hft, hd]⟩, fR1 g13, fR1 g8, fR1 g9, fR1 g10, fR1 g7, trivial⟩
  | more c1 c2 p c3 c4 c5 b' c6 hd =>
   cases b' with
   | true =>
    simp (maxSteps := 1000000) (disch := first | exact dS | fail) only [↓bD2, bW2, reduceMul, reduceEqDiff, reduceAdd, Nat.reduceBEq, reduceIte, g14, g13, g12, hc, l4, l7, c1, c2, c3, c4, c5, c6, Option.isNone_none, Nat.sub_zero, yu_t, yu_f]
    exact ⟨fR, ⟨_, rfl, by rw [hft, hd]; rfl⟩, fR1 g13, fR1 g8, fR1 g9, fR1 g10, fR1 g7, trivial⟩
   | false =>
    simp (maxSteps := 1000000) (disch := first | exact dS | fail) only [↓bD2, bW2, reduceMul, reduceEqDiff, reduceAdd, Nat.reduceBEq, reduceIte, g14, g13, g12, hc, l4, l7, c1, c2, c3, c4, c5, c6, Option.isNone_none, Nat.sub_zero, yu_t, yu_f]
    exact ⟨fR, ⟨_, rfl, by rw [hft, hd]; rfl⟩, fR1 g13, fR1 g8, fR1 g9, fR1 g10, fR1 g7, trivial⟩
  | less c1 c5 b' c6 hd =>
   cases b' with
   | true =>
    simp (maxSteps := 1000000) (disch := first | exact dS | fail) only [↓bD2, bW2, reduceMul, reduceEqDiff, reduceAdd, Nat.reduceBEq, reduceIte, g14, g13, g12, hc, l4, l7, c1, c5, c6, Option.isNone_none, Nat.sub_zero, yu_t, yu_f]
    exact ⟨fR, ⟨_, rfl, by rw [hft, hd]; rfl⟩, fR1 g13, fR1 g8, fR1 g9, fR1 g10, fR1 g7, trivial⟩
   | false =>
    simp (maxSteps := 1000000) (disch := first | exact dS | fail) only [↓bD2, bW2, reduceMul, reduceEqDiff, reduceAdd, Nat.reduceBEq, reduceIte, g14, g13, g12, hc, l4, l7, c1, c5, c6, Option.isNone_none, Nat.sub_zero, yu_t, yu_f]
    exact ⟨fR, ⟨_, rfl, by rw [hft, hd]; rfl⟩, fR1 g13, fR1 g8, fR1 g9, fR1 g10, fR1 g7, trivial⟩
 ·rintro fr σ' ⟨g14, ⟨b, g12, hb⟩, g13, g8, g9, g10, g7, rfl⟩
  rw [List.take_length] at hb
  have hbb : b = by' := by rw [hb, ← hb', ← hby]; rfl
  rw [hbb] at g12
  refine gT1 (And.intro @g14 @g13) ?_;try exact ⟨⟩
  exact ⟨_, rfl, fR1 g12, fR1 g8, fR1 g9, fR1 g10, fR1 g7⟩
 rintro r ⟨fr, rfl, g12, g8, g9, g10, g7⟩
 have tl' : t'.row.length = 5 := rfl
 have zb : decide (mb = mb) = true := by simp
 have zg : decide (mg = mg) = true := by simp
 have zp : decide (mp = mp) = true := by simp
 simp (maxSteps := 1000000) (disch := first | exact dS | fail) only [↓bD2, bU2, reduceMul, reduceEqDiff, reduceAdd, Nat.reduceBEq, reduceIte, bunAP, g12, g8, g9, g10, g7, a9, t9, w9, fra, lra, tl', vt, rsp, lrb, frb, fcv, v1, v2, v3, rab, rag, rap, sb, sg, sp, hmb, hmg, hmp, zb, zg, zp, yu_t, yu_f]
 obtain ⟨SA, hSA⟩ : ∃ S, (((σ9.new [str [], .slice none 0 0, .slice none 0 0, .slice none 0 0, .int .i64 0, .int .i64 0, str [], .int .i64 0, .int .i64 0, str [], .slice none 0 0, .slice none 0 0, .int .i64 0, .slice none 0 0, .int .i64 0, .int .i64 0, .int .i64 0, .int .i64 0, .int .i64 0, .int .i64 0]).upd σ9.n ra).upd σ9.n rb) = S := ⟨_, rfl⟩
 rw [hSA]
 have EA : Ext σ9 SA := by rw [← hSA]; exact eX
 refine (textequal_ok (gB (E8.trans (e9.trans EA))) (gV (e7.trans (E8.trans (e9.trans EA))))).mono ?_
 rintro r ⟨σA, rfl, eA⟩
 refine gT1 (And.intro @yu_t (And.intro @yu_f @Tryz.results5)) ?_;try exact ⟨⟩
 exact ⟨_, rfl⟩
end Go.Proofs.G
