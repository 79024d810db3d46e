/- A part of the proof: a walk of some functions. -/
import Derived.Test.YtcjkjjnnicadfaaGreatDoorGL
import Derived.Test.YtcjkjjnnicadfaaGreatDoorGO
set_option linter.unusedSimpArgs false
set_option linter.unusedVariables false
namespace Go.Proofs.G
open Go Go.Ab
open Nat (reduceMul reduceEqDiff reduceAdd)
set_option maxRecDepth 100000
theorem MS.new {H : List Nat} {q : Nat} {v : Value} {l : List Int} {σ : St} {cs : List Value} (h : MS H q v l σ) : MS H q v l (σ.new cs) := h.ext (.new _ _)
theorem fok_name {s : By} (h : s.length ≤ 30) : FOk 1 (nameE s) := .name h
theorem fok_op {o : By} {j k : Nat} {a b : Ex} (h1 : o ≠ numO) (h2 : o ≠ nameO) (hl : o.length ≤ 4) (ha : FOk j a) (hb : FOk k b) : FOk (j + k) (opE o a b) := .op h1 h2 hl ha hb
theorem as_extx {bs : List Nat} {i j b o n q : Nat} {a a' : St} {ds : List Ab.Trace} (h : ExtX q a a') (hne : b ≠ q) : allSame bs i ⟨b, o, n⟩ (.eff j a a' :: ds) = allSame bs i ⟨b, o, n⟩ ds := as_eff fun hlt => h.same b hlt hne
theorem dds_at {x : Nat} (h : (x : Int) < 4) : ∃ dd, sub ([.int .i64 1, .int .i64 2, .int .i64 10, .int .i64 4] : List Value) x 1 = some [.int .i64 dd] ∧ dd ∈ dds := by
 have : x = 0 ∨ x = 1 ∨ x = 2 ∨ x = 3 := by omega
 rcases this with rfl | rfl | rfl | rfl
 ·exact ⟨1, rfl, by decide⟩
 ·exact ⟨2, rfl, by decide⟩
 ·exact ⟨10, rfl, by decide⟩
 ·exact ⟨4, rfl, by decide⟩
theorem mm_at {x : Nat} (h : (x : Int) < 2) : ∃ o, sub ([str [109, 105, 110], str [109, 97, 120]] : List Value) x 1 = some [str o] ∧ (o = minO ∨ o = maxO) := by
 have : x = 0 ∨ x = 1 := by omega
 rcases this with rfl | rfl
 ·exact ⟨minO, rfl, .inl rfl⟩
 ·exact ⟨maxO, rfl, .inr rfl⟩
set_option maxHeartbeats 16000000 in
theorem one_ok {σ : St} {q : Nat} {v vc : Value} {l : List Int} {ca : List Value} {T : Tn} (H : List Nat) (hHlt : ∀ x ∈ H, x < σ.n) (hM : MS H q v l σ) (hca : ca.length = 20) (hc : sub ca 2 1 = some [vc]) (hcr : Crits (hide σ H) vc T.crits) (hcl : T.crits.length ≤ 16) (hR : Rng T) :
  Ev (go Tryz.prog HS (.fn 36) [.pointer (some ⟨q, 0, none⟩), .agg ⟨ca⟩] σ) (fun r => ∃ row e j σ', r = ⟨false, .agg ⟨row⟩, σ'⟩ ∧ MS H q v l σ' ∧ ExtX q σ σ' ∧ ExAt (hide σ' H) row e ∧ FOk j e ∧ j ≤ 5 ∧ Iv T e (Bd 80 144)) ⟨⟩ := by
 have hq := hM.lt
 have hfa : sub ca 0 20 = some ca := sub_full (by omega) (by omega)
 obtain ⟨aa, cc, cb, co, ccs, rfl, c1, c2⟩ := hcr.use
 refine ev_go Tryz.func36 rfl rfl ?_
 refine gT1 @hfa ?_;try exact ⟨⟩
 refine (nx_ok (n := 9) hM.new.new (by omega) (by omega)).mono ?_
 rintro r ⟨x1, σ1, rfl, hx1, hM1, hX1⟩
 have n1 := hX1.n
 simp only [new_n] at n1
 refine gT ?_;try exact ⟨⟩
 refine (nx_ok (n := 4) hM1.new (by omega) (by omega)).mono ?_
 rintro r ⟨x2, σ2, rfl, hx2, hM2, hX2⟩
 have n2 := hX2.n
 simp only [new_n] at n2
 have k2 : σ2.row σ1.n = some [.int .i64 1, .int .i64 2, .int .i64 10, .int .i64 4] := by rw [hX2.row (by simp) (by omega)]; exact cL
 obtain ⟨dd, ix, hdd⟩ := dds_at hx2
 obtain ⟨dd1, dd10⟩ := dds_bd hdd
 refine gT1 (And.intro @k2 @ix) ?_;try exact ⟨⟩
 refine (mknum_ok (n := 1 + (x1 : Int)) (d := dd) (by omega) (by omega) (by omega) (by omega) (by omega)).mono ?_
 rintro r ⟨w, σ3, rfl, hE3, hw⟩
 have n3 := hE3.n
 have hw5 := (hw σ).len
 have wt := wt_of (n := 1 + (x1 : Int)) (d := dd) (by omega) (by omega) hdd
 have wn1 : 1 ≤ 1 + (x1 : Int) := by omega
 have wn9 : 1 + (x1 : Int) ≤ 9 := by omega
 obtain ⟨WN, hWN⟩ : ∃ n, 1 + (x1 : Int) = n := ⟨_, rfl⟩
 rw [hWN] at hw wt wn1 wn9
 refine gT ?_;try exact ⟨⟩
 obtain ⟨S3, hS3⟩ : ∃ S, ((σ3.new [str [], .int .i64 0, .int .i64 0, str [], .slice none 0 0]).upd σ3.n w) = S := ⟨_, rfl⟩
 rw [hS3]
 have E3 : Ext σ3 S3 := by rw [← hS3]; exact eX
 have nS3 : S3.n = σ3.n + 1 := by rw [← hS3]; rfl
 have X3 : ExtX q σ S3 := (((ExtX.of (Ext.new' (Ext.new' (.refl _) _) _)).trans hX1).trans ((ExtX.of (.new _ _)).trans hX2)).trans (ExtX.of (hE3.trans E3))
 have C3 : Cl S3 [(σ.n, ca), (σ.n + 1, [str [], .int .i64 0, .int .i64 0, str [], .slice none 0 0]), (σ3.n, w)] := by
  have D1 : Cl ((σ.new ca).new [str [], .int .i64 0, .int .i64 0, str [], .slice none 0 0]) [(σ.n, ca), (σ.n + 1, [str [], .int .i64 0, .int .i64 0, str [], .slice none 0 0])] := ⟨⟨by simp; omega, cL⟩, ⟨by simp, cL⟩, trivial⟩
  have D2 : Cl S3 [(σ.n, ca), (σ.n + 1, [str [], .int .i64 0, .int .i64 0, str [], .slice none 0 0])] := (((Cl.keepX hX2 (by intro p hp; simp at hp; rcases hp with rfl | rfl <;> (show _ ≠ q; simp; omega)) ((Cl.keepX hX1 (by intro p hp; simp at hp; rcases hp with rfl | rfl <;> (show _ ≠ q; simp; omega)) D1).ext (.new _ _))).ext hE3).ext E3)
  exact ⟨D2.1, D2.2.1, ⟨by omega, by rw [← hS3]; exact cL⟩, trivial⟩
 have M3 : MS H q v l S3 := (hM2.ext hE3).ext E3
 refine (nx_ok (n := 8) M3 (by omega) (by omega)).mono ?_
 rintro r ⟨x3, σ4, rfl, hx3, hM4, hX4⟩
 have n4 := hX4.n
 have X4 := X3.trans hX4
 have C4 : Cl σ4 [(σ.n, ca), (σ.n + 1, [str [], .int .i64 0, .int .i64 0, str [], .slice none 0 0]), (σ3.n, w)] := Cl.keepX hX4 (by intro p hp; simp at hp; rcases hp with rfl | rfl | rfl <;> (show _ ≠ q; simp; omega)) C3
 clear C3 hS3 k2 ix
 refine Br.intro (fun h => by cases h) (fun _ => ?_)
 have G0 : True := trivial
 refine Ev.mono (R := fun r => ∃ fr, r = ⟨.normal, fr, σ4⟩ ∧ fr.get 0 = some (.pointer (some ⟨q, 0, none⟩)) ∧ fr.get 3 = some (.pointer (some ⟨σ.n, 0, none⟩)) ∧ fr.get 4 = some (.pointer (some ⟨σ.n + 1, 0, none⟩)) ∧ fr.get 5 = some (.pointer (some ⟨σ3.n, 0, none⟩)) ∧ fr.get 6 = some (.int .i64 (x3 : Nat))) (v := ⟨⟩) ?_ ?_
 ·refine gT ?_;try exact ⟨⟩
  exact ⟨_, rfl, fR, fR, fR, fR, fR⟩
 rintro r ⟨fr, rfl, g0, g3, g4, g5, g6⟩
 simp only [en_normal]
 obtain ⟨⟨-, a0⟩, ⟨-, a1⟩, ⟨-, a2⟩, -⟩ := id C4
 have a0r := row_of a0
 have a2r := row_of a2
 refine ev_cut (fun fr τ => τ = σ4 ∧ fr.get 0 = some (.pointer (some ⟨q, 0, none⟩)) ∧ fr.get 3 = some (.pointer (some ⟨σ.n, 0, none⟩)) ∧ fr.get 4 = some (.pointer (some ⟨σ.n + 1, 0, none⟩)) ∧ fr.get 5 = some (.pointer (some ⟨σ3.n, 0, none⟩)) ∧ ∃ kd : Nat, fr.get 6 = some (.int .i64 (kd : Nat)) ∧ kd < 8 ∧ (T.crits.length = 0 → kd ≤ 2)) ?_ ?_
 ·by_cases z0 : T.crits.length = 0
  ·have d0 : decide ((T.crits.length : Int) = 0) = true := decide_eq_true (by omega)
   by_cases z2 : 2 < x3
   ·have d2 : decide (2 < (x3 : Int)) = true := decide_eq_true (by omega)
    have e3 : (x3 : Int).tmod 3 = ((x3 % 3 : Nat) : Int) := rfl
    refine gT1 (And.intro @g3 (And.intro @g6 (And.intro @a0r (And.intro @hc (And.intro @d0 (And.intro @d2 (And.intro @e3 (And.intro @yu_t @yu_f)))))))) ?_;try exact ⟨⟩
    exact ⟨_, _, rfl, rfl, fR1 g0, fR1 g3, fR1 g4, fR1 g5, x3 % 3, fR, by omega, by omega⟩
   ·have d2 : decide (2 < (x3 : Int)) = false := decide_eq_false (by omega)
    refine gT1 (And.intro @g3 (And.intro @g6 (And.intro @a0r (And.intro @hc (And.intro @d0 (And.intro @d2 (And.intro @yu_t @yu_f))))))) ?_;try exact ⟨⟩
    exact ⟨_, _, rfl, rfl, fR1 g0, fR1 g3, fR1 g4, fR1 g5, x3, fR1 g6, by omega, by omega⟩
  ·have d0 : decide ((T.crits.length : Int) = 0) = false := decide_eq_false (by omega)
   refine gT1 (And.intro @g3 (And.intro @g6 (And.intro @a0r (And.intro @hc (And.intro @d0 (And.intro @yu_t @yu_f)))))) ?_;try exact ⟨⟩
   exact ⟨_, _, rfl, rfl, fR1 g0, fR1 g3, fR1 g4, fR1 g5, x3, fR1 g6, by omega, by omega⟩
 clear g0 g3 g4 g5 g6 fr
 rintro fr τ ⟨rfl, g0, g3, g4, g5, kd, g6, kd8, kdc⟩
 have ne1 : σ.n + 1 ≠ q := by omega
 have hH1 : ∀ x ∈ (σ.n + 1) :: H, x < τ.n := by
  intro x hx
  rcases List.mem_cons.1 hx with rfl | hx
  ·omega
  ·have := hHlt x hx; omega
 have done : ∀ (τ : St), MS H q v l τ → ExtX q σ τ → σ.n + 2 ≤ τ.n → ∀ (row : List Value) (e : Ex) (j : Nat) (σ8 : St), Ext τ σ8 → ExAt (hide σ8 ((σ.n + 1) :: H)) row e → FOk j e → j ≤ 5 → Iv T e (Bd 80 144) → MS H q v l (σ8.upd (σ.n + 1) row) ∧ ExtX q σ (σ8.upd (σ.n + 1) row) ∧ ExAt (hide (σ8.upd (σ.n + 1) row) H) row e := by
  intro τ hM4 X4 nτ row e j σ8 hE hx _ _ _
  have hMs := hM4.ext hE
  have hk : Keep (hide σ8 ((σ.n + 1) :: H)) (hide (σ8.upd (σ.n + 1) row) H) := keep_hide (Nat.le_refl _) fun c hc hm => by
   simp only [List.mem_cons, not_or] at hm
   exact ⟨hm.2, row_upd_ne hm.1⟩
  refine ⟨⟨hMs.mem, ?_, hM.arg.keep (keep_hide (by have := X4.n; have := hE.n; simp; omega) fun c hc hm => ⟨hm, by rw [row_upd_ne (by omega), hE.row (by have := X4.n; omega), X4.row hc fun h => hm (h ▸ hM.mem)]⟩), hMs.len⟩, ⟨by have := X4.n; have := hE.n; simp; omega, fun b hb hne => by rw [upd_get, if_neg (by omega), hE.same b (by have := X4.n; omega), X4.same b hb hne]⟩, hx.keep hk⟩
  obtain ⟨k, r1, r2, r3⟩ := hMs.mker
  exact ⟨k, by rw [orow_upd_ne (by omega)]; exact r1, r2, r3⟩
 have lw := (hw σ).len
 clear hw5
 have fw : sub w 0 5 = some w := sub_full (by omega) (by omega)
 obtain ⟨⟨-, a0⟩, ⟨-, a1⟩, ⟨-, a2⟩, -⟩ := id C4
 have a0r := row_of a0
 have a2r := row_of a2
 by_cases kd0 : kd = 0
 ·subst kd0
  have e0 : decide (((0 : Nat) : Int) = 0) = true := by decide
  refine gT1 (And.intro @g0 (And.intro @g3 (And.intro @g4 (And.intro @g5 (And.intro @g6 (And.intro @e0 (And.intro @a0r (And.intro @a2r @fw)))))))) ?_;try exact ⟨⟩
  refine mkname_ok.mono ?_
  rintro r ⟨t0, u0, rfl, hE0, hx0⟩
  have nn0 := hE0.n
  have hx0 := hx0 (hide u0 ((σ.n + 1) :: H))
  have EE : Ext τ u0 := hE0
  have CC := C4.ext EE
  obtain ⟨⟨-, b0⟩, ⟨-, b1⟩, ⟨-, b2⟩, -⟩ := id CC
  have b2r := row_of b2
  have l0 := hx0.len
  simp (maxSteps := 1000000) (disch := first | exact dS | fail) only [↓bD2, bW2, reduceMul, reduceEqDiff, reduceAdd, Nat.reduceBEq, reduceIte, b2r, fw, b1, g4, g5, asx hE0, as_upd, Tryz.results36]
  refine mkname_ok.mono ?_
  rintro r ⟨t1, u1, rfl, hE1, hx1⟩
  have nn1 := hE1.n
  have hx1 := hx1 (hide u1 ((σ.n + 1) :: H))
  have hx0 := hx0.keep (keep_ext hE1)
  have EE : Ext τ u1 := EE.trans hE1
  have CC := C4.ext EE
  obtain ⟨⟨-, b0⟩, ⟨-, b1⟩, ⟨-, b2⟩, -⟩ := id CC
  have b2r := row_of b2
  have l1 := hx1.len
  simp (maxSteps := 1000000) (disch := first | exact dS | fail) only [↓bD2, bW2, reduceMul, reduceEqDiff, reduceAdd, Nat.reduceBEq, reduceIte, b2r, fw, b1, g4, g5, asx hE0, asx hE1, as_upd, Tryz.results36]
  refine (mkop_ok ((σ.n + 1) :: H) (fun x hx => by have := hH1 x hx; have := nn0; have := nn1; omega) hx0 hx1).mono ?_
  rintro r ⟨t2, u2, rfl, hE2, hx2⟩
  have nn2 := hE2.n
  have hx0 := hx0.keep (keep_ext hE2)
  have hx1 := hx1.keep (keep_ext hE2)
  have EE : Ext τ u2 := EE.trans hE2
  have CC := C4.ext EE
  obtain ⟨⟨-, b0⟩, ⟨-, b1⟩, ⟨-, b2⟩, -⟩ := id CC
  have b2r := row_of b2
  have l2 := hx2.len
  simp (maxSteps := 1000000) (disch := first | exact dS | fail) only [↓bD2, bW2, reduceMul, reduceEqDiff, reduceAdd, Nat.reduceBEq, reduceIte, b2r, fw, b1, g4, g5, asx hE0, asx hE1, asx hE2, as_upd, Tryz.results36]
  refine (mkop_ok ((σ.n + 1) :: H) (fun x hx => by have := hH1 x hx; have := nn0; have := nn1; have := nn2; omega) (hw _) hx2).mono ?_
  rintro r ⟨t3, u3, rfl, hE3, hx3⟩
  have nn3 := hE3.n
  have hx0 := hx0.keep (keep_ext hE3)
  have hx1 := hx1.keep (keep_ext hE3)
  have hx2 := hx2.keep (keep_ext hE3)
  have EE : Ext τ u3 := EE.trans hE3
  have CC := C4.ext EE
  obtain ⟨⟨-, b0⟩, ⟨-, b1⟩, ⟨-, b2⟩, -⟩ := id CC
  have b2r := row_of b2
  have l3 := hx3.len
  simp (maxSteps := 1000000) (disch := first | exact dS | fail) only [↓bD2, bW2, reduceMul, reduceEqDiff, reduceAdd, Nat.reduceBEq, reduceIte, b2r, fw, b1, g4, g5, asx hE0, asx hE1, asx hE2, asx hE3, as_upd, Tryz.results36]
  try refine Must.intro (by (repeat first | simp (disch := omega) only [as_read, as_upd, as_newb, asx hE0, asx hE1, asx hE2, asx hE3] | rw [as_ord (by kernel_rfl)]); rfl) ?_
  try simp (maxSteps := 1000000) (disch := first | exact dS | fail) only [↓bD2, bW2, reduceMul, reduceEqDiff, reduceAdd, Nat.reduceBEq, reduceIte, b1, g4, Tryz.results36]
  have fk : FOk (1 + (1 + 1)) (opE mulO (numE (qn WN dd) (qd WN dd)) (opE quoO (nameE lowS) (nameE priceS))) := fok_op (by decide) (by decide) (by decide) (fok_wt wt) (fok_op (by decide) (by decide) (by decide) (fok_name (by decide)) (fok_name (by decide)))
  have iv : Iv T (opE mulO (numE (qn WN dd) (qd WN dd)) (opE quoO (nameE lowS) (nameE priceS))) (Bd 80 144) := iv0 hR wt
  obtain ⟨d1, d2, d3⟩ := done _ hM4 X4 (by omega) t3 _ _ u3 EE hx3 fk (by omega) iv
  exact ⟨t3, _, _, _, rfl, d1, d2, d3, fk, by omega, iv⟩
 have e0 : decide ((kd : Int) = 0) = false := decide_eq_false (by omega)
 by_cases kd1 : kd = 1
 ·subst kd1
  have e1 : decide (((1 : Nat) : Int) = 1) = true := by decide
  refine gT1 (And.intro @g0 (And.intro @g3 (And.intro @g4 (And.intro @g5 (And.intro @g6 (And.intro @e0 (And.intro @e1 (And.intro @a0r (And.intro @a2r @fw))))))))) ?_;try exact ⟨⟩
  refine (mknum_ok (n := 1) (d := 1) (by omega) (by omega) (by omega) (by omega) (by omega)).mono ?_
  rintro r ⟨t0, u0, rfl, hE0, hx0⟩
  have nn0 := hE0.n
  have hx0 := hx0 (hide u0 ((σ.n + 1) :: H))
  have EE : Ext τ u0 := hE0
  have CC := C4.ext EE
  obtain ⟨⟨-, b0⟩, ⟨-, b1⟩, ⟨-, b2⟩, -⟩ := id CC
  have b2r := row_of b2
  have l0 := hx0.len
  simp (maxSteps := 1000000) (disch := first | exact dS | fail) only [↓bD2, bW2, reduceMul, reduceEqDiff, reduceAdd, Nat.reduceBEq, reduceIte, b2r, fw, b1, g4, g5, asx hE0, as_upd, Tryz.results36]
  refine mkname_ok.mono ?_
  rintro r ⟨t1, u1, rfl, hE1, hx1⟩
  have nn1 := hE1.n
  have hx1 := hx1 (hide u1 ((σ.n + 1) :: H))
  have hx0 := hx0.keep (keep_ext hE1)
  have EE : Ext τ u1 := EE.trans hE1
  have CC := C4.ext EE
  obtain ⟨⟨-, b0⟩, ⟨-, b1⟩, ⟨-, b2⟩, -⟩ := id CC
  have b2r := row_of b2
  have l1 := hx1.len
  simp (maxSteps := 1000000) (disch := first | exact dS | fail) only [↓bD2, bW2, reduceMul, reduceEqDiff, reduceAdd, Nat.reduceBEq, reduceIte, b2r, fw, b1, g4, g5, asx hE0, asx hE1, as_upd, Tryz.results36]
  refine mkname_ok.mono ?_
  rintro r ⟨t2, u2, rfl, hE2, hx2⟩
  have nn2 := hE2.n
  have hx2 := hx2 (hide u2 ((σ.n + 1) :: H))
  have hx0 := hx0.keep (keep_ext hE2)
  have hx1 := hx1.keep (keep_ext hE2)
  have EE : Ext τ u2 := EE.trans hE2
  have CC := C4.ext EE
  obtain ⟨⟨-, b0⟩, ⟨-, b1⟩, ⟨-, b2⟩, -⟩ := id CC
  have b2r := row_of b2
  have l2 := hx2.len
  simp (maxSteps := 1000000) (disch := first | exact dS | fail) only [↓bD2, bW2, reduceMul, reduceEqDiff, reduceAdd, Nat.reduceBEq, reduceIte, b2r, fw, b1, g4, g5, asx hE0, asx hE1, asx hE2, as_upd, Tryz.results36]
  refine mkname_ok.mono ?_
  rintro r ⟨t3, u3, rfl, hE3, hx3⟩
  have nn3 := hE3.n
  have hx3 := hx3 (hide u3 ((σ.n + 1) :: H))
  have hx0 := hx0.keep (keep_ext hE3)
  have hx1 := hx1.keep (keep_ext hE3)
  have hx2 := hx2.keep (keep_ext hE3)
  have EE : Ext τ u3 := EE.trans hE3
  have CC := C4.ext EE
  obtain ⟨⟨-, b0⟩, ⟨-, b1⟩, ⟨-, b2⟩, -⟩ := id CC
  have b2r := row_of b2
  have l3 := hx3.len
  simp (maxSteps := 1000000) (disch := first | exact dS | fail) only [↓bD2, bW2, reduceMul, reduceEqDiff, reduceAdd, Nat.reduceBEq, reduceIte, b2r, fw, b1, g4, g5, asx hE0, asx hE1, asx hE2, asx hE3, as_upd, Tryz.results36]
  refine (mkop_ok ((σ.n + 1) :: H) (fun x hx => by have := hH1 x hx; have := nn0; have := nn1; have := nn2; have := nn3; omega) hx2 hx3).mono ?_
  rintro r ⟨t4, u4, rfl, hE4, hx4⟩
  have nn4 := hE4.n
  have hx0 := hx0.keep (keep_ext hE4)
  have hx1 := hx1.keep (keep_ext hE4)
  have hx2 := hx2.keep (keep_ext hE4)
  have hx3 := hx3.keep (keep_ext hE4)
  have EE : Ext τ u4 := EE.trans hE4
  have CC := C4.ext EE
  obtain ⟨⟨-, b0⟩, ⟨-, b1⟩, ⟨-, b2⟩, -⟩ := id CC
  have b2r := row_of b2
  have l4 := hx4.len
  simp (maxSteps := 1000000) (disch := first | exact dS | fail) only [↓bD2, bW2, reduceMul, reduceEqDiff, reduceAdd, Nat.reduceBEq, reduceIte, b2r, fw, b1, g4, g5, asx hE0, asx hE1, asx hE2, asx hE3, asx hE4, as_upd, Tryz.results36]
  refine (mkop_ok ((σ.n + 1) :: H) (fun x hx => by have := hH1 x hx; have := nn0; have := nn1; have := nn2; have := nn3; have := nn4; omega) hx1 hx4).mono ?_
  rintro r ⟨t5, u5, rfl, hE5, hx5⟩
  have nn5 := hE5.n
  have hx0 := hx0.keep (keep_ext hE5)
  have hx1 := hx1.keep (keep_ext hE5)
  have hx2 := hx2.keep (keep_ext hE5)
  have hx3 := hx3.keep (keep_ext hE5)
  have hx4 := hx4.keep (keep_ext hE5)
  have EE : Ext τ u5 := EE.trans hE5
  have CC := C4.ext EE
  obtain ⟨⟨-, b0⟩, ⟨-, b1⟩, ⟨-, b2⟩, -⟩ := id CC
  have b2r := row_of b2
  have l5 := hx5.len
  simp (maxSteps := 1000000) (disch := first | exact dS | fail) only [↓bD2, bW2, reduceMul, reduceEqDiff, reduceAdd, Nat.reduceBEq, reduceIte, b2r, fw, b1, g4, g5, asx hE0, asx hE1, asx hE2, asx hE3, asx hE4, asx hE5, as_upd, Tryz.results36]
  refine (mkop_ok ((σ.n + 1) :: H) (fun x hx => by have := hH1 x hx; have := nn0; have := nn1; have := nn2; have := nn3; have := nn4; have := nn5; omega) hx0 hx5).mono ?_
  rintro r ⟨t6, u6, rfl, hE6, hx6⟩
  have nn6 := hE6.n
  have hx0 := hx0.keep (keep_ext hE6)
  have hx1 := hx1.keep (keep_ext hE6)
  have hx2 := hx2.keep (keep_ext hE6)
  have hx3 := hx3.keep (keep_ext hE6)
  have hx4 := hx4.keep (keep_ext hE6)
  have hx5 := hx5.keep (keep_ext hE6)
  have EE : Ext τ u6 := EE.trans hE6
  have CC := C4.ext EE
  obtain ⟨⟨-, b0⟩, ⟨-, b1⟩, ⟨-, b2⟩, -⟩ := id CC
  have b2r := row_of b2
  have l6 := hx6.len
  simp (maxSteps := 1000000) (disch := first | exact dS | fail) only [↓bD2, bW2, reduceMul, reduceEqDiff, reduceAdd, Nat.reduceBEq, reduceIte, b2r, fw, b1, g4, g5, asx hE0, asx hE1, asx hE2, asx hE3, asx hE4, asx hE5, asx hE6, as_upd, Tryz.results36]
  refine (mkop_ok ((σ.n + 1) :: H) (fun x hx => by have := hH1 x hx; have := nn0; have := nn1; have := nn2; have := nn3; have := nn4; have := nn5; have := nn6; omega) hx6 (hw _)).mono ?_
  rintro r ⟨t7, u7, rfl, hE7, hx7⟩
  have nn7 := hE7.n
  have hx0 := hx0.keep (keep_ext hE7)
  have hx1 := hx1.keep (keep_ext hE7)
  have hx2 := hx2.keep (keep_ext hE7)
  have hx3 := hx3.keep (keep_ext hE7)
  have hx4 := hx4.keep (keep_ext hE7)
  have hx5 := hx5.keep (keep_ext hE7)
  have hx6 := hx6.keep (keep_ext hE7)
  have EE : Ext τ u7 := EE.trans hE7
  have CC := C4.ext EE
  obtain ⟨⟨-, b0⟩, ⟨-, b1⟩, ⟨-, b2⟩, -⟩ := id CC
  have b2r := row_of b2
  have l7 := hx7.len
  simp (maxSteps := 1000000) (disch := first | exact dS | fail) only [↓bD2, bW2, reduceMul, reduceEqDiff, reduceAdd, Nat.reduceBEq, reduceIte, b2r, fw, b1, g4, g5, asx hE0, asx hE1, asx hE2, asx hE3, asx hE4, asx hE5, asx hE6, asx hE7, as_upd, Tryz.results36]
  try refine Must.intro (by (repeat first | simp (disch := omega) only [as_read, as_upd, as_newb, asx hE0, asx hE1, asx hE2, asx hE3, asx hE4, asx hE5, asx hE6, asx hE7] | rw [as_ord (by kernel_rfl)]); rfl) ?_
  try simp (maxSteps := 1000000) (disch := first | exact dS | fail) only [↓bD2, bW2, reduceMul, reduceEqDiff, reduceAdd, Nat.reduceBEq, reduceIte, b1, g4, Tryz.results36]
  have fk : FOk ((1 + (1 + (1 + 1))) + 1) (opE quoO (opE subO (numE 1 1) (opE quoO (nameE priceS) (opE addO (nameE priceS) (nameE lowS)))) (numE (qn WN dd) (qd WN dd))) := fok_op (by decide) (by decide) (by decide) (fok_op (by decide) (by decide) (by decide) (.num (rq1 (by omega) (by omega)) (by omega) (by decide)) (fok_op (by decide) (by decide) (by decide) (fok_name (by decide)) (fok_op (by decide) (by decide) (by decide) (fok_name (by decide)) (fok_name (by decide))))) (fok_wt wt)
  have iv : Iv T (opE quoO (opE subO (numE 1 1) (opE quoO (nameE priceS) (opE addO (nameE priceS) (nameE lowS)))) (numE (qn WN dd) (qd WN dd))) (Bd 80 144) := iv1 hR wn1 wn9 hdd
  obtain ⟨d1, d2, d3⟩ := done _ hM4 X4 (by omega) t7 _ _ u7 EE hx7 fk (by omega) iv
  exact ⟨t7, _, _, _, rfl, d1, d2, d3, fk, by omega, iv⟩
 have e1 : decide ((kd : Int) = 1) = false := decide_eq_false (by omega)
 by_cases kd2 : kd = 2
 ·subst kd2
  have e2 : decide (((2 : Nat) : Int) = 2) = true := by decide
  refine gT1 (And.intro @g0 (And.intro @g3 (And.intro @g4 (And.intro @g5 (And.intro @g6 (And.intro @e0 (And.intro @e1 (And.intro @e2 (And.intro @a0r (And.intro @a2r (And.intro @a1 (And.intro @fw @Tryz.results36)))))))))))) ?_;try exact ⟨⟩
  have EE : Ext τ τ := .refl _
  try refine Must.intro (by (repeat first | simp (disch := omega) only [as_read, as_upd, as_newb, asx EE] | rw [as_ord (by kernel_rfl)]); rfl) ?_
  try simp (maxSteps := 1000000) (disch := first | exact dS | fail) only [↓bD2, bW2, reduceMul, reduceEqDiff, reduceAdd, Nat.reduceBEq, reduceIte, b1, g4, Tryz.results36]
  have fk : FOk 1 (numE (qn WN dd) (qd WN dd)) := fok_wt wt
  have iv : Iv T (numE (qn WN dd) (qd WN dd)) (Bd 80 144) := iv2 wt
  obtain ⟨d1, d2, d3⟩ := done _ hM4 X4 (by omega) w _ _ τ EE (hw _) fk (by omega) iv
  exact ⟨w, _, _, _, rfl, d1, d2, d3, fk, by omega, iv⟩
 have e2 : decide ((kd : Int) = 2) = false := decide_eq_false (by omega)
 have z : 0 < T.crits.length := by
  rcases Nat.eq_zero_or_pos T.crits.length with h | h
  ·have := kdc h; omega
  ·exact h
 obtain ⟨sp, rfl, l3, l4⟩ := c1 z
 have hbH : cb ∉ H := fun hb => by rw [hide_mem hb] at l4; cases l4
 have hbq : cb ≠ q := fun h => hbH (h ▸ hM.mem)
 rw [hide_row hbH] at l4
 rw [hide_n] at l3
 have z5 : τ.row cb = some ccs := by rw [X4.row l3 hbq]; exact l4
 refine gT1 (And.intro @g0 (And.intro @g3 (And.intro @g6 (And.intro @e0 (And.intro @e1 (And.intro @e2 (And.intro @a0r @hc))))))) ?_;try exact ⟨⟩
 refine (nx_ok (n := (T.crits.length : Nat)) hM4 (by omega) (by omega)).mono ?_
 rintro r ⟨y0, p0, rfl, hy0, hMp0, hXp0⟩
 have np0 := hXp0.n
 have C5 := Cl.keepX hXp0 (by intro p hp; simp at hp; rcases hp with rfl | rfl | rfl <;> (show _ ≠ q; simp; omega)) C4
 obtain ⟨⟨-, b0⟩, ⟨-, b1⟩, ⟨-, b2⟩, -⟩ := id C5
 have b0r := row_of b0
 have z5 : p0.row cb = some ccs := by rw [hXp0.row (by have := X4.n; omega) hbq]; exact z5
 obtain ⟨cr0, hcr0⟩ := at_some (show y0 < T.crits.length by omega)
 obtain ⟨-, nm0, -⟩ := c2 y0 cr0 hcr0
 obtain ⟨ne0, nl0, nn0l, -⟩ := hR.crit cr0 (List.mem_of_getElem? hcr0)
 refine gT1 (And.intro @z5 (And.intro @nm0 @Nat.add_zero)) ?_;try exact ⟨⟩
 refine mkname_ok.mono ?_
 rintro r ⟨tc0, s0, rfl, hEs0, htc0⟩
 have ns0 := hEs0.n
 have lt0 := (htc0 σ).len
 simp (maxSteps := 1000000) (disch := first | exact dS | fail) only [↓bD2, bW2, reduceMul, reduceEqDiff, reduceAdd, Nat.reduceBEq, reduceIte, asx hEs0]
 try refine Must.intro (by (repeat first | simp (disch := omega) only [as_read, as_upd, as_newb, asx hEs0, as_extx hXp0] | rw [as_ord (by kernel_rfl)]); rfl) ?_
 obtain ⟨P0, hP0⟩ : ∃ S, ((s0.new [str [], .int .i64 0, .int .i64 0, str [], .slice none 0 0]).upd s0.n tc0) = S := ⟨_, rfl⟩
 try rw [hP0]
 have EP0 : Ext s0 P0 := by rw [← hP0]; exact eX
 have nP0 : P0.n = s0.n + 1 := by rw [← hP0]; rfl
 have z5 : P0.row cb = some ccs := by rw [EP0.row (by have := X4.n; omega), hEs0.row (by have := X4.n; omega)]; exact z5
 have M0 : MS H q v l P0 := (hMp0.ext hEs0).ext EP0
 have XP0 : ExtX q σ P0 := (X4.trans hXp0).trans (ExtX.of (hEs0.trans EP0))
 have CP0 : Cl P0 [(s0.n, tc0), (σ.n, ca), (σ.n + 1, [str [], .int .i64 0, .int .i64 0, str [], .slice none 0 0]), (σ3.n, w)] := ⟨⟨by omega, by rw [← hP0]; exact cL⟩, (C5.ext hEs0).ext EP0⟩
 clear C5
 obtain ⟨⟨-, b0⟩, ⟨-, b1⟩, ⟨-, b2⟩, ⟨-, b3⟩, -⟩ := id CP0
 have b1r := row_of b1
 refine gT1 (And.intro @g0 (And.intro @g3 (And.intro @b1r @hc))) ?_;try exact ⟨⟩
 refine (nx_ok (n := (T.crits.length : Nat)) M0 (by omega) (by omega)).mono ?_
 rintro r ⟨y1, p1, rfl, hy1, hMp1, hXp1⟩
 have np1 := hXp1.n
 have C5 := Cl.keepX hXp1 (by intro p hp; simp at hp; rcases hp with rfl | rfl | rfl | rfl <;> (show _ ≠ q; simp; omega)) CP0
 obtain ⟨⟨-, b0⟩, ⟨-, b1⟩, ⟨-, b2⟩, ⟨-, b3⟩, -⟩ := id C5
 have b1r := row_of b1
 have z5 : p1.row cb = some ccs := by rw [hXp1.row (by have := X4.n; omega) hbq]; exact z5
 obtain ⟨cr1, hcr1⟩ := at_some (show y1 < T.crits.length by omega)
 obtain ⟨-, nm1, -⟩ := c2 y1 cr1 hcr1
 obtain ⟨ne1, nl1, nn1l, -⟩ := hR.crit cr1 (List.mem_of_getElem? hcr1)
 refine gT1 (And.intro @z5 (And.intro @nm1 @Nat.add_zero)) ?_;try exact ⟨⟩
 refine mkname_ok.mono ?_
 rintro r ⟨tc1, s1, rfl, hEs1, htc1⟩
 have ns1 := hEs1.n
 have lt1 := (htc1 σ).len
 simp (maxSteps := 1000000) (disch := first | exact dS | fail) only [↓bD2, bW2, reduceMul, reduceEqDiff, reduceAdd, Nat.reduceBEq, reduceIte, asx hEs1]
 try refine Must.intro (by (repeat first | simp (disch := omega) only [as_read, as_upd, as_newb, asx hEs1, as_extx hXp1] | rw [as_ord (by kernel_rfl)]); rfl) ?_
 obtain ⟨P1, hP1⟩ : ∃ S, ((s1.new [str [], .int .i64 0, .int .i64 0, str [], .slice none 0 0]).upd s1.n tc1) = S := ⟨_, rfl⟩
 try rw [hP1]
 have EP1 : Ext s1 P1 := by rw [← hP1]; exact eX
 have nP1 : P1.n = s1.n + 1 := by rw [← hP1]; rfl
 have z5 : P1.row cb = some ccs := by rw [EP1.row (by have := X4.n; omega), hEs1.row (by have := X4.n; omega)]; exact z5
 have M1 : MS H q v l P1 := (hMp1.ext hEs1).ext EP1
 have XP1 : ExtX q σ P1 := (XP0.trans hXp1).trans (ExtX.of (hEs1.trans EP1))
 have CP1 : Cl P1 [(s1.n, tc1), (s0.n, tc0), (σ.n, ca), (σ.n + 1, [str [], .int .i64 0, .int .i64 0, str [], .slice none 0 0]), (σ3.n, w)] := ⟨⟨by omega, by rw [← hP1]; exact cL⟩, (C5.ext hEs1).ext EP1⟩
 clear C5
 obtain ⟨⟨-, b0⟩, ⟨-, b1⟩, ⟨-, b2⟩, ⟨-, b3⟩, ⟨-, b4⟩, -⟩ := id CP1
 have b2r := row_of b2
 obtain ⟨⟨-, bd⟩, ⟨-, bc⟩, ⟨-, b0⟩, ⟨-, b1⟩, ⟨-, b2⟩, -⟩ := id CP1
 have bcr := row_of bc
 have bdr := row_of bd
 have b2r := row_of b2
 have fc : sub tc0 0 5 = some tc0 := sub_full (by omega) (by omega)
 have fd : sub tc1 0 5 = some tc1 := sub_full (by omega) (by omega)
 have hH1 : ∀ x ∈ (σ.n + 1) :: H, x < P1.n := fun x hx => by have := hH1 x hx; omega
 by_cases kk3 : kd = 3
 ·subst kk3
  have f3 : decide (((3 : Nat) : Int) = 3) = true := by decide
  refine gT1 (And.intro @g6 (And.intro @f3 (And.intro @bcr (And.intro @bdr (And.intro @b2r (And.intro @fc (And.intro @fd (And.intro @fw (And.intro @g0 (And.intro @g4 @g5)))))))))) ?_;try exact ⟨⟩
  refine (mkop_ok ((σ.n + 1) :: H) (fun x hx => by have := hH1 x hx; omega) (hw _) (htc0 _)).mono ?_
  rintro r ⟨t0, u0, rfl, hE0, hx0⟩
  have nn0 := hE0.n
  have EE : Ext P1 u0 := hE0
  have CC := CP1.ext EE
  obtain ⟨⟨-, bd⟩, ⟨-, bc⟩, ⟨-, b0⟩, ⟨-, b1⟩, ⟨-, b2⟩, -⟩ := id CC
  have b2r := row_of b2
  have bcr := row_of bc
  have bdr := row_of bd
  have l0 := hx0.len
  simp (maxSteps := 1000000) (disch := first | exact dS | fail) only [↓bD2, bW2, reduceMul, reduceEqDiff, reduceAdd, Nat.reduceBEq, reduceIte, b2r, fw, b1, g4, g5, fc, fd, bcr, bdr, asx hE0, as_upd, Tryz.results36]
  try refine Must.intro (by (repeat first | simp (disch := omega) only [as_read, as_upd, as_newb, asx hE0] | rw [as_ord (by kernel_rfl)]); rfl) ?_
  try simp (maxSteps := 1000000) (disch := first | exact dS | fail) only [↓bD2, bW2, reduceMul, reduceEqDiff, reduceAdd, Nat.reduceBEq, reduceIte, b1, g4, Tryz.results36]
  have fk : FOk (1 + 1) (opE mulO (numE (qn WN dd) (qd WN dd)) (nameE cr0.name)) := fok_op (by decide) (by decide) (by decide) (fok_wt wt) (fok_name nn0l)
  have iv : Iv T (opE mulO (numE (qn WN dd) (qd WN dd)) (nameE cr0.name)) (Bd 80 144) := iv3 hR wt ne0 nl0
  obtain ⟨d1, d2, d3⟩ := done _ M1 XP1 (by omega) t0 _ _ u0 EE hx0 fk (by omega) iv
  exact ⟨t0, _, _, _, rfl, d1, d2, d3, fk, by omega, iv⟩
 have f3 : decide ((kd : Int) = 3) = false := decide_eq_false (by omega)
 by_cases kk4 : kd = 4
 ·subst kk4
  have f4 : decide (((4 : Nat) : Int) = 4) = true := by decide
  have f3 : decide (((4 : Nat) : Int) = 3) = false := by decide
  refine gT1 (And.intro @g6 (And.intro @f3 (And.intro @f4 (And.intro @bcr (And.intro @bdr (And.intro @b2r (And.intro @fc (And.intro @fd (And.intro @fw (And.intro @g0 (And.intro @g4 @g5))))))))))) ?_;try exact ⟨⟩
  refine (mkop_ok ((σ.n + 1) :: H) (fun x hx => by have := hH1 x hx; omega) (hw _) (htc0 _)).mono ?_
  rintro r ⟨t0, u0, rfl, hE0, hx0⟩
  have nn0 := hE0.n
  have EE : Ext P1 u0 := hE0
  have CC := CP1.ext EE
  obtain ⟨⟨-, bd⟩, ⟨-, bc⟩, ⟨-, b0⟩, ⟨-, b1⟩, ⟨-, b2⟩, -⟩ := id CC
  have b2r := row_of b2
  have bcr := row_of bc
  have bdr := row_of bd
  have l0 := hx0.len
  simp (maxSteps := 1000000) (disch := first | exact dS | fail) only [↓bD2, bW2, reduceMul, reduceEqDiff, reduceAdd, Nat.reduceBEq, reduceIte, b2r, fw, b1, g4, g5, fc, fd, bcr, bdr, asx hE0, as_upd, Tryz.results36]
  try refine Must.intro (by (repeat first | simp (disch := omega) only [as_read, as_upd, as_newb, asx hE0] | rw [as_ord (by kernel_rfl)]); rfl) ?_
  try simp (maxSteps := 1000000) (disch := first | exact dS | fail) only [↓bD2, bW2, reduceMul, reduceEqDiff, reduceAdd, Nat.reduceBEq, reduceIte, b1, g4, Tryz.results36]
  have fk : FOk (1 + 1) (opE mulO (numE (qn WN dd) (qd WN dd)) (nameE cr0.name)) := fok_op (by decide) (by decide) (by decide) (fok_wt wt) (fok_name nn0l)
  have iv : Iv T (opE mulO (numE (qn WN dd) (qd WN dd)) (nameE cr0.name)) (Bd 80 144) := iv3 hR wt ne0 nl0
  obtain ⟨d1, d2, d3⟩ := done _ M1 XP1 (by omega) t0 _ _ u0 EE hx0 fk (by omega) iv
  exact ⟨t0, _, _, _, rfl, d1, d2, d3, fk, by omega, iv⟩
 have f4 : decide ((kd : Int) = 4) = false := decide_eq_false (by omega)
 by_cases kk6 : kd = 6
 ·subst kk6
  have f6 : decide (((6 : Nat) : Int) = 6) = true := by decide
  have f3 : decide (((6 : Nat) : Int) = 3) = false := by decide
  have f4 : decide (((6 : Nat) : Int) = 4) = false := by decide
  have f5 : decide (((6 : Nat) : Int) = 5) = false := by decide
  refine gT1 (And.intro @g6 (And.intro @f3 (And.intro @f4 (And.intro @f5 (And.intro @f6 (And.intro @bcr (And.intro @bdr (And.intro @b2r (And.intro @fc (And.intro @fd (And.intro @fw (And.intro @g0 (And.intro @g4 @g5))))))))))))) ?_;try exact ⟨⟩
  refine (mkop_ok ((σ.n + 1) :: H) (fun x hx => by have := hH1 x hx; omega) (htc0 _) (htc1 _)).mono ?_
  rintro r ⟨t0, u0, rfl, hE0, hx0⟩
  have nn0 := hE0.n
  have EE : Ext P1 u0 := hE0
  have CC := CP1.ext EE
  obtain ⟨⟨-, bd⟩, ⟨-, bc⟩, ⟨-, b0⟩, ⟨-, b1⟩, ⟨-, b2⟩, -⟩ := id CC
  have b2r := row_of b2
  have bcr := row_of bc
  have bdr := row_of bd
  have l0 := hx0.len
  simp (maxSteps := 1000000) (disch := first | exact dS | fail) only [↓bD2, bW2, reduceMul, reduceEqDiff, reduceAdd, Nat.reduceBEq, reduceIte, b2r, fw, b1, g4, g5, fc, fd, bcr, bdr, asx hE0, as_upd, Tryz.results36]
  try refine Must.intro (by (repeat first | simp (disch := omega) only [as_read, as_upd, as_newb, asx hE0] | rw [as_ord (by kernel_rfl)]); rfl) ?_
  try simp (maxSteps := 1000000) (disch := first | exact dS | fail) only [↓bD2, bW2, reduceMul, reduceEqDiff, reduceAdd, Nat.reduceBEq, reduceIte, b1, g4, Tryz.results36]
  have fk : FOk (1 + 1) (opE mulO (nameE cr0.name) (nameE cr1.name)) := fok_op (by decide) (by decide) (by decide) (fok_name nn0l) (fok_name nn1l)
  have iv : Iv T (opE mulO (nameE cr0.name) (nameE cr1.name)) (Bd 80 144) := iv6 hR ne0 nl0 ne1 nl1
  obtain ⟨d1, d2, d3⟩ := done _ M1 XP1 (by omega) t0 _ _ u0 EE hx0 fk (by omega) iv
  exact ⟨t0, _, _, _, rfl, d1, d2, d3, fk, by omega, iv⟩
 have f6 : decide ((kd : Int) = 6) = false := decide_eq_false (by omega)
 by_cases kk5 : kd = 5
 ·subst kk5
  have f3 : decide (((5 : Nat) : Int) = 3) = false := by decide
  have f4 : decide (((5 : Nat) : Int) = 4) = false := by decide
  have f5 : decide (((5 : Nat) : Int) = 5) = true := by decide
  refine gT1 (And.intro @g6 (And.intro @f3 (And.intro @f4 (And.intro @f5 @g0)))) ?_;try exact ⟨⟩
  refine (nx_ok (n := 2) M1.new (by omega) (by omega)).mono ?_
  rintro r ⟨y5, p5, rfl, hy5, hMp5, hXp5⟩
  have np5 := hXp5.n
  simp only [new_n] at np5
  have C7 := Cl.keepX hXp5 (by intro p hp; simp at hp; rcases hp with rfl | rfl | rfl | rfl | rfl <;> (show _ ≠ q; simp; omega)) (CP1.ext (.new _ _))
  obtain ⟨⟨-, bd⟩, ⟨-, bc⟩, ⟨-, b0⟩, ⟨-, b1⟩, ⟨-, b2⟩, -⟩ := id C7
  have bcr := row_of bc
  have bdr := row_of bd
  have b2r := row_of b2
  obtain ⟨oo, iy, hoo⟩ := mm_at hy5
  have X7 : ExtX q σ p5 := XP1.trans ((ExtX.of (.new _ _)).trans hXp5)
  have kk : p5.row P1.n = some [str [109, 105, 110], str [109, 97, 120]] := by rw [hXp5.row (by simp) (by have := M1.lt; omega)]; exact cL
  have hH1 : ∀ x ∈ (σ.n + 1) :: H, x < p5.n := fun x hx => by have := hH1 x hx; omega
  have ol : oo ≠ numO ∧ oo ≠ nameO ∧ oo.length ≤ 4 := by rcases hoo with rfl | rfl <;> decide
  refine gT1 (And.intro @kk (And.intro @iy (And.intro @g0 (And.intro @g5 (And.intro @bcr (And.intro @bdr (And.intro @b2r (And.intro @fc (And.intro @fd @fw))))))))) ?_;try exact ⟨⟩
  refine (mkop_ok ((σ.n + 1) :: H) (fun x hx => by have := hH1 x hx; omega) (htc0 _) (hw _)).mono ?_
  rintro r ⟨t0, u0, rfl, hE0, hx0⟩
  have nn0 := hE0.n
  have EE : Ext p5 u0 := hE0
  have CC := C7.ext EE
  obtain ⟨⟨-, bd⟩, ⟨-, bc⟩, ⟨-, b0⟩, ⟨-, b1⟩, ⟨-, b2⟩, -⟩ := id CC
  have b2r := row_of b2
  have bcr := row_of bc
  have bdr := row_of bd
  have l0 := hx0.len
  simp (maxSteps := 1000000) (disch := first | exact dS | fail) only [↓bD2, bW2, reduceMul, reduceEqDiff, reduceAdd, Nat.reduceBEq, reduceIte, b2r, fw, b1, g4, g5, fc, fd, asx (Ext.refl _), as_extx hXp5, as_newb, bcr, bdr, asx hE0, as_upd, Tryz.results36]
  try refine Must.intro (by (repeat first | simp (disch := omega) only [as_read, as_upd, as_newb, asx hE0] | rw [as_ord (by kernel_rfl)]); rfl) ?_
  try simp (maxSteps := 1000000) (disch := first | exact dS | fail) only [↓bD2, bW2, reduceMul, reduceEqDiff, reduceAdd, Nat.reduceBEq, reduceIte, b1, g4, Tryz.results36]
  have fk : FOk (1 + 1) (opE oo (nameE cr0.name) (numE (qn WN dd) (qd WN dd))) := fok_op ol.1 ol.2.1 ol.2.2 (fok_name nn0l) (fok_wt wt)
  have iv : Iv T (opE oo (nameE cr0.name) (numE (qn WN dd) (qd WN dd))) (Bd 80 144) := iv5 hR wt ne0 nl0 hoo
  obtain ⟨d1, d2, d3⟩ := done _ hMp5 X7 (by omega) t0 _ _ u0 EE hx0 fk (by omega) iv
  exact ⟨t0, _, _, _, rfl, d1, d2, d3, fk, by omega, iv⟩
 have f5 : decide ((kd : Int) = 5) = false := decide_eq_false (by omega)
 refine gT1 (And.intro @g6 (And.intro @f3 (And.intro @f4 (And.intro @f5 (And.intro @f6 (And.intro @bcr (And.intro @bdr (And.intro @b2r (And.intro @fc (And.intro @fd (And.intro @fw (And.intro @g0 (And.intro @g4 @g5))))))))))))) ?_;try exact ⟨⟩
 refine (mkop_ok ((σ.n + 1) :: H) (fun x hx => by have := hH1 x hx; omega) (hw _) (htc1 _)).mono ?_
 rintro r ⟨t0, u0, rfl, hE0, hx0⟩
 have nn0 := hE0.n
 have EE : Ext P1 u0 := hE0
 have CC := CP1.ext EE
 obtain ⟨⟨-, bd⟩, ⟨-, bc⟩, ⟨-, b0⟩, ⟨-, b1⟩, ⟨-, b2⟩, -⟩ := id CC
 have b2r := row_of b2
 have bcr := row_of bc
 have bdr := row_of bd
 have l0 := hx0.len
 simp (maxSteps := 1000000) (disch := first | exact dS | fail) only [↓bD2, bW2, reduceMul, reduceEqDiff, reduceAdd, Nat.reduceBEq, reduceIte, b2r, fw, b1, g4, g5, fc, fd, bcr, bdr, asx hE0, as_upd, Tryz.results36]
 refine (mkop_ok ((σ.n + 1) :: H) (fun x hx => by have := hH1 x hx; have := nn0; omega) (htc0 _) hx0).mono ?_
 rintro r ⟨t1, u1, rfl, hE1, hx1⟩
 have nn1 := hE1.n
 have hx0 := hx0.keep (keep_ext hE1)
 have EE : Ext P1 u1 := EE.trans hE1
 have CC := CP1.ext EE
 obtain ⟨⟨-, bd⟩, ⟨-, bc⟩, ⟨-, b0⟩, ⟨-, b1⟩, ⟨-, b2⟩, -⟩ := id CC
 have b2r := row_of b2
 have bcr := row_of bc
 have bdr := row_of bd
 have l1 := hx1.len
 simp (maxSteps := 1000000) (disch := first | exact dS | fail) only [↓bD2, bW2, reduceMul, reduceEqDiff, reduceAdd, Nat.reduceBEq, reduceIte, b2r, fw, b1, g4, g5, fc, fd, bcr, bdr, asx hE0, asx hE1, as_upd, Tryz.results36]
 try refine Must.intro (by (repeat first | simp (disch := omega) only [as_read, as_upd, as_newb, asx hE0, asx hE1] | rw [as_ord (by kernel_rfl)]); rfl) ?_
 try simp (maxSteps := 1000000) (disch := first | exact dS | fail) only [↓bD2, bW2, reduceMul, reduceEqDiff, reduceAdd, Nat.reduceBEq, reduceIte, b1, g4, Tryz.results36]
 have fk : FOk (1 + (1 + 1)) (opE quoO (nameE cr0.name) (opE addO (numE (qn WN dd) (qd WN dd)) (nameE cr1.name))) := fok_op (by decide) (by decide) (by decide) (fok_name nn0l) (fok_op (by decide) (by decide) (by decide) (fok_wt wt) (fok_name nn1l))
 have iv : Iv T (opE quoO (nameE cr0.name) (opE addO (numE (qn WN dd) (qd WN dd)) (nameE cr1.name))) (Bd 80 144) := iv7 hR wt ne0 nl0 ne1 nl1
 obtain ⟨d1, d2, d3⟩ := done _ M1 XP1 (by omega) t1 _ _ u1 EE hx1 fk (by omega) iv
 exact ⟨t1, _, _, _, rfl, d1, d2, d3, fk, by omega, iv⟩
end Go.Proofs.G
