/- A part of the proof: a walk of some functions. -/
import Derived.Test.YtcjkjjnnicadfaaGreatDoorG61
set_option linter.unusedSimpArgs false
set_option linter.unusedVariables false
namespace Go.Proofs.G
open Go Go.Ab
open Nat (reduceMul reduceEqDiff reduceAdd)
set_option maxRecDepth 100000
def speedS : By := [115, 112, 101, 101, 100]
def comfortS : By := [99, 111, 109, 102, 111, 114, 116]
def weightS : By := [119, 101, 105, 103, 104, 116]
def gn : List By := [speedS, comfortS, weightS]
theorem gn_ok : ∀ s ∈ gn, s ∈ names ∧ s ≠ priceS ∧ s ≠ lowS ∧ s.length ≤ 30 := by decide
theorem gn_at {i : Nat} (h : i < 3) : ∃ s, sub ([str [115, 112, 101, 101, 100], str [99, 111, 109, 102, 111, 114, 116], str [119, 101, 105, 103, 104, 116]] : List Value) i 1 = some [str s] ∧ s ∈ gn := by
 have : i = 0 ∨ i = 1 ∨ i = 2 := by omega
 rcases this with rfl | rfl | rfl
 ·exact ⟨speedS, rfl, by decide⟩
 ·exact ⟨comfortS, rfl, by decide⟩
 ·exact ⟨weightS, rfl, by decide⟩
theorem gs2 {a b z : Value} : splice [a, b] 1 [z] = some [a, z] := rfl
theorem gs31 {a b c z : Value} : splice [a, b, c] 1 [z] = some [a, z, c] := rfl
theorem gs32 {a b c z : Value} : splice [a, b, c] 2 [z] = some [a, b, z] := rfl
theorem gw1 {a0 a1 a2 a3 a4 a5 a6 a7 a8 a9 a10 a11 a12 a13 a14 a15 a16 a17 a18 a19 z : Value} : splice [a0, a1, a2, a3, a4, a5, a6, a7, a8, a9, a10, a11, a12, a13, a14, a15, a16, a17, a18, a19] 1 [z] = some [a0, z, a2, a3, a4, a5, a6, a7, a8, a9, a10, a11, a12, a13, a14, a15, a16, a17, a18, a19] := rfl
theorem gw2 {a0 a1 a2 a3 a4 a5 a6 a7 a8 a9 a10 a11 a12 a13 a14 a15 a16 a17 a18 a19 z : Value} : splice [a0, a1, a2, a3, a4, a5, a6, a7, a8, a9, a10, a11, a12, a13, a14, a15, a16, a17, a18, a19] 2 [z] = some [a0, a1, z, a3, a4, a5, a6, a7, a8, a9, a10, a11, a12, a13, a14, a15, a16, a17, a18, a19] := rfl
theorem gw3 {a0 a1 a2 a3 a4 a5 a6 a7 a8 a9 a10 a11 a12 a13 a14 a15 a16 a17 a18 a19 z : Value} : splice [a0, a1, a2, a3, a4, a5, a6, a7, a8, a9, a10, a11, a12, a13, a14, a15, a16, a17, a18, a19] 3 [z] = some [a0, a1, a2, z, a4, a5, a6, a7, a8, a9, a10, a11, a12, a13, a14, a15, a16, a17, a18, a19] := rfl
theorem gw5 {a0 a1 a2 a3 a4 a5 a6 a7 a8 a9 a10 a11 a12 a13 a14 a15 a16 a17 a18 a19 z : Value} : splice [a0, a1, a2, a3, a4, a5, a6, a7, a8, a9, a10, a11, a12, a13, a14, a15, a16, a17, a18, a19] 5 [z] = some [a0, a1, a2, a3, a4, z, a6, a7, a8, a9, a10, a11, a12, a13, a14, a15, a16, a17, a18, a19] := rfl
theorem gw11 {a0 a1 a2 a3 a4 a5 a6 a7 a8 a9 a10 a11 a12 a13 a14 a15 a16 a17 a18 a19 z : Value} : splice [a0, a1, a2, a3, a4, a5, a6, a7, a8, a9, a10, a11, a12, a13, a14, a15, a16, a17, a18, a19] 11 [z] = some [a0, a1, a2, a3, a4, a5, a6, a7, a8, a9, a10, z, a12, a13, a14, a15, a16, a17, a18, a19] := rfl
theorem gw13 {a0 a1 a2 a3 a4 a5 a6 a7 a8 a9 a10 a11 a12 a13 a14 a15 a16 a17 a18 a19 z : Value} : splice [a0, a1, a2, a3, a4, a5, a6, a7, a8, a9, a10, a11, a12, a13, a14, a15, a16, a17, a18, a19] 13 [z] = some [a0, a1, a2, a3, a4, a5, a6, a7, a8, a9, a10, a11, a12, z, a14, a15, a16, a17, a18, a19] := rfl
theorem gw15 {a0 a1 a2 a3 a4 a5 a6 a7 a8 a9 a10 a11 a12 a13 a14 a15 a16 a17 a18 a19 z : Value} : splice [a0, a1, a2, a3, a4, a5, a6, a7, a8, a9, a10, a11, a12, a13, a14, a15, a16, a17, a18, a19] 15 [z] = some [a0, a1, a2, a3, a4, a5, a6, a7, a8, a9, a10, a11, a12, a13, a14, z, a16, a17, a18, a19] := rfl
theorem gw16 {a0 a1 a2 a3 a4 a5 a6 a7 a8 a9 a10 a11 a12 a13 a14 a15 a16 a17 a18 a19 z : Value} : splice [a0, a1, a2, a3, a4, a5, a6, a7, a8, a9, a10, a11, a12, a13, a14, a15, a16, a17, a18, a19] 16 [z] = some [a0, a1, a2, a3, a4, a5, a6, a7, a8, a9, a10, a11, a12, a13, a14, a15, z, a17, a18, a19] := rfl
theorem gw17 {a0 a1 a2 a3 a4 a5 a6 a7 a8 a9 a10 a11 a12 a13 a14 a15 a16 a17 a18 a19 z : Value} : splice [a0, a1, a2, a3, a4, a5, a6, a7, a8, a9, a10, a11, a12, a13, a14, a15, a16, a17, a18, a19] 17 [z] = some [a0, a1, a2, a3, a4, a5, a6, a7, a8, a9, a10, a11, a12, a13, a14, a15, a16, z, a18, a19] := rfl
theorem gw18 {a0 a1 a2 a3 a4 a5 a6 a7 a8 a9 a10 a11 a12 a13 a14 a15 a16 a17 a18 a19 z : Value} : splice [a0, a1, a2, a3, a4, a5, a6, a7, a8, a9, a10, a11, a12, a13, a14, a15, a16, a17, a18, a19] 18 [z] = some [a0, a1, a2, a3, a4, a5, a6, a7, a8, a9, a10, a11, a12, a13, a14, a15, a16, a17, z, a19] := rfl
theorem gw19 {a0 a1 a2 a3 a4 a5 a6 a7 a8 a9 a10 a11 a12 a13 a14 a15 a16 a17 a18 a19 z : Value} : splice [a0, a1, a2, a3, a4, a5, a6, a7, a8, a9, a10, a11, a12, a13, a14, a15, a16, a17, a18, a19] 19 [z] = some [a0, a1, a2, a3, a4, a5, a6, a7, a8, a9, a10, a11, a12, a13, a14, a15, a16, a17, a18, z] := rfl
theorem gw6 {a0 a1 a2 a3 a4 a5 a6 a7 a8 a9 a10 a11 a12 a13 a14 a15 a16 a17 a18 a19 z0 z1 z2 z3 z4 : Value} : splice [a0, a1, a2, a3, a4, a5, a6, a7, a8, a9, a10, a11, a12, a13, a14, a15, a16, a17, a18, a19] 6 [z0, z1, z2, z3, z4] = some [a0, a1, a2, a3, a4, a5, z0, z1, z2, z3, z4, a11, a12, a13, a14, a15, a16, a17, a18, a19] := rfl
def tRow (s : By) : List Value := [str s]
def GQ (q : Nat) (v : Value) (l : List Int) (τ : St) : Prop := ∃ k, k ≤ l.length ∧ τ.orow q = some [v, .int .i64 (k : Nat)]
theorem GQ.ext {q : Nat} {v : Value} {l : List Int} {τ τ' : St} (h : GQ q v l τ) (hE : Ext τ τ') (hq : q < τ.n) : GQ q v l τ' := by
 obtain ⟨k, h1, h2⟩ := h; exact ⟨k, h1, by rw [hE.orow hq]; exact h2⟩
theorem GQ.x {p q : Nat} {v : Value} {l : List Int} {τ τ' : St} (h : GQ q v l τ) (hE : ExtX p τ τ') (hq : q < τ.n) (hne : q ≠ p) : GQ q v l τ' := by
 obtain ⟨k, h1, h2⟩ := h; exact ⟨k, h1, by rw [hE.orow hq hne]; exact h2⟩
theorem GQ.app {q lo size : Nat} {v w w' : Value} {l : List Int} {τ τ' : St} {rows : List (List Value)} (h : GQ q v l τ) (hA : App τ τ' w w') (ho : OL lo τ size w rows) (hq : q < τ.n) (hlo : q < lo) : GQ q v l τ' := by
 obtain ⟨k, h1, h2⟩ := h
 exact ⟨k, h1, by rw [orow_congr (hA.same q hq fun hb => by have := (ho.blk hb).1; omega)]; exact h2⟩
theorem mk_ms {σ τ : St} {q : Nat} {v : Value} {l : List Int} {H0 H : List Nat} (hl : ArgInts (hide σ H0) v l) (hll : l.length ≤ 9223372036854775807) (hE : Ext σ τ) (hH : ∀ c ∈ H, σ.n ≤ c ∨ c ∈ H0) (hq : q < τ.n) (hQ : GQ q v l τ) (hm : q ∈ H) : MS H q v l τ := by
 obtain ⟨k, h1, h2⟩ := hQ
 exact ⟨hm, ⟨k, h2, hq, h1⟩, hl.keep (keep_hide hE.n fun c hc hn => ⟨fun h => by rcases hH c h with h | h <;> first | omega | exact hn h, hE.row hc⟩), hll⟩
theorem nxg {σ τ : St} {q : Nat} {v : Value} {l : List Int} {H0 : List Nat} {n : Int} (hl : ArgInts (hide σ H0) v l) (hll : l.length ≤ 9223372036854775807) (hE : Ext σ τ) (hq0 : σ.n ≤ q) (hq : q < τ.n) (hQ : GQ q v l τ) (h1 : 0 < n) (h2 : n ≤ 1000) :
  Ev (go Tryz.prog HS (.fn 35) [.pointer (some ⟨q, 0, none⟩), .int .i64 n] τ) (fun r => ∃ (x : Nat) (σ' : St), r = ⟨false, .int .i64 (x : Nat), σ'⟩ ∧ (x : Int) < n ∧ Ext σ σ' ∧ GQ q v l σ' ∧ ExtX q τ σ') ⟨⟩ := by
 refine (nx_ok (mk_ms (H := q :: H0) hl hll hE (fun c hc => by rcases List.mem_cons.1 hc with rfl | h <;> first | exact .inl hq0 | exact .inr h) hq hQ (by simp)) h1 h2).mono ?_
 rintro r ⟨x, σ', rfl, hx, hM, hX⟩
 obtain ⟨k, r1, r2, r3⟩ := hM.mker
 exact ⟨x, σ', rfl, hx, hX.ext hE hq0, ⟨k, r3, r1⟩, hX⟩
theorem OL.upd {lo p : Nat} {σ : St} {size : Nat} {v : Value} {rows : List (List Value)} {cs : List Value} (h : OL lo σ size v rows) (hp : p < lo) : OL lo (σ.upd p cs) size v rows := OL.keepX h (ExtX.refl.upd _) hp
structure ExtM (q p : Nat) (σ σ' : St) : Prop where
 n : σ.n ≤ σ'.n
 same : ∀ b, b < σ.n → b ≠ q → b ≠ p → σ'.h.get b = σ.h.get b
section
variable {p q : Nat} {σ σ' σ'' : St}
theorem ExtM.refl : ExtM q p σ σ := ⟨Nat.le_refl _, fun _ _ _ _ => rfl⟩
theorem ExtM.of (h : Ext σ σ') : ExtM q p σ σ' := ⟨h.n, fun b hb _ _ => h.same b hb⟩
theorem ExtM.xq (h : ExtX q σ σ') : ExtM q p σ σ' := ⟨h.n, fun b hb h1 _ => h.same b hb h1⟩
theorem ExtM.xp (h : ExtX p σ σ') : ExtM q p σ σ' := ⟨h.n, fun b hb _ h2 => h.same b hb h2⟩
theorem ExtM.trans (h : ExtM q p σ σ') (k : ExtM q p σ' σ'') : ExtM q p σ σ'' := ⟨Nat.le_trans h.n k.n, fun b hb h1 h2 => by rw [k.same b (Nat.lt_of_lt_of_le hb h.n) h1 h2, h.same b hb h1 h2]⟩
theorem ExtM.upd {cs : List Value} (h : ExtM q p σ σ') : ExtM q p σ (σ'.upd p cs) := h.trans (.xp (ExtX.refl.upd _))
theorem ExtM.app {v v' : Value} {lo size : Nat} {rows : List (List Value)} (hA : App σ' σ'' v v') (hE : ExtM q p σ σ') (hl : OL lo σ' size v rows) (hlo : σ.n ≤ lo) : ExtM q p σ σ'' :=
 ⟨Nat.le_trans hE.n hA.n, fun c hc h1 h2 => by rw [hA.same c (Nat.lt_of_lt_of_le hc hE.n) (fun hb => by have := (hl.blk hb).1; omega), hE.same c hc h1 h2]⟩
theorem ExtM.ext {σ0 : St} (h : ExtM q p σ σ') (h0 : Ext σ0 σ) (hq : σ0.n ≤ q) (hp : σ0.n ≤ p) : Ext σ0 σ' := ⟨Nat.le_trans h0.n h.n, fun b hb => by rw [h.same b (Nat.lt_of_lt_of_le hb h0.n) (by omega) (by omega), h0.same b hb]⟩
theorem ExtM.row {b : Nat} (h : ExtM q p σ σ') (hb : b < σ.n) (h1 : b ≠ q) (h2 : b ≠ p) : σ'.row b = σ.row b := row_congr (h.same b hb h1 h2)
theorem ExtM.orow {b : Nat} (h : ExtM q p σ σ') (hb : b < σ.n) (h1 : b ≠ q) (h2 : b ≠ p) : σ'.orow b = σ.orow b := orow_congr (h.same b hb h1 h2)
theorem OL.keepM {lo size : Nat} {v : Value} {rows : List (List Value)} (h : OL lo σ size v rows) (hE : ExtM q p σ σ') (hq : q < lo) (hp : p < lo) : OL lo σ' size v rows := by
 refine h.keep hE.n fun b hb => ?_
 have := h.blk hb
 exact hE.same b this.2 (by omega) (by omega)
end
def bdN : Nat → Int | 0 => 80 | 1 => 23040 | 2 => 4976640 | _ => 955514880
def bdD : Nat → Int | 0 => 144 | 1 => 20736 | 2 => 2985984 | _ => 429981696
theorem iv_sum {T : Tn} {e f : Ex} {k : Nat} {o : By} (hk : k < 3) (he : Iv T e (Bd (bdN k) (bdD k))) (hf : Iv T f (Bd 80 144)) (ho : o = addO ∨ o = subO) : Iv T (opE o e f) (Bd (bdN (k + 1)) (bdD (k + 1))) := by
 have key : ∀ n d m e, Bd (bdN k) (bdD k) n d → Bd 80 144 m e → (-(bdN (k + 1)) ≤ n * e + m * d ∧ n * e + m * d ≤ bdN (k + 1)) ∧ (-(bdN (k + 1)) ≤ n * e - m * d ∧ n * e - m * d ≤ bdN (k + 1)) ∧ d * e ≠ 0 ∧ -(bdD (k + 1)) ≤ d * e ∧ d * e ≤ bdD (k + 1) := by
  rintro n d m e ⟨hr, a1, a2, a3⟩ ⟨hs, b1, b2, b3⟩
  have d1 := hr.d1
  have e1 := hs.d1
  have p3 : d * e ≠ 0 := Int.mul_ne_zero (by omega) (by omega)
  have : k = 0 ∨ k = 1 ∨ k = 2 := by omega
  rcases this with rfl | rfl | rfl <;> simp only [bdN, bdD] at a1 a2 a3 ⊢
  ·have p1 := mulb (a := n) (b := e) (A := 80) (B := 144) a1 a2 (by omega) b3
   have p2 := mulb (a := m) (b := d) (A := 80) (B := 144) b1 b2 (by omega) a3
   have p4 := mulb (a := d) (b := e) (A := 144) (B := 144) (by omega) a3 (by omega) b3
   omega
  ·have p1 := mulb (a := n) (b := e) (A := 23040) (B := 144) a1 a2 (by omega) b3
   have p2 := mulb (a := m) (b := d) (A := 80) (B := 20736) b1 b2 (by omega) a3
   have p4 := mulb (a := d) (b := e) (A := 20736) (B := 144) (by omega) a3 (by omega) b3
   omega
  ·have p1 := mulb (a := n) (b := e) (A := 4976640) (B := 144) a1 a2 (by omega) b3
   have p2 := mulb (a := m) (b := d) (A := 80) (B := 2985984) b1 b2 (by omega) a3
   have p4 := mulb (a := d) (b := e) (A := 2985984) (B := 144) (by omega) a3 (by omega) b3
   omega
 have lim : bdN (k + 1) < 1000000000 ∧ bdD (k + 1) < 1000000000 := by
  have : k = 0 ∨ k = 1 ∨ k = 2 := by omega
  rcases this with rfl | rfl | rfl <;> decide
 rcases ho with rfl | rfl
 ·refine iv_op (by decide) (by decide) he hf (fun _ _ h => h.1) (fun _ _ h => h.1) (opAdd ?_)
  intro n d m e h1 h2
  obtain ⟨⟨c1, c2⟩, -, c3, c4, c5⟩ := key n d m e h1 h2
  exact rq_q c3 c1 c2 c4 c5 lim.1 lim.2
 ·refine iv_op (by decide) (by decide) he hf (fun _ _ h => h.1) (fun _ _ h => h.1) (opSub ?_)
  intro n d m e h1 h2
  obtain ⟨-, ⟨c1, c2⟩, c3, c4, c5⟩ := key n d m e h1 h2
  exact rq_q c3 c1 c2 c4 c5 lim.1 lim.2
theorem pm_at {x : Nat} (h : (x : Int) < 3) : ∃ o, sub ([str [43], str [43], str [45]] : List Value) x 1 = some [str o] ∧ (o = addO ∨ o = subO) := by
 have : x = 0 ∨ x = 1 ∨ x = 2 := by omega
 rcases this with rfl | rfl | rfl
 ·exact ⟨addO, rfl, .inl rfl⟩
 ·exact ⟨addO, rfl, .inl rfl⟩
 ·exact ⟨subO, rfl, .inr rfl⟩
theorem Iv.congr {T U : Tn} (h : ∀ s, boundsR T s = boundsR U s) {e : Ex} {P : RatP} (hi : Iv T e P) : Iv U e P := by
 induction hi with
 | num h => exact .num h
 | name k => refine .name ?_; rw [← h]; exact k
 | op h1 h2 _ _ hA hB hP iha ihb => exact .op h1 h2 iha ihb hA hB hP
structure GOk (T : Tn) : Prop where
 ok : T.Ok
 sm : T.Sm
 le : T.Le 5
 nm : T.name = [116]
 q1 : 10 ≤ T.t.q ∧ T.t.q ≤ 14
 b1 : T.t.q + 1 ≤ T.t.b ∧ T.t.b ≤ T.t.q + 5
 g1 : T.t.b + 1 ≤ T.t.g ∧ T.t.g ≤ T.t.b + 5
 p1 : T.t.g + 1 ≤ T.t.p ∧ T.t.p ≤ T.t.g + 5
 s1 : 0 ≤ T.t.s ∧ T.t.s ≤ 9
set_option maxHeartbeats 32000000 in
theorem good_ok {σ : St} {v : Value} {l : List Int} (H0 : List Nat) (hH0 : ∀ c ∈ H0, c < σ.n) (hl : ArgInts (hide σ H0) v l) (hll : l.length ≤ 9223372036854775807) :
  Ev (go Tryz.prog HS (.fn 17) [v] σ) (fun r => ∃ cells T σ', r = ⟨false, .agg ⟨cells⟩, σ'⟩ ∧ Ext σ σ' ∧ TnX (hide σ' H0) cells T ∧ GOk T) ⟨⟩ := by
 have hv : ∃ a n c, v = .slice a n c := by
  obtain ⟨a, c, b, off, cells, h, -⟩ := hl.1.use; exact ⟨a, _, c, h⟩
 have hvc : cellsL v = [v] ∧ isTup v = false := by obtain ⟨a, n, c, rfl⟩ := hv; exact ⟨rfl, rfl⟩
 refine ev_go Tryz.func17 rfl rfl ?_
 simp (maxSteps := 1000000) (disch := first | exact dS | fail) only [↓bD2, bU2, reduceMul, reduceEqDiff, reduceAdd, Nat.reduceBEq, reduceIte, splice_succ, bunAP, hvc.1, hvc.2]
 obtain ⟨S0, hS0⟩ : ∃ S, ((σ.new [str [], .slice none 0 0, .slice none 0 0, .slice none 0 0, .int .i64 0, .int .i64 0, str [], .int .i64 0, .int .i64 0, str [], .slice none 0 0, .slice none 0 0, .int .i64 0, .slice none 0 0, .int .i64 0, .int .i64 0, .int .i64 0, .int .i64 0, .int .i64 0, .int .i64 0]).new [v, .int .i64 0]) = S := ⟨_, rfl⟩
 rw [hS0]
 obtain ⟨q, hq⟩ : ∃ q, σ.n + 1 = q := ⟨_, rfl⟩
 rw [hq]
 have E0 : Ext σ S0 := by rw [← hS0]; exact eX
 have n0 : S0.n = σ.n + 2 := by rw [← hS0]; rfl
 have Q0 : GQ q v l S0 := ⟨0, Nat.zero_le _, by rw [← hS0, ← hq]; exact cL⟩
 have z0 : S0.orow σ.n = some [str [], .slice none 0 0, .slice none 0 0, .slice none 0 0, .int .i64 0, .int .i64 0, str [], .int .i64 0, .int .i64 0, str [], .slice none 0 0, .slice none 0 0, .int .i64 0, .slice none 0 0, .int .i64 0, .int .i64 0, .int .i64 0, .int .i64 0, .int .i64 0, .int .i64 0] := by rw [← hS0]; exact cL
 clear hS0
 refine (nxg (n := 3) hl hll E0 (by omega) (by omega) Q0 (by omega) (by omega)).mono ?_
 rintro r ⟨a, τ1, rfl, ha, Ea, Qa, Xa⟩
 have na := Xa.n
 have z0 : τ1.orow σ.n = some ([str [], .slice none 0 0, .slice none 0 0, .slice none 0 0, .int .i64 0, .int .i64 0, str [], .int .i64 0, .int .i64 0, str [], .slice none 0 0, .slice none 0 0, .int .i64 0, .slice none 0 0, .int .i64 0, .int .i64 0, .int .i64 0, .int .i64 0, .int .i64 0, .int .i64 0]) := by rw [Xa.orow (by omega) (by omega)]; exact z0
 simp (maxSteps := 1000000) (disch := first | exact dS | fail) only [↓bD2, bU2, reduceMul, reduceEqDiff, reduceAdd, Nat.reduceBEq, reduceIte, splice_succ, bunAP]
 refine (nxg (n := 200) hl hll Ea (by omega) (by omega) Qa (by omega) (by omega)).mono ?_
 rintro r ⟨b, τ2, rfl, hb, Eb, Qb, Xb⟩
 have nb := Xb.n
 have z0 : τ2.orow σ.n = some ([str [], .slice none 0 0, .slice none 0 0, .slice none 0 0, .int .i64 0, .int .i64 0, str [], .int .i64 0, .int .i64 0, str [], .slice none 0 0, .slice none 0 0, .int .i64 0, .slice none 0 0, .int .i64 0, .int .i64 0, .int .i64 0, .int .i64 0, .int .i64 0, .int .i64 0]) := by rw [Xb.orow (by omega) (by omega)]; exact z0
 simp (maxSteps := 1000000) (disch := first | exact dS | fail) only [↓bD2, bU2, reduceMul, reduceEqDiff, reduceAdd, Nat.reduceBEq, reduceIte, splice_succ, bunAP]
 refine (nxg (n := 3) hl hll Eb (by omega) (by omega) Qb (by omega) (by omega)).mono ?_
 rintro r ⟨c, τ3, rfl, hc, Ec, Qc, Xc⟩
 have nc := Xc.n
 have z0 : τ3.orow σ.n = some ([str [], .slice none 0 0, .slice none 0 0, .slice none 0 0, .int .i64 0, .int .i64 0, str [], .int .i64 0, .int .i64 0, str [], .slice none 0 0, .slice none 0 0, .int .i64 0, .slice none 0 0, .int .i64 0, .int .i64 0, .int .i64 0, .int .i64 0, .int .i64 0, .int .i64 0]) := by rw [Xc.orow (by omega) (by omega)]; exact z0
 obtain ⟨lo, hlo⟩ : ∃ lo, 1 + (a : Int) = lo := ⟨_, rfl⟩
 obtain ⟨bu, hbu⟩ : ∃ bu, 20 + (b : Int) = bu := ⟨_, rfl⟩
 obtain ⟨mo, hmo⟩ : ∃ mo, (c : Int) = mo := ⟨_, rfl⟩
 obtain ⟨p, hp⟩ : ∃ p, τ3.n = p := ⟨_, rfl⟩
 rw [hlo, hbu, hmo]
 simp (maxSteps := 1000000) (disch := first | exact dS | fail) only [↓bD2, bU2, reduceMul, reduceEqDiff, reduceAdd, Nat.reduceBEq, reduceIte, splice_succ, bunAP, hlo, hbu, hmo]
 obtain ⟨S4, hS4⟩ : ∃ S, ((τ3.new [str [], .slice none 0 0, .slice none 0 0, .slice none 0 0, .int .i64 0, .int .i64 0, str [], .int .i64 0, .int .i64 0, str [], .slice none 0 0, .slice none 0 0, .int .i64 0, .slice none 0 0, .int .i64 0, .int .i64 0, .int .i64 0, .int .i64 0, .int .i64 0, .int .i64 0]).upd τ3.n [str [116], .slice none 0 0, .slice none 0 0, .slice none 0 0, .int .i64 lo, .int .i64 0, str [], .int .i64 0, .int .i64 0, str [], .slice none 0 0, .slice none 0 0, .int .i64 mo, .slice none 0 0, .int .i64 bu, .int .i64 0, .int .i64 0, .int .i64 0, .int .i64 0, .int .i64 0]) = S := ⟨_, rfl⟩
 rw [hS4]
 have E4 : Ext τ3 S4 := by rw [← hS4]; exact eX
 have n4 : S4.n = p + 1 := by rw [← hS4, ← hp]; rfl
 have rp : S4.orow p = some [str [116], .slice none 0 0, .slice none 0 0, .slice none 0 0, .int .i64 lo, .int .i64 0, str [], .int .i64 0, .int .i64 0, str [], .slice none 0 0, .slice none 0 0, .int .i64 mo, .slice none 0 0, .int .i64 bu, .int .i64 0, .int .i64 0, .int .i64 0, .int .i64 0, .int .i64 0] := by rw [← hS4, ← hp]; exact cL
 have z0 : S4.orow σ.n = some [str [], .slice none 0 0, .slice none 0 0, .slice none 0 0, .int .i64 0, .int .i64 0, str [], .int .i64 0, .int .i64 0, str [], .slice none 0 0, .slice none 0 0, .int .i64 0, .slice none 0 0, .int .i64 0, .int .i64 0, .int .i64 0, .int .i64 0, .int .i64 0, .int .i64 0] := by rw [E4.orow (by omega)]; exact z0
 have Q4 := Qc.ext E4 (by omega)
 have E5 := Ec.trans E4
 clear hS4 E4
 rw [hp]
 refine (nxg (n := 5) hl hll E5 (by omega) (by omega) Q4 (by omega) (by omega)).mono ?_
 rintro r ⟨d, τ5, rfl, hd, Ed, Qd, Xd⟩
 have nd := Xd.n
 have z0 : τ5.orow σ.n = some ([str [], .slice none 0 0, .slice none 0 0, .slice none 0 0, .int .i64 0, .int .i64 0, str [], .int .i64 0, .int .i64 0, str [], .slice none 0 0, .slice none 0 0, .int .i64 0, .slice none 0 0, .int .i64 0, .int .i64 0, .int .i64 0, .int .i64 0, .int .i64 0, .int .i64 0]) := by rw [Xd.orow (by omega) (by omega)]; exact z0
 have rp : τ5.orow p = some ([str [116], .slice none 0 0, .slice none 0 0, .slice none 0 0, .int .i64 lo, .int .i64 0, str [], .int .i64 0, .int .i64 0, str [], .slice none 0 0, .slice none 0 0, .int .i64 mo, .slice none 0 0, .int .i64 bu, .int .i64 0, .int .i64 0, .int .i64 0, .int .i64 0, .int .i64 0]) := by rw [Xd.orow (by omega) (by omega)]; exact rp
 obtain ⟨hi, hhi⟩ : ∃ hi, lo + 1 + (d : Int) = hi := ⟨_, rfl⟩
 simp (maxSteps := 1000000) (disch := first | exact dS | fail) only [↓bD2, bU2, reduceMul, reduceEqDiff, reduceAdd, Nat.reduceBEq, reduceIte, splice_succ, bunAP, rp, hhi]
 refine Must.intro (by (repeat first | simp (disch := omega) only [as_read, as_upd, as_newb, as_extx Xd] | rw [as_ord (by kernel_rfl)]); rfl) ?_
 simp (maxSteps := 1000000) (disch := first | exact dS | fail) only [↓bD2, bU2, reduceMul, reduceEqDiff, reduceAdd, Nat.reduceBEq, reduceIte, splice_succ, bunAP]
 obtain ⟨S6, hS6⟩ : ∃ S, (τ5.upd p [str [116], .slice none 0 0, .slice none 0 0, .slice none 0 0, .int .i64 lo, .int .i64 hi, str [], .int .i64 0, .int .i64 0, str [], .slice none 0 0, .slice none 0 0, .int .i64 mo, .slice none 0 0, .int .i64 bu, .int .i64 0, .int .i64 0, .int .i64 0, .int .i64 0, .int .i64 0]) = S := ⟨_, rfl⟩
 try rw [hS6]
 have E6 : Ext σ S6 := by rw [← hS6]; exact Ed.upd (by omega) _
 have n6 : S6.n = τ5.n := by rw [← hS6]; rfl
 have rp : S6.orow p = some [str [116], .slice none 0 0, .slice none 0 0, .slice none 0 0, .int .i64 lo, .int .i64 hi, str [], .int .i64 0, .int .i64 0, str [], .slice none 0 0, .slice none 0 0, .int .i64 mo, .slice none 0 0, .int .i64 bu, .int .i64 0, .int .i64 0, .int .i64 0, .int .i64 0, .int .i64 0] := by rw [← hS6]; exact cL
 have z0 : S6.orow σ.n = some [str [], .slice none 0 0, .slice none 0 0, .slice none 0 0, .int .i64 0, .int .i64 0, str [], .int .i64 0, .int .i64 0, str [], .slice none 0 0, .slice none 0 0, .int .i64 0, .slice none 0 0, .int .i64 0, .int .i64 0, .int .i64 0, .int .i64 0, .int .i64 0, .int .i64 0] := by rw [← hS6]; exact cL1 z0
 have Q6 : GQ q v l S6 := by rw [← hS6]; exact Qd.x (ExtX.refl.upd _) (by omega) (by omega)
 clear hS6
 refine (nxg (n := 3) hl hll E6 (by omega) (by omega) Q6 (by omega) (by omega)).mono ?_
 rintro r ⟨e, τ7, rfl, he, Ee, Qe, Xe⟩
 have ne := Xe.n
 have z0 : τ7.orow σ.n = some ([str [], .slice none 0 0, .slice none 0 0, .slice none 0 0, .int .i64 0, .int .i64 0, str [], .int .i64 0, .int .i64 0, str [], .slice none 0 0, .slice none 0 0, .int .i64 0, .slice none 0 0, .int .i64 0, .int .i64 0, .int .i64 0, .int .i64 0, .int .i64 0, .int .i64 0]) := by rw [Xe.orow (by omega) (by omega)]; exact z0
 have rp : τ7.orow p = some ([str [116], .slice none 0 0, .slice none 0 0, .slice none 0 0, .int .i64 lo, .int .i64 hi, str [], .int .i64 0, .int .i64 0, str [], .slice none 0 0, .slice none 0 0, .int .i64 mo, .slice none 0 0, .int .i64 bu, .int .i64 0, .int .i64 0, .int .i64 0, .int .i64 0, .int .i64 0]) := by rw [Xe.orow (by omega) (by omega)]; exact rp
 obtain ⟨nl, hnl, nl1, nl3⟩ : ∃ nl : Nat, 1 + (e : Int) = (nl : Int) ∧ 1 ≤ nl ∧ nl ≤ 3 := ⟨e + 1, by omega, by omega, by omega⟩
 simp (maxSteps := 1000000) (disch := first | exact dS | fail) only [↓bD2, bU2, reduceMul, reduceEqDiff, reduceAdd, Nat.reduceBEq, reduceIte, splice_succ, bunAP, hnl]
 have τ7Q := Qe
 have τ7E := Ee
 refine ev_count nl (fun k fr τ => fr.get 6 = some (.int .i64 k) ∧ fr.get 2 = some (.pointer (some ⟨σ.n, 0, none⟩)) ∧ fr.get 3 = some (.pointer (some ⟨q, 0, none⟩)) ∧ fr.get 4 = some (.pointer (some ⟨p, 0, none⟩)) ∧ fr.get 5 = some (.int .i64 (nl : Nat)) ∧ ExtM q p τ7 τ ∧ GQ q v l τ ∧ ∃ (u : Value) (L : List Lot), τ.orow p = some ([str [116], u, .slice none 0 0, .slice none 0 0, .int .i64 lo, .int .i64 hi, str [], .int .i64 0, .int .i64 0, str [], .slice none 0 0, .slice none 0 0, .int .i64 mo, .slice none 0 0, .int .i64 bu, .int .i64 0, .int .i64 0, .int .i64 0, .int .i64 0, .int .i64 0]) ∧ OL τ7.n τ 2 u (L.map Lot.row) ∧ L.length = k ∧ ∀ x ∈ L, 1 ≤ x.id ∧ x.id ≤ 3 ∧ 0 ≤ x.most ∧ x.most ≤ 100)
  (fun r => ∃ fr τ u, ∃ L : List Lot, r = ⟨.exit 0, fr, τ⟩ ∧ fr.get 2 = some (.pointer (some ⟨σ.n, 0, none⟩)) ∧ fr.get 3 = some (.pointer (some ⟨q, 0, none⟩)) ∧ fr.get 4 = some (.pointer (some ⟨p, 0, none⟩)) ∧ fr.get 5 = some (.int .i64 (nl : Nat)) ∧ ExtM q p τ7 τ ∧ GQ q v l τ ∧ τ.orow p = some ([str [116], u, .slice none 0 0, .slice none 0 0, .int .i64 lo, .int .i64 hi, str [], .int .i64 0, .int .i64 0, str [], .slice none 0 0, .slice none 0 0, .int .i64 mo, .slice none 0 0, .int .i64 bu, .int .i64 0, .int .i64 0, .int .i64 0, .int .i64 0, .int .i64 0]) ∧ OL τ7.n τ 2 u (L.map Lot.row) ∧ L.length = nl ∧ ∀ x ∈ L, 1 ≤ x.id ∧ x.id ≤ 3 ∧ 0 ≤ x.most ∧ x.most ≤ 100) ?_ ?_ ?_ ?_
 ·exact ⟨fR, fR, fR, fR, fR, .refl, τ7Q, .slice none 0 0, [], rp, OL.nil, rfl, fun x hx => by cases hx⟩
 ·skip
  rintro k fr τ hk ⟨gc, g2, g3, g4, g5, hX, hQ, u, L, rp, ho, hL, hP⟩
  have hc := lt_true hk
  have nX := hX.n
  have hE : Ext σ τ := hX.ext τ7E (by omega) (by omega)
  have rr := row_of rp
  have bv : blkOf u ≠ some p := fun hb => by have := (ho.blk hb).1; omega
  simp (maxSteps := 1000000) (disch := first | exact dS | fail) only [↓bD2, bU2, reduceMul, reduceEqDiff, reduceAdd, Nat.reduceBEq, reduceIte, splice_succ, ap22, ap23, ap24, ap25, ap26, ap34, ap35, ap38, ap41, ap49, ap74, gc, g2, g3, g4, g5, hc, rr]
  refine (nxg (n := 8) hl hll hE (by omega) (by omega) hQ (by omega) (by omega)).mono ?_
  rintro r ⟨x, σ5, rfl, hx, Ex, Qx, Xx⟩
  have nx := Xx.n
  have rp : σ5.orow p = some _ := (Xx.orow (by omega) (by omega)).trans rp
  have rpr := row_of rp
  have rp' := rp
  have Q' := Qx
  simp (maxSteps := 1000000) (disch := first | exact dS | fail) only [↓bD2, bU2, reduceMul, reduceEqDiff, reduceAdd, Nat.reduceBEq, reduceIte, splice_succ, ap22, ap23, ap24, ap25, ap26, ap34, ap35, ap38, ap41, ap49, ap74, gc, g2, g3, g4, g5, rpr]
  have hoN : OL τ7.n (σ5.new [.int .i64 (1 + (k : Int)), .int .i64 (lo + (x : Int))]) 2 u (L.map Lot.row) := OL.ext (OL.keepX ho Xx (by omega)) (.new _ _)
  have hXN : ExtM q p τ7 (σ5.new [.int .i64 (1 + (k : Int)), .int .i64 (lo + (x : Int))]) := (hX.trans (.xq Xx)).trans (.of (Ext.new' (.refl _) _))
  refine ev_append (row := Lot.row ⟨1 + (k : Int), lo + (x : Int)⟩) (fun _ _ _ _ => ap33) hoN (row_new_same (Nat.le_refl _) (Nat.le_refl _)) (sub_full (by simp [Crit.row, Req.row, Lot.row]) (by simp)) (by rw [List.length_map]; omega) (by simp; omega) ?_
  rintro u' σ8 ho' hA -
  obtain ⟨ua, rfl⟩ := OL.shape ho'
  have r8 : σ8.orow p = some _ := (orow_congr (hA.same p (by simp; omega) bv)).trans ((orow_new_ne (by first | omega | (simp; omega))).trans rp')
  have qN : GQ q v l (σ5.new [.int .i64 (1 + (k : Int)), .int .i64 (lo + (x : Int))]) := Q'.ext (.new _ _) (by first | omega | (simp; omega))
  simp (maxSteps := 1000000) (disch := first | exact dS | fail) only [↓bD2, bU2, reduceMul, reduceEqDiff, reduceAdd, Nat.reduceBEq, reduceIte, splice_succ, ap22, ap23, ap24, ap25, ap26, ap34, ap35, ap38, ap41, ap49, ap74, g2, g3, g4, g5, gc, r8, asx (Ext.refl _), as_newb, as_upd, as_extx Xx]
  try refine Must.intro (by (repeat first | simp (disch := omega) only [as_read, as_upd, as_newb, asx (Ext.refl _), as_extx Xx] | rw [as_ord (by kernel_rfl)]); rfl) ?_
  simp (maxSteps := 1000000) (disch := first | exact dS | fail) only [↓bD2, bU2, reduceMul, reduceEqDiff, reduceAdd, Nat.reduceBEq, reduceIte, splice_succ, ap22, ap23, ap24, ap25, ap26, ap34, ap35, ap38, ap41, ap49, ap74, g2, g3, g4, g5, gc]
  refine ⟨fR, fR1 g2, fR1 g3, fR1 g4, fR1 g5, (ExtM.app hA hXN hoN (Nat.le_refl _)).upd, (qN.app hA hoN (by first | omega | (simp; omega)) (by omega)).x (ExtX.refl.upd _) (by have := hA.n; simp at this; omega) (by omega), _, L ++ [⟨1 + (k : Int), lo + (x : Int)⟩], cL, ?_, by simp [hL], ?_⟩
  ·rw [List.map_append]
   exact OL.upd ho' (by omega)
  ·intro x hx
   rcases List.mem_append.1 hx with hx | hx
   ·exact hP x hx
   ·rw [List.mem_singleton] at hx; subst hx
    exact ⟨by show (1 : Int) ≤ 1 + (k : Int); omega, by show 1 + (k : Int) ≤ 3; omega, by show (0 : Int) ≤ lo + (x : Int); omega, by show lo + (x : Int) ≤ 100; omega⟩
 ·skip
  rintro fr τ ⟨gc, g2, g3, g4, g5, hX, hQ, u, L, rp, ho, hL, hP⟩
  simp (maxSteps := 1000000) (disch := first | exact dS | fail) only [↓bD2, bU2, reduceMul, reduceEqDiff, reduceAdd, Nat.reduceBEq, reduceIte, splice_succ, bunAP, gc, g5]
  exact ⟨_, _, u, L, rfl, fR1 g2, fR1 g3, fR1 g4, fR1 g5, hX, hQ, rp, ho, hL, hP⟩
 rintro r ⟨fr, τ8, V1, L1, rfl, g2, g3, g4, g5, hX8, Q8, rp, ho1, hL1, hP1⟩
 have n8 := hX8.n
 have E8 : Ext σ τ8 := hX8.ext τ7E (by omega) (by omega)
 have z0 : τ8.orow σ.n = some [str [], .slice none 0 0, .slice none 0 0, .slice none 0 0, .int .i64 0, .int .i64 0, str [], .int .i64 0, .int .i64 0, str [], .slice none 0 0, .slice none 0 0, .int .i64 0, .slice none 0 0, .int .i64 0, .int .i64 0, .int .i64 0, .int .i64 0, .int .i64 0, .int .i64 0] := by rw [hX8.orow (by omega) (by omega) (by omega)]; exact z0
 obtain ⟨va1, hV1⟩ := OL.shape ho1
 subst hV1
 obtain ⟨V1, hV1⟩ : ∃ V, Value.slice va1 (L1.map Lot.row).length (L1.map Lot.row).length = V := ⟨_, rfl⟩
 rw [hV1] at rp ho1
 simp (maxSteps := 1000000) (disch := first | exact dS | fail) only [↓bD2, bU2, reduceMul, reduceEqDiff, reduceAdd, Nat.reduceBEq, reduceIte, splice_succ, bunAP, g3]
 obtain ⟨S9, hS9⟩ : ∃ S, (τ8.new [str [115, 112, 101, 101, 100], str [99, 111, 109, 102, 111, 114, 116], str [119, 101, 105, 103, 104, 116]]) = S := ⟨_, rfl⟩
 rw [hS9]
 have F9 : Ext τ8 S9 := by rw [← hS9]; exact eX
 have n9 : S9.n = τ8.n + 1 := by rw [← hS9]; rfl
 obtain ⟨nb, hnb⟩ : ∃ nb, τ8.n = nb := ⟨_, rfl⟩
 have rn : S9.orow nb = some [str [115, 112, 101, 101, 100], str [99, 111, 109, 102, 111, 114, 116], str [119, 101, 105, 103, 104, 116]] := by rw [← hS9, ← hnb]; exact cL
 have rp : S9.orow p = some ([str [116], V1, .slice none 0 0, .slice none 0 0, .int .i64 lo, .int .i64 hi, str [], .int .i64 0, .int .i64 0, str [], .slice none 0 0, .slice none 0 0, .int .i64 mo, .slice none 0 0, .int .i64 bu, .int .i64 0, .int .i64 0, .int .i64 0, .int .i64 0, .int .i64 0]) := by rw [F9.orow (by omega)]; exact rp
 have z0 : S9.orow σ.n = some [str [], .slice none 0 0, .slice none 0 0, .slice none 0 0, .int .i64 0, .int .i64 0, str [], .int .i64 0, .int .i64 0, str [], .slice none 0 0, .slice none 0 0, .int .i64 0, .slice none 0 0, .int .i64 0, .int .i64 0, .int .i64 0, .int .i64 0, .int .i64 0, .int .i64 0] := by rw [F9.orow (by omega)]; exact z0
 have Q9 := Q8.ext F9 (by omega)
 have E9 := E8.trans F9
 have ho1 := OL.ext ho1 F9
 clear hS9
 refine (nxg (n := 4) hl hll E9 (by omega) (by omega) Q9 (by omega) (by omega)).mono ?_
 rintro r ⟨f, τ9, rfl, hf, Ef, Qf, Xf⟩
 have nf := Xf.n
 have z0 : τ9.orow σ.n = some ([str [], .slice none 0 0, .slice none 0 0, .slice none 0 0, .int .i64 0, .int .i64 0, str [], .int .i64 0, .int .i64 0, str [], .slice none 0 0, .slice none 0 0, .int .i64 0, .slice none 0 0, .int .i64 0, .int .i64 0, .int .i64 0, .int .i64 0, .int .i64 0, .int .i64 0]) := by rw [Xf.orow (by omega) (by omega)]; exact z0
 have rp : τ9.orow p = some ([str [116], V1, .slice none 0 0, .slice none 0 0, .int .i64 lo, .int .i64 hi, str [], .int .i64 0, .int .i64 0, str [], .slice none 0 0, .slice none 0 0, .int .i64 mo, .slice none 0 0, .int .i64 bu, .int .i64 0, .int .i64 0, .int .i64 0, .int .i64 0, .int .i64 0]) := by rw [Xf.orow (by omega) (by omega)]; exact rp
 have rn : τ9.orow nb = some ([str [115, 112, 101, 101, 100], str [99, 111, 109, 102, 111, 114, 116], str [119, 101, 105, 103, 104, 116]]) := by rw [Xf.orow (by omega) (by omega)]; exact rn
 have ho1 := OL.keepX ho1 Xf (by omega)
 have lb1 : ∀ b, blkOf V1 = some b → b < τ9.n := fun b hb => (ho1.blk hb).2
 simp (maxSteps := 1000000) (disch := first | exact dS | fail) only [↓bD2, bU2, reduceMul, reduceEqDiff, reduceAdd, Nat.reduceBEq, reduceIte, splice_succ, bunAP, hnb]
 have τ9Q := Qf
 have τ9E := Ef
 refine ev_count f (fun k fr τ => fr.get 9 = some (.int .i64 k) ∧ fr.get 2 = some (.pointer (some ⟨σ.n, 0, none⟩)) ∧ fr.get 3 = some (.pointer (some ⟨q, 0, none⟩)) ∧ fr.get 4 = some (.pointer (some ⟨p, 0, none⟩)) ∧ fr.get 5 = some (.int .i64 (nl : Nat)) ∧ fr.get 7 = some (.slice (some ⟨nb, 0, none⟩) 3 3) ∧ fr.get 8 = some (.int .i64 (f : Nat)) ∧ ExtM q p τ9 τ ∧ GQ q v l τ ∧ ∃ (u : Value) (L : List Crit), τ.orow p = some ([str [116], V1, u, .slice none 0 0, .int .i64 lo, .int .i64 hi, str [], .int .i64 0, .int .i64 0, str [], .slice none 0 0, .slice none 0 0, .int .i64 mo, .slice none 0 0, .int .i64 bu, .int .i64 0, .int .i64 0, .int .i64 0, .int .i64 0, .int .i64 0]) ∧ OL τ9.n τ 5 u (L.map Crit.row) ∧ L.length = k ∧ ∀ x ∈ L, x.name ∈ gn ∧ (x.kind = 1 ∨ x.kind = 2) ∧ 0 ≤ x.low ∧ x.low ≤ 4 ∧ 0 ≤ x.high ∧ x.high ≤ 4)
  (fun r => ∃ fr τ u, ∃ L : List Crit, r = ⟨.exit 2, fr, τ⟩ ∧ fr.get 2 = some (.pointer (some ⟨σ.n, 0, none⟩)) ∧ fr.get 3 = some (.pointer (some ⟨q, 0, none⟩)) ∧ fr.get 4 = some (.pointer (some ⟨p, 0, none⟩)) ∧ fr.get 5 = some (.int .i64 (nl : Nat)) ∧ fr.get 7 = some (.slice (some ⟨nb, 0, none⟩) 3 3) ∧ fr.get 8 = some (.int .i64 (f : Nat)) ∧ ExtM q p τ9 τ ∧ GQ q v l τ ∧ τ.orow p = some ([str [116], V1, u, .slice none 0 0, .int .i64 lo, .int .i64 hi, str [], .int .i64 0, .int .i64 0, str [], .slice none 0 0, .slice none 0 0, .int .i64 mo, .slice none 0 0, .int .i64 bu, .int .i64 0, .int .i64 0, .int .i64 0, .int .i64 0, .int .i64 0]) ∧ OL τ9.n τ 5 u (L.map Crit.row) ∧ L.length = f ∧ ∀ x ∈ L, x.name ∈ gn ∧ (x.kind = 1 ∨ x.kind = 2) ∧ 0 ≤ x.low ∧ x.low ≤ 4 ∧ 0 ≤ x.high ∧ x.high ≤ 4) ?_ ?_ ?_ ?_
 ·exact ⟨fR, fR1 g2, fR1 g3, fR1 g4, fR1 g5, fR, fR, .refl, τ9Q, .slice none 0 0, [], rp, OL.nil, rfl, fun x hx => by cases hx⟩
 ·clear g2 g3 g4 g5 fr
  rintro k fr τ hk ⟨gc, g2, g3, g4, g5, g7, g8, hX, hQ, u, L, rp, ho, hL, hP⟩
  have hc := lt_true hk
  have nX := hX.n
  have hE : Ext σ τ := hX.ext τ9E (by omega) (by omega)
  have rr := row_of rp
  have bv : blkOf u ≠ some p := fun hb => by have := (ho.blk hb).1; omega
  have rnr : τ.row nb = some [str [115, 112, 101, 101, 100], str [99, 111, 109, 102, 111, 114, 116], str [119, 101, 105, 103, 104, 116]] := row_of (by rw [hX.orow (by omega) (by omega) (by omega)]; exact rn)
  obtain ⟨nm, hnm, hgn⟩ := gn_at (show k < 3 by omega)
  simp (maxSteps := 1000000) (disch := first | exact dS | fail) only [↓bD2, bU2, reduceMul, reduceEqDiff, reduceAdd, Nat.reduceBEq, reduceIte, splice_succ, ap22, ap23, ap24, ap25, ap26, ap33, ap35, ap38, ap41, ap49, ap74, gc, g2, g3, g4, g5, g7, g8, hc]
  refine (nxg (n := 2) hl hll hE (by omega) (by omega) hQ (by omega) (by omega)).mono ?_
  rintro r ⟨x, σ3, rfl, hx, Ex, Qx, Xx⟩
  have nx := Xx.n
  have rp : σ3.orow p = some _ := (Xx.orow (by omega) (by omega)).trans rp
  have rpr := row_of rp
  have rnr : σ3.row nb = some [str [115, 112, 101, 101, 100], str [99, 111, 109, 102, 111, 114, 116], str [119, 101, 105, 103, 104, 116]] := by rw [Xx.row (by omega) (by omega)]; exact rnr
  simp (maxSteps := 1000000) (disch := first | exact dS | fail) only [↓bD2, bU2, reduceMul, reduceEqDiff, reduceAdd, Nat.reduceBEq, reduceIte, splice_succ, ap22, ap23, ap24, ap25, ap26, ap33, ap35, ap38, ap41, ap49, ap74, gc, g2, g3, g4, g5, g7, g8, rpr, rnr, hnm]
  refine (nxg (n := 2) hl hll Ex (by omega) (by omega) Qx (by omega) (by omega)).mono ?_
  rintro r ⟨y, σ4, rfl, hy, Ey, Qy, Xy⟩
  have ny := Xy.n
  have rp : σ4.orow p = some _ := (Xy.orow (by omega) (by omega)).trans rp
  have rpr := row_of rp
  simp (maxSteps := 1000000) (disch := first | exact dS | fail) only [↓bD2, bU2, reduceMul, reduceEqDiff, reduceAdd, Nat.reduceBEq, reduceIte, splice_succ, ap22, ap23, ap24, ap25, ap26, ap33, ap35, ap38, ap41, ap49, ap74, gc, g2, g3, g4, g5, g7, g8]
  refine (nxg (n := 4) hl hll Ey (by omega) (by omega) Qy (by omega) (by omega)).mono ?_
  rintro r ⟨z, σ5, rfl, hz, Ez, Qz, Xz⟩
  have nz := Xz.n
  have rp : σ5.orow p = some _ := (Xz.orow (by omega) (by omega)).trans rp
  have rpr := row_of rp
  simp (maxSteps := 1000000) (disch := first | exact dS | fail) only [↓bD2, bU2, reduceMul, reduceEqDiff, reduceAdd, Nat.reduceBEq, reduceIte, splice_succ, ap22, ap23, ap24, ap25, ap26, ap33, ap35, ap38, ap41, ap49, ap74, gc, g2, g3, g4, g5, g7, g8]
  refine (nxg (n := 3) hl hll Ez (by omega) (by omega) Qz (by omega) (by omega)).mono ?_
  rintro r ⟨w, σ6, rfl, hw, Ew, Qw, Xw⟩
  have nw := Xw.n
  have rp : σ6.orow p = some _ := (Xw.orow (by omega) (by omega)).trans rp
  have rpr := row_of rp
  have rp' := rp
  have Q' := Qw
  simp (maxSteps := 1000000) (disch := first | exact dS | fail) only [↓bD2, bU2, reduceMul, reduceEqDiff, reduceAdd, Nat.reduceBEq, reduceIte, splice_succ, ap22, ap23, ap24, ap25, ap26, ap33, ap35, ap38, ap41, ap49, ap74, gc, g2, g3, g4, g5, g7, g8, rpr]
  have hoN : OL τ9.n (σ6.new [str nm, .int .i64 (1 + (y : Int)), .int .i64 (x : Int), .int .i64 ((x : Int) + (z : Int)), .bool (decide ((w : Int) = 0))]) 5 u (L.map Crit.row) := OL.ext (OL.keepX (OL.keepX (OL.keepX (OL.keepX ho Xx (by omega)) Xy (by omega)) Xz (by omega)) Xw (by omega)) (.new _ _)
  have hXN : ExtM q p τ9 (σ6.new [str nm, .int .i64 (1 + (y : Int)), .int .i64 (x : Int), .int .i64 ((x : Int) + (z : Int)), .bool (decide ((w : Int) = 0))]) := ((((hX.trans (.xq Xx)).trans (.xq Xy)).trans (.xq Xz)).trans (.xq Xw)).trans (.of (Ext.new' (.refl _) _))
  refine ev_append (row := Crit.row ⟨nm, 1 + (y : Int), (x : Int), (x : Int) + (z : Int), decide ((w : Int) = 0)⟩) (fun _ _ _ _ => ap34) hoN (row_new_same (Nat.le_refl _) (Nat.le_refl _)) (sub_full (by simp [Crit.row, Req.row, Lot.row]) (by simp)) (by rw [List.length_map]; omega) (by simp; omega) ?_
  rintro u' σ8 ho' hA -
  obtain ⟨ua, rfl⟩ := OL.shape ho'
  have r8 : σ8.orow p = some _ := (orow_congr (hA.same p (by simp; omega) bv)).trans ((orow_new_ne (by first | omega | (simp; omega))).trans rp')
  have qN : GQ q v l (σ6.new [str nm, .int .i64 (1 + (y : Int)), .int .i64 (x : Int), .int .i64 ((x : Int) + (z : Int)), .bool (decide ((w : Int) = 0))]) := Q'.ext (.new _ _) (by first | omega | (simp; omega))
  simp (maxSteps := 1000000) (disch := first | exact dS | fail) only [↓bD2, bU2, reduceMul, reduceEqDiff, reduceAdd, Nat.reduceBEq, reduceIte, splice_succ, ap22, ap23, ap24, ap25, ap26, ap33, ap35, ap38, ap41, ap49, ap74, g2, g3, g4, g5, g7, g8, gc, r8, asx (Ext.refl _), as_newb, as_upd, as_extx Xx, as_extx Xy, as_extx Xz, as_extx Xw]
  try refine Must.intro (by (repeat first | simp (disch := omega) only [as_read, as_upd, as_newb, asx (Ext.refl _), as_extx Xx, as_extx Xy, as_extx Xz, as_extx Xw] | rw [as_ord (by kernel_rfl)]); rfl) ?_
  simp (maxSteps := 1000000) (disch := first | exact dS | fail) only [↓bD2, bU2, reduceMul, reduceEqDiff, reduceAdd, Nat.reduceBEq, reduceIte, splice_succ, ap22, ap23, ap24, ap25, ap26, ap33, ap35, ap38, ap41, ap49, ap74, g2, g3, g4, g5, g7, g8, gc]
  refine ⟨fR, fR1 g2, fR1 g3, fR1 g4, fR1 g5, fR1 g7, fR1 g8, (ExtM.app hA hXN hoN (Nat.le_refl _)).upd, (qN.app hA hoN (by first | omega | (simp; omega)) (by omega)).x (ExtX.refl.upd _) (by have := hA.n; simp at this; omega) (by omega), _, L ++ [⟨nm, 1 + (y : Int), (x : Int), (x : Int) + (z : Int), decide ((w : Int) = 0)⟩], cL, ?_, by simp [hL], ?_⟩
  ·rw [List.map_append]
   exact OL.upd ho' (by omega)
  ·intro x hx
   rcases List.mem_append.1 hx with hx | hx
   ·exact hP x hx
   ·rw [List.mem_singleton] at hx; subst hx
    exact ⟨hgn, by show 1 + (y : Int) = 1 ∨ 1 + (y : Int) = 2; omega, by show (0 : Int) ≤ (x : Int); omega, by show (x : Int) ≤ 4; omega, by show (0 : Int) ≤ (x : Int) + (z : Int); omega, by show (x : Int) + (z : Int) ≤ 4; omega⟩
 ·clear g2 g3 g4 g5 fr
  rintro fr τ ⟨gc, g2, g3, g4, g5, g7, g8, hX, hQ, u, L, rp, ho, hL, hP⟩
  simp (maxSteps := 1000000) (disch := first | exact dS | fail) only [↓bD2, bU2, reduceMul, reduceEqDiff, reduceAdd, Nat.reduceBEq, reduceIte, splice_succ, bunAP, gc, g8]
  exact ⟨_, _, u, L, rfl, fR1 g2, fR1 g3, fR1 g4, fR1 g5, fR1 g7, fR1 g8, hX, hQ, rp, ho, hL, hP⟩
 rintro r ⟨fr, τ10, V2, L2, rfl, g2, g3, g4, g5, g7, g8, hX10, Q10, rp, ho2, hL2, hP2⟩
 have n10 := hX10.n
 have E10 : Ext σ τ10 := hX10.ext τ9E (by omega) (by omega)
 have z0 : τ10.orow σ.n = some [str [], .slice none 0 0, .slice none 0 0, .slice none 0 0, .int .i64 0, .int .i64 0, str [], .int .i64 0, .int .i64 0, str [], .slice none 0 0, .slice none 0 0, .int .i64 0, .slice none 0 0, .int .i64 0, .int .i64 0, .int .i64 0, .int .i64 0, .int .i64 0, .int .i64 0] := by rw [hX10.orow (by omega) (by omega) (by omega)]; exact z0
 have rn : τ10.orow nb = some [str [115, 112, 101, 101, 100], str [99, 111, 109, 102, 111, 114, 116], str [119, 101, 105, 103, 104, 116]] := by rw [hX10.orow (by omega) (by omega) (by omega)]; exact rn
 have ho1 := OL.keepM ho1 hX10 (by omega) (by omega)
 obtain ⟨va2, hV2⟩ : ∃ a, V2 = .slice a f f := by
  obtain ⟨a, h⟩ := OL.shape ho2
  exact ⟨a, by rw [h]; simp [hL2]⟩
 subst hV2
 simp (maxSteps := 1000000) (disch := first | exact dS | fail) only [↓bD2, bU2, reduceMul, reduceEqDiff, reduceAdd, Nat.reduceBEq, reduceIte, splice_succ, bunAP]
 have τ10Q := Q10
 have τ10E := E10
 refine ev_count f (fun k fr τ => fr.get 11 = some (.int .i64 k) ∧ fr.get 2 = some (.pointer (some ⟨σ.n, 0, none⟩)) ∧ fr.get 3 = some (.pointer (some ⟨q, 0, none⟩)) ∧ fr.get 4 = some (.pointer (some ⟨p, 0, none⟩)) ∧ fr.get 5 = some (.int .i64 (nl : Nat)) ∧ fr.get 7 = some (.slice (some ⟨nb, 0, none⟩) 3 3) ∧ fr.get 8 = some (.int .i64 (f : Nat)) ∧ ExtM q p τ10 τ ∧ GQ q v l τ ∧ ∃ (u : Value) (L : List Req), τ.orow p = some ([str [116], V1, (.slice va2 f f), u, .int .i64 lo, .int .i64 hi, str [], .int .i64 0, .int .i64 0, str [], .slice none 0 0, .slice none 0 0, .int .i64 mo, .slice none 0 0, .int .i64 bu, .int .i64 0, .int .i64 0, .int .i64 0, .int .i64 0, .int .i64 0]) ∧ OL τ10.n τ 3 u (L.map Req.row) ∧ L.length ≤ k ∧ ∀ x ∈ L, x.name ∈ gn ∧ x.rel.length ≤ 2 ∧ 0 ≤ x.value ∧ x.value ≤ 3)
  (fun r => ∃ fr τ u, ∃ L : List Req, r = ⟨.exit 4, fr, τ⟩ ∧ fr.get 2 = some (.pointer (some ⟨σ.n, 0, none⟩)) ∧ fr.get 3 = some (.pointer (some ⟨q, 0, none⟩)) ∧ fr.get 4 = some (.pointer (some ⟨p, 0, none⟩)) ∧ fr.get 5 = some (.int .i64 (nl : Nat)) ∧ fr.get 7 = some (.slice (some ⟨nb, 0, none⟩) 3 3) ∧ fr.get 8 = some (.int .i64 (f : Nat)) ∧ ExtM q p τ10 τ ∧ GQ q v l τ ∧ τ.orow p = some ([str [116], V1, (.slice va2 f f), u, .int .i64 lo, .int .i64 hi, str [], .int .i64 0, .int .i64 0, str [], .slice none 0 0, .slice none 0 0, .int .i64 mo, .slice none 0 0, .int .i64 bu, .int .i64 0, .int .i64 0, .int .i64 0, .int .i64 0, .int .i64 0]) ∧ OL τ10.n τ 3 u (L.map Req.row) ∧ L.length ≤ f ∧ ∀ x ∈ L, x.name ∈ gn ∧ x.rel.length ≤ 2 ∧ 0 ≤ x.value ∧ x.value ≤ 3) ?_ ?_ ?_ ?_
 ·exact ⟨fR, fR1 g2, fR1 g3, fR1 g4, fR1 g5, fR1 g7, fR1 g8, .refl, τ10Q, .slice none 0 0, [], rp, OL.nil, by simp, fun x hx => by cases hx⟩
 ·clear g2 g3 g4 g5 g7 g8 fr
  rintro k fr τ hk ⟨gc, g2, g3, g4, g5, g7, g8, hX, hQ, u, L, rp, ho, hL, hP⟩
  have hc := lt_true hk
  have nX := hX.n
  have hE : Ext σ τ := hX.ext τ10E (by omega) (by omega)
  have rr := row_of rp
  have bv : blkOf u ≠ some p := fun hb => by have := (ho.blk hb).1; omega
  have rnr : τ.row nb = some [str [115, 112, 101, 101, 100], str [99, 111, 109, 102, 111, 114, 116], str [119, 101, 105, 103, 104, 116]] := row_of (by rw [hX.orow (by omega) (by omega) (by omega)]; exact rn)
  obtain ⟨nm, hnm, hgn⟩ := gn_at (show k < 3 by omega)
  have ho2' := OL.keepM ho2 hX (by omega) (by omega)
  obtain ⟨aa, cc, cb, co, ccs, hV, d1, d2⟩ := (show Crits τ _ L2 from ho2'.sl).use
  injection hV with hV1 hV2 hV3
  subst hV1
  obtain ⟨sp, rfl, e3, e4⟩ := d1 (by omega)
  obtain ⟨cr, hcr⟩ := at_some (show k < L2.length by omega)
  obtain ⟨-, -, e5, -⟩ := d2 k cr hcr
  cases qk : decide (cr.kind = 2) with
  | false =>
   simp (maxSteps := 1000000) (disch := first | exact dS | fail) only [↓bD2, bU2, reduceMul, reduceEqDiff, reduceAdd, Nat.reduceBEq, reduceIte, splice_succ, bunAP, gc, g2, g3, g4, g5, g7, g8, hc, rr, e4, e5, qk, yu_t, yu_f]
   exact ⟨fR, fR1 g2, fR1 g3, fR1 g4, fR1 g5, fR1 g7, fR1 g8, hX, hQ, u, L, rp, ho, by omega, hP⟩
  | true =>
  simp (maxSteps := 1000000) (disch := first | exact dS | fail) only [↓bD2, bU2, reduceMul, reduceEqDiff, reduceAdd, Nat.reduceBEq, reduceIte, splice_succ, bunAP, gc, g2, g3, g4, g5, g7, g8, hc, rr, e4, e5, qk, yu_t, yu_f]
  refine (nxg (n := 3) hl hll hE (by omega) (by omega) hQ (by omega) (by omega)).mono ?_
  rintro r ⟨x, σ3, rfl, hx, Ex, Qx, Xx⟩
  have nx := Xx.n
  have rp : σ3.orow p = some _ := (Xx.orow (by omega) (by omega)).trans rp
  have rpr := row_of rp
  cases qx : decide ((x : Int) = 0) with
  | false =>
   simp (maxSteps := 1000000) (disch := first | exact dS | fail) only [↓bD2, bU2, reduceMul, reduceEqDiff, reduceAdd, Nat.reduceBEq, reduceIte, splice_succ, bunAP, gc, qx, yu_t, yu_f]
   exact ⟨fR, fR1 g2, fR1 g3, fR1 g4, fR1 g5, fR1 g7, fR1 g8, hX.trans (.xq Xx), Qx, u, L, rp, OL.keepX ho Xx (by omega), by omega, hP⟩
  | true =>
  have rnr : σ3.row nb = some [str [115, 112, 101, 101, 100], str [99, 111, 109, 102, 111, 114, 116], str [119, 101, 105, 103, 104, 116]] := by rw [Xx.row (by omega) (by omega)]; exact rnr
  simp (maxSteps := 1000000) (disch := first | exact dS | fail) only [↓bD2, bU2, reduceMul, reduceEqDiff, reduceAdd, Nat.reduceBEq, reduceIte, splice_succ, ap22, ap23, ap24, ap25, ap26, ap33, ap34, ap38, ap41, ap49, ap74, gc, g2, g3, g4, g5, g7, g8, qx, rpr, rnr, hnm, yu_t, yu_f]
  have ro3 : (σ3.new [str [60, 61], str [62, 61]]).orow p = some _ := (orow_new_ne (by omega)).trans rp
  have rp := ro3
  refine (nxg (n := 2) hl hll (Ex.trans (.new _ _)) (by omega) (by simp; omega) (Qx.ext (.new _ _) (by omega)) (by omega) (by omega)).mono ?_
  rintro r ⟨y, σ4, rfl, hy, Ey, Qy, Xy⟩
  have ny := Xy.n
  simp only [new_n] at ny
  have rp : σ4.orow p = some _ := (Xy.orow (by simp; omega) (by omega)).trans rp
  have rpr := row_of rp
  have rrel : σ4.row σ3.n = some [str [60, 61], str [62, 61]] := by rw [Xy.row (by simp) (by omega)]; exact cL
  obtain ⟨rl, hrl, hrl2⟩ : ∃ rl : By, sub [str [60, 61], str [62, 61]] y 1 = some [str rl] ∧ rl.length ≤ 2 := by
   rcases (by omega : y = 0 ∨ y = 1) with rfl | rfl <;> exact ⟨_, rfl, by decide⟩
  simp (maxSteps := 1000000) (disch := first | exact dS | fail) only [↓bD2, bU2, reduceMul, reduceEqDiff, reduceAdd, Nat.reduceBEq, reduceIte, splice_succ, ap22, ap23, ap24, ap25, ap26, ap33, ap34, ap38, ap41, ap49, ap74, gc, g2, g3, g4, g5, g7, g8, rrel, hrl]
  refine (nxg (n := 4) hl hll Ey (by omega) (by omega) Qy (by omega) (by omega)).mono ?_
  rintro r ⟨z, σ5, rfl, hz, Ez, Qz, Xz⟩
  have nz := Xz.n
  have rp : σ5.orow p = some _ := (Xz.orow (by omega) (by omega)).trans rp
  have rpr := row_of rp
  have rp' := rp
  have Q' := Qz
  have Xn : ExtX q σ3 (σ3.new [str [60, 61], str [62, 61]]) := .of (.new _ _)
  simp (maxSteps := 1000000) (disch := first | exact dS | fail) only [↓bD2, bU2, reduceMul, reduceEqDiff, reduceAdd, Nat.reduceBEq, reduceIte, splice_succ, ap22, ap23, ap24, ap25, ap26, ap33, ap34, ap38, ap41, ap49, ap74, gc, g2, g3, g4, g5, g7, g8, rpr]
  have hoN : OL τ10.n (σ5.new [str nm, str rl, .int .i64 (z : Int)]) 3 u (L.map Req.row) := OL.ext (OL.keepX (OL.keepX (OL.keepX (OL.keepX ho Xx (by omega)) Xn (by omega)) Xy (by omega)) Xz (by omega)) (.new _ _)
  have hXN : ExtM q p τ10 (σ5.new [str nm, str rl, .int .i64 (z : Int)]) := ((((hX.trans (.xq Xx)).trans (.xq Xn)).trans (.xq Xy)).trans (.xq Xz)).trans (.of (Ext.new' (.refl _) _))
  refine ev_append (row := Req.row ⟨nm, rl, (z : Int)⟩) (fun _ _ _ _ => ap35) hoN (row_new_same (Nat.le_refl _) (Nat.le_refl _)) (sub_full (by simp [Crit.row, Req.row, Lot.row]) (by simp)) (by rw [List.length_map]; omega) (by simp; omega) ?_
  rintro u' σ8 ho' hA -
  obtain ⟨ua, rfl⟩ := OL.shape ho'
  have r8 : σ8.orow p = some _ := (orow_congr (hA.same p (by simp; omega) bv)).trans ((orow_new_ne (by first | omega | (simp; omega))).trans rp')
  have qN : GQ q v l (σ5.new [str nm, str rl, .int .i64 (z : Int)]) := Q'.ext (.new _ _) (by first | omega | (simp; omega))
  simp (maxSteps := 1000000) (disch := first | exact dS | fail) only [↓bD2, bU2, reduceMul, reduceEqDiff, reduceAdd, Nat.reduceBEq, reduceIte, splice_succ, ap22, ap23, ap24, ap25, ap26, ap33, ap34, ap38, ap41, ap49, ap74, g2, g3, g4, g5, g7, g8, gc, r8, asx (Ext.refl _), as_newb, as_upd, as_extx Xy, as_extx Xz]
  try refine Must.intro (by (repeat first | simp (disch := omega) only [as_read, as_upd, as_newb, asx (Ext.refl _), as_extx Xy, as_extx Xz] | rw [as_ord (by kernel_rfl)]); rfl) ?_
  simp (maxSteps := 1000000) (disch := first | exact dS | fail) only [↓bD2, bU2, reduceMul, reduceEqDiff, reduceAdd, Nat.reduceBEq, reduceIte, splice_succ, ap22, ap23, ap24, ap25, ap26, ap33, ap34, ap38, ap41, ap49, ap74, g2, g3, g4, g5, g7, g8, gc]
  refine ⟨fR, fR1 g2, fR1 g3, fR1 g4, fR1 g5, fR1 g7, fR1 g8, (ExtM.app hA hXN hoN (Nat.le_refl _)).upd, (qN.app hA hoN (by first | omega | (simp; omega)) (by omega)).x (ExtX.refl.upd _) (by have := hA.n; simp at this; omega) (by omega), _, L ++ [⟨nm, rl, (z : Int)⟩], cL, ?_, by simp only [List.length_append, List.length_cons, List.length_nil]; omega, ?_⟩
  ·rw [List.map_append]
   exact OL.upd ho' (by omega)
  ·intro x hx
   rcases List.mem_append.1 hx with hx | hx
   ·exact hP x hx
   ·rw [List.mem_singleton] at hx; subst hx
    exact ⟨hgn, hrl2, by show (0 : Int) ≤ (z : Int); omega, by show (z : Int) ≤ 3; omega⟩
 ·clear g2 g3 g4 g5 g7 g8 fr
  rintro fr τ ⟨gc, g2, g3, g4, g5, g7, g8, hX, hQ, u, L, rp, ho, hL, hP⟩
  simp (maxSteps := 1000000) (disch := first | exact dS | fail) only [↓bD2, bU2, reduceMul, reduceEqDiff, reduceAdd, Nat.reduceBEq, reduceIte, splice_succ, bunAP, gc, g8]
  exact ⟨_, _, u, L, rfl, fR1 g2, fR1 g3, fR1 g4, fR1 g5, fR1 g7, fR1 g8, hX, hQ, rp, ho, hL, hP⟩
 rintro r ⟨fr, τ11, V3, L3, rfl, g2, g3, g4, g5, g7, g8, hX11, Q11, rp, ho3, hL3, hP3⟩
 have n11 := hX11.n
 have E11 : Ext σ τ11 := hX11.ext τ10E (by omega) (by omega)
 have z0 : τ11.orow σ.n = some [str [], .slice none 0 0, .slice none 0 0, .slice none 0 0, .int .i64 0, .int .i64 0, str [], .int .i64 0, .int .i64 0, str [], .slice none 0 0, .slice none 0 0, .int .i64 0, .slice none 0 0, .int .i64 0, .int .i64 0, .int .i64 0, .int .i64 0, .int .i64 0, .int .i64 0] := by rw [hX11.orow (by omega) (by omega) (by omega)]; exact z0
 have rn : τ11.orow nb = some [str [115, 112, 101, 101, 100], str [99, 111, 109, 102, 111, 114, 116], str [119, 101, 105, 103, 104, 116]] := by rw [hX11.orow (by omega) (by omega) (by omega)]; exact rn
 have ho1 := OL.keepM ho1 hX11 (by omega) (by omega)
 have ho2 := OL.keepM ho2 hX11 (by omega) (by omega)
 obtain ⟨H, hHd⟩ : ∃ H, (σ.n :: q :: p :: H0) = H := ⟨_, rfl⟩
 have hHm : ∀ c ∈ H, σ.n ≤ c ∨ c ∈ H0 := by
  intro c hc
  rw [← hHd] at hc
  simp only [List.mem_cons] at hc
  rcases hc with rfl | rfl | rfl | h <;> first | (left; omega) | exact .inr h
 have hHl : ∀ c ∈ H, c < p + 1 := fun c hc => by
  rw [← hHd] at hc
  simp only [List.mem_cons] at hc
  rcases hc with rfl | rfl | rfl | h <;> first | omega | (have := hH0 c h; omega)
 have hqH : q ∈ H := by rw [← hHd]; simp
 have hpH : p ∈ H := by rw [← hHd]; simp
 obtain ⟨T0, hT0⟩ : ∃ T : Tn, T = ⟨[], [], L2, [], lo, hi, numE 0 0, [], 0, [], 0, ⟨0, 0, 0, 0, 0⟩⟩ := ⟨_, rfl⟩
 have t0c : T0.crits = L2 := by rw [hT0]
 have hR : Rng T0 := by
  rw [hT0]
  exact ⟨by show 1 ≤ lo; omega, by show lo ≤ 3; omega, by show lo + 1 ≤ hi; omega, by show hi ≤ lo + 5; omega, fun c hc => by
   obtain ⟨a1, a2, a3, a4, a5, a6⟩ := hP2 c hc
   obtain ⟨b1, b2, b3, b4⟩ := gn_ok c.name a1
   exact ⟨b2, b3, b4, a3, a4, a5, a6⟩⟩
 have crt : ∀ τ, OL τ9.n τ 5 (.slice va2 f f) (L2.map Crit.row) → Crits (hide τ H) (.slice va2 f f) T0.crits := fun τ h => by
  rw [t0c]; exact (OL.hide h (fun c hc => by have := hHl c hc; omega)).sl
 have rr := row_of rp
 simp (maxSteps := 1000000) (disch := first | exact dS | fail) only [↓bD2, bU2, reduceMul, reduceEqDiff, reduceAdd, Nat.reduceBEq, reduceIte, splice_succ, bunAP, g2, g3, g4, g5, g7, g8, rr]
 refine (one_ok (T := T0) (vc := .slice va2 f f) H (fun c hc => by have := hHl c hc; omega) (mk_ms hl hll E11 hHm (by omega) Q11 hqH) rfl rfl (crt _ ho2) (by rw [t0c]; omega) hR).mono ?_
 rintro r ⟨row, e0, j0, τ12, rfl, hM12, X12, hx0, hf0, hj0, hi0⟩
 have n12 := X12.n
 obtain ⟨x1, x2, x3, x4, x5, rfl⟩ := five hx0.len
 have Q12 : GQ q v l τ12 := by obtain ⟨k, r1, r2, r3⟩ := hM12.mker; exact ⟨k, r3, r1⟩
 have E12 : Ext σ τ12 := X12.ext E11 (by omega)
 have rp : τ12.orow p = some ([str [116], V1, (.slice va2 f f), V3, .int .i64 lo, .int .i64 hi, str [], .int .i64 0, .int .i64 0, str [], .slice none 0 0, .slice none 0 0, .int .i64 mo, .slice none 0 0, .int .i64 bu, .int .i64 0, .int .i64 0, .int .i64 0, .int .i64 0, .int .i64 0]) := by rw [X12.orow (by omega) (by omega)]; exact rp
 have rn : τ12.orow nb = some [str [115, 112, 101, 101, 100], str [99, 111, 109, 102, 111, 114, 116], str [119, 101, 105, 103, 104, 116]] := by rw [X12.orow (by omega) (by omega)]; exact rn
 have z0 : τ12.orow σ.n = some [str [], .slice none 0 0, .slice none 0 0, .slice none 0 0, .int .i64 0, .int .i64 0, str [], .int .i64 0, .int .i64 0, str [], .slice none 0 0, .slice none 0 0, .int .i64 0, .slice none 0 0, .int .i64 0, .int .i64 0, .int .i64 0, .int .i64 0, .int .i64 0, .int .i64 0] := by rw [X12.orow (by omega) (by omega)]; exact z0
 have ho1 := OL.keepX ho1 X12 (by omega)
 have ho2 := OL.keepX ho2 X12 (by omega)
 have ho3 := OL.keepX ho3 X12 (by omega)
 simp (maxSteps := 1000000) (disch := first | exact dS | fail) only [↓bD2, bU2, reduceMul, reduceEqDiff, reduceAdd, Nat.reduceBEq, reduceIte, bunAP, gs2, gs31, gs32, gw1, gw2, gw3, gw5, gw6, gw11, gw13, gw15, gw16, gw17, gw18, gw19, rp, g2, g3, g4, g5, g7, g8]
 obtain ⟨S12, hS12⟩ : ∃ S, (τ12.upd p ([str [116], V1, (.slice va2 f f), V3, .int .i64 lo, .int .i64 hi, x1, x2, x3, x4, x5, .slice none 0 0, .int .i64 mo, .slice none 0 0, .int .i64 bu, .int .i64 0, .int .i64 0, .int .i64 0, .int .i64 0, .int .i64 0])) = S := ⟨_, rfl⟩
 try rw [hS12]
 have n12' : S12.n = τ12.n := by rw [← hS12]; rfl
 have E12 : Ext σ S12 := by rw [← hS12]; exact E12.upd (by omega) _
 have rp : S12.orow p = some ([str [116], V1, (.slice va2 f f), V3, .int .i64 lo, .int .i64 hi, x1, x2, x3, x4, x5, .slice none 0 0, .int .i64 mo, .slice none 0 0, .int .i64 bu, .int .i64 0, .int .i64 0, .int .i64 0, .int .i64 0, .int .i64 0]) := by rw [← hS12]; exact cL
 have rn : S12.orow nb = some [str [115, 112, 101, 101, 100], str [99, 111, 109, 102, 111, 114, 116], str [119, 101, 105, 103, 104, 116]] := by rw [← hS12, orow_upd_ne (by omega)]; exact rn
 have z0 : S12.orow σ.n = some [str [], .slice none 0 0, .slice none 0 0, .slice none 0 0, .int .i64 0, .int .i64 0, str [], .int .i64 0, .int .i64 0, str [], .slice none 0 0, .slice none 0 0, .int .i64 0, .slice none 0 0, .int .i64 0, .int .i64 0, .int .i64 0, .int .i64 0, .int .i64 0, .int .i64 0] := by rw [← hS12, orow_upd_ne (by omega)]; exact z0
 have Q12 : GQ q v l S12 := by rw [← hS12]; exact Q12.x (ExtX.refl.upd _) (by omega) (by omega)
 have ho1 : OL τ7.n S12 2 V1 (L1.map Lot.row) := by rw [← hS12]; exact OL.upd ho1 (by omega)
 have ho2 : OL τ9.n S12 5 (.slice va2 f f) (L2.map Crit.row) := by rw [← hS12]; exact OL.upd ho2 (by omega)
 have ho3 : OL τ10.n S12 3 V3 (L3.map Req.row) := by rw [← hS12]; exact OL.upd ho3 (by omega)
 have hx0 : ExAt (hide S12 H) [x1, x2, x3, x4, x5] e0 := by rw [← hS12]; exact hx0.keep ((ExtX.refl.upd _).keepH hpH)
 clear hS12
 refine (nxg (n := 4) hl hll E12 (by omega) (by omega) Q12 (by omega) (by omega)).mono ?_
 rintro r ⟨g, τ13, rfl, hg, Eg, Qg, Xg⟩
 have ng := Xg.n
 have z0 : τ13.orow σ.n = some ([str [], .slice none 0 0, .slice none 0 0, .slice none 0 0, .int .i64 0, .int .i64 0, str [], .int .i64 0, .int .i64 0, str [], .slice none 0 0, .slice none 0 0, .int .i64 0, .slice none 0 0, .int .i64 0, .int .i64 0, .int .i64 0, .int .i64 0, .int .i64 0, .int .i64 0]) := by rw [Xg.orow (by omega) (by omega)]; exact z0
 have rp : τ13.orow p = some ([str [116], V1, (.slice va2 f f), V3, .int .i64 lo, .int .i64 hi, x1, x2, x3, x4, x5, .slice none 0 0, .int .i64 mo, .slice none 0 0, .int .i64 bu, .int .i64 0, .int .i64 0, .int .i64 0, .int .i64 0, .int .i64 0]) := by rw [Xg.orow (by omega) (by omega)]; exact rp
 have rn : τ13.orow nb = some ([str [115, 112, 101, 101, 100], str [99, 111, 109, 102, 111, 114, 116], str [119, 101, 105, 103, 104, 116]]) := by rw [Xg.orow (by omega) (by omega)]; exact rn
 have ho1 := OL.keepX ho1 Xg (by omega)
 have ho2 := OL.keepX ho2 Xg (by omega)
 have ho3 := OL.keepX ho3 Xg (by omega)
 have hx0 := hx0.keep (Xg.keepH hqH)
 simp (maxSteps := 1000000) (disch := first | exact dS | fail) only [↓bD2, bU2, reduceMul, reduceEqDiff, reduceAdd, Nat.reduceBEq, reduceIte, bunAP, gs2, gs31, gs32, gw1, gw2, gw3, gw5, gw6, gw11, gw13, gw15, gw16, gw17, gw18, gw19]
 refine ev_count g (fun k fr τ => fr.get 13 = some (.int .i64 k) ∧ fr.get 2 = some (.pointer (some ⟨σ.n, 0, none⟩)) ∧ fr.get 3 = some (.pointer (some ⟨q, 0, none⟩)) ∧ fr.get 4 = some (.pointer (some ⟨p, 0, none⟩)) ∧ fr.get 5 = some (.int .i64 (nl : Nat)) ∧ fr.get 7 = some (.slice (some ⟨nb, 0, none⟩) 3 3) ∧ fr.get 8 = some (.int .i64 (f : Nat)) ∧ fr.get 12 = some (.int .i64 (g : Nat)) ∧ ExtM q p τ13 τ ∧ GQ q v l τ ∧ ∃ x1 x2 x3 x4 x5 e j, τ.orow p = some ([str [116], V1, (.slice va2 f f), V3, .int .i64 lo, .int .i64 hi, x1, x2, x3, x4, x5, .slice none 0 0, .int .i64 mo, .slice none 0 0, .int .i64 bu, .int .i64 0, .int .i64 0, .int .i64 0, .int .i64 0, .int .i64 0]) ∧ ExAt (hide τ H) [x1, x2, x3, x4, x5] e ∧ FOk j e ∧ j ≤ 5 * (k + 1) ∧ Iv T0 e (Bd (bdN k) (bdD k)))
  (fun r => ∃ fr τ, r = ⟨.exit 6, fr, τ⟩ ∧ fr.get 2 = some (.pointer (some ⟨σ.n, 0, none⟩)) ∧ fr.get 3 = some (.pointer (some ⟨q, 0, none⟩)) ∧ fr.get 4 = some (.pointer (some ⟨p, 0, none⟩)) ∧ fr.get 5 = some (.int .i64 (nl : Nat)) ∧ fr.get 7 = some (.slice (some ⟨nb, 0, none⟩) 3 3) ∧ fr.get 8 = some (.int .i64 (f : Nat)) ∧ fr.get 12 = some (.int .i64 (g : Nat)) ∧ ExtM q p τ13 τ ∧ GQ q v l τ ∧ ∃ x1 x2 x3 x4 x5 e j, τ.orow p = some ([str [116], V1, (.slice va2 f f), V3, .int .i64 lo, .int .i64 hi, x1, x2, x3, x4, x5, .slice none 0 0, .int .i64 mo, .slice none 0 0, .int .i64 bu, .int .i64 0, .int .i64 0, .int .i64 0, .int .i64 0, .int .i64 0]) ∧ ExAt (hide τ H) [x1, x2, x3, x4, x5] e ∧ FOk j e ∧ j ≤ 5 * (g + 1) ∧ Iv T0 e (Bd (bdN g) (bdD g))) ?_ ?_ ?_ ?_
 ·exact ⟨fR, fR1 g2, fR1 g3, fR1 g4, fR1 g5, fR1 g7, fR1 g8, fR, .refl, Qg, x1, x2, x3, x4, x5, e0, j0, rp, hx0, hf0, by omega, hi0⟩
 ·clear g2 g3 g4 g5 g7 g8 fr
  rintro k fr τ hk ⟨gc, g2, g3, g4, g5, g7, g8, g12, hX, hQ, x1, x2, x3, x4, x5, e, j, rp, hx, hf, hj, hi⟩
  have hc := lt_true hk
  have nX := hX.n
  have hE : Ext σ τ := hX.ext Eg (by omega) (by omega)
  have rr := row_of rp
  simp (maxSteps := 1000000) (disch := first | exact dS | fail) only [↓bD2, bU2, reduceMul, reduceEqDiff, reduceAdd, Nat.reduceBEq, reduceIte, bunAP, gs2, gs31, gs32, gw1, gw2, gw3, gw5, gw6, gw11, gw13, gw15, gw16, gw17, gw18, gw19, gc, g2, g3, g4, g5, g7, g8, g12, hc]
  have rp : (τ.new [str [43], str [43], str [45]]).orow p = some _ := (orow_new_ne (by omega)).trans rp
  refine (nxg (n := 3) hl hll (hE.trans (.new _ _)) (by omega) (by simp; omega) (hQ.ext (.new _ _) (by omega)) (by omega) (by omega)).mono ?_
  rintro r ⟨y, σ4, rfl, hy, Ey, Qy, Xy⟩
  have ny := Xy.n
  simp only [new_n] at ny
  have rp : σ4.orow p = some _ := (Xy.orow (by simp; omega) (by omega)).trans rp
  have rpr := row_of rp
  have ro : σ4.row τ.n = some [str [43], str [43], str [45]] := by rw [Xy.row (by simp) (by omega)]; exact cL
  obtain ⟨oo, hoo, ho⟩ := pm_at hy
  have hx := (hx.keep (keep_ext (Ext.new τ _))).keep (Xy.keepH hqH)
  have hM4 : ExtM q p τ13 σ4 := hX.trans ((ExtM.of (.new _ _)).trans (.xq Xy))
  have ho2' := OL.keepM ho2 hM4 (by omega) (by omega)
  simp (maxSteps := 1000000) (disch := first | exact dS | fail) only [↓bD2, bU2, reduceMul, reduceEqDiff, reduceAdd, Nat.reduceBEq, reduceIte, bunAP, gs2, gs31, gs32, gw1, gw2, gw3, gw5, gw6, gw11, gw13, gw15, gw16, gw17, gw18, gw19, gc, g2, g3, g4, g5, g7, g8, g12, ro, hoo, rpr]
  refine (one_ok (T := T0) (vc := .slice va2 f f) H (fun c hc => by have := hHl c hc; omega) (mk_ms hl hll Ey hHm (by omega) Qy hqH) rfl rfl (crt _ ho2') (by rw [t0c]; omega) hR).mono ?_
  rintro r ⟨row, e1, j1, σ5, rfl, hM5, X5, hx1, hf1, hj1, hi1⟩
  have n5 := X5.n
  have Q5 : GQ q v l σ5 := by obtain ⟨k, r1, r2, r3⟩ := hM5.mker; exact ⟨k, r3, r1⟩
  have hx := hx.keep (X5.keepH hqH)
  simp (maxSteps := 1000000) (disch := first | exact dS | fail) only [↓bD2, bU2, reduceMul, reduceEqDiff, reduceAdd, Nat.reduceBEq, reduceIte, bunAP, gs2, gs31, gs32, gw1, gw2, gw3, gw5, gw6, gw11, gw13, gw15, gw16, gw17, gw18, gw19, gc, g2, g3, g4, g5, g7, g8, g12]
  refine (mkop_ok (o := oo) H (fun c hc => by have := hHl c hc; omega) hx hx1).mono ?_
  rintro r ⟨row2, σ6, rfl, E6, hx2⟩
  have n6 := E6.n
  obtain ⟨y1, y2, y3, y4, y5, rfl⟩ := five hx2.len
  have rp : σ6.orow p = some _ := (E6.orow (by omega)).trans ((X5.orow (by omega) (by omega)).trans rp)
  have ol : oo ≠ numO ∧ oo ≠ nameO ∧ oo.length ≤ 4 := by rcases ho with rfl | rfl <;> decide
  simp (maxSteps := 1000000) (disch := first | exact dS | fail) only [↓bD2, bU2, reduceMul, reduceEqDiff, reduceAdd, Nat.reduceBEq, reduceIte, bunAP, gs2, gs31, gs32, gw1, gw2, gw3, gw5, gw6, gw11, gw13, gw15, gw16, gw17, gw18, gw19, gc, g2, g3, g4, g5, g7, g8, g12, rp, asx E6, as_upd]
  try refine Must.intro (by (repeat first | simp (disch := omega) only [as_read, as_upd, as_newb, asx E6, as_extx X5, as_extx Xy] | rw [as_ord (by kernel_rfl)]); rfl) ?_
  simp (maxSteps := 1000000) (disch := first | exact dS | fail) only [↓bD2, bU2, reduceMul, reduceEqDiff, reduceAdd, Nat.reduceBEq, reduceIte, bunAP, gs2, gs31, gs32, gw1, gw2, gw3, gw5, gw6, gw11, gw13, gw15, gw16, gw17, gw18, gw19, gc, g2, g3, g4, g5, g7, g8, g12]
  refine ⟨fR, fR1 g2, fR1 g3, fR1 g4, fR1 g5, fR1 g7, fR1 g8, fR1 g12, (hM4.trans ((ExtM.xq X5).trans (.of E6))).upd, (Q5.ext E6 (by omega)).x (ExtX.refl.upd _) (by omega) (by omega), y1, y2, y3, y4, y5, opE oo e e1, j + j1, cL, hx2.keep ((ExtX.refl.upd _).keepH hpH), fok_op ol.1 ol.2.1 ol.2.2 hf hf1, by omega, iv_sum (by omega) hi hi1 ho⟩
 ·clear g2 g3 g4 g5 g7 g8 fr
  rintro fr τ ⟨gc, g2, g3, g4, g5, g7, g8, g12, hX, hQ, hh⟩
  simp (maxSteps := 1000000) (disch := first | exact dS | fail) only [↓bD2, bU2, reduceMul, reduceEqDiff, reduceAdd, Nat.reduceBEq, reduceIte, bunAP, gs2, gs31, gs32, gw1, gw2, gw3, gw5, gw6, gw11, gw13, gw15, gw16, gw17, gw18, gw19, gc, g12]
  exact ⟨_, _, rfl, fR1 g2, fR1 g3, fR1 g4, fR1 g5, fR1 g7, fR1 g8, fR1 g12, hX, hQ, hh⟩
 clear g2 g3 g4 g5 g7 g8 fr
 rintro r ⟨fr, τ14, rfl, g2, g3, g4, g5, g7, g8, g12, hX14, Q14, x1, x2, x3, x4, x5, e, j, rp, hx, hf, hj, hiv⟩
 have n14 := hX14.n
 have E14 : Ext σ τ14 := hX14.ext Eg (by omega) (by omega)
 have z0 : τ14.orow σ.n = some [str [], .slice none 0 0, .slice none 0 0, .slice none 0 0, .int .i64 0, .int .i64 0, str [], .int .i64 0, .int .i64 0, str [], .slice none 0 0, .slice none 0 0, .int .i64 0, .slice none 0 0, .int .i64 0, .int .i64 0, .int .i64 0, .int .i64 0, .int .i64 0, .int .i64 0] := by rw [hX14.orow (by omega) (by omega) (by omega)]; exact z0
 have rn : τ14.orow nb = some [str [115, 112, 101, 101, 100], str [99, 111, 109, 102, 111, 114, 116], str [119, 101, 105, 103, 104, 116]] := by rw [hX14.orow (by omega) (by omega) (by omega)]; exact rn
 have ho1 := OL.keepM ho1 hX14 (by omega) (by omega)
 have ho2 := OL.keepM ho2 hX14 (by omega) (by omega)
 have ho3 := OL.keepM ho3 hX14 (by omega) (by omega)
 refine Ev.mono (R := fun r => r = ⟨.normal, fr, τ14⟩) (v := ⟨⟩) (by simp (maxSteps := 1000000) (disch := first | exact dS | fail) only [↓bD2, bU2, reduceMul, reduceEqDiff, reduceAdd, Nat.reduceBEq, reduceIte, bunAP, gs2, gs31, gs32, gw1, gw2, gw3, gw5, gw6, gw11, gw13, gw15, gw16, gw17, gw18, gw19]) ?_
 rintro r rfl
 simp only [en_normal]
 refine ev_cut (fun fr τ => fr.get 2 = some (.pointer (some ⟨σ.n, 0, none⟩)) ∧ fr.get 3 = some (.pointer (some ⟨q, 0, none⟩)) ∧ fr.get 4 = some (.pointer (some ⟨p, 0, none⟩)) ∧ fr.get 5 = some (.int .i64 (nl : Nat)) ∧ fr.get 7 = some (.slice (some ⟨nb, 0, none⟩) 3 3) ∧ fr.get 8 = some (.int .i64 (f : Nat)) ∧ ExtM q p τ14 τ ∧ GQ q v l τ ∧ ∃ (u : Value) (L : List By), τ.orow p = some ([str [116], V1, (.slice va2 f f), V3, .int .i64 lo, .int .i64 hi, x1, x2, x3, x4, x5, u, .int .i64 mo, .slice none 0 0, .int .i64 bu, .int .i64 0, .int .i64 0, .int .i64 0, .int .i64 0, .int .i64 0]) ∧ OL τ14.n τ 1 u (L.map tRow) ∧ L.length ≤ 1 ∧ ∀ x ∈ L, x ∈ names) ?_ ?_
 ·simp (maxSteps := 1000000) (disch := first | exact dS | fail) only [↓bD2, bU2, reduceMul, reduceEqDiff, reduceAdd, Nat.reduceBEq, reduceIte, bunAP, gs2, gs31, gs32, gw1, gw2, gw3, gw5, gw6, gw11, gw13, gw15, gw16, gw17, gw18, gw19, g2, g3, g4, g5, g7, g8]
  obtain ⟨u, hu⟩ : ∃ u : Value, .slice none 0 0 = u := ⟨_, rfl⟩
  have hX : ExtM q p τ14 τ14 := .refl
  have ho : OL τ14.n τ14 1 u (([] : List By).map tRow) := by rw [← hu]; exact OL.nil
  refine (nxg (n := 3) hl hll E14 (by omega) (by omega) Q14 (by omega) (by omega)).mono ?_
  rintro r ⟨x, σ3, rfl, hx, Ex, Qx, Xx⟩
  have nx := Xx.n
  have rp : σ3.orow p = some _ := (Xx.orow (by omega) (by omega)).trans rp
  have rpr := row_of rp
  cases qx : decide (0 < (x : Int)) with
  | false =>
   simp (maxSteps := 1000000) (disch := first | exact dS | fail) only [↓bD2, bU2, reduceMul, reduceEqDiff, reduceAdd, Nat.reduceBEq, reduceIte, bunAP, gs2, gs31, gs32, gw1, gw2, gw3, gw5, gw6, gw11, gw13, gw15, gw16, gw17, gw18, gw19, qx]
   exact ⟨_, _, rfl, fR1 g2, fR1 g3, fR1 g4, fR1 g5, fR1 g7, fR1 g8, .xq Xx, Qx, .slice none 0 0, [], rp, OL.nil, by simp, fun x hx => by cases hx⟩
  | true =>
  simp (maxSteps := 1000000) (disch := first | exact dS | fail) only [↓bD2, bU2, reduceMul, reduceEqDiff, reduceAdd, Nat.reduceBEq, reduceIte, ap22, ap23, ap24, ap25, ap26, ap33, ap34, ap35, ap38, ap49, ap74, gs2, gs31, gs32, gw1, gw2, gw3, gw5, gw6, gw11, gw13, gw15, gw16, gw17, gw18, gw19, g2, g3, g4, g5, g7, g8, qx, rpr]
  have rp' := rp
  have Q' := Qx
  obtain ⟨L, hL⟩ : ∃ L : List By, L = [] := ⟨_, rfl⟩
  have hP : ∀ x ∈ L, x ∈ names := by rw [hL]; intro x hx; cases hx
  rw [show (([] : List By).map tRow) = L.map tRow by rw [hL]] at ho
  have hL0 : L.length = 0 := by rw [hL]; rfl
  rw [hu] at rp' ⊢
  have hoN : OL τ14.n (σ3.new [str [112, 114, 105, 99, 101]]) 1 u (L.map tRow) := OL.ext (OL.keepX ho Xx (by omega)) (.new _ _)
  have hXN : ExtM q p τ14 (σ3.new [str [112, 114, 105, 99, 101]]) := (hX.trans (.xq Xx)).trans (.of (.new _ _))
  refine ev_append (row := tRow [112, 114, 105, 99, 101]) (fun _ _ _ _ => ap41) hoN (row_new_same (Nat.le_refl _) (Nat.le_refl _)) (sub_full (by simp [tRow]) (by simp)) (by rw [List.length_map]; omega) (by simp; omega) ?_
  rintro u' σ8 ho' hA -
  obtain ⟨ua, rfl⟩ := OL.shape ho'
  have bv : blkOf u ≠ some p := fun hb => by have := (ho.blk hb).1; omega
  have r8 : σ8.orow p = some _ := (orow_congr (hA.same p (by simp; omega) bv)).trans ((orow_new_ne (by first | omega | (simp; omega))).trans rp')
  have qN : GQ q v l (σ3.new [str [112, 114, 105, 99, 101]]) := Q'.ext (.new _ _) (by first | omega | (simp; omega))
  simp (maxSteps := 1000000) (disch := first | exact dS | fail) only [↓bD2, bU2, reduceMul, reduceEqDiff, reduceAdd, Nat.reduceBEq, reduceIte, ap22, ap23, ap24, ap25, ap26, ap33, ap34, ap35, ap38, ap49, ap74, gs2, gs31, gs32, gw1, gw2, gw3, gw5, gw6, gw11, gw13, gw15, gw16, gw17, gw18, gw19, g2, g3, g4, g5, g7, g8, r8]
  skip
  skip
  refine ⟨_, _, rfl, fR1 g2, fR1 g3, fR1 g4, fR1 g5, fR1 g7, fR1 g8, (ExtM.app hA hXN hoN (Nat.le_refl _)).upd, (qN.app hA hoN (by first | omega | (simp; omega)) (by omega)).x (ExtX.refl.upd _) (by have := hA.n; simp at this; omega) (by omega), _, L ++ [[112, 114, 105, 99, 101]], cL, ?_, by simp only [List.length_append, List.length_cons, List.length_nil]; omega, ?_⟩
  ·rw [List.map_append]
   exact OL.upd ho' (by omega)
  ·intro x hx
   rcases List.mem_append.1 hx with hx | hx
   ·exact hP x hx
   ·rw [List.mem_singleton] at hx; subst hx
    exact (by decide)
 clear g2 g3 g4 g5 g7 g8 g12 fr rp
 rintro fr τ ⟨g2, g3, g4, g5, g7, g8, hXa, hQa, ua, La, rpa, hoa, hLa, hPa⟩
 simp (maxSteps := 1000000) (disch := first | exact dS | fail) only [↓bD2, bU2, reduceMul, reduceEqDiff, reduceAdd, Nat.reduceBEq, reduceIte, bunAP, gs2, gs31, gs32, gw1, gw2, gw3, gw5, gw6, gw11, gw13, gw15, gw16, gw17, gw18, gw19]
 refine ev_count f (fun k fr τ => fr.get 14 = some (.int .i64 k) ∧ fr.get 2 = some (.pointer (some ⟨σ.n, 0, none⟩)) ∧ fr.get 3 = some (.pointer (some ⟨q, 0, none⟩)) ∧ fr.get 4 = some (.pointer (some ⟨p, 0, none⟩)) ∧ fr.get 5 = some (.int .i64 (nl : Nat)) ∧ fr.get 7 = some (.slice (some ⟨nb, 0, none⟩) 3 3) ∧ fr.get 8 = some (.int .i64 (f : Nat)) ∧ ExtM q p τ14 τ ∧ GQ q v l τ ∧ ∃ (u : Value) (L : List By), τ.orow p = some ([str [116], V1, (.slice va2 f f), V3, .int .i64 lo, .int .i64 hi, x1, x2, x3, x4, x5, u, .int .i64 mo, .slice none 0 0, .int .i64 bu, .int .i64 0, .int .i64 0, .int .i64 0, .int .i64 0, .int .i64 0]) ∧ OL τ14.n τ 1 u (L.map tRow) ∧ L.length ≤ k + 1 ∧ ∀ x ∈ L, x ∈ names)
  (fun r => ∃ fr τ, r = ⟨.exit 8, fr, τ⟩ ∧ fr.get 2 = some (.pointer (some ⟨σ.n, 0, none⟩)) ∧ fr.get 3 = some (.pointer (some ⟨q, 0, none⟩)) ∧ fr.get 4 = some (.pointer (some ⟨p, 0, none⟩)) ∧ fr.get 5 = some (.int .i64 (nl : Nat)) ∧ fr.get 7 = some (.slice (some ⟨nb, 0, none⟩) 3 3) ∧ fr.get 8 = some (.int .i64 (f : Nat)) ∧ ExtM q p τ14 τ ∧ GQ q v l τ ∧ ∃ (u : Value) (L : List By), τ.orow p = some ([str [116], V1, (.slice va2 f f), V3, .int .i64 lo, .int .i64 hi, x1, x2, x3, x4, x5, u, .int .i64 mo, .slice none 0 0, .int .i64 bu, .int .i64 0, .int .i64 0, .int .i64 0, .int .i64 0, .int .i64 0]) ∧ OL τ14.n τ 1 u (L.map tRow) ∧ L.length ≤ f + 1 ∧ ∀ x ∈ L, x ∈ names) ?_ ?_ ?_ ?_
 ·exact ⟨fR, fR1 g2, fR1 g3, fR1 g4, fR1 g5, fR1 g7, fR1 g8, hXa, hQa, ua, La, rpa, hoa, hLa, hPa⟩
 ·clear g2 g3 g4 g5 g7 g8 fr hXa hQa rpa hoa hLa hPa ua La τ
  rintro k fr τ hk ⟨gc, g2, g3, g4, g5, g7, g8, hX, hQ, u, L, rp, ho, hL, hP⟩
  have hc := lt_true hk
  have nX := hX.n
  have hE : Ext σ τ := hX.ext E14 (by omega) (by omega)
  have rnr : τ.row nb = some [str [115, 112, 101, 101, 100], str [99, 111, 109, 102, 111, 114, 116], str [119, 101, 105, 103, 104, 116]] := row_of (by rw [hX.orow (by omega) (by omega) (by omega)]; exact rn)
  obtain ⟨nm, hnm, hgn⟩ := gn_at (show k < 3 by omega)
  simp (maxSteps := 1000000) (disch := first | exact dS | fail) only [↓bD2, bU2, reduceMul, reduceEqDiff, reduceAdd, Nat.reduceBEq, reduceIte, bunAP, gs2, gs31, gs32, gw1, gw2, gw3, gw5, gw6, gw11, gw13, gw15, gw16, gw17, gw18, gw19, gc, g2, g3, g4, g5, g7, g8, hc]
  refine (nxg (n := 3) hl hll hE (by omega) (by omega) hQ (by omega) (by omega)).mono ?_
  rintro r ⟨x, σ3, rfl, hx, Ex, Qx, Xx⟩
  have nx := Xx.n
  have rp : σ3.orow p = some _ := (Xx.orow (by omega) (by omega)).trans rp
  have rpr := row_of rp
  cases qx : decide (0 < (x : Int)) with
  | false =>
   simp (maxSteps := 1000000) (disch := first | exact dS | fail) only [↓bD2, bU2, reduceMul, reduceEqDiff, reduceAdd, Nat.reduceBEq, reduceIte, bunAP, gs2, gs31, gs32, gw1, gw2, gw3, gw5, gw6, gw11, gw13, gw15, gw16, gw17, gw18, gw19, gc, qx]
   exact ⟨fR, fR1 g2, fR1 g3, fR1 g4, fR1 g5, fR1 g7, fR1 g8, hX.trans (.xq Xx), Qx, u, L, rp, OL.keepX ho Xx (by omega), by omega, hP⟩
  | true =>
  have rnr : σ3.row nb = some [str [115, 112, 101, 101, 100], str [99, 111, 109, 102, 111, 114, 116], str [119, 101, 105, 103, 104, 116]] := by rw [Xx.row (by omega) (by omega)]; exact rnr
  simp (maxSteps := 1000000) (disch := first | exact dS | fail) only [↓bD2, bU2, reduceMul, reduceEqDiff, reduceAdd, Nat.reduceBEq, reduceIte, ap22, ap23, ap24, ap25, ap26, ap33, ap34, ap35, ap38, ap49, ap74, gs2, gs31, gs32, gw1, gw2, gw3, gw5, gw6, gw11, gw13, gw15, gw16, gw17, gw18, gw19, gc, g2, g3, g4, g5, g7, g8, qx, rpr, rnr, hnm]
  have rp' := rp
  have Q' := Qx
  have hoN : OL τ14.n (σ3.new [str nm]) 1 u (L.map tRow) := OL.ext (OL.keepX ho Xx (by omega)) (.new _ _)
  have hXN : ExtM q p τ14 (σ3.new [str nm]) := (hX.trans (.xq Xx)).trans (.of (.new _ _))
  refine ev_append (row := tRow nm) (fun _ _ _ _ => ap41) hoN (row_new_same (Nat.le_refl _) (Nat.le_refl _)) (sub_full (by simp [tRow]) (by simp)) (by rw [List.length_map]; omega) (by simp; omega) ?_
  rintro u' σ8 ho' hA -
  obtain ⟨ua, rfl⟩ := OL.shape ho'
  have bv : blkOf u ≠ some p := fun hb => by have := (ho.blk hb).1; omega
  have r8 : σ8.orow p = some _ := (orow_congr (hA.same p (by simp; omega) bv)).trans ((orow_new_ne (by first | omega | (simp; omega))).trans rp')
  have qN : GQ q v l (σ3.new [str nm]) := Q'.ext (.new _ _) (by first | omega | (simp; omega))
  simp (maxSteps := 1000000) (disch := first | exact dS | fail) only [↓bD2, bU2, reduceMul, reduceEqDiff, reduceAdd, Nat.reduceBEq, reduceIte, ap22, ap23, ap24, ap25, ap26, ap33, ap34, ap35, ap38, ap49, ap74, gs2, gs31, gs32, gw1, gw2, gw3, gw5, gw6, gw11, gw13, gw15, gw16, gw17, gw18, gw19, g2, g3, g4, g5, g7, g8, gc, r8, asx (Ext.refl _), as_newb, as_upd]
  try refine Must.intro (by (repeat first | simp (disch := omega) only [as_read, as_upd, as_newb, asx (Ext.refl _)] | rw [as_ord (by kernel_rfl)]); rfl) ?_
  try simp (maxSteps := 1000000) (disch := first | exact dS | fail) only [↓bD2, bU2, reduceMul, reduceEqDiff, reduceAdd, Nat.reduceBEq, reduceIte, ap22, ap23, ap24, ap25, ap26, ap33, ap34, ap35, ap38, ap49, ap74, gs2, gs31, gs32, gw1, gw2, gw3, gw5, gw6, gw11, gw13, gw15, gw16, gw17, gw18, gw19, g2, g3, g4, g5, g7, g8, gc]
  refine ⟨fR, fR1 g2, fR1 g3, fR1 g4, fR1 g5, fR1 g7, fR1 g8, (ExtM.app hA hXN hoN (Nat.le_refl _)).upd, (qN.app hA hoN (by first | omega | (simp; omega)) (by omega)).x (ExtX.refl.upd _) (by have := hA.n; simp at this; omega) (by omega), _, L ++ [nm], cL, ?_, by simp only [List.length_append, List.length_cons, List.length_nil]; omega, ?_⟩
  ·rw [List.map_append]
   exact OL.upd ho' (by omega)
  ·intro x hx
   rcases List.mem_append.1 hx with hx | hx
   ·exact hP x hx
   ·rw [List.mem_singleton] at hx; subst hx
    exact (gn_ok _ hgn).1
 ·clear g2 g3 g4 g5 g7 g8 fr hXa hQa rpa hoa hLa hPa ua La τ
  rintro fr τ ⟨gc, g2, g3, g4, g5, g7, g8, hX, hQ, hh⟩
  simp (maxSteps := 1000000) (disch := first | exact dS | fail) only [↓bD2, bU2, reduceMul, reduceEqDiff, reduceAdd, Nat.reduceBEq, reduceIte, bunAP, gs2, gs31, gs32, gw1, gw2, gw3, gw5, gw6, gw11, gw13, gw15, gw16, gw17, gw18, gw19, gc, g8]
  exact ⟨_, _, rfl, fR1 g2, fR1 g3, fR1 g4, fR1 g5, fR1 g7, fR1 g8, hX, hQ, hh⟩
 clear g2 g3 g4 g5 g7 g8 fr hXa hQa rpa hoa hLa hPa ua La τ
 rintro r ⟨fr, τ15, rfl, g2, g3, g4, g5, g7, g8, hX15, Q15, V4, L4, rp, ho4, hL4, hP4⟩
 have n15 := hX15.n
 have E15 : Ext σ τ15 := hX15.ext E14 (by omega) (by omega)
 have z0 : τ15.orow σ.n = some [str [], .slice none 0 0, .slice none 0 0, .slice none 0 0, .int .i64 0, .int .i64 0, str [], .int .i64 0, .int .i64 0, str [], .slice none 0 0, .slice none 0 0, .int .i64 0, .slice none 0 0, .int .i64 0, .int .i64 0, .int .i64 0, .int .i64 0, .int .i64 0, .int .i64 0] := by rw [hX15.orow (by omega) (by omega) (by omega)]; exact z0
 have rn : τ15.orow nb = some [str [115, 112, 101, 101, 100], str [99, 111, 109, 102, 111, 114, 116], str [119, 101, 105, 103, 104, 116]] := by rw [hX15.orow (by omega) (by omega) (by omega)]; exact rn
 have ho1 := OL.keepM ho1 hX15 (by omega) (by omega)
 have ho2 := OL.keepM ho2 hX15 (by omega) (by omega)
 have ho3 := OL.keepM ho3 hX15 (by omega) (by omega)
 have hx := hx.keep (show Keep (hide τ14 H) (hide τ15 H) from keep_hide n15 fun c hc hm => ⟨hm, hX15.row hc (fun h => hm (h ▸ hqH)) (fun h => hm (h ▸ hpH))⟩)
 refine Ev.mono (R := fun r => r = ⟨.normal, fr, τ15⟩) (v := ⟨⟩) (by simp (maxSteps := 1000000) (disch := first | exact dS | fail) only [↓bD2, bU2, reduceMul, reduceEqDiff, reduceAdd, Nat.reduceBEq, reduceIte, bunAP, gs2, gs31, gs32, gw1, gw2, gw3, gw5, gw6, gw11, gw13, gw15, gw16, gw17, gw18, gw19]) ?_
 rintro r rfl
 simp only [en_normal]
 refine ev_cut (fun fr τ => fr.get 2 = some (.pointer (some ⟨σ.n, 0, none⟩)) ∧ fr.get 3 = some (.pointer (some ⟨q, 0, none⟩)) ∧ fr.get 4 = some (.pointer (some ⟨p, 0, none⟩)) ∧ fr.get 5 = some (.int .i64 (nl : Nat)) ∧ fr.get 7 = some (.slice (some ⟨nb, 0, none⟩) 3 3) ∧ fr.get 8 = some (.int .i64 (f : Nat)) ∧ ExtM q p τ15 τ ∧ GQ q v l τ ∧ ∃ (u : Value) (ws : List Value) (L : List (List Int)), τ.orow p = some ([str [116], V1, (.slice va2 f f), V3, .int .i64 lo, .int .i64 hi, x1, x2, x3, x4, x5, V4, .int .i64 mo, u, .int .i64 bu, .int .i64 0, .int .i64 0, .int .i64 0, .int .i64 0, .int .i64 0]) ∧ SLs (hide τ H) 1 u (ws.map fun x => [x]) ∧ All2 (Ints (hide τ H)) ws L ∧ L.length ≤ 1 ∧ ∀ c ∈ L, c = [1, 2]) ?_ ?_
 ·by_cases q1 : 1 < nl
  case neg =>
   have d1 : decide (1 < (nl : Int)) = false := decide_eq_false (by omega)
   simp (maxSteps := 1000000) (disch := first | exact dS | fail) only [↓bD2, bU2, reduceMul, reduceEqDiff, reduceAdd, Nat.reduceBEq, reduceIte, bunAP, gs2, gs31, gs32, gw1, gw2, gw3, gw5, gw6, gw11, gw13, gw15, gw16, gw17, gw18, gw19, g2, g3, g4, g5, g7, g8, d1, yu_t, yu_f]
   exact ⟨_, _, rfl, fR1 g2, fR1 g3, fR1 g4, fR1 g5, fR1 g7, fR1 g8, .refl, Q15, .slice none 0 0, [], [], rp, .nil, trivial, by simp, fun c hc => by cases hc⟩
  have d1 : decide (1 < (nl : Int)) = true := decide_eq_true (by omega)
  simp (maxSteps := 1000000) (disch := first | exact dS | fail) only [↓bD2, bU2, reduceMul, reduceEqDiff, reduceAdd, Nat.reduceBEq, reduceIte, bunAP, gs2, gs31, gs32, gw1, gw2, gw3, gw5, gw6, gw11, gw13, gw15, gw16, gw17, gw18, gw19, g2, g3, g4, g5, g7, g8, d1, yu_t, yu_f]
  refine (nxg (n := 2) hl hll E15 (by omega) (by omega) Q15 (by omega) (by omega)).mono ?_
  rintro r ⟨x, σ3, rfl, hx, Ex, Qx, Xx⟩
  have nx := Xx.n
  have rp : σ3.orow p = some _ := (Xx.orow (by omega) (by omega)).trans rp
  have rpr := row_of rp
  cases qx : decide ((x : Int) = 1) with
  | false =>
   simp (maxSteps := 1000000) (disch := first | exact dS | fail) only [↓bD2, bU2, reduceMul, reduceEqDiff, reduceAdd, Nat.reduceBEq, reduceIte, bunAP, gs2, gs31, gs32, gw1, gw2, gw3, gw5, gw6, gw11, gw13, gw15, gw16, gw17, gw18, gw19, g2, g3, g4, g5, g7, g8, d1, qx, yu_t, yu_f]
   exact ⟨_, _, rfl, fR1 g2, fR1 g3, fR1 g4, fR1 g5, fR1 g7, fR1 g8, .xq Xx, Qx, .slice none 0 0, [], [], rp, .nil, trivial, by simp, fun c hc => by cases hc⟩
  | true =>
  have r8 : ((σ3.new [.int .i64 1, .int .i64 2]).new [.slice (some ⟨σ3.n, 0, none⟩) 2 2]).orow p = some _ := (orow_new_ne (by simp only [new_n]; omega)).trans ((orow_new_ne (by omega)).trans rp)
  simp (maxSteps := 1000000) (disch := first | exact dS | fail) only [↓bD2, bU2, reduceMul, reduceEqDiff, reduceAdd, Nat.reduceBEq, reduceIte, bunAP, gs2, gs31, gs32, gw1, gw2, gw3, gw5, gw6, gw11, gw13, gw15, gw16, gw17, gw18, gw19, g2, g3, g4, g5, g7, g8, d1, qx, r8, yu_t, yu_f]
  obtain ⟨S, hS⟩ : ∃ S, (((σ3.new [.int .i64 1, .int .i64 2]).new [.slice (some ⟨σ3.n, 0, none⟩) 2 2]).upd p ([str [116], V1, (.slice va2 f f), V3, .int .i64 lo, .int .i64 hi, x1, x2, x3, x4, x5, V4, .int .i64 mo, (.slice (some ⟨σ3.n + 1, 0, none⟩) 1 1), .int .i64 bu, .int .i64 0, .int .i64 0, .int .i64 0, .int .i64 0, .int .i64 0])) = S := ⟨_, rfl⟩
  have nS : S.n = σ3.n + 2 := by rw [← hS]; rfl
  have m1 : S.row σ3.n = some [.int .i64 1, .int .i64 2] := by rw [← hS, row_upd_ne (by omega), row_new_ne (by simp only [new_n]; omega)]; first | done | exact row_new_same (Nat.le_refl _) (Nat.le_refl _)
  have m2 : S.row (σ3.n + 1) = some [.slice (some ⟨σ3.n, 0, none⟩) 2 2] := by rw [← hS, row_upd_ne (by omega)]; first | done | exact row_new_same (Nat.le_refl _) (Nat.le_refl _)
  have h1 : (hide S H).row σ3.n = some [.int .i64 1, .int .i64 2] := by rw [hide_row fun h => by have := hHl _ h; omega]; exact m1
  have h2 : (hide S H).row (σ3.n + 1) = some [.slice (some ⟨σ3.n, 0, none⟩) 2 2] := by rw [hide_row fun h => by have := hHl _ h; omega]; exact m2
  refine ⟨_, S, by rw [hS], fR1 g2, fR1 g3, fR1 g4, fR1 g5, fR1 g7, fR1 g8, ?_, ?_, .slice (some ⟨σ3.n + 1, 0, none⟩) 1 1, [.slice (some ⟨σ3.n, 0, none⟩) 2 2], [[1, 2]], by rw [← hS]; exact orow_upd_same, ⟨by simp, .inr ⟨σ3.n + 1, 0, none, 1, _, rfl, by rw [hide_n]; omega, h2, rfl⟩⟩, ⟨sl_of (by simp) (by rw [hide_n]; omega) h1 rfl rfl, trivial⟩, by simp, by simp⟩
  ·rw [← hS]; exact ((ExtM.xq Xx).trans (.of (Ext.new' (.new _ _) _))).upd
  ·rw [← hS]; exact ((Qx.ext (.new _ _) (by omega)).ext (.new _ _) (by simp; omega)).x (ExtX.refl.upd _) (by simp; omega) (by omega)
 clear g2 g3 g4 g5 g7 g8 fr rp
 rintro fr τ16 ⟨g2, g3, g4, g5, g7, g8, hX16, Q16, V5, ws, L5, rp, hk5, hks, hL5, hP5⟩
 have n16 := hX16.n
 have E16 : Ext σ τ16 := hX16.ext E15 (by omega) (by omega)
 have z0 : τ16.orow σ.n = some [str [], .slice none 0 0, .slice none 0 0, .slice none 0 0, .int .i64 0, .int .i64 0, str [], .int .i64 0, .int .i64 0, str [], .slice none 0 0, .slice none 0 0, .int .i64 0, .slice none 0 0, .int .i64 0, .int .i64 0, .int .i64 0, .int .i64 0, .int .i64 0, .int .i64 0] := by rw [hX16.orow (by omega) (by omega) (by omega)]; exact z0
 have rn : τ16.orow nb = some [str [115, 112, 101, 101, 100], str [99, 111, 109, 102, 111, 114, 116], str [119, 101, 105, 103, 104, 116]] := by rw [hX16.orow (by omega) (by omega) (by omega)]; exact rn
 have ho1 := OL.keepM ho1 hX16 (by omega) (by omega)
 have ho2 := OL.keepM ho2 hX16 (by omega) (by omega)
 have ho3 := OL.keepM ho3 hX16 (by omega) (by omega)
 have ho4 := OL.keepM ho4 hX16 (by omega) (by omega)
 have hx := hx.keep (show Keep (hide τ15 H) (hide τ16 H) from keep_hide n16 fun c hc hm => ⟨hm, hX16.row hc (fun h => hm (h ▸ hqH)) (fun h => hm (h ▸ hpH))⟩)
 obtain ⟨RS, hRS⟩ : ∃ RS : St → Prop, RS = fun τ => OL τ7.n τ 2 V1 (L1.map Lot.row) ∧ OL τ9.n τ 5 (.slice va2 f f) (L2.map Crit.row) ∧ OL τ10.n τ 3 V3 (L3.map Req.row) ∧ OL τ14.n τ 1 V4 (L4.map tRow) ∧ ExAt (hide τ H) [x1, x2, x3, x4, x5] e ∧ SLs (hide τ H) 1 V5 (ws.map fun x => [x]) ∧ All2 (Ints (hide τ H)) ws L5 := ⟨_, rfl⟩
 have rs : RS τ16 := by rw [hRS]; exact ⟨ho1, ho2, ho3, ho4, hx, hk5, hks⟩
 have RSk : ∀ τ τ', τ16.n ≤ τ.n → ExtM q p τ τ' → RS τ → RS τ' := by
  intro τ τ' hn hX h
  rw [hRS] at h ⊢
  obtain ⟨h1, h2, h3, h4, h5, h6, h7⟩ := h
  have hk : Keep (hide τ H) (hide τ' H) := keep_hide hX.n fun c hc hm => ⟨hm, hX.row hc (fun h => hm (h ▸ hqH)) (fun h => hm (h ▸ hpH))⟩
  exact ⟨OL.keepM h1 hX (by omega) (by omega), OL.keepM h2 hX (by omega) (by omega), OL.keepM h3 hX (by omega) (by omega), OL.keepM h4 hX (by omega) (by omega), h5.keep hk, h6.keep hk, h7.mono fun _ _ h => SL.keep h hk⟩
 clear ho1 ho2 ho3 ho4 hx hk5 hks rn
 simp (maxSteps := 1000000) (disch := first | exact dS | fail) only [↓bD2, bU2, reduceMul, reduceEqDiff, reduceAdd, Nat.reduceBEq, reduceIte, bunAP, gs2, gs31, gs32, gw1, gw2, gw3, gw5, gw6, gw11, gw13, gw15, gw16, gw17, gw18, gw19, g2, g3, g4, g5, g7, g8]
 refine (nxg (n := 5) hl hll E16 (by omega) (by omega) Q16 (by omega) (by omega)).mono ?_
 rintro r ⟨y0, υ0, rfl, hy0, Ey0, Qy0, Xy0⟩
 have ny0 := Xy0.n
 have rp : υ0.orow p = some ([str [116], V1, (.slice va2 f f), V3, .int .i64 lo, .int .i64 hi, x1, x2, x3, x4, x5, V4, .int .i64 mo, V5, .int .i64 bu, .int .i64 0, .int .i64 0, .int .i64 0, .int .i64 0, .int .i64 0]) := by rw [Xy0.orow (by omega) (by omega)]; exact rp
 have z0 : υ0.orow σ.n = some [str [], .slice none 0 0, .slice none 0 0, .slice none 0 0, .int .i64 0, .int .i64 0, str [], .int .i64 0, .int .i64 0, str [], .slice none 0 0, .slice none 0 0, .int .i64 0, .slice none 0 0, .int .i64 0, .int .i64 0, .int .i64 0, .int .i64 0, .int .i64 0, .int .i64 0] := by rw [Xy0.orow (by omega) (by omega)]; exact z0
 have rs := RSk τ16 υ0 (by omega) (.xq Xy0) rs
 obtain ⟨tq, htq⟩ : ∃ n, 10 + (y0 : Int) = n := ⟨_, rfl⟩
 simp (maxSteps := 1000000) (disch := first | exact dS | fail) only [↓bD2, bU2, reduceMul, reduceEqDiff, reduceAdd, Nat.reduceBEq, reduceIte, bunAP, gs2, gs31, gs32, gw1, gw2, gw3, gw5, gw6, gw11, gw13, gw15, gw16, gw17, gw18, gw19, g2, g3, g4, g5, g7, g8, rp, htq]
 obtain ⟨U0, hU0⟩ : ∃ S, (υ0.upd p ([str [116], V1, (.slice va2 f f), V3, .int .i64 lo, .int .i64 hi, x1, x2, x3, x4, x5, V4, .int .i64 mo, V5, .int .i64 bu, .int .i64 tq, .int .i64 0, .int .i64 0, .int .i64 0, .int .i64 0])) = S := ⟨_, rfl⟩
 try rw [hU0]
 have nU0 : U0.n = υ0.n := by rw [← hU0]; rfl
 have EU0 : Ext σ U0 := by rw [← hU0]; exact Ey0.upd (by omega) _
 have rp : U0.orow p = some ([str [116], V1, (.slice va2 f f), V3, .int .i64 lo, .int .i64 hi, x1, x2, x3, x4, x5, V4, .int .i64 mo, V5, .int .i64 bu, .int .i64 tq, .int .i64 0, .int .i64 0, .int .i64 0, .int .i64 0]) := by rw [← hU0]; exact orow_upd_same
 have z0 : U0.orow σ.n = some [str [], .slice none 0 0, .slice none 0 0, .slice none 0 0, .int .i64 0, .int .i64 0, str [], .int .i64 0, .int .i64 0, str [], .slice none 0 0, .slice none 0 0, .int .i64 0, .slice none 0 0, .int .i64 0, .int .i64 0, .int .i64 0, .int .i64 0, .int .i64 0, .int .i64 0] := by rw [← hU0, orow_upd_ne (by omega)]; exact z0
 have QU0 : GQ q v l U0 := by rw [← hU0]; exact Qy0.x (ExtX.refl.upd _) (by omega) (by omega)
 have rs : RS U0 := RSk υ0 U0 (by omega) (by rw [← hU0]; exact ExtM.upd .refl) rs
 clear hU0
 refine (nxg (n := 5) hl hll EU0 (by omega) (by omega) QU0 (by omega) (by omega)).mono ?_
 rintro r ⟨y1, υ1, rfl, hy1, Ey1, Qy1, Xy1⟩
 have ny1 := Xy1.n
 have rp : υ1.orow p = some ([str [116], V1, (.slice va2 f f), V3, .int .i64 lo, .int .i64 hi, x1, x2, x3, x4, x5, V4, .int .i64 mo, V5, .int .i64 bu, .int .i64 tq, .int .i64 0, .int .i64 0, .int .i64 0, .int .i64 0]) := by rw [Xy1.orow (by omega) (by omega)]; exact rp
 have z0 : υ1.orow σ.n = some [str [], .slice none 0 0, .slice none 0 0, .slice none 0 0, .int .i64 0, .int .i64 0, str [], .int .i64 0, .int .i64 0, str [], .slice none 0 0, .slice none 0 0, .int .i64 0, .slice none 0 0, .int .i64 0, .int .i64 0, .int .i64 0, .int .i64 0, .int .i64 0, .int .i64 0] := by rw [Xy1.orow (by omega) (by omega)]; exact z0
 have rs := RSk U0 υ1 (by omega) (.xq Xy1) rs
 obtain ⟨tb, htb⟩ : ∃ n, tq + 1 + (y1 : Int) = n := ⟨_, rfl⟩
 simp (maxSteps := 1000000) (disch := first | exact dS | fail) only [↓bD2, bU2, reduceMul, reduceEqDiff, reduceAdd, Nat.reduceBEq, reduceIte, bunAP, gs2, gs31, gs32, gw1, gw2, gw3, gw5, gw6, gw11, gw13, gw15, gw16, gw17, gw18, gw19, g2, g3, g4, g5, g7, g8, rp, htb]
 refine Must.intro (by (repeat first | simp (disch := omega) only [as_read, as_upd, as_newb, as_extx Xy1] | rw [as_ord (by kernel_rfl)]); rfl) ?_
 simp (maxSteps := 1000000) (disch := first | exact dS | fail) only [↓bD2, bU2, reduceMul, reduceEqDiff, reduceAdd, Nat.reduceBEq, reduceIte, bunAP, gs2, gs31, gs32, gw1, gw2, gw3, gw5, gw6, gw11, gw13, gw15, gw16, gw17, gw18, gw19, g2, g3, g4, g5, g7, g8]
 obtain ⟨U1, hU1⟩ : ∃ S, (υ1.upd p ([str [116], V1, (.slice va2 f f), V3, .int .i64 lo, .int .i64 hi, x1, x2, x3, x4, x5, V4, .int .i64 mo, V5, .int .i64 bu, .int .i64 tq, .int .i64 tb, .int .i64 0, .int .i64 0, .int .i64 0])) = S := ⟨_, rfl⟩
 try rw [hU1]
 have nU1 : U1.n = υ1.n := by rw [← hU1]; rfl
 have EU1 : Ext σ U1 := by rw [← hU1]; exact Ey1.upd (by omega) _
 have rp : U1.orow p = some ([str [116], V1, (.slice va2 f f), V3, .int .i64 lo, .int .i64 hi, x1, x2, x3, x4, x5, V4, .int .i64 mo, V5, .int .i64 bu, .int .i64 tq, .int .i64 tb, .int .i64 0, .int .i64 0, .int .i64 0]) := by rw [← hU1]; exact orow_upd_same
 have z0 : U1.orow σ.n = some [str [], .slice none 0 0, .slice none 0 0, .slice none 0 0, .int .i64 0, .int .i64 0, str [], .int .i64 0, .int .i64 0, str [], .slice none 0 0, .slice none 0 0, .int .i64 0, .slice none 0 0, .int .i64 0, .int .i64 0, .int .i64 0, .int .i64 0, .int .i64 0, .int .i64 0] := by rw [← hU1, orow_upd_ne (by omega)]; exact z0
 have QU1 : GQ q v l U1 := by rw [← hU1]; exact Qy1.x (ExtX.refl.upd _) (by omega) (by omega)
 have rs : RS U1 := RSk υ1 U1 (by omega) (by rw [← hU1]; exact ExtM.upd .refl) rs
 clear hU1
 refine (nxg (n := 5) hl hll EU1 (by omega) (by omega) QU1 (by omega) (by omega)).mono ?_
 rintro r ⟨y2, υ2, rfl, hy2, Ey2, Qy2, Xy2⟩
 have ny2 := Xy2.n
 have rp : υ2.orow p = some ([str [116], V1, (.slice va2 f f), V3, .int .i64 lo, .int .i64 hi, x1, x2, x3, x4, x5, V4, .int .i64 mo, V5, .int .i64 bu, .int .i64 tq, .int .i64 tb, .int .i64 0, .int .i64 0, .int .i64 0]) := by rw [Xy2.orow (by omega) (by omega)]; exact rp
 have z0 : υ2.orow σ.n = some [str [], .slice none 0 0, .slice none 0 0, .slice none 0 0, .int .i64 0, .int .i64 0, str [], .int .i64 0, .int .i64 0, str [], .slice none 0 0, .slice none 0 0, .int .i64 0, .slice none 0 0, .int .i64 0, .int .i64 0, .int .i64 0, .int .i64 0, .int .i64 0, .int .i64 0] := by rw [Xy2.orow (by omega) (by omega)]; exact z0
 have rs := RSk U1 υ2 (by omega) (.xq Xy2) rs
 obtain ⟨tg, htg⟩ : ∃ n, tb + 1 + (y2 : Int) = n := ⟨_, rfl⟩
 simp (maxSteps := 1000000) (disch := first | exact dS | fail) only [↓bD2, bU2, reduceMul, reduceEqDiff, reduceAdd, Nat.reduceBEq, reduceIte, bunAP, gs2, gs31, gs32, gw1, gw2, gw3, gw5, gw6, gw11, gw13, gw15, gw16, gw17, gw18, gw19, g2, g3, g4, g5, g7, g8, rp, htg]
 refine Must.intro (by (repeat first | simp (disch := omega) only [as_read, as_upd, as_newb, as_extx Xy2] | rw [as_ord (by kernel_rfl)]); rfl) ?_
 simp (maxSteps := 1000000) (disch := first | exact dS | fail) only [↓bD2, bU2, reduceMul, reduceEqDiff, reduceAdd, Nat.reduceBEq, reduceIte, bunAP, gs2, gs31, gs32, gw1, gw2, gw3, gw5, gw6, gw11, gw13, gw15, gw16, gw17, gw18, gw19, g2, g3, g4, g5, g7, g8]
 obtain ⟨U2, hU2⟩ : ∃ S, (υ2.upd p ([str [116], V1, (.slice va2 f f), V3, .int .i64 lo, .int .i64 hi, x1, x2, x3, x4, x5, V4, .int .i64 mo, V5, .int .i64 bu, .int .i64 tq, .int .i64 tb, .int .i64 tg, .int .i64 0, .int .i64 0])) = S := ⟨_, rfl⟩
 try rw [hU2]
 have nU2 : U2.n = υ2.n := by rw [← hU2]; rfl
 have EU2 : Ext σ U2 := by rw [← hU2]; exact Ey2.upd (by omega) _
 have rp : U2.orow p = some ([str [116], V1, (.slice va2 f f), V3, .int .i64 lo, .int .i64 hi, x1, x2, x3, x4, x5, V4, .int .i64 mo, V5, .int .i64 bu, .int .i64 tq, .int .i64 tb, .int .i64 tg, .int .i64 0, .int .i64 0]) := by rw [← hU2]; exact orow_upd_same
 have z0 : U2.orow σ.n = some [str [], .slice none 0 0, .slice none 0 0, .slice none 0 0, .int .i64 0, .int .i64 0, str [], .int .i64 0, .int .i64 0, str [], .slice none 0 0, .slice none 0 0, .int .i64 0, .slice none 0 0, .int .i64 0, .int .i64 0, .int .i64 0, .int .i64 0, .int .i64 0, .int .i64 0] := by rw [← hU2, orow_upd_ne (by omega)]; exact z0
 have QU2 : GQ q v l U2 := by rw [← hU2]; exact Qy2.x (ExtX.refl.upd _) (by omega) (by omega)
 have rs : RS U2 := RSk υ2 U2 (by omega) (by rw [← hU2]; exact ExtM.upd .refl) rs
 clear hU2
 refine (nxg (n := 5) hl hll EU2 (by omega) (by omega) QU2 (by omega) (by omega)).mono ?_
 rintro r ⟨y3, υ3, rfl, hy3, Ey3, Qy3, Xy3⟩
 have ny3 := Xy3.n
 have rp : υ3.orow p = some ([str [116], V1, (.slice va2 f f), V3, .int .i64 lo, .int .i64 hi, x1, x2, x3, x4, x5, V4, .int .i64 mo, V5, .int .i64 bu, .int .i64 tq, .int .i64 tb, .int .i64 tg, .int .i64 0, .int .i64 0]) := by rw [Xy3.orow (by omega) (by omega)]; exact rp
 have z0 : υ3.orow σ.n = some [str [], .slice none 0 0, .slice none 0 0, .slice none 0 0, .int .i64 0, .int .i64 0, str [], .int .i64 0, .int .i64 0, str [], .slice none 0 0, .slice none 0 0, .int .i64 0, .slice none 0 0, .int .i64 0, .int .i64 0, .int .i64 0, .int .i64 0, .int .i64 0, .int .i64 0] := by rw [Xy3.orow (by omega) (by omega)]; exact z0
 have rs := RSk U2 υ3 (by omega) (.xq Xy3) rs
 obtain ⟨tp, htp⟩ : ∃ n, tg + 1 + (y3 : Int) = n := ⟨_, rfl⟩
 simp (maxSteps := 1000000) (disch := first | exact dS | fail) only [↓bD2, bU2, reduceMul, reduceEqDiff, reduceAdd, Nat.reduceBEq, reduceIte, bunAP, gs2, gs31, gs32, gw1, gw2, gw3, gw5, gw6, gw11, gw13, gw15, gw16, gw17, gw18, gw19, g2, g3, g4, g5, g7, g8, rp, htp]
 refine Must.intro (by (repeat first | simp (disch := omega) only [as_read, as_upd, as_newb, as_extx Xy3] | rw [as_ord (by kernel_rfl)]); rfl) ?_
 simp (maxSteps := 1000000) (disch := first | exact dS | fail) only [↓bD2, bU2, reduceMul, reduceEqDiff, reduceAdd, Nat.reduceBEq, reduceIte, bunAP, gs2, gs31, gs32, gw1, gw2, gw3, gw5, gw6, gw11, gw13, gw15, gw16, gw17, gw18, gw19, g2, g3, g4, g5, g7, g8]
 obtain ⟨U3, hU3⟩ : ∃ S, (υ3.upd p ([str [116], V1, (.slice va2 f f), V3, .int .i64 lo, .int .i64 hi, x1, x2, x3, x4, x5, V4, .int .i64 mo, V5, .int .i64 bu, .int .i64 tq, .int .i64 tb, .int .i64 tg, .int .i64 tp, .int .i64 0])) = S := ⟨_, rfl⟩
 try rw [hU3]
 have nU3 : U3.n = υ3.n := by rw [← hU3]; rfl
 have EU3 : Ext σ U3 := by rw [← hU3]; exact Ey3.upd (by omega) _
 have rp : U3.orow p = some ([str [116], V1, (.slice va2 f f), V3, .int .i64 lo, .int .i64 hi, x1, x2, x3, x4, x5, V4, .int .i64 mo, V5, .int .i64 bu, .int .i64 tq, .int .i64 tb, .int .i64 tg, .int .i64 tp, .int .i64 0]) := by rw [← hU3]; exact orow_upd_same
 have z0 : U3.orow σ.n = some [str [], .slice none 0 0, .slice none 0 0, .slice none 0 0, .int .i64 0, .int .i64 0, str [], .int .i64 0, .int .i64 0, str [], .slice none 0 0, .slice none 0 0, .int .i64 0, .slice none 0 0, .int .i64 0, .int .i64 0, .int .i64 0, .int .i64 0, .int .i64 0, .int .i64 0] := by rw [← hU3, orow_upd_ne (by omega)]; exact z0
 have QU3 : GQ q v l U3 := by rw [← hU3]; exact Qy3.x (ExtX.refl.upd _) (by omega) (by omega)
 have rs : RS U3 := RSk υ3 U3 (by omega) (by rw [← hU3]; exact ExtM.upd .refl) rs
 clear hU3
 refine (nxg (n := 10) hl hll EU3 (by omega) (by omega) QU3 (by omega) (by omega)).mono ?_
 rintro r ⟨y4, υ4, rfl, hy4, Ey4, Qy4, Xy4⟩
 have ny4 := Xy4.n
 have rp : υ4.orow p = some ([str [116], V1, (.slice va2 f f), V3, .int .i64 lo, .int .i64 hi, x1, x2, x3, x4, x5, V4, .int .i64 mo, V5, .int .i64 bu, .int .i64 tq, .int .i64 tb, .int .i64 tg, .int .i64 tp, .int .i64 0]) := by rw [Xy4.orow (by omega) (by omega)]; exact rp
 have z0 : υ4.orow σ.n = some [str [], .slice none 0 0, .slice none 0 0, .slice none 0 0, .int .i64 0, .int .i64 0, str [], .int .i64 0, .int .i64 0, str [], .slice none 0 0, .slice none 0 0, .int .i64 0, .slice none 0 0, .int .i64 0, .int .i64 0, .int .i64 0, .int .i64 0, .int .i64 0, .int .i64 0] := by rw [Xy4.orow (by omega) (by omega)]; exact z0
 have rs := RSk U3 υ4 (by omega) (.xq Xy4) rs
 obtain ⟨ts, hts⟩ : ∃ n, (y4 : Int) = n := ⟨_, rfl⟩
 simp (maxSteps := 1000000) (disch := first | exact dS | fail) only [↓bD2, bU2, reduceMul, reduceEqDiff, reduceAdd, Nat.reduceBEq, reduceIte, bunAP, gs2, gs31, gs32, gw1, gw2, gw3, gw5, gw6, gw11, gw13, gw15, gw16, gw17, gw18, gw19, g2, g3, g4, g5, g7, g8, rp, hts]
 obtain ⟨U4, hU4⟩ : ∃ S, (υ4.upd p ([str [116], V1, (.slice va2 f f), V3, .int .i64 lo, .int .i64 hi, x1, x2, x3, x4, x5, V4, .int .i64 mo, V5, .int .i64 bu, .int .i64 tq, .int .i64 tb, .int .i64 tg, .int .i64 tp, .int .i64 ts])) = S := ⟨_, rfl⟩
 try rw [hU4]
 have nU4 : U4.n = υ4.n := by rw [← hU4]; rfl
 have EU4 : Ext σ U4 := by rw [← hU4]; exact Ey4.upd (by omega) _
 have rp : U4.orow p = some ([str [116], V1, (.slice va2 f f), V3, .int .i64 lo, .int .i64 hi, x1, x2, x3, x4, x5, V4, .int .i64 mo, V5, .int .i64 bu, .int .i64 tq, .int .i64 tb, .int .i64 tg, .int .i64 tp, .int .i64 ts]) := by rw [← hU4]; exact orow_upd_same
 have z0 : U4.orow σ.n = some [str [], .slice none 0 0, .slice none 0 0, .slice none 0 0, .int .i64 0, .int .i64 0, str [], .int .i64 0, .int .i64 0, str [], .slice none 0 0, .slice none 0 0, .int .i64 0, .slice none 0 0, .int .i64 0, .int .i64 0, .int .i64 0, .int .i64 0, .int .i64 0, .int .i64 0] := by rw [← hU4, orow_upd_ne (by omega)]; exact z0
 have QU4 : GQ q v l U4 := by rw [← hU4]; exact Qy4.x (ExtX.refl.upd _) (by omega) (by omega)
 have rs : RS U4 := RSk υ4 U4 (by omega) (by rw [← hU4]; exact ExtM.upd .refl) rs
 clear hU4
 have mkT : ∀ τ y1 y2 y3 y4 y5 ff, RS τ → ExAt (hide τ H) [y1, y2, y3, y4, y5] ff → TnX (hide τ H) ([str [116], V1, (.slice va2 f f), V3, .int .i64 lo, .int .i64 hi, y1, y2, y3, y4, y5, V4, .int .i64 mo, V5, .int .i64 bu, .int .i64 tq, .int .i64 tb, .int .i64 tg, .int .i64 tp, .int .i64 ts]) (⟨[116], L1, L2, L3, lo, hi, ff, L4, mo, L5, bu, ⟨tq, tb, tg, tp, ts⟩⟩ : Tn) := by
  intro τ y1 y2 y3 y4 y5 ff h hy
  rw [hRS] at h
  obtain ⟨h1, h2, h3, h4, -, h6, h7⟩ := h
  have b1 : ∀ c ∈ H, c < τ7.n := fun c hc => by have := hHl c hc; omega
  have b2 : ∀ c ∈ H, c < τ9.n := fun c hc => by have := hHl c hc; omega
  have b3 : ∀ c ∈ H, c < τ10.n := fun c hc => by have := hHl c hc; omega
  have b4 : ∀ c ∈ H, c < τ14.n := fun c hc => by have := hHl c hc; omega
  exact ⟨V1, (.slice va2 f f), V3, [y1, y2, y3, y4, y5], V4, V5, ws, rfl, OL.hide h1 b1, OL.hide h2 b2, OL.hide h3 b3, hy, OL.hide h4 b4, h6, h7⟩
 have gok : ∀ ff, GOk (⟨[116], L1, L2, L3, lo, hi, ff, L4, mo, L5, bu, ⟨tq, tb, tg, tp, ts⟩⟩ : Tn) := by
  intro ff
  refine ⟨⟨?_, ?_, ?_, ?_, ?_, ?_, ?_, ?_, ?_, ?_, ?_, ?_, ?_, ?_, ?_⟩, ⟨?_, ?_, ?_, ?_, ?_, ?_, ?_, ?_, ?_⟩, ⟨?_, ?_, ?_, ?_, ?_⟩, rfl, ?_, ?_, ?_, ?_, ?_⟩
  ·show L1.length ≤ 16; omega
  ·intro x hx; have := hP1 x hx; exact ⟨by omega, by omega, by omega, by omega⟩
  ·show L2.length ≤ 16; omega
  ·intro x hx; obtain ⟨a1, a2, a3, a4, a5, a6⟩ := hP2 x hx; exact ⟨(gn_ok _ a1).1, ⟨by omega, by omega⟩, ⟨by omega, by omega⟩, ⟨by omega, by omega⟩⟩
  ·show L3.length ≤ 8; omega
  ·intro x hx; obtain ⟨a1, a2, a3, a4⟩ := hP3 x hx; exact ⟨(gn_ok _ a1).1, a2, by omega, by omega⟩
  ·exact ⟨by show _ ≤ lo; omega, by show lo ≤ _; omega⟩
  ·exact ⟨by show _ ≤ hi; omega, by show hi ≤ _; omega⟩
  ·show L4.length ≤ 16; omega
  ·exact hP4
  ·exact ⟨by show _ ≤ mo; omega, by show mo ≤ _; omega⟩
  ·show L5.length ≤ 16; omega
  ·intro c hc; have := hP5 c hc; subst this; exact ⟨by decide, by intro n hn; simp only [List.mem_cons, List.not_mem_nil, or_false] at hn; rcases hn with rfl | rfl <;> exact ⟨by omega, by omega⟩⟩
  ·exact ⟨by show _ ≤ bu; omega, by show bu ≤ _; omega⟩
  ·exact ⟨⟨by show _ ≤ tq; omega, by show tq ≤ _; omega⟩, ⟨by show _ ≤ tb; omega, by show tb ≤ _; omega⟩, ⟨by show _ ≤ tg; omega, by show tg ≤ _; omega⟩, ⟨by show _ ≤ tp; omega, by show tp ≤ _; omega⟩, ⟨by show _ ≤ ts; omega, by show ts ≤ _; omega⟩⟩
  ·intro x hx; have := hP1 x hx; exact ⟨⟨by omega, by omega⟩, ⟨by omega, by omega⟩⟩
  ·intro x hx; obtain ⟨a1, a2, a3, a4, a5, a6⟩ := hP2 x hx; exact ⟨a2, ⟨by omega, by omega⟩, ⟨by omega, by omega⟩⟩
  ·intro x hx; obtain ⟨a1, a2, a3, a4⟩ := hP3 x hx; exact ⟨by omega, by omega⟩
  ·intro c hc n hn; have := hP5 c hc; subst this; simp only [List.mem_cons, List.not_mem_nil, or_false] at hn; rcases hn with rfl | rfl <;> exact ⟨by omega, by omega⟩
  ·exact ⟨by show 0 ≤ lo; omega, by show lo < _; omega⟩
  ·exact ⟨by show 0 ≤ hi; omega, by show hi < _; omega⟩
  ·exact ⟨by show 0 ≤ mo; omega, by show mo < _; omega⟩
  ·exact ⟨by show 0 ≤ bu; omega, by show bu < _; omega⟩
  ·exact ⟨⟨by show 0 ≤ tq; omega, by show tq < _; omega⟩, ⟨by show 0 ≤ tb; omega, by show tb < _; omega⟩, ⟨by show 0 ≤ tg; omega, by show tg < _; omega⟩, ⟨by show 0 ≤ tp; omega, by show tp < _; omega⟩, ⟨by show 0 ≤ ts; omega, by show ts < _; omega⟩⟩
  ·show L1.length ≤ 5; omega
  ·show L2.length ≤ 5; omega
  ·show L3.length ≤ 5; omega
  ·show L4.length ≤ 5; omega
  ·show L5.length ≤ 5; omega
  ·exact ⟨by show 10 ≤ tq; omega, by show tq ≤ 14; omega⟩
  ·exact ⟨by show tq + 1 ≤ tb; omega, by show tb ≤ tq + 5; omega⟩
  ·exact ⟨by show tb + 1 ≤ tg; omega, by show tg ≤ tb + 5; omega⟩
  ·exact ⟨by show tg + 1 ≤ tp; omega, by show tp ≤ tg + 5; omega⟩
  ·exact ⟨by show 0 ≤ ts; omega, by show ts ≤ 9; omega⟩
 have hxe : ExAt (hide U4 H) [x1, x2, x3, x4, x5] e := by have h := rs; rw [hRS] at h; exact h.2.2.2.2.1
 have tx := mkT U4 _ _ _ _ _ e rs hxe
 have hivT : Iv (⟨[116], L1, L2, L3, lo, hi, e, L4, mo, L5, bu, ⟨tq, tb, tg, tp, ts⟩⟩ : Tn) e (Bd (bdN g) (bdD g)) := Iv.congr (fun s => by rw [hT0]; rfl) hiv
 refine (check_ok (T := (⟨[116], L1, L2, L3, lo, hi, e, L4, mo, L5, bu, ⟨tq, tb, tg, tp, ts⟩⟩ : Tn)) ⟨(tx.keep keep_all).tn, (gok e).ok, by show ([116] : By).length ≤ 100; decide⟩ (gok e).sm hf (by omega) hivT (fun _ _ h => h.1)).mono ?_
 rintro r ⟨sC, cC, υ5, rfl, hE5⟩
 have n5 := hE5.n
 have rp : υ5.orow p = some ([str [116], V1, (.slice va2 f f), V3, .int .i64 lo, .int .i64 hi, x1, x2, x3, x4, x5, V4, .int .i64 mo, V5, .int .i64 bu, .int .i64 tq, .int .i64 tb, .int .i64 tg, .int .i64 tp, .int .i64 ts]) := by rw [hE5.orow (by omega)]; exact rp
 have z0 : υ5.orow σ.n = some [str [], .slice none 0 0, .slice none 0 0, .slice none 0 0, .int .i64 0, .int .i64 0, str [], .int .i64 0, .int .i64 0, str [], .slice none 0 0, .slice none 0 0, .int .i64 0, .slice none 0 0, .int .i64 0, .int .i64 0, .int .i64 0, .int .i64 0, .int .i64 0, .int .i64 0] := by rw [hE5.orow (by omega)]; exact z0
 have EF : Ext σ υ5 := EU4.trans hE5
 have rs := RSk U4 υ5 (by omega) (.of hE5) rs
 have hxe := hxe.keep (keep_ext hE5)
 have hsH : σ.n ∈ H := by rw [← hHd]; simp
 have hH0H : ∀ c, c ∉ H → c ∉ H0 := fun c hc h => hc (by rw [← hHd]; simp [h])
 have fin : ∀ τ C T, Ext σ τ → TnX (hide τ H) C T → Ext σ (τ.upd σ.n C) ∧ TnX (hide (τ.upd σ.n C) H0) C T := by
  intro τ C T hE hT
  exact ⟨hE.upd (Nat.le_refl _) _, hT.keep (keep_hide (Nat.le_refl _) fun c hc hm => ⟨hH0H c hm, row_upd_ne fun h => hm (h ▸ hsH)⟩)⟩
 cases dC : decide (cC = 0) with
 | true =>
  have rpr := row_of rp
  simp (maxSteps := 1000000) (disch := first | exact dS | fail) only [↓bD2, bU2, reduceMul, reduceEqDiff, reduceAdd, Nat.reduceBEq, reduceIte, bunAP, gs2, gs31, gs32, gw1, gw2, gw3, gw5, gw6, gw11, gw13, gw15, gw16, gw17, gw18, gw19, g2, g3, g4, g5, g7, g8, dC, rpr, z0, Tryz.results17]
  obtain ⟨a1, a2⟩ := fin υ5 _ _ EF (mkT υ5 _ _ _ _ _ e rs hxe)
  exact ⟨_, _, _, rfl, a1, a2, gok e⟩
 | false =>
  simp (maxSteps := 1000000) (disch := first | exact dS | fail) only [↓bD2, bU2, reduceMul, reduceEqDiff, reduceAdd, Nat.reduceBEq, reduceIte, bunAP, gs2, gs31, gs32, gw1, gw2, gw3, gw5, gw6, gw11, gw13, gw15, gw16, gw17, gw18, gw19, g2, g3, g4, g5, g7, g8, dC]
  refine mkname_ok.mono ?_
  rintro r ⟨r1, s1, rfl, F1, xx1⟩
  simp (maxSteps := 1000000) (disch := first | exact dS | fail) only [↓bD2, bU2, reduceMul, reduceEqDiff, reduceAdd, Nat.reduceBEq, reduceIte, bunAP, gs2, gs31, gs32, gw1, gw2, gw3, gw5, gw6, gw11, gw13, gw15, gw16, gw17, gw18, gw19]
  refine mkname_ok.mono ?_
  rintro r ⟨r2, s2, rfl, F2, xx2⟩
  simp (maxSteps := 1000000) (disch := first | exact dS | fail) only [↓bD2, bU2, reduceMul, reduceEqDiff, reduceAdd, Nat.reduceBEq, reduceIte, bunAP, gs2, gs31, gs32, gw1, gw2, gw3, gw5, gw6, gw11, gw13, gw15, gw16, gw17, gw18, gw19]
  have m1 := F1.n
  have m2 := F2.n
  refine (mkop_ok (o := [47]) H (fun c hc => by have := hHl c hc; omega) (xx1 _) (xx2 _)).mono ?_
  rintro r ⟨r3, s3, rfl, F3, xx3⟩
  have m3 := F3.n
  obtain ⟨y1, y2, y3, y4, y5, rfl⟩ := five xx3.len
  have F : Ext υ5 s3 := F1.trans (F2.trans F3)
  have rp : s3.orow p = some ([str [116], V1, (.slice va2 f f), V3, .int .i64 lo, .int .i64 hi, x1, x2, x3, x4, x5, V4, .int .i64 mo, V5, .int .i64 bu, .int .i64 tq, .int .i64 tb, .int .i64 tg, .int .i64 tp, .int .i64 ts]) := by rw [F.orow (by omega)]; exact rp
  have z1 : (s3.upd p ([str [116], V1, (.slice va2 f f), V3, .int .i64 lo, .int .i64 hi, y1, y2, y3, y4, y5, V4, .int .i64 mo, V5, .int .i64 bu, .int .i64 tq, .int .i64 tb, .int .i64 tg, .int .i64 tp, .int .i64 ts])).orow σ.n = some [str [], .slice none 0 0, .slice none 0 0, .slice none 0 0, .int .i64 0, .int .i64 0, str [], .int .i64 0, .int .i64 0, str [], .slice none 0 0, .slice none 0 0, .int .i64 0, .slice none 0 0, .int .i64 0, .int .i64 0, .int .i64 0, .int .i64 0, .int .i64 0, .int .i64 0] := by rw [orow_upd_ne (by omega), F.orow (by omega)]; exact z0
  simp (maxSteps := 1000000) (disch := first | exact dS | fail) only [↓bD2, bU2, reduceMul, reduceEqDiff, reduceAdd, Nat.reduceBEq, reduceIte, bunAP, gs2, gs31, gs32, gw1, gw2, gw3, gw5, gw6, gw11, gw13, gw15, gw16, gw17, gw18, gw19, g2, g3, g4, g5, g7, g8, rp, z1, Tryz.results17]
  have rs := RSk υ5 (s3.upd p ([str [116], V1, (.slice va2 f f), V3, .int .i64 lo, .int .i64 hi, y1, y2, y3, y4, y5, V4, .int .i64 mo, V5, .int .i64 bu, .int .i64 tq, .int .i64 tb, .int .i64 tg, .int .i64 tp, .int .i64 ts])) (by omega) ((ExtM.of F).upd) rs
  obtain ⟨a1, a2⟩ := fin (s3.upd p ([str [116], V1, (.slice va2 f f), V3, .int .i64 lo, .int .i64 hi, y1, y2, y3, y4, y5, V4, .int .i64 mo, V5, .int .i64 bu, .int .i64 tq, .int .i64 tb, .int .i64 tg, .int .i64 tp, .int .i64 ts])) _ _ ((EF.trans F).upd (by omega) _) (mkT _ _ _ _ _ _ _ rs (xx3.keep ((ExtX.refl.upd _).keepH hpH)))
  exact ⟨_, _, _, rfl, a1, a2, gok _⟩
end Go.Proofs.G
