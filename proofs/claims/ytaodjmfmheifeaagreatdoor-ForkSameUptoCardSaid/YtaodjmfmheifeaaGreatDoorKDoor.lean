/- A part of the proof: a walk of some functions. -/
import Derived.Test.YtaodjmfmheifeaaGreatDoorKEv
import Derived.Test.YtaodjmfmheifeaaGreatDoorKSan
import Derived.Test.YtaodjmfmheifeaaGreatDoorK4
import Derived.Test.YtaodjmfmheifeaaGreatDoorK5
import Derived.Test.YtaodjmfmheifeaaGreatDoorK12
import Derived.Test.YtaodjmfmheifeaaGreatDoorRows
import Derived.WalkKit
import Derived.ProofKit
import Derived.OpenShut
import Derived.ShutString
import Derived.ChangeOld
import Derived.Below
import Derived.LaidMore
import Derived.Lay
import Derived.Stop.Joined
import Derived.SevenTiedAt
import Derived.ChangeReads
set_option linter.unusedSimpArgs false
set_option linter.unusedVariables false
namespace Go.Proofs.YtaodjmfmheifeaaGreatDoor.doors
open Go Go.ChangeShapes Go.WideShapes Go.ChangeAt Go.RowKit
set_option linter.unusedVariables false

/-- What the walk leaves of the world. -/
theorem below_of {base : Ab.Env} {ρ ρ' : Ab.Place} {σ σ' : Ab.St} {w w' : World} (hN : Ab.NoOwn σ) (h : Ab.Fram ρ σ w ρ' σ' w') : Below w.heap.size w w' :=
  ⟨h.out.os, h.out.tape, h.out.output, h.size, fun c hc => h.keep c hc fun b q B _ _ hB => hN b B hB⟩

/-- An empty memory, with the package-level variables and a row of nothing. -/
theorem start {base : Ab.Env} {w : World} (hb : base.lo = w.heap.size) (hg : 10 ≤ w.heap.size) {c : Nat} {arr : Array Value} {e : TypeId} {f : Nat × Nat} (hc : w.heap[c]? = some (.cells arr e f)) :
    ∃ σ ρ, Ab.Args.Inv base 10 w σ ρ := by
  have hR0 := Ab.gplace_rel (base := base) (G := 10) hg hb
  have hF0 := Ab.gplace_free 10
  have hle : (Ab.gplace 10).le ((Ab.gplace 10).put 10 ⟨c, 0, arr.size⟩) := Ab.Place.put_le _ (hF0 10 (Nat.le_refl _))
  have hcw : c < w.heap.size := by
    rcases Nat.lt_or_ge c w.heap.size with h | h
    · exact h
    · rw [Array.getElem?_eq_none h] at hc; cases hc
  have hR1 := Ab.rel_arg (base := base) hR0 (Ab.noOwn_nil 10) hF0 (c := c) (o := 0) (m := arr.size) (cells := []) hc rfl (by simp) (by omega) (fun v hv => by cases hv) (fun i v hi => by simp at hi)
  exact ⟨Ab.St.arg ⟨.nil, 10⟩ [], _, hR1, (Ab.noOwn_nil 10).arg _, Ab.put_free (σ := ⟨.nil, 10⟩) hF0, (Ab.gplace_glob 10).mono hle, 10, by rw [Ab.arg_n]; show 10 < 11; omega, Ab.arg_row _ _, _, Ab.Place.put_same _ _ _⟩

theorem okWide_arr {P : Program} {w : World} {r : Reach} {base : Nat} {t e : TypeId} {n : Nat} {v : Value} (ht : P.underlying t = some (.array n e)) (h : Value.okWide P w r base t v) : ∃ cs, v = .agg cs := by
  unfold Value.okWide at h
  rw [ht] at h
  obtain ⟨cs, h, -⟩ := h
  exact ⟨cs, h⟩
theorem okWide_str {P : Program} {w : World} {r : Reach} {base : Nat} {t : TypeId} {fs : Array Field} {v : Value} (ht : P.underlying t = some (.struct fs)) (h : Value.okWide P w r base t v) : ∃ cs, v = .agg cs := by
  unfold Value.okWide at h
  rw [ht] at h
  obtain ⟨cs, h, -⟩ := h
  exact ⟨cs, h⟩
/-- Values without addresses are what they stand for. -/
theorem scal_rel {ρ : Ab.Place} : ∀ {l l' : List Value}, Ab.VsRel ρ l l' → (∀ v ∈ l, Ab.scal v = true) → l' = l
  | [], _, h, _ => by cases h; rfl
  | v :: l, _, h, hs => by
    cases h with
    | cons h1 h2 =>
      have hv := hs v (by simp)
      have := scal_rel h2 fun x hx => hs x (by simp [hx])
      subst this
      cases h1 <;> first | rfl | cases hv
theorem rel_scal {ρ : Ab.Place} : ∀ {l : List Value}, (∀ v ∈ l, Ab.scal v = true) → Ab.VsRel ρ l l
  | [], _ => .nil
  | v :: l, h => .cons (.scal (h v (by simp))) (rel_scal fun x hx => h x (by simp [hx]))
theorem ev_scal {c : List Value} (h : G.EvRow c) : ∀ v ∈ c, Ab.scal v = true := by
  obtain ⟨sq, kd, wh, tm, bd, lo, nn, ot, sx, sy, rr, ss, p0, p1, p2, p3, p4, p5, p6, p7, p8, p9, p10, p11, p12, p13, p14, p15, p16, p17, p18, p19, p20, p21, p22, p23, p24, p25, p26, p27, p28, p29, p30, p31, nm, tx, rfl⟩ := h
  intro v hv
  simp only [List.mem_cons, List.not_mem_nil, or_false] at hv
  rcases hv with rfl | rfl | rfl | rfl | rfl | rfl | rfl | rfl | rfl | rfl | rfl | rfl | rfl | rfl | rfl | rfl | rfl | rfl | rfl | rfl | rfl | rfl | rfl | rfl | rfl | rfl | rfl | rfl | rfl | rfl | rfl | rfl | rfl | rfl | rfl | rfl | rfl | rfl | rfl | rfl | rfl | rfl | rfl | rfl | rfl | rfl <;> rfl
theorem nil_run {n : Int} {e : List Value} (h : G.EvRow e) : ∃ σ', Ab.go Tryz.prog G.HS (.fn 5) [.int .i64 n, .agg ⟨e⟩] ⟨.nil, 10⟩ = some ⟨false, .bool true, σ'⟩ := by
  obtain ⟨sq, kd, wh, tm, bd, lo, nn, ot, sx, sy, rr, ss, p0, p1, p2, p3, p4, p5, p6, p7, p8, p9, p10, p11, p12, p13, p14, p15, p16, p17, p18, p19, p20, p21, p22, p23, p24, p25, p26, p27, p28, p29, p30, p31, nm, tx, rfl⟩ := h
  cases n with
  | ofNat m => obtain ⟨σ', h⟩ := G.okTrue_eq (G.nil_pos m ..); exact ⟨σ', Ab.go_of h⟩
  | negSucc m => obtain ⟨σ', h⟩ := G.okTrue_eq (G.nil_neg m ..); exact ⟨σ', Ab.go_of h⟩
theorem rel_len {ρ : Ab.Place} {a sa : Option Addr} {n k sl sc : Nat} (h : Ab.VRel ρ (.slice a n k) (.slice sa sl sc)) : n = sl := by
  generalize hx : Value.slice a n k = x at h
  generalize hy : Value.slice sa sl sc = y at h
  cases h <;> first | (cases hx; cases hy; rfl) | (subst hx; cases hy; rfl) | cases hx
section
variable {H : Type} {enc : TypeId × Value → H} {w : World}
theorem walk_nil {f1 : Nat} {x1 : DataW H × List MemPlace} (n : Int) (cs : Array Value) (h1 : DataW.trod enc Tryz.prog w 0 (fun _ => true) true f1 30 cs.toList = some x1) (hg : 10 ≤ w.heap.size) {c : Nat} {arr : Array Value} {e : TypeId} {f : Nat × Nat} (hc : w.heap[c]? = some (.cells arr e f)) (hd1 : Ab.Args.dataOk Tryz.prog f1 30 = true) :
    Calls Tryz.prog 5 #[.int .i64 n, .agg cs] w fun e w' => e = .returned (.bool true) ∧ Below w.heap.size w w' := by
  let base : Ab.Env := ⟨w.heap.size, fun n c => Ab.codeOk Tryz.prog n 10 c⟩
  have hchk : ∀ n c, base.chk n c = Ab.codeOk Tryz.prog n 10 c := fun _ _ => rfl
  obtain ⟨σ, ρ, hI⟩ := start (base := base) rfl hg hc
  obtain ⟨σ1, ρ1, c0, i1, k1, l1, v1, a1, t1⟩ := Ab.Args.imp (base := base) (Nat.le_refl _) f1 30 _ _ h1 hd1 σ ρ hI
  have hE := G.ai_event a1
  have hs := ev_scal hE
  have e0 := scal_rel v1 hs
  have e1 : cs = ⟨cs.toList⟩ := rfl
  rw [e1, e0]
  obtain ⟨σ', hrun⟩ := nil_run (n := n) hE
  have hev : Ab.Ev (Ab.go Tryz.prog G.HS (.fn 5) [.int .i64 n, .agg ⟨c0⟩] ⟨.nil, 10⟩) (fun r => ∃ σ', r = ⟨false, .bool true, σ'⟩) ⟨⟩ := ⟨_, hrun, _, rfl⟩
  refine (Ab.calls_of_ev (base := base) G.mixed hchk G.funcs_okH (G.sums_ok hchk) Tryz.func5 rfl hev (Ab.gplace_rel hg rfl) (Ab.gplace_free 10) (Ab.gplace_glob 10) (.cons (.scal rfl) (.cons (.agg t1 (rel_scal hs)) .nil))).mono ?_
  rintro en w' ⟨r, v', ρ', ⟨σ', rfl⟩, rfl, r1, r2, r3⟩
  refine ⟨?_, below_of (base := base) (Ab.noOwn_nil 10) r2⟩
  cases r3
  rfl
theorem walk_repl {f0 f1 : Nat} {x0 x1 : DataW H × List MemPlace} (sa : Option Addr) (sl sc : Nat) (n : Int) (cs : Array Value) (h0 : DataW.trod enc Tryz.prog w 0 (fun _ => true) true f0 22 [.slice sa sl sc] = some x0) (h1 : DataW.trod enc Tryz.prog w 0 (fun _ => true) true f1 30 cs.toList = some x1)
    (hsl : sl ≤ 1048576) (hg : 10 ≤ w.heap.size) {c : Nat} {arr : Array Value} {e : TypeId} {f : Nat × Nat} (hc : w.heap[c]? = some (.cells arr e f)) (hd0 : Ab.Args.dataOk Tryz.prog f0 22 = true) (hd1 : Ab.Args.dataOk Tryz.prog f1 30 = true) :
    Calls Tryz.prog 3 #[.slice sa sl sc, .int .i64 n, .agg cs] w fun e w' => e = .returned (.bool true) ∧ Below w.heap.size w w' := by
  let base : Ab.Env := ⟨w.heap.size, fun n c => Ab.codeOk Tryz.prog n 10 c⟩
  have hchk : ∀ n c, base.chk n c = Ab.codeOk Tryz.prog n 10 c := fun _ _ => rfl
  obtain ⟨σ, ρ, hI⟩ := start (base := base) rfl hg hc
  obtain ⟨σ1, ρ1, c0, i1, k1, l1, v1, a1, t1⟩ := Ab.Args.imp (base := base) (Nat.le_refl _) f0 22 _ _ h0 hd0 σ ρ hI
  obtain ⟨σ2, ρ2, c1, i2, k2, l2, v2, b1, t2⟩ := Ab.Args.imp (base := base) (Nat.le_refl _) f1 30 _ _ h1 hd1 σ1 ρ1 i1
  obtain ⟨v0, rows, g, rfl, hr, hrr⟩ := G.ai_rows Tryz.underlying22 (show Tryz.prog.cellsOf 30 = 46 by kernel_rfl) (a1.mono k2)
  have hE := G.ai_event b1
  have v1' := v1.mono l2
  have e1 : cs = ⟨cs.toList⟩ := rfl
  rw [e1]
  cases v1' with
  | cons vv _ =>
    have hlen : rows.length ≤ 1048576 := by
      obtain ⟨a, c, rfl⟩ := hr.shape
      rw [rel_len vv]; exact hsl
    have hev := G.law_replaces_ok (n := n) hr hlen hE fun r h => G.ai_event (hrr r h)
    refine (Ab.calls_of_ev (base := base) G.mixed hchk G.funcs_okH (G.sums_ok hchk) Tryz.func3 rfl hev i2.rel i2.free i2.glob (.cons vv (.cons (.scal rfl) (.cons (.agg t2 v2) .nil)))).mono ?_
    rintro en w' ⟨r, v', ρ', ⟨σ', rfl⟩, rfl, r1, r2, r3⟩
    refine ⟨?_, below_of (base := base) i2.own r2⟩
    cases r3
    rfl
theorem walk_same {f0 f1 : Nat} {x0 x1 : DataW H × List MemPlace} {s0 s1 t0 t1 : Option Addr} {n0 n1 m0 m1 k0 k1 j0 j1 : Nat} (h0 : DataW.trod enc Tryz.prog w 0 (fun _ => true) true f0 37 [.slice s0 n0 k0, .slice s1 n1 k1] = some x0) (h1 : DataW.trod enc Tryz.prog w 0 (fun _ => true) true f1 37 [.slice t0 m0 j0, .slice t1 m1 j1] = some x1)
    (u0 : n0 ≤ 1048576) (u1 : n1 ≤ 1048576) (u2 : m0 ≤ 1048576) (u3 : m1 ≤ 1048576) (hg : 10 ≤ w.heap.size) {c : Nat} {arr : Array Value} {e : TypeId} {f : Nat × Nat} (hc : w.heap[c]? = some (.cells arr e f)) (hd0 : Ab.Args.dataOk Tryz.prog f0 37 = true) (hd1 : Ab.Args.dataOk Tryz.prog f1 37 = true) :
    Calls Tryz.prog 4 #[.agg ⟨[.slice s0 n0 k0, .slice s1 n1 k1]⟩, .agg ⟨[.slice t0 m0 j0, .slice t1 m1 j1]⟩] w fun e w' => e = .returned (.bool true) ∧ Below w.heap.size w w' := by
  let base : Ab.Env := ⟨w.heap.size, fun n c => Ab.codeOk Tryz.prog n 10 c⟩
  have hchk : ∀ n c, base.chk n c = Ab.codeOk Tryz.prog n 10 c := fun _ _ => rfl
  obtain ⟨σ, ρ, hI⟩ := start (base := base) rfl hg hc
  obtain ⟨σ1, ρ1, c0, i1, k1', l1, v1, a1, t1'⟩ := Ab.Args.imp (base := base) (Nat.le_refl _) f0 37 _ _ h0 hd0 σ ρ hI
  obtain ⟨σ2, ρ2, c1, i2, k2, l2, v2, b1, t2⟩ := Ab.Args.imp (base := base) (Nat.le_refl _) f1 37 _ _ h1 hd1 σ1 ρ1 i1
  have two : ∀ {cs : List Value}, Ab.Args.AbIn Tryz.prog σ2 f0 37 cs ∨ Ab.Args.AbIn Tryz.prog σ2 f1 37 cs → ∃ va vb la lb, cs = [va, vb] ∧ G.ArgInts σ2 va la ∧ G.ArgInts σ2 vb lb := by
    intro cs h
    have hp : ∃ (g : Nat) (ps : List (List Value)), cs = ps.flatten ∧ ps.length = 2 ∧ ∀ p ∈ ps, Ab.Args.AbIn Tryz.prog σ2 g 33 p := by
      rcases h with h | h
      · exact G.ai_array Tryz.underlying37 h
      · exact G.ai_array Tryz.underlying37 h
    obtain ⟨g, ps, rfl, p1, p2⟩ := hp
    match ps, p1, p2 with
    | [x, y], _, p2 =>
      obtain ⟨va, la, rfl, ha⟩ := G.ai_ints Tryz.underlying33 Tryz.underlying3 (by kernel_rfl) (p2 x (by simp))
      obtain ⟨vb, lb, rfl, hb⟩ := G.ai_ints Tryz.underlying33 Tryz.underlying3 (by kernel_rfl) (p2 y (by simp))
      exact ⟨va, vb, la, lb, rfl, ha, hb⟩
  obtain ⟨va, vb, la, lb, rfl, ga, gb⟩ := two (.inl (a1.mono k2))
  obtain ⟨wa, wb, ta, tb, rfl, gc, gd⟩ := two (.inr b1)
  have v1' := v1.mono l2
  have len : ∀ {v : Value} {l : List Int} {sa : Option Addr} {sl sc : Nat}, G.ArgInts σ2 v l → Ab.VRel ρ2 v (.slice sa sl sc) → l.length = sl := by
    intro v l sa sl sc h k
    obtain ⟨a, c, b, off, cells, rfl, -, -⟩ := G.SL.use' h.1
    exact rel_len k
  have e1 : la.length = n0 := by cases v1' with | cons r _ => exact len ga r
  have e2 : lb.length = n1 := by cases v1' with | cons _ r => cases r with | cons r _ => exact len gb r
  have e3 : ta.length = m0 := by cases v2 with | cons r _ => exact len gc r
  have e4 : tb.length = m1 := by cases v2 with | cons _ r => cases r with | cons r _ => exact len gd r
  have hev := G.law_same_ok ga gb gc gd (by omega) (by omega) (by omega) (by omega)
  refine (Ab.calls_of_ev (base := base) G.mixed hchk G.funcs_okH (G.sums_ok hchk) Tryz.func4 rfl hev i2.rel i2.free i2.glob (.cons (.agg t1' v1') (.cons (.agg t2 v2) .nil))).mono ?_
  rintro en w' ⟨r, v', ρ', ⟨σ', rfl⟩, rfl, r1, r2, r3⟩
  refine ⟨?_, below_of (base := base) i2.own r2⟩
  cases r3
  rfl
end
end Go.Proofs.YtaodjmfmheifeaaGreatDoor.doors
