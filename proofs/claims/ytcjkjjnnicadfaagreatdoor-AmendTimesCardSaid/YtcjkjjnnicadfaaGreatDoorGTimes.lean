/- probitylaw08.AmendTimes returns true for every input, and each argument reads afterwards as it read before; where the listed package-level variables hold what the program's text lays. -/
import Derived.Test.YtcjkjjnnicadfaaGreatDoorGArgsL
import Derived.Test.YtcjkjjnnicadfaaGreatDoorGSan
import Derived.Test.YtcjkjjnnicadfaaGreatDoorG66
import Derived.Test.YtcjkjjnnicadfaaGreatDoorRows
import Derived.Test.YtcjkjjnnicadfaaGreatDoorCards
import Derived.Test.YtcjkjjnnicadfaaGreatDoorTie
import Derived.WalkKit
import Derived.ProofKit
import Derived.OpenShut
import Derived.ShutString
import Derived.ChangeOld
import Derived.Below
import Derived.LaidMore
import Derived.Stop.Joined
import Derived.SevenTiedAt
import Derived.ChangeReads
set_option linter.unusedSimpArgs false
set_option linter.unusedVariables false
namespace Go.Proofs.YtcjkjjnnicadfaaGreatDoor.amendTimes
open Go Go.ChangeShapes Go.WideShapes Go.ChangeAt Go.RowKit
open Go.ChangeMaps (open_string shut_string)
set_option linter.unusedVariables false
theorem own : ownKnob Tryz.prog.godebug = none := by kernel_rfl
theorem laidOut : laidOutB Tryz.prog = true := by kernel_rfl
theorem below_of {base : Ab.Env} {ρ ρ' : Ab.Place} {σ σ' : Ab.St} {w w' : World} (hN : Ab.NoOwn σ) (h : Ab.Fram ρ σ w ρ' σ' w') : Below w.heap.size w w' :=
 ⟨h.out.os, h.out.tape, h.out.output, h.size, fun c hc => h.keep c hc fun b q B _ _ hB => hN b B hB⟩
theorem start {base : Ab.Env} {w : World} (hb : base.lo = w.heap.size) (hg : 6 ≤ w.heap.size) {c : Nat} {arr : Array Value} {e : TypeId} {f : Nat × Nat} (hc : w.heap[c]? = some (.cells arr e f)) :
  ∃ σ ρ, Ab.Args.Inv base 6 w σ ρ := by
 have hR0 := Ab.gplace_rel (base := base) (G := 6) hg hb
 have hF0 := Ab.gplace_free 6
 have hle : (Ab.gplace 6).le ((Ab.gplace 6).put 6 ⟨c, 0, arr.size⟩) := Ab.Place.put_le _ (hF0 6 (Nat.le_refl _))
 have hcw : c < w.heap.size := by
  rcases Nat.lt_or_ge c w.heap.size with h | h
  ·exact h
  ·rw [Array.getElem?_eq_none h] at hc; cases hc
 have hR1 := Ab.rel_arg (base := base) hR0 (Ab.noOwn_nil 6) hF0 (c := c) (o := 0) (m := arr.size) (cells := []) hc rfl (by simp) (by omega) (fun v hv => by cases hv) (fun i v hi => by simp at hi)
 exact ⟨Ab.St.arg ⟨.nil, 6⟩ [], _, hR1, (Ab.noOwn_nil 6).arg _, Ab.put_free (σ := ⟨.nil, 6⟩) hF0, (Ab.gplace_glob 6).mono hle, 6, by rw [Ab.arg_n]; show 6 < 7; omega, Ab.arg_row _ _, _, Ab.Place.put_same _ _ _⟩
theorem ai_len {P : Program} {σ : Ab.St} {s e : TypeId} (hs : P.underlying s = some (.slice e)) {f : Nat} {v : Value} {l : List Int} (h : Ab.Args.AbIn P σ f s [v]) (hl : G.ArgInts σ v l) : l.length ≤ 9223372036854775807 := by
 obtain ⟨a, c, b, off, cells, rfl, -, -⟩ := hl.1.use
 cases f with
 | zero => exact h.elim
 | succ f =>
  unfold Ab.Args.AbIn at h
  rw [hs] at h
  have hm : maxLen = 9223372036854775807 := by decide
  rcases h with h | ⟨b, rows, cap, h1, h2, h3, -⟩
  ·simp only [List.cons.injEq, Value.slice.injEq] at h
   have := h.1.2.1
   omega
  ·simp only [List.cons.injEq, Value.slice.injEq] at h1
   have := h1.1.2.1
   omega
theorem u16_in {P : Program} {σ : Ab.St} {t : TypeId} (ht : P.underlying t = some (.int .u16)) {f : Nat} {cs : List Value} (h : Ab.Args.AbIn P σ f t cs) : ∃ n : Int, cs = [.int .u16 n] ∧ 0 ≤ n ∧ n < 65536 := by
 cases f with
 | zero => exact h.elim
 | succ f =>
  unfold Ab.Args.AbIn at h
  rw [ht] at h
  obtain ⟨n, h1, h2⟩ := h
  have e1 : IntKind.u16.min = 0 := rfl
  have e2 : IntKind.u16.max = 65535 := rfl
  simp only [Lit.wf, Bool.and_eq_true, decide_eq_true_eq, e1, e2] at h2
  exact ⟨n, h1, h2.1, by omega⟩
theorem five_in {σ : Ab.St} {f : Nat} {cs : List Value} (h : Ab.Args.AbIn Tryz.prog σ f 61 cs) : ∃ a0 a1 a2 a3 a4 : Int, cs = [.int .u16 a0, .int .u16 a1, .int .u16 a2, .int .u16 a3, .int .u16 a4] ∧ (0 ≤ a0 ∧ a0 < 65536) ∧ (0 ≤ a1 ∧ a1 < 65536) ∧ (0 ≤ a2 ∧ a2 < 65536) ∧ (0 ≤ a3 ∧ a3 < 65536) ∧ (0 ≤ a4 ∧ a4 < 65536) := by
 obtain ⟨g, ps, rfl, p1, p2⟩ := G.ai_array Tryz.underlying61 h
 match ps, p1, p2 with
 | [x0, x1, x2, x3, x4], _, p2 =>
  obtain ⟨n0, rfl, m0⟩ := u16_in Tryz.underlying60 (p2 x0 (by simp))
  obtain ⟨n1, rfl, m1⟩ := u16_in Tryz.underlying60 (p2 x1 (by simp))
  obtain ⟨n2, rfl, m2⟩ := u16_in Tryz.underlying60 (p2 x2 (by simp))
  obtain ⟨n3, rfl, m3⟩ := u16_in Tryz.underlying60 (p2 x3 (by simp))
  obtain ⟨n4, rfl, m4⟩ := u16_in Tryz.underlying60 (p2 x4 (by simp))
  exact ⟨n0, n1, n2, n3, n4, rfl, m0, m1, m2, m3, m4⟩
theorem walk {H : Type} {enc : TypeId × Value → H} {f0 f1 f2 : Nat} {x0 x1 x2 : DataW H × List MemPlace} (sa : Option Addr) (sl sc : Nat) (cs1 cs2 : Array Value) (w : World) (h0 : DataW.trod enc Tryz.prog w 0 (fun _ => true) true f0 25 [.slice sa sl sc] = some x0) (h1 : DataW.trod enc Tryz.prog w 0 (fun _ => true) true f1 30 cs1.toList = some x1) (h2 : DataW.trod enc Tryz.prog w 0 (fun _ => true) true f2 61 cs2.toList = some x2)
  (hg : 6 ≤ w.heap.size) {c : Nat} {arr : Array Value} {e : TypeId} {f : Nat × Nat} (hc : w.heap[c]? = some (.cells arr e f)) (hd0 : Ab.Args.dataOk Tryz.prog f0 25 = true) (hd1 : Ab.Args.dataOk Tryz.prog f1 30 = true) (hd2 : Ab.Args.dataOk Tryz.prog f2 61 = true) :
  Calls Tryz.prog 5 #[.slice sa sl sc, .agg cs1, .agg cs2] w fun e w' => e = .returned (.bool true) ∧ Below w.heap.size w w' := by
 let base : Ab.Env := ⟨w.heap.size, fun n c => Ab.codeOk Tryz.prog n 6 c⟩
 have hchk : ∀ n c, base.chk n c = Ab.codeOk Tryz.prog n 6 c := fun _ _ => rfl
 obtain ⟨σ, ρ, hI⟩ := start (base := base) rfl hg hc
 obtain ⟨σ1, ρ1, c0, i1, k1, l1, v1, a1, t1⟩ := Ab.Args.imp (base := base) (Nat.le_refl _) f0 25 _ _ h0 hd0 σ ρ hI
 obtain ⟨σ2, ρ2, c1, i2, k2, l2, v2, a2, t2⟩ := Ab.Args.imp (base := base) (Nat.le_refl _) f1 30 _ _ h1 hd1 σ1 ρ1 i1
 obtain ⟨σ3, ρ3, c2, i3, k3, l3, v3, a3, t3⟩ := Ab.Args.imp (base := base) (Nat.le_refl _) f2 61 _ _ h2 hd2 σ2 ρ2 i2
 have a1' := ((a1).mono k2).mono k3
 obtain ⟨v0, ls, rfl, g1⟩ := G.ai_ints Tryz.underlying25 Tryz.underlying3 (by kernel_rfl) a1'
 have hlen := ai_len Tryz.underlying25 a1' g1
 have b1 := (a2).mono k3
 have b2 := a3
 obtain ⟨q0, q1, q2, hcs, hp⟩ := G.tri_in b1
 obtain ⟨r0, r1, r2, r3, r4, hcs', y0, y1, y2, y3, y4⟩ := five_in b2
 subst hcs hcs'
 have hev := G.law_times_ok g1 hlen hp y0 y1 y2 y3 y4
 have e1 : cs1 = ⟨cs1.toList⟩ := rfl
 have e2 : cs2 = ⟨cs2.toList⟩ := rfl
 rw [e1, e2]
 have v1' := ((v1).mono l2).mono l3
 cases v1' with
 | cons vv _ =>
  refine (Ab.calls_of_ev (base := base) G.mixed hchk (Ab.funcsOk_sums G.funcs_ok) (G.sums_ok hchk) Tryz.func5 rfl hev i3.rel i3.free i3.glob (.cons vv (.cons (.agg t2 ((v2).mono l3)) (.cons (.agg t3 (v3)) .nil)))).mono ?_
  rintro en w' ⟨r, v', ρ', ⟨σ', rfl⟩, rfl, r1, r2, r3⟩
  refine ⟨?_, below_of (base := base) i3.own r2⟩
  cases r3
  rfl
theorem dataOk25 (m : Nat) : Ab.Args.dataOk Tryz.prog (m + 6) 25 = true := by kernel_rfl
theorem dataOk30 (m : Nat) : Ab.Args.dataOk Tryz.prog (m + 6) 30 = true := by kernel_rfl
theorem dataOk61 (m : Nat) : Ab.Args.dataOk Tryz.prog (m + 6) 61 = true := by kernel_rfl
theorem globals_of {W : World} (h : laidMetH Tryz.prog Rows.amendTimesRow.laid W) : 6 ≤ W.heap.size ∧ ∃ (c : Nat) (arr : Array Value) (e : TypeId) (f : Nat × Nat), W.heap[c]? = some (.cells arr e f) := by
 rw [MakeChecks.laidMetH_plain _ _ _ (by kernel_rfl)] at h
 obtain ⟨ps, hv, -, -⟩ := h
 obtain ⟨g0, t0, cs0, f0, p0, q0, hg0, ht0, hv0, hd0, hv, -⟩ := hv
 obtain ⟨g1, t1, cs1, f1, p1, q1, hg1, ht1, hv1, hd1, -, -⟩ := hv
 have e : Tryz.prog.globalNamed "math/bits.deBruijn64tab" = some 5 := by kernel_rfl
 obtain rfl := Option.some.inj (e.symm.trans hg1)
 simp only [World.var?, hg1, Option.bind_some] at hv1
 refine ⟨?_, 5, ?_⟩
 ·rcases Nat.lt_or_ge 5 W.heap.size with h | h
  ·exact h
  ·rw [Array.getElem?_eq_none h] at hv1; cases hv1
 ·split at hv1
  ·rename_i hh; exact ⟨_, _, _, hh⟩
  ·cases hv1
theorem door_met (os : Os) (args : Array Value) : laidMetH Tryz.prog Rows.amendTimesRow.laid ((World.doorLaid Tryz.prog 400 os).forCall (fun _ _ => 0) ⟨#[], args, []⟩).memory :=
 laidMetH_of_parts3 (fuel := 8) (laidMet_of_run' 8 (by kernel_rfl) (by kernel_rfl)) (by kernel_rfl) (by kernel_rfl)
theorem okWide_arr {P : Program} {w : World} {r : Reach} {base : Nat} {t e : TypeId} {n : Nat} {v : Value} (ht : P.underlying t = some (.array n e)) (h : Value.okWide P w r base t v) : ∃ cs, v = .agg cs := by
 unfold Value.okWide at h
 rw [ht] at h
 obtain ⟨cs, h, -⟩ := h
 exact ⟨cs, h⟩
set_option maxRecDepth 100000 in
theorem lifted (os : Os) (started : os.Started) (H : Type) (enc : TypeId × Value → H) :
  ReturnsInHanded {} Tryz.checked os 5 .any (fun w args => (Rows.amendTimesSpec.pre enc Tryz.prog Tryz.f5 Rows.amendTimesRow.domain false w args ∧ laidMetH Tryz.prog Rows.amendTimesRow.laid w) ∧ sizedMet enc Tryz.prog Tryz.f5 (OpenSpec.ofChange Rows.amendTimesSpec) false w args)
   (Rows.amendTimesSpec.post enc Tryz.prog Tryz.f5 false true false false) := by
 refine returnsInHanded_of_change_and (C := Tryz.checked) (X := fun w _ => laidMetH Tryz.prog Rows.amendTimesRow.laid w) (fun _ _ _ hh h => h.of_heap hh) own started (by kernel_rfl) Tryz.func5
  (ChangeSpec.witness_shaped (enc := enc) (C := Tryz.checked) (os := os) (X := fun w _ => laidMetH Tryz.prog Rows.amendTimesRow.laid w) false (World.doorLaid Tryz.prog 400 os) #[.slice none 0 0, .agg #[.int .i64 0, .int .i64 0, .int .i64 0], .agg #[.int .u16 0, .int .u16 0, .int .u16 0, .int .u16 0, .int .u16 0]] 8 rfl (World.shaped_of_RefB (by kernel_rfl) (by kernel_rfl)) (by kernel_rfl) (by kernel_rfl) (by kernel_rfl) (door_met os _)) ?_
 intro W base args ds gs before hval0 hW hcnd _ hL _
 have hval : ∀ (j : Nat) t v, Tryz.f5.params[j]? = some t → args[j]? = some v → Value.okWide Tryz.prog W .any base t v := hval0
 have hW' := hW
 obtain ⟨p, q, hA0, hV, rfl, hfz, hnd⟩ := hW
 have hA : DataW.TrodAll enc Tryz.prog W 0 (fun _ => true) true Tryz.f5.params.toList args.toList ds p := hA0
 rw [Tryz.params5] at hA hval
 obtain ⟨v0, vs0, d0, ds0, p0, q0, hargs, rfl, rfl, h0, r0⟩ := trodAll_cons hA
 obtain ⟨v1, vs1, d1, ds1, p1, q1, rfl, rfl, rfl, h1, r1⟩ := trodAll_cons r0
 obtain ⟨v2, vs2, d2, ds2, p2, q2, rfl, rfl, rfl, h2, r2⟩ := trodAll_cons r1
 obtain ⟨rfl, rfl, rfl⟩ := trodAll_nil r2
 obtain rfl : args = #[v0, v1, v2] := by cases args; simp_all
 obtain ⟨rfl, rfl⟩ := trodVars_none hV
 obtain ⟨sa, sl, sc, rfl⟩ := okWide_slice Tryz.underlying25 (hval 0 25 v0 rfl rfl)
 obtain ⟨cs1, rfl⟩ := okWide_arr Tryz.underlying30 (hval 1 30 v1 rfl rfl)
 obtain ⟨cs2, rfl⟩ := okWide_arr Tryz.underlying61 (hval 2 61 v2 rfl rfl)
 have k0 := h0
 have k1 := h1
 have k2 := h2
 have lt0 : ∀ x ∈ p0, x.block < W.heap.size := by obtain ⟨m, hm⟩ := k0; exact DataW.trod_lt m _ _ _ hm
 have lt1 : ∀ x ∈ p1, x.block < W.heap.size := by obtain ⟨m, hm⟩ := k1; exact DataW.trod_lt m _ _ _ hm
 have lt2 : ∀ x ∈ p2, x.block < W.heap.size := by obtain ⟨m, hm⟩ := k2; exact DataW.trod_lt m _ _ _ hm
 obtain ⟨hgl, c, arr, e, f, hc⟩ := globals_of hL
 obtain ⟨m0, hm0⟩ := h0
 obtain ⟨m1, hm1⟩ := h1
 obtain ⟨m2, hm2⟩ := h2
 have hm0' := DataW.trod_le (Nat.le_add_right m0 6) hm0
 have hm1' := DataW.trod_le (Nat.le_add_right m1 6) hm1
 have hm2' := DataW.trod_le (Nat.le_add_right m2 6) hm2
 clear hA0 hval0
 refine (walk sa sl sc cs1 cs2 W hm0' hm1' hm2' hgl hc (dataOk25 m0) (dataOk30 m1) (dataOk61 m2)).mono fun e W' ⟨he, bel⟩ => ?_
 subst he
 exact ⟨_, rfl, _, _, _, [], _, [], hW', trodAll_mk1 (shut_bool Tryz.underlying4 _), (trodAll_cons_mk (Below.trod laidOut (by kernel_rfl) (of_decide_eq_true (by kernel_rfl)) k0 bel lt0) (trodAll_cons_mk (Below.trod laidOut (by kernel_rfl) (of_decide_eq_true (by kernel_rfl)) k1 bel lt1) (trodAll_cons_mk (Below.trod laidOut (by kernel_rfl) (of_decide_eq_true (by kernel_rfl)) k2 bel lt2) trodAll_mk0))), rfl, bel.frame _, fun h => by cases h⟩
theorem over : Rows.AmendTimesSaid :=
 OpenClaim.holds_of_wide 5 Tryz.f5 rfl rfl rfl rfl rfl rfl rfl ⟨rfl, rfl, rfl, rfl, rfl⟩ rfl rfl rfl rfl rfl (by kernel_rfl) Tryz.func5 (by kernel_rfl)
  (of_decide_eq_true (by kernel_rfl)) (by unfold Func.isWrapper; rw [if_neg (of_decide_eq_false (by kernel_rfl))]; exact ⟨rfl, rfl⟩)
  (fun os started H enc _ => lifted os started H enc)
theorem proved : Rows.AmendTimesCardSaid :=
 Claim7.holds_tied_plain_at .later [] [.data, .data, .data, .sentinel, .sentinel] true (true, "5c856003e50e6a628c2a486b60bfb28e482fe4ddcf9d9821475f9119c717941a") true
  over (fun _ h => by cases h) (by kernel_rfl) (fun _ h => by cases h) amendTimes_row_tie rfl ⟨rfl, rfl⟩ (by kernel_rfl) rfl
  (fun f fn hf hfn => by
   obtain rfl : f = 5 := Option.some.inj ((show Tryz.prog.funcNamed "probity/probitylaw08.AmendTimes" = some 5 by kernel_rfl).symm.trans hf) |>.symm
   obtain rfl : fn = Tryz.f5 := (Option.some.inj (Tryz.func5.symm.trans hfn)).symm
   exact ⟨by kernel_rfl, fun j t ht => by
    rw [Tryz.params5] at ht
    have hm : t ∈ [25, 30, 61] := by simpa using Array.mem_of_getElem? ht
    have hall : ([25, 30, 61].all fun u => !Tryz.prog.wantsStandIn u) = true := by kernel_rfl
    exact (show Tryz.prog.wantsStandIn t = false by simpa using List.all_eq_true.1 hall t hm)⟩)
  (by kernel_rfl)
#print axioms proved
end Go.Proofs.YtcjkjjnnicadfaaGreatDoor.amendTimes
