/- probitylaw08.AmendMoves returns true for every input, and each argument reads afterwards as it read before; where the listed package-level variables hold what the program's text lays. -/
import Derived.Test.YtcjkjjnnicadfaaGreatDoorGArgsL
import Derived.Test.YtcjkjjnnicadfaaGreatDoorGSan
import Derived.Test.YtcjkjjnnicadfaaGreatDoorG65
import Derived.Test.YtcjkjjnnicadfaaGreatDoorRows
import Derived.Test.YtcjkjjnnicadfaaGreatDoorCards
import Derived.Test.YtcjkjjnnicadfaaGreatDoorTie
import Derived.WalkKit
import Derived.ProofKit
import Derived.OpenShut
import Derived.ShutString
import Derived.ChangeOld
import Derived.Below
import Derived.LaidMore
import Derived.Stop.Joined
import Derived.SevenTiedAt
import Derived.ChangeReads
set_option linter.unusedSimpArgs false
set_option linter.unusedVariables false
namespace Go.Proofs.YtcjkjjnnicadfaaGreatDoor.amendMoves
open Go Go.ChangeShapes Go.WideShapes Go.ChangeAt Go.RowKit
open Go.ChangeMaps (open_string shut_string)
set_option linter.unusedVariables false
theorem own : ownKnob Tryz.prog.godebug = none := by kernel_rfl
theorem laidOut : laidOutB Tryz.prog = true := by kernel_rfl
theorem below_of {base : Ab.Env} {ρ ρ' : Ab.Place} {σ σ' : Ab.St} {w w' : World} (hN : Ab.NoOwn σ) (h : Ab.Fram ρ σ w ρ' σ' w') : Below w.heap.size w w' :=
 ⟨h.out.os, h.out.tape, h.out.output, h.size, fun c hc => h.keep c hc fun b q B _ _ hB => hN b B hB⟩
theorem start {base : Ab.Env} {w : World} (hb : base.lo = w.heap.size) (hg : 6 ≤ w.heap.size) {c : Nat} {arr : Array Value} {e : TypeId} {f : Nat × Nat} (hc : w.heap[c]? = some (.cells arr e f)) :
  ∃ σ ρ, Ab.Args.Inv base 6 w σ ρ := by
 have hR0 := Ab.gplace_rel (base := base) (G := 6) hg hb
 have hF0 := Ab.gplace_free 6
 have hle : (Ab.gplace 6).le ((Ab.gplace 6).put 6 ⟨c, 0, arr.size⟩) := Ab.Place.put_le _ (hF0 6 (Nat.le_refl _))
 have hcw : c < w.heap.size := by
  rcases Nat.lt_or_ge c w.heap.size with h | h
  ·exact h
  ·rw [Array.getElem?_eq_none h] at hc; cases hc
 have hR1 := Ab.rel_arg (base := base) hR0 (Ab.noOwn_nil 6) hF0 (c := c) (o := 0) (m := arr.size) (cells := []) hc rfl (by simp) (by omega) (fun v hv => by cases hv) (fun i v hi => by simp at hi)
 exact ⟨Ab.St.arg ⟨.nil, 6⟩ [], _, hR1, (Ab.noOwn_nil 6).arg _, Ab.put_free (σ := ⟨.nil, 6⟩) hF0, (Ab.gplace_glob 6).mono hle, 6, by rw [Ab.arg_n]; show 6 < 7; omega, Ab.arg_row _ _, _, Ab.Place.put_same _ _ _⟩
theorem ai_len {P : Program} {σ : Ab.St} {s e : TypeId} (hs : P.underlying s = some (.slice e)) {f : Nat} {v : Value} {l : List Int} (h : Ab.Args.AbIn P σ f s [v]) (hl : G.ArgInts σ v l) : l.length ≤ 9223372036854775807 := by
 obtain ⟨a, c, b, off, cells, rfl, -, -⟩ := hl.1.use
 cases f with
 | zero => exact h.elim
 | succ f =>
  unfold Ab.Args.AbIn at h
  rw [hs] at h
  have hm : maxLen = 9223372036854775807 := by decide
  rcases h with h | ⟨b, rows, cap, h1, h2, h3, -⟩
  ·simp only [List.cons.injEq, Value.slice.injEq] at h
   have := h.1.2.1
   omega
  ·simp only [List.cons.injEq, Value.slice.injEq] at h1
   have := h1.1.2.1
   omega
theorem walk {H : Type} {enc : TypeId × Value → H} {f0 f1 : Nat} {x0 x1 : DataW H × List MemPlace} (sa : Option Addr) (sl sc : Nat) (cs1 : Array Value) (w : World) (h0 : DataW.trod enc Tryz.prog w 0 (fun _ => true) true f0 25 [.slice sa sl sc] = some x0) (h1 : DataW.trod enc Tryz.prog w 0 (fun _ => true) true f1 31 cs1.toList = some x1)
  (hg : 6 ≤ w.heap.size) {c : Nat} {arr : Array Value} {e : TypeId} {f : Nat × Nat} (hc : w.heap[c]? = some (.cells arr e f)) (hd0 : Ab.Args.dataOk Tryz.prog f0 25 = true) (hd1 : Ab.Args.dataOk Tryz.prog f1 31 = true) :
  Calls Tryz.prog 4 #[.slice sa sl sc, .agg cs1] w fun e w' => e = .returned (.bool true) ∧ Below w.heap.size w w' := by
 let base : Ab.Env := ⟨w.heap.size, fun n c => Ab.codeOk Tryz.prog n 6 c⟩
 have hchk : ∀ n c, base.chk n c = Ab.codeOk Tryz.prog n 6 c := fun _ _ => rfl
 obtain ⟨σ, ρ, hI⟩ := start (base := base) rfl hg hc
 obtain ⟨σ1, ρ1, c0, i1, k1, l1, v1, a1, t1⟩ := Ab.Args.imp (base := base) (Nat.le_refl _) f0 25 _ _ h0 hd0 σ ρ hI
 obtain ⟨σ2, ρ2, c1, i2, k2, l2, v2, a2, t2⟩ := Ab.Args.imp (base := base) (Nat.le_refl _) f1 31 _ _ h1 hd1 σ1 ρ1 i1
 have a1' := (a1).mono k2
 obtain ⟨v0, ls, rfl, g1⟩ := G.ai_ints Tryz.underlying25 Tryz.underlying3 (by kernel_rfl) a1'
 have hlen := ai_len Tryz.underlying25 a1' g1
 have b1 := a2
 obtain ⟨p0, p1, p2, q0, q1, q2, hcs, hp, hq⟩ := G.pair_in b1
 subst hcs
 have hev := G.law_moves_ok g1 hlen hp hq
 have e1 : cs1 = ⟨cs1.toList⟩ := rfl
 rw [e1]
 have v1' := (v1).mono l2
 cases v1' with
 | cons vv _ =>
  refine (Ab.calls_of_ev (base := base) G.mixed hchk (Ab.funcsOk_sums G.funcs_ok) (G.sums_ok hchk) Tryz.func4 rfl hev i2.rel i2.free i2.glob (.cons vv (.cons (.agg t2 (v2)) .nil))).mono ?_
  rintro en w' ⟨r, v', ρ', ⟨σ', rfl⟩, rfl, r1, r2, r3⟩
  refine ⟨?_, below_of (base := base) i2.own r2⟩
  cases r3
  rfl
theorem dataOk25 (m : Nat) : Ab.Args.dataOk Tryz.prog (m + 6) 25 = true := by kernel_rfl
theorem dataOk31 (m : Nat) : Ab.Args.dataOk Tryz.prog (m + 6) 31 = true := by kernel_rfl
theorem globals_of {W : World} (h : laidMetH Tryz.prog Rows.amendMovesRow.laid W) : 6 ≤ W.heap.size ∧ ∃ (c : Nat) (arr : Array Value) (e : TypeId) (f : Nat × Nat), W.heap[c]? = some (.cells arr e f) := by
 rw [MakeChecks.laidMetH_plain _ _ _ (by kernel_rfl)] at h
 obtain ⟨ps, hv, -, -⟩ := h
 obtain ⟨g0, t0, cs0, f0, p0, q0, hg0, ht0, hv0, hd0, hv, -⟩ := hv
 obtain ⟨g1, t1, cs1, f1, p1, q1, hg1, ht1, hv1, hd1, -, -⟩ := hv
 have e : Tryz.prog.globalNamed "math/bits.deBruijn64tab" = some 5 := by kernel_rfl
 obtain rfl := Option.some.inj (e.symm.trans hg1)
 simp only [World.var?, hg1, Option.bind_some] at hv1
 refine ⟨?_, 5, ?_⟩
 ·rcases Nat.lt_or_ge 5 W.heap.size with h | h
  ·exact h
  ·rw [Array.getElem?_eq_none h] at hv1; cases hv1
 ·split at hv1
  ·rename_i hh; exact ⟨_, _, _, hh⟩
  ·cases hv1
theorem door_met (os : Os) (args : Array Value) : laidMetH Tryz.prog Rows.amendMovesRow.laid ((World.doorLaid Tryz.prog 400 os).forCall (fun _ _ => 0) ⟨#[], args, []⟩).memory :=
 laidMetH_of_parts3 (fuel := 8) (laidMet_of_run' 8 (by kernel_rfl) (by kernel_rfl)) (by kernel_rfl) (by kernel_rfl)
theorem okWide_arr {P : Program} {w : World} {r : Reach} {base : Nat} {t e : TypeId} {n : Nat} {v : Value} (ht : P.underlying t = some (.array n e)) (h : Value.okWide P w r base t v) : ∃ cs, v = .agg cs := by
 unfold Value.okWide at h
 rw [ht] at h
 obtain ⟨cs, h, -⟩ := h
 exact ⟨cs, h⟩
set_option maxRecDepth 100000 in
theorem lifted (os : Os) (started : os.Started) (H : Type) (enc : TypeId × Value → H) :
  ReturnsInHanded {} Tryz.checked os 4 .any (fun w args => (Rows.amendMovesSpec.pre enc Tryz.prog Tryz.f4 Rows.amendMovesRow.domain false w args ∧ laidMetH Tryz.prog Rows.amendMovesRow.laid w) ∧ sizedMet enc Tryz.prog Tryz.f4 (OpenSpec.ofChange Rows.amendMovesSpec) false w args)
   (Rows.amendMovesSpec.post enc Tryz.prog Tryz.f4 false true false false) := by
 refine returnsInHanded_of_change_and (C := Tryz.checked) (X := fun w _ => laidMetH Tryz.prog Rows.amendMovesRow.laid w) (fun _ _ _ hh h => h.of_heap hh) own started (by kernel_rfl) Tryz.func4
  (ChangeSpec.witness_shaped (enc := enc) (C := Tryz.checked) (os := os) (X := fun w _ => laidMetH Tryz.prog Rows.amendMovesRow.laid w) false (World.doorLaid Tryz.prog 400 os) #[.slice none 0 0, .agg #[.int .i64 0, .int .i64 0, .int .i64 0, .int .i64 0, .int .i64 0, .int .i64 0]] 8 rfl (World.shaped_of_RefB (by kernel_rfl) (by kernel_rfl)) (by kernel_rfl) (by kernel_rfl) (by kernel_rfl) (door_met os _)) ?_
 intro W base args ds gs before hval0 hW hcnd _ hL _
 have hval : ∀ (j : Nat) t v, Tryz.f4.params[j]? = some t → args[j]? = some v → Value.okWide Tryz.prog W .any base t v := hval0
 have hW' := hW
 obtain ⟨p, q, hA0, hV, rfl, hfz, hnd⟩ := hW
 have hA : DataW.TrodAll enc Tryz.prog W 0 (fun _ => true) true Tryz.f4.params.toList args.toList ds p := hA0
 rw [Tryz.params4] at hA hval
 obtain ⟨v0, vs0, d0, ds0, p0, q0, hargs, rfl, rfl, h0, r0⟩ := trodAll_cons hA
 obtain ⟨v1, vs1, d1, ds1, p1, q1, rfl, rfl, rfl, h1, r1⟩ := trodAll_cons r0
 obtain ⟨rfl, rfl, rfl⟩ := trodAll_nil r1
 obtain rfl : args = #[v0, v1] := by cases args; simp_all
 obtain ⟨rfl, rfl⟩ := trodVars_none hV
 obtain ⟨sa, sl, sc, rfl⟩ := okWide_slice Tryz.underlying25 (hval 0 25 v0 rfl rfl)
 obtain ⟨cs1, rfl⟩ := okWide_arr Tryz.underlying31 (hval 1 31 v1 rfl rfl)
 have k0 := h0
 have k1 := h1
 have lt0 : ∀ x ∈ p0, x.block < W.heap.size := by obtain ⟨m, hm⟩ := k0; exact DataW.trod_lt m _ _ _ hm
 have lt1 : ∀ x ∈ p1, x.block < W.heap.size := by obtain ⟨m, hm⟩ := k1; exact DataW.trod_lt m _ _ _ hm
 obtain ⟨hgl, c, arr, e, f, hc⟩ := globals_of hL
 obtain ⟨m0, hm0⟩ := h0
 obtain ⟨m1, hm1⟩ := h1
 have hm0' := DataW.trod_le (Nat.le_add_right m0 6) hm0
 have hm1' := DataW.trod_le (Nat.le_add_right m1 6) hm1
 clear hA0 hval0
 refine (walk sa sl sc cs1 W hm0' hm1' hgl hc (dataOk25 m0) (dataOk31 m1)).mono fun e W' ⟨he, bel⟩ => ?_
 subst he
 exact ⟨_, rfl, _, _, _, [], _, [], hW', trodAll_mk1 (shut_bool Tryz.underlying4 _), (trodAll_cons_mk (Below.trod laidOut (by kernel_rfl) (of_decide_eq_true (by kernel_rfl)) k0 bel lt0) (trodAll_cons_mk (Below.trod laidOut (by kernel_rfl) (of_decide_eq_true (by kernel_rfl)) k1 bel lt1) trodAll_mk0)), rfl, bel.frame _, fun h => by cases h⟩
theorem over : Rows.AmendMovesSaid :=
 OpenClaim.holds_of_wide 4 Tryz.f4 rfl rfl rfl rfl rfl rfl rfl ⟨rfl, rfl, rfl, rfl, rfl⟩ rfl rfl rfl rfl rfl (by kernel_rfl) Tryz.func4 (by kernel_rfl)
  (of_decide_eq_true (by kernel_rfl)) (by unfold Func.isWrapper; rw [if_neg (of_decide_eq_false (by kernel_rfl))]; exact ⟨rfl, rfl⟩)
  (fun os started H enc _ => lifted os started H enc)
theorem proved : Rows.AmendMovesCardSaid :=
 Claim7.holds_tied_plain_at .later [] [.data, .data, .data, .sentinel, .sentinel] true (true, "5c856003e50e6a628c2a486b60bfb28e482fe4ddcf9d9821475f9119c717941a") true
  over (fun _ h => by cases h) (by kernel_rfl) (fun _ h => by cases h) amendMoves_row_tie rfl ⟨rfl, rfl⟩ (by kernel_rfl) rfl
  (fun f fn hf hfn => by
   obtain rfl : f = 4 := Option.some.inj ((show Tryz.prog.funcNamed "probity/probitylaw08.AmendMoves" = some 4 by kernel_rfl).symm.trans hf) |>.symm
   obtain rfl : fn = Tryz.f4 := (Option.some.inj (Tryz.func4.symm.trans hfn)).symm
   exact ⟨by kernel_rfl, fun j t ht => by
    rw [Tryz.params4] at ht
    have hm : t ∈ [25, 31] := by simpa using Array.mem_of_getElem? ht
    have hall : ([25, 31].all fun u => !Tryz.prog.wantsStandIn u) = true := by kernel_rfl
    exact (show Tryz.prog.wantsStandIn t = false by simpa using List.all_eq_true.1 hall t hm)⟩)
  (by kernel_rfl)
#print axioms proved
end Go.Proofs.YtcjkjjnnicadfaaGreatDoor.amendMoves
