/- probitylaw25.ForkSame: the contract of the row, for inputs of a bounded bulk. -/
import Derived.Test.YtaodjmfmheifeaaGreatDoorKUpA
import Derived.Test.YtaodjmfmheifeaaGreatDoorKUpB
import Derived.Test.YtaodjmfmheifeaaGreatDoorKUpC
import Derived.Test.YtaodjmfmheifeaaGreatDoorKUpD
import Derived.Test.YtaodjmfmheifeaaGreatDoorKUpE
import Derived.Test.YtaodjmfmheifeaaGreatDoorKLay
import Derived.WalkKit
import Derived.ProofKit
import Derived.OpenShut
import Derived.ShutString
import Derived.ChangeOld
import Derived.Below
import Derived.LaidMore
import Derived.Lay
import Derived.Stop.Joined
import Derived.SevenTiedAt
import Derived.ChangeReads
import Derived.Deep.DeepHandedRow
import Derived.Test.YtaodjmfmheifeaaGreatDoorKJ4
import Derived.JoinedCond
set_option linter.unusedSimpArgs false
set_option linter.unusedVariables false
namespace Go.Proofs.YtaodjmfmheifeaaGreatDoor.doors
open Go Go.ChangeShapes Go.WideShapes Go.ChangeAt Go.RowKit
set_option linter.unusedVariables false
set_option maxRecDepth 100000 in
theorem forkSame_reads (os : Os) {H : Type} (enc : TypeId × Value → H) : DataW.whole enc Tryz.prog ((World.laidAll Tryz.prog os Rows.forkNilRow.laid).forCall (fun _ _ => 0) ⟨#[], #[.agg #[.slice none 0 0, .slice none 0 0], .agg #[.slice none 0 0, .slice none 0 0]], []⟩).memory Tryz.f4.params.toList Rows.forkSameSpec.vars false (#[.agg #[.slice none 0 0, .slice none 0 0], .agg #[.slice none 0 0, .slice none 0 0]] : Array Value).toList 8 = some ([.agg [.nil, .nil], .agg [.nil, .nil]], [], []) := by kernel_rfl
set_option maxRecDepth 100000 in
theorem forkSame_lifted (os : Os) (started : os.Started) (H : Type) (enc : TypeId × Value → H) (F : Stop.Interp) :
    ReturnsInHanded {} Tryz.checked os 4 .any ((Rows.OpenSpec.upto Rows.forkSameSpec).preRow enc Tryz.prog Tryz.f4 Rows.forkSameUptoRow.domain false Rows.forkSameUptoRow.laid) (((Rows.OpenSpec.upto Rows.forkSameSpec).at F).post enc Tryz.prog Tryz.f4 false true false false) := by
  refine returnsInHanded_of_row (C := Tryz.checked) (s := Rows.OpenSpec.upto Rows.forkSameSpec) own started (by kernel_rfl) Tryz.func4
    (witness_row_shaped (enc := enc) (C := Tryz.checked) false (World.laidAll Tryz.prog os Rows.forkNilRow.laid) #[.agg #[.slice none 0 0, .slice none 0 0], .agg #[.slice none 0 0, .slice none 0 0]] (World.laidAll_os _ _ _) (shaped os _) (by kernel_rfl)
      (OpenSpec.preRow_of_cond 8 (forkSame_reads os enc) (by kernel_rfl) (fun k hk => by cases hk; kernel_rfl) (by kernel_rfl) (door_met os _))) ?_
  intro W base args ds gs before hval0 hW _ hcond _ hL _ _
  have hval : ∀ (j : Nat) t v, Tryz.f4.params[j]? = some t → args[j]? = some v → Value.okWide Tryz.prog W .any base t v := hval0
  have hW' := hW
  obtain ⟨p, q, hA0, hV, rfl, hfz, hnd⟩ := hW
  have hA : DataW.TrodAll enc Tryz.prog W 0 (fun _ => true) true Tryz.f4.params.toList args.toList ds p := hA0
  rw [Tryz.params4] at hA hval
  obtain ⟨v0, vs0, d0, ds0, p0, q0, hargs, rfl, rfl, h0, r0⟩ := trodAll_cons hA
  obtain ⟨v1, vs1, d1, ds1, p1, q1, rfl, rfl, rfl, h1, r1⟩ := trodAll_cons r0
  obtain ⟨rfl, rfl, rfl⟩ := trodAll_nil r1
  obtain rfl : args = #[v0, v1] := by cases args; simp_all
  obtain ⟨rfl, rfl⟩ := trodVars_none hV
  obtain ⟨cs0, rfl⟩ := okWide_arr Tryz.underlying37 (hval 0 37 v0 rfl rfl)
  obtain ⟨cs1, rfl⟩ := okWide_arr Tryz.underlying37 (hval 1 37 v1 rfl rfl)
  have k0 := h0
  have k1 := h1
  have lt0 : ∀ x ∈ p0, x.block < W.heap.size := by obtain ⟨m, hm⟩ := k0; exact DataW.trod_lt m _ _ _ hm
  have lt1 : ∀ x ∈ p1, x.block < W.heap.size := by obtain ⟨m, hm⟩ := k1; exact DataW.trod_lt m _ _ _ hm
  obtain ⟨hgl, c, arr, e, f, hc⟩ := globals_of hL
  obtain ⟨m0, hm0⟩ := h0
  obtain ⟨m1, hm1⟩ := h1
  have bulk := of_decide_eq_true (hcond _ rfl)
  have b0 := bulks.part_le (d := d0) (l := ([d0, d1] ++ [] : List (DataW H))) (by simp)
  have b1 := bulks.part_le (d := d1) (l := ([d0, d1] ++ [] : List (DataW H))) (by simp)
  have hm0' := DataW.trod_le (Nat.le_add_right m0 6) hm0
  have hm1' := DataW.trod_le (Nat.le_add_right m1 6) hm1
  have e0 : cs0 = ⟨cs0.toList⟩ := rfl
  have e1 : cs1 = ⟨cs1.toList⟩ := rfl
  obtain ⟨s0, n0, j0, s1, n1, j1, hc0, u0, u1⟩ := two_slices (r := .any) (b0 := 0) Tryz.underlying37 Tryz.underlying33 (by kernel_rfl) (by kernel_rfl) hm0'
  obtain ⟨t0, n2, j2, t1, n3, j3, hc1, u2, u3⟩ := two_slices (r := .any) (b0 := 0) Tryz.underlying37 Tryz.underlying33 (by kernel_rfl) (by kernel_rfl) hm1'
  obtain ⟨l0⟩ := cs0
  obtain ⟨l1⟩ := cs1
  have hc0 : l0 = _ := hc0
  have hc1 : l1 = _ := hc1
  subst hc0
  subst hc1
  clear hA0 hval0
  refine (walk_same hm0' hm1' (by omega) (by omega) (by omega) (by omega) hgl hc (dataOk37 m0) (dataOk37 m1)).mono fun e W' ⟨he, bel⟩ => ?_
  subst he
  exact ⟨_, rfl, _, _, _, [], _, [], hW', trodAll_mk1 (shut_bool Tryz.underlying4 _), (trodAll_cons_mk (Below.trod laidOut (by kernel_rfl) (of_decide_eq_true (by kernel_rfl)) k0 bel lt0) (trodAll_cons_mk (Below.trod laidOut (by kernel_rfl) (of_decide_eq_true (by kernel_rfl)) k1 bel lt1) trodAll_mk0)), rfl, bel.frame _, fun h => by cases h⟩
end Go.Proofs.YtaodjmfmheifeaaGreatDoor.doors
namespace Go.Proofs.YtaodjmfmheifeaaGreatDoor.doors
open Go Go.ChangeShapes Go.WideShapes Go.ChangeAt Go.RowKit
set_option linter.unusedVariables false
theorem forkSame_over : Rows.ForkSameUptoSaid :=
  OpenClaim.holds_of_cond 4 Tryz.f4 rfl rfl rfl rfl rfl rfl rfl ⟨rfl, rfl, rfl, rfl, rfl⟩ rfl rfl rfl rfl rfl (by kernel_rfl) Tryz.func4 forkSame.closed
    (of_decide_eq_true (by kernel_rfl)) (by unfold Func.isWrapper; rw [if_neg (of_decide_eq_false (by kernel_rfl))]; exact ⟨rfl, rfl⟩)
    (fun os started H enc _ F => by rw [OpenClaim.pre_eq_preRow]; exact forkSame_lifted os started H enc F)
end Go.Proofs.YtaodjmfmheifeaaGreatDoor.doors
