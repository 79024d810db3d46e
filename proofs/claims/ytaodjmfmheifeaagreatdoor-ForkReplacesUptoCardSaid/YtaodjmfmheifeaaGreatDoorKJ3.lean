/- The closed facts of the row of forkReplacesUpto. -/
import Derived.Test.YtaodjmfmheifeaaGreatDoorKCl3
import Derived.Test.YtaodjmfmheifeaaGreatDoorKLay
import Derived.Test.YtaodjmfmheifeaaGreatDoorKFac
import Derived.Test.YtaodjmfmheifeaaGreatDoorKFac2
import Derived.Test.YtaodjmfmheifeaaGreatDoorKFac3
import Derived.Test.YtaodjmfmheifeaaGreatDoorRows
import Derived.JoinedCond
set_option linter.unusedSimpArgs false
set_option linter.unusedVariables false
namespace Go.Proofs.YtaodjmfmheifeaaGreatDoor.doors
open Go
set_option maxRecDepth 1000000
namespace forkReplaces
theorem q0 : (Rows.forkReplacesUptoRow.wf (OpenSpec.ofChange (Rows.OpenSpec.upto Rows.forkReplacesSpec).bare)) = true := by kernel_rfl
theorem q1 : laidOutB Tryz.prog = true := laidOut
theorem q2 : (mapsRowed Tryz.prog) = true := pf2
theorem q3 : (Tryz.f3.params.all (Tryz.prog.readableRec ·)) = true := by kernel_rfl
theorem q4 : (namedTie Tryz.prog Rows.forkReplacesUptoRow.named ((Rows.OpenSpec.upto Rows.forkReplacesSpec).bare).vars) = true := by kernel_rfl
theorem q5 : ((Rows.forkReplacesUptoRow.stops == [])) = true := by kernel_rfl
theorem q6 : ((Tryz.prog.stops == [])) = true := pf6
theorem q7 : ((Rows.forkReplacesUptoRow.knobs == [])) = true := by kernel_rfl
theorem q8 : ((Tryz.prog.stopKnobs == [])) = true := pf8
theorem q9 : ((Rows.forkReplacesUptoRow.inPlace == Tryz.prog.inPlace 3)) = true := by
  rw [inPlace3]; kernel_rfl
theorem q10 : ((Rows.forkReplacesUptoRow.unfollowed == Tryz.prog.unfollowed 3)) = true := by
  rw [unfollowed3]; rfl
theorem q11 : ((Rows.forkReplacesUptoRow.recurses == Tryz.prog.recurses 3)) = true := by
  rw [recurses3]; rfl
theorem q12 : ((Rows.forkReplacesUptoRow.named == Tryz.prog.varsNamed 3)) = true := by
  rw [named3]; kernel_rfl
theorem q13 : ((Rows.forkReplacesUptoRow.maps == (Tryz.f3.params.toList ++ ((Rows.OpenSpec.upto Rows.forkReplacesSpec).bare).plain.varTypes Tryz.prog).any (Tryz.prog.mapsRec ·))) = true := by kernel_rfl
theorem q14 : ((Rows.forkReplacesUptoRow.ifaces == (Tryz.f3.params.toList ++ ((Rows.OpenSpec.upto Rows.forkReplacesSpec).bare).plain.varTypes Tryz.prog).any (Tryz.prog.ifacesRec ·))) = true := by kernel_rfl
theorem q15 : ((Rows.forkReplacesUptoRow.mapsOut == Tryz.prog.mapsAmong Tryz.f3.resultTypes.toList)) = true := by kernel_rfl
theorem q16 : ((Rows.forkReplacesUptoRow.loops == (Tryz.f3.params.toList ++ ((Rows.OpenSpec.upto Rows.forkReplacesSpec).bare).plain.varTypes Tryz.prog).any (Tryz.prog.loopsFrom ·))) = true := by kernel_rfl
theorem q17 : ((Rows.forkReplacesUptoRow.wideKeys == (Tryz.f3.params.toList ++ ((Rows.OpenSpec.upto Rows.forkReplacesSpec).bare).plain.varTypes Tryz.prog ++ Tryz.f3.resultTypes.toList).any (Tryz.prog.wideKeysFrom ·))) = true := by kernel_rfl
theorem q18 : (((Rows.OpenSpec.upto Rows.forkReplacesSpec).bare).vars.all (Tryz.prog.varReadable ·)) = true := by kernel_rfl
theorem q19 : (Tryz.f3.resultTypes.all (fun t => Tryz.prog.readableRec t && decide (t < Tryz.prog.types.size))) = true := by kernel_rfl
theorem q20 : ((Rows.forkReplacesUptoRow.ifacesOut == Tryz.f3.resultTypes.toList.any (Tryz.prog.ifacesRec ·))) = true := by kernel_rfl
theorem q21 : ((Rows.forkReplacesUptoRow.loopsOut == Tryz.f3.resultTypes.toList.any (Tryz.prog.loopsFrom ·))) = true := by kernel_rfl
theorem q22 : ((Rows.forkReplacesUptoRow.plainKeys == Tryz.prog.plainKeys)) = true := by kernel_rfl
theorem q23 : (Rows.forkReplacesUptoRow.shortTexts.isNone) = true := by kernel_rfl
theorem q24 : (Tryz.prog.stopsHeard) = true := pf24
theorem q25 : (Tryz.prog.mayEnter) = true := pf25
theorem q26 : ((Rows.forkReplacesUptoRow.lifted == Tryz.prog.liftsFinal)) = true := by kernel_rfl
theorem q27 : ((Tryz.prog.make == some Rows.forkReplacesUptoRow.make)) = true := by kernel_rfl
theorem q28 : ((Rows.forkReplacesUptoRow.kinds == (if Rows.forkReplacesUptoRow.domain.isEmpty then [] else Tryz.f3.params.toList.map fun t => match Tryz.prog.underlying t with | some (.int k) => some k | _ => none))) = true := by kernel_rfl
theorem q29 : ((Rows.forkReplacesUptoRow.pinned == Rows.forkReplacesUptoRow.pinnedBy)) = true := by kernel_rfl
theorem q30 : ((Rows.forkReplacesUptoRow.veiled == (Tryz.f3.params.toList ++ ((Rows.OpenSpec.upto Rows.forkReplacesSpec).bare).plain.varTypes Tryz.prog ++ Tryz.f3.resultTypes.toList).any (Tryz.prog.veiledRec ·))) = true := by kernel_rfl
theorem q31 : (Rows.forkReplacesUptoRow.veiledFits Tryz.prog Tryz.f3.params.toList (Tryz.f3.params.toList ++ ((Rows.OpenSpec.upto Rows.forkReplacesSpec).bare).plain.varTypes Tryz.prog ++ Tryz.f3.resultTypes.toList)) = true := by kernel_rfl
theorem closed : joinedFacts Tryz.prog 3 Tryz.f3 (Rows.OpenSpec.upto Rows.forkReplacesSpec).bare Rows.forkReplacesUptoRow = true := by
  unfold joinedFacts
  exact and_i (and_i (and_i (and_i (and_i (and_i (and_i (and_i (and_i (and_i (and_i (and_i (and_i (and_i (and_i (and_i (and_i (and_i (and_i (and_i (and_i (and_i (and_i (and_i (and_i (and_i (and_i (and_i (and_i (and_i (and_i (q0) q1) q2) q3) q4) q5) q6) q7) q8) q9) q10) q11) q12) q13) q14) q15) q16) q17) q18) q19) q20) q21) q22) q23) q24) q25) q26) q27) q28) q29) q30) q31
end forkReplaces
end Go.Proofs.YtaodjmfmheifeaaGreatDoor.doors
