/- The closed facts of the row of forkSameUpto. -/
import Derived.Test.YtaodjmfmheifeaaGreatDoorKCl4
import Derived.Test.YtaodjmfmheifeaaGreatDoorKLay
import Derived.Test.YtaodjmfmheifeaaGreatDoorKFac
import Derived.Test.YtaodjmfmheifeaaGreatDoorKFac2
import Derived.Test.YtaodjmfmheifeaaGreatDoorKFac3
import Derived.Test.YtaodjmfmheifeaaGreatDoorRows
import Derived.JoinedCond
set_option linter.unusedSimpArgs false
set_option linter.unusedVariables false
namespace Go.Proofs.YtaodjmfmheifeaaGreatDoor.doors
open Go
set_option maxRecDepth 1000000
namespace forkSame
theorem q0 : (Rows.forkSameUptoRow.wf (OpenSpec.ofChange (Rows.OpenSpec.upto Rows.forkSameSpec).bare)) = true := by kernel_rfl
theorem q1 : laidOutB Tryz.prog = true := laidOut
theorem q2 : (mapsRowed Tryz.prog) = true := pf2
theorem q3 : (Tryz.f4.params.all (Tryz.prog.readableRec ·)) = true := by kernel_rfl
theorem q4 : (namedTie Tryz.prog Rows.forkSameUptoRow.named ((Rows.OpenSpec.upto Rows.forkSameSpec).bare).vars) = true := by kernel_rfl
theorem q5 : ((Rows.forkSameUptoRow.stops == [])) = true := by kernel_rfl
theorem q6 : ((Tryz.prog.stops == [])) = true := pf6
theorem q7 : ((Rows.forkSameUptoRow.knobs == [])) = true := by kernel_rfl
theorem q8 : ((Tryz.prog.stopKnobs == [])) = true := pf8
theorem q9 : ((Rows.forkSameUptoRow.inPlace == Tryz.prog.inPlace 4)) = true := by
  rw [inPlace4]; kernel_rfl
theorem q10 : ((Rows.forkSameUptoRow.unfollowed == Tryz.prog.unfollowed 4)) = true := by
  rw [unfollowed4]; rfl
theorem q11 : ((Rows.forkSameUptoRow.recurses == Tryz.prog.recurses 4)) = true := by
  rw [recurses4]; rfl
theorem q12 : ((Rows.forkSameUptoRow.named == Tryz.prog.varsNamed 4)) = true := by
  rw [named4]; kernel_rfl
theorem q13 : ((Rows.forkSameUptoRow.maps == (Tryz.f4.params.toList ++ ((Rows.OpenSpec.upto Rows.forkSameSpec).bare).plain.varTypes Tryz.prog).any (Tryz.prog.mapsRec ·))) = true := by kernel_rfl
theorem q14 : ((Rows.forkSameUptoRow.ifaces == (Tryz.f4.params.toList ++ ((Rows.OpenSpec.upto Rows.forkSameSpec).bare).plain.varTypes Tryz.prog).any (Tryz.prog.ifacesRec ·))) = true := by kernel_rfl
theorem q15 : ((Rows.forkSameUptoRow.mapsOut == Tryz.prog.mapsAmong Tryz.f4.resultTypes.toList)) = true := by kernel_rfl
theorem q16 : ((Rows.forkSameUptoRow.loops == (Tryz.f4.params.toList ++ ((Rows.OpenSpec.upto Rows.forkSameSpec).bare).plain.varTypes Tryz.prog).any (Tryz.prog.loopsFrom ·))) = true := by kernel_rfl
theorem q17 : ((Rows.forkSameUptoRow.wideKeys == (Tryz.f4.params.toList ++ ((Rows.OpenSpec.upto Rows.forkSameSpec).bare).plain.varTypes Tryz.prog ++ Tryz.f4.resultTypes.toList).any (Tryz.prog.wideKeysFrom ·))) = true := by kernel_rfl
theorem q18 : (((Rows.OpenSpec.upto Rows.forkSameSpec).bare).vars.all (Tryz.prog.varReadable ·)) = true := by kernel_rfl
theorem q19 : (Tryz.f4.resultTypes.all (fun t => Tryz.prog.readableRec t && decide (t < Tryz.prog.types.size))) = true := by kernel_rfl
theorem q20 : ((Rows.forkSameUptoRow.ifacesOut == Tryz.f4.resultTypes.toList.any (Tryz.prog.ifacesRec ·))) = true := by kernel_rfl
theorem q21 : ((Rows.forkSameUptoRow.loopsOut == Tryz.f4.resultTypes.toList.any (Tryz.prog.loopsFrom ·))) = true := by kernel_rfl
theorem q22 : ((Rows.forkSameUptoRow.plainKeys == Tryz.prog.plainKeys)) = true := by kernel_rfl
theorem q23 : (Rows.forkSameUptoRow.shortTexts.isNone) = true := by kernel_rfl
theorem q24 : (Tryz.prog.stopsHeard) = true := pf24
theorem q25 : (Tryz.prog.mayEnter) = true := pf25
theorem q26 : ((Rows.forkSameUptoRow.lifted == Tryz.prog.liftsFinal)) = true := by kernel_rfl
theorem q27 : ((Tryz.prog.make == some Rows.forkSameUptoRow.make)) = true := by kernel_rfl
theorem q28 : ((Rows.forkSameUptoRow.kinds == (if Rows.forkSameUptoRow.domain.isEmpty then [] else Tryz.f4.params.toList.map fun t => match Tryz.prog.underlying t with | some (.int k) => some k | _ => none))) = true := by kernel_rfl
theorem q29 : ((Rows.forkSameUptoRow.pinned == Rows.forkSameUptoRow.pinnedBy)) = true := by kernel_rfl
theorem q30 : ((Rows.forkSameUptoRow.veiled == (Tryz.f4.params.toList ++ ((Rows.OpenSpec.upto Rows.forkSameSpec).bare).plain.varTypes Tryz.prog ++ Tryz.f4.resultTypes.toList).any (Tryz.prog.veiledRec ·))) = true := by kernel_rfl
theorem q31 : (Rows.forkSameUptoRow.veiledFits Tryz.prog Tryz.f4.params.toList (Tryz.f4.params.toList ++ ((Rows.OpenSpec.upto Rows.forkSameSpec).bare).plain.varTypes Tryz.prog ++ Tryz.f4.resultTypes.toList)) = true := by kernel_rfl
theorem closed : joinedFacts Tryz.prog 4 Tryz.f4 (Rows.OpenSpec.upto Rows.forkSameSpec).bare Rows.forkSameUptoRow = true := by
  unfold joinedFacts
  exact and_i (and_i (and_i (and_i (and_i (and_i (and_i (and_i (and_i (and_i (and_i (and_i (and_i (and_i (and_i (and_i (and_i (and_i (and_i (and_i (and_i (and_i (and_i (and_i (and_i (and_i (and_i (and_i (and_i (and_i (and_i (q0) q1) q2) q3) q4) q5) q6) q7) q8) q9) q10) q11) q12) q13) q14) q15) q16) q17) q18) q19) q20) q21) q22) q23) q24) q25) q26) q27) q28) q29) q30) q31
end forkSame
end Go.Proofs.YtaodjmfmheifeaaGreatDoor.doors
