/- The closed facts of the row of forkNil. -/
import Derived.Test.YtaodjmfmheifeaaGreatDoorKCl5
import Derived.Test.YtaodjmfmheifeaaGreatDoorKLay
import Derived.Test.YtaodjmfmheifeaaGreatDoorKFac
import Derived.Test.YtaodjmfmheifeaaGreatDoorKFac2
import Derived.Test.YtaodjmfmheifeaaGreatDoorKFac3
import Derived.Test.YtaodjmfmheifeaaGreatDoorRows
import Derived.JoinedCond
set_option linter.unusedSimpArgs false
set_option linter.unusedVariables false
namespace Go.Proofs.YtaodjmfmheifeaaGreatDoor.doors
open Go
set_option maxRecDepth 1000000
namespace forkNil
theorem q0 : (Rows.forkNilRow.wf (OpenSpec.ofChange Rows.forkNilSpec)) = true := by kernel_rfl
theorem q1 : laidOutB Tryz.prog = true := laidOut
theorem q2 : (mapsRowed Tryz.prog) = true := pf2
theorem q3 : (Tryz.f5.params.all (Tryz.prog.readableRec ·)) = true := by kernel_rfl
theorem q4 : (namedTie Tryz.prog Rows.forkNilRow.named (Rows.forkNilSpec).vars) = true := by kernel_rfl
theorem q5 : ((Rows.forkNilRow.stops == [])) = true := by kernel_rfl
theorem q6 : ((Tryz.prog.stops == [])) = true := pf6
theorem q7 : ((Rows.forkNilRow.knobs == [])) = true := by kernel_rfl
theorem q8 : ((Tryz.prog.stopKnobs == [])) = true := pf8
theorem q9 : ((Rows.forkNilRow.inPlace == Tryz.prog.inPlace 5)) = true := by
  rw [inPlace5]; kernel_rfl
theorem q10 : ((Rows.forkNilRow.unfollowed == Tryz.prog.unfollowed 5)) = true := by
  rw [unfollowed5]; rfl
theorem q11 : ((Rows.forkNilRow.recurses == Tryz.prog.recurses 5)) = true := by
  rw [recurses5]; rfl
theorem q12 : ((Rows.forkNilRow.named == Tryz.prog.varsNamed 5)) = true := by
  rw [named5]; kernel_rfl
theorem q13 : ((Rows.forkNilRow.maps == (Tryz.f5.params.toList ++ (Rows.forkNilSpec).plain.varTypes Tryz.prog).any (Tryz.prog.mapsRec ·))) = true := by kernel_rfl
theorem q14 : ((Rows.forkNilRow.ifaces == (Tryz.f5.params.toList ++ (Rows.forkNilSpec).plain.varTypes Tryz.prog).any (Tryz.prog.ifacesRec ·))) = true := by kernel_rfl
theorem q15 : ((Rows.forkNilRow.mapsOut == Tryz.prog.mapsAmong Tryz.f5.resultTypes.toList)) = true := by kernel_rfl
theorem q16 : ((Rows.forkNilRow.loops == (Tryz.f5.params.toList ++ (Rows.forkNilSpec).plain.varTypes Tryz.prog).any (Tryz.prog.loopsFrom ·))) = true := by kernel_rfl
theorem q17 : ((Rows.forkNilRow.wideKeys == (Tryz.f5.params.toList ++ (Rows.forkNilSpec).plain.varTypes Tryz.prog ++ Tryz.f5.resultTypes.toList).any (Tryz.prog.wideKeysFrom ·))) = true := by kernel_rfl
theorem q18 : ((Rows.forkNilSpec).vars.all (Tryz.prog.varReadable ·)) = true := by kernel_rfl
theorem q19 : (Tryz.f5.resultTypes.all (fun t => Tryz.prog.readableRec t && decide (t < Tryz.prog.types.size))) = true := by kernel_rfl
theorem q20 : ((Rows.forkNilRow.ifacesOut == Tryz.f5.resultTypes.toList.any (Tryz.prog.ifacesRec ·))) = true := by kernel_rfl
theorem q21 : ((Rows.forkNilRow.loopsOut == Tryz.f5.resultTypes.toList.any (Tryz.prog.loopsFrom ·))) = true := by kernel_rfl
theorem q22 : ((Rows.forkNilRow.plainKeys == Tryz.prog.plainKeys)) = true := by kernel_rfl
theorem q23 : (Rows.forkNilRow.shortTexts.isNone) = true := by kernel_rfl
theorem q24 : (Tryz.prog.stopsHeard) = true := pf24
theorem q25 : (Tryz.prog.mayEnter) = true := pf25
theorem q26 : ((Rows.forkNilRow.lifted == Tryz.prog.liftsFinal)) = true := by kernel_rfl
theorem q27 : ((Tryz.prog.make == some Rows.forkNilRow.make)) = true := by kernel_rfl
theorem q28 : ((Rows.forkNilRow.kinds == (if Rows.forkNilRow.domain.isEmpty then [] else Tryz.f5.params.toList.map fun t => match Tryz.prog.underlying t with | some (.int k) => some k | _ => none))) = true := by kernel_rfl
theorem q29 : ((Rows.forkNilRow.pinned == Rows.forkNilRow.pinnedBy)) = true := by kernel_rfl
theorem q30 : ((Rows.forkNilRow.veiled == (Tryz.f5.params.toList ++ (Rows.forkNilSpec).plain.varTypes Tryz.prog ++ Tryz.f5.resultTypes.toList).any (Tryz.prog.veiledRec ·))) = true := by kernel_rfl
theorem q31 : (Rows.forkNilRow.veiledFits Tryz.prog Tryz.f5.params.toList (Tryz.f5.params.toList ++ (Rows.forkNilSpec).plain.varTypes Tryz.prog ++ Tryz.f5.resultTypes.toList)) = true := by kernel_rfl
theorem closed : joinedFacts Tryz.prog 5 Tryz.f5 Rows.forkNilSpec Rows.forkNilRow = true := by
  unfold joinedFacts
  exact and_i (and_i (and_i (and_i (and_i (and_i (and_i (and_i (and_i (and_i (and_i (and_i (and_i (and_i (and_i (and_i (and_i (and_i (and_i (and_i (and_i (and_i (and_i (and_i (and_i (and_i (and_i (and_i (and_i (and_i (and_i (q0) q1) q2) q3) q4) q5) q6) q7) q8) q9) q10) q11) q12) q13) q14) q15) q16) q17) q18) q19) q20) q21) q22) q23) q24) q25) q26) q27) q28) q29) q30) q31
end forkNil
end Go.Proofs.YtaodjmfmheifeaaGreatDoor.doors
