/- The closed facts of the row. -/
import Derived.Test.YtbppcehkpcgmkaaGreatDoorMDCl
import Derived.Test.YtbppcehkpcgmkaaGreatDoorMDF
import Derived.Test.YtbppcehkpcgmkaaGreatDoorMDG
import Derived.Test.YtbppcehkpcgmkaaGreatDoorRows
import Derived.JoinedCond
set_option linter.unusedSimpArgs false
set_option linter.unusedVariables false
namespace Go.Proofs.YtbppcehkpcgmkaaGreatDoor.doors
open Go
set_option maxRecDepth 1000000
theorem q0 : (Rows.amendManyRow.wf (OpenSpec.ofChange Rows.amendManySpec)) = true := by kernel_rfl
theorem q1 : (laidOutB Tryz.prog) = true := pf1
theorem q2 : (mapsRowed Tryz.prog) = true := pf2
theorem q3 : (Tryz.f3.params.all (Tryz.prog.readableRec ·)) = true := by kernel_rfl
theorem q4 : (namedTie Tryz.prog Rows.amendManyRow.named (Rows.amendManySpec).vars) = true := by kernel_rfl
theorem q5 : ((Rows.amendManyRow.stops == [])) = true := by kernel_rfl
theorem q6 : ((Tryz.prog.stops == [])) = true := pf6
theorem q7 : ((Rows.amendManyRow.knobs == [])) = true := by kernel_rfl
theorem q8 : ((Tryz.prog.stopKnobs == [])) = true := pf8
theorem q9 : ((Rows.amendManyRow.inPlace == Tryz.prog.inPlace 3)) = true := by
  rw [inPlace3]; kernel_rfl
theorem q10 : ((Rows.amendManyRow.unfollowed == Tryz.prog.unfollowed 3)) = true := by
  rw [unfollowed3]; rfl
theorem q11 : ((Rows.amendManyRow.recurses == Tryz.prog.recurses 3)) = true := by
  rw [recurses3]; rfl
theorem q12 : ((Rows.amendManyRow.named == Tryz.prog.varsNamed 3)) = true := by
  rw [named3]; kernel_rfl
theorem q13 : ((Rows.amendManyRow.maps == (Tryz.f3.params.toList ++ (Rows.amendManySpec).plain.varTypes Tryz.prog).any (Tryz.prog.mapsRec ·))) = true := by kernel_rfl
theorem q14 : ((Rows.amendManyRow.ifaces == (Tryz.f3.params.toList ++ (Rows.amendManySpec).plain.varTypes Tryz.prog).any (Tryz.prog.ifacesRec ·))) = true := by kernel_rfl
theorem q15 : ((Rows.amendManyRow.mapsOut == Tryz.prog.mapsAmong Tryz.f3.resultTypes.toList)) = true := by kernel_rfl
theorem q16 : ((Rows.amendManyRow.loops == (Tryz.f3.params.toList ++ (Rows.amendManySpec).plain.varTypes Tryz.prog).any (Tryz.prog.loopsFrom ·))) = true := by kernel_rfl
theorem q17 : ((Rows.amendManyRow.wideKeys == (Tryz.f3.params.toList ++ (Rows.amendManySpec).plain.varTypes Tryz.prog ++ Tryz.f3.resultTypes.toList).any (Tryz.prog.wideKeysFrom ·))) = true := by kernel_rfl
theorem q18 : ((Rows.amendManySpec).vars.all (Tryz.prog.varReadable ·)) = true := by kernel_rfl
theorem q19 : (Tryz.f3.resultTypes.all (fun t => Tryz.prog.readableRec t && decide (t < Tryz.prog.types.size))) = true := by kernel_rfl
theorem q20 : ((Rows.amendManyRow.ifacesOut == Tryz.f3.resultTypes.toList.any (Tryz.prog.ifacesRec ·))) = true := by kernel_rfl
theorem q21 : ((Rows.amendManyRow.loopsOut == Tryz.f3.resultTypes.toList.any (Tryz.prog.loopsFrom ·))) = true := by kernel_rfl
theorem q22 : ((Rows.amendManyRow.plainKeys == Tryz.prog.plainKeys)) = true := by kernel_rfl
theorem q23 : (Rows.amendManyRow.shortTexts.isNone) = true := by kernel_rfl
theorem q24 : (Tryz.prog.stopsHeard) = true := pf24
theorem q25 : (Tryz.prog.mayEnter) = true := pf25
theorem q26 : ((Rows.amendManyRow.lifted == Tryz.prog.liftsFinal)) = true := by kernel_rfl
theorem q27 : ((Tryz.prog.make == some Rows.amendManyRow.make)) = true := by kernel_rfl
theorem q28 : ((Rows.amendManyRow.kinds == (if Rows.amendManyRow.domain.isEmpty then [] else Tryz.f3.params.toList.map fun t => match Tryz.prog.underlying t with | some (.int k) => some k | _ => none))) = true := by kernel_rfl
theorem q29 : ((Rows.amendManyRow.pinned == Rows.amendManyRow.pinnedBy)) = true := by kernel_rfl
theorem q30 : ((Rows.amendManyRow.veiled == (Tryz.f3.params.toList ++ (Rows.amendManySpec).plain.varTypes Tryz.prog ++ Tryz.f3.resultTypes.toList).any (Tryz.prog.veiledRec ·))) = true := by kernel_rfl
theorem q31 : (Rows.amendManyRow.veiledFits Tryz.prog Tryz.f3.params.toList (Tryz.f3.params.toList ++ (Rows.amendManySpec).plain.varTypes Tryz.prog ++ Tryz.f3.resultTypes.toList)) = true := by kernel_rfl
theorem closed : joinedFacts Tryz.prog 3 Tryz.f3 Rows.amendManySpec Rows.amendManyRow = true := by
  unfold joinedFacts
  exact and_i (and_i (and_i (and_i (and_i (and_i (and_i (and_i (and_i (and_i (and_i (and_i (and_i (and_i (and_i (and_i (and_i (and_i (and_i (and_i (and_i (and_i (and_i (and_i (and_i (and_i (and_i (and_i (and_i (and_i (and_i (q0) q1) q2) q3) q4) q5) q6) q7) q8) q9) q10) q11) q12) q13) q14) q15) q16) q17) q18) q19) q20) q21) q22) q23) q24) q25) q26) q27) q28) q29) q30) q31
end Go.Proofs.YtbppcehkpcgmkaaGreatDoor.doors
