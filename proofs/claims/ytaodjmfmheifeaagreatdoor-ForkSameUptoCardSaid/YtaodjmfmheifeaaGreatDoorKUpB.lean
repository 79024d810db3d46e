/- Closed facts of the program. -/
import Derived.Test.YtaodjmfmheifeaaGreatDoorKUpA
set_option linter.unusedSimpArgs false
set_option linter.unusedVariables false
namespace Go.Proofs.YtaodjmfmheifeaaGreatDoor.doors
open Go Go.ChangeShapes Go.WideShapes Go.ChangeAt Go.RowKit
theorem own : ownKnob Tryz.prog.godebug = none := by kernel_rfl
theorem dataOk22 (m : Nat) : Ab.Args.dataOk Tryz.prog (m + 6) 22 = true := by kernel_rfl
theorem dataOk30 (m : Nat) : Ab.Args.dataOk Tryz.prog (m + 6) 30 = true := by kernel_rfl
theorem dataOk37 (m : Nat) : Ab.Args.dataOk Tryz.prog (m + 6) 37 = true := by kernel_rfl
end Go.Proofs.YtaodjmfmheifeaaGreatDoor.doors
