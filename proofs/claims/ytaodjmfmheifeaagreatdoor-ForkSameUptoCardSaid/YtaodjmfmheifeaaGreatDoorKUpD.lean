/- The world of the witness has the shape of one. -/
import Derived.Test.YtaodjmfmheifeaaGreatDoorKUpA
set_option linter.unusedSimpArgs false
set_option linter.unusedVariables false
namespace Go.Proofs.YtaodjmfmheifeaaGreatDoor.doors
open Go Go.ChangeShapes Go.WideShapes Go.ChangeAt Go.RowKit
theorem shaped (os : Os) (args : Array Value) : ((World.laidAll Tryz.prog os Rows.forkNilRow.laid).forCall (fun _ _ => 0) ⟨#[], args, []⟩).Shaped Tryz.prog := World.shaped_of_ZipB (by kernel_rfl) (by kernel_rfl)
end Go.Proofs.YtaodjmfmheifeaaGreatDoor.doors
