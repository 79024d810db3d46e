/- Closed facts of the program. -/
import Derived.Test.YtaodjmfmheifeaaGreatDoorProg
import Derived.Test.YtaodjmfmheifeaaGreatDoorAbH
set_option linter.unusedSimpArgs false
set_option linter.unusedVariables false
namespace Go.Proofs.YtaodjmfmheifeaaGreatDoor.doors
open Go
theorem pf25 : Tryz.prog.mayEnter = true := by kernel_rfl
end Go.Proofs.YtaodjmfmheifeaaGreatDoor.doors
