/- Closed facts of the program. -/
import Derived.Test.YtbppcehkpcgmkaaGreatDoorProg
import Derived.Test.YtbppcehkpcgmkaaGreatDoorAbClo
set_option linter.unusedSimpArgs false
set_option linter.unusedVariables false
namespace Go.Proofs.YtbppcehkpcgmkaaGreatDoor.doors
open Go
theorem pf24 : Tryz.prog.stopsHeard = true := by kernel_rfl
theorem pf25 : Tryz.prog.mayEnter = true := by kernel_rfl
end Go.Proofs.YtbppcehkpcgmkaaGreatDoor.doors
