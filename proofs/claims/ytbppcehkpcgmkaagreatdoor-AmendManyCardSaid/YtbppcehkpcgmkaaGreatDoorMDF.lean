/- Closed facts of the program. -/
import Derived.Test.YtbppcehkpcgmkaaGreatDoorProg
import Derived.Test.YtbppcehkpcgmkaaGreatDoorAbClo
set_option linter.unusedSimpArgs false
set_option linter.unusedVariables false
namespace Go.Proofs.YtbppcehkpcgmkaaGreatDoor.doors
open Go
theorem and_i {a b : Bool} (ha : a = true) (hb : b = true) : (a && b) = true := by rw [ha, hb]; rfl
theorem pf1 : laidOutB Tryz.prog = true := by kernel_rfl
theorem pf2 : mapsRowed Tryz.prog = true := by kernel_rfl
theorem pf6 : (Tryz.prog.stops == []) = true := by kernel_rfl
theorem pf8 : (Tryz.prog.stopKnobs == []) = true := by kernel_rfl
end Go.Proofs.YtbppcehkpcgmkaaGreatDoor.doors
