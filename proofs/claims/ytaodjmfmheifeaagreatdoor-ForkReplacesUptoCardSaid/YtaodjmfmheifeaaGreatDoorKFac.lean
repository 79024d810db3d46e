/- Closed facts of the program. -/
import Derived.Test.YtaodjmfmheifeaaGreatDoorProg
import Derived.Test.YtaodjmfmheifeaaGreatDoorAbH
set_option linter.unusedSimpArgs false
set_option linter.unusedVariables false
namespace Go.Proofs.YtaodjmfmheifeaaGreatDoor.doors
open Go
theorem and_i {a b : Bool} (ha : a = true) (hb : b = true) : (a && b) = true := by rw [ha, hb]; rfl
theorem pf2 : mapsRowed Tryz.prog = true := by kernel_rfl
theorem pf6 : (Tryz.prog.stops == []) = true := by kernel_rfl
theorem pf8 : (Tryz.prog.stopKnobs == []) = true := by kernel_rfl
end Go.Proofs.YtaodjmfmheifeaaGreatDoor.doors
