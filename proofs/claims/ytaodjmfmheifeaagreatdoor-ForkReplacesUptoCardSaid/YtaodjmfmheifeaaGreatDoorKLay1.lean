/- The types of the program are laid out: a part. -/
import Derived.Test.YtaodjmfmheifeaaGreatDoorProg
import Derived.Test.YtaodjmfmheifeaaGreatDoorAbH
set_option linter.unusedSimpArgs false
set_option linter.unusedVariables false
namespace Go.Proofs.YtaodjmfmheifeaaGreatDoor.doors
open Go
theorem lay1 : (List.range' (1 * 251) 251).all (rowFine Tryz.prog) = true := by kernel_rfl
end Go.Proofs.YtaodjmfmheifeaaGreatDoor.doors
