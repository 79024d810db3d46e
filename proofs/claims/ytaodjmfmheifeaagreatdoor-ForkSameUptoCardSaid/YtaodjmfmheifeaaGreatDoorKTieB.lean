/- The listed variables are laid by the text: in the order of the text. -/
import Derived.Test.YtaodjmfmheifeaaGreatDoorKTieA
set_option linter.unusedSimpArgs false
set_option linter.unusedVariables false
namespace Go.Proofs.YtaodjmfmheifeaaGreatDoor.ties
open Go
theorem a6 : varsNamedLaterB Tryz.prog (varsId Tryz.prog) lst = true := by kernel_rfl
end Go.Proofs.YtaodjmfmheifeaaGreatDoor.ties
