/- The listed variables are laid by the text: the run. -/
import Derived.Test.YtaodjmfmheifeaaGreatDoorKTieA
set_option linter.unusedSimpArgs false
set_option linter.unusedVariables false
namespace Go.Proofs.YtaodjmfmheifeaaGreatDoor.ties
open Go
theorem a7 : ∀ os tape, doorLeaves Tryz.prog 400 8 64 lst os tape = some (lst.filter fun x => x.2.handleName?.isNone, (funcsListed lst).map (·.2.funcsOut)) := fun _ _ => by kernel_rfl
end Go.Proofs.YtaodjmfmheifeaaGreatDoor.ties
