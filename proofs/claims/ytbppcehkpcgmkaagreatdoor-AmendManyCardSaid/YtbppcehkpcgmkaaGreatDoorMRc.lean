/- A run of AmendMany: 20 amendments. -/
import Derived.Test.YtbppcehkpcgmkaaGreatDoorMHead
set_option linter.unusedSimpArgs false
set_option linter.unusedVariables false
namespace Go.Proofs.M
open Go Go.Ab
set_option maxRecDepth 1000000
theorem run2 (n : Int) : okTrue (rest n 2) = true := by kernel_rfl
end Go.Proofs.M
