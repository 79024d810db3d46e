/- Runs of TypesPowers. -/
import Derived.Test.YthjkgbomoaghoaaGreatDoorBPow
set_option linter.unusedSimpArgs false
set_option linter.unusedVariables false
namespace Go.Proofs.B
open Go Go.Ab
set_option maxRecDepth 1000000
theorem run20 (n m : Int) : okTrue (rest n m 2 0) = true := by kernel_rfl
theorem run21 (n m : Int) : okTrue (rest n m 2 1) = true := by kernel_rfl
theorem run22 (n m : Int) : okTrue (rest n m 2 2) = true := by kernel_rfl
theorem run23 (n m : Int) : okTrue (rest n m 2 3) = true := by kernel_rfl
theorem run24 (n m : Int) : okTrue (rest n m 2 4) = true := by kernel_rfl
theorem run25 (n m : Int) : okTrue (rest n m 2 5) = true := by kernel_rfl
end Go.Proofs.B
