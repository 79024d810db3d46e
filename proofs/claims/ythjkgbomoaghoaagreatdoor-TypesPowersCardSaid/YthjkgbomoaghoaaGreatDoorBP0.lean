/- Runs of TypesPowers. -/
import Derived.Test.YthjkgbomoaghoaaGreatDoorBPow
set_option linter.unusedSimpArgs false
set_option linter.unusedVariables false
namespace Go.Proofs.B
open Go Go.Ab
set_option maxRecDepth 1000000
theorem run00 (n m : Int) : okTrue (rest n m 0 0) = true := by kernel_rfl
theorem run01 (n m : Int) : okTrue (rest n m 0 1) = true := by kernel_rfl
theorem run02 (n m : Int) : okTrue (rest n m 0 2) = true := by kernel_rfl
theorem run03 (n m : Int) : okTrue (rest n m 0 3) = true := by kernel_rfl
theorem run04 (n m : Int) : okTrue (rest n m 0 4) = true := by kernel_rfl
theorem run05 (n m : Int) : okTrue (rest n m 0 5) = true := by kernel_rfl
end Go.Proofs.B
