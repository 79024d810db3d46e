/- Runs of TypesPowers. -/
import Derived.Test.YthjkgbomoaghoaaGreatDoorBPow
set_option linter.unusedSimpArgs false
set_option linter.unusedVariables false
namespace Go.Proofs.B
open Go Go.Ab
set_option maxRecDepth 1000000
theorem run10 (n m : Int) : okTrue (rest n m 1 0) = true := by kernel_rfl
theorem run11 (n m : Int) : okTrue (rest n m 1 1) = true := by kernel_rfl
theorem run12 (n m : Int) : okTrue (rest n m 1 2) = true := by kernel_rfl
theorem run13 (n m : Int) : okTrue (rest n m 1 3) = true := by kernel_rfl
theorem run14 (n m : Int) : okTrue (rest n m 1 4) = true := by kernel_rfl
theorem run15 (n m : Int) : okTrue (rest n m 1 5) = true := by kernel_rfl
end Go.Proofs.B
