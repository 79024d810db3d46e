/- Runs of TypesPowers. -/
import Derived.Test.YthjkgbomoaghoaaGreatDoorBPow
set_option linter.unusedSimpArgs false
set_option linter.unusedVariables false
namespace Go.Proofs.B
open Go Go.Ab
set_option maxRecDepth 1000000
theorem run40 (n m : Int) : okTrue (rest n m 4 0) = true := by kernel_rfl
theorem run41 (n m : Int) : okTrue (rest n m 4 1) = true := by kernel_rfl
theorem run42 (n m : Int) : okTrue (rest n m 4 2) = true := by kernel_rfl
theorem run43 (n m : Int) : okTrue (rest n m 4 3) = true := by kernel_rfl
theorem run44 (n m : Int) : okTrue (rest n m 4 4) = true := by kernel_rfl
theorem run45 (n m : Int) : okTrue (rest n m 4 5) = true := by kernel_rfl
end Go.Proofs.B
