/- Runs of TypesPowers. -/
import Derived.Test.YthjkgbomoaghoaaGreatDoorBPow
set_option linter.unusedSimpArgs false
set_option linter.unusedVariables false
namespace Go.Proofs.B
open Go Go.Ab
set_option maxRecDepth 1000000
theorem run30 (n m : Int) : okTrue (rest n m 3 0) = true := by kernel_rfl
theorem run31 (n m : Int) : okTrue (rest n m 3 1) = true := by kernel_rfl
theorem run32 (n m : Int) : okTrue (rest n m 3 2) = true := by kernel_rfl
theorem run33 (n m : Int) : okTrue (rest n m 3 3) = true := by kernel_rfl
theorem run34 (n m : Int) : okTrue (rest n m 3 4) = true := by kernel_rfl
theorem run35 (n m : Int) : okTrue (rest n m 3 5) = true := by kernel_rfl
end Go.Proofs.B
