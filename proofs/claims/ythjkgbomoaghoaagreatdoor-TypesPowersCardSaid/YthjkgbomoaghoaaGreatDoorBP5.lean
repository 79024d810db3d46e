/- Runs of TypesPowers. -/
import Derived.Test.YthjkgbomoaghoaaGreatDoorBPow
set_option linter.unusedSimpArgs false
set_option linter.unusedVariables false
namespace Go.Proofs.B
open Go Go.Ab
set_option maxRecDepth 1000000
theorem run50 (n m : Int) : okTrue (rest n m 5 0) = true := by kernel_rfl
theorem run51 (n m : Int) : okTrue (rest n m 5 1) = true := by kernel_rfl
theorem run52 (n m : Int) : okTrue (rest n m 5 2) = true := by kernel_rfl
theorem run53 (n m : Int) : okTrue (rest n m 5 3) = true := by kernel_rfl
theorem run54 (n m : Int) : okTrue (rest n m 5 4) = true := by kernel_rfl
theorem run55 (n m : Int) : okTrue (rest n m 5 5) = true := by kernel_rfl
end Go.Proofs.B
