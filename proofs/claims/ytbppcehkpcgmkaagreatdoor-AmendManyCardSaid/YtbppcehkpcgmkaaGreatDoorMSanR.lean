/- The examples of the chapter: a closed run. -/
import Derived.Test.YtbppcehkpcgmkaaGreatDoorMHa
set_option linter.unusedSimpArgs false
set_option linter.unusedVariables false
namespace Go.Proofs.M
open Go Go.Ab
set_option maxRecDepth 1000000
theorem runS : okTrue (callF Tryz.prog HS1 (exec Tryz.prog HS1 100000) (.fn 4) [] start) = true := by kernel_rfl
end Go.Proofs.M
