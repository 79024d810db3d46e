/- Compiling the text: a closed run. -/
import Derived.Test.YtbppcehkpcgmkaaGreatDoorMHa
set_option linter.unusedSimpArgs false
set_option linter.unusedVariables false
namespace Go.Proofs.M
open Go Go.Ab
set_option maxRecDepth 1000000
theorem runC : (ob (callF Tryz.prog HS1 (exec Tryz.prog HS1 100000) (.fn 16) [S txt, .int .i64 1048576] start) fun r => bb (packOk (atL bsC) psC rowsC r) (some ())) = some () := by kernel_rfl
end Go.Proofs.M
