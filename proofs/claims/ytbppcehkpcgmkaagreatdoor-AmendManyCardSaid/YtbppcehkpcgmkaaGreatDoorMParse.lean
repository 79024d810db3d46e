/- Reading the two texts: closed runs. -/
import Derived.Test.YtbppcehkpcgmkaaGreatDoorMStz
set_option linter.unusedSimpArgs false
set_option linter.unusedVariables false
namespace Go.Proofs.M
open Go Go.Ab
set_option maxRecDepth 1000000
theorem funcs_ok : funcsOk Tryz.prog CS1 10 Tryz.prog.funcs.toList 0 = true := by kernel_rfl
theorem runP : (ob (callF Tryz.prog CS1 (exec Tryz.prog CS1 100000) (.fn 31) [S txt] start) fun r => bb (packOk (atL bsP) psP rowsP r) (some ())) = some () := by kernel_rfl
theorem runR : (ob (callF Tryz.prog CS1 (exec Tryz.prog CS1 100000) (.fn 17) [S chs] start) fun r => bb (packOk (atL bsR) psR rowsR r) (some ())) = some () := by kernel_rfl
end Go.Proofs.M
