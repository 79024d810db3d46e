/- No function of the program starts a goroutine: a part. -/
import Derived.Test.YtaodjmfmheifeaaGreatDoorProg
import GoSem.ClaimSeven
import Derived.KernelRfl
set_option linter.unusedSimpArgs false
set_option linter.unusedVariables false
namespace Go.Proofs.YtaodjmfmheifeaaGreatDoor.doors
open Go
set_option maxRecDepth 1000000
theorem goesNo0 : (List.range' (0 * 167) 167).all (fun g => !((Tryz.prog.funcs[g]?).any Func.goes)) = true := by kernel_rfl
end Go.Proofs.YtaodjmfmheifeaaGreatDoor.doors
namespace Go.Proofs.YtaodjmfmheifeaaGreatDoor.doors
open Go
set_option maxRecDepth 1000000
theorem goesNo1 : (List.range' (1 * 167) 167).all (fun g => !((Tryz.prog.funcs[g]?).any Func.goes)) = true := by kernel_rfl
end Go.Proofs.YtaodjmfmheifeaaGreatDoor.doors
namespace Go.Proofs.YtaodjmfmheifeaaGreatDoor.doors
open Go
set_option maxRecDepth 1000000
theorem goesNo2 : (List.range' (2 * 167) 167).all (fun g => !((Tryz.prog.funcs[g]?).any Func.goes)) = true := by kernel_rfl
end Go.Proofs.YtaodjmfmheifeaaGreatDoor.doors
namespace Go.Proofs.YtaodjmfmheifeaaGreatDoor.doors
open Go
set_option maxRecDepth 1000000
theorem goesNo3 : (List.range' (3 * 167) 167).all (fun g => !((Tryz.prog.funcs[g]?).any Func.goes)) = true := by kernel_rfl
end Go.Proofs.YtaodjmfmheifeaaGreatDoor.doors
