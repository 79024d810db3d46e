/- A closed fact of the program. -/
import Derived.Test.YtaodjmfmheifeaaGreatDoorRows
import Derived.SevenTiedAt
import Derived.KernelRfl
set_option linter.unusedSimpArgs false
set_option linter.unusedVariables false
namespace Go.Proofs.YtaodjmfmheifeaaGreatDoor.doors
open Go
theorem fMain : Tryz.pinned.checked.prog.mainIs = some (true, "ae152c9fa0fd46d58403dde43c6d6c7d8f7e95621f113a6441e8cc160b56b74c".toList) := by kernel_rfl
end Go.Proofs.YtaodjmfmheifeaaGreatDoor.doors
namespace Go.Proofs.YtaodjmfmheifeaaGreatDoor.doors
open Go
theorem fLooks : true = Tryz.pinned.checked.prog.looks [] := by kernel_rfl
end Go.Proofs.YtaodjmfmheifeaaGreatDoor.doors
namespace Go.Proofs.YtaodjmfmheifeaaGreatDoor.doors
open Go
theorem fNamed4 : Tryz.pinned.checked.prog.funcNamed "probity/probitylaw25.ForkSame" = some 4 := by kernel_rfl
theorem fStand4 : ([37, 37].all fun u => !Tryz.pinned.checked.prog.wantsStandIn u) = true := by kernel_rfl
end Go.Proofs.YtaodjmfmheifeaaGreatDoor.doors
