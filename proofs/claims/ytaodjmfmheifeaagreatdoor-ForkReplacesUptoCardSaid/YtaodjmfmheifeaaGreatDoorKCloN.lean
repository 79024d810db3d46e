/- Enough steps for every closure. -/
import Derived.Test.YtaodjmfmheifeaaGreatDoorProg
import Derived.Test.YtaodjmfmheifeaaGreatDoorAbH
set_option linter.unusedSimpArgs false
set_option linter.unusedVariables false
namespace Go.Proofs.YtaodjmfmheifeaaGreatDoor.doors
open Go
def enough (P : Program) (n : Nat) : Bool := Nat.ble n (1 + (P.funcs.toList.map fun g => (P.leadsTo g).length + 1).sum)
theorem closure_of {P : Program} {f n : Nat} {L : List Nat} (h : Ab.closB P n [f] [] 0 = some L) (hn : enough P n = true) : P.closure f = L := Ab.closure_eq h hn
theorem cloN : enough Tryz.prog 1300 = true := by kernel_rfl
end Go.Proofs.YtaodjmfmheifeaaGreatDoor.doors
