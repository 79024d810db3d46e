/- What the law comes to: the closed facts that rest on it. -/
import Derived.Test.YtbppcehkpcgmkaaGreatDoorMDClo
import Derived.Test.YtbppcehkpcgmkaaGreatDoorRows
set_option linter.unusedSimpArgs false
set_option linter.unusedVariables false
namespace Go.Proofs.YtbppcehkpcgmkaaGreatDoor.doors
open Go
set_option maxRecDepth 1000000
def enough (P : Program) (n : Nat) : Bool := Nat.ble n (1 + (P.funcs.toList.map fun g => (P.leadsTo g).length + 1).sum)
theorem closure_of {P : Program} {f n : Nat} {L : List Nat} (h : Ab.closB P n [f] [] 0 = some L) (hn : enough P n = true) : P.closure f = L := Ab.closure_eq h hn
theorem closure3 : Tryz.prog.closure 3 = clo3 := closure_of cloB3 cloN
theorem inPlace3 : Tryz.prog.inPlace 3 = Rows.amendManyRow.inPlace := by
  unfold Program.inPlace
  rw [closure3]
  kernel_rfl
theorem unfollowed3 : Tryz.prog.unfollowed 3 = true := by
  unfold Program.unfollowed
  rw [closure3]
  kernel_rfl
theorem recurses3 : Tryz.prog.recurses 3 = true := by
  unfold Program.recurses
  rw [unfollowed3]; rfl
theorem named3 : Tryz.prog.varsNamed 3 = Rows.amendManyRow.named := by
  unfold Program.varsNamed
  rw [closure3]
  kernel_rfl
end Go.Proofs.YtbppcehkpcgmkaaGreatDoor.doors
