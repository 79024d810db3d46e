/- The types of the program are laid out. -/
import Derived.Test.YtaodjmfmheifeaaGreatDoorKLay0
import Derived.Test.YtaodjmfmheifeaaGreatDoorKLay1
import Derived.Test.YtaodjmfmheifeaaGreatDoorKLay2
set_option linter.unusedSimpArgs false
set_option linter.unusedVariables false
namespace Go.Proofs.YtaodjmfmheifeaaGreatDoor.doors
open Go
theorem lay_size : Tryz.prog.types.size = 753 := by kernel_rfl
theorem laidOut : laidOutB Tryz.prog = true := by
  unfold laidOutB
  rw [lay_size, show (753 : Nat) = 3 * 251 from rfl, Ab.range_parts (k := 3) (n := 251) fun i hi => by
    rcases (by omega : i = 0 ∨ i = 1 ∨ i = 2) with rfl | rfl | rfl
    · exact lay0
    · exact lay1
    · exact lay2]
  have h1 : Tryz.prog.globals.all (fun g => decide (g.type < 3 * 251)) = true := by kernel_rfl
  have h2 : (Tryz.prog.funcs.all fun f => f.params.all fun t => decide (t < 3 * 251)) = true := by kernel_rfl
  rw [h1, h2]; rfl
end Go.Proofs.YtaodjmfmheifeaaGreatDoor.doors
