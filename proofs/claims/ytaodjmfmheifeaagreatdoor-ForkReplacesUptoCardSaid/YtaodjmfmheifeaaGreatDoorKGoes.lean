/- No function of the program starts a goroutine. -/
import Derived.Test.YtaodjmfmheifeaaGreatDoorKGo
import Derived.Test.YtaodjmfmheifeaaGreatDoorAbH
import Derived.Test.YtaodjmfmheifeaaGreatDoorRows
set_option linter.unusedSimpArgs false
set_option linter.unusedVariables false
namespace Go.Proofs.YtaodjmfmheifeaaGreatDoor.doors
open Go
theorem goes_of {P : Program} (h : ∀ g : Nat, (P.funcs[g]?).any Func.goes = false) (f : FuncId) : P.goes f = false := by
  have ha : P.funcs.any Func.goes = false := by
    rw [Array.any_eq_false]
    intro i hi
    have := h i
    rw [Array.getElem?_eq_getElem hi] at this
    simpa using this
  unfold Program.goes
  rw [ha, Bool.and_false, Bool.or_false, List.any_eq_false]
  intro g _
  rw [h g]; simp
theorem goesFrom_of {P : Program} (h : ∀ g : Nat, (P.funcs[g]?).any Func.goes = false) (func : String) : P.goesFrom func = false := by
  unfold Program.goesFrom
  cases P.funcNamed func with
  | none => rfl
  | some f => exact goes_of h f
theorem goes_size : Tryz.prog.funcs.size = 668 := by kernel_rfl
theorem goes_one (g : Nat) : (Tryz.prog.funcs[g]?).any Func.goes = false := by
  have h := Ab.range_parts (p := fun g => !((Tryz.prog.funcs[g]?).any Func.goes)) (k := 4) (n := 167) fun i hi => by
    rcases (by omega : i = 0 ∨ i = 1 ∨ i = 2 ∨ i = 3) with rfl | rfl | rfl | rfl
    · exact goesNo0
    · exact goesNo1
    · exact goesNo2
    · exact goesNo3
  by_cases hg : g < 668
  · have := List.all_eq_true.1 h g (List.mem_range.2 (by omega))
    simpa using this
  · rw [Array.getElem?_eq_none (by rw [goes_size]; omega)]; rfl
theorem goesFrom_no (func : String) : Tryz.prog.goesFrom func = false := goesFrom_of goes_one func
end Go.Proofs.YtaodjmfmheifeaaGreatDoor.doors
namespace Go.Proofs.YtaodjmfmheifeaaGreatDoor.doors
open Go
theorem fGoes5 : false = Rows.forkNilRow.goesBy Tryz.pinned.checked.prog := by
  show false = (Tryz.prog.goesFrom "probity/probitylaw25.ForkNil" || false)
  rw [goesFrom_no]; rfl
theorem fGoes4 : false = Rows.forkSameUptoRow.goesBy Tryz.pinned.checked.prog := by
  show false = (Tryz.prog.goesFrom "probity/probitylaw25.ForkSame" || false)
  rw [goesFrom_no]; rfl
theorem fGoes3 : false = Rows.forkReplacesUptoRow.goesBy Tryz.pinned.checked.prog := by
  show false = (Tryz.prog.goesFrom "probity/probitylaw25.ForkReplaces" || false)
  rw [goesFrom_no]; rfl
end Go.Proofs.YtaodjmfmheifeaaGreatDoor.doors
