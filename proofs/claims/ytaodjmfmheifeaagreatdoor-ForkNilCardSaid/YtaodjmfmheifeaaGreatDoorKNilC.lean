/- probitylaw25.ForkNil returns true for every input, and each argument reads afterwards as it read before; where the listed package-level variables hold what the program's text lays. -/
import Derived.Test.YtaodjmfmheifeaaGreatDoorKNilB
import Derived.Test.YtaodjmfmheifeaaGreatDoorKTieE
import Derived.Test.YtaodjmfmheifeaaGreatDoorKCd
import Derived.Test.YtaodjmfmheifeaaGreatDoorKGoes
import Derived.Test.YtaodjmfmheifeaaGreatDoorCards
import Derived.SevenTiedAt
set_option linter.unusedSimpArgs false
set_option linter.unusedVariables false
namespace Go.Proofs.YtaodjmfmheifeaaGreatDoor.forkNil
open Go Go.ChangeShapes Go.WideShapes Go.ChangeAt Go.RowKit
theorem stand (fn : Func) (hfn : Tryz.pinned.checked.prog.funcs[5]? = some fn) (j : Nat) (t : TypeId) (ht : fn.params[j]? = some t) : Tryz.pinned.checked.prog.wantsStandIn t = false := by
  obtain rfl : fn = Tryz.f5 := (Option.some.inj (Tryz.func5.symm.trans hfn)).symm
  rw [Tryz.params5] at ht
  have hm : t ∈ [3, 30] := by simpa using Array.mem_of_getElem? ht
  exact (show Tryz.pinned.checked.prog.wantsStandIn t = false by simpa using List.all_eq_true.1 doors.fStand5 t hm)
/-- The tied card. -/
theorem proved : Rows.ForkNilCardSaid :=
  Claim7.holds_tied_plain_at .later [] [.sentinel, .sentinel, .data, .data, .data, .pinned, .data] true (true, "ae152c9fa0fd46d58403dde43c6d6c7d8f7e95621f113a6441e8cc160b56b74c") true
    doors.forkNil_over (fun _ h => by cases h) (by kernel_rfl) (fun _ h => by cases h) ties.forkNil_row_tie rfl ⟨rfl, rfl⟩ doors.fMain rfl
    (fun f fn hf hfn => by
      obtain rfl : f = 5 := (Option.some.inj (doors.fNamed5.symm.trans hf)).symm
      exact ⟨doors.fLooks, stand fn hfn⟩)
    doors.fGoes5
#print axioms proved
end Go.Proofs.YtaodjmfmheifeaaGreatDoor.forkNil
