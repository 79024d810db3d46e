/- probitylaw25.ForkReplaces returns true for every input of bulk at most 1048576, and each argument reads afterwards as it read before; where the listed package-level variables hold what the program's text lays. -/
import Derived.Test.YtaodjmfmheifeaaGreatDoorKReplB
import Derived.Test.YtaodjmfmheifeaaGreatDoorKTieE
import Derived.Test.YtaodjmfmheifeaaGreatDoorKCdR
import Derived.Test.YtaodjmfmheifeaaGreatDoorKGoes
import Derived.Test.YtaodjmfmheifeaaGreatDoorCards
import Derived.SevenTiedAt
set_option linter.unusedSimpArgs false
set_option linter.unusedVariables false
namespace Go.Proofs.YtaodjmfmheifeaaGreatDoor.forkReplaces
open Go Go.ChangeShapes Go.WideShapes Go.ChangeAt Go.RowKit
theorem stand (fn : Func) (hfn : Tryz.pinned.checked.prog.funcs[3]? = some fn) (j : Nat) (t : TypeId) (ht : fn.params[j]? = some t) : Tryz.pinned.checked.prog.wantsStandIn t = false := by
  obtain rfl : fn = Tryz.f3 := (Option.some.inj (Tryz.func3.symm.trans hfn)).symm
  rw [Tryz.params3] at ht
  have hm : t ∈ [22, 3, 30] := by simpa using Array.mem_of_getElem? ht
  exact (show Tryz.pinned.checked.prog.wantsStandIn t = false by simpa using List.all_eq_true.1 doors.fStand3 t hm)
/-- The tied card. -/
theorem proved : Rows.ForkReplacesUptoCardSaid :=
  Claim7.holds_tied_plain_at .later [] [.sentinel, .sentinel, .data, .data, .data, .pinned, .data] true (true, "ae152c9fa0fd46d58403dde43c6d6c7d8f7e95621f113a6441e8cc160b56b74c") true
    doors.forkReplaces_over (fun _ h => by cases h) (by kernel_rfl) (fun _ h => by cases h) ties.forkReplacesUpto_row_tie rfl ⟨rfl, rfl⟩ doors.fMain rfl
    (fun f fn hf hfn => by
      obtain rfl : f = 3 := (Option.some.inj (doors.fNamed3.symm.trans hf)).symm
      exact ⟨doors.fLooks, stand fn hfn⟩)
    doors.fGoes3
#print axioms proved
end Go.Proofs.YtaodjmfmheifeaaGreatDoor.forkReplaces
