/- probitylaw25.ForkSame returns true for every input of bulk at most 1048576, and each argument reads afterwards as it read before; where the listed package-level variables hold what the program's text lays. -/
import Derived.Test.YtaodjmfmheifeaaGreatDoorKSameB
import Derived.Test.YtaodjmfmheifeaaGreatDoorKTieE
import Derived.Test.YtaodjmfmheifeaaGreatDoorKCdS
import Derived.Test.YtaodjmfmheifeaaGreatDoorKGoes
import Derived.Test.YtaodjmfmheifeaaGreatDoorCards
import Derived.SevenTiedAt
set_option linter.unusedSimpArgs false
set_option linter.unusedVariables false
namespace Go.Proofs.YtaodjmfmheifeaaGreatDoor.forkSame
open Go Go.ChangeShapes Go.WideShapes Go.ChangeAt Go.RowKit
theorem stand (fn : Func) (hfn : Tryz.pinned.checked.prog.funcs[4]? = some fn) (j : Nat) (t : TypeId) (ht : fn.params[j]? = some t) : Tryz.pinned.checked.prog.wantsStandIn t = false := by
  obtain rfl : fn = Tryz.f4 := (Option.some.inj (Tryz.func4.symm.trans hfn)).symm
  rw [Tryz.params4] at ht
  have hm : t ∈ [37, 37] := by simpa using Array.mem_of_getElem? ht
  exact (show Tryz.pinned.checked.prog.wantsStandIn t = false by simpa using List.all_eq_true.1 doors.fStand4 t hm)
/-- The tied card. -/
theorem proved : Rows.ForkSameUptoCardSaid :=
  Claim7.holds_tied_plain_at .later [] [.sentinel, .sentinel, .data, .data, .data, .pinned, .data] true (true, "ae152c9fa0fd46d58403dde43c6d6c7d8f7e95621f113a6441e8cc160b56b74c") true
    doors.forkSame_over (fun _ h => by cases h) (by kernel_rfl) (fun _ h => by cases h) ties.forkSameUpto_row_tie rfl ⟨rfl, rfl⟩ doors.fMain rfl
    (fun f fn hf hfn => by
      obtain rfl : f = 4 := (Option.some.inj (doors.fNamed4.symm.trans hf)).symm
      exact ⟨doors.fLooks, stand fn hfn⟩)
    doors.fGoes4
#print axioms proved
end Go.Proofs.YtaodjmfmheifeaaGreatDoor.forkSame
