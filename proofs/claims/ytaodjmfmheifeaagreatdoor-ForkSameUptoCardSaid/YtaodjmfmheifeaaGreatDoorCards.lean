/-
  DERIVED. GIVEN WITH THE SEED: THE CARDS: each row of YtaodjmfmheifeaaGreatDoorRows.lean that lists a variable, with what it lists TIED to the program's text (the seventh form; the later family's looks); each row that meets fmt, with fmt's text TOLD by the authors' own Lean function (tested against real Go, not proved from fmt's source: count such statements apart). THE CARD IS WHAT COUNTS. Prove the row's statement (the work); the ties are given (YtaodjmfmheifeaaGreatDoorTie.lean); close each card by the builder's one call (the guide's Derived/Test/ToyasCard.lean, 'card_holds'). Laid BY PROGRAM, IN A SANDBOX (cutbox-door.mjs). By AI agents, Wed Nov 11 2026. No macro, syntax, notation, axiom, sorry.
-/
import Derived.Test.YtaodjmfmheifeaaGreatDoorRows
import GoSem.ClaimSeven
namespace Go.Proofs.YtaodjmfmheifeaaGreatDoor
namespace Rows

/-- THE TIED CARD OF 'probitylaw25.ForkReplaces'. -/
def forkReplacesCard : Claim7 := { stood := { row := forkReplacesRow, standIns := [], harness := (true, "ae152c9fa0fd46d58403dde43c6d6c7d8f7e95621f113a6441e8cc160b56b74c"), looks := true }, kinds := [], alts := [], laidByText := true, laidKinds := [.sentinel, .sentinel, .data, .data, .data, .pinned, .data], laidTests := true, laidLooks := .later }
def ForkReplacesCardSaid : Prop := Claim7.holds Tryz.pinned (.plain (OpenSpec.ofChange forkReplacesSpec)) forkReplacesCard

/-- THE TIED CARD OF 'probitylaw25.ForkSame'. -/
def forkSameCard : Claim7 := { stood := { row := forkSameRow, standIns := [], harness := (true, "ae152c9fa0fd46d58403dde43c6d6c7d8f7e95621f113a6441e8cc160b56b74c"), looks := true }, kinds := [], alts := [], laidByText := true, laidKinds := [.sentinel, .sentinel, .data, .data, .data, .pinned, .data], laidTests := true, laidLooks := .later }
def ForkSameCardSaid : Prop := Claim7.holds Tryz.pinned (.plain (OpenSpec.ofChange forkSameSpec)) forkSameCard

/-- THE TIED CARD OF 'probitylaw25.ForkNil'. -/
def forkNilCard : Claim7 := { stood := { row := forkNilRow, standIns := [], harness := (true, "ae152c9fa0fd46d58403dde43c6d6c7d8f7e95621f113a6441e8cc160b56b74c"), looks := true }, kinds := [], alts := [], laidByText := true, laidKinds := [.sentinel, .sentinel, .data, .data, .data, .pinned, .data], laidTests := true, laidLooks := .later }
def ForkNilCardSaid : Prop := Claim7.holds Tryz.pinned (.plain (OpenSpec.ofChange forkNilSpec)) forkNilCard

/-- THE SECOND FORM's CARD OF 'probitylaw25.ForkReplaces'. -/
def forkReplacesUptoCard : Claim7 := { stood := { row := forkReplacesUptoRow, standIns := [], harness := (true, "ae152c9fa0fd46d58403dde43c6d6c7d8f7e95621f113a6441e8cc160b56b74c"), looks := true }, kinds := [], alts := [], laidByText := true, laidKinds := [.sentinel, .sentinel, .data, .data, .data, .pinned, .data], laidTests := true, laidLooks := .later }
def ForkReplacesUptoCardSaid : Prop := Claim7.holds Tryz.pinned (.plain (OpenSpec.upto forkReplacesSpec)) forkReplacesUptoCard

/-- THE SECOND FORM's CARD OF 'probitylaw25.ForkSame'. -/
def forkSameUptoCard : Claim7 := { stood := { row := forkSameUptoRow, standIns := [], harness := (true, "ae152c9fa0fd46d58403dde43c6d6c7d8f7e95621f113a6441e8cc160b56b74c"), looks := true }, kinds := [], alts := [], laidByText := true, laidKinds := [.sentinel, .sentinel, .data, .data, .data, .pinned, .data], laidTests := true, laidLooks := .later }
def ForkSameUptoCardSaid : Prop := Claim7.holds Tryz.pinned (.plain (OpenSpec.upto forkSameSpec)) forkSameUptoCard

/-- THE SECOND FORM's CARD OF 'probitylaw25.ForkNil'. -/
def forkNilUptoCard : Claim7 := { stood := { row := forkNilUptoRow, standIns := [], harness := (true, "ae152c9fa0fd46d58403dde43c6d6c7d8f7e95621f113a6441e8cc160b56b74c"), looks := true }, kinds := [], alts := [], laidByText := true, laidKinds := [.sentinel, .sentinel, .data, .data, .data, .pinned, .data], laidTests := true, laidLooks := .later }
def ForkNilUptoCardSaid : Prop := Claim7.holds Tryz.pinned (.plain (OpenSpec.upto forkNilSpec)) forkNilUptoCard
end Rows
end Go.Proofs.YtaodjmfmheifeaaGreatDoor
