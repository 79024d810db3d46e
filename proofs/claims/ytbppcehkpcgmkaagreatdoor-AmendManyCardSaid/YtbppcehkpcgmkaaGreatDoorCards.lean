/-
  DERIVED. GIVEN WITH THE SEED: THE CARDS: each row of YtbppcehkpcgmkaaGreatDoorRows.lean that lists a variable, with what it lists TIED to the program's text (the seventh form; the later family's looks); each row that meets fmt, with fmt's text TOLD by the authors' own Lean function (tested against real Go, not proved from fmt's source: count such statements apart). THE CARD IS WHAT COUNTS. Prove the row's statement (the work); the ties are given (YtbppcehkpcgmkaaGreatDoorTie.lean); close each card by the builder's one call (the guide's Derived/Test/ToyasCard.lean, 'card_holds'). Laid BY PROGRAM, IN A SANDBOX (cutbox-door.mjs). By AI agents, Wed Nov 11 2026. No macro, syntax, notation, axiom, sorry.
-/
import Derived.Test.YtbppcehkpcgmkaaGreatDoorRows
import GoSem.ClaimSeven
namespace Go.Proofs.YtbppcehkpcgmkaaGreatDoor
namespace Rows

/-- THE TIED CARD OF 'probitylaw08.AmendMany'. -/
def amendManyCard : Claim7 := { stood := { row := amendManyRow, standIns := [], harness := (true, "e2656079b7e42cb302aaddd8bdc57f5de2a60739d1ed50243808e16091fa8c07"), looks := true }, kinds := [], alts := [], laidByText := true, laidKinds := [.data, .data, .data, .data, .sentinel, .sentinel, .pinned], laidTests := true, laidLooks := .later }
def AmendManyCardSaid : Prop := Claim7.holds Tryz.pinned (.plain (OpenSpec.ofChange amendManySpec)) amendManyCard

/-- THE SECOND FORM's CARD OF 'probitylaw08.AmendMany'. -/
def amendManyUptoCard : Claim7 := { stood := { row := amendManyUptoRow, standIns := [], harness := (true, "e2656079b7e42cb302aaddd8bdc57f5de2a60739d1ed50243808e16091fa8c07"), looks := true }, kinds := [], alts := [], laidByText := true, laidKinds := [.data, .data, .data, .data, .sentinel, .sentinel, .pinned], laidTests := true, laidLooks := .later }
def AmendManyUptoCardSaid : Prop := Claim7.holds Tryz.pinned (.plain (OpenSpec.upto amendManySpec)) amendManyUptoCard
end Rows
end Go.Proofs.YtbppcehkpcgmkaaGreatDoor
