/-
  DERIVED. GIVEN WITH THE SEED: THE CARDS: each row of YtcjkjjnnicadfaaGreatDoorRows.lean that lists a variable, with what it lists TIED to the program's text (the seventh form; the later family's looks); each row that meets fmt, with fmt's text TOLD by the authors' own Lean function (tested against real Go, not proved from fmt's source: count such statements apart). THE CARD IS WHAT COUNTS. Prove the row's statement (the work); the ties are given (YtcjkjjnnicadfaaGreatDoorTie.lean); close each card by the builder's one call (the guide's Derived/Test/ToyasCard.lean, 'card_holds'). Laid BY PROGRAM, IN A SANDBOX (cutbox-door.mjs). By AI agents, Wed Nov 11 2026. No macro, syntax, notation, axiom, sorry.
-/
import Derived.Test.YtcjkjjnnicadfaaGreatDoorRows
import GoSem.ClaimSeven
namespace Go.Proofs.YtcjkjjnnicadfaaGreatDoor
namespace Rows

/-- THE TIED CARD OF 'probitylaw08.AmendApply'. -/
def amendApplyCard : Claim7 := { stood := { row := amendApplyRow, standIns := [], harness := (true, "5c856003e50e6a628c2a486b60bfb28e482fe4ddcf9d9821475f9119c717941a"), looks := true }, kinds := [], alts := [], laidByText := true, laidKinds := [.data, .data, .data, .sentinel, .sentinel], laidTests := true, laidLooks := .later }
def AmendApplyCardSaid : Prop := Claim7.holds Tryz.pinned (.plain (OpenSpec.ofChange amendApplySpec)) amendApplyCard

/-- THE TIED CARD OF 'probitylaw08.AmendMoves'. -/
def amendMovesCard : Claim7 := { stood := { row := amendMovesRow, standIns := [], harness := (true, "5c856003e50e6a628c2a486b60bfb28e482fe4ddcf9d9821475f9119c717941a"), looks := true }, kinds := [], alts := [], laidByText := true, laidKinds := [.data, .data, .data, .sentinel, .sentinel], laidTests := true, laidLooks := .later }
def AmendMovesCardSaid : Prop := Claim7.holds Tryz.pinned (.plain (OpenSpec.ofChange amendMovesSpec)) amendMovesCard

/-- THE TIED CARD OF 'probitylaw08.AmendTimes'. -/
def amendTimesCard : Claim7 := { stood := { row := amendTimesRow, standIns := [], harness := (true, "5c856003e50e6a628c2a486b60bfb28e482fe4ddcf9d9821475f9119c717941a"), looks := true }, kinds := [], alts := [], laidByText := true, laidKinds := [.data, .data, .data, .sentinel, .sentinel], laidTests := true, laidLooks := .later }
def AmendTimesCardSaid : Prop := Claim7.holds Tryz.pinned (.plain (OpenSpec.ofChange amendTimesSpec)) amendTimesCard

/-- THE TIED CARD OF 'probitylaw08.AmendLate'. -/
def amendLateCard : Claim7 := { stood := { row := amendLateRow, standIns := [], harness := (true, "5c856003e50e6a628c2a486b60bfb28e482fe4ddcf9d9821475f9119c717941a"), looks := true }, kinds := [], alts := [], laidByText := true, laidKinds := [.data, .data, .data, .sentinel, .sentinel], laidTests := true, laidLooks := .later }
def AmendLateCardSaid : Prop := Claim7.holds Tryz.pinned (.plain (OpenSpec.ofChange amendLateSpec)) amendLateCard

/-- THE TIED CARD OF 'probitylaw08.AmendAt'. -/
def amendAtCard : Claim7 := { stood := { row := amendAtRow, standIns := [], harness := (true, "5c856003e50e6a628c2a486b60bfb28e482fe4ddcf9d9821475f9119c717941a"), looks := true }, kinds := [], alts := [], laidByText := true, laidKinds := [.data, .data, .data, .sentinel, .sentinel], laidTests := true, laidLooks := .later }
def AmendAtCardSaid : Prop := Claim7.holds Tryz.pinned (.plain (OpenSpec.ofChange amendAtSpec)) amendAtCard

/-- THE TIED CARD OF 'probitylaw08.AmendForce'. -/
def amendForceCard : Claim7 := { stood := { row := amendForceRow, standIns := [], harness := (true, "5c856003e50e6a628c2a486b60bfb28e482fe4ddcf9d9821475f9119c717941a"), looks := true }, kinds := [], alts := [], laidByText := true, laidKinds := [.data, .data, .data, .sentinel, .sentinel], laidTests := true, laidLooks := .later }
def AmendForceCardSaid : Prop := Claim7.holds Tryz.pinned (.plain (OpenSpec.ofChange amendForceSpec)) amendForceCard

/-- THE SECOND FORM's CARD OF 'probitylaw08.AmendApply'. -/
def amendApplyUptoCard : Claim7 := { stood := { row := amendApplyUptoRow, standIns := [], harness := (true, "5c856003e50e6a628c2a486b60bfb28e482fe4ddcf9d9821475f9119c717941a"), looks := true }, kinds := [], alts := [], laidByText := true, laidKinds := [.data, .data, .data, .sentinel, .sentinel], laidTests := true, laidLooks := .later }
def AmendApplyUptoCardSaid : Prop := Claim7.holds Tryz.pinned (.plain (OpenSpec.upto amendApplySpec)) amendApplyUptoCard

/-- THE SECOND FORM's CARD OF 'probitylaw08.AmendMoves'. -/
def amendMovesUptoCard : Claim7 := { stood := { row := amendMovesUptoRow, standIns := [], harness := (true, "5c856003e50e6a628c2a486b60bfb28e482fe4ddcf9d9821475f9119c717941a"), looks := true }, kinds := [], alts := [], laidByText := true, laidKinds := [.data, .data, .data, .sentinel, .sentinel], laidTests := true, laidLooks := .later }
def AmendMovesUptoCardSaid : Prop := Claim7.holds Tryz.pinned (.plain (OpenSpec.upto amendMovesSpec)) amendMovesUptoCard

/-- THE SECOND FORM's CARD OF 'probitylaw08.AmendTimes'. -/
def amendTimesUptoCard : Claim7 := { stood := { row := amendTimesUptoRow, standIns := [], harness := (true, "5c856003e50e6a628c2a486b60bfb28e482fe4ddcf9d9821475f9119c717941a"), looks := true }, kinds := [], alts := [], laidByText := true, laidKinds := [.data, .data, .data, .sentinel, .sentinel], laidTests := true, laidLooks := .later }
def AmendTimesUptoCardSaid : Prop := Claim7.holds Tryz.pinned (.plain (OpenSpec.upto amendTimesSpec)) amendTimesUptoCard

/-- THE SECOND FORM's CARD OF 'probitylaw08.AmendLate'. -/
def amendLateUptoCard : Claim7 := { stood := { row := amendLateUptoRow, standIns := [], harness := (true, "5c856003e50e6a628c2a486b60bfb28e482fe4ddcf9d9821475f9119c717941a"), looks := true }, kinds := [], alts := [], laidByText := true, laidKinds := [.data, .data, .data, .sentinel, .sentinel], laidTests := true, laidLooks := .later }
def AmendLateUptoCardSaid : Prop := Claim7.holds Tryz.pinned (.plain (OpenSpec.upto amendLateSpec)) amendLateUptoCard

/-- THE SECOND FORM's CARD OF 'probitylaw08.AmendAt'. -/
def amendAtUptoCard : Claim7 := { stood := { row := amendAtUptoRow, standIns := [], harness := (true, "5c856003e50e6a628c2a486b60bfb28e482fe4ddcf9d9821475f9119c717941a"), looks := true }, kinds := [], alts := [], laidByText := true, laidKinds := [.data, .data, .data, .sentinel, .sentinel], laidTests := true, laidLooks := .later }
def AmendAtUptoCardSaid : Prop := Claim7.holds Tryz.pinned (.plain (OpenSpec.upto amendAtSpec)) amendAtUptoCard

/-- THE SECOND FORM's CARD OF 'probitylaw08.AmendForce'. -/
def amendForceUptoCard : Claim7 := { stood := { row := amendForceUptoRow, standIns := [], harness := (true, "5c856003e50e6a628c2a486b60bfb28e482fe4ddcf9d9821475f9119c717941a"), looks := true }, kinds := [], alts := [], laidByText := true, laidKinds := [.data, .data, .data, .sentinel, .sentinel], laidTests := true, laidLooks := .later }
def AmendForceUptoCardSaid : Prop := Claim7.holds Tryz.pinned (.plain (OpenSpec.upto amendForceSpec)) amendForceUptoCard
end Rows
end Go.Proofs.YtcjkjjnnicadfaaGreatDoor
