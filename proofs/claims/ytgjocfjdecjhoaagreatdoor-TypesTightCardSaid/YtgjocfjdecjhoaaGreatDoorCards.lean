/-
  DERIVED. GIVEN WITH THE SEED: THE CARDS: each row of YtgjocfjdecjhoaaGreatDoorRows.lean that lists a variable, with what it lists TIED to the program's text (the seventh form; the later family's looks); each row that meets fmt, with fmt's text TOLD by the authors' own Lean function (tested against real Go, not proved from fmt's source: count such statements apart). THE CARD IS WHAT COUNTS. Prove the row's statement (the work); the ties are given (YtgjocfjdecjhoaaGreatDoorTie.lean); close each card by the builder's one call (the guide's Derived/Test/ToyasCard.lean, 'card_holds'). Laid BY PROGRAM, IN A SANDBOX (cutbox-door.mjs). By AI agents, Wed Nov 11 2026. No macro, syntax, notation, axiom, sorry.
-/
import Derived.Test.YtgjocfjdecjhoaaGreatDoorRows
import GoSem.ClaimSeven
namespace Go.Proofs.YtgjocfjdecjhoaaGreatDoor
namespace Rows

/-- THE TIED CARD OF 'probitylaw03.TypesTurned'. -/
def typesTurnedCard : Claim7 := { stood := { row := typesTurnedRow, standIns := [], harness := (true, "b3b6d53f2c480d9f8d9c47f460a80e76f436af0f4602b41f8e68b2f39be5a596"), looks := true }, kinds := [], alts := [], laidByText := true, laidKinds := [.data, .data, .data, .data, .sentinel, .sentinel, .pinned], laidTests := true, laidLooks := .later }
def TypesTurnedCardSaid : Prop := Claim7.holds Tryz.pinned (.plain (OpenSpec.ofChange typesTurnedSpec)) typesTurnedCard

/-- THE TIED CARD OF 'probitylaw03.TypesInside'. -/
def typesInsideCard : Claim7 := { stood := { row := typesInsideRow, standIns := [], harness := (true, "b3b6d53f2c480d9f8d9c47f460a80e76f436af0f4602b41f8e68b2f39be5a596"), looks := true }, kinds := [], alts := [], laidByText := true, laidKinds := [.data, .data, .data, .data, .sentinel, .sentinel, .pinned], laidTests := true, laidLooks := .later }
def TypesInsideCardSaid : Prop := Claim7.holds Tryz.pinned (.plain (OpenSpec.ofChange typesInsideSpec)) typesInsideCard

/-- THE TIED CARD OF 'probitylaw03.TypesTight'. -/
def typesTightCard : Claim7 := { stood := { row := typesTightRow, standIns := [], harness := (true, "b3b6d53f2c480d9f8d9c47f460a80e76f436af0f4602b41f8e68b2f39be5a596"), looks := true }, kinds := [], alts := [], laidByText := true, laidKinds := [.data, .data, .data, .data, .sentinel, .sentinel, .pinned], laidTests := true, laidLooks := .later }
def TypesTightCardSaid : Prop := Claim7.holds Tryz.pinned (.plain (OpenSpec.ofChange typesTightSpec)) typesTightCard

/-- THE TIED CARD OF 'probitylaw03.TypesClauses'. -/
def typesClausesCard : Claim7 := { stood := { row := typesClausesRow, standIns := [], harness := (true, "b3b6d53f2c480d9f8d9c47f460a80e76f436af0f4602b41f8e68b2f39be5a596"), looks := true }, kinds := [], alts := [], laidByText := true, laidKinds := [.data, .data, .data, .data, .sentinel, .sentinel, .pinned], laidTests := true, laidLooks := .later }
def TypesClausesCardSaid : Prop := Claim7.holds Tryz.pinned (.plain (OpenSpec.ofChange typesClausesSpec)) typesClausesCard

/-- THE TIED CARD OF 'probitylaw03.TypesOwn'. -/
def typesOwnCard : Claim7 := { stood := { row := typesOwnRow, standIns := [], harness := (true, "b3b6d53f2c480d9f8d9c47f460a80e76f436af0f4602b41f8e68b2f39be5a596"), looks := true }, kinds := [], alts := [], laidByText := true, laidKinds := [.data, .data, .data, .data, .sentinel, .sentinel, .pinned], laidTests := true, laidLooks := .later }
def TypesOwnCardSaid : Prop := Claim7.holds Tryz.pinned (.plain (OpenSpec.ofChange typesOwnSpec)) typesOwnCard

/-- THE SECOND FORM's CARD OF 'probitylaw03.TypesTurned'. -/
def typesTurnedUptoCard : Claim7 := { stood := { row := typesTurnedUptoRow, standIns := [], harness := (true, "b3b6d53f2c480d9f8d9c47f460a80e76f436af0f4602b41f8e68b2f39be5a596"), looks := true }, kinds := [], alts := [], laidByText := true, laidKinds := [.data, .data, .data, .data, .sentinel, .sentinel, .pinned], laidTests := true, laidLooks := .later }
def TypesTurnedUptoCardSaid : Prop := Claim7.holds Tryz.pinned (.plain (OpenSpec.upto typesTurnedSpec)) typesTurnedUptoCard

/-- THE SECOND FORM's CARD OF 'probitylaw03.TypesInside'. -/
def typesInsideUptoCard : Claim7 := { stood := { row := typesInsideUptoRow, standIns := [], harness := (true, "b3b6d53f2c480d9f8d9c47f460a80e76f436af0f4602b41f8e68b2f39be5a596"), looks := true }, kinds := [], alts := [], laidByText := true, laidKinds := [.data, .data, .data, .data, .sentinel, .sentinel, .pinned], laidTests := true, laidLooks := .later }
def TypesInsideUptoCardSaid : Prop := Claim7.holds Tryz.pinned (.plain (OpenSpec.upto typesInsideSpec)) typesInsideUptoCard

/-- THE SECOND FORM's CARD OF 'probitylaw03.TypesTight'. -/
def typesTightUptoCard : Claim7 := { stood := { row := typesTightUptoRow, standIns := [], harness := (true, "b3b6d53f2c480d9f8d9c47f460a80e76f436af0f4602b41f8e68b2f39be5a596"), looks := true }, kinds := [], alts := [], laidByText := true, laidKinds := [.data, .data, .data, .data, .sentinel, .sentinel, .pinned], laidTests := true, laidLooks := .later }
def TypesTightUptoCardSaid : Prop := Claim7.holds Tryz.pinned (.plain (OpenSpec.upto typesTightSpec)) typesTightUptoCard

/-- THE SECOND FORM's CARD OF 'probitylaw03.TypesClauses'. -/
def typesClausesUptoCard : Claim7 := { stood := { row := typesClausesUptoRow, standIns := [], harness := (true, "b3b6d53f2c480d9f8d9c47f460a80e76f436af0f4602b41f8e68b2f39be5a596"), looks := true }, kinds := [], alts := [], laidByText := true, laidKinds := [.data, .data, .data, .data, .sentinel, .sentinel, .pinned], laidTests := true, laidLooks := .later }
def TypesClausesUptoCardSaid : Prop := Claim7.holds Tryz.pinned (.plain (OpenSpec.upto typesClausesSpec)) typesClausesUptoCard

/-- THE SECOND FORM's CARD OF 'probitylaw03.TypesOwn'. -/
def typesOwnUptoCard : Claim7 := { stood := { row := typesOwnUptoRow, standIns := [], harness := (true, "b3b6d53f2c480d9f8d9c47f460a80e76f436af0f4602b41f8e68b2f39be5a596"), looks := true }, kinds := [], alts := [], laidByText := true, laidKinds := [.data, .data, .data, .data, .sentinel, .sentinel, .pinned], laidTests := true, laidLooks := .later }
def TypesOwnUptoCardSaid : Prop := Claim7.holds Tryz.pinned (.plain (OpenSpec.upto typesOwnSpec)) typesOwnUptoCard
end Rows
end Go.Proofs.YtgjocfjdecjhoaaGreatDoor
