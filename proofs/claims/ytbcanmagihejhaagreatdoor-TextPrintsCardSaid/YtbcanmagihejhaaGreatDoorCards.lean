/-
  DERIVED. GIVEN WITH THE SEED: THE CARDS: each row of YtbcanmagihejhaaGreatDoorRows.lean that lists a variable, with what it lists TIED to the program's text (the seventh form; the later family's looks); each row that meets fmt, with fmt's text TOLD by the authors' own Lean function (tested against real Go, not proved from fmt's source: count such statements apart). THE CARD IS WHAT COUNTS. Prove the row's statement (the work); the ties are given (YtbcanmagihejhaaGreatDoorTie.lean); close each card by the builder's one call (the guide's Derived/Test/ToyasCard.lean, 'card_holds'). Laid BY PROGRAM, IN A SANDBOX (cutbox-door.mjs). By AI agents, Wed Nov 11 2026. No macro, syntax, notation, axiom, sorry.
-/
import Derived.Test.YtbcanmagihejhaaGreatDoorRows
import GoSem.ClaimSeven
namespace Go.Proofs.YtbcanmagihejhaaGreatDoor
namespace Rows

/-- THE TIED CARD OF 'probitylaw02.TextParses'. -/
def textParsesCard : Claim7 := { stood := { row := textParsesRow, standIns := [], harness := (true, "884f91fcede66cb50dd3708c697445f2eb294473f33ea99f843fc50d1bf3554c"), looks := true }, kinds := [], alts := [], laidByText := true, laidKinds := [.data, .data, .data, .data, .sentinel, .sentinel, .pinned], laidTests := true, laidLooks := .later }
def TextParsesCardSaid : Prop := Claim7.holds Tryz.pinned (.plain (OpenSpec.ofChange textParsesSpec)) textParsesCard

/-- THE TIED CARD OF 'probitylaw02.TextRound'. -/
def textRoundCard : Claim7 := { stood := { row := textRoundRow, standIns := [], harness := (true, "884f91fcede66cb50dd3708c697445f2eb294473f33ea99f843fc50d1bf3554c"), looks := true }, kinds := [], alts := [], laidByText := true, laidKinds := [.data, .data, .data, .data, .sentinel, .sentinel, .pinned], laidTests := true, laidLooks := .later }
def TextRoundCardSaid : Prop := Claim7.holds Tryz.pinned (.plain (OpenSpec.ofChange textRoundSpec)) textRoundCard

/-- THE TIED CARD OF 'probitylaw02.TextPrints'. -/
def textPrintsCard : Claim7 := { stood := { row := textPrintsRow, standIns := [], harness := (true, "884f91fcede66cb50dd3708c697445f2eb294473f33ea99f843fc50d1bf3554c"), looks := true }, kinds := [], alts := [], laidByText := true, laidKinds := [.data, .data, .data, .data, .sentinel, .sentinel, .pinned], laidTests := true, laidLooks := .later }
def TextPrintsCardSaid : Prop := Claim7.holds Tryz.pinned (.plain (OpenSpec.ofChange textPrintsSpec)) textPrintsCard

/-- THE TIED CARD OF 'probitylaw02.TextFormulas'. -/
def textFormulasCard : Claim7 := { stood := { row := textFormulasRow, standIns := [], harness := (true, "884f91fcede66cb50dd3708c697445f2eb294473f33ea99f843fc50d1bf3554c"), looks := true }, kinds := [], alts := [], laidByText := true, laidKinds := [.data, .data, .data, .data, .sentinel, .sentinel, .pinned], laidTests := true, laidLooks := .later }
def TextFormulasCardSaid : Prop := Claim7.holds Tryz.pinned (.plain (OpenSpec.ofChange textFormulasSpec)) textFormulasCard

/-- THE TIED CARD OF 'probitylaw02.TextTree'. -/
def textTreeCard : Claim7 := { stood := { row := textTreeRow, standIns := [], harness := (true, "884f91fcede66cb50dd3708c697445f2eb294473f33ea99f843fc50d1bf3554c"), looks := true }, kinds := [], alts := [], laidByText := true, laidKinds := [.data, .data, .data, .data, .sentinel, .sentinel, .pinned], laidTests := true, laidLooks := .later }
def TextTreeCardSaid : Prop := Claim7.holds Tryz.pinned (.plain (OpenSpec.ofChange textTreeSpec)) textTreeCard

/-- THE TIED CARD OF 'probitylaw02.TextBlanks'. -/
def textBlanksCard : Claim7 := { stood := { row := textBlanksRow, standIns := [], harness := (true, "884f91fcede66cb50dd3708c697445f2eb294473f33ea99f843fc50d1bf3554c"), looks := true }, kinds := [], alts := [], laidByText := true, laidKinds := [.data, .data, .data, .data, .sentinel, .sentinel, .pinned], laidTests := true, laidLooks := .later }
def TextBlanksCardSaid : Prop := Claim7.holds Tryz.pinned (.plain (OpenSpec.ofChange textBlanksSpec)) textBlanksCard

/-- THE TIED CARD OF 'probitylaw02.TextTwice'. -/
def textTwiceCard : Claim7 := { stood := { row := textTwiceRow, standIns := [], harness := (true, "884f91fcede66cb50dd3708c697445f2eb294473f33ea99f843fc50d1bf3554c"), looks := true }, kinds := [], alts := [], laidByText := true, laidKinds := [.data, .data, .data, .data, .sentinel, .sentinel, .pinned], laidTests := true, laidLooks := .later }
def TextTwiceCardSaid : Prop := Claim7.holds Tryz.pinned (.plain (OpenSpec.ofChange textTwiceSpec)) textTwiceCard

/-- THE TIED CARD OF 'probitylaw02.TextMany'. -/
def textManyCard : Claim7 := { stood := { row := textManyRow, standIns := [], harness := (true, "884f91fcede66cb50dd3708c697445f2eb294473f33ea99f843fc50d1bf3554c"), looks := true }, kinds := [], alts := [], laidByText := true, laidKinds := [.data, .data, .data, .data, .sentinel, .sentinel, .pinned], laidTests := true, laidLooks := .later }
def TextManyCardSaid : Prop := Claim7.holds Tryz.pinned (.plain (OpenSpec.ofChange textManySpec)) textManyCard

/-- THE TIED CARD OF 'probitylaw02.TextEqual'. -/
def textEqualCard : Claim7 := { stood := { row := textEqualRow, standIns := [], harness := (true, "884f91fcede66cb50dd3708c697445f2eb294473f33ea99f843fc50d1bf3554c"), looks := true }, kinds := [], alts := [], laidByText := true, laidKinds := [.data, .data, .data, .data, .sentinel, .sentinel, .pinned], laidTests := true, laidLooks := .later }
def TextEqualCardSaid : Prop := Claim7.holds Tryz.pinned (.plain (OpenSpec.ofChange textEqualSpec)) textEqualCard

/-- THE SECOND FORM's CARD OF 'probitylaw02.TextParses'. -/
def textParsesUptoCard : Claim7 := { stood := { row := textParsesUptoRow, standIns := [], harness := (true, "884f91fcede66cb50dd3708c697445f2eb294473f33ea99f843fc50d1bf3554c"), looks := true }, kinds := [], alts := [], laidByText := true, laidKinds := [.data, .data, .data, .data, .sentinel, .sentinel, .pinned], laidTests := true, laidLooks := .later }
def TextParsesUptoCardSaid : Prop := Claim7.holds Tryz.pinned (.plain (OpenSpec.upto textParsesSpec)) textParsesUptoCard

/-- THE SECOND FORM's CARD OF 'probitylaw02.TextRound'. -/
def textRoundUptoCard : Claim7 := { stood := { row := textRoundUptoRow, standIns := [], harness := (true, "884f91fcede66cb50dd3708c697445f2eb294473f33ea99f843fc50d1bf3554c"), looks := true }, kinds := [], alts := [], laidByText := true, laidKinds := [.data, .data, .data, .data, .sentinel, .sentinel, .pinned], laidTests := true, laidLooks := .later }
def TextRoundUptoCardSaid : Prop := Claim7.holds Tryz.pinned (.plain (OpenSpec.upto textRoundSpec)) textRoundUptoCard

/-- THE SECOND FORM's CARD OF 'probitylaw02.TextPrints'. -/
def textPrintsUptoCard : Claim7 := { stood := { row := textPrintsUptoRow, standIns := [], harness := (true, "884f91fcede66cb50dd3708c697445f2eb294473f33ea99f843fc50d1bf3554c"), looks := true }, kinds := [], alts := [], laidByText := true, laidKinds := [.data, .data, .data, .data, .sentinel, .sentinel, .pinned], laidTests := true, laidLooks := .later }
def TextPrintsUptoCardSaid : Prop := Claim7.holds Tryz.pinned (.plain (OpenSpec.upto textPrintsSpec)) textPrintsUptoCard

/-- THE SECOND FORM's CARD OF 'probitylaw02.TextFormulas'. -/
def textFormulasUptoCard : Claim7 := { stood := { row := textFormulasUptoRow, standIns := [], harness := (true, "884f91fcede66cb50dd3708c697445f2eb294473f33ea99f843fc50d1bf3554c"), looks := true }, kinds := [], alts := [], laidByText := true, laidKinds := [.data, .data, .data, .data, .sentinel, .sentinel, .pinned], laidTests := true, laidLooks := .later }
def TextFormulasUptoCardSaid : Prop := Claim7.holds Tryz.pinned (.plain (OpenSpec.upto textFormulasSpec)) textFormulasUptoCard

/-- THE SECOND FORM's CARD OF 'probitylaw02.TextTree'. -/
def textTreeUptoCard : Claim7 := { stood := { row := textTreeUptoRow, standIns := [], harness := (true, "884f91fcede66cb50dd3708c697445f2eb294473f33ea99f843fc50d1bf3554c"), looks := true }, kinds := [], alts := [], laidByText := true, laidKinds := [.data, .data, .data, .data, .sentinel, .sentinel, .pinned], laidTests := true, laidLooks := .later }
def TextTreeUptoCardSaid : Prop := Claim7.holds Tryz.pinned (.plain (OpenSpec.upto textTreeSpec)) textTreeUptoCard

/-- THE SECOND FORM's CARD OF 'probitylaw02.TextBlanks'. -/
def textBlanksUptoCard : Claim7 := { stood := { row := textBlanksUptoRow, standIns := [], harness := (true, "884f91fcede66cb50dd3708c697445f2eb294473f33ea99f843fc50d1bf3554c"), looks := true }, kinds := [], alts := [], laidByText := true, laidKinds := [.data, .data, .data, .data, .sentinel, .sentinel, .pinned], laidTests := true, laidLooks := .later }
def TextBlanksUptoCardSaid : Prop := Claim7.holds Tryz.pinned (.plain (OpenSpec.upto textBlanksSpec)) textBlanksUptoCard

/-- THE SECOND FORM's CARD OF 'probitylaw02.TextTwice'. -/
def textTwiceUptoCard : Claim7 := { stood := { row := textTwiceUptoRow, standIns := [], harness := (true, "884f91fcede66cb50dd3708c697445f2eb294473f33ea99f843fc50d1bf3554c"), looks := true }, kinds := [], alts := [], laidByText := true, laidKinds := [.data, .data, .data, .data, .sentinel, .sentinel, .pinned], laidTests := true, laidLooks := .later }
def TextTwiceUptoCardSaid : Prop := Claim7.holds Tryz.pinned (.plain (OpenSpec.upto textTwiceSpec)) textTwiceUptoCard

/-- THE SECOND FORM's CARD OF 'probitylaw02.TextMany'. -/
def textManyUptoCard : Claim7 := { stood := { row := textManyUptoRow, standIns := [], harness := (true, "884f91fcede66cb50dd3708c697445f2eb294473f33ea99f843fc50d1bf3554c"), looks := true }, kinds := [], alts := [], laidByText := true, laidKinds := [.data, .data, .data, .data, .sentinel, .sentinel, .pinned], laidTests := true, laidLooks := .later }
def TextManyUptoCardSaid : Prop := Claim7.holds Tryz.pinned (.plain (OpenSpec.upto textManySpec)) textManyUptoCard

/-- THE SECOND FORM's CARD OF 'probitylaw02.TextEqual'. -/
def textEqualUptoCard : Claim7 := { stood := { row := textEqualUptoRow, standIns := [], harness := (true, "884f91fcede66cb50dd3708c697445f2eb294473f33ea99f843fc50d1bf3554c"), looks := true }, kinds := [], alts := [], laidByText := true, laidKinds := [.data, .data, .data, .data, .sentinel, .sentinel, .pinned], laidTests := true, laidLooks := .later }
def TextEqualUptoCardSaid : Prop := Claim7.holds Tryz.pinned (.plain (OpenSpec.upto textEqualSpec)) textEqualUptoCard
end Rows
end Go.Proofs.YtbcanmagihejhaaGreatDoor
