/-
  DERIVED. GIVEN WITH THE SEED: THE CARDS: each row of YtpbaggfjagfcgaaDoorRows.lean that lists a variable, with what it lists TIED to the program's text (the seventh form; the later family's looks); each row that meets fmt, with fmt's text TOLD by the authors' own Lean function (tested against real Go, not proved from fmt's source: count such statements apart). THE CARD IS WHAT COUNTS. Prove the row's statement (the work); the ties are given (YtpbaggfjagfcgaaDoorTie.lean); close each card by the builder's one call (the guide's Derived/Test/ToyasCard.lean, 'card_holds'). Laid BY PROGRAM, IN A SANDBOX (cutbox-door.mjs). By AI agents, Wed Nov 11 2026. No macro, syntax, notation, axiom, sorry.
-/
import Derived.Test.YtpbaggfjagfcgaaDoorRows
import GoSem.ClaimSeven
namespace Go.Proofs.YtpbaggfjagfcgaaDoor
namespace Rows

/-- THE TIED CARD OF 'laws.FnExactBarParts'. -/
def fnExactBarPartsCard : Claim7 := { stood := { row := fnExactBarPartsRow, standIns := [], harness := (true, "6353dca9ec8a7783ac73dd02aa01290e8445d3fca8cf223270bbe22352264954"), looks := false }, kinds := [], alts := [], laidByText := true, laidKinds := [.data, .data, .data], laidTests := true, laidLooks := .later }
def FnExactBarPartsCardSaid : Prop := Claim7.holds Tryd.pinned (.plain (OpenSpec.ofChange fnExactBarPartsSpec)) fnExactBarPartsCard

/-- THE TIED CARD OF 'laws.FnExactRoundLength'. -/
def fnExactRoundLengthCard : Claim7 := { stood := { row := fnExactRoundLengthRow, standIns := [], harness := (true, "6353dca9ec8a7783ac73dd02aa01290e8445d3fca8cf223270bbe22352264954"), looks := false }, kinds := [], alts := [], laidByText := true, laidKinds := [.data, .data, .data], laidTests := true, laidLooks := .later }
def FnExactRoundLengthCardSaid : Prop := Claim7.holds Tryd.pinned (.plain (OpenSpec.ofChange fnExactRoundLengthSpec)) fnExactRoundLengthCard

/-- THE TIED CARD OF 'laws.FnExactBarText'. -/
def fnExactBarTextCard : Claim7 := { stood := { row := fnExactBarTextRow, standIns := [], harness := (true, "6353dca9ec8a7783ac73dd02aa01290e8445d3fca8cf223270bbe22352264954"), looks := false }, kinds := [], alts := [], laidByText := true, laidKinds := [.data, .data, .data], laidTests := true, laidLooks := .later }
def FnExactBarTextCardSaid : Prop := Claim7.holds Tryd.pinned (.plain (OpenSpec.ofChange fnExactBarTextSpec)) fnExactBarTextCard

/-- THE TIED CARD OF 'laws.FnExactScaleStep'. -/
def fnExactScaleStepCard : Claim7 := { stood := { row := fnExactScaleStepRow, standIns := [], harness := (true, "6353dca9ec8a7783ac73dd02aa01290e8445d3fca8cf223270bbe22352264954"), looks := false }, kinds := [], alts := [], laidByText := true, laidKinds := [.data, .data, .data], laidTests := true, laidLooks := .later }
def FnExactScaleStepCardSaid : Prop := Claim7.holds Tryd.pinned (.plain (OpenSpec.ofChange fnExactScaleStepSpec)) fnExactScaleStepCard

/-- THE TIED CARD OF 'laws.FnExactRefOfTile'. -/
def fnExactRefOfTileCard : Claim7 := { stood := { row := fnExactRefOfTileRow, standIns := [], harness := (true, "6353dca9ec8a7783ac73dd02aa01290e8445d3fca8cf223270bbe22352264954"), looks := false }, kinds := [], alts := [], laidByText := true, laidKinds := [.data, .data, .data], laidTests := true, laidLooks := .later }
def FnExactRefOfTileCardSaid : Prop := Claim7.holds Tryd.pinned (.plain (OpenSpec.ofChange fnExactRefOfTileSpec)) fnExactRefOfTileCard

/-- THE TIED CARD OF 'laws.FnExactBarFor'. -/
def fnExactBarForCard : Claim7 := { stood := { row := fnExactBarForRow, standIns := [], harness := (true, "6353dca9ec8a7783ac73dd02aa01290e8445d3fca8cf223270bbe22352264954"), looks := false }, kinds := [], alts := [], laidByText := true, laidKinds := [.data, .data, .data], laidTests := true, laidLooks := .later }
def FnExactBarForCardSaid : Prop := Claim7.holds Tryd.pinned (.plain (OpenSpec.ofChange fnExactBarForSpec)) fnExactBarForCard

/-- THE TIED CARD OF 'laws.FnExactRefOf'. -/
def fnExactRefOfCard : Claim7 := { stood := { row := fnExactRefOfRow, standIns := [], harness := (true, "6353dca9ec8a7783ac73dd02aa01290e8445d3fca8cf223270bbe22352264954"), looks := false }, kinds := [], alts := [], laidByText := true, laidKinds := [.data, .data, .data], laidTests := true, laidLooks := .later }
def FnExactRefOfCardSaid : Prop := Claim7.holds Tryd.pinned (.plain (OpenSpec.ofChange fnExactRefOfSpec)) fnExactRefOfCard

/-- THE TIED CARD OF 'laws.FnBars'. -/
def fnBarsCard : Claim7 := { stood := { row := fnBarsRow, standIns := [], harness := (true, "6353dca9ec8a7783ac73dd02aa01290e8445d3fca8cf223270bbe22352264954"), looks := false }, kinds := [], alts := [], laidByText := true, laidKinds := [.data, .data, .data], laidTests := true, laidLooks := .later }
def FnBarsCardSaid : Prop := Claim7.holds Tryd.pinned (.plain (OpenSpec.ofChange fnBarsSpec)) fnBarsCard

/-- THE SECOND FORM's CARD OF 'laws.FnExactBarParts'. -/
def fnExactBarPartsUptoCard : Claim7 := { stood := { row := fnExactBarPartsUptoRow, standIns := [], harness := (true, "6353dca9ec8a7783ac73dd02aa01290e8445d3fca8cf223270bbe22352264954"), looks := false }, kinds := [], alts := [], laidByText := true, laidKinds := [.data, .data, .data], laidTests := true, laidLooks := .later }
def FnExactBarPartsUptoCardSaid : Prop := Claim7.holds Tryd.pinned (.plain (OpenSpec.upto fnExactBarPartsSpec)) fnExactBarPartsUptoCard

/-- THE SECOND FORM's CARD OF 'laws.FnExactRoundLength'. -/
def fnExactRoundLengthUptoCard : Claim7 := { stood := { row := fnExactRoundLengthUptoRow, standIns := [], harness := (true, "6353dca9ec8a7783ac73dd02aa01290e8445d3fca8cf223270bbe22352264954"), looks := false }, kinds := [], alts := [], laidByText := true, laidKinds := [.data, .data, .data], laidTests := true, laidLooks := .later }
def FnExactRoundLengthUptoCardSaid : Prop := Claim7.holds Tryd.pinned (.plain (OpenSpec.upto fnExactRoundLengthSpec)) fnExactRoundLengthUptoCard

/-- THE SECOND FORM's CARD OF 'laws.FnExactBarText'. -/
def fnExactBarTextUptoCard : Claim7 := { stood := { row := fnExactBarTextUptoRow, standIns := [], harness := (true, "6353dca9ec8a7783ac73dd02aa01290e8445d3fca8cf223270bbe22352264954"), looks := false }, kinds := [], alts := [], laidByText := true, laidKinds := [.data, .data, .data], laidTests := true, laidLooks := .later }
def FnExactBarTextUptoCardSaid : Prop := Claim7.holds Tryd.pinned (.plain (OpenSpec.upto fnExactBarTextSpec)) fnExactBarTextUptoCard

/-- THE SECOND FORM's CARD OF 'laws.FnExactScaleStep'. -/
def fnExactScaleStepUptoCard : Claim7 := { stood := { row := fnExactScaleStepUptoRow, standIns := [], harness := (true, "6353dca9ec8a7783ac73dd02aa01290e8445d3fca8cf223270bbe22352264954"), looks := false }, kinds := [], alts := [], laidByText := true, laidKinds := [.data, .data, .data], laidTests := true, laidLooks := .later }
def FnExactScaleStepUptoCardSaid : Prop := Claim7.holds Tryd.pinned (.plain (OpenSpec.upto fnExactScaleStepSpec)) fnExactScaleStepUptoCard

/-- THE SECOND FORM's CARD OF 'laws.FnExactRefOfTile'. -/
def fnExactRefOfTileUptoCard : Claim7 := { stood := { row := fnExactRefOfTileUptoRow, standIns := [], harness := (true, "6353dca9ec8a7783ac73dd02aa01290e8445d3fca8cf223270bbe22352264954"), looks := false }, kinds := [], alts := [], laidByText := true, laidKinds := [.data, .data, .data], laidTests := true, laidLooks := .later }
def FnExactRefOfTileUptoCardSaid : Prop := Claim7.holds Tryd.pinned (.plain (OpenSpec.upto fnExactRefOfTileSpec)) fnExactRefOfTileUptoCard

/-- THE SECOND FORM's CARD OF 'laws.FnExactBarFor'. -/
def fnExactBarForUptoCard : Claim7 := { stood := { row := fnExactBarForUptoRow, standIns := [], harness := (true, "6353dca9ec8a7783ac73dd02aa01290e8445d3fca8cf223270bbe22352264954"), looks := false }, kinds := [], alts := [], laidByText := true, laidKinds := [.data, .data, .data], laidTests := true, laidLooks := .later }
def FnExactBarForUptoCardSaid : Prop := Claim7.holds Tryd.pinned (.plain (OpenSpec.upto fnExactBarForSpec)) fnExactBarForUptoCard

/-- THE SECOND FORM's CARD OF 'laws.FnExactRefOf'. -/
def fnExactRefOfUptoCard : Claim7 := { stood := { row := fnExactRefOfUptoRow, standIns := [], harness := (true, "6353dca9ec8a7783ac73dd02aa01290e8445d3fca8cf223270bbe22352264954"), looks := false }, kinds := [], alts := [], laidByText := true, laidKinds := [.data, .data, .data], laidTests := true, laidLooks := .later }
def FnExactRefOfUptoCardSaid : Prop := Claim7.holds Tryd.pinned (.plain (OpenSpec.upto fnExactRefOfSpec)) fnExactRefOfUptoCard

/-- THE SECOND FORM's CARD OF 'laws.FnBars'. -/
def fnBarsUptoCard : Claim7 := { stood := { row := fnBarsUptoRow, standIns := [], harness := (true, "6353dca9ec8a7783ac73dd02aa01290e8445d3fca8cf223270bbe22352264954"), looks := false }, kinds := [], alts := [], laidByText := true, laidKinds := [.data, .data, .data], laidTests := true, laidLooks := .later }
def FnBarsUptoCardSaid : Prop := Claim7.holds Tryd.pinned (.plain (OpenSpec.upto fnBarsSpec)) fnBarsUptoCard
end Rows
end Go.Proofs.YtpbaggfjagfcgaaDoor
