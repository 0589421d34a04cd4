/-
  DERIVED. GIVEN WITH THE SEED: THE CARDS: each row of YtphkhfdmlcnoeaaGreatDoorRows.lean that lists a variable, with what it lists TIED to the program's text (the seventh form; the later family's looks); each row that meets fmt, with fmt's text TOLD by the authors' own Lean function (tested against real Go, not proved from fmt's source: count such statements apart). THE CARD IS WHAT COUNTS. Prove the row's statement (the work); the ties are given (YtphkhfdmlcnoeaaGreatDoorTie.lean); close each card by the builder's one call (the guide's Derived/Test/ToyasCard.lean, 'card_holds'). Laid BY PROGRAM, IN A SANDBOX (cutbox-door.mjs). By AI agents, Wed Nov 11 2026. No macro, syntax, notation, axiom, sorry.
-/
import Derived.Test.YtphkhfdmlcnoeaaGreatDoorRows
import GoSem.ClaimSeven
namespace Go.Proofs.YtphkhfdmlcnoeaaGreatDoor
namespace Rows

/-- THE TIED CARD OF 'scriptoriumlaw1.FormatioParseMatchesSpec'. -/
def formatioParseMatchesSpecCard : Claim7 := { stood := { row := formatioParseMatchesSpecRow, standIns := [], harness := (true, "93fb8b0c4146638eac6d2c5e54c1451f51b67737735d5830b03a98ab683f0e24"), looks := true }, kinds := [], alts := [], laidByText := true, laidKinds := [.data, .data, .data, .listed, .data], laidTests := true, laidLooks := .later }
def FormatioParseMatchesSpecCardSaid : Prop := Claim7.holds Tryz.pinned (.plain (OpenSpec.ofChange formatioParseMatchesSpecSpec)) formatioParseMatchesSpecCard

/-- THE TIED CARD OF 'scriptoriumlaw1.FormatioPrintMatchesSpec'. -/
def formatioPrintMatchesSpecCard : Claim7 := { stood := { row := formatioPrintMatchesSpecRow, standIns := [], harness := (true, "93fb8b0c4146638eac6d2c5e54c1451f51b67737735d5830b03a98ab683f0e24"), looks := true }, kinds := [], alts := [], laidByText := true, laidKinds := [.data, .data, .data, .listed, .data], laidTests := true, laidLooks := .later }
def FormatioPrintMatchesSpecCardSaid : Prop := Claim7.holds Tryz.pinned (.plain (OpenSpec.ofChange formatioPrintMatchesSpecSpec)) formatioPrintMatchesSpecCard

/-- THE TIED CARD OF 'scriptoriumlaw1.FormatioPrintsParsed'. -/
def formatioPrintsParsedCard : Claim7 := { stood := { row := formatioPrintsParsedRow, standIns := [], harness := (true, "93fb8b0c4146638eac6d2c5e54c1451f51b67737735d5830b03a98ab683f0e24"), looks := true }, kinds := [], alts := [], laidByText := true, laidKinds := [.data, .data, .data, .listed, .data], laidTests := true, laidLooks := .later }
def FormatioPrintsParsedCardSaid : Prop := Claim7.holds Tryz.pinned (.plain (OpenSpec.ofChange formatioPrintsParsedSpec)) formatioPrintsParsedCard

/-- THE TIED CARD OF 'scriptoriumlaw1.FormatioParsesPrinted'. -/
def formatioParsesPrintedCard : Claim7 := { stood := { row := formatioParsesPrintedRow, standIns := [], harness := (true, "93fb8b0c4146638eac6d2c5e54c1451f51b67737735d5830b03a98ab683f0e24"), looks := true }, kinds := [], alts := [], laidByText := true, laidKinds := [.data, .data, .data, .listed, .data], laidTests := true, laidLooks := .later }
def FormatioParsesPrintedCardSaid : Prop := Claim7.holds Tryz.pinned (.plain (OpenSpec.ofChange formatioParsesPrintedSpec)) formatioParsesPrintedCard

/-- THE TIED CARD OF 'scriptoriumlaw1.FormatioPrefixFree'. -/
def formatioPrefixFreeCard : Claim7 := { stood := { row := formatioPrefixFreeRow, standIns := [], harness := (true, "93fb8b0c4146638eac6d2c5e54c1451f51b67737735d5830b03a98ab683f0e24"), looks := true }, kinds := [], alts := [], laidByText := true, laidKinds := [.data, .data, .data, .listed, .data], laidTests := true, laidLooks := .later }
def FormatioPrefixFreeCardSaid : Prop := Claim7.holds Tryz.pinned (.plain (OpenSpec.ofChange formatioPrefixFreeSpec)) formatioPrefixFreeCard

/-- THE TIED CARD OF 'scriptoriumlaw1.FormatioFitsPrinted'. -/
def formatioFitsPrintedCard : Claim7 := { stood := { row := formatioFitsPrintedRow, standIns := [], harness := (true, "93fb8b0c4146638eac6d2c5e54c1451f51b67737735d5830b03a98ab683f0e24"), looks := true }, kinds := [], alts := [], laidByText := true, laidKinds := [.data, .data, .data, .listed, .data], laidTests := true, laidLooks := .later }
def FormatioFitsPrintedCardSaid : Prop := Claim7.holds Tryz.pinned (.plain (OpenSpec.ofChange formatioFitsPrintedSpec)) formatioFitsPrintedCard

/-- THE TIED CARD OF 'scriptoriumlaw1.FormatioFirstAndLeast'. -/
def formatioFirstAndLeastCard : Claim7 := { stood := { row := formatioFirstAndLeastRow, standIns := [], harness := (true, "93fb8b0c4146638eac6d2c5e54c1451f51b67737735d5830b03a98ab683f0e24"), looks := true }, kinds := [], alts := [], laidByText := true, laidKinds := [.data, .data, .data, .data, .sentinel, .sentinel, .listed, .data, .pinned], laidTests := true, laidLooks := .later }
def FormatioFirstAndLeastCardSaid : Prop := Claim7.holds Tryz.pinned (.plain (OpenSpec.ofChange formatioFirstAndLeastSpec)) formatioFirstAndLeastCard

/-- THE SECOND FORM's CARD OF 'scriptoriumlaw1.FormatioParseMatchesSpec'. -/
def formatioParseMatchesSpecUptoCard : Claim7 := { stood := { row := formatioParseMatchesSpecUptoRow, standIns := [], harness := (true, "93fb8b0c4146638eac6d2c5e54c1451f51b67737735d5830b03a98ab683f0e24"), looks := true }, kinds := [], alts := [], laidByText := true, laidKinds := [.data, .data, .data, .listed, .data], laidTests := true, laidLooks := .later }
def FormatioParseMatchesSpecUptoCardSaid : Prop := Claim7.holds Tryz.pinned (.plain (OpenSpec.upto formatioParseMatchesSpecSpec)) formatioParseMatchesSpecUptoCard

/-- THE SECOND FORM's CARD OF 'scriptoriumlaw1.FormatioPrintMatchesSpec'. -/
def formatioPrintMatchesSpecUptoCard : Claim7 := { stood := { row := formatioPrintMatchesSpecUptoRow, standIns := [], harness := (true, "93fb8b0c4146638eac6d2c5e54c1451f51b67737735d5830b03a98ab683f0e24"), looks := true }, kinds := [], alts := [], laidByText := true, laidKinds := [.data, .data, .data, .listed, .data], laidTests := true, laidLooks := .later }
def FormatioPrintMatchesSpecUptoCardSaid : Prop := Claim7.holds Tryz.pinned (.plain (OpenSpec.upto formatioPrintMatchesSpecSpec)) formatioPrintMatchesSpecUptoCard

/-- THE SECOND FORM's CARD OF 'scriptoriumlaw1.FormatioPrintsParsed'. -/
def formatioPrintsParsedUptoCard : Claim7 := { stood := { row := formatioPrintsParsedUptoRow, standIns := [], harness := (true, "93fb8b0c4146638eac6d2c5e54c1451f51b67737735d5830b03a98ab683f0e24"), looks := true }, kinds := [], alts := [], laidByText := true, laidKinds := [.data, .data, .data, .listed, .data], laidTests := true, laidLooks := .later }
def FormatioPrintsParsedUptoCardSaid : Prop := Claim7.holds Tryz.pinned (.plain (OpenSpec.upto formatioPrintsParsedSpec)) formatioPrintsParsedUptoCard

/-- THE SECOND FORM's CARD OF 'scriptoriumlaw1.FormatioParsesPrinted'. -/
def formatioParsesPrintedUptoCard : Claim7 := { stood := { row := formatioParsesPrintedUptoRow, standIns := [], harness := (true, "93fb8b0c4146638eac6d2c5e54c1451f51b67737735d5830b03a98ab683f0e24"), looks := true }, kinds := [], alts := [], laidByText := true, laidKinds := [.data, .data, .data, .listed, .data], laidTests := true, laidLooks := .later }
def FormatioParsesPrintedUptoCardSaid : Prop := Claim7.holds Tryz.pinned (.plain (OpenSpec.upto formatioParsesPrintedSpec)) formatioParsesPrintedUptoCard

/-- THE SECOND FORM's CARD OF 'scriptoriumlaw1.FormatioPrefixFree'. -/
def formatioPrefixFreeUptoCard : Claim7 := { stood := { row := formatioPrefixFreeUptoRow, standIns := [], harness := (true, "93fb8b0c4146638eac6d2c5e54c1451f51b67737735d5830b03a98ab683f0e24"), looks := true }, kinds := [], alts := [], laidByText := true, laidKinds := [.data, .data, .data, .listed, .data], laidTests := true, laidLooks := .later }
def FormatioPrefixFreeUptoCardSaid : Prop := Claim7.holds Tryz.pinned (.plain (OpenSpec.upto formatioPrefixFreeSpec)) formatioPrefixFreeUptoCard

/-- THE SECOND FORM's CARD OF 'scriptoriumlaw1.FormatioFitsPrinted'. -/
def formatioFitsPrintedUptoCard : Claim7 := { stood := { row := formatioFitsPrintedUptoRow, standIns := [], harness := (true, "93fb8b0c4146638eac6d2c5e54c1451f51b67737735d5830b03a98ab683f0e24"), looks := true }, kinds := [], alts := [], laidByText := true, laidKinds := [.data, .data, .data, .listed, .data], laidTests := true, laidLooks := .later }
def FormatioFitsPrintedUptoCardSaid : Prop := Claim7.holds Tryz.pinned (.plain (OpenSpec.upto formatioFitsPrintedSpec)) formatioFitsPrintedUptoCard

/-- THE SECOND FORM's CARD OF 'scriptoriumlaw1.FormatioFirstAndLeast'. -/
def formatioFirstAndLeastUptoCard : Claim7 := { stood := { row := formatioFirstAndLeastUptoRow, standIns := [], harness := (true, "93fb8b0c4146638eac6d2c5e54c1451f51b67737735d5830b03a98ab683f0e24"), looks := true }, kinds := [], alts := [], laidByText := true, laidKinds := [.data, .data, .data, .data, .sentinel, .sentinel, .listed, .data, .pinned], laidTests := true, laidLooks := .later }
def FormatioFirstAndLeastUptoCardSaid : Prop := Claim7.holds Tryz.pinned (.plain (OpenSpec.upto formatioFirstAndLeastSpec)) formatioFirstAndLeastUptoCard
end Rows
end Go.Proofs.YtphkhfdmlcnoeaaGreatDoor
