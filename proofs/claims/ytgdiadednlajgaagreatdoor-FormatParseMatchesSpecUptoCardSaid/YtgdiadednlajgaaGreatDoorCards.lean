/-
  DERIVED. GIVEN WITH THE SEED: THE CARDS: each row of YtgdiadednlajgaaGreatDoorRows.lean that lists a variable, with what it lists TIED to the program's text (the seventh form; the later family's looks); each row that meets fmt, with fmt's text TOLD by the authors' own Lean function (tested against real Go, not proved from fmt's source: count such statements apart). THE CARD IS WHAT COUNTS. Prove the row's statement (the work); the ties are given (YtgdiadednlajgaaGreatDoorTie.lean); close each card by the builder's one call (the guide's Derived/Test/ToyasCard.lean, 'card_holds'). Laid BY PROGRAM, IN A SANDBOX (cutbox-door.mjs). By AI agents, Wed Nov 11 2026. No macro, syntax, notation, axiom, sorry.
-/
import Derived.Test.YtgdiadednlajgaaGreatDoorRows
import GoSem.ClaimSeven
namespace Go.Proofs.YtgdiadednlajgaaGreatDoor
namespace Rows

/-- THE TIED CARD OF 'scriptoriumlaw1.FormatValidateMatchesSpec'. -/
def formatValidateMatchesSpecCard : Claim7 := { stood := { row := formatValidateMatchesSpecRow, standIns := [], harness := (true, "1361f873ccbd8febba02cc3c2654610d14535f6c7d0ff080a200d37be60819b8"), looks := true }, kinds := [], alts := [], laidByText := true, laidKinds := [.data, .data, .data, .data, .sentinel, .sentinel, .listed, .data, .pinned], laidTests := true, laidLooks := .later }
def FormatValidateMatchesSpecCardSaid : Prop := Claim7.holds Tryz.pinned (.plain (OpenSpec.ofChange formatValidateMatchesSpecSpec)) formatValidateMatchesSpecCard

/-- THE TIED CARD OF 'scriptoriumlaw1.FormatFirstMatchesSpec'. -/
def formatFirstMatchesSpecCard : Claim7 := { stood := { row := formatFirstMatchesSpecRow, standIns := [], harness := (true, "1361f873ccbd8febba02cc3c2654610d14535f6c7d0ff080a200d37be60819b8"), looks := true }, kinds := [], alts := [], laidByText := true, laidKinds := [.data, .data, .data, .data, .sentinel, .sentinel, .listed, .data, .pinned], laidTests := true, laidLooks := .later }
def FormatFirstMatchesSpecCardSaid : Prop := Claim7.holds Tryz.pinned (.plain (OpenSpec.ofChange formatFirstMatchesSpecSpec)) formatFirstMatchesSpecCard

/-- THE TIED CARD OF 'scriptoriumlaw1.FormatPrintMatchesSpec'. -/
def formatPrintMatchesSpecCard : Claim7 := { stood := { row := formatPrintMatchesSpecRow, standIns := [], harness := (true, "1361f873ccbd8febba02cc3c2654610d14535f6c7d0ff080a200d37be60819b8"), looks := true }, kinds := [], alts := [], laidByText := true, laidKinds := [.data, .data, .data, .data, .sentinel, .sentinel, .listed, .data, .pinned], laidTests := true, laidLooks := .later }
def FormatPrintMatchesSpecCardSaid : Prop := Claim7.holds Tryz.pinned (.plain (OpenSpec.ofChange formatPrintMatchesSpecSpec)) formatPrintMatchesSpecCard

/-- THE TIED CARD OF 'scriptoriumlaw1.FormatParseMatchesSpec'. -/
def formatParseMatchesSpecCard : Claim7 := { stood := { row := formatParseMatchesSpecRow, standIns := [], harness := (true, "1361f873ccbd8febba02cc3c2654610d14535f6c7d0ff080a200d37be60819b8"), looks := true }, kinds := [], alts := [], laidByText := true, laidKinds := [.data, .data, .data, .data, .sentinel, .sentinel, .listed, .data, .pinned], laidTests := true, laidLooks := .later }
def FormatParseMatchesSpecCardSaid : Prop := Claim7.holds Tryz.pinned (.plain (OpenSpec.ofChange formatParseMatchesSpecSpec)) formatParseMatchesSpecCard

/-- THE TIED CARD OF 'scriptoriumlaw1.FormatRoundTrip'. -/
def formatRoundTripCard : Claim7 := { stood := { row := formatRoundTripRow, standIns := [], harness := (true, "1361f873ccbd8febba02cc3c2654610d14535f6c7d0ff080a200d37be60819b8"), looks := true }, kinds := [], alts := [], laidByText := true, laidKinds := [.data, .data, .data, .data, .sentinel, .sentinel, .listed, .data, .pinned], laidTests := true, laidLooks := .later }
def FormatRoundTripCardSaid : Prop := Claim7.holds Tryz.pinned (.plain (OpenSpec.ofChange formatRoundTripSpec)) formatRoundTripCard

/-- THE TIED CARD OF 'scriptoriumlaw1.FormatRenamed'. -/
def formatRenamedCard : Claim7 := { stood := { row := formatRenamedRow, standIns := [], harness := (true, "1361f873ccbd8febba02cc3c2654610d14535f6c7d0ff080a200d37be60819b8"), looks := true }, kinds := [], alts := [], laidByText := true, laidKinds := [.data, .data, .data, .data, .sentinel, .sentinel, .listed, .data, .pinned], laidTests := true, laidLooks := .later }
def FormatRenamedCardSaid : Prop := Claim7.holds Tryz.pinned (.plain (OpenSpec.ofChange formatRenamedSpec)) formatRenamedCard

/-- THE SECOND FORM's CARD OF 'scriptoriumlaw1.FormatValidateMatchesSpec'. -/
def formatValidateMatchesSpecUptoCard : Claim7 := { stood := { row := formatValidateMatchesSpecUptoRow, standIns := [], harness := (true, "1361f873ccbd8febba02cc3c2654610d14535f6c7d0ff080a200d37be60819b8"), looks := true }, kinds := [], alts := [], laidByText := true, laidKinds := [.data, .data, .data, .data, .sentinel, .sentinel, .listed, .data, .pinned], laidTests := true, laidLooks := .later }
def FormatValidateMatchesSpecUptoCardSaid : Prop := Claim7.holds Tryz.pinned (.plain (OpenSpec.upto formatValidateMatchesSpecSpec)) formatValidateMatchesSpecUptoCard

/-- THE SECOND FORM's CARD OF 'scriptoriumlaw1.FormatFirstMatchesSpec'. -/
def formatFirstMatchesSpecUptoCard : Claim7 := { stood := { row := formatFirstMatchesSpecUptoRow, standIns := [], harness := (true, "1361f873ccbd8febba02cc3c2654610d14535f6c7d0ff080a200d37be60819b8"), looks := true }, kinds := [], alts := [], laidByText := true, laidKinds := [.data, .data, .data, .data, .sentinel, .sentinel, .listed, .data, .pinned], laidTests := true, laidLooks := .later }
def FormatFirstMatchesSpecUptoCardSaid : Prop := Claim7.holds Tryz.pinned (.plain (OpenSpec.upto formatFirstMatchesSpecSpec)) formatFirstMatchesSpecUptoCard

/-- THE SECOND FORM's CARD OF 'scriptoriumlaw1.FormatPrintMatchesSpec'. -/
def formatPrintMatchesSpecUptoCard : Claim7 := { stood := { row := formatPrintMatchesSpecUptoRow, standIns := [], harness := (true, "1361f873ccbd8febba02cc3c2654610d14535f6c7d0ff080a200d37be60819b8"), looks := true }, kinds := [], alts := [], laidByText := true, laidKinds := [.data, .data, .data, .data, .sentinel, .sentinel, .listed, .data, .pinned], laidTests := true, laidLooks := .later }
def FormatPrintMatchesSpecUptoCardSaid : Prop := Claim7.holds Tryz.pinned (.plain (OpenSpec.upto formatPrintMatchesSpecSpec)) formatPrintMatchesSpecUptoCard

/-- THE SECOND FORM's CARD OF 'scriptoriumlaw1.FormatParseMatchesSpec'. -/
def formatParseMatchesSpecUptoCard : Claim7 := { stood := { row := formatParseMatchesSpecUptoRow, standIns := [], harness := (true, "1361f873ccbd8febba02cc3c2654610d14535f6c7d0ff080a200d37be60819b8"), looks := true }, kinds := [], alts := [], laidByText := true, laidKinds := [.data, .data, .data, .data, .sentinel, .sentinel, .listed, .data, .pinned], laidTests := true, laidLooks := .later }
def FormatParseMatchesSpecUptoCardSaid : Prop := Claim7.holds Tryz.pinned (.plain (OpenSpec.upto formatParseMatchesSpecSpec)) formatParseMatchesSpecUptoCard

/-- THE SECOND FORM's CARD OF 'scriptoriumlaw1.FormatRoundTrip'. -/
def formatRoundTripUptoCard : Claim7 := { stood := { row := formatRoundTripUptoRow, standIns := [], harness := (true, "1361f873ccbd8febba02cc3c2654610d14535f6c7d0ff080a200d37be60819b8"), looks := true }, kinds := [], alts := [], laidByText := true, laidKinds := [.data, .data, .data, .data, .sentinel, .sentinel, .listed, .data, .pinned], laidTests := true, laidLooks := .later }
def FormatRoundTripUptoCardSaid : Prop := Claim7.holds Tryz.pinned (.plain (OpenSpec.upto formatRoundTripSpec)) formatRoundTripUptoCard

/-- THE SECOND FORM's CARD OF 'scriptoriumlaw1.FormatRenamed'. -/
def formatRenamedUptoCard : Claim7 := { stood := { row := formatRenamedUptoRow, standIns := [], harness := (true, "1361f873ccbd8febba02cc3c2654610d14535f6c7d0ff080a200d37be60819b8"), looks := true }, kinds := [], alts := [], laidByText := true, laidKinds := [.data, .data, .data, .data, .sentinel, .sentinel, .listed, .data, .pinned], laidTests := true, laidLooks := .later }
def FormatRenamedUptoCardSaid : Prop := Claim7.holds Tryz.pinned (.plain (OpenSpec.upto formatRenamedSpec)) formatRenamedUptoCard
end Rows
end Go.Proofs.YtgdiadednlajgaaGreatDoor
