/-
  DERIVED. GIVEN WITH THE SEED: THE CARDS: each row of YtmbmmckagcdapaaGreatDoorRows.lean that lists a variable, with what it lists TIED to the program's text (the seventh form; the later family's looks); each row that meets fmt, with fmt's text TOLD by the authors' own Lean function (tested against real Go, not proved from fmt's source: count such statements apart). THE CARD IS WHAT COUNTS. Prove the row's statement (the work); the ties are given (YtmbmmckagcdapaaGreatDoorTie.lean); close each card by the builder's one call (the guide's Derived/Test/ToyasCard.lean, 'card_holds'). Laid BY PROGRAM, IN A SANDBOX (cutbox-door.mjs). By AI agents, Wed Nov 11 2026. No macro, syntax, notation, axiom, sorry.
-/
import Derived.Test.YtmbmmckagcdapaaGreatDoorRows
import GoSem.ClaimSeven
namespace Go.Proofs.YtmbmmckagcdapaaGreatDoor
namespace Rows

/-- THE TIED CARD OF 'decompilerlaw40.ParseAccepted'. -/
def parseAcceptedCard : Claim7 := { stood := { row := parseAcceptedRow, standIns := [], harness := (true, "eea1a4ce3ef8cfc22ff5cbe55b152ae9cdefdd1cddc2c86b518e6353adb47065"), looks := true }, kinds := [], alts := [], laidByText := true, laidKinds := [.data, .data, .data, .sentinel, .sentinel], laidTests := true, laidLooks := .later }
def ParseAcceptedCardSaid : Prop := Claim7.holds Tryz.pinned (.plain (OpenSpec.ofChange parseAcceptedSpec)) parseAcceptedCard

/-- THE TIED CARD OF 'decompilerlaw40.ParseFuncRoundTrip'. -/
def parseFuncRoundTripCard : Claim7 := { stood := { row := parseFuncRoundTripRow, standIns := [], harness := (true, "eea1a4ce3ef8cfc22ff5cbe55b152ae9cdefdd1cddc2c86b518e6353adb47065"), looks := true }, kinds := [], alts := [], laidByText := true, laidKinds := [.data, .data, .data, .sentinel, .sentinel], laidTests := true, laidLooks := .later }
def ParseFuncRoundTripCardSaid : Prop := Claim7.holds Tryz.pinned (.plain (OpenSpec.ofChange parseFuncRoundTripSpec)) parseFuncRoundTripCard

/-- THE TIED CARD OF 'decompilerlaw40.ParseUnit'. -/
def parseUnitCard : Claim7 := { stood := { row := parseUnitRow, standIns := [], harness := (true, "eea1a4ce3ef8cfc22ff5cbe55b152ae9cdefdd1cddc2c86b518e6353adb47065"), looks := true }, kinds := [], alts := [], laidByText := true, laidKinds := [.data, .data, .data, .sentinel, .sentinel], laidTests := true, laidLooks := .later }
def ParseUnitCardSaid : Prop := Claim7.holds Tryz.pinned (.plain (OpenSpec.ofChange parseUnitSpec)) parseUnitCard

/-- THE TIED CARD OF 'decompilerlaw40.ParseExpr'. -/
def parseExprCard : Claim7 := { stood := { row := parseExprRow, standIns := [], harness := (true, "eea1a4ce3ef8cfc22ff5cbe55b152ae9cdefdd1cddc2c86b518e6353adb47065"), looks := true }, kinds := [], alts := [], laidByText := true, laidKinds := [.data, .data, .data, .sentinel, .sentinel], laidTests := true, laidLooks := .later }
def ParseExprCardSaid : Prop := Claim7.holds Tryz.pinned (.plain (OpenSpec.ofChange parseExprSpec)) parseExprCard

/-- THE TIED CARD OF 'decompilerlaw40.ParseErrorAt'. -/
def parseErrorAtCard : Claim7 := { stood := { row := parseErrorAtRow, standIns := [], harness := (true, "eea1a4ce3ef8cfc22ff5cbe55b152ae9cdefdd1cddc2c86b518e6353adb47065"), looks := true }, kinds := [], alts := [], laidByText := true, laidKinds := [.data, .data, .data, .sentinel, .sentinel], laidTests := true, laidLooks := .later }
def ParseErrorAtCardSaid : Prop := Claim7.holds Tryz.pinned (.plain (OpenSpec.ofChange parseErrorAtSpec)) parseErrorAtCard

/-- THE TIED CARD OF 'decompilerlaw40.ParseFunc'. -/
def parseFuncCard : Claim7 := { stood := { row := parseFuncRow, standIns := [], harness := (true, "eea1a4ce3ef8cfc22ff5cbe55b152ae9cdefdd1cddc2c86b518e6353adb47065"), looks := true }, kinds := [], alts := [], laidByText := true, laidKinds := [.data, .data, .data, .sentinel, .sentinel], laidTests := true, laidLooks := .later }
def ParseFuncCardSaid : Prop := Claim7.holds Tryz.pinned (.plain (OpenSpec.ofChange parseFuncSpec)) parseFuncCard

/-- THE TIED CARD OF 'decompilerlaw40.ParseSpace'. -/
def parseSpaceCard : Claim7 := { stood := { row := parseSpaceRow, standIns := [], harness := (true, "eea1a4ce3ef8cfc22ff5cbe55b152ae9cdefdd1cddc2c86b518e6353adb47065"), looks := true }, kinds := [], alts := [], laidByText := true, laidKinds := [.data, .data, .data, .sentinel, .sentinel], laidTests := true, laidLooks := .later }
def ParseSpaceCardSaid : Prop := Claim7.holds Tryz.pinned (.plain (OpenSpec.ofChange parseSpaceSpec)) parseSpaceCard

/-- THE TIED CARD OF 'decompilerlaw40.ParseExprRoundTrip'. -/
def parseExprRoundTripCard : Claim7 := { stood := { row := parseExprRoundTripRow, standIns := [], harness := (true, "eea1a4ce3ef8cfc22ff5cbe55b152ae9cdefdd1cddc2c86b518e6353adb47065"), looks := true }, kinds := [], alts := [], laidByText := true, laidKinds := [.data, .data, .data, .sentinel, .sentinel], laidTests := true, laidLooks := .later }
def ParseExprRoundTripCardSaid : Prop := Claim7.holds Tryz.pinned (.plain (OpenSpec.ofChange parseExprRoundTripSpec)) parseExprRoundTripCard

/-- THE TIED CARD OF 'decompilerlaw40.ParseRoundTrip'. -/
def parseRoundTripCard : Claim7 := { stood := { row := parseRoundTripRow, standIns := [], harness := (true, "eea1a4ce3ef8cfc22ff5cbe55b152ae9cdefdd1cddc2c86b518e6353adb47065"), looks := true }, kinds := [], alts := [], laidByText := true, laidKinds := [.data, .data, .data, .sentinel, .sentinel], laidTests := true, laidLooks := .later }
def ParseRoundTripCardSaid : Prop := Claim7.holds Tryz.pinned (.plain (OpenSpec.ofChange parseRoundTripSpec)) parseRoundTripCard

/-- THE SECOND FORM's CARD OF 'decompilerlaw40.ParseAccepted'. -/
def parseAcceptedUptoCard : Claim7 := { stood := { row := parseAcceptedUptoRow, standIns := [], harness := (true, "eea1a4ce3ef8cfc22ff5cbe55b152ae9cdefdd1cddc2c86b518e6353adb47065"), looks := true }, kinds := [], alts := [], laidByText := true, laidKinds := [.data, .data, .data, .sentinel, .sentinel], laidTests := true, laidLooks := .later }
def ParseAcceptedUptoCardSaid : Prop := Claim7.holds Tryz.pinned (.plain (OpenSpec.upto parseAcceptedSpec)) parseAcceptedUptoCard

/-- THE SECOND FORM's CARD OF 'decompilerlaw40.ParseFuncRoundTrip'. -/
def parseFuncRoundTripUptoCard : Claim7 := { stood := { row := parseFuncRoundTripUptoRow, standIns := [], harness := (true, "eea1a4ce3ef8cfc22ff5cbe55b152ae9cdefdd1cddc2c86b518e6353adb47065"), looks := true }, kinds := [], alts := [], laidByText := true, laidKinds := [.data, .data, .data, .sentinel, .sentinel], laidTests := true, laidLooks := .later }
def ParseFuncRoundTripUptoCardSaid : Prop := Claim7.holds Tryz.pinned (.plain (OpenSpec.upto parseFuncRoundTripSpec)) parseFuncRoundTripUptoCard

/-- THE SECOND FORM's CARD OF 'decompilerlaw40.ParseUnit'. -/
def parseUnitUptoCard : Claim7 := { stood := { row := parseUnitUptoRow, standIns := [], harness := (true, "eea1a4ce3ef8cfc22ff5cbe55b152ae9cdefdd1cddc2c86b518e6353adb47065"), looks := true }, kinds := [], alts := [], laidByText := true, laidKinds := [.data, .data, .data, .sentinel, .sentinel], laidTests := true, laidLooks := .later }
def ParseUnitUptoCardSaid : Prop := Claim7.holds Tryz.pinned (.plain (OpenSpec.upto parseUnitSpec)) parseUnitUptoCard

/-- THE SECOND FORM's CARD OF 'decompilerlaw40.ParseExpr'. -/
def parseExprUptoCard : Claim7 := { stood := { row := parseExprUptoRow, standIns := [], harness := (true, "eea1a4ce3ef8cfc22ff5cbe55b152ae9cdefdd1cddc2c86b518e6353adb47065"), looks := true }, kinds := [], alts := [], laidByText := true, laidKinds := [.data, .data, .data, .sentinel, .sentinel], laidTests := true, laidLooks := .later }
def ParseExprUptoCardSaid : Prop := Claim7.holds Tryz.pinned (.plain (OpenSpec.upto parseExprSpec)) parseExprUptoCard

/-- THE SECOND FORM's CARD OF 'decompilerlaw40.ParseErrorAt'. -/
def parseErrorAtUptoCard : Claim7 := { stood := { row := parseErrorAtUptoRow, standIns := [], harness := (true, "eea1a4ce3ef8cfc22ff5cbe55b152ae9cdefdd1cddc2c86b518e6353adb47065"), looks := true }, kinds := [], alts := [], laidByText := true, laidKinds := [.data, .data, .data, .sentinel, .sentinel], laidTests := true, laidLooks := .later }
def ParseErrorAtUptoCardSaid : Prop := Claim7.holds Tryz.pinned (.plain (OpenSpec.upto parseErrorAtSpec)) parseErrorAtUptoCard

/-- THE SECOND FORM's CARD OF 'decompilerlaw40.ParseFunc'. -/
def parseFuncUptoCard : Claim7 := { stood := { row := parseFuncUptoRow, standIns := [], harness := (true, "eea1a4ce3ef8cfc22ff5cbe55b152ae9cdefdd1cddc2c86b518e6353adb47065"), looks := true }, kinds := [], alts := [], laidByText := true, laidKinds := [.data, .data, .data, .sentinel, .sentinel], laidTests := true, laidLooks := .later }
def ParseFuncUptoCardSaid : Prop := Claim7.holds Tryz.pinned (.plain (OpenSpec.upto parseFuncSpec)) parseFuncUptoCard

/-- THE SECOND FORM's CARD OF 'decompilerlaw40.ParseSpace'. -/
def parseSpaceUptoCard : Claim7 := { stood := { row := parseSpaceUptoRow, standIns := [], harness := (true, "eea1a4ce3ef8cfc22ff5cbe55b152ae9cdefdd1cddc2c86b518e6353adb47065"), looks := true }, kinds := [], alts := [], laidByText := true, laidKinds := [.data, .data, .data, .sentinel, .sentinel], laidTests := true, laidLooks := .later }
def ParseSpaceUptoCardSaid : Prop := Claim7.holds Tryz.pinned (.plain (OpenSpec.upto parseSpaceSpec)) parseSpaceUptoCard

/-- THE SECOND FORM's CARD OF 'decompilerlaw40.ParseExprRoundTrip'. -/
def parseExprRoundTripUptoCard : Claim7 := { stood := { row := parseExprRoundTripUptoRow, standIns := [], harness := (true, "eea1a4ce3ef8cfc22ff5cbe55b152ae9cdefdd1cddc2c86b518e6353adb47065"), looks := true }, kinds := [], alts := [], laidByText := true, laidKinds := [.data, .data, .data, .sentinel, .sentinel], laidTests := true, laidLooks := .later }
def ParseExprRoundTripUptoCardSaid : Prop := Claim7.holds Tryz.pinned (.plain (OpenSpec.upto parseExprRoundTripSpec)) parseExprRoundTripUptoCard

/-- THE SECOND FORM's CARD OF 'decompilerlaw40.ParseRoundTrip'. -/
def parseRoundTripUptoCard : Claim7 := { stood := { row := parseRoundTripUptoRow, standIns := [], harness := (true, "eea1a4ce3ef8cfc22ff5cbe55b152ae9cdefdd1cddc2c86b518e6353adb47065"), looks := true }, kinds := [], alts := [], laidByText := true, laidKinds := [.data, .data, .data, .sentinel, .sentinel], laidTests := true, laidLooks := .later }
def ParseRoundTripUptoCardSaid : Prop := Claim7.holds Tryz.pinned (.plain (OpenSpec.upto parseRoundTripSpec)) parseRoundTripUptoCard
end Rows
end Go.Proofs.YtmbmmckagcdapaaGreatDoor
