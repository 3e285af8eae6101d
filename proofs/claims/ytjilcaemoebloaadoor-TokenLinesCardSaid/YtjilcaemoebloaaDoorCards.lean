/-
  DERIVED. GIVEN WITH THE SEED: THE CARDS: each row of YtjilcaemoebloaaDoorRows.lean that lists a variable, with what it lists TIED to the program's text (the seventh form; the later family's looks); each row that meets fmt, with fmt's text TOLD by the authors' own Lean function (tested against real Go, not proved from fmt's source: count such statements apart). THE CARD IS WHAT COUNTS. Prove the row's statement (the work); the ties are given (YtjilcaemoebloaaDoorTie.lean); close each card by the builder's one call (the guide's Derived/Test/ToyasCard.lean, 'card_holds'). Laid BY PROGRAM, IN A SANDBOX (cutbox-door.mjs). By AI agents, Wed Nov 11 2026. No macro, syntax, notation, axiom, sorry.
-/
import Derived.Test.YtjilcaemoebloaaDoorRows
import GoSem.ClaimSeven
namespace Go.Proofs.YtjilcaemoebloaaDoor
namespace Rows

/-- THE TIED CARD OF 'decompilerlaw39.TokenRoundTrip'. -/
def tokenRoundTripCard : Claim7 := { stood := { row := tokenRoundTripRow, standIns := [], harness := (true, "333a4d9574cc8d2e23c32c9869df4d756479161e820f11b99df09925abacfeb6"), looks := true }, kinds := [], alts := [], laidByText := true, laidKinds := [.data, .data, .data, .sentinel, .sentinel], laidTests := true, laidLooks := .later }
def TokenRoundTripCardSaid : Prop := Claim7.holds Tryd.pinned (.plain (OpenSpec.ofChange tokenRoundTripSpec)) tokenRoundTripCard

/-- THE TIED CARD OF 'decompilerlaw39.TokenScans'. -/
def tokenScansCard : Claim7 := { stood := { row := tokenScansRow, standIns := [], harness := (true, "333a4d9574cc8d2e23c32c9869df4d756479161e820f11b99df09925abacfeb6"), looks := true }, kinds := [], alts := [], laidByText := true, laidKinds := [.data, .data, .data, .sentinel, .sentinel], laidTests := true, laidLooks := .later }
def TokenScansCardSaid : Prop := Claim7.holds Tryd.pinned (.plain (OpenSpec.ofChange tokenScansSpec)) tokenScansCard

/-- THE TIED CARD OF 'decompilerlaw39.TokenPrints'. -/
def tokenPrintsCard : Claim7 := { stood := { row := tokenPrintsRow, standIns := [], harness := (true, "333a4d9574cc8d2e23c32c9869df4d756479161e820f11b99df09925abacfeb6"), looks := true }, kinds := [], alts := [], laidByText := true, laidKinds := [.data, .data, .data, .sentinel, .sentinel], laidTests := true, laidLooks := .later }
def TokenPrintsCardSaid : Prop := Claim7.holds Tryd.pinned (.plain (OpenSpec.ofChange tokenPrintsSpec)) tokenPrintsCard

/-- THE TIED CARD OF 'decompilerlaw39.TokenKeywords'. -/
def tokenKeywordsCard : Claim7 := { stood := { row := tokenKeywordsRow, standIns := [], harness := (true, "333a4d9574cc8d2e23c32c9869df4d756479161e820f11b99df09925abacfeb6"), looks := true }, kinds := [], alts := [], laidByText := true, laidKinds := [.data, .data, .data, .sentinel, .sentinel], laidTests := true, laidLooks := .later }
def TokenKeywordsCardSaid : Prop := Claim7.holds Tryd.pinned (.plain (OpenSpec.ofChange tokenKeywordsSpec)) tokenKeywordsCard

/-- THE TIED CARD OF 'decompilerlaw39.TokenStrings'. -/
def tokenStringsCard : Claim7 := { stood := { row := tokenStringsRow, standIns := [], harness := (true, "333a4d9574cc8d2e23c32c9869df4d756479161e820f11b99df09925abacfeb6"), looks := true }, kinds := [], alts := [], laidByText := true, laidKinds := [.data, .data, .data, .sentinel, .sentinel], laidTests := true, laidLooks := .later }
def TokenStringsCardSaid : Prop := Claim7.holds Tryd.pinned (.plain (OpenSpec.ofChange tokenStringsSpec)) tokenStringsCard

/-- THE TIED CARD OF 'decompilerlaw39.TokenNumbers'. -/
def tokenNumbersCard : Claim7 := { stood := { row := tokenNumbersRow, standIns := [], harness := (true, "333a4d9574cc8d2e23c32c9869df4d756479161e820f11b99df09925abacfeb6"), looks := true }, kinds := [], alts := [], laidByText := true, laidKinds := [.data, .data, .data, .sentinel, .sentinel], laidTests := true, laidLooks := .later }
def TokenNumbersCardSaid : Prop := Claim7.holds Tryd.pinned (.plain (OpenSpec.ofChange tokenNumbersSpec)) tokenNumbersCard

/-- THE TIED CARD OF 'decompilerlaw39.TokenLines'. -/
def tokenLinesCard : Claim7 := { stood := { row := tokenLinesRow, standIns := [], harness := (true, "333a4d9574cc8d2e23c32c9869df4d756479161e820f11b99df09925abacfeb6"), looks := true }, kinds := [], alts := [], laidByText := true, laidKinds := [.data, .data, .data, .sentinel, .sentinel], laidTests := true, laidLooks := .later }
def TokenLinesCardSaid : Prop := Claim7.holds Tryd.pinned (.plain (OpenSpec.ofChange tokenLinesSpec)) tokenLinesCard

/-- THE TIED CARD OF 'decompilerlaw39.TokenPositions'. -/
def tokenPositionsCard : Claim7 := { stood := { row := tokenPositionsRow, standIns := [], harness := (true, "333a4d9574cc8d2e23c32c9869df4d756479161e820f11b99df09925abacfeb6"), looks := true }, kinds := [], alts := [], laidByText := true, laidKinds := [.data, .data, .data, .sentinel, .sentinel], laidTests := true, laidLooks := .later }
def TokenPositionsCardSaid : Prop := Claim7.holds Tryd.pinned (.plain (OpenSpec.ofChange tokenPositionsSpec)) tokenPositionsCard

/-- THE SECOND FORM's CARD OF 'decompilerlaw39.TokenRoundTrip'. -/
def tokenRoundTripUptoCard : Claim7 := { stood := { row := tokenRoundTripUptoRow, standIns := [], harness := (true, "333a4d9574cc8d2e23c32c9869df4d756479161e820f11b99df09925abacfeb6"), looks := true }, kinds := [], alts := [], laidByText := true, laidKinds := [.data, .data, .data, .sentinel, .sentinel], laidTests := true, laidLooks := .later }
def TokenRoundTripUptoCardSaid : Prop := Claim7.holds Tryd.pinned (.plain (OpenSpec.upto tokenRoundTripSpec)) tokenRoundTripUptoCard

/-- THE SECOND FORM's CARD OF 'decompilerlaw39.TokenScans'. -/
def tokenScansUptoCard : Claim7 := { stood := { row := tokenScansUptoRow, standIns := [], harness := (true, "333a4d9574cc8d2e23c32c9869df4d756479161e820f11b99df09925abacfeb6"), looks := true }, kinds := [], alts := [], laidByText := true, laidKinds := [.data, .data, .data, .sentinel, .sentinel], laidTests := true, laidLooks := .later }
def TokenScansUptoCardSaid : Prop := Claim7.holds Tryd.pinned (.plain (OpenSpec.upto tokenScansSpec)) tokenScansUptoCard

/-- THE SECOND FORM's CARD OF 'decompilerlaw39.TokenPrints'. -/
def tokenPrintsUptoCard : Claim7 := { stood := { row := tokenPrintsUptoRow, standIns := [], harness := (true, "333a4d9574cc8d2e23c32c9869df4d756479161e820f11b99df09925abacfeb6"), looks := true }, kinds := [], alts := [], laidByText := true, laidKinds := [.data, .data, .data, .sentinel, .sentinel], laidTests := true, laidLooks := .later }
def TokenPrintsUptoCardSaid : Prop := Claim7.holds Tryd.pinned (.plain (OpenSpec.upto tokenPrintsSpec)) tokenPrintsUptoCard

/-- THE SECOND FORM's CARD OF 'decompilerlaw39.TokenKeywords'. -/
def tokenKeywordsUptoCard : Claim7 := { stood := { row := tokenKeywordsUptoRow, standIns := [], harness := (true, "333a4d9574cc8d2e23c32c9869df4d756479161e820f11b99df09925abacfeb6"), looks := true }, kinds := [], alts := [], laidByText := true, laidKinds := [.data, .data, .data, .sentinel, .sentinel], laidTests := true, laidLooks := .later }
def TokenKeywordsUptoCardSaid : Prop := Claim7.holds Tryd.pinned (.plain (OpenSpec.upto tokenKeywordsSpec)) tokenKeywordsUptoCard

/-- THE SECOND FORM's CARD OF 'decompilerlaw39.TokenStrings'. -/
def tokenStringsUptoCard : Claim7 := { stood := { row := tokenStringsUptoRow, standIns := [], harness := (true, "333a4d9574cc8d2e23c32c9869df4d756479161e820f11b99df09925abacfeb6"), looks := true }, kinds := [], alts := [], laidByText := true, laidKinds := [.data, .data, .data, .sentinel, .sentinel], laidTests := true, laidLooks := .later }
def TokenStringsUptoCardSaid : Prop := Claim7.holds Tryd.pinned (.plain (OpenSpec.upto tokenStringsSpec)) tokenStringsUptoCard

/-- THE SECOND FORM's CARD OF 'decompilerlaw39.TokenNumbers'. -/
def tokenNumbersUptoCard : Claim7 := { stood := { row := tokenNumbersUptoRow, standIns := [], harness := (true, "333a4d9574cc8d2e23c32c9869df4d756479161e820f11b99df09925abacfeb6"), looks := true }, kinds := [], alts := [], laidByText := true, laidKinds := [.data, .data, .data, .sentinel, .sentinel], laidTests := true, laidLooks := .later }
def TokenNumbersUptoCardSaid : Prop := Claim7.holds Tryd.pinned (.plain (OpenSpec.upto tokenNumbersSpec)) tokenNumbersUptoCard

/-- THE SECOND FORM's CARD OF 'decompilerlaw39.TokenLines'. -/
def tokenLinesUptoCard : Claim7 := { stood := { row := tokenLinesUptoRow, standIns := [], harness := (true, "333a4d9574cc8d2e23c32c9869df4d756479161e820f11b99df09925abacfeb6"), looks := true }, kinds := [], alts := [], laidByText := true, laidKinds := [.data, .data, .data, .sentinel, .sentinel], laidTests := true, laidLooks := .later }
def TokenLinesUptoCardSaid : Prop := Claim7.holds Tryd.pinned (.plain (OpenSpec.upto tokenLinesSpec)) tokenLinesUptoCard

/-- THE SECOND FORM's CARD OF 'decompilerlaw39.TokenPositions'. -/
def tokenPositionsUptoCard : Claim7 := { stood := { row := tokenPositionsUptoRow, standIns := [], harness := (true, "333a4d9574cc8d2e23c32c9869df4d756479161e820f11b99df09925abacfeb6"), looks := true }, kinds := [], alts := [], laidByText := true, laidKinds := [.data, .data, .data, .sentinel, .sentinel], laidTests := true, laidLooks := .later }
def TokenPositionsUptoCardSaid : Prop := Claim7.holds Tryd.pinned (.plain (OpenSpec.upto tokenPositionsSpec)) tokenPositionsUptoCard
end Rows
end Go.Proofs.YtjilcaemoebloaaDoor
