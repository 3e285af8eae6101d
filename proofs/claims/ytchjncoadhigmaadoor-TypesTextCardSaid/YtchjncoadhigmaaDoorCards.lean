/-
  DERIVED. GIVEN WITH THE SEED: THE CARDS: each row of YtchjncoadhigmaaDoorRows.lean that lists a variable, with what it lists TIED to the program's text (the seventh form; the later family's looks); each row that meets fmt, with fmt's text TOLD by the authors' own Lean function (tested against real Go, not proved from fmt's source: count such statements apart). THE CARD IS WHAT COUNTS. Prove the row's statement (the work); the ties are given (YtchjncoadhigmaaDoorTie.lean); close each card by the builder's one call (the guide's Derived/Test/ToyasCard.lean, 'card_holds'). Laid BY PROGRAM, IN A SANDBOX (cutbox-door.mjs). By AI agents, Wed Nov 11 2026. No macro, syntax, notation, axiom, sorry.
-/
import Derived.Test.YtchjncoadhigmaaDoorRows
import GoSem.ClaimSeven
namespace Go.Proofs.YtchjncoadhigmaaDoor
namespace Rows

/-- THE TIED CARD OF 'decompilerlaw31.TypesLattice'. -/
def typesLatticeCard : Claim7 := { stood := { row := typesLatticeRow, standIns := [], harness := (true, "b0cca22dac3673511d579120244b208161db850320cb45d671513d7e089204d4"), looks := true }, kinds := [], alts := [], laidByText := true, laidKinds := [.data, .data, .data, .sentinel, .sentinel], laidTests := true, laidLooks := .later }
def TypesLatticeCardSaid : Prop := Claim7.holds Tryd.pinned (.plain (OpenSpec.ofChange typesLatticeSpec)) typesLatticeCard

/-- THE TIED CARD OF 'decompilerlaw31.TypesOrder'. -/
def typesOrderCard : Claim7 := { stood := { row := typesOrderRow, standIns := [], harness := (true, "b0cca22dac3673511d579120244b208161db850320cb45d671513d7e089204d4"), looks := true }, kinds := [], alts := [], laidByText := true, laidKinds := [.data, .data, .data, .sentinel, .sentinel], laidTests := true, laidLooks := .later }
def TypesOrderCardSaid : Prop := Claim7.holds Tryd.pinned (.plain (OpenSpec.ofChange typesOrderSpec)) typesOrderCard

/-- THE TIED CARD OF 'decompilerlaw31.TypesAlgebra'. -/
def typesAlgebraCard : Claim7 := { stood := { row := typesAlgebraRow, standIns := [], harness := (true, "b0cca22dac3673511d579120244b208161db850320cb45d671513d7e089204d4"), looks := true }, kinds := [], alts := [], laidByText := true, laidKinds := [.data, .data, .data, .sentinel, .sentinel], laidTests := true, laidLooks := .later }
def TypesAlgebraCardSaid : Prop := Claim7.holds Tryd.pinned (.plain (OpenSpec.ofChange typesAlgebraSpec)) typesAlgebraCard

/-- THE TIED CARD OF 'decompilerlaw31.TypesAccess'. -/
def typesAccessCard : Claim7 := { stood := { row := typesAccessRow, standIns := [], harness := (true, "b0cca22dac3673511d579120244b208161db850320cb45d671513d7e089204d4"), looks := true }, kinds := [], alts := [], laidByText := true, laidKinds := [.data, .data, .data, .sentinel, .sentinel], laidTests := true, laidLooks := .later }
def TypesAccessCardSaid : Prop := Claim7.holds Tryd.pinned (.plain (OpenSpec.ofChange typesAccessSpec)) typesAccessCard

/-- THE TIED CARD OF 'decompilerlaw31.TypesAccessWidth'. -/
def typesAccessWidthCard : Claim7 := { stood := { row := typesAccessWidthRow, standIns := [], harness := (true, "b0cca22dac3673511d579120244b208161db850320cb45d671513d7e089204d4"), looks := true }, kinds := [], alts := [], laidByText := true, laidKinds := [.data, .data, .data, .sentinel, .sentinel], laidTests := true, laidLooks := .later }
def TypesAccessWidthCardSaid : Prop := Claim7.holds Tryd.pinned (.plain (OpenSpec.ofChange typesAccessWidthSpec)) typesAccessWidthCard

/-- THE TIED CARD OF 'decompilerlaw31.TypesText'. -/
def typesTextCard : Claim7 := { stood := { row := typesTextRow, standIns := [], harness := (true, "b0cca22dac3673511d579120244b208161db850320cb45d671513d7e089204d4"), looks := true }, kinds := [], alts := [], laidByText := true, laidKinds := [.data, .data, .data, .sentinel, .sentinel], laidTests := true, laidLooks := .later }
def TypesTextCardSaid : Prop := Claim7.holds Tryd.pinned (.plain (OpenSpec.ofChange typesTextSpec)) typesTextCard

/-- THE SECOND FORM's CARD OF 'decompilerlaw31.TypesLattice'. -/
def typesLatticeUptoCard : Claim7 := { stood := { row := typesLatticeUptoRow, standIns := [], harness := (true, "b0cca22dac3673511d579120244b208161db850320cb45d671513d7e089204d4"), looks := true }, kinds := [], alts := [], laidByText := true, laidKinds := [.data, .data, .data, .sentinel, .sentinel], laidTests := true, laidLooks := .later }
def TypesLatticeUptoCardSaid : Prop := Claim7.holds Tryd.pinned (.plain (OpenSpec.upto typesLatticeSpec)) typesLatticeUptoCard

/-- THE SECOND FORM's CARD OF 'decompilerlaw31.TypesOrder'. -/
def typesOrderUptoCard : Claim7 := { stood := { row := typesOrderUptoRow, standIns := [], harness := (true, "b0cca22dac3673511d579120244b208161db850320cb45d671513d7e089204d4"), looks := true }, kinds := [], alts := [], laidByText := true, laidKinds := [.data, .data, .data, .sentinel, .sentinel], laidTests := true, laidLooks := .later }
def TypesOrderUptoCardSaid : Prop := Claim7.holds Tryd.pinned (.plain (OpenSpec.upto typesOrderSpec)) typesOrderUptoCard

/-- THE SECOND FORM's CARD OF 'decompilerlaw31.TypesAlgebra'. -/
def typesAlgebraUptoCard : Claim7 := { stood := { row := typesAlgebraUptoRow, standIns := [], harness := (true, "b0cca22dac3673511d579120244b208161db850320cb45d671513d7e089204d4"), looks := true }, kinds := [], alts := [], laidByText := true, laidKinds := [.data, .data, .data, .sentinel, .sentinel], laidTests := true, laidLooks := .later }
def TypesAlgebraUptoCardSaid : Prop := Claim7.holds Tryd.pinned (.plain (OpenSpec.upto typesAlgebraSpec)) typesAlgebraUptoCard

/-- THE SECOND FORM's CARD OF 'decompilerlaw31.TypesAccess'. -/
def typesAccessUptoCard : Claim7 := { stood := { row := typesAccessUptoRow, standIns := [], harness := (true, "b0cca22dac3673511d579120244b208161db850320cb45d671513d7e089204d4"), looks := true }, kinds := [], alts := [], laidByText := true, laidKinds := [.data, .data, .data, .sentinel, .sentinel], laidTests := true, laidLooks := .later }
def TypesAccessUptoCardSaid : Prop := Claim7.holds Tryd.pinned (.plain (OpenSpec.upto typesAccessSpec)) typesAccessUptoCard

/-- THE SECOND FORM's CARD OF 'decompilerlaw31.TypesAccessWidth'. -/
def typesAccessWidthUptoCard : Claim7 := { stood := { row := typesAccessWidthUptoRow, standIns := [], harness := (true, "b0cca22dac3673511d579120244b208161db850320cb45d671513d7e089204d4"), looks := true }, kinds := [], alts := [], laidByText := true, laidKinds := [.data, .data, .data, .sentinel, .sentinel], laidTests := true, laidLooks := .later }
def TypesAccessWidthUptoCardSaid : Prop := Claim7.holds Tryd.pinned (.plain (OpenSpec.upto typesAccessWidthSpec)) typesAccessWidthUptoCard

/-- THE SECOND FORM's CARD OF 'decompilerlaw31.TypesText'. -/
def typesTextUptoCard : Claim7 := { stood := { row := typesTextUptoRow, standIns := [], harness := (true, "b0cca22dac3673511d579120244b208161db850320cb45d671513d7e089204d4"), looks := true }, kinds := [], alts := [], laidByText := true, laidKinds := [.data, .data, .data, .sentinel, .sentinel], laidTests := true, laidLooks := .later }
def TypesTextUptoCardSaid : Prop := Claim7.holds Tryd.pinned (.plain (OpenSpec.upto typesTextSpec)) typesTextUptoCard
end Rows
end Go.Proofs.YtchjncoadhigmaaDoor
