/-
  DERIVED. GIVEN WITH THE SEED: THE CARDS: each row of YtchjncoadhigmaaGreatDoorRows.lean that lists a variable, with what it lists TIED to the program's text (the seventh form; the later family's looks); each row that meets fmt, with fmt's text TOLD by the authors' own Lean function (tested against real Go, not proved from fmt's source: count such statements apart). THE CARD IS WHAT COUNTS. Prove the row's statement (the work); the ties are given (YtchjncoadhigmaaGreatDoorTie.lean); close each card by the builder's one call (the guide's Derived/Test/ToyasCard.lean, 'card_holds'). Laid BY PROGRAM, IN A SANDBOX (cutbox-door.mjs). By AI agents, Wed Nov 11 2026. No macro, syntax, notation, axiom, sorry.
-/
import Derived.Test.YtchjncoadhigmaaGreatDoorRows
import GoSem.ClaimSeven
namespace Go.Proofs.YtchjncoadhigmaaGreatDoor
namespace Rows

/-- THE TIED CARD OF 'decompilerlaw31.TypesBounds'. -/
def typesBoundsCard : Claim7 := { stood := { row := typesBoundsRow, standIns := [], harness := (true, "6ee3e34bb3e6f2749268163a2d0f057f46d6eaba11b8058b5d97f576d33d1ea7"), looks := true }, kinds := [], alts := [], laidByText := true, laidKinds := [.data, .data, .data, .sentinel, .sentinel], laidTests := true, laidLooks := .later }
def TypesBoundsCardSaid : Prop := Claim7.holds Tryz.pinned (.plain (OpenSpec.ofChange typesBoundsSpec)) typesBoundsCard

/-- THE TIED CARD OF 'decompilerlaw31.TypesParse'. -/
def typesParseCard : Claim7 := { stood := { row := typesParseRow, standIns := [], harness := (true, "6ee3e34bb3e6f2749268163a2d0f057f46d6eaba11b8058b5d97f576d33d1ea7"), looks := true }, kinds := [], alts := [], laidByText := true, laidKinds := [.data, .data, .data, .sentinel, .sentinel], laidTests := true, laidLooks := .later }
def TypesParseCardSaid : Prop := Claim7.holds Tryz.pinned (.plain (OpenSpec.ofChange typesParseSpec)) typesParseCard

/-- THE TIED CARD OF 'decompilerlaw31.TypesCheck'. -/
def typesCheckCard : Claim7 := { stood := { row := typesCheckRow, standIns := [], harness := (true, "6ee3e34bb3e6f2749268163a2d0f057f46d6eaba11b8058b5d97f576d33d1ea7"), looks := true }, kinds := [], alts := [], laidByText := true, laidKinds := [.data, .data, .data, .sentinel, .sentinel], laidTests := true, laidLooks := .later }
def TypesCheckCardSaid : Prop := Claim7.holds Tryz.pinned (.plain (OpenSpec.ofChange typesCheckSpec)) typesCheckCard

/-- THE SECOND FORM's CARD OF 'decompilerlaw31.TypesBounds'. -/
def typesBoundsUptoCard : Claim7 := { stood := { row := typesBoundsUptoRow, standIns := [], harness := (true, "6ee3e34bb3e6f2749268163a2d0f057f46d6eaba11b8058b5d97f576d33d1ea7"), looks := true }, kinds := [], alts := [], laidByText := true, laidKinds := [.data, .data, .data, .sentinel, .sentinel], laidTests := true, laidLooks := .later }
def TypesBoundsUptoCardSaid : Prop := Claim7.holds Tryz.pinned (.plain (OpenSpec.upto typesBoundsSpec)) typesBoundsUptoCard

/-- THE SECOND FORM's CARD OF 'decompilerlaw31.TypesParse'. -/
def typesParseUptoCard : Claim7 := { stood := { row := typesParseUptoRow, standIns := [], harness := (true, "6ee3e34bb3e6f2749268163a2d0f057f46d6eaba11b8058b5d97f576d33d1ea7"), looks := true }, kinds := [], alts := [], laidByText := true, laidKinds := [.data, .data, .data, .sentinel, .sentinel], laidTests := true, laidLooks := .later }
def TypesParseUptoCardSaid : Prop := Claim7.holds Tryz.pinned (.plain (OpenSpec.upto typesParseSpec)) typesParseUptoCard

/-- THE SECOND FORM's CARD OF 'decompilerlaw31.TypesCheck'. -/
def typesCheckUptoCard : Claim7 := { stood := { row := typesCheckUptoRow, standIns := [], harness := (true, "6ee3e34bb3e6f2749268163a2d0f057f46d6eaba11b8058b5d97f576d33d1ea7"), looks := true }, kinds := [], alts := [], laidByText := true, laidKinds := [.data, .data, .data, .sentinel, .sentinel], laidTests := true, laidLooks := .later }
def TypesCheckUptoCardSaid : Prop := Claim7.holds Tryz.pinned (.plain (OpenSpec.upto typesCheckSpec)) typesCheckUptoCard
end Rows
end Go.Proofs.YtchjncoadhigmaaGreatDoor
