/-
  DERIVED. GIVEN WITH THE SEED: THE CARDS: each row of YtlbfgnpadggbgaaGreatDoorRows.lean that lists a variable, with what it lists TIED to the program's text (the seventh form; the later family's looks); each row that meets fmt, with fmt's text TOLD by the authors' own Lean function (tested against real Go, not proved from fmt's source: count such statements apart). THE CARD IS WHAT COUNTS. Prove the row's statement (the work); the ties are given (YtlbfgnpadggbgaaGreatDoorTie.lean); close each card by the builder's one call (the guide's Derived/Test/ToyasCard.lean, 'card_holds'). Laid BY PROGRAM, IN A SANDBOX (cutbox-door.mjs). By AI agents, Wed Nov 11 2026. No macro, syntax, notation, axiom, sorry.
-/
import Derived.Test.YtlbfgnpadggbgaaGreatDoorRows
import GoSem.ClaimSeven
namespace Go.Proofs.YtlbfgnpadggbgaaGreatDoor
namespace Rows

/-- THE TIED CARD OF 'decompilerlaw38.AstExprs'. -/
def astExprsCard : Claim7 := { stood := { row := astExprsRow, standIns := [], harness := (true, "31558e045529bb88b38bb9b6945eb2bf0d9f7b66c03ca033a0161944972874dc"), looks := false }, kinds := [], alts := [], laidByText := true, laidKinds := [.data, .data, .data, .listed, .data], laidTests := true, laidLooks := .later }
def AstExprsCardSaid : Prop := Claim7.holds Tryz.pinned (.plain (OpenSpec.ofChange astExprsSpec)) astExprsCard

/-- THE SECOND FORM's CARD OF 'decompilerlaw38.AstExprs'. -/
def astExprsUptoCard : Claim7 := { stood := { row := astExprsUptoRow, standIns := [], harness := (true, "31558e045529bb88b38bb9b6945eb2bf0d9f7b66c03ca033a0161944972874dc"), looks := false }, kinds := [], alts := [], laidByText := true, laidKinds := [.data, .data, .data, .listed, .data], laidTests := true, laidLooks := .later }
def AstExprsUptoCardSaid : Prop := Claim7.holds Tryz.pinned (.plain (OpenSpec.upto astExprsSpec)) astExprsUptoCard
end Rows
end Go.Proofs.YtlbfgnpadggbgaaGreatDoor
