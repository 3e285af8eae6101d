/-
  DERIVED. GIVEN WITH THE SEED: THE CARDS: each row of YtlbfgnpadggbgaaDoorRows.lean that lists a variable, with what it lists TIED to the program's text (the seventh form; the later family's looks); each row that meets fmt, with fmt's text TOLD by the authors' own Lean function (tested against real Go, not proved from fmt's source: count such statements apart). THE CARD IS WHAT COUNTS. Prove the row's statement (the work); the ties are given (YtlbfgnpadggbgaaDoorTie.lean); close each card by the builder's one call (the guide's Derived/Test/ToyasCard.lean, 'card_holds'). Laid BY PROGRAM, IN A SANDBOX (cutbox-door.mjs). By AI agents, Wed Nov 11 2026. No macro, syntax, notation, axiom, sorry.
-/
import Derived.Test.YtlbfgnpadggbgaaDoorRows
import GoSem.ClaimSeven
namespace Go.Proofs.YtlbfgnpadggbgaaDoor
namespace Rows

/-- THE TIED CARD OF 'decompilerlaw38.AstPrecedence'. -/
def astPrecedenceCard : Claim7 := { stood := { row := astPrecedenceRow, standIns := [], harness := (true, "ec3b00a15349f619b463dd1564b6d1bcdae6d9c1887699a74ead005e43d8a8ee"), looks := false }, kinds := [], alts := [], laidByText := true, laidKinds := [.data, .data, .data, .listed, .data], laidTests := true, laidLooks := .later }
def AstPrecedenceCardSaid : Prop := Claim7.holds Tryd.pinned (.plain (OpenSpec.ofChange astPrecedenceSpec)) astPrecedenceCard

/-- THE TIED CARD OF 'decompilerlaw38.AstOperands'. -/
def astOperandsCard : Claim7 := { stood := { row := astOperandsRow, standIns := [], harness := (true, "ec3b00a15349f619b463dd1564b6d1bcdae6d9c1887699a74ead005e43d8a8ee"), looks := false }, kinds := [], alts := [], laidByText := true, laidKinds := [.data, .data, .data, .listed, .data], laidTests := true, laidLooks := .later }
def AstOperandsCardSaid : Prop := Claim7.holds Tryd.pinned (.plain (OpenSpec.ofChange astOperandsSpec)) astOperandsCard

/-- THE SECOND FORM's CARD OF 'decompilerlaw38.AstPrecedence'. -/
def astPrecedenceUptoCard : Claim7 := { stood := { row := astPrecedenceUptoRow, standIns := [], harness := (true, "ec3b00a15349f619b463dd1564b6d1bcdae6d9c1887699a74ead005e43d8a8ee"), looks := false }, kinds := [], alts := [], laidByText := true, laidKinds := [.data, .data, .data, .listed, .data], laidTests := true, laidLooks := .later }
def AstPrecedenceUptoCardSaid : Prop := Claim7.holds Tryd.pinned (.plain (OpenSpec.upto astPrecedenceSpec)) astPrecedenceUptoCard

/-- THE SECOND FORM's CARD OF 'decompilerlaw38.AstOperands'. -/
def astOperandsUptoCard : Claim7 := { stood := { row := astOperandsUptoRow, standIns := [], harness := (true, "ec3b00a15349f619b463dd1564b6d1bcdae6d9c1887699a74ead005e43d8a8ee"), looks := false }, kinds := [], alts := [], laidByText := true, laidKinds := [.data, .data, .data, .listed, .data], laidTests := true, laidLooks := .later }
def AstOperandsUptoCardSaid : Prop := Claim7.holds Tryd.pinned (.plain (OpenSpec.upto astOperandsSpec)) astOperandsUptoCard
end Rows
end Go.Proofs.YtlbfgnpadggbgaaDoor
