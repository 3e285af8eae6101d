/-
  DERIVED. GIVEN WITH THE SEED: THE CARDS: each row of YtianekkfehoedaaGreatDoorRows.lean that lists a variable, with what it lists TIED to the program's text (the seventh form; the later family's looks); each row that meets fmt, with fmt's text TOLD by the authors' own Lean function (tested against real Go, not proved from fmt's source: count such statements apart). THE CARD IS WHAT COUNTS. Prove the row's statement (the work); the ties are given (YtianekkfehoedaaGreatDoorTie.lean); close each card by the builder's one call (the guide's Derived/Test/ToyasCard.lean, 'card_holds'). Laid BY PROGRAM, IN A SANDBOX (cutbox-door.mjs). By AI agents, Wed Nov 11 2026. No macro, syntax, notation, axiom, sorry.
-/
import Derived.Test.YtianekkfehoedaaGreatDoorRows
import GoSem.ClaimSeven
namespace Go.Proofs.YtianekkfehoedaaGreatDoor
namespace Rows

/-- THE TIED CARD OF 'decompilerlaw47.ProjectLoads'. -/
def projectLoadsCard : Claim7 := { stood := { row := projectLoadsRow, standIns := [], harness := (true, "c5b4eb90b4d21f63c6fddd35dc8d2fc2e70c029a1c8c7007735eeb5b6a975747"), looks := true }, kinds := [], alts := [], laidByText := true, laidKinds := [.data, .data, .data, .sentinel, .sentinel], laidTests := true, laidLooks := .later }
def ProjectLoadsCardSaid : Prop := Claim7.holds Tryz.pinned (.plain (OpenSpec.ofChange projectLoadsSpec)) projectLoadsCard

/-- THE TIED CARD OF 'decompilerlaw47.ProjectSteps'. -/
def projectStepsCard : Claim7 := { stood := { row := projectStepsRow, standIns := [], harness := (true, "c5b4eb90b4d21f63c6fddd35dc8d2fc2e70c029a1c8c7007735eeb5b6a975747"), looks := true }, kinds := [], alts := [], laidByText := true, laidKinds := [.data, .data, .data, .sentinel, .sentinel], laidTests := true, laidLooks := .later }
def ProjectStepsCardSaid : Prop := Claim7.holds Tryz.pinned (.plain (OpenSpec.ofChange projectStepsSpec)) projectStepsCard

/-- THE SECOND FORM's CARD OF 'decompilerlaw47.ProjectLoads'. -/
def projectLoadsUptoCard : Claim7 := { stood := { row := projectLoadsUptoRow, standIns := [], harness := (true, "c5b4eb90b4d21f63c6fddd35dc8d2fc2e70c029a1c8c7007735eeb5b6a975747"), looks := true }, kinds := [], alts := [], laidByText := true, laidKinds := [.data, .data, .data, .sentinel, .sentinel], laidTests := true, laidLooks := .later }
def ProjectLoadsUptoCardSaid : Prop := Claim7.holds Tryz.pinned (.plain (OpenSpec.upto projectLoadsSpec)) projectLoadsUptoCard

/-- THE SECOND FORM's CARD OF 'decompilerlaw47.ProjectSteps'. -/
def projectStepsUptoCard : Claim7 := { stood := { row := projectStepsUptoRow, standIns := [], harness := (true, "c5b4eb90b4d21f63c6fddd35dc8d2fc2e70c029a1c8c7007735eeb5b6a975747"), looks := true }, kinds := [], alts := [], laidByText := true, laidKinds := [.data, .data, .data, .sentinel, .sentinel], laidTests := true, laidLooks := .later }
def ProjectStepsUptoCardSaid : Prop := Claim7.holds Tryz.pinned (.plain (OpenSpec.upto projectStepsSpec)) projectStepsUptoCard
end Rows
end Go.Proofs.YtianekkfehoedaaGreatDoor
