/-
  DERIVED. GIVEN WITH THE SEED: THE CARDS: each row of YtianekkfehoedaaDoorRows.lean that lists a variable, with what it lists TIED to the program's text (the seventh form; the later family's looks); each row that meets fmt, with fmt's text TOLD by the authors' own Lean function (tested against real Go, not proved from fmt's source: count such statements apart). THE CARD IS WHAT COUNTS. Prove the row's statement (the work); the ties are given (YtianekkfehoedaaDoorTie.lean); close each card by the builder's one call (the guide's Derived/Test/ToyasCard.lean, 'card_holds'). Laid BY PROGRAM, IN A SANDBOX (cutbox-door.mjs). By AI agents, Wed Nov 11 2026. No macro, syntax, notation, axiom, sorry.
-/
import Derived.Test.YtianekkfehoedaaDoorRows
import GoSem.ClaimSeven
namespace Go.Proofs.YtianekkfehoedaaDoor
namespace Rows

/-- THE TIED CARD OF 'decompilerlaw47.ProjectUndo'. -/
def projectUndoCard : Claim7 := { stood := { row := projectUndoRow, standIns := [], harness := (true, "5e46363f041de0843fe79fbb0b81005f29a1267056c417db15ae13a319ef3bde"), looks := true }, kinds := [], alts := [], laidByText := true, laidKinds := [.data, .data, .data, .sentinel, .sentinel], laidTests := true, laidLooks := .later }
def ProjectUndoCardSaid : Prop := Claim7.holds Tryd.pinned (.plain (OpenSpec.ofChange projectUndoSpec)) projectUndoCard

/-- THE TIED CARD OF 'decompilerlaw47.ProjectOrder'. -/
def projectOrderCard : Claim7 := { stood := { row := projectOrderRow, standIns := [], harness := (true, "5e46363f041de0843fe79fbb0b81005f29a1267056c417db15ae13a319ef3bde"), looks := true }, kinds := [], alts := [], laidByText := true, laidKinds := [.data, .data, .data, .sentinel, .sentinel], laidTests := true, laidLooks := .later }
def ProjectOrderCardSaid : Prop := Claim7.holds Tryd.pinned (.plain (OpenSpec.ofChange projectOrderSpec)) projectOrderCard

/-- THE TIED CARD OF 'decompilerlaw47.ProjectSaved'. -/
def projectSavedCard : Claim7 := { stood := { row := projectSavedRow, standIns := [], harness := (true, "5e46363f041de0843fe79fbb0b81005f29a1267056c417db15ae13a319ef3bde"), looks := true }, kinds := [], alts := [], laidByText := true, laidKinds := [.data, .data, .data, .sentinel, .sentinel], laidTests := true, laidLooks := .later }
def ProjectSavedCardSaid : Prop := Claim7.holds Tryd.pinned (.plain (OpenSpec.ofChange projectSavedSpec)) projectSavedCard

/-- THE TIED CARD OF 'decompilerlaw47.ProjectNil'. -/
def projectNilCard : Claim7 := { stood := { row := projectNilRow, standIns := [], harness := (true, "5e46363f041de0843fe79fbb0b81005f29a1267056c417db15ae13a319ef3bde"), looks := true }, kinds := [], alts := [], laidByText := true, laidKinds := [.data, .data, .data, .sentinel, .sentinel], laidTests := true, laidLooks := .later }
def ProjectNilCardSaid : Prop := Claim7.holds Tryd.pinned (.plain (OpenSpec.ofChange projectNilSpec)) projectNilCard

/-- THE TIED CARD OF 'decompilerlaw47.ProjectMerge'. -/
def projectMergeCard : Claim7 := { stood := { row := projectMergeRow, standIns := [], harness := (true, "5e46363f041de0843fe79fbb0b81005f29a1267056c417db15ae13a319ef3bde"), looks := true }, kinds := [], alts := [], laidByText := true, laidKinds := [.data, .data, .data, .sentinel, .sentinel], laidTests := true, laidLooks := .later }
def ProjectMergeCardSaid : Prop := Claim7.holds Tryd.pinned (.plain (OpenSpec.ofChange projectMergeSpec)) projectMergeCard

/-- THE SECOND FORM's CARD OF 'decompilerlaw47.ProjectUndo'. -/
def projectUndoUptoCard : Claim7 := { stood := { row := projectUndoUptoRow, standIns := [], harness := (true, "5e46363f041de0843fe79fbb0b81005f29a1267056c417db15ae13a319ef3bde"), looks := true }, kinds := [], alts := [], laidByText := true, laidKinds := [.data, .data, .data, .sentinel, .sentinel], laidTests := true, laidLooks := .later }
def ProjectUndoUptoCardSaid : Prop := Claim7.holds Tryd.pinned (.plain (OpenSpec.upto projectUndoSpec)) projectUndoUptoCard

/-- THE SECOND FORM's CARD OF 'decompilerlaw47.ProjectOrder'. -/
def projectOrderUptoCard : Claim7 := { stood := { row := projectOrderUptoRow, standIns := [], harness := (true, "5e46363f041de0843fe79fbb0b81005f29a1267056c417db15ae13a319ef3bde"), looks := true }, kinds := [], alts := [], laidByText := true, laidKinds := [.data, .data, .data, .sentinel, .sentinel], laidTests := true, laidLooks := .later }
def ProjectOrderUptoCardSaid : Prop := Claim7.holds Tryd.pinned (.plain (OpenSpec.upto projectOrderSpec)) projectOrderUptoCard

/-- THE SECOND FORM's CARD OF 'decompilerlaw47.ProjectSaved'. -/
def projectSavedUptoCard : Claim7 := { stood := { row := projectSavedUptoRow, standIns := [], harness := (true, "5e46363f041de0843fe79fbb0b81005f29a1267056c417db15ae13a319ef3bde"), looks := true }, kinds := [], alts := [], laidByText := true, laidKinds := [.data, .data, .data, .sentinel, .sentinel], laidTests := true, laidLooks := .later }
def ProjectSavedUptoCardSaid : Prop := Claim7.holds Tryd.pinned (.plain (OpenSpec.upto projectSavedSpec)) projectSavedUptoCard

/-- THE SECOND FORM's CARD OF 'decompilerlaw47.ProjectNil'. -/
def projectNilUptoCard : Claim7 := { stood := { row := projectNilUptoRow, standIns := [], harness := (true, "5e46363f041de0843fe79fbb0b81005f29a1267056c417db15ae13a319ef3bde"), looks := true }, kinds := [], alts := [], laidByText := true, laidKinds := [.data, .data, .data, .sentinel, .sentinel], laidTests := true, laidLooks := .later }
def ProjectNilUptoCardSaid : Prop := Claim7.holds Tryd.pinned (.plain (OpenSpec.upto projectNilSpec)) projectNilUptoCard

/-- THE SECOND FORM's CARD OF 'decompilerlaw47.ProjectMerge'. -/
def projectMergeUptoCard : Claim7 := { stood := { row := projectMergeUptoRow, standIns := [], harness := (true, "5e46363f041de0843fe79fbb0b81005f29a1267056c417db15ae13a319ef3bde"), looks := true }, kinds := [], alts := [], laidByText := true, laidKinds := [.data, .data, .data, .sentinel, .sentinel], laidTests := true, laidLooks := .later }
def ProjectMergeUptoCardSaid : Prop := Claim7.holds Tryd.pinned (.plain (OpenSpec.upto projectMergeSpec)) projectMergeUptoCard
end Rows
end Go.Proofs.YtianekkfehoedaaDoor
