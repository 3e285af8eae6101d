/-
  NARROWER THAN 'FOR EVERY INPUT', by the rows' own cells (each row's printed sentence says how): CtypeWarnings: loops · CtypeUnits: loops.
  DERIVED. THE GIVEN ROWS OF THIS SEAT. 2 by the template 'for every input the law returns true; each argument reads behind the call as it read before'; 0 by the template 'total and deterministic' (their statements: YtfggemopnlffeaaGreatTotals.lean).
  GIVEN WITH THE SEED: the statements are not yours to turn. If you find one false, say at which input.
  Laid BY PROGRAM, IN A SANDBOX (cutbox-rows.mjs): the forced cells as the released guide's own fill.sh prints them over the translation 8652dfec29d359b5… (all of the seat's roots in one cut). By AI agents, Wed Nov 11 2026. No macro, syntax, notation, axiom, sorry.
-/
import Derived.Test.YtfggemopnlffeaaGreatChecked
import GoSem.Claim
import GoSem.ClaimJoined
import GoSem.ClaimMapViews
import Derived.JoinedTies
import Derived.KernelRfl
namespace Go.Proofs.YtfggemopnlffeaaGreat
/- THE CELL 'sum', in the pinned program and in every row, IS THE sha256 OF THE DUMP (.gsa) THAT YtfggemopnlffeaaGreatProg.lean LOADS. Nothing in Lean hashes anything: it is a label: what it is worth is what the hold of that sum in a sandbox is worth. -/
noncomputable def Tryz.pinned : Pinned := { name := "ytfggemopnlffeaagreat", sum := "8652dfec29d359b588f081ba0523bdcc4d5895bcff0f12dc943157394b4884d3", checked := Tryz.checked }
namespace Rows
def none {H : Type} : Left H := { results := [], args := [] }

/-- 'decompilerlaw41.CtypeWarnings': WHATEVER THE INPUT: true; the input reads as it did. -/
def ctypeWarningsSpec : ChangeSpec := { name := "ctypeWarnings", fn := fun _ => fun
  | [d] => { results := [.lit (.bool true)], args := [d] }
  | _ => none }
def ctypeWarningsRow : OpenClaim := { program := "ytfggemopnlffeaagreat", sum := "8652dfec29d359b588f081ba0523bdcc4d5895bcff0f12dc943157394b4884d3", func := "decompiler/decompilerlaw41.CtypeWarnings", spec := "ctypeWarnings", inPlace := ["internal/bytealg.IndexByteString", "internal/bytealg.IndexString"], unfollowed := true, recurses := true, named := ["internal/bytealg.MaxLen"], loops := true, apart := false }
def CtypeWarningsSaid : Prop := ctypeWarningsRow.holds Tryz.pinned (OpenSpec.ofChange ctypeWarningsSpec)

/-- ITS FALSE NEIGHBOUR: 'it returns false'. Refute it at one input. -/
def ctypeWarningsWrong : ChangeSpec := { name := "ctypeWarnings", fn := fun _ => fun
  | [d] => { results := [.lit (.bool false)], args := [d] }
  | _ => none }
def CtypeWarningsWrongFalsely : Prop := ctypeWarningsRow.holds Tryz.pinned (OpenSpec.ofChange ctypeWarningsWrong)

/-- 'decompilerlaw41.CtypeUnits': WHATEVER THE INPUT: true; the input reads as it did. -/
def ctypeUnitsSpec : ChangeSpec := { name := "ctypeUnits", fn := fun _ => fun
  | [d] => { results := [.lit (.bool true)], args := [d] }
  | _ => none }
def ctypeUnitsRow : OpenClaim := { program := "ytfggemopnlffeaagreat", sum := "8652dfec29d359b588f081ba0523bdcc4d5895bcff0f12dc943157394b4884d3", func := "decompiler/decompilerlaw41.CtypeUnits", spec := "ctypeUnits", inPlace := ["internal/bytealg.IndexByteString", "internal/bytealg.IndexString"], unfollowed := true, recurses := true, named := ["internal/bytealg.MaxLen"], loops := true, apart := false }
def CtypeUnitsSaid : Prop := ctypeUnitsRow.holds Tryz.pinned (OpenSpec.ofChange ctypeUnitsSpec)

/-- ITS FALSE NEIGHBOUR: 'it returns false'. Refute it at one input. -/
def ctypeUnitsWrong : ChangeSpec := { name := "ctypeUnits", fn := fun _ => fun
  | [d] => { results := [.lit (.bool false)], args := [d] }
  | _ => none }
def CtypeUnitsWrongFalsely : Prop := ctypeUnitsRow.holds Tryz.pinned (OpenSpec.ofChange ctypeUnitsWrong)

/- THE SECOND FORM. 'bulk': how many values and letters a reading holds, each counted each time it is reached (what is shared counts as often as it is met; a slice's spare places count too). A statement '..UptoSaid' is the law's where the arguments, and the package variables that the reading takes, are together of bulk at most 1048576: NARROWER than '..Said'. Prove '..Said' where nothing that the law and all that it calls make is longer than what came in: it says more and counts as full. Else prove '..UptoSaid'. A law counts once. -/
mutual
def uptoBulk {H : Type} : DataW H → Nat
  | .lit (.string bytes) => bytes.length + 1
  | .lit _ => 1
  | .nil => 1
  | .ptr d => uptoBulk d + 1
  | .slice elems spare => uptoBulkAll elems + uptoBulkAll spare + 1
  | .agg parts => uptoBulkAll parts + 1
  | .iface _ d => uptoBulk d + 1
  | .map entries => uptoBulkEntries entries + 1
  | .held _ => 1
def uptoBulkAll {H : Type} : List (DataW H) → Nat
  | [] => 0
  | d :: r => uptoBulk d + uptoBulkAll r
def uptoBulkEntries {H : Type} : List (Lit × DataW H) → Nat
  | [] => 0
  | x :: r => uptoBulkEntry x + uptoBulkEntries r
def uptoBulkEntry {H : Type} : Lit × DataW H → Nat
  | (.string bytes, d) => bytes.length + uptoBulk d + 1
  | (_, d) => uptoBulk d + 1
 end
def uptoSmall : (H : Type) → List (DataW H) → Bool := fun _ ds => decide (uptoBulkAll ds ≤ 1048576)
def OpenSpec.upto (s : _root_.Go.ChangeSpec) : _root_.Go.OpenSpec := { _root_.Go.OpenSpec.ofChange s with cond := some uptoSmall }

/-- 'decompilerlaw41.CtypeWarnings', WHERE WHAT IT READS IS OF BULK AT MOST 1048576: true; the input reads as it did. -/
def ctypeWarningsUptoRow : OpenClaim := { program := "ytfggemopnlffeaagreat", sum := "8652dfec29d359b588f081ba0523bdcc4d5895bcff0f12dc943157394b4884d3", func := "decompiler/decompilerlaw41.CtypeWarnings", spec := "ctypeWarnings", inPlace := ["internal/bytealg.IndexByteString", "internal/bytealg.IndexString"], unfollowed := true, recurses := true, named := ["internal/bytealg.MaxLen"], loops := true, apart := false, narrowed := true }
def CtypeWarningsUptoSaid : Prop := ctypeWarningsUptoRow.holds Tryz.pinned (OpenSpec.upto ctypeWarningsSpec)

/-- 'decompilerlaw41.CtypeUnits', WHERE WHAT IT READS IS OF BULK AT MOST 1048576: true; the input reads as it did. -/
def ctypeUnitsUptoRow : OpenClaim := { program := "ytfggemopnlffeaagreat", sum := "8652dfec29d359b588f081ba0523bdcc4d5895bcff0f12dc943157394b4884d3", func := "decompiler/decompilerlaw41.CtypeUnits", spec := "ctypeUnits", inPlace := ["internal/bytealg.IndexByteString", "internal/bytealg.IndexString"], unfollowed := true, recurses := true, named := ["internal/bytealg.MaxLen"], loops := true, apart := false, narrowed := true }
def CtypeUnitsUptoSaid : Prop := ctypeUnitsUptoRow.holds Tryz.pinned (OpenSpec.upto ctypeUnitsSpec)

end Rows
end Go.Proofs.YtfggemopnlffeaaGreat
