/-
  NARROWER THAN 'FOR EVERY INPUT', by the rows' own cells (each row's printed sentence says how): CtypeAccesses: loops · CtypeExprs: loops · CtypeOrder: loops · CtypeAccess: loops · CtypePlain: loops.
  DERIVED. THE GIVEN ROWS OF THIS SEAT. 5 by the template 'for every input the law returns true; each argument reads behind the call as it read before'; 0 by the template 'total and deterministic' (their statements: YtfggemopnlffeaaTotals.lean).
  GIVEN WITH THE SEED: the statements are not yours to turn. If you find one false, say at which input.
  Laid BY PROGRAM, IN A SANDBOX (cutbox-rows.mjs): the forced cells as the released guide's own fill.sh prints them over the translation 07069a5a05906e1f… (all of the seat's roots in one cut). By AI agents, Wed Nov 11 2026. No macro, syntax, notation, axiom, sorry.
-/
import Derived.Test.YtfggemopnlffeaaChecked
import GoSem.Claim
import GoSem.ClaimJoined
import GoSem.ClaimMapViews
import Derived.JoinedTies
import Derived.KernelRfl
namespace Go.Proofs.Ytfggemopnlffeaa
/- THE CELL 'sum', in the pinned program and in every row, IS THE sha256 OF THE DUMP (.gsa) THAT YtfggemopnlffeaaProg.lean LOADS. Nothing in Lean hashes anything: it is a label: what it is worth is what the hold of that sum in a sandbox is worth. -/
noncomputable def Try.pinned : Pinned := { name := "ytfggemopnlffeaa", sum := "07069a5a05906e1f912bc841086331c4a2a17ae2b36300e10c49507462099228", checked := Try.checked }
namespace Rows
def none {H : Type} : Left H := { results := [], args := [] }

/-- 'decompilerlaw41.CtypeAccesses': WHATEVER THE INPUT: true; the input reads as it did. -/
def ctypeAccessesSpec : ChangeSpec := { name := "ctypeAccesses", fn := fun _ => fun
  | [d1, d2, d3, d4] => { results := [.lit (.bool true)], args := [d1, d2, d3, d4] }
  | _ => none }
def ctypeAccessesRow : OpenClaim := { program := "ytfggemopnlffeaa", sum := "07069a5a05906e1f912bc841086331c4a2a17ae2b36300e10c49507462099228", func := "decompiler/decompilerlaw41.CtypeAccesses", spec := "ctypeAccesses", inPlace := ["internal/bytealg.IndexByteString", "internal/bytealg.IndexString"], unfollowed := true, recurses := true, named := ["internal/bytealg.MaxLen"], loops := true, apart := false }
def CtypeAccessesSaid : Prop := ctypeAccessesRow.holds Try.pinned (OpenSpec.ofChange ctypeAccessesSpec)

/-- ITS FALSE NEIGHBOUR: 'it returns false'. Refute it at one input. -/
def ctypeAccessesWrong : ChangeSpec := { name := "ctypeAccesses", fn := fun _ => fun
  | [d1, d2, d3, d4] => { results := [.lit (.bool false)], args := [d1, d2, d3, d4] }
  | _ => none }
def CtypeAccessesWrongFalsely : Prop := ctypeAccessesRow.holds Try.pinned (OpenSpec.ofChange ctypeAccessesWrong)

/-- 'decompilerlaw41.CtypeExprs': WHATEVER THE INPUT: true; the input reads as it did. -/
def ctypeExprsSpec : ChangeSpec := { name := "ctypeExprs", fn := fun _ => fun
  | [d1, d2] => { results := [.lit (.bool true)], args := [d1, d2] }
  | _ => none }
def ctypeExprsRow : OpenClaim := { program := "ytfggemopnlffeaa", sum := "07069a5a05906e1f912bc841086331c4a2a17ae2b36300e10c49507462099228", func := "decompiler/decompilerlaw41.CtypeExprs", spec := "ctypeExprs", inPlace := ["internal/bytealg.IndexByteString", "internal/bytealg.IndexString"], unfollowed := true, recurses := true, named := ["internal/bytealg.MaxLen"], loops := true, apart := false }
def CtypeExprsSaid : Prop := ctypeExprsRow.holds Try.pinned (OpenSpec.ofChange ctypeExprsSpec)

/-- ITS FALSE NEIGHBOUR: 'it returns false'. Refute it at one input. -/
def ctypeExprsWrong : ChangeSpec := { name := "ctypeExprs", fn := fun _ => fun
  | [d1, d2] => { results := [.lit (.bool false)], args := [d1, d2] }
  | _ => none }
def CtypeExprsWrongFalsely : Prop := ctypeExprsRow.holds Try.pinned (OpenSpec.ofChange ctypeExprsWrong)

/-- 'decompilerlaw41.CtypeOrder': WHATEVER THE INPUT: true; the input reads as it did. -/
def ctypeOrderSpec : ChangeSpec := { name := "ctypeOrder", fn := fun _ => fun
  | [d1, d2, d3, d4] => { results := [.lit (.bool true)], args := [d1, d2, d3, d4] }
  | _ => none }
def ctypeOrderRow : OpenClaim := { program := "ytfggemopnlffeaa", sum := "07069a5a05906e1f912bc841086331c4a2a17ae2b36300e10c49507462099228", func := "decompiler/decompilerlaw41.CtypeOrder", spec := "ctypeOrder", inPlace := ["internal/bytealg.IndexByteString", "internal/bytealg.IndexString"], unfollowed := true, recurses := true, named := ["internal/bytealg.MaxLen"], loops := true, apart := false }
def CtypeOrderSaid : Prop := ctypeOrderRow.holds Try.pinned (OpenSpec.ofChange ctypeOrderSpec)

/-- ITS FALSE NEIGHBOUR: 'it returns false'. Refute it at one input. -/
def ctypeOrderWrong : ChangeSpec := { name := "ctypeOrder", fn := fun _ => fun
  | [d1, d2, d3, d4] => { results := [.lit (.bool false)], args := [d1, d2, d3, d4] }
  | _ => none }
def CtypeOrderWrongFalsely : Prop := ctypeOrderRow.holds Try.pinned (OpenSpec.ofChange ctypeOrderWrong)

/-- 'decompilerlaw41.CtypeAccess': WHATEVER THE INPUT: true; the input reads as it did. -/
def ctypeAccessSpec : ChangeSpec := { name := "ctypeAccess", fn := fun _ => fun
  | [d1, d2, d3] => { results := [.lit (.bool true)], args := [d1, d2, d3] }
  | _ => none }
def ctypeAccessRow : OpenClaim := { program := "ytfggemopnlffeaa", sum := "07069a5a05906e1f912bc841086331c4a2a17ae2b36300e10c49507462099228", func := "decompiler/decompilerlaw41.CtypeAccess", spec := "ctypeAccess", inPlace := ["internal/bytealg.IndexByteString", "internal/bytealg.IndexString"], unfollowed := true, recurses := true, named := ["internal/bytealg.MaxLen"], loops := true, apart := false }
def CtypeAccessSaid : Prop := ctypeAccessRow.holds Try.pinned (OpenSpec.ofChange ctypeAccessSpec)

/-- ITS FALSE NEIGHBOUR: 'it returns false'. Refute it at one input. -/
def ctypeAccessWrong : ChangeSpec := { name := "ctypeAccess", fn := fun _ => fun
  | [d1, d2, d3] => { results := [.lit (.bool false)], args := [d1, d2, d3] }
  | _ => none }
def CtypeAccessWrongFalsely : Prop := ctypeAccessRow.holds Try.pinned (OpenSpec.ofChange ctypeAccessWrong)

/-- 'decompilerlaw41.CtypePlain': WHATEVER THE INPUT: true; the input reads as it did. -/
def ctypePlainSpec : ChangeSpec := { name := "ctypePlain", fn := fun _ => fun
  | [d] => { results := [.lit (.bool true)], args := [d] }
  | _ => none }
def ctypePlainRow : OpenClaim := { program := "ytfggemopnlffeaa", sum := "07069a5a05906e1f912bc841086331c4a2a17ae2b36300e10c49507462099228", func := "decompiler/decompilerlaw41.CtypePlain", spec := "ctypePlain", inPlace := ["internal/bytealg.IndexByteString", "internal/bytealg.IndexString"], unfollowed := true, recurses := true, named := ["internal/bytealg.MaxLen"], loops := true, apart := false }
def CtypePlainSaid : Prop := ctypePlainRow.holds Try.pinned (OpenSpec.ofChange ctypePlainSpec)

/-- ITS FALSE NEIGHBOUR: 'it returns false'. Refute it at one input. -/
def ctypePlainWrong : ChangeSpec := { name := "ctypePlain", fn := fun _ => fun
  | [d] => { results := [.lit (.bool false)], args := [d] }
  | _ => none }
def CtypePlainWrongFalsely : Prop := ctypePlainRow.holds Try.pinned (OpenSpec.ofChange ctypePlainWrong)

/- THE SECOND FORM. 'bulk': how many values and letters a reading holds, each counted each time it is reached (what is shared counts as often as it is met; a slice's spare places count too). A statement '..UptoSaid' is the law's where the arguments, and the package variables that the reading takes, are together of bulk at most 1048576: NARROWER than '..Said'. Prove '..Said' where nothing that the law and all that it calls make is longer than what came in: it says more and counts as full. Else prove '..UptoSaid'. A law counts once. -/
mutual
def uptoBulk {H : Type} : DataW H → Nat
  | .lit (.string bytes) => bytes.length + 1
  | .lit _ => 1
  | .nil => 1
  | .ptr d => uptoBulk d + 1
  | .slice elems spare => uptoBulkAll elems + uptoBulkAll spare + 1
  | .agg parts => uptoBulkAll parts + 1
  | .iface _ d => uptoBulk d + 1
  | .map entries => uptoBulkEntries entries + 1
  | .held _ => 1
def uptoBulkAll {H : Type} : List (DataW H) → Nat
  | [] => 0
  | d :: r => uptoBulk d + uptoBulkAll r
def uptoBulkEntries {H : Type} : List (Lit × DataW H) → Nat
  | [] => 0
  | x :: r => uptoBulkEntry x + uptoBulkEntries r
def uptoBulkEntry {H : Type} : Lit × DataW H → Nat
  | (.string bytes, d) => bytes.length + uptoBulk d + 1
  | (_, d) => uptoBulk d + 1
 end
def uptoSmall : (H : Type) → List (DataW H) → Bool := fun _ ds => decide (uptoBulkAll ds ≤ 1048576)
def OpenSpec.upto (s : _root_.Go.ChangeSpec) : _root_.Go.OpenSpec := { _root_.Go.OpenSpec.ofChange s with cond := some uptoSmall }

/-- 'decompilerlaw41.CtypeAccesses', WHERE WHAT IT READS IS OF BULK AT MOST 1048576: true; the input reads as it did. -/
def ctypeAccessesUptoRow : OpenClaim := { program := "ytfggemopnlffeaa", sum := "07069a5a05906e1f912bc841086331c4a2a17ae2b36300e10c49507462099228", func := "decompiler/decompilerlaw41.CtypeAccesses", spec := "ctypeAccesses", inPlace := ["internal/bytealg.IndexByteString", "internal/bytealg.IndexString"], unfollowed := true, recurses := true, named := ["internal/bytealg.MaxLen"], loops := true, apart := false, narrowed := true }
def CtypeAccessesUptoSaid : Prop := ctypeAccessesUptoRow.holds Try.pinned (OpenSpec.upto ctypeAccessesSpec)

/-- 'decompilerlaw41.CtypeExprs', WHERE WHAT IT READS IS OF BULK AT MOST 1048576: true; the input reads as it did. -/
def ctypeExprsUptoRow : OpenClaim := { program := "ytfggemopnlffeaa", sum := "07069a5a05906e1f912bc841086331c4a2a17ae2b36300e10c49507462099228", func := "decompiler/decompilerlaw41.CtypeExprs", spec := "ctypeExprs", inPlace := ["internal/bytealg.IndexByteString", "internal/bytealg.IndexString"], unfollowed := true, recurses := true, named := ["internal/bytealg.MaxLen"], loops := true, apart := false, narrowed := true }
def CtypeExprsUptoSaid : Prop := ctypeExprsUptoRow.holds Try.pinned (OpenSpec.upto ctypeExprsSpec)

/-- 'decompilerlaw41.CtypeOrder', WHERE WHAT IT READS IS OF BULK AT MOST 1048576: true; the input reads as it did. -/
def ctypeOrderUptoRow : OpenClaim := { program := "ytfggemopnlffeaa", sum := "07069a5a05906e1f912bc841086331c4a2a17ae2b36300e10c49507462099228", func := "decompiler/decompilerlaw41.CtypeOrder", spec := "ctypeOrder", inPlace := ["internal/bytealg.IndexByteString", "internal/bytealg.IndexString"], unfollowed := true, recurses := true, named := ["internal/bytealg.MaxLen"], loops := true, apart := false, narrowed := true }
def CtypeOrderUptoSaid : Prop := ctypeOrderUptoRow.holds Try.pinned (OpenSpec.upto ctypeOrderSpec)

/-- 'decompilerlaw41.CtypeAccess', WHERE WHAT IT READS IS OF BULK AT MOST 1048576: true; the input reads as it did. -/
def ctypeAccessUptoRow : OpenClaim := { program := "ytfggemopnlffeaa", sum := "07069a5a05906e1f912bc841086331c4a2a17ae2b36300e10c49507462099228", func := "decompiler/decompilerlaw41.CtypeAccess", spec := "ctypeAccess", inPlace := ["internal/bytealg.IndexByteString", "internal/bytealg.IndexString"], unfollowed := true, recurses := true, named := ["internal/bytealg.MaxLen"], loops := true, apart := false, narrowed := true }
def CtypeAccessUptoSaid : Prop := ctypeAccessUptoRow.holds Try.pinned (OpenSpec.upto ctypeAccessSpec)

/-- 'decompilerlaw41.CtypePlain', WHERE WHAT IT READS IS OF BULK AT MOST 1048576: true; the input reads as it did. -/
def ctypePlainUptoRow : OpenClaim := { program := "ytfggemopnlffeaa", sum := "07069a5a05906e1f912bc841086331c4a2a17ae2b36300e10c49507462099228", func := "decompiler/decompilerlaw41.CtypePlain", spec := "ctypePlain", inPlace := ["internal/bytealg.IndexByteString", "internal/bytealg.IndexString"], unfollowed := true, recurses := true, named := ["internal/bytealg.MaxLen"], loops := true, apart := false, narrowed := true }
def CtypePlainUptoSaid : Prop := ctypePlainUptoRow.holds Try.pinned (OpenSpec.upto ctypePlainSpec)

end Rows
end Go.Proofs.Ytfggemopnlffeaa
