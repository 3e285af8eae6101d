/-
  NARROWER THAN 'FOR EVERY INPUT', by the rows' own cells (each row's printed sentence says how): ParseAccepted: laid · ParseFuncRoundTrip: loops, laid · ParseUnit: laid · ParseExpr: laid · ParseErrorAt: laid · ParseFunc: laid · ParseSpace: laid · ParseExprRoundTrip: loops, laid · ParseRoundTrip: loops, laid.
  DERIVED. THE GIVEN ROWS OF THIS SEAT. 9 by the template 'for every input the law returns true; each argument reads behind the call as it read before'; 0 by the template 'total and deterministic' (their statements: YtmbmmckagcdapaaGreatDoorTotals.lean).
  GIVEN WITH THE SEED: the statements are not yours to turn. If you find one false, say at which input.
  Laid BY PROGRAM, IN A SANDBOX (cutbox-rows.mjs): the forced cells as the released guide's own fill.sh prints them over the translation e96e3b5e79f899a6… (all of the seat's roots in one cut). By AI agents, Wed Nov 11 2026. No macro, syntax, notation, axiom, sorry.
-/
import Derived.Test.YtmbmmckagcdapaaGreatDoorChecked
import GoSem.Claim
import GoSem.ClaimJoined
import GoSem.ClaimMapViews
import Derived.JoinedTies
import Derived.KernelRfl
namespace Go.Proofs.YtmbmmckagcdapaaGreatDoor
/- THE CELL 'sum', in the pinned program and in every row, IS THE sha256 OF THE DUMP (.gsa) THAT YtmbmmckagcdapaaGreatDoorProg.lean LOADS. Nothing in Lean hashes anything: it is a label: what it is worth is what the hold of that sum in a sandbox is worth. -/
noncomputable def Tryz.pinned : Pinned := { name := "ytmbmmckagcdapaagreatdoor", sum := "e96e3b5e79f899a6575530aaa17f9b389132d8cf17d402408d1469e5d2875880", checked := Tryz.checked }
namespace Rows
def none {H : Type} : Left H := { results := [], args := [] }

/- WHAT THE LISTED PACKAGE-LEVEL VARIABLES READ AS WHEN THE CALL BEGINS. Each datum BY PROGRAM (the guide's laid-datum.mjs) off the statement by which the dump's own 'gosem.cut.vars' lays the variable. In a bare row this is a premise. The card (YtmbmmckagcdapaaGreatDoorCards.lean) ties it to the program's text. -/
def laid_math_bits_deBruijn32tab {H : Type} : DataW H := .agg [.lit (.int .u8 0), .lit (.int .u8 1), .lit (.int .u8 28), .lit (.int .u8 2), .lit (.int .u8 29), .lit (.int .u8 14), .lit (.int .u8 24), .lit (.int .u8 3), .lit (.int .u8 30), .lit (.int .u8 22), .lit (.int .u8 20), .lit (.int .u8 15), .lit (.int .u8 25), .lit (.int .u8 17), .lit (.int .u8 4), .lit (.int .u8 8), .lit (.int .u8 31), .lit (.int .u8 27), .lit (.int .u8 13), .lit (.int .u8 23), .lit (.int .u8 21), .lit (.int .u8 19), .lit (.int .u8 16), .lit (.int .u8 7), .lit (.int .u8 26), .lit (.int .u8 12), .lit (.int .u8 18), .lit (.int .u8 6), .lit (.int .u8 11), .lit (.int .u8 5), .lit (.int .u8 10), .lit (.int .u8 9)]
def laid_math_bits_deBruijn64tab {H : Type} : DataW H := .agg [.lit (.int .u8 0), .lit (.int .u8 1), .lit (.int .u8 56), .lit (.int .u8 2), .lit (.int .u8 57), .lit (.int .u8 49), .lit (.int .u8 28), .lit (.int .u8 3), .lit (.int .u8 61), .lit (.int .u8 58), .lit (.int .u8 42), .lit (.int .u8 50), .lit (.int .u8 38), .lit (.int .u8 29), .lit (.int .u8 17), .lit (.int .u8 4), .lit (.int .u8 62), .lit (.int .u8 47), .lit (.int .u8 59), .lit (.int .u8 36), .lit (.int .u8 45), .lit (.int .u8 43), .lit (.int .u8 51), .lit (.int .u8 22), .lit (.int .u8 53), .lit (.int .u8 39), .lit (.int .u8 33), .lit (.int .u8 30), .lit (.int .u8 24), .lit (.int .u8 18), .lit (.int .u8 12), .lit (.int .u8 5), .lit (.int .u8 63), .lit (.int .u8 55), .lit (.int .u8 48), .lit (.int .u8 27), .lit (.int .u8 60), .lit (.int .u8 41), .lit (.int .u8 37), .lit (.int .u8 16), .lit (.int .u8 46), .lit (.int .u8 35), .lit (.int .u8 44), .lit (.int .u8 21), .lit (.int .u8 52), .lit (.int .u8 32), .lit (.int .u8 23), .lit (.int .u8 11), .lit (.int .u8 54), .lit (.int .u8 26), .lit (.int .u8 40), .lit (.int .u8 15), .lit (.int .u8 34), .lit (.int .u8 20), .lit (.int .u8 31), .lit (.int .u8 10), .lit (.int .u8 25), .lit (.int .u8 14), .lit (.int .u8 19), .lit (.int .u8 9), .lit (.int .u8 13), .lit (.int .u8 8), .lit (.int .u8 7), .lit (.int .u8 6)]
def laid_internal_strconv_uint64pow10 {H : Type} : DataW H := .agg [.lit (.int .u64 1), .lit (.int .u64 10), .lit (.int .u64 100), .lit (.int .u64 1000), .lit (.int .u64 10000), .lit (.int .u64 100000), .lit (.int .u64 1000000), .lit (.int .u64 10000000), .lit (.int .u64 100000000), .lit (.int .u64 1000000000), .lit (.int .u64 10000000000), .lit (.int .u64 100000000000), .lit (.int .u64 1000000000000), .lit (.int .u64 10000000000000), .lit (.int .u64 100000000000000), .lit (.int .u64 1000000000000000), .lit (.int .u64 10000000000000000), .lit (.int .u64 100000000000000000), .lit (.int .u64 1000000000000000000), .lit (.int .u64 10000000000000000000)]
def laid_strconv_ErrRange {H : Type} : DataW H := .iface "*errors.errorString" (.ptr (.agg [.lit (.string [118, 97, 108, 117, 101, 32, 111, 117, 116, 32, 111, 102, 32, 114, 97, 110, 103, 101])]))
def laid_strconv_ErrSyntax {H : Type} : DataW H := .iface "*errors.errorString" (.ptr (.agg [.lit (.string [105, 110, 118, 97, 108, 105, 100, 32, 115, 121, 110, 116, 97, 120])]))

/-- 'decompilerlaw40.ParseAccepted': WHATEVER THE INPUT: true; the input reads as it did. -/
def parseAcceptedSpec : ChangeSpec := { name := "parseAccepted", fn := fun _ => fun
  | [d] => { results := [.lit (.bool true)], args := [d] }
  | _ => none }
def parseAcceptedRow : OpenClaim := { program := "ytmbmmckagcdapaagreatdoor", sum := "e96e3b5e79f899a6575530aaa17f9b389132d8cf17d402408d1469e5d2875880", func := "decompiler/decompilerlaw40.ParseAccepted", spec := "parseAccepted", inPlace := ["internal/bytealg.IndexByteString", "internal/bytealg.IndexString", "internal/abi.NoEscape", "internal/bytealg.MakeNoZero"], unfollowed := true, recurses := true, named := ["internal/bytealg.MaxLen", "strconv.ErrSyntax", "strconv.ErrRange", "internal/strconv.uint64pow10", "math/bits.deBruijn32tab", "math/bits.deBruijn64tab"], apart := false, laid := [("math/bits.deBruijn32tab", laid_math_bits_deBruijn32tab), ("math/bits.deBruijn64tab", laid_math_bits_deBruijn64tab), ("internal/strconv.uint64pow10", laid_internal_strconv_uint64pow10), ("strconv.ErrRange", laid_strconv_ErrRange), ("strconv.ErrSyntax", laid_strconv_ErrSyntax)] }
def ParseAcceptedSaid : Prop := parseAcceptedRow.holds Tryz.pinned (OpenSpec.ofChange parseAcceptedSpec)

/-- ITS FALSE NEIGHBOUR: 'it returns false'. Refute it at one input. -/
def parseAcceptedWrong : ChangeSpec := { name := "parseAccepted", fn := fun _ => fun
  | [d] => { results := [.lit (.bool false)], args := [d] }
  | _ => none }
def ParseAcceptedWrongFalsely : Prop := parseAcceptedRow.holds Tryz.pinned (OpenSpec.ofChange parseAcceptedWrong)

/-- 'decompilerlaw40.ParseFuncRoundTrip': WHATEVER THE INPUT: true; the input reads as it did. -/
def parseFuncRoundTripSpec : ChangeSpec := { name := "parseFuncRoundTrip", fn := fun _ => fun
  | [d] => { results := [.lit (.bool true)], args := [d] }
  | _ => none }
def parseFuncRoundTripRow : OpenClaim := { program := "ytmbmmckagcdapaagreatdoor", sum := "e96e3b5e79f899a6575530aaa17f9b389132d8cf17d402408d1469e5d2875880", func := "decompiler/decompilerlaw40.ParseFuncRoundTrip", spec := "parseFuncRoundTrip", inPlace := ["internal/bytealg.IndexByteString", "internal/bytealg.IndexString", "internal/abi.NoEscape", "internal/bytealg.MakeNoZero"], unfollowed := true, recurses := true, named := ["internal/bytealg.MaxLen", "strconv.ErrSyntax", "strconv.ErrRange", "internal/strconv.uint64pow10", "math/bits.deBruijn32tab", "math/bits.deBruijn64tab"], loops := true, apart := false, laid := [("math/bits.deBruijn32tab", laid_math_bits_deBruijn32tab), ("math/bits.deBruijn64tab", laid_math_bits_deBruijn64tab), ("internal/strconv.uint64pow10", laid_internal_strconv_uint64pow10), ("strconv.ErrRange", laid_strconv_ErrRange), ("strconv.ErrSyntax", laid_strconv_ErrSyntax)] }
def ParseFuncRoundTripSaid : Prop := parseFuncRoundTripRow.holds Tryz.pinned (OpenSpec.ofChange parseFuncRoundTripSpec)

/-- ITS FALSE NEIGHBOUR: 'it returns false'. Refute it at one input. -/
def parseFuncRoundTripWrong : ChangeSpec := { name := "parseFuncRoundTrip", fn := fun _ => fun
  | [d] => { results := [.lit (.bool false)], args := [d] }
  | _ => none }
def ParseFuncRoundTripWrongFalsely : Prop := parseFuncRoundTripRow.holds Tryz.pinned (OpenSpec.ofChange parseFuncRoundTripWrong)

/-- 'decompilerlaw40.ParseUnit': WHATEVER THE INPUT: true; the input reads as it did. -/
def parseUnitSpec : ChangeSpec := { name := "parseUnit", fn := fun _ => fun
  | [d] => { results := [.lit (.bool true)], args := [d] }
  | _ => none }
def parseUnitRow : OpenClaim := { program := "ytmbmmckagcdapaagreatdoor", sum := "e96e3b5e79f899a6575530aaa17f9b389132d8cf17d402408d1469e5d2875880", func := "decompiler/decompilerlaw40.ParseUnit", spec := "parseUnit", inPlace := ["internal/bytealg.IndexByteString", "internal/bytealg.IndexString"], unfollowed := true, recurses := true, named := ["internal/bytealg.MaxLen", "strconv.ErrSyntax", "strconv.ErrRange", "internal/strconv.uint64pow10", "math/bits.deBruijn32tab", "math/bits.deBruijn64tab"], apart := false, laid := [("math/bits.deBruijn32tab", laid_math_bits_deBruijn32tab), ("math/bits.deBruijn64tab", laid_math_bits_deBruijn64tab), ("internal/strconv.uint64pow10", laid_internal_strconv_uint64pow10), ("strconv.ErrRange", laid_strconv_ErrRange), ("strconv.ErrSyntax", laid_strconv_ErrSyntax)] }
def ParseUnitSaid : Prop := parseUnitRow.holds Tryz.pinned (OpenSpec.ofChange parseUnitSpec)

/-- ITS FALSE NEIGHBOUR: 'it returns false'. Refute it at one input. -/
def parseUnitWrong : ChangeSpec := { name := "parseUnit", fn := fun _ => fun
  | [d] => { results := [.lit (.bool false)], args := [d] }
  | _ => none }
def ParseUnitWrongFalsely : Prop := parseUnitRow.holds Tryz.pinned (OpenSpec.ofChange parseUnitWrong)

/-- 'decompilerlaw40.ParseExpr': WHATEVER THE INPUT: true; the input reads as it did. -/
def parseExprSpec : ChangeSpec := { name := "parseExpr", fn := fun _ => fun
  | [d] => { results := [.lit (.bool true)], args := [d] }
  | _ => none }
def parseExprRow : OpenClaim := { program := "ytmbmmckagcdapaagreatdoor", sum := "e96e3b5e79f899a6575530aaa17f9b389132d8cf17d402408d1469e5d2875880", func := "decompiler/decompilerlaw40.ParseExpr", spec := "parseExpr", inPlace := ["internal/bytealg.IndexByteString", "internal/bytealg.IndexString"], unfollowed := true, recurses := true, named := ["internal/bytealg.MaxLen", "strconv.ErrSyntax", "strconv.ErrRange", "internal/strconv.uint64pow10", "math/bits.deBruijn32tab", "math/bits.deBruijn64tab"], apart := false, laid := [("math/bits.deBruijn32tab", laid_math_bits_deBruijn32tab), ("math/bits.deBruijn64tab", laid_math_bits_deBruijn64tab), ("internal/strconv.uint64pow10", laid_internal_strconv_uint64pow10), ("strconv.ErrRange", laid_strconv_ErrRange), ("strconv.ErrSyntax", laid_strconv_ErrSyntax)] }
def ParseExprSaid : Prop := parseExprRow.holds Tryz.pinned (OpenSpec.ofChange parseExprSpec)

/-- ITS FALSE NEIGHBOUR: 'it returns false'. Refute it at one input. -/
def parseExprWrong : ChangeSpec := { name := "parseExpr", fn := fun _ => fun
  | [d] => { results := [.lit (.bool false)], args := [d] }
  | _ => none }
def ParseExprWrongFalsely : Prop := parseExprRow.holds Tryz.pinned (OpenSpec.ofChange parseExprWrong)

/-- 'decompilerlaw40.ParseErrorAt': WHATEVER THE INPUT: true; the input reads as it did. -/
def parseErrorAtSpec : ChangeSpec := { name := "parseErrorAt", fn := fun _ => fun
  | [d] => { results := [.lit (.bool true)], args := [d] }
  | _ => none }
def parseErrorAtRow : OpenClaim := { program := "ytmbmmckagcdapaagreatdoor", sum := "e96e3b5e79f899a6575530aaa17f9b389132d8cf17d402408d1469e5d2875880", func := "decompiler/decompilerlaw40.ParseErrorAt", spec := "parseErrorAt", inPlace := ["internal/bytealg.IndexByteString", "internal/bytealg.IndexString"], unfollowed := true, recurses := true, named := ["internal/bytealg.MaxLen", "strconv.ErrSyntax", "strconv.ErrRange", "internal/strconv.uint64pow10", "math/bits.deBruijn32tab", "math/bits.deBruijn64tab"], apart := false, laid := [("math/bits.deBruijn32tab", laid_math_bits_deBruijn32tab), ("math/bits.deBruijn64tab", laid_math_bits_deBruijn64tab), ("internal/strconv.uint64pow10", laid_internal_strconv_uint64pow10), ("strconv.ErrRange", laid_strconv_ErrRange), ("strconv.ErrSyntax", laid_strconv_ErrSyntax)] }
def ParseErrorAtSaid : Prop := parseErrorAtRow.holds Tryz.pinned (OpenSpec.ofChange parseErrorAtSpec)

/-- ITS FALSE NEIGHBOUR: 'it returns false'. Refute it at one input. -/
def parseErrorAtWrong : ChangeSpec := { name := "parseErrorAt", fn := fun _ => fun
  | [d] => { results := [.lit (.bool false)], args := [d] }
  | _ => none }
def ParseErrorAtWrongFalsely : Prop := parseErrorAtRow.holds Tryz.pinned (OpenSpec.ofChange parseErrorAtWrong)

/-- 'decompilerlaw40.ParseFunc': WHATEVER THE INPUT: true; the input reads as it did. -/
def parseFuncSpec : ChangeSpec := { name := "parseFunc", fn := fun _ => fun
  | [d] => { results := [.lit (.bool true)], args := [d] }
  | _ => none }
def parseFuncRow : OpenClaim := { program := "ytmbmmckagcdapaagreatdoor", sum := "e96e3b5e79f899a6575530aaa17f9b389132d8cf17d402408d1469e5d2875880", func := "decompiler/decompilerlaw40.ParseFunc", spec := "parseFunc", inPlace := ["internal/bytealg.IndexByteString", "internal/bytealg.IndexString"], unfollowed := true, recurses := true, named := ["internal/bytealg.MaxLen", "strconv.ErrSyntax", "strconv.ErrRange", "internal/strconv.uint64pow10", "math/bits.deBruijn32tab", "math/bits.deBruijn64tab"], apart := false, laid := [("math/bits.deBruijn32tab", laid_math_bits_deBruijn32tab), ("math/bits.deBruijn64tab", laid_math_bits_deBruijn64tab), ("internal/strconv.uint64pow10", laid_internal_strconv_uint64pow10), ("strconv.ErrRange", laid_strconv_ErrRange), ("strconv.ErrSyntax", laid_strconv_ErrSyntax)] }
def ParseFuncSaid : Prop := parseFuncRow.holds Tryz.pinned (OpenSpec.ofChange parseFuncSpec)

/-- ITS FALSE NEIGHBOUR: 'it returns false'. Refute it at one input. -/
def parseFuncWrong : ChangeSpec := { name := "parseFunc", fn := fun _ => fun
  | [d] => { results := [.lit (.bool false)], args := [d] }
  | _ => none }
def ParseFuncWrongFalsely : Prop := parseFuncRow.holds Tryz.pinned (OpenSpec.ofChange parseFuncWrong)

/-- 'decompilerlaw40.ParseSpace': WHATEVER THE INPUT: true; the input reads as it did. -/
def parseSpaceSpec : ChangeSpec := { name := "parseSpace", fn := fun _ => fun
  | [d] => { results := [.lit (.bool true)], args := [d] }
  | _ => none }
def parseSpaceRow : OpenClaim := { program := "ytmbmmckagcdapaagreatdoor", sum := "e96e3b5e79f899a6575530aaa17f9b389132d8cf17d402408d1469e5d2875880", func := "decompiler/decompilerlaw40.ParseSpace", spec := "parseSpace", inPlace := ["internal/bytealg.IndexByteString", "internal/bytealg.IndexString", "internal/abi.NoEscape", "internal/bytealg.MakeNoZero"], unfollowed := true, recurses := true, named := ["internal/bytealg.MaxLen", "strconv.ErrSyntax", "strconv.ErrRange", "internal/strconv.uint64pow10", "math/bits.deBruijn32tab", "math/bits.deBruijn64tab"], apart := false, laid := [("math/bits.deBruijn32tab", laid_math_bits_deBruijn32tab), ("math/bits.deBruijn64tab", laid_math_bits_deBruijn64tab), ("internal/strconv.uint64pow10", laid_internal_strconv_uint64pow10), ("strconv.ErrRange", laid_strconv_ErrRange), ("strconv.ErrSyntax", laid_strconv_ErrSyntax)] }
def ParseSpaceSaid : Prop := parseSpaceRow.holds Tryz.pinned (OpenSpec.ofChange parseSpaceSpec)

/-- ITS FALSE NEIGHBOUR: 'it returns false'. Refute it at one input. -/
def parseSpaceWrong : ChangeSpec := { name := "parseSpace", fn := fun _ => fun
  | [d] => { results := [.lit (.bool false)], args := [d] }
  | _ => none }
def ParseSpaceWrongFalsely : Prop := parseSpaceRow.holds Tryz.pinned (OpenSpec.ofChange parseSpaceWrong)

/-- 'decompilerlaw40.ParseExprRoundTrip': WHATEVER THE INPUT: true; the input reads as it did. -/
def parseExprRoundTripSpec : ChangeSpec := { name := "parseExprRoundTrip", fn := fun _ => fun
  | [d] => { results := [.lit (.bool true)], args := [d] }
  | _ => none }
def parseExprRoundTripRow : OpenClaim := { program := "ytmbmmckagcdapaagreatdoor", sum := "e96e3b5e79f899a6575530aaa17f9b389132d8cf17d402408d1469e5d2875880", func := "decompiler/decompilerlaw40.ParseExprRoundTrip", spec := "parseExprRoundTrip", inPlace := ["internal/bytealg.IndexByteString", "internal/bytealg.IndexString", "internal/abi.NoEscape", "internal/bytealg.MakeNoZero"], unfollowed := true, recurses := true, named := ["internal/bytealg.MaxLen", "strconv.ErrSyntax", "strconv.ErrRange", "internal/strconv.uint64pow10", "math/bits.deBruijn32tab", "math/bits.deBruijn64tab"], loops := true, apart := false, laid := [("math/bits.deBruijn32tab", laid_math_bits_deBruijn32tab), ("math/bits.deBruijn64tab", laid_math_bits_deBruijn64tab), ("internal/strconv.uint64pow10", laid_internal_strconv_uint64pow10), ("strconv.ErrRange", laid_strconv_ErrRange), ("strconv.ErrSyntax", laid_strconv_ErrSyntax)] }
def ParseExprRoundTripSaid : Prop := parseExprRoundTripRow.holds Tryz.pinned (OpenSpec.ofChange parseExprRoundTripSpec)

/-- ITS FALSE NEIGHBOUR: 'it returns false'. Refute it at one input. -/
def parseExprRoundTripWrong : ChangeSpec := { name := "parseExprRoundTrip", fn := fun _ => fun
  | [d] => { results := [.lit (.bool false)], args := [d] }
  | _ => none }
def ParseExprRoundTripWrongFalsely : Prop := parseExprRoundTripRow.holds Tryz.pinned (OpenSpec.ofChange parseExprRoundTripWrong)

/-- 'decompilerlaw40.ParseRoundTrip': WHATEVER THE INPUT: true; the input reads as it did. -/
def parseRoundTripSpec : ChangeSpec := { name := "parseRoundTrip", fn := fun _ => fun
  | [d] => { results := [.lit (.bool true)], args := [d] }
  | _ => none }
def parseRoundTripRow : OpenClaim := { program := "ytmbmmckagcdapaagreatdoor", sum := "e96e3b5e79f899a6575530aaa17f9b389132d8cf17d402408d1469e5d2875880", func := "decompiler/decompilerlaw40.ParseRoundTrip", spec := "parseRoundTrip", inPlace := ["internal/bytealg.IndexByteString", "internal/bytealg.IndexString", "internal/abi.NoEscape", "internal/bytealg.MakeNoZero"], unfollowed := true, recurses := true, named := ["internal/bytealg.MaxLen", "strconv.ErrSyntax", "strconv.ErrRange", "internal/strconv.uint64pow10", "math/bits.deBruijn32tab", "math/bits.deBruijn64tab"], loops := true, apart := false, laid := [("math/bits.deBruijn32tab", laid_math_bits_deBruijn32tab), ("math/bits.deBruijn64tab", laid_math_bits_deBruijn64tab), ("internal/strconv.uint64pow10", laid_internal_strconv_uint64pow10), ("strconv.ErrRange", laid_strconv_ErrRange), ("strconv.ErrSyntax", laid_strconv_ErrSyntax)] }
def ParseRoundTripSaid : Prop := parseRoundTripRow.holds Tryz.pinned (OpenSpec.ofChange parseRoundTripSpec)

/-- ITS FALSE NEIGHBOUR: 'it returns false'. Refute it at one input. -/
def parseRoundTripWrong : ChangeSpec := { name := "parseRoundTrip", fn := fun _ => fun
  | [d] => { results := [.lit (.bool false)], args := [d] }
  | _ => none }
def ParseRoundTripWrongFalsely : Prop := parseRoundTripRow.holds Tryz.pinned (OpenSpec.ofChange parseRoundTripWrong)

/- THE SECOND FORM. 'bulk': how many values and letters a reading holds, each counted each time it is reached (what is shared counts as often as it is met; a slice's spare places count too). A statement '..UptoSaid' is the law's where the arguments, and the package variables that the reading takes, are together of bulk at most 1048576: NARROWER than '..Said'. Prove '..Said' where nothing that the law and all that it calls make is longer than what came in: it says more and counts as full. Else prove '..UptoSaid'. A law counts once. -/
mutual
def uptoBulk {H : Type} : DataW H → Nat
  | .lit (.string bytes) => bytes.length + 1
  | .lit _ => 1
  | .nil => 1
  | .ptr d => uptoBulk d + 1
  | .slice elems spare => uptoBulkAll elems + uptoBulkAll spare + 1
  | .agg parts => uptoBulkAll parts + 1
  | .iface _ d => uptoBulk d + 1
  | .map entries => uptoBulkEntries entries + 1
  | .held _ => 1
def uptoBulkAll {H : Type} : List (DataW H) → Nat
  | [] => 0
  | d :: r => uptoBulk d + uptoBulkAll r
def uptoBulkEntries {H : Type} : List (Lit × DataW H) → Nat
  | [] => 0
  | x :: r => uptoBulkEntry x + uptoBulkEntries r
def uptoBulkEntry {H : Type} : Lit × DataW H → Nat
  | (.string bytes, d) => bytes.length + uptoBulk d + 1
  | (_, d) => uptoBulk d + 1
 end
def uptoSmall : (H : Type) → List (DataW H) → Bool := fun _ ds => decide (uptoBulkAll ds ≤ 1048576)
def OpenSpec.upto (s : _root_.Go.ChangeSpec) : _root_.Go.OpenSpec := { _root_.Go.OpenSpec.ofChange s with cond := some uptoSmall }

/-- 'decompilerlaw40.ParseAccepted', WHERE WHAT IT READS IS OF BULK AT MOST 1048576: true; the input reads as it did. -/
def parseAcceptedUptoRow : OpenClaim := { program := "ytmbmmckagcdapaagreatdoor", sum := "e96e3b5e79f899a6575530aaa17f9b389132d8cf17d402408d1469e5d2875880", func := "decompiler/decompilerlaw40.ParseAccepted", spec := "parseAccepted", inPlace := ["internal/bytealg.IndexByteString", "internal/bytealg.IndexString", "internal/abi.NoEscape", "internal/bytealg.MakeNoZero"], unfollowed := true, recurses := true, named := ["internal/bytealg.MaxLen", "strconv.ErrSyntax", "strconv.ErrRange", "internal/strconv.uint64pow10", "math/bits.deBruijn32tab", "math/bits.deBruijn64tab"], apart := false, laid := [("math/bits.deBruijn32tab", laid_math_bits_deBruijn32tab), ("math/bits.deBruijn64tab", laid_math_bits_deBruijn64tab), ("internal/strconv.uint64pow10", laid_internal_strconv_uint64pow10), ("strconv.ErrRange", laid_strconv_ErrRange), ("strconv.ErrSyntax", laid_strconv_ErrSyntax)], narrowed := true }
def ParseAcceptedUptoSaid : Prop := parseAcceptedUptoRow.holds Tryz.pinned (OpenSpec.upto parseAcceptedSpec)

/-- 'decompilerlaw40.ParseFuncRoundTrip', WHERE WHAT IT READS IS OF BULK AT MOST 1048576: true; the input reads as it did. -/
def parseFuncRoundTripUptoRow : OpenClaim := { program := "ytmbmmckagcdapaagreatdoor", sum := "e96e3b5e79f899a6575530aaa17f9b389132d8cf17d402408d1469e5d2875880", func := "decompiler/decompilerlaw40.ParseFuncRoundTrip", spec := "parseFuncRoundTrip", inPlace := ["internal/bytealg.IndexByteString", "internal/bytealg.IndexString", "internal/abi.NoEscape", "internal/bytealg.MakeNoZero"], unfollowed := true, recurses := true, named := ["internal/bytealg.MaxLen", "strconv.ErrSyntax", "strconv.ErrRange", "internal/strconv.uint64pow10", "math/bits.deBruijn32tab", "math/bits.deBruijn64tab"], loops := true, apart := false, laid := [("math/bits.deBruijn32tab", laid_math_bits_deBruijn32tab), ("math/bits.deBruijn64tab", laid_math_bits_deBruijn64tab), ("internal/strconv.uint64pow10", laid_internal_strconv_uint64pow10), ("strconv.ErrRange", laid_strconv_ErrRange), ("strconv.ErrSyntax", laid_strconv_ErrSyntax)], narrowed := true }
def ParseFuncRoundTripUptoSaid : Prop := parseFuncRoundTripUptoRow.holds Tryz.pinned (OpenSpec.upto parseFuncRoundTripSpec)

/-- 'decompilerlaw40.ParseUnit', WHERE WHAT IT READS IS OF BULK AT MOST 1048576: true; the input reads as it did. -/
def parseUnitUptoRow : OpenClaim := { program := "ytmbmmckagcdapaagreatdoor", sum := "e96e3b5e79f899a6575530aaa17f9b389132d8cf17d402408d1469e5d2875880", func := "decompiler/decompilerlaw40.ParseUnit", spec := "parseUnit", inPlace := ["internal/bytealg.IndexByteString", "internal/bytealg.IndexString"], unfollowed := true, recurses := true, named := ["internal/bytealg.MaxLen", "strconv.ErrSyntax", "strconv.ErrRange", "internal/strconv.uint64pow10", "math/bits.deBruijn32tab", "math/bits.deBruijn64tab"], apart := false, laid := [("math/bits.deBruijn32tab", laid_math_bits_deBruijn32tab), ("math/bits.deBruijn64tab", laid_math_bits_deBruijn64tab), ("internal/strconv.uint64pow10", laid_internal_strconv_uint64pow10), ("strconv.ErrRange", laid_strconv_ErrRange), ("strconv.ErrSyntax", laid_strconv_ErrSyntax)], narrowed := true }
def ParseUnitUptoSaid : Prop := parseUnitUptoRow.holds Tryz.pinned (OpenSpec.upto parseUnitSpec)

/-- 'decompilerlaw40.ParseExpr', WHERE WHAT IT READS IS OF BULK AT MOST 1048576: true; the input reads as it did. -/
def parseExprUptoRow : OpenClaim := { program := "ytmbmmckagcdapaagreatdoor", sum := "e96e3b5e79f899a6575530aaa17f9b389132d8cf17d402408d1469e5d2875880", func := "decompiler/decompilerlaw40.ParseExpr", spec := "parseExpr", inPlace := ["internal/bytealg.IndexByteString", "internal/bytealg.IndexString"], unfollowed := true, recurses := true, named := ["internal/bytealg.MaxLen", "strconv.ErrSyntax", "strconv.ErrRange", "internal/strconv.uint64pow10", "math/bits.deBruijn32tab", "math/bits.deBruijn64tab"], apart := false, laid := [("math/bits.deBruijn32tab", laid_math_bits_deBruijn32tab), ("math/bits.deBruijn64tab", laid_math_bits_deBruijn64tab), ("internal/strconv.uint64pow10", laid_internal_strconv_uint64pow10), ("strconv.ErrRange", laid_strconv_ErrRange), ("strconv.ErrSyntax", laid_strconv_ErrSyntax)], narrowed := true }
def ParseExprUptoSaid : Prop := parseExprUptoRow.holds Tryz.pinned (OpenSpec.upto parseExprSpec)

/-- 'decompilerlaw40.ParseErrorAt', WHERE WHAT IT READS IS OF BULK AT MOST 1048576: true; the input reads as it did. -/
def parseErrorAtUptoRow : OpenClaim := { program := "ytmbmmckagcdapaagreatdoor", sum := "e96e3b5e79f899a6575530aaa17f9b389132d8cf17d402408d1469e5d2875880", func := "decompiler/decompilerlaw40.ParseErrorAt", spec := "parseErrorAt", inPlace := ["internal/bytealg.IndexByteString", "internal/bytealg.IndexString"], unfollowed := true, recurses := true, named := ["internal/bytealg.MaxLen", "strconv.ErrSyntax", "strconv.ErrRange", "internal/strconv.uint64pow10", "math/bits.deBruijn32tab", "math/bits.deBruijn64tab"], apart := false, laid := [("math/bits.deBruijn32tab", laid_math_bits_deBruijn32tab), ("math/bits.deBruijn64tab", laid_math_bits_deBruijn64tab), ("internal/strconv.uint64pow10", laid_internal_strconv_uint64pow10), ("strconv.ErrRange", laid_strconv_ErrRange), ("strconv.ErrSyntax", laid_strconv_ErrSyntax)], narrowed := true }
def ParseErrorAtUptoSaid : Prop := parseErrorAtUptoRow.holds Tryz.pinned (OpenSpec.upto parseErrorAtSpec)

/-- 'decompilerlaw40.ParseFunc', WHERE WHAT IT READS IS OF BULK AT MOST 1048576: true; the input reads as it did. -/
def parseFuncUptoRow : OpenClaim := { program := "ytmbmmckagcdapaagreatdoor", sum := "e96e3b5e79f899a6575530aaa17f9b389132d8cf17d402408d1469e5d2875880", func := "decompiler/decompilerlaw40.ParseFunc", spec := "parseFunc", inPlace := ["internal/bytealg.IndexByteString", "internal/bytealg.IndexString"], unfollowed := true, recurses := true, named := ["internal/bytealg.MaxLen", "strconv.ErrSyntax", "strconv.ErrRange", "internal/strconv.uint64pow10", "math/bits.deBruijn32tab", "math/bits.deBruijn64tab"], apart := false, laid := [("math/bits.deBruijn32tab", laid_math_bits_deBruijn32tab), ("math/bits.deBruijn64tab", laid_math_bits_deBruijn64tab), ("internal/strconv.uint64pow10", laid_internal_strconv_uint64pow10), ("strconv.ErrRange", laid_strconv_ErrRange), ("strconv.ErrSyntax", laid_strconv_ErrSyntax)], narrowed := true }
def ParseFuncUptoSaid : Prop := parseFuncUptoRow.holds Tryz.pinned (OpenSpec.upto parseFuncSpec)

/-- 'decompilerlaw40.ParseSpace', WHERE WHAT IT READS IS OF BULK AT MOST 1048576: true; the input reads as it did. -/
def parseSpaceUptoRow : OpenClaim := { program := "ytmbmmckagcdapaagreatdoor", sum := "e96e3b5e79f899a6575530aaa17f9b389132d8cf17d402408d1469e5d2875880", func := "decompiler/decompilerlaw40.ParseSpace", spec := "parseSpace", inPlace := ["internal/bytealg.IndexByteString", "internal/bytealg.IndexString", "internal/abi.NoEscape", "internal/bytealg.MakeNoZero"], unfollowed := true, recurses := true, named := ["internal/bytealg.MaxLen", "strconv.ErrSyntax", "strconv.ErrRange", "internal/strconv.uint64pow10", "math/bits.deBruijn32tab", "math/bits.deBruijn64tab"], apart := false, laid := [("math/bits.deBruijn32tab", laid_math_bits_deBruijn32tab), ("math/bits.deBruijn64tab", laid_math_bits_deBruijn64tab), ("internal/strconv.uint64pow10", laid_internal_strconv_uint64pow10), ("strconv.ErrRange", laid_strconv_ErrRange), ("strconv.ErrSyntax", laid_strconv_ErrSyntax)], narrowed := true }
def ParseSpaceUptoSaid : Prop := parseSpaceUptoRow.holds Tryz.pinned (OpenSpec.upto parseSpaceSpec)

/-- 'decompilerlaw40.ParseExprRoundTrip', WHERE WHAT IT READS IS OF BULK AT MOST 1048576: true; the input reads as it did. -/
def parseExprRoundTripUptoRow : OpenClaim := { program := "ytmbmmckagcdapaagreatdoor", sum := "e96e3b5e79f899a6575530aaa17f9b389132d8cf17d402408d1469e5d2875880", func := "decompiler/decompilerlaw40.ParseExprRoundTrip", spec := "parseExprRoundTrip", inPlace := ["internal/bytealg.IndexByteString", "internal/bytealg.IndexString", "internal/abi.NoEscape", "internal/bytealg.MakeNoZero"], unfollowed := true, recurses := true, named := ["internal/bytealg.MaxLen", "strconv.ErrSyntax", "strconv.ErrRange", "internal/strconv.uint64pow10", "math/bits.deBruijn32tab", "math/bits.deBruijn64tab"], loops := true, apart := false, laid := [("math/bits.deBruijn32tab", laid_math_bits_deBruijn32tab), ("math/bits.deBruijn64tab", laid_math_bits_deBruijn64tab), ("internal/strconv.uint64pow10", laid_internal_strconv_uint64pow10), ("strconv.ErrRange", laid_strconv_ErrRange), ("strconv.ErrSyntax", laid_strconv_ErrSyntax)], narrowed := true }
def ParseExprRoundTripUptoSaid : Prop := parseExprRoundTripUptoRow.holds Tryz.pinned (OpenSpec.upto parseExprRoundTripSpec)

/-- 'decompilerlaw40.ParseRoundTrip', WHERE WHAT IT READS IS OF BULK AT MOST 1048576: true; the input reads as it did. -/
def parseRoundTripUptoRow : OpenClaim := { program := "ytmbmmckagcdapaagreatdoor", sum := "e96e3b5e79f899a6575530aaa17f9b389132d8cf17d402408d1469e5d2875880", func := "decompiler/decompilerlaw40.ParseRoundTrip", spec := "parseRoundTrip", inPlace := ["internal/bytealg.IndexByteString", "internal/bytealg.IndexString", "internal/abi.NoEscape", "internal/bytealg.MakeNoZero"], unfollowed := true, recurses := true, named := ["internal/bytealg.MaxLen", "strconv.ErrSyntax", "strconv.ErrRange", "internal/strconv.uint64pow10", "math/bits.deBruijn32tab", "math/bits.deBruijn64tab"], loops := true, apart := false, laid := [("math/bits.deBruijn32tab", laid_math_bits_deBruijn32tab), ("math/bits.deBruijn64tab", laid_math_bits_deBruijn64tab), ("internal/strconv.uint64pow10", laid_internal_strconv_uint64pow10), ("strconv.ErrRange", laid_strconv_ErrRange), ("strconv.ErrSyntax", laid_strconv_ErrSyntax)], narrowed := true }
def ParseRoundTripUptoSaid : Prop := parseRoundTripUptoRow.holds Tryz.pinned (OpenSpec.upto parseRoundTripSpec)

end Rows
end Go.Proofs.YtmbmmckagcdapaaGreatDoor
