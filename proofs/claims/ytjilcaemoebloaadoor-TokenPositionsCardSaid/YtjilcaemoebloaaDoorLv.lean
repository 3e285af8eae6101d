/- What the arguments of the laws of chapter 39 read as. -/
import Derived.Test.YtjilcaemoebloaaDoorLk
import Derived.Test.YtjilcaemoebloaaDoorTv
namespace Go.Proofs.YtjilcaemoebloaaDoor
set_option linter.unusedSimpArgs false
set_option linter.unusedVariables false
set_option linter.unnecessarySimpa false
open Go.RowKit Go.ChangeShapes Go.WideShapes Go.WideMaps Go.WideElems
theorem G_int : inOf Tryd.prog 3 = some .i64 := by kernel_rfl
theorem G_u32 : inOf Tryd.prog 28 = some .u32 := by kernel_rfl
theorem G_u8 : inOf Tryd.prog 5 = some .u8 := by kernel_rfl
theorem U32_lt {n : Int} (h : IntKind.u32.min ≤ n ∧ n ≤ IntKind.u32.max) : 0 ≤ n ∧ n < 4294967296 := by
  have h1 : IntKind.u32.min = 0 := by kernel_rfl
  have h2 : IntKind.u32.max = 4294967295 := by kernel_rfl
  omega
theorem U8_lt {n : Int} (h : IntKind.u8.min ≤ n ∧ n ≤ IntKind.u8.max) : 0 ≤ n ∧ n < 256 := by
  have h1 : IntKind.u8.min = 0 := by kernel_rfl
  have h2 : IntKind.u8.max = 255 := by kernel_rfl
  omega
end Go.Proofs.YtjilcaemoebloaaDoor
