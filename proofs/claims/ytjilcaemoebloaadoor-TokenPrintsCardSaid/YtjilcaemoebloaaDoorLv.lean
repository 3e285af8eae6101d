/- What the arguments of the laws of chapter 39 read as. -/
import Derived.Test.YtjilcaemoebloaaDoorLk
import Derived.Test.YtjilcaemoebloaaDoorTv
import Derived.Test.YtjilcaemoebloaaDoorTd
namespace Go.Proofs.YtjilcaemoebloaaDoor
set_option linter.unusedSimpArgs false
set_option linter.unusedVariables false
set_option linter.unnecessarySimpa false
open Go.RowKit Go.ChangeShapes Go.WideShapes Go.WideMaps Go.WideElems
theorem G_int : inOf Tryd.prog 3 = some .i64 := by kernel_rfl
theorem G_u32 : inOf Tryd.prog 28 = some .u32 := by kernel_rfl
theorem G_u8 : inOf Tryd.prog 5 = some .u8 := by kernel_rfl
theorem U32_lt {n : Int} (h : IntKind.u32.min ≤ n ∧ n ≤ IntKind.u32.max) : 0 ≤ n ∧ n < 4294967296 := by
  have h1 : IntKind.u32.min = 0 := by kernel_rfl
  have h2 : IntKind.u32.max = 4294967295 := by kernel_rfl
  omega
theorem U8_lt {n : Int} (h : IntKind.u8.min ≤ n ∧ n ≤ IntKind.u8.max) : 0 ≤ n ∧ n < 256 := by
  have h1 : IntKind.u8.min = 0 := by kernel_rfl
  have h2 : IntKind.u8.max = 255 := by kernel_rfl
  omega
theorem G_tk : ftOf Tryd.prog 37 = some [3, 9, 28, 3, 3] := by kernel_rfl
theorem G_tkL : elOf Tryd.prog 33 = some 37 := by kernel_rfl
theorem rd_tk {H : Type} (d : DataW H) (hb : Rows.uptoBulk d ≤ 4194304) (hd : Rd Tryd.prog 37 d) : ∃ t : Tk, dV d = tkV t ∧ TkOk t := by
  obtain ⟨ps, rfl, hp⟩ := hd.agg_inv G_tk
  match ps, hp with
  | [d1, d2, d3, d4, d5], ⟨h1, h2, h3, h4, h5, _⟩ =>
    obtain ⟨x1, rfl, f1⟩ := h1.int_inv G_int
    obtain ⟨s, rfl, _⟩ := h2.string_inv Tryd.underlying9
    obtain ⟨x3, rfl, f3⟩ := h3.int_inv G_u32
    obtain ⟨x4, rfl, f4⟩ := h4.int_inv G_int
    obtain ⟨x5, rfl, f5⟩ := h5.int_inv G_int
    simp only [Rows.uptoBulk, Rows.uptoBulkAll] at hb
    refine ⟨⟨x1, s.data.toList, x3, x4, x5⟩, ?_, U32_lt f3, by simp only; omega⟩
    simp only [dV, dVF, tkV_eq, V.cells, List.append_nil, List.cons_append, List.nil_append]
theorem rd_tks {H : Type} (d : DataW H) (hb : Rows.uptoBulk d ≤ 4194304) (hd : Rd Tryd.prog 33 d) : ∃ l : List Tk, dV d = .sl (l.map tkV) .ro ∧ (l.length ≤ 4194304 ∧ ∀ t ∈ l, TkOk t) := by
  obtain ⟨l, e1, e2, e3⟩ := slice_of (G := tkV) (Q := TkOk) hd G_tkL fun x hx hr => rd_tk x (by omega) hr
  exact ⟨l, e1, by omega, e3⟩
end Go.Proofs.YtjilcaemoebloaaDoor
