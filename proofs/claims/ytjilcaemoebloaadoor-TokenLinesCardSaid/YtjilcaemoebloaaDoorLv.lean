/- What the listed package-level variables hold, said on trees; a world that holds them; what the arguments of the laws of chapter 39 read as. -/
import Derived.Test.YtjilcaemoebloaaDoorLo
import Derived.Test.YtjilcaemoebloaaDoorTv
import Derived.Test.YtjilcaemoebloaaDoorTd
import Derived.Test.YtjilcaemoebloaaDoorCards
import Derived.Test.YtjilcaemoebloaaDoorTie
import Derived.Lib.LaidTab
import Derived.Stop.LaidErr
import Derived.Deep.DeepHandedRow
import Derived.LaidLaws
namespace Go.Proofs.YtjilcaemoebloaaDoor
set_option linter.unusedSimpArgs false
set_option linter.unusedVariables false
set_option linter.unnecessarySimpa false
open Go.RowKit Go.ChangeShapes Go.WideShapes Go.WideMaps Go.WideElems
theorem tab_known {W : World} {g : Nat} {k : IntKind} {l : List Int} {name : String} (hg : Tryd.prog.globalNamed name = some g) (h : Lib.TabIs Tryd.prog W name k l) : ∀ a ∈ glT g k l, ∃ v : Value, (Cf.raw W).rd a.1 v ∧ a.2 v := fun a ha => by
  unfold glT at ha
  obtain ⟨i, hi, rfl⟩ := List.mem_map.1 ha
  exact ⟨_, raw_rd (h.cell hg i (List.mem_range.1 hi)), rfl⟩
theorem iface_known {P : Program} {W : World} {n nm : String} {d : DataW Unit} {r : List (String × DataW Unit)} {g : Nat} {ti : TypeId} {ms : Array (String × TypeId)} (h : laidMet P ((n, .iface nm d) :: r) W)
    (hg : P.globalNamed n = some g) (ht : (P.globals[g]?).map (·.type) = some ti) (hi : P.underlying ti = some (.interface ms)) : ∃ t x, W.cell? ⟨g, 0, none⟩ = some (.iface t x) := by
  obtain ⟨ps, ⟨g', t', cs, fuel, p, q, hg', ht', hvar, hd, _, _⟩, _⟩ := h
  obtain rfl := Option.some.inj (hg.symm.trans hg')
  obtain rfl := Option.some.inj (ht.symm.trans ht')
  obtain ⟨l⟩ := cs
  obtain ⟨f1, u, v, hl, _, _⟩ := iface_of_trod hi hd
  have hl : l = [.iface u v] := hl
  subst hl
  exact ⟨u, v, by simpa using World.var?_cell hg hvar 0⟩
/-- The list of the rows. -/
def lay : List (String × DataW Unit) := [("math/bits.deBruijn32tab", Rows.laid_math_bits_deBruijn32tab), ("math/bits.deBruijn64tab", Rows.laid_math_bits_deBruijn64tab), ("internal/strconv.uint64pow10", Rows.laid_internal_strconv_uint64pow10), ("strconv.ErrRange", Rows.laid_strconv_ErrRange), ("strconv.ErrSyntax", Rows.laid_strconv_ErrSyntax)]
theorem lay_met {W : World} (h : laidMetH Tryd.prog lay W) : laidMet Tryd.prog lay W := h
theorem gn32 : Tryd.prog.globalNamed "math/bits.deBruijn32tab" = some 4 := by kernel_rfl
theorem gn64 : Tryd.prog.globalNamed "math/bits.deBruijn64tab" = some 5 := by kernel_rfl
theorem gn10 : Tryd.prog.globalNamed "internal/strconv.uint64pow10" = some 1 := by kernel_rfl
theorem gnR : Tryd.prog.globalNamed "strconv.ErrRange" = some 3 := by kernel_rfl
theorem gnS : Tryd.prog.globalNamed "strconv.ErrSyntax" = some 2 := by kernel_rfl
theorem gt32 : (Tryd.prog.globals[4]?).map (·.type) = some 136 := by kernel_rfl
theorem gt64 : (Tryd.prog.globals[5]?).map (·.type) = some 137 := by kernel_rfl
theorem gt10 : (Tryd.prog.globals[1]?).map (·.type) = some 117 := by kernel_rfl
theorem gtR : (Tryd.prog.globals[3]?).map (·.type) = some 80 := by kernel_rfl
theorem gtS : (Tryd.prog.globals[2]?).map (·.type) = some 80 := by kernel_rfl
theorem known_of {W : World} (hsh : W.ShapedOpen Tryd.prog) (hL : laidMetH Tryd.prog lay W) : (Cf.raw W).known := by
  refine ⟨fun a ha => ?_, fun a ha i hi => by cases hi⟩
  have h0 := lay_met hL
  have h1 := h0.tail
  have h2 := h1.tail
  have h3 := h2.tail
  have h4 := h3.tail
  unfold glL at ha
  rcases List.mem_append.1 ha with ha | ha
  · simp only [List.mem_cons, List.not_mem_nil, or_false] at ha
    rcases ha with rfl | rfl | rfl
    · obtain ⟨m, hm⟩ := cell_of_shapedOpen_int (zero := #[.int .i64 0]) (t := 3) hsh (of_decide_eq_true (by kernel_rfl)) (by kernel_rfl) rfl (by kernel_rfl) (by kernel_rfl) Tryd.underlying3
      exact ⟨_, raw_rd hm, m, rfl⟩
    · obtain ⟨t, x, h⟩ := iface_known h4 gnS gtS Tryd.underlying80
      exact ⟨_, raw_rd h, t, x, rfl⟩
    · obtain ⟨t, x, h⟩ := iface_known h3 gnR gtR Tryd.underlying80
      exact ⟨_, raw_rd h, t, x, rfl⟩
  rcases List.mem_append.1 ha with ha | ha
  · exact tab_known gn64 (Lib.tabIs_of_head (zs := tab64) gn64 gt64 Tryd.underlying137 Tryd.underlying5 (by kernel_rfl) (by kernel_rfl) h1) a ha
  rcases List.mem_append.1 ha with ha | ha
  · exact tab_known gn32 (Lib.tabIs_of_head (zs := tab32) gn32 gt32 Tryd.underlying136 Tryd.underlying5 (by kernel_rfl) (by kernel_rfl) h0) a ha
  · exact tab_known gn10 (Lib.tabIs_of_head (zs := tab10) gn10 gt10 Tryd.underlying117 Tryd.underlying74 (by kernel_rfl) (by kernel_rfl) h2) a ha
/-! ### A world that holds them -/
noncomputable def low : Nat := (World.holding Tryd.prog default ⟨#[], #[], []⟩).heap.size
noncomputable def setG (g : Nat) (cs : Array Value) (h : Array Obj) : Array Obj := h.modify g fun
  | .cells _ t frozen => .cells cs t frozen
  | o => o
noncomputable def laidWorld (os : Os) : World :=
  let w0 := World.holding Tryd.prog os ⟨#[.cells #[.string ⟨#[118, 97, 108, 117, 101, 32, 111, 117, 116, 32, 111, 102, 32, 114, 97, 110, 103, 101]⟩] 140, .cells #[.string ⟨#[105, 110, 118, 97, 108, 105, 100, 32, 115, 121, 110, 116, 97, 120]⟩] 140], #[], []⟩
  { w0 with heap := setG 4 (tab32.map fun n => Value.int .u8 n).toArray (setG 5 (tab64.map fun n => Value.int .u8 n).toArray (setG 1 (tab10.map fun n => Value.int .u64 n).toArray
      (setG 3 #[.iface 138 (.pointer (some ⟨low, 0, none⟩))] (setG 2 #[.iface 138 (.pointer (some ⟨low + 1, 0, none⟩))] w0.heap)))) }
theorem laid_met (os : Os) (args : Array Value) : laidMet Tryd.prog lay ((laidWorld os).forCall (fun _ _ => 0) ⟨#[], args, []⟩).memory :=
  laidMet_of_run' 8 (by kernel_rfl) (by kernel_rfl)
theorem G_int : inOf Tryd.prog 3 = some .i64 := by kernel_rfl
theorem G_u32 : inOf Tryd.prog 28 = some .u32 := by kernel_rfl
theorem G_u8 : inOf Tryd.prog 5 = some .u8 := by kernel_rfl
theorem U32_lt {n : Int} (h : IntKind.u32.min ≤ n ∧ n ≤ IntKind.u32.max) : 0 ≤ n ∧ n < 4294967296 := by
  have h1 : IntKind.u32.min = 0 := by kernel_rfl
  have h2 : IntKind.u32.max = 4294967295 := by kernel_rfl
  omega
theorem U8_lt {n : Int} (h : IntKind.u8.min ≤ n ∧ n ≤ IntKind.u8.max) : 0 ≤ n ∧ n < 256 := by
  have h1 : IntKind.u8.min = 0 := by kernel_rfl
  have h2 : IntKind.u8.max = 255 := by kernel_rfl
  omega
theorem G_tk : ftOf Tryd.prog 37 = some [3, 9, 28, 3, 3] := by kernel_rfl
theorem G_tkL : elOf Tryd.prog 33 = some 37 := by kernel_rfl
theorem rd_tk {H : Type} (d : DataW H) (hb : Rows.uptoBulk d ≤ 4194304) (hd : Rd Tryd.prog 37 d) : ∃ t : Tk, dV d = tkV t ∧ TkOk t := by
  obtain ⟨ps, rfl, hp⟩ := hd.agg_inv G_tk
  match ps, hp with
  | [d1, d2, d3, d4, d5], ⟨h1, h2, h3, h4, h5, _⟩ =>
    obtain ⟨x1, rfl, f1⟩ := h1.int_inv G_int
    obtain ⟨s, rfl, _⟩ := h2.string_inv Tryd.underlying9
    obtain ⟨x3, rfl, f3⟩ := h3.int_inv G_u32
    obtain ⟨x4, rfl, f4⟩ := h4.int_inv G_int
    obtain ⟨x5, rfl, f5⟩ := h5.int_inv G_int
    simp only [Rows.uptoBulk, Rows.uptoBulkAll] at hb
    refine ⟨⟨x1, s.data.toList, x3, x4, x5⟩, ?_, U32_lt f3, by simp only; omega⟩
    simp only [dV, dVF, tkV_eq, V.cells, List.append_nil, List.cons_append, List.nil_append]
theorem rd_tks {H : Type} (d : DataW H) (hb : Rows.uptoBulk d ≤ 4194304) (hd : Rd Tryd.prog 33 d) : ∃ l : List Tk, dV d = .sl (l.map tkV) .ro ∧ (l.length ≤ 4194304 ∧ ∀ t ∈ l, TkOk t) := by
  obtain ⟨l, e1, e2, e3⟩ := slice_of (G := tkV) (Q := TkOk) hd G_tkL fun x hx hr => rd_tk x (by omega) hr
  exact ⟨l, e1, by omega, e3⟩
end Go.Proofs.YtjilcaemoebloaaDoor
