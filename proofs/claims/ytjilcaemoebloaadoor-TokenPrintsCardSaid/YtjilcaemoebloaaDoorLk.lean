/- What the listed package-level variables hold, said on trees; a world that holds them. -/
import Derived.Test.YtjilcaemoebloaaDoorLo
import Derived.Test.YtjilcaemoebloaaDoorCards
import Derived.Test.YtjilcaemoebloaaDoorTie
import Derived.Lib.LaidTab
import Derived.Stop.LaidErr
import Derived.Deep.DeepHandedRow
import Derived.LaidLaws
namespace Go.Proofs.YtjilcaemoebloaaDoor
set_option linter.unusedSimpArgs false
set_option linter.unusedVariables false
set_option linter.unnecessarySimpa false
open Go.RowKit Go.ChangeShapes Go.WideShapes Go.WideMaps Go.WideElems
theorem tab_known {W : World} {g : Nat} {k : IntKind} {l : List Int} {name : String} (hg : Tryd.prog.globalNamed name = some g) (h : Lib.TabIs Tryd.prog W name k l) : ∀ a ∈ glT g k l, ∃ v : Value, (Cf.raw W).rd a.1 v ∧ a.2 v := fun a ha => by
  unfold glT at ha
  obtain ⟨i, hi, rfl⟩ := List.mem_map.1 ha
  exact ⟨_, raw_rd (h.cell hg i (List.mem_range.1 hi)), rfl⟩
theorem iface_known {P : Program} {W : World} {n nm : String} {d : DataW Unit} {r : List (String × DataW Unit)} {g : Nat} {ti : TypeId} {ms : Array (String × TypeId)} (h : laidMet P ((n, .iface nm d) :: r) W)
    (hg : P.globalNamed n = some g) (ht : (P.globals[g]?).map (·.type) = some ti) (hi : P.underlying ti = some (.interface ms)) : ∃ t x, W.cell? ⟨g, 0, none⟩ = some (.iface t x) := by
  obtain ⟨ps, ⟨g', t', cs, fuel, p, q, hg', ht', hvar, hd, _, _⟩, _⟩ := h
  obtain rfl := Option.some.inj (hg.symm.trans hg')
  obtain rfl := Option.some.inj (ht.symm.trans ht')
  obtain ⟨l⟩ := cs
  obtain ⟨f1, u, v, hl, _, _⟩ := iface_of_trod hi hd
  have hl : l = [.iface u v] := hl
  subst hl
  exact ⟨u, v, by simpa using World.var?_cell hg hvar 0⟩
/-- The list of the rows. -/
def lay : List (String × DataW Unit) := [("math/bits.deBruijn32tab", Rows.laid_math_bits_deBruijn32tab), ("math/bits.deBruijn64tab", Rows.laid_math_bits_deBruijn64tab), ("internal/strconv.uint64pow10", Rows.laid_internal_strconv_uint64pow10), ("strconv.ErrRange", Rows.laid_strconv_ErrRange), ("strconv.ErrSyntax", Rows.laid_strconv_ErrSyntax)]
theorem lay_met {W : World} (h : laidMetH Tryd.prog lay W) : laidMet Tryd.prog lay W := h
theorem gn32 : Tryd.prog.globalNamed "math/bits.deBruijn32tab" = some 4 := by kernel_rfl
theorem gn64 : Tryd.prog.globalNamed "math/bits.deBruijn64tab" = some 5 := by kernel_rfl
theorem gn10 : Tryd.prog.globalNamed "internal/strconv.uint64pow10" = some 1 := by kernel_rfl
theorem gnR : Tryd.prog.globalNamed "strconv.ErrRange" = some 3 := by kernel_rfl
theorem gnS : Tryd.prog.globalNamed "strconv.ErrSyntax" = some 2 := by kernel_rfl
theorem gt32 : (Tryd.prog.globals[4]?).map (·.type) = some 136 := by kernel_rfl
theorem gt64 : (Tryd.prog.globals[5]?).map (·.type) = some 137 := by kernel_rfl
theorem gt10 : (Tryd.prog.globals[1]?).map (·.type) = some 117 := by kernel_rfl
theorem gtR : (Tryd.prog.globals[3]?).map (·.type) = some 80 := by kernel_rfl
theorem gtS : (Tryd.prog.globals[2]?).map (·.type) = some 80 := by kernel_rfl
theorem known_of {W : World} (hsh : W.ShapedOpen Tryd.prog) (hL : laidMetH Tryd.prog lay W) : (Cf.raw W).known := fun a ha => by
  have h0 := lay_met hL
  have h1 := h0.tail
  have h2 := h1.tail
  have h3 := h2.tail
  have h4 := h3.tail
  unfold glL at ha
  rcases List.mem_append.1 ha with ha | ha
  · simp only [List.mem_cons, List.not_mem_nil, or_false] at ha
    rcases ha with rfl | rfl | rfl
    · obtain ⟨m, hm⟩ := cell_of_shapedOpen_int (zero := #[.int .i64 0]) (t := 3) hsh (of_decide_eq_true (by kernel_rfl)) (by kernel_rfl) rfl (by kernel_rfl) (by kernel_rfl) Tryd.underlying3
      exact ⟨_, raw_rd hm, m, rfl⟩
    · obtain ⟨t, x, h⟩ := iface_known h4 gnS gtS Tryd.underlying80
      exact ⟨_, raw_rd h, t, x, rfl⟩
    · obtain ⟨t, x, h⟩ := iface_known h3 gnR gtR Tryd.underlying80
      exact ⟨_, raw_rd h, t, x, rfl⟩
  rcases List.mem_append.1 ha with ha | ha
  · exact tab_known gn64 (Lib.tabIs_of_head (zs := tab64) gn64 gt64 Tryd.underlying137 Tryd.underlying5 (by kernel_rfl) (by kernel_rfl) h1) a ha
  rcases List.mem_append.1 ha with ha | ha
  · exact tab_known gn32 (Lib.tabIs_of_head (zs := tab32) gn32 gt32 Tryd.underlying136 Tryd.underlying5 (by kernel_rfl) (by kernel_rfl) h0) a ha
  · exact tab_known gn10 (Lib.tabIs_of_head (zs := tab10) gn10 gt10 Tryd.underlying117 Tryd.underlying74 (by kernel_rfl) (by kernel_rfl) h2) a ha
/-! ### A world that holds them -/
noncomputable def low : Nat := (World.holding Tryd.prog default ⟨#[], #[], []⟩).heap.size
noncomputable def setG (g : Nat) (cs : Array Value) (h : Array Obj) : Array Obj := h.modify g fun
  | .cells _ t frozen => .cells cs t frozen
  | o => o
noncomputable def laidWorld (os : Os) : World :=
  let w0 := World.holding Tryd.prog os ⟨#[.cells #[.string ⟨#[118, 97, 108, 117, 101, 32, 111, 117, 116, 32, 111, 102, 32, 114, 97, 110, 103, 101]⟩] 140, .cells #[.string ⟨#[105, 110, 118, 97, 108, 105, 100, 32, 115, 121, 110, 116, 97, 120]⟩] 140], #[], []⟩
  { w0 with heap := setG 4 (tab32.map fun n => Value.int .u8 n).toArray (setG 5 (tab64.map fun n => Value.int .u8 n).toArray (setG 1 (tab10.map fun n => Value.int .u64 n).toArray
      (setG 3 #[.iface 138 (.pointer (some ⟨low, 0, none⟩))] (setG 2 #[.iface 138 (.pointer (some ⟨low + 1, 0, none⟩))] w0.heap)))) }
theorem laid_met (os : Os) (args : Array Value) : laidMet Tryd.prog lay ((laidWorld os).forCall (fun _ _ => 0) ⟨#[], args, []⟩).memory :=
  laidMet_of_run' 8 (by kernel_rfl) (by kernel_rfl)
end Go.Proofs.YtjilcaemoebloaaDoor
