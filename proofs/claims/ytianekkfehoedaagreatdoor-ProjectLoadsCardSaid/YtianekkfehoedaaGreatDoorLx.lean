/- What the listed package-level variables hold, said on trees; a world that holds them; what the arguments of the laws of chapter 47 read as. -/
import Derived.Test.YtianekkfehoedaaGreatDoorLo
import Derived.Test.YtianekkfehoedaaGreatDoorKB
import Derived.Test.YtianekkfehoedaaGreatDoorCards
import Derived.Test.YtianekkfehoedaaGreatDoorTie
import Derived.Lib.LaidTab
import Derived.Stop.LaidErr
import Derived.Deep.DeepHandedRow
import Derived.LaidLaws
namespace Go.Proofs.YtianekkfehoedaaGreatDoor
set_option linter.unusedSimpArgs false
set_option linter.unusedVariables false
set_option linter.unnecessarySimpa false
open Go.RowKit Go.ChangeShapes Go.WideShapes Go.WideMaps Go.WideElems
theorem tab_known {W : World} {g : Nat} {k : IntKind} {l : List Int} {name : String} (hg : Tryz.prog.globalNamed name = some g) (h : Lib.TabIs Tryz.prog W name k l) : ∀ a ∈ glT g k l, ∃ v : Value, (Cf.raw W).rd a.1 v ∧ a.2 v := fun a ha => by
  unfold glT at ha
  obtain ⟨i, hi, rfl⟩ := List.mem_map.1 ha
  exact ⟨_, raw_rd (h.cell hg i (List.mem_range.1 hi)), rfl⟩
theorem iface_known {P : Program} {W : World} {n nm : String} {d : DataW Unit} {r : List (String × DataW Unit)} {g : Nat} {ti : TypeId} {ms : Array (String × TypeId)} (h : laidMet P ((n, .iface nm d) :: r) W)
    (hg : P.globalNamed n = some g) (ht : (P.globals[g]?).map (·.type) = some ti) (hi : P.underlying ti = some (.interface ms)) : ∃ t x, W.cell? ⟨g, 0, none⟩ = some (.iface t x) := by
  obtain ⟨ps, ⟨g', t', cs, fuel, p, q, hg', ht', hvar, hd, _, _⟩, _⟩ := h
  obtain rfl := Option.some.inj (hg.symm.trans hg')
  obtain rfl := Option.some.inj (ht.symm.trans ht')
  obtain ⟨l⟩ := cs
  obtain ⟨f1, u, v, hl, _, _⟩ := iface_of_trod hi hd
  have hl : l = [.iface u v] := hl
  subst hl
  exact ⟨u, v, by simpa using World.var?_cell hg hvar 0⟩
/-- The list of the rows. -/
def lay : List (String × DataW Unit) := [("math/bits.deBruijn32tab", Rows.laid_math_bits_deBruijn32tab), ("math/bits.deBruijn64tab", Rows.laid_math_bits_deBruijn64tab), ("internal/strconv.uint64pow10", Rows.laid_internal_strconv_uint64pow10), ("strconv.ErrRange", Rows.laid_strconv_ErrRange), ("strconv.ErrSyntax", Rows.laid_strconv_ErrSyntax)]
theorem lay_met {W : World} (h : laidMetH Tryz.prog lay W) : laidMet Tryz.prog lay W := h
theorem gn32 : Tryz.prog.globalNamed "math/bits.deBruijn32tab" = some 3 := by kernel_rfl
theorem gn64 : Tryz.prog.globalNamed "math/bits.deBruijn64tab" = some 4 := by kernel_rfl
theorem gn10 : Tryz.prog.globalNamed "internal/strconv.uint64pow10" = some 2 := by kernel_rfl
theorem gnR : Tryz.prog.globalNamed "strconv.ErrRange" = some 1 := by kernel_rfl
theorem gnS : Tryz.prog.globalNamed "strconv.ErrSyntax" = some 0 := by kernel_rfl
theorem gt32 : (Tryz.prog.globals[3]?).map (·.type) = some 169 := by kernel_rfl
theorem gt64 : (Tryz.prog.globals[4]?).map (·.type) = some 170 := by kernel_rfl
theorem gt10 : (Tryz.prog.globals[2]?).map (·.type) = some 165 := by kernel_rfl
theorem gtR : (Tryz.prog.globals[1]?).map (·.type) = some 128 := by kernel_rfl
theorem gtS : (Tryz.prog.globals[0]?).map (·.type) = some 128 := by kernel_rfl
theorem known_of {W : World} (hsh : W.ShapedOpen Tryz.prog) (hL : laidMetH Tryz.prog lay W) : (Cf.raw W).known := by
  refine ⟨fun a ha => ?_, fun a ha i hi => (by cases hi), fun p hp => ?_⟩
  rotate_left
  · obtain rfl := List.mem_singleton.1 hp
    have h2 := ((lay_met hL).tail).tail
    have := Lib.tabIs_of_head (zs := tab10) gn10 gt10 Tryz.underlying165 Tryz.underlying146 (by kernel_rfl) (by kernel_rfl) h2
    unfold Lib.TabIs World.var? at this
    rw [gn10] at this
    have this : (match W.heap[2]? with | some (Obj.cells cs _ _) => some cs | _ => none) = some (tab10.map fun z => Value.int .u64 z).toArray := this
    split at this
    · rename_i cs t fz hh
      cases this
      exact ⟨_, t, fz, hh, rfl⟩
    · cases this
  have h0 := lay_met hL
  have h1 := h0.tail
  have h2 := h1.tail
  have h3 := h2.tail
  have h4 := h3.tail
  unfold glL at ha
  rcases List.mem_append.1 ha with ha | ha
  · simp only [List.mem_cons, List.not_mem_nil, or_false] at ha
    rcases ha with rfl | rfl
    · obtain ⟨t, x, h⟩ := iface_known h4 gnS gtS Tryz.underlying128
      exact ⟨_, raw_rd h, t, x, rfl⟩
    · obtain ⟨t, x, h⟩ := iface_known h3 gnR gtR Tryz.underlying128
      exact ⟨_, raw_rd h, t, x, rfl⟩
  rcases List.mem_append.1 ha with ha | ha
  · exact tab_known gn64 (Lib.tabIs_of_head (zs := tab64) gn64 gt64 Tryz.underlying170 Tryz.underlying5 (by kernel_rfl) (by kernel_rfl) h1) a ha
  rcases List.mem_append.1 ha with ha | ha
  · exact tab_known gn32 (Lib.tabIs_of_head (zs := tab32) gn32 gt32 Tryz.underlying169 Tryz.underlying5 (by kernel_rfl) (by kernel_rfl) h0) a ha
  · exact tab_known gn10 (Lib.tabIs_of_head (zs := tab10) gn10 gt10 Tryz.underlying165 Tryz.underlying146 (by kernel_rfl) (by kernel_rfl) h2) a ha
noncomputable def low : Nat := (World.holding Tryz.prog default ⟨#[], #[], []⟩).heap.size
noncomputable def setG (g : Nat) (cs : Array Value) (h : Array Obj) : Array Obj := h.modify g fun
  | .cells _ t frozen => .cells cs t frozen
  | o => o
noncomputable def laidWorld (os : Os) : World :=
  let w0 := World.holding Tryz.prog os ⟨#[.cells #[.string ⟨#[118, 97, 108, 117, 101, 32, 111, 117, 116, 32, 111, 102, 32, 114, 97, 110, 103, 101]⟩] 162, .cells #[.string ⟨#[105, 110, 118, 97, 108, 105, 100, 32, 115, 121, 110, 116, 97, 120]⟩] 162], #[], []⟩
  { w0 with heap := setG 3 (tab32.map fun n => Value.int .u8 n).toArray (setG 4 (tab64.map fun n => Value.int .u8 n).toArray (setG 2 (tab10.map fun n => Value.int .u64 n).toArray
      (setG 1 #[.iface 160 (.pointer (some ⟨low, 0, none⟩))] (setG 0 #[.iface 160 (.pointer (some ⟨low + 1, 0, none⟩))] w0.heap)))) }
theorem laid_met (os : Os) (args : Array Value) : laidMet Tryz.prog lay ((laidWorld os).forCall (fun _ _ => 0) ⟨#[], args, []⟩).memory :=
  laidMet_of_run' 8 (by kernel_rfl) (by kernel_rfl)
theorem G_u8 : inOf Tryz.prog 5 = some .u8 := by kernel_rfl
theorem U8_lt {n : Int} (h : IntKind.u8.min ≤ n ∧ n ≤ IntKind.u8.max) : 0 ≤ n ∧ n < 256 := by
  have h1 : IntKind.u8.min = 0 := by kernel_rfl
  have h2 : IntKind.u8.max = 255 := by kernel_rfl
  omega
theorem u8_of {n : Int} (h : IntKind.u8.min ≤ n ∧ n ≤ IntKind.u8.max) : ∃ b : UInt8, ((b.toNat : Nat) : Int) = n := by
  have h2 := U8_lt h
  exact ⟨UInt8.ofNat n.toNat, by rw [UInt8.toNat_ofNat']; omega⟩
variable {H : Type}
theorem G_byL : elOf Tryz.prog 22 = some 5 := by kernel_rfl
theorem rd_u8 {d : DataW H} (hd : Rd Tryz.prog 5 d) : ∃ c : UInt8, dV d = byB c ∧ True := by
  obtain ⟨n, rfl, f⟩ := hd.int_inv G_u8
  obtain ⟨b, k⟩ := u8_of f
  exact ⟨b, by simp only [dV]; rw [← k]; rfl, trivial⟩
theorem rd_by {d : DataW H} (hd : Rd Tryz.prog 22 d) : ∃ l : Bs, dV d = .sl (l.map byB) .ro ∧ l.length ≤ Rows.uptoBulk d := by
  obtain ⟨l, h1, h2, _⟩ := slice_of (G := byB) (Q := fun _ => True) hd G_byL fun x _ hr => rd_u8 hr
  exact ⟨l, h1, h2⟩
end Go.Proofs.YtianekkfehoedaaGreatDoor
