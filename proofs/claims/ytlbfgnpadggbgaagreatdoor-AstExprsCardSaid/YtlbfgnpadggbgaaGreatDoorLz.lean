/- What the listed package-level variables hold, said on trees; a world that holds them; what the arguments of the laws of chapter 38 read as. -/
import Derived.Test.YtlbfgnpadggbgaaGreatDoorLo
import Derived.Test.YtlbfgnpadggbgaaGreatDoorCards
import Derived.Test.YtlbfgnpadggbgaaGreatDoorTie
import Derived.Lib.LaidTab
import Derived.Stop.LaidErr
import Derived.Deep.DeepHandedRow
import Derived.LaidLaws
namespace Go.Proofs.YtlbfgnpadggbgaaGreatDoor
set_option linter.unusedSimpArgs false
set_option linter.unusedVariables false
set_option linter.unnecessarySimpa false
open Go.RowKit Go.ChangeShapes Go.WideShapes Go.WideMaps Go.WideElems
theorem tab_known {W : World} {g : Nat} {k : IntKind} {l : List Int} {name : String} (hg : Tryz.prog.globalNamed name = some g) (h : Lib.TabIs Tryz.prog W name k l) : ∀ a ∈ glT g k l, ∃ v : Value, (Cf.raw W).rd a.1 v ∧ a.2 v := fun a ha => by
  unfold glT at ha
  obtain ⟨i, hi, rfl⟩ := List.mem_map.1 ha
  exact ⟨_, raw_rd (h.cell hg i (List.mem_range.1 hi)), rfl⟩
theorem tab_size {W : World} {g : Nat} {k : IntKind} {l : List Int} {name : String} (hg : Tryz.prog.globalNamed name = some g) (h : Lib.TabIs Tryz.prog W name k l) : ∃ cs t fz, W.heap[g]? = some (Obj.cells cs t fz) ∧ cs.size = l.length := by
  unfold Lib.TabIs World.var? at h
  rw [hg] at h
  have h : (match W.heap[g]? with | some (Obj.cells cs _ _) => some cs | _ => none) = some (l.map fun z => Value.int k z).toArray := h
  split at h
  · rename_i cs t fz hh
    cases h
    exact ⟨_, t, fz, hh, by simp⟩
  · cases h
/-- The list of the rows. -/
def lay : List (String × DataW Unit) := [("math/bits.deBruijn32tab", Rows.laid_math_bits_deBruijn32tab), ("math/bits.deBruijn64tab", Rows.laid_math_bits_deBruijn64tab), ("internal/strconv.uint64pow10", Rows.laid_internal_strconv_uint64pow10), ("unicode.White_Space", Rows.laid_unicode_White_Space), ("strings.asciiSpace", Rows.laid_strings_asciiSpace)]
theorem lay_met {W : World} (h : laidMetH Tryz.prog lay W) : laidMet Tryz.prog lay W := h
theorem gn32 : Tryz.prog.globalNamed "math/bits.deBruijn32tab" = some 4 := by kernel_rfl
theorem gn64 : Tryz.prog.globalNamed "math/bits.deBruijn64tab" = some 5 := by kernel_rfl
theorem gn10 : Tryz.prog.globalNamed "internal/strconv.uint64pow10" = some 3 := by kernel_rfl
theorem gnSp : Tryz.prog.globalNamed "strings.asciiSpace" = some 0 := by kernel_rfl
theorem gt32 : (Tryz.prog.globals[4]?).map (·.type) = some 171 := by kernel_rfl
theorem gt64 : (Tryz.prog.globals[5]?).map (·.type) = some 172 := by kernel_rfl
theorem gt10 : (Tryz.prog.globals[3]?).map (·.type) = some 164 := by kernel_rfl
theorem gtSp : (Tryz.prog.globals[0]?).map (·.type) = some 91 := by kernel_rfl
set_option maxRecDepth 100000 in
theorem known_of {W : World} (hsh : W.ShapedOpen Tryz.prog) (hL : laidMetH Tryz.prog lay W) : (Cf.raw W).known := by
  have h0 := lay_met hL
  have h1 := h0.tail
  have h2 := h1.tail
  have h3 := h2.tail
  have h4 := h3.tail
  have t10 := Lib.tabIs_of_head (zs := tab10) gn10 gt10 Tryz.underlying164 Tryz.underlying99 (by kernel_rfl) (by kernel_rfl) h2
  have tSp := Lib.tabIs_of_head (zs := tabSp) gnSp gtSp Tryz.underlying91 Tryz.underlying5 (by kernel_rfl) (by kernel_rfl) h4
  refine ⟨fun a ha => ?_, fun a ha i hi => (by cases hi), fun p hp => ?_⟩
  rotate_left
  · rcases List.mem_cons.1 hp with rfl | hp
    · obtain ⟨cs, t, fz, k1, k2⟩ := tab_size gnSp tSp
      exact ⟨cs, t, fz, k1, k2.trans (by kernel_rfl)⟩
    · obtain rfl := List.mem_singleton.1 hp
      obtain ⟨cs, t, fz, k1, k2⟩ := tab_size gn10 t10
      exact ⟨cs, t, fz, k1, k2.trans (by kernel_rfl)⟩
  unfold glL at ha
  rcases List.mem_append.1 ha with ha | ha
  · obtain rfl := List.mem_singleton.1 ha
    obtain ⟨m, hm⟩ := cell_of_shapedOpen_int (zero := #[.int .i64 0]) (t := 3) hsh (of_decide_eq_true (by kernel_rfl)) (by kernel_rfl) rfl (by kernel_rfl) (by kernel_rfl) Tryz.underlying3
    exact ⟨_, raw_rd hm, m, rfl⟩
  rcases List.mem_append.1 ha with ha | ha
  · exact tab_known gn64 (Lib.tabIs_of_head (zs := tab64) gn64 gt64 Tryz.underlying172 Tryz.underlying5 (by kernel_rfl) (by kernel_rfl) h1) a ha
  rcases List.mem_append.1 ha with ha | ha
  · exact tab_known gn32 (Lib.tabIs_of_head (zs := tab32) gn32 gt32 Tryz.underlying171 Tryz.underlying5 (by kernel_rfl) (by kernel_rfl) h0) a ha
  rcases List.mem_append.1 ha with ha | ha
  · exact tab_known gn10 t10 a ha
  · exact tab_known gnSp tSp a ha
/-! ### A world that holds them -/
noncomputable def low : Nat := (World.holding Tryz.prog default ⟨#[], #[], []⟩).heap.size
noncomputable def setG (g : Nat) (cs : Array Value) (h : Array Obj) : Array Obj := h.modify g fun
  | .cells _ t frozen => .cells cs t frozen
  | o => o
def spTab : List Int := [9, 13, 1, 32, 133, 101, 160, 5760, 5600, 8192, 8202, 1, 8232, 8233, 1, 8239, 8287, 48, 12288, 12288, 1]
noncomputable def laidWorld (os : Os) : World :=
  let w0 := World.holding Tryz.prog os ⟨#[.cells #[.slice (some ⟨low + 1, 0, none⟩) 7 7, .slice none 0 0, .int .i64 2] 137, .cells (spTab.map fun n => Value.int .u16 n).toArray 140], #[], []⟩
  { w0 with heap := setG 4 (tab32.map fun n => Value.int .u8 n).toArray (setG 5 (tab64.map fun n => Value.int .u8 n).toArray (setG 3 (tab10.map fun n => Value.int .u64 n).toArray
      (setG 1 #[.pointer (some ⟨low, 0, none⟩)] (setG 0 (tabSp.map fun n => Value.int .u8 n).toArray w0.heap)))) }
theorem laid_met (os : Os) (args : Array Value) : laidMet Tryz.prog lay ((laidWorld os).forCall (fun _ _ => 0) ⟨#[], args, []⟩).memory :=
  laidMet_of_run' 8 (by kernel_rfl) (by kernel_rfl)
variable {H : Type}
theorem fit_mk' {o k s c : Int} {es fs : List Ty} (h0 : I64 o ∧ I64 k ∧ I64 s ∧ I64 c) (h1 : es.length ≤ 4194304) (h2 : fs.length ≤ 4194304) (h3 : ∀ t ∈ es, fit t) (h4 : ∀ t ∈ fs, fit t) : fit (.mk o k s c es fs) := by
  have e : fitB (.mk o k s c es fs) = _ := Ty.para_mk _ o k s c es fs
  show fitB (.mk o k s c es fs) = true
  rw [e]
  simp only [Bool.and_eq_true, decide_eq_true_eq, Ty.off, Ty.kind, Ty.size, Ty.count, Ty.elem, Ty.fields, List.all_map, List.all_eq_true]
  exact ⟨⟨⟨⟨decide_eq_true h0, decide_eq_true h1⟩, decide_eq_true h2⟩, h3⟩, h4⟩

theorem G_ty : ftOf Tryz.prog 63 = some [3, 3, 3, 60, 61] := by kernel_rfl
theorem G_fd : ftOf Tryz.prog 123 = some [3, 63] := by kernel_rfl
theorem G_tyL : elOf Tryz.prog 60 = some 63 := by kernel_rfl
theorem G_fdL : elOf Tryz.prog 61 = some 123 := by kernel_rfl
theorem G_int : inOf Tryz.prog 3 = some .i64 := by kernel_rfl
theorem I64_of {n : Int} (h : IntKind.i64.min ≤ n ∧ n ≤ IntKind.i64.max) : I64 n := h
/-- A datum of the type api.Type is a type. -/
theorem rd_ty : ∀ (N : Nat) (d : DataW H), Rows.uptoBulk d ≤ N → N ≤ 4194304 → Rd Tryz.prog 63 d → ∃ t : Ty, dV d = tyV t ∧ fit t ∧ t.off = 0 := by
  intro N
  induction N using Nat.strongRecOn with
  | _ N ih =>
    intro d hb hN hd
    obtain ⟨ps, rfl, hps⟩ := hd.agg_inv G_ty
    match ps, hps with
    | [d1, d2, d3, d4, d5], ⟨h1, h2, h3, h4, h5, _⟩ =>
      obtain ⟨k, rfl, hk⟩ := h1.int_inv G_int
      obtain ⟨s, rfl, hs⟩ := h2.int_inv G_int
      obtain ⟨c, rfl, hc⟩ := h3.int_inv G_int
      simp only [Rows.uptoBulk, Rows.uptoBulkAll] at hb
      obtain ⟨es, e1, e2, e3⟩ := slice_of (G := tyV) (Q := fit) h4 G_tyL fun x hx hr => by
        obtain ⟨t, q1, q2, _⟩ := ih (Rows.uptoBulk x) (by omega) x (Nat.le_refl _) (by omega) hr
        exact ⟨t, q1, q2⟩
      obtain ⟨fs, f1, f2, f3⟩ := slice_of (G := fdV) (Q := fit) h5 G_fdL fun x hx hr => by
        obtain ⟨qs, rfl, hqs⟩ := hr.agg_inv G_fd
        match qs, hqs with
        | [x1, x2], ⟨r1, r2, _⟩ =>
          obtain ⟨o, rfl, ho⟩ := r1.int_inv G_int
          simp only [Rows.uptoBulk, Rows.uptoBulkAll] at hx
          obtain ⟨t, q1, q2, _⟩ := ih (Rows.uptoBulk x2) (by omega) x2 (Nat.le_refl _) (by omega) r2
          refine ⟨.mk o t.kind t.size t.count t.elem t.fields, ?_, ?_⟩
          · simp only [dV, dVF, q1, tyV_eq, fdV_eq, V.cells, List.append_nil, List.cons_append, List.nil_append, Ty.off, Ty.kind, Ty.size, Ty.count, Ty.elem, Ty.fields]
          · cases t with
            | mk o' k s c es fs => exact fit_mk' ⟨I64_of ho, (fit_num q2).2⟩ (fit_mk q2).1 (fit_mk q2).2.1 (fit_mk q2).2.2.1 (fit_mk q2).2.2.2
      refine ⟨.mk 0 k s c es fs, ?_, fit_mk' ⟨by unfold I64; omega, I64_of hk, I64_of hs, I64_of hc⟩ (by omega) (by omega) e3 f3, rfl⟩
      simp only [dV, dVF, e1, f1, tyV_mk, V.cells, List.append_nil, List.cons_append, List.nil_append]

theorem G_ex : ftOf Tryz.prog 25 = some [3, 22, 9, 3, 23] := by kernel_rfl
theorem G_va : ftOf Tryz.prog 66 = some [9, 63] := by kernel_rfl
theorem G_exL : elOf Tryz.prog 23 = some 25 := by kernel_rfl
theorem G_vaL : elOf Tryz.prog 26 = some 66 := by kernel_rfl
theorem G_u32 : inOf Tryz.prog 22 = some .u32 := by kernel_rfl
theorem U32_of {n : Int} (h : IntKind.u32.min ≤ n ∧ n ≤ IntKind.u32.max) : 0 ≤ n ∧ n ≤ 4294967295 := h
theorem dV_str (s : ByteArray) : dV (H := H) (.lit (.string s.data.toList)) = .im (.string s) := by
  cases s; simp [dV]
theorem fitE_mk' {o n : Int} {s : ByteArray} {w : Int} {l : List Ex} (h0 : I64 o ∧ (0 ≤ n ∧ n ≤ 4294967295) ∧ I64 w) (h1 : l.length ≤ 4194304) (h2 : s.size ≤ 9223372036854775807) (h3 : ∀ t ∈ l, fitE t) : fitE (.mk o n s w l) := by
  have e : fitEB (.mk o n s w l) = _ := Ex.para_mk _ o n s w l
  show fitEB (.mk o n s w l) = true
  rw [e]
  simp only [Bool.and_eq_true, Ex.op, Ex.n, Ex.name, Ex.width, Ex.l, List.all_map, List.all_eq_true]
  exact ⟨⟨⟨decide_eq_true h0, decide_eq_true h1⟩, decide_eq_true h2⟩, h3⟩
/-- A datum of the type api.CExpr is an expression. -/
theorem rd_ex : ∀ (N : Nat) (d : DataW H), Rows.uptoBulk d ≤ N → N ≤ 4194304 → Rd Tryz.prog 25 d → ∃ t : Ex, dV d = exV t ∧ fitE t := by
  intro N
  induction N using Nat.strongRecOn with
  | _ N ih =>
    intro d hb hN hd
    obtain ⟨ps, rfl, hps⟩ := hd.agg_inv G_ex
    match ps, hps with
    | [d1, d2, d3, d4, d5], ⟨h1, h2, h3, h4, h5, _⟩ =>
      obtain ⟨o, rfl, ho⟩ := h1.int_inv G_int
      obtain ⟨n, rfl, hn⟩ := h2.int_inv G_u32
      obtain ⟨s, rfl, hs⟩ := h3.string_inv Tryz.underlying9
      obtain ⟨w, rfl, hw⟩ := h4.int_inv G_int
      simp only [Rows.uptoBulk, Rows.uptoBulkAll] at hb
      obtain ⟨l, e1, e2, e3⟩ := slice_of (G := exV) (Q := fitE) h5 G_exL fun x hx hr => ih (Rows.uptoBulk x) (by omega) x (Nat.le_refl _) (by omega) hr
      refine ⟨.mk o n s w l, ?_, fitE_mk' ⟨I64_of ho, U32_of hn, I64_of hw⟩ (by omega) (Nat.le_trans hs (by decide)) e3⟩
      simp only [dV, dVF, e1, exV_mk, V.cells, List.append_nil, List.cons_append, List.nil_append]
/-- A datum of the type api.Var is a variable. -/
theorem rd_va (d : DataW H) (hb : Rows.uptoBulk d ≤ 4194304) (hd : Rd Tryz.prog 66 d) : ∃ v : Va, dV d = vaV v ∧ fit v.ty := by
  obtain ⟨ps, rfl, hps⟩ := hd.agg_inv G_va
  match ps, hps with
  | [d1, d2], ⟨h1, h2, _⟩ =>
    obtain ⟨s, rfl, hs⟩ := h1.string_inv Tryz.underlying9
    simp only [Rows.uptoBulk, Rows.uptoBulkAll] at hb
    obtain ⟨t, e1, e2, _⟩ := rd_ty _ d2 (Nat.le_refl _) (by omega) h2
    refine ⟨⟨s, t⟩, ?_, e2⟩
    simp only [dV, dVF, e1, tyV_eq, vaV_eq, V.cells, List.append_nil, List.cons_append, List.nil_append]
theorem rd_vs (d : DataW H) (hb : Rows.uptoBulk d ≤ 4194304) (hd : Rd Tryz.prog 26 d) : ∃ vs : List Va, dV d = .sl (vs.map vaV) .ro ∧ fitV vs := by
  obtain ⟨l, e1, e2, e3⟩ := slice_of (G := vaV) (Q := fun v : Va => fit v.ty) hd G_vaL fun x hx hr => rd_va x (by omega) hr
  exact ⟨l, e1, by omega, e3⟩
end Go.Proofs.YtlbfgnpadggbgaaGreatDoor
