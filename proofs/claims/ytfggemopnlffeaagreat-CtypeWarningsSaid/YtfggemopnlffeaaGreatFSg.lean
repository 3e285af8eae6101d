/- CtypeWarnings: decompilerlaw41.CtypeWarnings returns true for every input (each string and slice of it within the form's own reach), and what came in reads as it did. Proved by walking through the code on trees of values. -/
import Derived.Test.YtfggemopnlffeaaGreatLf
import Derived.Test.YtfggemopnlffeaaGreatD9
import Derived.Test.YtfggemopnlffeaaGreatOu
import Derived.JoinedCond
namespace Go.Proofs.YtfggemopnlffeaaGreat
open Go.RowKit
section
variable {H : Type} {P : Program}
def Wt (P : Program) (t : TypeId) (d : DataW H) : Prop := ∀ n ∈ d.weights P t, n ≤ reachBytes
def WtL (P : Program) : List TypeId → List (DataW H) → Prop
  | t :: ts, x :: xs => Wt P t x ∧ WtL P ts xs
  | _, _ => True
theorem WtL_of : ∀ {ts : List TypeId} {ds : List (DataW H)}, (∀ n ∈ DataW.weightsEach P ts ds, n ≤ reachBytes) → WtL P ts ds
  | t :: ts, x :: xs, h => ⟨fun n hn => h n (by simp only [DataW.weightsEach]; exact List.mem_append_left _ hn), WtL_of fun n hn => h n (by simp only [DataW.weightsEach]; exact List.mem_append_right _ hn)⟩
  | [], _, _ => by simp only [WtL]
  | _ :: _, [], _ => by simp only [WtL]
theorem WtL_all {ts : List TypeId} {ds : List (DataW H)} (h : (DataW.weightsEach P ts ds).all (· ≤ reachBytes) = true) : WtL P ts ds :=
  WtL_of fun n hn => of_decide_eq_true (List.all_eq_true.1 h n hn)
theorem Wt.agg {t : TypeId} {ts : List TypeId} {ps : List (DataW H)} (h : Wt P t (.agg ps)) (ht : ftOf P t = some ts) : WtL P ts ps := by
  refine WtL_of fun n hn => h n ?_
  unfold ftOf at ht
  simp only [DataW.weights]
  cases hu : P.underlying t with
  | none => rw [hu] at ht; cases ht
  | some u =>
    rw [hu] at ht
    cases u with
    | struct fs => cases ht; exact hn
    | _ => cases ht
theorem wAll {e : TypeId} {x : DataW H} {n : Nat} : ∀ {es : List (DataW H)}, x ∈ es → n ∈ x.weights P e → n ∈ DataW.weightsAll P e es
  | y :: r, h, hn => by
    simp only [DataW.weightsAll]
    rcases List.mem_cons.1 h with rfl | h
    · exact List.mem_append_left _ hn
    · exact List.mem_append_right _ (wAll h hn)
theorem Wt.slice {t e : TypeId} {es sp : List (DataW H)} (h : Wt P t (.slice es sp)) (ht : elOf P t = some e) (hz : decide (1 ≤ P.bytesOf e) = true) : es.length ≤ 140737488355328 ∧ ∀ x ∈ es, Wt P e x := by
  have hz := of_decide_eq_true hz
  have hw : ∀ n, n ∈ (es.length + sp.length) * P.bytesOf e :: (DataW.weightsAll P e es ++ DataW.weightsAll P e sp) → n ≤ reachBytes := fun n hn => h n (by
    unfold elOf at ht
    simp only [DataW.weights]
    cases hu : P.underlying t with
    | none => rw [hu] at ht; cases ht
    | some u =>
      rw [hu] at ht
      cases u with
      | slice e' => cases ht; exact hn
      | _ => cases ht)
  constructor
  · have h1 := hw _ (List.mem_cons_self ..)
    have h2 : es.length + sp.length ≤ (es.length + sp.length) * P.bytesOf e := Nat.le_mul_of_pos_right _ hz
    have h3 : reachBytes = 140737488351232 := rfl
    omega
  · exact fun x hx n hn => hw n (List.mem_cons_of_mem _ (List.mem_append_left _ (wAll hx hn)))
theorem slice_ofW {α : Type} {G : α → V} {Q : α → Prop} {d : DataW H} {t e : TypeId} (hd : Rd P t d) (hw : Wt P t d) (ht : elOf P t = some e) (hz : decide (1 ≤ P.bytesOf e) = true)
    (h : ∀ x : DataW H, Rows.uptoBulk x < Rows.uptoBulk d → Rd P e x → Wt P e x → ∃ a, dV x = G a ∧ Q a) : ∃ l : List α, dV d = .sl (l.map G) .ro ∧ l.length ≤ 140737488355328 ∧ ∀ a ∈ l, Q a := by
  rcases hd.slice_inv ht with rfl | ⟨es, sp, rfl, hes⟩
  · exact ⟨[], by simp [dV], by simp, fun a ha => by cases ha⟩
  · have h0 := bulk_sl es sp
    obtain ⟨w1, w2⟩ := hw.slice ht hz
    obtain ⟨l, h1, h2, h3⟩ := list_of (G := G) (Q := Q) (es := es) fun x hx => h x (by have := bulk_mem hx; omega) (hes x hx) (w2 x hx)
    exact ⟨l, by simp [dV, h1], by omega, h3⟩
end
inductive FitW : Ty → Prop
  | mk {o k s c : Int} {es fs : List Ty} (h0 : I64 o ∧ I64 k ∧ I64 s ∧ I64 c) (h1 : es.length ≤ 140737488355328) (h2 : fs.length ≤ 140737488355328) (h3 : ∀ t ∈ es, FitW t) (h4 : ∀ t ∈ fs, FitW t) : FitW (.mk o k s c es fs)
theorem FitW.inv {o k s c : Int} {es fs : List Ty} (h : FitW (.mk o k s c es fs)) : (I64 o ∧ I64 k ∧ I64 s ∧ I64 c) ∧ es.length ≤ 140737488355328 ∧ fs.length ≤ 140737488355328 ∧ (∀ t ∈ es, FitW t) ∧ ∀ t ∈ fs, FitW t := by
  cases h with
  | mk h0 h1 h2 h3 h4 => exact ⟨h0, h1, h2, h3, h4⟩
inductive FitEW : Ex → Prop
  | mk {o n : Int} {s : ByteArray} {w : Int} {l : List Ex} (h0 : I64 o ∧ (0 ≤ n ∧ n ≤ 4294967295) ∧ I64 w) (h1 : l.length ≤ 140737488355328) (h2 : s.size ≤ 9223372036854775807) (h3 : ∀ t ∈ l, FitEW t) : FitEW (.mk o n s w l)
theorem FitEW.inv {o n : Int} {s : ByteArray} {w : Int} {l : List Ex} (h : FitEW (.mk o n s w l)) : (I64 o ∧ (0 ≤ n ∧ n ≤ 4294967295) ∧ I64 w) ∧ l.length ≤ 140737488355328 ∧ s.size ≤ 9223372036854775807 ∧ ∀ t ∈ l, FitEW t := by
  cases h with
  | mk h0 h1 h2 h3 => exact ⟨h0, h1, h2, h3⟩
inductive FitNW : Nd → Prop
  | mk {k w : Int} {n : ByteArray} {e : List Ex} {l el : List Nd} {cs : List (List Nd)} (h1 : I64 k ∧ I64 w) (h2 : n.size ≤ 9223372036854775807) (h3 : e.length ≤ 140737488355328 ∧ l.length ≤ 140737488355328 ∧ el.length ≤ 140737488355328 ∧ cs.length ≤ 140737488355328)
    (h4 : ∀ x ∈ e, FitEW x) (h5 : ∀ t ∈ l, FitNW t) (h6 : ∀ t ∈ el, FitNW t) (h7 : ∀ c ∈ cs, c.length ≤ 140737488355328) (h8 : ∀ c ∈ cs, ∀ t ∈ c, FitNW t) : FitNW (.mk k w n e l el cs)
def FitNLW (l : List Nd) : Prop := l.length ≤ 140737488355328 ∧ ∀ t ∈ l, FitNW t
theorem fitNW_inv {t : Nd} (h : FitNW t) : (I64 t.kind ∧ I64 t.width) ∧ t.name.size ≤ 9223372036854775807 ∧ (t.e.length ≤ 140737488355328 ∧ ∀ x ∈ t.e, FitEW x) ∧ FitNLW t.l ∧ FitNLW t.el ∧ t.cs.length ≤ 140737488355328 ∧ ∀ c ∈ t.cs, FitNLW c := by
  cases h with
  | mk h1 h2 h3 h4 h5 h6 h7 h8 => exact ⟨h1, h2, ⟨h3.1, h4⟩, ⟨h3.2.1, h5⟩, ⟨h3.2.2.1, h6⟩, h3.2.2.2, fun c hc => ⟨h7 c hc, h8 c hc⟩⟩
def FitVNW (l : List Va) : Prop := ∀ v ∈ l, FitW v.ty ∧ v.name.size ≤ 9223372036854775807
def FitVW (l : List Va) : Prop := l.length ≤ 140737488355328 ∧ ∀ v ∈ l, FitW v.ty
structure FitFnW (f : Fun) : Prop where
  vl : f.vars.length ≤ 140737488355328
  vn : FitVNW f.vars
  bd : FitNLW f.body
  nm : f.name.size ≤ 9223372036854775807
structure FitUW (u : Un) : Prop where
  gl : u.globals.length ≤ 140737488355328
  gn : FitVNW u.globals
  dl : u.data.length ≤ 140737488355328
  dn : fitSec u.data
  fl : u.funcs.length ≤ 140737488355328
  fn : ∀ f ∈ u.funcs, FitFnW f
theorem rd_tyW {H : Type} : ∀ (N : Nat) (d : DataW H), Rows.uptoBulk d ≤ N → Rd Tryz.prog 41 d → Wt Tryz.prog 41 d → ∃ t : Ty, dV d = tyV t ∧ FitW t ∧ t.off = 0 := by
  intro N
  induction N using Nat.strongRecOn with
  | _ N ih =>
    intro d hb hd hw
    obtain ⟨ps, rfl, hps⟩ := hd.agg_inv G_ty
    have hq := hw.agg G_ty
    clear hw
    match ps, hps with
    | [d1, d2, d3, d4, d5], ⟨h1, h2, h3, h4, h5, _⟩ =>
      obtain ⟨_, _, _, w4, w5, _⟩ := hq
      obtain ⟨k, rfl, hk⟩ := h1.int_inv G_int
      obtain ⟨s, rfl, hs⟩ := h2.int_inv G_int
      obtain ⟨c, rfl, hc⟩ := h3.int_inv G_int
      simp only [Rows.uptoBulk, Rows.uptoBulkAll] at hb
      obtain ⟨es, e1, e2, e3⟩ := slice_ofW (G := tyV) (Q := FitW) h4 w4 G_tyL (by kernel_rfl) fun x hx hr hwx => by
        obtain ⟨t, q1, q2, _⟩ := ih (Rows.uptoBulk x) (by omega) x (Nat.le_refl _) hr hwx
        exact ⟨t, q1, q2⟩
      obtain ⟨fs, f1, f2, f3⟩ := slice_ofW (G := fdV) (Q := FitW) h5 w5 G_fdL (by kernel_rfl) fun x hx hr hwx => by
        obtain ⟨qs, rfl, hqs⟩ := hr.agg_inv G_fd
        have hqw := hwx.agg G_fd
        clear hwx
        match qs, hqs with
        | [x1, x2], ⟨r1, r2, _⟩ =>
          obtain ⟨_, v2, _⟩ := hqw
          obtain ⟨o, rfl, ho⟩ := r1.int_inv G_int
          simp only [Rows.uptoBulk, Rows.uptoBulkAll] at hx
          obtain ⟨t, q1, q2, _⟩ := ih (Rows.uptoBulk x2) (by omega) x2 (Nat.le_refl _) r2 v2
          refine ⟨.mk o t.kind t.size t.count t.elem t.fields, ?_, ?_⟩
          · simp only [dV, dVF, q1, tyV_eq, fdV_eq, V.cells, List.append_nil, List.cons_append, List.nil_append, Ty.off, Ty.kind, Ty.size, Ty.count, Ty.elem, Ty.fields]
          · cases t with
            | mk o' k s c es fs => exact .mk ⟨I64_of ho, q2.inv.1.2⟩ q2.inv.2.1 q2.inv.2.2.1 q2.inv.2.2.2.1 q2.inv.2.2.2.2
      refine ⟨.mk 0 k s c es fs, ?_, .mk ⟨by unfold I64; omega, I64_of hk, I64_of hs, I64_of hc⟩ e2 f2 e3 f3, rfl⟩
      simp only [dV, dVF, e1, f1, tyV_mk, V.cells, List.append_nil, List.cons_append, List.nil_append]
theorem rd_exW {H : Type} : ∀ (N : Nat) (d : DataW H), Rows.uptoBulk d ≤ N → Rd Tryz.prog 48 d → Wt Tryz.prog 48 d → ∃ t : Ex, dV d = exV t ∧ FitEW t := by
  intro N
  induction N using Nat.strongRecOn with
  | _ N ih =>
    intro d hb hd hw
    obtain ⟨ps, rfl, hps⟩ := hd.agg_inv G_ex
    have hq := hw.agg G_ex
    clear hw
    match ps, hps with
    | [d1, d2, d3, d4, d5], ⟨h1, h2, h3, h4, h5, _⟩ =>
      obtain ⟨_, _, _, _, w5, _⟩ := hq
      obtain ⟨o, rfl, ho⟩ := h1.int_inv G_int
      obtain ⟨n, rfl, hn⟩ := h2.int_inv G_u32
      obtain ⟨s, rfl, hs⟩ := h3.string_inv Tryz.underlying9
      obtain ⟨w, rfl, hw⟩ := h4.int_inv G_int
      simp only [Rows.uptoBulk, Rows.uptoBulkAll] at hb
      obtain ⟨l, e1, e2, e3⟩ := slice_ofW (G := exV) (Q := FitEW) h5 w5 G_exL (by kernel_rfl) fun x hx hr hwx => ih (Rows.uptoBulk x) (by omega) x (Nat.le_refl _) hr hwx
      refine ⟨.mk o n s w l, ?_, .mk ⟨I64_of ho, U32_of hn, I64_of hw⟩ e2 (Nat.le_trans hs (by decide)) e3⟩
      simp only [dV, dVF, e1, exV_mk, V.cells, List.append_nil, List.cons_append, List.nil_append]
theorem rd_ndW {H : Type} : ∀ (N : Nat) (d : DataW H), Rows.uptoBulk d ≤ N → Rd Tryz.prog 59 d → Wt Tryz.prog 59 d → ∃ t : Nd, dV d = ndV t ∧ FitNW t := by
  intro N
  induction N using Nat.strongRecOn with
  | _ N ih =>
    intro d hb hd hw
    obtain ⟨ps, rfl, hps⟩ := hd.agg_inv G_nd
    have hq := hw.agg G_nd
    clear hw
    match ps, hps with
    | [d1, d2, d3, d4, d5, d6, d7], ⟨h1, h2, h3, h4, h5, h6, h7, _⟩ =>
      obtain ⟨_, _, _, w4, w5, w6, w7, _⟩ := hq
      obtain ⟨k, rfl, hk⟩ := h1.int_inv G_int
      obtain ⟨w, rfl, hw⟩ := h2.int_inv G_int
      obtain ⟨s, rfl, hs⟩ := h3.string_inv Tryz.underlying9
      simp only [Rows.uptoBulk, Rows.uptoBulkAll] at hb
      have hL : ∀ x : DataW H, Rows.uptoBulk x < N → Rd Tryz.prog 35 x → Wt Tryz.prog 35 x → ∃ l : List Nd, dV x = .sl (l.map ndV) .ro ∧ FitNLW l := fun x hx hr hwx =>
        slice_ofW (G := ndV) (Q := FitNW) hr hwx G_ndL (by kernel_rfl) fun y hy hry hwy => ih (Rows.uptoBulk y) (by omega) y (Nat.le_refl _) hry hwy
      obtain ⟨es, e1, e2, e3⟩ := slice_ofW (G := exV) (Q := FitEW) h4 w4 G_exL (by kernel_rfl) fun x hx hr hwx => rd_exW _ x (Nat.le_refl _) hr hwx
      obtain ⟨l, l1, l2, l3⟩ := hL d5 (by omega) h5 w5
      obtain ⟨el, m1, m2, m3⟩ := hL d6 (by omega) h6 w6
      obtain ⟨cs, c1, c2, c3⟩ := slice_ofW (G := nlV) (Q := FitNLW) h7 w7 G_ndC (by kernel_rfl) fun x hx hr hwx => hL x (by omega) hr hwx
      refine ⟨.mk k w s es l el cs, ?_, .mk ⟨I64_of hk, I64_of hw⟩ (Nat.le_trans hs (by decide)) ⟨e2, l2, m2, c2⟩ e3 l3 m3 (fun c hc => (c3 c hc).1) fun c hc => (c3 c hc).2⟩
      simp only [dV, dVF, e1, l1, m1, c1, ndV_mk, V.cells, List.append_nil, List.cons_append, List.nil_append]
theorem rd_nlW {H : Type} (d : DataW H) (hd : Rd Tryz.prog 35 d) (hw : Wt Tryz.prog 35 d) : ∃ l : List Nd, dV d = .sl (l.map ndV) .ro ∧ FitNLW l :=
  slice_ofW (G := ndV) (Q := FitNW) hd hw G_ndL (by kernel_rfl) fun y hy hry hwy => rd_ndW _ y (Nat.le_refl _) hry hwy
theorem rd_vNW {H : Type} (d : DataW H) (hd : Rd Tryz.prog 22 d) (hw : Wt Tryz.prog 22 d) : ∃ vs : List Va, dV d = .sl (vs.map vaV) .ro ∧ vs.length ≤ 140737488355328 ∧ FitVNW vs :=
  slice_ofW (G := vaV) (Q := fun v : Va => FitW v.ty ∧ v.name.size ≤ 9223372036854775807) hd hw G_vaL (by kernel_rfl) fun x hx hr hwx => by
    obtain ⟨ps, rfl, hps⟩ := hr.agg_inv G_va
    have hq := hwx.agg G_va
    clear hwx
    match ps, hps with
    | [d1, d2], ⟨h1, h2, _⟩ =>
      obtain ⟨_, w2, _⟩ := hq
      obtain ⟨s, rfl, hs⟩ := h1.string_inv Tryz.underlying9
      obtain ⟨t, q1, q2, _⟩ := rd_tyW _ d2 (Nat.le_refl _) h2 w2
      refine ⟨⟨s, t⟩, ?_, q2, Nat.le_trans hs (by decide)⟩
      simp only [dV, dVF, q1, tyV_eq, vaV_eq, V.cells, List.append_nil, List.cons_append, List.nil_append]
theorem rd_fnW {H : Type} (d : DataW H) (hd : Rd Tryz.prog 37 d) (hw : Wt Tryz.prog 37 d) : ∃ f : Fun, dV d = fnV f ∧ FitFnW f := by
  obtain ⟨ps, rfl, hps⟩ := hd.agg_inv G_fn
  have hq := hw.agg G_fn
  clear hw
  match ps, hps with
  | [d1, d2, d3], ⟨h1, h2, h3, _⟩ =>
    obtain ⟨_, w2, w3, _⟩ := hq
    obtain ⟨s, rfl, hs⟩ := h1.string_inv Tryz.underlying9
    obtain ⟨vs, e1, e2, e3⟩ := rd_vNW d2 h2 w2
    obtain ⟨l, l1, l2⟩ := rd_nlW d3 h3 w3
    refine ⟨⟨s, vs, l⟩, ?_, ⟨e2, e3, l2, Nat.le_trans hs (by decide)⟩⟩
    simp only [dV, dVF, e1, l1, fnV, V.cells, List.append_nil, List.cons_append, List.nil_append]
theorem rd_scW {H : Type} (d : DataW H) (hd : Rd Tryz.prog 91 d) (hw : Wt Tryz.prog 91 d) : ∃ s : Sec, dV d = scV s ∧ s.name.size ≤ 9223372036854775807 ∧ (0 ≤ s.addr ∧ s.addr < 4294967296) ∧ s.data.length ≤ 140737488355328 := by
  obtain ⟨ps, rfl, hps⟩ := hd.agg_inv G_sc
  have hq := hw.agg G_sc
  clear hw
  match ps, hps with
  | [d1, d2, d3, d4, d5], ⟨h1, h2, h3, h4, h5, _⟩ =>
    obtain ⟨_, _, w3, _⟩ := hq
    obtain ⟨s, rfl, hs⟩ := h1.string_inv Tryz.underlying9
    obtain ⟨a, rfl, ha⟩ := h2.int_inv G_u32
    obtain ⟨w, rfl⟩ := h4.bool_inv Tryz.underlying4
    obtain ⟨x, rfl⟩ := h5.bool_inv Tryz.underlying4
    obtain ⟨l, e1, e2, _⟩ := slice_ofW (G := fun b : UInt8 => V.im (.int .u8 b.toNat)) (Q := fun _ => True) h3 w3 G_byL (by kernel_rfl) fun y _ hr _ => by
      obtain ⟨n, rfl, hn⟩ := hr.int_inv G_by
      have hn : 0 ≤ n ∧ n ≤ 255 := hn
      refine ⟨UInt8.ofNat n.toNat, ?_, trivial⟩
      simp only [dV, UInt8.toNat_ofNat']
      congr 2
      omega
    have ha := U32_of ha
    refine ⟨⟨s, a, l, w, x⟩, ?_, Nat.le_trans hs (by decide), ⟨ha.1, by show a < 4294967296; omega⟩, e2⟩
    simp only [dV, dVF, e1, scV, V.cells, List.append_nil, List.cons_append, List.nil_append]
theorem rd_unW {H : Type} (d : DataW H) (hd : Rd Tryz.prog 26 d) (hw : Wt Tryz.prog 26 d) : ∃ u : Un, dV d = unV u ∧ FitUW u ∧ ∀ s ∈ u.data, (0 ≤ s.addr ∧ s.addr < 4294967296) ∧ s.data.length ≤ 140737488355328 := by
  obtain ⟨ps, rfl, hps⟩ := hd.agg_inv G_un
  have hq := hw.agg G_un
  clear hw
  match ps, hps with
  | [d1, d2, d3], ⟨h1, h2, h3, _⟩ =>
    obtain ⟨w1, w2, w3, _⟩ := hq
    obtain ⟨vs, e1, e2, e3⟩ := rd_vNW d1 h1 w1
    obtain ⟨l, l1, l2, l3⟩ := slice_ofW (G := scV) (Q := fun s : Sec => s.name.size ≤ 9223372036854775807 ∧ (0 ≤ s.addr ∧ s.addr < 4294967296) ∧ s.data.length ≤ 140737488355328) h2 w2 G_scL (by kernel_rfl) fun x hx hr hwx => rd_scW x hr hwx
    obtain ⟨fs, f1, f2, f3⟩ := slice_ofW (G := fnV) (Q := FitFnW) h3 w3 G_fnL (by kernel_rfl) fun x hx hr hwx => rd_fnW x hr hwx
    refine ⟨⟨vs, l, fs⟩, ?_, ⟨e2, e3, l2, fun s hs => (l3 s hs).1, f2, f3⟩, fun s hs => (l3 s hs).2⟩
    simp only [dV, dVF, e1, l1, f1, unV, V.cells, List.append_nil, List.cons_append, List.nil_append]
theorem gfold_non {α : Type} {f : α → Int → Int} : ∀ (l : List α) {n : Int}, ¬ 0 < n → gfold f l n = n
  | [], _, _ => rfl
  | y :: r, n, h => by
    have e : gfold f (y :: r) n = gfold f r n := by
      unfold gfold
      rw [List.foldl_cons, if_neg h]
    rw [e]
    exact gfold_non r h
theorem gfold_cons {α : Type} {f : α → Int → Int} {y : α} {r : List α} {n : Int} (h : 0 < gfold f (y :: r) n) : 0 < n ∧ 0 < gfold f r (f y n) ∧ gfold f (y :: r) n = gfold f r (f y n) := by
  by_cases hn : 0 < n
  · have e : gfold f (y :: r) n = gfold f r (f y n) := by
      unfold gfold
      rw [List.foldl_cons, if_pos hn]
    exact ⟨hn, e ▸ h, e⟩
  · rw [gfold_non _ hn] at h
    exact absurd h hn
theorem gfold_mem {α : Type} {f : α → Int → Int} : ∀ {l : List α}, (∀ t ∈ l, ∀ n, 0 < n → f t n < n) → ∀ {n : Int}, 0 < gfold f l n → (l.length : Int) + gfold f l n ≤ n ∧ ∀ x ∈ l, ∃ m, m ≤ n ∧ 0 < f x m
  | [], _, n, h => ⟨by show ((0 : Nat) : Int) + n ≤ n; omega, fun x hx => by cases hx⟩
  | y :: r, hb, n, h => by
    obtain ⟨h1, h2, h3⟩ := gfold_cons h
    obtain ⟨i1, i2⟩ := gfold_mem (fun t ht => hb t (List.mem_cons_of_mem _ ht)) h2
    have hy := hb y (List.mem_cons_self ..) n h1
    refine ⟨by rw [h3, List.length_cons]; omega, fun x hx => ?_⟩
    rcases List.mem_cons.1 hx with rfl | hx
    · exact ⟨n, Int.le_refl _, by omega⟩
    · obtain ⟨m, m1, m2⟩ := i2 x hx
      exact ⟨m, by omega, m2⟩
theorem fit_lft : ∀ (t : Ty), FitW t → ∀ {n : Int}, 0 < lft t n → n ≤ 4194304 → fit t := by
  refine Ty.induct fun o k s c es fs hT hF => ?_
  intro hf n h hn
  obtain ⟨h0, h1, h2, h3, h4⟩ := hf.inv
  rw [lft_mk] at h
  obtain ⟨i1, i2⟩ := gfold_mem (fun t _ m hm => (lft_bound t m hm).2) h
  obtain ⟨j1, j2⟩ := gfold_mem (f := lft) (l := es) (n := n - 1) (fun t _ m hm => (lft_bound t m hm).2) (by omega)
  refine fit_mk' h0 (by omega) (by omega) (fun t ht => ?_) fun t ht => ?_
  · obtain ⟨m, m1, m2⟩ := j2 t ht
    exact hT t ht (h3 t ht) m2 (by omega)
  · obtain ⟨m, m1, m2⟩ := i2 t ht
    exact hF t ht (h4 t ht) m2 (by omega)
theorem fit_exn : ∀ (t : Ex), FitEW t → ∀ {n : Int}, 0 < exn t n → n ≤ 4194304 → fitE t := by
  refine Ex.induct fun o k s w l hE => ?_
  intro hf n h hn
  obtain ⟨h0, h1, h2, h3⟩ := hf.inv
  rw [exn_mk] at h
  obtain ⟨i1, i2⟩ := gfold_mem (fun t _ m hm => (exn_bound t m hm).2) h
  refine fitE_mk' h0 (by omega) h2 fun t ht => ?_
  obtain ⟨m, m1, m2⟩ := i2 t ht
  exact hE t ht (h3 t ht) m2 (by omega)
theorem gfold_pos {α : Type} {f : α → Int → Int} {l : List α} {n : Int} (h : 0 < gfold f l n) : 0 < n := by
  refine Classical.byContradiction fun hn => ?_
  rw [gfold_non l hn] at h
  exact hn h
theorem gfold_cost {α : Type} {f : α → Int → Int} {c : α → Nat} : ∀ {l : List α}, (∀ t ∈ l, ∀ n, 0 < n → n ≤ 4194304 → 0 < f t n → (c t : Int) + f t n ≤ n) → ∀ {n : Int}, n ≤ 4194304 → 0 < gfold f l n → (((l.map c).sum : Nat) : Int) + gfold f l n ≤ n ∧ ∀ x ∈ l, ∃ m, m ≤ n ∧ 0 < m ∧ 0 < f x m
  | [], _, n, _, h => ⟨by show ((0 : Nat) : Int) + n ≤ n; omega, fun x hx => by cases hx⟩
  | y :: r, hb, n, hn, h => by
    obtain ⟨h1, h2, h3⟩ := gfold_cons h
    have hp := gfold_pos h2
    have hy := hb y (List.mem_cons_self ..) n h1 hn hp
    obtain ⟨i1, i2⟩ := gfold_cost (fun t ht => hb t (List.mem_cons_of_mem _ ht)) (by omega) h2
    refine ⟨by rw [h3, List.map_cons, List.sum_cons]; omega, fun x hx => ?_⟩
    rcases List.mem_cons.1 hx with rfl | hx
    · exact ⟨n, Int.le_refl _, h1, hp⟩
    · obtain ⟨m, m1, m2, m3⟩ := i2 x hx
      exact ⟨m, by omega, m2, m3⟩
theorem len_sum {α : Type} {c : α → Nat} {l : List α} : l.length ≤ (l.map fun x => c x + 1).sum := by
  induction l with
  | nil => simp
  | cons y r ih => simp only [List.length_cons, List.map_cons, List.sum_cons]; omega
theorem sum_one {α : Type} {c : α → Nat} {l : List α} : (l.map fun x => c x + 1).sum = (l.map c).sum + l.length := by
  induction l with
  | nil => simp
  | cons y r ih => simp only [List.length_cons, List.map_cons, List.sum_cons]; omega
theorem fit_lsn : ∀ l : List Nd, FitNLW l → ∀ n : Int, n ≤ 4194304 → 0 < lsn l n → fitNL l ∧ (cnt l : Int) + lsn l n ≤ n := by
  refine Nd.listInduct fun l hl hf n hn h => ?_
  have hone : ∀ t ∈ l, ∀ m : Int, 0 < m → m ≤ 4194304 → 0 < ndn t m → fitN t ∧ (cntT t : Int) + ndn t m ≤ m := fun t ht m hm hm2 hp => by
    obtain ⟨r1, r2, r3⟩ := hl t ht
    obtain ⟨q1, q2, ⟨he1, he2⟩, hL, hEl, hC1, hC2⟩ := fitNW_inv (hf.2 t ht)
    rw [ndn_eq] at hp ⊢
    have p3 := gfold_pos hp
    have p2 : 0 < lsn t.l (gfold exn t.e (m - 1)) := gfold_pos (f := ndn) p3
    have p1 : 0 < gfold exn t.e (m - 1) := gfold_pos (f := ndn) p2
    obtain ⟨a1, a2⟩ := gfold_mem (fun x _ k hk => (exn_bound x k hk).2) p1
    obtain ⟨b1, b2⟩ := r1 hL _ (by omega) p2
    obtain ⟨c1, c2⟩ := r2 hEl _ (by omega) p3
    obtain ⟨d1, d2⟩ := gfold_cost (f := fun c k => lsn c (k - 1)) (c := fun c => cnt c + 1) (fun c hc k hk hk2 hkp => by
      obtain ⟨_, e2⟩ := r3 c hc (hC2 c hc) (k - 1) (by omega) hkp
      omega) (by omega) hp
    have hlen := len_sum (c := cnt) (l := t.cs)
    have hsum := sum_one (c := cnt) (l := t.cs)
    refine ⟨?_, ?_⟩
    · obtain ⟨k, w, s, e, l1, el, cs⟩ := t
      simp only [Nd.e, Nd.l, Nd.el, Nd.cs, Nd.kind, Nd.width, Nd.name] at *
      refine fitN_mk' q1 q2 ⟨by omega, b1.1, c1.1, by omega⟩ (fun x hx => ?_) b1.2 c1.2 fun c hc => ?_
      · obtain ⟨k2, k3, k4⟩ := a2 x hx
        exact fit_exn x (he2 x hx) k4 (by omega)
      · obtain ⟨k2, k3, k4, k5⟩ := d2 c hc
        exact (r3 c hc (hC2 c hc) (k2 - 1) (by omega) k5).1
    · rw [cntT_eq]
      simp only [subs, List.map_cons, List.sum_cons]
      omega
  unfold lsn at h ⊢
  obtain ⟨i1, i2⟩ := gfold_cost (f := ndn) (c := cntT) (fun t ht m hm hm2 hp => (hone t ht m hm hm2 hp).2) hn h
  obtain ⟨j1, _⟩ := gfold_mem (f := ndn) (fun t _ k hk => (ndn_bound t k hk).2) h
  refine ⟨⟨by omega, fun t ht => ?_⟩, by unfold cnt; exact i1⟩
  obtain ⟨m, m1, m2, m3⟩ := i2 t ht
  exact (hone t ht m m2 (by omega) m3).1
theorem fit_vN {vs : List Va} (h : FitVNW vs) {n : Int} (hp : 0 < gfold (fun v : Va => lft v.ty) vs n) (hn : n ≤ 2097152) : vs.length ≤ 2097152 ∧ fitVN vs := by
  obtain ⟨i1, i2⟩ := gfold_mem (fun (t : Va) _ m hm => (lft_bound t.ty m hm).2) hp
  refine ⟨by omega, fun v hv => ?_⟩
  obtain ⟨m, m1, m2⟩ := i2 v hv
  exact ⟨fit_lft v.ty (h v hv).1 m2 (by omega), (h v hv).2⟩
theorem gfold_down {α : Type} {f : α → Int → Int} : ∀ {l : List α}, (∀ t ∈ l, ∀ n, 0 < n → f t n ≤ n) → ∀ {n : Int}, 0 < gfold f l n → gfold f l n ≤ n ∧ ∀ x ∈ l, ∃ m, m ≤ n ∧ 0 < f x m
  | [], _, n, _ => ⟨Int.le_refl _, fun x hx => by cases hx⟩
  | y :: r, hb, n, h => by
    obtain ⟨h1, h2, h3⟩ := gfold_cons h
    have hy := hb y (List.mem_cons_self ..) n h1
    obtain ⟨i1, i2⟩ := gfold_down (fun t ht => hb t (List.mem_cons_of_mem _ ht)) h2
    refine ⟨by rw [h3]; omega, fun x hx => ?_⟩
    rcases List.mem_cons.1 hx with rfl | hx
    · exact ⟨n, Int.le_refl _, gfold_pos h2⟩
    · obtain ⟨m, m1, m2⟩ := i2 x hx
      exact ⟨m, by omega, m2⟩
theorem fit_unit {u : Un} (hu : FitUW u) (h : lgE u = false) : fitU u := by
  unfold lgE at h
  rw [Bool.or_eq_false_iff, decide_eq_false_iff_not, decide_eq_false_iff_not] at h
  obtain ⟨h1, h2⟩ := h
  have h1 : 0 < lgN u := by omega
  unfold lgN at h1
  have p0 := gfold_pos h1
  have p1 := gfold_pos p0
  obtain ⟨g1, g2⟩ := fit_vN hu.gn p0 (by omega)
  have gb := (gfold_mem (fun (t : Va) _ m hm => (lft_bound t.ty m hm).2) p0).1
  obtain ⟨_, i2⟩ := gfold_down (f := fun (f : Fun) m => lsn f.body (gfold (fun v : Va => lft v.ty) f.vars m)) (fun f _ m hm => by
    have k0 := gfold_bound (f := fun v : Va => lft v.ty) (l := f.vars) (fun t _ => lft_bound t.ty) m (by omega)
    have k1 := lsn_bound f.body _ k0.1
    show lsn f.body (gfold (fun v : Va => lft v.ty) f.vars m) ≤ m
    omega) h1
  refine ⟨g1, g2, by omega, hu.dn, by omega, fun f hf => ?_⟩
  obtain ⟨m, m1, m2⟩ := i2 f hf
  have q0 : 0 < gfold (fun v : Va => lft v.ty) f.vars m := gfold_pos (f := ndn) m2
  obtain ⟨v1, v2⟩ := fit_vN (hu.fn f hf).vn q0 (by omega)
  have vb := (gfold_mem (fun (t : Va) _ k hk => (lft_bound t.ty k hk).2) q0).1
  obtain ⟨l1, l2⟩ := fit_lsn f.body (hu.fn f hf).bd _ (by omega) m2
  exact ⟨v1, v2, l1, by omega, (hu.fn f hf).nm⟩
theorem c_leftW : ∀ (t : Ty), FitW t → ∀ n : Int, 0 < n → n ≤ 4194304 → PC Tryz.prog 23 [tyV t, (.im (.int .i64 (n)))] (.im (.int .i64 (lft t n))) := by
  refine Ty.induct fun o k s c es fs hT hF => ?_
  intro hfit n hn hn2
  obtain ⟨_, hl1, hl2, hfE, hfF⟩ := hfit.inv
  have hw : IntKind.i64.wrap (n - 1) = n - 1 := wrap_in (by omega)
  rw [lft_mk]
  refine PC.enter 47 Tryz.func23 rfl (by decide) rfl rfl (s := [(0, tyV (.mk o k s c es fs)), (1, (.im (.int .i64 (n))))]) (by rfl) ?_
  simp only [tyV_mk]
  refine wG Y23_BT (AI (@G23_BT) hw) ?_
  refine AWp.loop ?_
  refine ALp.cutP 1 [(1, (.im (.int .i64 (gfold lft (es.take (0)) (n - 1))))), (2, .pt 0 0), (5, (.im (.int .i64 ((((0 : Nat)) : Int)))))] [.box [.im (.int .i64 k), .im (.int .i64 s), .im (.int .i64 c), .sl (es.map tyV) .ro, .sl (fs.map fdV) .ro]] (AI (@exL_id) (AI (@vaL_id) (AI (@exV_id) @vaV_id))) ?_
  refine ALp.upto es.length (fun _ => True) (fun m => ⟨dn 47 [(1, (.im (.int .i64 (gfold lft (es.take (m)) (n - 1))))), (2, .pt 0 0), (5, (.im (.int .i64 ((((m : Nat)) : Int)))))], ofl [.box [.im (.int .i64 k), .im (.int .i64 s), .im (.int .i64 c), .sl (es.map tyV) .ro, .sl (fs.map fdV) .ro]]⟩) ?_ 0 (Nat.zero_le _) trivial
  intro m hm _ hnext
  refine wG Y23_BT @G23_BT ?_
  refine AWp.condAB rfl rfl (fun hE => ?_) (fun hE => ?_)
  · obtain ⟨hlt, hp⟩ := pair_cond hE
    have hlt' : (m : Int) < (es.length : Int) := by omega
    have hm1 := wrap_succ hlt (by omega)
    have hb := gfold_bound (f := lft) (l := es.take m) (fun t _ => lft_bound t) (n - 1) (by omega)
    have hc := hT es[m] (List.getElem_mem hlt) (hfE _ (List.getElem_mem hlt)) _ hp (by omega)
    rw [← gfold_take hlt hp] at hc
    have hg := get_some hlt
    refine wG Y23_BT (AI (@G23_BT) (AI hlt' hg)) ?_
    refine AR.callP hc @tyV_eq (AI (@exL_id) (AI (@vaL_id) (AI (@exV_id) @vaV_id))) ?_
    refine goG Y23_BT @G23_BT ?_
    refine wG Y23_BT (AI (@G23_BT) hm1) ?_
    refine ALp.cutP 1 [(1, (.im (.int .i64 (gfold lft (es.take (m + 1)) (n - 1))))), (2, .pt 0 0), (5, (.im (.int .i64 ((((m + 1 : Nat)) : Int)))))] [.box [.im (.int .i64 k), .im (.int .i64 s), .im (.int .i64 c), .sl (es.map tyV) .ro, .sl (fs.map fdV) .ro]] (AI (@exL_id) (AI (@vaL_id) (AI (@exV_id) @vaV_id))) ?_
    exact hnext (m + 1) (by omega) (by omega) trivial
  rw [pair_stop (fun t _ => lft_bound t) hm (by omega) hE]
  clear hnext hE
  generalize hm0 : m = m0
  clear hm hm0
  have hb0 := gfold_bound (f := lft) (l := es) (fun t _ => lft_bound t) (n - 1) (by omega)
  refine whG Y23_BT @G23_BT ?_
  refine Blk'.here (Thn.n ?_)
  refine wG Y23_BT @G23_BT ?_
  refine AWp.loop ?_
  refine ALp.cutP 1 [(1, (.im (.int .i64 (gfold lft (fs.take (0)) (gfold lft es (n - 1)))))), (2, .pt 0 0), (6, (.im (.int .i64 ((((0 : Nat)) : Int)))))] [.box [.im (.int .i64 k), .im (.int .i64 s), .im (.int .i64 c), .sl (es.map tyV) .ro, .sl (fs.map fdV) .ro]] (AI (@exL_id) (AI (@vaL_id) (AI (@exV_id) @vaV_id))) ?_
  refine ALp.upto fs.length (fun _ => True) (fun m => ⟨dn 47 [(1, (.im (.int .i64 (gfold lft (fs.take (m)) (gfold lft es (n - 1)))))), (2, .pt 0 0), (6, (.im (.int .i64 ((((m : Nat)) : Int)))))], ofl [.box [.im (.int .i64 k), .im (.int .i64 s), .im (.int .i64 c), .sl (es.map tyV) .ro, .sl (fs.map fdV) .ro]]⟩) ?_ 0 (Nat.zero_le _) trivial
  intro m hm _ hnext
  refine wG Y23_BT @G23_BT ?_
  refine AWp.condAB rfl rfl (fun hE => ?_) (fun hE => ?_)
  · obtain ⟨hlt, hp⟩ := pair_cond hE
    have hlt' : (m : Int) < (fs.length : Int) := by omega
    have hm1 := wrap_succ hlt (by omega)
    have hb := gfold_bound (f := lft) (l := fs.take m) (fun t _ => lft_bound t) (gfold lft es (n - 1)) (by omega)
    have hc := hF fs[m] (List.getElem_mem hlt) (hfF _ (List.getElem_mem hlt)) _ hp (by omega)
    rw [← gfold_take hlt hp] at hc
    have hg := get_some hlt
    refine wG Y23_BT (AI (@G23_BT) (AI hlt' hg)) ?_
    refine AR.callP hc @tyV_eq (AI (@exL_id) (AI (@vaL_id) (AI (@exV_id) @vaV_id))) ?_
    refine goG Y23_BT @G23_BT ?_
    refine wG Y23_BT (AI (@G23_BT) hm1) ?_
    refine ALp.cutP 1 [(1, (.im (.int .i64 (gfold lft (fs.take (m + 1)) (gfold lft es (n - 1)))))), (2, .pt 0 0), (6, (.im (.int .i64 ((((m + 1 : Nat)) : Int)))))] [.box [.im (.int .i64 k), .im (.int .i64 s), .im (.int .i64 c), .sl (es.map tyV) .ro, .sl (fs.map fdV) .ro]] (AI (@exL_id) (AI (@vaL_id) (AI (@exV_id) @vaV_id))) ?_
    exact hnext (m + 1) (by omega) (by omega) trivial
  rw [pair_stop (fun t _ => lft_bound t) hm (by omega) hE]
  clear hnext hE
  refine wG Y23_BT @G23_BT ?_
  exact Fin.oneP
theorem c_exprsW : ∀ (t : Ex), FitEW t → ∀ n : Int, 0 < n → n ≤ 4194304 → PC Tryz.prog 24 [exV t, (.im (.int .i64 (n)))] (.im (.int .i64 (exn t n))) := by
  refine Ex.induct fun o k s w l hL => ?_
  intro hfit n hn hn2
  obtain ⟨_, hl1, _, hfL⟩ := hfit.inv
  have hw : IntKind.i64.wrap (n - 1) = n - 1 := wrap_in (by omega)
  rw [exn_mk]
  refine PC.enter 27 Tryz.func24 rfl (by decide) rfl rfl (s := [(0, exV (.mk o k s w l)), (1, (.im (.int .i64 (n))))]) (by rfl) ?_
  simp only [exV_mk]
  refine wG Y24_BT (AI (@G24_BT) hw) ?_
  refine AWp.loop ?_
  refine ALp.cutP 1 [(1, (.im (.int .i64 (gfold exn (l.take (0)) (n - 1))))), (2, .pt 0 0), (5, (.im (.int .i64 ((((0 : Nat)) : Int)))))] [.box [.im (.int .i64 o), .im (.int .u32 k), .im (.string s), .im (.int .i64 w), .sl (l.map exV) .ro]] (AI (@exL_id) (AI (@vaL_id) (AI (@exV_id) @vaV_id))) ?_
  refine ALp.upto l.length (fun _ => True) (fun m => ⟨dn 27 [(1, (.im (.int .i64 (gfold exn (l.take (m)) (n - 1))))), (2, .pt 0 0), (5, (.im (.int .i64 ((((m : Nat)) : Int)))))], ofl [.box [.im (.int .i64 o), .im (.int .u32 k), .im (.string s), .im (.int .i64 w), .sl (l.map exV) .ro]]⟩) ?_ 0 (Nat.zero_le _) trivial
  intro m hm _ hnext
  refine wG Y24_BT @G24_BT ?_
  refine AWp.condAB rfl rfl (fun hE => ?_) (fun hE => ?_)
  · obtain ⟨hlt, hp⟩ := pair_cond hE
    have hlt' : (m : Int) < (l.length : Int) := by omega
    have hm1 := wrap_succ hlt (by omega)
    have hb := gfold_bound (f := exn) (l := l.take m) (fun t _ => exn_bound t) (n - 1) (by omega)
    have hc := hL l[m] (List.getElem_mem hlt) (hfL _ (List.getElem_mem hlt)) _ hp (by omega)
    rw [← gfold_take hlt hp] at hc
    have hg := get_some hlt
    refine wG Y24_BT (AI (@G24_BT) (AI hlt' hg)) ?_
    refine AR.callP hc @exV_eq (AI (@exL_id) (AI (@vaL_id) (AI (@exV_id) @vaV_id))) ?_
    refine goG Y24_BT @G24_BT ?_
    refine wG Y24_BT (AI (@G24_BT) hm1) ?_
    refine ALp.cutP 1 [(1, (.im (.int .i64 (gfold exn (l.take (m + 1)) (n - 1))))), (2, .pt 0 0), (5, (.im (.int .i64 ((((m + 1 : Nat)) : Int)))))] [.box [.im (.int .i64 o), .im (.int .u32 k), .im (.string s), .im (.int .i64 w), .sl (l.map exV) .ro]] (AI (@exL_id) (AI (@vaL_id) (AI (@exV_id) @vaV_id))) ?_
    exact hnext (m + 1) (by omega) (by omega) trivial
  rw [pair_stop (fun t _ => exn_bound t) hm (by omega) hE]
  clear hnext hE
  refine wG Y24_BT @G24_BT ?_
  exact Fin.oneP
theorem c_variablesW (vs : List Va) (hv : FitVW vs) (n : Int) (hn : 0 ≤ n) (hn2 : n ≤ 4194304) : PC Tryz.prog 11 [V.sl (vs.map vaV) .ro, (.im (.int .i64 (n)))] (.im (.int .i64 (gfold (fun v => lft v.ty) vs n))) := by
  refine PC.enter 24 Tryz.func11 rfl (by decide) rfl rfl (s := [(0, V.sl (vs.map vaV) .ro), (1, (.im (.int .i64 (n))))]) (by rfl) ?_
  have hv1 := hv.1
  refine wG Y11_BT @G11_BT ?_
  refine AWp.loop ?_
  refine ALp.cutP 0 [(0, V.sl (vs.map vaV) .ro), (1, (.im (.int .i64 (gfold (fun v => lft v.ty) (vs.take (0)) n)))), (5, (.im (.int .i64 ((((0 : Nat)) : Int)))))] [] (AI (@exL_id) (AI (@vaL_id) (AI (@exV_id) @vaV_id))) ?_
  refine ALp.upto vs.length (fun _ => True) (fun m => ⟨dn 24 [(0, V.sl (vs.map vaV) .ro), (1, (.im (.int .i64 (gfold (fun v => lft v.ty) (vs.take (m)) n)))), (5, (.im (.int .i64 ((((m : Nat)) : Int)))))], ofl []⟩) ?_ 0 (Nat.zero_le _) trivial
  intro m hm _ hnext
  refine wG Y11_BT @G11_BT ?_
  refine AWp.condAB rfl rfl (fun hE => ?_) (fun hE => ?_)
  · obtain ⟨hlt, hp⟩ := pair_cond hE
    have hlt' : (m : Int) < (vs.length : Int) := by omega
    have hm1 := wrap_succ hlt (by omega)
    have hb := gfold_bound (f := fun v : Va => lft v.ty) (l := vs.take m) (fun t _ => lft_bound t.ty) n hn
    have hc := c_leftW vs[m].ty (hv.2 _ (List.getElem_mem hlt)) _ hp (by omega)
    rw [← gfold_take (f := fun v : Va => lft v.ty) hlt hp] at hc
    have hg := get_some hlt
    refine wG Y11_BT (AI (@G11_BT) (AI hlt' hg)) ?_
    refine AR.callP hc @tyV_eq (AI (@exL_id) (AI (@vaL_id) (AI (@exV_id) @vaV_id))) ?_
    refine goG Y11_BT @G11_BT ?_
    refine wG Y11_BT (AI (@G11_BT) hm1) ?_
    refine ALp.cutP 0 [(0, V.sl (vs.map vaV) .ro), (1, (.im (.int .i64 (gfold (fun v => lft v.ty) (vs.take (m + 1)) n)))), (5, (.im (.int .i64 ((((m + 1 : Nat)) : Int)))))] [] (AI (@exL_id) (AI (@vaL_id) (AI (@exV_id) @vaV_id))) ?_
    exact hnext (m + 1) (by omega) (by omega) trivial
  rw [pair_stop (fun t _ => lft_bound t.ty) hm hn hE]
  clear hnext hE
  refine wG Y11_BT @G11_BT ?_
  exact Fin.oneP
set_option maxHeartbeats 2000000 in
theorem c_lsnW : ∀ l : List Nd, FitNLW l → ∀ n : Int, 0 ≤ n → n ≤ 4194304 → PC Tryz.prog 12 [.sl (l.map ndV) .ro, (.im (.int .i64 (n)))] (.im (.int .i64 (lsn l n))) := by
  refine Nd.listInduct fun l hl hf n hn hn2 => ?_
  have hl1 := hf.1
  unfold lsn
  refine PC.enter 84 Tryz.func12 rfl (by decide) rfl rfl (s := [(0, .sl (l.map ndV) .ro), (1, (.im (.int .i64 (n))))]) (by rfl) ?_
  refine wG Y12_CV True.intro ?_
  refine AWp.loop ?_
  refine ALp.cutP 0 [(0, .sl (l.map ndV) .ro), (1, (.im (.int .i64 (gfold ndn (l.take (0)) n)))), (5, (.im (.int .i64 ((((0 : Nat)) : Int)))))] [] (AI (@exL_id) (AI (@vaL_id) (AI (@exV_id) (AI (@vaV_id) (AI ndLs_id (AI nlVs_id (AI ndV_id nlV_id))))))) ?_
  refine ALp.upto l.length (fun _ => True) (fun m => ⟨dn 84 [(0, .sl (l.map ndV) .ro), (1, (.im (.int .i64 (gfold ndn (l.take (m)) n)))), (5, (.im (.int .i64 ((((m : Nat)) : Int)))))], ofl []⟩) ?_ 0 (Nat.zero_le _) trivial
  intro m hm _ hnext
  refine wG Y12_CV (AI (@Int.natCast_nonneg) @List.length_map.{0, 0}) ?_
  refine AWp.condAB rfl rfl (fun hE => ?_) (fun hE => ?_)
  case refine_2 =>
    rw [pair_stop (fun t _ => ndn_bound t) hm hn hE]
    clear hnext hE
    refine wG Y12_CV True.intro ?_
    exact Fin.oneP
  obtain ⟨hlt, hp⟩ := pair_cond hE
  have hlt' : (m : Int) < (l.length : Int) := by omega
  have hm1 := wrap_succ hlt (by omega)
  have hg := get_some hlt
  have hmem := List.getElem_mem hlt
  have hft := hf.2 _ hmem
  obtain ⟨_, _, ⟨he1, he2⟩, hL, hEl, hC1, hC2⟩ := fitNW_inv hft
  have hb := gfold_bound (f := ndn) (l := l.take m) (fun t _ => ndn_bound t) n hn
  have htk := gfold_take hlt hp
  rw [ndn_eq] at htk
  obtain ⟨r1, r2, r3⟩ := hl l[m] hmem
  generalize gfold ndn (l.take m) n = v at hp hb htk hE ⊢
  have hw : IntKind.i64.wrap (v - 1) = v - 1 := wrap_in (by omega)
  have k0 := gfold_bound (f := exn) (l := l[m].e) (fun x _ => exn_bound x) (v - 1) (by omega)
  refine wG Y12_CV hw ?_
  refine AWp.loop ?_
  refine ALp.cutP 0 [(0, .sl (l.map ndV) .ro), (1, (.im (.int .i64 (gfold exn (l[m].e.take (0)) (v - 1))))), (5, (.im (.int .i64 ((m : Int))))), (6, (.im (.int .i64 ((((0 : Nat)) : Int)))))] [] (AI (@exL_id) (AI (@vaL_id) (AI (@exV_id) (AI (@vaV_id) (AI ndLs_id (AI nlVs_id (AI ndV_id nlV_id))))))) ?_
  refine ALp.upto l[m].e.length (fun _ => True) (fun j => ⟨dn 84 [(0, .sl (l.map ndV) .ro), (1, (.im (.int .i64 (gfold exn (l[m].e.take (j)) (v - 1))))), (5, (.im (.int .i64 ((m : Int))))), (6, (.im (.int .i64 ((((j : Nat)) : Int)))))], ofl []⟩) ?_ 0 (Nat.zero_le _) trivial
  intro j hj _ hnext1
  refine wG Y12_CV (AI hlt' (AI hg (AI (@Int.natCast_nonneg) (AI (@List.length_map.{0, 0}) ND)))) ?_
  refine AWp.condAB rfl rfl (fun hE1 => ?_) (fun hE1 => ?_)
  · obtain ⟨hlu, hpu⟩ := pair_cond hE1
    have hlu' : (j : Int) < (l[m].e.length : Int) := by omega
    have hj1 := wrap_succ hlu (by omega)
    have hg1 := get_some hlu
    have hb1 := gfold_bound (f := exn) (l := l[m].e.take j) (fun x _ => exn_bound x) (v - 1) (by omega)
    have hc := c_exprsW l[m].e[j] (he2 _ (List.getElem_mem hlu)) _ hpu (by omega)
    rw [← gfold_take hlu hpu] at hc
    refine wG Y12_CV (AI hlt' (AI hg (AI hlu' (AI hg1 (AI (@Int.natCast_nonneg) (AI ND EX)))))) ?_
    refine AR.callP hc @exV_eq (AI (@exL_id) (AI (@vaL_id) (AI (@exV_id) (AI (@vaV_id) (AI ndLs_id (AI nlVs_id (AI ndV_id nlV_id))))))) ?_
    refine goG Y12_CV True.intro ?_
    refine wG Y12_CV hj1 ?_
    refine ALp.cutP 0 [(0, .sl (l.map ndV) .ro), (1, (.im (.int .i64 (gfold exn (l[m].e.take (j + 1)) (v - 1))))), (5, (.im (.int .i64 ((m : Int))))), (6, (.im (.int .i64 ((((j + 1 : Nat)) : Int)))))] [] (AI (@exL_id) (AI (@vaL_id) (AI (@exV_id) (AI (@vaV_id) (AI ndLs_id (AI nlVs_id (AI ndV_id nlV_id))))))) ?_
    exact hnext1 (j + 1) (by omega) (by omega) trivial
  rw [pair_stop (fun x _ => exn_bound x) hj (by omega) hE1]
  clear hnext1 hE1
  have q1 := r1 hL _ k0.1 (by omega)
  have k1 := lsn_bound l[m].l _ k0.1
  have q2 := r2 hEl _ k1.1 (by omega)
  have k2 := lsn_bound l[m].el _ k1.1
  refine whG Y12_CV True.intro ?_
  refine Blk'.here (Thn.n ?_)
  refine wG Y12_CV (AI hlt' (AI hg ND)) ?_
  refine AR.callP q1 True.intro (AI (@exL_id) (AI (@vaL_id) (AI (@exV_id) (AI (@vaV_id) (AI ndLs_id (AI nlVs_id (AI ndV_id nlV_id))))))) ?_
  refine goG Y12_CV True.intro ?_
  refine wG Y12_CV (AI hlt' (AI hg ND)) ?_
  refine AR.callP q2 True.intro (AI (@exL_id) (AI (@vaL_id) (AI (@exV_id) (AI (@vaV_id) (AI ndLs_id (AI nlVs_id (AI ndV_id nlV_id))))))) ?_
  refine goG Y12_CV True.intro ?_
  refine wG Y12_CV True.intro ?_
  generalize lsn l[m].el (lsn l[m].l (gfold exn l[m].e (v - 1))) = n3 at k2 htk ⊢
  refine AWp.loop ?_
  refine ALp.cutP 0 [(0, .sl (l.map ndV) .ro), (1, (.im (.int .i64 (gfold (fun c m => lsn c (m - 1)) (l[m].cs.take (0)) n3)))), (5, (.im (.int .i64 ((m : Int))))), (7, (.im (.int .i64 ((((0 : Nat)) : Int)))))] [] (AI (@exL_id) (AI (@vaL_id) (AI (@exV_id) (AI (@vaV_id) (AI ndLs_id (AI nlVs_id (AI ndV_id nlV_id))))))) ?_
  have hcb : ∀ c ∈ l[m].cs, ∀ n : Int, 0 < n → 0 ≤ lsn c (n - 1) ∧ lsn c (n - 1) < n := fun c _ n hn => by have := lsn_bound c (n - 1) (by omega); omega
  refine ALp.upto l[m].cs.length (fun _ => True) (fun j => ⟨dn 84 [(0, .sl (l.map ndV) .ro), (1, (.im (.int .i64 (gfold (fun c m => lsn c (m - 1)) (l[m].cs.take (j)) n3)))), (5, (.im (.int .i64 ((m : Int))))), (7, (.im (.int .i64 ((((j : Nat)) : Int)))))], ofl []⟩) ?_ 0 (Nat.zero_le _) trivial
  intro j hj _ hnext3
  refine wG Y12_CV (AI hlt' (AI hg (AI (@Int.natCast_nonneg) (AI (@List.length_map.{0, 0}) ND)))) ?_
  refine AWp.condAB rfl rfl (fun hE3 => ?_) (fun hE3 => ?_)
  · obtain ⟨hlu, hpu⟩ := pair_cond hE3
    have hlu' : (j : Int) < (l[m].cs.length : Int) := by omega
    have hj1 := wrap_succ hlu (by omega)
    have hg1 := get_some hlu
    have hb1 := gfold_bound (f := fun c m => lsn c (m - 1)) (l := l[m].cs.take j) (fun c hc => hcb c (List.mem_of_mem_take hc)) n3 (by omega)
    have htk3 := gfold_take (f := fun c m => lsn c (m - 1)) hlu hpu
    generalize gfold (fun c m => lsn c (m - 1)) (l[m].cs.take j) n3 = v3 at hpu hb1 htk3 hE3 ⊢
    have hw3 : IntKind.i64.wrap (v3 - 1) = v3 - 1 := wrap_in (by omega)
    have hc := r3 l[m].cs[j] (List.getElem_mem hlu) (hC2 _ (List.getElem_mem hlu)) (v3 - 1) (by omega) (by omega)
    rw [← htk3] at hc
    refine wG Y12_CV (AI hlt' (AI hg (AI hlu' (AI hg1 (AI hw3 (AI (@Int.natCast_nonneg) ND)))))) ?_
    refine AR.callP hc nlV_eq (AI (@exL_id) (AI (@vaL_id) (AI (@exV_id) (AI (@vaV_id) (AI ndLs_id (AI nlVs_id (AI ndV_id nlV_id))))))) ?_
    refine goG Y12_CV True.intro ?_
    refine wG Y12_CV hj1 ?_
    refine ALp.cutP 0 [(0, .sl (l.map ndV) .ro), (1, (.im (.int .i64 (gfold (fun c m => lsn c (m - 1)) (l[m].cs.take (j + 1)) n3)))), (5, (.im (.int .i64 ((m : Int))))), (7, (.im (.int .i64 ((((j + 1 : Nat)) : Int)))))] [] (AI (@exL_id) (AI (@vaL_id) (AI (@exV_id) (AI (@vaV_id) (AI ndLs_id (AI nlVs_id (AI ndV_id nlV_id))))))) ?_
    exact hnext3 (j + 1) (by omega) (by omega) trivial
  rw [pair_stop hcb hj (by omega) hE3, ← htk]
  clear hnext3 hE3
  refine whG Y12_CV True.intro ?_
  refine Blk'.here (Thn.n ?_)
  refine wG Y12_CV hm1 ?_
  refine ALp.cutP 0 [(0, .sl (l.map ndV) .ro), (1, (.im (.int .i64 (gfold ndn (l.take (m + 1)) n)))), (5, (.im (.int .i64 ((((m + 1 : Nat)) : Int)))))] [] (AI (@exL_id) (AI (@vaL_id) (AI (@exV_id) (AI (@vaV_id) (AI ndLs_id (AI nlVs_id (AI ndV_id nlV_id))))))) ?_
  exact hnext (m + 1) (by omega) (by omega) trivial
set_option maxHeartbeats 2000000 in
theorem c_largeW (u : Un) (hu : FitUW u) : PC Tryz.prog 5 [unV u] (.im (.bool (lgE u))) := by
  have hfl := hu.fl
  have hgl := hu.gl
  have hfv : FitVW u.globals := ⟨by omega, fun v hv => (hu.gn v hv).1⟩
  have hw : IntKind.i64.wrap (3000 - (u.funcs.length : Int)) = 3000 - (u.funcs.length : Int) := wrap_in (by omega)
  have h1 : PC Tryz.prog 11 [.sl (u.globals.map vaV) .ro, (.im (.int .i64 (3000 - (u.funcs.length : Int))))] (.im (.int .i64 (gfold (fun v : Va => lft v.ty) u.globals (3000 - u.funcs.length)))) := by
    by_cases h : 0 < 3000 - (u.funcs.length : Int)
    · exact c_variablesW u.globals hfv _ (by omega) (by omega)
    · rw [gfold_neg _ _ h]
      exact c_variablesN u.globals _ h
  have hb0 : gfold (fun v : Va => lft v.ty) u.globals (3000 - u.funcs.length) ≤ 4194304 := by
    by_cases h : 0 < 3000 - (u.funcs.length : Int)
    · have := gfold_bound (f := fun v : Va => lft v.ty) (l := u.globals) (fun t _ => lft_bound t.ty) (3000 - u.funcs.length) (by omega)
      omega
    · rw [gfold_neg _ _ h]; omega
  unfold lgE lgN
  generalize gfold (fun v : Va => lft v.ty) u.globals (3000 - u.funcs.length) = n0 at h1 hb0 ⊢
  refine PC.enter 46 Tryz.func5 rfl (by decide) rfl rfl (s := [(0, unV u)]) (by rfl) ?_
  rw [unV_eq]
  refine wG Y5_CW (AI hw @List.length_map.{0, 0}) ?_
  refine AR.callP h1 True.intro (AI (@exL_id) (AI (@vaL_id) (AI (@exV_id) (AI (@vaV_id) (AI tsL_id (AI ndLs_id (AI nlVs_id (AI ndV_id (AI plVs_id (AI plV_id (AI scL_id (AI fnL_id (AI unV_id fnV_id))))))))))))) ?_
  refine goG Y5_CW True.intro ?_
  refine wG Y5_CW True.intro ?_
  refine AWp.loop ?_
  refine ALp.cutP 1 [(1, .pt 0 0), (3, (.im (.int .i64 (gfold (fun (f : Fun) m => lsn f.body (gfold (fun v : Va => lft v.ty) f.vars m)) (u.funcs.take (0)) n0)))), (4, (.im (.int .i64 ((((0 : Nat)) : Int)))))] [.box [.sl (u.globals.map vaV) .ro, .sl (u.data.map scV) .ro, .sl (u.funcs.map fnV) .ro]] (AI (@exL_id) (AI (@vaL_id) (AI (@exV_id) (AI (@vaV_id) (AI tsL_id (AI ndLs_id (AI nlVs_id (AI ndV_id (AI plVs_id (AI plV_id (AI scL_id (AI fnL_id (AI unV_id fnV_id))))))))))))) ?_
  have hle : ∀ (f : Fun) (m : Int), 0 < m → 0 ≤ (fun (f : Fun) m => lsn f.body (gfold (fun v : Va => lft v.ty) f.vars m)) f m ∧ (fun (f : Fun) m => lsn f.body (gfold (fun v : Va => lft v.ty) f.vars m)) f m ≤ m := fun f m hm => by
    have k0 := gfold_bound (f := fun v : Va => lft v.ty) (l := f.vars) (fun t _ => lft_bound t.ty) m (by omega)
    have k1 := lsn_bound f.body _ k0.1
    simp only
    omega
  refine ALp.upto u.funcs.length (fun _ => True) (fun m => ⟨dn 46 [(1, .pt 0 0), (3, (.im (.int .i64 (gfold (fun (f : Fun) m => lsn f.body (gfold (fun v : Va => lft v.ty) f.vars m)) (u.funcs.take (m)) n0)))), (4, (.im (.int .i64 ((((m : Nat)) : Int)))))], ofl [.box [.sl (u.globals.map vaV) .ro, .sl (u.data.map scV) .ro, .sl (u.funcs.map fnV) .ro]]⟩) ?_ 0 (Nat.zero_le _) trivial
  intro m hm _ hnext
  refine wG Y5_CW (AI (@Int.natCast_nonneg) @List.length_map.{0, 0}) ?_
  refine AWp.condAB rfl rfl (fun hE => ?_) (fun hE => ?_)
  · obtain ⟨hlt, hp⟩ := pair_cond hE
    have hlt' : (m : Int) < (u.funcs.length : Int) := by omega
    have hm1 := wrap_succ hlt (by omega)
    have hg := get_some hlt
    have hf := hu.fn _ (List.getElem_mem hlt)
    have htk := gfold_take (f := (fun (f : Fun) m => lsn f.body (gfold (fun v : Va => lft v.ty) f.vars m))) hlt hp
    have hb : gfold (fun (f : Fun) m => lsn f.body (gfold (fun v : Va => lft v.ty) f.vars m)) (u.funcs.take m) n0 ≤ 4194304 := by
      by_cases h : 0 < n0
      · have := gfold_le (f := (fun (f : Fun) m => lsn f.body (gfold (fun v : Va => lft v.ty) f.vars m))) (l := u.funcs.take m) (fun t _ => hle t) n0 (by omega)
        omega
      · rw [gfold_neg _ _ h]; omega
    generalize gfold (fun (f : Fun) m => lsn f.body (gfold (fun v : Va => lft v.ty) f.vars m)) (u.funcs.take m) n0 = v at hp hb htk hE ⊢
    have hfv2 : FitVW u.funcs[m].vars := ⟨by have := hf.vl; omega, fun v hv => (hf.vn v hv).1⟩
    have q1 := c_variablesW u.funcs[m].vars hfv2 v (by omega) (by omega)
    have k0 := gfold_bound (f := fun v : Va => lft v.ty) (l := u.funcs[m].vars) (fun t _ => lft_bound t.ty) v (by omega)
    have q2 := c_lsnW u.funcs[m].body hf.bd _ k0.1 (by omega)
    rw [← htk] at q2
    generalize gfold (fun v : Va => lft v.ty) u.funcs[m].vars v = v2 at q1 q2
    refine wdG Y5_CW (AI hlt' (AI hg FU)) ?_
    refine AR.callP q1 True.intro (AI (@exL_id) (AI (@vaL_id) (AI (@exV_id) (AI (@vaV_id) (AI tsL_id (AI ndLs_id (AI nlVs_id (AI ndV_id (AI plVs_id (AI plV_id (AI scL_id (AI fnL_id (AI unV_id fnV_id))))))))))))) ?_
    refine goG Y5_CW True.intro ?_
    refine AR.callP q2 True.intro (AI (@exL_id) (AI (@vaL_id) (AI (@exV_id) (AI (@vaV_id) (AI tsL_id (AI ndLs_id (AI nlVs_id (AI ndV_id (AI plVs_id (AI plV_id (AI scL_id (AI fnL_id (AI unV_id fnV_id))))))))))))) ?_
    refine goG Y5_CW True.intro ?_
    refine wdG Y5_CW hm1 ?_
    refine ALp.cutP 1 [(1, .pt 0 0), (3, (.im (.int .i64 (gfold (fun (f : Fun) m => lsn f.body (gfold (fun v : Va => lft v.ty) f.vars m)) (u.funcs.take (m + 1)) n0)))), (4, (.im (.int .i64 ((((m + 1 : Nat)) : Int)))))] [.box [.sl (u.globals.map vaV) .ro, .sl (u.data.map scV) .ro, .sl (u.funcs.map fnV) .ro]] (AI (@exL_id) (AI (@vaL_id) (AI (@exV_id) (AI (@vaV_id) (AI tsL_id (AI ndLs_id (AI nlVs_id (AI ndV_id (AI plVs_id (AI plV_id (AI scL_id (AI fnL_id (AI unV_id fnV_id))))))))))))) ?_
    exact hnext (m + 1) (by omega) (by omega) trivial
  rw [pair_end hm hE]
  clear hnext hE
  generalize gfold (fun (f : Fun) m => lsn f.body (gfold (fun v : Va => lft v.ty) f.vars m)) u.funcs n0 = r
  have e40 : decide (40 < u.data.length) = decide ((40 : Int) < (u.data.length : Int)) := by simp; omega
  rw [e40]
  refine wG Y5_CW @List.length_map.{0, 0} ?_
  exact Fin.oneP
set_option maxHeartbeats 2000000 in
theorem c_law5W (u : Un) (hu : FitUW u) : PC Tryz.prog 3 [unV u] (.im (.bool (true))) := by
  have h1 := c_largeW u hu
  have h2 := c_example
  cases hlg : lgE u with
  | true =>
    rw [hlg] at h1
    refine PC.enter 34 Tryz.func3 rfl (by decide) rfl rfl (s := [(0, unV u)]) (by rfl) ?_
    rw [unV_eq]
    refine wG Y3_D9 True.intro ?_
    refine AR.callP h1 unV_eq (AI (@exL_id) (AI (@vaL_id) (AI (@exV_id) (AI (@vaV_id) (AI tsL_id (AI ndLs_id (AI nlVs_id (AI ndV_id (AI scL_id (AI fnL_id (AI unV_id fnV_id))))))))))) ?_
    refine goG Y3_D9 True.intro ?_
    refine wG Y3_D9 True.intro ?_
    refine AR.callP h2 True.intro (AI (@exL_id) (AI (@vaL_id) (AI (@exV_id) (AI (@vaV_id) (AI tsL_id (AI ndLs_id (AI nlVs_id (AI ndV_id (AI scL_id (AI fnL_id (AI unV_id fnV_id))))))))))) ?_
    refine goG Y3_D9 True.intro ?_
    refine wG Y3_D9 True.intro ?_
    exact Fin.oneP
  | false => exact c_law5 u (fit_unit hu hlg)
end Go.Proofs.YtfggemopnlffeaaGreat
namespace Go.Proofs.YtfggemopnlffeaaGreat
open Go.RowKit Go.ChangeShapes Go.WideShapes Go.WideMaps Go.WideElems
section
variable {H : Type} {enc : TypeId × Value → H} {P : Program} {W : World}
theorem law_full {f : FuncId} {fn : Func} {s : ChangeSpec} {L : List TypeId} {B : TypeId} {b : Nat} {args : Array Value} {ds gs : List (DataW H)} {before : List MemPlace} (hL : okTy P L = true) (hl : laidOutB P = true) (hpar : ∀ t ∈ fn.params.toList, t ∈ L ∧ P.readableRec t = true ∧ t < P.types.size)
    (hvars : s.vars = []) (hres : fn.resultTypes = #[B]) (hB : P.underlying B = some .bool) (hs : ∀ ds : List (DataW H), RdL P fn.params.toList ds → s.fn H (ds ++ []) = { results := [.lit (.bool true)], args := ds })
    (hP : ∀ ds : List (DataW H), RdL P fn.params.toList ds → (DataW.weightsEach P fn.params.toList ds).all (· ≤ reachBytes) = true → PC P f (ds.map dV) (.im (.bool true)))
    (hval : ∀ (j : Nat) t v, fn.params[j]? = some t → args[j]? = some v → Value.okWide P W .any b t v) (hW : DataW.Whole enc P fn.params.toList s.vars false W args.toList ds gs before)
    {X : List TypeId} (hk : (DataW.weightsEach P (fn.params.toList ++ X) (ds ++ gs)).all (· ≤ reachBytes) = true) (hX : X = []) (hg : (Cf.raw W).known) :
    Calls P f args W fun e W' => ∃ v, e = .returned v ∧ s.post enc P fn false true false false W args v W' := by
  have hlt := hW.lt
  have hW' := hW
  obtain ⟨p, q, hA, hV, rfl, _, _⟩ := hW
  rw [hvars] at hV
  obtain ⟨rfl, rfl⟩ := trodVars_none hV
  obtain ⟨h1, h2, h3⟩ := args_of hL (b := b) _ _ _ _ (fun t ht => (hpar t ht).1) (fun j t v h4 h5 => hval j t v (by simpa using h4) (by simpa using h5)) hA
  have hb : (DataW.weightsEach P fn.params.toList ds).all (· ≤ reachBytes) = true := by rwa [hX, List.append_nil, List.append_nil] at hk
  refine ((hP ds h1 hb).2 (Cf.raw W) args rfl (raw_ok hg) (by simpa using h2) (fun i hi => ?_)).mono ?_
  · have := h3 i hi
    simpa [List.getD, Array.getD_eq_getD_getElem?] using this
  · rintro e W' ⟨v, x, st', rfl, ⟨rfl, rfl⟩, D, rfl, _, _, hE, hR⟩
    have hBel := raw_below hE
    obtain rfl := hR.of_some_bool
    refine ⟨_, rfl, ds, [], _, [], p, [], hW', ?_, ?_, ?_, hBel.frame _, fun h => by cases h⟩
    · rw [hs ds h1, hres]
      exact trodAll_mk1 (shut_bool hB true)
    · rw [hs ds h1]
      exact args_stay hl hBel _ _ _ _ (fun t ht => (hpar t ht).2) (fun x hx => hlt x (by simp [hx])) hA
    · rw [hs ds h1, hvars]
      rfl
end
end Go.Proofs.YtfggemopnlffeaaGreat
namespace Go.Proofs.YtfggemopnlffeaaGreat.ctypeWarnings
set_option linter.unusedSimpArgs false
set_option linter.unusedVariables false
set_option linter.unnecessarySimpa false
open Go.RowKit

theorem own : ownKnob Tryz.prog.godebug = none := by kernel_rfl
theorem tys : okTy Tryz.prog [3, 9, 4, 5, 45, 41, 38, 64, 39, 44, 22, 48, 46, 59, 35, 57, 91, 23, 89, 37, 24, 26] = true := by kernel_rfl
theorem laid : laidOutB Tryz.prog = true := by kernel_rfl
theorem pars : (Tryz.f3.params.toList.all fun t => [3, 9, 4, 5, 45, 41, 38, 64, 39, 44, 22, 48, 46, 59, 35, 57, 91, 23, 89, 37, 24, 26].contains t && Tryz.prog.readableRec t && decide (t < Tryz.prog.types.size)) = true := by kernel_rfl
theorem trees {H : Type} (ds : List (DataW H)) (h : RdL Tryz.prog Tryz.f3.params.toList ds) (hb : (DataW.weightsEach Tryz.prog Tryz.f3.params.toList ds).all (· ≤ reachBytes) = true) : PC Tryz.prog 3 (ds.map dV) (.im (.bool true)) := by
  rw [Tryz.params3] at h hb
  match ds, h with
  | [d1], ⟨h1, _⟩ =>
    obtain ⟨w1, _⟩ := WtL_all hb
    obtain ⟨x1, e1, f1, _⟩ := rd_unW d1 h1 w1
    simp only [List.map_cons, List.map_nil, dV, e1]
    exact c_law5W x1 f1

set_option maxRecDepth 100000 in
theorem lifted (os : Os) (started : os.Started) (H : Type) (enc : TypeId × Value → H) (F : Stop.Interp) :
    ReturnsInHanded {} Tryz.checked os 3 .any ((OpenSpec.ofChange Rows.ctypeWarningsSpec).preRow enc Tryz.prog Tryz.f3 Rows.ctypeWarningsRow.domain false Rows.ctypeWarningsRow.laid) (((OpenSpec.ofChange Rows.ctypeWarningsSpec).at F).post enc Tryz.prog Tryz.f3 false true false false) := by
  have hx : DataW.whole enc Tryz.prog ((World.holding Tryz.prog os ⟨#[], #[], []⟩).forCall (fun _ _ => 0) ⟨#[], #[.agg #[.slice none 0 0, .slice none 0 0, .slice none 0 0]], []⟩).memory Tryz.f3.params.toList Rows.ctypeWarningsSpec.vars false #[(.agg #[.slice none 0 0, .slice none 0 0, .slice none 0 0] : Value)].toList 8 = some ([.agg [.nil, .nil, .nil]], [], []) := by kernel_rfl
  refine returnsInHanded_of_row (C := Tryz.checked) (s := OpenSpec.ofChange Rows.ctypeWarningsSpec) own started (by kernel_rfl) Tryz.func3
    (witness_row_at (enc := enc) (C := Tryz.checked) false (World.holding Tryz.prog os ⟨#[], #[], []⟩) #[.agg #[.slice none 0 0, .slice none 0 0, .slice none 0 0]] rfl (by kernel_rfl) (by kernel_rfl) (by kernel_rfl)
      (OpenSpec.preRow_of_cond 8 hx (by kernel_rfl) (fun k hk => by cases hk) (by kernel_rfl) ⟨[], rfl, List.nodup_nil, fun _ _ h => by cases h⟩)) ?_
  intro W base args ds gs before hval hW _ _ hwt _ hsh _
  refine law_full tys laid (fun t ht => ?_) rfl (by kernel_rfl) Tryz.underlying4 (fun ds hd => ?_) trees hval hW hwt (by rfl) (known_of hsh)
  · have := List.all_eq_true.1 pars t ht
    simp only [Bool.and_eq_true, decide_eq_true_eq, List.contains_iff_mem] at this
    exact ⟨this.1.1, this.1.2, this.2⟩
  · match ds, hd with
    | [d1], _ => rfl

theorem proved : Rows.CtypeWarningsSaid :=
  OpenClaim.holds_of_cond 3 Tryz.f3 rfl rfl rfl rfl rfl rfl rfl ⟨rfl, rfl, rfl, rfl, rfl⟩ rfl rfl rfl rfl rfl (by kernel_rfl) Tryz.func3 (by kernel_rfl)
    (of_decide_eq_true (by kernel_rfl)) (by unfold Func.isWrapper; first | (rw [if_pos (by decide +kernel)]; kernel_rfl) | (rw [if_neg (by decide +kernel)]; exact ⟨rfl, rfl⟩))
    (fun os started H enc _ F => by rw [OpenClaim.pre_eq_preRow]; exact lifted os started H enc F)
end Go.Proofs.YtfggemopnlffeaaGreat.ctypeWarnings
