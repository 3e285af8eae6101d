import Derived.Test.YtfggemopnlffeaaGreatLf
import Derived.Test.YtfggemopnlffeaaGreatCQ
namespace Go.Proofs.YtfggemopnlffeaaGreat
set_option linter.unusedSimpArgs false
set_option linter.unusedVariables false
set_option linter.unnecessarySimpa false
open Go.RowKit
variable {H : Type}
theorem list_sum {α : Type} {G : α → V} {Q : α → Prop} {μ : α → Nat} {es : List (DataW H)} (h : ∀ x ∈ es, ∃ a, dV x = G a ∧ Q a ∧ μ a ≤ Rows.uptoBulk x) : ∃ l : List α, dVL es = l.map G ∧ l.length = es.length ∧ (∀ a ∈ l, Q a) ∧ (l.map μ).sum ≤ Rows.uptoBulkAll es := by
  induction es with
  | nil => exact ⟨[], by simp [dVL], rfl, (fun a ha => by cases ha), by simp⟩
  | cons x r ih =>
    obtain ⟨a, h1, h2, h6⟩ := h x (by simp)
    obtain ⟨l, h3, h4, h5, h7⟩ := ih fun y hy => h y (by simp [hy])
    refine ⟨a :: l, by simp [dVL, h1, h3], by simp [h4], fun b hb => ?_, ?_⟩
    · rcases List.mem_cons.1 hb with rfl | hb
      · exact h2
      · exact h5 b hb
    · simp only [List.map_cons, List.sum_cons, Rows.uptoBulkAll]
      omega
theorem slice_sum {P : Program} {α : Type} {G : α → V} {Q : α → Prop} {μ : α → Nat} {d : DataW H} {t e : TypeId} (hd : Rd P t d) (ht : elOf P t = some e) (h : ∀ x : DataW H, Rows.uptoBulk x < Rows.uptoBulk d → Rd P e x → ∃ a, dV x = G a ∧ Q a ∧ μ a ≤ Rows.uptoBulk x) :
    ∃ l : List α, dV d = .sl (l.map G) .ro ∧ l.length ≤ Rows.uptoBulk d ∧ (∀ a ∈ l, Q a) ∧ (l.map μ).sum + 1 ≤ Rows.uptoBulk d := by
  rcases hd.slice_inv ht with rfl | ⟨es, sp, rfl, hes⟩
  · exact ⟨[], by simp [dV], by simp, (fun a ha => by cases ha), by simp [Rows.uptoBulk]⟩
  · have h0 := bulk_sl es sp
    obtain ⟨l, h1, h2, h3, h4⟩ := list_sum (G := G) (Q := Q) (μ := μ) (es := es) fun x hx => h x (by have := bulk_mem hx; omega) (hes x hx)
    refine ⟨l, by simp [dV, h1], ?_, h3, by omega⟩
    have := bulk_len es
    omega
theorem Rd.bool_inv {P : Program} {t : TypeId} {d : DataW H} (h : Rd P t d) (ht : P.underlying t = some .bool) : ∃ b, d = .lit (.bool b) := by
  cases h with
  | bool hu => exact ⟨_, rfl⟩
  | int hu => rw [hu] at ht; cases ht
  | string hu => rw [hu] at ht; cases ht
  | agg hu => rw [hu] at ht; cases ht
  | nil hu => rw [hu] at ht; cases ht
  | slice hu => rw [hu] at ht; cases ht
theorem fitN_mk' {k w : Int} {n : ByteArray} {e : List Ex} {l el : List Nd} {cs : List (List Nd)} (h1 : I64 k ∧ I64 w) (h2 : n.size ≤ 9223372036854775807) (h3 : e.length ≤ 4194304 ∧ l.length ≤ 4194304 ∧ el.length ≤ 4194304 ∧ cs.length ≤ 4194304)
    (h4 : ∀ x ∈ e, fitE x) (h5 : ∀ t ∈ l, fitN t) (h6 : ∀ t ∈ el, fitN t) (h7 : ∀ c ∈ cs, fitNL c) : fitN (.mk k w n e l el cs) := by
  have q : fitNB (.mk k w n e l el cs) = _ := Nd.para_mk _ k w n e l el cs
  show fitNB (.mk k w n e l el cs) = true
  rw [q]
  simp only [Bool.and_eq_true, Nd.kind, Nd.width, Nd.name, Nd.e, Nd.l, Nd.el, Nd.cs, List.all_map, List.all_eq_true]
  exact ⟨⟨⟨⟨⟨⟨⟨decide_eq_true h1, decide_eq_true h2⟩, decide_eq_true h3⟩, h4⟩, fun c hc => decide_eq_true (h7 c hc).1⟩, h5⟩, h6⟩, fun c hc => by
    simp only [Function.comp, List.all_map, List.all_eq_true]
    exact (h7 c hc).2⟩
theorem G_nd : ftOf Tryz.prog 59 = some [3, 3, 9, 46, 35, 35, 57] := by kernel_rfl
theorem G_ndL : elOf Tryz.prog 35 = some 59 := by kernel_rfl
theorem G_ndC : elOf Tryz.prog 57 = some 35 := by kernel_rfl
theorem G_sc : ftOf Tryz.prog 91 = some [9, 45, 89, 4, 4] := by kernel_rfl
theorem G_scL : elOf Tryz.prog 23 = some 91 := by kernel_rfl
theorem G_byL : elOf Tryz.prog 89 = some 5 := by kernel_rfl
theorem G_by : inOf Tryz.prog 5 = some .u8 := by kernel_rfl
theorem G_fn : ftOf Tryz.prog 37 = some [9, 22, 35] := by kernel_rfl
theorem G_fnL : elOf Tryz.prog 24 = some 37 := by kernel_rfl
theorem G_un : ftOf Tryz.prog 26 = some [22, 23, 24] := by kernel_rfl
theorem rd_nd : ∀ (N : Nat) (d : DataW H), Rows.uptoBulk d ≤ N → N ≤ 4194304 → Rd Tryz.prog 59 d → ∃ t : Nd, dV d = ndV t ∧ fitN t ∧ cntT t ≤ Rows.uptoBulk d := by
  intro N
  induction N using Nat.strongRecOn with
  | _ N ih =>
    intro d hb hN hd
    obtain ⟨ps, rfl, hps⟩ := hd.agg_inv G_nd
    match ps, hps with
    | [d1, d2, d3, d4, d5, d6, d7], ⟨h1, h2, h3, h4, h5, h6, h7, _⟩ =>
      obtain ⟨k, rfl, hk⟩ := h1.int_inv G_int
      obtain ⟨w, rfl, hw⟩ := h2.int_inv G_int
      obtain ⟨s, rfl, hs⟩ := h3.string_inv Tryz.underlying9
      simp only [Rows.uptoBulk, Rows.uptoBulkAll] at hb
      have hL : ∀ x : DataW H, Rows.uptoBulk x < N → Rd Tryz.prog 35 x → ∃ l : List Nd, dV x = .sl (l.map ndV) .ro ∧ l.length ≤ Rows.uptoBulk x ∧ (∀ a ∈ l, fitN a) ∧ (l.map cntT).sum + 1 ≤ Rows.uptoBulk x := fun x hx hr =>
        slice_sum (G := ndV) (Q := fitN) (μ := cntT) hr G_ndL fun y hy hry => ih (Rows.uptoBulk y) (by omega) y (Nat.le_refl _) (by omega) hry
      obtain ⟨es, e1, e2, e3⟩ := slice_of (G := exV) (Q := fitE) h4 G_exL fun x hx hr => rd_ex _ x (Nat.le_refl _) (by omega) hr
      obtain ⟨l, l1, l2, l3, l4⟩ := hL d5 (by omega) h5
      obtain ⟨el, m1, m2, m3, m4⟩ := hL d6 (by omega) h6
      obtain ⟨cs, c1, c2, c3, c4⟩ := slice_sum (G := nlV) (Q := fitNL) (μ := cnt) h7 G_ndC fun x hx hr => by
        obtain ⟨q, q1, q2, q3, q4⟩ := hL x (by omega) hr
        exact ⟨q, q1, ⟨by omega, q3⟩, by unfold cnt; omega⟩
      refine ⟨.mk k w s es l el cs, ?_, fitN_mk' ⟨I64_of hk, I64_of hw⟩ (Nat.le_trans hs (by decide)) ⟨by omega, by omega, by omega, by omega⟩ e3 l3 m3 c3, ?_⟩
      · simp only [dV, dVF, e1, l1, m1, c1, ndV_mk, V.cells, List.append_nil, List.cons_append, List.nil_append]
      · rw [cntT_eq]
        simp only [subs, Nd.l, Nd.el, Nd.cs, List.map_cons, List.sum_cons, Rows.uptoBulk, Rows.uptoBulkAll]
        unfold cnt at c4 ⊢
        omega
theorem rd_nl (d : DataW H) (hb : Rows.uptoBulk d ≤ 4194304) (hd : Rd Tryz.prog 35 d) : ∃ l : List Nd, dV d = .sl (l.map ndV) .ro ∧ fitNL l ∧ cnt l ≤ Rows.uptoBulk d := by
  obtain ⟨l, h1, h2, h3, h4⟩ := slice_sum (G := ndV) (Q := fitN) (μ := cntT) hd G_ndL fun y hy hry => rd_nd _ y (Nat.le_refl _) (by omega) hry
  exact ⟨l, h1, ⟨by omega, h3⟩, by unfold cnt; omega⟩
theorem rd_vN (d : DataW H) (hb : Rows.uptoBulk d ≤ 1048576) (hd : Rd Tryz.prog 22 d) : ∃ vs : List Va, dV d = .sl (vs.map vaV) .ro ∧ vs.length ≤ 2097152 ∧ fitVN vs := by
  obtain ⟨l, e1, e2, e3⟩ := slice_of (G := vaV) (Q := fun v : Va => fit v.ty ∧ v.name.size ≤ 9223372036854775807) hd G_vaL fun x hx hr => by
    obtain ⟨ps, rfl, hps⟩ := hr.agg_inv G_va
    match ps, hps with
    | [d1, d2], ⟨h1, h2, _⟩ =>
      obtain ⟨s, rfl, hs⟩ := h1.string_inv Tryz.underlying9
      simp only [Rows.uptoBulk, Rows.uptoBulkAll] at hx
      obtain ⟨t, q1, q2, _⟩ := rd_ty _ d2 (Nat.le_refl _) (by omega) h2
      refine ⟨⟨s, t⟩, ?_, q2, Nat.le_trans hs (by decide)⟩
      simp only [dV, dVF, q1, tyV_eq, vaV_eq, V.cells, List.append_nil, List.cons_append, List.nil_append]
  exact ⟨l, e1, by omega, e3⟩
theorem rd_sc (d : DataW H) (hb : Rows.uptoBulk d ≤ 1048576) (hd : Rd Tryz.prog 91 d) : ∃ s : Sec, dV d = scV s ∧ s.name.size ≤ 9223372036854775807 := by
  obtain ⟨ps, rfl, hps⟩ := hd.agg_inv G_sc
  match ps, hps with
  | [d1, d2, d3, d4, d5], ⟨h1, h2, h3, h4, h5, _⟩ =>
    obtain ⟨s, rfl, hs⟩ := h1.string_inv Tryz.underlying9
    obtain ⟨a, rfl, ha⟩ := h2.int_inv G_u32
    obtain ⟨w, rfl⟩ := h4.bool_inv Tryz.underlying4
    obtain ⟨x, rfl⟩ := h5.bool_inv Tryz.underlying4
    obtain ⟨l, e1, _, _⟩ := slice_of (G := fun b : UInt8 => V.im (.int .u8 b.toNat)) (Q := fun _ => True) h3 G_byL fun y _ hr => by
      obtain ⟨n, rfl, hn⟩ := hr.int_inv G_by
      have hn : 0 ≤ n ∧ n ≤ 255 := hn
      refine ⟨UInt8.ofNat n.toNat, ?_, trivial⟩
      simp only [dV, UInt8.toNat_ofNat']
      congr 2
      omega
    refine ⟨⟨s, a, l, w, x⟩, ?_, Nat.le_trans hs (by decide)⟩
    simp only [dV, dVF, e1, scV, V.cells, List.append_nil, List.cons_append, List.nil_append]
theorem rd_fn (d : DataW H) (hb : Rows.uptoBulk d ≤ 1048576) (hd : Rd Tryz.prog 37 d) : ∃ f : Fun, dV d = fnV f ∧ fitFn f := by
  obtain ⟨ps, rfl, hps⟩ := hd.agg_inv G_fn
  match ps, hps with
  | [d1, d2, d3], ⟨h1, h2, h3, _⟩ =>
    obtain ⟨s, rfl, hs⟩ := h1.string_inv Tryz.underlying9
    simp only [Rows.uptoBulk, Rows.uptoBulkAll] at hb
    obtain ⟨vs, e1, e2, e3⟩ := rd_vN d2 (by omega) h2
    obtain ⟨l, l1, l2, l3⟩ := rd_nl d3 (by omega) h3
    refine ⟨⟨s, vs, l⟩, ?_, ⟨e2, e3, l2, Nat.le_trans l3 (by omega), Nat.le_trans hs (by decide)⟩⟩
    simp only [dV, dVF, e1, l1, fnV, V.cells, List.append_nil, List.cons_append, List.nil_append]
theorem rd_un (d : DataW H) (hb : Rows.uptoBulk d ≤ 1048576) (hd : Rd Tryz.prog 26 d) : ∃ u : Un, dV d = unV u ∧ fitU u := by
  obtain ⟨ps, rfl, hps⟩ := hd.agg_inv G_un
  match ps, hps with
  | [d1, d2, d3], ⟨h1, h2, h3, _⟩ =>
    simp only [Rows.uptoBulk, Rows.uptoBulkAll] at hb
    obtain ⟨vs, e1, e2, e3⟩ := rd_vN d1 (by omega) h1
    obtain ⟨l, l1, l2, l3⟩ := slice_of (G := scV) (Q := fun s : Sec => s.name.size ≤ 9223372036854775807) h2 G_scL fun x hx hr => rd_sc x (by omega) hr
    obtain ⟨fs, f1, f2, f3⟩ := slice_of (G := fnV) (Q := fitFn) h3 G_fnL fun x hx hr => rd_fn x (by omega) hr
    refine ⟨⟨vs, l, fs⟩, ?_, ⟨e2, e3, Nat.le_trans l2 (by omega), l3, Nat.le_trans f2 (by omega), f3⟩⟩
    simp only [dV, dVF, e1, l1, f1, unV, V.cells, List.append_nil, List.cons_append, List.nil_append]
end Go.Proofs.YtfggemopnlffeaaGreat
