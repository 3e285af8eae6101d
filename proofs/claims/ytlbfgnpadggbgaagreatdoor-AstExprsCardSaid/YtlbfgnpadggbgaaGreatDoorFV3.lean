/- AstExprs: decompilerlaw38.AstExprs returns true for every input (each string and slice of it within the form's own reach), where the listed package-level variables hold what the program's text lays in them, and what came in reads as it did. Proved by walking through the code on trees of values. -/
import Derived.Test.YtlbfgnpadggbgaaGreatDoorLz
import Derived.Test.YtlbfgnpadggbgaaGreatDoorED
import Derived.JoinedCond
import Derived.Deep.DeepWitnessRowRef
namespace Go.Proofs.YtlbfgnpadggbgaaGreatDoor
open Go.RowKit
section
variable {H : Type} {P : Program}
def Wt (P : Program) (t : TypeId) (d : DataW H) : Prop := ∀ n ∈ d.weights P t, n ≤ reachBytes
def WtL (P : Program) : List TypeId → List (DataW H) → Prop
  | t :: ts, x :: xs => Wt P t x ∧ WtL P ts xs
  | _, _ => True
theorem WtL_of : ∀ {ts : List TypeId} {ds : List (DataW H)}, (∀ n ∈ DataW.weightsEach P ts ds, n ≤ reachBytes) → WtL P ts ds
  | t :: ts, x :: xs, h => ⟨fun n hn => h n (by simp only [DataW.weightsEach]; exact List.mem_append_left _ hn), WtL_of fun n hn => h n (by simp only [DataW.weightsEach]; exact List.mem_append_right _ hn)⟩
  | [], _, _ => by simp only [WtL]
  | _ :: _, [], _ => by simp only [WtL]
theorem WtL_all {ts : List TypeId} {ds : List (DataW H)} (h : (DataW.weightsEach P ts ds).all (· ≤ reachBytes) = true) : WtL P ts ds :=
  WtL_of fun n hn => of_decide_eq_true (List.all_eq_true.1 h n hn)
theorem Wt.agg {t : TypeId} {ts : List TypeId} {ps : List (DataW H)} (h : Wt P t (.agg ps)) (ht : ftOf P t = some ts) : WtL P ts ps := by
  refine WtL_of fun n hn => h n ?_
  unfold ftOf at ht
  simp only [DataW.weights]
  cases hu : P.underlying t with
  | none => rw [hu] at ht; cases ht
  | some u =>
    rw [hu] at ht
    cases u with
    | struct fs => cases ht; exact hn
    | _ => cases ht
theorem wAll {e : TypeId} {x : DataW H} {n : Nat} : ∀ {es : List (DataW H)}, x ∈ es → n ∈ x.weights P e → n ∈ DataW.weightsAll P e es
  | y :: r, h, hn => by
    simp only [DataW.weightsAll]
    rcases List.mem_cons.1 h with rfl | h
    · exact List.mem_append_left _ hn
    · exact List.mem_append_right _ (wAll h hn)
theorem Wt.slice {t e : TypeId} {es sp : List (DataW H)} (h : Wt P t (.slice es sp)) (ht : elOf P t = some e) (hz : decide (1 ≤ P.bytesOf e) = true) : es.length ≤ 140737488355328 ∧ ∀ x ∈ es, Wt P e x := by
  have hz := of_decide_eq_true hz
  have hw : ∀ n, n ∈ (es.length + sp.length) * P.bytesOf e :: (DataW.weightsAll P e es ++ DataW.weightsAll P e sp) → n ≤ reachBytes := fun n hn => h n (by
    unfold elOf at ht
    simp only [DataW.weights]
    cases hu : P.underlying t with
    | none => rw [hu] at ht; cases ht
    | some u =>
      rw [hu] at ht
      cases u with
      | slice e' => cases ht; exact hn
      | _ => cases ht)
  constructor
  · have h1 := hw _ (List.mem_cons_self ..)
    have h2 : es.length + sp.length ≤ (es.length + sp.length) * P.bytesOf e := Nat.le_mul_of_pos_right _ hz
    have h3 : reachBytes = 140737488351232 := rfl
    omega
  · exact fun x hx n hn => hw n (List.mem_cons_of_mem _ (List.mem_append_left _ (wAll hx hn)))
theorem slice_ofW {α : Type} {G : α → V} {Q : α → Prop} {d : DataW H} {t e : TypeId} (hd : Rd P t d) (hw : Wt P t d) (ht : elOf P t = some e) (hz : decide (1 ≤ P.bytesOf e) = true)
    (h : ∀ x : DataW H, Rows.uptoBulk x < Rows.uptoBulk d → Rd P e x → Wt P e x → ∃ a, dV x = G a ∧ Q a) : ∃ l : List α, dV d = .sl (l.map G) .ro ∧ l.length ≤ 140737488355328 ∧ ∀ a ∈ l, Q a := by
  rcases hd.slice_inv ht with rfl | ⟨es, sp, rfl, hes⟩
  · exact ⟨[], by simp [dV], by simp, fun a ha => by cases ha⟩
  · have h0 := bulk_sl es sp
    obtain ⟨w1, w2⟩ := hw.slice ht hz
    obtain ⟨l, h1, h2, h3⟩ := list_of (G := G) (Q := Q) (es := es) fun x hx => h x (by have := bulk_mem hx; omega) (hes x hx) (w2 x hx)
    exact ⟨l, by simp [dV, h1], by omega, h3⟩
end
inductive FitEW : Ex → Prop
  | mk {o n : Int} {s : ByteArray} {w : Int} {l : List Ex} (h0 : I64 o ∧ (0 ≤ n ∧ n ≤ 4294967295) ∧ I64 w) (h1 : l.length ≤ 140737488355328) (h2 : s.size ≤ 9223372036854775807) (h3 : ∀ t ∈ l, FitEW t) : FitEW (.mk o n s w l)
theorem FitEW.inv {o n : Int} {s : ByteArray} {w : Int} {l : List Ex} (h : FitEW (.mk o n s w l)) : (I64 o ∧ (0 ≤ n ∧ n ≤ 4294967295) ∧ I64 w) ∧ l.length ≤ 140737488355328 ∧ s.size ≤ 9223372036854775807 ∧ ∀ t ∈ l, FitEW t := by
  cases h with
  | mk h0 h1 h2 h3 => exact ⟨h0, h1, h2, h3⟩
inductive FitW : Ty → Prop
  | mk {o k s c : Int} {es fs : List Ty} (h0 : I64 o ∧ I64 k ∧ I64 s ∧ I64 c) (h1 : es.length ≤ 140737488355328) (h2 : fs.length ≤ 140737488355328) (h3 : ∀ t ∈ es, FitW t) (h4 : ∀ t ∈ fs, FitW t) : FitW (.mk o k s c es fs)
theorem FitW.inv {o k s c : Int} {es fs : List Ty} (h : FitW (.mk o k s c es fs)) : (I64 o ∧ I64 k ∧ I64 s ∧ I64 c) ∧ es.length ≤ 140737488355328 ∧ fs.length ≤ 140737488355328 ∧ (∀ t ∈ es, FitW t) ∧ ∀ t ∈ fs, FitW t := by
  cases h with
  | mk h0 h1 h2 h3 h4 => exact ⟨h0, h1, h2, h3, h4⟩
theorem rd_tyW {H : Type} : ∀ (N : Nat) (d : DataW H), Rows.uptoBulk d ≤ N → Rd Tryz.prog 63 d → Wt Tryz.prog 63 d → ∃ t : Ty, dV d = tyV t ∧ FitW t ∧ t.off = 0 := by
  intro N
  induction N using Nat.strongRecOn with
  | _ N ih =>
    intro d hb hd hw
    obtain ⟨ps, rfl, hps⟩ := hd.agg_inv G_ty
    have hq := hw.agg G_ty
    clear hw
    match ps, hps with
    | [d1, d2, d3, d4, d5], ⟨h1, h2, h3, h4, h5, _⟩ =>
      obtain ⟨_, _, _, w4, w5, _⟩ := hq
      obtain ⟨k, rfl, hk⟩ := h1.int_inv G_int
      obtain ⟨s, rfl, hs⟩ := h2.int_inv G_int
      obtain ⟨c, rfl, hc⟩ := h3.int_inv G_int
      simp only [Rows.uptoBulk, Rows.uptoBulkAll] at hb
      obtain ⟨es, e1, e2, e3⟩ := slice_ofW (G := tyV) (Q := FitW) h4 w4 G_tyL (by kernel_rfl) fun x hx hr hwx => by
        obtain ⟨t, q1, q2, _⟩ := ih (Rows.uptoBulk x) (by omega) x (Nat.le_refl _) hr hwx
        exact ⟨t, q1, q2⟩
      obtain ⟨fs, f1, f2, f3⟩ := slice_ofW (G := fdV) (Q := FitW) h5 w5 G_fdL (by kernel_rfl) fun x hx hr hwx => by
        obtain ⟨qs, rfl, hqs⟩ := hr.agg_inv G_fd
        have hqw := hwx.agg G_fd
        clear hwx
        match qs, hqs with
        | [x1, x2], ⟨r1, r2, _⟩ =>
          obtain ⟨_, v2, _⟩ := hqw
          obtain ⟨o, rfl, ho⟩ := r1.int_inv G_int
          simp only [Rows.uptoBulk, Rows.uptoBulkAll] at hx
          obtain ⟨t, q1, q2, _⟩ := ih (Rows.uptoBulk x2) (by omega) x2 (Nat.le_refl _) r2 v2
          refine ⟨.mk o t.kind t.size t.count t.elem t.fields, ?_, ?_⟩
          · simp only [dV, dVF, q1, tyV_eq, fdV_eq, V.cells, List.append_nil, List.cons_append, List.nil_append, Ty.off, Ty.kind, Ty.size, Ty.count, Ty.elem, Ty.fields]
          · cases t with
            | mk o' k s c es fs => exact .mk ⟨I64_of ho, q2.inv.1.2⟩ q2.inv.2.1 q2.inv.2.2.1 q2.inv.2.2.2.1 q2.inv.2.2.2.2
      refine ⟨.mk 0 k s c es fs, ?_, .mk ⟨by unfold I64; omega, I64_of hk, I64_of hs, I64_of hc⟩ e2 f2 e3 f3, rfl⟩
      simp only [dV, dVF, e1, f1, tyV_mk, V.cells, List.append_nil, List.cons_append, List.nil_append]
theorem rd_vaW {H : Type} (d : DataW H) (hd : Rd Tryz.prog 66 d) (hw : Wt Tryz.prog 66 d) : ∃ v : Va, dV d = vaV v ∧ FitW v.ty := by
  obtain ⟨ps, rfl, hps⟩ := hd.agg_inv G_va
  have hq := hw.agg G_va
  clear hw
  match ps, hps with
  | [d1, d2], ⟨h1, h2, _⟩ =>
    obtain ⟨_, w2, _⟩ := hq
    obtain ⟨s, rfl, hs⟩ := h1.string_inv Tryz.underlying9
    obtain ⟨t, e1, e2, _⟩ := rd_tyW _ d2 (Nat.le_refl _) h2 w2
    refine ⟨⟨s, t⟩, ?_, e2⟩
    simp only [dV, dVF, e1, tyV_eq, vaV_eq, V.cells, List.append_nil, List.cons_append, List.nil_append]
theorem rd_vsW {H : Type} (d : DataW H) (hd : Rd Tryz.prog 26 d) (hw : Wt Tryz.prog 26 d) : ∃ vs : List Va, dV d = .sl (vs.map vaV) .ro ∧ vs.length ≤ 140737488355328 ∧ ∀ v ∈ vs, FitW v.ty :=
  slice_ofW (G := vaV) (Q := fun v : Va => FitW v.ty) hd hw G_vaL (by kernel_rfl) fun x hx hr hwx => rd_vaW x hr hwx
theorem rd_exW {H : Type} : ∀ (N : Nat) (d : DataW H), Rows.uptoBulk d ≤ N → Rd Tryz.prog 25 d → Wt Tryz.prog 25 d → ∃ t : Ex, dV d = exV t ∧ FitEW t := by
  intro N
  induction N using Nat.strongRecOn with
  | _ N ih =>
    intro d hb hd hw
    obtain ⟨ps, rfl, hps⟩ := hd.agg_inv G_ex
    have hq := hw.agg G_ex
    clear hw
    match ps, hps with
    | [d1, d2, d3, d4, d5], ⟨h1, h2, h3, h4, h5, _⟩ =>
      obtain ⟨_, _, _, _, w5, _⟩ := hq
      obtain ⟨o, rfl, ho⟩ := h1.int_inv G_int
      obtain ⟨n, rfl, hn⟩ := h2.int_inv G_u32
      obtain ⟨s, rfl, hs⟩ := h3.string_inv Tryz.underlying9
      obtain ⟨w, rfl, hw⟩ := h4.int_inv G_int
      simp only [Rows.uptoBulk, Rows.uptoBulkAll] at hb
      obtain ⟨l, e1, e2, e3⟩ := slice_ofW (G := exV) (Q := FitEW) h5 w5 G_exL (by kernel_rfl) fun x hx hr hwx => ih (Rows.uptoBulk x) (by omega) x (Nat.le_refl _) hr hwx
      refine ⟨.mk o n s w l, ?_, .mk ⟨I64_of ho, U32_of hn, I64_of hw⟩ e2 (Nat.le_trans hs (by decide)) e3⟩
      simp only [dV, dVF, e1, exV_mk, V.cells, List.append_nil, List.cons_append, List.nil_append]
theorem gfold_non {α : Type} {f : α → Int → Int} : ∀ (l : List α) {n : Int}, ¬ 0 < n → gfold f l n = n
  | [], _, _ => rfl
  | y :: r, n, h => by
    have e : gfold f (y :: r) n = gfold f r n := by
      unfold gfold
      rw [List.foldl_cons, if_neg h]
    rw [e]
    exact gfold_non r h
theorem gfold_cons {α : Type} {f : α → Int → Int} {y : α} {r : List α} {n : Int} (h : 0 < gfold f (y :: r) n) : 0 < n ∧ 0 < gfold f r (f y n) ∧ gfold f (y :: r) n = gfold f r (f y n) := by
  by_cases hn : 0 < n
  · have e : gfold f (y :: r) n = gfold f r (f y n) := by
      unfold gfold
      rw [List.foldl_cons, if_pos hn]
    exact ⟨hn, e ▸ h, e⟩
  · rw [gfold_non _ hn] at h
    exact absurd h hn
theorem gfold_mem {α : Type} {f : α → Int → Int} : ∀ {l : List α}, (∀ t ∈ l, ∀ n, 0 < n → f t n < n) → ∀ {n : Int}, 0 < gfold f l n → (l.length : Int) + gfold f l n ≤ n ∧ ∀ x ∈ l, ∃ m, m ≤ n ∧ 0 < f x m
  | [], _, n, h => ⟨by show ((0 : Nat) : Int) + n ≤ n; omega, fun x hx => by cases hx⟩
  | y :: r, hb, n, h => by
    obtain ⟨h1, h2, h3⟩ := gfold_cons h
    obtain ⟨i1, i2⟩ := gfold_mem (fun t ht => hb t (List.mem_cons_of_mem _ ht)) h2
    have hy := hb y (List.mem_cons_self ..) n h1
    refine ⟨by rw [h3, List.length_cons]; omega, fun x hx => ?_⟩
    rcases List.mem_cons.1 hx with rfl | hx
    · exact ⟨n, Int.le_refl _, by omega⟩
    · obtain ⟨m, m1, m2⟩ := i2 x hx
      exact ⟨m, by omega, m2⟩
theorem fit_exn : ∀ (t : Ex), FitEW t → ∀ {n : Int}, 0 < exn t n → n ≤ 4194304 → fitE t := by
  refine Ex.induct fun o k s w l hE => ?_
  intro hf n h hn
  obtain ⟨h0, h1, h2, h3⟩ := hf.inv
  rw [exn_mk] at h
  obtain ⟨i1, i2⟩ := gfold_mem (fun t _ m hm => (exn_bound t m hm).2) h
  refine fitE_mk' h0 (by omega) h2 fun t ht => ?_
  obtain ⟨m, m1, m2⟩ := i2 t ht
  exact hE t ht (h3 t ht) m2 (by omega)
theorem c_sizeEW : ∀ (t : Ex), FitEW t → ∀ n : Int, 0 < n → n ≤ 4194304 → PC Tryz.prog 4 [exV t, (.im (.int .i64 (n)))] (.im (.int .i64 (exn t n))) := by
  refine Ex.induct fun o k s w l hL => ?_
  intro hfit n hn hn2
  obtain ⟨_, hl1, _, hfL⟩ := hfit.inv
  have hw : IntKind.i64.wrap (n - 1) = n - 1 := wrap_in (by omega)
  rw [exn_mk]
  refine PC.enter 27 Tryz.func4 rfl (by decide) rfl rfl (s := [(0, exV (.mk o k s w l)), (1, (.im (.int .i64 (n))))]) (by rfl) ?_
  simp only [exV_mk]
  refine wG Y4_E3 hw ?_
  refine AWp.loop ?_
  refine ALp.cutP 1 [(1, (.im (.int .i64 (gfold exn (l.take (0)) (n - 1))))), (2, .pt 0 0), (5, (.im (.int .i64 ((((0 : Nat)) : Int)))))] [.box [.im (.int .i64 o), .im (.int .u32 k), .im (.string s), .im (.int .i64 w), .sl (l.map exV) .ro]] (And.intro (@exL_id) (And.intro (@vaL_id) (And.intro (@exV_id) @vaV_id))) ?_
  refine ALp.upto l.length (fun _ => True) (fun m => ⟨dn 27 [(1, (.im (.int .i64 (gfold exn (l.take (m)) (n - 1))))), (2, .pt 0 0), (5, (.im (.int .i64 ((((m : Nat)) : Int)))))], ofl [.box [.im (.int .i64 o), .im (.int .u32 k), .im (.string s), .im (.int .i64 w), .sl (l.map exV) .ro]]⟩) ?_ 0 (Nat.zero_le _) trivial
  intro m hm _ hnext
  refine wG Y4_E3 @Int.natCast_nonneg ?_
  refine AWp.condAB rfl rfl (fun hE => ?_) (fun hE => ?_)
  · obtain ⟨hlt, hp⟩ := pair_cond hE
    have hlt' : (m : Int) < (l.length : Int) := by omega
    have hm1 := wrap_succ hlt (by omega)
    have hb := gfold_bound (f := exn) (l := l.take m) (fun t _ => exn_bound t) (n - 1) (by omega)
    have hc := hL l[m] (List.getElem_mem hlt) (hfL _ (List.getElem_mem hlt)) _ hp (by omega)
    rw [← gfold_take hlt hp] at hc
    have hg := get_some hlt
    refine wG Y4_E3 (And.intro hlt' (And.intro hg (And.intro (@Int.natCast_nonneg) (And.intro (@exV_firm) (And.intro (@exV_strip) (And.intro (@exV_live) (And.intro (@exV_size) (And.intro (@exV_isAg) (And.intro (@exV_cells) @List.getElem?_map.{0, 0}))))))))) ?_
    refine AR.callP hc @exV_eq (And.intro (@exL_id) (And.intro (@vaL_id) (And.intro (@exV_id) @vaV_id))) ?_
    refine goG Y4_E3 True.intro ?_
    refine wG Y4_E3 hm1 ?_
    refine ALp.cutP 1 [(1, (.im (.int .i64 (gfold exn (l.take (m + 1)) (n - 1))))), (2, .pt 0 0), (5, (.im (.int .i64 ((((m + 1 : Nat)) : Int)))))] [.box [.im (.int .i64 o), .im (.int .u32 k), .im (.string s), .im (.int .i64 w), .sl (l.map exV) .ro]] (And.intro (@exL_id) (And.intro (@vaL_id) (And.intro (@exV_id) @vaV_id))) ?_
    exact hnext (m + 1) (by omega) (by omega) trivial
  rw [pair_stop (fun t _ => exn_bound t) hm (by omega) hE]
  clear hnext hE
  refine wG Y4_E3 True.intro ?_
  exact Fin.oneP
theorem c_exprs38W (e : Ex) (vs : List Va) (he : FitEW e) (hv : vs.length ≤ 140737488355328) : PC Tryz.prog 3 [exV e, (V.sl (vs.map vaV) .ro)] (.im (.bool (true))) := by
  have qx := c_ex38
  have q1 := c_sizeEW e he 3000 (by decide) (by decide)
  by_cases pa : 0 < exn e 3000
  case neg =>
    have pa' : exn e 3000 ≤ 0 := by omega
    refine PC.enter 31 Tryz.func3 rfl (by decide) rfl rfl (s := [(0, exV e), (1, (V.sl (vs.map vaV) .ro))]) (by rfl) ?_
    refine wG Y3_ED EX ?_
    refine AR.callP q1 @exV_eq (And.intro (@exL_id) (And.intro (@exV_id) (And.intro (@vaL_id) @vaV_id))) ?_
    refine goG Y3_ED (And.intro pa' EX) ?_
    refine wG Y3_ED EX ?_
    refine AR.callP qx True.intro (And.intro (@exL_id) (And.intro (@exV_id) (And.intro (@vaL_id) @vaV_id))) ?_
    refine goG Y3_ED True.intro ?_
    refine wG Y3_ED True.intro ?_
    exact Fin.oneP
  have pa' : ¬ exn e 3000 ≤ 0 := by omega
  by_cases pb : vs.length > 600
  case pos =>
    have pb' : (vs.length : Int) > 600 := by omega
    refine PC.enter 31 Tryz.func3 rfl (by decide) rfl rfl (s := [(0, exV e), (1, (V.sl (vs.map vaV) .ro))]) (by rfl) ?_
    refine wG Y3_ED EX ?_
    refine AR.callP q1 @exV_eq (And.intro (@exL_id) (And.intro (@exV_id) (And.intro (@vaL_id) @vaV_id))) ?_
    refine goG Y3_ED (And.intro pa' (And.intro EX (And.intro (@List.length_map.{0, 0}) pb'))) ?_
    refine wG Y3_ED EX ?_
    refine AR.callP qx True.intro (And.intro (@exL_id) (And.intro (@exV_id) (And.intro (@vaL_id) @vaV_id))) ?_
    refine goG Y3_ED True.intro ?_
    refine wG Y3_ED True.intro ?_
    exact Fin.oneP
  have pb' : ¬ (vs.length : Int) > 600 := by omega
  have he : fitE e := fit_exn e he pa (by decide)
  have la := prE_len (n32_fitE e he) pa (by decide)
  have q2 := c_CheckE vs (by omega) e he
  have q3 := c_CheckER vs (by omega) e he
  have q4 := c_PrintExpr e he (by omega)
  have q5 := c_PrintExprR e he (by omega)
  generalize prE e = s at la q4 q5
  generalize chkE vs e = r at q2 q3
  have hs : (s == s) = true := by simp
  refine PC.enter 31 Tryz.func3 rfl (by decide) rfl rfl (s := [(0, exV e), (1, (V.sl (vs.map vaV) .ro))]) (by rfl) ?_
  refine wG Y3_ED EX ?_
  refine AR.callP q1 @exV_eq (And.intro (@exL_id) (And.intro (@exV_id) (And.intro (@vaL_id) @vaV_id))) ?_
  refine goG Y3_ED (And.intro pa' (And.intro EX (And.intro (@List.length_map.{0, 0}) pb'))) ?_
  refine wdG Y3_ED EX ?_
  refine AR.callP q2 @exV_eq (And.intro (@exL_id) (And.intro (@exV_id) (And.intro (@vaL_id) @vaV_id))) ?_
  refine goG Y3_ED EX ?_
  refine AR.callP q3 @exV_eq (And.intro (@exL_id) (And.intro (@exV_id) (And.intro (@vaL_id) @vaV_id))) ?_
  refine goG Y3_ED EX ?_
  refine AR.callP q4 @exV_eq (And.intro (@exL_id) (And.intro (@exV_id) (And.intro (@vaL_id) @vaV_id))) ?_
  refine goG Y3_ED EX ?_
  refine AR.callP q5 @exV_eq (And.intro (@exL_id) (And.intro (@exV_id) (And.intro (@vaL_id) @vaV_id))) ?_
  refine goG Y3_ED (And.intro BY hs) ?_
  refine AR.callP qx True.intro (And.intro (@exL_id) (And.intro (@exV_id) (And.intro (@vaL_id) @vaV_id))) ?_
  refine goG Y3_ED True.intro ?_
  refine wdG Y3_ED True.intro ?_
  exact Fin.oneP
end Go.Proofs.YtlbfgnpadggbgaaGreatDoor
namespace Go.Proofs.YtlbfgnpadggbgaaGreatDoor
open Go.RowKit Go.ChangeShapes Go.WideShapes Go.WideMaps Go.WideElems
section
variable {H : Type} {enc : TypeId × Value → H} {P : Program} {W : World}
theorem law_full {f : FuncId} {fn : Func} {s : ChangeSpec} {L : List TypeId} {B : TypeId} {b : Nat} {args : Array Value} {ds gs : List (DataW H)} {before : List MemPlace} (hL : okTy P L = true) (hl : laidOutB P = true) (hpar : ∀ t ∈ fn.params.toList, t ∈ L ∧ P.readableRec t = true ∧ t < P.types.size)
    (hvars : s.vars = []) (hres : fn.resultTypes = #[B]) (hB : P.underlying B = some .bool) (hs : ∀ ds : List (DataW H), RdL P fn.params.toList ds → s.fn H (ds ++ []) = { results := [.lit (.bool true)], args := ds })
    (hP : ∀ ds : List (DataW H), RdL P fn.params.toList ds → (DataW.weightsEach P fn.params.toList ds).all (· ≤ reachBytes) = true → PC P f (ds.map dV) (.im (.bool true)))
    (hval : ∀ (j : Nat) t v, fn.params[j]? = some t → args[j]? = some v → Value.okWide P W .any b t v) (hW : DataW.Whole enc P fn.params.toList s.vars false W args.toList ds gs before)
    {X : List TypeId} (hk : (DataW.weightsEach P (fn.params.toList ++ X) (ds ++ gs)).all (· ≤ reachBytes) = true) (hX : X = []) (hg : (Cf.raw W).known) :
    Calls P f args W fun e W' => ∃ v, e = .returned v ∧ s.post enc P fn false true false false W args v W' := by
  have hlt := hW.lt
  have hW' := hW
  obtain ⟨p, q, hA, hV, rfl, _, _⟩ := hW
  rw [hvars] at hV
  obtain ⟨rfl, rfl⟩ := trodVars_none hV
  obtain ⟨h1, h2, h3⟩ := args_of hL (b := b) _ _ _ _ (fun t ht => (hpar t ht).1) (fun j t v h4 h5 => hval j t v (by simpa using h4) (by simpa using h5)) hA
  have hb : (DataW.weightsEach P fn.params.toList ds).all (· ≤ reachBytes) = true := by rwa [hX, List.append_nil, List.append_nil] at hk
  refine ((hP ds h1 hb).2 (Cf.raw W) args rfl (raw_ok hg) (by simpa using h2) (fun i hi => ?_)).mono ?_
  · have := h3 i hi
    simpa [List.getD, Array.getD_eq_getD_getElem?] using this
  · rintro e W' ⟨v, x, st', rfl, ⟨rfl, rfl⟩, D, rfl, _, _, hE, hR⟩
    have hBel := raw_below hE
    obtain rfl := hR.of_some_bool
    refine ⟨_, rfl, ds, [], _, [], p, [], hW', ?_, ?_, ?_, hBel.frame _, fun h => by cases h⟩
    · rw [hs ds h1, hres]
      exact trodAll_mk1 (shut_bool hB true)
    · rw [hs ds h1]
      exact args_stay hl hBel _ _ _ _ (fun t ht => (hpar t ht).2) (fun x hx => hlt x (by simp [hx])) hA
    · rw [hs ds h1, hvars]
      rfl
end
end Go.Proofs.YtlbfgnpadggbgaaGreatDoor
namespace Go.Proofs.YtlbfgnpadggbgaaGreatDoor.astExprs
set_option linter.unusedSimpArgs false
set_option linter.unusedVariables false
set_option linter.unnecessarySimpa false
open Go.RowKit

theorem own : ownKnob Tryz.prog.godebug = none := by kernel_rfl
theorem tys : okTy Tryz.prog [25, 3, 22, 9, 23, 26, 66, 63, 123, 60, 61] = true := by kernel_rfl
theorem laid : laidOutB Tryz.prog = true := by kernel_rfl
theorem pars : (Tryz.f3.params.toList.all fun t => [25, 3, 22, 9, 23, 26, 66, 63, 123, 60, 61].contains t && Tryz.prog.readableRec t && decide (t < Tryz.prog.types.size)) = true := by kernel_rfl
theorem trees {H : Type} (ds : List (DataW H)) (h : RdL Tryz.prog Tryz.f3.params.toList ds) (hb : (DataW.weightsEach Tryz.prog Tryz.f3.params.toList ds).all (· ≤ reachBytes) = true) : PC Tryz.prog 3 (ds.map dV) (.im (.bool true)) := by
  rw [Tryz.params3] at h hb
  match ds, h with
  | [d1, d2], ⟨h1, h2, _⟩ =>
    obtain ⟨w1, w2, _⟩ := WtL_all hb
    obtain ⟨x1, e1, f1⟩ := rd_exW _ _ (Nat.le_refl _) h1 w1
    obtain ⟨x2, e2, f2⟩ := rd_vsW _ h2 w2
    simp only [List.map_cons, List.map_nil, dV, e1, e2]
    exact c_exprs38W x1 x2 f1 f2.1

set_option maxRecDepth 100000 in
theorem lifted (os : Os) (started : os.Started) (H : Type) (enc : TypeId × Value → H) (F : Stop.Interp) :
    ReturnsInHanded {} Tryz.checked os 3 .any ((OpenSpec.ofChange Rows.astExprsSpec).preRow enc Tryz.prog Tryz.f3 Rows.astExprsRow.domain false Rows.astExprsRow.laid) (((OpenSpec.ofChange Rows.astExprsSpec).at F).post enc Tryz.prog Tryz.f3 false true false false) := by
  have hx : DataW.whole enc Tryz.prog ((laidWorld os).forCall (fun _ _ => 0) ⟨#[], #[.agg #[.int .i64 0, .int .u32 0, .string .empty, .int .i64 0, .slice none 0 0], .slice none 0 0], []⟩).memory Tryz.f3.params.toList Rows.astExprsSpec.vars false #[(.agg #[.int .i64 0, .int .u32 0, .string .empty, .int .i64 0, .slice none 0 0] : Value), (.slice none 0 0 : Value)].toList 8 = some ([.agg [.lit (.int .i64 0), .lit (.int .u32 0), .lit (.string []), .lit (.int .i64 0), .nil], .nil], [], []) := by kernel_rfl
  refine returnsInHanded_of_row (C := Tryz.checked) (s := OpenSpec.ofChange Rows.astExprsSpec) own started (by kernel_rfl) Tryz.func3
    (witness_row_atRef (enc := enc) (C := Tryz.checked) false (laidWorld os) #[.agg #[.int .i64 0, .int .u32 0, .string .empty, .int .i64 0, .slice none 0 0], .slice none 0 0] rfl (by kernel_rfl) (by kernel_rfl) (by kernel_rfl)
      (OpenSpec.preRow_of_cond 8 hx (by kernel_rfl) (fun k hk => by cases hk) (by kernel_rfl) (laid_met os _))) ?_
  intro W base args ds gs before hval hW _ _ hwt hL hsh _
  refine law_full tys laid (fun t ht => ?_) rfl (by kernel_rfl) Tryz.underlying4 (fun ds hd => ?_) trees hval hW hwt (by rfl) (known_of hsh hL)
  · have := List.all_eq_true.1 pars t ht
    simp only [Bool.and_eq_true, decide_eq_true_eq, List.contains_iff_mem] at this
    exact ⟨this.1.1, this.1.2, this.2⟩
  · match ds, hd with
    | [d1, d2], _ => rfl

theorem said : Rows.AstExprsSaid :=
  OpenClaim.holds_of_cond 3 Tryz.f3 rfl rfl rfl rfl rfl rfl rfl ⟨rfl, rfl, rfl, rfl, rfl⟩ rfl rfl rfl rfl rfl (by kernel_rfl) Tryz.func3 (by kernel_rfl)
    (of_decide_eq_true (by kernel_rfl)) (by unfold Func.isWrapper; first | (rw [if_pos (by decide +kernel)]; kernel_rfl) | (rw [if_neg (by decide +kernel)]; exact ⟨rfl, rfl⟩))
    (fun os started H enc _ F => by rw [OpenClaim.pre_eq_preRow]; exact lifted os started H enc F)

/-- No parameter wants a stand-in; the program's own looks are off: what the card asks. -/
theorem plain (f : FuncId) (fn : Func) (hf : Tryz.pinned.checked.prog.funcNamed "decompiler/decompilerlaw38.AstExprs" = some f) (hfn : Tryz.pinned.checked.prog.funcs[f]? = some fn) :
    false = Tryz.pinned.checked.prog.looks [] ∧ ∀ (j : Nat) t, fn.params[j]? = some t → Tryz.pinned.checked.prog.wantsStandIn t = false := by
  obtain rfl : f = 3 := Option.some.inj ((show Tryz.prog.funcNamed "decompiler/decompilerlaw38.AstExprs" = some 3 by kernel_rfl).symm.trans hf) |>.symm
  obtain rfl : fn = Tryz.f3 := (Option.some.inj (Tryz.func3.symm.trans hfn)).symm
  refine ⟨by kernel_rfl, fun j t ht => ?_⟩
  rw [Tryz.params3] at ht
  have h := Array.mem_of_getElem? ht
  simp only [List.mem_toArray, List.mem_cons, List.not_mem_nil, or_false] at h
  rcases h with rfl | rfl
  · exact (show Tryz.prog.wantsStandIn 25 = false by kernel_rfl)
  · exact (show Tryz.prog.wantsStandIn 26 = false by kernel_rfl)

theorem proved : Rows.AstExprsCardSaid :=
  Claim7.holds_tied_plain_at .later [] _ _ _ _ said (fun _ h => by cases h) (by kernel_rfl) (fun _ h => by cases h) astExprs_row_tie rfl ⟨rfl, rfl⟩ (by kernel_rfl) rfl plain (by kernel_rfl)
end Go.Proofs.YtlbfgnpadggbgaaGreatDoor.astExprs
