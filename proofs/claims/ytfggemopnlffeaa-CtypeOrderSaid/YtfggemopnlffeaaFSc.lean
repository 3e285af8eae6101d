/- CtypeOrder: decompilerlaw41.CtypeOrder returns true for every input (each string and slice of it within the form's own reach), and what came in reads as it did. Proved by walking through the code on trees of values. -/
import Derived.Test.YtfggemopnlffeaaLf
import Derived.Test.YtfggemopnlffeaaCB
import Derived.JoinedCond
namespace Go.Proofs.Ytfggemopnlffeaa
open Go.RowKit
section
variable {H : Type} {P : Program}
def Wt (P : Program) (t : TypeId) (d : DataW H) : Prop := ∀ n ∈ d.weights P t, n ≤ reachBytes
def WtL (P : Program) : List TypeId → List (DataW H) → Prop
  | t :: ts, x :: xs => Wt P t x ∧ WtL P ts xs
  | _, _ => True
theorem WtL_of : ∀ {ts : List TypeId} {ds : List (DataW H)}, (∀ n ∈ DataW.weightsEach P ts ds, n ≤ reachBytes) → WtL P ts ds
  | t :: ts, x :: xs, h => ⟨fun n hn => h n (by simp only [DataW.weightsEach]; exact List.mem_append_left _ hn), WtL_of fun n hn => h n (by simp only [DataW.weightsEach]; exact List.mem_append_right _ hn)⟩
  | [], _, _ => by simp only [WtL]
  | _ :: _, [], _ => by simp only [WtL]
theorem WtL_all {ts : List TypeId} {ds : List (DataW H)} (h : (DataW.weightsEach P ts ds).all (· ≤ reachBytes) = true) : WtL P ts ds :=
  WtL_of fun n hn => of_decide_eq_true (List.all_eq_true.1 h n hn)
theorem Wt.agg {t : TypeId} {ts : List TypeId} {ps : List (DataW H)} (h : Wt P t (.agg ps)) (ht : ftOf P t = some ts) : WtL P ts ps := by
  refine WtL_of fun n hn => h n ?_
  unfold ftOf at ht
  simp only [DataW.weights]
  cases hu : P.underlying t with
  | none => rw [hu] at ht; cases ht
  | some u =>
    rw [hu] at ht
    cases u with
    | struct fs => cases ht; exact hn
    | _ => cases ht
theorem wAll {e : TypeId} {x : DataW H} {n : Nat} : ∀ {es : List (DataW H)}, x ∈ es → n ∈ x.weights P e → n ∈ DataW.weightsAll P e es
  | y :: r, h, hn => by
    simp only [DataW.weightsAll]
    rcases List.mem_cons.1 h with rfl | h
    · exact List.mem_append_left _ hn
    · exact List.mem_append_right _ (wAll h hn)
theorem Wt.slice {t e : TypeId} {es sp : List (DataW H)} (h : Wt P t (.slice es sp)) (ht : elOf P t = some e) (hz : decide (1 ≤ P.bytesOf e) = true) : es.length ≤ 140737488355328 ∧ ∀ x ∈ es, Wt P e x := by
  have hz := of_decide_eq_true hz
  have hw : ∀ n, n ∈ (es.length + sp.length) * P.bytesOf e :: (DataW.weightsAll P e es ++ DataW.weightsAll P e sp) → n ≤ reachBytes := fun n hn => h n (by
    unfold elOf at ht
    simp only [DataW.weights]
    cases hu : P.underlying t with
    | none => rw [hu] at ht; cases ht
    | some u =>
      rw [hu] at ht
      cases u with
      | slice e' => cases ht; exact hn
      | _ => cases ht)
  constructor
  · have h1 := hw _ (List.mem_cons_self ..)
    have h2 : es.length + sp.length ≤ (es.length + sp.length) * P.bytesOf e := Nat.le_mul_of_pos_right _ hz
    have h3 : reachBytes = 140737488351232 := rfl
    omega
  · exact fun x hx n hn => hw n (List.mem_cons_of_mem _ (List.mem_append_left _ (wAll hx hn)))
theorem slice_ofW {α : Type} {G : α → V} {Q : α → Prop} {d : DataW H} {t e : TypeId} (hd : Rd P t d) (hw : Wt P t d) (ht : elOf P t = some e) (hz : decide (1 ≤ P.bytesOf e) = true)
    (h : ∀ x : DataW H, Rows.uptoBulk x < Rows.uptoBulk d → Rd P e x → Wt P e x → ∃ a, dV x = G a ∧ Q a) : ∃ l : List α, dV d = .sl (l.map G) .ro ∧ l.length ≤ 140737488355328 ∧ ∀ a ∈ l, Q a := by
  rcases hd.slice_inv ht with rfl | ⟨es, sp, rfl, hes⟩
  · exact ⟨[], by simp [dV], by simp, fun a ha => by cases ha⟩
  · have h0 := bulk_sl es sp
    obtain ⟨w1, w2⟩ := hw.slice ht hz
    obtain ⟨l, h1, h2, h3⟩ := list_of (G := G) (Q := Q) (es := es) fun x hx => h x (by have := bulk_mem hx; omega) (hes x hx) (w2 x hx)
    exact ⟨l, by simp [dV, h1], by omega, h3⟩
end
inductive FitW : Ty → Prop
  | mk {o k s c : Int} {es fs : List Ty} (h0 : I64 o ∧ I64 k ∧ I64 s ∧ I64 c) (h1 : es.length ≤ 140737488355328) (h2 : fs.length ≤ 140737488355328) (h3 : ∀ t ∈ es, FitW t) (h4 : ∀ t ∈ fs, FitW t) : FitW (.mk o k s c es fs)
theorem FitW.inv {o k s c : Int} {es fs : List Ty} (h : FitW (.mk o k s c es fs)) : (I64 o ∧ I64 k ∧ I64 s ∧ I64 c) ∧ es.length ≤ 140737488355328 ∧ fs.length ≤ 140737488355328 ∧ (∀ t ∈ es, FitW t) ∧ ∀ t ∈ fs, FitW t := by
  cases h with
  | mk h0 h1 h2 h3 h4 => exact ⟨h0, h1, h2, h3, h4⟩
theorem rd_tyW {H : Type} : ∀ (N : Nat) (d : DataW H), Rows.uptoBulk d ≤ N → Rd Try.prog 25 d → Wt Try.prog 25 d → ∃ t : Ty, dV d = tyV t ∧ FitW t ∧ t.off = 0 := by
  intro N
  induction N using Nat.strongRecOn with
  | _ N ih =>
    intro d hb hd hw
    obtain ⟨ps, rfl, hps⟩ := hd.agg_inv G_ty
    have hq := hw.agg G_ty
    clear hw
    match ps, hps with
    | [d1, d2, d3, d4, d5], ⟨h1, h2, h3, h4, h5, _⟩ =>
      obtain ⟨_, _, _, w4, w5, _⟩ := hq
      obtain ⟨k, rfl, hk⟩ := h1.int_inv G_int
      obtain ⟨s, rfl, hs⟩ := h2.int_inv G_int
      obtain ⟨c, rfl, hc⟩ := h3.int_inv G_int
      simp only [Rows.uptoBulk, Rows.uptoBulkAll] at hb
      obtain ⟨es, e1, e2, e3⟩ := slice_ofW (G := tyV) (Q := FitW) h4 w4 G_tyL (by kernel_rfl) fun x hx hr hwx => by
        obtain ⟨t, q1, q2, _⟩ := ih (Rows.uptoBulk x) (by omega) x (Nat.le_refl _) hr hwx
        exact ⟨t, q1, q2⟩
      obtain ⟨fs, f1, f2, f3⟩ := slice_ofW (G := fdV) (Q := FitW) h5 w5 G_fdL (by kernel_rfl) fun x hx hr hwx => by
        obtain ⟨qs, rfl, hqs⟩ := hr.agg_inv G_fd
        have hqw := hwx.agg G_fd
        clear hwx
        match qs, hqs with
        | [x1, x2], ⟨r1, r2, _⟩ =>
          obtain ⟨_, v2, _⟩ := hqw
          obtain ⟨o, rfl, ho⟩ := r1.int_inv G_int
          simp only [Rows.uptoBulk, Rows.uptoBulkAll] at hx
          obtain ⟨t, q1, q2, _⟩ := ih (Rows.uptoBulk x2) (by omega) x2 (Nat.le_refl _) r2 v2
          refine ⟨.mk o t.kind t.size t.count t.elem t.fields, ?_, ?_⟩
          · simp only [dV, dVF, q1, tyV_eq, fdV_eq, V.cells, List.append_nil, List.cons_append, List.nil_append, Ty.off, Ty.kind, Ty.size, Ty.count, Ty.elem, Ty.fields]
          · cases t with
            | mk o' k s c es fs => exact .mk ⟨I64_of ho, q2.inv.1.2⟩ q2.inv.2.1 q2.inv.2.2.1 q2.inv.2.2.2.1 q2.inv.2.2.2.2
      refine ⟨.mk 0 k s c es fs, ?_, .mk ⟨by unfold I64; omega, I64_of hk, I64_of hs, I64_of hc⟩ e2 f2 e3 f3, rfl⟩
      simp only [dV, dVF, e1, f1, tyV_mk, V.cells, List.append_nil, List.cons_append, List.nil_append]
theorem gfold_non {α : Type} {f : α → Int → Int} : ∀ (l : List α) {n : Int}, ¬ 0 < n → gfold f l n = n
  | [], _, _ => rfl
  | y :: r, n, h => by
    have e : gfold f (y :: r) n = gfold f r n := by
      unfold gfold
      rw [List.foldl_cons, if_neg h]
    rw [e]
    exact gfold_non r h
theorem gfold_cons {α : Type} {f : α → Int → Int} {y : α} {r : List α} {n : Int} (h : 0 < gfold f (y :: r) n) : 0 < n ∧ 0 < gfold f r (f y n) ∧ gfold f (y :: r) n = gfold f r (f y n) := by
  by_cases hn : 0 < n
  · have e : gfold f (y :: r) n = gfold f r (f y n) := by
      unfold gfold
      rw [List.foldl_cons, if_pos hn]
    exact ⟨hn, e ▸ h, e⟩
  · rw [gfold_non _ hn] at h
    exact absurd h hn
theorem gfold_mem {α : Type} {f : α → Int → Int} : ∀ {l : List α}, (∀ t ∈ l, ∀ n, 0 < n → f t n < n) → ∀ {n : Int}, 0 < gfold f l n → (l.length : Int) + gfold f l n ≤ n ∧ ∀ x ∈ l, ∃ m, m ≤ n ∧ 0 < f x m
  | [], _, n, h => ⟨by show ((0 : Nat) : Int) + n ≤ n; omega, fun x hx => by cases hx⟩
  | y :: r, hb, n, h => by
    obtain ⟨h1, h2, h3⟩ := gfold_cons h
    obtain ⟨i1, i2⟩ := gfold_mem (fun t ht => hb t (List.mem_cons_of_mem _ ht)) h2
    have hy := hb y (List.mem_cons_self ..) n h1
    refine ⟨by rw [h3, List.length_cons]; omega, fun x hx => ?_⟩
    rcases List.mem_cons.1 hx with rfl | hx
    · exact ⟨n, Int.le_refl _, by omega⟩
    · obtain ⟨m, m1, m2⟩ := i2 x hx
      exact ⟨m, by omega, m2⟩
theorem fit_lft : ∀ (t : Ty), FitW t → ∀ {n : Int}, 0 < lft t n → n ≤ 4194304 → fit t := by
  refine Ty.induct fun o k s c es fs hT hF => ?_
  intro hf n h hn
  obtain ⟨h0, h1, h2, h3, h4⟩ := hf.inv
  rw [lft_mk] at h
  obtain ⟨i1, i2⟩ := gfold_mem (fun t _ m hm => (lft_bound t m hm).2) h
  obtain ⟨j1, j2⟩ := gfold_mem (f := lft) (l := es) (n := n - 1) (fun t _ m hm => (lft_bound t m hm).2) (by omega)
  refine fit_mk' h0 (by omega) (by omega) (fun t ht => ?_) fun t ht => ?_
  · obtain ⟨m, m1, m2⟩ := j2 t ht
    exact hT t ht (h3 t ht) m2 (by omega)
  · obtain ⟨m, m1, m2⟩ := i2 t ht
    exact hF t ht (h4 t ht) m2 (by omega)
theorem c_leftW : ∀ (t : Ty), FitW t → ∀ n : Int, 0 < n → n ≤ 4194304 → PC Try.prog 8 [tyV t, (.im (.int .i64 (n)))] (.im (.int .i64 (lft t n))) := by
  refine Ty.induct fun o k s c es fs hT hF => ?_
  intro hfit n hn hn2
  obtain ⟨_, hl1, hl2, hfE, hfF⟩ := hfit.inv
  have hw : IntKind.i64.wrap (n - 1) = n - 1 := wrap_in (by omega)
  rw [lft_mk]
  refine PC.enter 47 Try.func8 rfl (by decide) rfl rfl (s := [(0, tyV (.mk o k s c es fs)), (1, (.im (.int .i64 (n))))]) (by rfl) ?_
  simp only [tyV_mk]
  refine w8x hw ?_
  refine AWp.loop ?_
  refine ALp.cutP 1 [(1, (.im (.int .i64 (gfold lft (es.take (0)) (n - 1))))), (2, .pt 0 0), (5, (.im (.int .i64 ((((0 : Nat)) : Int)))))] [.box [.im (.int .i64 k), .im (.int .i64 s), .im (.int .i64 c), .sl (es.map tyV) .ro, .sl (fs.map fdV) .ro]] (And.intro (@exL_id) (And.intro (@vaL_id) (And.intro (@exV_id) @vaV_id))) ?_
  refine ALp.upto es.length (fun _ => True) (fun m => ⟨dn 47 [(1, (.im (.int .i64 (gfold lft (es.take (m)) (n - 1))))), (2, .pt 0 0), (5, (.im (.int .i64 ((((m : Nat)) : Int)))))], ofl [.box [.im (.int .i64 k), .im (.int .i64 s), .im (.int .i64 c), .sl (es.map tyV) .ro, .sl (fs.map fdV) .ro]]⟩) ?_ 0 (Nat.zero_le _) trivial
  intro m hm _ hnext
  refine w8x True.intro ?_
  refine AWp.condAB rfl rfl (fun hE => ?_) (fun hE => ?_)
  · obtain ⟨hlt, hp⟩ := pair_cond hE
    have hlt' : (m : Int) < (es.length : Int) := by omega
    have hm1 := wrap_succ hlt (by omega)
    have hb := gfold_bound (f := lft) (l := es.take m) (fun t _ => lft_bound t) (n - 1) (by omega)
    have hc := hT es[m] (List.getElem_mem hlt) (hfE _ (List.getElem_mem hlt)) _ hp (by omega)
    rw [← gfold_take hlt hp] at hc
    have hg := get_some hlt
    refine w8x (And.intro hlt' hg) ?_
    refine AR.callP hc @tyV_eq (And.intro (@exL_id) (And.intro (@vaL_id) (And.intro (@exV_id) @vaV_id))) ?_
    refine go8x True.intro ?_
    refine w8x hm1 ?_
    refine ALp.cutP 1 [(1, (.im (.int .i64 (gfold lft (es.take (m + 1)) (n - 1))))), (2, .pt 0 0), (5, (.im (.int .i64 ((((m + 1 : Nat)) : Int)))))] [.box [.im (.int .i64 k), .im (.int .i64 s), .im (.int .i64 c), .sl (es.map tyV) .ro, .sl (fs.map fdV) .ro]] (And.intro (@exL_id) (And.intro (@vaL_id) (And.intro (@exV_id) @vaV_id))) ?_
    exact hnext (m + 1) (by omega) (by omega) trivial
  rw [pair_stop (fun t _ => lft_bound t) hm (by omega) hE]
  clear hnext hE
  generalize hm0 : m = m0
  clear hm hm0
  have hb0 := gfold_bound (f := lft) (l := es) (fun t _ => lft_bound t) (n - 1) (by omega)
  refine wh8x True.intro ?_
  refine Blk'.here (Thn.n ?_)
  refine w8x True.intro ?_
  refine AWp.loop ?_
  refine ALp.cutP 1 [(1, (.im (.int .i64 (gfold lft (fs.take (0)) (gfold lft es (n - 1)))))), (2, .pt 0 0), (6, (.im (.int .i64 ((((0 : Nat)) : Int)))))] [.box [.im (.int .i64 k), .im (.int .i64 s), .im (.int .i64 c), .sl (es.map tyV) .ro, .sl (fs.map fdV) .ro]] (And.intro (@exL_id) (And.intro (@vaL_id) (And.intro (@exV_id) @vaV_id))) ?_
  refine ALp.upto fs.length (fun _ => True) (fun m => ⟨dn 47 [(1, (.im (.int .i64 (gfold lft (fs.take (m)) (gfold lft es (n - 1)))))), (2, .pt 0 0), (6, (.im (.int .i64 ((((m : Nat)) : Int)))))], ofl [.box [.im (.int .i64 k), .im (.int .i64 s), .im (.int .i64 c), .sl (es.map tyV) .ro, .sl (fs.map fdV) .ro]]⟩) ?_ 0 (Nat.zero_le _) trivial
  intro m hm _ hnext
  refine w8x True.intro ?_
  refine AWp.condAB rfl rfl (fun hE => ?_) (fun hE => ?_)
  · obtain ⟨hlt, hp⟩ := pair_cond hE
    have hlt' : (m : Int) < (fs.length : Int) := by omega
    have hm1 := wrap_succ hlt (by omega)
    have hb := gfold_bound (f := lft) (l := fs.take m) (fun t _ => lft_bound t) (gfold lft es (n - 1)) (by omega)
    have hc := hF fs[m] (List.getElem_mem hlt) (hfF _ (List.getElem_mem hlt)) _ hp (by omega)
    rw [← gfold_take hlt hp] at hc
    have hg := get_some hlt
    refine w8x (And.intro hlt' hg) ?_
    refine AR.callP hc @tyV_eq (And.intro (@exL_id) (And.intro (@vaL_id) (And.intro (@exV_id) @vaV_id))) ?_
    refine go8x True.intro ?_
    refine w8x hm1 ?_
    refine ALp.cutP 1 [(1, (.im (.int .i64 (gfold lft (fs.take (m + 1)) (gfold lft es (n - 1)))))), (2, .pt 0 0), (6, (.im (.int .i64 ((((m + 1 : Nat)) : Int)))))] [.box [.im (.int .i64 k), .im (.int .i64 s), .im (.int .i64 c), .sl (es.map tyV) .ro, .sl (fs.map fdV) .ro]] (And.intro (@exL_id) (And.intro (@vaL_id) (And.intro (@exV_id) @vaV_id))) ?_
    exact hnext (m + 1) (by omega) (by omega) trivial
  rw [pair_stop (fun t _ => lft_bound t) hm (by omega) hE]
  clear hnext hE
  refine w8x True.intro ?_
  exact Fin.oneP
set_option maxHeartbeats 2000000 in
theorem c_law3W (t u : Ty) (ht : FitW t) (hu : FitW u) (off w : Int) (ho : I64 off) : PC Try.prog 5 [tyV t, tyV u, (.im (.int .i64 (off))), (.im (.int .i64 (w)))] (.im (.bool (true))) := by
  have h1 := c_leftW t ht 500 (by decide) (by decide)
  have h2 := c_leftW u hu 500 (by decide) (by decide)
  have h3 := c_example
  by_cases hA : lft t 500 ≤ 0
  · generalize lft t 500 = l1 at h1 hA
    refine PC.enter 59 Try.func5 rfl (by decide) rfl rfl (s := [(0, tyV t), (1, tyV u), (2, (.im (.int .i64 (off)))), (3, (.im (.int .i64 (w))))]) (by rfl) ?_
    rw [tyV_eq t, tyV_eq u]
    refine wG Y5_CB TY ?_
    refine AR.callP h1 @tyV_eq (And.intro (@exL_id) (And.intro (@vaL_id) (And.intro (@exV_id) @vaV_id))) ?_
    refine goG Y5_CB hA ?_
    refine wG Y5_CB True.intro ?_
    refine AR.callP h3 True.intro (And.intro (@exL_id) (And.intro (@vaL_id) (And.intro (@exV_id) @vaV_id))) ?_
    refine goG Y5_CB True.intro ?_
    refine wG Y5_CB True.intro ?_
    exact Fin.oneP
  by_cases hB : lft u 500 ≤ 0
  · generalize lft t 500 = l1 at h1 hA
    generalize lft u 500 = l2 at h2 hB
    refine PC.enter 59 Try.func5 rfl (by decide) rfl rfl (s := [(0, tyV t), (1, tyV u), (2, (.im (.int .i64 (off)))), (3, (.im (.int .i64 (w))))]) (by rfl) ?_
    rw [tyV_eq t, tyV_eq u]
    refine wG Y5_CB TY ?_
    refine AR.callP h1 @tyV_eq (And.intro (@exL_id) (And.intro (@vaL_id) (And.intro (@exV_id) @vaV_id))) ?_
    refine goG Y5_CB hA ?_
    refine AR.callP h2 @tyV_eq (And.intro (@exL_id) (And.intro (@vaL_id) (And.intro (@exV_id) @vaV_id))) ?_
    refine goG Y5_CB hB ?_
    refine wG Y5_CB True.intro ?_
    refine AR.callP h3 True.intro (And.intro (@exL_id) (And.intro (@vaL_id) (And.intro (@exV_id) @vaV_id))) ?_
    refine goG Y5_CB True.intro ?_
    refine wG Y5_CB True.intro ?_
    exact Fin.oneP
  exact c_law3 t u (fit_lft t ht (n := 500) (by omega) (by decide)) (fit_lft u hu (n := 500) (by omega) (by decide)) off w ho
end Go.Proofs.Ytfggemopnlffeaa
namespace Go.Proofs.Ytfggemopnlffeaa
open Go.RowKit Go.ChangeShapes Go.WideShapes Go.WideMaps Go.WideElems
section
variable {H : Type} {enc : TypeId × Value → H} {P : Program} {W : World}
theorem law_full {f : FuncId} {fn : Func} {s : ChangeSpec} {L : List TypeId} {B : TypeId} {b : Nat} {args : Array Value} {ds gs : List (DataW H)} {before : List MemPlace} (hL : okTy P L = true) (hl : laidOutB P = true) (hpar : ∀ t ∈ fn.params.toList, t ∈ L ∧ P.readableRec t = true ∧ t < P.types.size)
    (hvars : s.vars = []) (hres : fn.resultTypes = #[B]) (hB : P.underlying B = some .bool) (hs : ∀ ds : List (DataW H), RdL P fn.params.toList ds → s.fn H (ds ++ []) = { results := [.lit (.bool true)], args := ds })
    (hP : ∀ ds : List (DataW H), RdL P fn.params.toList ds → (DataW.weightsEach P fn.params.toList ds).all (· ≤ reachBytes) = true → PC P f (ds.map dV) (.im (.bool true)))
    (hval : ∀ (j : Nat) t v, fn.params[j]? = some t → args[j]? = some v → Value.okWide P W .any b t v) (hW : DataW.Whole enc P fn.params.toList s.vars false W args.toList ds gs before)
    {X : List TypeId} (hk : (DataW.weightsEach P (fn.params.toList ++ X) (ds ++ gs)).all (· ≤ reachBytes) = true) (hX : X = []) (hg : (Cf.raw W).known) :
    Calls P f args W fun e W' => ∃ v, e = .returned v ∧ s.post enc P fn false true false false W args v W' := by
  have hlt := hW.lt
  have hW' := hW
  obtain ⟨p, q, hA, hV, rfl, _, _⟩ := hW
  rw [hvars] at hV
  obtain ⟨rfl, rfl⟩ := trodVars_none hV
  obtain ⟨h1, h2, h3⟩ := args_of hL (b := b) _ _ _ _ (fun t ht => (hpar t ht).1) (fun j t v h4 h5 => hval j t v (by simpa using h4) (by simpa using h5)) hA
  have hb : (DataW.weightsEach P fn.params.toList ds).all (· ≤ reachBytes) = true := by rwa [hX, List.append_nil, List.append_nil] at hk
  refine ((hP ds h1 hb).2 (Cf.raw W) args rfl (raw_ok hg) (by simpa using h2) (fun i hi => ?_)).mono ?_
  · have := h3 i hi
    simpa [List.getD, Array.getD_eq_getD_getElem?] using this
  · rintro e W' ⟨v, x, st', rfl, ⟨rfl, rfl⟩, D, rfl, _, _, hE, hR⟩
    have hBel := raw_below hE
    obtain rfl := hR.of_some_bool
    refine ⟨_, rfl, ds, [], _, [], p, [], hW', ?_, ?_, ?_, hBel.frame _, fun h => by cases h⟩
    · rw [hs ds h1, hres]
      exact trodAll_mk1 (shut_bool hB true)
    · rw [hs ds h1]
      exact args_stay hl hBel _ _ _ _ (fun t ht => (hpar t ht).2) (fun x hx => hlt x (by simp [hx])) hA
    · rw [hs ds h1, hvars]
      rfl
end
end Go.Proofs.Ytfggemopnlffeaa
namespace Go.Proofs.Ytfggemopnlffeaa.ctypeOrder
set_option linter.unusedSimpArgs false
set_option linter.unusedVariables false
set_option linter.unnecessarySimpa false
open Go.RowKit

theorem own : ownKnob Try.prog.godebug = none := by kernel_rfl
theorem tys : okTy Try.prog [3, 25, 22, 59, 23] = true := by kernel_rfl
theorem laid : laidOutB Try.prog = true := by kernel_rfl
theorem pars : (Try.f5.params.toList.all fun t => [3, 25, 22, 59, 23].contains t && Try.prog.readableRec t && decide (t < Try.prog.types.size)) = true := by kernel_rfl
theorem trees {H : Type} (ds : List (DataW H)) (h : RdL Try.prog Try.f5.params.toList ds) (hb : (DataW.weightsEach Try.prog Try.f5.params.toList ds).all (· ≤ reachBytes) = true) : PC Try.prog 5 (ds.map dV) (.im (.bool true)) := by
  rw [Try.params5] at h hb
  match ds, h with
  | [d1, d2, d3, d4], ⟨h1, h2, h3, h4, _⟩ =>
    obtain ⟨w1, w2, w3, w4, _⟩ := WtL_all hb
    obtain ⟨x1, e1, f1, _⟩ := rd_tyW _ _ (Nat.le_refl _) h1 w1
    obtain ⟨x2, e2, f2, _⟩ := rd_tyW _ _ (Nat.le_refl _) h2 w2
    obtain ⟨x3, rfl, f3⟩ := h3.int_inv G_int
    obtain ⟨x4, rfl, f4⟩ := h4.int_inv G_int
    simp only [List.map_cons, List.map_nil, dV, e1, e2]
    exact c_law3W x1 x2 f1 f2 x3 x4 (I64_of f3)

set_option maxRecDepth 100000 in
theorem lifted (os : Os) (started : os.Started) (H : Type) (enc : TypeId × Value → H) (F : Stop.Interp) :
    ReturnsInHanded {} Try.checked os 5 .any ((OpenSpec.ofChange Rows.ctypeOrderSpec).preRow enc Try.prog Try.f5 Rows.ctypeOrderRow.domain false Rows.ctypeOrderRow.laid) (((OpenSpec.ofChange Rows.ctypeOrderSpec).at F).post enc Try.prog Try.f5 false true false false) := by
  have hx : DataW.whole enc Try.prog ((World.holding Try.prog os ⟨#[], #[], []⟩).forCall (fun _ _ => 0) ⟨#[], #[.agg #[.int .i64 0, .int .i64 0, .int .i64 0, .slice none 0 0, .slice none 0 0], .agg #[.int .i64 0, .int .i64 0, .int .i64 0, .slice none 0 0, .slice none 0 0], .int .i64 0, .int .i64 0], []⟩).memory Try.f5.params.toList Rows.ctypeOrderSpec.vars false #[(.agg #[.int .i64 0, .int .i64 0, .int .i64 0, .slice none 0 0, .slice none 0 0] : Value), (.agg #[.int .i64 0, .int .i64 0, .int .i64 0, .slice none 0 0, .slice none 0 0] : Value), (.int .i64 0 : Value), (.int .i64 0 : Value)].toList 8 = some ([.agg [.lit (.int .i64 0), .lit (.int .i64 0), .lit (.int .i64 0), .nil, .nil], .agg [.lit (.int .i64 0), .lit (.int .i64 0), .lit (.int .i64 0), .nil, .nil], .lit (.int .i64 0), .lit (.int .i64 0)], [], []) := by kernel_rfl
  refine returnsInHanded_of_row (C := Try.checked) (s := OpenSpec.ofChange Rows.ctypeOrderSpec) own started (by kernel_rfl) Try.func5
    (witness_row_at (enc := enc) (C := Try.checked) false (World.holding Try.prog os ⟨#[], #[], []⟩) #[.agg #[.int .i64 0, .int .i64 0, .int .i64 0, .slice none 0 0, .slice none 0 0], .agg #[.int .i64 0, .int .i64 0, .int .i64 0, .slice none 0 0, .slice none 0 0], .int .i64 0, .int .i64 0] rfl (by kernel_rfl) (by kernel_rfl) (by kernel_rfl)
      (OpenSpec.preRow_of_cond 8 hx (by kernel_rfl) (fun k hk => by cases hk) (by kernel_rfl) ⟨[], rfl, List.nodup_nil, fun _ _ h => by cases h⟩)) ?_
  intro W base args ds gs before hval hW _ _ hwt _ hsh _
  refine law_full tys laid (fun t ht => ?_) rfl (by kernel_rfl) Try.underlying4 (fun ds hd => ?_) trees hval hW hwt (by rfl) (known_of hsh)
  · have := List.all_eq_true.1 pars t ht
    simp only [Bool.and_eq_true, decide_eq_true_eq, List.contains_iff_mem] at this
    exact ⟨this.1.1, this.1.2, this.2⟩
  · match ds, hd with
    | [d1, d2, d3, d4], _ => rfl

theorem proved : Rows.CtypeOrderSaid :=
  OpenClaim.holds_of_cond 5 Try.f5 rfl rfl rfl rfl rfl rfl rfl ⟨rfl, rfl, rfl, rfl, rfl⟩ rfl rfl rfl rfl rfl (by kernel_rfl) Try.func5 (by kernel_rfl)
    (of_decide_eq_true (by kernel_rfl)) (by unfold Func.isWrapper; first | (rw [if_pos (by decide +kernel)]; kernel_rfl) | (rw [if_neg (by decide +kernel)]; exact ⟨rfl, rfl⟩))
    (fun os started H enc _ F => by rw [OpenClaim.pre_eq_preRow]; exact lifted os started H enc F)
end Go.Proofs.Ytfggemopnlffeaa.ctypeOrder
