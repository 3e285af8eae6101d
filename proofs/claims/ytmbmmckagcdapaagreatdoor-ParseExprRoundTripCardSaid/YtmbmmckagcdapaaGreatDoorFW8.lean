/- ParseExprRoundTrip: decompilerlaw40.ParseExprRoundTrip returns true for every input (each string and slice of it within the form's own reach), where the listed package-level variables hold what the program's text lays in them, and what came in reads as it did. Proved by walking through the code on trees of values. -/
import Derived.JoinedCond
import Derived.Deep.DeepWitnessRowRef
import Derived.Test.YtmbmmckagcdapaaGreatDoorJ11
import Derived.Test.YtmbmmckagcdapaaGreatDoorJ22
set_option linter.unusedSimpArgs false
set_option linter.unusedVariables false
set_option linter.unnecessarySimpa false
namespace Go.Proofs.YtmbmmckagcdapaaGreatDoor
open Go.RowKit
section
variable {H : Type} {P : Program}
def Wt (P : Program) (t : TypeId) (d : DataW H) : Prop := ∀ n ∈ d.weights P t, n ≤ reachBytes
def WtL (P : Program) : List TypeId → List (DataW H) → Prop
  | t :: ts, x :: xs => Wt P t x ∧ WtL P ts xs
  | _, _ => True
theorem WtL_of : ∀ {ts : List TypeId} {ds : List (DataW H)}, (∀ n ∈ DataW.weightsEach P ts ds, n ≤ reachBytes) → WtL P ts ds
  | t :: ts, x :: xs, h => ⟨fun n hn => h n (by simp only [DataW.weightsEach]; exact List.mem_append_left _ hn), WtL_of fun n hn => h n (by simp only [DataW.weightsEach]; exact List.mem_append_right _ hn)⟩
  | [], _, _ => by simp only [WtL]
  | _ :: _, [], _ => by simp only [WtL]
theorem WtL_all {ts : List TypeId} {ds : List (DataW H)} (h : (DataW.weightsEach P ts ds).all (· ≤ reachBytes) = true) : WtL P ts ds :=
  WtL_of fun n hn => of_decide_eq_true (List.all_eq_true.1 h n hn)
theorem Wt.agg {t : TypeId} {ts : List TypeId} {ps : List (DataW H)} (h : Wt P t (.agg ps)) (ht : ftOf P t = some ts) : WtL P ts ps := by
  refine WtL_of fun n hn => h n ?_
  unfold ftOf at ht
  simp only [DataW.weights]
  cases hu : P.underlying t with
  | none => rw [hu] at ht; cases ht
  | some u =>
    rw [hu] at ht
    cases u with
    | struct fs => cases ht; exact hn
    | _ => cases ht
theorem wAll {e : TypeId} {x : DataW H} {n : Nat} : ∀ {es : List (DataW H)}, x ∈ es → n ∈ x.weights P e → n ∈ DataW.weightsAll P e es
  | y :: r, h, hn => by
    simp only [DataW.weightsAll]
    rcases List.mem_cons.1 h with rfl | h
    · exact List.mem_append_left _ hn
    · exact List.mem_append_right _ (wAll h hn)
theorem Wt.slice {t e : TypeId} {es sp : List (DataW H)} (h : Wt P t (.slice es sp)) (ht : elOf P t = some e) (hz : decide (1 ≤ P.bytesOf e) = true) : es.length ≤ 140737488355328 ∧ ∀ x ∈ es, Wt P e x := by
  have hz := of_decide_eq_true hz
  have hw : ∀ n, n ∈ (es.length + sp.length) * P.bytesOf e :: (DataW.weightsAll P e es ++ DataW.weightsAll P e sp) → n ≤ reachBytes := fun n hn => h n (by
    unfold elOf at ht
    simp only [DataW.weights]
    cases hu : P.underlying t with
    | none => rw [hu] at ht; cases ht
    | some u =>
      rw [hu] at ht
      cases u with
      | slice e' => cases ht; exact hn
      | _ => cases ht)
  constructor
  · have h1 := hw _ (List.mem_cons_self ..)
    have h2 : es.length + sp.length ≤ (es.length + sp.length) * P.bytesOf e := Nat.le_mul_of_pos_right _ hz
    have h3 : reachBytes = 140737488351232 := rfl
    omega
  · exact fun x hx n hn => hw n (List.mem_cons_of_mem _ (List.mem_append_left _ (wAll hx hn)))
theorem slice_ofW {α : Type} {G : α → V} {Q : α → Prop} {d : DataW H} {t e : TypeId} (hd : Rd P t d) (hw : Wt P t d) (ht : elOf P t = some e) (hz : decide (1 ≤ P.bytesOf e) = true)
    (h : ∀ x : DataW H, Rows.uptoBulk x < Rows.uptoBulk d → Rd P e x → Wt P e x → ∃ a, dV x = G a ∧ Q a) : ∃ l : List α, dV d = .sl (l.map G) .ro ∧ l.length ≤ 140737488355328 ∧ ∀ a ∈ l, Q a := by
  rcases hd.slice_inv ht with rfl | ⟨es, sp, rfl, hes⟩
  · exact ⟨[], by simp [dV], by simp, fun a ha => by cases ha⟩
  · have h0 := bulk_sl es sp
    obtain ⟨w1, w2⟩ := hw.slice ht hz
    obtain ⟨l, h1, h2, h3⟩ := list_of (G := G) (Q := Q) (es := es) fun x hx => h x (by have := bulk_mem hx; omega) (hes x hx) (w2 x hx)
    exact ⟨l, by simp [dV, h1], by omega, h3⟩
end
inductive FitEW : Ex → Prop
  | mk {o n : Int} {s : ByteArray} {w : Int} {l : List Ex} (h0 : I64 o ∧ (0 ≤ n ∧ n ≤ 4294967295) ∧ I64 w) (h1 : l.length ≤ 140737488355328) (h2 : s.size ≤ 9223372036854775807) (h3 : ∀ t ∈ l, FitEW t) : FitEW (.mk o n s w l)
theorem FitEW.inv {o n : Int} {s : ByteArray} {w : Int} {l : List Ex} (h : FitEW (.mk o n s w l)) : (I64 o ∧ (0 ≤ n ∧ n ≤ 4294967295) ∧ I64 w) ∧ l.length ≤ 140737488355328 ∧ s.size ≤ 9223372036854775807 ∧ ∀ t ∈ l, FitEW t := by
  cases h with
  | mk h0 h1 h2 h3 => exact ⟨h0, h1, h2, h3⟩
theorem c_epartsW : ∀ (t : Ex), FitEW t → ∀ most n : Int, 0 ≤ most → most ≤ 4194304 → 0 ≤ n → n ≤ 4194304 → PC Tryz.prog 72 [exV t, (.im (.int .i64 (most))), (.im (.int .i64 (n)))] (.im (.int .i64 (epa t most n))) := by
  refine Ex.induct fun o k s w l hE0 => ?_
  intro hfit most n hq hq2 hn hn2
  obtain ⟨_, hl1, _, hfE⟩ := hfit.inv
  rw [epa_mk]
  refine PC.enter 44 Tryz.func72 rfl (by decide) rfl rfl (s := [(0, exV (.mk o k s w l)), (1, (.im (.int .i64 (most)))), (2, (.im (.int .i64 (n))))]) (by rfl) ?_
  simp only [exV_mk]
  refine wG Y72_ZB1 True.intro ?_
  refine AWp.condAB rfl rfl (fun hE => ?_) (fun hE => ?_)
  · simp only [Bool.or_eq_true, decide_eq_true_eq] at hE
    rw [if_pos (by omega)]
    refine wG Y72_ZB1 True.intro ?_; exact Fin.oneP
  simp only [Bool.or_eq_false_iff, decide_eq_false_iff_not] at hE
  have hw : IntKind.i64.wrap (n - 1) = n - 1 := wrap_in (by omega)
  have hv : IntKind.i64.wrap (most - 1) = most - 1 := wrap_in (by omega)
  rw [if_neg (by omega)]
  refine wG Y72_ZB1 hw ?_
  refine AWp.loop ?_
  refine ALp.cutP 1 [(1, (.im (.int .i64 (most)))), (3, .pt 0 0), (7, (.im (.int .i64 (pfold (fun x n => epa x (most - 1) n) (l.take (0)) (n - 1))))), (8, (.im (.int .i64 ((((0 : Nat)) : Int)))))] [.box [(.im (.int .i64 (o))), .im (.int .u32 k), .im (.string s), (.im (.int .i64 (w))), .sl (l.map exV) .ro]] I1_ZB1 ?_
  refine ALp.upto l.length (fun _ => True) (fun m => ⟨dn 44 [(1, (.im (.int .i64 (most)))), (3, .pt 0 0), (7, (.im (.int .i64 (pfold (fun x n => epa x (most - 1) n) (l.take (m)) (n - 1))))), (8, (.im (.int .i64 ((((m : Nat)) : Int)))))], ofl [.box [(.im (.int .i64 (o))), .im (.int .u32 k), .im (.string s), (.im (.int .i64 (w))), .sl (l.map exV) .ro]]⟩) ?_ 0 (Nat.zero_le _) trivial
  intro m hm _ hnext
  refine wG Y72_ZB1 @Int.natCast_nonneg ?_
  refine AWp.condAB rfl rfl (fun hE => ?_) (fun hE => ?_)
  · obtain ⟨hlt, hp⟩ := pair_cond0 hE
    have hlt' : (m : Int) < (l.length : Int) := by omega
    have hm1 := wrap_succ hlt (by omega)
    have hb := pfold_bound (f := fun x n => epa x (most - 1) n) (l := l.take m) (fun t _ n hn => epa_bound t _ n hn) (n - 1) (by omega)
    have hc := hE0 l[m] (List.getElem_mem hlt) (hfE _ (List.getElem_mem hlt)) (most - 1) _ (by omega) (by omega) hp (by omega)
    rw [← pfold_take (f := fun x n => epa x (most - 1) n) hlt hp] at hc
    have hg := get_some hlt; refine wG Y72_ZB1 (AI hlt' (AI hg (AI hv (AI (@Int.natCast_nonneg) BN01)))) ?_; refine AR.callP hc @exV_eq I1_ZB1 ?_; refine goG Y72_ZB1 BN01 ?_; refine wG Y72_ZB1 hm1 ?_; refine ALp.cutP 1 [(1, (.im (.int .i64 (most)))), (3, .pt 0 0), (7, (.im (.int .i64 (pfold (fun x n => epa x (most - 1) n) (l.take (m + 1)) (n - 1))))), (8, (.im (.int .i64 ((((m + 1 : Nat)) : Int)))))] [.box [(.im (.int .i64 (o))), .im (.int .u32 k), .im (.string s), (.im (.int .i64 (w))), .sl (l.map exV) .ro]] I1_ZB1 ?_
    exact hnext (m + 1) (by omega) (by omega) trivial
  rw [pair_stop0 hm hE]
  clear hnext hE
  refine wG Y72_ZB1 True.intro ?_
  exact Fin.oneP
theorem c_smallEW (e : Ex) (hf : FitEW e) (most : Int) (h0 : 0 ≤ most) (h1 : most ≤ 4194304) : PC Tryz.prog 30 [exV e, (.im (.int .i64 (most)))] (.im (.bool (smE e most))) := by
  have hc := c_epartsW e hf most 3000 h0 h1 (by decide) (by decide)
  unfold smE
  refine PC.enter 9 Tryz.func30 rfl (by decide) rfl rfl (s := [(0, exV e), (1, (.im (.int .i64 (most))))]) (by rfl) ?_
  simp only [exV_eq]
  refine wG Y30_ZB1 BN01 ?_
  refine AR.callP hc @exV_eq I1_ZB1 ?_
  refine goG Y30_ZB1 True.intro ?_
  refine wG Y30_ZB1 True.intro ?_
  exact Fin.oneP
theorem op_exW {H : Type} : ∀ (N : Nat) (d : DataW H), Rows.uptoBulk d ≤ N → Rd Tryz.prog 46 d → Wt Tryz.prog 46 d → ∃ t : Ex, dV d = exV t ∧ FitEW t := by
  intro N
  induction N using Nat.strongRecOn with
  | _ N ih =>
    intro d hb hd hw
    obtain ⟨ps, rfl, hps⟩ := hd.agg_inv G_ex
    have hq := hw.agg G_ex
    clear hw
    match ps, hps with
    | [d1, d2, d3, d4, d5], ⟨h1, h2, h3, h4, h5, _⟩ =>
      obtain ⟨_, _, _, _, w5, _⟩ := hq
      obtain ⟨o, rfl, ho⟩ := h1.int_inv G_int
      obtain ⟨n, rfl, hn⟩ := h2.int_inv G_u32
      obtain ⟨s, rfl, hs⟩ := h3.string_inv Tryz.underlying9
      obtain ⟨w, rfl, hw⟩ := h4.int_inv G_int
      simp only [Rows.uptoBulk, Rows.uptoBulkAll] at hb
      obtain ⟨l, e1, e2, e3⟩ := slice_ofW (G := exV) (Q := FitEW) h5 w5 G_exL (by kernel_rfl) fun x hx hr hwx => ih (Rows.uptoBulk x) (by omega) x (Nat.le_refl _) hr hwx
      refine ⟨.mk o n s w l, ?_, .mk ⟨I64_of ho, U32_of hn, I64_of hw⟩ e2 (Nat.le_trans hs (by decide)) e3⟩
      simp only [dV, dVF, e1, exV_mk, V.cells, List.append_nil, List.cons_append, List.nil_append]
theorem pfold_mem {α : Type} {f : α → Int → Int} : ∀ {l : List α} {n : Int}, 0 ≤ pfold f l n → 0 ≤ n ∧ ∀ x ∈ l, ∃ m, 0 ≤ f x m
  | [], n, h => ⟨h, fun x hx => by cases hx⟩
  | y :: r, n, h => by
    by_cases hn : 0 ≤ n
    · have h' : 0 ≤ pfold f r (f y n) := by
        unfold pfold at h ⊢
        rw [List.foldl_cons, if_pos hn] at h
        exact h
      obtain ⟨i1, i2⟩ := pfold_mem h'
      refine ⟨hn, fun x hx => ?_⟩
      rcases List.mem_cons.1 hx with rfl | hx
      · exact ⟨n, i1⟩
      · exact i2 x hx
    · rw [pfold_stop _ hn] at h
      exact absurd h hn
theorem fit_epa : ∀ (t : Ex), FitEW t → ∀ most n : Int, 0 ≤ epa t most n → fitE t := by
  refine Ex.induct fun o k s w l hE => ?_
  intro hf most n h
  obtain ⟨h0, h1, h2, h3⟩ := hf.inv
  rw [epa_mk] at h
  split at h
  · omega
  · rename_i hc
    refine fitE_mk' h0 (by omega) h2 fun t ht => ?_
    obtain ⟨m, hm⟩ := (pfold_mem h).2 t ht
    exact hE t ht (h3 t ht) _ m hm
theorem c_exrtW (x : Ex) (hx : FitEW x) : PC Tryz.prog 10 [exV x] (.im (.bool (true))) := by
  have qx := c_exH
  have q1 := c_smallEW x hx 70 (by decide) (by decide)
  cases pa : smE x 70 with
  | false =>
    rw [pa] at q1; refine PC.enter 53 Tryz.func10 rfl (by decide) rfl rfl (s := [(0, exV x)]) (by rfl) ?_
    refine wG Y10_ZB2 EX ?_; refine AR.callP q1 @exV_eq I1_ZB2 ?_; refine goG Y10_ZB2 EX ?_; refine wG Y10_ZB2 EX ?_; refine AR.callP qx True.intro I1_ZB2 ?_; refine goG Y10_ZB2 True.intro ?_; refine wG Y10_ZB2 True.intro ?_; exact Fin.oneP
  | true => exact c_exrt x (fit_epa x hx _ _ (by unfold smE at pa; exact of_decide_eq_true pa))
end Go.Proofs.YtmbmmckagcdapaaGreatDoor
namespace Go.Proofs.YtmbmmckagcdapaaGreatDoor
open Go.RowKit Go.ChangeShapes Go.WideShapes Go.WideMaps Go.WideElems
section
variable {H : Type} {enc : TypeId × Value → H} {P : Program} {W : World}
theorem law_full {f : FuncId} {fn : Func} {s : ChangeSpec} {L : List TypeId} {B : TypeId} {b : Nat} {args : Array Value} {ds gs : List (DataW H)} {before : List MemPlace} (hL : okTy P L = true) (hl : laidOutB P = true) (hpar : ∀ t ∈ fn.params.toList, t ∈ L ∧ P.readableRec t = true ∧ t < P.types.size)
    (hvars : s.vars = []) (hres : fn.resultTypes = #[B]) (hB : P.underlying B = some .bool) (hs : ∀ ds : List (DataW H), RdL P fn.params.toList ds → s.fn H (ds ++ []) = { results := [.lit (.bool true)], args := ds })
    (hP : ∀ ds : List (DataW H), RdL P fn.params.toList ds → (DataW.weightsEach P fn.params.toList ds).all (· ≤ reachBytes) = true → PC P f (ds.map dV) (.im (.bool true)))
    (hval : ∀ (j : Nat) t v, fn.params[j]? = some t → args[j]? = some v → Value.okWide P W .any b t v) (hW : DataW.Whole enc P fn.params.toList s.vars false W args.toList ds gs before)
    {X : List TypeId} (hk : (DataW.weightsEach P (fn.params.toList ++ X) (ds ++ gs)).all (· ≤ reachBytes) = true) (hX : X = []) (hg : (Cf.raw W).known) :
    Calls P f args W fun e W' => ∃ v, e = .returned v ∧ s.post enc P fn false true false false W args v W' := by
  have hlt := hW.lt
  have hW' := hW
  obtain ⟨p, q, hA, hV, rfl, _, _⟩ := hW
  rw [hvars] at hV
  obtain ⟨rfl, rfl⟩ := trodVars_none hV
  obtain ⟨h1, h2, h3⟩ := args_of hL (b := b) _ _ _ _ (fun t ht => (hpar t ht).1) (fun j t v h4 h5 => hval j t v (by simpa using h4) (by simpa using h5)) hA
  have hb : (DataW.weightsEach P fn.params.toList ds).all (· ≤ reachBytes) = true := by rwa [hX, List.append_nil, List.append_nil] at hk
  refine ((hP ds h1 hb).2 (Cf.raw W) args rfl (raw_ok hg) (by simpa using h2) (fun i hi => ?_)).mono ?_
  · have := h3 i hi
    simpa [List.getD, Array.getD_eq_getD_getElem?] using this
  · rintro e W' ⟨v, x, st', rfl, ⟨rfl, rfl⟩, D, rfl, _, _, hE, hR⟩
    have hBel := raw_below hE; obtain rfl := hR.of_some_bool; refine ⟨_, rfl, ds, [], _, [], p, [], hW', ?_, ?_, ?_, hBel.frame _, fun h => by cases h⟩
    · rw [hs ds h1, hres]
      exact trodAll_mk1 (shut_bool hB true)
    · rw [hs ds h1]
      exact args_stay hl hBel _ _ _ _ (fun t ht => (hpar t ht).2) (fun x hx => hlt x (by simp [hx])) hA
    · rw [hs ds h1, hvars]
      rfl
end
end Go.Proofs.YtmbmmckagcdapaaGreatDoor
namespace Go.Proofs.YtmbmmckagcdapaaGreatDoor.parseExprRoundTrip
open Go.RowKit
theorem own : ownKnob Tryz.prog.godebug = none := by kernel_rfl
theorem tys : okTy Tryz.prog [46, 3, 43, 9, 44] = true := by kernel_rfl
theorem laid : laidOutB Tryz.prog = true := by kernel_rfl
theorem pars : (Tryz.f10.params.toList.all fun t => [46, 3, 43, 9, 44].contains t && Tryz.prog.readableRec t && decide (t < Tryz.prog.types.size)) = true := by kernel_rfl
theorem trees {H : Type} (ds : List (DataW H)) (h : RdL Tryz.prog Tryz.f10.params.toList ds) (hb : (DataW.weightsEach Tryz.prog Tryz.f10.params.toList ds).all (· ≤ reachBytes) = true) : PC Tryz.prog 10 (ds.map dV) (.im (.bool true)) := by
  rw [Tryz.params10] at h hb
  match ds, h with
  | [d1], ⟨h1, _⟩ =>
    obtain ⟨w1, _⟩ := WtL_all hb; obtain ⟨x1, e1, f1⟩ := op_exW _ _ (Nat.le_refl _) h1 w1
    simp only [List.map_cons, List.map_nil, dV, e1]; exact c_exrtW x1 f1
set_option maxRecDepth 100000 in
theorem lifted (os : Os) (started : os.Started) (H : Type) (enc : TypeId × Value → H) (F : Stop.Interp) :
    ReturnsInHanded {} Tryz.checked os 10 .any ((OpenSpec.ofChange Rows.parseExprRoundTripSpec).preRow enc Tryz.prog Tryz.f10 Rows.parseExprRoundTripRow.domain false Rows.parseExprRoundTripRow.laid) (((OpenSpec.ofChange Rows.parseExprRoundTripSpec).at F).post enc Tryz.prog Tryz.f10 false true false false) := by
  have hx : DataW.whole enc Tryz.prog ((laidWorld os).forCall (fun _ _ => 0) ⟨#[], #[.agg #[.int .i64 0, .int .u32 0, .string .empty, .int .i64 0, .slice none 0 0]], []⟩).memory Tryz.f10.params.toList Rows.parseExprRoundTripSpec.vars false #[(.agg #[.int .i64 0, .int .u32 0, .string .empty, .int .i64 0, .slice none 0 0] : Value)].toList 8 = some ([.agg [.lit (.int .i64 0), .lit (.int .u32 0), .lit (.string []), .lit (.int .i64 0), .nil]], [], []) := by kernel_rfl
  refine returnsInHanded_of_row (C := Tryz.checked) (s := OpenSpec.ofChange Rows.parseExprRoundTripSpec) own started (by kernel_rfl) Tryz.func10
    (witness_row_atRef (enc := enc) (C := Tryz.checked) false (laidWorld os) #[.agg #[.int .i64 0, .int .u32 0, .string .empty, .int .i64 0, .slice none 0 0]] rfl (by kernel_rfl) (by kernel_rfl) (by kernel_rfl)
      (OpenSpec.preRow_of_cond 8 hx (by kernel_rfl) (fun k hk => by cases hk) (by kernel_rfl) (laid_met os _))) ?_
  intro W base args ds gs before hval hW _ _ hwt hL hsh _
  refine law_full tys laid (fun t ht => ?_) rfl (by kernel_rfl) Tryz.underlying4 (fun ds hd => ?_) trees hval hW hwt (by rfl) (known_of hsh hL)
  · have := List.all_eq_true.1 pars t ht
    simp only [Bool.and_eq_true, decide_eq_true_eq, List.contains_iff_mem] at this; exact ⟨this.1.1, this.1.2, this.2⟩
  · match ds, hd with
    | [d1], _ => rfl
theorem and2 {a b : Bool} (h1 : a = true) (h2 : b = true) : (a && b) = true := by rw [h1, h2]; rfl
set_option maxHeartbeats 4000000 in
theorem facts : joinedFacts Tryz.pinned.checked.prog 10 Tryz.f10 (OpenSpec.ofChange Rows.parseExprRoundTripSpec).bare Rows.parseExprRoundTripRow = true := by
  unfold joinedFacts
  iterate 31 refine and2 ?_ (by as_aux_lemma => kernel_rfl)
  kernel_rfl
theorem said : Rows.ParseExprRoundTripSaid :=
  OpenClaim.holds_of_cond 10 Tryz.f10 rfl rfl rfl rfl rfl rfl rfl ⟨rfl, rfl, rfl, rfl, rfl⟩ rfl rfl rfl rfl rfl (by kernel_rfl) Tryz.func10 facts
    (of_decide_eq_true (by kernel_rfl)) (by unfold Func.isWrapper; first | (rw [if_pos (by decide +kernel)]; kernel_rfl) | (rw [if_neg (by decide +kernel)]; exact ⟨rfl, rfl⟩))
    (fun os started H enc _ F => by rw [OpenClaim.pre_eq_preRow]; exact lifted os started H enc F)
theorem plain (f : FuncId) (fn : Func) (hf : Tryz.pinned.checked.prog.funcNamed "decompiler/decompilerlaw40.ParseExprRoundTrip" = some f) (hfn : Tryz.pinned.checked.prog.funcs[f]? = some fn) :
    true = Tryz.pinned.checked.prog.looks [] ∧ ∀ (j : Nat) t, fn.params[j]? = some t → Tryz.pinned.checked.prog.wantsStandIn t = false := by
  obtain rfl : f = 10 := Option.some.inj ((show Tryz.prog.funcNamed "decompiler/decompilerlaw40.ParseExprRoundTrip" = some 10 by kernel_rfl).symm.trans hf) |>.symm
  obtain rfl : fn = Tryz.f10 := (Option.some.inj (Tryz.func10.symm.trans hfn)).symm
  refine ⟨by kernel_rfl, fun j t ht => ?_⟩
  rw [Tryz.params10] at ht
  have h := Array.mem_of_getElem? ht
  simp only [List.mem_toArray, List.mem_cons, List.not_mem_nil, or_false] at h
  rcases h with rfl
  · exact (show Tryz.prog.wantsStandIn 46 = false by kernel_rfl)
theorem proved : Rows.ParseExprRoundTripCardSaid :=
  Claim7.holds_tied_plain_at .later [] _ _ _ _ said (fun _ h => by cases h) (by kernel_rfl) (fun _ h => by cases h) parseExprRoundTrip_row_tie rfl ⟨rfl, rfl⟩ (by kernel_rfl) rfl plain (by kernel_rfl)
end Go.Proofs.YtmbmmckagcdapaaGreatDoor.parseExprRoundTrip
