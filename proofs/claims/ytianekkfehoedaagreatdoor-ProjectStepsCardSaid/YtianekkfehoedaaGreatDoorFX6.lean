/- ProjectSteps: decompilerlaw47.ProjectSteps returns true for every input (each string and slice of it within the form's own reach), where the listed package-level variables hold what the program's text lays in them, and what came in reads as it did. Proved by walking through the code on trees of values. -/
import Derived.Test.YtianekkfehoedaaGreatDoorLx
import Derived.Test.YtianekkfehoedaaGreatDoorRt
import Derived.JoinedCond
namespace Go.Proofs.YtianekkfehoedaaGreatDoor
open Go.RowKit
section
variable {H : Type} {P : Program}
def Wt (P : Program) (t : TypeId) (d : DataW H) : Prop := ∀ n ∈ d.weights P t, n ≤ reachBytes
def WtL (P : Program) : List TypeId → List (DataW H) → Prop
  | t :: ts, x :: xs => Wt P t x ∧ WtL P ts xs
  | _, _ => True
theorem WtL_of : ∀ {ts : List TypeId} {ds : List (DataW H)}, (∀ n ∈ DataW.weightsEach P ts ds, n ≤ reachBytes) → WtL P ts ds
  | t :: ts, x :: xs, h => ⟨fun n hn => h n (by simp only [DataW.weightsEach]; exact List.mem_append_left _ hn), WtL_of fun n hn => h n (by simp only [DataW.weightsEach]; exact List.mem_append_right _ hn)⟩
  | [], _, _ => by simp only [WtL]
  | _ :: _, [], _ => by simp only [WtL]
theorem WtL_all {ts : List TypeId} {ds : List (DataW H)} (h : (DataW.weightsEach P ts ds).all (· ≤ reachBytes) = true) : WtL P ts ds :=
  WtL_of fun n hn => of_decide_eq_true (List.all_eq_true.1 h n hn)
theorem Wt.agg {t : TypeId} {ts : List TypeId} {ps : List (DataW H)} (h : Wt P t (.agg ps)) (ht : ftOf P t = some ts) : WtL P ts ps := by
  refine WtL_of fun n hn => h n ?_
  unfold ftOf at ht
  simp only [DataW.weights]
  cases hu : P.underlying t with
  | none => rw [hu] at ht; cases ht
  | some u =>
    rw [hu] at ht
    cases u with
    | struct fs => cases ht; exact hn
    | _ => cases ht
theorem wAll {e : TypeId} {x : DataW H} {n : Nat} : ∀ {es : List (DataW H)}, x ∈ es → n ∈ x.weights P e → n ∈ DataW.weightsAll P e es
  | y :: r, h, hn => by
    simp only [DataW.weightsAll]
    rcases List.mem_cons.1 h with rfl | h
    · exact List.mem_append_left _ hn
    · exact List.mem_append_right _ (wAll h hn)
theorem Wt.slice {t e : TypeId} {es sp : List (DataW H)} (h : Wt P t (.slice es sp)) (ht : elOf P t = some e) (hz : decide (1 ≤ P.bytesOf e) = true) : es.length ≤ 140737488355328 ∧ ∀ x ∈ es, Wt P e x := by
  have hz := of_decide_eq_true hz
  have hw : ∀ n, n ∈ (es.length + sp.length) * P.bytesOf e :: (DataW.weightsAll P e es ++ DataW.weightsAll P e sp) → n ≤ reachBytes := fun n hn => h n (by
    unfold elOf at ht
    simp only [DataW.weights]
    cases hu : P.underlying t with
    | none => rw [hu] at ht; cases ht
    | some u =>
      rw [hu] at ht
      cases u with
      | slice e' => cases ht; exact hn
      | _ => cases ht)
  constructor
  · have h1 := hw _ (List.mem_cons_self ..)
    have h2 : es.length + sp.length ≤ (es.length + sp.length) * P.bytesOf e := Nat.le_mul_of_pos_right _ hz
    have h3 : reachBytes = 140737488351232 := rfl
    omega
  · exact fun x hx n hn => hw n (List.mem_cons_of_mem _ (List.mem_append_left _ (wAll hx hn)))
theorem slice_ofW {α : Type} {G : α → V} {Q : α → Prop} {d : DataW H} {t e : TypeId} (hd : Rd P t d) (hw : Wt P t d) (ht : elOf P t = some e) (hz : decide (1 ≤ P.bytesOf e) = true)
    (h : ∀ x : DataW H, Rows.uptoBulk x < Rows.uptoBulk d → Rd P e x → Wt P e x → ∃ a, dV x = G a ∧ Q a) : ∃ l : List α, dV d = .sl (l.map G) .ro ∧ l.length ≤ 140737488355328 ∧ ∀ a ∈ l, Q a := by
  rcases hd.slice_inv ht with rfl | ⟨es, sp, rfl, hes⟩
  · exact ⟨[], by simp [dV], by simp, fun a ha => by cases ha⟩
  · have h0 := bulk_sl es sp
    obtain ⟨w1, w2⟩ := hw.slice ht hz
    obtain ⟨l, h1, h2, h3⟩ := list_of (G := G) (Q := Q) (es := es) fun x hx => h x (by have := bulk_mem hx; omega) (hes x hx) (w2 x hx)
    exact ⟨l, by simp [dV, h1], by omega, h3⟩
end
theorem rd_spsW {H : Type} {d : DataW H} (hd : Rd Tryz.prog 38 d) (hw : Wt Tryz.prog 38 d) : ∃ l : List Sp, dV d = .sl (l.map spV) .ro ∧ l.length ≤ 140737488355328 ∧ ∀ s ∈ l, adrB s.e ∧ (∀ e ∈ s.l, adrB e) ∧ True :=
  slice_ofW (G := spV) (Q := fun s => adrB s.e ∧ (∀ e ∈ s.l, adrB e) ∧ True) hd hw G_spL (by kernel_rfl) fun x hx hr _ => by
    obtain ⟨s, q1, q2, q3, _⟩ := rd_sp hr
    exact ⟨s, q1, q2, q3, trivial⟩
theorem lg_len {l : List Sp} (h : lgB l = true) : l.length ≤ 30 := by
  unfold lgB at h
  simp only [Bool.and_eq_true, decide_eq_true_eq] at h
  exact h.2
theorem c_lightW (l : List Sp) (hl : l.length ≤ 140737488355328) : PC Tryz.prog 13 [.sl (l.map spV) .ro] (.im (.bool (lgB l))) := by
  refine PC.enter 52 Tryz.func13 rfl (by decide) rfl rfl (s := [(0, .sl (l.map spV) .ro)]) (by rfl) ?_
  refine wG Y13_Zi True.intro ?_
  refine AWp.loop ?_
  refine ALp.cutP 0 [(0, .sl (l.map spV) .ro), (3, (.im (.int .i64 ((((0 : Nat)) : Int)))))] [] I1_Zi ?_
  refine ALp.upto l.length (fun m => lgB l = ((l.drop m).all lgS && decide (l.length ≤ 30))) (fun m => ⟨dn 52 [(0, .sl (l.map spV) .ro), (3, (.im (.int .i64 ((((m : Nat)) : Int)))))], ofl []⟩) ?_ 0 (Nat.zero_le _) rfl
  intro m hm hI hnext
  by_cases hlt : m < l.length
  · have hlt' : (m : Int) < (l.length : Int) := by omega
    have hg := get_some hlt
    have hm1 := wrap_succ hlt (by omega)
    have hn := hnext (m + 1) (by omega) (by omega)
    clear hnext
    rw [List.drop_eq_getElem_cons hlt, List.all_cons] at hI
    generalize l[m] = s at hg hI
    generalize hR : ((l.drop (m + 1)).all lgS && decide (l.length ≤ 30)) = rest at hn
    rw [Bool.and_assoc, hR] at hI
    unfold lgS at hI
    by_cases h1 : s.l.length ≤ 10
    case neg =>
      have h1' : (s.l.length : Int) > 10 := by omega
      rw [decide_eq_false h1] at hI
      rw [hI]
      clear hI hn
      refine wG Y13_Zi (And.intro hlt' (And.intro SPT (And.intro hg h1'))) ?_
      exact Fin.oneP
    have h1' : ¬ (s.l.length : Int) > 10 := by omega
    rw [decide_eq_true h1, Bool.true_and] at hI
    by_cases h2 : s.e.text.length ≤ 400
    case neg =>
      have h2' : (s.e.text.length : Int) > 400 := by omega
      rw [decide_eq_false h2] at hI
      rw [hI]
      clear hI hn
      refine wG Y13_Zi (And.intro hlt' (And.intro SPT (And.intro hg (And.intro h1' (And.intro BAT h2'))))) ?_
      exact Fin.oneP
    have h2' : ¬ (s.e.text.length : Int) > 400 := by omega
    rw [decide_eq_true h2, Bool.true_and] at hI
    refine wG Y13_Zi (And.intro hlt' (And.intro SPT (And.intro hg (And.intro h1' (And.intro BAT h2'))))) ?_
    refine AWp.loop ?_
    refine ALp.cutP 0 [(0, .sl (l.map spV) .ro), (3, (.im (.int .i64 (((m : Nat) : Int))))), (4, (.im (.int .i64 ((((0 : Nat)) : Int)))))] [] I1_Zi ?_
    refine ALp.upto s.l.length (fun k => lgB l = ((s.l.drop k).all lgE && rest)) (fun k => ⟨dn 52 [(0, .sl (l.map spV) .ro), (3, (.im (.int .i64 (((m : Nat) : Int))))), (4, (.im (.int .i64 ((((k : Nat)) : Int)))))], ofl []⟩) ?_ 0 (Nat.zero_le _) hI
    intro k hk hJ hnx
    by_cases hkl : k < s.l.length
    · have hkl' : (k : Int) < (s.l.length : Int) := by omega
      have hgk := get_some hkl
      have hk1 := wrap_succ hkl (by omega)
      have hn2 := hnx (k + 1) (by omega) (by omega)
      clear hnx
      rw [List.drop_eq_getElem_cons hkl, List.all_cons] at hJ
      generalize s.l[k] = e at hgk hJ
      by_cases h3 : e.text.length ≤ 400
      · have h3' : ¬ (e.text.length : Int) > 400 := by omega
        have he : lgE e = true := decide_eq_true h3
        rw [he, Bool.true_and] at hJ
        refine wG Y13_Zi (And.intro hlt' (And.intro SPT (And.intro hg (And.intro hkl' (And.intro ENT (And.intro hgk (And.intro BAT (And.intro h3' hk1)))))))) ?_
        refine ALp.cutP 0 [(0, .sl (l.map spV) .ro), (3, (.im (.int .i64 (((m : Nat) : Int))))), (4, (.im (.int .i64 ((((k + 1 : Nat)) : Int)))))] [] I1_Zi ?_
        exact hn2 hJ
      · have h3' : (e.text.length : Int) > 400 := by omega
        have he : lgE e = false := decide_eq_false h3
        rw [he] at hJ
        rw [hJ]
        refine wG Y13_Zi (And.intro hlt' (And.intro SPT (And.intro hg (And.intro hkl' (And.intro ENT (And.intro hgk (And.intro BAT h3'))))))) ?_
        exact Fin.oneP
    · obtain rfl : k = s.l.length := by omega
      have hkl' : ¬ (s.l.length : Int) < (s.l.length : Int) := by omega
      rw [List.drop_length] at hJ
      clear hnx hkl
      refine wG Y13_Zi (And.intro hlt' (And.intro SPT (And.intro hg (And.intro hkl' (And.intro ENT hm1))))) ?_
      refine ALp.cutP 0 [(0, .sl (l.map spV) .ro), (3, (.im (.int .i64 ((((m + 1 : Nat)) : Int)))))] [] I1_Zi ?_
      exact hn hJ
  · obtain rfl : m = l.length := by omega
    have hlt' : ¬ (l.length : Int) < (l.length : Int) := by omega
    rw [List.drop_length] at hI
    rw [hI]
    clear hnext hlt hI
    by_cases h : l.length ≤ 30
    · have h' : (l.length : Int) ≤ 30 := by omega
      rw [decide_eq_true h]
      refine wG Y13_Zi (And.intro hlt' (And.intro h' @List.length_map.{0, 0})) ?_
      exact Fin.oneP
    · have h' : ¬ (l.length : Int) ≤ 30 := by omega
      rw [decide_eq_false h]
      refine wG Y13_Zi (And.intro hlt' (And.intro h' @List.length_map.{0, 0})) ?_
      exact Fin.oneP
set_option maxHeartbeats 8000000 in
theorem c_steps47W (l : List Sp) (hl : l.length ≤ 140737488355328) (ha : ∀ s ∈ l, adrB s.e ∧ ∀ e ∈ s.l, adrB e) : PC Tryz.prog 4 [.sl (l.map spV) .ro] (.im (.bool (true))) := by
  have ql := c_lightW l hl
  cases hlg : lgB l with
  | false =>
    rw [hlg] at ql
    have qx := c_example47
    refine PC.enter 91 Tryz.func4 rfl (by decide) rfl rfl (s := [(0, .sl (l.map spV) .ro)]) (by rfl) ?_
    refine wG Y4_Rt True.intro ?_
    refine AR.callP qx True.intro (And.intro enV_id (And.intro enL_id (And.intro byL_id (And.intro lsV_id (And.intro lsL_id (And.intro (@tyV_id) (And.intro spV_id spL_id))))))) ?_
    refine goG Y4_Rt True.intro ?_
    refine wG Y4_Rt True.intro ?_
    refine AR.callP ql True.intro (And.intro enV_id (And.intro enL_id (And.intro byL_id (And.intro lsV_id (And.intro lsL_id (And.intro (@tyV_id) (And.intro spV_id spL_id))))))) ?_
    refine goG Y4_Rt True.intro ?_
    refine wG Y4_Rt True.intro ?_
    exact Fin.oneP
  | true => exact c_steps47 l (Nat.le_trans (lg_len hlg) (by decide)) ha
end Go.Proofs.YtianekkfehoedaaGreatDoor
namespace Go.Proofs.YtianekkfehoedaaGreatDoor
open Go.RowKit Go.ChangeShapes Go.WideShapes Go.WideMaps Go.WideElems
section
variable {H : Type} {enc : TypeId × Value → H} {P : Program} {W : World}
theorem law_full {f : FuncId} {fn : Func} {s : ChangeSpec} {L : List TypeId} {B : TypeId} {b : Nat} {args : Array Value} {ds gs : List (DataW H)} {before : List MemPlace} (hL : okTy P L = true) (hl : laidOutB P = true) (hpar : ∀ t ∈ fn.params.toList, t ∈ L ∧ P.readableRec t = true ∧ t < P.types.size)
    (hvars : s.vars = []) (hres : fn.resultTypes = #[B]) (hB : P.underlying B = some .bool) (hs : ∀ ds : List (DataW H), RdL P fn.params.toList ds → s.fn H (ds ++ []) = { results := [.lit (.bool true)], args := ds })
    (hP : ∀ ds : List (DataW H), RdL P fn.params.toList ds → (DataW.weightsEach P fn.params.toList ds).all (· ≤ reachBytes) = true → PC P f (ds.map dV) (.im (.bool true)))
    (hval : ∀ (j : Nat) t v, fn.params[j]? = some t → args[j]? = some v → Value.okWide P W .any b t v) (hW : DataW.Whole enc P fn.params.toList s.vars false W args.toList ds gs before)
    {X : List TypeId} (hk : (DataW.weightsEach P (fn.params.toList ++ X) (ds ++ gs)).all (· ≤ reachBytes) = true) (hX : X = []) (hg : (Cf.raw W).known) :
    Calls P f args W fun e W' => ∃ v, e = .returned v ∧ s.post enc P fn false true false false W args v W' := by
  have hlt := hW.lt
  have hW' := hW
  obtain ⟨p, q, hA, hV, rfl, _, _⟩ := hW
  rw [hvars] at hV
  obtain ⟨rfl, rfl⟩ := trodVars_none hV
  obtain ⟨h1, h2, h3⟩ := args_of hL (b := b) _ _ _ _ (fun t ht => (hpar t ht).1) (fun j t v h4 h5 => hval j t v (by simpa using h4) (by simpa using h5)) hA
  have hb : (DataW.weightsEach P fn.params.toList ds).all (· ≤ reachBytes) = true := by rwa [hX, List.append_nil, List.append_nil] at hk
  refine ((hP ds h1 hb).2 (Cf.raw W) args rfl (raw_ok hg) (by simpa using h2) (fun i hi => ?_)).mono ?_
  · have := h3 i hi
    simpa [List.getD, Array.getD_eq_getD_getElem?] using this
  · rintro e W' ⟨v, x, st', rfl, ⟨rfl, rfl⟩, D, rfl, _, _, hE, hR⟩
    have hBel := raw_below hE
    obtain rfl := hR.of_some_bool
    refine ⟨_, rfl, ds, [], _, [], p, [], hW', ?_, ?_, ?_, hBel.frame _, fun h => by cases h⟩
    · rw [hs ds h1, hres]
      exact trodAll_mk1 (shut_bool hB true)
    · rw [hs ds h1]
      exact args_stay hl hBel _ _ _ _ (fun t ht => (hpar t ht).2) (fun x hx => hlt x (by simp [hx])) hA
    · rw [hs ds h1, hvars]
      rfl
end
end Go.Proofs.YtianekkfehoedaaGreatDoor
namespace Go.Proofs.YtianekkfehoedaaGreatDoor.projectSteps
set_option linter.unusedSimpArgs false
set_option linter.unusedVariables false
set_option linter.unnecessarySimpa false
open Go.RowKit
theorem own : ownKnob Tryz.prog.godebug = none := by kernel_rfl
theorem tys : okTy Tryz.prog [38, 48, 28, 46, 3, 44, 9] = true := by kernel_rfl
theorem laid : laidOutB Tryz.prog = true := by kernel_rfl
theorem pars : (Tryz.f4.params.toList.all fun t => [38, 48, 28, 46, 3, 44, 9].contains t && Tryz.prog.readableRec t && decide (t < Tryz.prog.types.size)) = true := by kernel_rfl
theorem trees {H : Type} (ds : List (DataW H)) (h : RdL Tryz.prog Tryz.f4.params.toList ds) (hb : (DataW.weightsEach Tryz.prog Tryz.f4.params.toList ds).all (· ≤ reachBytes) = true) : PC Tryz.prog 4 (ds.map dV) (.im (.bool true)) := by
  rw [Tryz.params4] at h hb
  match ds, h with
  | [d1], ⟨h1, _⟩ =>
    obtain ⟨w1, _⟩ := WtL_all hb
    obtain ⟨x1, e1, n1, f1⟩ := rd_spsW h1 w1
    simp only [List.map_cons, List.map_nil, dV, e1]
    exact (c_steps47W x1 n1 fun s hs => ⟨(f1 s hs).1, (f1 s hs).2.1⟩)
set_option maxRecDepth 100000 in
theorem lifted (os : Os) (started : os.Started) (H : Type) (enc : TypeId × Value → H) (F : Stop.Interp) :
    ReturnsInHanded {} Tryz.checked os 4 .any ((OpenSpec.ofChange Rows.projectStepsSpec).preRow enc Tryz.prog Tryz.f4 Rows.projectStepsRow.domain false Rows.projectStepsRow.laid) (((OpenSpec.ofChange Rows.projectStepsSpec).at F).post enc Tryz.prog Tryz.f4 false true false false) := by
  have hx : DataW.whole enc Tryz.prog ((laidWorld os).forCall (fun _ _ => 0) ⟨#[], #[.slice none 0 0], []⟩).memory Tryz.f4.params.toList Rows.projectStepsSpec.vars false #[(.slice none 0 0 : Value)].toList 8 = some ([.nil], [], []) := by kernel_rfl
  refine returnsInHanded_of_row (C := Tryz.checked) (s := OpenSpec.ofChange Rows.projectStepsSpec) own started (by kernel_rfl) Tryz.func4
    (witness_row_at (enc := enc) (C := Tryz.checked) false (laidWorld os) #[.slice none 0 0] rfl (by kernel_rfl) (by kernel_rfl) (by kernel_rfl)
      (OpenSpec.preRow_of_cond 8 hx (by kernel_rfl) (fun k hk => by cases hk) (by kernel_rfl) (laid_met os _))) ?_
  intro W base args ds gs before hval hW _ _ hwt hL hsh _
  refine law_full tys laid (fun t ht => ?_) rfl (by kernel_rfl) Tryz.underlying4 (fun ds hd => ?_) trees hval hW hwt (by rfl) (known_of hsh hL)
  · have := List.all_eq_true.1 pars t ht
    simp only [Bool.and_eq_true, decide_eq_true_eq, List.contains_iff_mem] at this
    exact ⟨this.1.1, this.1.2, this.2⟩
  · match ds, hd with
    | [d1], _ => rfl
theorem said : Rows.ProjectStepsSaid :=
  OpenClaim.holds_of_cond 4 Tryz.f4 rfl rfl rfl rfl rfl rfl rfl ⟨rfl, rfl, rfl, rfl, rfl⟩ rfl rfl rfl rfl rfl (by kernel_rfl) Tryz.func4 (by kernel_rfl)
    (of_decide_eq_true (by kernel_rfl)) (by unfold Func.isWrapper; first | (rw [if_pos (by decide +kernel)]; kernel_rfl) | (rw [if_neg (by decide +kernel)]; exact ⟨rfl, rfl⟩))
    (fun os started H enc _ F => by rw [OpenClaim.pre_eq_preRow]; exact lifted os started H enc F)
/-- No parameter wants a stand-in; the program's own looks are off: what the card asks. -/
theorem plain (f : FuncId) (fn : Func) (hf : Tryz.pinned.checked.prog.funcNamed "decompiler/decompilerlaw47.ProjectSteps" = some f) (hfn : Tryz.pinned.checked.prog.funcs[f]? = some fn) :
    true = Tryz.pinned.checked.prog.looks [] ∧ ∀ (j : Nat) t, fn.params[j]? = some t → Tryz.pinned.checked.prog.wantsStandIn t = false := by
  obtain rfl : f = 4 := Option.some.inj ((show Tryz.prog.funcNamed "decompiler/decompilerlaw47.ProjectSteps" = some 4 by kernel_rfl).symm.trans hf) |>.symm
  obtain rfl : fn = Tryz.f4 := (Option.some.inj (Tryz.func4.symm.trans hfn)).symm
  refine ⟨by kernel_rfl, fun j t ht => ?_⟩
  rw [Tryz.params4] at ht
  have h := Array.mem_of_getElem? ht
  simp only [List.mem_toArray, List.mem_cons, List.not_mem_nil, or_false] at h
  rcases h with rfl
  · exact (show Tryz.prog.wantsStandIn 38 = false by kernel_rfl)
theorem proved : Rows.ProjectStepsCardSaid :=
  Claim7.holds_tied_plain_at .later [] _ _ _ _ said (fun _ h => by cases h) (by kernel_rfl) (fun _ h => by cases h) projectSteps_row_tie rfl ⟨rfl, rfl⟩ (by kernel_rfl) rfl plain (by kernel_rfl)
end Go.Proofs.YtianekkfehoedaaGreatDoor.projectSteps
