/- ProjectLoads: decompilerlaw47.ProjectLoads returns true for every input (each string and slice of it within the form's own reach), where the listed package-level variables hold what the program's text lays in them, and what came in reads as it did. Proved by walking through the code on trees of values. -/
import Derived.Test.YtianekkfehoedaaGreatDoorLx
import Derived.Test.YtianekkfehoedaaGreatDoorRw
import Derived.JoinedCond
namespace Go.Proofs.YtianekkfehoedaaGreatDoor
open Go.RowKit
section
variable {H : Type} {P : Program}
def Wt (P : Program) (t : TypeId) (d : DataW H) : Prop := ∀ n ∈ d.weights P t, n ≤ reachBytes
def WtL (P : Program) : List TypeId → List (DataW H) → Prop
  | t :: ts, x :: xs => Wt P t x ∧ WtL P ts xs
  | _, _ => True
theorem WtL_of : ∀ {ts : List TypeId} {ds : List (DataW H)}, (∀ n ∈ DataW.weightsEach P ts ds, n ≤ reachBytes) → WtL P ts ds
  | t :: ts, x :: xs, h => ⟨fun n hn => h n (by simp only [DataW.weightsEach]; exact List.mem_append_left _ hn), WtL_of fun n hn => h n (by simp only [DataW.weightsEach]; exact List.mem_append_right _ hn)⟩
  | [], _, _ => by simp only [WtL]
  | _ :: _, [], _ => by simp only [WtL]
theorem WtL_all {ts : List TypeId} {ds : List (DataW H)} (h : (DataW.weightsEach P ts ds).all (· ≤ reachBytes) = true) : WtL P ts ds :=
  WtL_of fun n hn => of_decide_eq_true (List.all_eq_true.1 h n hn)
theorem wAll {e : TypeId} {x : DataW H} {n : Nat} : ∀ {es : List (DataW H)}, x ∈ es → n ∈ x.weights P e → n ∈ DataW.weightsAll P e es
  | y :: r, h, hn => by
    simp only [DataW.weightsAll]
    rcases List.mem_cons.1 h with rfl | h
    · exact List.mem_append_left _ hn
    · exact List.mem_append_right _ (wAll h hn)
theorem Wt.slice {t e : TypeId} {es sp : List (DataW H)} (h : Wt P t (.slice es sp)) (ht : elOf P t = some e) (hz : decide (1 ≤ P.bytesOf e) = true) : es.length ≤ 140737488355328 ∧ ∀ x ∈ es, Wt P e x := by
  have hz := of_decide_eq_true hz
  have hw : ∀ n, n ∈ (es.length + sp.length) * P.bytesOf e :: (DataW.weightsAll P e es ++ DataW.weightsAll P e sp) → n ≤ reachBytes := fun n hn => h n (by
    unfold elOf at ht
    simp only [DataW.weights]
    cases hu : P.underlying t with
    | none => rw [hu] at ht; cases ht
    | some u =>
      rw [hu] at ht
      cases u with
      | slice e' => cases ht; exact hn
      | _ => cases ht)
  constructor
  · have h1 := hw _ (List.mem_cons_self ..)
    have h2 : es.length + sp.length ≤ (es.length + sp.length) * P.bytesOf e := Nat.le_mul_of_pos_right _ hz
    have h3 : reachBytes = 140737488351232 := rfl
    omega
  · exact fun x hx n hn => hw n (List.mem_cons_of_mem _ (List.mem_append_left _ (wAll hx hn)))
theorem slice_ofW {α : Type} {G : α → V} {Q : α → Prop} {d : DataW H} {t e : TypeId} (hd : Rd P t d) (hw : Wt P t d) (ht : elOf P t = some e) (hz : decide (1 ≤ P.bytesOf e) = true)
    (h : ∀ x : DataW H, Rows.uptoBulk x < Rows.uptoBulk d → Rd P e x → Wt P e x → ∃ a, dV x = G a ∧ Q a) : ∃ l : List α, dV d = .sl (l.map G) .ro ∧ l.length ≤ 140737488355328 ∧ ∀ a ∈ l, Q a := by
  rcases hd.slice_inv ht with rfl | ⟨es, sp, rfl, hes⟩
  · exact ⟨[], by simp [dV], by simp, fun a ha => by cases ha⟩
  · have h0 := bulk_sl es sp
    obtain ⟨w1, w2⟩ := hw.slice ht hz
    obtain ⟨l, h1, h2, h3⟩ := list_of (G := G) (Q := Q) (es := es) fun x hx => h x (by have := bulk_mem hx; omega) (hes x hx) (w2 x hx)
    exact ⟨l, by simp [dV, h1], by omega, h3⟩
end
theorem rd_byW {H : Type} {d : DataW H} (hd : Rd Tryz.prog 22 d) (hw : Wt Tryz.prog 22 d) : ∃ l : Bs, dV d = .sl (l.map byB) .ro ∧ l.length ≤ 140737488355328 := by
  obtain ⟨l, h1, h2, _⟩ := slice_ofW (G := byB) (Q := fun _ => True) hd hw G_byL (by kernel_rfl) fun x _ hr _ => rd_u8 hr
  exact ⟨l, h1, h2⟩
set_option maxHeartbeats 4000000 in
theorem c_loads47W (b : Bs) (hb : b.length ≤ 140737488355328) : PC Tryz.prog 3 [.sl (b.map byB) .ro] (.im (.bool (true))) := by
  by_cases h1000 : b.length > 1000
  case neg => exact c_loads47 b (by omega)
  have qx := c_example47
  refine PC.enter 56 Tryz.func3 rfl (by decide) rfl rfl (s := [(0, .sl (b.map byB) .ro)]) (by rfl) ?_
  refine wG Y3_Rw True.intro ?_
  refine AR.callP qx True.intro (And.intro enV_id (And.intro enL_id (And.intro byL_id (And.intro lsV_id (And.intro lsL_id @tyV_id))))) ?_
  have h1' : ((b.length : Nat) : Int) > 1000 := by omega
  refine goG Y3_Rw True.intro ?_
  refine wG Y3_Rw (And.intro h1' @List.length_map.{0, 0}) ?_
  exact Fin.oneP
end Go.Proofs.YtianekkfehoedaaGreatDoor
namespace Go.Proofs.YtianekkfehoedaaGreatDoor
open Go.RowKit Go.ChangeShapes Go.WideShapes Go.WideMaps Go.WideElems
section
variable {H : Type} {enc : TypeId × Value → H} {P : Program} {W : World}
theorem law_full {f : FuncId} {fn : Func} {s : ChangeSpec} {L : List TypeId} {B : TypeId} {b : Nat} {args : Array Value} {ds gs : List (DataW H)} {before : List MemPlace} (hL : okTy P L = true) (hl : laidOutB P = true) (hpar : ∀ t ∈ fn.params.toList, t ∈ L ∧ P.readableRec t = true ∧ t < P.types.size)
    (hvars : s.vars = []) (hres : fn.resultTypes = #[B]) (hB : P.underlying B = some .bool) (hs : ∀ ds : List (DataW H), RdL P fn.params.toList ds → s.fn H (ds ++ []) = { results := [.lit (.bool true)], args := ds })
    (hP : ∀ ds : List (DataW H), RdL P fn.params.toList ds → (DataW.weightsEach P fn.params.toList ds).all (· ≤ reachBytes) = true → PC P f (ds.map dV) (.im (.bool true)))
    (hval : ∀ (j : Nat) t v, fn.params[j]? = some t → args[j]? = some v → Value.okWide P W .any b t v) (hW : DataW.Whole enc P fn.params.toList s.vars false W args.toList ds gs before)
    {X : List TypeId} (hk : (DataW.weightsEach P (fn.params.toList ++ X) (ds ++ gs)).all (· ≤ reachBytes) = true) (hX : X = []) (hg : (Cf.raw W).known) :
    Calls P f args W fun e W' => ∃ v, e = .returned v ∧ s.post enc P fn false true false false W args v W' := by
  have hlt := hW.lt
  have hW' := hW
  obtain ⟨p, q, hA, hV, rfl, _, _⟩ := hW
  rw [hvars] at hV
  obtain ⟨rfl, rfl⟩ := trodVars_none hV
  obtain ⟨h1, h2, h3⟩ := args_of hL (b := b) _ _ _ _ (fun t ht => (hpar t ht).1) (fun j t v h4 h5 => hval j t v (by simpa using h4) (by simpa using h5)) hA
  have hb : (DataW.weightsEach P fn.params.toList ds).all (· ≤ reachBytes) = true := by rwa [hX, List.append_nil, List.append_nil] at hk
  refine ((hP ds h1 hb).2 (Cf.raw W) args rfl (raw_ok hg) (by simpa using h2) (fun i hi => ?_)).mono ?_
  · have := h3 i hi
    simpa [List.getD, Array.getD_eq_getD_getElem?] using this
  · rintro e W' ⟨v, x, st', rfl, ⟨rfl, rfl⟩, D, rfl, _, _, hE, hR⟩
    have hBel := raw_below hE
    obtain rfl := hR.of_some_bool
    refine ⟨_, rfl, ds, [], _, [], p, [], hW', ?_, ?_, ?_, hBel.frame _, fun h => by cases h⟩
    · rw [hs ds h1, hres]
      exact trodAll_mk1 (shut_bool hB true)
    · rw [hs ds h1]
      exact args_stay hl hBel _ _ _ _ (fun t ht => (hpar t ht).2) (fun x hx => hlt x (by simp [hx])) hA
    · rw [hs ds h1, hvars]
      rfl
end
end Go.Proofs.YtianekkfehoedaaGreatDoor
namespace Go.Proofs.YtianekkfehoedaaGreatDoor.projectLoads
set_option linter.unusedSimpArgs false
set_option linter.unusedVariables false
set_option linter.unnecessarySimpa false
open Go.RowKit
theorem own : ownKnob Tryz.prog.godebug = none := by kernel_rfl
theorem tys : okTy Tryz.prog [22, 5] = true := by kernel_rfl
theorem laid : laidOutB Tryz.prog = true := by kernel_rfl
theorem pars : (Tryz.f3.params.toList.all fun t => [22, 5].contains t && Tryz.prog.readableRec t && decide (t < Tryz.prog.types.size)) = true := by kernel_rfl
theorem trees {H : Type} (ds : List (DataW H)) (h : RdL Tryz.prog Tryz.f3.params.toList ds) (hb : (DataW.weightsEach Tryz.prog Tryz.f3.params.toList ds).all (· ≤ reachBytes) = true) : PC Tryz.prog 3 (ds.map dV) (.im (.bool true)) := by
  rw [Tryz.params3] at h hb
  match ds, h with
  | [d1], ⟨h1, _⟩ =>
    obtain ⟨w1, _⟩ := WtL_all hb
    obtain ⟨x1, e1, n1⟩ := rd_byW h1 w1
    simp only [List.map_cons, List.map_nil, dV, e1]
    exact (c_loads47W x1 n1)
set_option maxRecDepth 100000 in
theorem lifted (os : Os) (started : os.Started) (H : Type) (enc : TypeId × Value → H) (F : Stop.Interp) :
    ReturnsInHanded {} Tryz.checked os 3 .any ((OpenSpec.ofChange Rows.projectLoadsSpec).preRow enc Tryz.prog Tryz.f3 Rows.projectLoadsRow.domain false Rows.projectLoadsRow.laid) (((OpenSpec.ofChange Rows.projectLoadsSpec).at F).post enc Tryz.prog Tryz.f3 false true false false) := by
  have hx : DataW.whole enc Tryz.prog ((laidWorld os).forCall (fun _ _ => 0) ⟨#[], #[.slice none 0 0], []⟩).memory Tryz.f3.params.toList Rows.projectLoadsSpec.vars false #[(.slice none 0 0 : Value)].toList 8 = some ([.nil], [], []) := by kernel_rfl
  refine returnsInHanded_of_row (C := Tryz.checked) (s := OpenSpec.ofChange Rows.projectLoadsSpec) own started (by kernel_rfl) Tryz.func3
    (witness_row_at (enc := enc) (C := Tryz.checked) false (laidWorld os) #[.slice none 0 0] rfl (by kernel_rfl) (by kernel_rfl) (by kernel_rfl)
      (OpenSpec.preRow_of_cond 8 hx (by kernel_rfl) (fun k hk => by cases hk) (by kernel_rfl) (laid_met os _))) ?_
  intro W base args ds gs before hval hW _ _ hwt hL hsh _
  refine law_full tys laid (fun t ht => ?_) rfl (by kernel_rfl) Tryz.underlying4 (fun ds hd => ?_) trees hval hW hwt (by rfl) (known_of hsh hL)
  · have := List.all_eq_true.1 pars t ht
    simp only [Bool.and_eq_true, decide_eq_true_eq, List.contains_iff_mem] at this
    exact ⟨this.1.1, this.1.2, this.2⟩
  · match ds, hd with
    | [d1], _ => rfl
theorem said : Rows.ProjectLoadsSaid :=
  OpenClaim.holds_of_cond 3 Tryz.f3 rfl rfl rfl rfl rfl rfl rfl ⟨rfl, rfl, rfl, rfl, rfl⟩ rfl rfl rfl rfl rfl (by kernel_rfl) Tryz.func3 (by kernel_rfl)
    (of_decide_eq_true (by kernel_rfl)) (by unfold Func.isWrapper; first | (rw [if_pos (by decide +kernel)]; kernel_rfl) | (rw [if_neg (by decide +kernel)]; exact ⟨rfl, rfl⟩))
    (fun os started H enc _ F => by rw [OpenClaim.pre_eq_preRow]; exact lifted os started H enc F)
/-- No parameter wants a stand-in; the program's own looks are off: what the card asks. -/
theorem plain (f : FuncId) (fn : Func) (hf : Tryz.pinned.checked.prog.funcNamed "decompiler/decompilerlaw47.ProjectLoads" = some f) (hfn : Tryz.pinned.checked.prog.funcs[f]? = some fn) :
    true = Tryz.pinned.checked.prog.looks [] ∧ ∀ (j : Nat) t, fn.params[j]? = some t → Tryz.pinned.checked.prog.wantsStandIn t = false := by
  obtain rfl : f = 3 := Option.some.inj ((show Tryz.prog.funcNamed "decompiler/decompilerlaw47.ProjectLoads" = some 3 by kernel_rfl).symm.trans hf) |>.symm
  obtain rfl : fn = Tryz.f3 := (Option.some.inj (Tryz.func3.symm.trans hfn)).symm
  refine ⟨by kernel_rfl, fun j t ht => ?_⟩
  rw [Tryz.params3] at ht
  have h := Array.mem_of_getElem? ht
  simp only [List.mem_toArray, List.mem_cons, List.not_mem_nil, or_false] at h
  rcases h with rfl
  · exact (show Tryz.prog.wantsStandIn 22 = false by kernel_rfl)
theorem proved : Rows.ProjectLoadsCardSaid :=
  Claim7.holds_tied_plain_at .later [] _ _ _ _ said (fun _ h => by cases h) (by kernel_rfl) (fun _ h => by cases h) projectLoads_row_tie rfl ⟨rfl, rfl⟩ (by kernel_rfl) rfl plain (by kernel_rfl)
end Go.Proofs.YtianekkfehoedaaGreatDoor.projectLoads
