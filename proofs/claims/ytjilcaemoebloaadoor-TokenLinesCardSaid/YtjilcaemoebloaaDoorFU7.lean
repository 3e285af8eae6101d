/- TokenLines: decompilerlaw39.TokenLines returns true for every input (each string and slice of it within the form's own reach), where the listed package-level variables hold what the program's text lays in them, and what came in reads as it did. Proved by walking through the code on trees of values. -/
import Derived.Test.YtjilcaemoebloaaDoorLv
import Derived.Test.YtjilcaemoebloaaDoorT31
import Derived.JoinedCond
namespace Go.Proofs.YtjilcaemoebloaaDoor
open Go.RowKit Go.ChangeShapes Go.WideShapes Go.WideMaps Go.WideElems
section
variable {H : Type} {enc : TypeId × Value → H} {P : Program} {W : World}
theorem law_full {f : FuncId} {fn : Func} {s : ChangeSpec} {L : List TypeId} {B : TypeId} {b : Nat} {args : Array Value} {ds gs : List (DataW H)} {before : List MemPlace} (hL : okTy P L = true) (hl : laidOutB P = true) (hpar : ∀ t ∈ fn.params.toList, t ∈ L ∧ P.readableRec t = true ∧ t < P.types.size)
    (hvars : s.vars = []) (hres : fn.resultTypes = #[B]) (hB : P.underlying B = some .bool) (hs : ∀ ds : List (DataW H), RdL P fn.params.toList ds → s.fn H (ds ++ []) = { results := [.lit (.bool true)], args := ds })
    (hP : ∀ ds : List (DataW H), RdL P fn.params.toList ds → (DataW.weightsEach P fn.params.toList ds).all (· ≤ reachBytes) = true → PC P f (ds.map dV) (.im (.bool true)))
    (hval : ∀ (j : Nat) t v, fn.params[j]? = some t → args[j]? = some v → Value.okWide P W .any b t v) (hW : DataW.Whole enc P fn.params.toList s.vars false W args.toList ds gs before)
    {X : List TypeId} (hk : (DataW.weightsEach P (fn.params.toList ++ X) (ds ++ gs)).all (· ≤ reachBytes) = true) (hX : X = []) (hg : (Cf.raw W).known) :
    Calls P f args W fun e W' => ∃ v, e = .returned v ∧ s.post enc P fn false true false false W args v W' := by
  have hlt := hW.lt
  have hW' := hW
  obtain ⟨p, q, hA, hV, rfl, _, _⟩ := hW
  rw [hvars] at hV
  obtain ⟨rfl, rfl⟩ := trodVars_none hV
  obtain ⟨h1, h2, h3⟩ := args_of hL (b := b) _ _ _ _ (fun t ht => (hpar t ht).1) (fun j t v h4 h5 => hval j t v (by simpa using h4) (by simpa using h5)) hA
  have hb : (DataW.weightsEach P fn.params.toList ds).all (· ≤ reachBytes) = true := by rwa [hX, List.append_nil, List.append_nil] at hk
  refine ((hP ds h1 hb).2 (Cf.raw W) args rfl (raw_ok hg) (by simpa using h2) (fun i hi => ?_)).mono ?_
  · have := h3 i hi
    simpa [List.getD, Array.getD_eq_getD_getElem?] using this
  · rintro e W' ⟨v, x, st', rfl, ⟨rfl, rfl⟩, D, rfl, _, _, hE, hR⟩
    have hBel := raw_below hE
    obtain rfl := hR.of_some_bool
    refine ⟨_, rfl, ds, [], _, [], p, [], hW', ?_, ?_, ?_, hBel.frame _, fun h => by cases h⟩
    · rw [hs ds h1, hres]
      exact trodAll_mk1 (shut_bool hB true)
    · rw [hs ds h1]
      exact args_stay hl hBel _ _ _ _ (fun t ht => (hpar t ht).2) (fun x hx => hlt x (by simp [hx])) hA
    · rw [hs ds h1, hvars]
      rfl
end
end Go.Proofs.YtjilcaemoebloaaDoor
namespace Go.Proofs.YtjilcaemoebloaaDoor.tokenLines
set_option linter.unusedSimpArgs false
set_option linter.unusedVariables false
set_option linter.unnecessarySimpa false
open Go.RowKit

theorem own : ownKnob Tryd.prog.godebug = none := by kernel_rfl
theorem tys : okTy Tryd.prog [9, 5] = true := by kernel_rfl
theorem laid : laidOutB Tryd.prog = true := by kernel_rfl
theorem pars : (Tryd.f9.params.toList.all fun t => [9, 5].contains t && Tryd.prog.readableRec t && decide (t < Tryd.prog.types.size)) = true := by kernel_rfl
theorem trees {H : Type} (ds : List (DataW H)) (h : RdL Tryd.prog Tryd.f9.params.toList ds) (hb : (DataW.weightsEach Tryd.prog Tryd.f9.params.toList ds).all (· ≤ reachBytes) = true) : PC Tryd.prog 9 (ds.map dV) (.im (.bool true)) := by
  rw [Tryd.params9] at h hb
  match ds, h with
  | [d1, d2], ⟨h1, h2, _⟩ =>
    obtain ⟨x1, rfl, _⟩ := h1.string_inv Tryd.underlying9
    obtain ⟨x2, rfl, f2⟩ := h2.int_inv G_u8
    simp only [List.map_cons, List.map_nil, dV]
    exact c_law7 x1.data.toList x2 (U8_lt f2) (by simp only [DataW.weightsEach, DataW.weights, List.cons_append, List.nil_append, List.all_cons, List.all_nil, Bool.and_true] at hb; have hb := of_decide_eq_true hb; simp only [reachBytes] at hb; omega)

set_option maxRecDepth 100000 in
theorem lifted (os : Os) (started : os.Started) (H : Type) (enc : TypeId × Value → H) (F : Stop.Interp) :
    ReturnsInHanded {} Tryd.checked os 9 .any ((OpenSpec.ofChange Rows.tokenLinesSpec).preRow enc Tryd.prog Tryd.f9 Rows.tokenLinesRow.domain false Rows.tokenLinesRow.laid) (((OpenSpec.ofChange Rows.tokenLinesSpec).at F).post enc Tryd.prog Tryd.f9 false true false false) := by
  have hx : DataW.whole enc Tryd.prog ((laidWorld os).forCall (fun _ _ => 0) ⟨#[], #[.string .empty, .int .u8 0], []⟩).memory Tryd.f9.params.toList Rows.tokenLinesSpec.vars false #[(.string .empty : Value), (.int .u8 0 : Value)].toList 8 = some ([.lit (.string []), .lit (.int .u8 0)], [], []) := by kernel_rfl
  refine returnsInHanded_of_row (C := Tryd.checked) (s := OpenSpec.ofChange Rows.tokenLinesSpec) own started (by kernel_rfl) Tryd.func9
    (witness_row_at (enc := enc) (C := Tryd.checked) false (laidWorld os) #[.string .empty, .int .u8 0] rfl (by kernel_rfl) (by kernel_rfl) (by kernel_rfl)
      (OpenSpec.preRow_of_cond 8 hx (by kernel_rfl) (fun k hk => by cases hk) (by kernel_rfl) (laid_met os _))) ?_
  intro W base args ds gs before hval hW _ _ hwt hL hsh _
  refine law_full tys laid (fun t ht => ?_) rfl (by kernel_rfl) Tryd.underlying4 (fun ds hd => ?_) trees hval hW hwt (by rfl) (known_of hsh hL)
  · have := List.all_eq_true.1 pars t ht
    simp only [Bool.and_eq_true, decide_eq_true_eq, List.contains_iff_mem] at this
    exact ⟨this.1.1, this.1.2, this.2⟩
  · match ds, hd with
    | [d1, d2], _ => rfl

theorem said : Rows.TokenLinesSaid :=
  OpenClaim.holds_of_cond 9 Tryd.f9 rfl rfl rfl rfl rfl rfl rfl ⟨rfl, rfl, rfl, rfl, rfl⟩ rfl rfl rfl rfl rfl (by kernel_rfl) Tryd.func9 (by kernel_rfl)
    (of_decide_eq_true (by kernel_rfl)) (by unfold Func.isWrapper; first | (rw [if_pos (by decide +kernel)]; kernel_rfl) | (rw [if_neg (by decide +kernel)]; exact ⟨rfl, rfl⟩))
    (fun os started H enc _ F => by rw [OpenClaim.pre_eq_preRow]; exact lifted os started H enc F)

/-- No parameter wants a stand-in; the program's own looks are off: what the card asks. -/
theorem plain (f : FuncId) (fn : Func) (hf : Tryd.pinned.checked.prog.funcNamed "decompiler/decompilerlaw39.TokenLines" = some f) (hfn : Tryd.pinned.checked.prog.funcs[f]? = some fn) :
    true = Tryd.pinned.checked.prog.looks [] ∧ ∀ (j : Nat) t, fn.params[j]? = some t → Tryd.pinned.checked.prog.wantsStandIn t = false := by
  obtain rfl : f = 9 := Option.some.inj ((show Tryd.prog.funcNamed "decompiler/decompilerlaw39.TokenLines" = some 9 by kernel_rfl).symm.trans hf) |>.symm
  obtain rfl : fn = Tryd.f9 := (Option.some.inj (Tryd.func9.symm.trans hfn)).symm
  refine ⟨by kernel_rfl, fun j t ht => ?_⟩
  rw [Tryd.params9] at ht
  have h := Array.mem_of_getElem? ht
  simp only [List.mem_toArray, List.mem_cons, List.not_mem_nil, or_false] at h
  rcases h with rfl | rfl
  · exact (show Tryd.prog.wantsStandIn 9 = false by kernel_rfl)
  · exact (show Tryd.prog.wantsStandIn 5 = false by kernel_rfl)

theorem proved : Rows.TokenLinesCardSaid :=
  Claim7.holds_tied_plain_at .later [] _ _ _ _ said (fun _ h => by cases h) (by kernel_rfl) (fun _ h => by cases h) tokenLines_row_tie rfl ⟨rfl, rfl⟩ (by kernel_rfl) rfl plain (by kernel_rfl)
end Go.Proofs.YtjilcaemoebloaaDoor.tokenLines
