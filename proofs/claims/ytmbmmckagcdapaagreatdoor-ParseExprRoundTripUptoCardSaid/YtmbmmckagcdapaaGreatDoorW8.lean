import Derived.JoinedCond
import Derived.Deep.DeepWitnessRowRef
import Derived.Test.YtmbmmckagcdapaaGreatDoorJ11
import Derived.Test.YtmbmmckagcdapaaGreatDoorJ22
set_option linter.unusedSimpArgs false
set_option linter.unusedVariables false
set_option linter.unnecessarySimpa false
namespace Go.Proofs.YtmbmmckagcdapaaGreatDoor.parseExprRoundTrip
open Go.RowKit
theorem own : ownKnob Tryz.prog.godebug = none := by kernel_rfl
theorem tys : okTy Tryz.prog [46, 3, 43, 9, 44] = true := by kernel_rfl
theorem laid : laidOutB Tryz.prog = true := by kernel_rfl
theorem pars : (Tryz.f10.params.toList.all fun t => [46, 3, 43, 9, 44].contains t && Tryz.prog.readableRec t && decide (t < Tryz.prog.types.size)) = true := by kernel_rfl
theorem trees {H : Type} (ds : List (DataW H)) (h : RdL Tryz.prog Tryz.f10.params.toList ds) (hb : Rows.uptoBulkAll ds ≤ 1048576) : PC Tryz.prog 10 (ds.map dV) (.im (.bool true)) := by
  rw [Tryz.params10] at h
  match ds, h with
  | [d1], ⟨h1, _⟩ =>
    simp only [Rows.uptoBulkAll] at hb; obtain ⟨x1, e1, f1⟩ := op_ex 4194304 _ (by omega) (Nat.le_refl _) h1
    simp only [List.map_cons, List.map_nil, dV, e1]; exact c_exrt x1 f1
set_option maxRecDepth 100000 in
theorem lifted (os : Os) (started : os.Started) (H : Type) (enc : TypeId × Value → H) (F : Stop.Interp) :
    ReturnsInHanded {} Tryz.checked os 10 .any ((Rows.OpenSpec.upto Rows.parseExprRoundTripSpec).preRow enc Tryz.prog Tryz.f10 Rows.parseExprRoundTripUptoRow.domain false Rows.parseExprRoundTripUptoRow.laid) (((Rows.OpenSpec.upto Rows.parseExprRoundTripSpec).at F).post enc Tryz.prog Tryz.f10 false true false false) := by
  have hx : DataW.whole enc Tryz.prog ((laidWorld os).forCall (fun _ _ => 0) ⟨#[], #[.agg #[.int .i64 0, .int .u32 0, .string .empty, .int .i64 0, .slice none 0 0]], []⟩).memory Tryz.f10.params.toList Rows.parseExprRoundTripSpec.vars false #[(.agg #[.int .i64 0, .int .u32 0, .string .empty, .int .i64 0, .slice none 0 0] : Value)].toList 8 = some ([.agg [.lit (.int .i64 0), .lit (.int .u32 0), .lit (.string []), .lit (.int .i64 0), .nil]], [], []) := by kernel_rfl
  refine returnsInHanded_of_row (C := Tryz.checked) (s := Rows.OpenSpec.upto Rows.parseExprRoundTripSpec) own started (by kernel_rfl) Tryz.func10
    (witness_row_atRef (enc := enc) (C := Tryz.checked) false (laidWorld os) #[.agg #[.int .i64 0, .int .u32 0, .string .empty, .int .i64 0, .slice none 0 0]] rfl (by kernel_rfl) (by kernel_rfl) (by kernel_rfl)
      (OpenSpec.preRow_of_cond 8 hx (by kernel_rfl) (fun k hk => by cases hk; kernel_rfl) (by kernel_rfl) (laid_met os _))) ?_
  intro W base args ds gs before hval hW _ hcond _ hL hsh _
  refine law_post tys laid (fun t ht => ?_) rfl (by kernel_rfl) Tryz.underlying4 (fun ds hd => ?_) trees hval hW (hcond _ rfl) (known_of hsh hL)
  · have := List.all_eq_true.1 pars t ht
    simp only [Bool.and_eq_true, decide_eq_true_eq, List.contains_iff_mem] at this; exact ⟨this.1.1, this.1.2, this.2⟩
  · match ds, hd with
    | [d1], _ => rfl
theorem and2 {a b : Bool} (h1 : a = true) (h2 : b = true) : (a && b) = true := by rw [h1, h2]; rfl
set_option maxHeartbeats 4000000 in
theorem facts : joinedFacts Tryz.pinned.checked.prog 10 Tryz.f10 (Rows.OpenSpec.upto Rows.parseExprRoundTripSpec).bare Rows.parseExprRoundTripUptoRow = true := by
  unfold joinedFacts
  iterate 31 refine and2 ?_ (by as_aux_lemma => kernel_rfl)
  kernel_rfl
theorem said : Rows.ParseExprRoundTripUptoSaid :=
  OpenClaim.holds_of_cond 10 Tryz.f10 rfl rfl rfl rfl rfl rfl rfl ⟨rfl, rfl, rfl, rfl, rfl⟩ rfl rfl rfl rfl rfl (by kernel_rfl) Tryz.func10 facts
    (of_decide_eq_true (by kernel_rfl)) (by unfold Func.isWrapper; first | (rw [if_pos (by decide +kernel)]; kernel_rfl) | (rw [if_neg (by decide +kernel)]; exact ⟨rfl, rfl⟩))
    (fun os started H enc _ F => by rw [OpenClaim.pre_eq_preRow]; exact lifted os started H enc F)
theorem plain (f : FuncId) (fn : Func) (hf : Tryz.pinned.checked.prog.funcNamed "decompiler/decompilerlaw40.ParseExprRoundTrip" = some f) (hfn : Tryz.pinned.checked.prog.funcs[f]? = some fn) :
    true = Tryz.pinned.checked.prog.looks [] ∧ ∀ (j : Nat) t, fn.params[j]? = some t → Tryz.pinned.checked.prog.wantsStandIn t = false := by
  obtain rfl : f = 10 := Option.some.inj ((show Tryz.prog.funcNamed "decompiler/decompilerlaw40.ParseExprRoundTrip" = some 10 by kernel_rfl).symm.trans hf) |>.symm
  obtain rfl : fn = Tryz.f10 := (Option.some.inj (Tryz.func10.symm.trans hfn)).symm
  refine ⟨by kernel_rfl, fun j t ht => ?_⟩
  rw [Tryz.params10] at ht
  have h := Array.mem_of_getElem? ht
  simp only [List.mem_toArray, List.mem_cons, List.not_mem_nil, or_false] at h
  rcases h with rfl
  · exact (show Tryz.prog.wantsStandIn 46 = false by kernel_rfl)
theorem proved : Rows.ParseExprRoundTripUptoCardSaid :=
  Claim7.holds_tied_plain_at .later [] _ _ _ _ said (fun _ h => by cases h) (by kernel_rfl) (fun _ h => by cases h) parseExprRoundTripUpto_row_tie rfl ⟨rfl, rfl⟩ (by kernel_rfl) rfl plain (by kernel_rfl)
end Go.Proofs.YtmbmmckagcdapaaGreatDoor.parseExprRoundTrip
