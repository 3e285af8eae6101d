/- ProjectSaved: decompilerlaw47.ProjectSaved returns true for every input whose bulk is at most 1048576, where the listed package-level variables hold what the program's text lays in them, and what came in reads as it did. Proved by walking through the code on trees of values. -/
import Derived.Test.YtianekkfehoedaaDoorLx
import Derived.Test.YtianekkfehoedaaDoorZo
import Derived.JoinedCond
namespace Go.Proofs.YtianekkfehoedaaDoor.projectSaved
set_option linter.unusedSimpArgs false
set_option linter.unusedVariables false
set_option linter.unnecessarySimpa false
open Go.RowKit

theorem own : ownKnob Tryd.prog.godebug = none := by kernel_rfl
theorem tys : okTy Tryd.prog [22, 52, 28, 36, 3, 34, 9, 5] = true := by kernel_rfl
theorem laid : laidOutB Tryd.prog = true := by kernel_rfl
theorem pars : (Tryd.f5.params.toList.all fun t => [22, 52, 28, 36, 3, 34, 9, 5].contains t && Tryd.prog.readableRec t && decide (t < Tryd.prog.types.size)) = true := by kernel_rfl
theorem trees {H : Type} (ds : List (DataW H)) (h : RdL Tryd.prog Tryd.f5.params.toList ds) (hb : Rows.uptoBulkAll ds ≤ 1048576) : PC Tryd.prog 5 (ds.map dV) (.im (.bool true)) := by
  rw [Tryd.params5] at h
  match ds, h with
  | [d1, d2, d3], ⟨h1, h2, h3, _⟩ =>
    simp only [Rows.uptoBulkAll] at hb
    obtain ⟨x1, e1, n1, f1⟩ := rd_sps h1
    obtain ⟨x2, rfl, f2⟩ := h2.int_inv G_int
    obtain ⟨x3, rfl, f3⟩ := h3.int_inv G_u8
    obtain ⟨b3, k3⟩ := u8_of f3
    simp only [List.map_cons, List.map_nil, dV, e1]
    exact (k3 ▸ c_saved47 x1 x2 b3 (by omega) fun s hs => (f1 s hs).1)

set_option maxRecDepth 100000 in
theorem lifted (os : Os) (started : os.Started) (H : Type) (enc : TypeId × Value → H) (F : Stop.Interp) :
    ReturnsInHanded {} Tryd.checked os 5 .any ((Rows.OpenSpec.upto Rows.projectSavedSpec).preRow enc Tryd.prog Tryd.f5 Rows.projectSavedUptoRow.domain false Rows.projectSavedUptoRow.laid) (((Rows.OpenSpec.upto Rows.projectSavedSpec).at F).post enc Tryd.prog Tryd.f5 false true false false) := by
  have hx : DataW.whole enc Tryd.prog ((laidWorld os).forCall (fun _ _ => 0) ⟨#[], #[.slice none 0 0, .int .i64 0, .int .u8 0], []⟩).memory Tryd.f5.params.toList Rows.projectSavedSpec.vars false #[(.slice none 0 0 : Value), (.int .i64 0 : Value), (.int .u8 0 : Value)].toList 8 = some ([.nil, .lit (.int .i64 0), .lit (.int .u8 0)], [], []) := by kernel_rfl
  refine returnsInHanded_of_row (C := Tryd.checked) (s := Rows.OpenSpec.upto Rows.projectSavedSpec) own started (by kernel_rfl) Tryd.func5
    (witness_row_at (enc := enc) (C := Tryd.checked) false (laidWorld os) #[.slice none 0 0, .int .i64 0, .int .u8 0] rfl (by kernel_rfl) (by kernel_rfl) (by kernel_rfl)
      (OpenSpec.preRow_of_cond 8 hx (by kernel_rfl) (fun k hk => by cases hk; kernel_rfl) (by kernel_rfl) (laid_met os _))) ?_
  intro W base args ds gs before hval hW _ hcond _ hL hsh _
  refine law_post tys laid (fun t ht => ?_) rfl (by kernel_rfl) Tryd.underlying4 (fun ds hd => ?_) trees hval hW (hcond _ rfl) (known_of hsh hL)
  · have := List.all_eq_true.1 pars t ht
    simp only [Bool.and_eq_true, decide_eq_true_eq, List.contains_iff_mem] at this
    exact ⟨this.1.1, this.1.2, this.2⟩
  · match ds, hd with
    | [d1, d2, d3], _ => rfl

theorem said : Rows.ProjectSavedUptoSaid :=
  OpenClaim.holds_of_cond 5 Tryd.f5 rfl rfl rfl rfl rfl rfl rfl ⟨rfl, rfl, rfl, rfl, rfl⟩ rfl rfl rfl rfl rfl (by kernel_rfl) Tryd.func5 (by kernel_rfl)
    (of_decide_eq_true (by kernel_rfl)) (by unfold Func.isWrapper; first | (rw [if_pos (by decide +kernel)]; kernel_rfl) | (rw [if_neg (by decide +kernel)]; exact ⟨rfl, rfl⟩))
    (fun os started H enc _ F => by rw [OpenClaim.pre_eq_preRow]; exact lifted os started H enc F)

/-- No parameter wants a stand-in; the program's own looks are off: what the card asks. -/
theorem plain (f : FuncId) (fn : Func) (hf : Tryd.pinned.checked.prog.funcNamed "decompiler/decompilerlaw47.ProjectSaved" = some f) (hfn : Tryd.pinned.checked.prog.funcs[f]? = some fn) :
    true = Tryd.pinned.checked.prog.looks [] ∧ ∀ (j : Nat) t, fn.params[j]? = some t → Tryd.pinned.checked.prog.wantsStandIn t = false := by
  obtain rfl : f = 5 := Option.some.inj ((show Tryd.prog.funcNamed "decompiler/decompilerlaw47.ProjectSaved" = some 5 by kernel_rfl).symm.trans hf) |>.symm
  obtain rfl : fn = Tryd.f5 := (Option.some.inj (Tryd.func5.symm.trans hfn)).symm
  refine ⟨by kernel_rfl, fun j t ht => ?_⟩
  rw [Tryd.params5] at ht
  have h := Array.mem_of_getElem? ht
  simp only [List.mem_toArray, List.mem_cons, List.not_mem_nil, or_false] at h
  rcases h with rfl | rfl | rfl
  · exact (show Tryd.prog.wantsStandIn 22 = false by kernel_rfl)
  · exact (show Tryd.prog.wantsStandIn 3 = false by kernel_rfl)
  · exact (show Tryd.prog.wantsStandIn 5 = false by kernel_rfl)

theorem proved : Rows.ProjectSavedUptoCardSaid :=
  Claim7.holds_tied_plain_at .later [] _ _ _ _ said (fun _ h => by cases h) (by kernel_rfl) (fun _ h => by cases h) projectSavedUpto_row_tie rfl ⟨rfl, rfl⟩ (by kernel_rfl) rfl plain (by kernel_rfl)
end Go.Proofs.YtianekkfehoedaaDoor.projectSaved
