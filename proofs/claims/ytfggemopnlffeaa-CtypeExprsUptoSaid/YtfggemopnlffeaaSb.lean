/- CtypeExprs: decompilerlaw41.CtypeExprs returns true for every input whose bulk is at most 1048576, and what came in reads as it did. Proved by walking through the code on trees of values. -/
import Derived.Test.YtfggemopnlffeaaLf
import Derived.Test.YtfggemopnlffeaaCA
import Derived.JoinedCond
namespace Go.Proofs.Ytfggemopnlffeaa.ctypeExprs
set_option linter.unusedSimpArgs false
set_option linter.unusedVariables false
set_option linter.unnecessarySimpa false
open Go.RowKit

theorem own : ownKnob Try.prog.godebug = none := by kernel_rfl
theorem tys : okTy Try.prog [3, 31, 9, 34, 32, 35, 44, 25, 22, 59, 23] = true := by kernel_rfl
theorem laid : laidOutB Try.prog = true := by kernel_rfl
theorem pars : (Try.f4.params.toList.all fun t => [3, 31, 9, 34, 32, 35, 44, 25, 22, 59, 23].contains t && Try.prog.readableRec t && decide (t < Try.prog.types.size)) = true := by kernel_rfl
theorem trees {H : Type} (ds : List (DataW H)) (h : RdL Try.prog Try.f4.params.toList ds) (hb : Rows.uptoBulkAll ds ≤ 1048576) : PC Try.prog 4 (ds.map dV) (.im (.bool true)) := by
  rw [Try.params4] at h
  match ds, h with
  | [d1, d2], ⟨h1, h2, _⟩ =>
    simp only [Rows.uptoBulkAll] at hb
    obtain ⟨x1, e1, f1⟩ := rd_ex _ d1 (Nat.le_refl _) (by omega) h1
    obtain ⟨x2, e2, f2⟩ := rd_vs d2 (by omega) h2
    simp only [List.map_cons, List.map_nil, dV, e1, e2]
    exact c_law2 x1 f1 x2 f2

set_option maxRecDepth 100000 in
theorem lifted (os : Os) (started : os.Started) (H : Type) (enc : TypeId × Value → H) (F : Stop.Interp) :
    ReturnsInHanded {} Try.checked os 4 .any ((Rows.OpenSpec.upto Rows.ctypeExprsSpec).preRow enc Try.prog Try.f4 Rows.ctypeExprsUptoRow.domain false Rows.ctypeExprsUptoRow.laid) (((Rows.OpenSpec.upto Rows.ctypeExprsSpec).at F).post enc Try.prog Try.f4 false true false false) := by
  have hx : DataW.whole enc Try.prog ((World.holding Try.prog os ⟨#[], #[], []⟩).forCall (fun _ _ => 0) ⟨#[], #[.agg #[.int .i64 0, .int .u32 0, .string .empty, .int .i64 0, .slice none 0 0], .slice none 0 0], []⟩).memory Try.f4.params.toList Rows.ctypeExprsSpec.vars false #[(.agg #[.int .i64 0, .int .u32 0, .string .empty, .int .i64 0, .slice none 0 0] : Value), (.slice none 0 0 : Value)].toList 8 = some ([.agg [.lit (.int .i64 0), .lit (.int .u32 0), .lit (.string []), .lit (.int .i64 0), .nil], .nil], [], []) := by kernel_rfl
  refine returnsInHanded_of_row (C := Try.checked) (s := Rows.OpenSpec.upto Rows.ctypeExprsSpec) own started (by kernel_rfl) Try.func4
    (witness_row_at (enc := enc) (C := Try.checked) false (World.holding Try.prog os ⟨#[], #[], []⟩) #[.agg #[.int .i64 0, .int .u32 0, .string .empty, .int .i64 0, .slice none 0 0], .slice none 0 0] rfl (by kernel_rfl) (by kernel_rfl) (by kernel_rfl)
      (OpenSpec.preRow_of_cond 8 hx (by kernel_rfl) (fun k hk => by cases hk; kernel_rfl) (by kernel_rfl) ⟨[], rfl, List.nodup_nil, fun _ _ h => by cases h⟩)) ?_
  intro W base args ds gs before hval hW _ hcond _ _ hsh _
  refine law_post tys laid (fun t ht => ?_) rfl (by kernel_rfl) Try.underlying4 (fun ds hd => ?_) trees hval hW (hcond _ rfl) (known_of hsh)
  · have := List.all_eq_true.1 pars t ht
    simp only [Bool.and_eq_true, decide_eq_true_eq, List.contains_iff_mem] at this
    exact ⟨this.1.1, this.1.2, this.2⟩
  · match ds, hd with
    | [d1, d2], _ => rfl

theorem proved : Rows.CtypeExprsUptoSaid :=
  OpenClaim.holds_of_cond 4 Try.f4 rfl rfl rfl rfl rfl rfl rfl ⟨rfl, rfl, rfl, rfl, rfl⟩ rfl rfl rfl rfl rfl (by kernel_rfl) Try.func4 (by kernel_rfl)
    (of_decide_eq_true (by kernel_rfl)) (by unfold Func.isWrapper; first | (rw [if_pos (by decide +kernel)]; kernel_rfl) | (rw [if_neg (by decide +kernel)]; exact ⟨rfl, rfl⟩))
    (fun os started H enc _ F => by rw [OpenClaim.pre_eq_preRow]; exact lifted os started H enc F)
end Go.Proofs.Ytfggemopnlffeaa.ctypeExprs
