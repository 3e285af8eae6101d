/- CtypeAccess: decompilerlaw41.CtypeAccess returns true for every input whose bulk is at most 1048576, and what came in reads as it did. Proved by walking through the code on trees of values. -/
import Derived.Test.YtfggemopnlffeaaLf
import Derived.Test.YtfggemopnlffeaaCD
import Derived.JoinedCond
namespace Go.Proofs.Ytfggemopnlffeaa.ctypeAccess
set_option linter.unusedSimpArgs false
set_option linter.unusedVariables false
set_option linter.unnecessarySimpa false
open Go.RowKit

theorem own : ownKnob Try.prog.godebug = none := by kernel_rfl
theorem tys : okTy Try.prog [3, 25, 22, 59, 23, 31] = true := by kernel_rfl
theorem laid : laidOutB Try.prog = true := by kernel_rfl
theorem pars : (Try.f6.params.toList.all fun t => [3, 25, 22, 59, 23, 31].contains t && Try.prog.readableRec t && decide (t < Try.prog.types.size)) = true := by kernel_rfl
theorem trees {H : Type} (ds : List (DataW H)) (h : RdL Try.prog Try.f6.params.toList ds) (hb : Rows.uptoBulkAll ds ≤ 1048576) : PC Try.prog 6 (ds.map dV) (.im (.bool true)) := by
  rw [Try.params6] at h
  match ds, h with
  | [d1, d2, d3], ⟨h1, h2, h3, _⟩ =>
    simp only [Rows.uptoBulkAll] at hb
    obtain ⟨x1, e1, f1, _⟩ := rd_ty _ d1 (Nat.le_refl _) (by omega) h1
    obtain ⟨x2, rfl, f2⟩ := h2.int_inv G_u32
    obtain ⟨x3, rfl, f3⟩ := h3.int_inv G_int
    simp only [List.map_cons, List.map_nil, dV, e1]
    exact c_law4 x1 f1 x2 (U32_of f2) x3

set_option maxRecDepth 100000 in
theorem lifted (os : Os) (started : os.Started) (H : Type) (enc : TypeId × Value → H) (F : Stop.Interp) :
    ReturnsInHanded {} Try.checked os 6 .any ((Rows.OpenSpec.upto Rows.ctypeAccessSpec).preRow enc Try.prog Try.f6 Rows.ctypeAccessUptoRow.domain false Rows.ctypeAccessUptoRow.laid) (((Rows.OpenSpec.upto Rows.ctypeAccessSpec).at F).post enc Try.prog Try.f6 false true false false) := by
  have hx : DataW.whole enc Try.prog ((World.holding Try.prog os ⟨#[], #[], []⟩).forCall (fun _ _ => 0) ⟨#[], #[.agg #[.int .i64 0, .int .i64 0, .int .i64 0, .slice none 0 0, .slice none 0 0], .int .u32 0, .int .i64 0], []⟩).memory Try.f6.params.toList Rows.ctypeAccessSpec.vars false #[(.agg #[.int .i64 0, .int .i64 0, .int .i64 0, .slice none 0 0, .slice none 0 0] : Value), (.int .u32 0 : Value), (.int .i64 0 : Value)].toList 8 = some ([.agg [.lit (.int .i64 0), .lit (.int .i64 0), .lit (.int .i64 0), .nil, .nil], .lit (.int .u32 0), .lit (.int .i64 0)], [], []) := by kernel_rfl
  refine returnsInHanded_of_row (C := Try.checked) (s := Rows.OpenSpec.upto Rows.ctypeAccessSpec) own started (by kernel_rfl) Try.func6
    (witness_row_at (enc := enc) (C := Try.checked) false (World.holding Try.prog os ⟨#[], #[], []⟩) #[.agg #[.int .i64 0, .int .i64 0, .int .i64 0, .slice none 0 0, .slice none 0 0], .int .u32 0, .int .i64 0] rfl (by kernel_rfl) (by kernel_rfl) (by kernel_rfl)
      (OpenSpec.preRow_of_cond 8 hx (by kernel_rfl) (fun k hk => by cases hk; kernel_rfl) (by kernel_rfl) ⟨[], rfl, List.nodup_nil, fun _ _ h => by cases h⟩)) ?_
  intro W base args ds gs before hval hW _ hcond _ _ hsh _
  refine law_post tys laid (fun t ht => ?_) rfl (by kernel_rfl) Try.underlying4 (fun ds hd => ?_) trees hval hW (hcond _ rfl) (known_of hsh)
  · have := List.all_eq_true.1 pars t ht
    simp only [Bool.and_eq_true, decide_eq_true_eq, List.contains_iff_mem] at this
    exact ⟨this.1.1, this.1.2, this.2⟩
  · match ds, hd with
    | [d1, d2, d3], _ => rfl

theorem proved : Rows.CtypeAccessUptoSaid :=
  OpenClaim.holds_of_cond 6 Try.f6 rfl rfl rfl rfl rfl rfl rfl ⟨rfl, rfl, rfl, rfl, rfl⟩ rfl rfl rfl rfl rfl (by kernel_rfl) Try.func6 (by kernel_rfl)
    (of_decide_eq_true (by kernel_rfl)) (by unfold Func.isWrapper; first | (rw [if_pos (by decide +kernel)]; kernel_rfl) | (rw [if_neg (by decide +kernel)]; exact ⟨rfl, rfl⟩))
    (fun os started H enc _ F => by rw [OpenClaim.pre_eq_preRow]; exact lifted os started H enc F)
end Go.Proofs.Ytfggemopnlffeaa.ctypeAccess
