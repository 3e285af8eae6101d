/- CtypeWarnings: decompilerlaw41.CtypeWarnings returns true for every input whose bulk is at most 1048576, and what came in reads as it did. Proved by walking through the code on trees of values. -/
import Derived.Test.YtfggemopnlffeaaGreatLf
import Derived.Test.YtfggemopnlffeaaGreatD9
import Derived.Test.YtfggemopnlffeaaGreatOu
import Derived.JoinedCond
namespace Go.Proofs.YtfggemopnlffeaaGreat.ctypeWarnings
set_option linter.unusedSimpArgs false
set_option linter.unusedVariables false
set_option linter.unnecessarySimpa false
open Go.RowKit

theorem own : ownKnob Tryz.prog.godebug = none := by kernel_rfl
theorem tys : okTy Tryz.prog [3, 9, 4, 5, 45, 41, 38, 64, 39, 44, 22, 48, 46, 59, 35, 57, 91, 23, 89, 37, 24, 26] = true := by kernel_rfl
theorem laid : laidOutB Tryz.prog = true := by kernel_rfl
theorem pars : (Tryz.f3.params.toList.all fun t => [3, 9, 4, 5, 45, 41, 38, 64, 39, 44, 22, 48, 46, 59, 35, 57, 91, 23, 89, 37, 24, 26].contains t && Tryz.prog.readableRec t && decide (t < Tryz.prog.types.size)) = true := by kernel_rfl
theorem trees {H : Type} (ds : List (DataW H)) (h : RdL Tryz.prog Tryz.f3.params.toList ds) (hb : Rows.uptoBulkAll ds ≤ 1048576) : PC Tryz.prog 3 (ds.map dV) (.im (.bool true)) := by
  rw [Tryz.params3] at h
  match ds, h with
  | [d1], ⟨h1, _⟩ =>
    simp only [Rows.uptoBulkAll] at hb
    obtain ⟨x1, e1, f1⟩ := rd_un d1 (by omega) h1
    simp only [List.map_cons, List.map_nil, dV, e1]
    exact c_law5 x1 f1

set_option maxRecDepth 100000 in
theorem lifted (os : Os) (started : os.Started) (H : Type) (enc : TypeId × Value → H) (F : Stop.Interp) :
    ReturnsInHanded {} Tryz.checked os 3 .any ((Rows.OpenSpec.upto Rows.ctypeWarningsSpec).preRow enc Tryz.prog Tryz.f3 Rows.ctypeWarningsUptoRow.domain false Rows.ctypeWarningsUptoRow.laid) (((Rows.OpenSpec.upto Rows.ctypeWarningsSpec).at F).post enc Tryz.prog Tryz.f3 false true false false) := by
  have hx : DataW.whole enc Tryz.prog ((World.holding Tryz.prog os ⟨#[], #[], []⟩).forCall (fun _ _ => 0) ⟨#[], #[.agg #[.slice none 0 0, .slice none 0 0, .slice none 0 0]], []⟩).memory Tryz.f3.params.toList Rows.ctypeWarningsSpec.vars false #[(.agg #[.slice none 0 0, .slice none 0 0, .slice none 0 0] : Value)].toList 8 = some ([.agg [.nil, .nil, .nil]], [], []) := by kernel_rfl
  refine returnsInHanded_of_row (C := Tryz.checked) (s := Rows.OpenSpec.upto Rows.ctypeWarningsSpec) own started (by kernel_rfl) Tryz.func3
    (witness_row_at (enc := enc) (C := Tryz.checked) false (World.holding Tryz.prog os ⟨#[], #[], []⟩) #[.agg #[.slice none 0 0, .slice none 0 0, .slice none 0 0]] rfl (by kernel_rfl) (by kernel_rfl) (by kernel_rfl)
      (OpenSpec.preRow_of_cond 8 hx (by kernel_rfl) (fun k hk => by cases hk; kernel_rfl) (by kernel_rfl) ⟨[], rfl, List.nodup_nil, fun _ _ h => by cases h⟩)) ?_
  intro W base args ds gs before hval hW _ hcond _ _ hsh _
  refine law_post tys laid (fun t ht => ?_) rfl (by kernel_rfl) Tryz.underlying4 (fun ds hd => ?_) trees hval hW (hcond _ rfl) (known_of hsh)
  · have := List.all_eq_true.1 pars t ht
    simp only [Bool.and_eq_true, decide_eq_true_eq, List.contains_iff_mem] at this
    exact ⟨this.1.1, this.1.2, this.2⟩
  · match ds, hd with
    | [d1], _ => rfl

theorem proved : Rows.CtypeWarningsUptoSaid :=
  OpenClaim.holds_of_cond 3 Tryz.f3 rfl rfl rfl rfl rfl rfl rfl ⟨rfl, rfl, rfl, rfl, rfl⟩ rfl rfl rfl rfl rfl (by kernel_rfl) Tryz.func3 (by kernel_rfl)
    (of_decide_eq_true (by kernel_rfl)) (by unfold Func.isWrapper; first | (rw [if_pos (by decide +kernel)]; kernel_rfl) | (rw [if_neg (by decide +kernel)]; exact ⟨rfl, rfl⟩))
    (fun os started H enc _ F => by rw [OpenClaim.pre_eq_preRow]; exact lifted os started H enc F)
end Go.Proofs.YtfggemopnlffeaaGreat.ctypeWarnings
