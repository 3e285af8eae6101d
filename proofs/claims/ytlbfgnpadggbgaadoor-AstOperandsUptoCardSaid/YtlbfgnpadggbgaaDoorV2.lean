/- AstOperands: decompilerlaw38.AstOperands returns true for every input whose bulk is at most 1048576, where the listed package-level variables hold what the program's text lays in them, and what came in reads as it did. Proved by walking through the code on trees of values. -/
import Derived.Test.YtlbfgnpadggbgaaDoorLz
import Derived.Test.YtlbfgnpadggbgaaDoorEC
import Derived.JoinedCond
import Derived.Deep.DeepWitnessRowRef
namespace Go.Proofs.YtlbfgnpadggbgaaDoor.astOperands
set_option linter.unusedSimpArgs false
set_option linter.unusedVariables false
set_option linter.unnecessarySimpa false
open Go.RowKit

theorem own : ownKnob Tryd.prog.godebug = none := by kernel_rfl
theorem tys : okTy Tryd.prog [3, 25, 22, 9, 23] = true := by kernel_rfl
theorem laid : laidOutB Tryd.prog = true := by kernel_rfl
theorem pars : (Tryd.f4.params.toList.all fun t => [3, 25, 22, 9, 23].contains t && Tryd.prog.readableRec t && decide (t < Tryd.prog.types.size)) = true := by kernel_rfl
theorem trees {H : Type} (ds : List (DataW H)) (h : RdL Tryd.prog Tryd.f4.params.toList ds) (hb : Rows.uptoBulkAll ds ≤ 1048576) : PC Tryd.prog 4 (ds.map dV) (.im (.bool true)) := by
  rw [Tryd.params4] at h
  match ds, h with
  | [d1, d2, d3], ⟨h1, h2, h3, _⟩ =>
    simp only [Rows.uptoBulkAll] at hb
    obtain ⟨x1, rfl, f1⟩ := h1.int_inv G_int
    obtain ⟨x2, e2, f2⟩ := rd_ex 4194304 _ (by omega) (Nat.le_refl _) h2
    obtain ⟨x3, e3, f3⟩ := rd_ex 4194304 _ (by omega) (Nat.le_refl _) h3
    simp only [List.map_cons, List.map_nil, dV, e2, e3]
    exact c_oper38 x1 x2 x3 (I64_of f1) f2 f3

set_option maxRecDepth 100000 in
theorem lifted (os : Os) (started : os.Started) (H : Type) (enc : TypeId × Value → H) (F : Stop.Interp) :
    ReturnsInHanded {} Tryd.checked os 4 .any ((Rows.OpenSpec.upto Rows.astOperandsSpec).preRow enc Tryd.prog Tryd.f4 Rows.astOperandsUptoRow.domain false Rows.astOperandsUptoRow.laid) (((Rows.OpenSpec.upto Rows.astOperandsSpec).at F).post enc Tryd.prog Tryd.f4 false true false false) := by
  have hx : DataW.whole enc Tryd.prog ((laidWorld os).forCall (fun _ _ => 0) ⟨#[], #[.int .i64 0, .agg #[.int .i64 0, .int .u32 0, .string .empty, .int .i64 0, .slice none 0 0], .agg #[.int .i64 0, .int .u32 0, .string .empty, .int .i64 0, .slice none 0 0]], []⟩).memory Tryd.f4.params.toList Rows.astOperandsSpec.vars false #[(.int .i64 0 : Value), (.agg #[.int .i64 0, .int .u32 0, .string .empty, .int .i64 0, .slice none 0 0] : Value), (.agg #[.int .i64 0, .int .u32 0, .string .empty, .int .i64 0, .slice none 0 0] : Value)].toList 8 = some ([.lit (.int .i64 0), .agg [.lit (.int .i64 0), .lit (.int .u32 0), .lit (.string []), .lit (.int .i64 0), .nil], .agg [.lit (.int .i64 0), .lit (.int .u32 0), .lit (.string []), .lit (.int .i64 0), .nil]], [], []) := by kernel_rfl
  refine returnsInHanded_of_row (C := Tryd.checked) (s := Rows.OpenSpec.upto Rows.astOperandsSpec) own started (by kernel_rfl) Tryd.func4
    (witness_row_atRef (enc := enc) (C := Tryd.checked) false (laidWorld os) #[.int .i64 0, .agg #[.int .i64 0, .int .u32 0, .string .empty, .int .i64 0, .slice none 0 0], .agg #[.int .i64 0, .int .u32 0, .string .empty, .int .i64 0, .slice none 0 0]] rfl (by kernel_rfl) (by kernel_rfl) (by kernel_rfl)
      (OpenSpec.preRow_of_cond 8 hx (by kernel_rfl) (fun k hk => by cases hk; kernel_rfl) (by kernel_rfl) (laid_met os _))) ?_
  intro W base args ds gs before hval hW _ hcond _ hL hsh _
  refine law_post tys laid (fun t ht => ?_) rfl (by kernel_rfl) Tryd.underlying4 (fun ds hd => ?_) trees hval hW (hcond _ rfl) (known_of hsh hL)
  · have := List.all_eq_true.1 pars t ht
    simp only [Bool.and_eq_true, decide_eq_true_eq, List.contains_iff_mem] at this
    exact ⟨this.1.1, this.1.2, this.2⟩
  · match ds, hd with
    | [d1, d2, d3], _ => rfl

theorem said : Rows.AstOperandsUptoSaid :=
  OpenClaim.holds_of_cond 4 Tryd.f4 rfl rfl rfl rfl rfl rfl rfl ⟨rfl, rfl, rfl, rfl, rfl⟩ rfl rfl rfl rfl rfl (by kernel_rfl) Tryd.func4 (by kernel_rfl)
    (of_decide_eq_true (by kernel_rfl)) (by unfold Func.isWrapper; first | (rw [if_pos (by decide +kernel)]; kernel_rfl) | (rw [if_neg (by decide +kernel)]; exact ⟨rfl, rfl⟩))
    (fun os started H enc _ F => by rw [OpenClaim.pre_eq_preRow]; exact lifted os started H enc F)

/-- No parameter wants a stand-in; the program's own looks are off: what the card asks. -/
theorem plain (f : FuncId) (fn : Func) (hf : Tryd.pinned.checked.prog.funcNamed "decompiler/decompilerlaw38.AstOperands" = some f) (hfn : Tryd.pinned.checked.prog.funcs[f]? = some fn) :
    false = Tryd.pinned.checked.prog.looks [] ∧ ∀ (j : Nat) t, fn.params[j]? = some t → Tryd.pinned.checked.prog.wantsStandIn t = false := by
  obtain rfl : f = 4 := Option.some.inj ((show Tryd.prog.funcNamed "decompiler/decompilerlaw38.AstOperands" = some 4 by kernel_rfl).symm.trans hf) |>.symm
  obtain rfl : fn = Tryd.f4 := (Option.some.inj (Tryd.func4.symm.trans hfn)).symm
  refine ⟨by kernel_rfl, fun j t ht => ?_⟩
  rw [Tryd.params4] at ht
  have h := Array.mem_of_getElem? ht
  simp only [List.mem_toArray, List.mem_cons, List.not_mem_nil, or_false] at h
  rcases h with rfl | rfl | rfl
  · exact (show Tryd.prog.wantsStandIn 3 = false by kernel_rfl)
  · exact (show Tryd.prog.wantsStandIn 25 = false by kernel_rfl)
  · exact (show Tryd.prog.wantsStandIn 25 = false by kernel_rfl)

theorem proved : Rows.AstOperandsUptoCardSaid :=
  Claim7.holds_tied_plain_at .later [] _ _ _ _ said (fun _ h => by cases h) (by kernel_rfl) (fun _ h => by cases h) astOperandsUpto_row_tie rfl ⟨rfl, rfl⟩ (by kernel_rfl) rfl plain (by kernel_rfl)
end Go.Proofs.YtlbfgnpadggbgaaDoor.astOperands
