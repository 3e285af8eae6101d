/- The law AstExprs: CheckExpr and PrintExpr return what the reference returns. -/
import Derived.Test.YtlbfgnpadggbgaaGreatDoorHv
import Derived.Test.YtlbfgnpadggbgaaGreatDoorMF
import Derived.Test.YtlbfgnpadggbgaaGreatDoorE3
import Derived.Test.YtlbfgnpadggbgaaGreatDoorEE
import Derived.Test.YtlbfgnpadggbgaaGreatDoorBJ
namespace Go.Proofs.YtlbfgnpadggbgaaGreatDoor
set_option linter.unusedSimpArgs false
set_option linter.unusedVariables false
set_option linter.unnecessarySimpa false
open Go.RowKit
theorem n32_fitE : ∀ e : Ex, fitE e → n32 e = true := by
  refine Ex.induct fun o n s w l hl => ?_
  intro hf
  obtain ⟨_, h2⟩ := fitE_mk hf
  obtain ⟨_, h3, _⟩ := fitE_num hf
  rw [n32_mk, Bool.and_eq_true, decide_eq_true_eq, List.all_eq_true]
  exact ⟨by omega, fun t ht => hl t ht (h2 t ht)⟩
theorem Y3_ED : type_of% (And.intro @F_ag_25 (And.intro @F_el_26 (And.intro @F_sz_25 (@F_sz_66)))) := And.intro @F_ag_25 (And.intro @F_el_26 (And.intro @F_sz_25 (@F_sz_66)))
theorem c_exprs38 (e : Ex) (vs : List Va) (he : fitE e) (hv : fitV vs) : PC Tryz.prog 3 [exV e, (V.sl (vs.map vaV) .ro)] (.im (.bool (true))) := by
  have qx := c_ex38
  have q1 := c_sizeE e he 3000 (by decide) (by decide)
  by_cases pa : 0 < exn e 3000
  case neg =>
    have pa' : exn e 3000 ≤ 0 := by omega
    refine PC.enter 31 Tryz.func3 rfl (by decide) rfl rfl (s := [(0, exV e), (1, (V.sl (vs.map vaV) .ro))]) (by rfl) ?_
    refine wG Y3_ED EX ?_
    refine AR.callP q1 @exV_eq (And.intro (@exL_id) (And.intro (@exV_id) (And.intro (@vaL_id) @vaV_id))) ?_
    refine goG Y3_ED (And.intro pa' EX) ?_
    refine wG Y3_ED EX ?_
    refine AR.callP qx True.intro (And.intro (@exL_id) (And.intro (@exV_id) (And.intro (@vaL_id) @vaV_id))) ?_
    refine goG Y3_ED True.intro ?_
    refine wG Y3_ED True.intro ?_
    exact Fin.oneP
  have pa' : ¬ exn e 3000 ≤ 0 := by omega
  by_cases pb : vs.length > 600
  case pos =>
    have pb' : (vs.length : Int) > 600 := by omega
    refine PC.enter 31 Tryz.func3 rfl (by decide) rfl rfl (s := [(0, exV e), (1, (V.sl (vs.map vaV) .ro))]) (by rfl) ?_
    refine wG Y3_ED EX ?_
    refine AR.callP q1 @exV_eq (And.intro (@exL_id) (And.intro (@exV_id) (And.intro (@vaL_id) @vaV_id))) ?_
    refine goG Y3_ED (And.intro pa' (And.intro EX (And.intro (@List.length_map.{0, 0}) pb'))) ?_
    refine wG Y3_ED EX ?_
    refine AR.callP qx True.intro (And.intro (@exL_id) (And.intro (@exV_id) (And.intro (@vaL_id) @vaV_id))) ?_
    refine goG Y3_ED True.intro ?_
    refine wG Y3_ED True.intro ?_
    exact Fin.oneP
  have pb' : ¬ (vs.length : Int) > 600 := by omega
  have la := prE_len (n32_fitE e he) pa (by decide)
  have q2 := c_CheckE vs hv.1 e he
  have q3 := c_CheckER vs hv.1 e he
  have q4 := c_PrintExpr e he (by omega)
  have q5 := c_PrintExprR e he (by omega)
  generalize prE e = s at la q4 q5
  generalize chkE vs e = r at q2 q3
  have hs : (s == s) = true := by simp
  refine PC.enter 31 Tryz.func3 rfl (by decide) rfl rfl (s := [(0, exV e), (1, (V.sl (vs.map vaV) .ro))]) (by rfl) ?_
  refine wG Y3_ED EX ?_
  refine AR.callP q1 @exV_eq (And.intro (@exL_id) (And.intro (@exV_id) (And.intro (@vaL_id) @vaV_id))) ?_
  refine goG Y3_ED (And.intro pa' (And.intro EX (And.intro (@List.length_map.{0, 0}) pb'))) ?_
  refine wdG Y3_ED EX ?_
  refine AR.callP q2 @exV_eq (And.intro (@exL_id) (And.intro (@exV_id) (And.intro (@vaL_id) @vaV_id))) ?_
  refine goG Y3_ED EX ?_
  refine AR.callP q3 @exV_eq (And.intro (@exL_id) (And.intro (@exV_id) (And.intro (@vaL_id) @vaV_id))) ?_
  refine goG Y3_ED EX ?_
  refine AR.callP q4 @exV_eq (And.intro (@exL_id) (And.intro (@exV_id) (And.intro (@vaL_id) @vaV_id))) ?_
  refine goG Y3_ED EX ?_
  refine AR.callP q5 @exV_eq (And.intro (@exL_id) (And.intro (@exV_id) (And.intro (@vaL_id) @vaV_id))) ?_
  refine goG Y3_ED (And.intro BY hs) ?_
  refine AR.callP qx True.intro (And.intro (@exL_id) (And.intro (@exV_id) (And.intro (@vaL_id) @vaV_id))) ?_
  refine goG Y3_ED True.intro ?_
  refine wdG Y3_ED True.intro ?_
  exact Fin.oneP
end Go.Proofs.YtlbfgnpadggbgaaGreatDoor

