/- The law AstPrecedence: two well-formed expressions have the same text if and only if they are equal. -/
import Derived.Test.YtlbfgnpadggbgaaDoorHv
import Derived.Test.YtlbfgnpadggbgaaDoorMF
import Derived.Test.YtlbfgnpadggbgaaDoorE3
namespace Go.Proofs.YtlbfgnpadggbgaaDoor
set_option linter.unusedSimpArgs false
set_option linter.unusedVariables false
set_option linter.unnecessarySimpa false
open Go.RowKit
theorem n32_fit : ∀ e : Ex, fitE e → n32 e = true := by
  refine Ex.induct fun o n s w l hl => ?_
  intro hf
  obtain ⟨_, h2⟩ := fitE_mk hf
  obtain ⟨_, h3, _⟩ := fitE_num hf
  rw [n32_mk, Bool.and_eq_true, decide_eq_true_eq, List.all_eq_true]
  exact ⟨by omega, fun t ht => hl t ht (h2 t ht)⟩
theorem prec_bool {a b : Ex} (ha : fitE a) (hb : fitE b) (h1 : (prE a == []) = false) (h2 : (prE b == []) = false) : (prE a == prE b) = samE a b :=
  prec_law (n32_fit a ha) (n32_fit b hb) (fun e => by rw [e] at h1; cases h1) (fun e => by rw [e] at h2; cases h2)
theorem Y3_EB : type_of% (And.intro @F_ag_25 (And.intro @F_sz_25 (@F_un_4))) := And.intro @F_ag_25 (And.intro @F_sz_25 (@F_un_4))
theorem c_prec38 (a b : Ex) (ha : fitE a) (hb : fitE b) : PC Tryd.prog 3 [exV a, exV b] (.im (.bool (true))) := by
  have qx := c_ex38
  have q1 := c_sizeE a ha 2000 (by decide) (by decide)
  have q2 := c_sizeE b hb 2000 (by decide) (by decide)
  by_cases pa : 0 < exn a 2000
  case neg =>
    have pa' : exn a 2000 ≤ 0 := by omega
    refine PC.enter 37 Tryd.func3 rfl (by decide) rfl rfl (s := [(0, exV a), (1, exV b)]) (by rfl) ?_
    refine wG Y3_EB EX ?_
    refine AR.callP q1 @exV_eq (And.intro (@exL_id) @exV_id) ?_
    refine goG Y3_EB (And.intro pa' EX) ?_
    refine wG Y3_EB EX ?_
    refine AR.callP qx True.intro (And.intro (@exL_id) @exV_id) ?_
    refine goG Y3_EB True.intro ?_
    refine wG Y3_EB True.intro ?_
    exact Fin.oneP
  have pa' : ¬ exn a 2000 ≤ 0 := by omega
  by_cases pb : 0 < exn b 2000
  case neg =>
    have pb' : exn b 2000 ≤ 0 := by omega
    refine PC.enter 37 Tryd.func3 rfl (by decide) rfl rfl (s := [(0, exV a), (1, exV b)]) (by rfl) ?_
    refine wG Y3_EB EX ?_
    refine AR.callP q1 @exV_eq (And.intro (@exL_id) @exV_id) ?_
    refine goG Y3_EB (And.intro pa' EX) ?_
    refine AR.callP q2 @exV_eq (And.intro (@exL_id) @exV_id) ?_
    refine goG Y3_EB (And.intro pb' EX) ?_
    refine wG Y3_EB EX ?_
    refine AR.callP qx True.intro (And.intro (@exL_id) @exV_id) ?_
    refine goG Y3_EB True.intro ?_
    refine wG Y3_EB True.intro ?_
    exact Fin.oneP
  have pb' : ¬ exn b 2000 ≤ 0 := by omega
  have la := prE_len (n32_fit a ha) pa (by decide)
  have lb := prE_len (n32_fit b hb) pb (by decide)
  have q3 := c_PrintExpr a ha (by omega)
  have q4 := c_PrintExpr b hb (by omega)
  have q5 := c_SameExpr a ha b hb
  have hlaw := prec_bool ha hb
  generalize prE a = s at la q3 hlaw
  generalize prE b = t at lb q4 hlaw
  generalize samE a b = r at q5 hlaw
  cases hs : (s == []) with
  | true =>
    refine PC.enter 37 Tryd.func3 rfl (by decide) rfl rfl (s := [(0, exV a), (1, exV b)]) (by rfl) ?_
    refine wG Y3_EB EX ?_
    refine AR.callP q1 @exV_eq (And.intro (@exL_id) @exV_id) ?_
    refine goG Y3_EB (And.intro pa' EX) ?_
    refine AR.callP q2 @exV_eq (And.intro (@exL_id) @exV_id) ?_
    refine goG Y3_EB (And.intro pb' EX) ?_
    refine wdG Y3_EB EX ?_
    refine AR.callP q3 @exV_eq (And.intro (@exL_id) @exV_id) ?_
    refine goG Y3_EB EX ?_
    refine AR.callP q4 @exV_eq (And.intro (@exL_id) @exV_id) ?_
    refine goG Y3_EB (And.intro BY hs) ?_
    refine wdG Y3_EB (And.intro BY hs) ?_
    refine AR.callP qx True.intro (And.intro (@exL_id) @exV_id) ?_
    refine goG Y3_EB True.intro ?_
    refine wG Y3_EB True.intro ?_
    exact Fin.oneP
  | false =>
    cases ht : (t == []) with
    | true =>
      refine PC.enter 37 Tryd.func3 rfl (by decide) rfl rfl (s := [(0, exV a), (1, exV b)]) (by rfl) ?_
      refine wG Y3_EB EX ?_
      refine AR.callP q1 @exV_eq (And.intro (@exL_id) @exV_id) ?_
      refine goG Y3_EB (And.intro pa' EX) ?_
      refine AR.callP q2 @exV_eq (And.intro (@exL_id) @exV_id) ?_
      refine goG Y3_EB (And.intro pb' EX) ?_
      refine wdG Y3_EB EX ?_
      refine AR.callP q3 @exV_eq (And.intro (@exL_id) @exV_id) ?_
      refine goG Y3_EB EX ?_
      refine AR.callP q4 @exV_eq (And.intro (@exL_id) @exV_id) ?_
      refine goG Y3_EB (And.intro BY (And.intro hs ht)) ?_
      refine wdG Y3_EB (And.intro BY (And.intro hs ht)) ?_
      refine AR.callP qx True.intro (And.intro (@exL_id) @exV_id) ?_
      refine goG Y3_EB True.intro ?_
      refine wG Y3_EB True.intro ?_
      exact Fin.oneP
    | false =>
      have hl := hlaw hs ht
      clear hlaw
      refine PC.enter 37 Tryd.func3 rfl (by decide) rfl rfl (s := [(0, exV a), (1, exV b)]) (by rfl) ?_
      refine wG Y3_EB EX ?_
      refine AR.callP q1 @exV_eq (And.intro (@exL_id) @exV_id) ?_
      refine goG Y3_EB (And.intro pa' EX) ?_
      refine AR.callP q2 @exV_eq (And.intro (@exL_id) @exV_id) ?_
      refine goG Y3_EB (And.intro pb' EX) ?_
      refine wdG Y3_EB EX ?_
      refine AR.callP q3 @exV_eq (And.intro (@exL_id) @exV_id) ?_
      refine goG Y3_EB EX ?_
      refine AR.callP q4 @exV_eq (And.intro (@exL_id) @exV_id) ?_
      refine goG Y3_EB (And.intro BY (And.intro hs ht)) ?_
      refine wdG Y3_EB (And.intro BY (And.intro hs (And.intro ht EX))) ?_

      refine AR.callP q5 @exV_eq (And.intro (@exL_id) @exV_id) ?_
      refine goG Y3_EB (And.intro BY hl) ?_
      refine AR.callP qx True.intro (And.intro (@exL_id) @exV_id) ?_
      refine goG Y3_EB True.intro ?_
      refine wG Y3_EB True.intro ?_
      exact Fin.oneP
end Go.Proofs.YtlbfgnpadggbgaaDoor

