/- Walks: formed expressions. -/
import Derived.Test.YtfggemopnlffeaaHw
import Derived.Test.YtfggemopnlffeaaBF
namespace Go.Proofs.Ytfggemopnlffeaa
set_option linter.unusedSimpArgs false
set_option linter.unusedVariables false
set_option linter.unnecessarySimpa false
open Go.RowKit
theorem eb_eq {o n : Int} {s : ByteArray} {w : Int} {m : Nat} {b : Bool} (h : ebase o n s w m = true ↔ b = true) : ebase o n s w m = b := Bool.eq_iff_iff.2 h
theorem c_eformed1 {x : Ex} {r : Bool} (h : PC Try.prog 69 [exV x] (.im (.bool (r)))) : PC Try.prog 103 [exV x] (.im (.bool (!r))) := by
  refine PC.enter 6 Try.func103 rfl (by decide) rfl rfl (s := [(0, exV x)]) (by rfl) ?_
  simp only [exV_eq]
  refine w103 True.intro ?_
  refine AR.callP h @exV_eq (And.intro (@exL_id) (And.intro (@vaL_id) (And.intro (@exV_id) @vaV_id))) ?_
  refine go103 True.intro ?_
  refine w103 True.intro ?_
  exact Fin.oneP
set_option maxHeartbeats 2000000 in
theorem c_eformed : ∀ (t : Ex), fitE t → PC Try.prog 69 [exV t] (.im (.bool (efm t))) := by
  refine Ex.induct fun o n s w l hE => ?_
  intro hfit
  obtain ⟨hl1, hfE⟩ := fitE_mk hfit
  have hsz := fitE_name hfit
  have hc : ∀ t ∈ l, PC Try.prog 103 [exV t] (.im (.bool (!efm t))) := fun t ht => c_eformed1 (hE t ht (hfE t ht))
  have hcc := c_containsE0 (gs := l) (F := 103) (fun t => !efm t) hl1 hc
  have hnm := c_name s hsz
  have q0 : ((l.length : Int) = 0) = (l.length = 0) := propext (by omega)
  have q1 : ((l.length : Int) = 1) = (l.length = 1) := propext (by omega)
  have q2 : ((l.length : Int) = 2) = (l.length = 2) := propext (by omega)
  have hss : (s.toList == s.toList) = true := beq_self_eq_true _
  refine PC.enter 110 Try.func69 rfl (by decide) rfl rfl (s := [(0, exV (.mk o n s w l))]) (by rfl) ?_
  simp only [exV_mk]
  rw [efm_mk]
  by_cases h1 : o = 1
  · subst h1
    have he : ebase 1 n s w l.length = ((s.toList == ByteArray.empty.toList) && decide (w = 0) && decide ((l.length : Int) = 0)) := eb_eq (by
      unfold ebase
      simp [eqS, q0, q1, q2, and_assoc, -List.length_eq_zero_iff])
    rw [he]
    refine w69 True.intro ?_
    cases hb : ((s.toList == ByteArray.empty.toList) && decide (w = 0) && decide ((l.length : Int) = 0)) with
    | true =>
      refine w69 (And.intro hb hss) ?_
      refine AR.callP hcc True.intro (And.intro (@exL_id) (And.intro (@vaL_id) (And.intro (@exV_id) @vaV_id))) ?_
      refine go69 True.intro ?_
      rw [any_not]
      refine w69 True.intro ?_
      rw [Bool.true_and]
      exact Fin.oneP
    | false =>
      refine w69 (And.intro hb hss) ?_
      rw [Bool.false_and]
      exact Fin.oneP
  by_cases h2 : o = 2
  · subst h2
    cases hN : nameT s
    case true =>
      have he : ebase 2 n s w l.length = (decide (n = 0) && decide (w = 0) && decide ((l.length : Int) = 0)) := eb_eq (by
        unfold ebase
        simp [hN, q0, q1, q2, and_assoc, -List.length_eq_zero_iff])
      rw [he]
      refine w69 True.intro ?_
      rw [hN] at hnm
      refine AR.callP hnm True.intro (And.intro (@exL_id) (And.intro (@vaL_id) (And.intro (@exV_id) @vaV_id))) ?_
      refine go69 True.intro ?_
      refine w69 True.intro ?_
      cases hb : (decide (n = 0) && decide (w = 0) && decide ((l.length : Int) = 0)) with
      | true =>
        refine w69 (And.intro hb hss) ?_
        refine AR.callP hcc True.intro (And.intro (@exL_id) (And.intro (@vaL_id) (And.intro (@exV_id) @vaV_id))) ?_
        refine go69 True.intro ?_
        rw [any_not]
        refine w69 True.intro ?_
        rw [Bool.true_and]
        exact Fin.oneP
      | false =>
        refine w69 (And.intro hb hss) ?_
        rw [Bool.false_and]
        exact Fin.oneP
    case false =>
      have he : ebase 2 n s w l.length = false := by
        unfold ebase
        simp [hN]
      rw [he, Bool.false_and]
      refine w69 True.intro ?_
      rw [hN] at hnm
      refine AR.callP hnm True.intro (And.intro (@exL_id) (And.intro (@vaL_id) (And.intro (@exV_id) @vaV_id))) ?_
      refine go69 True.intro ?_
      refine w69 True.intro ?_
      exact Fin.oneP
  by_cases h3 : o ≥ 3 ∧ o ≤ 15
  · obtain ⟨h3, h4⟩ := h3
    have he : ebase o n s w l.length = (decide (n = 0) && (s.toList == ByteArray.empty.toList) && decide (w = 0) && decide ((l.length : Int) = 2)) := eb_eq (by
      unfold ebase
      simp [eqS, h1, h2, h3, h4, q0, q1, q2, and_assoc, -List.length_eq_zero_iff])
    rw [he]
    refine w69 (And.intro h1 (And.intro h2 (And.intro h3 h4))) ?_
    cases hb : (decide (n = 0) && (s.toList == ByteArray.empty.toList) && decide (w = 0) && decide ((l.length : Int) = 2)) with
    | true =>
      refine w69 (And.intro hb (And.intro hss (And.intro h1 (And.intro h2 (And.intro h3 h4))))) ?_
      refine AR.callP hcc True.intro (And.intro (@exL_id) (And.intro (@vaL_id) (And.intro (@exV_id) @vaV_id))) ?_
      refine go69 True.intro ?_
      rw [any_not]
      refine w69 True.intro ?_
      rw [Bool.true_and]
      exact Fin.oneP
    | false =>
      refine w69 (And.intro hb (And.intro hss (And.intro h1 (And.intro h2 (And.intro h3 h4))))) ?_
      rw [Bool.false_and]
      exact Fin.oneP
  have h3' : ¬ (o ≥ 3) ∨ ¬ (o ≤ 15) := by omega
  have e3 : (decide (o ≥ 3) && decide (o ≤ 15)) = false := by simp only [Bool.and_eq_false_iff, decide_eq_false_iff_not]; exact h3'
  by_cases h16 : o = 16
  · subst h16
    have he : ebase 16 n s w l.length = (decide (n = 0) && (s.toList == ByteArray.empty.toList) && decide (w = 0) && decide ((l.length : Int) = 1)) := eb_eq (by
      unfold ebase
      simp [eqS, q0, q1, q2, and_assoc, -List.length_eq_zero_iff])
    rw [he]
    refine w69 True.intro ?_
    cases hb : (decide (n = 0) && (s.toList == ByteArray.empty.toList) && decide (w = 0) && decide ((l.length : Int) = 1)) with
    | true =>
      refine w69 (And.intro hb hss) ?_
      refine AR.callP hcc True.intro (And.intro (@exL_id) (And.intro (@vaL_id) (And.intro (@exV_id) @vaV_id))) ?_
      refine go69 True.intro ?_
      rw [any_not]
      refine w69 True.intro ?_
      rw [Bool.true_and]
      exact Fin.oneP
    | false =>
      refine w69 (And.intro hb hss) ?_
      rw [Bool.false_and]
      exact Fin.oneP
  by_cases h17 : o = 17
  · subst h17
    have he : ebase 17 n s w l.length = (decide (n = 0) && (s.toList == ByteArray.empty.toList) && decide (w = 0) && decide ((l.length : Int) = 1)) := eb_eq (by
      unfold ebase
      simp [eqS, q0, q1, q2, and_assoc, -List.length_eq_zero_iff])
    rw [he]
    refine w69 True.intro ?_
    cases hb : (decide (n = 0) && (s.toList == ByteArray.empty.toList) && decide (w = 0) && decide ((l.length : Int) = 1)) with
    | true =>
      refine w69 (And.intro hb hss) ?_
      refine AR.callP hcc True.intro (And.intro (@exL_id) (And.intro (@vaL_id) (And.intro (@exV_id) @vaV_id))) ?_
      refine go69 True.intro ?_
      rw [any_not]
      refine w69 True.intro ?_
      rw [Bool.true_and]
      exact Fin.oneP
    | false =>
      refine w69 (And.intro hb hss) ?_
      rw [Bool.false_and]
      exact Fin.oneP
  by_cases h18 : o = 18
  · subst h18
    by_cases w1 : w = 1
    · subst w1
      have he : ebase 18 n s 1 l.length = (decide (n = 0) && (s.toList == ByteArray.empty.toList) && decide ((l.length : Int) = 1)) := eb_eq (by
        unfold ebase
        simp [eqS, q0, q1, q2, and_assoc, -List.length_eq_zero_iff])
      rw [he]
      refine w69 True.intro ?_
      cases hb : (decide (n = 0) && (s.toList == ByteArray.empty.toList) && decide ((l.length : Int) = 1)) with
      | true =>
        refine w69 (And.intro hb hss) ?_
        refine AR.callP hcc True.intro (And.intro (@exL_id) (And.intro (@vaL_id) (And.intro (@exV_id) @vaV_id))) ?_
        refine go69 True.intro ?_
        rw [any_not]
        refine w69 True.intro ?_
        rw [Bool.true_and]
        exact Fin.oneP
      | false =>
        refine w69 (And.intro hb hss) ?_
        rw [Bool.false_and]
        exact Fin.oneP
    by_cases w2 : w = 2
    · subst w2
      have he : ebase 18 n s 2 l.length = (decide (n = 0) && (s.toList == ByteArray.empty.toList) && decide ((l.length : Int) = 1)) := eb_eq (by
        unfold ebase
        simp [eqS, q0, q1, q2, and_assoc, -List.length_eq_zero_iff])
      rw [he]
      refine w69 True.intro ?_
      cases hb : (decide (n = 0) && (s.toList == ByteArray.empty.toList) && decide ((l.length : Int) = 1)) with
      | true =>
        refine w69 (And.intro hb hss) ?_
        refine AR.callP hcc True.intro (And.intro (@exL_id) (And.intro (@vaL_id) (And.intro (@exV_id) @vaV_id))) ?_
        refine go69 True.intro ?_
        rw [any_not]
        refine w69 True.intro ?_
        rw [Bool.true_and]
        exact Fin.oneP
      | false =>
        refine w69 (And.intro hb hss) ?_
        rw [Bool.false_and]
        exact Fin.oneP
    by_cases w4 : w = 4
    · subst w4
      have he : ebase 18 n s 4 l.length = (decide (n = 0) && (s.toList == ByteArray.empty.toList) && decide ((l.length : Int) = 1)) := eb_eq (by
        unfold ebase
        simp [eqS, q0, q1, q2, and_assoc, -List.length_eq_zero_iff])
      rw [he]
      refine w69 True.intro ?_
      cases hb : (decide (n = 0) && (s.toList == ByteArray.empty.toList) && decide ((l.length : Int) = 1)) with
      | true =>
        refine w69 (And.intro hb hss) ?_
        refine AR.callP hcc True.intro (And.intro (@exL_id) (And.intro (@vaL_id) (And.intro (@exV_id) @vaV_id))) ?_
        refine go69 True.intro ?_
        rw [any_not]
        refine w69 True.intro ?_
        rw [Bool.true_and]
        exact Fin.oneP
      | false =>
        refine w69 (And.intro hb hss) ?_
        rw [Bool.false_and]
        exact Fin.oneP
    have he : ebase 18 n s w l.length = false := by
      unfold ebase
      simp [w1, w2, w4]
    rw [he, Bool.false_and]
    refine w69 (And.intro w1 (And.intro w2 w4)) ?_
    exact Fin.oneP
  by_cases h19 : o = 19
  · subst h19
    by_cases w1 : w = 1
    · subst w1
      have he : ebase 19 n s 1 l.length = (decide (n = 0) && (s.toList == ByteArray.empty.toList) && decide ((l.length : Int) = 1)) := eb_eq (by
        unfold ebase
        simp [eqS, q0, q1, q2, and_assoc, -List.length_eq_zero_iff])
      rw [he]
      refine w69 True.intro ?_
      cases hb : (decide (n = 0) && (s.toList == ByteArray.empty.toList) && decide ((l.length : Int) = 1)) with
      | true =>
        refine w69 (And.intro hb hss) ?_
        refine AR.callP hcc True.intro (And.intro (@exL_id) (And.intro (@vaL_id) (And.intro (@exV_id) @vaV_id))) ?_
        refine go69 True.intro ?_
        rw [any_not]
        refine w69 True.intro ?_
        rw [Bool.true_and]
        exact Fin.oneP
      | false =>
        refine w69 (And.intro hb hss) ?_
        rw [Bool.false_and]
        exact Fin.oneP
    by_cases w2 : w = 2
    · subst w2
      have he : ebase 19 n s 2 l.length = (decide (n = 0) && (s.toList == ByteArray.empty.toList) && decide ((l.length : Int) = 1)) := eb_eq (by
        unfold ebase
        simp [eqS, q0, q1, q2, and_assoc, -List.length_eq_zero_iff])
      rw [he]
      refine w69 True.intro ?_
      cases hb : (decide (n = 0) && (s.toList == ByteArray.empty.toList) && decide ((l.length : Int) = 1)) with
      | true =>
        refine w69 (And.intro hb hss) ?_
        refine AR.callP hcc True.intro (And.intro (@exL_id) (And.intro (@vaL_id) (And.intro (@exV_id) @vaV_id))) ?_
        refine go69 True.intro ?_
        rw [any_not]
        refine w69 True.intro ?_
        rw [Bool.true_and]
        exact Fin.oneP
      | false =>
        refine w69 (And.intro hb hss) ?_
        rw [Bool.false_and]
        exact Fin.oneP
    have he : ebase 19 n s w l.length = false := by
      unfold ebase
      simp [w1, w2]
    rw [he, Bool.false_and]
    refine w69 (And.intro w1 w2) ?_
    exact Fin.oneP
  have he : ebase o n s w l.length = false := by
    unfold ebase
    simp [h1, h2, h16, h17, h18, h19]; omega
  rw [he, Bool.false_and]
  refine w69 (And.intro h1 (And.intro h2 (And.intro e3 (And.intro h16 (And.intro h17 (And.intro h18 h19)))))) ?_
  exact Fin.oneP
end Go.Proofs.Ytfggemopnlffeaa

