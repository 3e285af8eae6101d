/- Walks: the order of types, as the reference has it; accesses; what may be assigned. -/
import Derived.Test.YtchjncoadhigmaaDoorHv
import Derived.Test.YtchjncoadhigmaaDoorJB
import Derived.Test.YtchjncoadhigmaaDoorJC
namespace Go.Proofs.YtchjncoadhigmaaDoor
set_option linter.unusedSimpArgs false
set_option linter.unusedVariables false
set_option linter.unnecessarySimpa false
open Go.RowKit
theorem Y14_BB : type_of% (And.intro @F_ag_25 (@F_sz_25)) := And.intro @F_ag_25 (@F_sz_25)
theorem c_Sub (a b : Ty) (ha : fit a) (hb : fit b) : PC Tryd.prog 14 [tyV a, tyV b] (.im (.bool (good a && good b && subT a b))) := by
  have h1 := c_good a ha
  have h2 := c_good b hb
  refine PC.enter 16 Tryd.func14 rfl (by decide) rfl rfl (s := [(0, tyV a), (1, tyV b)]) (by rfl) ?_
  rw [tyV_eq a, tyV_eq b]
  cases ga : good a with
  | false =>
    rw [ga] at h1
    simp only [Bool.false_and]
    refine wG Y14_BB True.intro ?_
    refine AR.callP h1 @tyV_eq True.intro ?_
    refine goG Y14_BB True.intro ?_
    refine wG Y14_BB True.intro ?_
    exact Fin.oneP
  | true =>
    rw [ga] at h1
    cases gb : good b with
    | false =>
      rw [gb] at h2
      simp only [Bool.and_false, Bool.false_and]
      refine wG Y14_BB True.intro ?_
      refine AR.callP h1 @tyV_eq True.intro ?_
      refine goG Y14_BB True.intro ?_
      refine AR.callP h2 @tyV_eq True.intro ?_
      refine goG Y14_BB True.intro ?_
      refine wG Y14_BB True.intro ?_
      exact Fin.oneP
    | true =>
      rw [gb] at h2
      have h3 := c_sub b hb (good_frm gb) a ha (good_frm ga)
      simp only [Bool.true_and]
      refine wG Y14_BB True.intro ?_
      refine AR.callP h1 @tyV_eq True.intro ?_
      refine goG Y14_BB True.intro ?_
      refine AR.callP h2 @tyV_eq True.intro ?_
      refine goG Y14_BB True.intro ?_
      refine AR.callP h3 @tyV_eq True.intro ?_
      refine goG Y14_BB True.intro ?_
      refine wG Y14_BB True.intro ?_
      exact Fin.oneP
theorem good_chk {t : Ty} (h : good t = true) : chk t = 0 := by unfold good at h; simpa using h
theorem bad_chk {t : Ty} (h : good t = false) : ¬ chk t = 0 := by unfold good at h; simpa using h
end Go.Proofs.YtchjncoadhigmaaDoor
