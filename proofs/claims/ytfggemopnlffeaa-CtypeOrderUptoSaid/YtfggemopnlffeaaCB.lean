/- Walks: the law on the order of types. -/
import Derived.Test.YtfggemopnlffeaaHv
import Derived.Test.YtfggemopnlffeaaBV
namespace Go.Proofs.Ytfggemopnlffeaa
set_option linter.unusedSimpArgs false
set_option linter.unusedVariables false
set_option linter.unnecessarySimpa false
open Go.RowKit
theorem asg_refl {t : Ty} (h : chk t = 0) : asgT t t = true := by
  have hg : good t = true := by unfold good; rw [h]; rfl
  unfold asgT
  rw [hg, subT_refl t (good_frm hg)]
  simp
theorem asg_sub {t u : Ty} (h : (good t && good u && subT t u) = true) : asgT u t = true := by
  unfold asgT
  rw [h]
  simp
theorem acc_direct {t : Ty} (h : t.kind = 5 ∨ t.kind = 4) (off w : Int) : accT t off w = false := by
  unfold accT
  rcases h with h | h <;> simp [h]
theorem Y5_CB : type_of% (And.intro @F_ag_25 (And.intro @F_ag_3 (And.intro @F_fl_25_0 (And.intro @F_sz_25 (@F_sz_3))))) := And.intro @F_ag_25 (And.intro @F_ag_3 (And.intro @F_fl_25_0 (And.intro @F_sz_25 (@F_sz_3))))
set_option maxHeartbeats 2000000 in
theorem c_law3 (t u : Ty) (ht : fit t) (hu : fit u) (off w : Int) (ho : I64 off) : PC Try.prog 5 [tyV t, tyV u, (.im (.int .i64 (off))), (.im (.int .i64 (w)))] (.im (.bool (true))) := by
  have h1 := c_left t ht 500 (by decide) (by decide)
  have h2 := c_left u hu 500 (by decide) (by decide)
  have h3 := c_example
  have h4 := c_Access t ht off w ho
  have h5 := c_check t ht
  have h6 := c_Assignable t t ht ht
  have h7 := c_Assignable u t hu ht
  have h8 := c_Sub t u ht hu
  have r1 := @asg_refl t
  have r2 := @asg_sub t u
  have r3 := fun h => @acc_direct t h off w
  generalize accT t off w = ac at h4 r3
  generalize asgT t t = a1 at h6 r1
  generalize asgT u t = a2 at h7 r2
  generalize (good t && good u && subT t u) = sb at h8 r2
  generalize chk t = ck at h5 r1
  generalize hl1 : lft t 500 = l1 at h1
  generalize hl2 : lft u 500 = l2 at h2
  clear hl1 hl2
  refine PC.enter 59 Try.func5 rfl (by decide) rfl rfl (s := [(0, tyV t), (1, tyV u), (2, (.im (.int .i64 (off)))), (3, (.im (.int .i64 (w))))]) (by rfl) ?_
  rw [tyV_eq t, tyV_eq u]
  refine wG Y5_CB TY ?_
  refine AR.callP h1 @tyV_eq (And.intro (@exL_id) (And.intro (@vaL_id) (And.intro (@exV_id) @vaV_id))) ?_
  by_cases hA : l1 ≤ 0
  · refine goG Y5_CB hA ?_
    refine wG Y5_CB True.intro ?_
    refine AR.callP h3 True.intro (And.intro (@exL_id) (And.intro (@vaL_id) (And.intro (@exV_id) @vaV_id))) ?_
    refine goG Y5_CB True.intro ?_
    refine wG Y5_CB True.intro ?_
    exact Fin.oneP
  refine goG Y5_CB hA ?_
  refine AR.callP h2 @tyV_eq (And.intro (@exL_id) (And.intro (@vaL_id) (And.intro (@exV_id) @vaV_id))) ?_
  by_cases hB : l2 ≤ 0
  · refine goG Y5_CB hB ?_
    refine wG Y5_CB True.intro ?_
    refine AR.callP h3 True.intro (And.intro (@exL_id) (And.intro (@vaL_id) (And.intro (@exV_id) @vaV_id))) ?_
    refine goG Y5_CB True.intro ?_
    refine wG Y5_CB True.intro ?_
    exact Fin.oneP
  refine goG Y5_CB hB ?_
  refine wG Y5_CB True.intro ?_
  refine AR.callP h5 @tyV_eq (And.intro (@exL_id) (And.intro (@vaL_id) (And.intro (@exV_id) @vaV_id))) ?_
  by_cases hk : ck = 0
  case' pos =>
    obtain rfl := r1 hk
    subst hk
    refine goG Y5_CB True.intro ?_
    refine AR.callP h6 @tyV_eq (And.intro (@exL_id) (And.intro (@vaL_id) (And.intro (@exV_id) @vaV_id))) ?_
    refine goG Y5_CB True.intro ?_
  case' neg =>
    refine goG Y5_CB hk ?_
  all_goals
    refine AR.callP h8 @tyV_eq (And.intro (@exL_id) (And.intro (@vaL_id) (And.intro (@exV_id) @vaV_id))) ?_
    cases sb
    case' true =>
      obtain rfl := r2 rfl
      refine goG Y5_CB True.intro ?_
      refine AR.callP h7 @tyV_eq (And.intro (@exL_id) (And.intro (@vaL_id) (And.intro (@exV_id) @vaV_id))) ?_
      refine goG Y5_CB True.intro ?_
    case' false =>
      refine goG Y5_CB True.intro ?_
    all_goals
      refine wG Y5_CB True.intro ?_
      by_cases hd : t.kind = 5 ∨ t.kind = 4
      · obtain rfl := r3 hd
        rcases hd with hd | hd
        · refine wG Y5_CB hd ?_
          refine AR.callP h4 (And.intro (@tyV_eq) hd) (And.intro (@exL_id) (And.intro (@vaL_id) (And.intro (@exV_id) @vaV_id))) ?_
          refine goG Y5_CB True.intro ?_
          refine AR.callP h3 True.intro (And.intro (@exL_id) (And.intro (@vaL_id) (And.intro (@exV_id) @vaV_id))) ?_
          refine goG Y5_CB True.intro ?_
          refine wG Y5_CB True.intro ?_
          exact Fin.oneP
        · refine wG Y5_CB hd ?_
          refine AR.callP h4 (And.intro (@tyV_eq) hd) (And.intro (@exL_id) (And.intro (@vaL_id) (And.intro (@exV_id) @vaV_id))) ?_
          refine goG Y5_CB True.intro ?_
          refine AR.callP h3 True.intro (And.intro (@exL_id) (And.intro (@vaL_id) (And.intro (@exV_id) @vaV_id))) ?_
          refine goG Y5_CB True.intro ?_
          refine wG Y5_CB True.intro ?_
          exact Fin.oneP
      · have hd1 : ¬ t.kind = 5 := fun h => hd (.inl h)
        have hd2 : ¬ t.kind = 4 := fun h => hd (.inr h)
        refine wG Y5_CB (And.intro hd1 hd2) ?_
        refine AR.callP h3 True.intro (And.intro (@exL_id) (And.intro (@vaL_id) (And.intro (@exV_id) @vaV_id))) ?_
        refine goG Y5_CB True.intro ?_
        refine wG Y5_CB True.intro ?_
        exact Fin.oneP
end Go.Proofs.Ytfggemopnlffeaa

