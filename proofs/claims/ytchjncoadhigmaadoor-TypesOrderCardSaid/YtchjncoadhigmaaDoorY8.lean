/- Walks: the law TypesOrder, given its examples. -/
import Derived.Test.YtchjncoadhigmaaDoorHv
import Derived.Test.YtchjncoadhigmaaDoorY7
import Derived.Test.YtchjncoadhigmaaDoorY2
import Derived.Test.YtchjncoadhigmaaDoorBB
namespace Go.Proofs.YtchjncoadhigmaaDoor
set_option linter.unusedSimpArgs false
set_option linter.unusedVariables false
set_option linter.unnecessarySimpa false
open Go.RowKit
theorem sub_good {a b : Ty} (ha : good a = true) (hb : good b = true) : (good a && good b && subT a b) = subT a b := by rw [ha, hb]; rfl
theorem good_chk31 {a : Ty} (h : chk a = 0) : good a = true := by unfold good; simp [h]
theorem good_tz : good tz = true := by kernel_rfl
theorem good_top : good topT = true := by kernel_rfl
theorem sub_tz (a : Ty) : subT tz a = true := by cases a; unfold tz; rw [subT_mk2]; simp
theorem sub_top (a : Ty) : subT a topT = true := by cases a; unfold topT; rw [subT_mk2]; simp
theorem fit_tz31 : fit tz := by unfold fit; kernel_rfl
theorem fit_top31 : fit topT := by unfold fit; kernel_rfl
theorem Y4_Y8 : type_of% (And.intro @F_ag_25 (And.intro @F_al_25 (And.intro @F_st_25 (@F_sz_25)))) := And.intro @F_ag_25 (And.intro @F_al_25 (And.intro @F_st_25 (@F_sz_25)))
set_option maxHeartbeats 2000000 in
theorem c_order31 (hX : PC Tryd.prog 11 [] (.im (.bool (true)))) (a b c : Ty) (ha : fit a) (hb : fit b) (hc : fit c) : PC Tryd.prog 4 [tyV a, tyV b, tyV c] (.im (.bool (true))) := by
  have sa := c_small31 a ha 6 (by decide) (by decide)
  have sb := c_small31 b hb 6 (by decide) (by decide)
  have sc := c_small31 c hc 6 (by decide) (by decide)
  have ka := c_checkR a ha
  have kb := c_checkR b hb
  have kc := c_checkR c hc
  refine PC.enter 84 Tryd.func4 rfl (by decide) rfl rfl (s := [(0, tyV a), (1, tyV b), (2, tyV c)]) (by rfl) ?_
  rw [tyV_eq a, tyV_eq b, tyV_eq c]
  refine wG Y4_Y8 True.intro ?_
  refine AR.callP sa @tyV_eq (And.intro (@tyV_id) (And.intro (@fdV_id) (And.intro (@tyL_id) @fdL_id))) ?_
  cases qa : smallT a 6
  case' false =>
    refine goG Y4_Y8 qa ?_
    refine wG Y4_Y8 True.intro ?_
    refine AR.callP hX True.intro (And.intro (@tyV_id) (And.intro (@fdV_id) (And.intro (@tyL_id) @fdL_id))) ?_
    refine goG Y4_Y8 True.intro ?_
    refine wG Y4_Y8 True.intro ?_
    exact Fin.oneP
  refine goG Y4_Y8 qa ?_
  refine AR.callP sb @tyV_eq (And.intro (@tyV_id) (And.intro (@fdV_id) (And.intro (@tyL_id) @fdL_id))) ?_
  cases qb : smallT b 6
  case' false =>
    refine goG Y4_Y8 qb ?_
    refine wG Y4_Y8 True.intro ?_
    refine AR.callP hX True.intro (And.intro (@tyV_id) (And.intro (@fdV_id) (And.intro (@tyL_id) @fdL_id))) ?_
    refine goG Y4_Y8 True.intro ?_
    refine wG Y4_Y8 True.intro ?_
    exact Fin.oneP
  refine goG Y4_Y8 qb ?_
  refine AR.callP sc @tyV_eq (And.intro (@tyV_id) (And.intro (@fdV_id) (And.intro (@tyL_id) @fdL_id))) ?_
  cases qc : smallT c 6
  case' false =>
    refine goG Y4_Y8 qc ?_
    refine wG Y4_Y8 True.intro ?_
    refine AR.callP hX True.intro (And.intro (@tyV_id) (And.intro (@fdV_id) (And.intro (@tyL_id) @fdL_id))) ?_
    refine goG Y4_Y8 True.intro ?_
    refine wG Y4_Y8 True.intro ?_
    exact Fin.oneP
  refine goG Y4_Y8 qc ?_
  refine AR.callP ka @tyV_eq (And.intro (@tyV_id) (And.intro (@fdV_id) (And.intro (@tyL_id) @fdL_id))) ?_
  by_cases ga : chk a = 0
  case' neg =>
    refine goG Y4_Y8 ga ?_
    refine wG Y4_Y8 True.intro ?_
    refine AR.callP hX True.intro (And.intro (@tyV_id) (And.intro (@fdV_id) (And.intro (@tyL_id) @fdL_id))) ?_
    refine goG Y4_Y8 True.intro ?_
    refine wG Y4_Y8 True.intro ?_
    exact Fin.oneP
  refine goG Y4_Y8 ga ?_
  refine AR.callP kb @tyV_eq (And.intro (@tyV_id) (And.intro (@fdV_id) (And.intro (@tyL_id) @fdL_id))) ?_
  by_cases gb : chk b = 0
  case' neg =>
    refine goG Y4_Y8 gb ?_
    refine wG Y4_Y8 True.intro ?_
    refine AR.callP hX True.intro (And.intro (@tyV_id) (And.intro (@fdV_id) (And.intro (@tyL_id) @fdL_id))) ?_
    refine goG Y4_Y8 True.intro ?_
    refine wG Y4_Y8 True.intro ?_
    exact Fin.oneP
  refine goG Y4_Y8 gb ?_
  refine AR.callP kc @tyV_eq (And.intro (@tyV_id) (And.intro (@fdV_id) (And.intro (@tyL_id) @fdL_id))) ?_
  by_cases gc : chk c = 0
  case' neg =>
    refine goG Y4_Y8 gc ?_
    refine wG Y4_Y8 True.intro ?_
    refine AR.callP hX True.intro (And.intro (@tyV_id) (And.intro (@fdV_id) (And.intro (@tyL_id) @fdL_id))) ?_
    refine goG Y4_Y8 True.intro ?_
    refine wG Y4_Y8 True.intro ?_
    exact Fin.oneP
  refine goG Y4_Y8 gc ?_
  refine wG Y4_Y8 True.intro ?_
  replace ga := good_chk31 ga
  have fa := good_frm ga
  replace gb := good_chk31 gb
  have fb := good_frm gb
  replace gc := good_chk31 gc
  have fc := good_frm gc
  have h1 := c_Sub a a ha ha
  rw [sub_good ga ga, subT_refl a fa] at h1
  have h2 := c_Sub tz a fit_tz31 ha
  rw [sub_good good_tz ga, sub_tz a] at h2
  simp only [tz, tyV_mk, List.map_nil] at h2
  have h3 := c_Sub a topT ha fit_top31
  rw [sub_good ga good_top, sub_top a] at h3
  simp only [topT, tyV_mk, List.map_nil] at h3
  have h4 := c_Sub a b ha hb
  rw [sub_good ga gb] at h4
  have h5 := c_Sub b a hb ha
  rw [sub_good gb ga] at h5
  have h6 := c_Sub b c hb hc
  rw [sub_good gb gc] at h6
  have h7 := c_Sub a c ha hc
  rw [sub_good ga gc] at h7
  have h8 := c_Same a ha b hb
  have t1 := subT_antisymm a fa b fb
  have t2 := subT_trans a fa b c fb fc
  generalize subT a b = p at h4 t1 t2
  generalize subT b a = q at h5 t1
  generalize subT b c = r at h6 t2
  generalize subT a c = u at h7 t2
  generalize samT a b = v at h8 t1
  rw [tyV_eq a] at h2 h3
  refine AR.callP h1 @tyV_eq (And.intro (@tyV_id) (And.intro (@fdV_id) (And.intro (@tyL_id) @fdL_id))) ?_
  refine goG Y4_Y8 True.intro ?_
  refine AR.callW h2 True.intro (And.intro (@tyV_id) (And.intro (@fdV_id) (And.intro (@tyL_id) @fdL_id))) ?_
  refine goG Y4_Y8 True.intro ?_
  refine AR.callW h3 True.intro (And.intro (@tyV_id) (And.intro (@fdV_id) (And.intro (@tyL_id) @fdL_id))) ?_
  refine goG Y4_Y8 True.intro ?_
  refine wG Y4_Y8 True.intro ?_
  refine AR.callP h4 @tyV_eq (And.intro (@tyV_id) (And.intro (@fdV_id) (And.intro (@tyL_id) @fdL_id))) ?_
  cases p
  case' false =>
    refine goG Y4_Y8 True.intro ?_
    refine wG Y4_Y8 True.intro ?_
    refine AR.callP h4 @tyV_eq (And.intro (@tyV_id) (And.intro (@fdV_id) (And.intro (@tyL_id) @fdL_id))) ?_
    refine goG Y4_Y8 True.intro ?_
    refine AR.callP hX True.intro (And.intro (@tyV_id) (And.intro (@fdV_id) (And.intro (@tyL_id) @fdL_id))) ?_
    refine goG Y4_Y8 True.intro ?_
    refine wG Y4_Y8 True.intro ?_
    exact Fin.oneP
  refine goG Y4_Y8 True.intro ?_
  refine AR.callP h5 @tyV_eq (And.intro (@tyV_id) (And.intro (@fdV_id) (And.intro (@tyL_id) @fdL_id))) ?_
  cases q
  case' false =>
    refine goG Y4_Y8 True.intro ?_
    refine wG Y4_Y8 True.intro ?_
    refine AR.callP h4 @tyV_eq (And.intro (@tyV_id) (And.intro (@fdV_id) (And.intro (@tyL_id) @fdL_id))) ?_
    refine goG Y4_Y8 True.intro ?_
    refine AR.callP h6 @tyV_eq (And.intro (@tyV_id) (And.intro (@fdV_id) (And.intro (@tyL_id) @fdL_id))) ?_
    cases r
    case' false =>
      refine goG Y4_Y8 True.intro ?_
      refine AR.callP hX True.intro (And.intro (@tyV_id) (And.intro (@fdV_id) (And.intro (@tyL_id) @fdL_id))) ?_
      refine goG Y4_Y8 True.intro ?_
      refine wG Y4_Y8 True.intro ?_
      exact Fin.oneP
    obtain rfl := t2 rfl rfl
    refine goG Y4_Y8 True.intro ?_
    refine AR.callP h7 @tyV_eq (And.intro (@tyV_id) (And.intro (@fdV_id) (And.intro (@tyL_id) @fdL_id))) ?_
    refine goG Y4_Y8 True.intro ?_
    refine AR.callP hX True.intro (And.intro (@tyV_id) (And.intro (@fdV_id) (And.intro (@tyL_id) @fdL_id))) ?_
    refine goG Y4_Y8 True.intro ?_
    refine wG Y4_Y8 True.intro ?_
    exact Fin.oneP
  obtain rfl := t1 rfl rfl
  refine goG Y4_Y8 True.intro ?_
  refine AR.callP h8 @tyV_eq (And.intro (@tyV_id) (And.intro (@fdV_id) (And.intro (@tyL_id) @fdL_id))) ?_
  refine goG Y4_Y8 True.intro ?_
  refine wG Y4_Y8 True.intro ?_
  refine AR.callP h4 @tyV_eq (And.intro (@tyV_id) (And.intro (@fdV_id) (And.intro (@tyL_id) @fdL_id))) ?_
  refine goG Y4_Y8 True.intro ?_
  refine AR.callP h6 @tyV_eq (And.intro (@tyV_id) (And.intro (@fdV_id) (And.intro (@tyL_id) @fdL_id))) ?_
  cases r
  case' false =>
    refine goG Y4_Y8 True.intro ?_
    refine AR.callP hX True.intro (And.intro (@tyV_id) (And.intro (@fdV_id) (And.intro (@tyL_id) @fdL_id))) ?_
    refine goG Y4_Y8 True.intro ?_
    refine wG Y4_Y8 True.intro ?_
    exact Fin.oneP
  obtain rfl := t2 rfl rfl
  refine goG Y4_Y8 True.intro ?_
  refine AR.callP h7 @tyV_eq (And.intro (@tyV_id) (And.intro (@fdV_id) (And.intro (@tyL_id) @fdL_id))) ?_
  refine goG Y4_Y8 True.intro ?_
  refine AR.callP hX True.intro (And.intro (@tyV_id) (And.intro (@fdV_id) (And.intro (@tyL_id) @fdL_id))) ?_
  refine goG Y4_Y8 True.intro ?_
  refine wG Y4_Y8 True.intro ?_
  exact Fin.oneP
end Go.Proofs.YtchjncoadhigmaaDoor

