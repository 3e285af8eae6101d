/- Walks: Join, Meet, SizeOf of the program. -/
import Derived.Test.YtchjncoadhigmaaGreatDoorHv
import Derived.Test.YtchjncoadhigmaaGreatDoorY6
namespace Go.Proofs.YtchjncoadhigmaaGreatDoor
set_option linter.unusedSimpArgs false
set_option linter.unusedVariables false
set_option linter.unnecessarySimpa false
open Go.RowKit
def JoinT (a b : Ty) : Ty := if good a && good b then joinT a b else topT
def MeetT (a b : Ty) : Ty := if good a && good b && good (meetT a b) then meetT a b else tz
theorem Y11_Y7 : type_of% (And.intro @F_ag_25 (And.intro @F_al_25 (And.intro @F_st_25 (@F_sz_25)))) := And.intro @F_ag_25 (And.intro @F_al_25 (And.intro @F_st_25 (@F_sz_25)))
theorem c_Join (hM : MergeC) (a b : Ty) (ha : fit a) (hb : fit b) : PC Tryz.prog 11 [tyV a, tyV b] (tyV (JoinT a b)) := by
  have h1 := c_good a ha
  have h2 := c_good b hb
  unfold JoinT
  refine PC.enter 18 Tryz.func11 rfl (by decide) rfl rfl (s := [(0, tyV a), (1, tyV b)]) (by rfl) ?_
  rw [tyV_eq a, tyV_eq b]
  cases ga : good a with
  | false =>
    rw [ga] at h1
    simp only [Bool.false_and, Bool.false_eq_true, if_false, topT, tyV_mk, List.map_nil]
    refine wG Y11_Y7 True.intro ?_
    refine AR.callP h1 @tyV_eq (And.intro (@tyV_id) (And.intro (@fdV_id) (And.intro (@tyL_id) @fdL_id))) ?_
    refine goG Y11_Y7 True.intro ?_
    refine wG Y11_Y7 True.intro ?_
    refine Fin.gen0 (rs := [.cell 4 25]) rfl (by first | exact .inl rfl | exact .inr rfl) (finG Y11_Y7) ?_
    skip
    all_goals exact wkG (And.intro (@tyV_id) (And.intro (@fdV_id) (And.intro (@tyL_id) @fdL_id)))
  | true =>
    rw [ga] at h1
    cases gb : good b with
    | false =>
      rw [gb] at h2
      simp only [Bool.and_false, Bool.false_eq_true, if_false, topT, tyV_mk, List.map_nil]
      refine wG Y11_Y7 True.intro ?_
      refine AR.callP h1 @tyV_eq (And.intro (@tyV_id) (And.intro (@fdV_id) (And.intro (@tyL_id) @fdL_id))) ?_
      refine goG Y11_Y7 True.intro ?_
      refine AR.callP h2 @tyV_eq (And.intro (@tyV_id) (And.intro (@fdV_id) (And.intro (@tyL_id) @fdL_id))) ?_
      refine goG Y11_Y7 True.intro ?_
      refine wG Y11_Y7 True.intro ?_
      refine Fin.gen0 (rs := [.cell 4 25]) rfl (by first | exact .inl rfl | exact .inr rfl) (finG Y11_Y7) ?_
      skip
      all_goals exact wkG (And.intro (@tyV_id) (And.intro (@fdV_id) (And.intro (@tyL_id) @fdL_id)))
    | true =>
      rw [gb] at h2
      have h3 := c_join hM a ha (good_frm ga) b hb (good_frm gb)
      have h4 := c_own (joinT a b) (joinT_fit (good_frm ga) ha (good_frm gb) hb)
      simp only [Bool.and_self, if_true]
      rw [tyV_eq (joinT a b)]
      refine wG Y11_Y7 True.intro ?_
      refine AR.callP h1 @tyV_eq (And.intro (@tyV_id) (And.intro (@fdV_id) (And.intro (@tyL_id) @fdL_id))) ?_
      refine goG Y11_Y7 True.intro ?_
      refine AR.callP h2 @tyV_eq (And.intro (@tyV_id) (And.intro (@fdV_id) (And.intro (@tyL_id) @fdL_id))) ?_
      refine goG Y11_Y7 True.intro ?_
      refine wG Y11_Y7 True.intro ?_
      refine AR.callP h3 @tyV_eq (And.intro (@tyV_id) (And.intro (@fdV_id) (And.intro (@tyL_id) @fdL_id))) ?_
      refine goG Y11_Y7 True.intro ?_
      refine AR.callP h4 @tyV_eq (And.intro (@tyV_id) (And.intro (@fdV_id) (And.intro (@tyL_id) @fdL_id))) ?_
      refine goG Y11_Y7 (And.intro (@tyV_firm) (And.intro (@fdV_firm) (And.intro (@tyV_strip) (And.intro (@fdV_strip) (And.intro (@tyV_live) (And.intro (@tyV_size) (And.intro (@tyV_isAg) (And.intro (@tyV_cells) (And.intro (@fdV_live) (And.intro (@fdV_size) (And.intro (@fdV_isAg) (And.intro (@fdV_cells) (And.intro (@List.getElem?_map.{0, 0}) @Int.natCast_nonneg))))))))))))) ?_
      refine wG Y11_Y7 (And.intro (@tyV_firm) (And.intro (@fdV_firm) (And.intro (@tyV_strip) (And.intro (@fdV_strip) (And.intro (@tyV_live) (And.intro (@tyV_size) (And.intro (@tyV_isAg) (And.intro (@tyV_cells) (And.intro (@fdV_live) (And.intro (@fdV_size) (And.intro (@fdV_isAg) (And.intro (@fdV_cells) (And.intro (@List.getElem?_map.{0, 0}) @Int.natCast_nonneg))))))))))))) ?_
      refine Fin.gen0 (rs := [.cell 4 25]) rfl (by first | exact .inl rfl | exact .inr rfl) (finG Y11_Y7) ?_
      skip
      all_goals exact wkG (And.intro (@tyV_id) (And.intro (@fdV_id) (And.intro (@tyL_id) @fdL_id)))
theorem Y13_Y7 : type_of% (And.intro @F_ag_25 (And.intro @F_al_25 (And.intro @F_st_25 (@F_sz_25)))) := And.intro @F_ag_25 (And.intro @F_al_25 (And.intro @F_st_25 (@F_sz_25)))
theorem c_Meet (hM : MergeC) (a b : Ty) (ha : fit a) (hb : fit b) : PC Tryz.prog 13 [tyV a, tyV b] (tyV (MeetT a b)) := by
  have h1 := c_good a ha
  have h2 := c_good b hb
  unfold MeetT
  refine PC.enter 24 Tryz.func13 rfl (by decide) rfl rfl (s := [(0, tyV a), (1, tyV b)]) (by rfl) ?_
  rw [tyV_eq a, tyV_eq b]
  cases ga : good a with
  | false =>
    rw [ga] at h1
    simp only [Bool.false_and, Bool.false_eq_true, if_false, tz, tyV_mk, List.map_nil]
    refine wG Y13_Y7 True.intro ?_
    refine AR.callP h1 @tyV_eq (And.intro (@tyV_id) (And.intro (@fdV_id) (And.intro (@tyL_id) @fdL_id))) ?_
    refine goG Y13_Y7 True.intro ?_
    refine wG Y13_Y7 True.intro ?_
    refine Fin.gen0 (rs := [.cell 4 25]) rfl (by first | exact .inl rfl | exact .inr rfl) (finG Y13_Y7) ?_
    skip
    all_goals exact wkG (And.intro (@tyV_id) (And.intro (@fdV_id) (And.intro (@tyL_id) @fdL_id)))
  | true =>
    rw [ga] at h1
    cases gb : good b with
    | false =>
      rw [gb] at h2
      simp only [Bool.and_false, Bool.false_and, Bool.false_eq_true, if_false, tz, tyV_mk, List.map_nil]
      refine wG Y13_Y7 True.intro ?_
      refine AR.callP h1 @tyV_eq (And.intro (@tyV_id) (And.intro (@fdV_id) (And.intro (@tyL_id) @fdL_id))) ?_
      refine goG Y13_Y7 True.intro ?_
      refine AR.callP h2 @tyV_eq (And.intro (@tyV_id) (And.intro (@fdV_id) (And.intro (@tyL_id) @fdL_id))) ?_
      refine goG Y13_Y7 True.intro ?_
      refine wG Y13_Y7 True.intro ?_
      refine Fin.gen0 (rs := [.cell 4 25]) rfl (by first | exact .inl rfl | exact .inr rfl) (finG Y13_Y7) ?_
      skip
      all_goals exact wkG (And.intro (@tyV_id) (And.intro (@fdV_id) (And.intro (@tyL_id) @fdL_id)))
    | true =>
      rw [gb] at h2
      have wa : wit a = true := (good_iff.1 ga).2.2
      have wb : wit b = true := (good_iff.1 gb).2.2
      have h3 := c_meet hM a ha (good_frm ga) wa b hb (good_frm gb) wb
      have hf := meetT_fit (good_frm ga) ha wa (good_frm gb) hb wb
      have h4 := c_own (meetT a b) hf
      have h5 := c_good (meetT a b) hf
      simp only [Bool.and_self, Bool.true_and]
      refine wG Y13_Y7 True.intro ?_
      refine AR.callP h1 @tyV_eq (And.intro (@tyV_id) (And.intro (@fdV_id) (And.intro (@tyL_id) @fdL_id))) ?_
      refine goG Y13_Y7 True.intro ?_
      refine AR.callP h2 @tyV_eq (And.intro (@tyV_id) (And.intro (@fdV_id) (And.intro (@tyL_id) @fdL_id))) ?_
      refine goG Y13_Y7 True.intro ?_
      refine wG Y13_Y7 True.intro ?_
      refine AR.callP h3 @tyV_eq (And.intro (@tyV_id) (And.intro (@fdV_id) (And.intro (@tyL_id) @fdL_id))) ?_
      refine goG Y13_Y7 True.intro ?_
      refine AR.callP h4 @tyV_eq (And.intro (@tyV_id) (And.intro (@fdV_id) (And.intro (@tyL_id) @fdL_id))) ?_
      refine goG Y13_Y7 (And.intro (@tyV_firm) (And.intro (@fdV_firm) (And.intro (@tyV_strip) (And.intro (@fdV_strip) (And.intro (@tyV_live) (And.intro (@tyV_size) (And.intro (@tyV_isAg) (And.intro (@tyV_cells) (And.intro (@fdV_live) (And.intro (@fdV_size) (And.intro (@fdV_isAg) (And.intro (@fdV_cells) (And.intro (@List.getElem?_map.{0, 0}) @Int.natCast_nonneg))))))))))))) ?_
      refine wG Y13_Y7 (And.intro (@tyV_firm) (And.intro (@fdV_firm) (And.intro (@tyV_strip) (And.intro (@fdV_strip) (And.intro (@tyV_live) (And.intro (@tyV_size) (And.intro (@tyV_isAg) (And.intro (@tyV_cells) (And.intro (@fdV_live) (And.intro (@fdV_size) (And.intro (@fdV_isAg) (And.intro (@fdV_cells) (And.intro (@List.getElem?_map.{0, 0}) @Int.natCast_nonneg))))))))))))) ?_
      refine AR.callP h5 @tyV_eq (And.intro (@tyV_id) (And.intro (@fdV_id) (And.intro (@tyL_id) @fdL_id))) ?_
      refine goG Y13_Y7 True.intro ?_
      cases gm : good (meetT a b) with
      | false =>
        simp only [Bool.false_eq_true, if_false, tz, tyV_mk, List.map_nil]
        refine wG Y13_Y7 True.intro ?_
        refine Fin.gen0 (rs := [.cell 4 25]) rfl (by first | exact .inl rfl | exact .inr rfl) (finG Y13_Y7) ?_
        skip
        all_goals exact wkG (And.intro (@tyV_id) (And.intro (@fdV_id) (And.intro (@tyL_id) @fdL_id)))
      | true =>
        simp only [if_true]
        rw [tyV_eq (meetT a b)]
        refine wG Y13_Y7 True.intro ?_
        refine Fin.gen0 (rs := [.cell 4 25]) rfl (by first | exact .inl rfl | exact .inr rfl) (finG Y13_Y7) ?_
        skip
        all_goals exact wkG (And.intro (@tyV_id) (And.intro (@fdV_id) (And.intro (@tyL_id) @fdL_id)))
theorem Y22_Y7 : type_of% (And.intro @F_ag_25 (@F_sz_25)) := And.intro @F_ag_25 (@F_sz_25)
theorem c_SizeOf (a : Ty) (ha : fit a) : PC Tryz.prog 22 [tyV a] (.im (.int .i64 (if good a then siz a else 0))) := by
  have h1 := c_good a ha
  refine PC.enter 8 Tryz.func22 rfl (by decide) rfl rfl (s := [(0, tyV a)]) (by rfl) ?_
  rw [tyV_eq a]
  cases ga : good a with
  | false =>
    rw [ga] at h1
    simp only [Bool.false_eq_true, if_false]
    refine wG Y22_Y7 True.intro ?_
    refine AR.callP h1 @tyV_eq (And.intro (@tyV_id) (And.intro (@fdV_id) (And.intro (@tyL_id) @fdL_id))) ?_
    refine goG Y22_Y7 True.intro ?_
    refine wG Y22_Y7 True.intro ?_
    exact Fin.oneP
  | true =>
    rw [ga] at h1
    have h2 := c_size a ha (good_frm ga)
    simp only [if_true]
    refine wG Y22_Y7 True.intro ?_
    refine AR.callP h1 @tyV_eq (And.intro (@tyV_id) (And.intro (@fdV_id) (And.intro (@tyL_id) @fdL_id))) ?_
    refine goG Y22_Y7 True.intro ?_
    refine wG Y22_Y7 True.intro ?_
    refine AR.callP h2 @tyV_eq (And.intro (@tyV_id) (And.intro (@fdV_id) (And.intro (@tyL_id) @fdL_id))) ?_
    refine goG Y22_Y7 True.intro ?_
    refine wG Y22_Y7 True.intro ?_
    exact Fin.oneP
end Go.Proofs.YtchjncoadhigmaaGreatDoor

