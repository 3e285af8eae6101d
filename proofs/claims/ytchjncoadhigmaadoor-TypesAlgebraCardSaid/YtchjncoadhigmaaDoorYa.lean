/- Walks: the law TypesAlgebra, given merge and its examples. -/
import Derived.Test.YtchjncoadhigmaaDoorHv
import Derived.Test.YtchjncoadhigmaaDoorY9
namespace Go.Proofs.YtchjncoadhigmaaDoor
set_option linter.unusedSimpArgs false
set_option linter.unusedVariables false
set_option linter.unnecessarySimpa false
open Go.RowKit
theorem MeetT_comm {a b : Ty} (ha : good a = true) (hb : good b = true) : samT (MeetT a b) (MeetT b a) = true := by
  have h := meetT_comm (good_frm ha) (good_frm hb)
  rw [MeetT_good ha hb, MeetT_good hb ha, samT_good h]
  split
  · exact h
  · exact samT_refl _
theorem MeetT_idem {a : Ty} (ha : good a = true) : samT (MeetT a a) a = true := by
  have h := meetT_idem (good_frm ha)
  rw [MeetT_good ha ha, samT_good h, if_pos ha]
  exact h
theorem MeetT_fit {a b : Ty} (ha : good a = true) (fa : fit a) (hb : good b = true) (fb : fit b) : fit (MeetT a b) := by
  rw [MeetT_good ha hb]
  split
  · exact meetT_fit (good_frm ha) fa (good_iff.1 ha).2.2 (good_frm hb) fb (good_iff.1 hb).2.2
  · exact fit_tz31
theorem Y5_Ya : type_of% (And.intro @F_ag_25 (And.intro @F_al_25 (And.intro @F_sz_25 (@F_un_4)))) := And.intro @F_ag_25 (And.intro @F_al_25 (And.intro @F_sz_25 (@F_un_4)))
set_option maxHeartbeats 4000000 in
theorem c_algebra31 (hM : MergeC) (hX : PC Tryd.prog 11 [] (.im (.bool (true)))) (a b c : Ty) (ha : fit a) (hb : fit b) (hc : fit c) : PC Tryd.prog 5 [tyV a, tyV b, tyV c] (.im (.bool (true))) := by
  have sa := c_small31 a ha 6 (by decide) (by decide)
  have sb := c_small31 b hb 6 (by decide) (by decide)
  have sc := c_small31 c hc 6 (by decide) (by decide)
  have ka := c_checkR a ha
  have kb := c_checkR b hb
  have kc := c_checkR c hc
  refine PC.enter 91 Tryd.func5 rfl (by decide) rfl rfl (s := [(0, tyV a), (1, tyV b), (2, tyV c)]) (by rfl) ?_
  rw [tyV_eq a, tyV_eq b, tyV_eq c]
  refine wG Y5_Ya True.intro ?_
  refine AR.callP sa @tyV_eq (And.intro (@tyV_id) (And.intro (@fdV_id) (And.intro (@tyL_id) @fdL_id))) ?_
  cases qa : smallT a 6
  case' false =>
    refine goG Y5_Ya qa ?_
    refine wG Y5_Ya True.intro ?_
    refine AR.callP hX True.intro (And.intro (@tyV_id) (And.intro (@fdV_id) (And.intro (@tyL_id) @fdL_id))) ?_
    refine goG Y5_Ya True.intro ?_
    refine wG Y5_Ya True.intro ?_
    exact Fin.oneP
  refine goG Y5_Ya qa ?_
  refine AR.callP sb @tyV_eq (And.intro (@tyV_id) (And.intro (@fdV_id) (And.intro (@tyL_id) @fdL_id))) ?_
  cases qb : smallT b 6
  case' false =>
    refine goG Y5_Ya qb ?_
    refine wG Y5_Ya True.intro ?_
    refine AR.callP hX True.intro (And.intro (@tyV_id) (And.intro (@fdV_id) (And.intro (@tyL_id) @fdL_id))) ?_
    refine goG Y5_Ya True.intro ?_
    refine wG Y5_Ya True.intro ?_
    exact Fin.oneP
  refine goG Y5_Ya qb ?_
  refine AR.callP sc @tyV_eq (And.intro (@tyV_id) (And.intro (@fdV_id) (And.intro (@tyL_id) @fdL_id))) ?_
  cases qc : smallT c 6
  case' false =>
    refine goG Y5_Ya qc ?_
    refine wG Y5_Ya True.intro ?_
    refine AR.callP hX True.intro (And.intro (@tyV_id) (And.intro (@fdV_id) (And.intro (@tyL_id) @fdL_id))) ?_
    refine goG Y5_Ya True.intro ?_
    refine wG Y5_Ya True.intro ?_
    exact Fin.oneP
  refine goG Y5_Ya qc ?_
  refine AR.callP ka @tyV_eq (And.intro (@tyV_id) (And.intro (@fdV_id) (And.intro (@tyL_id) @fdL_id))) ?_
  by_cases ga : chk a = 0
  case' neg =>
    refine goG Y5_Ya ga ?_
    refine wG Y5_Ya True.intro ?_
    refine AR.callP hX True.intro (And.intro (@tyV_id) (And.intro (@fdV_id) (And.intro (@tyL_id) @fdL_id))) ?_
    refine goG Y5_Ya True.intro ?_
    refine wG Y5_Ya True.intro ?_
    exact Fin.oneP
  refine goG Y5_Ya ga ?_
  refine AR.callP kb @tyV_eq (And.intro (@tyV_id) (And.intro (@fdV_id) (And.intro (@tyL_id) @fdL_id))) ?_
  by_cases gb : chk b = 0
  case' neg =>
    refine goG Y5_Ya gb ?_
    refine wG Y5_Ya True.intro ?_
    refine AR.callP hX True.intro (And.intro (@tyV_id) (And.intro (@fdV_id) (And.intro (@tyL_id) @fdL_id))) ?_
    refine goG Y5_Ya True.intro ?_
    refine wG Y5_Ya True.intro ?_
    exact Fin.oneP
  refine goG Y5_Ya gb ?_
  refine AR.callP kc @tyV_eq (And.intro (@tyV_id) (And.intro (@fdV_id) (And.intro (@tyL_id) @fdL_id))) ?_
  by_cases gc : chk c = 0
  case' neg =>
    refine goG Y5_Ya gc ?_
    refine wG Y5_Ya True.intro ?_
    refine AR.callP hX True.intro (And.intro (@tyV_id) (And.intro (@fdV_id) (And.intro (@tyL_id) @fdL_id))) ?_
    refine goG Y5_Ya True.intro ?_
    refine wG Y5_Ya True.intro ?_
    exact Fin.oneP
  refine goG Y5_Ya gc ?_
  refine wG Y5_Ya True.intro ?_
  replace ga := good_chk31 ga
  have fa := good_frm ga
  replace gb := good_chk31 gb
  have fb := good_frm gb
  replace gc := good_chk31 gc
  have fc := good_frm gc
  have jf := fun {x y : Ty} (gx : good x = true) (hx : fit x) (gy : good y = true) (hy : fit y) => joinT_fit (good_frm gx) hx (good_frm gy) hy
  have h1 := c_Join hM a b ha hb
  rw [JoinT_good ga gb] at h1
  have g1 := joinT_good ga gb
  have f1 := jf ga ha gb hb
  have h2 := c_Join hM b a hb ha
  rw [JoinT_good gb ga] at h2
  have f2 := jf gb hb ga ha
  have e1 := c_Same _ f1 _ f2
  rw [joinT_comm fa fb] at e1
  have h3 := c_Meet hM a b ha hb
  have h4 := c_Meet hM b a hb ha
  have e2 := c_Same _ (MeetT_fit ga ha gb hb) _ (MeetT_fit gb hb ga ha)
  rw [MeetT_comm ga gb] at e2
  have h5 := c_Join hM a a ha ha
  rw [JoinT_good ga ga] at h5
  have e3 := c_Same _ (jf ga ha ga ha) a ha
  rw [joinT_idem fa] at e3
  have h6 := c_Meet hM a a ha ha
  have e4 := c_Same _ (MeetT_fit ga ha ga ha) a ha
  rw [MeetT_idem ga] at e4
  have h7 := c_Join hM (joinT a b) c f1 hc
  rw [JoinT_good g1 gc] at h7
  have h8 := c_Join hM b c hb hc
  rw [JoinT_good gb gc] at h8
  have g8 := joinT_good gb gc
  have f8 := jf gb hb gc hc
  have h9 := c_Join hM a (joinT b c) ha f8
  rw [JoinT_good ga g8] at h9
  have e5 := c_Same _ (jf g1 f1 gc hc) _ (jf ga ha g8 f8)
  rw [joinT_assoc fa fb fc] at e5
  have h10 := c_Sub a b ha hb
  rw [sub_good ga gb] at h10
  have e6 := c_Same _ f1 b hb
  rw [← sub_join fa fb] at e6
  generalize subT a b = p at h10 e6
  generalize joinT (joinT a b) c = j7 at h7 e5
  generalize joinT a (joinT b c) = j9 at h9 e5
  generalize joinT b c = j8 at h8 h9
  generalize joinT a a = j5 at h5 e3
  generalize joinT b a = j2 at h2 e1
  generalize joinT a b = j1 at h1 e1 h7 e6
  generalize MeetT a b = m3 at h3 e2
  generalize MeetT b a = m4 at h4 e2
  generalize MeetT a a = m6 at h6 e4
  refine AR.callP h1 @tyV_eq (And.intro (@tyV_id) (And.intro (@fdV_id) (And.intro (@tyL_id) @fdL_id))) ?_
  refine goG Y5_Ya (And.intro (@tyV_firm) (And.intro (@fdV_firm) (And.intro (@tyV_strip) (And.intro (@fdV_strip) (And.intro (@tyV_live) (And.intro (@tyV_size) (And.intro (@tyV_isAg) (And.intro (@tyV_cells) (And.intro (@fdV_live) (And.intro (@fdV_size) (And.intro (@fdV_isAg) (And.intro (@fdV_cells) (And.intro (@List.getElem?_map.{0, 0}) @Int.natCast_nonneg))))))))))))) ?_
  refine wdG Y5_Ya (And.intro (@tyV_firm) (And.intro (@fdV_firm) (And.intro (@tyV_strip) (And.intro (@fdV_strip) (And.intro (@tyV_live) (And.intro (@tyV_size) (And.intro (@tyV_isAg) (And.intro (@tyV_cells) (And.intro (@fdV_live) (And.intro (@fdV_size) (And.intro (@fdV_isAg) (And.intro (@fdV_cells) (And.intro (@List.getElem?_map.{0, 0}) @Int.natCast_nonneg))))))))))))) ?_
  refine AR.callP h2 @tyV_eq (And.intro (@tyV_id) (And.intro (@fdV_id) (And.intro (@tyL_id) @fdL_id))) ?_
  refine goG Y5_Ya (And.intro (@tyV_firm) (And.intro (@fdV_firm) (And.intro (@tyV_strip) (And.intro (@fdV_strip) (And.intro (@tyV_live) (And.intro (@tyV_size) (And.intro (@tyV_isAg) (And.intro (@tyV_cells) (And.intro (@fdV_live) (And.intro (@fdV_size) (And.intro (@fdV_isAg) (And.intro (@fdV_cells) (And.intro (@List.getElem?_map.{0, 0}) @Int.natCast_nonneg))))))))))))) ?_
  refine AR.callP e1 @tyV_eq (And.intro (@tyV_id) (And.intro (@fdV_id) (And.intro (@tyL_id) @fdL_id))) ?_
  refine goG Y5_Ya (And.intro (@tyV_firm) (And.intro (@fdV_firm) (And.intro (@tyV_strip) (And.intro (@fdV_strip) (And.intro (@tyV_live) (And.intro (@tyV_size) (And.intro (@tyV_isAg) (And.intro (@tyV_cells) (And.intro (@fdV_live) (And.intro (@fdV_size) (And.intro (@fdV_isAg) (And.intro (@fdV_cells) (And.intro (@List.getElem?_map.{0, 0}) @Int.natCast_nonneg))))))))))))) ?_
  refine AR.callP h3 @tyV_eq (And.intro (@tyV_id) (And.intro (@fdV_id) (And.intro (@tyL_id) @fdL_id))) ?_
  refine goG Y5_Ya (And.intro (@tyV_firm) (And.intro (@fdV_firm) (And.intro (@tyV_strip) (And.intro (@fdV_strip) (And.intro (@tyV_live) (And.intro (@tyV_size) (And.intro (@tyV_isAg) (And.intro (@tyV_cells) (And.intro (@fdV_live) (And.intro (@fdV_size) (And.intro (@fdV_isAg) (And.intro (@fdV_cells) (And.intro (@List.getElem?_map.{0, 0}) @Int.natCast_nonneg))))))))))))) ?_
  refine AR.callP h4 @tyV_eq (And.intro (@tyV_id) (And.intro (@fdV_id) (And.intro (@tyL_id) @fdL_id))) ?_
  refine goG Y5_Ya (And.intro (@tyV_firm) (And.intro (@fdV_firm) (And.intro (@tyV_strip) (And.intro (@fdV_strip) (And.intro (@tyV_live) (And.intro (@tyV_size) (And.intro (@tyV_isAg) (And.intro (@tyV_cells) (And.intro (@fdV_live) (And.intro (@fdV_size) (And.intro (@fdV_isAg) (And.intro (@fdV_cells) (And.intro (@List.getElem?_map.{0, 0}) @Int.natCast_nonneg))))))))))))) ?_
  refine AR.callP e2 @tyV_eq (And.intro (@tyV_id) (And.intro (@fdV_id) (And.intro (@tyL_id) @fdL_id))) ?_
  refine goG Y5_Ya (And.intro (@tyV_firm) (And.intro (@fdV_firm) (And.intro (@tyV_strip) (And.intro (@fdV_strip) (And.intro (@tyV_live) (And.intro (@tyV_size) (And.intro (@tyV_isAg) (And.intro (@tyV_cells) (And.intro (@fdV_live) (And.intro (@fdV_size) (And.intro (@fdV_isAg) (And.intro (@fdV_cells) (And.intro (@List.getElem?_map.{0, 0}) @Int.natCast_nonneg))))))))))))) ?_
  refine AR.callP h5 @tyV_eq (And.intro (@tyV_id) (And.intro (@fdV_id) (And.intro (@tyL_id) @fdL_id))) ?_
  refine goG Y5_Ya (And.intro (@tyV_firm) (And.intro (@fdV_firm) (And.intro (@tyV_strip) (And.intro (@fdV_strip) (And.intro (@tyV_live) (And.intro (@tyV_size) (And.intro (@tyV_isAg) (And.intro (@tyV_cells) (And.intro (@fdV_live) (And.intro (@fdV_size) (And.intro (@fdV_isAg) (And.intro (@fdV_cells) (And.intro (@List.getElem?_map.{0, 0}) @Int.natCast_nonneg))))))))))))) ?_
  refine AR.callP e3 @tyV_eq (And.intro (@tyV_id) (And.intro (@fdV_id) (And.intro (@tyL_id) @fdL_id))) ?_
  refine goG Y5_Ya (And.intro (@tyV_firm) (And.intro (@fdV_firm) (And.intro (@tyV_strip) (And.intro (@fdV_strip) (And.intro (@tyV_live) (And.intro (@tyV_size) (And.intro (@tyV_isAg) (And.intro (@tyV_cells) (And.intro (@fdV_live) (And.intro (@fdV_size) (And.intro (@fdV_isAg) (And.intro (@fdV_cells) (And.intro (@List.getElem?_map.{0, 0}) @Int.natCast_nonneg))))))))))))) ?_
  refine AR.callP h6 @tyV_eq (And.intro (@tyV_id) (And.intro (@fdV_id) (And.intro (@tyL_id) @fdL_id))) ?_
  refine goG Y5_Ya (And.intro (@tyV_firm) (And.intro (@fdV_firm) (And.intro (@tyV_strip) (And.intro (@fdV_strip) (And.intro (@tyV_live) (And.intro (@tyV_size) (And.intro (@tyV_isAg) (And.intro (@tyV_cells) (And.intro (@fdV_live) (And.intro (@fdV_size) (And.intro (@fdV_isAg) (And.intro (@fdV_cells) (And.intro (@List.getElem?_map.{0, 0}) @Int.natCast_nonneg))))))))))))) ?_
  refine AR.callP e4 @tyV_eq (And.intro (@tyV_id) (And.intro (@fdV_id) (And.intro (@tyL_id) @fdL_id))) ?_
  refine goG Y5_Ya (And.intro (@tyV_firm) (And.intro (@fdV_firm) (And.intro (@tyV_strip) (And.intro (@fdV_strip) (And.intro (@tyV_live) (And.intro (@tyV_size) (And.intro (@tyV_isAg) (And.intro (@tyV_cells) (And.intro (@fdV_live) (And.intro (@fdV_size) (And.intro (@fdV_isAg) (And.intro (@fdV_cells) (And.intro (@List.getElem?_map.{0, 0}) @Int.natCast_nonneg))))))))))))) ?_
  refine AR.callP h7 @tyV_eq (And.intro (@tyV_id) (And.intro (@fdV_id) (And.intro (@tyL_id) @fdL_id))) ?_
  refine goG Y5_Ya (And.intro (@tyV_firm) (And.intro (@fdV_firm) (And.intro (@tyV_strip) (And.intro (@fdV_strip) (And.intro (@tyV_live) (And.intro (@tyV_size) (And.intro (@tyV_isAg) (And.intro (@tyV_cells) (And.intro (@fdV_live) (And.intro (@fdV_size) (And.intro (@fdV_isAg) (And.intro (@fdV_cells) (And.intro (@List.getElem?_map.{0, 0}) @Int.natCast_nonneg))))))))))))) ?_
  refine AR.callP h8 @tyV_eq (And.intro (@tyV_id) (And.intro (@fdV_id) (And.intro (@tyL_id) @fdL_id))) ?_
  refine goG Y5_Ya (And.intro (@tyV_firm) (And.intro (@fdV_firm) (And.intro (@tyV_strip) (And.intro (@fdV_strip) (And.intro (@tyV_live) (And.intro (@tyV_size) (And.intro (@tyV_isAg) (And.intro (@tyV_cells) (And.intro (@fdV_live) (And.intro (@fdV_size) (And.intro (@fdV_isAg) (And.intro (@fdV_cells) (And.intro (@List.getElem?_map.{0, 0}) @Int.natCast_nonneg))))))))))))) ?_
  refine AR.callP h9 @tyV_eq (And.intro (@tyV_id) (And.intro (@fdV_id) (And.intro (@tyL_id) @fdL_id))) ?_
  refine goG Y5_Ya (And.intro (@tyV_firm) (And.intro (@fdV_firm) (And.intro (@tyV_strip) (And.intro (@fdV_strip) (And.intro (@tyV_live) (And.intro (@tyV_size) (And.intro (@tyV_isAg) (And.intro (@tyV_cells) (And.intro (@fdV_live) (And.intro (@fdV_size) (And.intro (@fdV_isAg) (And.intro (@fdV_cells) (And.intro (@List.getElem?_map.{0, 0}) @Int.natCast_nonneg))))))))))))) ?_
  refine AR.callP e5 @tyV_eq (And.intro (@tyV_id) (And.intro (@fdV_id) (And.intro (@tyL_id) @fdL_id))) ?_
  refine goG Y5_Ya (And.intro (@tyV_firm) (And.intro (@fdV_firm) (And.intro (@tyV_strip) (And.intro (@fdV_strip) (And.intro (@tyV_live) (And.intro (@tyV_size) (And.intro (@tyV_isAg) (And.intro (@tyV_cells) (And.intro (@fdV_live) (And.intro (@fdV_size) (And.intro (@fdV_isAg) (And.intro (@fdV_cells) (And.intro (@List.getElem?_map.{0, 0}) @Int.natCast_nonneg))))))))))))) ?_
  cases p
  case' false =>
    refine AR.callP h10 @tyV_eq (And.intro (@tyV_id) (And.intro (@fdV_id) (And.intro (@tyL_id) @fdL_id))) ?_
    refine goG Y5_Ya (And.intro (@tyV_firm) (And.intro (@fdV_firm) (And.intro (@tyV_strip) (And.intro (@fdV_strip) (And.intro (@tyV_live) (And.intro (@tyV_size) (And.intro (@tyV_isAg) (And.intro (@tyV_cells) (And.intro (@fdV_live) (And.intro (@fdV_size) (And.intro (@fdV_isAg) (And.intro (@fdV_cells) (And.intro (@List.getElem?_map.{0, 0}) @Int.natCast_nonneg))))))))))))) ?_
    refine AR.callP e6 @tyV_eq (And.intro (@tyV_id) (And.intro (@fdV_id) (And.intro (@tyL_id) @fdL_id))) ?_
    refine goG Y5_Ya (And.intro (@tyV_firm) (And.intro (@fdV_firm) (And.intro (@tyV_strip) (And.intro (@fdV_strip) (And.intro (@tyV_live) (And.intro (@tyV_size) (And.intro (@tyV_isAg) (And.intro (@tyV_cells) (And.intro (@fdV_live) (And.intro (@fdV_size) (And.intro (@fdV_isAg) (And.intro (@fdV_cells) (And.intro (@List.getElem?_map.{0, 0}) @Int.natCast_nonneg))))))))))))) ?_
    refine AR.callP hX True.intro (And.intro (@tyV_id) (And.intro (@fdV_id) (And.intro (@tyL_id) @fdL_id))) ?_
    refine goG Y5_Ya True.intro ?_
    refine wdG Y5_Ya True.intro ?_
    exact Fin.oneP
  case' true =>
    refine AR.callP h10 @tyV_eq (And.intro (@tyV_id) (And.intro (@fdV_id) (And.intro (@tyL_id) @fdL_id))) ?_
    refine goG Y5_Ya (And.intro (@tyV_firm) (And.intro (@fdV_firm) (And.intro (@tyV_strip) (And.intro (@fdV_strip) (And.intro (@tyV_live) (And.intro (@tyV_size) (And.intro (@tyV_isAg) (And.intro (@tyV_cells) (And.intro (@fdV_live) (And.intro (@fdV_size) (And.intro (@fdV_isAg) (And.intro (@fdV_cells) (And.intro (@List.getElem?_map.{0, 0}) @Int.natCast_nonneg))))))))))))) ?_
    refine AR.callP e6 @tyV_eq (And.intro (@tyV_id) (And.intro (@fdV_id) (And.intro (@tyL_id) @fdL_id))) ?_
    refine goG Y5_Ya (And.intro (@tyV_firm) (And.intro (@fdV_firm) (And.intro (@tyV_strip) (And.intro (@fdV_strip) (And.intro (@tyV_live) (And.intro (@tyV_size) (And.intro (@tyV_isAg) (And.intro (@tyV_cells) (And.intro (@fdV_live) (And.intro (@fdV_size) (And.intro (@fdV_isAg) (And.intro (@fdV_cells) (And.intro (@List.getElem?_map.{0, 0}) @Int.natCast_nonneg))))))))))))) ?_
    refine AR.callP hX True.intro (And.intro (@tyV_id) (And.intro (@fdV_id) (And.intro (@tyL_id) @fdL_id))) ?_
    refine goG Y5_Ya True.intro ?_
    refine wdG Y5_Ya True.intro ?_
    exact Fin.oneP
end Go.Proofs.YtchjncoadhigmaaDoor

