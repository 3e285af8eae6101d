/- Walks: the law TypesLattice, given merge and its examples. -/
import Derived.Test.YtchjncoadhigmaaDoorHv
import Derived.Test.YtchjncoadhigmaaDoorY8
import Derived.Test.YtchjncoadhigmaaDoorY4
namespace Go.Proofs.YtchjncoadhigmaaDoor
set_option linter.unusedSimpArgs false
set_option linter.unusedVariables false
set_option linter.unnecessarySimpa false
open Go.RowKit
theorem JoinT_good {a b : Ty} (ha : good a = true) (hb : good b = true) : JoinT a b = joinT a b := by unfold JoinT; rw [ha, hb]; rfl
theorem MeetT_good {a b : Ty} (ha : good a = true) (hb : good b = true) : MeetT a b = if good (meetT a b) then meetT a b else tz := by unfold MeetT; rw [ha, hb]; rfl
theorem Y3_Y9 : type_of% (And.intro @F_ag_25 (And.intro @F_al_25 (@F_sz_25))) := And.intro @F_ag_25 (And.intro @F_al_25 (@F_sz_25))
set_option maxHeartbeats 4000000 in
theorem c_lattice31 (hM : MergeC) (hX : PC Tryd.prog 11 [] (.im (.bool (true)))) (a b c : Ty) (ha : fit a) (hb : fit b) (hc : fit c) : PC Tryd.prog 3 [tyV a, tyV b, tyV c] (.im (.bool (true))) := by
  have sa := c_small31 a ha 6 (by decide) (by decide)
  have sb := c_small31 b hb 6 (by decide) (by decide)
  have sc := c_small31 c hc 6 (by decide) (by decide)
  have ka := c_checkR a ha
  have kb := c_checkR b hb
  have kc := c_checkR c hc
  refine PC.enter 105 Tryd.func3 rfl (by decide) rfl rfl (s := [(0, tyV a), (1, tyV b), (2, tyV c)]) (by rfl) ?_
  rw [tyV_eq a, tyV_eq b, tyV_eq c]
  refine wG Y3_Y9 True.intro ?_
  refine AR.callP sa @tyV_eq (And.intro (@tyV_id) (And.intro (@fdV_id) (And.intro (@tyL_id) @fdL_id))) ?_
  cases qa : smallT a 6
  case' false =>
    refine goG Y3_Y9 qa ?_
    refine wG Y3_Y9 True.intro ?_
    refine AR.callP hX True.intro (And.intro (@tyV_id) (And.intro (@fdV_id) (And.intro (@tyL_id) @fdL_id))) ?_
    refine goG Y3_Y9 True.intro ?_
    refine wG Y3_Y9 True.intro ?_
    exact Fin.oneP
  refine goG Y3_Y9 qa ?_
  refine AR.callP sb @tyV_eq (And.intro (@tyV_id) (And.intro (@fdV_id) (And.intro (@tyL_id) @fdL_id))) ?_
  cases qb : smallT b 6
  case' false =>
    refine goG Y3_Y9 qb ?_
    refine wG Y3_Y9 True.intro ?_
    refine AR.callP hX True.intro (And.intro (@tyV_id) (And.intro (@fdV_id) (And.intro (@tyL_id) @fdL_id))) ?_
    refine goG Y3_Y9 True.intro ?_
    refine wG Y3_Y9 True.intro ?_
    exact Fin.oneP
  refine goG Y3_Y9 qb ?_
  refine AR.callP sc @tyV_eq (And.intro (@tyV_id) (And.intro (@fdV_id) (And.intro (@tyL_id) @fdL_id))) ?_
  cases qc : smallT c 6
  case' false =>
    refine goG Y3_Y9 qc ?_
    refine wG Y3_Y9 True.intro ?_
    refine AR.callP hX True.intro (And.intro (@tyV_id) (And.intro (@fdV_id) (And.intro (@tyL_id) @fdL_id))) ?_
    refine goG Y3_Y9 True.intro ?_
    refine wG Y3_Y9 True.intro ?_
    exact Fin.oneP
  refine goG Y3_Y9 qc ?_
  refine AR.callP ka @tyV_eq (And.intro (@tyV_id) (And.intro (@fdV_id) (And.intro (@tyL_id) @fdL_id))) ?_
  by_cases ga : chk a = 0
  case' neg =>
    refine goG Y3_Y9 ga ?_
    refine wG Y3_Y9 True.intro ?_
    refine AR.callP hX True.intro (And.intro (@tyV_id) (And.intro (@fdV_id) (And.intro (@tyL_id) @fdL_id))) ?_
    refine goG Y3_Y9 True.intro ?_
    refine wG Y3_Y9 True.intro ?_
    exact Fin.oneP
  refine goG Y3_Y9 ga ?_
  refine AR.callP kb @tyV_eq (And.intro (@tyV_id) (And.intro (@fdV_id) (And.intro (@tyL_id) @fdL_id))) ?_
  by_cases gb : chk b = 0
  case' neg =>
    refine goG Y3_Y9 gb ?_
    refine wG Y3_Y9 True.intro ?_
    refine AR.callP hX True.intro (And.intro (@tyV_id) (And.intro (@fdV_id) (And.intro (@tyL_id) @fdL_id))) ?_
    refine goG Y3_Y9 True.intro ?_
    refine wG Y3_Y9 True.intro ?_
    exact Fin.oneP
  refine goG Y3_Y9 gb ?_
  refine AR.callP kc @tyV_eq (And.intro (@tyV_id) (And.intro (@fdV_id) (And.intro (@tyL_id) @fdL_id))) ?_
  by_cases gc : chk c = 0
  case' neg =>
    refine goG Y3_Y9 gc ?_
    refine wG Y3_Y9 True.intro ?_
    refine AR.callP hX True.intro (And.intro (@tyV_id) (And.intro (@fdV_id) (And.intro (@tyL_id) @fdL_id))) ?_
    refine goG Y3_Y9 True.intro ?_
    refine wG Y3_Y9 True.intro ?_
    exact Fin.oneP
  refine goG Y3_Y9 gc ?_
  refine wG Y3_Y9 True.intro ?_
  replace ga := good_chk31 ga
  have fa := good_frm ga
  replace gb := good_chk31 gb
  have fb := good_frm gb
  replace gc := good_chk31 gc
  have fc := good_frm gc
  have wa : wit a = true := (good_iff.1 ga).2.2
  have wb : wit b = true := (good_iff.1 gb).2.2
  have hJ := c_Join hM a b ha hb
  have hN := c_Meet hM a b ha hb
  have hR := c_MetR a ha fa b hb fb
  have fJ := joinT_fit fa ha fb hb
  have fM := meetT_fit fa ha wa fb hb wb
  have gJ := joinT_good ga gb
  have lub := joinT_lub a fa b fb
  have glb := meetT_glb a fa b fb
  have kR := c_checkR (meetT a b) fM
  rw [JoinT_good ga gb] at hJ
  rw [MeetT_good ga gb] at hN
  have fN : fit (if good (meetT a b) then meetT a b else tz) := by split <;> first | exact fM | exact fit_tz31
  have gN : good (if good (meetT a b) then meetT a b else tz) = true := by split <;> first | assumption | exact good_tz
  have n1 : subT (if good (meetT a b) then meetT a b else tz) a = true := by split <;> first | exact glb.left | exact sub_tz a
  have n2 : subT (if good (meetT a b) then meetT a b else tz) b = true := by split <;> first | exact glb.right | exact sub_tz b
  have n3 : chk (meetT a b) = 0 → subT c a = true → subT c b = true → subT c (if good (meetT a b) then meetT a b else tz) = true := fun h1 h2 h3 => by rw [if_pos (good_chk31 h1)]; exact glb.most c fc h2 h3
  have n4 := lub.least c fc
  have n5 := lub.left
  have n6 := lub.right
  generalize (if good (meetT a b) then meetT a b else tz) = n at hN fN gN n1 n2 n3
  generalize joinT a b = j at hJ fJ gJ n4 n5 n6
  generalize meetT a b = m at hR kR n3 fM
  clear glb lub
  have h1 := c_Sub a j ha fJ
  rw [sub_good ga gJ, n5] at h1
  have h2 := c_Sub b j hb fJ
  rw [sub_good gb gJ, n6] at h2
  have h3 := c_Sub n a fN ha
  rw [sub_good gN ga, n1] at h3
  have h4 := c_Sub n b fN hb
  rw [sub_good gN gb, n2] at h4
  have h5 := c_Sub a c ha hc
  rw [sub_good ga gc] at h5
  have h6 := c_Sub b c hb hc
  rw [sub_good gb gc] at h6
  have h7 := c_Sub j c fJ hc
  rw [sub_good gJ gc] at h7
  have h8 := c_Sub c a hc ha
  rw [sub_good gc ga] at h8
  have h9 := c_Sub c b hc hb
  rw [sub_good gc gb] at h9
  have h10 := c_Sub c n hc fN
  rw [sub_good gc gN] at h10
  clear n1 n2 n5 n6
  generalize subT a c = p at h5 n4
  generalize subT b c = q at h6 n4
  generalize subT j c = r at h7 n4
  generalize subT c a = u at h8 n3
  generalize subT c b = v at h9 n3
  generalize subT c n = x at h10 n3
  refine wdG Y3_Y9 True.intro ?_
  refine AR.callP hJ @tyV_eq (And.intro (@tyV_id) (And.intro (@fdV_id) (And.intro (@tyL_id) @fdL_id))) ?_
  refine goG Y3_Y9 (And.intro (@tyV_firm) (And.intro (@fdV_firm) (And.intro (@tyV_strip) (And.intro (@fdV_strip) (And.intro (@tyV_live) (And.intro (@tyV_size) (And.intro (@tyV_isAg) (And.intro (@tyV_cells) (And.intro (@fdV_live) (And.intro (@fdV_size) (And.intro (@fdV_isAg) (And.intro (@fdV_cells) (And.intro (@List.getElem?_map.{0, 0}) @Int.natCast_nonneg))))))))))))) ?_
  refine AR.callP hN @tyV_eq (And.intro (@tyV_id) (And.intro (@fdV_id) (And.intro (@tyL_id) @fdL_id))) ?_
  refine goG Y3_Y9 (And.intro (@tyV_firm) (And.intro (@fdV_firm) (And.intro (@tyV_strip) (And.intro (@fdV_strip) (And.intro (@tyV_live) (And.intro (@tyV_size) (And.intro (@tyV_isAg) (And.intro (@tyV_cells) (And.intro (@fdV_live) (And.intro (@fdV_size) (And.intro (@fdV_isAg) (And.intro (@fdV_cells) (And.intro (@List.getElem?_map.{0, 0}) @Int.natCast_nonneg))))))))))))) ?_
  refine wdG Y3_Y9 (And.intro (@tyV_firm) (And.intro (@fdV_firm) (And.intro (@tyV_strip) (And.intro (@fdV_strip) (And.intro (@tyV_live) (And.intro (@tyV_size) (And.intro (@tyV_isAg) (And.intro (@tyV_cells) (And.intro (@fdV_live) (And.intro (@fdV_size) (And.intro (@fdV_isAg) (And.intro (@fdV_cells) (And.intro (@List.getElem?_map.{0, 0}) @Int.natCast_nonneg))))))))))))) ?_
  refine AR.callP h1 @tyV_eq (And.intro (@tyV_id) (And.intro (@fdV_id) (And.intro (@tyL_id) @fdL_id))) ?_
  refine goG Y3_Y9 (And.intro (@tyV_firm) (And.intro (@fdV_firm) (And.intro (@tyV_strip) (And.intro (@fdV_strip) (And.intro (@tyV_live) (And.intro (@tyV_size) (And.intro (@tyV_isAg) (And.intro (@tyV_cells) (And.intro (@fdV_live) (And.intro (@fdV_size) (And.intro (@fdV_isAg) (And.intro (@fdV_cells) (And.intro (@List.getElem?_map.{0, 0}) @Int.natCast_nonneg))))))))))))) ?_
  refine AR.callP h2 @tyV_eq (And.intro (@tyV_id) (And.intro (@fdV_id) (And.intro (@tyL_id) @fdL_id))) ?_
  refine goG Y3_Y9 (And.intro (@tyV_firm) (And.intro (@fdV_firm) (And.intro (@tyV_strip) (And.intro (@fdV_strip) (And.intro (@tyV_live) (And.intro (@tyV_size) (And.intro (@tyV_isAg) (And.intro (@tyV_cells) (And.intro (@fdV_live) (And.intro (@fdV_size) (And.intro (@fdV_isAg) (And.intro (@fdV_cells) (And.intro (@List.getElem?_map.{0, 0}) @Int.natCast_nonneg))))))))))))) ?_
  refine AR.callP h3 @tyV_eq (And.intro (@tyV_id) (And.intro (@fdV_id) (And.intro (@tyL_id) @fdL_id))) ?_
  refine goG Y3_Y9 (And.intro (@tyV_firm) (And.intro (@fdV_firm) (And.intro (@tyV_strip) (And.intro (@fdV_strip) (And.intro (@tyV_live) (And.intro (@tyV_size) (And.intro (@tyV_isAg) (And.intro (@tyV_cells) (And.intro (@fdV_live) (And.intro (@fdV_size) (And.intro (@fdV_isAg) (And.intro (@fdV_cells) (And.intro (@List.getElem?_map.{0, 0}) @Int.natCast_nonneg))))))))))))) ?_
  refine AR.callP h4 @tyV_eq (And.intro (@tyV_id) (And.intro (@fdV_id) (And.intro (@tyL_id) @fdL_id))) ?_
  refine goG Y3_Y9 (And.intro (@tyV_firm) (And.intro (@fdV_firm) (And.intro (@tyV_strip) (And.intro (@fdV_strip) (And.intro (@tyV_live) (And.intro (@tyV_size) (And.intro (@tyV_isAg) (And.intro (@tyV_cells) (And.intro (@fdV_live) (And.intro (@fdV_size) (And.intro (@fdV_isAg) (And.intro (@fdV_cells) (And.intro (@List.getElem?_map.{0, 0}) @Int.natCast_nonneg))))))))))))) ?_
  refine wG Y3_Y9 (And.intro (@tyV_firm) (And.intro (@fdV_firm) (And.intro (@tyV_strip) (And.intro (@fdV_strip) (And.intro (@tyV_live) (And.intro (@tyV_size) (And.intro (@tyV_isAg) (And.intro (@tyV_cells) (And.intro (@fdV_live) (And.intro (@fdV_size) (And.intro (@fdV_isAg) (And.intro (@fdV_cells) (And.intro (@List.getElem?_map.{0, 0}) @Int.natCast_nonneg))))))))))))) ?_
  refine AR.callP h5 @tyV_eq (And.intro (@tyV_id) (And.intro (@fdV_id) (And.intro (@tyL_id) @fdL_id))) ?_
  cases p
  case' false =>
    refine goG Y3_Y9 (And.intro (@tyV_firm) (And.intro (@fdV_firm) (And.intro (@tyV_strip) (And.intro (@fdV_strip) (And.intro (@tyV_live) (And.intro (@tyV_size) (And.intro (@tyV_isAg) (And.intro (@tyV_cells) (And.intro (@fdV_live) (And.intro (@fdV_size) (And.intro (@fdV_isAg) (And.intro (@fdV_cells) (And.intro (@List.getElem?_map.{0, 0}) @Int.natCast_nonneg))))))))))))) ?_
    refine wG Y3_Y9 (And.intro (@tyV_firm) (And.intro (@fdV_firm) (And.intro (@tyV_strip) (And.intro (@fdV_strip) (And.intro (@tyV_live) (And.intro (@tyV_size) (And.intro (@tyV_isAg) (And.intro (@tyV_cells) (And.intro (@fdV_live) (And.intro (@fdV_size) (And.intro (@fdV_isAg) (And.intro (@fdV_cells) (And.intro (@List.getElem?_map.{0, 0}) @Int.natCast_nonneg))))))))))))) ?_
    refine AR.callP hR @tyV_eq (And.intro (@tyV_id) (And.intro (@fdV_id) (And.intro (@tyL_id) @fdL_id))) ?_
    refine goG Y3_Y9 (And.intro (@tyV_firm) (And.intro (@fdV_firm) (And.intro (@tyV_strip) (And.intro (@fdV_strip) (And.intro (@tyV_live) (And.intro (@tyV_size) (And.intro (@tyV_isAg) (And.intro (@tyV_cells) (And.intro (@fdV_live) (And.intro (@fdV_size) (And.intro (@fdV_isAg) (And.intro (@fdV_cells) (And.intro (@List.getElem?_map.{0, 0}) @Int.natCast_nonneg))))))))))))) ?_
    refine AR.callP kR @tyV_eq (And.intro (@tyV_id) (And.intro (@fdV_id) (And.intro (@tyL_id) @fdL_id))) ?_
    by_cases g : chk m = 0
    case' neg =>
      refine goG Y3_Y9 g ?_
      refine AR.callP hX True.intro (And.intro (@tyV_id) (And.intro (@fdV_id) (And.intro (@tyL_id) @fdL_id))) ?_
      refine goG Y3_Y9 True.intro ?_
      refine wG Y3_Y9 True.intro ?_
      exact Fin.oneP
    refine goG Y3_Y9 g ?_
    refine AR.callP h8 @tyV_eq (And.intro (@tyV_id) (And.intro (@fdV_id) (And.intro (@tyL_id) @fdL_id))) ?_
    cases u
    case' false =>
      refine goG Y3_Y9 True.intro ?_
      refine AR.callP hX True.intro (And.intro (@tyV_id) (And.intro (@fdV_id) (And.intro (@tyL_id) @fdL_id))) ?_
      refine goG Y3_Y9 True.intro ?_
      refine wG Y3_Y9 True.intro ?_
      exact Fin.oneP
    refine goG Y3_Y9 True.intro ?_
    refine AR.callP h9 @tyV_eq (And.intro (@tyV_id) (And.intro (@fdV_id) (And.intro (@tyL_id) @fdL_id))) ?_
    cases v
    case' false =>
      refine goG Y3_Y9 True.intro ?_
      refine AR.callP hX True.intro (And.intro (@tyV_id) (And.intro (@fdV_id) (And.intro (@tyL_id) @fdL_id))) ?_
      refine goG Y3_Y9 True.intro ?_
      refine wG Y3_Y9 True.intro ?_
      exact Fin.oneP
    obtain rfl := n3 g rfl rfl
    refine goG Y3_Y9 True.intro ?_
    refine AR.callP h10 @tyV_eq (And.intro (@tyV_id) (And.intro (@fdV_id) (And.intro (@tyL_id) @fdL_id))) ?_
    refine goG Y3_Y9 True.intro ?_
    refine AR.callP hX True.intro (And.intro (@tyV_id) (And.intro (@fdV_id) (And.intro (@tyL_id) @fdL_id))) ?_
    refine goG Y3_Y9 True.intro ?_
    refine wG Y3_Y9 True.intro ?_
    exact Fin.oneP
  refine goG Y3_Y9 (And.intro (@tyV_firm) (And.intro (@fdV_firm) (And.intro (@tyV_strip) (And.intro (@fdV_strip) (And.intro (@tyV_live) (And.intro (@tyV_size) (And.intro (@tyV_isAg) (And.intro (@tyV_cells) (And.intro (@fdV_live) (And.intro (@fdV_size) (And.intro (@fdV_isAg) (And.intro (@fdV_cells) (And.intro (@List.getElem?_map.{0, 0}) @Int.natCast_nonneg))))))))))))) ?_
  refine AR.callP h6 @tyV_eq (And.intro (@tyV_id) (And.intro (@fdV_id) (And.intro (@tyL_id) @fdL_id))) ?_
  cases q
  case' false =>
    refine goG Y3_Y9 (And.intro (@tyV_firm) (And.intro (@fdV_firm) (And.intro (@tyV_strip) (And.intro (@fdV_strip) (And.intro (@tyV_live) (And.intro (@tyV_size) (And.intro (@tyV_isAg) (And.intro (@tyV_cells) (And.intro (@fdV_live) (And.intro (@fdV_size) (And.intro (@fdV_isAg) (And.intro (@fdV_cells) (And.intro (@List.getElem?_map.{0, 0}) @Int.natCast_nonneg))))))))))))) ?_
    refine wG Y3_Y9 (And.intro (@tyV_firm) (And.intro (@fdV_firm) (And.intro (@tyV_strip) (And.intro (@fdV_strip) (And.intro (@tyV_live) (And.intro (@tyV_size) (And.intro (@tyV_isAg) (And.intro (@tyV_cells) (And.intro (@fdV_live) (And.intro (@fdV_size) (And.intro (@fdV_isAg) (And.intro (@fdV_cells) (And.intro (@List.getElem?_map.{0, 0}) @Int.natCast_nonneg))))))))))))) ?_
    refine AR.callP hR @tyV_eq (And.intro (@tyV_id) (And.intro (@fdV_id) (And.intro (@tyL_id) @fdL_id))) ?_
    refine goG Y3_Y9 (And.intro (@tyV_firm) (And.intro (@fdV_firm) (And.intro (@tyV_strip) (And.intro (@fdV_strip) (And.intro (@tyV_live) (And.intro (@tyV_size) (And.intro (@tyV_isAg) (And.intro (@tyV_cells) (And.intro (@fdV_live) (And.intro (@fdV_size) (And.intro (@fdV_isAg) (And.intro (@fdV_cells) (And.intro (@List.getElem?_map.{0, 0}) @Int.natCast_nonneg))))))))))))) ?_
    refine AR.callP kR @tyV_eq (And.intro (@tyV_id) (And.intro (@fdV_id) (And.intro (@tyL_id) @fdL_id))) ?_
    by_cases g : chk m = 0
    case' neg =>
      refine goG Y3_Y9 g ?_
      refine AR.callP hX True.intro (And.intro (@tyV_id) (And.intro (@fdV_id) (And.intro (@tyL_id) @fdL_id))) ?_
      refine goG Y3_Y9 True.intro ?_
      refine wG Y3_Y9 True.intro ?_
      exact Fin.oneP
    refine goG Y3_Y9 g ?_
    refine AR.callP h8 @tyV_eq (And.intro (@tyV_id) (And.intro (@fdV_id) (And.intro (@tyL_id) @fdL_id))) ?_
    cases u
    case' false =>
      refine goG Y3_Y9 True.intro ?_
      refine AR.callP hX True.intro (And.intro (@tyV_id) (And.intro (@fdV_id) (And.intro (@tyL_id) @fdL_id))) ?_
      refine goG Y3_Y9 True.intro ?_
      refine wG Y3_Y9 True.intro ?_
      exact Fin.oneP
    refine goG Y3_Y9 True.intro ?_
    refine AR.callP h9 @tyV_eq (And.intro (@tyV_id) (And.intro (@fdV_id) (And.intro (@tyL_id) @fdL_id))) ?_
    cases v
    case' false =>
      refine goG Y3_Y9 True.intro ?_
      refine AR.callP hX True.intro (And.intro (@tyV_id) (And.intro (@fdV_id) (And.intro (@tyL_id) @fdL_id))) ?_
      refine goG Y3_Y9 True.intro ?_
      refine wG Y3_Y9 True.intro ?_
      exact Fin.oneP
    obtain rfl := n3 g rfl rfl
    refine goG Y3_Y9 True.intro ?_
    refine AR.callP h10 @tyV_eq (And.intro (@tyV_id) (And.intro (@fdV_id) (And.intro (@tyL_id) @fdL_id))) ?_
    refine goG Y3_Y9 True.intro ?_
    refine AR.callP hX True.intro (And.intro (@tyV_id) (And.intro (@fdV_id) (And.intro (@tyL_id) @fdL_id))) ?_
    refine goG Y3_Y9 True.intro ?_
    refine wG Y3_Y9 True.intro ?_
    exact Fin.oneP
  obtain rfl := n4 rfl rfl
  refine goG Y3_Y9 (And.intro (@tyV_firm) (And.intro (@fdV_firm) (And.intro (@tyV_strip) (And.intro (@fdV_strip) (And.intro (@tyV_live) (And.intro (@tyV_size) (And.intro (@tyV_isAg) (And.intro (@tyV_cells) (And.intro (@fdV_live) (And.intro (@fdV_size) (And.intro (@fdV_isAg) (And.intro (@fdV_cells) (And.intro (@List.getElem?_map.{0, 0}) @Int.natCast_nonneg))))))))))))) ?_
  refine AR.callP h7 @tyV_eq (And.intro (@tyV_id) (And.intro (@fdV_id) (And.intro (@tyL_id) @fdL_id))) ?_
  refine goG Y3_Y9 (And.intro (@tyV_firm) (And.intro (@fdV_firm) (And.intro (@tyV_strip) (And.intro (@fdV_strip) (And.intro (@tyV_live) (And.intro (@tyV_size) (And.intro (@tyV_isAg) (And.intro (@tyV_cells) (And.intro (@fdV_live) (And.intro (@fdV_size) (And.intro (@fdV_isAg) (And.intro (@fdV_cells) (And.intro (@List.getElem?_map.{0, 0}) @Int.natCast_nonneg))))))))))))) ?_
  refine wG Y3_Y9 (And.intro (@tyV_firm) (And.intro (@fdV_firm) (And.intro (@tyV_strip) (And.intro (@fdV_strip) (And.intro (@tyV_live) (And.intro (@tyV_size) (And.intro (@tyV_isAg) (And.intro (@tyV_cells) (And.intro (@fdV_live) (And.intro (@fdV_size) (And.intro (@fdV_isAg) (And.intro (@fdV_cells) (And.intro (@List.getElem?_map.{0, 0}) @Int.natCast_nonneg))))))))))))) ?_
  refine AR.callP hR @tyV_eq (And.intro (@tyV_id) (And.intro (@fdV_id) (And.intro (@tyL_id) @fdL_id))) ?_
  refine goG Y3_Y9 (And.intro (@tyV_firm) (And.intro (@fdV_firm) (And.intro (@tyV_strip) (And.intro (@fdV_strip) (And.intro (@tyV_live) (And.intro (@tyV_size) (And.intro (@tyV_isAg) (And.intro (@tyV_cells) (And.intro (@fdV_live) (And.intro (@fdV_size) (And.intro (@fdV_isAg) (And.intro (@fdV_cells) (And.intro (@List.getElem?_map.{0, 0}) @Int.natCast_nonneg))))))))))))) ?_
  refine AR.callP kR @tyV_eq (And.intro (@tyV_id) (And.intro (@fdV_id) (And.intro (@tyL_id) @fdL_id))) ?_
  by_cases g : chk m = 0
  case' neg =>
    refine goG Y3_Y9 g ?_
    refine AR.callP hX True.intro (And.intro (@tyV_id) (And.intro (@fdV_id) (And.intro (@tyL_id) @fdL_id))) ?_
    refine goG Y3_Y9 True.intro ?_
    refine wG Y3_Y9 True.intro ?_
    exact Fin.oneP
  refine goG Y3_Y9 g ?_
  refine AR.callP h8 @tyV_eq (And.intro (@tyV_id) (And.intro (@fdV_id) (And.intro (@tyL_id) @fdL_id))) ?_
  cases u
  case' false =>
    refine goG Y3_Y9 True.intro ?_
    refine AR.callP hX True.intro (And.intro (@tyV_id) (And.intro (@fdV_id) (And.intro (@tyL_id) @fdL_id))) ?_
    refine goG Y3_Y9 True.intro ?_
    refine wG Y3_Y9 True.intro ?_
    exact Fin.oneP
  refine goG Y3_Y9 True.intro ?_
  refine AR.callP h9 @tyV_eq (And.intro (@tyV_id) (And.intro (@fdV_id) (And.intro (@tyL_id) @fdL_id))) ?_
  cases v
  case' false =>
    refine goG Y3_Y9 True.intro ?_
    refine AR.callP hX True.intro (And.intro (@tyV_id) (And.intro (@fdV_id) (And.intro (@tyL_id) @fdL_id))) ?_
    refine goG Y3_Y9 True.intro ?_
    refine wG Y3_Y9 True.intro ?_
    exact Fin.oneP
  obtain rfl := n3 g rfl rfl
  refine goG Y3_Y9 True.intro ?_
  refine AR.callP h10 @tyV_eq (And.intro (@tyV_id) (And.intro (@fdV_id) (And.intro (@tyL_id) @fdL_id))) ?_
  refine goG Y3_Y9 True.intro ?_
  refine AR.callP hX True.intro (And.intro (@tyV_id) (And.intro (@fdV_id) (And.intro (@tyL_id) @fdL_id))) ?_
  refine goG Y3_Y9 True.intro ?_
  refine wG Y3_Y9 True.intro ?_
  exact Fin.oneP
end Go.Proofs.YtchjncoadhigmaaDoor

