/- Walks: the law TypesCheck. -/
import Derived.Test.YtchjncoadhigmaaGreatDoorHv
import Derived.Test.YtchjncoadhigmaaGreatDoorYh
namespace Go.Proofs.YtchjncoadhigmaaGreatDoor
set_option linter.unusedSimpArgs false
set_option linter.unusedVariables false
set_option linter.unnecessarySimpa false
open Go.RowKit
theorem fit_fields {t : Ty} (h : fit t) : t.fields.length ≤ 4194304 ∧ ∀ x ∈ t.fields, fit x := by
  cases t
  exact ⟨(fit_mk h).2.1, (fit_mk h).2.2.2⟩
/-- What Struct answers. -/
def stT (fs : List Ty) : Ty × Int := if chk (.mk 0 5 0 0 [] fs) = 0 then (.mk 0 5 0 0 [] fs, 0) else (tz, chk (.mk 0 5 0 0 [] fs))
theorem st_fit {fs : List Ty} (hl : fs.length ≤ 4194304) (hf : ∀ x ∈ fs, fit x) : fit (.mk 0 5 0 0 [] fs) := fit_mkc ⟨⟨by decide, by decide⟩, ⟨by decide, by decide⟩, ⟨by decide, by decide⟩, ⟨by decide, by decide⟩⟩ (by simp) hl (by simp) hf
theorem stT_fit {fs : List Ty} (hl : fs.length ≤ 4194304) (hf : ∀ x ∈ fs, fit x) : fit (stT fs).1 := by
  unfold stT
  split
  · exact st_fit hl hf
  · exact tz_fit
theorem bself (p : Bool) : (p == p) = true := by cases p <;> rfl
theorem dself (n : Int) : decide (n = n) = true := decide_eq_true rfl
theorem Y18_Yp : type_of% (And.intro @F_ag_25 (And.intro @F_al_25 (And.intro @F_st_25 (@F_sz_25)))) := And.intro @F_ag_25 (And.intro @F_al_25 (And.intro @F_st_25 (@F_sz_25)))
theorem c_Struct (fs : List Ty) (hl : fs.length ≤ 4194304) (hf : ∀ x ∈ fs, fit x) : PC Tryz.prog 18 [.sl (fs.map fdV) .ro] (.tu [tyV (stT fs).1, (.im (.int .i64 ((stT fs).2)))]) := by
  have hfit := st_fit hl hf
  have hc := c_check _ hfit
  have ho := c_own _ hfit
  unfold stT
  obtain ⟨t, ht⟩ : ∃ t, t = Ty.mk 0 5 0 0 [] fs := ⟨_, rfl⟩
  have ho : PC Tryz.prog 39 [.ag [(.im (.int .i64 (5))), (.im (.int .i64 (0))), (.im (.int .i64 (0))), .sl [] .ro, .sl (fs.map fdV) .ro]] (tyV t) := by
    rw [ht]
    simpa only [tyV_mk, List.map_nil] using ho
  rw [← ht] at hc ⊢
  refine PC.enter 16 Tryz.func18 rfl (by decide) rfl rfl (s := [(0, .sl (fs.map fdV) .ro)]) (by rfl) ?_
  by_cases g : chk t = 0
  · rw [if_pos g]
    rw [tyV_eq t]
    refine wG Y18_Yp True.intro ?_
    refine AR.callW ho True.intro (And.intro (@tyV_id) (And.intro (@fdV_id) (And.intro (@tyL_id) @fdL_id))) ?_
    refine goG Y18_Yp (And.intro (@tyV_firm) (And.intro (@fdV_firm) (And.intro (@tyV_strip) (And.intro (@fdV_strip) (And.intro (@tyV_live) (And.intro (@tyV_size) (And.intro (@tyV_isAg) (And.intro (@tyV_cells) (And.intro (@fdV_live) (And.intro (@fdV_size) (And.intro (@fdV_isAg) (And.intro (@fdV_cells) (And.intro (@List.getElem?_map.{0, 0}) @Int.natCast_nonneg))))))))))))) ?_
    refine wG Y18_Yp (And.intro (@tyV_firm) (And.intro (@fdV_firm) (And.intro (@tyV_strip) (And.intro (@fdV_strip) (And.intro (@tyV_live) (And.intro (@tyV_size) (And.intro (@tyV_isAg) (And.intro (@tyV_cells) (And.intro (@fdV_live) (And.intro (@fdV_size) (And.intro (@fdV_isAg) (And.intro (@fdV_cells) (And.intro (@List.getElem?_map.{0, 0}) @Int.natCast_nonneg))))))))))))) ?_
    refine AR.callP hc @tyV_eq (And.intro (@tyV_id) (And.intro (@fdV_id) (And.intro (@tyL_id) @fdL_id))) ?_
    refine goG Y18_Yp (And.intro (@tyV_firm) (And.intro (@fdV_firm) (And.intro (@tyV_strip) (And.intro (@fdV_strip) (And.intro (@tyV_live) (And.intro (@tyV_size) (And.intro (@tyV_isAg) (And.intro (@tyV_cells) (And.intro (@fdV_live) (And.intro (@fdV_size) (And.intro (@fdV_isAg) (And.intro (@fdV_cells) (And.intro (@List.getElem?_map.{0, 0}) @Int.natCast_nonneg))))))))))))) ?_
    refine wG Y18_Yp (And.intro g (And.intro (@tyV_firm) (And.intro (@fdV_firm) (And.intro (@tyV_strip) (And.intro (@fdV_strip) (And.intro (@tyV_live) (And.intro (@tyV_size) (And.intro (@tyV_isAg) (And.intro (@tyV_cells) (And.intro (@fdV_live) (And.intro (@fdV_size) (And.intro (@fdV_isAg) (And.intro (@fdV_cells) (And.intro (@List.getElem?_map.{0, 0}) @Int.natCast_nonneg)))))))))))))) ?_
    refine Fin.gen0 (rs := [.cell 2 25, .tmp 3]) rfl (by first | exact .inl rfl | exact .inr rfl) (finG Y18_Yp) ?_
    skip
    all_goals exact wkG (And.intro (@tyV_id) (And.intro (@fdV_id) (And.intro (@tyL_id) @fdL_id)))
  · rw [if_neg g]
    rw [tyV_eq tz]
    refine wG Y18_Yp True.intro ?_
    refine AR.callW ho True.intro (And.intro (@tyV_id) (And.intro (@fdV_id) (And.intro (@tyL_id) @fdL_id))) ?_
    refine goG Y18_Yp (And.intro (@tyV_firm) (And.intro (@fdV_firm) (And.intro (@tyV_strip) (And.intro (@fdV_strip) (And.intro (@tyV_live) (And.intro (@tyV_size) (And.intro (@tyV_isAg) (And.intro (@tyV_cells) (And.intro (@fdV_live) (And.intro (@fdV_size) (And.intro (@fdV_isAg) (And.intro (@fdV_cells) (And.intro (@List.getElem?_map.{0, 0}) @Int.natCast_nonneg))))))))))))) ?_
    refine wG Y18_Yp (And.intro (@tyV_firm) (And.intro (@fdV_firm) (And.intro (@tyV_strip) (And.intro (@fdV_strip) (And.intro (@tyV_live) (And.intro (@tyV_size) (And.intro (@tyV_isAg) (And.intro (@tyV_cells) (And.intro (@fdV_live) (And.intro (@fdV_size) (And.intro (@fdV_isAg) (And.intro (@fdV_cells) (And.intro (@List.getElem?_map.{0, 0}) @Int.natCast_nonneg))))))))))))) ?_
    refine AR.callP hc @tyV_eq (And.intro (@tyV_id) (And.intro (@fdV_id) (And.intro (@tyL_id) @fdL_id))) ?_
    refine goG Y18_Yp (And.intro (@tyV_firm) (And.intro (@fdV_firm) (And.intro (@tyV_strip) (And.intro (@fdV_strip) (And.intro (@tyV_live) (And.intro (@tyV_size) (And.intro (@tyV_isAg) (And.intro (@tyV_cells) (And.intro (@fdV_live) (And.intro (@fdV_size) (And.intro (@fdV_isAg) (And.intro (@fdV_cells) (And.intro (@List.getElem?_map.{0, 0}) @Int.natCast_nonneg))))))))))))) ?_
    refine wG Y18_Yp (And.intro g (And.intro (@tyV_firm) (And.intro (@fdV_firm) (And.intro (@tyV_strip) (And.intro (@fdV_strip) (And.intro (@tyV_live) (And.intro (@tyV_size) (And.intro (@tyV_isAg) (And.intro (@tyV_cells) (And.intro (@fdV_live) (And.intro (@fdV_size) (And.intro (@fdV_isAg) (And.intro (@fdV_cells) (And.intro (@List.getElem?_map.{0, 0}) @Int.natCast_nonneg)))))))))))))) ?_
    refine Fin.gen0 (rs := [.cell 2 25, .tmp 3]) rfl (by first | exact .inl rfl | exact .inr rfl) (finG Y18_Yp) ?_
    skip
    all_goals exact wkG (And.intro (@tyV_id) (And.intro (@fdV_id) (And.intro (@tyL_id) @fdL_id)))
theorem Y19_Yp : type_of% (And.intro @F_ag_25 (And.intro @F_al_25 (And.intro @F_st_25 (@F_sz_25)))) := And.intro @F_ag_25 (And.intro @F_al_25 (And.intro @F_st_25 (@F_sz_25)))
theorem c_StructR (fs : List Ty) (hl : fs.length ≤ 4194304) (hf : ∀ x ∈ fs, fit x) : PC Tryz.prog 19 [.sl (fs.map fdV) .ro] (.tu [tyV (stT fs).1, (.im (.int .i64 ((stT fs).2)))]) := by
  have hfit := st_fit hl hf
  have hc := c_checkR _ hfit
  unfold stT
  obtain ⟨t, ht⟩ : ∃ t, t = Ty.mk 0 5 0 0 [] fs := ⟨_, rfl⟩
  rw [← ht] at hc ⊢
  have hct := tyV_mk 0 5 0 0 [] fs
  rw [← ht] at hct
  simp only [List.map_nil] at hct
  refine PC.enter 15 Tryz.func19 rfl (by decide) rfl rfl (s := [(0, .sl (fs.map fdV) .ro)]) (by rfl) ?_
  by_cases g : chk t = 0
  · rw [if_pos g]
    rw [hct] at hc ⊢
    refine wG Y19_Yp True.intro ?_
    refine AR.callW hc True.intro (And.intro (@tyV_id) (And.intro (@fdV_id) (And.intro (@tyL_id) @fdL_id))) ?_
    refine goG Y19_Yp (And.intro (@tyV_firm) (And.intro (@fdV_firm) (And.intro (@tyV_strip) (And.intro (@fdV_strip) (And.intro (@tyV_live) (And.intro (@tyV_size) (And.intro (@tyV_isAg) (And.intro (@tyV_cells) (And.intro (@fdV_live) (And.intro (@fdV_size) (And.intro (@fdV_isAg) (And.intro (@fdV_cells) (And.intro (@List.getElem?_map.{0, 0}) @Int.natCast_nonneg))))))))))))) ?_
    refine wG Y19_Yp (And.intro g (And.intro (@tyV_firm) (And.intro (@fdV_firm) (And.intro (@tyV_strip) (And.intro (@fdV_strip) (And.intro (@tyV_live) (And.intro (@tyV_size) (And.intro (@tyV_isAg) (And.intro (@tyV_cells) (And.intro (@fdV_live) (And.intro (@fdV_size) (And.intro (@fdV_isAg) (And.intro (@fdV_cells) (And.intro (@List.getElem?_map.{0, 0}) @Int.natCast_nonneg)))))))))))))) ?_
    refine Fin.gen0 (rs := [.cell 2 25, .tmp 3]) rfl (by first | exact .inl rfl | exact .inr rfl) (finG Y19_Yp) ?_
    skip
    all_goals exact wkG (And.intro (@tyV_id) (And.intro (@fdV_id) (And.intro (@tyL_id) @fdL_id)))
  · rw [if_neg g]
    rw [hct] at hc
    rw [tyV_eq tz]
    refine wG Y19_Yp True.intro ?_
    refine AR.callW hc True.intro (And.intro (@tyV_id) (And.intro (@fdV_id) (And.intro (@tyL_id) @fdL_id))) ?_
    refine goG Y19_Yp (And.intro (@tyV_firm) (And.intro (@fdV_firm) (And.intro (@tyV_strip) (And.intro (@fdV_strip) (And.intro (@tyV_live) (And.intro (@tyV_size) (And.intro (@tyV_isAg) (And.intro (@tyV_cells) (And.intro (@fdV_live) (And.intro (@fdV_size) (And.intro (@fdV_isAg) (And.intro (@fdV_cells) (And.intro (@List.getElem?_map.{0, 0}) @Int.natCast_nonneg))))))))))))) ?_
    refine wG Y19_Yp (And.intro g (And.intro (@tyV_firm) (And.intro (@fdV_firm) (And.intro (@tyV_strip) (And.intro (@fdV_strip) (And.intro (@tyV_live) (And.intro (@tyV_size) (And.intro (@tyV_isAg) (And.intro (@tyV_cells) (And.intro (@fdV_live) (And.intro (@fdV_size) (And.intro (@fdV_isAg) (And.intro (@fdV_cells) (And.intro (@List.getElem?_map.{0, 0}) @Int.natCast_nonneg)))))))))))))) ?_
    refine Fin.gen0 (rs := [.cell 2 25, .tmp 3]) rfl (by first | exact .inl rfl | exact .inr rfl) (finG Y19_Yp) ?_
    skip
    all_goals exact wkG (And.intro (@tyV_id) (And.intro (@fdV_id) (And.intro (@tyL_id) @fdL_id)))
theorem Y26_Yp : type_of% (And.intro @F_ag_25 (And.intro @F_al_25 (And.intro @F_st_25 (@F_sz_25)))) := And.intro @F_ag_25 (And.intro @F_al_25 (And.intro @F_st_25 (@F_sz_25)))
theorem c_IntR (n : Int) : PC Tryz.prog 26 [(.im (.int .i64 (n)))] (tyV (.mk 0 1 n 0 [] [])) := by
  refine PC.enter 5 Tryz.func26 rfl (by decide) rfl rfl (s := [(0, (.im (.int .i64 (n))))]) (by rfl) ?_
  refine wG Y26_Yp True.intro ?_
  refine Fin.gen0 (rs := [.cell 2 25]) rfl (by first | exact .inl rfl | exact .inr rfl) (finG Y26_Yp) ?_
  simp only [tyV_mk, List.map_nil]
  all_goals exact wkG (And.intro (@tyV_id) (And.intro (@fdV_id) (And.intro (@tyL_id) @fdL_id)))
theorem Y28_Yp : type_of% (And.intro @F_ag_25 (And.intro @F_al_25 (And.intro @F_st_25 (@F_sz_25)))) := And.intro @F_ag_25 (And.intro @F_al_25 (And.intro @F_st_25 (@F_sz_25)))
theorem c_UintR (n : Int) : PC Tryz.prog 28 [(.im (.int .i64 (n)))] (tyV (.mk 0 2 n 0 [] [])) := by
  refine PC.enter 5 Tryz.func28 rfl (by decide) rfl rfl (s := [(0, (.im (.int .i64 (n))))]) (by rfl) ?_
  refine wG Y28_Yp True.intro ?_
  refine Fin.gen0 (rs := [.cell 2 25]) rfl (by first | exact .inl rfl | exact .inr rfl) (finG Y28_Yp) ?_
  simp only [tyV_mk, List.map_nil]
  all_goals exact wkG (And.intro (@tyV_id) (And.intro (@fdV_id) (And.intro (@tyL_id) @fdL_id)))
theorem Y23_Yp : type_of% (And.intro @F_ag_25 (@F_sz_25)) := And.intro @F_ag_25 (@F_sz_25)
theorem c_SizeOfR (a : Ty) (ha : fit a) : PC Tryz.prog 23 [tyV a] (.im (.int .i64 (if good a then siz a else 0))) := by
  have h1 := c_checkR a ha
  refine PC.enter 8 Tryz.func23 rfl (by decide) rfl rfl (s := [(0, tyV a)]) (by rfl) ?_
  rw [tyV_eq a]
  by_cases g : chk a = 0
  · have hg : good a = true := by unfold good; simp [g]
    have h2 := c_sizeR a ha (good_frm hg)
    rw [if_pos hg]
    refine wG Y23_Yp True.intro ?_
    refine AR.callP h1 @tyV_eq (And.intro (@tyV_id) (And.intro (@fdV_id) (And.intro (@tyL_id) @fdL_id))) ?_
    refine goG Y23_Yp g ?_
    refine wG Y23_Yp True.intro ?_
    refine AR.callP h2 @tyV_eq (And.intro (@tyV_id) (And.intro (@fdV_id) (And.intro (@tyL_id) @fdL_id))) ?_
    refine goG Y23_Yp True.intro ?_
    refine wG Y23_Yp True.intro ?_
    exact Fin.oneP
  · have hg : ¬ good a = true := by unfold good; simp [g]
    rw [if_neg hg]
    refine wG Y23_Yp True.intro ?_
    refine AR.callP h1 @tyV_eq (And.intro (@tyV_id) (And.intro (@fdV_id) (And.intro (@tyL_id) @fdL_id))) ?_
    refine goG Y23_Yp g ?_
    refine wG Y23_Yp True.intro ?_
    exact Fin.oneP
theorem Y5_Yp : type_of% (And.intro @F_ag_23 (And.intro @F_ag_25 (And.intro @F_al_25 (And.intro @F_fl_25_4 (And.intro @F_sz_23 (And.intro @F_sz_25 (@F_un_4))))))) := And.intro @F_ag_23 (And.intro @F_ag_25 (And.intro @F_al_25 (And.intro @F_fl_25_4 (And.intro @F_sz_23 (And.intro @F_sz_25 (@F_un_4))))))
set_option maxHeartbeats 8000000 in
theorem c_check31 (hX : PC Tryz.prog 7 [] (.im (.bool (true)))) (t u : Ty) (n : Int) (ht : fit t) (hu : fit u) (hn : I64 n) : PC Tryz.prog 5 [tyV t, tyV u, (.im (.int .i64 (n)))] (.im (.bool (true))) := by
  have st := c_small31 t ht 70 (by decide) (by decide)
  have su := c_small31 u hu 70 (by decide) (by decide)
  have hfl := fit_fields ht
  have a1 := c_Struct t.fields hfl.1 hfl.2
  have a2 := c_StructR t.fields hfl.1 hfl.2
  have fst := stT_fit hfl.1 hfl.2
  have a3 := c_check t ht
  have a4 := c_checkR t ht
  have a5 := c_SizeOf t ht
  have a6 := c_SizeOfR t ht
  have a7 := c_Same t ht u hu
  have a8 := c_SameR t ht u hu
  have a9 := c_Same t ht t ht
  rw [samT_refl] at a9
  have b1 := c_SameR _ fst _ fst
  rw [samT_refl] at b1
  have b2 := c_Int n
  have b3 := c_IntR n
  have b4 := c_Uint n
  have b5 := c_UintR n
  have b6 := c_Ptr t ht
  have b7 := c_PtrR t
  have b8 := c_Array t ht n
  have b9 := c_ArrayR t n
  have z0 : I64 0 := ⟨by decide, by decide⟩
  have f1 : fit (.mk 0 1 n 0 [] []) := fit_mkc ⟨z0, ⟨by decide, by decide⟩, hn, z0⟩ (by simp) (by simp) (by simp) (by simp)
  have f2 : fit (.mk 0 2 n 0 [] []) := fit_mkc ⟨z0, ⟨by decide, by decide⟩, hn, z0⟩ (by simp) (by simp) (by simp) (by simp)
  have f3 : fit (.mk 0 3 0 0 [t] []) := fit_mkc ⟨z0, ⟨by decide, by decide⟩, z0, z0⟩ (by simp) (by simp) (by simpa using ht) (by simp)
  have f4 : fit (.mk 0 4 0 n [t] []) := fit_mkc ⟨z0, ⟨by decide, by decide⟩, z0, hn⟩ (by simp) (by simp) (by simpa using ht) (by simp)
  have g1 := c_SameR _ f1 _ f1
  rw [samT_refl] at g1
  have g2 := c_SameR _ f2 _ f2
  rw [samT_refl] at g2
  have g3 := c_SameR _ f3 _ f3
  rw [samT_refl] at g3
  have g4 := c_SameR _ f4 _ f4
  rw [samT_refl] at g4
  generalize Ty.mk 0 1 n 0 [] [] = x1 at b2 b3 g1
  generalize Ty.mk 0 2 n 0 [] [] = x2 at b4 b5 g2
  generalize Ty.mk 0 3 0 0 [t] [] = x3 at b6 b7 g3
  generalize Ty.mk 0 4 0 n [t] [] = x4 at b8 b9 g4
  generalize hst : (stT t.fields).1 = xs at a1 a2 b1
  generalize (stT t.fields).2 = es at a1 a2
  generalize (if good t then siz t else 0) = zt at a5 a6
  generalize chk t = ck at a3 a4
  generalize samT t u = p at a7 a8
  have d1 := dself ck
  have d2 := dself zt
  have d3 := bself p
  have d4 := dself es
  refine PC.enter 101 Tryz.func5 rfl (by decide) rfl rfl (s := [(0, tyV t), (1, tyV u), (2, (.im (.int .i64 (n))))]) (by rfl) ?_
  simp only [List.append]
  rw [tyV_eq t, tyV_eq u]
  refine wG Y5_Yp True.intro ?_
  refine AR.callP st @tyV_eq (And.intro (@tyV_id) (And.intro (@fdV_id) (And.intro (@tyL_id) @fdL_id))) ?_
  cases qt : smallT t 70
  case' false =>
    refine goG Y5_Yp qt ?_
    refine wG Y5_Yp True.intro ?_
    refine AR.callP hX True.intro (And.intro (@tyV_id) (And.intro (@fdV_id) (And.intro (@tyL_id) @fdL_id))) ?_
    refine goG Y5_Yp True.intro ?_
    refine wG Y5_Yp True.intro ?_
    exact Fin.oneP
  refine goG Y5_Yp qt ?_
  refine AR.callP su @tyV_eq (And.intro (@tyV_id) (And.intro (@fdV_id) (And.intro (@tyL_id) @fdL_id))) ?_
  cases qu : smallT u 70
  case' false =>
    refine goG Y5_Yp qu ?_
    refine wG Y5_Yp True.intro ?_
    refine AR.callP hX True.intro (And.intro (@tyV_id) (And.intro (@fdV_id) (And.intro (@tyL_id) @fdL_id))) ?_
    refine goG Y5_Yp True.intro ?_
    refine wG Y5_Yp True.intro ?_
    exact Fin.oneP
  refine goG Y5_Yp qu ?_
  refine wG Y5_Yp True.intro ?_
  refine AR.callP a1 True.intro (And.intro (@tyV_id) (And.intro (@fdV_id) (And.intro (@tyL_id) @fdL_id))) ?_
  refine goG Y5_Yp (And.intro (@tyV_firm) (And.intro (@fdV_firm) (And.intro (@tyV_strip) (And.intro (@fdV_strip) (And.intro (@tyV_live) (And.intro (@tyV_size) (And.intro (@tyV_isAg) (And.intro (@tyV_cells) (And.intro (@fdV_live) (And.intro (@fdV_size) (And.intro (@fdV_isAg) (And.intro (@fdV_cells) (And.intro (@List.getElem?_map.{0, 0}) @Int.natCast_nonneg))))))))))))) ?_
  refine wG Y5_Yp True.intro ?_
  refine AR.callP a2 True.intro (And.intro (@tyV_id) (And.intro (@fdV_id) (And.intro (@tyL_id) @fdL_id))) ?_
  refine goG Y5_Yp (And.intro (@tyV_firm) (And.intro (@fdV_firm) (And.intro (@tyV_strip) (And.intro (@fdV_strip) (And.intro (@tyV_live) (And.intro (@tyV_size) (And.intro (@tyV_isAg) (And.intro (@tyV_cells) (And.intro (@fdV_live) (And.intro (@fdV_size) (And.intro (@fdV_isAg) (And.intro (@fdV_cells) (And.intro (@List.getElem?_map.{0, 0}) @Int.natCast_nonneg))))))))))))) ?_
  refine wdG Y5_Yp True.intro ?_
  refine AR.callP a3 @tyV_eq (And.intro (@tyV_id) (And.intro (@fdV_id) (And.intro (@tyL_id) @fdL_id))) ?_
  refine goG Y5_Yp True.intro ?_
  refine AR.callP a4 @tyV_eq (And.intro (@tyV_id) (And.intro (@fdV_id) (And.intro (@tyL_id) @fdL_id))) ?_
  refine goG Y5_Yp d1 ?_
  refine AR.callP a5 @tyV_eq (And.intro (@tyV_id) (And.intro (@fdV_id) (And.intro (@tyL_id) @fdL_id))) ?_
  refine goG Y5_Yp True.intro ?_
  refine AR.callP a6 @tyV_eq (And.intro (@tyV_id) (And.intro (@fdV_id) (And.intro (@tyL_id) @fdL_id))) ?_
  refine goG Y5_Yp d2 ?_
  refine AR.callP a7 @tyV_eq (And.intro (@tyV_id) (And.intro (@fdV_id) (And.intro (@tyL_id) @fdL_id))) ?_
  refine goG Y5_Yp True.intro ?_
  refine AR.callP a8 @tyV_eq (And.intro (@tyV_id) (And.intro (@fdV_id) (And.intro (@tyL_id) @fdL_id))) ?_
  refine goG Y5_Yp d3 ?_
  refine AR.callP a9 @tyV_eq (And.intro (@tyV_id) (And.intro (@fdV_id) (And.intro (@tyL_id) @fdL_id))) ?_
  refine goG Y5_Yp (And.intro (@tyV_firm) (And.intro (@fdV_firm) (And.intro (@tyV_strip) (And.intro (@fdV_strip) (And.intro (@tyV_live) (And.intro (@tyV_size) (And.intro (@tyV_isAg) (And.intro (@tyV_cells) (And.intro (@fdV_live) (And.intro (@fdV_size) (And.intro (@fdV_isAg) (And.intro (@fdV_cells) (And.intro (@List.getElem?_map.{0, 0}) @Int.natCast_nonneg))))))))))))) ?_
  refine AR.callP b1 @tyV_eq (And.intro (@tyV_id) (And.intro (@fdV_id) (And.intro (@tyL_id) @fdL_id))) ?_
  refine goG Y5_Yp (And.intro d4 (And.intro (@tyV_firm) (And.intro (@fdV_firm) (And.intro (@tyV_strip) (And.intro (@fdV_strip) (And.intro (@tyV_live) (And.intro (@tyV_size) (And.intro (@tyV_isAg) (And.intro (@tyV_cells) (And.intro (@fdV_live) (And.intro (@fdV_size) (And.intro (@fdV_isAg) (And.intro (@fdV_cells) (And.intro (@List.getElem?_map.{0, 0}) @Int.natCast_nonneg)))))))))))))) ?_
  refine AR.callP b2 @tyV_eq (And.intro (@tyV_id) (And.intro (@fdV_id) (And.intro (@tyL_id) @fdL_id))) ?_
  refine goG Y5_Yp True.intro ?_
  refine AR.callP b3 @tyV_eq (And.intro (@tyV_id) (And.intro (@fdV_id) (And.intro (@tyL_id) @fdL_id))) ?_
  refine goG Y5_Yp True.intro ?_
  refine AR.callP g1 @tyV_eq (And.intro (@tyV_id) (And.intro (@fdV_id) (And.intro (@tyL_id) @fdL_id))) ?_
  refine goG Y5_Yp True.intro ?_
  refine AR.callP b4 @tyV_eq (And.intro (@tyV_id) (And.intro (@fdV_id) (And.intro (@tyL_id) @fdL_id))) ?_
  refine goG Y5_Yp True.intro ?_
  refine AR.callP b5 @tyV_eq (And.intro (@tyV_id) (And.intro (@fdV_id) (And.intro (@tyL_id) @fdL_id))) ?_
  refine goG Y5_Yp True.intro ?_
  refine AR.callP g2 @tyV_eq (And.intro (@tyV_id) (And.intro (@fdV_id) (And.intro (@tyL_id) @fdL_id))) ?_
  refine goG Y5_Yp True.intro ?_
  refine AR.callP b6 @tyV_eq (And.intro (@tyV_id) (And.intro (@fdV_id) (And.intro (@tyL_id) @fdL_id))) ?_
  refine goG Y5_Yp True.intro ?_
  refine AR.callP b7 @tyV_eq (And.intro (@tyV_id) (And.intro (@fdV_id) (And.intro (@tyL_id) @fdL_id))) ?_
  refine goG Y5_Yp True.intro ?_
  refine AR.callP g3 @tyV_eq (And.intro (@tyV_id) (And.intro (@fdV_id) (And.intro (@tyL_id) @fdL_id))) ?_
  refine goG Y5_Yp True.intro ?_
  refine AR.callP b8 @tyV_eq (And.intro (@tyV_id) (And.intro (@fdV_id) (And.intro (@tyL_id) @fdL_id))) ?_
  refine goG Y5_Yp True.intro ?_
  refine AR.callP b9 @tyV_eq (And.intro (@tyV_id) (And.intro (@fdV_id) (And.intro (@tyL_id) @fdL_id))) ?_
  refine goG Y5_Yp True.intro ?_
  refine AR.callP g4 @tyV_eq (And.intro (@tyV_id) (And.intro (@fdV_id) (And.intro (@tyL_id) @fdL_id))) ?_
  refine goG Y5_Yp True.intro ?_
  refine AR.callP hX @tyV_eq (And.intro (@tyV_id) (And.intro (@fdV_id) (And.intro (@tyL_id) @fdL_id))) ?_
  refine goG Y5_Yp True.intro ?_
  refine wdG Y5_Yp True.intro ?_
  exact Fin.oneP
end Go.Proofs.YtchjncoadhigmaaGreatDoor

