/- Walks: join and meet of the program, if merge is as told. -/
import Derived.Test.YtchjncoadhigmaaGreatDoorHv
import Derived.Test.YtchjncoadhigmaaGreatDoorY5
import Derived.Test.YtchjncoadhigmaaGreatDoorYf
namespace Go.Proofs.YtchjncoadhigmaaGreatDoor
set_option linter.unusedSimpArgs false
set_option linter.unusedVariables false
set_option linter.unnecessarySimpa false
open Go.RowKit
theorem Y40_Y6 : type_of% (And.intro @F_ag_22 (And.intro @F_ag_23 (And.intro @F_ag_25 (And.intro @F_ag_3 (And.intro @F_al_25 (And.intro @F_el_22 (And.intro @F_fl_25_0 (And.intro @F_fl_25_1 (And.intro @F_fl_25_2 (And.intro @F_fl_25_3 (And.intro @F_fl_25_4 (And.intro @F_st_25 (And.intro @F_sz_22 (And.intro @F_sz_23 (And.intro @F_sz_25 (@F_sz_3)))))))))))))))) := And.intro @F_ag_22 (And.intro @F_ag_23 (And.intro @F_ag_25 (And.intro @F_ag_3 (And.intro @F_al_25 (And.intro @F_el_22 (And.intro @F_fl_25_0 (And.intro @F_fl_25_1 (And.intro @F_fl_25_2 (And.intro @F_fl_25_3 (And.intro @F_fl_25_4 (And.intro @F_st_25 (And.intro @F_sz_22 (And.intro @F_sz_23 (And.intro @F_sz_25 (@F_sz_3)))))))))))))))
set_option maxHeartbeats 1000000 in
theorem c_join (hM : MergeC) : ∀ (a : Ty), fit a → frm a = true → ∀ (b : Ty), fit b → frm b = true → PC Tryz.prog 40 [tyV a, tyV b] (tyV (joinT a b)) := by
  refine Ty.induct fun oa ka sa ca ea fa hE hF => ?_
  intro hfita hfrma b hfit hfrm
  obtain ⟨o, k, s, c, es, fs⟩ := b
  obtain ⟨hl1, hl2, hfE, hfF⟩ := fit_mk hfit
  obtain ⟨hb, hof, hfs, hes⟩ := frm_inv hfrm
  obtain ⟨ha1, ha2, haE, haF⟩ := fit_mk hfita
  obtain ⟨hba, haof, hafs, haes⟩ := frm_inv hfrma
  rw [joinT_mk]
  show PC _ _ _ (tyV (if ka = 0 then .mk 0 k s c es fs else if k = 0 then .mk 0 ka sa ca ea fa else if ka ≠ k ∨ ka = 6 ∨ sa ≠ s then topT else if ka = 3 then .mk 0 3 0 0 (hdJ joinT ea es) [] else if ka = 4 then .mk 0 4 0 (min ca c) (hdJ joinT ea es) [] else if ka = 5 then .mk 0 5 0 0 [] (bothF joinT fa fs) else .mk 0 ka sa ca ea fa))
  refine PC.enter 76 Tryz.func40 rfl (by decide) rfl rfl (s := [(0, tyV (.mk oa ka sa ca ea fa)), (1, tyV (.mk o k s c es fs))]) (by rfl) ?_
  by_cases h6 : ka = 0
  · rw [if_pos h6]
    simp only [tyV_mk]
    refine wG Y40_Y6 h6 ?_
    refine Fin.gen0 (rs := [.cell 4 25]) rfl (by first | exact .inl rfl | exact .inr rfl) (finG Y40_Y6) ?_
    skip
    all_goals exact wkG (And.intro (@tyV_id) (And.intro (@fdV_id) (And.intro (@tyL_id) @fdL_id)))
  rw [if_neg h6]
  by_cases hk6 : k = 0
  · rw [if_pos hk6]
    simp only [tyV_mk]
    refine wG Y40_Y6 (And.intro h6 hk6) ?_
    refine Fin.gen0 (rs := [.cell 4 25]) rfl (by first | exact .inl rfl | exact .inr rfl) (finG Y40_Y6) ?_
    skip
    all_goals exact wkG (And.intro (@tyV_id) (And.intro (@fdV_id) (And.intro (@tyL_id) @fdL_id)))
  rw [if_neg hk6]
  by_cases hne : ka ≠ k ∨ ka = 6 ∨ sa ≠ s
  · rw [if_pos hne]
    simp only [topT, tyV_mk, List.map_nil]
    refine wG Y40_Y6 (And.intro h6 hk6) ?_
    refine AWp.condAB rfl rfl (fun hT => ?_) (fun hT => ?_)
    · refine wG Y40_Y6 True.intro ?_
      refine Fin.gen0 (rs := [.cell 4 25]) rfl (by first | exact .inl rfl | exact .inr rfl) (finG Y40_Y6) ?_
      skip
      all_goals exact wkG (And.intro (@tyV_id) (And.intro (@fdV_id) (And.intro (@tyL_id) @fdL_id)))
    · exfalso
      simp at hT
      omega
  rw [if_neg hne]
  have hke : ka = k := by omega
  have hse : sa = s := by omega
  have h66 : ¬ ka = 6 := by omega
  subst hke hse
  clear hne
  rcases base_cases hba with h | h | h | h | h
  · omega
  · obtain ⟨h1, h2, rfl, h4, h5⟩ := h
    obtain rfl := List.length_eq_zero_iff.1 h4
    obtain rfl := List.length_eq_zero_iff.1 h5
    have k3 : ¬ ka = 3 := by omega
    have k4 : ¬ ka = 4 := by omega
    have k5 : ¬ ka = 5 := by omega
    rw [if_neg k3, if_neg k4, if_neg k5]
    simp only [tyV_mk, List.map_nil]
    refine wG Y40_Y6 (And.intro h6 (And.intro hk6 (And.intro h66 (And.intro k3 (And.intro k4 k5))))) ?_
    refine Fin.gen0 (rs := [.cell 4 25]) rfl (by first | exact .inl rfl | exact .inr rfl) (finG Y40_Y6) ?_
    skip
    all_goals exact wkG (And.intro (@tyV_id) (And.intro (@fdV_id) (And.intro (@tyL_id) @fdL_id)))
  · obtain ⟨rfl, rfl, rfl, h4, h5⟩ := h
    obtain ⟨x, rfl⟩ := List.length_eq_one_iff.1 h4
    obtain rfl := List.length_eq_zero_iff.1 h5
    have h4a : es.length = 1 := by rcases base_cases hb with q | q | q | q | q <;> omega
    obtain ⟨y, rfl⟩ := List.length_eq_one_iff.1 h4a
    rw [if_pos rfl]
    have hc := hE x (by simp) (haE x (by simp)) (haes x (by simp)) y (hfE y (by simp)) (hes y (by simp))
    have hp := c_Ptr (joinT x y) (joinT_fit (haes x (by simp)) (haE x (by simp)) (hes y (by simp)) (hfE y (by simp)))
    simp only [hdJ]
    simp only [tyV_mk, List.map_nil, List.map_cons]
    rw [tyV_mk] at hp
    simp only [List.map_nil, List.map_cons] at hp
    refine wdG Y40_Y6 (And.intro (@tyV_firm) (And.intro (@fdV_firm) (And.intro (@tyV_strip) (And.intro (@fdV_strip) (And.intro (@tyV_live) (And.intro (@tyV_size) (And.intro (@tyV_isAg) (And.intro (@tyV_cells) (And.intro (@fdV_live) (And.intro (@fdV_size) (And.intro (@fdV_isAg) (And.intro (@fdV_cells) (And.intro (@List.getElem?_map.{0, 0}) (And.intro (@Int.natCast_nonneg) (And.intro h6 hk6))))))))))))))) ?_
    refine AR.callP hc @tyV_eq (And.intro (@tyV_id) (And.intro (@fdV_id) (And.intro (@tyL_id) @fdL_id))) ?_
    refine goG Y40_Y6 (And.intro (@tyV_firm) (And.intro (@fdV_firm) (And.intro (@tyV_strip) (And.intro (@fdV_strip) (And.intro (@tyV_live) (And.intro (@tyV_size) (And.intro (@tyV_isAg) (And.intro (@tyV_cells) (And.intro (@fdV_live) (And.intro (@fdV_size) (And.intro (@fdV_isAg) (And.intro (@fdV_cells) (And.intro (@List.getElem?_map.{0, 0}) @Int.natCast_nonneg))))))))))))) ?_
    refine AR.callP hp @tyV_eq (And.intro (@tyV_id) (And.intro (@fdV_id) (And.intro (@tyL_id) @fdL_id))) ?_
    refine goG Y40_Y6 (And.intro (@tyV_firm) (And.intro (@fdV_firm) (And.intro (@tyV_strip) (And.intro (@fdV_strip) (And.intro (@tyV_live) (And.intro (@tyV_size) (And.intro (@tyV_isAg) (And.intro (@tyV_cells) (And.intro (@fdV_live) (And.intro (@fdV_size) (And.intro (@fdV_isAg) (And.intro (@fdV_cells) (And.intro (@List.getElem?_map.{0, 0}) @Int.natCast_nonneg))))))))))))) ?_
    refine wdG Y40_Y6 (And.intro (@tyV_firm) (And.intro (@fdV_firm) (And.intro (@tyV_strip) (And.intro (@fdV_strip) (And.intro (@tyV_live) (And.intro (@tyV_size) (And.intro (@tyV_isAg) (And.intro (@tyV_cells) (And.intro (@fdV_live) (And.intro (@fdV_size) (And.intro (@fdV_isAg) (And.intro (@fdV_cells) (And.intro (@List.getElem?_map.{0, 0}) @Int.natCast_nonneg))))))))))))) ?_
    refine Fin.gen0 (rs := [.cell 4 25]) rfl (by first | exact .inl rfl | exact .inr rfl) (finG Y40_Y6) ?_
    skip
    all_goals exact wkG (And.intro (@tyV_id) (And.intro (@fdV_id) (And.intro (@tyL_id) @fdL_id)))
  · obtain ⟨rfl, rfl, h2, h3, h4, h5⟩ := h
    obtain ⟨x, rfl⟩ := List.length_eq_one_iff.1 h4
    obtain rfl := List.length_eq_zero_iff.1 h5
    have h4a : es.length = 1 := by rcases base_cases hb with q | q | q | q | q <;> omega
    obtain ⟨y, rfl⟩ := List.length_eq_one_iff.1 h4a
    rw [if_neg (by decide), if_pos rfl]
    have hc := hE x (by simp) (haE x (by simp)) (haes x (by simp)) y (hfE y (by simp)) (hes y (by simp))
    have hm : min ca c = if c < ca then c else ca := by split <;> omega
    rw [hm]
    have hp := c_Array (joinT x y) (joinT_fit (haes x (by simp)) (haE x (by simp)) (hes y (by simp)) (hfE y (by simp))) (if c < ca then c else ca)
    simp only [hdJ]
    simp only [tyV_mk, List.map_nil, List.map_cons]
    rw [tyV_mk] at hp
    simp only [List.map_nil, List.map_cons] at hp
    refine wdG Y40_Y6 (And.intro (@tyV_firm) (And.intro (@fdV_firm) (And.intro (@tyV_strip) (And.intro (@fdV_strip) (And.intro (@tyV_live) (And.intro (@tyV_size) (And.intro (@tyV_isAg) (And.intro (@tyV_cells) (And.intro (@fdV_live) (And.intro (@fdV_size) (And.intro (@fdV_isAg) (And.intro (@fdV_cells) (And.intro (@List.getElem?_map.{0, 0}) (And.intro (@Int.natCast_nonneg) (And.intro h6 hk6))))))))))))))) ?_
    refine AR.callP hc @tyV_eq (And.intro (@tyV_id) (And.intro (@fdV_id) (And.intro (@tyL_id) @fdL_id))) ?_
    refine goG Y40_Y6 (And.intro (@tyV_firm) (And.intro (@fdV_firm) (And.intro (@tyV_strip) (And.intro (@fdV_strip) (And.intro (@tyV_live) (And.intro (@tyV_size) (And.intro (@tyV_isAg) (And.intro (@tyV_cells) (And.intro (@fdV_live) (And.intro (@fdV_size) (And.intro (@fdV_isAg) (And.intro (@fdV_cells) (And.intro (@List.getElem?_map.{0, 0}) @Int.natCast_nonneg))))))))))))) ?_
    refine AR.callP hp @tyV_eq (And.intro (@tyV_id) (And.intro (@fdV_id) (And.intro (@tyL_id) @fdL_id))) ?_
    refine goG Y40_Y6 (And.intro (@tyV_firm) (And.intro (@fdV_firm) (And.intro (@tyV_strip) (And.intro (@fdV_strip) (And.intro (@tyV_live) (And.intro (@tyV_size) (And.intro (@tyV_isAg) (And.intro (@tyV_cells) (And.intro (@fdV_live) (And.intro (@fdV_size) (And.intro (@fdV_isAg) (And.intro (@fdV_cells) (And.intro (@List.getElem?_map.{0, 0}) @Int.natCast_nonneg))))))))))))) ?_
    refine wdG Y40_Y6 (And.intro (@tyV_firm) (And.intro (@fdV_firm) (And.intro (@tyV_strip) (And.intro (@fdV_strip) (And.intro (@tyV_live) (And.intro (@tyV_size) (And.intro (@tyV_isAg) (And.intro (@tyV_cells) (And.intro (@fdV_live) (And.intro (@fdV_size) (And.intro (@fdV_isAg) (And.intro (@fdV_cells) (And.intro (@List.getElem?_map.{0, 0}) @Int.natCast_nonneg))))))))))))) ?_
    refine Fin.gen0 (rs := [.cell 4 25]) rfl (by first | exact .inl rfl | exact .inr rfl) (finG Y40_Y6) ?_
    skip
    all_goals exact wkG (And.intro (@tyV_id) (And.intro (@fdV_id) (And.intro (@tyL_id) @fdL_id)))
  · obtain ⟨rfl, rfl, rfl, h4⟩ := h
    obtain rfl := List.length_eq_zero_iff.1 h4
    rw [if_neg (by decide), if_neg (by decide), if_pos rfl]
    have hu := hM false joinT 67 fa fs ha2 hl2 (fun x _ => c_join0 x) fun x hx y hy => c_join1 x y (hF x hx (haF x hx) (hafs x hx) y (hfF y hy) (hfs y hy))
    rw [mrgP_false joinT fa fs (asc_iff.1 haof) (asc_iff.1 hof)] at hu
    simp only [tyV_mk, List.map_nil, List.map_cons]
    refine wdG Y40_Y6 (And.intro (@tyV_firm) (And.intro (@fdV_firm) (And.intro (@tyV_strip) (And.intro (@fdV_strip) (And.intro (@tyV_live) (And.intro (@tyV_size) (And.intro (@tyV_isAg) (And.intro (@tyV_cells) (And.intro (@fdV_live) (And.intro (@fdV_size) (And.intro (@fdV_isAg) (And.intro (@fdV_cells) (And.intro (@List.getElem?_map.{0, 0}) (And.intro (@Int.natCast_nonneg) (And.intro h6 hk6))))))))))))))) ?_
    refine AR.callP hu True.intro (And.intro (@tyV_id) (And.intro (@fdV_id) (And.intro (@tyL_id) @fdL_id))) ?_
    refine goG Y40_Y6 (And.intro (@tyV_firm) (And.intro (@fdV_firm) (And.intro (@tyV_strip) (And.intro (@fdV_strip) (And.intro (@tyV_live) (And.intro (@tyV_size) (And.intro (@tyV_isAg) (And.intro (@tyV_cells) (And.intro (@fdV_live) (And.intro (@fdV_size) (And.intro (@fdV_isAg) (And.intro (@fdV_cells) (And.intro (@List.getElem?_map.{0, 0}) @Int.natCast_nonneg))))))))))))) ?_
    refine wdG Y40_Y6 (And.intro (@tyV_firm) (And.intro (@fdV_firm) (And.intro (@tyV_strip) (And.intro (@fdV_strip) (And.intro (@tyV_live) (And.intro (@tyV_size) (And.intro (@tyV_isAg) (And.intro (@tyV_cells) (And.intro (@fdV_live) (And.intro (@fdV_size) (And.intro (@fdV_isAg) (And.intro (@fdV_cells) (And.intro (@List.getElem?_map.{0, 0}) @Int.natCast_nonneg))))))))))))) ?_
    refine Fin.gen0 (rs := [.cell 4 25]) rfl (by first | exact .inl rfl | exact .inr rfl) (finG Y40_Y6) ?_
    skip
    all_goals exact wkG (And.intro (@tyV_id) (And.intro (@fdV_id) (And.intro (@tyL_id) @fdL_id)))
theorem Y42_Y6 : type_of% (And.intro @F_ag_22 (And.intro @F_ag_23 (And.intro @F_ag_25 (And.intro @F_ag_3 (And.intro @F_al_25 (And.intro @F_el_22 (And.intro @F_fl_25_0 (And.intro @F_fl_25_1 (And.intro @F_fl_25_2 (And.intro @F_fl_25_3 (And.intro @F_fl_25_4 (And.intro @F_st_25 (And.intro @F_sz_22 (And.intro @F_sz_23 (And.intro @F_sz_25 (@F_sz_3)))))))))))))))) := And.intro @F_ag_22 (And.intro @F_ag_23 (And.intro @F_ag_25 (And.intro @F_ag_3 (And.intro @F_al_25 (And.intro @F_el_22 (And.intro @F_fl_25_0 (And.intro @F_fl_25_1 (And.intro @F_fl_25_2 (And.intro @F_fl_25_3 (And.intro @F_fl_25_4 (And.intro @F_st_25 (And.intro @F_sz_22 (And.intro @F_sz_23 (And.intro @F_sz_25 (@F_sz_3)))))))))))))))
set_option maxHeartbeats 1000000 in
theorem c_meet (hM : MergeC) : ∀ (a : Ty), fit a → frm a = true → wit a = true → ∀ (b : Ty), fit b → frm b = true → wit b = true → PC Tryz.prog 42 [tyV a, tyV b] (tyV (meetT a b)) := by
  refine Ty.induct fun oa ka sa ca ea fa hE hF => ?_
  intro hfita hfrma hwa b hfit hfrm hwb
  obtain ⟨o, k, s, c, es, fs⟩ := b
  obtain ⟨hl1, hl2, hfE, hfF⟩ := fit_mk hfit
  obtain ⟨hb, hof, hfs, hes⟩ := frm_inv hfrm
  obtain ⟨ha1, ha2, haE, haF⟩ := fit_mk hfita
  obtain ⟨hba, haof, hafs, haes⟩ := frm_inv hfrma
  rw [wit_mk] at hwa hwb
  simp only [Bool.and_eq_true, List.all_eq_true] at hwa hwb
  obtain ⟨⟨_, hwF⟩, hwE⟩ := hwa
  obtain ⟨⟨_, hwF'⟩, hwE'⟩ := hwb
  rw [meetT_mk]
  show PC _ _ _ (tyV (if ka = 6 then .mk 0 k s c es fs else if k = 6 then .mk 0 ka sa ca ea fa else if ka ≠ k ∨ sa ≠ s then tz else if ka = 3 then .mk 0 3 0 0 (hdJ meetT ea es) [] else if ka = 4 then .mk 0 4 0 (max ca c) (hdJ meetT ea es) [] else if ka = 5 then .mk 0 5 0 0 [] (mrgF meetT fa fs) else .mk 0 ka sa ca ea fa))
  refine PC.enter 69 Tryz.func42 rfl (by decide) rfl rfl (s := [(0, tyV (.mk oa ka sa ca ea fa)), (1, tyV (.mk o k s c es fs))]) (by rfl) ?_
  by_cases h6 : ka = 6
  · rw [if_pos h6]
    simp only [tyV_mk]
    refine wG Y42_Y6 h6 ?_
    refine Fin.gen0 (rs := [.cell 4 25]) rfl (by first | exact .inl rfl | exact .inr rfl) (finG Y42_Y6) ?_
    skip
    all_goals exact wkG (And.intro (@tyV_id) (And.intro (@fdV_id) (And.intro (@tyL_id) @fdL_id)))
  rw [if_neg h6]
  by_cases hk6 : k = 6
  · rw [if_pos hk6]
    simp only [tyV_mk]
    refine wG Y42_Y6 (And.intro h6 hk6) ?_
    refine Fin.gen0 (rs := [.cell 4 25]) rfl (by first | exact .inl rfl | exact .inr rfl) (finG Y42_Y6) ?_
    skip
    all_goals exact wkG (And.intro (@tyV_id) (And.intro (@fdV_id) (And.intro (@tyL_id) @fdL_id)))
  rw [if_neg hk6]
  by_cases hne : ka ≠ k ∨ sa ≠ s
  · rw [if_pos hne]
    simp only [tz, tyV_mk, List.map_nil]
    refine wG Y42_Y6 (And.intro h6 hk6) ?_
    refine AWp.condAB rfl rfl (fun hT => ?_) (fun hT => ?_)
    · refine wG Y42_Y6 True.intro ?_
      refine Fin.gen0 (rs := [.cell 4 25]) rfl (by first | exact .inl rfl | exact .inr rfl) (finG Y42_Y6) ?_
      skip
      all_goals exact wkG (And.intro (@tyV_id) (And.intro (@fdV_id) (And.intro (@tyL_id) @fdL_id)))
    · exfalso
      simp at hT
      omega
  rw [if_neg hne]
  have hke : ka = k := by omega
  have hse : sa = s := by omega
  subst hke hse
  clear hne
  have flat : ¬ ka = 3 → ¬ ka = 4 → ¬ ka = 5 → True := fun _ _ _ => trivial
  rcases base_cases hba with h | h | h | h | h
  · obtain ⟨h1, rfl, rfl, h4, h5⟩ := h
    obtain rfl := List.length_eq_zero_iff.1 h4
    obtain rfl := List.length_eq_zero_iff.1 h5
    have k0 : ka = 0 := by omega
    subst k0
    rw [if_neg (by decide), if_neg (by decide), if_neg (by decide)]
    simp only [tyV_mk, List.map_nil]
    refine wG Y42_Y6 (And.intro h6 hk6) ?_
    refine Fin.gen0 (rs := [.cell 4 25]) rfl (by first | exact .inl rfl | exact .inr rfl) (finG Y42_Y6) ?_
    skip
    all_goals exact wkG (And.intro (@tyV_id) (And.intro (@fdV_id) (And.intro (@tyL_id) @fdL_id)))
  · obtain ⟨h1, h2, rfl, h4, h5⟩ := h
    obtain rfl := List.length_eq_zero_iff.1 h4
    obtain rfl := List.length_eq_zero_iff.1 h5
    have k3 : ¬ ka = 3 := by omega
    have k4 : ¬ ka = 4 := by omega
    have k5 : ¬ ka = 5 := by omega
    rw [if_neg k3, if_neg k4, if_neg k5]
    simp only [tyV_mk, List.map_nil]
    refine wG Y42_Y6 (And.intro h6 (And.intro hk6 (And.intro k3 (And.intro k4 k5)))) ?_
    refine Fin.gen0 (rs := [.cell 4 25]) rfl (by first | exact .inl rfl | exact .inr rfl) (finG Y42_Y6) ?_
    skip
    all_goals exact wkG (And.intro (@tyV_id) (And.intro (@fdV_id) (And.intro (@tyL_id) @fdL_id)))
  · obtain ⟨rfl, rfl, rfl, h4, h5⟩ := h
    obtain ⟨x, rfl⟩ := List.length_eq_one_iff.1 h4
    obtain rfl := List.length_eq_zero_iff.1 h5
    have h4a : es.length = 1 := by rcases base_cases hb with q | q | q | q | q <;> omega
    obtain ⟨y, rfl⟩ := List.length_eq_one_iff.1 h4a
    rw [if_pos rfl]
    have hc := hE x (by simp) (haE x (by simp)) (haes x (by simp)) (hwE x (by simp)) y (hfE y (by simp)) (hes y (by simp)) (hwE' y (by simp))
    have hp := c_Ptr (meetT x y) (meetT_fit (haes x (by simp)) (haE x (by simp)) (hwE x (by simp)) (hes y (by simp)) (hfE y (by simp)) (hwE' y (by simp)))
    simp only [hdJ]
    simp only [tyV_mk, List.map_nil, List.map_cons]
    rw [tyV_mk] at hp
    simp only [List.map_nil, List.map_cons] at hp
    refine wdG Y42_Y6 (And.intro (@tyV_firm) (And.intro (@fdV_firm) (And.intro (@tyV_strip) (And.intro (@fdV_strip) (And.intro (@tyV_live) (And.intro (@tyV_size) (And.intro (@tyV_isAg) (And.intro (@tyV_cells) (And.intro (@fdV_live) (And.intro (@fdV_size) (And.intro (@fdV_isAg) (And.intro (@fdV_cells) (And.intro (@List.getElem?_map.{0, 0}) (And.intro (@Int.natCast_nonneg) (And.intro h6 hk6))))))))))))))) ?_
    refine AR.callP hc @tyV_eq (And.intro (@tyV_id) (And.intro (@fdV_id) (And.intro (@tyL_id) @fdL_id))) ?_
    refine goG Y42_Y6 (And.intro (@tyV_firm) (And.intro (@fdV_firm) (And.intro (@tyV_strip) (And.intro (@fdV_strip) (And.intro (@tyV_live) (And.intro (@tyV_size) (And.intro (@tyV_isAg) (And.intro (@tyV_cells) (And.intro (@fdV_live) (And.intro (@fdV_size) (And.intro (@fdV_isAg) (And.intro (@fdV_cells) (And.intro (@List.getElem?_map.{0, 0}) @Int.natCast_nonneg))))))))))))) ?_
    refine AR.callP hp @tyV_eq (And.intro (@tyV_id) (And.intro (@fdV_id) (And.intro (@tyL_id) @fdL_id))) ?_
    refine goG Y42_Y6 (And.intro (@tyV_firm) (And.intro (@fdV_firm) (And.intro (@tyV_strip) (And.intro (@fdV_strip) (And.intro (@tyV_live) (And.intro (@tyV_size) (And.intro (@tyV_isAg) (And.intro (@tyV_cells) (And.intro (@fdV_live) (And.intro (@fdV_size) (And.intro (@fdV_isAg) (And.intro (@fdV_cells) (And.intro (@List.getElem?_map.{0, 0}) @Int.natCast_nonneg))))))))))))) ?_
    refine wdG Y42_Y6 (And.intro (@tyV_firm) (And.intro (@fdV_firm) (And.intro (@tyV_strip) (And.intro (@fdV_strip) (And.intro (@tyV_live) (And.intro (@tyV_size) (And.intro (@tyV_isAg) (And.intro (@tyV_cells) (And.intro (@fdV_live) (And.intro (@fdV_size) (And.intro (@fdV_isAg) (And.intro (@fdV_cells) (And.intro (@List.getElem?_map.{0, 0}) @Int.natCast_nonneg))))))))))))) ?_
    refine Fin.gen0 (rs := [.cell 4 25]) rfl (by first | exact .inl rfl | exact .inr rfl) (finG Y42_Y6) ?_
    skip
    all_goals exact wkG (And.intro (@tyV_id) (And.intro (@fdV_id) (And.intro (@tyL_id) @fdL_id)))
  · obtain ⟨rfl, rfl, h2, h3, h4, h5⟩ := h
    obtain ⟨x, rfl⟩ := List.length_eq_one_iff.1 h4
    obtain rfl := List.length_eq_zero_iff.1 h5
    have h4a : es.length = 1 := by rcases base_cases hb with q | q | q | q | q <;> omega
    obtain ⟨y, rfl⟩ := List.length_eq_one_iff.1 h4a
    rw [if_neg (by decide), if_pos rfl]
    have hc := hE x (by simp) (haE x (by simp)) (haes x (by simp)) (hwE x (by simp)) y (hfE y (by simp)) (hes y (by simp)) (hwE' y (by simp))
    have hm : max ca c = if c > ca then c else ca := by split <;> omega
    rw [hm]
    have hp := c_Array (meetT x y) (meetT_fit (haes x (by simp)) (haE x (by simp)) (hwE x (by simp)) (hes y (by simp)) (hfE y (by simp)) (hwE' y (by simp))) (if c > ca then c else ca)
    simp only [hdJ]
    simp only [tyV_mk, List.map_nil, List.map_cons]
    rw [tyV_mk] at hp
    simp only [List.map_nil, List.map_cons] at hp
    refine wdG Y42_Y6 (And.intro (@tyV_firm) (And.intro (@fdV_firm) (And.intro (@tyV_strip) (And.intro (@fdV_strip) (And.intro (@tyV_live) (And.intro (@tyV_size) (And.intro (@tyV_isAg) (And.intro (@tyV_cells) (And.intro (@fdV_live) (And.intro (@fdV_size) (And.intro (@fdV_isAg) (And.intro (@fdV_cells) (And.intro (@List.getElem?_map.{0, 0}) (And.intro (@Int.natCast_nonneg) (And.intro h6 hk6))))))))))))))) ?_
    refine AR.callP hc @tyV_eq (And.intro (@tyV_id) (And.intro (@fdV_id) (And.intro (@tyL_id) @fdL_id))) ?_
    refine goG Y42_Y6 (And.intro (@tyV_firm) (And.intro (@fdV_firm) (And.intro (@tyV_strip) (And.intro (@fdV_strip) (And.intro (@tyV_live) (And.intro (@tyV_size) (And.intro (@tyV_isAg) (And.intro (@tyV_cells) (And.intro (@fdV_live) (And.intro (@fdV_size) (And.intro (@fdV_isAg) (And.intro (@fdV_cells) (And.intro (@List.getElem?_map.{0, 0}) @Int.natCast_nonneg))))))))))))) ?_
    refine AR.callP hp @tyV_eq (And.intro (@tyV_id) (And.intro (@fdV_id) (And.intro (@tyL_id) @fdL_id))) ?_
    refine goG Y42_Y6 (And.intro (@tyV_firm) (And.intro (@fdV_firm) (And.intro (@tyV_strip) (And.intro (@fdV_strip) (And.intro (@tyV_live) (And.intro (@tyV_size) (And.intro (@tyV_isAg) (And.intro (@tyV_cells) (And.intro (@fdV_live) (And.intro (@fdV_size) (And.intro (@fdV_isAg) (And.intro (@fdV_cells) (And.intro (@List.getElem?_map.{0, 0}) @Int.natCast_nonneg))))))))))))) ?_
    refine wdG Y42_Y6 (And.intro (@tyV_firm) (And.intro (@fdV_firm) (And.intro (@tyV_strip) (And.intro (@fdV_strip) (And.intro (@tyV_live) (And.intro (@tyV_size) (And.intro (@tyV_isAg) (And.intro (@tyV_cells) (And.intro (@fdV_live) (And.intro (@fdV_size) (And.intro (@fdV_isAg) (And.intro (@fdV_cells) (And.intro (@List.getElem?_map.{0, 0}) @Int.natCast_nonneg))))))))))))) ?_
    refine Fin.gen0 (rs := [.cell 4 25]) rfl (by first | exact .inl rfl | exact .inr rfl) (finG Y42_Y6) ?_
    skip
    all_goals exact wkG (And.intro (@tyV_id) (And.intro (@fdV_id) (And.intro (@tyL_id) @fdL_id)))
  · obtain ⟨rfl, rfl, rfl, h4⟩ := h
    obtain rfl := List.length_eq_zero_iff.1 h4
    rw [if_neg (by decide), if_neg (by decide), if_pos rfl]
    have hu := hM true meetT 68 fa fs ha2 hl2 (fun x _ => c_meet0 x) fun x hx y hy => c_meet1 x y (hF x hx (haF x hx) (hafs x hx) (hwF x hx) y (hfF y hy) (hfs y hy) (hwF' y hy))
    rw [mrgP_true meetT fa fs] at hu
    simp only [tyV_mk, List.map_nil, List.map_cons]
    refine wdG Y42_Y6 (And.intro (@tyV_firm) (And.intro (@fdV_firm) (And.intro (@tyV_strip) (And.intro (@fdV_strip) (And.intro (@tyV_live) (And.intro (@tyV_size) (And.intro (@tyV_isAg) (And.intro (@tyV_cells) (And.intro (@fdV_live) (And.intro (@fdV_size) (And.intro (@fdV_isAg) (And.intro (@fdV_cells) (And.intro (@List.getElem?_map.{0, 0}) (And.intro (@Int.natCast_nonneg) (And.intro h6 hk6))))))))))))))) ?_
    refine AR.callP hu True.intro (And.intro (@tyV_id) (And.intro (@fdV_id) (And.intro (@tyL_id) @fdL_id))) ?_
    refine goG Y42_Y6 (And.intro (@tyV_firm) (And.intro (@fdV_firm) (And.intro (@tyV_strip) (And.intro (@fdV_strip) (And.intro (@tyV_live) (And.intro (@tyV_size) (And.intro (@tyV_isAg) (And.intro (@tyV_cells) (And.intro (@fdV_live) (And.intro (@fdV_size) (And.intro (@fdV_isAg) (And.intro (@fdV_cells) (And.intro (@List.getElem?_map.{0, 0}) @Int.natCast_nonneg))))))))))))) ?_
    refine wdG Y42_Y6 (And.intro (@tyV_firm) (And.intro (@fdV_firm) (And.intro (@tyV_strip) (And.intro (@fdV_strip) (And.intro (@tyV_live) (And.intro (@tyV_size) (And.intro (@tyV_isAg) (And.intro (@tyV_cells) (And.intro (@fdV_live) (And.intro (@fdV_size) (And.intro (@fdV_isAg) (And.intro (@fdV_cells) (And.intro (@List.getElem?_map.{0, 0}) @Int.natCast_nonneg))))))))))))) ?_
    refine Fin.gen0 (rs := [.cell 4 25]) rfl (by first | exact .inl rfl | exact .inr rfl) (finG Y42_Y6) ?_
    skip
    all_goals exact wkG (And.intro (@tyV_id) (And.intro (@fdV_id) (And.intro (@tyL_id) @fdL_id)))
end Go.Proofs.YtchjncoadhigmaaGreatDoor

