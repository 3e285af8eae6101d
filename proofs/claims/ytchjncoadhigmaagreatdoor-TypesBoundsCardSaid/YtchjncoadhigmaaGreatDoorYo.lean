/- Walks: Join and Meet of the reference; the law TypesBounds. -/
import Derived.Test.YtchjncoadhigmaaGreatDoorHv
import Derived.Test.YtchjncoadhigmaaGreatDoorYh
import Derived.Test.YtchjncoadhigmaaGreatDoorY4
namespace Go.Proofs.YtchjncoadhigmaaGreatDoor
set_option linter.unusedSimpArgs false
set_option linter.unusedVariables false
set_option linter.unnecessarySimpa false
open Go.RowKit
theorem findI_find (l : List Ty) (o : Int) : (findI l o = -1 ∧ l.find? (fun y => y.off == o) = none) ∨ ∃ k, ∃ hk : k < l.length, findI l o = (k : Int) ∧ l.find? (fun y => y.off == o) = some l[k] := by
  unfold findI
  cases h : l.findIdx? (fun f => f.off == o) with
  | none =>
    rw [List.findIdx?_eq_none_iff] at h
    refine .inl ⟨rfl, ?_⟩
    rw [List.find?_eq_none]
    intro x hx
    rw [h x hx]
    decide
  | some k =>
    rw [List.findIdx?_eq_some_iff_getElem] at h
    obtain ⟨hk, hp, hq⟩ := h
    refine .inr ⟨k, hk, rfl, ?_⟩
    rw [List.find?_eq_some_iff_getElem]
    exact ⟨hp, k, hk, rfl, fun j hj => by have := hq j hj; simpa using this⟩
theorem Y41_Yo : type_of% (And.intro @F_ag_22 (And.intro @F_ag_23 (And.intro @F_ag_25 (And.intro @F_ag_3 (And.intro @F_al_25 (And.intro @F_al_47 (And.intro @F_by_47 (And.intro @F_el_22 (And.intro @F_el_23 (And.intro @F_fl_25_0 (And.intro @F_fl_25_1 (And.intro @F_fl_25_2 (And.intro @F_fl_25_3 (And.intro @F_fl_25_4 (And.intro @F_fl_47_0 (And.intro @F_fl_47_1 (And.intro @F_st_25 (And.intro @F_st_47 (And.intro @F_sz_22 (And.intro @F_sz_23 (And.intro @F_sz_25 (And.intro @F_sz_3 (@F_sz_47))))))))))))))))))))))) := And.intro @F_ag_22 (And.intro @F_ag_23 (And.intro @F_ag_25 (And.intro @F_ag_3 (And.intro @F_al_25 (And.intro @F_al_47 (And.intro @F_by_47 (And.intro @F_el_22 (And.intro @F_el_23 (And.intro @F_fl_25_0 (And.intro @F_fl_25_1 (And.intro @F_fl_25_2 (And.intro @F_fl_25_3 (And.intro @F_fl_25_4 (And.intro @F_fl_47_0 (And.intro @F_fl_47_1 (And.intro @F_st_25 (And.intro @F_st_47 (And.intro @F_sz_22 (And.intro @F_sz_23 (And.intro @F_sz_25 (And.intro @F_sz_3 (@F_sz_47))))))))))))))))))))))
set_option maxHeartbeats 4000000 in
theorem c_joined : ∀ (a : Ty), fit a → frm a = true → ∀ (b : Ty), fit b → frm b = true → PC Tryz.prog 41 [tyV a, tyV b] (tyV (joinT a b)) := by
  refine Ty.induct fun oa ka sa ca ea fa hE hF => ?_
  intro hfita hfrma b hfit hfrm
  obtain ⟨o, k, s, c, es, fs⟩ := b
  obtain ⟨hl1, hl2, hfE, hfF⟩ := fit_mk hfit
  obtain ⟨hb, hof, hfs, hes⟩ := frm_inv hfrm
  obtain ⟨ha1, ha2, haE, haF⟩ := fit_mk hfita
  obtain ⟨hba, haof, hafs, haes⟩ := frm_inv hfrma
  rw [joinT_mk]
  show PC _ _ _ (tyV (if ka = 0 then .mk 0 k s c es fs else if k = 0 then .mk 0 ka sa ca ea fa else if ka ≠ k ∨ ka = 6 ∨ sa ≠ s then topT else if ka = 3 then .mk 0 3 0 0 (hdJ joinT ea es) [] else if ka = 4 then .mk 0 4 0 (min ca c) (hdJ joinT ea es) [] else if ka = 5 then .mk 0 5 0 0 [] (bothF joinT fa fs) else .mk 0 ka sa ca ea fa))
  refine PC.enter 113 Tryz.func41 rfl (by decide) rfl rfl (s := [(0, tyV (.mk oa ka sa ca ea fa)), (1, tyV (.mk o k s c es fs))]) (by rfl) ?_
  by_cases h6 : ka = 0
  · rw [if_pos h6]
    simp only [tyV_mk]
    refine wG Y41_Yo h6 ?_
    refine Fin.gen0 (rs := [.cell 4 25]) rfl (by first | exact .inl rfl | exact .inr rfl) (finG Y41_Yo) ?_
    skip
    all_goals exact wkG (And.intro (@tyV_id) (And.intro (@fdV_id) (And.intro (@tyL_id) @fdL_id)))
  rw [if_neg h6]
  by_cases hk6 : k = 0
  · rw [if_pos hk6]
    simp only [tyV_mk]
    refine wG Y41_Yo (And.intro h6 hk6) ?_
    refine Fin.gen0 (rs := [.cell 4 25]) rfl (by first | exact .inl rfl | exact .inr rfl) (finG Y41_Yo) ?_
    skip
    all_goals exact wkG (And.intro (@tyV_id) (And.intro (@fdV_id) (And.intro (@tyL_id) @fdL_id)))
  rw [if_neg hk6]
  by_cases hne : ka ≠ k ∨ ka = 6 ∨ sa ≠ s
  · rw [if_pos hne]
    simp only [topT, tyV_mk, List.map_nil]
    refine wG Y41_Yo (And.intro h6 hk6) ?_
    refine AWp.condAB rfl rfl (fun hT => ?_) (fun hT => ?_)
    · refine wG Y41_Yo True.intro ?_
      refine Fin.gen0 (rs := [.cell 4 25]) rfl (by first | exact .inl rfl | exact .inr rfl) (finG Y41_Yo) ?_
      skip
      all_goals exact wkG (And.intro (@tyV_id) (And.intro (@fdV_id) (And.intro (@tyL_id) @fdL_id)))
    · exfalso
      simp at hT
      omega
  rw [if_neg hne]
  have hke : ka = k := by omega
  have hse : sa = s := by omega
  have h66 : ¬ ka = 6 := by omega
  subst hke hse
  clear hne
  rcases base_cases hba with h | h | h | h | h
  · omega
  · obtain ⟨h1, h2, rfl, h4, h5⟩ := h
    obtain rfl := List.length_eq_zero_iff.1 h4
    obtain rfl := List.length_eq_zero_iff.1 h5
    have k3 : ¬ ka = 3 := by omega
    have k4 : ¬ ka = 4 := by omega
    have k5 : ¬ ka = 5 := by omega
    rw [if_neg k3, if_neg k4, if_neg k5]
    simp only [tyV_mk, List.map_nil]
    refine wG Y41_Yo (And.intro h6 (And.intro hk6 (And.intro h66 (And.intro k3 (And.intro k4 k5))))) ?_
    refine Fin.gen0 (rs := [.cell 4 25]) rfl (by first | exact .inl rfl | exact .inr rfl) (finG Y41_Yo) ?_
    skip
    all_goals exact wkG (And.intro (@tyV_id) (And.intro (@fdV_id) (And.intro (@tyL_id) @fdL_id)))
  · obtain ⟨rfl, rfl, rfl, h4, h5⟩ := h
    obtain ⟨x, rfl⟩ := List.length_eq_one_iff.1 h4
    obtain rfl := List.length_eq_zero_iff.1 h5
    have h4a : es.length = 1 := by rcases base_cases hb with q | q | q | q | q <;> omega
    obtain ⟨y, rfl⟩ := List.length_eq_one_iff.1 h4a
    rw [if_pos rfl]
    have hc := hE x (by simp) (haE x (by simp)) (haes x (by simp)) y (hfE y (by simp)) (hes y (by simp))
    have hp := c_PtrR (joinT x y)
    simp only [hdJ]
    simp only [tyV_mk, List.map_nil, List.map_cons]
    rw [tyV_mk] at hp
    simp only [List.map_nil, List.map_cons] at hp
    refine wdG Y41_Yo (And.intro (@tyV_firm) (And.intro (@fdV_firm) (And.intro (@tyV_strip) (And.intro (@fdV_strip) (And.intro (@tyV_live) (And.intro (@tyV_size) (And.intro (@tyV_isAg) (And.intro (@tyV_cells) (And.intro (@fdV_live) (And.intro (@fdV_size) (And.intro (@fdV_isAg) (And.intro (@fdV_cells) (And.intro (@List.getElem?_map.{0, 0}) (And.intro (@Int.natCast_nonneg) (And.intro h6 hk6))))))))))))))) ?_
    refine AR.callP hc @tyV_eq (And.intro (@tyV_id) (And.intro (@fdV_id) (And.intro (@tyL_id) @fdL_id))) ?_
    refine goG Y41_Yo (And.intro (@tyV_firm) (And.intro (@fdV_firm) (And.intro (@tyV_strip) (And.intro (@fdV_strip) (And.intro (@tyV_live) (And.intro (@tyV_size) (And.intro (@tyV_isAg) (And.intro (@tyV_cells) (And.intro (@fdV_live) (And.intro (@fdV_size) (And.intro (@fdV_isAg) (And.intro (@fdV_cells) (And.intro (@List.getElem?_map.{0, 0}) @Int.natCast_nonneg))))))))))))) ?_
    refine AR.callP hp @tyV_eq (And.intro (@tyV_id) (And.intro (@fdV_id) (And.intro (@tyL_id) @fdL_id))) ?_
    refine goG Y41_Yo (And.intro (@tyV_firm) (And.intro (@fdV_firm) (And.intro (@tyV_strip) (And.intro (@fdV_strip) (And.intro (@tyV_live) (And.intro (@tyV_size) (And.intro (@tyV_isAg) (And.intro (@tyV_cells) (And.intro (@fdV_live) (And.intro (@fdV_size) (And.intro (@fdV_isAg) (And.intro (@fdV_cells) (And.intro (@List.getElem?_map.{0, 0}) @Int.natCast_nonneg))))))))))))) ?_
    refine wdG Y41_Yo (And.intro (@tyV_firm) (And.intro (@fdV_firm) (And.intro (@tyV_strip) (And.intro (@fdV_strip) (And.intro (@tyV_live) (And.intro (@tyV_size) (And.intro (@tyV_isAg) (And.intro (@tyV_cells) (And.intro (@fdV_live) (And.intro (@fdV_size) (And.intro (@fdV_isAg) (And.intro (@fdV_cells) (And.intro (@List.getElem?_map.{0, 0}) @Int.natCast_nonneg))))))))))))) ?_
    refine Fin.gen0 (rs := [.cell 4 25]) rfl (by first | exact .inl rfl | exact .inr rfl) (finG Y41_Yo) ?_
    skip
    all_goals exact wkG (And.intro (@tyV_id) (And.intro (@fdV_id) (And.intro (@tyL_id) @fdL_id)))
  · obtain ⟨rfl, rfl, h2, h3, h4, h5⟩ := h
    obtain ⟨x, rfl⟩ := List.length_eq_one_iff.1 h4
    obtain rfl := List.length_eq_zero_iff.1 h5
    have h4a : es.length = 1 := by rcases base_cases hb with q | q | q | q | q <;> omega
    obtain ⟨y, rfl⟩ := List.length_eq_one_iff.1 h4a
    rw [if_neg (by decide), if_pos rfl]
    have hc := hE x (by simp) (haE x (by simp)) (haes x (by simp)) y (hfE y (by simp)) (hes y (by simp))
    have hm : min ca c = if c < ca then c else ca := by split <;> omega
    rw [hm]
    have hp := c_ArrayR (joinT x y) (if c < ca then c else ca)
    simp only [hdJ]
    simp only [tyV_mk, List.map_nil, List.map_cons]
    rw [tyV_mk] at hp
    simp only [List.map_nil, List.map_cons] at hp
    refine wdG Y41_Yo (And.intro (@tyV_firm) (And.intro (@fdV_firm) (And.intro (@tyV_strip) (And.intro (@fdV_strip) (And.intro (@tyV_live) (And.intro (@tyV_size) (And.intro (@tyV_isAg) (And.intro (@tyV_cells) (And.intro (@fdV_live) (And.intro (@fdV_size) (And.intro (@fdV_isAg) (And.intro (@fdV_cells) (And.intro (@List.getElem?_map.{0, 0}) (And.intro (@Int.natCast_nonneg) (And.intro h6 hk6))))))))))))))) ?_
    refine AR.callP hc @tyV_eq (And.intro (@tyV_id) (And.intro (@fdV_id) (And.intro (@tyL_id) @fdL_id))) ?_
    refine goG Y41_Yo (And.intro (@tyV_firm) (And.intro (@fdV_firm) (And.intro (@tyV_strip) (And.intro (@fdV_strip) (And.intro (@tyV_live) (And.intro (@tyV_size) (And.intro (@tyV_isAg) (And.intro (@tyV_cells) (And.intro (@fdV_live) (And.intro (@fdV_size) (And.intro (@fdV_isAg) (And.intro (@fdV_cells) (And.intro (@List.getElem?_map.{0, 0}) @Int.natCast_nonneg))))))))))))) ?_
    refine AR.callP hp @tyV_eq (And.intro (@tyV_id) (And.intro (@fdV_id) (And.intro (@tyL_id) @fdL_id))) ?_
    refine goG Y41_Yo (And.intro (@tyV_firm) (And.intro (@fdV_firm) (And.intro (@tyV_strip) (And.intro (@fdV_strip) (And.intro (@tyV_live) (And.intro (@tyV_size) (And.intro (@tyV_isAg) (And.intro (@tyV_cells) (And.intro (@fdV_live) (And.intro (@fdV_size) (And.intro (@fdV_isAg) (And.intro (@fdV_cells) (And.intro (@List.getElem?_map.{0, 0}) @Int.natCast_nonneg))))))))))))) ?_
    refine wdG Y41_Yo (And.intro (@tyV_firm) (And.intro (@fdV_firm) (And.intro (@tyV_strip) (And.intro (@fdV_strip) (And.intro (@tyV_live) (And.intro (@tyV_size) (And.intro (@tyV_isAg) (And.intro (@tyV_cells) (And.intro (@fdV_live) (And.intro (@fdV_size) (And.intro (@fdV_isAg) (And.intro (@fdV_cells) (And.intro (@List.getElem?_map.{0, 0}) @Int.natCast_nonneg))))))))))))) ?_
    refine Fin.gen0 (rs := [.cell 4 25]) rfl (by first | exact .inl rfl | exact .inr rfl) (finG Y41_Yo) ?_
    skip
    all_goals exact wkG (And.intro (@tyV_id) (And.intro (@fdV_id) (And.intro (@tyL_id) @fdL_id)))
  · obtain ⟨rfl, rfl, rfl, h4⟩ := h
    obtain rfl := List.length_eq_zero_iff.1 h4
    rw [if_neg (by decide), if_neg (by decide), if_pos rfl]
    simp only [tyV_mk, List.map_nil, List.map_cons]
    have hfind : ∀ o, PC Tryz.prog 62 [.sl (fs.map fdV) .ro, (.im (.int .i64 (o)))] (.im (.int .i64 (findI fs o))) := fun o => c_find o hl2
    refine wG Y41_Yo (And.intro h6 hk6) ?_
    refine AWp.loop ?_
    refine ALp.ghostO 3 4 [(.im (.int .i64 (5))), (.im (.int .i64 (0))), (.im (.int .i64 (0))), .sl [] .nl, .sl [] .nl] 47 6 ?_
    refine ALp.cutP 5 [(2, .pt 0 0), (3, .pt 1 0), (4, .pt 2 0), (5, .pt 3 0), (6, (.im (.int .i64 (((0 : Nat) : Int)))))] [.box [(.im (.int .i64 (5))), (.im (.int .i64 (0))), (.im (.int .i64 (0))), .sl [] .ro, .sl (fa.map fdV) .ro], .box [(.im (.int .i64 (5))), (.im (.int .i64 (0))), (.im (.int .i64 (c))), .sl (es.map tyV) .ro, .sl (fs.map fdV) .ro], .box [(.im (.int .i64 (0))), (.im (.int .i64 (0))), (.im (.int .i64 (0))), .sl [] .nl, .sl [] .nl], .box [(.im (.int .i64 (5))), (.im (.int .i64 (0))), (.im (.int .i64 (0))), .sl [] .nl, .sl (([] : List Ty).map fdV) (.own 4)], .tip 47 6 ([] : List Ty).length] (And.intro (@tyV_id) (And.intro (@fdV_id) (And.intro (@tyL_id) @fdL_id))) ?_
    refine ALp.meas (α := Nat × List Ty) (fun p => ⟨dn 113 [(2, .pt 0 0), (3, .pt 1 0), (4, .pt 2 0), (5, .pt 3 0), (6, (.im (.int .i64 ((((p).1 : Nat) : Int)))))], ofl [.box [(.im (.int .i64 (5))), (.im (.int .i64 (0))), (.im (.int .i64 (0))), .sl [] .ro, .sl (fa.map fdV) .ro], .box [(.im (.int .i64 (5))), (.im (.int .i64 (0))), (.im (.int .i64 (c))), .sl (es.map tyV) .ro, .sl (fs.map fdV) .ro], .box [(.im (.int .i64 (0))), (.im (.int .i64 (0))), (.im (.int .i64 (0))), .sl [] .nl, .sl [] .nl], .box [(.im (.int .i64 (5))), (.im (.int .i64 (0))), (.im (.int .i64 (0))), .sl [] .nl, .sl (p.2.map fdV) (.own 4)], .tip 47 6 p.2.length]⟩) (fun p => p.1 ≤ fa.length ∧ p.2.length ≤ p.1 ∧ p.2 = bothF joinT (fa.take p.1) fs) (fun p => fa.length - p.1) ?_ (0, []) ⟨Nat.zero_le _, Nat.le_refl _, rfl⟩
    rintro ⟨m, out⟩ ⟨hm, ho, hI⟩ hnext
    simp only at hm ho hI hnext
    show AWpK _ _ _ _ _ ⟨dn 113 [(2, .pt 0 0), (3, .pt 1 0), (4, .pt 2 0), (5, .pt 3 0), (6, (.im (.int .i64 ((((m : Nat)) : Int)))))], ofl [.box [(.im (.int .i64 (5))), (.im (.int .i64 (0))), (.im (.int .i64 (0))), .sl [] .ro, .sl (fa.map fdV) .ro], .box [(.im (.int .i64 (5))), (.im (.int .i64 (0))), (.im (.int .i64 (c))), .sl (es.map tyV) .ro, .sl (fs.map fdV) .ro], .box [(.im (.int .i64 (0))), (.im (.int .i64 (0))), (.im (.int .i64 (0))), .sl [] .nl, .sl [] .nl], .box [(.im (.int .i64 (5))), (.im (.int .i64 (0))), (.im (.int .i64 (0))), .sl [] .nl, .sl (out.map fdV) (.own 4)], .tip 47 6 out.length]⟩
    by_cases hlt : m < fa.length
    · have hlt' : (m : Int) < (fa.length : Int) := by omega
      have hg := get_some hlt
      have hm1 := wrap_succ hlt (by omega)
      have hf := hfind fa[m].off
      have hstep : bothF joinT (fa.take (m + 1)) fs = out ++ (match fs.find? (fun y => y.off == fa[m].off) with | some y => [(joinT fa[m] y).at_ fa[m].off] | none => []) := by
        rw [List.take_succ_eq_append_getElem hlt, hI]
        unfold bothF
        rw [List.filterMap_append]
        congr 1
        cases hq : fs.find? (fun y => y.off == fa[m].off) with
        | none => simp [hq]
        | some y => simp [hq]
      refine wdG Y41_Yo (And.intro (@tyV_firm) (And.intro (@fdV_firm) (And.intro (@tyV_strip) (And.intro (@fdV_strip) (And.intro (@tyV_live) (And.intro (@tyV_size) (And.intro (@tyV_isAg) (And.intro (@tyV_cells) (And.intro (@fdV_live) (And.intro (@fdV_size) (And.intro (@fdV_isAg) (And.intro (@fdV_cells) (And.intro (@List.getElem?_map.{0, 0}) (And.intro (@Int.natCast_nonneg) (And.intro hlt' (And.intro hg @List.length_map.{0, 0})))))))))))))))) ?_
      rcases findI_find fs fa[m].off with ⟨q1, q2⟩ | ⟨j, hj, q1, q2⟩
      · rw [q1] at hf
        rw [q2] at hstep
        have hn := hnext (m + 1, out) (by simp only; omega) ⟨by simp only; omega, by simp only; omega, by simp only; rw [hstep]; simp⟩
        clear hnext
        have hneg : ¬ (-1 : Int) ≥ 0 := by decide
        refine AR.callP hf True.intro (And.intro (@tyV_id) (And.intro (@fdV_id) (And.intro (@tyL_id) @fdL_id))) ?_
        refine goG Y41_Yo True.intro ?_
        refine wdG Y41_Yo (And.intro hneg hm1) ?_
        refine ALp.cutP 5 [(2, .pt 0 0), (3, .pt 1 0), (4, .pt 2 0), (5, .pt 3 0), (6, (.im (.int .i64 ((((m + 1 : Nat)) : Int)))))] [.box [(.im (.int .i64 (5))), (.im (.int .i64 (0))), (.im (.int .i64 (0))), .sl [] .ro, .sl (fa.map fdV) .ro], .box [(.im (.int .i64 (5))), (.im (.int .i64 (0))), (.im (.int .i64 (c))), .sl (es.map tyV) .ro, .sl (fs.map fdV) .ro], .box [(.im (.int .i64 (0))), (.im (.int .i64 (0))), (.im (.int .i64 (0))), .sl [] .nl, .sl [] .nl], .box [(.im (.int .i64 (5))), (.im (.int .i64 (0))), (.im (.int .i64 (0))), .sl [] .nl, .sl (out.map fdV) (.own 4)], .tip 47 6 out.length] (And.intro (@tyV_id) (And.intro (@fdV_id) (And.intro (@tyL_id) @fdL_id))) ?_
        exact hn
      · rw [q1] at hf
        rw [q2] at hstep
        have hc := hF fa[m] (List.getElem_mem hlt) (haF _ (List.getElem_mem hlt)) (hafs _ (List.getElem_mem hlt)) fs[j] (hfF _ (List.getElem_mem hj)) (hfs _ (List.getElem_mem hj))
        obtain ⟨B, hB⟩ : ∃ B, B = out ++ [(joinT fa[m] fs[j]).at_ fa[m].off] := ⟨_, rfl⟩
        have hAs : out.map fdV ++ [V.ag [.im (.int .i64 fa[m].off), .im (.int .i64 (joinT fa[m] fs[j]).kind), .im (.int .i64 (joinT fa[m] fs[j]).size), .im (.int .i64 (joinT fa[m] fs[j]).count), .sl ((joinT fa[m] fs[j]).elem.map tyV) .ro, .sl ((joinT fa[m] fs[j]).fields.map fdV) .ro]] = B.map fdV := by rw [hB, List.map_append, List.map_singleton, fdV_eq]; rfl
        have hAl : out.length + 1 = B.length := by rw [hB]; simp
        have hbl : B.length * 80 ≤ 140737488355328 := by omega
        have hn := hnext (m + 1, B) (by simp only; omega) ⟨by simp only; omega, by simp only; omega, by simp only; rw [hstep, hB]⟩
        clear hnext
        have hpos : (j : Int) ≥ 0 := by omega
        have hgj := get_some hj
        have hj0 : (0 : Int) ≤ (j : Int) := by omega
        refine AR.callP hf True.intro (And.intro (@tyV_id) (And.intro (@fdV_id) (And.intro (@tyL_id) @fdL_id))) ?_
        refine goG Y41_Yo True.intro ?_
        refine wdG Y41_Yo (And.intro hpos (And.intro hj0 (And.intro (@tyV_firm) (And.intro (@fdV_firm) (And.intro (@tyV_strip) (And.intro (@fdV_strip) (And.intro (@tyV_live) (And.intro (@tyV_size) (And.intro (@tyV_isAg) (And.intro (@tyV_cells) (And.intro (@fdV_live) (And.intro (@fdV_size) (And.intro (@fdV_isAg) (And.intro (@fdV_cells) (And.intro (@List.getElem?_map.{0, 0}) (And.intro (@Int.natCast_nonneg) (And.intro hg hgj))))))))))))))))) ?_
        refine AR.callP hc @tyV_eq (And.intro (@tyV_id) (And.intro (@fdV_id) (And.intro (@tyL_id) @fdL_id))) ?_
        refine goG Y41_Yo (And.intro (@tyV_firm) (And.intro (@fdV_firm) (And.intro (@tyV_strip) (And.intro (@fdV_strip) (And.intro (@tyV_live) (And.intro (@tyV_size) (And.intro (@tyV_isAg) (And.intro (@tyV_cells) (And.intro (@fdV_live) (And.intro (@fdV_size) (And.intro (@fdV_isAg) (And.intro (@fdV_cells) (And.intro (@List.getElem?_map.{0, 0}) (And.intro (@Int.natCast_nonneg) (And.intro hAs (And.intro hAl (And.intro hbl (And.intro allZ_fd @List.length_map.{0, 0})))))))))))))))))) ?_
        refine wdG Y41_Yo hm1 ?_
        refine ALp.cutP 5 [(2, .pt 0 0), (3, .pt 1 0), (4, .pt 2 0), (5, .pt 3 0), (6, (.im (.int .i64 ((((m + 1 : Nat)) : Int)))))] [.box [(.im (.int .i64 (5))), (.im (.int .i64 (0))), (.im (.int .i64 (0))), .sl [] .ro, .sl (fa.map fdV) .ro], .box [(.im (.int .i64 (5))), (.im (.int .i64 (0))), (.im (.int .i64 (c))), .sl (es.map tyV) .ro, .sl (fs.map fdV) .ro], .box [(.im (.int .i64 (0))), (.im (.int .i64 (0))), (.im (.int .i64 (0))), .sl [] .nl, .sl [] .nl], .box [(.im (.int .i64 (5))), (.im (.int .i64 (0))), (.im (.int .i64 (0))), .sl [] .nl, .sl (B.map fdV) (.own 4)], .tip 47 6 B.length] (And.intro (@tyV_id) (And.intro (@fdV_id) (And.intro (@tyL_id) @fdL_id))) ?_
        exact hn
    · obtain rfl : m = fa.length := by omega
      have hlt' : ¬ (fa.length : Int) < (fa.length : Int) := by omega
      clear hnext
      rw [List.take_of_length_le (Nat.le_refl _)] at hI
      rw [← hI]
      refine wG Y41_Yo (And.intro (@tyV_firm) (And.intro (@fdV_firm) (And.intro (@tyV_strip) (And.intro (@fdV_strip) (And.intro (@tyV_live) (And.intro (@tyV_size) (And.intro (@tyV_isAg) (And.intro (@tyV_cells) (And.intro (@fdV_live) (And.intro (@fdV_size) (And.intro (@fdV_isAg) (And.intro (@fdV_cells) (And.intro (@List.getElem?_map.{0, 0}) (And.intro (@Int.natCast_nonneg) (And.intro hlt' @List.length_map.{0, 0}))))))))))))))) ?_
      refine Fin.gen0 (rs := [.cell 4 25]) rfl (by first | exact .inl rfl | exact .inr rfl) (finG Y41_Yo) ?_
      skip
      all_goals exact wkG (And.intro (@tyV_id) (And.intro (@fdV_id) (And.intro (@tyL_id) @fdL_id)))
theorem gd_pos {a : Ty} (h : chk a = 0) : good a = true := by unfold good; simp [h]
theorem gd_neg {a : Ty} (h : ¬ chk a = 0) : good a = false := by unfold good; simp [h]
theorem bselfB (p : Bool) : (p == p) = true := by cases p <;> rfl
theorem Y12_Yo : type_of% (And.intro @F_ag_25 (And.intro @F_al_25 (And.intro @F_st_25 (@F_sz_25)))) := And.intro @F_ag_25 (And.intro @F_al_25 (And.intro @F_st_25 (@F_sz_25)))
theorem c_JoinR (a b : Ty) (ha : fit a) (hb : fit b) : PC Tryz.prog 12 [tyV a, tyV b] (tyV (JoinT a b)) := by
  have h1 := c_checkR a ha
  have h2 := c_checkR b hb
  unfold JoinT
  refine PC.enter 17 Tryz.func12 rfl (by decide) rfl rfl (s := [(0, tyV a), (1, tyV b)]) (by rfl) ?_
  rw [tyV_eq a, tyV_eq b]
  by_cases ga : chk a = 0
  case neg =>
    rw [gd_neg ga]
    simp only [Bool.false_and, Bool.false_eq_true, if_false, topT, tyV_mk, List.map_nil]
    refine wG Y12_Yo True.intro ?_
    refine AR.callP h1 @tyV_eq (And.intro (@tyV_id) (And.intro (@fdV_id) (And.intro (@tyL_id) @fdL_id))) ?_
    refine goG Y12_Yo ga ?_
    refine wG Y12_Yo True.intro ?_
    refine Fin.gen0 (rs := [.cell 4 25]) rfl (by first | exact .inl rfl | exact .inr rfl) (finG Y12_Yo) ?_
    skip
    all_goals exact wkG (And.intro (@tyV_id) (And.intro (@fdV_id) (And.intro (@tyL_id) @fdL_id)))
  by_cases gb : chk b = 0
  case neg =>
    rw [gd_neg gb]
    simp only [Bool.and_false, Bool.false_and, Bool.false_eq_true, if_false, topT, tyV_mk, List.map_nil]
    refine wG Y12_Yo True.intro ?_
    refine AR.callP h1 @tyV_eq (And.intro (@tyV_id) (And.intro (@fdV_id) (And.intro (@tyL_id) @fdL_id))) ?_
    refine goG Y12_Yo ga ?_
    refine AR.callP h2 @tyV_eq (And.intro (@tyV_id) (And.intro (@fdV_id) (And.intro (@tyL_id) @fdL_id))) ?_
    refine goG Y12_Yo gb ?_
    refine wG Y12_Yo True.intro ?_
    refine Fin.gen0 (rs := [.cell 4 25]) rfl (by first | exact .inl rfl | exact .inr rfl) (finG Y12_Yo) ?_
    skip
    all_goals exact wkG (And.intro (@tyV_id) (And.intro (@fdV_id) (And.intro (@tyL_id) @fdL_id)))
  rw [gd_pos ga, gd_pos gb]
  have h3 := c_joined a ha (good_frm (gd_pos ga)) b hb (good_frm (gd_pos gb))
  simp only [Bool.and_self, if_true]
  rw [tyV_eq (joinT a b)]
  refine wG Y12_Yo True.intro ?_
  refine AR.callP h1 @tyV_eq (And.intro (@tyV_id) (And.intro (@fdV_id) (And.intro (@tyL_id) @fdL_id))) ?_
  refine goG Y12_Yo ga ?_
  refine AR.callP h2 @tyV_eq (And.intro (@tyV_id) (And.intro (@fdV_id) (And.intro (@tyL_id) @fdL_id))) ?_
  refine goG Y12_Yo gb ?_
  refine wG Y12_Yo True.intro ?_
  refine AR.callP h3 @tyV_eq (And.intro (@tyV_id) (And.intro (@fdV_id) (And.intro (@tyL_id) @fdL_id))) ?_
  refine goG Y12_Yo (And.intro (@tyV_firm) (And.intro (@fdV_firm) (And.intro (@tyV_strip) (And.intro (@fdV_strip) (And.intro (@tyV_live) (And.intro (@tyV_size) (And.intro (@tyV_isAg) (And.intro (@tyV_cells) (And.intro (@fdV_live) (And.intro (@fdV_size) (And.intro (@fdV_isAg) (And.intro (@fdV_cells) (And.intro (@List.getElem?_map.{0, 0}) @Int.natCast_nonneg))))))))))))) ?_
  refine wG Y12_Yo (And.intro (@tyV_firm) (And.intro (@fdV_firm) (And.intro (@tyV_strip) (And.intro (@fdV_strip) (And.intro (@tyV_live) (And.intro (@tyV_size) (And.intro (@tyV_isAg) (And.intro (@tyV_cells) (And.intro (@fdV_live) (And.intro (@fdV_size) (And.intro (@fdV_isAg) (And.intro (@fdV_cells) (And.intro (@List.getElem?_map.{0, 0}) @Int.natCast_nonneg))))))))))))) ?_
  refine Fin.gen0 (rs := [.cell 4 25]) rfl (by first | exact .inl rfl | exact .inr rfl) (finG Y12_Yo) ?_
  skip
  all_goals exact wkG (And.intro (@tyV_id) (And.intro (@fdV_id) (And.intro (@tyL_id) @fdL_id)))
theorem Y14_Yo : type_of% (And.intro @F_ag_25 (And.intro @F_al_25 (And.intro @F_st_25 (@F_sz_25)))) := And.intro @F_ag_25 (And.intro @F_al_25 (And.intro @F_st_25 (@F_sz_25)))
theorem c_MeetR (a b : Ty) (ha : fit a) (hb : fit b) : PC Tryz.prog 14 [tyV a, tyV b] (tyV (MeetT a b)) := by
  have h1 := c_checkR a ha
  have h2 := c_checkR b hb
  unfold MeetT
  refine PC.enter 23 Tryz.func14 rfl (by decide) rfl rfl (s := [(0, tyV a), (1, tyV b)]) (by rfl) ?_
  rw [tyV_eq a, tyV_eq b]
  by_cases ga : chk a = 0
  case neg =>
    rw [gd_neg ga]
    simp only [Bool.false_and, Bool.false_eq_true, if_false, tz, tyV_mk, List.map_nil]
    refine wG Y14_Yo True.intro ?_
    refine AR.callP h1 @tyV_eq (And.intro (@tyV_id) (And.intro (@fdV_id) (And.intro (@tyL_id) @fdL_id))) ?_
    refine goG Y14_Yo ga ?_
    refine wG Y14_Yo True.intro ?_
    refine Fin.gen0 (rs := [.cell 4 25]) rfl (by first | exact .inl rfl | exact .inr rfl) (finG Y14_Yo) ?_
    skip
    all_goals exact wkG (And.intro (@tyV_id) (And.intro (@fdV_id) (And.intro (@tyL_id) @fdL_id)))
  by_cases gb : chk b = 0
  case neg =>
    rw [gd_neg gb]
    simp only [Bool.and_false, Bool.false_and, Bool.false_eq_true, if_false, tz, tyV_mk, List.map_nil]
    refine wG Y14_Yo True.intro ?_
    refine AR.callP h1 @tyV_eq (And.intro (@tyV_id) (And.intro (@fdV_id) (And.intro (@tyL_id) @fdL_id))) ?_
    refine goG Y14_Yo ga ?_
    refine AR.callP h2 @tyV_eq (And.intro (@tyV_id) (And.intro (@fdV_id) (And.intro (@tyL_id) @fdL_id))) ?_
    refine goG Y14_Yo gb ?_
    refine wG Y14_Yo True.intro ?_
    refine Fin.gen0 (rs := [.cell 4 25]) rfl (by first | exact .inl rfl | exact .inr rfl) (finG Y14_Yo) ?_
    skip
    all_goals exact wkG (And.intro (@tyV_id) (And.intro (@fdV_id) (And.intro (@tyL_id) @fdL_id)))
  rw [gd_pos ga, gd_pos gb]
  have h3 := c_MetR a ha (good_frm (gd_pos ga)) b hb (good_frm (gd_pos gb))
  have hf := meetT_fit (good_frm (gd_pos ga)) ha (good_iff.1 (gd_pos ga)).2.2 (good_frm (gd_pos gb)) hb (good_iff.1 (gd_pos gb)).2.2
  have h5 := c_checkR (meetT a b) hf
  simp only [Bool.and_self, Bool.true_and]
  refine wG Y14_Yo True.intro ?_
  refine AR.callP h1 @tyV_eq (And.intro (@tyV_id) (And.intro (@fdV_id) (And.intro (@tyL_id) @fdL_id))) ?_
  refine goG Y14_Yo ga ?_
  refine AR.callP h2 @tyV_eq (And.intro (@tyV_id) (And.intro (@fdV_id) (And.intro (@tyL_id) @fdL_id))) ?_
  refine goG Y14_Yo gb ?_
  refine wG Y14_Yo True.intro ?_
  refine AR.callP h3 @tyV_eq (And.intro (@tyV_id) (And.intro (@fdV_id) (And.intro (@tyL_id) @fdL_id))) ?_
  refine goG Y14_Yo (And.intro (@tyV_firm) (And.intro (@fdV_firm) (And.intro (@tyV_strip) (And.intro (@fdV_strip) (And.intro (@tyV_live) (And.intro (@tyV_size) (And.intro (@tyV_isAg) (And.intro (@tyV_cells) (And.intro (@fdV_live) (And.intro (@fdV_size) (And.intro (@fdV_isAg) (And.intro (@fdV_cells) (And.intro (@List.getElem?_map.{0, 0}) @Int.natCast_nonneg))))))))))))) ?_
  refine wG Y14_Yo (And.intro (@tyV_firm) (And.intro (@fdV_firm) (And.intro (@tyV_strip) (And.intro (@fdV_strip) (And.intro (@tyV_live) (And.intro (@tyV_size) (And.intro (@tyV_isAg) (And.intro (@tyV_cells) (And.intro (@fdV_live) (And.intro (@fdV_size) (And.intro (@fdV_isAg) (And.intro (@fdV_cells) (And.intro (@List.getElem?_map.{0, 0}) @Int.natCast_nonneg))))))))))))) ?_
  refine AR.callP h5 @tyV_eq (And.intro (@tyV_id) (And.intro (@fdV_id) (And.intro (@tyL_id) @fdL_id))) ?_
  by_cases gm : chk (meetT a b) = 0
  · rw [gd_pos gm]
    simp only [if_true]
    rw [tyV_eq (meetT a b)]
    refine goG Y14_Yo gm ?_
    refine wG Y14_Yo (And.intro (@tyV_firm) (And.intro (@fdV_firm) (And.intro (@tyV_strip) (And.intro (@fdV_strip) (And.intro (@tyV_live) (And.intro (@tyV_size) (And.intro (@tyV_isAg) (And.intro (@tyV_cells) (And.intro (@fdV_live) (And.intro (@fdV_size) (And.intro (@fdV_isAg) (And.intro (@fdV_cells) (And.intro (@List.getElem?_map.{0, 0}) @Int.natCast_nonneg))))))))))))) ?_
    refine Fin.gen0 (rs := [.cell 4 25]) rfl (by first | exact .inl rfl | exact .inr rfl) (finG Y14_Yo) ?_
    skip
    all_goals exact wkG (And.intro (@tyV_id) (And.intro (@fdV_id) (And.intro (@tyL_id) @fdL_id)))
  · rw [gd_neg gm]
    simp only [Bool.false_eq_true, if_false, tz, tyV_mk, List.map_nil]
    refine goG Y14_Yo gm ?_
    refine wG Y14_Yo (And.intro (@tyV_firm) (And.intro (@fdV_firm) (And.intro (@tyV_strip) (And.intro (@fdV_strip) (And.intro (@tyV_live) (And.intro (@tyV_size) (And.intro (@tyV_isAg) (And.intro (@tyV_cells) (And.intro (@fdV_live) (And.intro (@fdV_size) (And.intro (@fdV_isAg) (And.intro (@fdV_cells) (And.intro (@List.getElem?_map.{0, 0}) @Int.natCast_nonneg))))))))))))) ?_
    refine Fin.gen0 (rs := [.cell 4 25]) rfl (by first | exact .inl rfl | exact .inr rfl) (finG Y14_Yo) ?_
    skip
    all_goals exact wkG (And.intro (@tyV_id) (And.intro (@fdV_id) (And.intro (@tyL_id) @fdL_id)))
theorem JoinT_fit {a b : Ty} (ha : fit a) (hb : fit b) : fit (JoinT a b) := by
  unfold JoinT
  split
  · rename_i h
    simp only [Bool.and_eq_true] at h
    exact joinT_fit (good_frm h.1) ha (good_frm h.2) hb
  · unfold fit; kernel_rfl
theorem MeetT_fit {a b : Ty} (ha : fit a) (hb : fit b) : fit (MeetT a b) := by
  unfold MeetT
  split
  · rename_i h
    simp only [Bool.and_eq_true] at h
    exact meetT_fit (good_frm h.1.1) ha (good_iff.1 h.1.1).2.2 (good_frm h.1.2) hb (good_iff.1 h.1.2).2.2
  · unfold fit; kernel_rfl
theorem Y3_Yo : type_of% (And.intro @F_ag_25 (And.intro @F_sz_25 (@F_un_4))) := And.intro @F_ag_25 (And.intro @F_sz_25 (@F_un_4))
set_option maxHeartbeats 4000000 in
theorem c_bounds31 (hM : MergeC) (hX : PC Tryz.prog 7 [] (.im (.bool (true)))) (t u : Ty) (ht : fit t) (hu : fit u) : PC Tryz.prog 3 [tyV t, tyV u] (.im (.bool (true))) := by
  have st := c_small31 t ht 70 (by decide) (by decide)
  have su := c_small31 u hu 70 (by decide) (by decide)
  have a1 := c_Sub t u ht hu
  have a2 := c_SubR t u ht hu
  have a3 := c_Join hM t u ht hu
  have a4 := c_JoinR t u ht hu
  have a5 := c_SameR _ (JoinT_fit ht hu) _ (JoinT_fit ht hu)
  rw [samT_refl] at a5
  have a6 := c_Meet hM t u ht hu
  have a7 := c_MeetR t u ht hu
  have a8 := c_SameR _ (MeetT_fit ht hu) _ (MeetT_fit ht hu)
  rw [samT_refl] at a8
  generalize (good t && good u && subT t u) = p at a1 a2
  generalize JoinT t u = j at a3 a4 a5
  generalize MeetT t u = m at a6 a7 a8
  have d1 := bselfB p
  refine PC.enter 42 Tryz.func3 rfl (by decide) rfl rfl (s := [(0, tyV t), (1, tyV u)]) (by rfl) ?_
  rw [tyV_eq t, tyV_eq u]
  refine wG Y3_Yo True.intro ?_
  refine AR.callP st @tyV_eq (And.intro (@tyV_id) (And.intro (@fdV_id) (And.intro (@tyL_id) @fdL_id))) ?_
  cases qt : smallT t 70
  case' false =>
    refine goG Y3_Yo qt ?_
    refine wG Y3_Yo True.intro ?_
    refine AR.callP hX True.intro (And.intro (@tyV_id) (And.intro (@fdV_id) (And.intro (@tyL_id) @fdL_id))) ?_
    refine goG Y3_Yo True.intro ?_
    refine wG Y3_Yo True.intro ?_
    exact Fin.oneP
  refine goG Y3_Yo qt ?_
  refine AR.callP su @tyV_eq (And.intro (@tyV_id) (And.intro (@fdV_id) (And.intro (@tyL_id) @fdL_id))) ?_
  cases qu : smallT u 70
  case' false =>
    refine goG Y3_Yo qu ?_
    refine wG Y3_Yo True.intro ?_
    refine AR.callP hX True.intro (And.intro (@tyV_id) (And.intro (@fdV_id) (And.intro (@tyL_id) @fdL_id))) ?_
    refine goG Y3_Yo True.intro ?_
    refine wG Y3_Yo True.intro ?_
    exact Fin.oneP
  refine goG Y3_Yo qu ?_
  refine wdG Y3_Yo True.intro ?_
  refine AR.callP a1 @tyV_eq (And.intro (@tyV_id) (And.intro (@fdV_id) (And.intro (@tyL_id) @fdL_id))) ?_
  refine goG Y3_Yo (And.intro (@tyV_firm) (And.intro (@fdV_firm) (And.intro (@tyV_strip) (And.intro (@fdV_strip) (And.intro (@tyV_live) (And.intro (@tyV_size) (And.intro (@tyV_isAg) (And.intro (@tyV_cells) (And.intro (@fdV_live) (And.intro (@fdV_size) (And.intro (@fdV_isAg) (And.intro (@fdV_cells) (And.intro (@List.getElem?_map.{0, 0}) @Int.natCast_nonneg))))))))))))) ?_
  refine AR.callP a2 @tyV_eq (And.intro (@tyV_id) (And.intro (@fdV_id) (And.intro (@tyL_id) @fdL_id))) ?_
  refine goG Y3_Yo d1 ?_
  refine AR.callP a3 @tyV_eq (And.intro (@tyV_id) (And.intro (@fdV_id) (And.intro (@tyL_id) @fdL_id))) ?_
  refine goG Y3_Yo (And.intro (@tyV_firm) (And.intro (@fdV_firm) (And.intro (@tyV_strip) (And.intro (@fdV_strip) (And.intro (@tyV_live) (And.intro (@tyV_size) (And.intro (@tyV_isAg) (And.intro (@tyV_cells) (And.intro (@fdV_live) (And.intro (@fdV_size) (And.intro (@fdV_isAg) (And.intro (@fdV_cells) (And.intro (@List.getElem?_map.{0, 0}) @Int.natCast_nonneg))))))))))))) ?_
  refine AR.callP a4 @tyV_eq (And.intro (@tyV_id) (And.intro (@fdV_id) (And.intro (@tyL_id) @fdL_id))) ?_
  refine goG Y3_Yo (And.intro (@tyV_firm) (And.intro (@fdV_firm) (And.intro (@tyV_strip) (And.intro (@fdV_strip) (And.intro (@tyV_live) (And.intro (@tyV_size) (And.intro (@tyV_isAg) (And.intro (@tyV_cells) (And.intro (@fdV_live) (And.intro (@fdV_size) (And.intro (@fdV_isAg) (And.intro (@fdV_cells) (And.intro (@List.getElem?_map.{0, 0}) @Int.natCast_nonneg))))))))))))) ?_
  refine AR.callP a5 @tyV_eq (And.intro (@tyV_id) (And.intro (@fdV_id) (And.intro (@tyL_id) @fdL_id))) ?_
  refine goG Y3_Yo (And.intro (@tyV_firm) (And.intro (@fdV_firm) (And.intro (@tyV_strip) (And.intro (@fdV_strip) (And.intro (@tyV_live) (And.intro (@tyV_size) (And.intro (@tyV_isAg) (And.intro (@tyV_cells) (And.intro (@fdV_live) (And.intro (@fdV_size) (And.intro (@fdV_isAg) (And.intro (@fdV_cells) (And.intro (@List.getElem?_map.{0, 0}) @Int.natCast_nonneg))))))))))))) ?_
  refine AR.callP a6 @tyV_eq (And.intro (@tyV_id) (And.intro (@fdV_id) (And.intro (@tyL_id) @fdL_id))) ?_
  refine goG Y3_Yo (And.intro (@tyV_firm) (And.intro (@fdV_firm) (And.intro (@tyV_strip) (And.intro (@fdV_strip) (And.intro (@tyV_live) (And.intro (@tyV_size) (And.intro (@tyV_isAg) (And.intro (@tyV_cells) (And.intro (@fdV_live) (And.intro (@fdV_size) (And.intro (@fdV_isAg) (And.intro (@fdV_cells) (And.intro (@List.getElem?_map.{0, 0}) @Int.natCast_nonneg))))))))))))) ?_
  refine AR.callP a7 @tyV_eq (And.intro (@tyV_id) (And.intro (@fdV_id) (And.intro (@tyL_id) @fdL_id))) ?_
  refine goG Y3_Yo (And.intro (@tyV_firm) (And.intro (@fdV_firm) (And.intro (@tyV_strip) (And.intro (@fdV_strip) (And.intro (@tyV_live) (And.intro (@tyV_size) (And.intro (@tyV_isAg) (And.intro (@tyV_cells) (And.intro (@fdV_live) (And.intro (@fdV_size) (And.intro (@fdV_isAg) (And.intro (@fdV_cells) (And.intro (@List.getElem?_map.{0, 0}) @Int.natCast_nonneg))))))))))))) ?_
  refine AR.callP a8 @tyV_eq (And.intro (@tyV_id) (And.intro (@fdV_id) (And.intro (@tyL_id) @fdL_id))) ?_
  refine goG Y3_Yo (And.intro (@tyV_firm) (And.intro (@fdV_firm) (And.intro (@tyV_strip) (And.intro (@fdV_strip) (And.intro (@tyV_live) (And.intro (@tyV_size) (And.intro (@tyV_isAg) (And.intro (@tyV_cells) (And.intro (@fdV_live) (And.intro (@fdV_size) (And.intro (@fdV_isAg) (And.intro (@fdV_cells) (And.intro (@List.getElem?_map.{0, 0}) @Int.natCast_nonneg))))))))))))) ?_
  refine AR.callP hX @tyV_eq (And.intro (@tyV_id) (And.intro (@fdV_id) (And.intro (@tyL_id) @fdL_id))) ?_
  refine goG Y3_Yo (And.intro (@tyV_firm) (And.intro (@fdV_firm) (And.intro (@tyV_strip) (And.intro (@fdV_strip) (And.intro (@tyV_live) (And.intro (@tyV_size) (And.intro (@tyV_isAg) (And.intro (@tyV_cells) (And.intro (@fdV_live) (And.intro (@fdV_size) (And.intro (@fdV_isAg) (And.intro (@fdV_cells) (And.intro (@List.getElem?_map.{0, 0}) @Int.natCast_nonneg))))))))))))) ?_
  refine wdG Y3_Yo True.intro ?_
  exact Fin.oneP
end Go.Proofs.YtchjncoadhigmaaGreatDoor

