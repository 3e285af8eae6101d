/- Walks: union and Met of the reference. -/
import Derived.Test.YtchjncoadhigmaaGreatDoorHv
import Derived.Test.YtchjncoadhigmaaGreatDoorY1
import Derived.Test.YtchjncoadhigmaaGreatDoorPs
namespace Go.Proofs.YtchjncoadhigmaaGreatDoor
set_option linter.unusedSimpArgs false
set_option linter.unusedVariables false
set_option linter.unnecessarySimpa false
open Go.RowKit
theorem mrg_a {f : Ty → Ty → Ty} {fa fb : List Ty} {i k : Nat} (hi : i < fa.length) (hk : k < fb.length) (h : fa[i].off < fb[k].off) : mrgF f (fa.drop i) (fb.drop k) = fa[i] :: mrgF f (fa.drop (i + 1)) (fb.drop k) := by
  rw [List.drop_eq_getElem_cons hi, List.drop_eq_getElem_cons hk, mrgF_cons, if_pos h]
theorem mrg_b {f : Ty → Ty → Ty} {fa fb : List Ty} {i k : Nat} (hi : i < fa.length) (hk : k < fb.length) (h : fb[k].off < fa[i].off) : mrgF f (fa.drop i) (fb.drop k) = fb[k] :: mrgF f (fa.drop i) (fb.drop (k + 1)) := by
  rw [List.drop_eq_getElem_cons hi, List.drop_eq_getElem_cons hk, mrgF_cons, if_neg (by omega), if_pos h]
theorem mrg_ab {f : Ty → Ty → Ty} {fa fb : List Ty} {i k : Nat} (hi : i < fa.length) (hk : k < fb.length) (h : fa[i].off = fb[k].off) : mrgF f (fa.drop i) (fb.drop k) = (f fa[i] fb[k]).at_ fa[i].off :: mrgF f (fa.drop (i + 1)) (fb.drop (k + 1)) := by
  rw [List.drop_eq_getElem_cons hi, List.drop_eq_getElem_cons hk, mrgF_cons, if_neg (by omega), if_neg (by omega)]
theorem mrg_ea {f : Ty → Ty → Ty} {fa fb : List Ty} {i : Nat} (hi : i < fa.length) : mrgF f (fa.drop i) (fb.drop fb.length) = fa[i] :: mrgF f (fa.drop (i + 1)) (fb.drop fb.length) := by
  rw [List.drop_length, mrgF_nil2, mrgF_nil2, List.drop_eq_getElem_cons hi]
theorem mrg_eb {f : Ty → Ty → Ty} {fa fb : List Ty} {k : Nat} (hk : k < fb.length) : mrgF f (fa.drop fa.length) (fb.drop k) = fb[k] :: mrgF f (fa.drop fa.length) (fb.drop (k + 1)) := by
  rw [List.drop_length, mrgF_nil, mrgF_nil, List.drop_eq_getElem_cons hk]
theorem fdVs_all4 (l : List Ty) : allZ 6 (l.map fdV) = true := allZ_fd l
theorem Y69_Y4 : type_of% (And.intro @F_ag_25 (And.intro @F_ag_3 (And.intro @F_ag_47 (And.intro @F_al_47 (And.intro @F_by_47 (And.intro @F_el_23 (And.intro @F_fl_47_0 (And.intro @F_fl_47_1 (And.intro @F_st_47 (And.intro @F_sz_25 (And.intro @F_sz_3 (@F_sz_47)))))))))))) := And.intro @F_ag_25 (And.intro @F_ag_3 (And.intro @F_ag_47 (And.intro @F_al_47 (And.intro @F_by_47 (And.intro @F_el_23 (And.intro @F_fl_47_0 (And.intro @F_fl_47_1 (And.intro @F_st_47 (And.intro @F_sz_25 (And.intro @F_sz_3 (@F_sz_47)))))))))))
theorem c_union (fa fb : List Ty) (hl : fa.length ≤ 4194304) (hl2 : fb.length ≤ 4194304) (hM : ∀ x ∈ fa, ∀ y ∈ fb, PC Tryz.prog 43 [tyV x, tyV y] (tyV (meetT x y))) :
    PC Tryz.prog 69 [.sl (fa.map fdV) .ro, .sl (fb.map fdV) .ro] (.sl ((mrgF meetT fa fb).map fdV) .ro) := by
  refine PC.enter 101 Tryz.func69 rfl (by decide) rfl rfl (s := [(0, .sl (fa.map fdV) .ro), (1, .sl (fb.map fdV) .ro)]) (by rfl) ?_
  refine wG Y69_Y4 True.intro ?_
  refine AWp.loop ?_
  refine ALp.ghost 5 [] .nl 47 6 ?_
  refine ALp.cutP 1 [(0, .sl (fa.map fdV) .ro), (1, .sl (fb.map fdV) .ro), (5, .sl (([] : List Ty).map fdV) (.own 0)), (6, (.im (.int .i64 (((0 : Nat) : Int))))), (7, (.im (.int .i64 (((0 : Nat) : Int)))))] [.tip 47 6 ([] : List Ty).length] (And.intro (@tyV_id) (And.intro (@fdV_id) (And.intro (@tyL_id) @fdL_id))) ?_
  obtain ⟨all, hall⟩ : ∃ all, all = mrgF meetT fa fb := ⟨_, rfl⟩
  rw [← hall]
  refine ALp.meas (α := Nat × Nat × List Ty) (fun p => ⟨dn 101 [(0, .sl (fa.map fdV) .ro), (1, .sl (fb.map fdV) .ro), (5, .sl ((p).2.2.map fdV) (.own 0)), (6, (.im (.int .i64 ((((p).1 : Nat) : Int))))), (7, (.im (.int .i64 ((((p).2.1 : Nat) : Int)))))], ofl [.tip 47 6 p.2.2.length]⟩) (fun p => p.1 ≤ fa.length ∧ p.2.1 ≤ fb.length ∧ p.2.2.length ≤ p.1 + p.2.1 ∧ p.2.2 ++ mrgF meetT (fa.drop p.1) (fb.drop p.2.1) = all) (fun p => (fa.length - p.1) + (fb.length - p.2.1)) ?_ (0, 0, []) ⟨Nat.zero_le _, Nat.zero_le _, by simp, by rw [hall]; simp⟩
  rintro ⟨i, k, out⟩ ⟨hi, hk, ho, hI⟩ hnext
  simp only at hi hk ho hI hnext
  show AWpK _ _ _ _ _ ⟨dn 101 [(0, .sl (fa.map fdV) .ro), (1, .sl (fb.map fdV) .ro), (5, .sl (out.map fdV) (.own 0)), (6, (.im (.int .i64 ((i : Int))))), (7, (.im (.int .i64 ((k : Int)))))], ofl [.tip 47 6 out.length]⟩
  have hmI := wrap_succ (m := i) (N := 8388609) (by omega) (by decide)
  have hmK := wrap_succ (m := k) (N := 8388609) (by omega) (by decide)
  have step : ∀ (z : Ty), ∃ B, B = out ++ [z] ∧ B.length = out.length + 1 ∧ B.length * 80 ≤ 140737488355328 ∧ out.map fdV ++ [fdV z] = B.map fdV := fun z => ⟨_, rfl, by simp, by simp; omega, by simp⟩
  by_cases hlt : i < fa.length
  · have hlt' : (i : Int) < (fa.length : Int) := by omega
    have hg := get_some hlt
    by_cases hlk : k < fb.length
    · have hlk' : (k : Int) < (fb.length : Int) := by omega
      have hgk := get_some hlk
      have hne : ¬ (k : Int) = (fb.length : Int) := by omega
      have hne2 : ¬ (i : Int) = (fa.length : Int) := by omega
      rcases Int.lt_trichotomy fa[i].off fb[k].off with hc | hc | hc
      · rw [mrg_a hlt hlk hc] at hI
        obtain ⟨B, hB, hBl, hb, hAs⟩ := step fa[i]
        have hAl : out.length + 1 = B.length := hBl.symm
        have hn := hnext (i + 1, k, B) (by simp only; omega) ⟨by simp only; omega, by simp only; omega, by simp only; omega, by simp only; rw [hB, List.append_assoc]; exact hI⟩
        clear hnext
        refine wdG Y69_Y4 (And.intro hlt' (And.intro hlk' (And.intro hne (And.intro hne2 (And.intro hg (And.intro hgk (And.intro hc (And.intro hmI (And.intro hAs (And.intro hAl (And.intro hb (And.intro fdVs_all4 (And.intro (@List.length_map.{0, 0}) (And.intro (@tyV_firm) (And.intro (@fdV_firm) (And.intro (@tyV_strip) (And.intro (@fdV_strip) (And.intro (@tyV_live) (And.intro (@tyV_size) (And.intro (@tyV_isAg) (And.intro (@tyV_cells) (And.intro (@fdV_live) (And.intro (@fdV_size) (And.intro (@fdV_isAg) (And.intro (@fdV_cells) (And.intro (@List.getElem?_map.{0, 0}) @Int.natCast_nonneg)))))))))))))))))))))))))) ?_
        refine ALp.cutP 1 [(0, .sl (fa.map fdV) .ro), (1, .sl (fb.map fdV) .ro), (5, .sl (B.map fdV) (.own 0)), (6, (.im (.int .i64 (((i + 1 : Nat) : Int))))), (7, (.im (.int .i64 ((k : Int)))))] [.tip 47 6 B.length] (And.intro (@tyV_id) (And.intro (@fdV_id) (And.intro (@tyL_id) @fdL_id))) ?_
        exact hn
      · rw [mrg_ab hlt hlk hc] at hI
        obtain ⟨B, hB, hBl, hb, hAs0⟩ := step ((meetT fa[i] fb[k]).at_ fa[i].off)
        have hAs : out.map fdV ++ [V.ag [.im (.int .i64 fa[i].off), .im (.int .i64 (meetT fa[i] fb[k]).kind), .im (.int .i64 (meetT fa[i] fb[k]).size), .im (.int .i64 (meetT fa[i] fb[k]).count), .sl ((meetT fa[i] fb[k]).elem.map tyV) .ro, .sl ((meetT fa[i] fb[k]).fields.map fdV) .ro]] = B.map fdV := by rw [← hAs0, fdV_eq]; rfl
        have hAl : out.length + 1 = B.length := hBl.symm
        have hn := hnext (i + 1, k + 1, B) (by simp only; omega) ⟨by simp only; omega, by simp only; omega, by simp only; omega, by simp only; rw [hB, List.append_assoc]; exact hI⟩
        clear hnext
        have hc1 : ¬ fa[i].off < fb[k].off := by omega
        have hc2 : ¬ fb[k].off < fa[i].off := by omega
        have hcM := hM fa[i] (List.getElem_mem hlt) fb[k] (List.getElem_mem hlk)
        refine wdG Y69_Y4 (And.intro hlt' (And.intro hlk' (And.intro hne (And.intro hne2 (And.intro hg (And.intro hgk (And.intro hc1 (And.intro hc2 (And.intro (@tyV_firm) (And.intro (@fdV_firm) (And.intro (@tyV_strip) (And.intro (@fdV_strip) (And.intro (@tyV_live) (And.intro (@tyV_size) (And.intro (@tyV_isAg) (And.intro (@tyV_cells) (And.intro (@fdV_live) (And.intro (@fdV_size) (And.intro (@fdV_isAg) (And.intro (@fdV_cells) (And.intro (@List.getElem?_map.{0, 0}) @Int.natCast_nonneg))))))))))))))))))))) ?_
        refine AR.callP hcM @tyV_eq (And.intro (@tyV_id) (And.intro (@fdV_id) (And.intro (@tyL_id) @fdL_id))) ?_
        refine goG Y69_Y4 (And.intro hAs (And.intro hAl (And.intro hb (And.intro fdVs_all4 (And.intro (@List.length_map.{0, 0}) (And.intro (@tyV_firm) (And.intro (@fdV_firm) (And.intro (@tyV_strip) (And.intro (@fdV_strip) (And.intro (@tyV_live) (And.intro (@tyV_size) (And.intro (@tyV_isAg) (And.intro (@tyV_cells) (And.intro (@fdV_live) (And.intro (@fdV_size) (And.intro (@fdV_isAg) (And.intro (@fdV_cells) (And.intro (@List.getElem?_map.{0, 0}) @Int.natCast_nonneg)))))))))))))))))) ?_
        refine wdG Y69_Y4 (And.intro hmI hmK) ?_
        refine ALp.cutP 1 [(0, .sl (fa.map fdV) .ro), (1, .sl (fb.map fdV) .ro), (5, .sl (B.map fdV) (.own 0)), (6, (.im (.int .i64 (((i + 1 : Nat) : Int))))), (7, (.im (.int .i64 (((k + 1 : Nat) : Int)))))] [.tip 47 6 B.length] (And.intro (@tyV_id) (And.intro (@fdV_id) (And.intro (@tyL_id) @fdL_id))) ?_
        exact hn
      · rw [mrg_b hlt hlk hc] at hI
        obtain ⟨B, hB, hBl, hb, hAs⟩ := step fb[k]
        have hAl : out.length + 1 = B.length := hBl.symm
        have hn := hnext (i, k + 1, B) (by simp only; omega) ⟨by simp only; omega, by simp only; omega, by simp only; omega, by simp only; rw [hB, List.append_assoc]; exact hI⟩
        clear hnext
        have hc1 : ¬ fa[i].off < fb[k].off := by omega
        refine wdG Y69_Y4 (And.intro hlt' (And.intro hlk' (And.intro hne (And.intro hne2 (And.intro hg (And.intro hgk (And.intro hc (And.intro hc1 (And.intro hmK (And.intro hAs (And.intro hAl (And.intro hb (And.intro fdVs_all4 (And.intro (@List.length_map.{0, 0}) (And.intro (@tyV_firm) (And.intro (@fdV_firm) (And.intro (@tyV_strip) (And.intro (@fdV_strip) (And.intro (@tyV_live) (And.intro (@tyV_size) (And.intro (@tyV_isAg) (And.intro (@tyV_cells) (And.intro (@fdV_live) (And.intro (@fdV_size) (And.intro (@fdV_isAg) (And.intro (@fdV_cells) (And.intro (@List.getElem?_map.{0, 0}) @Int.natCast_nonneg))))))))))))))))))))))))))) ?_
        refine ALp.cutP 1 [(0, .sl (fa.map fdV) .ro), (1, .sl (fb.map fdV) .ro), (5, .sl (B.map fdV) (.own 0)), (6, (.im (.int .i64 ((i : Int))))), (7, (.im (.int .i64 (((k + 1 : Nat) : Int)))))] [.tip 47 6 B.length] (And.intro (@tyV_id) (And.intro (@fdV_id) (And.intro (@tyL_id) @fdL_id))) ?_
        exact hn
    · obtain rfl : k = fb.length := by omega
      rw [mrg_ea hlt] at hI
      obtain ⟨B, hB, hBl, hb, hAs⟩ := step fa[i]
      have hAl : out.length + 1 = B.length := hBl.symm
      have hn := hnext (i + 1, fb.length, B) (by simp only; omega) ⟨by simp only; omega, by simp, by simp only; omega, by simp only; rw [hB, List.append_assoc]; exact hI⟩
      clear hnext
      have hirr : ¬ (fb.length : Int) < (fb.length : Int) := by omega
      refine wdG Y69_Y4 (And.intro hlt' (And.intro hirr (And.intro hg (And.intro hmI (And.intro hAs (And.intro hAl (And.intro hb (And.intro fdVs_all4 (And.intro (@List.length_map.{0, 0}) (And.intro (@tyV_firm) (And.intro (@fdV_firm) (And.intro (@tyV_strip) (And.intro (@fdV_strip) (And.intro (@tyV_live) (And.intro (@tyV_size) (And.intro (@tyV_isAg) (And.intro (@tyV_cells) (And.intro (@fdV_live) (And.intro (@fdV_size) (And.intro (@fdV_isAg) (And.intro (@fdV_cells) (And.intro (@List.getElem?_map.{0, 0}) @Int.natCast_nonneg)))))))))))))))))))))) ?_
      refine ALp.cutP 1 [(0, .sl (fa.map fdV) .ro), (1, .sl (fb.map fdV) .ro), (5, .sl (B.map fdV) (.own 0)), (6, (.im (.int .i64 (((i + 1 : Nat) : Int))))), (7, (.im (.int .i64 ((fb.length : Int)))))] [.tip 47 6 B.length] (And.intro (@tyV_id) (And.intro (@fdV_id) (And.intro (@tyL_id) @fdL_id))) ?_
      exact hn
  · obtain rfl : i = fa.length := by omega
    have hirr : ¬ (fa.length : Int) < (fa.length : Int) := by omega
    by_cases hlk : k < fb.length
    · have hlk' : (k : Int) < (fb.length : Int) := by omega
      have hgk := get_some hlk
      have hne : ¬ (k : Int) = (fb.length : Int) := by omega
      rw [mrg_eb hlk] at hI
      obtain ⟨B, hB, hBl, hb, hAs⟩ := step fb[k]
      have hAl : out.length + 1 = B.length := hBl.symm
      have hn := hnext (fa.length, k + 1, B) (by simp only; omega) ⟨by simp, by simp only; omega, by simp only; omega, by simp only; rw [hB, List.append_assoc]; exact hI⟩
      clear hnext
      refine wdG Y69_Y4 (And.intro hirr (And.intro hlk' (And.intro hne (And.intro hgk (And.intro hmK (And.intro hAs (And.intro hAl (And.intro hb (And.intro fdVs_all4 (And.intro (@List.length_map.{0, 0}) (And.intro (@tyV_firm) (And.intro (@fdV_firm) (And.intro (@tyV_strip) (And.intro (@fdV_strip) (And.intro (@tyV_live) (And.intro (@tyV_size) (And.intro (@tyV_isAg) (And.intro (@tyV_cells) (And.intro (@fdV_live) (And.intro (@fdV_size) (And.intro (@fdV_isAg) (And.intro (@fdV_cells) (And.intro (@List.getElem?_map.{0, 0}) @Int.natCast_nonneg))))))))))))))))))))))) ?_
      refine ALp.cutP 1 [(0, .sl (fa.map fdV) .ro), (1, .sl (fb.map fdV) .ro), (5, .sl (B.map fdV) (.own 0)), (6, (.im (.int .i64 ((fa.length : Int))))), (7, (.im (.int .i64 (((k + 1 : Nat) : Int)))))] [.tip 47 6 B.length] (And.intro (@tyV_id) (And.intro (@fdV_id) (And.intro (@tyL_id) @fdL_id))) ?_
      exact hn
    · obtain rfl : k = fb.length := by omega
      have hirr2 : ¬ (fb.length : Int) < (fb.length : Int) := by omega
      clear hnext
      rw [List.drop_length, List.drop_length, mrgF_nil, List.append_nil] at hI
      rw [← hI]
      refine wdG Y69_Y4 (And.intro hirr hirr2) ?_
      refine wG Y69_Y4 True.intro ?_
      refine Fin.gen0 (rs := [.tmp 4]) rfl (by first | exact .inl rfl | exact .inr rfl) (finG Y69_Y4) ?_
      skip
      all_goals exact wkG (And.intro (@tyV_id) (And.intro (@fdV_id) (And.intro (@tyL_id) @fdL_id)))
theorem Y43_Y4 : type_of% (And.intro @F_ag_22 (And.intro @F_ag_23 (And.intro @F_ag_25 (And.intro @F_ag_3 (And.intro @F_al_25 (And.intro @F_el_22 (And.intro @F_fl_25_0 (And.intro @F_fl_25_1 (And.intro @F_fl_25_2 (And.intro @F_fl_25_3 (And.intro @F_fl_25_4 (And.intro @F_st_25 (And.intro @F_sz_22 (And.intro @F_sz_23 (And.intro @F_sz_25 (@F_sz_3)))))))))))))))) := And.intro @F_ag_22 (And.intro @F_ag_23 (And.intro @F_ag_25 (And.intro @F_ag_3 (And.intro @F_al_25 (And.intro @F_el_22 (And.intro @F_fl_25_0 (And.intro @F_fl_25_1 (And.intro @F_fl_25_2 (And.intro @F_fl_25_3 (And.intro @F_fl_25_4 (And.intro @F_st_25 (And.intro @F_sz_22 (And.intro @F_sz_23 (And.intro @F_sz_25 (@F_sz_3)))))))))))))))
set_option maxHeartbeats 1000000 in
theorem c_MetR : ∀ (a : Ty), fit a → frm a = true → ∀ (b : Ty), fit b → frm b = true → PC Tryz.prog 43 [tyV a, tyV b] (tyV (meetT a b)) := by
  refine Ty.induct fun oa ka sa ca ea fa hE hF => ?_
  intro hfita hfrma b hfit hfrm
  obtain ⟨o, k, s, c, es, fs⟩ := b
  obtain ⟨hl1, hl2, hfE, hfF⟩ := fit_mk hfit
  obtain ⟨hb, hof, hfs, hes⟩ := frm_inv hfrm
  obtain ⟨ha1, ha2, haE, haF⟩ := fit_mk hfita
  obtain ⟨hba, haof, hafs, haes⟩ := frm_inv hfrma
  rw [meetT_mk]
  show PC _ _ _ (tyV (if ka = 6 then .mk 0 k s c es fs else if k = 6 then .mk 0 ka sa ca ea fa else if ka ≠ k ∨ sa ≠ s then tz else if ka = 3 then .mk 0 3 0 0 (hdJ meetT ea es) [] else if ka = 4 then .mk 0 4 0 (max ca c) (hdJ meetT ea es) [] else if ka = 5 then .mk 0 5 0 0 [] (mrgF meetT fa fs) else .mk 0 ka sa ca ea fa))
  refine PC.enter 71 Tryz.func43 rfl (by decide) rfl rfl (s := [(0, tyV (.mk oa ka sa ca ea fa)), (1, tyV (.mk o k s c es fs))]) (by rfl) ?_
  by_cases h6 : ka = 6
  · rw [if_pos h6]
    simp only [tyV_mk]
    refine wG Y43_Y4 h6 ?_
    refine Fin.gen0 (rs := [.cell 4 25]) rfl (by first | exact .inl rfl | exact .inr rfl) (finG Y43_Y4) ?_
    skip
    all_goals exact wkG (And.intro (@tyV_id) (And.intro (@fdV_id) (And.intro (@tyL_id) @fdL_id)))
  rw [if_neg h6]
  by_cases hk6 : k = 6
  · rw [if_pos hk6]
    simp only [tyV_mk]
    refine wG Y43_Y4 (And.intro h6 hk6) ?_
    refine Fin.gen0 (rs := [.cell 4 25]) rfl (by first | exact .inl rfl | exact .inr rfl) (finG Y43_Y4) ?_
    skip
    all_goals exact wkG (And.intro (@tyV_id) (And.intro (@fdV_id) (And.intro (@tyL_id) @fdL_id)))
  rw [if_neg hk6]
  by_cases hne : ka ≠ k ∨ sa ≠ s
  · rw [if_pos hne]
    simp only [tz, tyV_mk, List.map_nil]
    refine wG Y43_Y4 (And.intro h6 hk6) ?_
    refine AWp.condAB rfl rfl (fun hT => ?_) (fun hT => ?_)
    · refine wG Y43_Y4 True.intro ?_
      refine Fin.gen0 (rs := [.cell 4 25]) rfl (by first | exact .inl rfl | exact .inr rfl) (finG Y43_Y4) ?_
      skip
      all_goals exact wkG (And.intro (@tyV_id) (And.intro (@fdV_id) (And.intro (@tyL_id) @fdL_id)))
    · exfalso
      simp at hT
      omega
  rw [if_neg hne]
  have hke : ka = k := by omega
  have hse : sa = s := by omega
  subst hke hse
  clear hne
  rcases base_cases hba with h | h | h | h | h
  · obtain ⟨h1, rfl, rfl, h4, h5⟩ := h
    obtain rfl := List.length_eq_zero_iff.1 h4
    obtain rfl := List.length_eq_zero_iff.1 h5
    have k0 : ka = 0 := by omega
    subst k0
    rw [if_neg (by decide), if_neg (by decide), if_neg (by decide)]
    simp only [tyV_mk, List.map_nil]
    refine wG Y43_Y4 (And.intro h6 hk6) ?_
    refine Fin.gen0 (rs := [.cell 4 25]) rfl (by first | exact .inl rfl | exact .inr rfl) (finG Y43_Y4) ?_
    skip
    all_goals exact wkG (And.intro (@tyV_id) (And.intro (@fdV_id) (And.intro (@tyL_id) @fdL_id)))
  · obtain ⟨h1, h2, rfl, h4, h5⟩ := h
    obtain rfl := List.length_eq_zero_iff.1 h4
    obtain rfl := List.length_eq_zero_iff.1 h5
    have k0 : ¬ ka = 0 := by omega
    have k3 : ¬ ka = 3 := by omega
    have k4 : ¬ ka = 4 := by omega
    have k5 : ¬ ka = 5 := by omega
    rw [if_neg k3, if_neg k4, if_neg k5]
    simp only [tyV_mk, List.map_nil]
    refine wG Y43_Y4 (And.intro h6 (And.intro hk6 (And.intro k0 (And.intro k3 (And.intro k4 k5))))) ?_
    refine Fin.gen0 (rs := [.cell 4 25]) rfl (by first | exact .inl rfl | exact .inr rfl) (finG Y43_Y4) ?_
    skip
    all_goals exact wkG (And.intro (@tyV_id) (And.intro (@fdV_id) (And.intro (@tyL_id) @fdL_id)))
  · obtain ⟨rfl, rfl, rfl, h4, h5⟩ := h
    obtain ⟨x, rfl⟩ := List.length_eq_one_iff.1 h4
    obtain rfl := List.length_eq_zero_iff.1 h5
    have h4a : es.length = 1 := by rcases base_cases hb with q | q | q | q | q <;> omega
    obtain ⟨y, rfl⟩ := List.length_eq_one_iff.1 h4a
    rw [if_pos rfl]
    have hc := hE x (by simp) (haE x (by simp)) (haes x (by simp)) y (hfE y (by simp)) (hes y (by simp))
    have hp := c_PtrR (meetT x y)
    simp only [hdJ]
    simp only [tyV_mk, List.map_nil, List.map_cons]
    rw [tyV_mk] at hp
    simp only [List.map_nil, List.map_cons] at hp
    refine wdG Y43_Y4 (And.intro (@tyV_firm) (And.intro (@fdV_firm) (And.intro (@tyV_strip) (And.intro (@fdV_strip) (And.intro (@tyV_live) (And.intro (@tyV_size) (And.intro (@tyV_isAg) (And.intro (@tyV_cells) (And.intro (@fdV_live) (And.intro (@fdV_size) (And.intro (@fdV_isAg) (And.intro (@fdV_cells) (And.intro (@List.getElem?_map.{0, 0}) (And.intro (@Int.natCast_nonneg) (And.intro h6 hk6))))))))))))))) ?_
    refine AR.callP hc @tyV_eq (And.intro (@tyV_id) (And.intro (@fdV_id) (And.intro (@tyL_id) @fdL_id))) ?_
    refine goG Y43_Y4 (And.intro (@tyV_firm) (And.intro (@fdV_firm) (And.intro (@tyV_strip) (And.intro (@fdV_strip) (And.intro (@tyV_live) (And.intro (@tyV_size) (And.intro (@tyV_isAg) (And.intro (@tyV_cells) (And.intro (@fdV_live) (And.intro (@fdV_size) (And.intro (@fdV_isAg) (And.intro (@fdV_cells) (And.intro (@List.getElem?_map.{0, 0}) @Int.natCast_nonneg))))))))))))) ?_
    refine AR.callP hp @tyV_eq (And.intro (@tyV_id) (And.intro (@fdV_id) (And.intro (@tyL_id) @fdL_id))) ?_
    refine goG Y43_Y4 (And.intro (@tyV_firm) (And.intro (@fdV_firm) (And.intro (@tyV_strip) (And.intro (@fdV_strip) (And.intro (@tyV_live) (And.intro (@tyV_size) (And.intro (@tyV_isAg) (And.intro (@tyV_cells) (And.intro (@fdV_live) (And.intro (@fdV_size) (And.intro (@fdV_isAg) (And.intro (@fdV_cells) (And.intro (@List.getElem?_map.{0, 0}) @Int.natCast_nonneg))))))))))))) ?_
    refine wdG Y43_Y4 (And.intro (@tyV_firm) (And.intro (@fdV_firm) (And.intro (@tyV_strip) (And.intro (@fdV_strip) (And.intro (@tyV_live) (And.intro (@tyV_size) (And.intro (@tyV_isAg) (And.intro (@tyV_cells) (And.intro (@fdV_live) (And.intro (@fdV_size) (And.intro (@fdV_isAg) (And.intro (@fdV_cells) (And.intro (@List.getElem?_map.{0, 0}) @Int.natCast_nonneg))))))))))))) ?_
    refine Fin.gen0 (rs := [.cell 4 25]) rfl (by first | exact .inl rfl | exact .inr rfl) (finG Y43_Y4) ?_
    skip
    all_goals exact wkG (And.intro (@tyV_id) (And.intro (@fdV_id) (And.intro (@tyL_id) @fdL_id)))
  · obtain ⟨rfl, rfl, h2, h3, h4, h5⟩ := h
    obtain ⟨x, rfl⟩ := List.length_eq_one_iff.1 h4
    obtain rfl := List.length_eq_zero_iff.1 h5
    have h4a : es.length = 1 := by rcases base_cases hb with q | q | q | q | q <;> omega
    obtain ⟨y, rfl⟩ := List.length_eq_one_iff.1 h4a
    rw [if_neg (by decide), if_pos rfl]
    have hc := hE x (by simp) (haE x (by simp)) (haes x (by simp)) y (hfE y (by simp)) (hes y (by simp))
    have hm : max ca c = if c > ca then c else ca := by split <;> omega
    rw [hm]
    have hp := c_ArrayR (meetT x y) (if c > ca then c else ca)
    simp only [hdJ]
    simp only [tyV_mk, List.map_nil, List.map_cons]
    rw [tyV_mk] at hp
    simp only [List.map_nil, List.map_cons] at hp
    refine wdG Y43_Y4 (And.intro (@tyV_firm) (And.intro (@fdV_firm) (And.intro (@tyV_strip) (And.intro (@fdV_strip) (And.intro (@tyV_live) (And.intro (@tyV_size) (And.intro (@tyV_isAg) (And.intro (@tyV_cells) (And.intro (@fdV_live) (And.intro (@fdV_size) (And.intro (@fdV_isAg) (And.intro (@fdV_cells) (And.intro (@List.getElem?_map.{0, 0}) (And.intro (@Int.natCast_nonneg) (And.intro h6 hk6))))))))))))))) ?_
    refine AR.callP hc @tyV_eq (And.intro (@tyV_id) (And.intro (@fdV_id) (And.intro (@tyL_id) @fdL_id))) ?_
    refine goG Y43_Y4 (And.intro (@tyV_firm) (And.intro (@fdV_firm) (And.intro (@tyV_strip) (And.intro (@fdV_strip) (And.intro (@tyV_live) (And.intro (@tyV_size) (And.intro (@tyV_isAg) (And.intro (@tyV_cells) (And.intro (@fdV_live) (And.intro (@fdV_size) (And.intro (@fdV_isAg) (And.intro (@fdV_cells) (And.intro (@List.getElem?_map.{0, 0}) @Int.natCast_nonneg))))))))))))) ?_
    refine AR.callP hp @tyV_eq (And.intro (@tyV_id) (And.intro (@fdV_id) (And.intro (@tyL_id) @fdL_id))) ?_
    refine goG Y43_Y4 (And.intro (@tyV_firm) (And.intro (@fdV_firm) (And.intro (@tyV_strip) (And.intro (@fdV_strip) (And.intro (@tyV_live) (And.intro (@tyV_size) (And.intro (@tyV_isAg) (And.intro (@tyV_cells) (And.intro (@fdV_live) (And.intro (@fdV_size) (And.intro (@fdV_isAg) (And.intro (@fdV_cells) (And.intro (@List.getElem?_map.{0, 0}) @Int.natCast_nonneg))))))))))))) ?_
    refine wdG Y43_Y4 (And.intro (@tyV_firm) (And.intro (@fdV_firm) (And.intro (@tyV_strip) (And.intro (@fdV_strip) (And.intro (@tyV_live) (And.intro (@tyV_size) (And.intro (@tyV_isAg) (And.intro (@tyV_cells) (And.intro (@fdV_live) (And.intro (@fdV_size) (And.intro (@fdV_isAg) (And.intro (@fdV_cells) (And.intro (@List.getElem?_map.{0, 0}) @Int.natCast_nonneg))))))))))))) ?_
    refine Fin.gen0 (rs := [.cell 4 25]) rfl (by first | exact .inl rfl | exact .inr rfl) (finG Y43_Y4) ?_
    skip
    all_goals exact wkG (And.intro (@tyV_id) (And.intro (@fdV_id) (And.intro (@tyL_id) @fdL_id)))
  · obtain ⟨rfl, rfl, rfl, h4⟩ := h
    obtain rfl := List.length_eq_zero_iff.1 h4
    rw [if_neg (by decide), if_neg (by decide), if_pos rfl]
    have hu := c_union fa fs ha2 hl2 fun x hx y hy => hF x hx (haF x hx) (hafs x hx) y (hfF y hy) (hfs y hy)
    simp only [tyV_mk, List.map_nil, List.map_cons]
    refine wdG Y43_Y4 (And.intro (@tyV_firm) (And.intro (@fdV_firm) (And.intro (@tyV_strip) (And.intro (@fdV_strip) (And.intro (@tyV_live) (And.intro (@tyV_size) (And.intro (@tyV_isAg) (And.intro (@tyV_cells) (And.intro (@fdV_live) (And.intro (@fdV_size) (And.intro (@fdV_isAg) (And.intro (@fdV_cells) (And.intro (@List.getElem?_map.{0, 0}) (And.intro (@Int.natCast_nonneg) (And.intro h6 hk6))))))))))))))) ?_
    refine AR.callP hu True.intro (And.intro (@tyV_id) (And.intro (@fdV_id) (And.intro (@tyL_id) @fdL_id))) ?_
    refine goG Y43_Y4 (And.intro (@tyV_firm) (And.intro (@fdV_firm) (And.intro (@tyV_strip) (And.intro (@fdV_strip) (And.intro (@tyV_live) (And.intro (@tyV_size) (And.intro (@tyV_isAg) (And.intro (@tyV_cells) (And.intro (@fdV_live) (And.intro (@fdV_size) (And.intro (@fdV_isAg) (And.intro (@fdV_cells) (And.intro (@List.getElem?_map.{0, 0}) @Int.natCast_nonneg))))))))))))) ?_
    refine wdG Y43_Y4 (And.intro (@tyV_firm) (And.intro (@fdV_firm) (And.intro (@tyV_strip) (And.intro (@fdV_strip) (And.intro (@tyV_live) (And.intro (@tyV_size) (And.intro (@tyV_isAg) (And.intro (@tyV_cells) (And.intro (@fdV_live) (And.intro (@fdV_size) (And.intro (@fdV_isAg) (And.intro (@fdV_cells) (And.intro (@List.getElem?_map.{0, 0}) @Int.natCast_nonneg))))))))))))) ?_
    refine Fin.gen0 (rs := [.cell 4 25]) rfl (by first | exact .inl rfl | exact .inr rfl) (finG Y43_Y4) ?_
    skip
    all_goals exact wkG (And.intro (@tyV_id) (And.intro (@fdV_id) (And.intro (@tyL_id) @fdL_id)))
end Go.Proofs.YtchjncoadhigmaaGreatDoor

