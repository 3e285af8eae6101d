/- Walks: the order of types, as the reference has it; accesses; what may be assigned. -/
import Derived.Test.YtchjncoadhigmaaGreatDoorHv
import Derived.Test.YtchjncoadhigmaaGreatDoorJB
import Derived.Test.YtchjncoadhigmaaGreatDoorJC
namespace Go.Proofs.YtchjncoadhigmaaGreatDoor
set_option linter.unusedSimpArgs false
set_option linter.unusedVariables false
set_option linter.unnecessarySimpa false
open Go.RowKit
theorem Y62_BB : type_of% (And.intro @F_ag_3 (And.intro @F_el_23 (And.intro @F_fl_47_0 (And.intro @F_sz_3 (@F_sz_47))))) := And.intro @F_ag_3 (And.intro @F_el_23 (And.intro @F_fl_47_0 (And.intro @F_sz_3 (@F_sz_47))))
theorem c_find {l : List Ty} (o : Int) (hl : l.length ≤ 4194304) : PC Tryz.prog 62 [.sl (l.map fdV) .ro, (.im (.int .i64 (o)))] (.im (.int .i64 (findI l o))) := by
  refine PC.enter 20 Tryz.func62 rfl (by decide) rfl rfl (s := [(0, .sl (l.map fdV) .ro), (1, (.im (.int .i64 (o))))]) (by rfl) ?_
  refine wG Y62_BB True.intro ?_
  refine AWp.loop ?_
  refine ALp.cut 0 [(0, .sl (l.map fdV) .ro), (1, (.im (.int .i64 (o)))), (5, (.im (.int .i64 ((((0 : Nat)) : Int)))))] [] ?_ rfl (by repeat (first | exact WkA.nil | refine WkA.cons (Wk.refl _) ?_)) (fun i hi => by first | exact absurd rfl hi) (by simp [idsA, V.ids, V.idsL, ltB, fdL_id]) (by simp)
  refine ALp.upto l.length (fun m => ∀ j (hj : j < l.length), j < m → l[j].off ≠ o) (fun m => ⟨dn 20 [(0, .sl (l.map fdV) .ro), (1, (.im (.int .i64 (o)))), (5, (.im (.int .i64 ((((m : Nat)) : Int)))))], ofl []⟩) ?_ 0 (Nat.zero_le _) (fun j _ h => absurd h (Nat.not_lt_zero _))
  intro m hm hI hnext
  by_cases hlt : m < l.length
  · have hlt' : (m : Int) < (l.length : Int) := by omega
    have hg := get_some hlt
    have hm1 := wrap_succ hlt (by omega)
    by_cases b : l[m].off = o
    · rw [findI_some hlt b hI]
      refine wG Y62_BB (And.intro (@tyV_firm) (And.intro (@fdV_firm) (And.intro (@tyV_strip) (And.intro (@fdV_strip) (And.intro (@tyV_live) (And.intro (@tyV_size) (And.intro (@tyV_isAg) (And.intro (@tyV_cells) (And.intro (@fdV_live) (And.intro (@fdV_size) (And.intro (@fdV_isAg) (And.intro (@fdV_cells) (And.intro (@List.getElem?_map.{0, 0}) (And.intro (@Int.natCast_nonneg) (And.intro hlt' (And.intro hg b)))))))))))))))) ?_
      exact Fin.oneP
    · refine wG Y62_BB (And.intro (@tyV_firm) (And.intro (@fdV_firm) (And.intro (@tyV_strip) (And.intro (@fdV_strip) (And.intro (@tyV_live) (And.intro (@tyV_size) (And.intro (@tyV_isAg) (And.intro (@tyV_cells) (And.intro (@fdV_live) (And.intro (@fdV_size) (And.intro (@fdV_isAg) (And.intro (@fdV_cells) (And.intro (@List.getElem?_map.{0, 0}) (And.intro (@Int.natCast_nonneg) (And.intro hlt' (And.intro hg (And.intro b hm1))))))))))))))))) ?_
      refine ALp.cutP 0 [(0, .sl (l.map fdV) .ro), (1, (.im (.int .i64 (o)))), (5, (.im (.int .i64 ((((m + 1 : Nat)) : Int)))))] [] True.intro ?_
      exact hnext (m + 1) (by omega) (by omega) (fun j hj h => by
        rcases Nat.lt_succ_iff_lt_or_eq.1 h with h1 | rfl
        · exact hI j hj h1
        · exact b)
  · have hlt' : ¬ (m : Int) < (l.length : Int) := by omega
    clear hnext
    rw [findI_none (fun j hj => hI j hj (by omega))]
    refine wG Y62_BB hlt' ?_
    exact Fin.oneP
theorem findI_cases (l : List Ty) (o : Int) : (findI l o = -1 ∧ ∀ j (hj : j < l.length), l[j].off ≠ o) ∨ ∃ k, ∃ hk : k < l.length, findI l o = k ∧ l[k].off = o := by
  unfold findI
  cases h : l.findIdx? (fun f => f.off == o) with
  | none =>
    rw [List.findIdx?_eq_none_iff] at h
    exact .inl ⟨rfl, fun j hj => by simpa using h l[j] (List.getElem_mem hj)⟩
  | some k =>
    rw [List.findIdx?_eq_some_iff_getElem] at h
    obtain ⟨hk, hp, _⟩ := h
    exact .inr ⟨k, hk, rfl, by simpa using hp⟩
theorem Y38_BB : type_of% (And.intro @F_ag_22 (And.intro @F_ag_23 (And.intro @F_ag_25 (And.intro @F_ag_3 (And.intro @F_el_22 (And.intro @F_el_23 (And.intro @F_fl_25_0 (And.intro @F_fl_25_1 (And.intro @F_fl_25_2 (And.intro @F_fl_25_3 (And.intro @F_fl_25_4 (And.intro @F_fl_47_0 (And.intro @F_fl_47_1 (And.intro @F_sz_22 (And.intro @F_sz_23 (And.intro @F_sz_25 (And.intro @F_sz_3 (@F_sz_47)))))))))))))))))) := And.intro @F_ag_22 (And.intro @F_ag_23 (And.intro @F_ag_25 (And.intro @F_ag_3 (And.intro @F_el_22 (And.intro @F_el_23 (And.intro @F_fl_25_0 (And.intro @F_fl_25_1 (And.intro @F_fl_25_2 (And.intro @F_fl_25_3 (And.intro @F_fl_25_4 (And.intro @F_fl_47_0 (And.intro @F_fl_47_1 (And.intro @F_sz_22 (And.intro @F_sz_23 (And.intro @F_sz_25 (And.intro @F_sz_3 (@F_sz_47)))))))))))))))))
set_option maxHeartbeats 1000000 in
theorem c_isSub : ∀ (b : Ty), fit b → frm b = true → ∀ (a : Ty), fit a → frm a = true → PC Tryz.prog 38 [tyV a, tyV b] (.im (.bool (subT a b))) := by
  refine Ty.induct fun o k s c es fs hE hF => ?_
  intro hfit hfrm a hfita hfrma
  obtain ⟨hl1, hl2, hfE, hfF⟩ := fit_mk hfit
  obtain ⟨hb, hof, hfs, hes⟩ := frm_inv hfrm
  obtain ⟨oa, ka, sa, ca, ea, fa⟩ := a
  obtain ⟨ha1, ha2, haE, haF⟩ := fit_mk hfita
  obtain ⟨hba, haof, hafs, haes⟩ := frm_inv hfrma
  refine PC.enter 93 Tryz.func38 rfl (by decide) rfl rfl (s := [(0, tyV (.mk oa ka sa ca ea fa)), (1, tyV (.mk o k s c es fs))]) (by rfl) ?_
  simp only [tyV_mk]
  rw [subT_mk2]
  by_cases h0 : ka = 0
  · subst h0
    simp only [Int.reduceBEq, Bool.true_or, if_true]
    refine wG Y38_BB True.intro ?_
    exact Fin.oneP
  by_cases h6 : k = 6
  · subst h6
    simp only [Int.reduceBEq, Bool.or_true, if_true]
    refine wG Y38_BB h0 ?_
    exact Fin.oneP
  have e0 : (ka == 0 || k == 6) = false := by simp [h0, h6]
  rw [e0]
  simp only [Bool.false_eq_true, if_false]
  by_cases hk : ka = k
  case neg =>
    have e1 : (ka != k) = true := by simp [hk]
    rw [e1]
    simp only [if_true]
    refine wG Y38_BB (And.intro h0 (And.intro h6 hk)) ?_
    exact Fin.oneP
  subst hk
  have e1 : (ka != ka) = false := by simp
  rw [e1]
  simp only [Bool.false_eq_true, if_false]
  rcases base_cases hb with h | h | h | h | h
  · omega
  · obtain ⟨h, _⟩ := h
    have e2 : (ka == 1 || ka == 2) = true := by rcases h with rfl | rfl <;> rfl
    rw [e2]
    simp only [if_true]
    by_cases hsz : sa = s
    · have e3 : (sa == s) = true := by simp [hsz]
      rw [e3]
      rcases h with rfl | rfl
      all_goals
        refine wG Y38_BB hsz ?_
        exact Fin.oneP
    · have e3 : (sa == s) = false := by simp [hsz]
      rw [e3]
      rcases h with rfl | rfl
      all_goals
        refine wG Y38_BB hsz ?_
        exact Fin.oneP
  · obtain ⟨rfl, _, _, h4, _⟩ := h
    have h4a : ea.length = 1 := by rcases base_cases hba with q | q | q | q | q <;> omega
    obtain ⟨x, rfl⟩ := List.length_eq_one_iff.1 h4
    obtain ⟨y, rfl⟩ := List.length_eq_one_iff.1 h4a
    simp only [Int.reduceBEq, Bool.or_false, Bool.false_eq_true, if_false, if_true, hd2]
    have hc := hE x (by simp) (hfE x (by simp)) (hes x (by simp)) y (haE y (by simp)) (haes y (by simp))
    refine wdG Y38_BB (And.intro (@tyV_firm) (And.intro (@fdV_firm) (And.intro (@tyV_strip) (And.intro (@fdV_strip) (And.intro (@tyV_live) (And.intro (@tyV_size) (And.intro (@tyV_isAg) (And.intro (@tyV_cells) (And.intro (@fdV_live) (And.intro (@fdV_size) (And.intro (@fdV_isAg) (And.intro (@fdV_cells) (And.intro (@List.getElem?_map.{0, 0}) @Int.natCast_nonneg))))))))))))) ?_
    refine AR.callP hc @tyV_eq True.intro ?_
    refine goG Y38_BB True.intro ?_
    refine wdG Y38_BB True.intro ?_
    exact Fin.oneP
  · obtain ⟨rfl, _, _, _, h4, _⟩ := h
    have h4a : ea.length = 1 := by rcases base_cases hba with q | q | q | q | q <;> omega
    obtain ⟨x, rfl⟩ := List.length_eq_one_iff.1 h4
    obtain ⟨y, rfl⟩ := List.length_eq_one_iff.1 h4a
    simp only [Int.reduceBEq, Bool.or_false, Bool.false_eq_true, if_false, if_true, hd2]
    have hc := hE x (by simp) (hfE x (by simp)) (hes x (by simp)) y (haE y (by simp)) (haes y (by simp))
    cases hsub : subT y x with
    | true =>
      rw [hsub] at hc
      by_cases hcc : ca ≥ c
      · have e3 : decide (c ≤ ca) = true := by simp; omega
        rw [e3, Bool.true_and]
        refine wdG Y38_BB (And.intro (@tyV_firm) (And.intro (@fdV_firm) (And.intro (@tyV_strip) (And.intro (@fdV_strip) (And.intro (@tyV_live) (And.intro (@tyV_size) (And.intro (@tyV_isAg) (And.intro (@tyV_cells) (And.intro (@fdV_live) (And.intro (@fdV_size) (And.intro (@fdV_isAg) (And.intro (@fdV_cells) (And.intro (@List.getElem?_map.{0, 0}) @Int.natCast_nonneg))))))))))))) ?_
        refine AR.callP hc @tyV_eq True.intro ?_
        refine goG Y38_BB hcc ?_
        refine wdG Y38_BB hcc ?_
        exact Fin.oneP
      · have e3 : decide (c ≤ ca) = false := by simp; omega
        rw [e3, Bool.false_and]
        refine wdG Y38_BB (And.intro (@tyV_firm) (And.intro (@fdV_firm) (And.intro (@tyV_strip) (And.intro (@fdV_strip) (And.intro (@tyV_live) (And.intro (@tyV_size) (And.intro (@tyV_isAg) (And.intro (@tyV_cells) (And.intro (@fdV_live) (And.intro (@fdV_size) (And.intro (@fdV_isAg) (And.intro (@fdV_cells) (And.intro (@List.getElem?_map.{0, 0}) @Int.natCast_nonneg))))))))))))) ?_
        refine AR.callP hc @tyV_eq True.intro ?_
        refine goG Y38_BB hcc ?_
        refine wdG Y38_BB hcc ?_
        exact Fin.oneP
    | false =>
      rw [hsub] at hc
      rw [Bool.and_false]
      refine wdG Y38_BB (And.intro (@tyV_firm) (And.intro (@fdV_firm) (And.intro (@tyV_strip) (And.intro (@fdV_strip) (And.intro (@tyV_live) (And.intro (@tyV_size) (And.intro (@tyV_isAg) (And.intro (@tyV_cells) (And.intro (@fdV_live) (And.intro (@fdV_size) (And.intro (@fdV_isAg) (And.intro (@fdV_cells) (And.intro (@List.getElem?_map.{0, 0}) @Int.natCast_nonneg))))))))))))) ?_
      refine AR.callP hc @tyV_eq True.intro ?_
      refine goG Y38_BB True.intro ?_
      refine wdG Y38_BB True.intro ?_
      exact Fin.oneP
  · obtain ⟨rfl, _⟩ := h
    simp only [Int.reduceBEq, Bool.or_false, Bool.false_eq_true, if_false]
    refine wG Y38_BB (And.intro (@tyV_firm) (And.intro (@fdV_firm) (And.intro (@tyV_strip) (And.intro (@fdV_strip) (And.intro (@tyV_live) (And.intro (@tyV_size) (And.intro (@tyV_isAg) (And.intro (@tyV_cells) (And.intro (@fdV_live) (And.intro (@fdV_size) (And.intro (@fdV_isAg) (And.intro (@fdV_cells) (And.intro (@List.getElem?_map.{0, 0}) @Int.natCast_nonneg))))))))))))) ?_
    refine AWp.loop ?_
    refine ALp.cutP 2 [(2, .pt 0 0), (3, .pt 1 0), (5, (.im (.int .i64 ((((0 : Nat)) : Int)))))] [.box [.im (.int .i64 5), .im (.int .i64 sa), .im (.int .i64 ca), .sl (ea.map tyV) .ro, .sl (fa.map fdV) .ro], .box [.im (.int .i64 5), .im (.int .i64 s), .im (.int .i64 c), .sl (es.map tyV) .ro, .sl (fs.map fdV) .ro]] True.intro ?_
    refine ALp.upto fs.length (AllTo (fun f => fa.any fun x => x.off == f.off && subT x f) fs) (fun m => ⟨dn 93 [(2, .pt 0 0), (3, .pt 1 0), (5, (.im (.int .i64 ((((m : Nat)) : Int)))))], ofl [.box [.im (.int .i64 5), .im (.int .i64 sa), .im (.int .i64 ca), .sl (ea.map tyV) .ro, .sl (fa.map fdV) .ro], .box [.im (.int .i64 5), .im (.int .i64 s), .im (.int .i64 c), .sl (es.map tyV) .ro, .sl (fs.map fdV) .ro]]⟩) ?_ 0 (Nat.zero_le _) (AllTo.zero _ _)
    intro m hm hI hnext
    by_cases hlt : m < fs.length
    · have hlt' : (m : Int) < (fs.length : Int) := by omega
      have hg := get_some hlt
      have hm1 := wrap_succ hlt (by omega)
      have hfi := c_find (l := fa) fs[m].off ha2
      refine wdG Y38_BB (And.intro (@tyV_firm) (And.intro (@fdV_firm) (And.intro (@tyV_strip) (And.intro (@fdV_strip) (And.intro (@tyV_live) (And.intro (@tyV_size) (And.intro (@tyV_isAg) (And.intro (@tyV_cells) (And.intro (@fdV_live) (And.intro (@fdV_size) (And.intro (@fdV_isAg) (And.intro (@fdV_cells) (And.intro (@List.getElem?_map.{0, 0}) (And.intro (@Int.natCast_nonneg) (And.intro hlt' hg))))))))))))))) ?_
      refine AR.callP hfi @fdV_eq True.intro ?_
      rcases findI_cases fa fs[m].off with ⟨q1, q2⟩ | ⟨j, hj, q1, q2⟩
      · rw [q1]
        refine goG Y38_BB True.intro ?_
        refine wdG Y38_BB True.intro ?_
        rw [not_all_of (f := fun f => fa.any fun x => x.off == f.off && subT x f) hlt (any_none _ q2)]
        exact Fin.oneP
      · rw [q1]
        have hc := hF fs[m] (List.getElem_mem hlt) (hfF _ (List.getElem_mem hlt)) (hfs _ (List.getElem_mem hlt)) fa[j] (haF _ (List.getElem_mem hj)) (hafs _ (List.getElem_mem hj))
        have hgj := get_some hj
        have hneg : ¬ ((j : Nat) : Int) < 0 := by omega
        have hany := any_at haof (fun x => subT x fs[m]) hj q2
        cases hsub : subT fa[j] fs[m] with
        | true =>
          rw [hsub] at hc hany
          refine goG Y38_BB True.intro ?_
          refine wdG Y38_BB (And.intro (@tyV_firm) (And.intro (@fdV_firm) (And.intro (@tyV_strip) (And.intro (@fdV_strip) (And.intro (@tyV_live) (And.intro (@tyV_size) (And.intro (@tyV_isAg) (And.intro (@tyV_cells) (And.intro (@fdV_live) (And.intro (@fdV_size) (And.intro (@fdV_isAg) (And.intro (@fdV_cells) (And.intro (@List.getElem?_map.{0, 0}) (And.intro (@Int.natCast_nonneg) (And.intro hneg (And.intro hgj hg)))))))))))))))) ?_
          refine AR.callP hc @tyV_eq True.intro ?_
          refine goG Y38_BB hneg ?_
          refine wdG Y38_BB hm1 ?_
          refine ALp.cutP 2 [(2, .pt 0 0), (3, .pt 1 0), (5, (.im (.int .i64 ((((m + 1 : Nat)) : Int)))))] [.box [.im (.int .i64 5), .im (.int .i64 sa), .im (.int .i64 ca), .sl (ea.map tyV) .ro, .sl (fa.map fdV) .ro], .box [.im (.int .i64 5), .im (.int .i64 s), .im (.int .i64 c), .sl (es.map tyV) .ro, .sl (fs.map fdV) .ro]] True.intro ?_
          exact hnext (m + 1) (by omega) (by omega) (hI.succ hlt hany)
        | false =>
          rw [hsub] at hc hany
          refine goG Y38_BB True.intro ?_
          refine wdG Y38_BB (And.intro (@tyV_firm) (And.intro (@fdV_firm) (And.intro (@tyV_strip) (And.intro (@fdV_strip) (And.intro (@tyV_live) (And.intro (@tyV_size) (And.intro (@tyV_isAg) (And.intro (@tyV_cells) (And.intro (@fdV_live) (And.intro (@fdV_size) (And.intro (@fdV_isAg) (And.intro (@fdV_cells) (And.intro (@List.getElem?_map.{0, 0}) (And.intro (@Int.natCast_nonneg) (And.intro hneg (And.intro hgj hg)))))))))))))))) ?_
          refine AR.callP hc @tyV_eq True.intro ?_
          refine goG Y38_BB hneg ?_
          refine wdG Y38_BB hm1 ?_
          rw [not_all_of (f := fun f => fa.any fun x => x.off == f.off && subT x f) hlt hany]
          exact Fin.oneP
    · have hall := hI.done (by omega)
      have hlt' : ¬ (m : Int) < (fs.length : Int) := by omega
      clear hnext
      rw [hall]
      refine wG Y38_BB hlt' ?_
      exact Fin.oneP
theorem Y8_BB : type_of% (And.intro @F_ag_25 (@F_sz_25)) := And.intro @F_ag_25 (@F_sz_25)
theorem c_Sub (a b : Ty) (ha : fit a) (hb : fit b) : PC Tryz.prog 8 [tyV a, tyV b] (.im (.bool (good a && good b && subT a b))) := by
  have h1 := c_good a ha
  have h2 := c_good b hb
  refine PC.enter 16 Tryz.func8 rfl (by decide) rfl rfl (s := [(0, tyV a), (1, tyV b)]) (by rfl) ?_
  rw [tyV_eq a, tyV_eq b]
  cases ga : good a with
  | false =>
    rw [ga] at h1
    simp only [Bool.false_and]
    refine wG Y8_BB True.intro ?_
    refine AR.callP h1 @tyV_eq True.intro ?_
    refine goG Y8_BB True.intro ?_
    refine wG Y8_BB True.intro ?_
    exact Fin.oneP
  | true =>
    rw [ga] at h1
    cases gb : good b with
    | false =>
      rw [gb] at h2
      simp only [Bool.and_false, Bool.false_and]
      refine wG Y8_BB True.intro ?_
      refine AR.callP h1 @tyV_eq True.intro ?_
      refine goG Y8_BB True.intro ?_
      refine AR.callP h2 @tyV_eq True.intro ?_
      refine goG Y8_BB True.intro ?_
      refine wG Y8_BB True.intro ?_
      exact Fin.oneP
    | true =>
      rw [gb] at h2
      have h3 := c_sub b hb (good_frm gb) a ha (good_frm ga)
      simp only [Bool.true_and]
      refine wG Y8_BB True.intro ?_
      refine AR.callP h1 @tyV_eq True.intro ?_
      refine goG Y8_BB True.intro ?_
      refine AR.callP h2 @tyV_eq True.intro ?_
      refine goG Y8_BB True.intro ?_
      refine AR.callP h3 @tyV_eq True.intro ?_
      refine goG Y8_BB True.intro ?_
      refine wG Y8_BB True.intro ?_
      exact Fin.oneP
theorem good_chk {t : Ty} (h : good t = true) : chk t = 0 := by unfold good at h; simpa using h
theorem bad_chk {t : Ty} (h : good t = false) : ¬ chk t = 0 := by unfold good at h; simpa using h
theorem Y9_BB : type_of% (And.intro @F_ag_25 (@F_sz_25)) := And.intro @F_ag_25 (@F_sz_25)
theorem c_SubR (a b : Ty) (ha : fit a) (hb : fit b) : PC Tryz.prog 9 [tyV a, tyV b] (.im (.bool (good a && good b && subT a b))) := by
  have h1 := c_checkR a ha
  have h2 := c_checkR b hb
  refine PC.enter 18 Tryz.func9 rfl (by decide) rfl rfl (s := [(0, tyV a), (1, tyV b)]) (by rfl) ?_
  rw [tyV_eq a, tyV_eq b]
  cases ga : good a with
  | false =>
    have ca := bad_chk ga
    simp only [Bool.false_and]
    refine wG Y9_BB True.intro ?_
    refine AR.callP h1 @tyV_eq True.intro ?_
    refine goG Y9_BB ca ?_
    refine wG Y9_BB ca ?_
    exact Fin.oneP
  | true =>
    have ca := good_chk ga
    cases gb : good b with
    | false =>
      have cb := bad_chk gb
      simp only [Bool.and_false, Bool.false_and]
      refine wG Y9_BB True.intro ?_
      refine AR.callP h1 @tyV_eq True.intro ?_
      refine goG Y9_BB ca ?_
      refine AR.callP h2 @tyV_eq True.intro ?_
      refine goG Y9_BB cb ?_
      refine wG Y9_BB True.intro ?_
      exact Fin.oneP
    | true =>
      have cb := good_chk gb
      have h3 := c_isSub b hb (good_frm gb) a ha (good_frm ga)
      simp only [Bool.true_and]
      refine wG Y9_BB True.intro ?_
      refine AR.callP h1 @tyV_eq True.intro ?_
      refine goG Y9_BB ca ?_
      refine AR.callP h2 @tyV_eq True.intro ?_
      refine goG Y9_BB cb ?_
      refine AR.callP h3 @tyV_eq True.intro ?_
      refine goG Y9_BB True.intro ?_
      refine wG Y9_BB True.intro ?_
      exact Fin.oneP
/-- It says nothing. -/
def freeT (t : Ty) : Bool := t.kind == 0 || t.kind == 6
def wordT (t : Ty) : Bool := t.kind == 2 && t.size == 4
end Go.Proofs.YtchjncoadhigmaaGreatDoor
