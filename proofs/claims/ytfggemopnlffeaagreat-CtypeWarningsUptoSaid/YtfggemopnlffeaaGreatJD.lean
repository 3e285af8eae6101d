import Derived.Test.YtfggemopnlffeaaGreatHv
import Derived.Test.YtfggemopnlffeaaGreatJB
import Derived.Test.YtfggemopnlffeaaGreatJC
namespace Go.Proofs.YtfggemopnlffeaaGreat
set_option linter.unusedSimpArgs false
set_option linter.unusedVariables false
set_option linter.unnecessarySimpa false
open Go.RowKit
theorem Y129_BB : type_of% (AI @F_ag_3 (AI @F_el_39 (AI @F_fl_64_0 (AI @F_sz_3 (@F_sz_64))))) := AI @F_ag_3 (AI @F_el_39 (AI @F_fl_64_0 (AI @F_sz_3 (@F_sz_64))))
theorem G129_BB : type_of% (AI (@tyV_firm) (AI (@fdV_firm) (AI (@tyV_strip) (AI (@fdV_strip) (AI (@tyV_live) (AI (@tyV_size) (AI (@tyV_isAg) (AI (@tyV_cells) (AI (@fdV_live) (AI (@fdV_size) (AI (@fdV_isAg) (AI (@fdV_cells) (AI (@List.getElem?_map.{0, 0}) @Int.natCast_nonneg))))))))))))) := (AI (@tyV_firm) (AI (@fdV_firm) (AI (@tyV_strip) (AI (@fdV_strip) (AI (@tyV_live) (AI (@tyV_size) (AI (@tyV_isAg) (AI (@tyV_cells) (AI (@fdV_live) (AI (@fdV_size) (AI (@fdV_isAg) (AI (@fdV_cells) (AI (@List.getElem?_map.{0, 0}) @Int.natCast_nonneg)))))))))))))
theorem c_find {l : List Ty} (o : Int) (hl : l.length ≤ 4194304) : PC Tryz.prog 129 [.sl (l.map fdV) .ro, (.im (.int .i64 (o)))] (.im (.int .i64 (findI l o))) := by
  refine PC.enter 20 Tryz.func129 rfl (by decide) rfl rfl (s := [(0, .sl (l.map fdV) .ro), (1, (.im (.int .i64 (o))))]) (by rfl) ?_
  refine wG Y129_BB @G129_BB ?_
  refine AWp.loop ?_
  refine ALp.cut 0 [(0, .sl (l.map fdV) .ro), (1, (.im (.int .i64 (o)))), (5, (.im (.int .i64 ((((0 : Nat)) : Int)))))] [] ?_ rfl (by repeat (first | exact WkA.nil | refine WkA.cons (Wk.refl _) ?_)) (fun i hi => by first | exact absurd rfl hi) (by simp [idsA, V.ids, V.idsL, ltB, fdL_id]) (by simp)
  refine ALp.upto l.length (fun m => ∀ j (hj : j < l.length), j < m → l[j].off ≠ o) (fun m => ⟨dn 20 [(0, .sl (l.map fdV) .ro), (1, (.im (.int .i64 (o)))), (5, (.im (.int .i64 ((((m : Nat)) : Int)))))], ofl []⟩) ?_ 0 (Nat.zero_le _) (fun j _ h => absurd h (Nat.not_lt_zero _))
  intro m hm hI hnext
  by_cases hlt : m < l.length
  · have hlt' : (m : Int) < (l.length : Int) := by omega
    have hg := get_some hlt
    have hm1 := wrap_succ hlt (by omega)
    by_cases b : l[m].off = o
    · rw [findI_some hlt b hI]
      refine wG Y129_BB (AI (@G129_BB) (AI hlt' (AI hg b))) ?_
      exact Fin.oneP
    · refine wG Y129_BB (AI (@G129_BB) (AI hlt' (AI hg (AI b hm1)))) ?_
      refine ALp.cutP 0 [(0, .sl (l.map fdV) .ro), (1, (.im (.int .i64 (o)))), (5, (.im (.int .i64 ((((m + 1 : Nat)) : Int)))))] [] True.intro ?_
      exact hnext (m + 1) (by omega) (by omega) (fun j hj h => by
        rcases Nat.lt_succ_iff_lt_or_eq.1 h with h1 | rfl
        · exact hI j hj h1
        · exact b)
  · have hlt' : ¬ (m : Int) < (l.length : Int) := by omega
    clear hnext
    rw [findI_none (fun j hj => hI j hj (by omega))]
    refine wG Y129_BB (AI (@G129_BB) hlt') ?_
    exact Fin.oneP
theorem findI_cases (l : List Ty) (o : Int) : (findI l o = -1 ∧ ∀ j (hj : j < l.length), l[j].off ≠ o) ∨ ∃ k, ∃ hk : k < l.length, findI l o = k ∧ l[k].off = o := by
  unfold findI
  cases h : l.findIdx? (fun f => f.off == o) with
  | none =>
    rw [List.findIdx?_eq_none_iff] at h
    exact .inl ⟨rfl, fun j hj => by simpa using h l[j] (List.getElem_mem hj)⟩
  | some k =>
    rw [List.findIdx?_eq_some_iff_getElem] at h
    obtain ⟨hk, hp, _⟩ := h
    exact .inr ⟨k, hk, rfl, by simpa using hp⟩
theorem Y115_BB : type_of% (AI @F_ag_3 (AI @F_ag_38 (AI @F_ag_39 (AI @F_ag_41 (AI @F_el_38 (AI @F_el_39 (AI @F_fl_41_0 (AI @F_fl_41_1 (AI @F_fl_41_2 (AI @F_fl_41_3 (AI @F_fl_41_4 (AI @F_fl_64_0 (AI @F_fl_64_1 (AI @F_sz_3 (AI @F_sz_38 (AI @F_sz_39 (AI @F_sz_41 (@F_sz_64)))))))))))))))))) := AI @F_ag_3 (AI @F_ag_38 (AI @F_ag_39 (AI @F_ag_41 (AI @F_el_38 (AI @F_el_39 (AI @F_fl_41_0 (AI @F_fl_41_1 (AI @F_fl_41_2 (AI @F_fl_41_3 (AI @F_fl_41_4 (AI @F_fl_64_0 (AI @F_fl_64_1 (AI @F_sz_3 (AI @F_sz_38 (AI @F_sz_39 (AI @F_sz_41 (@F_sz_64)))))))))))))))))
theorem G115_BB : type_of% (AI (@tyV_firm) (AI (@fdV_firm) (AI (@tyV_strip) (AI (@fdV_strip) (AI (@tyV_live) (AI (@tyV_size) (AI (@tyV_isAg) (AI (@tyV_cells) (AI (@fdV_live) (AI (@fdV_size) (AI (@fdV_isAg) (AI (@fdV_cells) (AI (@List.getElem?_map.{0, 0}) @Int.natCast_nonneg))))))))))))) := (AI (@tyV_firm) (AI (@fdV_firm) (AI (@tyV_strip) (AI (@fdV_strip) (AI (@tyV_live) (AI (@tyV_size) (AI (@tyV_isAg) (AI (@tyV_cells) (AI (@fdV_live) (AI (@fdV_size) (AI (@fdV_isAg) (AI (@fdV_cells) (AI (@List.getElem?_map.{0, 0}) @Int.natCast_nonneg)))))))))))))
set_option maxHeartbeats 1000000 in
theorem c_isSub : ∀ (b : Ty), fit b → frm b = true → ∀ (a : Ty), fit a → frm a = true → PC Tryz.prog 115 [tyV a, tyV b] (.im (.bool (subT a b))) := by
  refine Ty.induct fun o k s c es fs hE hF => ?_
  intro hfit hfrm a hfita hfrma
  obtain ⟨hl1, hl2, hfE, hfF⟩ := fit_mk hfit
  obtain ⟨hb, hof, hfs, hes⟩ := frm_inv hfrm
  obtain ⟨oa, ka, sa, ca, ea, fa⟩ := a
  obtain ⟨ha1, ha2, haE, haF⟩ := fit_mk hfita
  obtain ⟨hba, haof, hafs, haes⟩ := frm_inv hfrma
  refine PC.enter 93 Tryz.func115 rfl (by decide) rfl rfl (s := [(0, tyV (.mk oa ka sa ca ea fa)), (1, tyV (.mk o k s c es fs))]) (by rfl) ?_
  simp only [tyV_mk]
  rw [subT_mk2]
  by_cases h0 : ka = 0
  · subst h0
    simp only [Int.reduceBEq, Bool.true_or, if_true]
    refine wG Y115_BB @G115_BB ?_
    exact Fin.oneP
  by_cases h6 : k = 6
  · subst h6
    simp only [Int.reduceBEq, Bool.or_true, if_true]
    refine wG Y115_BB (AI (@G115_BB) h0) ?_
    exact Fin.oneP
  have e0 : (ka == 0 || k == 6) = false := by simp [h0, h6]
  rw [e0]
  simp only [Bool.false_eq_true, if_false]
  by_cases hk : ka = k
  case neg =>
    have e1 : (ka != k) = true := by simp [hk]
    rw [e1]
    simp only [if_true]
    refine wG Y115_BB (AI (@G115_BB) (AI h0 (AI h6 hk))) ?_
    exact Fin.oneP
  subst hk
  have e1 : (ka != ka) = false := by simp
  rw [e1]
  simp only [Bool.false_eq_true, if_false]
  rcases base_cases hb with h | h | h | h | h
  · omega
  · obtain ⟨h, _⟩ := h
    have e2 : (ka == 1 || ka == 2) = true := by rcases h with rfl | rfl <;> rfl
    rw [e2]
    simp only [if_true]
    by_cases hsz : sa = s
    · have e3 : (sa == s) = true := by simp [hsz]
      rw [e3]
      rcases h with rfl | rfl
      all_goals
        refine wG Y115_BB (AI (@G115_BB) hsz) ?_
        exact Fin.oneP
    · have e3 : (sa == s) = false := by simp [hsz]
      rw [e3]
      rcases h with rfl | rfl
      all_goals
        refine wG Y115_BB (AI (@G115_BB) hsz) ?_
        exact Fin.oneP
  · obtain ⟨rfl, _, _, h4, _⟩ := h
    have h4a : ea.length = 1 := by rcases base_cases hba with q | q | q | q | q <;> omega
    obtain ⟨x, rfl⟩ := List.length_eq_one_iff.1 h4
    obtain ⟨y, rfl⟩ := List.length_eq_one_iff.1 h4a
    simp only [Int.reduceBEq, Bool.or_false, Bool.false_eq_true, if_false, if_true, hd2]
    have hc := hE x (by simp) (hfE x (by simp)) (hes x (by simp)) y (haE y (by simp)) (haes y (by simp))
    refine wdG Y115_BB @G115_BB ?_
    refine AR.callP hc @tyV_eq True.intro ?_
    refine goG Y115_BB @G115_BB ?_
    refine wdG Y115_BB @G115_BB ?_
    exact Fin.oneP
  · obtain ⟨rfl, _, _, _, h4, _⟩ := h
    have h4a : ea.length = 1 := by rcases base_cases hba with q | q | q | q | q <;> omega
    obtain ⟨x, rfl⟩ := List.length_eq_one_iff.1 h4
    obtain ⟨y, rfl⟩ := List.length_eq_one_iff.1 h4a
    simp only [Int.reduceBEq, Bool.or_false, Bool.false_eq_true, if_false, if_true, hd2]
    have hc := hE x (by simp) (hfE x (by simp)) (hes x (by simp)) y (haE y (by simp)) (haes y (by simp))
    cases hsub : subT y x with
    | true =>
      rw [hsub] at hc
      by_cases hcc : ca ≥ c
      · have e3 : decide (c ≤ ca) = true := by simp; omega
        rw [e3, Bool.true_and]
        refine wdG Y115_BB @G115_BB ?_
        refine AR.callP hc @tyV_eq True.intro ?_
        refine goG Y115_BB (AI (@G115_BB) hcc) ?_
        refine wdG Y115_BB (AI (@G115_BB) hcc) ?_
        exact Fin.oneP
      · have e3 : decide (c ≤ ca) = false := by simp; omega
        rw [e3, Bool.false_and]
        refine wdG Y115_BB @G115_BB ?_
        refine AR.callP hc @tyV_eq True.intro ?_
        refine goG Y115_BB (AI (@G115_BB) hcc) ?_
        refine wdG Y115_BB (AI (@G115_BB) hcc) ?_
        exact Fin.oneP
    | false =>
      rw [hsub] at hc
      rw [Bool.and_false]
      refine wdG Y115_BB @G115_BB ?_
      refine AR.callP hc @tyV_eq True.intro ?_
      refine goG Y115_BB @G115_BB ?_
      refine wdG Y115_BB @G115_BB ?_
      exact Fin.oneP
  · obtain ⟨rfl, _⟩ := h
    simp only [Int.reduceBEq, Bool.or_false, Bool.false_eq_true, if_false]
    refine wG Y115_BB @G115_BB ?_
    refine AWp.loop ?_
    refine ALp.cutP 2 [(2, .pt 0 0), (3, .pt 1 0), (5, (.im (.int .i64 ((((0 : Nat)) : Int)))))] [.box [.im (.int .i64 5), .im (.int .i64 sa), .im (.int .i64 ca), .sl (ea.map tyV) .ro, .sl (fa.map fdV) .ro], .box [.im (.int .i64 5), .im (.int .i64 s), .im (.int .i64 c), .sl (es.map tyV) .ro, .sl (fs.map fdV) .ro]] True.intro ?_
    refine ALp.upto fs.length (AllTo (fun f => fa.any fun x => x.off == f.off && subT x f) fs) (fun m => ⟨dn 93 [(2, .pt 0 0), (3, .pt 1 0), (5, (.im (.int .i64 ((((m : Nat)) : Int)))))], ofl [.box [.im (.int .i64 5), .im (.int .i64 sa), .im (.int .i64 ca), .sl (ea.map tyV) .ro, .sl (fa.map fdV) .ro], .box [.im (.int .i64 5), .im (.int .i64 s), .im (.int .i64 c), .sl (es.map tyV) .ro, .sl (fs.map fdV) .ro]]⟩) ?_ 0 (Nat.zero_le _) (AllTo.zero _ _)
    intro m hm hI hnext
    by_cases hlt : m < fs.length
    · have hlt' : (m : Int) < (fs.length : Int) := by omega
      have hg := get_some hlt
      have hm1 := wrap_succ hlt (by omega)
      have hfi := c_find (l := fa) fs[m].off ha2
      refine wdG Y115_BB (AI (@G115_BB) (AI hlt' hg)) ?_
      refine AR.callP hfi @fdV_eq True.intro ?_
      rcases findI_cases fa fs[m].off with ⟨q1, q2⟩ | ⟨j, hj, q1, q2⟩
      · rw [q1]
        refine goG Y115_BB @G115_BB ?_
        refine wdG Y115_BB @G115_BB ?_
        rw [not_all_of (f := fun f => fa.any fun x => x.off == f.off && subT x f) hlt (any_none _ q2)]
        exact Fin.oneP
      · rw [q1]
        have hc := hF fs[m] (List.getElem_mem hlt) (hfF _ (List.getElem_mem hlt)) (hfs _ (List.getElem_mem hlt)) fa[j] (haF _ (List.getElem_mem hj)) (hafs _ (List.getElem_mem hj))
        have hgj := get_some hj
        have hneg : ¬ ((j : Nat) : Int) < 0 := by omega
        have hany := any_at haof (fun x => subT x fs[m]) hj q2
        cases hsub : subT fa[j] fs[m] with
        | true =>
          rw [hsub] at hc hany
          refine goG Y115_BB @G115_BB ?_
          refine wdG Y115_BB (AI (@G115_BB) (AI hneg (AI hgj hg))) ?_
          refine AR.callP hc @tyV_eq True.intro ?_
          refine goG Y115_BB (AI (@G115_BB) hneg) ?_
          refine wdG Y115_BB (AI (@G115_BB) hm1) ?_
          refine ALp.cutP 2 [(2, .pt 0 0), (3, .pt 1 0), (5, (.im (.int .i64 ((((m + 1 : Nat)) : Int)))))] [.box [.im (.int .i64 5), .im (.int .i64 sa), .im (.int .i64 ca), .sl (ea.map tyV) .ro, .sl (fa.map fdV) .ro], .box [.im (.int .i64 5), .im (.int .i64 s), .im (.int .i64 c), .sl (es.map tyV) .ro, .sl (fs.map fdV) .ro]] True.intro ?_
          exact hnext (m + 1) (by omega) (by omega) (hI.succ hlt hany)
        | false =>
          rw [hsub] at hc hany
          refine goG Y115_BB @G115_BB ?_
          refine wdG Y115_BB (AI (@G115_BB) (AI hneg (AI hgj hg))) ?_
          refine AR.callP hc @tyV_eq True.intro ?_
          refine goG Y115_BB (AI (@G115_BB) hneg) ?_
          refine wdG Y115_BB (AI (@G115_BB) hm1) ?_
          rw [not_all_of (f := fun f => fa.any fun x => x.off == f.off && subT x f) hlt hany]
          exact Fin.oneP
    · have hall := hI.done (by omega)
      have hlt' : ¬ (m : Int) < (fs.length : Int) := by omega
      clear hnext
      rw [hall]
      refine wG Y115_BB (AI (@G115_BB) hlt') ?_
      exact Fin.oneP
theorem Y33_BB : type_of% (AI @F_ag_41 (@F_sz_41)) := AI @F_ag_41 (@F_sz_41)
theorem c_Sub (a b : Ty) (ha : fit a) (hb : fit b) : PC Tryz.prog 33 [tyV a, tyV b] (.im (.bool (good a && good b && subT a b))) := by
  have h1 := c_good a ha
  have h2 := c_good b hb
  refine PC.enter 16 Tryz.func33 rfl (by decide) rfl rfl (s := [(0, tyV a), (1, tyV b)]) (by rfl) ?_
  rw [tyV_eq a, tyV_eq b]
  cases ga : good a with
  | false =>
    rw [ga] at h1
    simp only [Bool.false_and]
    refine wG Y33_BB True.intro ?_
    refine AR.callP h1 @tyV_eq True.intro ?_
    refine goG Y33_BB True.intro ?_
    refine wG Y33_BB True.intro ?_
    exact Fin.oneP
  | true =>
    rw [ga] at h1
    cases gb : good b with
    | false =>
      rw [gb] at h2
      simp only [Bool.and_false, Bool.false_and]
      refine wG Y33_BB True.intro ?_
      refine AR.callP h1 @tyV_eq True.intro ?_
      refine goG Y33_BB True.intro ?_
      refine AR.callP h2 @tyV_eq True.intro ?_
      refine goG Y33_BB True.intro ?_
      refine wG Y33_BB True.intro ?_
      exact Fin.oneP
    | true =>
      rw [gb] at h2
      have h3 := c_sub b hb (good_frm gb) a ha (good_frm ga)
      simp only [Bool.true_and]
      refine wG Y33_BB True.intro ?_
      refine AR.callP h1 @tyV_eq True.intro ?_
      refine goG Y33_BB True.intro ?_
      refine AR.callP h2 @tyV_eq True.intro ?_
      refine goG Y33_BB True.intro ?_
      refine AR.callP h3 @tyV_eq True.intro ?_
      refine goG Y33_BB True.intro ?_
      refine wG Y33_BB True.intro ?_
      exact Fin.oneP
theorem good_chk {t : Ty} (h : good t = true) : chk t = 0 := by unfold good at h; simpa using h
theorem bad_chk {t : Ty} (h : good t = false) : ¬ chk t = 0 := by unfold good at h; simpa using h
theorem Y80_BB : type_of% (AI @F_ag_41 (@F_sz_41)) := AI @F_ag_41 (@F_sz_41)
theorem c_SubR (a b : Ty) (ha : fit a) (hb : fit b) : PC Tryz.prog 80 [tyV a, tyV b] (.im (.bool (good a && good b && subT a b))) := by
  have h1 := c_checkR a ha
  have h2 := c_checkR b hb
  refine PC.enter 18 Tryz.func80 rfl (by decide) rfl rfl (s := [(0, tyV a), (1, tyV b)]) (by rfl) ?_
  rw [tyV_eq a, tyV_eq b]
  cases ga : good a with
  | false =>
    have ca := bad_chk ga
    simp only [Bool.false_and]
    refine wG Y80_BB True.intro ?_
    refine AR.callP h1 @tyV_eq True.intro ?_
    refine goG Y80_BB ca ?_
    refine wG Y80_BB ca ?_
    exact Fin.oneP
  | true =>
    have ca := good_chk ga
    cases gb : good b with
    | false =>
      have cb := bad_chk gb
      simp only [Bool.and_false, Bool.false_and]
      refine wG Y80_BB True.intro ?_
      refine AR.callP h1 @tyV_eq True.intro ?_
      refine goG Y80_BB ca ?_
      refine AR.callP h2 @tyV_eq True.intro ?_
      refine goG Y80_BB cb ?_
      refine wG Y80_BB True.intro ?_
      exact Fin.oneP
    | true =>
      have cb := good_chk gb
      have h3 := c_isSub b hb (good_frm gb) a ha (good_frm ga)
      simp only [Bool.true_and]
      refine wG Y80_BB True.intro ?_
      refine AR.callP h1 @tyV_eq True.intro ?_
      refine goG Y80_BB ca ?_
      refine AR.callP h2 @tyV_eq True.intro ?_
      refine goG Y80_BB cb ?_
      refine AR.callP h3 @tyV_eq True.intro ?_
      refine goG Y80_BB True.intro ?_
      refine wG Y80_BB True.intro ?_
      exact Fin.oneP
def freeT (t : Ty) : Bool := t.kind == 0 || t.kind == 6
def wordT (t : Ty) : Bool := t.kind == 2 && t.size == 4
theorem Y31_BB : type_of% (AI @F_ag_3 (AI @F_fl_41_0 (@F_sz_3))) := AI @F_ag_3 (AI @F_fl_41_0 (@F_sz_3))
theorem c_isFree (t : Ty) : PC Tryz.prog 31 [tyV t] (.im (.bool (freeT t))) := by
  refine PC.enter 11 Tryz.func31 rfl (by decide) rfl rfl (s := [(0, tyV t)]) (by rfl) ?_
  simp only [tyV_eq]
  unfold freeT
  by_cases h0 : t.kind = 0
  · have e : (t.kind == 0 || t.kind == 6) = true := by simp [h0]
    rw [e]
    refine wG Y31_BB h0 ?_
    exact Fin.oneP
  by_cases h6 : t.kind = 6
  · have e : (t.kind == 0 || t.kind == 6) = true := by simp [h6]
    rw [e]
    refine wG Y31_BB h6 ?_
    exact Fin.oneP
  · have e : (t.kind == 0 || t.kind == 6) = false := by simp [h0, h6]
    rw [e]
    refine wG Y31_BB (AI h0 h6) ?_
    exact Fin.oneP
theorem Y78_BB : type_of% (AI @F_ag_3 (AI @F_fl_41_0 (@F_sz_3))) := AI @F_ag_3 (AI @F_fl_41_0 (@F_sz_3))
theorem c_open (t : Ty) : PC Tryz.prog 78 [tyV t] (.im (.bool (freeT t))) := by
  refine PC.enter 11 Tryz.func78 rfl (by decide) rfl rfl (s := [(0, tyV t)]) (by rfl) ?_
  simp only [tyV_eq]
  unfold freeT
  by_cases h0 : t.kind = 0
  · have e : (t.kind == 0 || t.kind == 6) = true := by simp [h0]
    rw [e]
    refine wG Y78_BB h0 ?_
    exact Fin.oneP
  by_cases h6 : t.kind = 6
  · have e : (t.kind == 0 || t.kind == 6) = true := by simp [h6]
    rw [e]
    refine wG Y78_BB h6 ?_
    exact Fin.oneP
  · have e : (t.kind == 0 || t.kind == 6) = false := by simp [h0, h6]
    rw [e]
    refine wG Y78_BB (AI h0 h6) ?_
    exact Fin.oneP
theorem Y32_BB : type_of% (AI @F_ag_3 (AI @F_al_86 (AI @F_eq_86 (AI @F_fl_41_0 (AI @F_fl_41_1 (AI @F_st_86 (@F_sz_3))))))) := AI @F_ag_3 (AI @F_al_86 (AI @F_eq_86 (AI @F_fl_41_0 (AI @F_fl_41_1 (AI @F_st_86 (@F_sz_3))))))
theorem c_isWord (t : Ty) : PC Tryz.prog 32 [tyV t] (.im (.bool (wordT t))) := by
  refine PC.enter 10 Tryz.func32 rfl (by decide) rfl rfl (s := [(0, tyV t)]) (by rfl) ?_
  simp only [tyV_eq]
  unfold wordT
  by_cases h0 : t.kind = 2
  · by_cases h4 : t.size = 4
    · have e : (t.kind == 2 && t.size == 4) = true := by simp [h0, h4]
      rw [e]
      refine wG Y32_BB (AI h0 h4) ?_
      exact Fin.oneP
    · have e : (t.kind == 2 && t.size == 4) = false := by simp [h4]
      rw [e]
      refine wG Y32_BB (AI h0 h4) ?_
      exact Fin.oneP
  · have e : (t.kind == 2 && t.size == 4) = false := by simp [h0]
    rw [e]
    refine wG Y32_BB h0 ?_
    exact Fin.oneP
theorem Y79_BB : type_of% (AI @F_ag_3 (AI @F_fl_41_0 (AI @F_fl_41_1 (@F_sz_3)))) := AI @F_ag_3 (AI @F_fl_41_0 (AI @F_fl_41_1 (@F_sz_3)))
theorem c_word (t : Ty) : PC Tryz.prog 79 [tyV t] (.im (.bool (wordT t))) := by
  refine PC.enter 11 Tryz.func79 rfl (by decide) rfl rfl (s := [(0, tyV t)]) (by rfl) ?_
  simp only [tyV_eq]
  unfold wordT
  by_cases h0 : t.kind = 2
  · by_cases h4 : t.size = 4
    · have e : (t.kind == 2 && t.size == 4) = true := by simp [h0, h4]
      rw [e]
      refine wG Y79_BB (AI h0 h4) ?_
      exact Fin.oneP
    · have e : (t.kind == 2 && t.size == 4) = false := by simp [h4]
      rw [e]
      refine wG Y79_BB (AI h0 h4) ?_
      exact Fin.oneP
  · have e : (t.kind == 2 && t.size == 4) = false := by simp [h0]
    rw [e]
    refine wG Y79_BB h0 ?_
    exact Fin.oneP
end Go.Proofs.YtfggemopnlffeaaGreat
namespace Go.Proofs.YtfggemopnlffeaaGreat
set_option linter.unusedSimpArgs false
set_option linter.unusedVariables false
set_option linter.unnecessarySimpa false
open Go.RowKit
def accT (t : Ty) (off w : Int) : Bool :=
  if t.kind == 0 || t.kind == 6 || t.kind == 1 || t.kind == 2 then true
  else if t.kind == 3 then !good t || freeT (t.elem.headD tz) || (fieldA (t.elem.headD tz) off w).isSome
  else false
theorem ptr_elem {t : Ty} (hg : good t = true) (hk : t.kind = 3) : ∃ x, t.elem = [x] ∧ frm x = true := by
  cases t with
  | mk o k s c es fs =>
    obtain ⟨hb, _, _, hes⟩ := frm_inv (good_frm hg)
    obtain rfl : k = 3 := hk
    have h4 : es.length = 1 := by rcases base_cases hb with q | q | q | q | q <;> omega
    obtain ⟨x, rfl⟩ := List.length_eq_one_iff.1 h4
    exact ⟨x, rfl, hes x (by simp)⟩
theorem fit_elem {t : Ty} (h : fit t) {x : Ty} (hx : x ∈ t.elem) : fit x := by
  cases t with
  | mk o k s c es fs => exact (fit_mk h).2.2.1 x hx
theorem Y94_BC : type_of% (AI @F_ag_3 (AI @F_ag_38 (AI @F_ag_41 (AI @F_al_41 (AI @F_el_38 (AI @F_fl_41_0 (AI @F_fl_41_3 (AI @F_sz_3 (AI @F_sz_38 (@F_sz_41)))))))))) := AI @F_ag_3 (AI @F_ag_38 (AI @F_ag_41 (AI @F_al_41 (AI @F_el_38 (AI @F_fl_41_0 (AI @F_fl_41_3 (AI @F_sz_3 (AI @F_sz_38 (@F_sz_41)))))))))
theorem G94_BC : type_of% (AI (@tyV_firm) (AI (@fdV_firm) (AI (@tyV_strip) (AI (@fdV_strip) (AI (@tyV_live) (AI (@tyV_size) (AI (@tyV_isAg) (AI (@tyV_cells) (AI (@fdV_live) (AI (@fdV_size) (AI (@fdV_isAg) (AI (@fdV_cells) (AI (@List.getElem?_map.{0, 0}) @Int.natCast_nonneg))))))))))))) := (AI (@tyV_firm) (AI (@fdV_firm) (AI (@tyV_strip) (AI (@fdV_strip) (AI (@tyV_live) (AI (@tyV_size) (AI (@tyV_isAg) (AI (@tyV_cells) (AI (@fdV_live) (AI (@fdV_size) (AI (@fdV_isAg) (AI (@fdV_cells) (AI (@List.getElem?_map.{0, 0}) @Int.natCast_nonneg)))))))))))))
theorem c_Access (t : Ty) (hfit : fit t) (off w : Int) (hoff : I64 off) : PC Tryz.prog 94 [tyV t, (.im (.int .i64 (off))), (.im (.int .i64 (w)))] (.im (.bool (accT t off w))) := by
  have h1 := c_check t hfit
  refine PC.enter 39 Tryz.func94 rfl (by decide) rfl rfl (s := [(0, tyV t), (1, (.im (.int .i64 (off)))), (2, (.im (.int .i64 (w))))]) (by rfl) ?_
  rw [tyV_eq t]
  unfold accT
  by_cases hk : t.kind = 0 ∨ t.kind = 6 ∨ t.kind = 1 ∨ t.kind = 2
  · have e : (t.kind == 0 || t.kind == 6 || t.kind == 1 || t.kind == 2) = true := by rcases hk with h | h | h | h <;> simp [h]
    rw [e]
    simp only [if_true]
    rcases hk with hk | hk | hk | hk
    all_goals
      refine wG Y94_BC (AI (@G94_BC) hk) ?_
      exact Fin.oneP
  have e : (t.kind == 0 || t.kind == 6 || t.kind == 1 || t.kind == 2) = false := by simp; omega
  rw [e]
  simp only [Bool.false_eq_true, if_false]
  have k0 : ¬ t.kind = 0 := by omega
  have k6 : ¬ t.kind = 6 := by omega
  have k1 : ¬ t.kind = 1 := by omega
  have k2 : ¬ t.kind = 2 := by omega
  by_cases k3 : t.kind = 3
  case neg =>
    have e : (t.kind == 3) = false := by simp [k3]
    rw [e]
    simp only [Bool.false_eq_true, if_false]
    refine wG Y94_BC (AI (@G94_BC) (AI k0 (AI k6 (AI k1 (AI k2 k3))))) ?_
    exact Fin.oneP
  have e : (t.kind == 3) = true := by simp [k3]
  rw [e]
  simp only [if_true]
  cases hg : good t with
  | false =>
    have cb := bad_chk hg
    simp only [Bool.not_false, Bool.true_or]
    refine wG Y94_BC (AI (@G94_BC) k3) ?_
    refine AR.callP h1 (AI (@tyV_eq) k3) True.intro ?_
    refine goG Y94_BC (AI (@G94_BC) cb) ?_
    refine wG Y94_BC @G94_BC ?_
    exact Fin.oneP
  | true =>
    have cg := good_chk hg
    obtain ⟨x, hx, hxf⟩ := ptr_elem hg k3
    have hfx := fit_elem hfit (x := x) (by rw [hx]; simp)
    have h2 := c_isFree x
    rw [hx]
    simp only [Bool.not_true, Bool.false_or, List.headD_cons]
    cases hfr : freeT x with
    | true =>
      rw [hfr] at h2
      simp only [Bool.true_or]
      refine wG Y94_BC (AI (@G94_BC) k3) ?_
      refine AR.callP h1 (AI (@tyV_eq) (AI hx k3)) True.intro ?_
      refine goG Y94_BC (AI (@G94_BC) cg) ?_
      refine AR.callP h2 @tyV_eq True.intro ?_
      refine goG Y94_BC @G94_BC ?_
      refine wG Y94_BC @G94_BC ?_
      exact Fin.oneP
    | false =>
      rw [hfr] at h2
      have h3 := c_FieldAt x hfx off w hoff
      simp only [Bool.false_or]
      refine wG Y94_BC (AI (@G94_BC) k3) ?_
      refine AR.callP h1 (AI (@tyV_eq) (AI hx k3)) True.intro ?_
      refine goG Y94_BC (AI (@G94_BC) cg) ?_
      refine AR.callP h2 @tyV_eq True.intro ?_
      refine goG Y94_BC @G94_BC ?_
      refine wG Y94_BC @G94_BC ?_
      refine AR.callP h3 @tyV_eq True.intro ?_
      refine goG Y94_BC @G94_BC ?_
      refine wG Y94_BC @G94_BC ?_
      exact Fin.oneP
theorem Y82_BC : type_of% (AI @F_ag_3 (AI @F_ag_38 (AI @F_ag_41 (AI @F_al_41 (AI @F_el_38 (AI @F_fl_41_0 (AI @F_fl_41_3 (AI @F_sz_3 (AI @F_sz_38 (@F_sz_41)))))))))) := AI @F_ag_3 (AI @F_ag_38 (AI @F_ag_41 (AI @F_al_41 (AI @F_el_38 (AI @F_fl_41_0 (AI @F_fl_41_3 (AI @F_sz_3 (AI @F_sz_38 (@F_sz_41)))))))))
theorem G82_BC : type_of% (AI (@tyV_firm) (AI (@fdV_firm) (AI (@tyV_strip) (AI (@fdV_strip) (AI (@tyV_live) (AI (@tyV_size) (AI (@tyV_isAg) (AI (@tyV_cells) (AI (@fdV_live) (AI (@fdV_size) (AI (@fdV_isAg) (AI (@fdV_cells) (AI (@List.getElem?_map.{0, 0}) @Int.natCast_nonneg))))))))))))) := (AI (@tyV_firm) (AI (@fdV_firm) (AI (@tyV_strip) (AI (@fdV_strip) (AI (@tyV_live) (AI (@tyV_size) (AI (@tyV_isAg) (AI (@tyV_cells) (AI (@fdV_live) (AI (@fdV_size) (AI (@fdV_isAg) (AI (@fdV_cells) (AI (@List.getElem?_map.{0, 0}) @Int.natCast_nonneg)))))))))))))
theorem c_AccessR (t : Ty) (hfit : fit t) (off w : Int) (hoff : I64 off) : PC Tryz.prog 82 [tyV t, (.im (.int .i64 (off))), (.im (.int .i64 (w)))] (.im (.bool (accT t off w))) := by
  have h1 := c_checkR t hfit
  have h0 := c_open t
  refine PC.enter 45 Tryz.func82 rfl (by decide) rfl rfl (s := [(0, tyV t), (1, (.im (.int .i64 (off)))), (2, (.im (.int .i64 (w))))]) (by rfl) ?_
  rw [tyV_eq t]
  unfold accT
  cases hf : freeT t with
  | true =>
    rw [hf] at h0
    have e : (t.kind == 0 || t.kind == 6 || t.kind == 1 || t.kind == 2) = true := by
      have : (t.kind == 0 || t.kind == 6) = true := hf
      rw [this]; rfl
    rw [e]
    simp only [if_true]
    refine wG Y82_BC @G82_BC ?_
    refine AR.callP h0 @tyV_eq True.intro ?_
    refine goG Y82_BC @G82_BC ?_
    refine wG Y82_BC @G82_BC ?_
    exact Fin.oneP
  | false =>
  rw [hf] at h0
  have e0 : (t.kind == 0 || t.kind == 6) = false := hf
  have k0 : ¬ t.kind = 0 := by simp at e0; omega
  have k6 : ¬ t.kind = 6 := by simp at e0; omega
  rw [e0]
  by_cases k1 : t.kind = 1
  · have e : (t.kind == 1 || t.kind == 2) = true := by simp [k1]
    rw [Bool.false_or, e]
    simp only [if_true]
    refine wG Y82_BC @G82_BC ?_
    refine AR.callP h0 @tyV_eq True.intro ?_
    refine goG Y82_BC (AI (@G82_BC) k1) ?_
    refine wG Y82_BC @G82_BC ?_
    exact Fin.oneP
  by_cases k2 : t.kind = 2
  · have e : (t.kind == 1 || t.kind == 2) = true := by simp [k2]
    rw [Bool.false_or, e]
    simp only [if_true]
    refine wG Y82_BC @G82_BC ?_
    refine AR.callP h0 @tyV_eq True.intro ?_
    refine goG Y82_BC (AI (@G82_BC) k2) ?_
    refine wG Y82_BC @G82_BC ?_
    exact Fin.oneP
  have e : (t.kind == 1 || t.kind == 2) = false := by simp [k1, k2]
  rw [Bool.false_or, e]
  simp only [Bool.false_eq_true, if_false]
  by_cases k3 : t.kind = 3
  case neg =>
    have e : (t.kind == 3) = false := by simp [k3]
    rw [e]
    simp only [Bool.false_eq_true, if_false]
    refine wG Y82_BC @G82_BC ?_
    refine AR.callP h0 @tyV_eq True.intro ?_
    refine goG Y82_BC (AI (@G82_BC) (AI k1 k2)) ?_
    refine wG Y82_BC (AI (@G82_BC) k3) ?_
    exact Fin.oneP
  have e : (t.kind == 3) = true := by simp [k3]
  rw [e]
  simp only [if_true]
  cases hg : good t with
  | false =>
    have cb := bad_chk hg
    simp only [Bool.not_false, Bool.true_or]
    refine wG Y82_BC @G82_BC ?_
    refine AR.callP h0 @tyV_eq True.intro ?_
    refine goG Y82_BC (AI (@G82_BC) k3) ?_
    refine wG Y82_BC (AI (@G82_BC) k3) ?_
    refine AR.callP h1 (AI (@tyV_eq) k3) True.intro ?_
    refine goG Y82_BC (AI (@G82_BC) cb) ?_
    refine wG Y82_BC @G82_BC ?_
    exact Fin.oneP
  | true =>
    have cg := good_chk hg
    obtain ⟨x, hx, hxf⟩ := ptr_elem hg k3
    have hfx := fit_elem hfit (x := x) (by rw [hx]; simp)
    have h2 := c_open x
    rw [hx]
    simp only [Bool.not_true, Bool.false_or, List.headD_cons]
    cases hfr : freeT x with
    | true =>
      rw [hfr] at h2
      simp only [Bool.true_or]
      refine wG Y82_BC @G82_BC ?_
      refine AR.callP h0 (AI (@tyV_eq) hx) True.intro ?_
      refine goG Y82_BC (AI (@G82_BC) k3) ?_
      refine wG Y82_BC (AI (@G82_BC) k3) ?_
      refine AR.callP h1 (AI (@tyV_eq) (AI hx k3)) True.intro ?_
      refine goG Y82_BC (AI (@G82_BC) cg) ?_
      refine AR.callP h2 @tyV_eq True.intro ?_
      refine goG Y82_BC @G82_BC ?_
      refine wG Y82_BC @G82_BC ?_
      exact Fin.oneP
    | false =>
      rw [hfr] at h2
      have h3 := c_FieldAtR x hfx off w hoff
      simp only [Bool.false_or]
      refine wG Y82_BC @G82_BC ?_
      refine AR.callP h0 (AI (@tyV_eq) hx) True.intro ?_
      refine goG Y82_BC (AI (@G82_BC) k3) ?_
      refine wG Y82_BC (AI (@G82_BC) k3) ?_
      refine AR.callP h1 (AI (@tyV_eq) (AI hx k3)) True.intro ?_
      refine goG Y82_BC (AI (@G82_BC) cg) ?_
      refine AR.callP h2 @tyV_eq True.intro ?_
      refine goG Y82_BC @G82_BC ?_
      refine wG Y82_BC @G82_BC ?_
      refine AR.callP h3 @tyV_eq True.intro ?_
      refine goG Y82_BC @G82_BC ?_
      refine wG Y82_BC @G82_BC ?_
      exact Fin.oneP
def asgT (a b : Ty) : Bool := freeT a || freeT b || wordT a || wordT b || (good b && good a && subT b a)
theorem Y16_BC : type_of% (AI @F_ag_41 (@F_sz_41)) := AI @F_ag_41 (@F_sz_41)
theorem c_Assignable (a b : Ty) (ha : fit a) (hb : fit b) : PC Tryz.prog 16 [tyV a, tyV b] (.im (.bool (asgT a b))) := by
  have h1 := c_isFree a
  have h2 := c_isFree b
  have h3 := c_isWord a
  have h4 := c_isWord b
  have h5 := c_Sub b a hb ha
  refine PC.enter 24 Tryz.func16 rfl (by decide) rfl rfl (s := [(0, tyV a), (1, tyV b)]) (by rfl) ?_
  rw [tyV_eq a, tyV_eq b]
  unfold asgT
  refine wG Y16_BC True.intro ?_
  refine AR.callP h1 @tyV_eq True.intro ?_
  cases g1 : freeT a with
  | true =>
    simp only [Bool.true_or]
    refine goG Y16_BC True.intro ?_
    refine wG Y16_BC True.intro ?_
    exact Fin.oneP
  | false =>
  refine goG Y16_BC True.intro ?_
  refine AR.callP h2 @tyV_eq True.intro ?_
  cases g2 : freeT b with
  | true =>
    simp only [Bool.true_or, Bool.or_true]
    refine goG Y16_BC True.intro ?_
    refine wG Y16_BC True.intro ?_
    exact Fin.oneP
  | false =>
  refine goG Y16_BC True.intro ?_
  refine AR.callP h3 @tyV_eq True.intro ?_
  cases g3 : wordT a with
  | true =>
    simp only [Bool.true_or, Bool.or_true]
    refine goG Y16_BC True.intro ?_
    refine wG Y16_BC True.intro ?_
    exact Fin.oneP
  | false =>
  refine goG Y16_BC True.intro ?_
  refine AR.callP h4 @tyV_eq True.intro ?_
  cases g4 : wordT b with
  | true =>
    simp only [Bool.true_or, Bool.or_true]
    refine goG Y16_BC True.intro ?_
    refine wG Y16_BC True.intro ?_
    exact Fin.oneP
  | false =>
  simp only [Bool.false_or]
  refine goG Y16_BC True.intro ?_
  refine AR.callP h5 @tyV_eq True.intro ?_
  refine goG Y16_BC True.intro ?_
  refine wG Y16_BC True.intro ?_
  exact Fin.oneP
theorem Y46_BC : type_of% (AI @F_ag_41 (@F_sz_41)) := AI @F_ag_41 (@F_sz_41)
theorem c_AssignableR (a b : Ty) (ha : fit a) (hb : fit b) : PC Tryz.prog 46 [tyV a, tyV b] (.im (.bool (asgT a b))) := by
  have h1 := c_open a
  have h2 := c_open b
  have h3 := c_word a
  have h4 := c_word b
  have h5 := c_SubR b a hb ha
  refine PC.enter 22 Tryz.func46 rfl (by decide) rfl rfl (s := [(0, tyV a), (1, tyV b)]) (by rfl) ?_
  rw [tyV_eq a, tyV_eq b]
  unfold asgT
  refine wG Y46_BC True.intro ?_
  refine AR.callP h1 @tyV_eq True.intro ?_
  cases g1 : freeT a with
  | true =>
    simp only [Bool.true_or]
    refine goG Y46_BC True.intro ?_
    refine wG Y46_BC True.intro ?_
    exact Fin.oneP
  | false =>
  refine goG Y46_BC True.intro ?_
  refine AR.callP h2 @tyV_eq True.intro ?_
  cases g2 : freeT b with
  | true =>
    simp only [Bool.true_or, Bool.or_true]
    refine goG Y46_BC True.intro ?_
    refine wG Y46_BC True.intro ?_
    exact Fin.oneP
  | false =>
  refine goG Y46_BC True.intro ?_
  refine AR.callP h3 @tyV_eq True.intro ?_
  cases g3 : wordT a with
  | true =>
    simp only [Bool.true_or, Bool.or_true]
    refine goG Y46_BC True.intro ?_
    refine wG Y46_BC True.intro ?_
    exact Fin.oneP
  | false =>
  refine goG Y46_BC True.intro ?_
  refine AR.callP h4 @tyV_eq True.intro ?_
  cases g4 : wordT b with
  | true =>
    simp only [Bool.true_or, Bool.or_true]
    refine goG Y46_BC True.intro ?_
    refine wG Y46_BC True.intro ?_
    exact Fin.oneP
  | false =>
  simp only [Bool.false_or]
  refine goG Y46_BC True.intro ?_
  refine wG Y46_BC True.intro ?_
  refine AR.callP h5 @tyV_eq True.intro ?_
  refine goG Y46_BC True.intro ?_
  refine wG Y46_BC True.intro ?_
  exact Fin.oneP
end Go.Proofs.YtfggemopnlffeaaGreat
