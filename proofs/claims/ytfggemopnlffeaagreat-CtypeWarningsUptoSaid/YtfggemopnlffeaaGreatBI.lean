import Derived.Test.YtfggemopnlffeaaGreatHv
import Derived.Test.YtfggemopnlffeaaGreatJF
namespace Go.Proofs.YtfggemopnlffeaaGreat
set_option linter.unusedSimpArgs false
set_option linter.unusedVariables false
set_option linter.unnecessarySimpa false
open Go.RowKit
theorem Y128_BI : type_of% (AI @F_ag_3 (AI @F_ag_45 (AI @F_ag_46 (AI @F_ag_48 (AI @F_ag_9 (AI @F_el_46 (AI @F_fl_48_0 (AI @F_fl_48_1 (AI @F_fl_48_2 (AI @F_fl_48_3 (AI @F_fl_48_4 (AI @F_sz_3 (AI @F_sz_45 (AI @F_sz_46 (AI @F_sz_48 (@F_sz_9)))))))))))))))) := AI @F_ag_3 (AI @F_ag_45 (AI @F_ag_46 (AI @F_ag_48 (AI @F_ag_9 (AI @F_el_46 (AI @F_fl_48_0 (AI @F_fl_48_1 (AI @F_fl_48_2 (AI @F_fl_48_3 (AI @F_fl_48_4 (AI @F_sz_3 (AI @F_sz_45 (AI @F_sz_46 (AI @F_sz_48 (@F_sz_9)))))))))))))))
theorem G128_BI : type_of% (AI (@exV_firm) (AI (@exV_strip) (AI (@exV_live) (AI (@exV_size) (AI (@exV_isAg) (AI (@exV_cells) (AI (@vaV_firm) (AI (@vaV_strip) (AI (@vaV_live) (AI (@vaV_size) (AI (@vaV_isAg) (AI (@vaV_cells) (AI (@List.getElem?_map.{0, 0}) @Int.natCast_nonneg))))))))))))) := (AI (@exV_firm) (AI (@exV_strip) (AI (@exV_live) (AI (@exV_size) (AI (@exV_isAg) (AI (@exV_cells) (AI (@vaV_firm) (AI (@vaV_strip) (AI (@vaV_live) (AI (@vaV_size) (AI (@vaV_isAg) (AI (@vaV_cells) (AI (@List.getElem?_map.{0, 0}) @Int.natCast_nonneg)))))))))))))
set_option maxHeartbeats 2000000 in
theorem c_eformedR : ∀ (t : Ex), fitE t → PC Tryz.prog 128 [exV t] (.im (.bool (efm t))) := by
  refine Ex.induct fun o n s w l hE => ?_
  intro hfit
  obtain ⟨hl1, hfE⟩ := fitE_mk hfit
  have hsz := fitE_name hfit
  have hnm := c_NameR s hsz
  obtain ⟨eb, heb⟩ : ∃ eb, (s.toList == ({ data := #[] } : ByteArray).toList) = eb := ⟨_, rfl⟩
  have heq : eqS s ByteArray.empty = eb := heb
  obtain ⟨nm, hN⟩ : ∃ nm, nameT s = nm := ⟨_, rfl⟩
  rw [hN] at hnm
  refine PC.enter 123 Tryz.func128 rfl (by decide) rfl rfl (s := [(0, exV (.mk o n s w l))]) (by rfl) ?_
  simp only [exV_mk]
  rw [efm_mk]
  by_cases h1 : o = 1
  · subst h1
    refine wG Y128_BI (AI (@G128_BI) heb) ?_
    refine AWp.condAB rfl rfl (fun g0 => ?_) (fun g0 => ?_)
    · have he : ebase 1 n s w l.length = false := by unfold ebase; rw [Bool.eq_false_iff]; intro hq; cases eb <;> cases nm <;> simp [heq, hN, -List.length_eq_zero_iff, Bool.not_eq_true] at hq g0 <;> omega
      rw [he, Bool.false_and]
      refine wG Y128_BI @G128_BI ?_
      exact Fin.oneP
    refine wG Y128_BI @G128_BI ?_
    refine AWp.condAB rfl rfl (fun g1 => ?_) (fun g1 => ?_)
    · have he : ebase 1 n s w l.length = false := by unfold ebase; rw [Bool.eq_false_iff]; intro hq; cases eb <;> cases nm <;> simp [heq, hN, -List.length_eq_zero_iff, Bool.not_eq_true] at hq g1 <;> omega
      rw [he, Bool.false_and]
      refine wG Y128_BI @G128_BI ?_
      exact Fin.oneP
    have he : ebase 1 n s w l.length = true := by unfold ebase; cases eb <;> cases nm <;> simp [heq, hN, -List.length_eq_zero_iff, Bool.not_eq_true] at g0 g1 ⊢ <;> omega
    clear g0 g1
    rw [he, Bool.true_and]
    refine wG Y128_BI @G128_BI ?_
    refine AWp.loop ?_
    refine ALp.cutP 1 [(1, .pt 0 0), (2, .im (.bool false)), (5, (.im (.int .i64 ((((0 : Nat)) : Int)))))] [.box [.im (.int .i64 1), .im (.int .u32 n), .im (.string s), .im (.int .i64 w), .sl (l.map exV) .ro]] (AI (@exL_id) (AI (@vaL_id) (AI (@exV_id) @vaV_id))) ?_
    refine ALp.upto l.length (AllTo efm l) (fun m => ⟨dn 123 [(1, .pt 0 0), (2, .im (.bool false)), (5, (.im (.int .i64 ((((m : Nat)) : Int)))))], ofl [.box [.im (.int .i64 1), .im (.int .u32 n), .im (.string s), .im (.int .i64 w), .sl (l.map exV) .ro]]⟩) ?_ 0 (Nat.zero_le _) (AllTo.zero _ _)
    intro m hm hI hnext
    by_cases hlt : m < l.length
    · have hlt' : (m : Int) < (l.length : Int) := by omega
      have hg := get_some hlt
      have hm1 := wrap_succ hlt (by omega)
      have hc := hE l[m] (List.getElem_mem hlt) (hfE _ (List.getElem_mem hlt))
      refine wG Y128_BI (AI (@G128_BI) (AI hlt' (AI hg hm1))) ?_
      cases b : efm l[m] with
      | true =>
        rw [b] at hc
        refine AR.callP hc @exV_eq (AI (@exL_id) (AI (@vaL_id) (AI (@exV_id) @vaV_id))) ?_
        refine goG Y128_BI @G128_BI ?_
        refine wG Y128_BI (AI (@G128_BI) hm1) ?_
        refine ALp.cutP 1 [(1, .pt 0 0), (2, .im (.bool false)), (5, (.im (.int .i64 ((((m + 1 : Nat)) : Int)))))] [.box [.im (.int .i64 1), .im (.int .u32 n), .im (.string s), .im (.int .i64 w), .sl (l.map exV) .ro]] (AI (@exL_id) (AI (@vaL_id) (AI (@exV_id) @vaV_id))) ?_
        exact hnext (m + 1) (by omega) (by omega) (hI.succ hlt b)
      | false =>
        rw [b] at hc
        refine AR.callP hc @exV_eq (AI (@exL_id) (AI (@vaL_id) (AI (@exV_id) @vaV_id))) ?_
        refine goG Y128_BI @G128_BI ?_
        refine wG Y128_BI (AI (@G128_BI) hm1) ?_
        rw [not_all_of hlt b]
        exact Fin.oneP
    · have hall := hI.done (by omega)
      have hlt' : ¬ (m : Int) < (l.length : Int) := by omega
      clear hnext
      rw [hall]
      refine wG Y128_BI (AI (@G128_BI) hlt') ?_
      exact Fin.oneP
  by_cases h2 : o = 2
  · subst h2
    refine wG Y128_BI (AI (@G128_BI) heb) ?_
    refine AR.callP hnm True.intro (AI (@exL_id) (AI (@vaL_id) (AI (@exV_id) @vaV_id))) ?_
    refine goG Y128_BI @G128_BI ?_
    refine wG Y128_BI @G128_BI ?_
    refine AWp.condAB rfl rfl (fun g0 => ?_) (fun g0 => ?_)
    · have he : ebase 2 n s w l.length = false := by unfold ebase; rw [Bool.eq_false_iff]; intro hq; cases eb <;> cases nm <;> simp [heq, hN, -List.length_eq_zero_iff, Bool.not_eq_true] at hq g0 <;> omega
      rw [he, Bool.false_and]
      refine wG Y128_BI @G128_BI ?_
      exact Fin.oneP
    refine wG Y128_BI @G128_BI ?_
    refine AWp.condAB rfl rfl (fun g1 => ?_) (fun g1 => ?_)
    · have he : ebase 2 n s w l.length = false := by unfold ebase; rw [Bool.eq_false_iff]; intro hq; cases eb <;> cases nm <;> simp [heq, hN, -List.length_eq_zero_iff, Bool.not_eq_true] at hq g1 <;> omega
      rw [he, Bool.false_and]
      refine wG Y128_BI @G128_BI ?_
      exact Fin.oneP
    have he : ebase 2 n s w l.length = true := by unfold ebase; cases eb <;> cases nm <;> simp [heq, hN, -List.length_eq_zero_iff, Bool.not_eq_true] at g0 g1 ⊢ <;> omega
    clear g0 g1
    rw [he, Bool.true_and]
    refine wG Y128_BI @G128_BI ?_
    refine AWp.loop ?_
    refine ALp.cutP 1 [(1, .pt 0 0), (2, .im (.bool false)), (5, (.im (.int .i64 ((((0 : Nat)) : Int)))))] [.box [.im (.int .i64 2), .im (.int .u32 n), .im (.string s), .im (.int .i64 w), .sl (l.map exV) .ro]] (AI (@exL_id) (AI (@vaL_id) (AI (@exV_id) @vaV_id))) ?_
    refine ALp.upto l.length (AllTo efm l) (fun m => ⟨dn 123 [(1, .pt 0 0), (2, .im (.bool false)), (5, (.im (.int .i64 ((((m : Nat)) : Int)))))], ofl [.box [.im (.int .i64 2), .im (.int .u32 n), .im (.string s), .im (.int .i64 w), .sl (l.map exV) .ro]]⟩) ?_ 0 (Nat.zero_le _) (AllTo.zero _ _)
    intro m hm hI hnext
    by_cases hlt : m < l.length
    · have hlt' : (m : Int) < (l.length : Int) := by omega
      have hg := get_some hlt
      have hm1 := wrap_succ hlt (by omega)
      have hc := hE l[m] (List.getElem_mem hlt) (hfE _ (List.getElem_mem hlt))
      refine wG Y128_BI (AI (@G128_BI) (AI hlt' (AI hg hm1))) ?_
      cases b : efm l[m] with
      | true =>
        rw [b] at hc
        refine AR.callP hc @exV_eq (AI (@exL_id) (AI (@vaL_id) (AI (@exV_id) @vaV_id))) ?_
        refine goG Y128_BI @G128_BI ?_
        refine wG Y128_BI (AI (@G128_BI) hm1) ?_
        refine ALp.cutP 1 [(1, .pt 0 0), (2, .im (.bool false)), (5, (.im (.int .i64 ((((m + 1 : Nat)) : Int)))))] [.box [.im (.int .i64 2), .im (.int .u32 n), .im (.string s), .im (.int .i64 w), .sl (l.map exV) .ro]] (AI (@exL_id) (AI (@vaL_id) (AI (@exV_id) @vaV_id))) ?_
        exact hnext (m + 1) (by omega) (by omega) (hI.succ hlt b)
      | false =>
        rw [b] at hc
        refine AR.callP hc @exV_eq (AI (@exL_id) (AI (@vaL_id) (AI (@exV_id) @vaV_id))) ?_
        refine goG Y128_BI @G128_BI ?_
        refine wG Y128_BI (AI (@G128_BI) hm1) ?_
        rw [not_all_of hlt b]
        exact Fin.oneP
    · have hall := hI.done (by omega)
      have hlt' : ¬ (m : Int) < (l.length : Int) := by omega
      clear hnext
      rw [hall]
      refine wG Y128_BI (AI (@G128_BI) hlt') ?_
      exact Fin.oneP
  by_cases h18 : o = 18
  · subst h18
    refine wG Y128_BI (AI (@G128_BI) heb) ?_
    refine AWp.condAB rfl rfl (fun g0 => ?_) (fun g0 => ?_)
    · have he : ebase 18 n s w l.length = false := by unfold ebase; rw [Bool.eq_false_iff]; intro hq; cases eb <;> cases nm <;> simp [heq, hN, -List.length_eq_zero_iff, Bool.not_eq_true] at hq g0 <;> omega
      rw [he, Bool.false_and]
      refine wG Y128_BI @G128_BI ?_
      exact Fin.oneP
    refine wG Y128_BI (AI (@G128_BI) heb) ?_
    refine AWp.condAB rfl rfl (fun g1 => ?_) (fun g1 => ?_)
    · have he : ebase 18 n s w l.length = false := by unfold ebase; rw [Bool.eq_false_iff]; intro hq; cases eb <;> cases nm <;> simp [heq, hN, -List.length_eq_zero_iff, Bool.not_eq_true] at hq g1 <;> omega
      rw [he, Bool.false_and]
      refine wG Y128_BI @G128_BI ?_
      exact Fin.oneP
    have he : ebase 18 n s w l.length = true := by unfold ebase; cases eb <;> cases nm <;> simp [heq, hN, -List.length_eq_zero_iff, Bool.not_eq_true] at g0 g1 ⊢ <;> omega
    clear g0 g1
    rw [he, Bool.true_and]
    refine wG Y128_BI @G128_BI ?_
    refine AWp.loop ?_
    refine ALp.cutP 1 [(1, .pt 0 0), (2, .im (.bool false)), (5, (.im (.int .i64 ((((0 : Nat)) : Int)))))] [.box [.im (.int .i64 18), .im (.int .u32 n), .im (.string s), .im (.int .i64 w), .sl (l.map exV) .ro]] (AI (@exL_id) (AI (@vaL_id) (AI (@exV_id) @vaV_id))) ?_
    refine ALp.upto l.length (AllTo efm l) (fun m => ⟨dn 123 [(1, .pt 0 0), (2, .im (.bool false)), (5, (.im (.int .i64 ((((m : Nat)) : Int)))))], ofl [.box [.im (.int .i64 18), .im (.int .u32 n), .im (.string s), .im (.int .i64 w), .sl (l.map exV) .ro]]⟩) ?_ 0 (Nat.zero_le _) (AllTo.zero _ _)
    intro m hm hI hnext
    by_cases hlt : m < l.length
    · have hlt' : (m : Int) < (l.length : Int) := by omega
      have hg := get_some hlt
      have hm1 := wrap_succ hlt (by omega)
      have hc := hE l[m] (List.getElem_mem hlt) (hfE _ (List.getElem_mem hlt))
      refine wG Y128_BI (AI (@G128_BI) (AI hlt' (AI hg hm1))) ?_
      cases b : efm l[m] with
      | true =>
        rw [b] at hc
        refine AR.callP hc @exV_eq (AI (@exL_id) (AI (@vaL_id) (AI (@exV_id) @vaV_id))) ?_
        refine goG Y128_BI @G128_BI ?_
        refine wG Y128_BI (AI (@G128_BI) hm1) ?_
        refine ALp.cutP 1 [(1, .pt 0 0), (2, .im (.bool false)), (5, (.im (.int .i64 ((((m + 1 : Nat)) : Int)))))] [.box [.im (.int .i64 18), .im (.int .u32 n), .im (.string s), .im (.int .i64 w), .sl (l.map exV) .ro]] (AI (@exL_id) (AI (@vaL_id) (AI (@exV_id) @vaV_id))) ?_
        exact hnext (m + 1) (by omega) (by omega) (hI.succ hlt b)
      | false =>
        rw [b] at hc
        refine AR.callP hc @exV_eq (AI (@exL_id) (AI (@vaL_id) (AI (@exV_id) @vaV_id))) ?_
        refine goG Y128_BI @G128_BI ?_
        refine wG Y128_BI (AI (@G128_BI) hm1) ?_
        rw [not_all_of hlt b]
        exact Fin.oneP
    · have hall := hI.done (by omega)
      have hlt' : ¬ (m : Int) < (l.length : Int) := by omega
      clear hnext
      rw [hall]
      refine wG Y128_BI (AI (@G128_BI) hlt') ?_
      exact Fin.oneP
  by_cases h19 : o = 19
  · subst h19
    refine wG Y128_BI (AI (@G128_BI) heb) ?_
    refine AWp.condAB rfl rfl (fun g0 => ?_) (fun g0 => ?_)
    · have he : ebase 19 n s w l.length = false := by unfold ebase; rw [Bool.eq_false_iff]; intro hq; cases eb <;> cases nm <;> simp [heq, hN, -List.length_eq_zero_iff, Bool.not_eq_true] at hq g0 <;> omega
      rw [he, Bool.false_and]
      refine wG Y128_BI @G128_BI ?_
      exact Fin.oneP
    refine wG Y128_BI (AI (@G128_BI) heb) ?_
    refine AWp.condAB rfl rfl (fun g1 => ?_) (fun g1 => ?_)
    · have he : ebase 19 n s w l.length = false := by unfold ebase; rw [Bool.eq_false_iff]; intro hq; cases eb <;> cases nm <;> simp [heq, hN, -List.length_eq_zero_iff, Bool.not_eq_true] at hq g1 <;> omega
      rw [he, Bool.false_and]
      refine wG Y128_BI @G128_BI ?_
      exact Fin.oneP
    have he : ebase 19 n s w l.length = true := by unfold ebase; cases eb <;> cases nm <;> simp [heq, hN, -List.length_eq_zero_iff, Bool.not_eq_true] at g0 g1 ⊢ <;> omega
    clear g0 g1
    rw [he, Bool.true_and]
    refine wG Y128_BI @G128_BI ?_
    refine AWp.loop ?_
    refine ALp.cutP 1 [(1, .pt 0 0), (2, .im (.bool false)), (5, (.im (.int .i64 ((((0 : Nat)) : Int)))))] [.box [.im (.int .i64 19), .im (.int .u32 n), .im (.string s), .im (.int .i64 w), .sl (l.map exV) .ro]] (AI (@exL_id) (AI (@vaL_id) (AI (@exV_id) @vaV_id))) ?_
    refine ALp.upto l.length (AllTo efm l) (fun m => ⟨dn 123 [(1, .pt 0 0), (2, .im (.bool false)), (5, (.im (.int .i64 ((((m : Nat)) : Int)))))], ofl [.box [.im (.int .i64 19), .im (.int .u32 n), .im (.string s), .im (.int .i64 w), .sl (l.map exV) .ro]]⟩) ?_ 0 (Nat.zero_le _) (AllTo.zero _ _)
    intro m hm hI hnext
    by_cases hlt : m < l.length
    · have hlt' : (m : Int) < (l.length : Int) := by omega
      have hg := get_some hlt
      have hm1 := wrap_succ hlt (by omega)
      have hc := hE l[m] (List.getElem_mem hlt) (hfE _ (List.getElem_mem hlt))
      refine wG Y128_BI (AI (@G128_BI) (AI hlt' (AI hg hm1))) ?_
      cases b : efm l[m] with
      | true =>
        rw [b] at hc
        refine AR.callP hc @exV_eq (AI (@exL_id) (AI (@vaL_id) (AI (@exV_id) @vaV_id))) ?_
        refine goG Y128_BI @G128_BI ?_
        refine wG Y128_BI (AI (@G128_BI) hm1) ?_
        refine ALp.cutP 1 [(1, .pt 0 0), (2, .im (.bool false)), (5, (.im (.int .i64 ((((m + 1 : Nat)) : Int)))))] [.box [.im (.int .i64 19), .im (.int .u32 n), .im (.string s), .im (.int .i64 w), .sl (l.map exV) .ro]] (AI (@exL_id) (AI (@vaL_id) (AI (@exV_id) @vaV_id))) ?_
        exact hnext (m + 1) (by omega) (by omega) (hI.succ hlt b)
      | false =>
        rw [b] at hc
        refine AR.callP hc @exV_eq (AI (@exL_id) (AI (@vaL_id) (AI (@exV_id) @vaV_id))) ?_
        refine goG Y128_BI @G128_BI ?_
        refine wG Y128_BI (AI (@G128_BI) hm1) ?_
        rw [not_all_of hlt b]
        exact Fin.oneP
    · have hall := hI.done (by omega)
      have hlt' : ¬ (m : Int) < (l.length : Int) := by omega
      clear hnext
      rw [hall]
      refine wG Y128_BI (AI (@G128_BI) hlt') ?_
      exact Fin.oneP
  by_cases h16 : o = 16
  · subst h16
    refine wG Y128_BI (AI (@G128_BI) heb) ?_
    refine AWp.condAB rfl rfl (fun g0 => ?_) (fun g0 => ?_)
    · have he : ebase 16 n s w l.length = false := by unfold ebase; rw [Bool.eq_false_iff]; intro hq; cases eb <;> cases nm <;> simp [heq, hN, -List.length_eq_zero_iff, Bool.not_eq_true] at hq g0 <;> omega
      rw [he, Bool.false_and]
      refine wG Y128_BI @G128_BI ?_
      exact Fin.oneP
    refine wG Y128_BI (AI (@G128_BI) heb) ?_
    refine AWp.condAB rfl rfl (fun g1 => ?_) (fun g1 => ?_)
    · have he : ebase 16 n s w l.length = false := by unfold ebase; rw [Bool.eq_false_iff]; intro hq; cases eb <;> cases nm <;> simp [heq, hN, -List.length_eq_zero_iff, Bool.not_eq_true] at hq g1 <;> omega
      rw [he, Bool.false_and]
      refine wG Y128_BI @G128_BI ?_
      exact Fin.oneP
    have he : ebase 16 n s w l.length = true := by unfold ebase; cases eb <;> cases nm <;> simp [heq, hN, -List.length_eq_zero_iff, Bool.not_eq_true] at g0 g1 ⊢ <;> omega
    clear g0 g1
    rw [he, Bool.true_and]
    refine wG Y128_BI @G128_BI ?_
    refine AWp.loop ?_
    refine ALp.cutP 1 [(1, .pt 0 0), (2, .im (.bool false)), (5, (.im (.int .i64 ((((0 : Nat)) : Int)))))] [.box [.im (.int .i64 16), .im (.int .u32 n), .im (.string s), .im (.int .i64 w), .sl (l.map exV) .ro]] (AI (@exL_id) (AI (@vaL_id) (AI (@exV_id) @vaV_id))) ?_
    refine ALp.upto l.length (AllTo efm l) (fun m => ⟨dn 123 [(1, .pt 0 0), (2, .im (.bool false)), (5, (.im (.int .i64 ((((m : Nat)) : Int)))))], ofl [.box [.im (.int .i64 16), .im (.int .u32 n), .im (.string s), .im (.int .i64 w), .sl (l.map exV) .ro]]⟩) ?_ 0 (Nat.zero_le _) (AllTo.zero _ _)
    intro m hm hI hnext
    by_cases hlt : m < l.length
    · have hlt' : (m : Int) < (l.length : Int) := by omega
      have hg := get_some hlt
      have hm1 := wrap_succ hlt (by omega)
      have hc := hE l[m] (List.getElem_mem hlt) (hfE _ (List.getElem_mem hlt))
      refine wG Y128_BI (AI (@G128_BI) (AI hlt' (AI hg hm1))) ?_
      cases b : efm l[m] with
      | true =>
        rw [b] at hc
        refine AR.callP hc @exV_eq (AI (@exL_id) (AI (@vaL_id) (AI (@exV_id) @vaV_id))) ?_
        refine goG Y128_BI @G128_BI ?_
        refine wG Y128_BI (AI (@G128_BI) hm1) ?_
        refine ALp.cutP 1 [(1, .pt 0 0), (2, .im (.bool false)), (5, (.im (.int .i64 ((((m + 1 : Nat)) : Int)))))] [.box [.im (.int .i64 16), .im (.int .u32 n), .im (.string s), .im (.int .i64 w), .sl (l.map exV) .ro]] (AI (@exL_id) (AI (@vaL_id) (AI (@exV_id) @vaV_id))) ?_
        exact hnext (m + 1) (by omega) (by omega) (hI.succ hlt b)
      | false =>
        rw [b] at hc
        refine AR.callP hc @exV_eq (AI (@exL_id) (AI (@vaL_id) (AI (@exV_id) @vaV_id))) ?_
        refine goG Y128_BI @G128_BI ?_
        refine wG Y128_BI (AI (@G128_BI) hm1) ?_
        rw [not_all_of hlt b]
        exact Fin.oneP
    · have hall := hI.done (by omega)
      have hlt' : ¬ (m : Int) < (l.length : Int) := by omega
      clear hnext
      rw [hall]
      refine wG Y128_BI (AI (@G128_BI) hlt') ?_
      exact Fin.oneP
  by_cases h17 : o = 17
  · subst h17
    refine wG Y128_BI (AI (@G128_BI) heb) ?_
    refine AWp.condAB rfl rfl (fun g0 => ?_) (fun g0 => ?_)
    · have he : ebase 17 n s w l.length = false := by unfold ebase; rw [Bool.eq_false_iff]; intro hq; cases eb <;> cases nm <;> simp [heq, hN, -List.length_eq_zero_iff, Bool.not_eq_true] at hq g0 <;> omega
      rw [he, Bool.false_and]
      refine wG Y128_BI @G128_BI ?_
      exact Fin.oneP
    refine wG Y128_BI (AI (@G128_BI) heb) ?_
    refine AWp.condAB rfl rfl (fun g1 => ?_) (fun g1 => ?_)
    · have he : ebase 17 n s w l.length = false := by unfold ebase; rw [Bool.eq_false_iff]; intro hq; cases eb <;> cases nm <;> simp [heq, hN, -List.length_eq_zero_iff, Bool.not_eq_true] at hq g1 <;> omega
      rw [he, Bool.false_and]
      refine wG Y128_BI @G128_BI ?_
      exact Fin.oneP
    have he : ebase 17 n s w l.length = true := by unfold ebase; cases eb <;> cases nm <;> simp [heq, hN, -List.length_eq_zero_iff, Bool.not_eq_true] at g0 g1 ⊢ <;> omega
    clear g0 g1
    rw [he, Bool.true_and]
    refine wG Y128_BI @G128_BI ?_
    refine AWp.loop ?_
    refine ALp.cutP 1 [(1, .pt 0 0), (2, .im (.bool false)), (5, (.im (.int .i64 ((((0 : Nat)) : Int)))))] [.box [.im (.int .i64 17), .im (.int .u32 n), .im (.string s), .im (.int .i64 w), .sl (l.map exV) .ro]] (AI (@exL_id) (AI (@vaL_id) (AI (@exV_id) @vaV_id))) ?_
    refine ALp.upto l.length (AllTo efm l) (fun m => ⟨dn 123 [(1, .pt 0 0), (2, .im (.bool false)), (5, (.im (.int .i64 ((((m : Nat)) : Int)))))], ofl [.box [.im (.int .i64 17), .im (.int .u32 n), .im (.string s), .im (.int .i64 w), .sl (l.map exV) .ro]]⟩) ?_ 0 (Nat.zero_le _) (AllTo.zero _ _)
    intro m hm hI hnext
    by_cases hlt : m < l.length
    · have hlt' : (m : Int) < (l.length : Int) := by omega
      have hg := get_some hlt
      have hm1 := wrap_succ hlt (by omega)
      have hc := hE l[m] (List.getElem_mem hlt) (hfE _ (List.getElem_mem hlt))
      refine wG Y128_BI (AI (@G128_BI) (AI hlt' (AI hg hm1))) ?_
      cases b : efm l[m] with
      | true =>
        rw [b] at hc
        refine AR.callP hc @exV_eq (AI (@exL_id) (AI (@vaL_id) (AI (@exV_id) @vaV_id))) ?_
        refine goG Y128_BI @G128_BI ?_
        refine wG Y128_BI (AI (@G128_BI) hm1) ?_
        refine ALp.cutP 1 [(1, .pt 0 0), (2, .im (.bool false)), (5, (.im (.int .i64 ((((m + 1 : Nat)) : Int)))))] [.box [.im (.int .i64 17), .im (.int .u32 n), .im (.string s), .im (.int .i64 w), .sl (l.map exV) .ro]] (AI (@exL_id) (AI (@vaL_id) (AI (@exV_id) @vaV_id))) ?_
        exact hnext (m + 1) (by omega) (by omega) (hI.succ hlt b)
      | false =>
        rw [b] at hc
        refine AR.callP hc @exV_eq (AI (@exL_id) (AI (@vaL_id) (AI (@exV_id) @vaV_id))) ?_
        refine goG Y128_BI @G128_BI ?_
        refine wG Y128_BI (AI (@G128_BI) hm1) ?_
        rw [not_all_of hlt b]
        exact Fin.oneP
    · have hall := hI.done (by omega)
      have hlt' : ¬ (m : Int) < (l.length : Int) := by omega
      clear hnext
      rw [hall]
      refine wG Y128_BI (AI (@G128_BI) hlt') ?_
      exact Fin.oneP
  by_cases h3 : o ≥ 3 ∧ o ≤ 15
  · obtain ⟨h3, h4⟩ := h3
    refine wG Y128_BI (AI (@G128_BI) (AI heb (AI h1 (AI h2 (AI h3 (AI h4 (AI h18 h19))))))) ?_
    refine AWp.condAB rfl rfl (fun g0 => ?_) (fun g0 => ?_)
    · have he : ebase o n s w l.length = false := by unfold ebase; rw [Bool.eq_false_iff]; intro hq; cases eb <;> cases nm <;> simp [heq, hN, -List.length_eq_zero_iff, h1, h2, h3, h4] at hq g0 <;> omega
      rw [he, Bool.false_and]
      refine wG Y128_BI @G128_BI ?_
      exact Fin.oneP
    refine wG Y128_BI (AI (@G128_BI) (AI heb (AI h1 (AI h2 (AI h3 (AI h4 (AI h18 h19))))))) ?_
    refine AWp.condAB rfl rfl (fun g1 => ?_) (fun g1 => ?_)
    · have he : ebase o n s w l.length = false := by unfold ebase; rw [Bool.eq_false_iff]; intro hq; cases eb <;> cases nm <;> simp [heq, hN, -List.length_eq_zero_iff, h1, h2, h3, h4] at hq g1 <;> omega
      rw [he, Bool.false_and]
      refine wG Y128_BI @G128_BI ?_
      exact Fin.oneP
    have he : ebase o n s w l.length = true := by unfold ebase; cases eb <;> cases nm <;> simp [heq, hN, -List.length_eq_zero_iff, h1, h2, h3, h4] at g0 g1 ⊢ <;> omega
    clear g0 g1
    rw [he, Bool.true_and]
    refine wG Y128_BI (AI (@G128_BI) (AI h1 (AI h2 (AI h18 h19)))) ?_
    refine AWp.loop ?_
    refine ALp.cutP 1 [(1, .pt 0 0), (2, .im (.bool false)), (5, (.im (.int .i64 ((((0 : Nat)) : Int)))))] [.box [.im (.int .i64 o), .im (.int .u32 n), .im (.string s), .im (.int .i64 w), .sl (l.map exV) .ro]] (AI (@exL_id) (AI (@vaL_id) (AI (@exV_id) @vaV_id))) ?_
    refine ALp.upto l.length (AllTo efm l) (fun m => ⟨dn 123 [(1, .pt 0 0), (2, .im (.bool false)), (5, (.im (.int .i64 ((((m : Nat)) : Int)))))], ofl [.box [.im (.int .i64 o), .im (.int .u32 n), .im (.string s), .im (.int .i64 w), .sl (l.map exV) .ro]]⟩) ?_ 0 (Nat.zero_le _) (AllTo.zero _ _)
    intro m hm hI hnext
    by_cases hlt : m < l.length
    · have hlt' : (m : Int) < (l.length : Int) := by omega
      have hg := get_some hlt
      have hm1 := wrap_succ hlt (by omega)
      have hc := hE l[m] (List.getElem_mem hlt) (hfE _ (List.getElem_mem hlt))
      refine wG Y128_BI (AI (@G128_BI) (AI hlt' (AI hg hm1))) ?_
      cases b : efm l[m] with
      | true =>
        rw [b] at hc
        refine AR.callP hc @exV_eq (AI (@exL_id) (AI (@vaL_id) (AI (@exV_id) @vaV_id))) ?_
        refine goG Y128_BI @G128_BI ?_
        refine wG Y128_BI (AI (@G128_BI) hm1) ?_
        refine ALp.cutP 1 [(1, .pt 0 0), (2, .im (.bool false)), (5, (.im (.int .i64 ((((m + 1 : Nat)) : Int)))))] [.box [.im (.int .i64 o), .im (.int .u32 n), .im (.string s), .im (.int .i64 w), .sl (l.map exV) .ro]] (AI (@exL_id) (AI (@vaL_id) (AI (@exV_id) @vaV_id))) ?_
        exact hnext (m + 1) (by omega) (by omega) (hI.succ hlt b)
      | false =>
        rw [b] at hc
        refine AR.callP hc @exV_eq (AI (@exL_id) (AI (@vaL_id) (AI (@exV_id) @vaV_id))) ?_
        refine goG Y128_BI @G128_BI ?_
        refine wG Y128_BI (AI (@G128_BI) hm1) ?_
        rw [not_all_of hlt b]
        exact Fin.oneP
    · have hall := hI.done (by omega)
      have hlt' : ¬ (m : Int) < (l.length : Int) := by omega
      clear hnext
      rw [hall]
      refine wG Y128_BI (AI (@G128_BI) hlt') ?_
      exact Fin.oneP
  have h3' : ¬ (o ≥ 3) ∨ ¬ (o ≤ 15) := by omega
  have e3 : (decide (o ≥ 3) && decide (o ≤ 15)) = false := by simp only [Bool.and_eq_false_iff, decide_eq_false_iff_not]; exact h3'
  have he : ebase o n s w l.length = false := by
    unfold ebase
    simp [h1, h2, h16, h17, h18, h19]
    omega
  rw [he, Bool.false_and]
  refine wG Y128_BI (AI (@G128_BI) (AI h1 (AI h2 (AI e3 (AI h16 (AI h17 (AI h18 h19))))))) ?_
  exact Fin.oneP
end Go.Proofs.YtfggemopnlffeaaGreat
