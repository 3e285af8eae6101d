/- Walks: formed expressions of the reference. -/
import Derived.Test.YtfggemopnlffeaaHw
import Derived.Test.YtfggemopnlffeaaBF
namespace Go.Proofs.Ytfggemopnlffeaa
set_option linter.unusedSimpArgs false
set_option linter.unusedVariables false
set_option linter.unnecessarySimpa false
open Go.RowKit
set_option maxHeartbeats 2000000 in
theorem c_eformedR : ∀ (t : Ex), fitE t → PC Try.prog 77 [exV t] (.im (.bool (efm t))) := by
  refine Ex.induct fun o n s w l hE => ?_
  intro hfit
  obtain ⟨hl1, hfE⟩ := fitE_mk hfit
  have hsz := fitE_name hfit
  have hnm := c_NameR s hsz
  obtain ⟨eb, heb⟩ : ∃ eb, (s.toList == ({ data := #[] } : ByteArray).toList) = eb := ⟨_, rfl⟩
  have heq : eqS s ByteArray.empty = eb := heb
  obtain ⟨nm, hN⟩ : ∃ nm, nameT s = nm := ⟨_, rfl⟩
  rw [hN] at hnm
  refine PC.enter 123 Try.func77 rfl (by decide) rfl rfl (s := [(0, exV (.mk o n s w l))]) (by rfl) ?_
  simp only [exV_mk]
  rw [efm_mk]
  by_cases h1 : o = 1
  · subst h1
    refine w77 heb ?_
    refine AWp.condAB rfl rfl (fun g0 => ?_) (fun g0 => ?_)
    · have he : ebase 1 n s w l.length = false := by unfold ebase; rw [Bool.eq_false_iff]; intro hq; cases eb <;> cases nm <;> simp [heq, hN, -List.length_eq_zero_iff, Bool.not_eq_true] at hq g0 <;> omega
      rw [he, Bool.false_and]
      refine w77 True.intro ?_
      exact Fin.oneP
    refine w77 True.intro ?_
    refine AWp.condAB rfl rfl (fun g1 => ?_) (fun g1 => ?_)
    · have he : ebase 1 n s w l.length = false := by unfold ebase; rw [Bool.eq_false_iff]; intro hq; cases eb <;> cases nm <;> simp [heq, hN, -List.length_eq_zero_iff, Bool.not_eq_true] at hq g1 <;> omega
      rw [he, Bool.false_and]
      refine w77 True.intro ?_
      exact Fin.oneP
    have he : ebase 1 n s w l.length = true := by unfold ebase; cases eb <;> cases nm <;> simp [heq, hN, -List.length_eq_zero_iff, Bool.not_eq_true] at g0 g1 ⊢ <;> omega
    clear g0 g1
    rw [he, Bool.true_and]
    refine w77 True.intro ?_
    refine AWp.loop ?_
    refine ALp.cutP 1 [(1, .pt 0 0), (2, .im (.bool false)), (5, (.im (.int .i64 ((((0 : Nat)) : Int)))))] [.box [.im (.int .i64 1), .im (.int .u32 n), .im (.string s), .im (.int .i64 w), .sl (l.map exV) .ro]] (And.intro (@exL_id) (And.intro (@vaL_id) (And.intro (@exV_id) @vaV_id))) ?_
    refine ALp.upto l.length (AllTo efm l) (fun m => ⟨dn 123 [(1, .pt 0 0), (2, .im (.bool false)), (5, (.im (.int .i64 ((((m : Nat)) : Int)))))], ofl [.box [.im (.int .i64 1), .im (.int .u32 n), .im (.string s), .im (.int .i64 w), .sl (l.map exV) .ro]]⟩) ?_ 0 (Nat.zero_le _) (AllTo.zero _ _)
    intro m hm hI hnext
    by_cases hlt : m < l.length
    · have hlt' : (m : Int) < (l.length : Int) := by omega
      have hg := get_some hlt
      have hm1 := wrap_succ hlt (by omega)
      have hc := hE l[m] (List.getElem_mem hlt) (hfE _ (List.getElem_mem hlt))
      refine w77 (And.intro hlt' (And.intro hg hm1)) ?_
      cases b : efm l[m] with
      | true =>
        rw [b] at hc
        refine AR.callP hc @exV_eq (And.intro (@exL_id) (And.intro (@vaL_id) (And.intro (@exV_id) @vaV_id))) ?_
        refine go77 True.intro ?_
        refine w77 hm1 ?_
        refine ALp.cutP 1 [(1, .pt 0 0), (2, .im (.bool false)), (5, (.im (.int .i64 ((((m + 1 : Nat)) : Int)))))] [.box [.im (.int .i64 1), .im (.int .u32 n), .im (.string s), .im (.int .i64 w), .sl (l.map exV) .ro]] (And.intro (@exL_id) (And.intro (@vaL_id) (And.intro (@exV_id) @vaV_id))) ?_
        exact hnext (m + 1) (by omega) (by omega) (hI.succ hlt b)
      | false =>
        rw [b] at hc
        refine AR.callP hc @exV_eq (And.intro (@exL_id) (And.intro (@vaL_id) (And.intro (@exV_id) @vaV_id))) ?_
        refine go77 True.intro ?_
        refine w77 hm1 ?_
        rw [not_all_of hlt b]
        exact Fin.oneP
    · have hall := hI.done (by omega)
      have hlt' : ¬ (m : Int) < (l.length : Int) := by omega
      clear hnext
      rw [hall]
      refine w77 hlt' ?_
      exact Fin.oneP
  by_cases h2 : o = 2
  · subst h2
    refine w77 heb ?_
    refine AR.callP hnm True.intro (And.intro (@exL_id) (And.intro (@vaL_id) (And.intro (@exV_id) @vaV_id))) ?_
    refine go77 True.intro ?_
    refine w77 True.intro ?_
    refine AWp.condAB rfl rfl (fun g0 => ?_) (fun g0 => ?_)
    · have he : ebase 2 n s w l.length = false := by unfold ebase; rw [Bool.eq_false_iff]; intro hq; cases eb <;> cases nm <;> simp [heq, hN, -List.length_eq_zero_iff, Bool.not_eq_true] at hq g0 <;> omega
      rw [he, Bool.false_and]
      refine w77 True.intro ?_
      exact Fin.oneP
    refine w77 True.intro ?_
    refine AWp.condAB rfl rfl (fun g1 => ?_) (fun g1 => ?_)
    · have he : ebase 2 n s w l.length = false := by unfold ebase; rw [Bool.eq_false_iff]; intro hq; cases eb <;> cases nm <;> simp [heq, hN, -List.length_eq_zero_iff, Bool.not_eq_true] at hq g1 <;> omega
      rw [he, Bool.false_and]
      refine w77 True.intro ?_
      exact Fin.oneP
    have he : ebase 2 n s w l.length = true := by unfold ebase; cases eb <;> cases nm <;> simp [heq, hN, -List.length_eq_zero_iff, Bool.not_eq_true] at g0 g1 ⊢ <;> omega
    clear g0 g1
    rw [he, Bool.true_and]
    refine w77 True.intro ?_
    refine AWp.loop ?_
    refine ALp.cutP 1 [(1, .pt 0 0), (2, .im (.bool false)), (5, (.im (.int .i64 ((((0 : Nat)) : Int)))))] [.box [.im (.int .i64 2), .im (.int .u32 n), .im (.string s), .im (.int .i64 w), .sl (l.map exV) .ro]] (And.intro (@exL_id) (And.intro (@vaL_id) (And.intro (@exV_id) @vaV_id))) ?_
    refine ALp.upto l.length (AllTo efm l) (fun m => ⟨dn 123 [(1, .pt 0 0), (2, .im (.bool false)), (5, (.im (.int .i64 ((((m : Nat)) : Int)))))], ofl [.box [.im (.int .i64 2), .im (.int .u32 n), .im (.string s), .im (.int .i64 w), .sl (l.map exV) .ro]]⟩) ?_ 0 (Nat.zero_le _) (AllTo.zero _ _)
    intro m hm hI hnext
    by_cases hlt : m < l.length
    · have hlt' : (m : Int) < (l.length : Int) := by omega
      have hg := get_some hlt
      have hm1 := wrap_succ hlt (by omega)
      have hc := hE l[m] (List.getElem_mem hlt) (hfE _ (List.getElem_mem hlt))
      refine w77 (And.intro hlt' (And.intro hg hm1)) ?_
      cases b : efm l[m] with
      | true =>
        rw [b] at hc
        refine AR.callP hc @exV_eq (And.intro (@exL_id) (And.intro (@vaL_id) (And.intro (@exV_id) @vaV_id))) ?_
        refine go77 True.intro ?_
        refine w77 hm1 ?_
        refine ALp.cutP 1 [(1, .pt 0 0), (2, .im (.bool false)), (5, (.im (.int .i64 ((((m + 1 : Nat)) : Int)))))] [.box [.im (.int .i64 2), .im (.int .u32 n), .im (.string s), .im (.int .i64 w), .sl (l.map exV) .ro]] (And.intro (@exL_id) (And.intro (@vaL_id) (And.intro (@exV_id) @vaV_id))) ?_
        exact hnext (m + 1) (by omega) (by omega) (hI.succ hlt b)
      | false =>
        rw [b] at hc
        refine AR.callP hc @exV_eq (And.intro (@exL_id) (And.intro (@vaL_id) (And.intro (@exV_id) @vaV_id))) ?_
        refine go77 True.intro ?_
        refine w77 hm1 ?_
        rw [not_all_of hlt b]
        exact Fin.oneP
    · have hall := hI.done (by omega)
      have hlt' : ¬ (m : Int) < (l.length : Int) := by omega
      clear hnext
      rw [hall]
      refine w77 hlt' ?_
      exact Fin.oneP
  by_cases h18 : o = 18
  · subst h18
    refine w77 heb ?_
    refine AWp.condAB rfl rfl (fun g0 => ?_) (fun g0 => ?_)
    · have he : ebase 18 n s w l.length = false := by unfold ebase; rw [Bool.eq_false_iff]; intro hq; cases eb <;> cases nm <;> simp [heq, hN, -List.length_eq_zero_iff, Bool.not_eq_true] at hq g0 <;> omega
      rw [he, Bool.false_and]
      refine w77 True.intro ?_
      exact Fin.oneP
    refine w77 heb ?_
    refine AWp.condAB rfl rfl (fun g1 => ?_) (fun g1 => ?_)
    · have he : ebase 18 n s w l.length = false := by unfold ebase; rw [Bool.eq_false_iff]; intro hq; cases eb <;> cases nm <;> simp [heq, hN, -List.length_eq_zero_iff, Bool.not_eq_true] at hq g1 <;> omega
      rw [he, Bool.false_and]
      refine w77 True.intro ?_
      exact Fin.oneP
    have he : ebase 18 n s w l.length = true := by unfold ebase; cases eb <;> cases nm <;> simp [heq, hN, -List.length_eq_zero_iff, Bool.not_eq_true] at g0 g1 ⊢ <;> omega
    clear g0 g1
    rw [he, Bool.true_and]
    refine w77 True.intro ?_
    refine AWp.loop ?_
    refine ALp.cutP 1 [(1, .pt 0 0), (2, .im (.bool false)), (5, (.im (.int .i64 ((((0 : Nat)) : Int)))))] [.box [.im (.int .i64 18), .im (.int .u32 n), .im (.string s), .im (.int .i64 w), .sl (l.map exV) .ro]] (And.intro (@exL_id) (And.intro (@vaL_id) (And.intro (@exV_id) @vaV_id))) ?_
    refine ALp.upto l.length (AllTo efm l) (fun m => ⟨dn 123 [(1, .pt 0 0), (2, .im (.bool false)), (5, (.im (.int .i64 ((((m : Nat)) : Int)))))], ofl [.box [.im (.int .i64 18), .im (.int .u32 n), .im (.string s), .im (.int .i64 w), .sl (l.map exV) .ro]]⟩) ?_ 0 (Nat.zero_le _) (AllTo.zero _ _)
    intro m hm hI hnext
    by_cases hlt : m < l.length
    · have hlt' : (m : Int) < (l.length : Int) := by omega
      have hg := get_some hlt
      have hm1 := wrap_succ hlt (by omega)
      have hc := hE l[m] (List.getElem_mem hlt) (hfE _ (List.getElem_mem hlt))
      refine w77 (And.intro hlt' (And.intro hg hm1)) ?_
      cases b : efm l[m] with
      | true =>
        rw [b] at hc
        refine AR.callP hc @exV_eq (And.intro (@exL_id) (And.intro (@vaL_id) (And.intro (@exV_id) @vaV_id))) ?_
        refine go77 True.intro ?_
        refine w77 hm1 ?_
        refine ALp.cutP 1 [(1, .pt 0 0), (2, .im (.bool false)), (5, (.im (.int .i64 ((((m + 1 : Nat)) : Int)))))] [.box [.im (.int .i64 18), .im (.int .u32 n), .im (.string s), .im (.int .i64 w), .sl (l.map exV) .ro]] (And.intro (@exL_id) (And.intro (@vaL_id) (And.intro (@exV_id) @vaV_id))) ?_
        exact hnext (m + 1) (by omega) (by omega) (hI.succ hlt b)
      | false =>
        rw [b] at hc
        refine AR.callP hc @exV_eq (And.intro (@exL_id) (And.intro (@vaL_id) (And.intro (@exV_id) @vaV_id))) ?_
        refine go77 True.intro ?_
        refine w77 hm1 ?_
        rw [not_all_of hlt b]
        exact Fin.oneP
    · have hall := hI.done (by omega)
      have hlt' : ¬ (m : Int) < (l.length : Int) := by omega
      clear hnext
      rw [hall]
      refine w77 hlt' ?_
      exact Fin.oneP
  by_cases h19 : o = 19
  · subst h19
    refine w77 heb ?_
    refine AWp.condAB rfl rfl (fun g0 => ?_) (fun g0 => ?_)
    · have he : ebase 19 n s w l.length = false := by unfold ebase; rw [Bool.eq_false_iff]; intro hq; cases eb <;> cases nm <;> simp [heq, hN, -List.length_eq_zero_iff, Bool.not_eq_true] at hq g0 <;> omega
      rw [he, Bool.false_and]
      refine w77 True.intro ?_
      exact Fin.oneP
    refine w77 heb ?_
    refine AWp.condAB rfl rfl (fun g1 => ?_) (fun g1 => ?_)
    · have he : ebase 19 n s w l.length = false := by unfold ebase; rw [Bool.eq_false_iff]; intro hq; cases eb <;> cases nm <;> simp [heq, hN, -List.length_eq_zero_iff, Bool.not_eq_true] at hq g1 <;> omega
      rw [he, Bool.false_and]
      refine w77 True.intro ?_
      exact Fin.oneP
    have he : ebase 19 n s w l.length = true := by unfold ebase; cases eb <;> cases nm <;> simp [heq, hN, -List.length_eq_zero_iff, Bool.not_eq_true] at g0 g1 ⊢ <;> omega
    clear g0 g1
    rw [he, Bool.true_and]
    refine w77 True.intro ?_
    refine AWp.loop ?_
    refine ALp.cutP 1 [(1, .pt 0 0), (2, .im (.bool false)), (5, (.im (.int .i64 ((((0 : Nat)) : Int)))))] [.box [.im (.int .i64 19), .im (.int .u32 n), .im (.string s), .im (.int .i64 w), .sl (l.map exV) .ro]] (And.intro (@exL_id) (And.intro (@vaL_id) (And.intro (@exV_id) @vaV_id))) ?_
    refine ALp.upto l.length (AllTo efm l) (fun m => ⟨dn 123 [(1, .pt 0 0), (2, .im (.bool false)), (5, (.im (.int .i64 ((((m : Nat)) : Int)))))], ofl [.box [.im (.int .i64 19), .im (.int .u32 n), .im (.string s), .im (.int .i64 w), .sl (l.map exV) .ro]]⟩) ?_ 0 (Nat.zero_le _) (AllTo.zero _ _)
    intro m hm hI hnext
    by_cases hlt : m < l.length
    · have hlt' : (m : Int) < (l.length : Int) := by omega
      have hg := get_some hlt
      have hm1 := wrap_succ hlt (by omega)
      have hc := hE l[m] (List.getElem_mem hlt) (hfE _ (List.getElem_mem hlt))
      refine w77 (And.intro hlt' (And.intro hg hm1)) ?_
      cases b : efm l[m] with
      | true =>
        rw [b] at hc
        refine AR.callP hc @exV_eq (And.intro (@exL_id) (And.intro (@vaL_id) (And.intro (@exV_id) @vaV_id))) ?_
        refine go77 True.intro ?_
        refine w77 hm1 ?_
        refine ALp.cutP 1 [(1, .pt 0 0), (2, .im (.bool false)), (5, (.im (.int .i64 ((((m + 1 : Nat)) : Int)))))] [.box [.im (.int .i64 19), .im (.int .u32 n), .im (.string s), .im (.int .i64 w), .sl (l.map exV) .ro]] (And.intro (@exL_id) (And.intro (@vaL_id) (And.intro (@exV_id) @vaV_id))) ?_
        exact hnext (m + 1) (by omega) (by omega) (hI.succ hlt b)
      | false =>
        rw [b] at hc
        refine AR.callP hc @exV_eq (And.intro (@exL_id) (And.intro (@vaL_id) (And.intro (@exV_id) @vaV_id))) ?_
        refine go77 True.intro ?_
        refine w77 hm1 ?_
        rw [not_all_of hlt b]
        exact Fin.oneP
    · have hall := hI.done (by omega)
      have hlt' : ¬ (m : Int) < (l.length : Int) := by omega
      clear hnext
      rw [hall]
      refine w77 hlt' ?_
      exact Fin.oneP
  by_cases h16 : o = 16
  · subst h16
    refine w77 heb ?_
    refine AWp.condAB rfl rfl (fun g0 => ?_) (fun g0 => ?_)
    · have he : ebase 16 n s w l.length = false := by unfold ebase; rw [Bool.eq_false_iff]; intro hq; cases eb <;> cases nm <;> simp [heq, hN, -List.length_eq_zero_iff, Bool.not_eq_true] at hq g0 <;> omega
      rw [he, Bool.false_and]
      refine w77 True.intro ?_
      exact Fin.oneP
    refine w77 heb ?_
    refine AWp.condAB rfl rfl (fun g1 => ?_) (fun g1 => ?_)
    · have he : ebase 16 n s w l.length = false := by unfold ebase; rw [Bool.eq_false_iff]; intro hq; cases eb <;> cases nm <;> simp [heq, hN, -List.length_eq_zero_iff, Bool.not_eq_true] at hq g1 <;> omega
      rw [he, Bool.false_and]
      refine w77 True.intro ?_
      exact Fin.oneP
    have he : ebase 16 n s w l.length = true := by unfold ebase; cases eb <;> cases nm <;> simp [heq, hN, -List.length_eq_zero_iff, Bool.not_eq_true] at g0 g1 ⊢ <;> omega
    clear g0 g1
    rw [he, Bool.true_and]
    refine w77 True.intro ?_
    refine AWp.loop ?_
    refine ALp.cutP 1 [(1, .pt 0 0), (2, .im (.bool false)), (5, (.im (.int .i64 ((((0 : Nat)) : Int)))))] [.box [.im (.int .i64 16), .im (.int .u32 n), .im (.string s), .im (.int .i64 w), .sl (l.map exV) .ro]] (And.intro (@exL_id) (And.intro (@vaL_id) (And.intro (@exV_id) @vaV_id))) ?_
    refine ALp.upto l.length (AllTo efm l) (fun m => ⟨dn 123 [(1, .pt 0 0), (2, .im (.bool false)), (5, (.im (.int .i64 ((((m : Nat)) : Int)))))], ofl [.box [.im (.int .i64 16), .im (.int .u32 n), .im (.string s), .im (.int .i64 w), .sl (l.map exV) .ro]]⟩) ?_ 0 (Nat.zero_le _) (AllTo.zero _ _)
    intro m hm hI hnext
    by_cases hlt : m < l.length
    · have hlt' : (m : Int) < (l.length : Int) := by omega
      have hg := get_some hlt
      have hm1 := wrap_succ hlt (by omega)
      have hc := hE l[m] (List.getElem_mem hlt) (hfE _ (List.getElem_mem hlt))
      refine w77 (And.intro hlt' (And.intro hg hm1)) ?_
      cases b : efm l[m] with
      | true =>
        rw [b] at hc
        refine AR.callP hc @exV_eq (And.intro (@exL_id) (And.intro (@vaL_id) (And.intro (@exV_id) @vaV_id))) ?_
        refine go77 True.intro ?_
        refine w77 hm1 ?_
        refine ALp.cutP 1 [(1, .pt 0 0), (2, .im (.bool false)), (5, (.im (.int .i64 ((((m + 1 : Nat)) : Int)))))] [.box [.im (.int .i64 16), .im (.int .u32 n), .im (.string s), .im (.int .i64 w), .sl (l.map exV) .ro]] (And.intro (@exL_id) (And.intro (@vaL_id) (And.intro (@exV_id) @vaV_id))) ?_
        exact hnext (m + 1) (by omega) (by omega) (hI.succ hlt b)
      | false =>
        rw [b] at hc
        refine AR.callP hc @exV_eq (And.intro (@exL_id) (And.intro (@vaL_id) (And.intro (@exV_id) @vaV_id))) ?_
        refine go77 True.intro ?_
        refine w77 hm1 ?_
        rw [not_all_of hlt b]
        exact Fin.oneP
    · have hall := hI.done (by omega)
      have hlt' : ¬ (m : Int) < (l.length : Int) := by omega
      clear hnext
      rw [hall]
      refine w77 hlt' ?_
      exact Fin.oneP
  by_cases h17 : o = 17
  · subst h17
    refine w77 heb ?_
    refine AWp.condAB rfl rfl (fun g0 => ?_) (fun g0 => ?_)
    · have he : ebase 17 n s w l.length = false := by unfold ebase; rw [Bool.eq_false_iff]; intro hq; cases eb <;> cases nm <;> simp [heq, hN, -List.length_eq_zero_iff, Bool.not_eq_true] at hq g0 <;> omega
      rw [he, Bool.false_and]
      refine w77 True.intro ?_
      exact Fin.oneP
    refine w77 heb ?_
    refine AWp.condAB rfl rfl (fun g1 => ?_) (fun g1 => ?_)
    · have he : ebase 17 n s w l.length = false := by unfold ebase; rw [Bool.eq_false_iff]; intro hq; cases eb <;> cases nm <;> simp [heq, hN, -List.length_eq_zero_iff, Bool.not_eq_true] at hq g1 <;> omega
      rw [he, Bool.false_and]
      refine w77 True.intro ?_
      exact Fin.oneP
    have he : ebase 17 n s w l.length = true := by unfold ebase; cases eb <;> cases nm <;> simp [heq, hN, -List.length_eq_zero_iff, Bool.not_eq_true] at g0 g1 ⊢ <;> omega
    clear g0 g1
    rw [he, Bool.true_and]
    refine w77 True.intro ?_
    refine AWp.loop ?_
    refine ALp.cutP 1 [(1, .pt 0 0), (2, .im (.bool false)), (5, (.im (.int .i64 ((((0 : Nat)) : Int)))))] [.box [.im (.int .i64 17), .im (.int .u32 n), .im (.string s), .im (.int .i64 w), .sl (l.map exV) .ro]] (And.intro (@exL_id) (And.intro (@vaL_id) (And.intro (@exV_id) @vaV_id))) ?_
    refine ALp.upto l.length (AllTo efm l) (fun m => ⟨dn 123 [(1, .pt 0 0), (2, .im (.bool false)), (5, (.im (.int .i64 ((((m : Nat)) : Int)))))], ofl [.box [.im (.int .i64 17), .im (.int .u32 n), .im (.string s), .im (.int .i64 w), .sl (l.map exV) .ro]]⟩) ?_ 0 (Nat.zero_le _) (AllTo.zero _ _)
    intro m hm hI hnext
    by_cases hlt : m < l.length
    · have hlt' : (m : Int) < (l.length : Int) := by omega
      have hg := get_some hlt
      have hm1 := wrap_succ hlt (by omega)
      have hc := hE l[m] (List.getElem_mem hlt) (hfE _ (List.getElem_mem hlt))
      refine w77 (And.intro hlt' (And.intro hg hm1)) ?_
      cases b : efm l[m] with
      | true =>
        rw [b] at hc
        refine AR.callP hc @exV_eq (And.intro (@exL_id) (And.intro (@vaL_id) (And.intro (@exV_id) @vaV_id))) ?_
        refine go77 True.intro ?_
        refine w77 hm1 ?_
        refine ALp.cutP 1 [(1, .pt 0 0), (2, .im (.bool false)), (5, (.im (.int .i64 ((((m + 1 : Nat)) : Int)))))] [.box [.im (.int .i64 17), .im (.int .u32 n), .im (.string s), .im (.int .i64 w), .sl (l.map exV) .ro]] (And.intro (@exL_id) (And.intro (@vaL_id) (And.intro (@exV_id) @vaV_id))) ?_
        exact hnext (m + 1) (by omega) (by omega) (hI.succ hlt b)
      | false =>
        rw [b] at hc
        refine AR.callP hc @exV_eq (And.intro (@exL_id) (And.intro (@vaL_id) (And.intro (@exV_id) @vaV_id))) ?_
        refine go77 True.intro ?_
        refine w77 hm1 ?_
        rw [not_all_of hlt b]
        exact Fin.oneP
    · have hall := hI.done (by omega)
      have hlt' : ¬ (m : Int) < (l.length : Int) := by omega
      clear hnext
      rw [hall]
      refine w77 hlt' ?_
      exact Fin.oneP
  by_cases h3 : o ≥ 3 ∧ o ≤ 15
  · obtain ⟨h3, h4⟩ := h3
    refine w77 (And.intro heb (And.intro h1 (And.intro h2 (And.intro h3 (And.intro h4 (And.intro h18 h19)))))) ?_
    refine AWp.condAB rfl rfl (fun g0 => ?_) (fun g0 => ?_)
    · have he : ebase o n s w l.length = false := by unfold ebase; rw [Bool.eq_false_iff]; intro hq; cases eb <;> cases nm <;> simp [heq, hN, -List.length_eq_zero_iff, h1, h2, h3, h4] at hq g0 <;> omega
      rw [he, Bool.false_and]
      refine w77 True.intro ?_
      exact Fin.oneP
    refine w77 (And.intro heb (And.intro h1 (And.intro h2 (And.intro h3 (And.intro h4 (And.intro h18 h19)))))) ?_
    refine AWp.condAB rfl rfl (fun g1 => ?_) (fun g1 => ?_)
    · have he : ebase o n s w l.length = false := by unfold ebase; rw [Bool.eq_false_iff]; intro hq; cases eb <;> cases nm <;> simp [heq, hN, -List.length_eq_zero_iff, h1, h2, h3, h4] at hq g1 <;> omega
      rw [he, Bool.false_and]
      refine w77 True.intro ?_
      exact Fin.oneP
    have he : ebase o n s w l.length = true := by unfold ebase; cases eb <;> cases nm <;> simp [heq, hN, -List.length_eq_zero_iff, h1, h2, h3, h4] at g0 g1 ⊢ <;> omega
    clear g0 g1
    rw [he, Bool.true_and]
    refine w77 (And.intro h1 (And.intro h2 (And.intro h18 h19))) ?_
    refine AWp.loop ?_
    refine ALp.cutP 1 [(1, .pt 0 0), (2, .im (.bool false)), (5, (.im (.int .i64 ((((0 : Nat)) : Int)))))] [.box [.im (.int .i64 o), .im (.int .u32 n), .im (.string s), .im (.int .i64 w), .sl (l.map exV) .ro]] (And.intro (@exL_id) (And.intro (@vaL_id) (And.intro (@exV_id) @vaV_id))) ?_
    refine ALp.upto l.length (AllTo efm l) (fun m => ⟨dn 123 [(1, .pt 0 0), (2, .im (.bool false)), (5, (.im (.int .i64 ((((m : Nat)) : Int)))))], ofl [.box [.im (.int .i64 o), .im (.int .u32 n), .im (.string s), .im (.int .i64 w), .sl (l.map exV) .ro]]⟩) ?_ 0 (Nat.zero_le _) (AllTo.zero _ _)
    intro m hm hI hnext
    by_cases hlt : m < l.length
    · have hlt' : (m : Int) < (l.length : Int) := by omega
      have hg := get_some hlt
      have hm1 := wrap_succ hlt (by omega)
      have hc := hE l[m] (List.getElem_mem hlt) (hfE _ (List.getElem_mem hlt))
      refine w77 (And.intro hlt' (And.intro hg hm1)) ?_
      cases b : efm l[m] with
      | true =>
        rw [b] at hc
        refine AR.callP hc @exV_eq (And.intro (@exL_id) (And.intro (@vaL_id) (And.intro (@exV_id) @vaV_id))) ?_
        refine go77 True.intro ?_
        refine w77 hm1 ?_
        refine ALp.cutP 1 [(1, .pt 0 0), (2, .im (.bool false)), (5, (.im (.int .i64 ((((m + 1 : Nat)) : Int)))))] [.box [.im (.int .i64 o), .im (.int .u32 n), .im (.string s), .im (.int .i64 w), .sl (l.map exV) .ro]] (And.intro (@exL_id) (And.intro (@vaL_id) (And.intro (@exV_id) @vaV_id))) ?_
        exact hnext (m + 1) (by omega) (by omega) (hI.succ hlt b)
      | false =>
        rw [b] at hc
        refine AR.callP hc @exV_eq (And.intro (@exL_id) (And.intro (@vaL_id) (And.intro (@exV_id) @vaV_id))) ?_
        refine go77 True.intro ?_
        refine w77 hm1 ?_
        rw [not_all_of hlt b]
        exact Fin.oneP
    · have hall := hI.done (by omega)
      have hlt' : ¬ (m : Int) < (l.length : Int) := by omega
      clear hnext
      rw [hall]
      refine w77 hlt' ?_
      exact Fin.oneP
  have h3' : ¬ (o ≥ 3) ∨ ¬ (o ≤ 15) := by omega
  have e3 : (decide (o ≥ 3) && decide (o ≤ 15)) = false := by simp only [Bool.and_eq_false_iff, decide_eq_false_iff_not]; exact h3'
  have he : ebase o n s w l.length = false := by
    unfold ebase
    simp [h1, h2, h16, h17, h18, h19]
    omega
  rw [he, Bool.false_and]
  refine w77 (And.intro h1 (And.intro h2 (And.intro e3 (And.intro h16 (And.intro h17 (And.intro h18 h19)))))) ?_
  exact Fin.oneP
end Go.Proofs.Ytfggemopnlffeaa

