/- Walks: which types are within the limits, and the check of a type. -/
import Derived.Test.YtfggemopnlffeaaHw
import Derived.Test.YtfggemopnlffeaaB4
namespace Go.Proofs.Ytfggemopnlffeaa
set_option linter.unusedSimpArgs false
set_option linter.unusedVariables false
set_option linter.unnecessarySimpa false
open Go.RowKit
theorem base_one {k s c : Int} {ne nf : Nat} (h : base k s c ne nf = true) : ne = 0 ∨ ne = 1 := by
  rcases base_cases h with h | h | h | h | h <;> omega
set_option maxHeartbeats 1000000 in
theorem c_within : ∀ (t : Ty), fit t → frm t = true → PC Try.prog 46 [tyV t] (.im (.bool (wit t))) := by
  refine Ty.induct fun o k s c es fs hE hF => ?_
  intro hfit hfrm
  obtain ⟨hl1, hl2, hfE, hfF⟩ := fit_mk hfit
  obtain ⟨hb, hof, hfs, hes⟩ := frm_inv hfrm
  have hs := c_size _ hfit hfrm
  refine PC.enter 37 Try.func46 rfl (by decide) rfl rfl (s := [(0, tyV (.mk o k s c es fs))]) (by rfl) ?_
  simp only [tyV_mk]
  by_cases h1 : (fs.length : Int) > 64
  · have e : wit (.mk o k s c es fs) = false := by rw [wit_mk]; simp; omega
    rw [e]
    refine w46 h1 ?_
    exact Fin.oneP
  refine w46 h1 ?_
  refine AR.callP hs @tyV_mk True.intro ?_
  by_cases h2 : siz (.mk o k s c es fs) > 65536
  · have e : wit (.mk o k s c es fs) = false := by rw [wit_mk]; simp; omega
    rw [e]
    refine go46 (And.intro h1 h2) ?_
    refine w46 True.intro ?_
    exact Fin.oneP
  refine go46 (And.intro h1 h2) ?_
  have e0 : wit (.mk o k s c es fs) = (fs.all wit && es.all wit) := by
    rw [wit_mk]
    have a1 : decide (fs.length ≤ 64) = true := by simp; omega
    have a2 : decide (siz (.mk o k s c es fs) ≤ 65536) = true := by simp; omega
    rw [a1, a2]
    simp
  rw [e0]
  clear hs h2 e0
  refine w46 True.intro ?_
  refine AWp.loop ?_
  refine ALp.cutP 1 [(0, .ag [.im (.int .i64 k), .im (.int .i64 s), .im (.int .i64 c), .sl (es.map tyV) .ro, .sl (fs.map fdV) .ro]), (1, .pt 0 0), (15, .sl (fs.map fdV) .ro), (16, (.im (.int .i64 (fs.length)))), (17, (.im (.int .i64 ((((0 : Nat)) : Int)))))] [.box [.im (.int .i64 k), .im (.int .i64 s), .im (.int .i64 c), .sl (es.map tyV) .ro, .sl (fs.map fdV) .ro]] True.intro ?_
  refine ALp.upto fs.length (AllTo wit fs) (fun m => ⟨dn 37 [(0, .ag [.im (.int .i64 k), .im (.int .i64 s), .im (.int .i64 c), .sl (es.map tyV) .ro, .sl (fs.map fdV) .ro]), (1, .pt 0 0), (15, .sl (fs.map fdV) .ro), (16, (.im (.int .i64 (fs.length)))), (17, (.im (.int .i64 ((((m : Nat)) : Int)))))], ofl [.box [.im (.int .i64 k), .im (.int .i64 s), .im (.int .i64 c), .sl (es.map tyV) .ro, .sl (fs.map fdV) .ro]]⟩) ?_ 0 (Nat.zero_le _) (AllTo.zero _ _)
  intro m hm hI hnext
  by_cases hlt : m < fs.length
  · have hlt' : (m : Int) < (fs.length : Int) := by omega
    have hg := get_some hlt
    have hm1 := wrap_succ hlt (by omega)
    have hc := hF fs[m] (List.getElem_mem hlt) (hfF _ (List.getElem_mem hlt)) (hfs _ (List.getElem_mem hlt))
    refine w46 (And.intro hlt' (And.intro hg hm1)) ?_
    by_cases b : wit fs[m] = true
    · rw [b] at hc
      refine AR.callP hc @tyV_eq True.intro ?_
      refine go46 True.intro ?_
      refine w46 hm1 ?_
      refine ALp.cutP 1 [(0, .ag [.im (.int .i64 k), .im (.int .i64 s), .im (.int .i64 c), .sl (es.map tyV) .ro, .sl (fs.map fdV) .ro]), (1, .pt 0 0), (15, .sl (fs.map fdV) .ro), (16, (.im (.int .i64 (fs.length)))), (17, (.im (.int .i64 ((((m + 1 : Nat)) : Int)))))] [.box [.im (.int .i64 k), .im (.int .i64 s), .im (.int .i64 c), .sl (es.map tyV) .ro, .sl (fs.map fdV) .ro]] True.intro ?_
      exact hnext (m + 1) (by omega) (by omega) (hI.succ hlt b)
    · have b : wit fs[m] = false := by simpa using b
      rw [b] at hc
      refine AR.callP hc @tyV_eq True.intro ?_
      refine go46 True.intro ?_
      refine w46 hm1 ?_
      rw [not_all_of hlt b, Bool.false_and]
      exact Fin.oneP
  · have hall := hI.done (by omega)
    have hlt' : ¬ (m : Int) < (fs.length : Int) := by omega
    clear hnext hI hm hlt
    rw [hall, Bool.true_and]
    rcases base_one hb with he | he
    · obtain rfl := List.length_eq_zero_iff.1 he
      refine w46 hlt' ?_
      exact Fin.oneP
    · obtain ⟨x, rfl⟩ := List.length_eq_one_iff.1 he
      have hc := hE x (by simp) (hfE x (by simp)) (hes x (by simp))
      refine w46 hlt' ?_
      refine AR.callP hc @tyV_eq True.intro ?_
      refine go46 True.intro ?_
      simp only [List.all_cons, List.all_nil, Bool.and_true]
      refine w46 True.intro ?_
      exact Fin.oneP
set_option maxHeartbeats 1000000 in
theorem c_isLarge : ∀ (t : Ty), fit t → frm t = true → PC Try.prog 65 [tyV t] (.im (.bool (!wit t))) := by
  refine Ty.induct fun o k s c es fs hE hF => ?_
  intro hfit hfrm
  obtain ⟨hl1, hl2, hfE, hfF⟩ := fit_mk hfit
  obtain ⟨hb, hof, hfs, hes⟩ := frm_inv hfrm
  have hs := c_sizeR _ hfit hfrm
  refine PC.enter 41 Try.func65 rfl (by decide) rfl rfl (s := [(0, tyV (.mk o k s c es fs))]) (by rfl) ?_
  simp only [tyV_mk]
  refine w65 True.intro ?_
  refine AR.callP hs @tyV_mk True.intro ?_
  by_cases h2 : siz (.mk o k s c es fs) > 65536
  · have e : wit (.mk o k s c es fs) = false := by rw [wit_mk]; simp; omega
    rw [e]
    refine go65 h2 ?_
    refine w65 True.intro ?_
    exact Fin.oneP
  by_cases h1 : (fs.length : Int) > 64
  · have e : wit (.mk o k s c es fs) = false := by rw [wit_mk]; simp; omega
    rw [e]
    refine go65 (And.intro h1 h2) ?_
    refine w65 True.intro ?_
    exact Fin.oneP
  refine go65 (And.intro h1 h2) ?_
  have e0 : wit (.mk o k s c es fs) = (fs.all wit && es.all wit) := by
    rw [wit_mk]
    have a1 : decide (fs.length ≤ 64) = true := by simp; omega
    have a2 : decide (siz (.mk o k s c es fs) ≤ 65536) = true := by simp; omega
    rw [a1, a2]
    simp
  rw [e0]
  clear hs h2 e0
  refine w65 True.intro ?_
  refine AWp.loop ?_
  refine ALp.cutP 1 [(0, .ag [.im (.int .i64 k), .im (.int .i64 s), .im (.int .i64 c), .sl (es.map tyV) .ro, .sl (fs.map fdV) .ro]), (1, .pt 0 0), (3, (.im (.int .i64 ((((0 : Nat)) : Int)))))] [.box [.im (.int .i64 k), .im (.int .i64 s), .im (.int .i64 c), .sl (es.map tyV) .ro, .sl (fs.map fdV) .ro]] True.intro ?_
  refine ALp.upto es.length (AllTo wit es) (fun m => ⟨dn 41 [(0, .ag [.im (.int .i64 k), .im (.int .i64 s), .im (.int .i64 c), .sl (es.map tyV) .ro, .sl (fs.map fdV) .ro]), (1, .pt 0 0), (3, (.im (.int .i64 ((((m : Nat)) : Int)))))], ofl [.box [.im (.int .i64 k), .im (.int .i64 s), .im (.int .i64 c), .sl (es.map tyV) .ro, .sl (fs.map fdV) .ro]]⟩) ?_ 0 (Nat.zero_le _) (AllTo.zero _ _)
  intro m hm hI hnext
  by_cases hlt : m < es.length
  · have hlt' : (m : Int) < (es.length : Int) := by omega
    have hg := get_some hlt
    have hm1 := wrap_succ hlt (by omega)
    have hc := hE es[m] (List.getElem_mem hlt) (hfE _ (List.getElem_mem hlt)) (hes _ (List.getElem_mem hlt))
    refine w65 (And.intro hlt' (And.intro hg hm1)) ?_
    by_cases b : wit es[m] = true
    · rw [b] at hc
      refine AR.callP hc @tyV_eq True.intro ?_
      refine go65 True.intro ?_
      refine w65 hm1 ?_
      refine ALp.cutP 1 [(0, .ag [.im (.int .i64 k), .im (.int .i64 s), .im (.int .i64 c), .sl (es.map tyV) .ro, .sl (fs.map fdV) .ro]), (1, .pt 0 0), (3, (.im (.int .i64 ((((m + 1 : Nat)) : Int)))))] [.box [.im (.int .i64 k), .im (.int .i64 s), .im (.int .i64 c), .sl (es.map tyV) .ro, .sl (fs.map fdV) .ro]] True.intro ?_
      exact hnext (m + 1) (by omega) (by omega) (hI.succ hlt b)
    · have b : wit es[m] = false := by simpa using b
      rw [b] at hc
      refine AR.callP hc @tyV_eq True.intro ?_
      refine go65 True.intro ?_
      refine w65 hm1 ?_
      rw [not_all_of hlt b, Bool.and_false]
      exact Fin.oneP
  · have hall1 := hI.done (by omega)
    have hlt' : ¬ (m : Int) < (es.length : Int) := by omega
    clear hnext hI hm hlt
    rw [hall1, Bool.and_true]
    refine w65 hlt' ?_
    clear hlt'
    refine AWp.loop ?_
    refine ALp.cutP 1 [(0, .ag [.im (.int .i64 k), .im (.int .i64 s), .im (.int .i64 c), .sl (es.map tyV) .ro, .sl (fs.map fdV) .ro]), (1, .pt 0 0), (4, (.im (.int .i64 ((((0 : Nat)) : Int)))))] [.box [.im (.int .i64 k), .im (.int .i64 s), .im (.int .i64 c), .sl (es.map tyV) .ro, .sl (fs.map fdV) .ro]] True.intro ?_
    refine ALp.upto fs.length (AllTo wit fs) (fun m => ⟨dn 41 [(0, .ag [.im (.int .i64 k), .im (.int .i64 s), .im (.int .i64 c), .sl (es.map tyV) .ro, .sl (fs.map fdV) .ro]), (1, .pt 0 0), (4, (.im (.int .i64 ((((m : Nat)) : Int)))))], ofl [.box [.im (.int .i64 k), .im (.int .i64 s), .im (.int .i64 c), .sl (es.map tyV) .ro, .sl (fs.map fdV) .ro]]⟩) ?_ 0 (Nat.zero_le _) (AllTo.zero _ _)
    intro m hm hI hnext
    by_cases hlt : m < fs.length
    · have hlt' : (m : Int) < (fs.length : Int) := by omega
      have hg := get_some hlt
      have hm1 := wrap_succ hlt (by omega)
      have hc := hF fs[m] (List.getElem_mem hlt) (hfF _ (List.getElem_mem hlt)) (hfs _ (List.getElem_mem hlt))
      refine w65 (And.intro hlt' (And.intro hg hm1)) ?_
      by_cases b : wit fs[m] = true
      · rw [b] at hc
        refine AR.callP hc @tyV_eq True.intro ?_
        refine go65 True.intro ?_
        refine w65 hm1 ?_
        refine ALp.cutP 1 [(0, .ag [.im (.int .i64 k), .im (.int .i64 s), .im (.int .i64 c), .sl (es.map tyV) .ro, .sl (fs.map fdV) .ro]), (1, .pt 0 0), (4, (.im (.int .i64 ((((m + 1 : Nat)) : Int)))))] [.box [.im (.int .i64 k), .im (.int .i64 s), .im (.int .i64 c), .sl (es.map tyV) .ro, .sl (fs.map fdV) .ro]] True.intro ?_
        exact hnext (m + 1) (by omega) (by omega) (hI.succ hlt b)
      · have b : wit fs[m] = false := by simpa using b
        rw [b] at hc
        refine AR.callP hc @tyV_eq True.intro ?_
        refine go65 True.intro ?_
        refine w65 hm1 ?_
        rw [not_all_of hlt b]
        exact Fin.oneP
    · have hall := hI.done (by omega)
      have hlt' : ¬ (m : Int) < (fs.length : Int) := by omega
      clear hnext hI hm hlt
      rw [hall]
      refine w65 hlt' ?_
      exact Fin.oneP
theorem i64_64 : I64 64 := by unfold I64; omega
theorem c_check (t : Ty) (hfit : fit t) : PC Try.prog 19 [tyV t] (.im (.int .i64 (chk t))) := by
  have h1 := c_shallow t hfit 64 i64_64
  have h2 := c_formed t hfit
  have h3 : frm t = true → _ := c_within t hfit
  refine PC.enter 15 Try.func19 rfl (by decide) rfl rfl (s := [(0, tyV t)]) (by rfl) ?_
  simp only [tyV_eq]
  unfold chk
  refine w19 True.intro ?_
  by_cases b1 : shal t 64 = true
  case neg =>
    have b1 : shal t 64 = false := by simpa using b1
    rw [b1] at h1 ⊢
    refine AR.callP h1 @tyV_eq True.intro ?_
    refine go19 True.intro ?_
    refine w19 True.intro ?_
    exact Fin.oneP
  rw [b1] at h1 ⊢
  refine AR.callP h1 @tyV_eq True.intro ?_
  refine go19 True.intro ?_
  refine w19 True.intro ?_
  by_cases b2 : frm t = true
  case neg =>
    have b2 : frm t = false := by simpa using b2
    rw [b2] at h2 ⊢
    refine AR.callP h2 @tyV_eq True.intro ?_
    refine go19 True.intro ?_
    refine w19 True.intro ?_
    exact Fin.oneP
  have h3 := h3 b2
  rw [b2] at h2 ⊢
  refine AR.callP h2 @tyV_eq True.intro ?_
  refine go19 True.intro ?_
  refine w19 True.intro ?_
  by_cases b3 : wit t = true
  case neg =>
    have b3 : wit t = false := by simpa using b3
    rw [b3] at h3 ⊢
    refine AR.callP h3 @tyV_eq True.intro ?_
    refine go19 True.intro ?_
    refine w19 True.intro ?_
    exact Fin.oneP
  rw [b3] at h3 ⊢
  refine AR.callP h3 @tyV_eq True.intro ?_
  refine go19 True.intro ?_
  refine w19 True.intro ?_
  exact Fin.oneP
theorem c_checkR (t : Ty) (hfit : fit t) : PC Try.prog 32 [tyV t] (.im (.int .i64 (chk t))) := by
  have h1 := c_isDeep t hfit 64 i64_64
  have h2 := c_isFormed t hfit
  have h3 : frm t = true → _ := c_isLarge t hfit
  refine PC.enter 10 Try.func32 rfl (by decide) rfl rfl (s := [(0, tyV t)]) (by rfl) ?_
  simp only [tyV_eq]
  unfold chk
  refine w32 True.intro ?_
  by_cases b1 : shal t 64 = true
  case neg =>
    have b1 : shal t 64 = false := by simpa using b1
    rw [b1] at h1 ⊢
    refine AR.callP h1 @tyV_eq True.intro ?_
    refine go32 True.intro ?_
    refine w32 True.intro ?_
    exact Fin.oneP
  rw [b1] at h1 ⊢
  refine AR.callP h1 @tyV_eq True.intro ?_
  refine go32 True.intro ?_
  refine w32 True.intro ?_
  by_cases b2 : frm t = true
  case neg =>
    have b2 : frm t = false := by simpa using b2
    rw [b2] at h2 ⊢
    refine AR.callP h2 @tyV_eq True.intro ?_
    refine go32 True.intro ?_
    refine w32 True.intro ?_
    exact Fin.oneP
  have h3 := h3 b2
  rw [b2] at h2 ⊢
  refine AR.callP h2 @tyV_eq True.intro ?_
  refine go32 True.intro ?_
  refine w32 True.intro ?_
  by_cases b3 : wit t = true
  case neg =>
    have b3 : wit t = false := by simpa using b3
    rw [b3] at h3 ⊢
    refine AR.callP h3 @tyV_eq True.intro ?_
    refine go32 True.intro ?_
    refine w32 True.intro ?_
    exact Fin.oneP
  rw [b3] at h3 ⊢
  refine AR.callP h3 @tyV_eq True.intro ?_
  refine go32 True.intro ?_
  refine w32 True.intro ?_
  exact Fin.oneP
theorem c_good (t : Ty) (hfit : fit t) : PC Try.prog 47 [tyV t] (.im (.bool (good t))) := by
  have h1 := c_check t hfit
  refine PC.enter 6 Try.func47 rfl (by decide) rfl rfl (s := [(0, tyV t)]) (by rfl) ?_
  simp only [tyV_eq]
  have e : good t = decide (chk t = 0) := rfl
  rw [e]
  refine w47 True.intro ?_
  refine AR.callP h1 @tyV_eq True.intro ?_
  refine go47 True.intro ?_
  refine w47 True.intro ?_
  exact Fin.oneP
end Go.Proofs.Ytfggemopnlffeaa

