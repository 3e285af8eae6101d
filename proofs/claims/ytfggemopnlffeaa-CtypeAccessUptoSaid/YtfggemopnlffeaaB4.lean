/- Walks: which types are formed, the reference. -/
import Derived.Test.YtfggemopnlffeaaHw
import Derived.Test.YtfggemopnlffeaaB3
namespace Go.Proofs.Ytfggemopnlffeaa
set_option linter.unusedSimpArgs false
set_option linter.unusedVariables false
set_option linter.unnecessarySimpa false
open Go.RowKit
theorem frm_flat {o k s c : Int} {es fs : List Ty} {b : Bool} (hb : base k s c es.length fs.length = b) (h : b = true → es = [] ∧ fs = []) : frm (.mk o k s c es fs) = b := by
  cases b with
  | false => exact frm_bad hb
  | true =>
    obtain ⟨rfl, rfl⟩ := h rfl
    rw [frm_of hb rfl]
    rfl
theorem seen_no {fs : List Ty} {m : Nat} (hm : m < fs.length) (h : ¬ (fok fs m = true ∧ frm fs[m] = true)) : (asc fs && fs.all frm) = false := unseen hm h
theorem num_eq (n m : Nat) : decide ((n : Int) = (m : Int)) = decide (n = m) := by
  by_cases h : n = m
  · subst h; simp
  · simp [h]; omega
set_option maxRecDepth 100000 in
set_option maxHeartbeats 1000000 in
theorem c_areFormed {fs : List Ty} {f : FuncId} (hf : f = 64) (hl2 : fs.length ≤ 4194304) (hF : ∀ t ∈ fs, PC Try.prog f [tyV t] (.im (.bool (frm t)))) : PC Try.prog 98 [.sl (fs.map fdV) .ro] (.im (.bool (asc fs && fs.all frm))) := by
  subst hf
  refine PC.enter 51 Try.func98 rfl (by decide) rfl rfl (s := [(0, .sl (fs.map fdV) .ro)]) (by rfl) ?_
  refine wd98 True.intro ?_
  refine AWp.loop ?_
  refine ALp.cutP 0 [(0, .sl (fs.map fdV) .ro), (2, (.im (.bool (false)))), (3, (.im (.int .i64 (((0 : Nat) : Int)))))] [] True.intro ?_
  refine ALp.upto fs.length (fun m => seen fs m) (fun m => ⟨dn 51 [(0, .sl (fs.map fdV) .ro), (2, (.im (.bool (false)))), (3, (.im (.int .i64 (((m : Nat) : Int)))))], ofl []⟩) ?_ 0 (Nat.zero_le _) (fun j _ hj => absurd hj (Nat.not_lt_zero _))
  intro m hm hI hnext
  by_cases hlt : m < fs.length
  · have hlt' : (m : Int) < (fs.length : Int) := by omega
    have hg := get_some hlt
    have hm1 := wrap_succ hlt (by omega)
    have hk := fok_iff hlt
    by_cases a1 : fs[m].off < 0
    · rw [seen_no hlt (fun h => by have := hk.1 h.1; omega)]
      refine wd98 (And.intro hlt' (And.intro hg (And.intro hm1 a1))) ?_
      exact Fin.oneP
    by_cases a2 : fs[m].off ≥ 65536
    · rw [seen_no hlt (fun h => by have := hk.1 h.1; omega)]
      refine wd98 (And.intro hlt' (And.intro hg (And.intro hm1 (And.intro a1 a2)))) ?_
      exact Fin.oneP
    have hc := hF fs[m] (List.getElem_mem hlt)
    by_cases a3 : (m : Int) > 0
    · have hg2 := get_some (l := fs) (m := m - 1) (by omega)
      have hp : IntKind.i64.wrap ((m : Int) - 1) = ((m - 1 : Nat) : Int) := by rw [wrap_in (by omega)]; omega
      by_cases a4 : fs[m].off ≤ (fs[m - 1]'(by omega)).off
      · rw [seen_no hlt (fun h => by have := hk.1 h.1; omega)]
        refine wd98 (And.intro hlt' (And.intro hg (And.intro hm1 (And.intro a1 (And.intro a2 (And.intro a3 (And.intro hg2 (And.intro hp a4)))))))) ?_
        exact Fin.oneP
      · have hk2 : fok fs m = true := hk.2 (by omega)
        refine wd98 (And.intro hlt' (And.intro hg (And.intro hm1 (And.intro a1 (And.intro a2 (And.intro a3 (And.intro hg2 (And.intro hp a4)))))))) ?_
        by_cases b : frm fs[m] = true
        · rw [b] at hc
          refine AR.callP hc @tyV_eq True.intro ?_
          refine go98 True.intro ?_
          refine wd98 hm1 ?_
          refine ALp.cutP 0 [(0, .sl (fs.map fdV) .ro), (2, (.im (.bool (false)))), (3, (.im (.int .i64 (((m + 1 : Nat) : Int)))))] [] True.intro ?_
          exact hnext (m + 1) (by omega) (by omega) (hI.succ hlt hk2 b)
        · rw [seen_no hlt (fun h => b h.2)]
          rw [Bool.eq_false_iff.2 b] at hc
          refine AR.callP hc @tyV_eq True.intro ?_
          refine go98 True.intro ?_
          refine wd98 hm1 ?_
          exact Fin.oneP
    · have hk2 : fok fs m = true := hk.2 (by omega)
      refine wd98 (And.intro hlt' (And.intro hg (And.intro hm1 (And.intro a1 (And.intro a2 a3))))) ?_
      by_cases b : frm fs[m] = true
      · rw [b] at hc
        refine AR.callP hc @tyV_eq True.intro ?_
        refine go98 True.intro ?_
        refine wd98 hm1 ?_
        refine ALp.cutP 0 [(0, .sl (fs.map fdV) .ro), (2, (.im (.bool (false)))), (3, (.im (.int .i64 (((m + 1 : Nat) : Int)))))] [] True.intro ?_
        exact hnext (m + 1) (by omega) (by omega) (hI.succ hlt hk2 b)
      · rw [seen_no hlt (fun h => b h.2)]
        rw [Bool.eq_false_iff.2 b] at hc
        refine AR.callP hc @tyV_eq True.intro ?_
        refine go98 True.intro ?_
        refine wd98 hm1 ?_
        exact Fin.oneP
  · obtain rfl : m = fs.length := by omega
    have hlt' : ¬ (fs.length : Int) < (fs.length : Int) := by omega
    clear hnext
    rw [hI.done]
    refine wd98 hlt' ?_
    exact Fin.oneP
set_option maxRecDepth 100000 in
set_option maxHeartbeats 2000000 in
theorem c_isFormed : ∀ (t : Ty), fit t → PC Try.prog 64 [tyV t] (.im (.bool (frm t))) := by
  refine Ty.induct fun o k s c es fs hE hF => ?_
  intro hfit
  obtain ⟨hl1, hl2, hfE, hfF⟩ := fit_mk hfit
  have hA := c_areFormed rfl hl2 (fun t ht => hF t ht (hfF t ht))
  have nil : ∀ {l : List Ty}, (l.length : Int) = 0 → l = [] := fun h => List.length_eq_zero_iff.1 (by omega)
  refine PC.enter 133 Try.func64 rfl (by decide) rfl rfl (s := [(0, tyV (.mk o k s c es fs))]) (by rfl) ?_
  simp only [tyV_mk]
  by_cases k0 : k = 0 ∨ k = 6
  · rw [frm_flat (b := decide (c = 0) && decide ((es.length : Int) = 0) && decide ((fs.length : Int) = 0) && decide (s = 0)) (by rcases k0 with rfl | rfl <;> (rw [Bool.eq_iff_iff]; simp [base, -List.length_eq_zero_iff]; omega)) (fun h => by simp only [Bool.and_eq_true, decide_eq_true_eq] at h; exact ⟨nil h.1.1.2, nil h.1.2⟩)]
    rcases k0 with rfl | rfl
    all_goals
      refine wd64 True.intro ?_
      exact Fin.oneP
  by_cases k1 : k = 1 ∨ k = 2
  · rw [frm_flat (b := decide (c = 0) && decide ((es.length : Int) = 0) && decide ((fs.length : Int) = 0) && (decide (s = 1) || decide (s = 2) || decide (s = 4))) (by rcases k1 with rfl | rfl <;> (rw [Bool.eq_iff_iff]; simp [base, -List.length_eq_zero_iff]; omega)) (fun h => by simp only [Bool.and_eq_true, decide_eq_true_eq] at h; exact ⟨nil h.1.1.2, nil h.1.2⟩)]
    rcases k1 with rfl | rfl
    all_goals
      refine wd64 True.intro ?_
      exact Fin.oneP
  have k6 : ¬ k = 6 := by omega
  have k2 : ¬ k = 2 := by omega
  replace k0 : ¬ k = 0 := by omega
  replace k1 : ¬ k = 1 := by omega
  by_cases k3 : k = 3
  · subst k3
    cases h : (decide (s = 0) && decide (c = 0) && decide ((fs.length : Int) = 0) && decide ((es.length : Int) = 1)) with
    | false =>
      rw [frm_bad (by rw [Bool.eq_false_iff] at h ⊢; simp [base, -List.length_eq_zero_iff] at h ⊢; omega)]
      refine wd64 h ?_
      exact Fin.oneP
    | true =>
      simp only [Bool.and_eq_true, decide_eq_true_eq] at h
      obtain ⟨⟨⟨rfl, rfl⟩, hf⟩, he⟩ := h
      obtain rfl := nil hf
      obtain ⟨x, rfl⟩ := List.length_eq_one_iff.1 (show es.length = 1 by omega)
      have hc := hE x (by simp) (hfE x (by simp))
      rw [frm_of (by simp [base]) rfl]
      refine wd64 True.intro ?_
      refine AR.callP hc @tyV_eq True.intro ?_
      refine go64 True.intro ?_
      simp only [List.all_cons, List.all_nil, Bool.and_true]
      refine wd64 True.intro ?_
      exact Fin.oneP
  by_cases k4 : k = 4
  · subst k4
    cases h : (decide (s = 0) && decide (c ≥ 1) && decide (c ≤ 65536) && decide ((fs.length : Int) = 0) && decide ((es.length : Int) = 1)) with
    | false =>
      rw [frm_bad (by rw [Bool.eq_false_iff] at h ⊢; simp [base, -List.length_eq_zero_iff] at h ⊢; omega)]
      refine wd64 h ?_
      exact Fin.oneP
    | true =>
      simp only [Bool.and_eq_true, decide_eq_true_eq] at h
      obtain ⟨⟨⟨⟨rfl, h1⟩, h2⟩, hf⟩, he⟩ := h
      obtain rfl := nil hf
      obtain ⟨x, rfl⟩ := List.length_eq_one_iff.1 (show es.length = 1 by omega)
      have hc := hE x (by simp) (hfE x (by simp))
      rw [frm_of (by simp [base]; omega) rfl]
      refine wd64 (And.intro h1 h2) ?_
      refine AR.callP hc @tyV_eq True.intro ?_
      refine go64 True.intro ?_
      simp only [List.all_cons, List.all_nil, Bool.and_true]
      refine wd64 True.intro ?_
      exact Fin.oneP
  by_cases k5 : k = 5
  · subst k5
    cases h : (decide (s = 0) && decide (c = 0) && decide ((es.length : Int) = 0)) with
    | false =>
      rw [frm_bad (by rw [Bool.eq_false_iff] at h ⊢; simp [base, -List.length_eq_zero_iff] at h ⊢; omega)]
      refine wd64 h ?_
      exact Fin.oneP
    | true =>
      simp only [Bool.and_eq_true, decide_eq_true_eq] at h
      obtain ⟨⟨rfl, rfl⟩, he⟩ := h
      obtain rfl := nil he
      have e : frm (.mk o 5 0 0 [] fs) = (asc fs && fs.all frm) := by
        rw [frm_mk, show base 5 0 0 ([] : List Ty).length fs.length = true from by simp [base]]
        simp
      rw [e]
      refine wd64 True.intro ?_
      refine AR.callP hA @tyV_eq True.intro ?_
      refine go64 True.intro ?_
      refine wd64 True.intro ?_
      exact Fin.oneP
  rw [frm_bad (by simp [base, k0, k1, k2, k3, k4, k5, k6])]
  refine wd64 (And.intro k0 (And.intro k1 (And.intro k2 (And.intro k3 (And.intro k4 (And.intro k5 k6)))))) ?_
  exact Fin.oneP
end Go.Proofs.Ytfggemopnlffeaa

