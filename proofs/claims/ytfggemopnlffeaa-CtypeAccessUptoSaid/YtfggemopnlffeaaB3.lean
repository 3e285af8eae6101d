/- Walks: which types are formed. -/
import Derived.Test.YtfggemopnlffeaaHw
import Derived.Test.YtfggemopnlffeaaB2
namespace Go.Proofs.Ytfggemopnlffeaa
set_option linter.unusedSimpArgs false
set_option linter.unusedVariables false
set_option linter.unnecessarySimpa false
open Go.RowKit
/-- What has been seen of the fields. -/
def seen (fs : List Ty) (m : Nat) : Prop := ∀ j (hj : j < fs.length), j < m → fok fs j = true ∧ frm fs[j] = true
theorem seen.succ {fs : List Ty} {m : Nat} (h : seen fs m) (hm : m < fs.length) (h1 : fok fs m = true) (h2 : frm fs[m] = true) : seen fs (m + 1) := by
  intro j hj hlt
  rcases Nat.lt_succ_iff_lt_or_eq.1 hlt with h3 | rfl
  · exact h j hj h3
  · exact ⟨h1, h2⟩
theorem seen.done {fs : List Ty} (h : seen fs fs.length) : (asc fs && fs.all frm) = true := by
  simp only [Bool.and_eq_true, asc, List.all_eq_true, List.mem_range]
  refine ⟨fun i hi => (h i hi hi).1, fun t ht => ?_⟩
  obtain ⟨i, hi, rfl⟩ := List.getElem_of_mem ht
  exact (h i hi hi).2
theorem unseen {fs : List Ty} {m : Nat} (hm : m < fs.length) (h : ¬ (fok fs m = true ∧ frm fs[m] = true)) : (asc fs && fs.all frm) = false := by
  rw [Bool.eq_false_iff]
  intro hn
  simp only [Bool.and_eq_true, asc, List.all_eq_true, List.mem_range] at hn
  exact h ⟨hn.1 m hm, hn.2 _ (List.getElem_mem hm)⟩
theorem fok_zero {fs : List Ty} (hi : 0 < fs.length) : fok fs 0 = (decide (0 ≤ fs[0].off) && decide (fs[0].off < 65536)) := by
  unfold fok
  have e : (fs.map Ty.off).getD 0 0 = fs[0].off := by simp [List.getD, hi]
  rw [e]
  simp
theorem fok_succ {fs : List Ty} {j : Nat} (hi : j + 1 < fs.length) : fok fs (j + 1) = (decide (0 ≤ fs[j + 1].off) && decide (fs[j + 1].off < 65536) && decide (fs[j].off < fs[j + 1].off)) := by
  unfold fok
  have hj : j < fs.length := by omega
  have e : (fs.map Ty.off).getD (j + 1) 0 = fs[j + 1].off := by simp [List.getD, hi]
  have e2 : (fs.map Ty.off).getD (j + 1 - 1) 0 = fs[j].off := by simp [List.getD, hj]
  rw [e, e2]
  simp
theorem wrap_pred {j : Nat} (h : j + 1 ≤ 4194304) : IntKind.i64.wrap (((j + 1 : Nat) : Int) - 1) = (j : Int) := by
  rw [wrap_in (by omega)]
  omega
theorem fok_iff {fs : List Ty} {m : Nat} (hm : m < fs.length) : fok fs m = true ↔ 0 ≤ fs[m].off ∧ fs[m].off < 65536 ∧ (m = 0 ∨ (fs[m - 1]'(by omega)).off < fs[m].off) := by
  cases m with
  | zero => rw [fok_zero hm]; simp
  | succ j => rw [fok_succ hm]; simp [and_assoc]
theorem frm_unseen {o : Int} {fs : List Ty} {m : Nat} (hm : m < fs.length) (h : ¬ (fok fs m = true ∧ frm fs[m] = true)) : frm (.mk o 5 0 0 [] fs) = false := by
  rw [frm_mk]
  have := unseen hm h
  simp only [Bool.and_eq_false_iff] at this ⊢
  exact .inl (this.elim (fun h => .inl (.inr h)) .inr)
theorem frm_bad {o k s c : Int} {es fs : List Ty} (h : base k s c es.length fs.length = false) : frm (.mk o k s c es fs) = false := by rw [frm_mk, h]; rfl

theorem frm_of {o k s c : Int} {es fs : List Ty} (hb : base k s c es.length fs.length = true) (hf : fs = []) : frm (.mk o k s c es fs) = es.all frm := by
  subst hf
  rw [frm_mk, hb]
  simp [asc]
set_option maxRecDepth 100000 in
set_option maxHeartbeats 2000000 in
theorem formed5 {o s c : Int} {es fs : List Ty} (hF : ∀ t ∈ fs, fit t → PC Try.prog 45 [tyV t] (.im (.bool (frm t)))) (hfit : fit (.mk o 5 s c es fs)) : PC Try.prog 45 [tyV (.mk o 5 s c es fs)] (.im (.bool (frm (.mk o 5 s c es fs)))) := by
  obtain ⟨hl1, hl2, hfE, hfF⟩ := fit_mk hfit
  refine PC.enter 131 Try.func45 rfl (by decide) rfl rfl (s := [(0, tyV (.mk o 5 s c es fs))]) (by rfl) ?_
  simp only [tyV_mk]
  refine wd45 True.intro ?_
  refine AWp.condA rfl rfl (fun h => ?_) (fun h => ?_)
  · rw [frm_bad (by simp [base, -List.length_eq_zero_iff] at h ⊢; omega)]
    refine w45 True.intro ?_
    exact Fin.oneP
  · obtain ⟨rfl, rfl, he⟩ : s = 0 ∧ c = 0 ∧ es.length = 0 := by simp [-List.length_eq_zero_iff] at h; omega
    obtain rfl := List.length_eq_zero_iff.1 he
    refine wd45 True.intro ?_
    refine AWp.loop ?_
    refine ALp.cutP 1 [(0, .ag [.im (.int .i64 5), .im (.int .i64 0), .im (.int .i64 0), .sl [] .ro, .sl (fs.map fdV) .ro]), (1, .pt 0 0), (4, (.im (.int .i64 (0)))), (5, (.im (.bool (true)))), (84, .sl (fs.map fdV) .ro), (85, (.im (.int .i64 (fs.length)))), (86, (.im (.int .i64 (((0 : Nat) : Int)))))] [.box [.im (.int .i64 5), .im (.int .i64 0), .im (.int .i64 0), .sl [] .ro, .sl (fs.map fdV) .ro]] True.intro ?_
    refine ALp.upto fs.length (fun m => seen fs m) (fun m => ⟨dn 131 [(0, .ag [.im (.int .i64 5), .im (.int .i64 0), .im (.int .i64 0), .sl [] .ro, .sl (fs.map fdV) .ro]), (1, .pt 0 0), (4, (.im (.int .i64 (0)))), (5, (.im (.bool (true)))), (84, .sl (fs.map fdV) .ro), (85, (.im (.int .i64 (fs.length)))), (86, (.im (.int .i64 (((m : Nat) : Int)))))], ofl [.box [.im (.int .i64 5), .im (.int .i64 0), .im (.int .i64 0), .sl [] .ro, .sl (fs.map fdV) .ro]]⟩) ?_ 0 (Nat.zero_le _) (fun j _ hj => absurd hj (Nat.not_lt_zero _))
    intro m hm hI hnext
    by_cases hlt : m < fs.length
    · have hlt' : (m : Int) < (fs.length : Int) := by omega
      have hg := get_some hlt
      have hm1 := wrap_succ hlt (by omega)
      have hk := fok_iff hlt
      by_cases a1 : fs[m].off < 0
      · rw [frm_unseen hlt (fun h => by have := hk.1 h.1; omega)]
        refine wd45 (And.intro hlt' (And.intro hg (And.intro hm1 a1))) ?_
        exact Fin.oneP
      by_cases a2 : fs[m].off ≥ 65536
      · rw [frm_unseen hlt (fun h => by have := hk.1 h.1; omega)]
        refine wd45 (And.intro hlt' (And.intro hg (And.intro hm1 (And.intro a1 a2)))) ?_
        exact Fin.oneP
      have hc := hF fs[m] (List.getElem_mem hlt) (hfF _ (List.getElem_mem hlt))
      by_cases a3 : (m : Int) > 0
      · have hg2 := get_some (l := fs) (m := m - 1) (by omega)
        have hp : IntKind.i64.wrap ((m : Int) - 1) = ((m - 1 : Nat) : Int) := by rw [wrap_in (by omega)]; omega
        by_cases a4 : fs[m].off ≤ (fs[m - 1]'(by omega)).off
        · rw [frm_unseen hlt (fun h => by have := hk.1 h.1; omega)]
          refine wd45 (And.intro hlt' (And.intro hg (And.intro hm1 (And.intro a1 (And.intro a2 (And.intro a3 (And.intro hg2 (And.intro hp a4)))))))) ?_
          exact Fin.oneP
        · have hk2 : fok fs m = true := hk.2 (by omega)
          refine wd45 (And.intro hlt' (And.intro hg (And.intro hm1 (And.intro a1 (And.intro a2 (And.intro a3 (And.intro hg2 (And.intro hp a4)))))))) ?_
          by_cases b : frm fs[m] = true
          · rw [b] at hc
            refine AR.callP hc @tyV_eq True.intro ?_
            refine go45 True.intro ?_
            refine wd45 hm1 ?_
            refine ALp.cutP 1 [(0, .ag [.im (.int .i64 5), .im (.int .i64 0), .im (.int .i64 0), .sl [] .ro, .sl (fs.map fdV) .ro]), (1, .pt 0 0), (4, (.im (.int .i64 (0)))), (5, (.im (.bool (true)))), (84, .sl (fs.map fdV) .ro), (85, (.im (.int .i64 (fs.length)))), (86, (.im (.int .i64 (((m + 1 : Nat) : Int)))))] [.box [.im (.int .i64 5), .im (.int .i64 0), .im (.int .i64 0), .sl [] .ro, .sl (fs.map fdV) .ro]] True.intro ?_
            exact hnext (m + 1) (by omega) (by omega) (hI.succ hlt hk2 b)
          · rw [frm_unseen hlt (fun h => b h.2)]
            rw [Bool.eq_false_iff.2 b] at hc
            refine AR.callP hc @tyV_eq True.intro ?_
            refine go45 True.intro ?_
            refine wd45 hm1 ?_
            exact Fin.oneP
      · have hk2 : fok fs m = true := hk.2 (by omega)
        refine wd45 (And.intro hlt' (And.intro hg (And.intro hm1 (And.intro a1 (And.intro a2 a3))))) ?_
        by_cases b : frm fs[m] = true
        · rw [b] at hc
          refine AR.callP hc @tyV_eq True.intro ?_
          refine go45 True.intro ?_
          refine wd45 hm1 ?_
          refine ALp.cutP 1 [(0, .ag [.im (.int .i64 5), .im (.int .i64 0), .im (.int .i64 0), .sl [] .ro, .sl (fs.map fdV) .ro]), (1, .pt 0 0), (4, (.im (.int .i64 (0)))), (5, (.im (.bool (true)))), (84, .sl (fs.map fdV) .ro), (85, (.im (.int .i64 (fs.length)))), (86, (.im (.int .i64 (((m + 1 : Nat) : Int)))))] [.box [.im (.int .i64 5), .im (.int .i64 0), .im (.int .i64 0), .sl [] .ro, .sl (fs.map fdV) .ro]] True.intro ?_
          exact hnext (m + 1) (by omega) (by omega) (hI.succ hlt hk2 b)
        · rw [frm_unseen hlt (fun h => b h.2)]
          rw [Bool.eq_false_iff.2 b] at hc
          refine AR.callP hc @tyV_eq True.intro ?_
          refine go45 True.intro ?_
          refine wd45 hm1 ?_
          exact Fin.oneP
    · obtain rfl : m = fs.length := by omega
      have hlt' : ¬ (fs.length : Int) < (fs.length : Int) := by omega
      clear hnext
      have e : frm (.mk o 5 0 0 [] fs) = true := by
        rw [frm_mk, show base 5 0 0 ([] : List Ty).length fs.length = true from by simp [base]]
        simpa using hI.done
      rw [e]
      refine wd45 hlt' ?_
      exact Fin.oneP
set_option maxRecDepth 100000 in
set_option maxHeartbeats 2000000 in
theorem c_formed : ∀ (t : Ty), fit t → PC Try.prog 45 [tyV t] (.im (.bool (frm t))) := by
  refine Ty.induct fun o k s c es fs hE hF => ?_
  intro hfit
  obtain ⟨hl1, hl2, hfE, hfF⟩ := fit_mk hfit
  by_cases k5 : k = 5
  · subst k5
    exact formed5 hF hfit
  refine PC.enter 131 Try.func45 rfl (by decide) rfl rfl (s := [(0, tyV (.mk o k s c es fs))]) (by rfl) ?_
  simp only [tyV_mk]
  by_cases k0 : k = 0 ∨ k = 6
  · rcases k0 with rfl | rfl
    all_goals
      refine wd45 True.intro ?_
      refine AWp.condA rfl rfl (fun h => ?_) (fun h => ?_)
      · rw [frm_bad (by simp [base, -List.length_eq_zero_iff] at h ⊢; omega)]
        refine w45 True.intro ?_
        exact Fin.oneP
      · obtain ⟨rfl, rfl, he, hf⟩ : s = 0 ∧ c = 0 ∧ es.length = 0 ∧ fs.length = 0 := by simp [-List.length_eq_zero_iff] at h; omega
        obtain rfl := List.length_eq_zero_iff.1 he
        obtain rfl := List.length_eq_zero_iff.1 hf
        rw [frm_of (by decide) rfl]
        refine wd45 True.intro ?_
        refine AWp.loop (ALp.round ?_)
        refine w45 True.intro ?_
        exact Fin.oneP
  by_cases k1 : k = 1 ∨ k = 2
  · rcases k1 with rfl | rfl
    all_goals
      refine wd45 True.intro ?_
      refine AWp.condA rfl rfl (fun h => ?_) (fun h => ?_)
      · rw [frm_bad (by simp [base, -List.length_eq_zero_iff] at h ⊢; omega)]
        refine w45 True.intro ?_
        exact Fin.oneP
      · have hs : s = 1 ∨ s = 2 ∨ s = 4 := by simp [-List.length_eq_zero_iff] at h; omega
        refine wd45 True.intro ?_
        refine AWp.condA rfl rfl (fun h => ?_) (fun h => ?_)
        · rw [frm_bad (by simp [base, -List.length_eq_zero_iff] at h ⊢; omega)]
          refine w45 True.intro ?_
          exact Fin.oneP
        · obtain ⟨rfl, he, hf⟩ : c = 0 ∧ es.length = 0 ∧ fs.length = 0 := by simp [-List.length_eq_zero_iff] at h; omega
          obtain rfl := List.length_eq_zero_iff.1 he
          obtain rfl := List.length_eq_zero_iff.1 hf
          rw [frm_of (by simp [base, -List.length_eq_zero_iff]; omega) rfl]
          refine wd45 True.intro ?_
          refine AWp.loop (ALp.round ?_)
          refine w45 True.intro ?_
          exact Fin.oneP
  by_cases k3 : k = 3
  · subst k3
    refine wd45 True.intro ?_
    refine AWp.condA rfl rfl (fun h => ?_) (fun h => ?_)
    · rw [frm_bad (by simp [base, -List.length_eq_zero_iff] at h ⊢; omega)]
      refine w45 True.intro ?_
      exact Fin.oneP
    · obtain ⟨rfl, rfl, he, hf⟩ : s = 0 ∧ c = 0 ∧ es.length = 1 ∧ fs.length = 0 := by simp [-List.length_eq_zero_iff] at h; omega
      obtain ⟨x, rfl⟩ := List.length_eq_one_iff.1 he
      obtain rfl := List.length_eq_zero_iff.1 hf
      have hc := hE x (by simp) (hfE x (by simp))
      rw [frm_of (by simp [base]) rfl]
      refine wd45 True.intro ?_
      refine AWp.loop (ALp.round ?_)
      refine wd45 True.intro ?_
      refine AR.callP hc @tyV_eq True.intro ?_
      refine go45 True.intro ?_
      simp only [List.all_cons, List.all_nil, Bool.and_true]
      refine wd45 True.intro ?_
      exact Fin.oneP
  by_cases k4 : k = 4
  · subst k4
    refine wd45 True.intro ?_
    refine AWp.condA rfl rfl (fun h => ?_) (fun h => ?_)
    · rw [frm_bad (by simp [base, -List.length_eq_zero_iff] at h ⊢; omega)]
      refine w45 True.intro ?_
      exact Fin.oneP
    · have hs : 1 ≤ c ∧ c ≤ 65536 := by simp [-List.length_eq_zero_iff] at h; omega
      refine wd45 True.intro ?_
      refine AWp.condA rfl rfl (fun h => ?_) (fun h => ?_)
      · rw [frm_bad (by simp [base, -List.length_eq_zero_iff] at h ⊢; omega)]
        refine w45 True.intro ?_
        exact Fin.oneP
      · obtain ⟨rfl, he, hf⟩ : s = 0 ∧ es.length = 1 ∧ fs.length = 0 := by simp [-List.length_eq_zero_iff] at h; omega
        obtain ⟨x, rfl⟩ := List.length_eq_one_iff.1 he
        obtain rfl := List.length_eq_zero_iff.1 hf
        have hc := hE x (by simp) (hfE x (by simp))
        rw [frm_of (by simp [base, -List.length_eq_zero_iff]; omega) rfl]
        refine wd45 True.intro ?_
        refine AWp.loop (ALp.round ?_)
        refine wd45 True.intro ?_
        refine AR.callP hc @tyV_eq True.intro ?_
        refine go45 True.intro ?_
        simp only [List.all_cons, List.all_nil, Bool.and_true]
        refine wd45 True.intro ?_
        exact Fin.oneP
  have k6 : ¬ k = 6 := by omega
  have k2 : ¬ k = 2 := by omega
  replace k0 : ¬ k = 0 := by omega
  replace k1 : ¬ k = 1 := by omega
  rw [frm_bad (by simp [base, k0, k1, k2, k3, k4, k5, k6])]
  refine wd45 (And.intro k0 (And.intro k1 (And.intro k2 (And.intro k3 (And.intro k4 (And.intro k5 k6)))))) ?_
  exact Fin.oneP
end Go.Proofs.Ytfggemopnlffeaa

