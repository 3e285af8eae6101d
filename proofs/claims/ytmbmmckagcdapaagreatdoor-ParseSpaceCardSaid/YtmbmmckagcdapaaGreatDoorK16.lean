import Derived.Test.YtmbmmckagcdapaaGreatDoorK12
import Derived.Test.YtmbmmckagcdapaaGreatDoorK10
import Derived.Test.YtmbmmckagcdapaaGreatDoorK13
set_option linter.unusedSimpArgs false
set_option linter.unusedVariables false
set_option linter.unnecessarySimpa false
namespace Go.Proofs.YtmbmmckagcdapaaGreatDoor
open Go.RowKit
theorem all2_ne {α β : Type} {p : α → β → Bool} {l : List α} {m : List β} (h : l.length ≠ m.length) : all2 p l m = false := by
  rw [← Bool.not_eq_true, all2_iff]
  exact fun k => h k.1
theorem all2_at {α β : Type} {p : α → β → Bool} {l : List α} {m : List β} {i : Nat} (h1 : i < l.length) (h2 : i < m.length) (h : p l[i] m[i] = false) : all2 p l m = false := by
  rw [← Bool.not_eq_true, all2_iff]
  exact fun k => by rw [k.2 i h1 h2] at h; cases h
def to2 {α β : Type} (p : α → β → Bool) (l : List α) (k : List β) (m : Nat) : Prop := ∀ j (h1 : j < l.length) (h2 : j < k.length), j < m → p l[j] k[j] = true
theorem to2.zero {α β : Type} (p : α → β → Bool) (l : List α) (k : List β) : to2 p l k 0 := fun j _ _ h => absurd h (Nat.not_lt_zero j)
theorem to2.succ {α β : Type} {p : α → β → Bool} {l : List α} {k : List β} {m : Nat} (h : to2 p l k m) (h1 : m < l.length) (h2 : m < k.length) (hp : p l[m] k[m] = true) : to2 p l k (m + 1) := fun j j1 j2 hj => by
  rcases Nat.lt_succ_iff_lt_or_eq.1 hj with hj | rfl
  · exact h j j1 j2 hj
  · exact hp
theorem to2.all {α β : Type} {p : α → β → Bool} {l : List α} {k : List β} (h : to2 p l k l.length) (he : l.length = k.length) : all2 p l k = true := all2_iff.2 ⟨he, fun j j1 j2 => h j j1 j2 j1⟩
def seen (fs : List Ty) (m : Nat) : Prop := ∀ j (hj : j < fs.length), j < m → fok fs j = true ∧ frm fs[j] = true
theorem seen.succ {fs : List Ty} {m : Nat} (h : seen fs m) (hm : m < fs.length) (h1 : fok fs m = true) (h2 : frm fs[m] = true) : seen fs (m + 1) := by
  intro j hj hlt
  rcases Nat.lt_succ_iff_lt_or_eq.1 hlt with h3 | rfl
  · exact h j hj h3
  · exact ⟨h1, h2⟩
theorem seen.done {fs : List Ty} (h : seen fs fs.length) : (asc fs && fs.all frm) = true := by
  simp only [Bool.and_eq_true, asc, List.all_eq_true, List.mem_range]
  refine ⟨fun i hi => (h i hi hi).1, fun t ht => ?_⟩
  obtain ⟨i, hi, rfl⟩ := List.getElem_of_mem ht
  exact (h i hi hi).2
theorem unseen {fs : List Ty} {m : Nat} (hm : m < fs.length) (h : ¬ (fok fs m = true ∧ frm fs[m] = true)) : (asc fs && fs.all frm) = false := by
  rw [Bool.eq_false_iff]
  intro hn
  simp only [Bool.and_eq_true, asc, List.all_eq_true, List.mem_range] at hn
  exact h ⟨hn.1 m hm, hn.2 _ (List.getElem_mem hm)⟩
theorem fok_zero {fs : List Ty} (hi : 0 < fs.length) : fok fs 0 = (decide (0 ≤ fs[0].off) && decide (fs[0].off < 65536)) := by
  unfold fok
  have e : (fs.map Ty.off).getD 0 0 = fs[0].off := by simp [List.getD, hi]
  rw [e]
  simp
theorem fok_succ {fs : List Ty} {j : Nat} (hi : j + 1 < fs.length) : fok fs (j + 1) = (decide (0 ≤ fs[j + 1].off) && decide (fs[j + 1].off < 65536) && decide (fs[j].off < fs[j + 1].off)) := by
  unfold fok
  have hj : j < fs.length := by omega
  have e : (fs.map Ty.off).getD (j + 1) 0 = fs[j + 1].off := by simp [List.getD, hi]
  have e2 : (fs.map Ty.off).getD (j + 1 - 1) 0 = fs[j].off := by simp [List.getD, hj]
  rw [e, e2]
  simp
theorem fok_iff {fs : List Ty} {m : Nat} (hm : m < fs.length) : fok fs m = true ↔ 0 ≤ fs[m].off ∧ fs[m].off < 65536 ∧ (m = 0 ∨ (fs[m - 1]'(by omega)).off < fs[m].off) := by
  cases m with
  | zero => rw [fok_zero hm]; simp
  | succ j => rw [fok_succ hm]; simp [and_assoc]
theorem frm_unseen {o : Int} {fs : List Ty} {m : Nat} (hm : m < fs.length) (h : ¬ (fok fs m = true ∧ frm fs[m] = true)) : frm (.mk o 5 0 0 [] fs) = false := by
  rw [frm_mk]
  have := unseen hm h
  simp only [Bool.and_eq_false_iff] at this ⊢
  exact .inl (this.elim (fun h => .inl (.inr h)) .inr)
theorem frm_bad {o k s c : Int} {es fs : List Ty} (h : base k s c es.length fs.length = false) : frm (.mk o k s c es fs) = false := by rw [frm_mk, h]; rfl
theorem frm_of {o k s c : Int} {es fs : List Ty} (hb : base k s c es.length fs.length = true) (hf : fs = []) : frm (.mk o k s c es fs) = es.all frm := by
  subst hf
  rw [frm_mk, hb]
  simp [asc]
theorem Y158_B3 : type_of% (AI @F_ag_218 (AI @F_ag_3 (AI @F_ag_91 (AI @F_ag_92 (AI @F_ag_94 (AI @F_al_218 (AI @F_al_94 (AI @F_el_91 (AI @F_el_92 (AI @F_fl_218_0 (AI @F_fl_218_1 (AI @F_fl_94_0 (AI @F_fl_94_1 (AI @F_fl_94_2 (AI @F_fl_94_3 (AI @F_fl_94_4 (AI @F_st_94 (AI @F_sz_218 (AI @F_sz_3 (AI @F_sz_91 (AI @F_sz_92 (@F_sz_94)))))))))))))))))))))) := AI @F_ag_218 (AI @F_ag_3 (AI @F_ag_91 (AI @F_ag_92 (AI @F_ag_94 (AI @F_al_218 (AI @F_al_94 (AI @F_el_91 (AI @F_el_92 (AI @F_fl_218_0 (AI @F_fl_218_1 (AI @F_fl_94_0 (AI @F_fl_94_1 (AI @F_fl_94_2 (AI @F_fl_94_3 (AI @F_fl_94_4 (AI @F_st_94 (AI @F_sz_218 (AI @F_sz_3 (AI @F_sz_91 (AI @F_sz_92 (@F_sz_94)))))))))))))))))))))
set_option maxRecDepth 100000 in
set_option maxHeartbeats 2000000 in
theorem formed5 {o s c : Int} {es fs : List Ty} (hF : ∀ t ∈ fs, fit t → PC Tryz.prog 158 [tyV t] (.im (.bool (frm t)))) (hfit : fit (.mk o 5 s c es fs)) : PC Tryz.prog 158 [tyV (.mk o 5 s c es fs)] (.im (.bool (frm (.mk o 5 s c es fs)))) := by
  obtain ⟨hl1, hl2, hfE, hfF⟩ := fit_mk hfit
  refine PC.enter 131 Tryz.func158 rfl (by decide) rfl rfl (s := [(0, tyV (.mk o 5 s c es fs))]) (by rfl) ?_
  simp only [tyV_mk]
  refine wdG Y158_B3 True.intro ?_
  refine AWp.condA rfl rfl (fun h => ?_) (fun h => ?_)
  · rw [frm_bad (by simp [base, -List.length_eq_zero_iff] at h ⊢; omega)]
    refine wG Y158_B3 True.intro ?_; exact Fin.oneP
  · obtain ⟨rfl, rfl, he⟩ : s = 0 ∧ c = 0 ∧ es.length = 0 := by simp [-List.length_eq_zero_iff] at h; omega
    obtain rfl := List.length_eq_zero_iff.1 he; refine wdG Y158_B3 True.intro ?_; refine AWp.loop ?_; refine ALp.cutP 1 [(0, .ag [.im (.int .i64 5), .im (.int .i64 0), .im (.int .i64 0), .sl [] .ro, .sl (fs.map fdV) .ro]), (1, .pt 0 0), (4, (.im (.int .i64 (0)))), (5, (.im (.bool (true)))), (84, .sl (fs.map fdV) .ro), (85, (.im (.int .i64 (fs.length)))), (86, (.im (.int .i64 (((0 : Nat) : Int)))))] [.box [.im (.int .i64 5), .im (.int .i64 0), .im (.int .i64 0), .sl [] .ro, .sl (fs.map fdV) .ro]] True.intro ?_; refine ALp.upto fs.length (fun m => seen fs m) (fun m => ⟨dn 131 [(0, .ag [.im (.int .i64 5), .im (.int .i64 0), .im (.int .i64 0), .sl [] .ro, .sl (fs.map fdV) .ro]), (1, .pt 0 0), (4, (.im (.int .i64 (0)))), (5, (.im (.bool (true)))), (84, .sl (fs.map fdV) .ro), (85, (.im (.int .i64 (fs.length)))), (86, (.im (.int .i64 (((m : Nat) : Int)))))], ofl [.box [.im (.int .i64 5), .im (.int .i64 0), .im (.int .i64 0), .sl [] .ro, .sl (fs.map fdV) .ro]]⟩) ?_ 0 (Nat.zero_le _) (fun j _ hj => absurd hj (Nat.not_lt_zero _))
    intro m hm hI hnext
    by_cases hlt : m < fs.length
    · have hlt' : (m : Int) < (fs.length : Int) := by omega
      have hg := get_some hlt; have hm1 := wrap_succ hlt (by omega)
      have hk := fok_iff hlt
      by_cases a1 : fs[m].off < 0
      · rw [frm_unseen hlt (fun h => by have := hk.1 h.1; omega)]
        refine wdG Y158_B3 (AI (@tyV_firm) (AI (@fdV_firm) (AI (@tyV_strip) (AI (@fdV_strip) (AI (@tyV_live) (AI (@tyV_size) (AI (@tyV_isAg) (AI (@tyV_cells) (AI (@fdV_live) (AI (@fdV_size) (AI (@fdV_isAg) (AI (@fdV_cells) (AI (@List.getElem?_map.{0, 0}) (AI (@Int.natCast_nonneg) (AI hlt' (AI hg (AI hm1 a1))))))))))))))))) ?_; exact Fin.oneP
      by_cases a2 : fs[m].off ≥ 65536
      · rw [frm_unseen hlt (fun h => by have := hk.1 h.1; omega)]
        refine wdG Y158_B3 (AI (@tyV_firm) (AI (@fdV_firm) (AI (@tyV_strip) (AI (@fdV_strip) (AI (@tyV_live) (AI (@tyV_size) (AI (@tyV_isAg) (AI (@tyV_cells) (AI (@fdV_live) (AI (@fdV_size) (AI (@fdV_isAg) (AI (@fdV_cells) (AI (@List.getElem?_map.{0, 0}) (AI (@Int.natCast_nonneg) (AI hlt' (AI hg (AI hm1 (AI a1 a2)))))))))))))))))) ?_; exact Fin.oneP
      have hc := hF fs[m] (List.getElem_mem hlt) (hfF _ (List.getElem_mem hlt))
      by_cases a3 : (m : Int) > 0
      · have hg2 := get_some (l := fs) (m := m - 1) (by omega)
        have hp : IntKind.i64.wrap ((m : Int) - 1) = ((m - 1 : Nat) : Int) := by rw [wrap_in (by omega)]; omega
        by_cases a4 : fs[m].off ≤ (fs[m - 1]'(by omega)).off
        · rw [frm_unseen hlt (fun h => by have := hk.1 h.1; omega)]
          refine wdG Y158_B3 (AI (@tyV_firm) (AI (@fdV_firm) (AI (@tyV_strip) (AI (@fdV_strip) (AI (@tyV_live) (AI (@tyV_size) (AI (@tyV_isAg) (AI (@tyV_cells) (AI (@fdV_live) (AI (@fdV_size) (AI (@fdV_isAg) (AI (@fdV_cells) (AI (@List.getElem?_map.{0, 0}) (AI (@Int.natCast_nonneg) (AI hlt' (AI hg (AI hm1 (AI a1 (AI a2 (AI a3 (AI hg2 (AI hp a4)))))))))))))))))))))) ?_; exact Fin.oneP
        · have hk2 : fok fs m = true := hk.2 (by omega)
          refine wdG Y158_B3 (AI (@tyV_firm) (AI (@fdV_firm) (AI (@tyV_strip) (AI (@fdV_strip) (AI (@tyV_live) (AI (@tyV_size) (AI (@tyV_isAg) (AI (@tyV_cells) (AI (@fdV_live) (AI (@fdV_size) (AI (@fdV_isAg) (AI (@fdV_cells) (AI (@List.getElem?_map.{0, 0}) (AI (@Int.natCast_nonneg) (AI hlt' (AI hg (AI hm1 (AI a1 (AI a2 (AI a3 (AI hg2 (AI hp a4)))))))))))))))))))))) ?_
          by_cases b : frm fs[m] = true
          · rw [b] at hc
            refine AR.callP hc @tyV_eq True.intro ?_; refine goG Y158_B3 True.intro ?_; refine wdG Y158_B3 hm1 ?_; refine ALp.cutP 1 [(0, .ag [.im (.int .i64 5), .im (.int .i64 0), .im (.int .i64 0), .sl [] .ro, .sl (fs.map fdV) .ro]), (1, .pt 0 0), (4, (.im (.int .i64 (0)))), (5, (.im (.bool (true)))), (84, .sl (fs.map fdV) .ro), (85, (.im (.int .i64 (fs.length)))), (86, (.im (.int .i64 (((m + 1 : Nat) : Int)))))] [.box [.im (.int .i64 5), .im (.int .i64 0), .im (.int .i64 0), .sl [] .ro, .sl (fs.map fdV) .ro]] True.intro ?_; exact hnext (m + 1) (by omega) (by omega) (hI.succ hlt hk2 b)
          · rw [frm_unseen hlt (fun h => b h.2)]
            rw [Bool.eq_false_iff.2 b] at hc; refine AR.callP hc @tyV_eq True.intro ?_; refine goG Y158_B3 True.intro ?_; refine wdG Y158_B3 hm1 ?_; exact Fin.oneP
      · have hk2 : fok fs m = true := hk.2 (by omega)
        refine wdG Y158_B3 (AI (@tyV_firm) (AI (@fdV_firm) (AI (@tyV_strip) (AI (@fdV_strip) (AI (@tyV_live) (AI (@tyV_size) (AI (@tyV_isAg) (AI (@tyV_cells) (AI (@fdV_live) (AI (@fdV_size) (AI (@fdV_isAg) (AI (@fdV_cells) (AI (@List.getElem?_map.{0, 0}) (AI (@Int.natCast_nonneg) (AI hlt' (AI hg (AI hm1 (AI a1 (AI a2 a3))))))))))))))))))) ?_
        by_cases b : frm fs[m] = true
        · rw [b] at hc
          refine AR.callP hc @tyV_eq True.intro ?_; refine goG Y158_B3 True.intro ?_; refine wdG Y158_B3 hm1 ?_; refine ALp.cutP 1 [(0, .ag [.im (.int .i64 5), .im (.int .i64 0), .im (.int .i64 0), .sl [] .ro, .sl (fs.map fdV) .ro]), (1, .pt 0 0), (4, (.im (.int .i64 (0)))), (5, (.im (.bool (true)))), (84, .sl (fs.map fdV) .ro), (85, (.im (.int .i64 (fs.length)))), (86, (.im (.int .i64 (((m + 1 : Nat) : Int)))))] [.box [.im (.int .i64 5), .im (.int .i64 0), .im (.int .i64 0), .sl [] .ro, .sl (fs.map fdV) .ro]] True.intro ?_; exact hnext (m + 1) (by omega) (by omega) (hI.succ hlt hk2 b)
        · rw [frm_unseen hlt (fun h => b h.2)]
          rw [Bool.eq_false_iff.2 b] at hc; refine AR.callP hc @tyV_eq True.intro ?_; refine goG Y158_B3 True.intro ?_; refine wdG Y158_B3 hm1 ?_; exact Fin.oneP
    · obtain rfl : m = fs.length := by omega
      have hlt' : ¬ (fs.length : Int) < (fs.length : Int) := by omega
      clear hnext
      have e : frm (.mk o 5 0 0 [] fs) = true := by
        rw [frm_mk, show base 5 0 0 ([] : List Ty).length fs.length = true from by simp [base]]
        simpa using hI.done
      rw [e]; refine wdG Y158_B3 hlt' ?_; exact Fin.oneP
set_option maxRecDepth 100000 in
set_option maxHeartbeats 2000000 in
theorem c_formed : ∀ (t : Ty), fit t → PC Tryz.prog 158 [tyV t] (.im (.bool (frm t))) := by
  refine Ty.induct fun o k s c es fs hE hF => ?_
  intro hfit
  obtain ⟨hl1, hl2, hfE, hfF⟩ := fit_mk hfit
  by_cases k5 : k = 5
  · subst k5
    exact formed5 hF hfit
  refine PC.enter 131 Tryz.func158 rfl (by decide) rfl rfl (s := [(0, tyV (.mk o k s c es fs))]) (by rfl) ?_
  simp only [tyV_mk]
  by_cases k0 : k = 0 ∨ k = 6
  · rcases k0 with rfl | rfl
    all_goals
      refine wdG Y158_B3 True.intro ?_; refine AWp.condA rfl rfl (fun h => ?_) (fun h => ?_)
      · rw [frm_bad (by simp [base, -List.length_eq_zero_iff] at h ⊢; omega)]
        refine wG Y158_B3 True.intro ?_; exact Fin.oneP
      · obtain ⟨rfl, rfl, he, hf⟩ : s = 0 ∧ c = 0 ∧ es.length = 0 ∧ fs.length = 0 := by simp [-List.length_eq_zero_iff] at h; omega
        obtain rfl := List.length_eq_zero_iff.1 he; obtain rfl := List.length_eq_zero_iff.1 hf; rw [frm_of (by decide) rfl]
        refine wdG Y158_B3 True.intro ?_; refine AWp.loop (ALp.round ?_); refine wG Y158_B3 True.intro ?_; exact Fin.oneP
  by_cases k1 : k = 1 ∨ k = 2
  · rcases k1 with rfl | rfl
    all_goals
      refine wdG Y158_B3 True.intro ?_; refine AWp.condA rfl rfl (fun h => ?_) (fun h => ?_)
      · rw [frm_bad (by simp [base, -List.length_eq_zero_iff] at h ⊢; omega)]
        refine wG Y158_B3 True.intro ?_; exact Fin.oneP
      · have hs : s = 1 ∨ s = 2 ∨ s = 4 := by simp [-List.length_eq_zero_iff] at h; omega
        refine wdG Y158_B3 True.intro ?_; refine AWp.condA rfl rfl (fun h => ?_) (fun h => ?_)
        · rw [frm_bad (by simp [base, -List.length_eq_zero_iff] at h ⊢; omega)]
          refine wG Y158_B3 True.intro ?_; exact Fin.oneP
        · obtain ⟨rfl, he, hf⟩ : c = 0 ∧ es.length = 0 ∧ fs.length = 0 := by simp [-List.length_eq_zero_iff] at h; omega
          obtain rfl := List.length_eq_zero_iff.1 he; obtain rfl := List.length_eq_zero_iff.1 hf; rw [frm_of (by simp [base, -List.length_eq_zero_iff]; omega) rfl]
          refine wdG Y158_B3 True.intro ?_; refine AWp.loop (ALp.round ?_); refine wG Y158_B3 True.intro ?_; exact Fin.oneP
  by_cases k3 : k = 3
  · subst k3
    refine wdG Y158_B3 True.intro ?_; refine AWp.condA rfl rfl (fun h => ?_) (fun h => ?_)
    · rw [frm_bad (by simp [base, -List.length_eq_zero_iff] at h ⊢; omega)]
      refine wG Y158_B3 True.intro ?_; exact Fin.oneP
    · obtain ⟨rfl, rfl, he, hf⟩ : s = 0 ∧ c = 0 ∧ es.length = 1 ∧ fs.length = 0 := by simp [-List.length_eq_zero_iff] at h; omega
      obtain ⟨x, rfl⟩ := List.length_eq_one_iff.1 he; obtain rfl := List.length_eq_zero_iff.1 hf; have hc := hE x (by simp) (hfE x (by simp))
      rw [frm_of (by simp [base]) rfl]
      refine wdG Y158_B3 True.intro ?_; refine AWp.loop (ALp.round ?_); refine wdG Y158_B3 BN03 ?_; refine AR.callP hc @tyV_eq True.intro ?_; refine goG Y158_B3 True.intro ?_; simp only [List.all_cons, List.all_nil, Bool.and_true]; refine wdG Y158_B3 True.intro ?_; exact Fin.oneP
  by_cases k4 : k = 4
  · subst k4
    refine wdG Y158_B3 True.intro ?_; refine AWp.condA rfl rfl (fun h => ?_) (fun h => ?_)
    · rw [frm_bad (by simp [base, -List.length_eq_zero_iff] at h ⊢; omega)]
      refine wG Y158_B3 True.intro ?_; exact Fin.oneP
    · have hs : 1 ≤ c ∧ c ≤ 65536 := by simp [-List.length_eq_zero_iff] at h; omega
      refine wdG Y158_B3 True.intro ?_; refine AWp.condA rfl rfl (fun h => ?_) (fun h => ?_)
      · rw [frm_bad (by simp [base, -List.length_eq_zero_iff] at h ⊢; omega)]
        refine wG Y158_B3 True.intro ?_; exact Fin.oneP
      · obtain ⟨rfl, he, hf⟩ : s = 0 ∧ es.length = 1 ∧ fs.length = 0 := by simp [-List.length_eq_zero_iff] at h; omega
        obtain ⟨x, rfl⟩ := List.length_eq_one_iff.1 he; obtain rfl := List.length_eq_zero_iff.1 hf; have hc := hE x (by simp) (hfE x (by simp))
        rw [frm_of (by simp [base, -List.length_eq_zero_iff]; omega) rfl]
        refine wdG Y158_B3 True.intro ?_; refine AWp.loop (ALp.round ?_); refine wdG Y158_B3 BN03 ?_; refine AR.callP hc @tyV_eq True.intro ?_; refine goG Y158_B3 True.intro ?_; simp only [List.all_cons, List.all_nil, Bool.and_true]; refine wdG Y158_B3 True.intro ?_; exact Fin.oneP
  have k6 : ¬ k = 6 := by omega
  have k2 : ¬ k = 2 := by omega
  replace k0 : ¬ k = 0 := by omega
  replace k1 : ¬ k = 1 := by omega
  rw [frm_bad (by simp [base, k0, k1, k2, k3, k4, k5, k6])]
  refine wdG Y158_B3 (AI k0 (AI k1 (AI k2 (AI k3 (AI k4 (AI k5 k6)))))) ?_
  exact Fin.oneP
theorem flat_lenC {α : Type} {l : List (List α)} {m : Nat} (h : m < l.length) : (l.take m).flatten.length + l[m].length = (l.take (m + 1)).flatten.length := by
  rw [List.take_succ_eq_append_getElem h, List.flatten_append, List.length_append]
  simp
theorem flat_snoc {α : Type} {l : List (List α)} {m : Nat} (h : m < l.length) : (l.take m).flatten ++ l[m] = (l.take (m + 1)).flatten := by
  rw [List.take_succ_eq_append_getElem h, List.flatten_append]
  simp
theorem flat_le {α : Type} {l : List (List α)} (m : Nat) : (l.take m).flatten.length ≤ l.flatten.length := by
  have := List.take_append_drop m l
  have h2 : l.flatten.length = (l.take m).flatten.length + (l.drop m).flatten.length := by
    rw [← List.length_append, ← List.flatten_append, this]
  omega
theorem flat_ids' {p : Nat → Bool} {l : List (List V)} (h : ∀ xs ∈ l, V.idsL p xs = true) (m : Nat) : V.idsL p (l.take m).flatten = true := by
  refine idsL_of fun x hx => ?_
  obtain ⟨xs, h1, h2⟩ := List.mem_flatten.1 hx
  obtain ⟨i, hi, rfl⟩ := List.getElem_of_mem h2
  exact V.idsL_get (h xs (List.mem_of_mem_take h1)) i hi
theorem Y213_CE : type_of% (AI @F_ag_163 (AI @F_al_35 (AI @F_by_35 (AI @F_el_163 (AI @F_el_283 (AI @F_sz_163 (@F_sz_35))))))) := AI @F_ag_163 (AI @F_al_35 (AI @F_by_35 (AI @F_el_163 (AI @F_el_283 (AI @F_sz_163 (@F_sz_35))))))
theorem c_concatN {xss : List (List V)} (hl : xss.length ≤ 4194304) (hz : ∀ xs ∈ xss, allZ 1 xs = true) (hs : ∀ p, ∀ xs ∈ xss, V.idsL p xs = true) (hn : xss.flatten.length ≤ 16777216) : PC Tryz.prog 213 [.sl (xss.map fun l => V.sl l .ro) .ro] (.sl xss.flatten .ro) := by
  have hI : ∀ p m, V.idsL p (xss.take m).flatten = true := fun p m => flat_ids' (hs p) m
  have hK : ∀ p, V.idsL p xss.flatten = true := fun p => by have := hI p xss.length; rwa [List.take_length] at this
  have hJ : ∀ p, V.idsL p (xss.map fun l => V.sl l .ro) = true := fun p => idsL_map' xss fun x hx => by simp only [V.ids, Bool.and_true]; exact hs p x hx
  refine PC.enter 36 Tryz.func213 rfl (by decide) rfl rfl (s := [(0, .sl (xss.map fun l => V.sl l .ro) .ro)]) (by rfl) ?_
  refine wG Y213_CE @List.length_map.{0, 0} ?_
  refine AWp.loop ?_
  refine ALp.cutP 0 [(0, .sl (xss.map fun l => V.sl l .ro) .ro), (3, (.im (.int .i64 ((((xss.take (0)).flatten.length : Nat) : Int))))), (9, .sl (xss.map fun l => V.sl l .ro) .ro), (10, (.im (.int .i64 (xss.length)))), (11, (.im (.int .i64 ((((0 : Nat)) : Int)))))] [] (AI hI (AI hJ hK)) ?_
  refine ALp.upto xss.length (fun _ => True) (fun m => ⟨dn 36 [(0, .sl (xss.map fun l => V.sl l .ro) .ro), (3, (.im (.int .i64 ((((xss.take (m)).flatten.length : Nat) : Int))))), (9, .sl (xss.map fun l => V.sl l .ro) .ro), (10, (.im (.int .i64 (xss.length)))), (11, (.im (.int .i64 ((((m : Nat)) : Int)))))], ofl []⟩) ?_ 0 (Nat.zero_le _) trivial
  intro m hm _ hnext
  by_cases hlt : m < xss.length
  · have hlt' : (m : Int) < (xss.length : Int) := by omega
    have hm1 := wrap_succ hlt (by omega)
    have hg := get_some hlt; have hln := flat_lenC hlt; have hle := flat_le (l := xss) (m + 1)
    have hw : IntKind.i64.wrap (((xss.take m).flatten.length : Int) + (xss[m].length : Int)) = ((xss.take (m + 1)).flatten.length : Int) := by
      rw [wrap_in (by omega)]
      omega
    have hneg : ¬ ((xss.take (m + 1)).flatten.length : Int) < 0 := by omega
    refine wG Y213_CE (AI hlt' (AI hg (AI (@List.getElem?_map.{0, 0}) (AI (@Int.natCast_nonneg) (AI hw (AI hneg hm1)))))) ?_; refine ALp.cutP 0 [(0, .sl (xss.map fun l => V.sl l .ro) .ro), (3, (.im (.int .i64 ((((xss.take (m + 1)).flatten.length : Nat) : Int))))), (9, .sl (xss.map fun l => V.sl l .ro) .ro), (10, (.im (.int .i64 (xss.length)))), (11, (.im (.int .i64 ((((m + 1 : Nat)) : Int)))))] [] (AI hI (AI hJ hK)) ?_
    exact hnext (m + 1) (by omega) (by omega) trivial
  obtain rfl : m = xss.length := by omega
  clear hnext
  rw [List.take_length]
  refine whG Y213_CE @Int.lt_irrefl ?_
  refine Blk'.here (Thn.n ?_)
  refine wG Y213_CE True.intro ?_
  by_cases h0 : xss.flatten.length = 0
  case' pos =>
    rw [h0]; refine AR.callP c_growN0 @Int.natCast_zero (AI hI (AI hJ hK)) ?_; refine goG Y213_CE @List.length_map.{0, 0} ?_; refine wG Y213_CE @List.length_map.{0, 0} ?_; refine AWp.loop ?_; refine ALp.ghost 6 [] .nl 35 1 ?_; refine ALp.cutP 1 [(6, .sl (xss.take (0)).flatten (.own 0)), (25, .sl (xss.map fun l => V.sl l .ro) .ro), (26, (.im (.int .i64 (xss.length)))), (27, (.im (.int .i64 ((((0 : Nat)) : Int)))))] [.tip 35 1 (xss.take (0)).flatten.length] (AI hI (AI hJ hK)) ?_
  case' neg =>
    have hg := c_growN xss.flatten.length (by omega) (by omega)
    refine AR.callSP [0] hg True.intro (AI hI (AI hJ hK)) True.intro ?_; refine goG Y213_CE @List.length_map.{0, 0} ?_; refine wG Y213_CE @List.length_map.{0, 0} ?_; refine AWp.loop ?_; refine ALp.cutP 1 [(6, .sl (xss.take (0)).flatten (.own 0)), (25, .sl (xss.map fun l => V.sl l .ro) .ro), (26, (.im (.int .i64 (xss.length)))), (27, (.im (.int .i64 ((((0 : Nat)) : Int)))))] [.tip 35 1 (xss.take (0)).flatten.length] (AI hI (AI hJ hK)) ?_
  all_goals
    refine ALp.upto xss.length (fun _ => True) (fun m => ⟨dn 36 [(6, .sl (xss.take (m)).flatten (.own 0)), (25, .sl (xss.map fun l => V.sl l .ro) .ro), (26, (.im (.int .i64 (xss.length)))), (27, (.im (.int .i64 ((((m : Nat)) : Int)))))], ofl [.tip 35 1 (xss.take (m)).flatten.length]⟩) ?_ 0 (Nat.zero_le _) trivial
    intro m hm _ hnext
    by_cases hlt : m < xss.length
    · have hlt' : (m : Int) < (xss.length : Int) := by omega
      have hm1 := wrap_succ hlt (by omega)
      have hg := get_some hlt; have hln := flat_lenC hlt; have hle := flat_le (l := xss) (m + 1); have hsn := flat_snoc hlt; have hA : (xss.take (m + 1)).flatten.length * 24 ≤ 140737488355328 := by omega
      have hz' := hz xss[m] (List.getElem_mem hlt); refine wG Y213_CE (AI hlt' (AI hg (AI (@List.getElem?_map.{0, 0}) (AI (@Int.natCast_nonneg) (AI hA (AI hz' (AI hsn (AI hln hm1)))))))) ?_; refine ALp.cutP 1 [(6, .sl (xss.take (m + 1)).flatten (.own 0)), (25, .sl (xss.map fun l => V.sl l .ro) .ro), (26, (.im (.int .i64 (xss.length)))), (27, (.im (.int .i64 ((((m + 1 : Nat)) : Int)))))] [.tip 35 1 (xss.take (m + 1)).flatten.length] (AI hI (AI hJ hK)) ?_
      exact hnext (m + 1) (by omega) (by omega) trivial
    obtain rfl : m = xss.length := by omega
    clear hnext; rw [List.take_length]; refine wG Y213_CE @Int.lt_irrefl ?_; refine Fin.gen0 (rs := [.tmp 2]) rfl (by first | exact .inl rfl | exact .inr rfl) (finG Y213_CE) ?_
    all_goals exact wkG (AI hI (AI hJ hK))
theorem Y96_CE : type_of% (AI @F_ag_23 (AI @F_al_96 (AI @F_by_96 (AI @F_el_215 (AI @F_el_23 (AI @F_sz_23 (@F_sz_96))))))) := AI @F_ag_23 (AI @F_al_96 (AI @F_by_96 (AI @F_el_215 (AI @F_el_23 (AI @F_sz_23 (@F_sz_96))))))
theorem c_concatV {xss : List (List V)} (hl : xss.length ≤ 4194304) (hz : ∀ xs ∈ xss, allZ 6 xs = true) (hs : ∀ p, ∀ xs ∈ xss, V.idsL p xs = true) (hn : xss.flatten.length ≤ 16777216) : PC Tryz.prog 96 [.sl (xss.map fun l => V.sl l .ro) .ro] (.sl xss.flatten .ro) := by
  have hI : ∀ p m, V.idsL p (xss.take m).flatten = true := fun p m => flat_ids' (hs p) m
  have hK : ∀ p, V.idsL p xss.flatten = true := fun p => by have := hI p xss.length; rwa [List.take_length] at this
  have hJ : ∀ p, V.idsL p (xss.map fun l => V.sl l .ro) = true := fun p => idsL_map' xss fun x hx => by simp only [V.ids, Bool.and_true]; exact hs p x hx
  refine PC.enter 36 Tryz.func96 rfl (by decide) rfl rfl (s := [(0, .sl (xss.map fun l => V.sl l .ro) .ro)]) (by rfl) ?_
  refine wG Y96_CE @List.length_map.{0, 0} ?_
  refine AWp.loop ?_
  refine ALp.cutP 0 [(0, .sl (xss.map fun l => V.sl l .ro) .ro), (3, (.im (.int .i64 ((((xss.take (0)).flatten.length : Nat) : Int))))), (9, .sl (xss.map fun l => V.sl l .ro) .ro), (10, (.im (.int .i64 (xss.length)))), (11, (.im (.int .i64 ((((0 : Nat)) : Int)))))] [] (AI hI (AI hJ hK)) ?_
  refine ALp.upto xss.length (fun _ => True) (fun m => ⟨dn 36 [(0, .sl (xss.map fun l => V.sl l .ro) .ro), (3, (.im (.int .i64 ((((xss.take (m)).flatten.length : Nat) : Int))))), (9, .sl (xss.map fun l => V.sl l .ro) .ro), (10, (.im (.int .i64 (xss.length)))), (11, (.im (.int .i64 ((((m : Nat)) : Int)))))], ofl []⟩) ?_ 0 (Nat.zero_le _) trivial
  intro m hm _ hnext
  by_cases hlt : m < xss.length
  · have hlt' : (m : Int) < (xss.length : Int) := by omega
    have hm1 := wrap_succ hlt (by omega)
    have hg := get_some hlt; have hln := flat_lenC hlt; have hle := flat_le (l := xss) (m + 1)
    have hw : IntKind.i64.wrap (((xss.take m).flatten.length : Int) + (xss[m].length : Int)) = ((xss.take (m + 1)).flatten.length : Int) := by
      rw [wrap_in (by omega)]
      omega
    have hneg : ¬ ((xss.take (m + 1)).flatten.length : Int) < 0 := by omega
    refine wG Y96_CE (AI hlt' (AI hg (AI (@List.getElem?_map.{0, 0}) (AI (@Int.natCast_nonneg) (AI hw (AI hneg hm1)))))) ?_; refine ALp.cutP 0 [(0, .sl (xss.map fun l => V.sl l .ro) .ro), (3, (.im (.int .i64 ((((xss.take (m + 1)).flatten.length : Nat) : Int))))), (9, .sl (xss.map fun l => V.sl l .ro) .ro), (10, (.im (.int .i64 (xss.length)))), (11, (.im (.int .i64 ((((m + 1 : Nat)) : Int)))))] [] (AI hI (AI hJ hK)) ?_
    exact hnext (m + 1) (by omega) (by omega) trivial
  obtain rfl : m = xss.length := by omega
  clear hnext
  rw [List.take_length]
  refine whG Y96_CE @Int.lt_irrefl ?_
  refine Blk'.here (Thn.n ?_)
  refine wG Y96_CE True.intro ?_
  by_cases h0 : xss.flatten.length = 0
  case' pos =>
    rw [h0]; refine AR.callP c_growV0 @Int.natCast_zero (AI hI (AI hJ hK)) ?_; refine goG Y96_CE @List.length_map.{0, 0} ?_; refine wG Y96_CE @List.length_map.{0, 0} ?_; refine AWp.loop ?_; refine ALp.ghost 6 [] .nl 96 6 ?_; refine ALp.cutP 1 [(6, .sl (xss.take (0)).flatten (.own 0)), (25, .sl (xss.map fun l => V.sl l .ro) .ro), (26, (.im (.int .i64 (xss.length)))), (27, (.im (.int .i64 ((((0 : Nat)) : Int)))))] [.tip 96 6 (xss.take (0)).flatten.length] (AI hI (AI hJ hK)) ?_
  case' neg =>
    have hg := c_growV xss.flatten.length (by omega) (by omega)
    refine AR.callSP [0] hg True.intro (AI hI (AI hJ hK)) True.intro ?_; refine goG Y96_CE @List.length_map.{0, 0} ?_; refine wG Y96_CE @List.length_map.{0, 0} ?_; refine AWp.loop ?_; refine ALp.cutP 1 [(6, .sl (xss.take (0)).flatten (.own 0)), (25, .sl (xss.map fun l => V.sl l .ro) .ro), (26, (.im (.int .i64 (xss.length)))), (27, (.im (.int .i64 ((((0 : Nat)) : Int)))))] [.tip 96 6 (xss.take (0)).flatten.length] (AI hI (AI hJ hK)) ?_
  all_goals
    refine ALp.upto xss.length (fun _ => True) (fun m => ⟨dn 36 [(6, .sl (xss.take (m)).flatten (.own 0)), (25, .sl (xss.map fun l => V.sl l .ro) .ro), (26, (.im (.int .i64 (xss.length)))), (27, (.im (.int .i64 ((((m : Nat)) : Int)))))], ofl [.tip 96 6 (xss.take (m)).flatten.length]⟩) ?_ 0 (Nat.zero_le _) trivial
    intro m hm _ hnext
    by_cases hlt : m < xss.length
    · have hlt' : (m : Int) < (xss.length : Int) := by omega
      have hm1 := wrap_succ hlt (by omega)
      have hg := get_some hlt; have hln := flat_lenC hlt; have hle := flat_le (l := xss) (m + 1); have hsn := flat_snoc hlt; have hA : (xss.take (m + 1)).flatten.length * 88 ≤ 140737488355328 := by omega
      have hz' := hz xss[m] (List.getElem_mem hlt); refine wG Y96_CE (AI hlt' (AI hg (AI (@List.getElem?_map.{0, 0}) (AI (@Int.natCast_nonneg) (AI hA (AI hz' (AI hsn (AI hln hm1)))))))) ?_; refine ALp.cutP 1 [(6, .sl (xss.take (m + 1)).flatten (.own 0)), (25, .sl (xss.map fun l => V.sl l .ro) .ro), (26, (.im (.int .i64 (xss.length)))), (27, (.im (.int .i64 ((((m + 1 : Nat)) : Int)))))] [.tip 96 6 (xss.take (m + 1)).flatten.length] (AI hI (AI hJ hK)) ?_
      exact hnext (m + 1) (by omega) (by omega) trivial
    obtain rfl : m = xss.length := by omega
    clear hnext; rw [List.take_length]; refine wG Y96_CE @Int.lt_irrefl ?_; refine Fin.gen0 (rs := [.tmp 2]) rfl (by first | exact .inl rfl | exact .inr rfl) (finG Y96_CE) ?_
    all_goals exact wkG (AI hI (AI hJ hK))
end Go.Proofs.YtmbmmckagcdapaaGreatDoor
