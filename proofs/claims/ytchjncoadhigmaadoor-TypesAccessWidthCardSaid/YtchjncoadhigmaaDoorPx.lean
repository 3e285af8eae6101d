/- Plain law: what an access finds. -/
import Derived.Test.YtchjncoadhigmaaDoorPs
import Derived.Test.YtchjncoadhigmaaDoorPq
namespace Go.Proofs.YtchjncoadhigmaaDoor
set_option linter.unusedSimpArgs false
set_option linter.unusedVariables false
set_option linter.unnecessarySimpa false
theorem shal_mono : ∀ (t : Ty) (n m : Int), n ≤ m → shal t n = true → shal t m = true := by
  refine Ty.induct fun o k s c es fs ihE ihF n m hn h => ?_
  rw [shal_mk] at h ⊢
  simp only [Bool.and_eq_true, decide_eq_true_eq, List.all_eq_true] at h ⊢
  exact ⟨⟨by omega, fun x hx => ihE x hx _ _ (by omega) (h.1.2 x hx)⟩, fun x hx => ihF x hx _ _ (by omega) (h.2 x hx)⟩
theorem fat_good {t : Ty} {off w : Int} {x : Ty} (h : good t = true) (hx : fat t off w = some x) : good x = true := by
  rw [good_iff] at h
  have := fat_part (P := fun t => shal t 64 = true ∧ frm t = true ∧ wit t = true) (fun t ht => by
    obtain ⟨o, k, s, c, es, fs⟩ := t
    rw [at_mk]
    rw [shal_mk, frm_mk, wit_mk, siz_mk] at *
    exact ht) (fun o k s c es fs h => by
    obtain ⟨h1, h2, h3⟩ := h
    obtain ⟨_, _, h4, h5⟩ := frm_inv h2
    rw [shal_mk] at h1
    rw [wit_mk] at h3
    simp only [Bool.and_eq_true, decide_eq_true_eq, List.all_eq_true] at h1 h3
    exact ⟨fun t ht => ⟨shal_mono t _ _ (by omega) (h1.1.2 t ht), h5 t ht, h3.2 t ht⟩, fun t ht => ⟨shal_mono t _ _ (by omega) (h1.2 t ht), h4 t ht, h3.1.2 t ht⟩⟩) t off w x h hx
  exact good_iff.2 this
theorem fat_width : ∀ (t : Ty) (off w : Int) (x : Ty), fat t off w = some x → x.kind = 0 ∨ x.kind = 6 ∨ siz x = w := by
  refine Ty.induct (P := fun t => ∀ (off w : Int) (x : Ty), fat t off w = some x → x.kind = 0 ∨ x.kind = 6 ∨ siz x = w) fun o k s c es fs ihE ihF off w x hx => ?_
  rw [fat_mk] at hx
  split at hx
  · rename_i hk
    split at hx
    · cases hx
      simp only [Bool.or_eq_true, beq_iff_eq] at hk
      rcases hk with hk | hk
      · exact .inl hk
      · exact .inr (.inl hk)
    · cases hx
  · split at hx
    · split at hx
      · rename_i hw
        cases hx
        simp only [Bool.and_eq_true, beq_iff_eq] at hw
        refine .inr (.inr ?_)
        rw [hw.2, siz_mk, siz_mk]
      · cases hx
    · split at hx
      · split at hx
        · cases hx
        · split at hx
          · exact ihE _ (by simp) _ _ _ hx
          · cases hx
      · split at hx
        · cases hx
        · have := lastSome_mem hx
          obtain ⟨f, hf, e⟩ := List.mem_map.1 this
          exact ihF f hf _ _ _ e
/-- An array of it has the same access in each element. -/
theorem fieldA_array {t : Ty} {off w : Int} {x : Ty} {n c : Int} (hg : good t = true) (h6 : shal t 6 = true) (hx : fieldA t off w = some x) (hn : n = siz t) (hn0 : n ≠ 0) (hoff : off < n) (hc : 1 ≤ c) (hnc : n * c ≤ 65536) (hc2 : c ≤ 256) :
    fieldA (.mk 0 4 0 c [t] []) (n * (c - 1) + off) w = some x := by
  unfold fieldA at hx ⊢
  by_cases hw : (w == 1 || w == 2 || w == 4) = true
  · rw [hg, hw] at hx
    have hx : fat t off w = some x := hx
    have h0 : 0 ≤ off := by
      refine Classical.byContradiction fun h => ?_
      rw [fat_neg t off w (by omega)] at hx
      cases hx
    obtain ⟨g1, g2, g3⟩ := good_iff.1 hg
    have hn1 : 0 ≤ n := by rw [hn]; exact siz_nonneg t g2
    have hcn : c * n = n * c := Int.mul_comm ..
    have hs : siz (.mk 0 4 0 c [t] []) = n * c := by
      rw [siz_mk]
      show min (c * siz t) 65537 = _
      rw [← hn]
      omega
    have hga : good (.mk 0 4 0 c [t] []) = true := by
      refine good_iff.2 ⟨?_, ?_, ?_⟩
      · rw [shal_mk]
        simp only [Bool.and_eq_true, decide_eq_true_eq, List.all_eq_true]
        refine ⟨⟨by decide, fun y hy => ?_⟩, fun y hy => by cases hy⟩
        obtain rfl := List.mem_singleton.1 hy
        exact shal_mono _ _ _ (by decide) h6
      · rw [frm_mk]
        have hb : base 4 0 c 1 0 = true := by
          unfold base
          simp
          omega
        show (base 4 0 c 1 0 && asc [] && true && ([t].all frm)) = true
        rw [hb]
        simp [asc, g2]
      · rw [wit_mk, hs]
        simp [g3]
        omega
    rw [hga, hw]
    show fat _ _ _ = _
    rw [fat_mk, hs]
    have hlt : n * (c - 1) + off < n * c := by rw [Int.mul_sub]; omega
    have hge : 0 ≤ n * (c - 1) := Int.mul_nonneg hn1 (by omega)
    simp only [show ((4 : Int) == 0 || (4 : Int) == 6) = false from rfl, show ((4 : Int) == 1 || (4 : Int) == 2 || (4 : Int) == 3) = false from rfl, show ((4 : Int) == 4) = true from rfl, Bool.false_eq_true, if_false, if_true]
    rw [if_neg (by omega), ← hn, Int.add_comm, Int.add_mul_emod_self_left, Int.emod_eq_of_lt h0 hoff]
    exact hx
  · rw [Bool.not_eq_true] at hw
    rw [hw, Bool.and_false] at hx
    cases hx
theorem good_chk0 {a : Ty} (h : chk a = 0) : good a = true := by unfold good; simp [h]
theorem fieldA_fat {t : Ty} {off w : Int} {x : Ty} (h : fieldA t off w = some x) : fat t off w = some x := by
  unfold fieldA at h
  split at h
  · exact h
  · cases h
theorem fieldA_off {t : Ty} {off w : Int} {x : Ty} (h : fieldA t off w = some x) : 0 ≤ off := by
  have := fieldA_fat h
  refine Classical.byContradiction fun h0 => ?_
  rw [fat_neg t off w (by omega)] at this
  cases this
theorem smallT_shal {t : Ty} {n : Int} (h : smallT t n = true) : shal t n = true := by
  unfold smallT at h
  exact tpa_shal t n 3000 (by simpa using h)
end Go.Proofs.YtchjncoadhigmaaDoor
