/- Plain mathematics: Join of good types is good; Meet is the greatest lower bound. No program in sight. -/
import Derived.Test.YtchjncoadhigmaaGreatDoorPk
namespace Go.Proofs.YtchjncoadhigmaaGreatDoor
set_option linter.unusedSimpArgs false
set_option linter.unusedVariables false
set_option linter.unnecessarySimpa false

theorem foldl_max_mem : ∀ (l : List Int) (a x : Int), x ∈ l → x ≤ l.foldl max a
  | [], _, _, h => by cases h
  | y :: l, a, x, h => by
    rw [List.foldl_cons]
    rcases List.mem_cons.1 h with rfl | h
    · exact Int.le_trans (Int.le_max_right a x) (foldl_max_ge l _)
    · exact foldl_max_mem l _ x h
theorem siz_unk : siz Kd.unk.ty = 0 := by rw [Kd.ty, siz_mk]; rfl
theorem siz_any : siz Kd.any.ty = 0 := by rw [Kd.ty, siz_mk]; rfl
theorem siz_num {k s : Int} (h : (Kd.num k s).ok) : siz (Kd.num k s).ty = s := by
  obtain ⟨h1, h2⟩ := h
  rw [Kd.ty, siz_mk]
  rcases h1 with rfl | rfl <;> rcases h2 with rfl | rfl | rfl <;> rfl
theorem siz_ptr (e : Ty) : siz (Kd.ptr e).ty = 4 := by rw [Kd.ty, siz_mk]; rfl
theorem siz_arr (c : Int) (e : Ty) : siz (Kd.arr c e).ty = min (c * siz e) 65537 := by rw [Kd.ty, siz_mk]; rfl
theorem siz_str (fs : List Ty) : siz (Kd.str fs).ty = min ((fs.map fun f => f.off + siz f).foldl max 0) 65537 := by rw [Kd.ty, siz_mk]; rfl
theorem shal_kd (d : Kd) (n : Int) : shal d.ty n = (decide (1 ≤ n) && d.parts.all fun t => shal t (n - 1)) := by
  cases d <;> rw [Kd.ty, shal_mk] <;> simp [Kd.parts]
theorem wit_kd (d : Kd) (hd : d.ok) : wit d.ty = (decide (d.parts.length ≤ 64) && decide (siz d.ty ≤ 65536) && d.parts.all wit) := by
  cases d <;> unfold Kd.ty <;> rw [wit_mk] <;> simp [Kd.parts] <;> rfl
/-- What a type made out of two others keeps. -/
structure Keep (a b j : Ty) : Prop where
  shal : ∀ n, Go.Proofs.YtchjncoadhigmaaGreatDoor.shal a n = true → Go.Proofs.YtchjncoadhigmaaGreatDoor.shal b n = true → Go.Proofs.YtchjncoadhigmaaGreatDoor.shal j n = true
  siz : Go.Proofs.YtchjncoadhigmaaGreatDoor.siz j ≤ max (Go.Proofs.YtchjncoadhigmaaGreatDoor.siz a) (Go.Proofs.YtchjncoadhigmaaGreatDoor.siz b)
  wit : Go.Proofs.YtchjncoadhigmaaGreatDoor.wit a = true → Go.Proofs.YtchjncoadhigmaaGreatDoor.wit b = true → Go.Proofs.YtchjncoadhigmaaGreatDoor.wit j = true
theorem keep_left (a b : Ty) : Keep a b a := ⟨fun n h _ => h, Int.le_max_left _ _, fun h _ => h⟩
theorem keep_right (a b : Ty) : Keep a b b := ⟨fun n _ h => h, Int.le_max_right _ _, fun _ h => h⟩
theorem keep_any {a b : Ty} (ha : frm a = true) : Keep a b Kd.any.ty := by
  refine ⟨fun n h _ => ?_, ?_, fun _ _ => ?_⟩
  · rw [shal_kd]
    obtain ⟨o, k, s, c, es, fs⟩ := a
    rw [shal_mk] at h
    simp only [Bool.and_eq_true] at h
    simp [Kd.parts, h.1.1]
  · rw [siz_any]
    exact Int.le_trans (siz_nonneg a ha) (Int.le_max_left _ _)
  · rw [wit_kd _ (by trivial), siz_any]; rfl
theorem keep_kd {a b : Kd} (ha : a.ok) (hb : b.ok) (IH : ∀ x ∈ a.parts, ∀ y, frm y = true → Keep x y (joinT x y)) : Keep a.ty b.ty (jK a b).ty := by
  cases a with
  | unk => exact keep_right _ _
  | any => cases b <;> first | exact keep_left _ _ | exact keep_any (kd_frm ha)
  | num k s => cases b with
    | unk => exact keep_left _ _
    | num k' s' =>
      rw [show jK (.num k s) (.num k' s') = (if k = k' ∧ s = s' then .num k s else .any) from rfl]
      by_cases h : k = k' ∧ s = s'
      · rw [if_pos h]; exact keep_left _ _
      · rw [if_neg h]; exact keep_any (kd_frm ha)
    | _ => exact keep_any (kd_frm ha)
  | ptr e => cases b with
    | unk => exact keep_left _ _
    | ptr e' =>
      have h := IH e (by simp [Kd.parts]) e' hb
      refine ⟨fun n h1 h2 => ?_, ?_, fun h1 h2 => ?_⟩
      · rw [shal_kd] at *
        simp only [Kd.parts, jK, List.all_cons, List.all_nil, Bool.and_true, Bool.and_eq_true] at *
        exact ⟨h1.1, h.shal _ h1.2 h2.2⟩
      · rw [show jK (.ptr e) (.ptr e') = .ptr (joinT e e') from rfl, siz_ptr, siz_ptr]; exact Int.le_max_left _ _
      · have hj : (jK (.ptr e) (.ptr e')).ok := (joinT_lub e ha e' hb).frm
        rw [wit_kd _ ha] at h1
        rw [wit_kd _ hb] at h2
        rw [wit_kd _ hj]
        simp only [Kd.parts, jK, List.all_cons, List.all_nil, Bool.and_true, Bool.and_eq_true, siz_ptr, List.length_singleton] at *
        exact ⟨h1.1, h.wit h1.2 h2.2⟩
    | _ => exact keep_any (kd_frm ha)
  | arr c e => cases b with
    | unk => exact keep_left _ _
    | arr c' e' =>
      have h := IH e (by simp [Kd.parts]) e' hb.2.2
      have hj : (jK (.arr c e) (.arr c' e')).ok := by
        obtain ⟨a1, a2, a3⟩ := ha
        obtain ⟨b1, b2, b3⟩ := hb
        exact ⟨by omega, by omega, (joinT_lub e a3 e' b3).frm⟩
      have hs : siz (jK (.arr c e) (.arr c' e')).ty ≤ max (siz (Kd.arr c e).ty) (siz (Kd.arr c' e').ty) := by
        rw [show jK (.arr c e) (.arr c' e') = .arr (min c c') (joinT e e') from rfl, siz_arr, siz_arr, siz_arr]
        have h0 := siz_nonneg e ha.2.2
        have h0' := siz_nonneg e' hb.2.2
        have hs := h.siz
        have m1 : min c c' * siz (joinT e e') ≤ min c c' * max (siz e) (siz e') := Int.mul_le_mul_of_nonneg_left hs (by have := ha.1; have := hb.1; omega)
        have m2 : min c c' * siz e ≤ c * siz e := Int.mul_le_mul_of_nonneg_right (by omega) h0
        have m3 : min c c' * siz e' ≤ c' * siz e' := Int.mul_le_mul_of_nonneg_right (by omega) h0'
        rcases Int.le_total (siz e) (siz e') with hh | hh
        · rw [Int.max_eq_right hh] at m1; omega
        · rw [Int.max_eq_left hh] at m1; omega
      refine ⟨fun n h1 h2 => ?_, hs, fun h1 h2 => ?_⟩
      · rw [shal_kd] at *
        simp only [Kd.parts, jK, List.all_cons, List.all_nil, Bool.and_true, Bool.and_eq_true] at *
        exact ⟨h1.1, h.shal _ h1.2 h2.2⟩
      · rw [wit_kd _ ha] at h1
        rw [wit_kd _ hb] at h2
        rw [wit_kd _ hj]
        simp only [Bool.and_eq_true, decide_eq_true_eq] at *
        refine ⟨⟨by simp [Kd.parts, jK], by have := h1.1.2; have := h2.1.2; omega⟩, ?_⟩
        have w1 := h1.2
        have w2 := h2.2
        simp only [Kd.parts, jK, List.all_cons, List.all_nil, Bool.and_true, Bool.and_eq_true] at *
        exact h.wit w1 w2
    | _ => exact keep_any (kd_frm ha)
  | str fs => cases b with
    | unk => exact keep_left _ _
    | str gs =>
      have hL : ∀ z ∈ bothF joinT fs gs, ∃ x ∈ fs, ∃ y ∈ gs, x.off = y.off ∧ z = (joinT x y).at_ x.off ∧ Keep x y (joinT x y) := fun z hz => by
        obtain ⟨x, hx, y, hy, rfl⟩ := both_mem.1 hz
        obtain ⟨hy, e⟩ := find_off hy
        exact ⟨x, hx, y, hy, e.symm, rfl, IH x hx y (hb.2 y hy)⟩
      have hj : (jK (.str fs) (.str gs)).ok := ⟨both_asc _ ha.1, fun z hz => by
        obtain ⟨x, hx, y, hy, e, rfl, h⟩ := hL z hz
        rw [frm_at]
        exact (joinT_lub x (ha.2 x hx) y (hb.2 y hy)).frm⟩
      have hs : siz (jK (.str fs) (.str gs)).ty ≤ max (siz (Kd.str fs).ty) (siz (Kd.str gs).ty) := by
        rw [show jK (.str fs) (.str gs) = .str (bothF joinT fs gs) from rfl, siz_str, siz_str, siz_str]
        have : ((bothF joinT fs gs).map fun f => f.off + siz f).foldl max 0 ≤ max ((fs.map fun f => f.off + siz f).foldl max 0) ((gs.map fun f => f.off + siz f).foldl max 0) := by
          refine foldl_max_le _ _ (fun v hv => ?_) _ (Int.le_trans (foldl_max_ge _ _) (Int.le_max_left _ _))
          obtain ⟨z, hz, rfl⟩ := List.mem_map.1 hv
          obtain ⟨x, hx, y, hy, e, rfl, h⟩ := hL z hz
          rw [at_off, siz_at]
          have h1 := foldl_max_mem (fs.map fun f => f.off + siz f) 0 _ (List.mem_map_of_mem hx)
          have h2 := foldl_max_mem (gs.map fun f => f.off + siz f) 0 _ (List.mem_map_of_mem hy)
          have := h.siz
          omega
        omega
      refine ⟨fun n h1 h2 => ?_, hs, fun h1 h2 => ?_⟩
      · rw [shal_kd] at *
        simp only [Bool.and_eq_true, List.all_eq_true] at *
        refine ⟨h1.1, fun z hz => ?_⟩
        obtain ⟨x, hx, y, hy, e, rfl, h⟩ := hL z hz
        rw [shal_at]
        exact h.shal _ (h1.2 x hx) (h2.2 y hy)
      · rw [wit_kd _ ha] at h1
        rw [wit_kd _ hb] at h2
        rw [wit_kd _ hj]
        simp only [Bool.and_eq_true, decide_eq_true_eq, List.all_eq_true] at *
        refine ⟨⟨?_, by have := h1.1.2; have := h2.1.2; omega⟩, fun z hz => ?_⟩
        · have := (both_off joinT fs gs).length_le
          simp only [List.length_map] at this
          exact Nat.le_trans this h1.1.1
        · obtain ⟨x, hx, y, hy, e, rfl, h⟩ := hL z hz
          rw [wit_at]
          exact h.wit (h1.2 x hx) (h2.2 y hy)
    | _ => exact keep_any (kd_frm ha)
theorem keep_atL {a b j : Ty} (o : Int) : Keep (a.at_ o) b j ↔ Keep a b j := by
  constructor <;> rintro ⟨h1, h2, h3⟩
  · exact ⟨fun n => by have := h1 n; rwa [shal_at] at this, by rwa [siz_at] at h2, by rwa [wit_at] at h3⟩
  · exact ⟨fun n => by rw [shal_at]; exact h1 n, by rwa [siz_at], by rwa [wit_at]⟩
theorem keep_atR {a b j : Ty} (o : Int) : Keep a (b.at_ o) j ↔ Keep a b j := by
  constructor <;> rintro ⟨h1, h2, h3⟩
  · exact ⟨fun n => by have := h1 n; rwa [shal_at] at this, by rwa [siz_at] at h2, by rwa [wit_at] at h3⟩
  · exact ⟨fun n => by rw [shal_at]; exact h1 n, by rwa [siz_at], by rwa [wit_at]⟩
theorem joinT_keep : ∀ a : Ty, frm a = true → ∀ b : Ty, frm b = true → Keep a b (joinT a b) := by
  refine frm_induct (fun t o h b hb => by rw [joinT_atL, keep_atL]; exact h b hb) fun a ha ih b hb => ?_
  obtain ⟨b, hb', eb⟩ := kd_of hb
  rw [eb, joinT_atR, keep_atR, jK_eq ha hb']
  exact keep_kd ha hb' fun x hx y hy => ih x hx y hy
theorem good_iff {t : Ty} : good t = true ↔ shal t 64 = true ∧ frm t = true ∧ wit t = true := by
  unfold good chk
  cases shal t 64 <;> cases frm t <;> cases wit t <;> simp
theorem joinT_good {a b : Ty} (ha : good a = true) (hb : good b = true) : good (joinT a b) = true := by
  obtain ⟨a1, a2, a3⟩ := good_iff.1 ha
  obtain ⟨b1, b2, b3⟩ := good_iff.1 hb
  have h := joinT_keep a a2 b b2
  exact good_iff.2 ⟨h.shal _ a1 b1, (joinT_lub a a2 b b2).frm, h.wit a3 b3⟩
end Go.Proofs.YtchjncoadhigmaaGreatDoor
