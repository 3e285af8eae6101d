/- Join and Meet of types that fit, fit. -/
import Derived.Test.YtchjncoadhigmaaGreatDoorHv
import Derived.Test.YtchjncoadhigmaaGreatDoorY1
import Derived.Test.YtchjncoadhigmaaGreatDoorPs
namespace Go.Proofs.YtchjncoadhigmaaGreatDoor
set_option linter.unusedSimpArgs false
set_option linter.unusedVariables false
set_option linter.unnecessarySimpa false
open Go.RowKit
theorem fit_mkc {o k s c : Int} {es fs : List Ty} (h0 : I64 o ∧ I64 k ∧ I64 s ∧ I64 c) (h1 : es.length ≤ 4194304) (h2 : fs.length ≤ 4194304) (hE : ∀ t ∈ es, fit t) (hF : ∀ t ∈ fs, fit t) : fit (.mk o k s c es fs) := by
  have e : fitB (.mk o k s c es fs) = _ := Ty.para_mk _ o k s c es fs
  unfold fit
  rw [e]
  simp only [Bool.and_eq_true, decide_eq_true_eq, Ty.elem, Ty.fields, Ty.off, Ty.kind, Ty.size, Ty.count, List.all_map, List.all_eq_true]
  exact ⟨⟨⟨⟨decide_eq_true h0, decide_eq_true h1⟩, decide_eq_true h2⟩, hE⟩, hF⟩
theorem fit_to {t : Ty} (h : fit t) {o : Int} (ho : I64 o) : fit (t.at_ o) := by
  cases t
  exact fit_mkc ⟨ho, (fit_num h).2⟩ (fit_mk h).1 (fit_mk h).2.1 (fit_mk h).2.2.1 (fit_mk h).2.2.2
theorem i64_of {n : Int} (h1 : -65536 ≤ n) (h2 : n ≤ 65536) : I64 n := ⟨by omega, by omega⟩
theorem fit_kd {d : Kd} (hd : d.ok) (hl : d.parts.length ≤ 4194304) (hp : ∀ x ∈ d.parts, fit x) : fit d.ty := by
  have z : I64 0 := i64_of (by decide) (by decide)
  cases d with
  | unk => exact fit_mkc ⟨z, z, z, z⟩ (by simp) (by simp) (by simp) (by simp)
  | any => exact fit_mkc ⟨z, i64_of (by decide) (by decide), z, z⟩ (by simp) (by simp) (by simp) (by simp)
  | num k s => exact fit_mkc ⟨z, i64_of (by have := hd.1; omega) (by have := hd.1; omega), i64_of (by have := hd.2; omega) (by have := hd.2; omega), z⟩ (by simp) (by simp) (by simp) (by simp)
  | ptr e => exact fit_mkc ⟨z, i64_of (by decide) (by decide), z, z⟩ (by simp) (by simp) hp (by simp)
  | arr c e => exact fit_mkc ⟨z, i64_of (by decide) (by decide), z, i64_of (by have := hd.1; omega) (by have := hd.2.1; omega)⟩ (by simp) (by simp) hp (by simp)
  | str fs => exact fit_mkc ⟨z, i64_of (by decide) (by decide), z, z⟩ (by simp) hl (by simp) hp
theorem kd_fit {d : Kd} {o : Int} (h : fit (d.ty.at_ o)) : d.parts.length ≤ 4194304 ∧ ∀ x ∈ d.parts, fit x := by
  cases d with
  | ptr e => exact ⟨by simp [Kd.parts], (fit_mk h).2.2.1⟩
  | arr c e => exact ⟨by simp [Kd.parts], (fit_mk h).2.2.1⟩
  | str fs => exact ⟨(fit_mk h).2.1, (fit_mk h).2.2.2⟩
  | _ => exact ⟨by simp [Kd.parts], by simp [Kd.parts]⟩
theorem off_i64 {fs : List Ty} (h : Asc fs) {x : Ty} (hx : x ∈ fs) : I64 x.off := i64_of (by have := (h.2 x hx).1; omega) (by have := (h.2 x hx).2; omega)
theorem fit_any : fit Kd.any.ty := fit_kd (d := .any) trivial (by simp [Kd.parts]) (by simp [Kd.parts])
theorem fit_unk : fit Kd.unk.ty := fit_kd (d := .unk) trivial (by simp [Kd.parts]) (by simp [Kd.parts])
theorem kd_fit0 {d : Kd} (h : fit d.ty) : d.parts.length ≤ 4194304 ∧ ∀ x ∈ d.parts, fit x := kd_fit (o := 0) (by rw [kd_at]; exact h)
theorem fit_0 {t : Ty} (h : fit t) : fit (t.at_ 0) := fit_to h (i64_of (by decide) (by decide))
theorem joinT_fit0 : ∀ a : Ty, frm a = true → fit (a.at_ 0) → ∀ b : Ty, frm b = true → fit (b.at_ 0) → fit (joinT a b) := by
  refine frm_induct (fun t o h ht b hb hfb => ?_) fun a ha ih hfa b hb hfb => ?_
  · rw [joinT_atL]
    rw [at_at] at ht
    exact h ht b hb hfb
  obtain ⟨d, hd, ed⟩ := kd_of hb
  have hj := joinT_lub a.ty (kd_frm ha) d.ty (kd_frm hd)
  rw [ed, at_at, kd_at] at hfb
  rw [kd_at] at hfa
  rw [ed, joinT_atR]
  rw [jK_eq ha hd] at hj ⊢
  have pa := kd_fit0 hfa
  have pb := kd_fit0 hfb
  have key : ∀ x ∈ a.parts, ∀ y ∈ d.parts, fit (joinT x y) := fun x hx y hy => ih x hx (fit_0 (pa.2 x hx)) y (parts_frm hd y hy) (fit_0 (pb.2 y hy))
  cases a with
  | unk => exact hfb
  | any => cases d <;> first | exact hfa | exact fit_any
  | num k s => cases d with
    | unk => exact hfa
    | num k' s' =>
      rw [show jK (.num k s) (.num k' s') = (if k = k' ∧ s = s' then .num k s else .any) from rfl]
      split
      · exact hfa
      · exact fit_any
    | _ => exact fit_any
  | ptr e => cases d with
    | unk => exact hfa
    | ptr e' => exact fit_kd (d := .ptr (joinT e e')) (joinT_lub e ha e' hd).frm (by simp [Kd.parts]) (by simp only [Kd.parts, List.mem_singleton, forall_eq]; exact key e (by simp [Kd.parts]) e' (by simp [Kd.parts]))
    | _ => exact fit_any
  | arr c e => cases d with
    | unk => exact hfa
    | arr c' e' => exact fit_kd (d := .arr (min c c') (joinT e e')) (by obtain ⟨a1, a2, a3⟩ := ha; obtain ⟨b1, b2, b3⟩ := hd; exact ⟨by omega, by omega, (joinT_lub e a3 e' b3).frm⟩) (by simp [Kd.parts]) (by simp only [Kd.parts, List.mem_singleton, forall_eq]; exact key e (by simp [Kd.parts]) e' (by simp [Kd.parts]))
    | _ => exact fit_any
  | str fs => cases d with
    | unk => exact hfa
    | str gs =>
      refine fit_kd (d := .str (bothF joinT fs gs)) ⟨both_asc _ ha.1, fun z hz => ?_⟩ ?_ fun z hz => ?_
      · obtain ⟨x, hx, y, hy, rfl⟩ := both_mem.1 hz
        rw [frm_at]
        exact (joinT_lub x (ha.2 x hx) y (hd.2 y (find_off hy).1)).frm
      · have := (both_off joinT fs gs).length_le
        simp only [List.length_map] at this
        exact Nat.le_trans this pa.1
      · obtain ⟨x, hx, y, hy, rfl⟩ := both_mem.1 hz
        exact fit_to (key x hx y (find_off hy).1) (off_i64 ha.1 hx)
    | _ => exact fit_any
theorem joinT_fit {a b : Ty} (ha : frm a = true) (hfa : fit a) (hb : frm b = true) (hfb : fit b) : fit (joinT a b) := joinT_fit0 a ha (fit_0 hfa) b hb (fit_0 hfb)
theorem mrgF_len (f : Ty → Ty → Ty) (la lb : List Ty) : (mrgF f la lb).length ≤ la.length + lb.length := by rw [← mrgP_true]; exact mrgP_len true f la lb
theorem meetT_fit0 : ∀ a : Ty, frm a = true → fit (a.at_ 0) → wit a = true → ∀ b : Ty, frm b = true → fit (b.at_ 0) → wit b = true → fit (meetT a b) := by
  refine frm_induct (fun t o h ht hw b hb hfb hwb => ?_) fun a ha ih hfa hwa b hb hfb hwb => ?_
  · rw [meetT_atL]
    rw [at_at] at ht
    rw [wit_at] at hw
    exact h ht hw b hb hfb hwb
  obtain ⟨d, hd, ed⟩ := kd_of hb
  rw [ed, at_at, kd_at] at hfb
  rw [kd_at] at hfa
  rw [ed, wit_at] at hwb
  rw [ed, meetT_atR, mK_eq ha hd]
  have pa := kd_fit0 hfa
  have pb := kd_fit0 hfb
  rw [wit_kd _ ha] at hwa
  rw [wit_kd _ hd] at hwb
  simp only [Bool.and_eq_true, decide_eq_true_eq, List.all_eq_true] at hwa hwb
  have key : ∀ x ∈ a.parts, ∀ y ∈ d.parts, fit (meetT x y) := fun x hx y hy => ih x hx (fit_0 (pa.2 x hx)) (hwa.2 x hx) y (parts_frm hd y hy) (fit_0 (pb.2 y hy)) (hwb.2 y hy)
  cases a with
  | any => exact hfb
  | unk => cases d <;> first | exact hfa | exact fit_unk
  | num k s => cases d with
    | any => exact hfa
    | num k' s' =>
      rw [show mK (.num k s) (.num k' s') = (if k = k' ∧ s = s' then .num k s else .unk) from rfl]
      split
      · exact hfa
      · exact fit_unk
    | _ => exact fit_unk
  | ptr e => cases d with
    | any => exact hfa
    | ptr e' => exact fit_kd (d := .ptr (meetT e e')) (meetT_glb e ha e' hd).frm (by simp [Kd.parts]) (by simp only [Kd.parts, List.mem_singleton, forall_eq]; exact key e (by simp [Kd.parts]) e' (by simp [Kd.parts]))
    | _ => exact fit_unk
  | arr c e => cases d with
    | any => exact hfa
    | arr c' e' => exact fit_kd (d := .arr (max c c') (meetT e e')) (by obtain ⟨a1, a2, a3⟩ := ha; obtain ⟨b1, b2, b3⟩ := hd; exact ⟨by omega, by omega, (meetT_glb e a3 e' b3).frm⟩) (by simp [Kd.parts]) (by simp only [Kd.parts, List.mem_singleton, forall_eq]; exact key e (by simp [Kd.parts]) e' (by simp [Kd.parts]))
    | _ => exact fit_unk
  | str fs => cases d with
    | any => exact hfa
    | str gs =>
      obtain ⟨m1, m2⟩ := mrgF_spec meetT fs gs ha.1 hd.1
      refine fit_kd (d := .str (mrgF meetT fs gs)) ⟨m1, fun z hz => ?_⟩ ?_ fun z hz => ?_
      · rcases (m2 z).1 hz with ⟨h, _⟩ | ⟨h, _⟩ | ⟨x, hx, y, hy, e, rfl⟩
        · exact ha.2 z h
        · exact hd.2 z h
        · rw [frm_at]; exact (meetT_glb x (ha.2 x hx) y (hd.2 y hy)).frm
      · have h1 := mrgF_len meetT fs gs
        have h2 := hwa.1.1
        have h3 := hwb.1.1
        simp only [Kd.parts] at h2 h3 ⊢
        omega
      · rcases (m2 z).1 hz with ⟨h, _⟩ | ⟨h, _⟩ | ⟨x, hx, y, hy, e, rfl⟩
        · exact pa.2 z h
        · exact pb.2 z h
        · exact fit_to (key x hx y hy) (off_i64 ha.1 hx)
    | _ => exact fit_unk
theorem meetT_fit {a b : Ty} (ha : frm a = true) (hfa : fit a) (hwa : wit a = true) (hb : frm b = true) (hfb : fit b) (hwb : wit b = true) : fit (meetT a b) := meetT_fit0 a ha (fit_0 hfa) hwa b hb (fit_0 hfb) hwb
end Go.Proofs.YtchjncoadhigmaaGreatDoor

