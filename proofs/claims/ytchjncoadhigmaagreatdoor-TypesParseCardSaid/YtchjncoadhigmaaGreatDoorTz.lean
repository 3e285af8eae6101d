/- strings.Builder within a struct of its own: copyCheck. -/
import Derived.Test.YtchjncoadhigmaaGreatDoorTu
import Derived.Lib.Builder
import Derived.Laws.Externs
namespace Go.Proofs.YtchjncoadhigmaaGreatDoor
set_option linter.unusedSimpArgs false
set_option linter.unusedVariables false
set_option linter.unnecessarySimpa false
open Go.RowKit
set_option maxHeartbeats 1000000 in
set_option maxRecDepth 100000 in
theorem cc_used (b : Nat) (w : World) (h0 : w.cell? ⟨b, 0, none⟩ = some (.pointer (some ⟨b, 0, none⟩))) :
    Calls Tryz.prog 89 #[.pointer (some ⟨b, 0, none⟩)] w fun e w' => e = .returned (.tuple #[]) ∧ w' = w := by
  obtain ⟨j, hj, _⟩ := Option.map_eq_some_iff.1 (show (Tryz.prog.info? 58).map (·.size) = some 2 by kernel_rfl)
  go_enter Tryz.func89, Tryz.ntmps89
  go_wp2
  rw [Lib.run_neq_ptr_same w _ Tryz.underlying55 hj]
  go_wp2
  go_end0
  exact ⟨rfl, rfl⟩
set_option maxHeartbeats 1000000 in
set_option maxRecDepth 100000 in
theorem cc_fresh (b : Nat) (w : World) (h0 : w.cell? ⟨b, 0, none⟩ = some (.pointer none)) (hsh : w.shape? b = some (60, 2)) (hfz : w.frozen? ⟨b, 0, none⟩ = false) :
    Calls Tryz.prog 89 #[.pointer (some ⟨b, 0, none⟩)] w fun e w' => e = .returned (.tuple #[]) ∧ w' = w.setCell ⟨b, 0, none⟩ (.pointer (some ⟨b, 0, none⟩)) := by
  obtain ⟨j, hj, hjs⟩ := Option.map_eq_some_iff.1 (show (Tryz.prog.info? 58).map (·.size) = some 2 by kernel_rfl)
  go_enter Tryz.func89, Tryz.ntmps89
  go_wp2
  rw [Lib.run_to_unsafe w ⟨b, 0, none⟩ Tryz.underlying55 Tryz.underlying103 hj (by rw [hjs]; decide) hsh (Nat.zero_lt_succ 1)]
  simp only [Result.andThen]
  rw [Oper.upon_value]
  go_wp2
  rw [run_callFunc_extern Tryz.func96 (by kernel_rfl) (by kernel_rfl) (by kernel_rfl) (e := Extern.AbiNoEscape.same) (by kernel_rfl)]
  rw [Lib.run_noEscape]
  simp only [Result.andThen]
  rw [Oper.upon_value]
  go_wp2
  rw [Lib.run_from_unsafe w ⟨b, 0, none⟩ Tryz.underlying103 Tryz.underlying55 hj hsh (by kernel_rfl)]
  simp only [Result.andThen]
  rw [Oper.upon_value]
  go_wp2
  go_end0
  exact ⟨rfl, rfl⟩
theorem c_copyCheck (y : V) (l : List Ent) : DC Tryz.prog 89 [.pt 0 0] (.box [.nb 0 60, y] :: l) (.tu []) (.box [.nb 0 60, y] :: l) := by
  refine ⟨by kernel_rfl, fun C vs hst hC hsz hR => ?_⟩
  obtain ⟨v0, rfl⟩ : ∃ v0, vs = #[v0] := by
    match vs, hsz with
    | ⟨[v0]⟩, _ => exact ⟨v0, rfl⟩
  have h0 : R C (.pt 0 0) v0 := hR 0 (by simp)
  have hb : C.st 0 = .box [.nb 0 60, y] := by rw [hst]; rfl
  obtain ⟨g, bs, t, k1, k2, k3, k4, k5⟩ := hC.box 0 _ hb
  obtain rfl : v0 = .pointer (some ⟨g, 0, none⟩) := by
    cases h0 with
    | @pt _ _ g' cs' hg _ =>
      obtain rfl : g' = g := Option.some.inj (hg.symm.trans k1)
      rfl
  have h1 := k5 0 (by simp)
  have h1 : R C (.nb 0 60) (bs.getD 0 undef) := h1
  obtain ⟨hs, hz, hv⟩ : C.w.heap[g]? = some (.cells bs 60 (0, 0)) ∧ bs.size = 2 ∧ (bs.getD 0 undef = .pointer none ∨ bs.getD 0 undef = .pointer (some ⟨g, 0, none⟩)) := by
    generalize hu : bs.getD 0 undef = u at h1
    cases h1 with
    | @nb _ g' cs bs' _ _ q1 q2 q3 q4 q5 =>
      obtain rfl : g' = g := Option.some.inj (q1.symm.trans k1)
      rw [q3] at k2
      cases k2
      exact ⟨q3, q4, q5⟩
  have hc0 : C.w.cell? ⟨g, 0, none⟩ = some (bs.getD 0 undef) := by
    have hlt : 0 < bs.size := by omega
    simp [World.cell?, hs, Array.getD_eq_getD_getElem?, hlt]
  rcases hv with hv | hv
  · rw [hv] at hc0
    refine (cc_fresh g C.w hc0 (by simp [World.shape?, hs, hz]) (by simp [World.frozen?, hs])).mono ?_
    rintro e w' ⟨rfl, rfl⟩
    rw [setCell_eq_setRow C.w g 0 bs _ (0, 0) _ hs]
    have hz' : (bs.setIfInBounds 0 (.pointer (some ⟨g, 0, none⟩))).size = bs.size := by simp
    have hE := Ev.setBox (bs := bs.setIfInBounds 0 (.pointer (some ⟨g, 0, none⟩))) (cs := [.nb 0 60, y]) hb k1 hC hs hz'
    refine ⟨_, _, _, rfl, ⟨rfl, rfl⟩, C.setBox 0 g (bs.setIfInBounds 0 (.pointer (some ⟨g, 0, none⟩))) [.nb 0 60, y], rfl, ?_, hC.setBox hb k1 hs hz' (by simp; omega) (fun j hj => ?_) (fun j hj => ?_), hE, .tu rfl fun i hi => absurd hi (Nat.not_lt_zero i)⟩
    · show upd C.st 0 _ = _
      funext i
      rw [hst]
      unfold upd
      split
      · rename_i h; subst h; rfl
      · rfl
    · match j, hj with
      | 0, _ =>
        have hlt : 0 < bs.size := by omega
        simp [Array.getD_eq_getD_getElem?, hlt, Value.oneCell']
      | 1, _ =>
        have := k4 1 (by simp)
        simpa [Array.getD_eq_getD_getElem?, Array.getElem?_setIfInBounds] using this
    · match j, hj with
      | 0, _ =>
        have hlt : 0 < bs.size := by omega
        have e : (bs.setIfInBounds 0 (.pointer (some ⟨g, 0, none⟩))).getD 0 undef = .pointer (some ⟨g, 0, none⟩) := by simp [Array.getD_eq_getD_getElem?, hlt]
        rw [e]
        exact .nb k1 hb hs hz (.inr rfl)
      | 1, _ =>
        have := k5 1 (by simp)
        have e : (bs.setIfInBounds 0 (.pointer (some ⟨g, 0, none⟩))).getD 1 undef = bs.getD 1 undef := by simp [Array.getD_eq_getD_getElem?, Array.getElem?_setIfInBounds]
        rw [e]
        exact this
  · rw [hv] at hc0
    refine (cc_used g C.w hc0).mono ?_
    rintro e w' ⟨rfl, rfl⟩
    exact ⟨_, _, _, rfl, ⟨rfl, rfl⟩, C, rfl, hst, hC, Ev.refl C, .tu rfl fun i hi => absurd hi (Nat.not_lt_zero i)⟩
end Go.Proofs.YtchjncoadhigmaaGreatDoor
