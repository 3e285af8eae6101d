/- strings.Builder at the head of a struct of three cells: copyCheck. strings.Builder at the head of a struct of three cells: String. A new box, whose first cell is nil: its type is kept in mind. -/
import Derived.Test.YtlbfgnpadggbgaaGreatDoorM3
import Derived.Lib.Builder
import Derived.Laws.Externs
import Derived.Lib.UnsafeStr
import Derived.RegionTactic
namespace Go.Proofs.YtlbfgnpadggbgaaGreatDoor
set_option linter.unusedSimpArgs false
set_option linter.unusedVariables false
set_option linter.unnecessarySimpa false
open Go.RowKit
/-- The block of an ast.printer: its type, and one cell more than two. -/
def PQ : Nat := 1000000 + 55
set_option maxHeartbeats 1000000 in
set_option maxRecDepth 100000 in
theorem cc_usedA (b : Nat) (w : World) (h0 : w.cell? ⟨b, 0, none⟩ = some (.pointer (some ⟨b, 0, none⟩))) :
    Calls Tryz.prog 83 #[.pointer (some ⟨b, 0, none⟩)] w fun e w' => e = .returned (.tuple #[]) ∧ w' = w := by
  obtain ⟨j, hj, _⟩ := Option.map_eq_some_iff.1 (show (Tryz.prog.info? 53).map (·.size) = some 2 by kernel_rfl)
  go_enter Tryz.func83, Tryz.ntmps83
  go_wp2
  rw [Lib.run_neq_ptr_same w _ Tryz.underlying50 hj]
  go_wp2
  go_end0
  exact ⟨rfl, rfl⟩
set_option maxHeartbeats 1000000 in
set_option maxRecDepth 100000 in
theorem cc_freshA (b : Nat) (w : World) (h0 : w.cell? ⟨b, 0, none⟩ = some (.pointer none)) (hsh : w.shape? b = some (55, 3)) (hfz : w.frozen? ⟨b, 0, none⟩ = false) :
    Calls Tryz.prog 83 #[.pointer (some ⟨b, 0, none⟩)] w fun e w' => e = .returned (.tuple #[]) ∧ w' = w.setCell ⟨b, 0, none⟩ (.pointer (some ⟨b, 0, none⟩)) := by
  obtain ⟨j, hj, hjs⟩ := Option.map_eq_some_iff.1 (show (Tryz.prog.info? 53).map (·.size) = some 2 by kernel_rfl)
  go_enter Tryz.func83, Tryz.ntmps83
  go_wp2
  rw [Lib.run_to_unsafe w ⟨b, 0, none⟩ Tryz.underlying50 Tryz.underlying152 hj (by rw [hjs]; decide) hsh (Nat.zero_lt_succ 2)]
  simp only [Result.andThen]
  rw [Oper.upon_value]
  go_wp2
  rw [run_callFunc_extern Tryz.func99 (by kernel_rfl) (by kernel_rfl) (by kernel_rfl) (e := Extern.AbiNoEscape.same) (by kernel_rfl)]
  rw [Lib.run_noEscape]
  simp only [Result.andThen]
  rw [Oper.upon_value]
  go_wp2
  rw [Lib.run_from_unsafe w ⟨b, 0, none⟩ Tryz.underlying152 Tryz.underlying50 hj hsh (by kernel_rfl)]
  simp only [Result.andThen]
  rw [Oper.upon_value]
  go_wp2
  go_end0
  exact ⟨rfl, rfl⟩
theorem c_copyCheckA (y x : V) (l : List Ent) : DC Tryz.prog 83 [.pt 0 0] (.box [.nb 0 PQ, y, x] :: l) (.tu []) (.box [.nb 0 PQ, y, x] :: l) := by
  refine ⟨by kernel_rfl, fun C vs hst hC hsz hR => ?_⟩
  obtain ⟨v0, rfl⟩ : ∃ v0, vs = #[v0] := by
    match vs, hsz with
    | ⟨[v0]⟩, _ => exact ⟨v0, rfl⟩
  have h0 : R C (.pt 0 0) v0 := hR 0 (by simp)
  have hb : C.st 0 = .box [.nb 0 PQ, y, x] := by rw [hst]; rfl
  obtain ⟨g, bs, t, k1, k2, k3, k4, k5⟩ := hC.box 0 _ hb
  obtain rfl : v0 = .pointer (some ⟨g, 0, none⟩) := by
    cases h0 with
    | @pt _ _ g' cs' hg _ =>
      obtain rfl : g' = g := Option.some.inj (hg.symm.trans k1)
      rfl
  have h1 := k5 0 (by simp)
  have h1 : R C (.nb 0 PQ) (bs.getD 0 undef) := h1
  obtain ⟨hs, hz, hv⟩ : C.w.heap[g]? = some (.cells bs 55 (0, 0)) ∧ bs.size = 3 ∧ (bs.getD 0 undef = .pointer none ∨ bs.getD 0 undef = .pointer (some ⟨g, 0, none⟩)) := by
    generalize hu : bs.getD 0 undef = u at h1
    cases h1 with
    | @nb _ g' cs bs' _ _ q1 q2 q3 q4 q5 =>
      obtain rfl : g' = g := Option.some.inj (q1.symm.trans k1)
      rw [q3] at k2
      cases k2
      exact ⟨q3, q4, q5⟩
  have hc0 : C.w.cell? ⟨g, 0, none⟩ = some (bs.getD 0 undef) := by
    have hlt : 0 < bs.size := by omega
    simp [World.cell?, hs, Array.getD_eq_getD_getElem?, hlt]
  rcases hv with hv | hv
  · rw [hv] at hc0
    refine (cc_freshA g C.w hc0 (by simp [World.shape?, hs, hz]) (by simp [World.frozen?, hs])).mono ?_
    rintro e w' ⟨rfl, rfl⟩
    rw [setCell_eq_setRow C.w g 0 bs _ (0, 0) _ hs]
    have hz' : (bs.setIfInBounds 0 (.pointer (some ⟨g, 0, none⟩))).size = bs.size := by simp
    have hE := Ev.setBox (bs := bs.setIfInBounds 0 (.pointer (some ⟨g, 0, none⟩))) (cs := [.nb 0 PQ, y, x]) hb k1 hC hs hz'
    refine ⟨_, _, _, rfl, ⟨rfl, rfl⟩, C.setBox 0 g (bs.setIfInBounds 0 (.pointer (some ⟨g, 0, none⟩))) [.nb 0 PQ, y, x], rfl, ?_, hC.setBox hb k1 hs hz' (by simp; omega) (fun j hj => ?_) (fun j hj => ?_), hE, .tu rfl fun i hi => absurd hi (Nat.not_lt_zero i)⟩
    · show upd C.st 0 _ = _
      funext i
      rw [hst]
      unfold upd
      split
      · rename_i h; subst h; rfl
      · rfl
    · match j, hj with
      | 0, _ =>
        have hlt : 0 < bs.size := by omega
        simp [Array.getD_eq_getD_getElem?, hlt, Value.oneCell']
      | 1, _ =>
        have := k4 1 (by simp)
        simpa [Array.getD_eq_getD_getElem?, Array.getElem?_setIfInBounds] using this
      | 2, _ =>
        have := k4 2 (by simp)
        simpa [Array.getD_eq_getD_getElem?, Array.getElem?_setIfInBounds] using this
    · match j, hj with
      | 0, _ =>
        have hlt : 0 < bs.size := by omega
        have e : (bs.setIfInBounds 0 (.pointer (some ⟨g, 0, none⟩))).getD 0 undef = .pointer (some ⟨g, 0, none⟩) := by simp [Array.getD_eq_getD_getElem?, hlt]
        rw [e]
        exact .nb k1 hb hs hz (.inr rfl)
      | 1, _ =>
        have := k5 1 (by simp)
        have e : (bs.setIfInBounds 0 (.pointer (some ⟨g, 0, none⟩))).getD 1 undef = bs.getD 1 undef := by simp [Array.getD_eq_getD_getElem?, Array.getElem?_setIfInBounds]
        rw [e]
        exact this
      | 2, _ =>
        have := k5 2 (by simp)
        have e : (bs.setIfInBounds 0 (.pointer (some ⟨g, 0, none⟩))).getD 2 undef = bs.getD 2 undef := by simp [Array.getD_eq_getD_getElem?, Array.getElem?_setIfInBounds]
        rw [e]
        exact this
  · rw [hv] at hc0
    refine (cc_usedA g C.w hc0).mono ?_
    rintro e w' ⟨rfl, rfl⟩
    exact ⟨_, _, _, rfl, ⟨rfl, rfl⟩, C, rfl, hst, hC, Ev.refl C, .tu rfl fun i hi => absurd hi (Nat.not_lt_zero i)⟩
end Go.Proofs.YtlbfgnpadggbgaaGreatDoor
namespace Go.Proofs.YtlbfgnpadggbgaaGreatDoor
set_option linter.unusedSimpArgs false
set_option linter.unusedVariables false
set_option linter.unnecessarySimpa false
open Go.RowKit
set_option maxHeartbeats 2000000 in
set_option maxRecDepth 100000 in
theorem str_runA (b g cap : Nat) (p x : Value) (cur : Array Value) (l : List UInt8) (w : World) (h0 : l ≠ []) (hb : w.heap[b]? = some (.cells #[p, .slice (some ⟨g, 0, none⟩) l.length cap, x] 55 (0, 0)))
    (hg : w.heap[g]? = some (.cells cur 5 (0, 0))) (hcap : l.length ≤ cap) (hcm : cap ≤ maxLen) (hcs : cur.size = cap) (hl : ∀ (j : Nat) (x : UInt8), l[j]? = some x → cur[j]? = some (Value.int .u8 x.toNat)) :
    Calls Tryz.prog 25 #[.pointer (some ⟨b, 0, none⟩)] w fun e w' => e = .returned (.string ⟨l.toArray⟩) ∧ w' = w.drew.freeze ⟨g, 0, none⟩ l.length := by
  have hl0 : l.length ≠ 0 := by simpa using h0
  have c1 : w.drew.cell? ⟨b, 1, none⟩ = some (.slice (some ⟨g, 0, none⟩) l.length cap) := by
    have : w.drew.heap[b]? = some (.cells #[p, .slice (some ⟨g, 0, none⟩) l.length cap, x] 55 (0, 0)) := hb
    simp [World.cell?, this]
  have hSD : (Builtin.unsafeSliceData_ #[51] 90 #[.slice (some ⟨g, 0, none⟩) l.length cap]).run Tryz.prog w.drew = .ok (.pointer (some ⟨g, 0, none⟩)) w.drew :=
    Lib.run_unsafeSliceData_row _ _ _ _ _ _ (by omega)
  have hUS : (Builtin.unsafeString_ #[90, 3] 9 #[.pointer (some ⟨g, 0, none⟩), .int .i64 l.length]).run Tryz.prog w.drew = .ok (.string ⟨l.toArray⟩) (w.drew.freeze ⟨g, 0, none⟩ l.length) := by
    refine Lib.run_unsafeString_row w.drew 90 3 9 5 Tryz.underlying90 (by kernel_rfl) g cur.size (by have hg' : w.drew.heap[g]? = some (.cells cur 5 (0, 0)) := hg; simp [World.shape?, hg']) l h0 (by omega) (by unfold maxLen at hcm; omega) ?_
    intro j x hx
    have := hl j x hx
    have hg' : w.drew.heap[g]? = some (.cells cur 5 (0, 0)) := hg
    rw [Addr.add_lit, Nat.zero_add]
    simp [World.cell?, hg', this]
  go_enter Tryz.func25, Tryz.ntmps25
  go_wp2
  go_region
  all_goals (go_wp2; go_ret; exact ⟨rfl, rfl⟩)
theorem freeze_otherA (w : World) {g b n : Nat} (h : b ≠ g) : (w.freeze ⟨g, 0, none⟩ n).heap[b]? = w.heap[b]? := by
  unfold World.freeze
  split
  · rfl
  · simp [Array.getElem?_modify, Ne.symm h]
theorem freeze_sizeA (w : World) {g n : Nat} : (w.freeze ⟨g, 0, none⟩ n).heap.size = w.heap.size := by
  unfold World.freeze
  split <;> simp
theorem freeze_cellA (w : World) {g n : Nat} (a : Addr) : (w.freeze ⟨g, 0, none⟩ n).cell? a = w.cell? a := by
  by_cases hn : n = 0
  · unfold World.freeze
    rw [if_pos hn]
  by_cases h : a.block = g
  · unfold World.cell?
    rw [h]
    unfold World.freeze
    rw [if_neg hn]
    simp only [Array.getElem?_modify, if_true]
    cases w.heap[g]? with
    | none => rfl
    | some o =>
      cases o with
      | cells c e fr => obtain ⟨lo, hi⟩ := fr; rfl
      | _ => rfl
  · exact World.cell?_of_block (freeze_otherA w h)
/-- What the token's slice held is read as a string; nothing is appended to it any more. -/
theorem c_StringA (s : ByteArray) (x : V) (hs : s.size ≠ 0) : DC Tryz.prog 25 [.pt 0 0] [.box [.nb 0 PQ, .sl (byV s) (.mine 1), x], .tip 5 1 s.size] (.im (.string s)) [.box [.nb 0 PQ, .sl (byV s) (.mine 1), x], .tip 5 1 (s.size + 1)] := by
  refine ⟨by kernel_rfl, fun C vs hst hC hsz hR => ?_⟩
  obtain ⟨v0, rfl⟩ : ∃ v0, vs = #[v0] := by
    match vs, hsz with
    | ⟨[v0]⟩, _ => exact ⟨v0, rfl⟩
  have h0 : R C (.pt 0 0) v0 := hR 0 (by simp)
  have hb : C.st 0 = .box [.nb 0 PQ, .sl (byV s) (.mine 1), x] := by rw [hst]; rfl
  have htp : C.st 1 = .tip 5 1 s.size := by rw [hst]; rfl
  have hfr : ∀ i, i ≠ 0 → i ≠ 1 → C.st i = .free := fun i h1 h2 => by
    rw [hst]
    match i, h1, h2 with
    | i + 2, _, _ => rfl
  obtain ⟨gb, bs, t, k1, k2, k3, k4, k5⟩ := hC.box 0 _ hb
  obtain rfl : v0 = .pointer (some ⟨gb, 0, none⟩) := by
    cases h0 with
    | @pt _ _ g' cs' hg _ =>
      obtain rfl : g' = gb := Option.some.inj (hg.symm.trans k1)
      rfl
  have h1 : R C (.nb 0 PQ) (bs.getD 0 undef) := k5 0 (by simp)
  obtain ⟨hsb, hz⟩ : C.w.heap[gb]? = some (.cells bs 55 (0, 0)) ∧ bs.size = 3 := by
    generalize hu : bs.getD 0 undef = u at h1
    cases h1 with
    | @nb _ g' cs bs' _ _ q1 q2 q3 q4 q5 =>
      obtain rfl : g' = gb := Option.some.inj (q1.symm.trans k1)
      rw [q3] at k2
      cases k2
      exact ⟨q3, q4⟩
  have h2 : R C (.sl (byV s) (.mine 1)) (bs.getD 1 undef) := k5 1 (by simp)
  generalize hu : bs.getD 1 undef = u1 at h2
  cases h2 with
  | @sl _ _ a cap zz u hc hm hzz he hr hk =>
    have hlen : (byV s).length = s.size := byV_length s
    obtain ⟨e', n', q1, q2, q3⟩ := hk
    rw [htp] at q1
    cases q1
    rcases q3 hlen with ⟨q4, _⟩ | ⟨g, cur, σ1, rfl, hg, hcs⟩
    · exact absurd (hlen.symm.trans q4) hs
    obtain ⟨l, hl⟩ : ∃ l : List UInt8, l = s.data.toList := ⟨_, rfl⟩
    have hll : l.length = s.size := by rw [hl, Array.length_toList]; rfl
    have hsl : (⟨l.toArray⟩ : ByteArray) = s := by rw [hl]
    have hbb : bs = #[bs.getD 0 undef, .slice (some ⟨g, 0, none⟩) l.length cap, bs.getD 2 undef] := by
      rw [← hlen.trans hll.symm] at *
      apply Array.ext
      · simpa using hz
      · intro i h1 h2
        match i, h1 with
        | 0, h1 => simp [Array.getD_eq_getD_getElem?, h1]
        | 1, h1 =>
          rw [show bs[1] = bs.getD 1 undef by simp [Array.getD_eq_getD_getElem?, h1], hu]
          rfl
        | 2, h1 => simp [Array.getD_eq_getD_getElem?, h1]
        | i + 3, h1 => omega
    have hne : gb ≠ g := fun e => by
      subst e
      have := hC.inj 0 1 gb (by rw [hb]; simp) (by rw [htp]; simp) k1 σ1
      cases this
    have hread : ∀ (j : Nat) (x : UInt8), l[j]? = some x → cur[j]? = some (Value.int .u8 x.toNat) := fun j x hx => by
      obtain ⟨hj, rfl⟩ := List.getElem?_eq_some_iff.1 hx
      have hj' : j < (byV s).length := by omega
      obtain ⟨ad, e1, e2⟩ := hr j hj'
      cases e1
      have h3 := he j hj'
      have e3 : (byV s)[j] = V.im (.int .u8 l[j].toNat) := by simp [byV, hl]
      rw [e3] at h3
      have h4 : u j = .int .u8 l[j].toNat := h3.im_eq
      have := (e2 0 (.int .u8 l[j].toNat) (by rw [h4]; rfl)).1
      rw [Addr.add_lit, Addr.add_lit] at this
      simpa [World.cell?, hg] using this
    have hrun := str_runA gb g cap (bs.getD 0 undef) (bs.getD 2 undef) cur l C.w (by intro e; rw [e] at hll; exact hs (by simpa using hll.symm)) (by rw [← hbb]; exact hsb) hg (by omega) hm (by omega) hread
    refine hrun.mono ?_
    rintro e w' ⟨rfl, rfl⟩
    rw [hsl]
    obtain ⟨w1, hw1⟩ : ∃ w1, w1 = C.w.drew.freeze ⟨g, 0, none⟩ l.length := ⟨_, rfl⟩
    have f1 : ∀ b, b ≠ g → w1.heap[b]? = C.w.heap[b]? := fun b hb => by rw [hw1]; exact freeze_otherA _ hb
    have f2 : w1.heap.size = C.w.heap.size := by rw [hw1]; exact freeze_sizeA _
    have f3 : ∀ a, w1.cell? a = C.w.cell? a := fun a => by rw [hw1]; exact freeze_cellA _ a
    have f4 : w1.os = C.w.os ∧ w1.tape = C.w.tape ∧ w1.output = C.w.output := by
      rw [hw1]
      unfold World.freeze
      split <;> exact ⟨rfl, rfl, rfl⟩
    rw [← hw1]
    obtain ⟨D, hD⟩ : ∃ D : Cf, D = ⟨fun i => if i = 1 then none else C.σ i, ofl [.box [.nb 0 PQ, .sl (byV s) (.mine 1), x], .tip 5 1 (s.size + 1)], C.av, w1⟩ := ⟨_, rfl⟩
    have dσ : ∀ i b, D.σ i = some b → i ≠ 1 ∧ C.σ i = some b := fun i b h => by
      rw [hD] at h
      have h : (if i = 1 then none else C.σ i) = some b := h
      split at h
      · cases h
      · rename_i hi; exact ⟨hi, h⟩
    have dst : ∀ i, i ≠ 1 → D.st i = C.st i := fun i hi => by
      rw [hD, hst]
      match i, hi with
      | 0, _ => rfl
      | i + 2, _ => rfl
    have dst1 : D.st 1 = .tip 5 1 (s.size + 1) := by rw [hD]; rfl
    have dσ0 : ∀ i, i ≠ 1 → D.σ i = C.σ i := fun i hi => by rw [hD]; exact if_neg hi
    have dw : D.w = w1 := by rw [hD]
    have dav : D.av = C.av := by rw [hD]
    have hEv : Ev C D := by
      refine ⟨by rw [dw]; exact f4.1, by rw [dw]; exact f4.2.1, by rw [dw]; exact f4.2.2, by rw [dw, f2]; exact Nat.le_refl _, dav, fun a v h => ⟨by rw [dw, f3]; exact h.1, by rw [dav]; exact h.2.1, fun i hi => ?_⟩, fun i cs h => ?_, fun i e z n h => ?_, fun i p q h => ?_, fun b hb hf => ?_, fun i b h h' => ?_, fun i cs b bs' t' h h' hh => ?_⟩
      · obtain ⟨e1, e2⟩ := dσ i _ hi
        rw [dst i e1]
        exact h.2.2 i e2
      · have hi : i ≠ 1 := fun e => by subst e; rw [htp] at h; cases h
        exact ⟨dσ0 i hi, cs, by rw [dst i hi]; exact h⟩
      · by_cases hi : i = 1
        · subst hi
          rw [htp] at h
          cases h
          exact ⟨s.size + 1, dst1, by omega, fun h => by omega⟩
        · by_cases h0' : i = 0
          · subst h0'; rw [hb] at h; cases h
          · rw [hfr i h0' hi] at h; cases h
      · by_cases hi : i = 1
        · subst hi; rw [htp] at h; cases h
        · by_cases h0' : i = 0
          · subst h0'; rw [hb] at h; cases h
          · rw [hfr i h0' hi] at h; cases h
      · rw [dw]
        refine f1 b fun e => ?_
        subst e
        have := hf 1 σ1
        rw [htp] at this
        cases this
      · obtain ⟨e1, e2⟩ := dσ i b h'
        rw [dst i e1] at h
        exact .inl ⟨h, e2⟩
      · have hi : i = 0 := by
          refine Classical.byContradiction fun h0' => ?_
          by_cases hi : i = 1
          · subst hi; rw [htp] at h; cases h
          · rw [hfr i h0' hi] at h; cases h
        subst hi
        obtain rfl : gb = b := Option.some.inj (k1.symm.trans h')
        exact ⟨bs', by rw [dw, f1 _ hne]; exact hh, rfl⟩
    have hOk : Ok D := by
      refine ⟨fun i cs h => ?_, fun i e z n g' h h' => ?_, fun i p q h => ?_, fun i j g' h1 h2 h3 h4 => ?_, fun b o h => ?_, fun i cs g' o h h' => ?_, hC.gl.mono hEv⟩
      · have hi : i ≠ 1 := fun e => by subst e; rw [dst1] at h; cases h
        rw [dst i hi] at h
        obtain ⟨g', bs', t', e1, e2, e3, e4, e5⟩ := hC.box i cs h
        refine ⟨g', bs', t', (dσ0 i hi).trans e1, ?_, e3, e4, fun j hj => (e5 j hj).mono hEv⟩
        rw [dw, f1 _ (fun e => by subst e; exact hi (hC.inj i 1 g' (by rw [h]; simp) (by rw [htp]; simp) e1 σ1))]
        exact e2
      · obtain ⟨e1, e2⟩ := dσ i g' h'
        rw [dst i e1] at h
        by_cases h0' : i = 0
        · subst h0'; rw [hb] at h; cases h
        · rw [hfr i h0' e1] at h; cases h
      · by_cases hi : i = 1
        · subst hi; rw [dst1] at h; cases h
        · rw [dst i hi] at h
          by_cases h0' : i = 0
          · subst h0'; rw [hb] at h; cases h
          · rw [hfr i h0' hi] at h; cases h
      · obtain ⟨e1, e2⟩ := dσ i g' h3
        obtain ⟨e3, e4⟩ := dσ j g' h4
        rw [dst i e1] at h1
        rw [dst j e3] at h2
        exact hC.inj i j g' h1 h2 e2 e4
      · rw [dav] at h
        rw [dw, f2]
        exact hC.avl b o h
      · obtain ⟨e1, e2⟩ := dσ i g' h'
        rw [dst i e1] at h
        rw [dav]
        exact hC.bav i cs g' o h e2
    exact ⟨_, _, _, rfl, ⟨rfl, rfl⟩, D, dw, by rw [hD], hOk, hEv, .im rfl⟩
end Go.Proofs.YtlbfgnpadggbgaaGreatDoor
namespace Go.Proofs.YtlbfgnpadggbgaaGreatDoor
set_option linter.unusedSimpArgs false
set_option linter.unusedVariables false
set_option linter.unnecessarySimpa false
open Go.RowKit
theorem step_boxC {P : Program} {o : Oper} {ev : Operand → V} {t : TypeId} {id : Nat} {x : Operand} {y x1 : V} {q : Nat} (ht : q % 1000000 = t ∧ q / 1000000 = 1) (ho : o.op = .box t x) (hx : ev x = .ag [.im (.pointer none), y, x1]) : Step P o ev [(id, .free)] ⟨.pt id 0, [(id, .box [.nb id q, y, x1])]⟩ := by
  intro C ρ hC hR hf
  have hf' : C.st id = .free := hf (id, .free) (by simp)
  have h0 := hR x (by simp [ho, Op.operands])
  rw [hx] at h0
  obtain ⟨h1, h2⟩ := h0.live rfl
  have hr : (execOp ρ o).run P C.w = .ok (.value (.pointer (some ⟨C.w.heap.size, 0, none⟩))) (C.w.alloc (.cells (ρ x).cells t)) := by
    simp only [execOp, ho, Instr.box, Sem.run_bind, run_newVar, Result.andThen_ok, Sem.run_pure]
  rw [hr]
  obtain ⟨bs, hbs⟩ : ∃ bs, bs = (ρ x).cells := ⟨_, rfl⟩
  rw [← hbs] at h1 h2 ⊢
  have hz : bs.size = 3 := h1
  obtain ⟨D, hD⟩ : ∃ D, D = C.newId id (.cells bs t) (.box [.im (.pointer none), y, x1]) := ⟨_, rfl⟩
  have hE : Ev C D := by rw [hD]; exact Ev.newId hf'
  have hO : Ok D := by
    rw [hD]
    exact hC.newId hf' (fun cs' e => by cases e; exact ⟨bs, t, rfl, Nat.le_of_eq h1.symm, fun j hj => (h2 j hj).1, fun j hj => (h2 j hj).2⟩) (fun _ _ _ e => by cases e) (fun _ _ e => by cases e)
  have dw : D.w = C.w.alloc (.cells bs t) := by rw [hD]; rfl
  have dσ : D.σ id = some C.w.heap.size := by rw [hD]; simp [Cf.newId]
  have dst : D.st id = .box [.im (.pointer none), y, x1] := by rw [hD]; simp [Cf.newId, upd]
  have dh : D.w.heap[C.w.heap.size]? = some (.cells bs t (0, 0)) := by
    rw [dw]
    show (Array.push C.w.heap _)[C.w.heap.size]? = _
    exact Array.getElem?_push_size
  have hk : Kin D.st (upd D.st id (.box [.nb id q, y, x1])) := fun i => by
    by_cases hi : i = id
    · subst hi
      exact .inr ⟨_, [.nb i q, y, x1], dst, by simp [upd]⟩
    · exact .inl (by simp [upd, hi])
  have hst : upd D.st id (.box [.nb id q, y, x1]) = wrs C.st [(id, .box [.nb id q, y, x1])] := by
    rw [hD]
    funext i
    simp only [Cf.newId, wrs, upd]
    split <;> rfl
  refine ⟨D.wst (upd D.st id (.box [.nb id q, y, x1])), dw, hst, hO.wst hk fun i cs hb => ?_, hE.trans (Ev.wst hk), .pt (cs := [.nb id q, y, x1]) dσ (by simp [Cf.wst, upd])⟩
  by_cases hi : i = id
  · subst hi
    have hb : Ent.box [.nb i q, y, x1] = .box cs := by simpa [upd] using hb
    cases hb
    refine ⟨C.w.heap.size, bs, t, dσ, dh, by simp [hz], fun j hj => (h2 j hj).1, fun j hj => ?_⟩
    match j, hj with
    | 0, _ =>
      have h3 := (h2 0 (by simp [V.cells])).2
      have h3 : R C (.im (.pointer none)) (bs.getD 0 undef) := h3
      have e := h3.im_eq
      exact .nb (cs := [.nb i q, y, x1]) dσ (by simp [Cf.wst, upd]) (by rw [ht.1]; exact dh) (by rw [hz, ht.2]) (.inl e)
    | 1, _ =>
      have h3 : R C y (bs.getD 1 undef) := (h2 1 (by simp [V.cells])).2
      exact (h3.mono hE).wst hk
    | 2, _ =>
      have h3 : R C x1 (bs.getD 2 undef) := (h2 2 (by simp [V.cells])).2
      exact (h3.mono hE).wst hk
  · have hb : D.st i = .box cs := by simpa [upd, hi] using hb
    obtain ⟨g, bs', t', e1, e2, e3, e4, e5⟩ := hO.box i cs hb
    exact ⟨g, bs', t', e1, e2, e3, e4, fun j hj => (e5 j hj).wst hk⟩
theorem AR.boxC {P : Program} {N : Nat} {ops : Array Oper} {dr : Bool} {Q : St → Prop} {d : Option Tmp} {t ty : TypeId} {x : Operand} {pos : String} {af : Array Edge} {os : List Oper} {k : Nat} {s : List (Nat × V)} {l : List Ent} {acc : List (Nat × List Nat × List Nat)} {y x1 : V}
    {q : Nat} (ht : q % 1000000 = t ∧ q / 1000000 = 1) (hx : St.ev ⟨dn N s, ofl l⟩ x = .ag [.im (.pointer none), y, x1]) (hn : AR P ops dr Q os (k + 1) ⟨dn N (putA s d (.pt l.length 0)), ofl (l ++ [.box [.nb l.length q, y, x1]])⟩ ((k, [l.length], [l.length]) :: acc)) :
    AR P ops dr Q (⟨d, .box t x, ty, pos, af, none⟩ :: os) k ⟨dn N s, ofl l⟩ acc :=
  .inr (.inl ⟨rfl, [(l.length, .free)], ⟨.pt l.length 0, [(l.length, .box [.nb l.length q, y, x1])]⟩, step_boxC ht rfl hx, fun p hp => by
    obtain rfl := List.mem_singleton.1 hp
    exact ofl_end l, by
    have e : ofl (l ++ [.box [.nb l.length q, y, x1]]) = wrs (ofl l) [(l.length, .box [.nb l.length q, y, x1])] := by
      rw [← ofl_snoc]
      rfl
    rw [e, ← put_dn N s (ofl l)] at hn
    exact hn⟩)
end Go.Proofs.YtlbfgnpadggbgaaGreatDoor
