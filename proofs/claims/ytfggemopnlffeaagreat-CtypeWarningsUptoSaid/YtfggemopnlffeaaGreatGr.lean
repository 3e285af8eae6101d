import Derived.Test.YtfggemopnlffeaaGreatHv
import Derived.Lib.AppendZeros
import Derived.Lib.SliceRun
import Derived.Lib.Walk
import Derived.Shelf.RegionOpenPlain
import Derived.Lib.SmallJoins
namespace Go.Proofs.YtfggemopnlffeaaGreat
set_option linter.unusedSimpArgs false
set_option linter.unusedVariables false
set_option linter.unnecessarySimpa false
open Go.RowKit Go.Lib
def Cf.newTip (C : Cf) (e : TypeId) (z : Nat) (cs : Array Value) : Cf := ⟨fun i => if i = 0 then some C.w.heap.size else C.σ i, ofl [.tip e z 0], C.av, C.w.drew.alloc (.cells cs e)⟩
theorem newTip_st {e : TypeId} {z i : Nat} (h : ofl [.tip e z 0] i ≠ .free) : i = 0 := by
  cases i with
  | zero => rfl
  | succ i => exact absurd (by simp [ofl, List.getD]) h
theorem newTip_old {C : Cf} {e : TypeId} {z : Nat} {cs : Array Value} {b : Nat} (hb : b < C.w.heap.size) : (C.newTip e z cs).w.heap[b]? = C.w.heap[b]? := by
  show (C.w.drew.heap.push _)[b]? = _
  rw [Array.getElem?_push]
  have : b ≠ C.w.drew.heap.size := Nat.ne_of_lt hb
  rw [if_neg this]
  rfl
theorem Ev.newTip {C : Cf} {e : TypeId} {z : Nat} {cs : Array Value} (hst : C.st = stF) : Ev C (C.newTip e z cs) where
  os := rfl
  tape := rfl
  output := rfl
  size := by show C.w.heap.size ≤ (C.w.drew.heap.push _).size; rw [Array.size_push]; exact Nat.le_succ _
  av := rfl
  rd := fun a v h => by
    have hb : a.block < C.w.heap.size := by
      have h1 := h.1
      refine Nat.lt_of_not_le fun hle => ?_
      have : C.w.heap[a.block]? = none := Array.getElem?_eq_none hle
      simp [World.cell?, this] at h1
    refine ⟨?_, h.2.1, fun i hi => ?_⟩
    · rw [← h.1]
      exact World.cell?_of_block (w := C.w) (newTip_old hb)
    · by_cases h0 : i = 0
      · subst h0
        have : C.w.heap.size = a.block := Option.some.inj hi
        omega
      · exact .inl (Classical.byContradiction fun hn => h0 (newTip_st hn))
  box := fun i cs hb => by rw [hst] at hb; cases hb
  tip := fun i e z n hb => by rw [hst] at hb; cases hb
  itr := fun i s p hb => by rw [hst] at hb; cases hb
  keep := fun b hb _ => newTip_old hb
  fresh := fun i b hi hs => by
    obtain rfl := newTip_st hi
    have : C.w.heap.size = b := Option.some.inj hs
    exact .inr (Nat.le_of_eq this)
theorem Ok.newTip {C : Cf} {e : TypeId} {z : Nat} {cs : Array Value} (hC : Ok C) (hst : C.st = stF) : Ok (C.newTip e z cs) where
  box := fun i cs' hb => by
    have h0 : i = 0 := newTip_st (e := e) (z := z) (by show (C.newTip e z cs).st i ≠ _; rw [hb]; simp)
    subst h0
    cases hb
  tip := fun i e' z' n g hb hs => by
    have h0 : i = 0 := newTip_st (e := e) (z := z) (by show (C.newTip e z cs).st i ≠ _; rw [hb]; simp)
    subst h0
    cases hb
    have : C.w.heap.size = g := Option.some.inj hs
    subst this
    refine ⟨cs, ?_, by omega, fun o ho => ?_⟩
    · show (C.w.drew.heap.push _)[C.w.heap.size]? = _
      rw [Array.getElem?_push]
      exact if_pos rfl
    · exact absurd (hC.avl _ o ho) (Nat.lt_irrefl _)
  iter := fun i s p hb => by
    have h0 : i = 0 := newTip_st (e := e) (z := z) (by show (C.newTip e z cs).st i ≠ _; rw [hb]; simp)
    subst h0
    cases hb
  inj := fun i j g hi hj _ _ => (newTip_st hi).trans (newTip_st hj).symm
  avl := fun b o h => by
    have := hC.avl b o h
    show b < (C.w.drew.heap.push _).size
    rw [Array.size_push]
    exact Nat.lt_succ_of_lt this
  bav := fun i cs' g o hb => by
    have h0 : i = 0 := newTip_st (e := e) (z := z) (by show (C.newTip e z cs).st i ≠ _; rw [hb]; simp)
    subst h0
    cases hb
  gl := hC.gl.mono (Ev.newTip hst)
theorem grown_acalls {P : Program} {f : FuncId} {e : TypeId} {z : Nat} {xs : List V} (hf : goFn P f = true) (hz : 0 < z)
    (h : ∀ (C : Cf) (vs : Array Value), C.st = stF → Ok C → vs.size = xs.length → (∀ i (h : i < xs.length), R C xs[i] (vs.getD i undef)) →
      ∃ (cap : Nat) (cs : Array Value), cap ≤ maxLen ∧ cs.size = cap * z ∧ Calls P f vs C.w fun e' w' => e' = .returned (.slice (some ⟨C.w.heap.size, 0, none⟩) 0 cap) ∧ w' = C.w.drew.alloc (.cells cs e)) :
    DC P f xs [.free] (.sl [] (.own 0)) [.tip e z 0] := by
  refine ⟨hf, fun C vs hst hC hl hR => ?_⟩
  have hst' : C.st = stF := by
    rw [hst]; funext i; unfold ofl stF; cases i with
    | zero => rfl
    | succ i => simp [List.getD]
  obtain ⟨cap, cs, hcap, hcs, hc⟩ := h C vs hst' hC hl hR
  refine hc.mono ?_
  rintro e' w' ⟨rfl, rfl⟩
  refine ⟨_, _, _, rfl, ⟨rfl, rfl⟩, C.newTip e z cs, rfl, rfl, Ok.newTip hC hst', Ev.newTip hst', ?_⟩
  · refine .sl (z := z) (u := fun _ => undef) (Nat.zero_le _) hcap (fun i hi => absurd hi (Nat.not_lt_zero _)) (fun i hi => absurd hi (Nat.not_lt_zero _)) (fun i hi => absurd hi (Nat.not_lt_zero _))
      ⟨e, 0, rfl, Nat.le_refl _, fun _ => .inr ⟨_, cs, rfl, rfl, ?_, hcs⟩⟩
    show (C.w.drew.heap.push _)[C.w.heap.size]? = _
    rw [Array.getElem?_push]
    exact if_pos rfl
theorem growN_run (n : Nat) (h0 : 0 < n) (hb : n ≤ 4194304 * 4) (w : World) : ∃ (cap : Nat) (cs : Array Value), cap ≤ maxLen ∧ cs.size = cap * 1 ∧ Calls Tryz.prog 135 #[.slice none 0 0, .int .i64 n] w fun e w' => e = .returned (.slice (some ⟨w.heap.size, 0, none⟩) 0 cap) ∧ w' = w.drew.alloc (.cells cs 35) := by
  obtain ⟨i0, hi, hz0, hz1, hz2⟩ := info_parts (show (Tryz.prog.info? 35).map (fun i => (i.zero, i.size, i.bytes)) = some (some (.slice none 0 0), 1, 24) by kernel_rfl)
  have h1 : ¬ ((n : Int) < 0) := by omega
  have h4 : (n : Int) > 0 := by omega
  have hrz : ∀ ty, (Builtin.append_ #[57, 3] ty #[.slice none 0 0, .int .i64 n]).run Tryz.prog w = _ := fun ty => run_append_nil_zeros w 57 3 ty 35 i0 _ .i64 .i64 Tryz.underlying57 Tryz.underlying3 hi hz0 n h0 (by rw [hz1]; decide) (by omega) (by rw [hz2]; omega)
  have hGn : n ≤ grownCap w n 0 35 := grownCap_ge w _ _ _
  have hG63 := grownCap_le_maxLen w n 0 35 (by unfold maxLen; omega)
  generalize grownCap w n 0 35 = G at hrz hGn hG63
  refine ⟨G, Builtin.zeroCells (Value.cells (.slice none 0 0)) n ++ Builtin.zeroCells (Value.cells (.slice none 0 0)) (G - n), hG63, ?_, ?_⟩
  rotate_left
  · go_enter Tryz.func135, Tryz.ntmps135
    go_wp2_with (at_builtin; refine Lib.wpList_append_run _ rfl _ _ _ _ rfl _ _ rfl rfl _ _ (hrz _) ?_)
    all_goals (go_ret; exact ⟨rfl, rfl⟩)
  · simp [Builtin.zeroCells, Value.cells]; omega
theorem c_growN (n : Nat) (h0 : 0 < n) (hb : n ≤ 4194304 * 4) : DC Tryz.prog 135 [.sl [] .nl, .im (.int .i64 n)] [.free] (.sl [] (.own 0)) [.tip 35 1 0] := by
  refine grown_acalls (by kernel_rfl) (by decide) fun C vs _ _ hl hR => ?_
  obtain ⟨v0, v1, rfl⟩ : ∃ v0 v1, vs = #[v0, v1] := Go.Joins.array2 hl
  have h1 := hR 0 (by simp)
  have h2 := hR 1 (by simp)
  obtain rfl : v0 = .slice none 0 0 := by
    have h1 : R C (.sl [] .nl) v0 := h1
    cases h1 with
    | sl _ _ _ _ _ hk => obtain ⟨rfl, rfl⟩ := hk; rfl
  obtain rfl : v1 = .int .i64 n := by
    have h2 : R C (.im (.int .i64 n)) v1 := h2
    cases h2 with
    | im => rfl
  exact growN_run n h0 hb C.w
theorem c_growN0 : PC Tryz.prog 135 [.sl [] .nl, .im (.int .i64 0)] (.sl [] .nl) := by
  refine ⟨by kernel_rfl, fun C vs hst hC hl hR => ?_⟩
  obtain ⟨v0, v1, rfl⟩ : ∃ v0 v1, vs = #[v0, v1] := Go.Joins.array2 hl
  have h1 := hR 0 (by simp)
  have h2 := hR 1 (by simp)
  obtain rfl : v0 = .slice none 0 0 := by
    have h1 : R C (.sl [] .nl) v0 := h1
    cases h1 with
    | sl _ _ _ _ _ hk => obtain ⟨rfl, rfl⟩ := hk; rfl
  obtain rfl : v1 = .int .i64 0 := by
    have h2 : R C (.im (.int .i64 0)) v1 := h2
    cases h2 with
    | im => rfl
  have hc : Calls Tryz.prog 135 #[.slice none 0 0, .int .i64 0] C.w fun e w' => e = .returned (.slice none 0 0) ∧ w' = C.w := by
    go_enter Tryz.func135, Tryz.ntmps135
    go_wp2
    go_ret
    exact ⟨rfl, rfl⟩
  refine hc.mono ?_
  rintro e' w' ⟨rfl, rfl⟩
  exact ⟨_, _, _, rfl, ⟨rfl, rfl⟩, C, rfl, hst, hC, Ev.refl C, h1⟩
theorem growV_run (n : Nat) (h0 : 0 < n) (hb : n ≤ 4194304 * 4) (w : World) : ∃ (cap : Nat) (cs : Array Value), cap ≤ maxLen ∧ cs.size = cap * 6 ∧ Calls Tryz.prog 104 #[.slice none 0 0, .int .i64 n] w fun e w' => e = .returned (.slice (some ⟨w.heap.size, 0, none⟩) 0 cap) ∧ w' = w.drew.alloc (.cells cs 44) := by
  obtain ⟨i0, hi, hz0, hz1, hz2⟩ := info_parts (show (Tryz.prog.info? 44).map (fun i => (i.zero, i.size, i.bytes)) = some (some (.agg #[.string .empty, .int .i64 0, .int .i64 0, .int .i64 0, .slice none 0 0, .slice none 0 0]), 6, 88) by kernel_rfl)
  have h1 : ¬ ((n : Int) < 0) := by omega
  have h4 : (n : Int) > 0 := by omega
  have hrz : ∀ ty, (Builtin.append_ #[22, 3] ty #[.slice none 0 0, .int .i64 n]).run Tryz.prog w = _ := fun ty => run_append_nil_zeros w 22 3 ty 44 i0 _ .i64 .i64 Tryz.underlying22 Tryz.underlying3 hi hz0 n h0 (by rw [hz1]; decide) (by omega) (by rw [hz2]; omega)
  have hGn : n ≤ grownCap w n 0 44 := grownCap_ge w _ _ _
  have hG63 := grownCap_le_maxLen w n 0 44 (by unfold maxLen; omega)
  generalize grownCap w n 0 44 = G at hrz hGn hG63
  refine ⟨G, Builtin.zeroCells (Value.cells (.agg #[.string .empty, .int .i64 0, .int .i64 0, .int .i64 0, .slice none 0 0, .slice none 0 0])) n ++ Builtin.zeroCells (Value.cells (.agg #[.string .empty, .int .i64 0, .int .i64 0, .int .i64 0, .slice none 0 0, .slice none 0 0])) (G - n), hG63, ?_, ?_⟩
  rotate_left
  · go_enter Tryz.func104, Tryz.ntmps104
    go_wp2_with (at_builtin; refine Lib.wpList_append_run _ rfl _ _ _ _ rfl _ _ rfl rfl _ _ (hrz _) ?_)
    all_goals (go_ret; exact ⟨rfl, rfl⟩)
  · simp [Builtin.zeroCells, Value.cells]; omega
theorem c_growV (n : Nat) (h0 : 0 < n) (hb : n ≤ 4194304 * 4) : DC Tryz.prog 104 [.sl [] .nl, .im (.int .i64 n)] [.free] (.sl [] (.own 0)) [.tip 44 6 0] := by
  refine grown_acalls (by kernel_rfl) (by decide) fun C vs _ _ hl hR => ?_
  obtain ⟨v0, v1, rfl⟩ : ∃ v0 v1, vs = #[v0, v1] := Go.Joins.array2 hl
  have h1 := hR 0 (by simp)
  have h2 := hR 1 (by simp)
  obtain rfl : v0 = .slice none 0 0 := by
    have h1 : R C (.sl [] .nl) v0 := h1
    cases h1 with
    | sl _ _ _ _ _ hk => obtain ⟨rfl, rfl⟩ := hk; rfl
  obtain rfl : v1 = .int .i64 n := by
    have h2 : R C (.im (.int .i64 n)) v1 := h2
    cases h2 with
    | im => rfl
  exact growV_run n h0 hb C.w
theorem c_growV0 : PC Tryz.prog 104 [.sl [] .nl, .im (.int .i64 0)] (.sl [] .nl) := by
  refine ⟨by kernel_rfl, fun C vs hst hC hl hR => ?_⟩
  obtain ⟨v0, v1, rfl⟩ : ∃ v0 v1, vs = #[v0, v1] := Go.Joins.array2 hl
  have h1 := hR 0 (by simp)
  have h2 := hR 1 (by simp)
  obtain rfl : v0 = .slice none 0 0 := by
    have h1 : R C (.sl [] .nl) v0 := h1
    cases h1 with
    | sl _ _ _ _ _ hk => obtain ⟨rfl, rfl⟩ := hk; rfl
  obtain rfl : v1 = .int .i64 0 := by
    have h2 : R C (.im (.int .i64 0)) v1 := h2
    cases h2 with
    | im => rfl
  have hc : Calls Tryz.prog 104 #[.slice none 0 0, .int .i64 0] C.w fun e w' => e = .returned (.slice none 0 0) ∧ w' = C.w := by
    go_enter Tryz.func104, Tryz.ntmps104
    go_wp2
    go_ret
    exact ⟨rfl, rfl⟩
  refine hc.mono ?_
  rintro e' w' ⟨rfl, rfl⟩
  exact ⟨_, _, _, rfl, ⟨rfl, rfl⟩, C, rfl, hst, hC, Ev.refl C, h1⟩
end Go.Proofs.YtfggemopnlffeaaGreat
