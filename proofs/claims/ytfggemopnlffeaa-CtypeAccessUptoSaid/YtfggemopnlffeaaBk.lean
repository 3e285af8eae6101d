/- The library's walk over a slice from its end (slices.Backward), over fields: its contract for a range over it. -/
import Derived.RangeFuncNested
import Derived.RangeFuncBound
import Derived.RangeFuncCalls
import Derived.RangeFuncLeaves
import Derived.Shelf.Abstract
import Derived.WalkKit
import Derived.OwnWalkIn
import Derived.TacticsInMore
import Derived.LoopNIn
import Derived.LoopIn
import Derived.Test.YtfggemopnlffeaaChecked
namespace Go.Proofs.Ytfggemopnlffeaa
set_option linter.unusedSimpArgs false
set_option linter.unusedVariables false
set_option linter.unnecessarySimpa false
open Go.RowKit Go.Shelf
attribute [local go_sem] Oper.semAt_some

/-- n - 1, n - 2, .., k numbers in all. -/
def down (n k : Nat) : List Nat := (List.range k).map fun j => n - 1 - j
theorem down_succ (n k : Nat) : down n (k + 1) = down n k ++ [n - 1 - k] := by simp [down, List.range_succ]
theorem down_length (n k : Nat) : (down n k).length = k := by simp [down]
structure Six where
  c0 : Value
  c1 : Value
  c2 : Value
  c3 : Value
  c4 : Value
  c5 : Value
def Six.v (s : Six) : Value := .agg #[s.c0, s.c1, s.c2, s.c3, s.c4, s.c5]
/-- What the walk reads. -/
def Reads (W : World) (ad0 : Addr) (a : Option Addr) (len cap : Nat) (us : Nat → Six) : Prop :=
  W.cell? ad0 = some (.slice a len cap) ∧ ∀ i, i < len → ∃ b o, a = some ⟨b, o, none⟩ ∧ W.cell? ⟨b, o + i * 6, none⟩ = some (us i).c0 ∧ W.cell? ⟨b, o + i * 6 + 1, none⟩ = some (us i).c1 ∧ W.cell? ⟨b, o + i * 6 + 2, none⟩ = some (us i).c2 ∧
    W.cell? ⟨b, o + i * 6 + 3, none⟩ = some (us i).c3 ∧ W.cell? ⟨b, o + i * 6 + 4, none⟩ = some (us i).c4 ∧ W.cell? ⟨b, o + i * 6 + 5, none⟩ = some (us i).c5

set_option maxRecDepth 100000 in
set_option maxHeartbeats 2000000 in
theorem back_in (n : Nat) (l : Nat) (ad0 : Addr) (a : Option Addr) (len cap : Nat) (us : Nat → Six) (J Jx : List Nat → World → Prop) (Kp : World → World → Prop) (Rd : World → Prop) (hrd : ∀ W, Rd W → Reads W ad0 a len cap us) (hl : len ≤ 4611686018427387904)
    (hk : ∀ W W', Kp W W' → Rd W → Rd W')
    (hY : ∀ pre (x : Nat) W, x < len → J pre W → pre.length < len → YieldAt Fence.wide (n - 1) Try.prog l #[.int .i64 (x : Int), (us x).v] W fun e W' =>
      (e = .returned (.bool true) ∧ J (pre ++ [x]) W' ∧ Kp W W') ∨ (e = .returned (.bool false) ∧ Jx (pre ++ [x]) W'))
    (W : World) (hR : Rd W) (h0 : J [] W) :
    CallsIn Fence.wide n Try.prog 113 #[.func (.yield l) #[] #[], .pointer (some ad0)] W fun e W' => (∃ v, e = .returned v) ∧
      ((∃ ys, ys = down len len ∧ J ys W') ∨ (∃ pre, (∃ k, k ≤ len ∧ pre = down len k) ∧ Jx pre W')) := by
  have hRd := hR
  obtain ⟨hr0, hr1⟩ := hrd _ hR
  clear hR
  refine callsIn_of_wp Try.func113 rfl trivial ?_ rfl
  simp only [Try.ntmps113, List.size_toArray, List.length_cons, List.length_nil, Nat.reduceAdd, Nat.reduceSub, Array.replicate_succ, Array.replicate_zero, List.push_toArray, List.append_toArray, List.nil_append, List.cons_append]
  gi_wp2
  gi_loopw [3] (fun i wr => ∃ k : Nat, k ≤ len ∧ i = .int .i64 ((len : Int) - 1 - k) ∧ J (down len k) wr ∧ Rd wr)
    (fun i _ => (intOf i + 1).toNat)
  case atStart =>
    refine ⟨0, Nat.zero_le _, ?_, h0, hRd⟩
    simp
  case round =>
    obtain ⟨k, hk', rfl, hJs, hnx⟩ := hrel
    by_cases hlt : k < len
    · have hnx2 := hnx
      obtain ⟨hx0, hx1⟩ := hrd _ hnx
      obtain ⟨b, o, rfl, d0, d1, d2, d3, d4, d5⟩ := hx1 (len - 1 - k) (by omega)
      obtain ⟨fn, tmps, assign, body, hy, hR⟩ := hY _ (len - 1 - k) wr (by omega) hJs (by rw [down_length]; exact hlt)
      have hcast : ((len - 1 - k : Nat) : Int) = (len : Int) - 1 - k := by omega
      have htn : ((len : Int) - 1 - k).toNat = len - 1 - k := by omega
      have hge : (k : Int) ≤ (len : Int) - 1 := by omega
      have hlt2 : (len : Int) - 1 - k < len := by omega
      rw [hcast] at hy
      unfold Six.v at hy
      gi_wp2
      refine ⟨(fun h => by cases h), ?_⟩
      refine hR.mono ?_
      rintro e W3 (⟨rfl, hJ3, hk3⟩ | ⟨rfl, hJx3⟩)
      · gi_wp2
        go_roundw
        case rel => exact ⟨k + 1, by omega, by simp; omega, by rw [down_succ]; exact hJ3, hk _ _ hk3 hnx2⟩
        case measure => simp [intOf]; omega
      · gi_wp2
        refine bodyPost_ret (results_none rfl _ _ _) rfl ?_
        exact ⟨⟨_, rfl⟩, .inr ⟨_, ⟨k + 1, by omega, (down_succ _ _).symm⟩, hJx3⟩⟩
    · obtain rfl : k = len := by omega
      have hneg : ¬ (0 ≤ (k : Int) - 1 - k) := by omega
      gi_wp2
      go_end0
      exact ⟨⟨_, rfl⟩, .inl hJs⟩
end Go.Proofs.Ytfggemopnlffeaa
