/- The reference's projects as trees of values. -/
import Derived.Test.YtianekkfehoedaaGreatDoorKB
namespace Go.Proofs.YtianekkfehoedaaGreatDoor
set_option linter.unusedSimpArgs false
set_option linter.unusedVariables false
set_option linter.unnecessarySimpa false
open Go.RowKit
theorem clip_rev (un : List (List En)) (l : List En) : (clipE (un ++ [l])).reverse = l :: un.reverse.take 255 := by
  unfold clipE
  rw [List.reverse_drop, List.reverse_append, List.length_append, List.length_cons, List.length_nil]
  have h : un.length + (0 + 1) - (un.length + (0 + 1) - 256) = (min un.length 255) + 1 := by omega
  have h2 : un.reverse.take (min un.length 255) = un.reverse.take 255 := by
    rcases Nat.le_total un.length 255 with h3 | h3
    · rw [Nat.min_eq_left h3, List.take_of_length_le (by simp), List.take_of_length_le (by simpa using h3)]
    · rw [Nat.min_eq_right h3]
  rw [h, List.reverse_cons, List.reverse_nil, List.nil_append, List.singleton_append, List.take_succ_cons, h2]
/-- What the reference says of an entry on its own. -/
def valR (e : En) : Int := if vkeyB e = false then 2 else if vtextB e = false then 3 else 0
theorem eErr_valR (l : List En) (e : En) : eErr l e = if valR e ≠ 0 then valR e else if takenB l e = true then 8 else if hasE l e = false ∧ 1024 ≤ l.length then 6 else 0 := by
  unfold eErr valR
  by_cases h1 : vkeyB e = false
  · simp [h1]
  · by_cases h2 : vtextB e = false
    · simp [h1, h2]
    · simp [h1, h2]
end Go.Proofs.YtianekkfehoedaaGreatDoor
