/- The reference's projects as trees of values. -/
import Derived.Test.YtianekkfehoedaaGreatDoorKB
namespace Go.Proofs.YtianekkfehoedaaGreatDoor
set_option linter.unusedSimpArgs false
set_option linter.unusedVariables false
set_option linter.unnecessarySimpa false
open Go.RowKit
/-- What the reference says of an entry on its own. -/
def valR (e : En) : Int := if vkeyB e = false then 2 else if vtextB e = false then 3 else 0
theorem eErr_valR (l : List En) (e : En) : eErr l e = if valR e ≠ 0 then valR e else if takenB l e = true then 8 else if hasE l e = false ∧ 1024 ≤ l.length then 6 else 0 := by
  unfold eErr valR
  by_cases h1 : vkeyB e = false
  · simp [h1]
  · by_cases h2 : vtextB e = false
    · simp [h1, h2]
    · simp [h1, h2]
end Go.Proofs.YtianekkfehoedaaGreatDoor
