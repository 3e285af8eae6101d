/- Walks: Merge. -/
import Derived.Test.YtianekkfehoedaaGreatDoorHv
import Derived.Test.YtianekkfehoedaaGreatDoorZc
import Derived.Test.YtianekkfehoedaaGreatDoorZg
import Derived.Test.YtianekkfehoedaaGreatDoorKA
namespace Go.Proofs.YtianekkfehoedaaGreatDoor
set_option linter.unusedSimpArgs false
set_option linter.unusedVariables false
set_option linter.unnecessarySimpa false
open Go.RowKit
end Go.Proofs.YtianekkfehoedaaGreatDoor
