import Derived.Test.YtmbmmckagcdapaaGreatDoorV31
set_option linter.all false
namespace Go.Proofs.YtmbmmckagcdapaaGreatDoor
open Go.RowKit
end Go.Proofs.YtmbmmckagcdapaaGreatDoor
