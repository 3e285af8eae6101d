import Derived.Lib.Repeat
import Derived.Lib.ItoaNum
import Derived.Test.YtmbmmckagcdapaaGreatDoorJ10
import Derived.Test.YtmbmmckagcdapaaGreatDoorJ06
set_option linter.unusedSimpArgs false
set_option linter.unusedVariables false
set_option linter.unnecessarySimpa false
namespace Go.Proofs.YtmbmmckagcdapaaGreatDoor
def nE (k : Int) : Int := if k == 1 || k == 4 || k == 6 || k == 7 || k == 9 then 1 else if k == 2 then 2 else 0
def nmd (k : Int) : Bool := k == 1 || k == 3 || k == 5 || k == 12 || k == 13
def lst (k : Int) : Bool := k == 6 || k == 7 || k == 8
def stT (s : Nd) : Bool := decide (1 ≤ s.kind) && decide (s.kind ≤ 15) && decide ((s.e.length : Int) = nE s.kind) && (if nmd s.kind then nameT s.name else eqS s.name ByteArray.empty) && (lst s.kind || decide (s.l.length = 0)) && (s.kind == 6 || decide (s.el.length = 0)) &&
  (if s.kind == 2 then s.width == 1 || s.width == 2 || s.width == 4 else s.width == 0) && (if s.kind == 9 then decide (1 ≤ s.cs.length) && decide (s.cs.length ≤ 64) else decide (s.cs.length = 0)) && s.e.all efm
end Go.Proofs.YtmbmmckagcdapaaGreatDoor
