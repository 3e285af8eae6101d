/- Plain mathematics: the least upper bound of two types. No program in sight. Plain mathematics: the order of types; Join of good types is good; Meet. No program in sight. Plain mathematics: Join of good types is good; Meet is the greatest lower bound. No program in sight. Plain mathematics: Meet is the greatest lower bound. No program in sight. Plain mathematics: Meet is the greatest lower bound; the algebra of types. No program in sight. Plain mathematics: which types are small. No program in sight. Plain mathematics: what the program's merge computes. No program in sight. -/
import Derived.Test.YtianekkfehoedaaGreatDoorPm
namespace Go.Proofs.YtianekkfehoedaaGreatDoor
set_option linter.unusedSimpArgs false
set_option linter.unusedVariables false
set_option linter.unnecessarySimpa false
def Asc (fs : List Ty) : Prop := (fs.map Ty.off).Pairwise (· < ·) ∧ ∀ x ∈ fs, 0 ≤ x.off ∧ x.off < 65536
inductive Kd where
  | unk | any | num (k s : Int) | ptr (e : Ty) | arr (c : Int) (e : Ty) | str (fs : List Ty)
def Kd.ok : Kd → Prop
  | .unk => True
  | .any => True
  | .num k s => (k = 1 ∨ k = 2) ∧ (s = 1 ∨ s = 2 ∨ s = 4)
  | .ptr e => frm e = true
  | .arr c e => 1 ≤ c ∧ c ≤ 65536 ∧ frm e = true
  | .str fs => Asc fs ∧ ∀ x ∈ fs, frm x = true
structure Lub (a b j : Ty) : Prop where
  frm : frm j = true
  left : subT a j = true
  right : subT b j = true
  least : ∀ c, Go.Proofs.YtianekkfehoedaaGreatDoor.frm c = true → subT a c = true → subT b c = true → subT j c = true
end Go.Proofs.YtianekkfehoedaaGreatDoor
namespace Go.Proofs.YtianekkfehoedaaGreatDoor
set_option linter.unusedSimpArgs false
set_option linter.unusedVariables false
set_option linter.unnecessarySimpa false
structure Alike (a b : Ty) : Prop where
  shal : ∀ n, Go.Proofs.YtianekkfehoedaaGreatDoor.shal a n = Go.Proofs.YtianekkfehoedaaGreatDoor.shal b n
  siz : Go.Proofs.YtianekkfehoedaaGreatDoor.siz a = Go.Proofs.YtianekkfehoedaaGreatDoor.siz b
  frm : Go.Proofs.YtianekkfehoedaaGreatDoor.frm a = Go.Proofs.YtianekkfehoedaaGreatDoor.frm b
  wit : Go.Proofs.YtianekkfehoedaaGreatDoor.wit a = Go.Proofs.YtianekkfehoedaaGreatDoor.wit b
  symm : samT b a = true
end Go.Proofs.YtianekkfehoedaaGreatDoor
namespace Go.Proofs.YtianekkfehoedaaGreatDoor
set_option linter.unusedSimpArgs false
set_option linter.unusedVariables false
set_option linter.unnecessarySimpa false
/-- What a type made out of two others keeps. -/
structure Keep (a b j : Ty) : Prop where
  shal : ∀ n, Go.Proofs.YtianekkfehoedaaGreatDoor.shal a n = true → Go.Proofs.YtianekkfehoedaaGreatDoor.shal b n = true → Go.Proofs.YtianekkfehoedaaGreatDoor.shal j n = true
  siz : Go.Proofs.YtianekkfehoedaaGreatDoor.siz j ≤ max (Go.Proofs.YtianekkfehoedaaGreatDoor.siz a) (Go.Proofs.YtianekkfehoedaaGreatDoor.siz b)
  wit : Go.Proofs.YtianekkfehoedaaGreatDoor.wit a = true → Go.Proofs.YtianekkfehoedaaGreatDoor.wit b = true → Go.Proofs.YtianekkfehoedaaGreatDoor.wit j = true
end Go.Proofs.YtianekkfehoedaaGreatDoor
namespace Go.Proofs.YtianekkfehoedaaGreatDoor
set_option linter.unusedSimpArgs false
set_option linter.unusedVariables false
set_option linter.unnecessarySimpa false
end Go.Proofs.YtianekkfehoedaaGreatDoor
namespace Go.Proofs.YtianekkfehoedaaGreatDoor
set_option linter.unusedSimpArgs false
set_option linter.unusedVariables false
set_option linter.unnecessarySimpa false
structure Glb (a b m : Ty) : Prop where
  frm : frm m = true
  left : subT m a = true
  right : subT m b = true
  most : ∀ c, Go.Proofs.YtianekkfehoedaaGreatDoor.frm c = true → subT c a = true → subT c b = true → subT c m = true
end Go.Proofs.YtianekkfehoedaaGreatDoor
namespace Go.Proofs.YtianekkfehoedaaGreatDoor
set_option linter.unusedSimpArgs false
set_option linter.unusedVariables false
set_option linter.unnecessarySimpa false
end Go.Proofs.YtianekkfehoedaaGreatDoor
namespace Go.Proofs.YtianekkfehoedaaGreatDoor
set_option linter.unusedSimpArgs false
set_option linter.unusedVariables false
set_option linter.unnecessarySimpa false
def lone (k : Bool) (x : Ty) : List Ty := if k then [x] else []
def cmpI (a b : Int) : Int := if a < b then -1 else if b < a then 1 else 0
end Go.Proofs.YtianekkfehoedaaGreatDoor
