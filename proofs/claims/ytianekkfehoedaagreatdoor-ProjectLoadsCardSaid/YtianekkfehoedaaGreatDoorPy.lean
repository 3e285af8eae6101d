/- Plain law: the text of a type is read as the type. -/
import Derived.Test.YtianekkfehoedaaGreatDoorKA
import Derived.Test.YtianekkfehoedaaGreatDoorK2
import Derived.Test.YtianekkfehoedaaGreatDoorYg
namespace Go.Proofs.YtianekkfehoedaaGreatDoor
set_option linter.unusedSimpArgs false
set_option linter.unusedVariables false
set_option linter.unnecessarySimpa false
theorem dig_nat {d : Nat} (h : d < 10) : (UInt8.ofNat (48 + d)).toNat = 48 + d := by
  have : (UInt8.ofNat (48 + d)).toNat = (48 + d) % 256 := rfl
  omega
theorem decFrom_snoc : ∀ (l : Bs) (a n d : Nat) (b : UInt8), Lib.decFrom a l = some n → Lib.digitVal b = some d → Lib.decFrom a (l ++ [b]) = some (n * 10 + d)
  | [], a, n, d, b, h, hb => by
    have : a = n := by simpa [Lib.decFrom] using h
    subst this
    simp [Lib.decFrom, hb]
  | x :: l, a, n, d, b, h, hb => by
    rw [List.cons_append]
    unfold Lib.decFrom at h ⊢
    cases hx : Lib.digitVal x with
    | none => rw [hx] at h; cases h
    | some e =>
      rw [hx] at h
      exact decFrom_snoc l _ n d b h hb
/-- What stands behind the first field. -/
def tlT (l : List Ty) : Bs := (l.map fun f => [44, 32] ++ pcT (f.off, txT f)).flatten
theorem fldT_cons (f : Ty) (r : List Ty) : fldT ((f :: r).map fun f => (f.off, txT f)) = pcT (f.off, txT f) ++ tlT r := by
  unfold fldT tlT
  rw [List.map_cons]
  simp only [List.map_map]
  rfl
theorem tlT_cons (f : Ty) (r : List Ty) : tlT (f :: r) = [44, 32] ++ (pcT (f.off, txT f) ++ tlT r) := by
  unfold tlT
  rw [List.map_cons, List.flatten_cons, List.append_assoc]
end Go.Proofs.YtianekkfehoedaaGreatDoor
