/- Plain law: the text of a type. -/
import Derived.Test.YtianekkfehoedaaGreatDoorK2
import Derived.Lib.ItoaNum
namespace Go.Proofs.YtianekkfehoedaaGreatDoor
set_option linter.unusedSimpArgs false
set_option linter.unusedVariables false
set_option linter.unnecessarySimpa false
abbrev Bs := List UInt8
/-- Bytes as a string. -/
def bA (l : Bs) : ByteArray := ⟨l.toArray⟩
theorem bA_size (l : Bs) : (bA l).size = l.length := by
  show l.toArray.size = _
  simp
theorem bA_list (l : Bs) : (bA l).data.toList = l := by simp [bA]
/-- One field: its offset and its type. -/
def pcT (p : Int × Bs) : Bs := Lib.itoa p.1 ++ [58, 32] ++ p.2
/-- The fields of a structure. -/
def fldT (l : List (Int × Bs)) : Bs := match l with
  | [] => []
  | p :: r => pcT p ++ (r.map fun q => [44, 32] ++ pcT q).flatten
def txF (t : Ty) (es fs : List Bs) : Bs :=
  if t.kind = 0 then [63] else if t.kind = 6 then [97, 110, 121] else if t.kind = 1 then [105, 110, 116] ++ Lib.itoa (8 * t.size) else if t.kind = 2 then [117] ++ ([105, 110, 116] ++ Lib.itoa (8 * t.size))
  else if t.kind = 3 then [42] ++ es.headD [] else if t.kind = 4 then ([91] ++ Lib.itoa t.count ++ [93]) ++ es.headD [] else if t.kind = 5 then [123] ++ fldT ((t.fields.map Ty.off).zip fs) ++ [125] else []
/-- The text of a type. -/
def txT : Ty → Bs := Ty.para txF
theorem txT_mk (o k s c : Int) (es fs : List Ty) : txT (.mk o k s c es fs) =
    if k = 0 then [63] else if k = 6 then [97, 110, 121] else if k = 1 then [105, 110, 116] ++ Lib.itoa (8 * s) else if k = 2 then [117] ++ ([105, 110, 116] ++ Lib.itoa (8 * s))
    else if k = 3 then [42] ++ (es.map txT).headD [] else if k = 4 then ([91] ++ Lib.itoa c ++ [93]) ++ (es.map txT).headD [] else if k = 5 then [123] ++ fldT (fs.map fun f => (f.off, txT f)) ++ [125] else [] := by
  have e : txT (.mk o k s c es fs) = txF (.mk o k s c es fs) (es.map txT) (fs.map txT) := Ty.para_mk _ o k s c es fs
  rw [e]
  have hz : (List.map Ty.off fs).zip (List.map txT fs) = fs.map fun f => (f.off, txT f) := List.zip_map' ..
  rw [← hz]
  rfl
theorem txT_at (t : Ty) (o : Int) : txT (t.at_ o) = txT t := by
  obtain ⟨o', k, s, c, es, fs⟩ := t
  show txT (.mk o k s c es fs) = _
  rw [txT_mk, txT_mk]
end Go.Proofs.YtianekkfehoedaaGreatDoor
