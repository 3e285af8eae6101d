/- Plain law: the text of a type. -/
import Derived.Test.YtianekkfehoedaaDoorK2
import Derived.Lib.ItoaNum
namespace Go.Proofs.YtianekkfehoedaaDoor
set_option linter.unusedSimpArgs false
set_option linter.unusedVariables false
set_option linter.unnecessarySimpa false
abbrev Bs := List UInt8
/-- Bytes as a string. -/
def bA (l : Bs) : ByteArray := ⟨l.toArray⟩
theorem bA_app (a b : Bs) : bA a ++ bA b = bA (a ++ b) := by
  apply ByteArray.ext
  simp [bA, ByteArray.data_append]
theorem bA_size (l : Bs) : (bA l).size = l.length := by
  show l.toArray.size = _
  simp
theorem bA_list (l : Bs) : (bA l).data.toList = l := by simp [bA]
theorem bA_of (s : ByteArray) : bA s.data.toList = s := by
  apply ByteArray.ext
  simp [bA]
/-- One field: its offset and its type. -/
def pcT (p : Int × Bs) : Bs := Lib.itoa p.1 ++ [58, 32] ++ p.2
/-- The fields of a structure. -/
def fldT (l : List (Int × Bs)) : Bs := match l with
  | [] => []
  | p :: r => pcT p ++ (r.map fun q => [44, 32] ++ pcT q).flatten
theorem fldT_snoc (l : List (Int × Bs)) (p : Int × Bs) : fldT (l ++ [p]) = fldT l ++ (if l = [] then [] else [44, 32]) ++ pcT p := by
  cases l with
  | nil => simp [fldT]
  | cons q r => simp [fldT]
def txF (t : Ty) (es fs : List Bs) : Bs :=
  if t.kind = 0 then [63] else if t.kind = 6 then [97, 110, 121] else if t.kind = 1 then [105, 110, 116] ++ Lib.itoa (8 * t.size) else if t.kind = 2 then [117] ++ ([105, 110, 116] ++ Lib.itoa (8 * t.size))
  else if t.kind = 3 then [42] ++ es.headD [] else if t.kind = 4 then ([91] ++ Lib.itoa t.count ++ [93]) ++ es.headD [] else if t.kind = 5 then [123] ++ fldT ((t.fields.map Ty.off).zip fs) ++ [125] else []
/-- The text of a type. -/
def txT : Ty → Bs := Ty.para txF
theorem txT_mk (o k s c : Int) (es fs : List Ty) : txT (.mk o k s c es fs) =
    if k = 0 then [63] else if k = 6 then [97, 110, 121] else if k = 1 then [105, 110, 116] ++ Lib.itoa (8 * s) else if k = 2 then [117] ++ ([105, 110, 116] ++ Lib.itoa (8 * s))
    else if k = 3 then [42] ++ (es.map txT).headD [] else if k = 4 then ([91] ++ Lib.itoa c ++ [93]) ++ (es.map txT).headD [] else if k = 5 then [123] ++ fldT (fs.map fun f => (f.off, txT f)) ++ [125] else [] := by
  have e : txT (.mk o k s c es fs) = txF (.mk o k s c es fs) (es.map txT) (fs.map txT) := Ty.para_mk _ o k s c es fs
  rw [e]
  have hz : (List.map Ty.off fs).zip (List.map txT fs) = fs.map fun f => (f.off, txT f) := List.zip_map' ..
  rw [← hz]
  rfl
theorem txT_at (t : Ty) (o : Int) : txT (t.at_ o) = txT t := by
  obtain ⟨o', k, s, c, es, fs⟩ := t
  show txT (.mk o k s c es fs) = _
  rw [txT_mk, txT_mk]
theorem fldT_take (fs : List Ty) {m : Nat} (h : m < fs.length) : fldT ((fs.take (m + 1)).map fun f => (f.off, txT f)) = fldT ((fs.take m).map fun f => (f.off, txT f)) ++ ((if m = 0 then [] else [44, 32]) ++ (Lib.itoa fs[m].off ++ [58, 32] ++ txT fs[m])) := by
  rw [List.take_succ_eq_append_getElem h, List.map_append, List.map_singleton, fldT_snoc, List.append_assoc]
  congr 2
  have : (List.map (fun f => (f.off, txT f)) (List.take m fs) = []) ↔ m = 0 := by
    rw [List.map_eq_nil_iff, List.take_eq_nil_iff]
    constructor
    · rintro (h1 | h1)
      · exact h1
      · subst h1; simp at h
    · exact .inl
  simp only [this]
theorem fldT_le (fs : List Ty) {m : Nat} (h : m ≤ fs.length) : (fldT ((fs.take m).map fun f => (f.off, txT f))).length ≤ (fldT (fs.map fun f => (f.off, txT f))).length := by
  have H : ∀ (d m : Nat), m + d = fs.length → (fldT ((fs.take m).map fun f => (f.off, txT f))).length ≤ (fldT (fs.map fun f => (f.off, txT f))).length := by
    intro d
    induction d with
    | zero => intro m hm; rw [List.take_of_length_le (by omega)]; exact Nat.le_refl _
    | succ d ih =>
      intro m hm
      refine Nat.le_trans ?_ (ih (m + 1) (by omega))
      rw [fldT_take fs (by omega : m < fs.length), List.length_append]
      omega
  exact H (fs.length - m) m (by omega)
end Go.Proofs.YtianekkfehoedaaDoor
