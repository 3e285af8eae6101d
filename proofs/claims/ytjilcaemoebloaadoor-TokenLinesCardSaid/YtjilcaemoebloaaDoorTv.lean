/- Texts and tokens as trees of values. -/
import Derived.Test.YtjilcaemoebloaaDoorHv
import Derived.Test.YtjilcaemoebloaaDoorTc
import Derived.Laws.Strings
namespace Go.Proofs.YtjilcaemoebloaaDoor
set_option linter.unusedSimpArgs false
set_option linter.unusedVariables false
set_option linter.unnecessarySimpa false
open Go.RowKit
/-- A text. -/
abbrev bS (l : Bs) : ByteArray := ⟨l.toArray⟩
theorem bS_size (l : Bs) : (ByteArray.mk l.toArray).size = l.length := by simp [ByteArray.size]
theorem bS_toList (l : Bs) : (ByteArray.mk l.toArray).toList = l := by rw [ByteArray.toList_eq]
theorem bS_eta (s : ByteArray) : bS s.data.toList = s := by cases s; simp [bS]
theorem bS_get (l : Bs) (i : Nat) : (ByteArray.mk l.toArray)[i]? = l[i]? := by
  simp only [getElem?_def, ByteArray.size, List.size_toArray]
  split
  · simp [ByteArray.getElem_eq_getElem_data]
  · rfl
theorem bS_append (a b : Bs) : ByteArray.mk a.toArray ++ ByteArray.mk b.toArray = ByteArray.mk (a ++ b).toArray := by
  apply ByteArray.ext
  simp [ByteArray.data_append]
theorem bS_extract (l : Bs) (i j : Nat) : (ByteArray.mk l.toArray).extract i j = ByteArray.mk ((l.drop i).take (j - i)).toArray := by
  apply ByteArray.ext
  apply Array.toList_inj.1
  simp [ByteArray.data_extract]
/-- A byte; bytes. -/
def byB (b : UInt8) : V := .im (.int .u8 b.toNat)
theorem byV_bS (l : Bs) : byV (ByteArray.mk l.toArray) = l.map byB := by simp [byV, byB]
theorem bytesOf_map (l : Bs) : bytesOf (l.map byB) = some l := by
  induction l with
  | nil => rfl
  | cons c l ih =>
    have hc := c.toNat_lt
    simp only [List.map_cons, byB, bytesOf]
    rw [if_pos ⟨by omega, by omega⟩, show bytesOf (List.map byB l) = some l from ih]
    simp
theorem byB_live (b : UInt8) : (byB b).live = true := rfl
theorem byB_size (b : UInt8) : (byB b).size = 1 := rfl
theorem byB_isAg (b : UInt8) : (byB b).isAg = false := rfl
theorem byB_cells (b : UInt8) : (byB b).cells = [.im (.int .u8 b.toNat)] := rfl
theorem byB_firm (b : UInt8) : (byB b).firm = true := rfl
theorem byB_strip (g : Bool) (b : UInt8) : strip g (byB b) = byB b := rfl
theorem byB_eq (b : UInt8) : byB b = .im (.int .u8 b.toNat) := rfl
theorem byL_id (p : Nat → Bool) (l : Bs) : V.idsL p (l.map byB) = true := idsL_map (fun _ => rfl) l
theorem byL_ren (g : Nat → Nat) (l : Bs) : V.renL g (l.map byB) = l.map byB := V.renL_id g _ (byL_id _ l)
theorem byL_all (l : Bs) : allZ 1 (l.map byB) = true := by
  unfold allZ
  rw [List.all_map]
  exact List.all_eq_true.2 fun x _ => rfl
theorem byL_allS (l : Bs) : allS 1 (l.map byB) = true := by
  unfold allS
  rw [List.all_map]
  exact List.all_eq_true.2 fun x _ => rfl
/-- A token; tokens. -/
def tkV (t : Tk) : V := .ag [.im (.int .i64 t.kind), .im (.string ⟨t.text.toArray⟩), .im (.int .u32 t.n), .im (.int .i64 t.line), .im (.int .i64 t.col)]
theorem tkV_eq (t : Tk) : tkV t = .ag [.im (.int .i64 t.kind), .im (.string ⟨t.text.toArray⟩), .im (.int .u32 t.n), .im (.int .i64 t.line), .im (.int .i64 t.col)] := rfl
theorem tkV_live (v : Tk) : (tkV v).live = true := rfl
theorem tkV_size (v : Tk) : (tkV v).size = 5 := rfl
theorem tkV_isAg (v : Tk) : (tkV v).isAg = true := rfl
theorem tkV_firm (v : Tk) : (tkV v).firm = true := rfl
theorem tkV_strip (g : Bool) (v : Tk) : strip g (tkV v) = tkV v := rfl
theorem tkV_cells (t : Tk) : (tkV t).cells = [.im (.int .i64 t.kind), .im (.string ⟨t.text.toArray⟩), .im (.int .u32 t.n), .im (.int .i64 t.line), .im (.int .i64 t.col)] := rfl
theorem tkV_id (p : Nat → Bool) (v : Tk) : (tkV v).ids p = true := rfl
theorem tkL_id (p : Nat → Bool) (l : List Tk) : V.idsL p (l.map tkV) = true := idsL_map (tkV_id p) l
theorem tkV_ren (g : Nat → Nat) (t : Tk) : V.ren g (tkV t) = tkV t := V.ren_id g _ (tkV_id _ t)
theorem tkL_ren (g : Nat → Nat) (l : List Tk) : V.renL g (l.map tkV) = l.map tkV := V.renL_id g _ (tkL_id _ l)
theorem tkL_all (l : List Tk) : allZ 5 (l.map tkV) = true := by
  unfold allZ
  rw [List.all_map]
  exact List.all_eq_true.2 fun x _ => rfl
theorem BY : type_of% (And.intro @bS_size (And.intro @bS_toList (And.intro @bS_get (And.intro @bS_extract (And.intro @byV_bS (And.intro @bytesOf_map (And.intro @byB_live (And.intro @byB_size (And.intro @byB_isAg (And.intro @byB_cells (And.intro @byB_firm (And.intro @byB_strip (And.intro @List.getElem?_map.{0, 0} (And.intro @List.length_map.{0, 0} @Int.natCast_nonneg)))))))))))))) :=
  And.intro @bS_size (And.intro @bS_toList (And.intro @bS_get (And.intro @bS_extract (And.intro @byV_bS (And.intro @bytesOf_map (And.intro @byB_live (And.intro @byB_size (And.intro @byB_isAg (And.intro @byB_cells (And.intro @byB_firm (And.intro @byB_strip (And.intro @List.getElem?_map.{0, 0} (And.intro @List.length_map.{0, 0} @Int.natCast_nonneg)))))))))))))
theorem TKT : type_of% (And.intro @tkV_firm (And.intro @tkV_strip (And.intro @tkV_live (And.intro @tkV_size (And.intro @tkV_isAg (And.intro @tkV_cells (And.intro @List.getElem?_map.{0, 0} (And.intro @List.length_map.{0, 0} @Int.natCast_nonneg)))))))) :=
  And.intro @tkV_firm (And.intro @tkV_strip (And.intro @tkV_live (And.intro @tkV_size (And.intro @tkV_isAg (And.intro @tkV_cells (And.intro @List.getElem?_map.{0, 0} (And.intro @List.length_map.{0, 0} @Int.natCast_nonneg)))))))
theorem GDS : type_of% (And.intro (@Option.getD_none.{0}) (And.intro (@Option.getD_some.{0}) (And.intro Int.toNat_natCast (And.intro Int.toNat_zero (And.intro Nat.sub_zero (And.intro (@List.drop_zero.{0}) (And.intro Int.natCast_nonneg Int.le_refl))))))) := And.intro (@Option.getD_none.{0}) (And.intro (@Option.getD_some.{0}) (And.intro Int.toNat_natCast (And.intro Int.toNat_zero (And.intro Nat.sub_zero (And.intro (@List.drop_zero.{0}) (And.intro Int.natCast_nonneg Int.le_refl))))))
end Go.Proofs.YtjilcaemoebloaaDoor
