import Derived.Laws.Strings
import Derived.Test.YtmbmmckagcdapaaGreatDoorJ11
import Derived.Test.YtmbmmckagcdapaaGreatDoorJ05
set_option linter.unusedSimpArgs false
set_option linter.unusedVariables false
set_option linter.unnecessarySimpa false
namespace Go.Proofs.YtmbmmckagcdapaaGreatDoor
open Go.RowKit
theorem bS_size (l : Bs) : (ByteArray.mk l.toArray).size = l.length := by simp [ByteArray.size]
theorem bS_toList (l : Bs) : (ByteArray.mk l.toArray).toList = l := by rw [ByteArray.toList_eq]
theorem bS_get (l : Bs) (i : Nat) : (ByteArray.mk l.toArray)[i]? = l[i]? := by
  simp only [getElem?_def, ByteArray.size, List.size_toArray]
  split
  · simp [ByteArray.getElem_eq_getElem_data]
  · rfl
theorem bS_append (a b : Bs) : ByteArray.mk a.toArray ++ ByteArray.mk b.toArray = ByteArray.mk (a ++ b).toArray := by
  apply ByteArray.ext
  simp [ByteArray.data_append]
theorem bS_extract (l : Bs) (i j : Nat) : (ByteArray.mk l.toArray).extract i j = ByteArray.mk ((l.drop i).take (j - i)).toArray := by
  apply ByteArray.ext
  apply Array.toList_inj.1
  simp [ByteArray.data_extract]
def byB (b : UInt8) : V := .im (.int .u8 b.toNat)
theorem byV_bS (l : Bs) : byV (ByteArray.mk l.toArray) = l.map byB := by simp [byV, byB]
theorem bytesOf_map (l : Bs) : bytesOf (l.map byB) = some l := by
  induction l with
  | nil => rfl
  | cons c l ih =>
    have hc := c.toNat_lt; simp only [List.map_cons, byB, bytesOf]; rw [if_pos ⟨by omega, by omega⟩, show bytesOf (List.map byB l) = some l from ih]
    simp
theorem byB_live (b : UInt8) : (byB b).live = true := rfl
theorem byB_size (b : UInt8) : (byB b).size = 1 := rfl
theorem byB_isAg (b : UInt8) : (byB b).isAg = false := rfl
theorem byB_cells (b : UInt8) : (byB b).cells = [.im (.int .u8 b.toNat)] := rfl
theorem byB_firm (b : UInt8) : (byB b).firm = true := rfl
theorem byB_strip (g : Bool) (b : UInt8) : strip g (byB b) = byB b := rfl
theorem byL_id (p : Nat → Bool) (l : Bs) : V.idsL p (l.map byB) = true := idsL_map (fun _ => rfl) l
theorem byL_ren (g : Nat → Nat) (l : Bs) : V.renL g (l.map byB) = l.map byB := V.renL_id g _ (byL_id _ l)
def tkV (t : Tk) : V := .ag [.im (.int .i64 t.kind), .im (.string ⟨t.text.toArray⟩), .im (.int .u32 t.n), .im (.int .i64 t.line), .im (.int .i64 t.col)]
theorem tkV_live (v : Tk) : (tkV v).live = true := rfl
theorem tkV_size (v : Tk) : (tkV v).size = 5 := rfl
theorem tkV_isAg (v : Tk) : (tkV v).isAg = true := rfl
theorem tkV_firm (v : Tk) : (tkV v).firm = true := rfl
theorem tkV_strip (g : Bool) (v : Tk) : strip g (tkV v) = tkV v := rfl
theorem tkV_cells (t : Tk) : (tkV t).cells = [.im (.int .i64 t.kind), .im (.string ⟨t.text.toArray⟩), .im (.int .u32 t.n), .im (.int .i64 t.line), .im (.int .i64 t.col)] := rfl
theorem tkV_id (p : Nat → Bool) (v : Tk) : (tkV v).ids p = true := rfl
theorem tkL_id (p : Nat → Bool) (l : List Tk) : V.idsL p (l.map tkV) = true := idsL_map (tkV_id p) l
theorem tkV_ren (g : Nat → Nat) (t : Tk) : V.ren g (tkV t) = tkV t := V.ren_id g _ (tkV_id _ t)
theorem tkL_ren (g : Nat → Nat) (l : List Tk) : V.renL g (l.map tkV) = l.map tkV := V.renL_id g _ (tkL_id _ l)
theorem BY : type_of% (AI @bS_size (AI @bS_toList (AI @bS_get (AI @bS_extract (AI @byV_bS (AI @bytesOf_map (AI @byB_live (AI @byB_size (AI @byB_isAg (AI @byB_cells (AI @byB_firm (AI @byB_strip (AI @List.getElem?_map.{0, 0} (AI @List.length_map.{0, 0} @Int.natCast_nonneg)))))))))))))) :=
  AI @bS_size (AI @bS_toList (AI @bS_get (AI @bS_extract (AI @byV_bS (AI @bytesOf_map (AI @byB_live (AI @byB_size (AI @byB_isAg (AI @byB_cells (AI @byB_firm (AI @byB_strip (AI @List.getElem?_map.{0, 0} (AI @List.length_map.{0, 0} @Int.natCast_nonneg)))))))))))))
theorem TKT : type_of% (AI @tkV_firm (AI @tkV_strip (AI @tkV_live (AI @tkV_size (AI @tkV_isAg (AI @tkV_cells (AI @List.getElem?_map.{0, 0} (AI @List.length_map.{0, 0} @Int.natCast_nonneg)))))))) :=
  AI @tkV_firm (AI @tkV_strip (AI @tkV_live (AI @tkV_size (AI @tkV_isAg (AI @tkV_cells (AI @List.getElem?_map.{0, 0} (AI @List.length_map.{0, 0} @Int.natCast_nonneg)))))))
theorem GDS : type_of% (AI (@Option.getD_none.{0}) (AI (@Option.getD_some.{0}) (AI Int.toNat_natCast (AI Int.toNat_zero (AI Nat.sub_zero (AI (@List.drop_zero.{0}) (AI Int.natCast_nonneg Int.le_refl))))))) := AI (@Option.getD_none.{0}) (AI (@Option.getD_some.{0}) (AI Int.toNat_natCast (AI Int.toNat_zero (AI Nat.sub_zero (AI (@List.drop_zero.{0}) (AI Int.natCast_nonneg Int.le_refl))))))
end Go.Proofs.YtmbmmckagcdapaaGreatDoor
