/- Entries of a project as trees of values; bytes. Steps of laws as trees of values. -/
import Derived.Test.YtianekkfehoedaaGreatDoorHv
import Derived.Test.YtianekkfehoedaaGreatDoorKA
import Derived.Laws.Strings
namespace Go.Proofs.YtianekkfehoedaaGreatDoor
set_option linter.unusedSimpArgs false
set_option linter.unusedVariables false
set_option linter.unnecessarySimpa false
open Go.RowKit
/-- A byte; bytes. -/
def byB (b : UInt8) : V := .im (.int .u8 b.toNat)
theorem byV_bA (l : Bs) : byV (bA l) = l.map byB := by simp [byV, byB, bA]
theorem bytesOf_map (l : Bs) : bytesOf (l.map byB) = some l := by
  induction l with
  | nil => rfl
  | cons c l ih =>
    have hc := c.toNat_lt
    simp only [List.map_cons, byB, bytesOf]
    rw [if_pos ⟨by omega, by omega⟩, show bytesOf (List.map byB l) = some l from ih]
    simp
theorem byB_live (b : UInt8) : (byB b).live = true := rfl
theorem byB_size (b : UInt8) : (byB b).size = 1 := rfl
theorem byB_isAg (b : UInt8) : (byB b).isAg = false := rfl
theorem byB_cells (b : UInt8) : (byB b).cells = [.im (.int .u8 b.toNat)] := rfl
theorem byB_firm (b : UInt8) : (byB b).firm = true := rfl
theorem byB_strip (g : Bool) (b : UInt8) : strip g (byB b) = byB b := rfl
theorem byB_eq (b : UInt8) : byB b = .im (.int .u8 b.toNat) := rfl
theorem byL_id (p : Nat → Bool) (l : Bs) : V.idsL p (l.map byB) = true := idsL_map (fun _ => rfl) l
theorem byL_ren (g : Nat → Nat) (l : Bs) : V.renL g (l.map byB) = l.map byB := V.renL_id g _ (byL_id _ l)
theorem byL_all (l : Bs) : allZ 1 (l.map byB) = true := by
  unfold allZ
  rw [List.all_map]
  exact List.all_eq_true.2 fun x _ => rfl
theorem byL_allS (l : Bs) : allS 1 (l.map byB) = true := by
  unfold allS
  rw [List.all_map]
  exact List.all_eq_true.2 fun x _ => rfl
theorem bA_get47 (l : Bs) (i : Nat) : (bA l)[i]? = l[i]? := by
  simp only [bA, getElem?_def, ByteArray.size, List.size_toArray]
  split
  · simp [ByteArray.getElem_eq_getElem_data]
  · rfl
theorem bA_mk (l : Bs) : ByteArray.mk l.toArray = bA l := rfl
/-- An entry; entries. -/
def enV (e : En) : V := .ag [.im (.int .i64 e.kind), .im (.int .i64 e.var), .im (.int .u32 e.addr), .im (.string (bA e.text))]
theorem enV_eq (e : En) : enV e = .ag [.im (.int .i64 e.kind), .im (.int .i64 e.var), .im (.int .u32 e.addr), .im (.string (bA e.text))] := rfl
theorem enV_live (v : En) : (enV v).live = true := rfl
theorem enV_size (v : En) : (enV v).size = 4 := rfl
theorem enV_isAg (v : En) : (enV v).isAg = true := rfl
theorem enV_firm (v : En) : (enV v).firm = true := rfl
theorem enV_strip (g : Bool) (v : En) : strip g (enV v) = enV v := rfl
theorem enV_cells (e : En) : (enV e).cells = [.im (.int .i64 e.kind), .im (.int .i64 e.var), .im (.int .u32 e.addr), .im (.string (bA e.text))] := rfl
theorem enV_id (p : Nat → Bool) (v : En) : (enV v).ids p = true := rfl
theorem enL_id (p : Nat → Bool) (l : List En) : V.idsL p (l.map enV) = true := idsL_map (enV_id p) l
theorem enV_ren (g : Nat → Nat) (t : En) : V.ren g (enV t) = enV t := V.ren_id g _ (enV_id _ t)
theorem enL_ren (g : Nat → Nat) (l : List En) : V.renL g (l.map enV) = l.map enV := V.renL_id g _ (enL_id _ l)
theorem enL_all (l : List En) : allZ 4 (l.map enV) = true := by
  unfold allZ
  rw [List.all_map]
  exact List.all_eq_true.2 fun x _ => rfl
/-- Lists of entries; lists of these. -/
def lsV (l : List En) : V := .sl (l.map enV) .ro
theorem lsV_live (v : List En) : (lsV v).live = true := rfl
theorem lsV_size (v : List En) : (lsV v).size = 1 := rfl
theorem lsV_isAg (v : List En) : (lsV v).isAg = false := rfl
theorem lsV_firm (v : List En) : (lsV v).firm = true := rfl
theorem lsV_strip (g : Bool) (v : List En) : strip g (lsV v) = lsV v := rfl
theorem lsV_cells (v : List En) : (lsV v).cells = [.sl (v.map enV) .ro] := rfl
theorem lsV_id (p : Nat → Bool) (v : List En) : (lsV v).ids p = true := by
  show (V.sl _ _).ids p = true
  simp [V.ids, enL_id]
theorem lsL_id (p : Nat → Bool) (l : List (List En)) : V.idsL p (l.map lsV) = true := idsL_map (lsV_id p) l
theorem lsV_ren (g : Nat → Nat) (t : List En) : V.ren g (lsV t) = lsV t := V.ren_id g _ (lsV_id _ t)
theorem lsL_ren (g : Nat → Nat) (l : List (List En)) : V.renL g (l.map lsV) = l.map lsV := V.renL_id g _ (lsL_id _ l)
theorem lsL_allS (l : List (List En)) : allS 1 (l.map lsV) = true := by
  unfold allS
  rw [List.all_map]
  exact List.all_eq_true.2 fun x _ => rfl
theorem ENT : type_of% (And.intro @enV_firm (And.intro @enV_strip (And.intro @enV_live (And.intro @enV_size (And.intro @enV_isAg (And.intro @enV_cells (And.intro @List.getElem?_map.{0, 0} (And.intro @List.length_map.{0, 0} @Int.natCast_nonneg)))))))) := And.intro @enV_firm (And.intro @enV_strip (And.intro @enV_live (And.intro @enV_size (And.intro @enV_isAg (And.intro @enV_cells (And.intro @List.getElem?_map.{0, 0} (And.intro @List.length_map.{0, 0} @Int.natCast_nonneg)))))))
theorem LST : type_of% (And.intro @lsV_firm (And.intro @lsV_strip (And.intro @lsV_live (And.intro @lsV_size (And.intro @lsV_isAg (And.intro @lsV_cells (And.intro @enV_firm (And.intro @enV_strip (And.intro @enV_live (And.intro @enV_size (And.intro @enV_isAg (And.intro @enV_cells (And.intro @List.getElem?_map.{0, 0} (And.intro @List.length_map.{0, 0} @Int.natCast_nonneg)))))))))))))) := And.intro @lsV_firm (And.intro @lsV_strip (And.intro @lsV_live (And.intro @lsV_size (And.intro @lsV_isAg (And.intro @lsV_cells (And.intro @enV_firm (And.intro @enV_strip (And.intro @enV_live (And.intro @enV_size (And.intro @enV_isAg (And.intro @enV_cells (And.intro @List.getElem?_map.{0, 0} (And.intro @List.length_map.{0, 0} @Int.natCast_nonneg)))))))))))))
theorem BAT : type_of% (And.intro @bA_size (And.intro @bA_get47 (And.intro @bytesOf_map (And.intro @byV_bA (And.intro @byB_live (And.intro @byB_size (And.intro @byB_isAg (And.intro @byB_cells (And.intro @byB_firm (And.intro @byB_strip (And.intro @List.getElem?_map.{0, 0} (And.intro @List.length_map.{0, 0} @Int.natCast_nonneg)))))))))))) := And.intro @bA_size (And.intro @bA_get47 (And.intro @bytesOf_map (And.intro @byV_bA (And.intro @byB_live (And.intro @byB_size (And.intro @byB_isAg (And.intro @byB_cells (And.intro @byB_firm (And.intro @byB_strip (And.intro @List.getElem?_map.{0, 0} (And.intro @List.length_map.{0, 0} @Int.natCast_nonneg)))))))))))
theorem GDS : type_of% (And.intro (@Option.getD_none.{0}) (And.intro (@Option.getD_some.{0}) (And.intro Int.toNat_natCast (And.intro Int.toNat_zero (And.intro Nat.sub_zero (And.intro (@List.drop_zero.{0}) (And.intro Int.natCast_nonneg Int.le_refl))))))) := And.intro (@Option.getD_none.{0}) (And.intro (@Option.getD_some.{0}) (And.intro Int.toNat_natCast (And.intro Int.toNat_zero (And.intro Nat.sub_zero (And.intro (@List.drop_zero.{0}) (And.intro Int.natCast_nonneg Int.le_refl))))))
end Go.Proofs.YtianekkfehoedaaGreatDoor
namespace Go.Proofs.YtianekkfehoedaaGreatDoor
set_option linter.unusedSimpArgs false
set_option linter.unusedVariables false
set_option linter.unnecessarySimpa false
open Go.RowKit
def spV (s : Sp) : V := .ag [.im (.int .i64 s.kind), .im (.int .i64 s.e.kind), .im (.int .i64 s.e.var), .im (.int .u32 s.e.addr), .im (.string (bA s.e.text)), .sl (s.l.map enV) .ro]
theorem spV_id (p : Nat → Bool) (s : Sp) : (spV s).ids p = true := by
  show (V.ag _).ids p = true
  simp [V.ids, V.idsL, enL_id]
theorem spL_id (p : Nat → Bool) (l : List Sp) : V.idsL p (l.map spV) = true := idsL_map (spV_id p) l
theorem spV_ren (g : Nat → Nat) (t : Sp) : V.ren g (spV t) = spV t := V.ren_id g _ (spV_id _ t)
theorem spL_ren (g : Nat → Nat) (l : List Sp) : V.renL g (l.map spV) = l.map spV := V.renL_id g _ (spL_id _ l)
end Go.Proofs.YtianekkfehoedaaGreatDoor
