/- The contract of strings.Contains at this program: the plain text of the shelf. Texts and tokens as trees of values. Library: contracts of the shelf, said on trees. -/
import Derived.Shelf.Strings.Search1
import Derived.Shelf.Strings.Search2
import Derived.Shelf.Strings.Search3
import Derived.Shelf.LaysM
import Derived.Shelf.Strings.Shaped
import Derived.Test.YtlbfgnpadggbgaaGreatDoorLb
import Derived.KernelRfl
import Derived.Test.YtlbfgnpadggbgaaGreatDoorProg
import Derived.Test.YtlbfgnpadggbgaaGreatDoorHv
import Derived.Test.YtlbfgnpadggbgaaGreatDoorTc
import Derived.Laws.Strings
namespace Go.Proofs
open Go.Shelf
def Tryz.laysM144_ren : Go.Shelf.Ren := ⟨fun | 144 => 58 | 143 => 77 | 219 => 92 | 217 => 104 | 225 => 105 | 224 => 106 | 267 => 107 | 266 => 114 | 314 => 115 | n => n, fun | 9 => 9 | 4 => 4 | 3 => 3 | 5 => 5 | 46 => 125 | 146 => 154 | 51 => 22 | n => n, fun | 1 => 2 | n => n⟩
theorem Tryz.laysM144 : Go.Proofs.LaysM.n144 Tryz.prog Tryz.laysM144_ren := {
  mixed := by kernel_rfl
  f143 := Tryz.func77.trans (congrArg some (by kernel_rfl))
  f144 := Tryz.func58.trans (congrArg some (by kernel_rfl))
  f217 := Tryz.func104.trans (congrArg some (by kernel_rfl))
  f219 := Tryz.func92.trans (congrArg some (by kernel_rfl))
  f224 := Tryz.func106.trans (congrArg some (by kernel_rfl))
  f225 := Tryz.func105.trans (congrArg some (by kernel_rfl))
  f266 := Tryz.func114.trans (congrArg some (by kernel_rfl))
  f267 := Tryz.func107.trans (congrArg some (by kernel_rfl))
  f314 := Tryz.func115.trans (congrArg some (by kernel_rfl))
  t3 := Tryz.underlying3
  a3 := Tryz.isAgg3
  z3 := Tryz.sizeOf3
  v3 := Tryz.zeroValue3
  t4 := Tryz.underlying4
  a4 := Tryz.isAgg4
  z4 := Tryz.sizeOf4
  v4 := Tryz.zeroValue4
  t5 := Tryz.underlying5
  a5 := Tryz.isAgg5
  z5 := Tryz.sizeOf5
  v5 := Tryz.zeroValue5
  t9 := Tryz.underlying9
  a9 := Tryz.isAgg9
  z9 := Tryz.sizeOf9
  v9 := Tryz.zeroValue9
  t46 := Tryz.underlying125
  a46 := Tryz.isAgg125
  z46 := Tryz.sizeOf125
  v46 := Tryz.zeroValue125
  t51 := Tryz.underlying22
  a51 := Tryz.isAgg22
  z51 := Tryz.sizeOf22
  v51 := Tryz.zeroValue22
  t146 := Tryz.underlying154
  a146 := Tryz.isAgg154
  z146 := Tryz.sizeOf154
  v146 := Tryz.zeroValue154
  g1 := by kernel_rfl
  i3 := by kernel_rfl
  i4 := by kernel_rfl
  i5 := by kernel_rfl
  i9 := by kernel_rfl
  i46 := by kernel_rfl
  i51 := by kernel_rfl
  i146 := by kernel_rfl
  m1 := by kernel_rfl
  s1_3 := fun w h => Go.Proofs.cell_of_shapedOpen_int (zero := #[.int .i64 0]) (t := 3) h (of_decide_eq_true (by kernel_rfl)) (by kernel_rfl) rfl (by kernel_rfl) (by kernel_rfl) Tryz.underlying3 }
open Go.RowKit Go.Lib in
theorem Tryz.strings_Contains_shaped (s sub : ByteArray) (w : World) (h : w.ShapedOpen Tryz.prog) (hs : s.size < 4294967281) :
    Calls Tryz.prog 58 #[.string s, .string sub] w fun e w' => e = .returned (.bool (Lib.contains s.data.toList sub.data.toList)) ∧ w' = w := Any.strings_Contains_shaped Tryz.laysM144 s sub w h hs
end Go.Proofs
namespace Go.Proofs.YtlbfgnpadggbgaaGreatDoor
set_option linter.unusedSimpArgs false
set_option linter.unusedVariables false
set_option linter.unnecessarySimpa false
open Go.RowKit Go.Shelf
theorem c_contains (s sub : ByteArray) (hs : s.size < 4294967281) : PC Tryz.prog 58 [.im (.string s), .im (.string sub)] (.im (.bool (Lib.contains s.data.toList sub.data.toList))) := by
  refine ⟨by kernel_rfl, fun C vs hst hC hsz hR => ?_⟩
  obtain ⟨_, hm, m, rfl⟩ := hC.gl.1 (⟨2, 0, none⟩, fun v => ∃ m : Int, v = .int .i64 m) (by simp [glL])
  have hm := hm.1
  have h2 : vs.size = 2 := hsz
  have e0 : vs.getD 0 undef = .string s := (hR 0 (by simp)).im_eq
  have e1 : vs.getD 1 undef = .string sub := (hR 1 (by simp)).im_eq
  have e : vs = #[.string s, .string sub] := by
    refine Array.ext h2 fun i h3 h4 => ?_
    have h5 : i < 2 := h4
    rcases (show i = 0 ∨ i = 1 by omega) with rfl | rfl
    · simpa [Array.getD, h2] using e0
    · simpa [Array.getD, h2] using e1
  rw [e]
  refine (Any.strings_Contains { Tryz.laysM144 with } s sub m C.w hs hm).mono ?_
  rintro e w' ⟨rfl, rfl⟩
  exact ⟨_, _, stF, rfl, ⟨rfl, rfl⟩, C, rfl, hst, hC, Ev.refl C, .im rfl⟩
end Go.Proofs.YtlbfgnpadggbgaaGreatDoor
namespace Go.Proofs.YtlbfgnpadggbgaaGreatDoor
set_option linter.unusedSimpArgs false
set_option linter.unusedVariables false
set_option linter.unnecessarySimpa false
open Go.RowKit
/-- A text. -/
abbrev bS (l : Bs) : ByteArray := ⟨l.toArray⟩
theorem bS_size (l : Bs) : (ByteArray.mk l.toArray).size = l.length := by simp [ByteArray.size]
theorem bS_toList (l : Bs) : (ByteArray.mk l.toArray).toList = l := by rw [ByteArray.toList_eq]
theorem bS_eta (s : ByteArray) : bS s.data.toList = s := by cases s; simp [bS]
theorem bS_get (l : Bs) (i : Nat) : (ByteArray.mk l.toArray)[i]? = l[i]? := by
  simp only [getElem?_def, ByteArray.size, List.size_toArray]
  split
  · simp [ByteArray.getElem_eq_getElem_data]
  · rfl
theorem bS_append (a b : Bs) : ByteArray.mk a.toArray ++ ByteArray.mk b.toArray = ByteArray.mk (a ++ b).toArray := by
  apply ByteArray.ext
  simp [ByteArray.data_append]
theorem bS_extract (l : Bs) (i j : Nat) : (ByteArray.mk l.toArray).extract i j = ByteArray.mk ((l.drop i).take (j - i)).toArray := by
  apply ByteArray.ext
  apply Array.toList_inj.1
  simp [ByteArray.data_extract]
/-- A byte; bytes. -/
def byB (b : UInt8) : V := .im (.int .u8 b.toNat)
theorem byV_bS (l : Bs) : byV (ByteArray.mk l.toArray) = l.map byB := by simp [byV, byB]
theorem bytesOf_map (l : Bs) : bytesOf (l.map byB) = some l := by
  induction l with
  | nil => rfl
  | cons c l ih =>
    have hc := c.toNat_lt
    simp only [List.map_cons, byB, bytesOf]
    rw [if_pos ⟨by omega, by omega⟩, show bytesOf (List.map byB l) = some l from ih]
    simp
theorem byB_live (b : UInt8) : (byB b).live = true := rfl
theorem byB_size (b : UInt8) : (byB b).size = 1 := rfl
theorem byB_isAg (b : UInt8) : (byB b).isAg = false := rfl
theorem byB_cells (b : UInt8) : (byB b).cells = [.im (.int .u8 b.toNat)] := rfl
theorem byB_firm (b : UInt8) : (byB b).firm = true := rfl
theorem byB_strip (g : Bool) (b : UInt8) : strip g (byB b) = byB b := rfl
theorem byB_eq (b : UInt8) : byB b = .im (.int .u8 b.toNat) := rfl
theorem byL_id (p : Nat → Bool) (l : Bs) : V.idsL p (l.map byB) = true := idsL_map (fun _ => rfl) l
theorem byL_ren (g : Nat → Nat) (l : Bs) : V.renL g (l.map byB) = l.map byB := V.renL_id g _ (byL_id _ l)
theorem byL_all (l : Bs) : allZ 1 (l.map byB) = true := by
  unfold allZ
  rw [List.all_map]
  exact List.all_eq_true.2 fun x _ => rfl
theorem byL_allS (l : Bs) : allS 1 (l.map byB) = true := by
  unfold allS
  rw [List.all_map]
  exact List.all_eq_true.2 fun x _ => rfl
/-- A token; tokens. -/
def tkV (t : Tk) : V := .ag [.im (.int .i64 t.kind), .im (.string ⟨t.text.toArray⟩), .im (.int .u32 t.n), .im (.int .i64 t.line), .im (.int .i64 t.col)]
theorem tkV_eq (t : Tk) : tkV t = .ag [.im (.int .i64 t.kind), .im (.string ⟨t.text.toArray⟩), .im (.int .u32 t.n), .im (.int .i64 t.line), .im (.int .i64 t.col)] := rfl
theorem tkV_live (v : Tk) : (tkV v).live = true := rfl
theorem tkV_size (v : Tk) : (tkV v).size = 5 := rfl
theorem tkV_isAg (v : Tk) : (tkV v).isAg = true := rfl
theorem tkV_firm (v : Tk) : (tkV v).firm = true := rfl
theorem tkV_strip (g : Bool) (v : Tk) : strip g (tkV v) = tkV v := rfl
theorem tkV_cells (t : Tk) : (tkV t).cells = [.im (.int .i64 t.kind), .im (.string ⟨t.text.toArray⟩), .im (.int .u32 t.n), .im (.int .i64 t.line), .im (.int .i64 t.col)] := rfl
theorem tkV_id (p : Nat → Bool) (v : Tk) : (tkV v).ids p = true := rfl
theorem tkL_id (p : Nat → Bool) (l : List Tk) : V.idsL p (l.map tkV) = true := idsL_map (tkV_id p) l
theorem tkV_ren (g : Nat → Nat) (t : Tk) : V.ren g (tkV t) = tkV t := V.ren_id g _ (tkV_id _ t)
theorem tkL_ren (g : Nat → Nat) (l : List Tk) : V.renL g (l.map tkV) = l.map tkV := V.renL_id g _ (tkL_id _ l)
theorem tkL_all (l : List Tk) : allZ 5 (l.map tkV) = true := by
  unfold allZ
  rw [List.all_map]
  exact List.all_eq_true.2 fun x _ => rfl
theorem BY : type_of% (And.intro @bS_size (And.intro @bS_toList (And.intro @bS_get (And.intro @bS_extract (And.intro @byV_bS (And.intro @bytesOf_map (And.intro @byB_live (And.intro @byB_size (And.intro @byB_isAg (And.intro @byB_cells (And.intro @byB_firm (And.intro @byB_strip (And.intro @List.getElem?_map.{0, 0} (And.intro @List.length_map.{0, 0} @Int.natCast_nonneg)))))))))))))) :=
  And.intro @bS_size (And.intro @bS_toList (And.intro @bS_get (And.intro @bS_extract (And.intro @byV_bS (And.intro @bytesOf_map (And.intro @byB_live (And.intro @byB_size (And.intro @byB_isAg (And.intro @byB_cells (And.intro @byB_firm (And.intro @byB_strip (And.intro @List.getElem?_map.{0, 0} (And.intro @List.length_map.{0, 0} @Int.natCast_nonneg)))))))))))))
theorem TKT : type_of% (And.intro @tkV_firm (And.intro @tkV_strip (And.intro @tkV_live (And.intro @tkV_size (And.intro @tkV_isAg (And.intro @tkV_cells (And.intro @List.getElem?_map.{0, 0} (And.intro @List.length_map.{0, 0} @Int.natCast_nonneg)))))))) :=
  And.intro @tkV_firm (And.intro @tkV_strip (And.intro @tkV_live (And.intro @tkV_size (And.intro @tkV_isAg (And.intro @tkV_cells (And.intro @List.getElem?_map.{0, 0} (And.intro @List.length_map.{0, 0} @Int.natCast_nonneg)))))))
theorem GDS : type_of% (And.intro (@Option.getD_none.{0}) (And.intro (@Option.getD_some.{0}) (And.intro Int.toNat_natCast (And.intro Int.toNat_zero (And.intro Nat.sub_zero (And.intro (@List.drop_zero.{0}) (And.intro Int.natCast_nonneg Int.le_refl))))))) := And.intro (@Option.getD_none.{0}) (And.intro (@Option.getD_some.{0}) (And.intro Int.toNat_natCast (And.intro Int.toNat_zero (And.intro Nat.sub_zero (And.intro (@List.drop_zero.{0}) (And.intro Int.natCast_nonneg Int.le_refl))))))
end Go.Proofs.YtlbfgnpadggbgaaGreatDoor
namespace Go.Proofs.YtlbfgnpadggbgaaGreatDoor
set_option linter.unusedSimpArgs false
set_option linter.unusedVariables false
set_option linter.unnecessarySimpa false
open Go.RowKit Go.Shelf
theorem args_im {C : Cf} {az : List Value} {vs : Array Value} (hs : vs.size = (az.map V.im).length) (hR : ∀ i (hi : i < (az.map V.im).length), R C (az.map V.im)[i] (vs.getD i undef)) : vs = az.toArray := by
  refine Array.ext (by simpa using hs) fun i h1 h2 => ?_
  have h3 : i < az.length := by simpa using h2
  have := (hR i (by simpa using h3))
  simp only [List.getElem_map] at this
  have e := this.im_eq
  simp [Array.getD, h1] at e
  simpa using e
/-- A function that leaves the world as it is. -/
theorem PC.ofIm {P : Program} {f : FuncId} {az : List Value} {v : Value} (hf : goFn P f = true) (hv : v.oneCell' = true) (h : ∀ C : Cf, Ok C → Calls P f az.toArray C.w fun e w' => e = .returned v ∧ w' = C.w) : PC P f (az.map V.im) (.im v) := by
  refine ⟨hf, fun C vs hst hC hsz hR => ?_⟩
  rw [args_im hsz hR]
  refine (h C hC).mono ?_
  rintro e w' ⟨rfl, rfl⟩
  exact ⟨_, _, stF, rfl, ⟨rfl, rfl⟩, C, rfl, hst, hC, Ev.refl C, .im hv⟩
theorem c_indexB (l : Bs) (c : UInt8) : PC Tryz.prog 104 [.im (.string ⟨l.toArray⟩), .im (.int .u8 c.toNat)] (.im (.int .i64 (Lib.indexByte l c))) :=
  PC.ofIm (az := [.string ⟨l.toArray⟩, .int .u8 c.toNat]) (by kernel_rfl) rfl fun C _ => by
    have h := Any.stringslite_IndexByte { Tryz.laysM144 with } ⟨l.toArray⟩ c.toNat C.w
    rw [show ((c.toNat : Int)).toNat.toUInt8 = c by simp] at h
    exact h
theorem c_index1 (l : Bs) (c : UInt8) : PC Tryz.prog 77 [.im (.string ⟨l.toArray⟩), .im (.string ⟨#[c]⟩)] (.im (.int .i64 (Lib.indexByte l c))) :=
  PC.ofIm (az := [.string ⟨l.toArray⟩, .string ⟨#[c]⟩]) (by kernel_rfl) rfl fun C _ => by
    exact Any.strings_Index_one { Tryz.laysM144 with } ⟨l.toArray⟩ c C.w
end Go.Proofs.YtlbfgnpadggbgaaGreatDoor
