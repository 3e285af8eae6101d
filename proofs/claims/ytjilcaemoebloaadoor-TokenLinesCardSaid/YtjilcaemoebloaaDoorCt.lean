/- The contract of strings.Contains at this program: the plain text of the shelf. -/
import Derived.Shelf.Strings.Search1
import Derived.Shelf.Strings.Search2
import Derived.Shelf.Strings.Search3
import Derived.Shelf.LaysM
import Derived.Shelf.Strings.Shaped
import Derived.Test.YtjilcaemoebloaaDoorLb
import Derived.KernelRfl
import Derived.Test.YtjilcaemoebloaaDoorProg
namespace Go.Proofs
open Go.Shelf
def Tryd.laysM144_ren : Go.Shelf.Ren := ⟨fun | 144 => 33 | 143 => 36 | 219 => 54 | 217 => 69 | 225 => 70 | 224 => 71 | 267 => 72 | 266 => 85 | 314 => 86 | n => n, fun | 9 => 9 | 4 => 4 | 3 => 3 | 5 => 5 | 46 => 95 | 146 => 113 | 51 => 28 | n => n, fun | 1 => 0 | n => n⟩
theorem Tryd.laysM144 : Go.Proofs.LaysM.n144 Tryd.prog Tryd.laysM144_ren := {
  mixed := by kernel_rfl
  f143 := Tryd.func36.trans (congrArg some (by kernel_rfl))
  f144 := Tryd.func33.trans (congrArg some (by kernel_rfl))
  f217 := Tryd.func69.trans (congrArg some (by kernel_rfl))
  f219 := Tryd.func54.trans (congrArg some (by kernel_rfl))
  f224 := Tryd.func71.trans (congrArg some (by kernel_rfl))
  f225 := Tryd.func70.trans (congrArg some (by kernel_rfl))
  f266 := Tryd.func85.trans (congrArg some (by kernel_rfl))
  f267 := Tryd.func72.trans (congrArg some (by kernel_rfl))
  f314 := Tryd.func86.trans (congrArg some (by kernel_rfl))
  t3 := Tryd.underlying3
  a3 := Tryd.isAgg3
  z3 := Tryd.sizeOf3
  v3 := Tryd.zeroValue3
  t4 := Tryd.underlying4
  a4 := Tryd.isAgg4
  z4 := Tryd.sizeOf4
  v4 := Tryd.zeroValue4
  t5 := Tryd.underlying5
  a5 := Tryd.isAgg5
  z5 := Tryd.sizeOf5
  v5 := Tryd.zeroValue5
  t9 := Tryd.underlying9
  a9 := Tryd.isAgg9
  z9 := Tryd.sizeOf9
  v9 := Tryd.zeroValue9
  t46 := Tryd.underlying95
  a46 := Tryd.isAgg95
  z46 := Tryd.sizeOf95
  v46 := Tryd.zeroValue95
  t51 := Tryd.underlying28
  a51 := Tryd.isAgg28
  z51 := Tryd.sizeOf28
  v51 := Tryd.zeroValue28
  t146 := Tryd.underlying113
  a146 := Tryd.isAgg113
  z146 := Tryd.sizeOf113
  v146 := Tryd.zeroValue113
  g1 := by kernel_rfl
  i3 := by kernel_rfl
  i4 := by kernel_rfl
  i5 := by kernel_rfl
  i9 := by kernel_rfl
  i46 := by kernel_rfl
  i51 := by kernel_rfl
  i146 := by kernel_rfl
  m1 := by kernel_rfl
  s1_3 := fun w h => Go.Proofs.cell_of_shapedOpen_int (zero := #[.int .i64 0]) (t := 3) h (of_decide_eq_true (by kernel_rfl)) (by kernel_rfl) rfl (by kernel_rfl) (by kernel_rfl) Tryd.underlying3 }
open Go.RowKit Go.Lib in
theorem Tryd.strings_Contains_shaped (s sub : ByteArray) (w : World) (h : w.ShapedOpen Tryd.prog) (hs : s.size < 4294967281) :
    Calls Tryd.prog 33 #[.string s, .string sub] w fun e w' => e = .returned (.bool (Lib.contains s.data.toList sub.data.toList)) ∧ w' = w := Any.strings_Contains_shaped Tryd.laysM144 s sub w h hs
end Go.Proofs
namespace Go.Proofs.YtjilcaemoebloaaDoor
set_option linter.unusedSimpArgs false
set_option linter.unusedVariables false
set_option linter.unnecessarySimpa false
open Go.RowKit Go.Shelf
theorem c_contains (s sub : ByteArray) (hs : s.size < 4294967281) : PC Tryd.prog 33 [.im (.string s), .im (.string sub)] (.im (.bool (Lib.contains s.data.toList sub.data.toList))) := by
  refine ⟨by kernel_rfl, fun C vs hst hC hsz hR => ?_⟩
  obtain ⟨_, hm, m, rfl⟩ := hC.gl.1 (⟨0, 0, none⟩, fun v => ∃ m : Int, v = .int .i64 m) (by simp [glL])
  have hm := hm.1
  have h2 : vs.size = 2 := hsz
  have e0 : vs.getD 0 undef = .string s := (hR 0 (by simp)).im_eq
  have e1 : vs.getD 1 undef = .string sub := (hR 1 (by simp)).im_eq
  have e : vs = #[.string s, .string sub] := by
    refine Array.ext h2 fun i h3 h4 => ?_
    have h5 : i < 2 := h4
    rcases (show i = 0 ∨ i = 1 by omega) with rfl | rfl
    · simpa [Array.getD, h2] using e0
    · simpa [Array.getD, h2] using e1
  rw [e]
  refine (Any.strings_Contains { Tryd.laysM144 with } s sub m C.w hs hm).mono ?_
  rintro e w' ⟨rfl, rfl⟩
  exact ⟨_, _, stF, rfl, ⟨rfl, rfl⟩, C, rfl, hst, hC, Ev.refl C, .im rfl⟩
end Go.Proofs.YtjilcaemoebloaaDoor
