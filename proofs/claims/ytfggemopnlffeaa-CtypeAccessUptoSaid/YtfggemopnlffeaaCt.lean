/- The contract of strings.Contains at this program: the plain text of the shelf. -/
import Derived.Shelf.Strings.Search1
import Derived.Shelf.Strings.Search2
import Derived.Shelf.Strings.Search3
import Derived.Shelf.LaysM
import Derived.Shelf.Strings.Shaped
import Derived.Test.YtfggemopnlffeaaLb
import Derived.KernelRfl
import Derived.Test.YtfggemopnlffeaaProg
namespace Go.Proofs
open Go.Shelf
def Try.laysM144_ren : Go.Shelf.Ren := ⟨fun | 144 => 92 | 143 => 115 | 219 => 124 | 217 => 127 | 225 => 128 | 224 => 129 | 267 => 130 | 266 => 132 | 314 => 133 | n => n, fun | 9 => 9 | 4 => 4 | 3 => 3 | 5 => 5 | 46 => 141 | 146 => 144 | 51 => 31 | n => n, fun | 1 => 0 | n => n⟩
theorem Try.laysM144 : Go.Proofs.LaysM.n144 Try.prog Try.laysM144_ren := {
  mixed := by kernel_rfl
  f143 := Try.func115.trans (congrArg some (by kernel_rfl))
  f144 := Try.func92.trans (congrArg some (by kernel_rfl))
  f217 := Try.func127.trans (congrArg some (by kernel_rfl))
  f219 := Try.func124.trans (congrArg some (by kernel_rfl))
  f224 := Try.func129.trans (congrArg some (by kernel_rfl))
  f225 := Try.func128.trans (congrArg some (by kernel_rfl))
  f266 := Try.func132.trans (congrArg some (by kernel_rfl))
  f267 := Try.func130.trans (congrArg some (by kernel_rfl))
  f314 := Try.func133.trans (congrArg some (by kernel_rfl))
  t3 := Try.underlying3
  a3 := Try.isAgg3
  z3 := Try.sizeOf3
  v3 := Try.zeroValue3
  t4 := Try.underlying4
  a4 := Try.isAgg4
  z4 := Try.sizeOf4
  v4 := Try.zeroValue4
  t5 := Try.underlying5
  a5 := Try.isAgg5
  z5 := Try.sizeOf5
  v5 := Try.zeroValue5
  t9 := Try.underlying9
  a9 := Try.isAgg9
  z9 := Try.sizeOf9
  v9 := Try.zeroValue9
  t46 := Try.underlying141
  a46 := Try.isAgg141
  z46 := Try.sizeOf141
  v46 := Try.zeroValue141
  t51 := Try.underlying31
  a51 := Try.isAgg31
  z51 := Try.sizeOf31
  v51 := Try.zeroValue31
  t146 := Try.underlying144
  a146 := Try.isAgg144
  z146 := Try.sizeOf144
  v146 := Try.zeroValue144
  g1 := by kernel_rfl
  i3 := by kernel_rfl
  i4 := by kernel_rfl
  i5 := by kernel_rfl
  i9 := by kernel_rfl
  i46 := by kernel_rfl
  i51 := by kernel_rfl
  i146 := by kernel_rfl
  m1 := by kernel_rfl
  s1_3 := fun w h => Go.Proofs.cell_of_shapedOpen_int (zero := #[.int .i64 0]) (t := 3) h (of_decide_eq_true (by kernel_rfl)) (by kernel_rfl) rfl (by kernel_rfl) (by kernel_rfl) Try.underlying3 }
open Go.RowKit Go.Lib in
theorem Try.strings_Contains_shaped (s sub : ByteArray) (w : World) (h : w.ShapedOpen Try.prog) (hs : s.size < 4294967281) :
    Calls Try.prog 92 #[.string s, .string sub] w fun e w' => e = .returned (.bool (Lib.contains s.data.toList sub.data.toList)) ∧ w' = w := Any.strings_Contains_shaped Try.laysM144 s sub w h hs
end Go.Proofs
namespace Go.Proofs.Ytfggemopnlffeaa
set_option linter.unusedSimpArgs false
set_option linter.unusedVariables false
set_option linter.unnecessarySimpa false
open Go.RowKit Go.Shelf
theorem c_contains (s sub : ByteArray) (hs : s.size < 4294967281) : PC Try.prog 92 [.im (.string s), .im (.string sub)] (.im (.bool (Lib.contains s.data.toList sub.data.toList))) := by
  refine ⟨by kernel_rfl, fun C vs hst hC hsz hR => ?_⟩
  obtain ⟨m, hm, _⟩ := hC.gl ⟨0, 0, none⟩ (by simp [glL])
  have h2 : vs.size = 2 := hsz
  have e0 : vs.getD 0 undef = .string s := (hR 0 (by simp)).im_eq
  have e1 : vs.getD 1 undef = .string sub := (hR 1 (by simp)).im_eq
  have e : vs = #[.string s, .string sub] := by
    refine Array.ext h2 fun i h3 h4 => ?_
    have h5 : i < 2 := h4
    rcases (show i = 0 ∨ i = 1 by omega) with rfl | rfl
    · simpa [Array.getD, h2] using e0
    · simpa [Array.getD, h2] using e1
  rw [e]
  refine (Any.strings_Contains { Try.laysM144 with } s sub m C.w hs hm).mono ?_
  rintro e w' ⟨rfl, rfl⟩
  exact ⟨_, _, stF, rfl, ⟨rfl, rfl⟩, C, rfl, hst, hC, Ev.refl C, .im rfl⟩
end Go.Proofs.Ytfggemopnlffeaa
