/- The shelf's contracts as contracts on trees: strconv.Itoa, strings.HasPrefix, strconv.Atoi. -/
import Derived.Test.YtchjncoadhigmaaGreatDoorTi
import Derived.Test.YtchjncoadhigmaaGreatDoorSt
import Derived.Lib.LaidTab
import Derived.Lib.ConvBytes
namespace Go.Proofs.YtchjncoadhigmaaGreatDoor
set_option linter.unusedSimpArgs false
set_option linter.unusedVariables false
set_option linter.unnecessarySimpa false
open Go.RowKit
theorem below_grow (w : World) (q : Nat) (os : Array Obj) : Below w.heap.size w (Sort.grow (w.drewN q) os) :=
  ⟨rfl, rfl, rfl, by simp [Sort.grow], fun i hi => by
    show ((w.drewN q).heap ++ os)[i]? = _
    rw [Array.getElem?_append_left (by show i < w.heap.size; omega)]
    rfl⟩
theorem below_bw (w : World) (e : TypeId) (s : ByteArray) : Below w.heap.size w (Lib.bytesWorld w e s) :=
  ⟨rfl, rfl, rfl, by rw [Lib.bytesWorld_size]; omega, fun k hk => Lib.bytesWorld_at_old w e s k (by omega)⟩
theorem one_arg {vs : Array Value} (h : vs.size = 1) : ∃ v0, vs = #[v0] := by
  match vs, h with
  | ⟨[v0]⟩, _ => exact ⟨v0, rfl⟩
theorem two_args {vs : Array Value} (h : vs.size = 2) : ∃ v0 v1, vs = #[v0, v1] := by
  match vs, h with
  | ⟨[v0, v1]⟩, _ => exact ⟨v0, v1, rfl⟩
theorem tab_is {C : Cf} (hC : Ok C) : Lib.TabIs Tryz.prog C.w "internal/strconv.uint64pow10" .u64 Lib.pow10Tab := by
  have hg : Tryz.prog.globalNamed "internal/strconv.uint64pow10" = some 2 := by kernel_rfl
  obtain ⟨cs, t, fz, h1, h2⟩ := hC.gl.2.2 (2, 20) (List.mem_singleton.2 rfl)
  have hp : Lib.pow10Tab = tab10 := by decide
  have hcell : ∀ i, i < 20 → cs[i]? = some (Value.int .u64 (tab10.getD i 0)) := fun i hi => by
    obtain ⟨v, k1, k2⟩ := hC.gl.1 (⟨2, i, none⟩, fun v => v = .int .u64 (tab10.getD i 0)) (List.mem_append_right _ (List.mem_append_right _ (List.mem_append_right _ (List.mem_map.2 ⟨i, List.mem_range.2 hi, rfl⟩))))
    have k3 := k1.1
    have k2 : v = .int .u64 (tab10.getD i 0) := k2
    subst k2
    simpa [World.cell?, h1] using k3
  unfold Lib.TabIs World.var?
  rw [hg, hp]
  show (match C.w.heap[2]? with | some (.cells cs _ _) => some cs | _ => none) = _
  rw [h1]
  show some cs = _
  congr 1
  apply Array.ext
  · rw [h2]; rfl
  · intro i h3 h4
    have := hcell i (by rw [h2] at h3; exact h3)
    rw [Array.getElem?_eq_getElem h3] at this
    rw [Option.some.inj this]
    have h5 : i < tab10.length := by simpa using h4
    simp [List.getD, h5]
theorem c_Itoa (n : Int) (h0 : 0 ≤ n) (h1 : n ≤ 9223372036854775807) : PC Tryz.prog 81 [.im (.int .i64 n)] (.im (.string ⟨(Lib.itoa n).toArray⟩)) := by
  refine PC.ofBelow (by kernel_rfl) fun C vs hC hsz hR => ?_
  obtain ⟨v0, rfl⟩ := one_arg hsz
  have e0 : R C (.im (.int .i64 n)) v0 := hR 0 (by simp)
  obtain rfl : v0 = .int .i64 n := e0.im_eq
  refine (Tryz.strconv_Itoa n (by omega) h1 C.w (tab_is hC)).mono ?_
  rintro e w' ⟨rfl, k, os, rfl⟩
  exact ⟨_, rfl, fun _ => .im rfl, below_grow _ _ _⟩
theorem c_HasPrefix (s p : ByteArray) : PC Tryz.prog 87 [.im (.string s), .im (.string p)] (.im (.bool (Lib.hasPrefix s.data.toList p.data.toList))) := by
  refine PC.ofBelow (by kernel_rfl) fun C vs hC hsz hR => ?_
  obtain ⟨v0, v1, rfl⟩ := two_args hsz
  have e0 : R C (.im (.string s)) v0 := hR 0 (by simp)
  have e1 : R C (.im (.string p)) v1 := hR 1 (by simp)
  obtain rfl : v0 = .string s := e0.im_eq
  obtain rfl : v1 = .string p := e1.im_eq
  refine (Tryz.strings_HasPrefix s p C.w).mono ?_
  rintro e w' ⟨rfl, rfl⟩
  exact ⟨_, rfl, fun _ => .im rfl, Below.refl _ _⟩
theorem c_Atoi (s : ByteArray) (n : Int) (hl : s.size ≤ 18) (h : Lib.atoi s.data.toList = some n) : PC Tryz.prog 88 [.im (.string s)] (.tu [.im (.int .i64 n), .im Value.nilIface]) := by
  refine PC.ofBelow (by kernel_rfl) fun C vs hC hsz hR => ?_
  obtain ⟨v0, rfl⟩ := one_arg hsz
  have e0 : R C (.im (.string s)) v0 := hR 0 (by simp)
  obtain rfl : v0 = .string s := e0.im_eq
  refine (Tryz.strconv_Atoi s n hl h C.w).mono ?_
  rintro e w' ⟨rfl, t, rfl⟩
  refine ⟨_, rfl, fun D => .tu rfl fun i hi => ?_, below_bw _ _ _⟩
  match i, hi with
  | 0, _ => exact .im rfl
  | 1, _ => exact .im rfl
end Go.Proofs.YtchjncoadhigmaaGreatDoor
