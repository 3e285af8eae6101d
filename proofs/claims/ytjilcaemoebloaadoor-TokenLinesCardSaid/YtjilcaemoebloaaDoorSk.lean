/- Library: errors of strconv, strings.ContainsAny, said on trees. -/
import Derived.Test.YtjilcaemoebloaaDoorSh
import Derived.Test.YtjilcaemoebloaaDoorTw
import Derived.Test.YtjilcaemoebloaaDoorTi
namespace Go.Proofs.YtjilcaemoebloaaDoor
set_option linter.unusedSimpArgs false
set_option linter.unusedVariables false
set_option linter.unnecessarySimpa false
open Go.RowKit Go.Shelf
theorem c_toErr (k : Int) (hk : k = 1 ∨ k = 2) (fn s : ByteArray) (base bits : Int) (hs : s.size ≤ 4194304) : PC Tryd.prog 88 [.im (.string fn), .im (.string s), .im (.int .i64 base), .im (.int .i64 bits), .im (.iface 121 (.int .i64 k))] .ifc := by
  refine PC.ofBelow (by kernel_rfl) fun C vs hC hsz hR => ?_
  rw [args_im (az := [.string fn, .string s, .int .i64 base, .int .i64 bits, .iface 121 (.int .i64 k)]) hsz hR]
  rcases hk with rfl | rfl
  · obtain ⟨_, hm, t, x, rfl⟩ := hC.gl.1 (⟨3, 0, none⟩, fun v => ∃ t x, v = .iface t x) (by simp [glL])
    refine (Tryd.strconv_toError_range fn s base bits (.iface t x) C.w (by omega) hm.1 (.inr ⟨t, x, rfl⟩)).mono ?_
    rintro e w' ⟨N, rfl, _, _, hb⟩
    exact ⟨_, rfl, fun _ => .ifc, hb⟩
  · obtain ⟨_, hm, t, x, rfl⟩ := hC.gl.1 (⟨2, 0, none⟩, fun v => ∃ t x, v = .iface t x) (by simp [glL])
    refine (Tryd.strconv_toError_syntax fn s base bits (.iface t x) C.w (by omega) hm.1 (.inr ⟨t, x, rfl⟩)).mono ?_
    rintro e w' ⟨N, rfl, _, _, hb⟩
    exact ⟨_, rfl, fun _ => .ifc, hb⟩
theorem c_containsAny (l : List UInt8) (hl : l.length ≤ 4194304) (ha : ∀ c ∈ l, c.toNat < 128) : PC Tryd.prog 74 [.im (.string ⟨l.toArray⟩), .im (.string ⟨#[95, 43, 45]⟩)] (.im (.bool (Lib.containsAny l [95, 43, 45]))) := by
  refine PC.ofBelow (by kernel_rfl) fun C vs hC hsz hR => ?_
  rw [args_im (az := [.string ⟨l.toArray⟩, .string ⟨#[95, 43, 45]⟩]) hsz hR]
  refine (Tryd.strings_ContainsAny_laid ⟨l.toArray⟩ ⟨#[95, 43, 45]⟩ C.w (by show l.toArray.size < _; simp; omega) (by decide) (fun j b hb => ha b (List.mem_of_getElem? hb)) (fun j b hb => ?_)).mono ?_
  · have : b ∈ ([95, 43, 45] : List UInt8) := List.mem_of_getElem? hb
    simp at this
    rcases this with rfl | rfl | rfl <;> decide
  · rintro e w' ⟨rfl, hb⟩
    exact ⟨_, rfl, fun _ => .im rfl, hb⟩
end Go.Proofs.YtjilcaemoebloaaDoor
