import Derived.Lib.LaidTab
import Derived.Lib.SmallJoins
import Derived.Test.YtmbmmckagcdapaaGreatDoorJ11
import Derived.Test.YtmbmmckagcdapaaGreatDoorJ00
import Derived.Test.YtmbmmckagcdapaaGreatDoorJ01
set_option linter.unusedSimpArgs false
set_option linter.unusedVariables false
set_option linter.unnecessarySimpa false
namespace Go.Proofs.YtmbmmckagcdapaaGreatDoor
open Go.RowKit
theorem below_grow (w : World) (q : Nat) (os : Array Obj) : Below w.heap.size w (Sort.grow (w.drewN q) os) :=
  ⟨rfl, rfl, rfl, by simp [Sort.grow], fun i hi => by
    show ((w.drewN q).heap ++ os)[i]? = _
    rw [Array.getElem?_append_left (by show i < w.heap.size; omega)]
    rfl⟩
theorem one_arg {vs : Array Value} (h : vs.size = 1) : ∃ v0, vs = #[v0] := by
  match vs, h with
  | ⟨[v0]⟩, _ => exact ⟨v0, rfl⟩
theorem two_args {vs : Array Value} (h : vs.size = 2) : ∃ v0 v1, vs = #[v0, v1] := by
  match vs, h with
  | ⟨[v0, v1]⟩, _ => exact ⟨v0, v1, rfl⟩
theorem tab_is {C : Cf} (hC : Ok C) {name : String} {g : Nat} {k : IntKind} {l : List Int} (hg : Tryz.prog.globalNamed name = some g) (hn : (g, l.length) ∈ glN) (hl : ∀ a ∈ glT g k l, a ∈ glL) : Lib.TabIs Tryz.prog C.w name k l := by
  obtain ⟨cs, t, fz, h1, h2⟩ := hC.gl.2.2 (g, l.length) hn
  have hcell : ∀ i, i < l.length → cs[i]? = some (Value.int k (l.getD i 0)) := fun i hi => by
    obtain ⟨v, k1, k2⟩ := hC.gl.1 (⟨g, i, none⟩, fun v => v = .int k (l.getD i 0)) (hl _ (List.mem_map.2 ⟨i, List.mem_range.2 hi, rfl⟩))
    have k3 := k1.1; have k2 : v = .int k (l.getD i 0) := k2; subst k2; have h1 : C.w.heap[g]? = some (Obj.cells cs t fz) := h1; simpa [World.cell?, h1] using k3
  unfold Lib.TabIs World.var?
  rw [hg]
  have h1 : C.w.heap[g]? = some (Obj.cells cs t fz) := h1
  show (match C.w.heap[g]? with | some (.cells cs _ _) => some cs | _ => none) = _
  rw [h1]
  show some cs = _
  congr 1
  have h2 : cs.size = l.length := h2
  apply Array.ext
  · rw [h2]; simp
  · intro i h3 h4
    have := hcell i (by rw [h2] at h3; exact h3)
    rw [Array.getElem?_eq_getElem h3] at this; rw [Option.some.inj this]; have h5 : i < l.length := by simpa using h4
    simp [List.getD, h5]
theorem c_Itoa (n : Int) (h0 : 0 ≤ n) (h1 : n ≤ 9223372036854775807) : PC Tryz.prog 137 [.im (.int .i64 n)] (.im (.string ⟨(Lib.itoa n).toArray⟩)) := by
  refine PC.ofBelow (by kernel_rfl) fun C vs hC hsz hR => ?_
  obtain ⟨v0, rfl⟩ := one_arg hsz
  have e0 : R C (.im (.int .i64 n)) v0 := hR 0 (by simp)
  obtain rfl : v0 = .int .i64 n := e0.im_eq
  have ht : Lib.TabIs Tryz.prog C.w "internal/strconv.uint64pow10" .u64 tab10 := tab_is hC (g := 1) (by kernel_rfl) (by simp [glN, tab10]) fun a ha => List.mem_append_right _ (List.mem_append_right _ (List.mem_append_right _ (List.mem_append_left _ ha)))
  rw [show tab10 = Lib.pow10Tab by decide] at ht
  refine (Tryz.strconv_Itoa n (by omega) h1 C.w ht).mono ?_
  rintro e w' ⟨rfl, k, os, rfl⟩
  exact ⟨_, rfl, fun _ => .im rfl, below_grow _ _ _⟩
def sV (b : Bs) : V := .im (.string ⟨b.toArray⟩)
theorem cell_spot {w : World} {a : Addr} {v : Value} (h : w.cell? a = some v) : a.spot = none ∧ a.block < w.heap.size := by
  unfold World.cell? at h
  split at h
  · rename_i hb
    split at h
    · cases h
    · rename_i hs
      refine ⟨by simpa using hs, ?_⟩
      exact (Array.getElem?_eq_some_iff.1 hb).1
  · cases h
theorem join_flat (l : List Bs) : Lib.join l [] = l.flatten := by
  unfold Lib.join
  induction l with
  | nil => rfl
  | cons x r ih =>
    cases r with
    | nil => simp [List.intercalate, List.intersperse]
    | cons y r =>
      simp only [List.intercalate, List.intersperse] at ih ⊢; simpa using ih
theorem c_joinE (l : List Bs) (hN : l.length ≤ 140737488355328) (hlen : l.flatten.length ≤ 140737488355328) : PC Tryz.prog 71 [.sl (l.map sV) .ro, .im (.string ⟨([] : Bs).toArray⟩)] (.im (.string ⟨l.flatten.toArray⟩)) := by
  refine PC.ofBelow (by kernel_rfl) fun C vs hC hsz hR => ?_
  obtain ⟨v0, v1, rfl⟩ := two_args hsz
  have h1 : R C (.im (.string ⟨([] : Bs).toArray⟩)) v1 := hR 1 (by simp)
  have h0 : R C (.sl (l.map sV) .ro) v0 := hR 0 (by simp)
  obtain rfl : v1 = .string ⟨([] : Bs).toArray⟩ := h1.im_eq
  cases h0 with
  | @sl _ _ a cap z u hc hm hz h hr hk =>
    cases l with
    | nil =>
      refine (Tryz.strings_Join_none a cap ⟨([] : Bs).toArray⟩ C.w).mono ?_; rintro e w' ⟨rfl, rfl⟩; exact ⟨_, rfl, fun _ => .im rfl, Below.refl _ _⟩
    | cons x r =>
      have hz1 : z = 1 := ((hz 0 (by simp)).1).symm
      subst hz1
      have hu : ∀ j (hj : j < ((x :: r).map sV).length), u j = .string ⟨((x :: r)[j]'(by simpa using hj)).toArray⟩ := fun j hj => by
        have h2 := h j hj; rw [List.getElem_map] at h2; exact h2.im_eq
      obtain ⟨ad, rfl, h3⟩ := hr 0 (by simp)
      have hrd : ∀ j (hj : j < ((x :: r).map sV).length), C.w.cell? ((ad.add (j * 1)).add 0) = some (.string ⟨((x :: r)[j]'(by simpa using hj)).toArray⟩) := fun j hj => by
        obtain ⟨ad', e1, h4⟩ := hr j hj; cases e1
        exact (h4 0 _ (by rw [hu j hj]; rfl)).1
      have h4 := cell_spot (hrd 0 (by simp))
      obtain ⟨bk, o, sp⟩ := ad; have hsp : sp = none := h4.1; subst hsp; have hid : List.map ((fun b : ByteArray => b.data.toList) ∘ fun b : Bs => (⟨b.toArray⟩ : ByteArray)) (x :: r) = x :: r := List.map_id' _
      have := Tryz.strings_Join bk o cap ((x :: r).map fun b => ⟨b.toArray⟩) ⟨([] : Bs).toArray⟩ C.w (fun j y hj => ?_) h4.2 (by rw [List.length_map]; exact hN) (by simpa using hc) (by
        rw [List.map_map, hid, show (ByteArray.mk ([] : Bs).toArray).data.toList = [] from rfl, join_flat]; exact hlen)
      · rw [List.map_map, hid, show (ByteArray.mk ([] : Bs).toArray).data.toList = [] from rfl, join_flat] at this
        rw [List.length_map] at this ⊢; refine this.mono ?_; rintro e w' ⟨rfl, hb⟩; exact ⟨_, rfl, fun _ => .im rfl, hb⟩
      · obtain ⟨hlt, rfl⟩ := List.getElem?_eq_some_iff.1 hj
        have h5 := hrd j (by simpa using hlt)
        rw [Addr.add_lit, Addr.add_lit, Nat.mul_one] at h5; rw [List.getElem_map]; exact h5
end Go.Proofs.YtmbmmckagcdapaaGreatDoor
