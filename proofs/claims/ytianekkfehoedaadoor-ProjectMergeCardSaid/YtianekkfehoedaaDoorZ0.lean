/- What chapter 47 takes over from chapter 31. -/
import Derived.Test.YtianekkfehoedaaDoorHv
import Derived.Test.YtianekkfehoedaaDoorJA
import Derived.Test.YtianekkfehoedaaDoorK2
import Derived.Test.YtianekkfehoedaaDoorK1
import Derived.Test.YtianekkfehoedaaDoorK3
import Derived.Test.YtianekkfehoedaaDoorPt
namespace Go.Proofs.YtianekkfehoedaaDoor
set_option linter.unusedSimpArgs false
set_option linter.unusedVariables false
set_option linter.unnecessarySimpa false
open Go.RowKit
theorem AWp.condAB {K : Option Nat → Prop} {P : Program} {st0 : Nat → Ent} {Q : Exit → St → Prop} {N t : Nat} {s : List (Nat × V)} {st : Nat → Ent} {x y : Code} {b : Bool} (ht : Nat.blt t N = true) (hc : look s t = .im (.bool b))
    (h1 : b = true → AWpK K P st0 x Q ⟨dn N s, st⟩) (h2 : b = false → AWpK K P st0 y Q ⟨dn N s, st⟩) : AWpK K P st0 (.cond (.tmp t) x y) Q ⟨dn N s, st⟩ := by
  cases b
  · exact AWp.condAF ht hc (h2 rfl)
  · exact AWp.condAT ht hc (h1 rfl)
/-- A loop whose states get smaller. -/
theorem ALp.meas {K : Option Nat → Prop} {P : Program} {st0 : Nat → Ent} {Q : Exit → St → Prop} {c : Code} {α : Type} (S : α → St) (I : α → Prop) (μ : α → Nat)
    (h : ∀ x, I x → (∀ y, μ y < μ x → I y → ALp K P st0 c Q (S y)) → AWpK K P st0 c (Rnd K P st0 c Q) (S x)) : ∀ x, I x → ALp K P st0 c Q (S x) := by
  have H : ∀ (n : Nat) (x : α), μ x = n → I x → ALp K P st0 c Q (S x) := by
    intro n
    induction n using Nat.strongRecOn with
    | _ n ih => exact fun x hx hI => ALp.round (h x hI fun y hy hJ => ih (μ y) (by omega) y rfl hJ)
  exact fun x hI => H _ x rfl hI
theorem byV_append (a b : ByteArray) : byV a ++ byV b = byV (a ++ b) := by
  unfold byV
  rw [← List.map_append]
  congr 1
theorem fit_mkc {o k s c : Int} {es fs : List Ty} (h0 : I64 o ∧ I64 k ∧ I64 s ∧ I64 c) (h1 : es.length ≤ 4194304) (h2 : fs.length ≤ 4194304) (hE : ∀ t ∈ es, fit t) (hF : ∀ t ∈ fs, fit t) : fit (.mk o k s c es fs) := by
  have e : fitB (.mk o k s c es fs) = _ := Ty.para_mk _ o k s c es fs
  unfold fit
  rw [e]
  simp only [Bool.and_eq_true, decide_eq_true_eq, Ty.elem, Ty.fields, Ty.off, Ty.kind, Ty.size, Ty.count, List.all_map, List.all_eq_true]
  exact ⟨⟨⟨⟨decide_eq_true h0, decide_eq_true h1⟩, decide_eq_true h2⟩, hE⟩, hF⟩
theorem fit_to {t : Ty} (h : fit t) {o : Int} (ho : I64 o) : fit (t.at_ o) := by
  cases t
  exact fit_mkc ⟨ho, (fit_num h).2⟩ (fit_mk h).1 (fit_mk h).2.1 (fit_mk h).2.2.1 (fit_mk h).2.2.2
theorem i64_of {n : Int} (h1 : -65536 ≤ n) (h2 : n ≤ 65536) : I64 n := ⟨by omega, by omega⟩
theorem fit_kd {d : Kd} (hd : d.ok) (hl : d.parts.length ≤ 4194304) (hp : ∀ x ∈ d.parts, fit x) : fit d.ty := by
  have z : I64 0 := i64_of (by decide) (by decide)
  cases d with
  | unk => exact fit_mkc ⟨z, z, z, z⟩ (by simp) (by simp) (by simp) (by simp)
  | any => exact fit_mkc ⟨z, i64_of (by decide) (by decide), z, z⟩ (by simp) (by simp) (by simp) (by simp)
  | num k s => exact fit_mkc ⟨z, i64_of (by have := hd.1; omega) (by have := hd.1; omega), i64_of (by have := hd.2; omega) (by have := hd.2; omega), z⟩ (by simp) (by simp) (by simp) (by simp)
  | ptr e => exact fit_mkc ⟨z, i64_of (by decide) (by decide), z, z⟩ (by simp) (by simp) hp (by simp)
  | arr c e => exact fit_mkc ⟨z, i64_of (by decide) (by decide), z, i64_of (by have := hd.1; omega) (by have := hd.2.1; omega)⟩ (by simp) (by simp) hp (by simp)
  | str fs => exact fit_mkc ⟨z, i64_of (by decide) (by decide), z, z⟩ (by simp) hl (by simp) hp
theorem kd_fit {d : Kd} {o : Int} (h : fit (d.ty.at_ o)) : d.parts.length ≤ 4194304 ∧ ∀ x ∈ d.parts, fit x := by
  cases d with
  | ptr e => exact ⟨by simp [Kd.parts], (fit_mk h).2.2.1⟩
  | arr c e => exact ⟨by simp [Kd.parts], (fit_mk h).2.2.1⟩
  | str fs => exact ⟨(fit_mk h).2.1, (fit_mk h).2.2.2⟩
  | _ => exact ⟨by simp [Kd.parts], by simp [Kd.parts]⟩
theorem off_i64 {fs : List Ty} (h : Asc fs) {x : Ty} (hx : x ∈ fs) : I64 x.off := i64_of (by have := (h.2 x hx).1; omega) (by have := (h.2 x hx).2; omega)
theorem fit_any : fit Kd.any.ty := fit_kd (d := .any) trivial (by simp [Kd.parts]) (by simp [Kd.parts])
theorem fit_unk : fit Kd.unk.ty := fit_kd (d := .unk) trivial (by simp [Kd.parts]) (by simp [Kd.parts])
theorem kd_fit0 {d : Kd} (h : fit d.ty) : d.parts.length ≤ 4194304 ∧ ∀ x ∈ d.parts, fit x := kd_fit (o := 0) (by rw [kd_at]; exact h)
theorem fit_0 {t : Ty} (h : fit t) : fit (t.at_ 0) := fit_to h (i64_of (by decide) (by decide))
theorem nb_ren (g : Nat → Nat) (i : Nat) (t : TypeId) : V.ren g (.nb i t) = .nb (g i) t := by rw [V.ren]
theorem byV_allZ (a : ByteArray) : allZ 1 (byV a) = true := by
  simp only [allZ, byV, List.all_map, List.all_eq_true]
  intro x _
  rfl
theorem byV_id (p : Nat → Bool) (a : ByteArray) : V.idsL p (byV a) = true := by
  unfold byV
  exact idsL_map (fun _ => rfl) _
theorem byV_ren (g : Nat → Nat) (a : ByteArray) : V.renL g (byV a) = byV a := V.renL_id g _ (byV_id _ a)
end Go.Proofs.YtianekkfehoedaaDoor

