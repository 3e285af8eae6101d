/- What chapter 47 takes over from chapter 31. -/
import Derived.Test.YtianekkfehoedaaGreatDoorHv
import Derived.Test.YtianekkfehoedaaGreatDoorJA
import Derived.Test.YtianekkfehoedaaGreatDoorK2
import Derived.Test.YtianekkfehoedaaGreatDoorK1
import Derived.Test.YtianekkfehoedaaGreatDoorK3
import Derived.Test.YtianekkfehoedaaGreatDoorPt
namespace Go.Proofs.YtianekkfehoedaaGreatDoor
set_option linter.unusedSimpArgs false
set_option linter.unusedVariables false
set_option linter.unnecessarySimpa false
open Go.RowKit
theorem AWp.condAB {K : Option Nat → Prop} {P : Program} {st0 : Nat → Ent} {Q : Exit → St → Prop} {N t : Nat} {s : List (Nat × V)} {st : Nat → Ent} {x y : Code} {b : Bool} (ht : Nat.blt t N = true) (hc : look s t = .im (.bool b))
    (h1 : b = true → AWpK K P st0 x Q ⟨dn N s, st⟩) (h2 : b = false → AWpK K P st0 y Q ⟨dn N s, st⟩) : AWpK K P st0 (.cond (.tmp t) x y) Q ⟨dn N s, st⟩ := by
  cases b
  · exact AWp.condAF ht hc (h2 rfl)
  · exact AWp.condAT ht hc (h1 rfl)
/-- A loop whose states get smaller. -/
theorem ALp.meas {K : Option Nat → Prop} {P : Program} {st0 : Nat → Ent} {Q : Exit → St → Prop} {c : Code} {α : Type} (S : α → St) (I : α → Prop) (μ : α → Nat)
    (h : ∀ x, I x → (∀ y, μ y < μ x → I y → ALp K P st0 c Q (S y)) → AWpK K P st0 c (Rnd K P st0 c Q) (S x)) : ∀ x, I x → ALp K P st0 c Q (S x) := by
  have H : ∀ (n : Nat) (x : α), μ x = n → I x → ALp K P st0 c Q (S x) := by
    intro n
    induction n using Nat.strongRecOn with
    | _ n ih => exact fun x hx hI => ALp.round (h x hI fun y hy hJ => ih (μ y) (by omega) y rfl hJ)
  exact fun x hI => H _ x rfl hI
theorem fit_mkc {o k s c : Int} {es fs : List Ty} (h0 : I64 o ∧ I64 k ∧ I64 s ∧ I64 c) (h1 : es.length ≤ 4194304) (h2 : fs.length ≤ 4194304) (hE : ∀ t ∈ es, fit t) (hF : ∀ t ∈ fs, fit t) : fit (.mk o k s c es fs) := by
  have e : fitB (.mk o k s c es fs) = _ := Ty.para_mk _ o k s c es fs
  unfold fit
  rw [e]
  simp only [Bool.and_eq_true, decide_eq_true_eq, Ty.elem, Ty.fields, Ty.off, Ty.kind, Ty.size, Ty.count, List.all_map, List.all_eq_true]
  exact ⟨⟨⟨⟨decide_eq_true h0, decide_eq_true h1⟩, decide_eq_true h2⟩, hE⟩, hF⟩
theorem fit_to {t : Ty} (h : fit t) {o : Int} (ho : I64 o) : fit (t.at_ o) := by
  cases t
  exact fit_mkc ⟨ho, (fit_num h).2⟩ (fit_mk h).1 (fit_mk h).2.1 (fit_mk h).2.2.1 (fit_mk h).2.2.2
theorem nb_ren (g : Nat → Nat) (i : Nat) (t : TypeId) : V.ren g (.nb i t) = .nb (g i) t := by rw [V.ren]
theorem byV_id (p : Nat → Bool) (a : ByteArray) : V.idsL p (byV a) = true := by
  unfold byV
  exact idsL_map (fun _ => rfl) _
theorem byV_ren (g : Nat → Nat) (a : ByteArray) : V.renL g (byV a) = byV a := V.renL_id g _ (byV_id _ a)
end Go.Proofs.YtianekkfehoedaaGreatDoor
