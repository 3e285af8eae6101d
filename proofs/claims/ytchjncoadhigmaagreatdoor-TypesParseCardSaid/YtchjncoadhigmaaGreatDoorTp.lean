/- Rules more: is a pointer nil? -/
import Derived.Test.YtchjncoadhigmaaGreatDoorTi
import Derived.Laws.Pointers
namespace Go.Proofs.YtchjncoadhigmaaGreatDoor
set_option linter.unusedSimpArgs false
set_option linter.unusedVariables false
set_option linter.unnecessarySimpa false
open Go.RowKit
/-- Is it a type of pointers? -/
def ptT (P : Program) (t : TypeId) : Bool := match P.underlying t with
  | some (.pointer _) => true
  | _ => false
theorem pt_eq {P : Program} {t : TypeId} (ht : ptT P t = true) : P.underlying t = some (.pointer (P.pointee t)) := by
  unfold ptT at ht
  cases hu : P.underlying t with
  | none => rw [hu] at ht; cases ht
  | some d =>
    rw [hu] at ht
    cases d <;> simp at ht
    simp [Program.pointee, hu]
theorem run_eqP {P : Program} {op : BinOp} {t : TypeId} (ht : ptT P t = true) (hop : op = .eql ∨ op = .neq) (p : Option Addr) (x : Operand) (w : World) :
    (eqGuard op t x (.const (.pointer none)) (.pointer p) (.pointer none)).run P w = .ok () w ∧ (binOp op t (.pointer p) (.pointer none)).run P w = .ok (.bool (if op = .eql then p.isNone else !p.isNone)) w := by
  have h := run_equal_pointer_nil (w := w) t p (pt_eq ht)
  rcases hop with rfl | rfl
  · exact ⟨by simp [eqGuard], by simp [binOp, h]⟩
  · exact ⟨by simp [eqGuard], by simp [binOp, h]⟩
theorem step_eqP {P : Program} {o : Oper} {ev : Operand → V} {op : BinOp} {t u : TypeId} {x : Operand} {b : Bool} (ho : o.op = .binOp op t x (.const (.pointer none)) u) (ht : ptT P t = true) (hop : op = .eql ∨ op = .neq) (hy : ev (.const (.pointer none)) = .im (.pointer none))
    (hx : (∃ y off, ev x = .ep y off ∧ b = false) ∨ (∃ i off, ev x = .pt i off ∧ b = false) ∨ (ev x = .im (.pointer none) ∧ b = true)) : Step P o ev [] ⟨.im (.bool (if op = .eql then b else !b)), []⟩ :=
  Step.look fun C ρ _ hR _ => by
    have h1 := hR x (by simp [ho, Op.operands])
    have h2 := hR (.const (.pointer none)) (by simp [ho, Op.operands])
    rw [hy] at h2
    have e2 : ρ (.const (.pointer none)) = .pointer none := h2.im_eq
    obtain ⟨p, ha, hb⟩ : ∃ p, ρ x = .pointer p ∧ p.isNone = b := by
      rcases hx with ⟨y, off, hx, rfl⟩ | ⟨i, off, hx, rfl⟩ | ⟨hx, rfl⟩
      · rw [hx] at h1
        generalize ρ x = z at h1
        cases h1
        exact ⟨_, rfl, rfl⟩
      · rw [hx] at h1
        generalize ρ x = z at h1
        cases h1
        exact ⟨_, rfl, rfl⟩
      · rw [hx] at h1; exact ⟨none, h1.im_eq, rfl⟩
    obtain ⟨h3, h4⟩ := run_eqP ht hop p x C.w
    rw [hb] at h4
    refine ⟨.bool (if op = .eql then b else !b), ?_, .im rfl⟩
    simp only [execOp, ho, e2, ha, Sem.run_bind, h3, Result.andThen_ok, h4, Sem.run_pure]
theorem AR.eqP {P : Program} {N : Nat} {ops : Array Oper} {dr : Bool} {Q : St → Prop} {d : Option Tmp} {op : BinOp} {t u : TypeId} {x : Operand} {ty : TypeId} {pos : String} {af : Array Edge} {g : Option (Nat × Bool)} {os : List Oper} {k : Nat} {s : List (Nat × V)} {l : List Ent} {acc : List (Nat × List Nat × List Nat)} {y : V} (b : Bool) {e : Bool}
    (hn : AR P ops dr Q os (k + 1) ⟨dn N (putA s d (.im (.bool e))), ofl l⟩ ((k, [], []) :: acc)) (ht : ptT P t = true := by kernel_rfl) (hop : op = .eql ∨ op = .neq := by first | exact .inl rfl | exact .inr rfl) (hx : St.ev ⟨dn N s, ofl l⟩ x = y := by rfl)
    (hy : (∃ z off, y = .ep z off ∧ b = false) ∨ (∃ i off, y = .pt i off ∧ b = false) ∨ (y = .im (.pointer none) ∧ b = true) := by first | exact .inl ⟨_, _, rfl, rfl⟩ | exact .inr (.inl ⟨_, _, rfl, rfl⟩) | exact .inr (.inr ⟨rfl, rfl⟩)) (he : (if op = .eql then b else !b) = e := by rfl)
    (hg : gd ops ⟨d, .binOp op t x (.const (.pointer none)) u, ty, pos, af, g⟩ ⟨dn N s, ofl l⟩ = some true := by rfl) :
    AR P ops dr Q (⟨d, .binOp op t x (.const (.pointer none)) u, ty, pos, af, g⟩ :: os) k ⟨dn N s, ofl l⟩ acc := by
  subst hx he
  exact AR.stepG (step_eqP rfl ht hop rfl hy) hn hg
end Go.Proofs.YtchjncoadhigmaaGreatDoor
