/- A new box, whose first cell is nil: its type is kept in mind. -/
import Derived.Test.YtchjncoadhigmaaGreatDoorTg
namespace Go.Proofs.YtchjncoadhigmaaGreatDoor
set_option linter.unusedSimpArgs false
set_option linter.unusedVariables false
set_option linter.unnecessarySimpa false
open Go.RowKit
theorem step_boxB {P : Program} {o : Oper} {ev : Operand → V} {t : TypeId} {id : Nat} {x : Operand} {y : V} (ho : o.op = .box t x) (hx : ev x = .ag [.im (.pointer none), y]) : Step P o ev [(id, .free)] ⟨.pt id 0, [(id, .box [.nb id t, y])]⟩ := by
  intro C ρ hC hR hf
  have hf' : C.st id = .free := hf (id, .free) (by simp)
  have h0 := hR x (by simp [ho, Op.operands])
  rw [hx] at h0
  obtain ⟨h1, h2⟩ := h0.live rfl
  have hr : (execOp ρ o).run P C.w = .ok (.value (.pointer (some ⟨C.w.heap.size, 0, none⟩))) (C.w.alloc (.cells (ρ x).cells t)) := by
    simp only [execOp, ho, Instr.box, Sem.run_bind, run_newVar, Result.andThen_ok, Sem.run_pure]
  rw [hr]
  obtain ⟨bs, hbs⟩ : ∃ bs, bs = (ρ x).cells := ⟨_, rfl⟩
  rw [← hbs] at h1 h2 ⊢
  have hz : bs.size = 2 := h1
  obtain ⟨D, hD⟩ : ∃ D, D = C.newId id (.cells bs t) (.box [.im (.pointer none), y]) := ⟨_, rfl⟩
  have hE : Ev C D := by rw [hD]; exact Ev.newId hf'
  have hO : Ok D := by
    rw [hD]
    exact hC.newId hf' (fun cs' e => by cases e; exact ⟨bs, t, rfl, Nat.le_of_eq h1.symm, fun j hj => (h2 j hj).1, fun j hj => (h2 j hj).2⟩) (fun _ _ _ e => by cases e) (fun _ _ e => by cases e)
  have dw : D.w = C.w.alloc (.cells bs t) := by rw [hD]; rfl
  have dσ : D.σ id = some C.w.heap.size := by rw [hD]; simp [Cf.newId]
  have dst : D.st id = .box [.im (.pointer none), y] := by rw [hD]; simp [Cf.newId, upd]
  have dh : D.w.heap[C.w.heap.size]? = some (.cells bs t (0, 0)) := by
    rw [dw]
    show (Array.push C.w.heap _)[C.w.heap.size]? = _
    exact Array.getElem?_push_size
  have hk : Kin D.st (upd D.st id (.box [.nb id t, y])) := fun i => by
    by_cases hi : i = id
    · subst hi
      exact .inr ⟨_, [.nb i t, y], dst, by simp [upd]⟩
    · exact .inl (by simp [upd, hi])
  have hst : upd D.st id (.box [.nb id t, y]) = wrs C.st [(id, .box [.nb id t, y])] := by
    rw [hD]
    funext i
    simp only [Cf.newId, wrs, upd]
    split <;> rfl
  refine ⟨D.wst (upd D.st id (.box [.nb id t, y])), dw, hst, hO.wst hk fun i cs hb => ?_, hE.trans (Ev.wst hk), .pt (cs := [.nb id t, y]) dσ (by simp [Cf.wst, upd])⟩
  by_cases hi : i = id
  · subst hi
    have hb : Ent.box [.nb i t, y] = .box cs := by simpa [upd] using hb
    cases hb
    refine ⟨C.w.heap.size, bs, t, dσ, dh, by simp [hz], fun j hj => (h2 j hj).1, fun j hj => ?_⟩
    match j, hj with
    | 0, _ =>
      have h3 := (h2 0 (by simp [V.cells])).2
      have h3 : R C (.im (.pointer none)) (bs.getD 0 undef) := h3
      have e := h3.im_eq
      exact .nb (cs := [.nb i t, y]) dσ (by simp [Cf.wst, upd]) dh hz (.inl e)
    | 1, _ =>
      have h3 : R C y (bs.getD 1 undef) := (h2 1 (by simp [V.cells])).2
      exact (h3.mono hE).wst hk
  · have hb : D.st i = .box cs := by simpa [upd, hi] using hb
    obtain ⟨g, bs', t', e1, e2, e3, e4, e5⟩ := hO.box i cs hb
    exact ⟨g, bs', t', e1, e2, e3, e4, fun j hj => (e5 j hj).wst hk⟩
theorem AR.boxB {P : Program} {N : Nat} {ops : Array Oper} {dr : Bool} {Q : St → Prop} {d : Option Tmp} {t ty : TypeId} {x : Operand} {pos : String} {af : Array Edge} {os : List Oper} {k : Nat} {s : List (Nat × V)} {l : List Ent} {acc : List (Nat × List Nat × List Nat)} {y : V}
    (hx : St.ev ⟨dn N s, ofl l⟩ x = .ag [.im (.pointer none), y]) (hn : AR P ops dr Q os (k + 1) ⟨dn N (putA s d (.pt l.length 0)), ofl (l ++ [.box [.nb l.length t, y]])⟩ ((k, [l.length], [l.length]) :: acc)) :
    AR P ops dr Q (⟨d, .box t x, ty, pos, af, none⟩ :: os) k ⟨dn N s, ofl l⟩ acc :=
  .inr (.inl ⟨rfl, [(l.length, .free)], ⟨.pt l.length 0, [(l.length, .box [.nb l.length t, y])]⟩, step_boxB rfl hx, fun p hp => by
    obtain rfl := List.mem_singleton.1 hp
    exact ofl_end l, by
    have e : ofl (l ++ [.box [.nb l.length t, y]]) = wrs (ofl l) [(l.length, .box [.nb l.length t, y])] := by
      rw [← ofl_snoc]
      rfl
    rw [e, ← put_dn N s (ofl l)] at hn
    exact hn⟩)
end Go.Proofs.YtchjncoadhigmaaGreatDoor
