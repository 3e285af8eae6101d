/- Plain mathematics: which types are small. No program in sight. -/
import Derived.Test.YtchjncoadhigmaaGreatDoorPp
namespace Go.Proofs.YtchjncoadhigmaaGreatDoor
set_option linter.unusedSimpArgs false
set_option linter.unusedVariables false
set_option linter.unnecessarySimpa false
def pfold {α : Type} (f : α → Int → Int) (l : List α) (n : Int) : Int := l.foldl (fun m x => if 0 ≤ m then f x m else m) n
theorem pfold_map {α β : Type} (g : α → β) (f : β → Int → Int) (l : List α) (n : Int) : pfold f (l.map g) n = pfold (fun x => f (g x)) l n := by
  unfold pfold
  rw [List.foldl_map]
theorem pfold_take {α : Type} {f : α → Int → Int} {l : List α} {m : Nat} (h : m < l.length) {n : Int} (hp : 0 ≤ pfold f (l.take m) n) : pfold f (l.take (m + 1)) n = f l[m] (pfold f (l.take m) n) := by
  unfold pfold at *
  rw [List.take_succ_eq_append_getElem h, List.foldl_append, List.foldl_cons, List.foldl_nil, if_pos hp]
theorem pfold_stop {α : Type} {f : α → Int → Int} : ∀ (l : List α) {n : Int}, ¬ 0 ≤ n → pfold f l n = n
  | [], n, _ => rfl
  | x :: l, n, h => by
    have := pfold_stop (f := f) l h
    unfold pfold at *
    rw [List.foldl_cons, if_neg h]
    exact this
theorem pfold_bound {α : Type} {f : α → Int → Int} : ∀ {l : List α}, (∀ t ∈ l, ∀ n, 0 ≤ n → -1 ≤ f t n ∧ f t n ≤ n) → ∀ n, -1 ≤ n → -1 ≤ pfold f l n ∧ pfold f l n ≤ n
  | [], _, n, h => ⟨h, Int.le_refl _⟩
  | x :: l, hf, n, h => by
    have ih := pfold_bound (l := l) fun t ht => hf t (by simp [ht])
    unfold pfold at *
    rw [List.foldl_cons]
    by_cases h0 : 0 ≤ n
    · rw [if_pos h0]
      have h1 := hf x (by simp) n h0
      have h2 := ih (f x n) h1.1
      exact ⟨h2.1, Int.le_trans h2.2 h1.2⟩
    · rw [if_neg h0]
      exact ih n h
theorem pfold_all {α : Type} {f : α → Int → Int} {l : List α} {m : Nat} {n : Int} (h : ¬ 0 ≤ pfold f (l.take m) n) : pfold f l n = pfold f (l.take m) n := by
  have e : pfold f l n = pfold f (l.drop m) (pfold f (l.take m) n) := by
    unfold pfold
    rw [← List.foldl_append, List.take_append_drop]
  rw [e, pfold_stop _ h]
/-- The parts left over of a type: -1 when there are too many, or it is too deep or too wide. -/
def tpa : Ty → Int → Int → Int := Ty.para fun t re rf most left =>
  if most < 1 ∨ left < 1 ∨ 12 < t.elem.length ∨ 70 < t.fields.length then -1 else pfold (fun r n => r (most - 1) n) rf (pfold (fun r n => r (most - 1) n) re (left - 1))
theorem tpa_mk (o k s c : Int) (es fs : List Ty) (most left : Int) : tpa (.mk o k s c es fs) most left =
    if most < 1 ∨ left < 1 ∨ 12 < es.length ∨ 70 < fs.length then -1 else pfold (fun x n => tpa x (most - 1) n) fs (pfold (fun x n => tpa x (most - 1) n) es (left - 1)) := by
  have h : tpa (.mk o k s c es fs) most left = _ := congrFun (congrFun (Ty.para_mk _ o k s c es fs) most) left
  rw [h]
  simp only [Ty.elem, Ty.fields, pfold_map]
  rfl
theorem tpa_bound : ∀ (t : Ty) (most left : Int), 0 ≤ left → -1 ≤ tpa t most left ∧ tpa t most left ≤ left := by
  refine Ty.induct fun o k s c es fs hE hF most left hl => ?_
  rw [tpa_mk]
  split
  · omega
  · rename_i h
    have h1 := pfold_bound (f := fun x n => tpa x (most - 1) n) (l := es) (fun t ht n hn => hE t ht _ n hn) (left - 1) (by omega)
    have h2 := pfold_bound (f := fun x n => tpa x (most - 1) n) (l := fs) (fun t ht n hn => hF t ht _ n hn) _ h1.1
    omega
theorem tpa_part {l : List Ty} {most n : Int} (hP : 0 ≤ pfold (fun x n => tpa x most n) l n) : ∀ x ∈ l, ∃ n', 0 ≤ n' ∧ 0 ≤ tpa x most n' := by
  induction l generalizing n with
  | nil => intro x hx; cases hx
  | cons y l ih =>
    intro x hx
    by_cases h0 : 0 ≤ n
    · have e : pfold (fun x n => tpa x most n) (y :: l) n = pfold (fun x n => tpa x most n) l (tpa y most n) := by unfold pfold; rw [List.foldl_cons, if_pos h0]
      rw [e] at hP
      rcases List.mem_cons.1 hx with rfl | hx
      · refine ⟨n, h0, Int.not_lt.1 fun hneg => ?_⟩
        rw [pfold_stop _ (by omega)] at hP
        omega
      · exact ih hP x hx
    · rw [pfold_stop _ h0] at hP
      omega
/-- A small type is not deep. -/
theorem tpa_shal : ∀ (t : Ty) (most left : Int), 0 ≤ tpa t most left → shal t most = true := by
  refine Ty.induct fun o k s c es fs hE hF most left h => ?_
  rw [tpa_mk] at h
  split at h
  · omega
  · rename_i hn
    have h0 : 0 ≤ pfold (fun x n => tpa x (most - 1) n) es (left - 1) := Int.not_lt.1 fun hneg => by
      rw [pfold_stop _ (by omega)] at h
      omega
    rw [shal_mk]
    simp only [Bool.and_eq_true, decide_eq_true_eq, List.all_eq_true]
    refine ⟨⟨by omega, fun x hx => ?_⟩, fun x hx => ?_⟩
    · obtain ⟨n', _, hn'⟩ := tpa_part h0 x hx
      exact hE x hx _ _ hn'
    · obtain ⟨n', _, hn'⟩ := tpa_part h x hx
      exact hF x hx _ _ hn'
def smallT (t : Ty) (most : Int) : Bool := decide (tpa t most 3000 ≥ 0)
end Go.Proofs.YtchjncoadhigmaaGreatDoor
