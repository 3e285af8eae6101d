/- Plain mathematics: what the program's merge computes. No program in sight. -/
import Derived.Test.YtchjncoadhigmaaGreatDoorPq
namespace Go.Proofs.YtchjncoadhigmaaGreatDoor
set_option linter.unusedSimpArgs false
set_option linter.unusedVariables false
set_option linter.unnecessarySimpa false
def lone (k : Bool) (x : Ty) : List Ty := if k then [x] else []
def mrgP (k : Bool) (f : Ty → Ty → Ty) : List Ty → List Ty → List Ty
  | [], [] => []
  | [], b :: bs => lone k b ++ mrgP k f [] bs
  | a :: as, [] => lone k a ++ mrgP k f as []
  | a :: as, b :: bs =>
    if a.off < b.off then lone k a ++ mrgP k f as (b :: bs)
    else if b.off < a.off then lone k b ++ mrgP k f (a :: as) bs
    else (f a b).at_ a.off :: mrgP k f as bs
termination_by as bs => as.length + bs.length
theorem mrgP_nn (k : Bool) (f : Ty → Ty → Ty) : mrgP k f [] [] = [] := by rw [mrgP]
theorem mrgP_nc (k : Bool) (f : Ty → Ty → Ty) (b : Ty) (bs : List Ty) : mrgP k f [] (b :: bs) = lone k b ++ mrgP k f [] bs := by rw [mrgP]
theorem mrgP_cn (k : Bool) (f : Ty → Ty → Ty) (a : Ty) (as : List Ty) : mrgP k f (a :: as) [] = lone k a ++ mrgP k f as [] := by rw [mrgP]
theorem mrgP_cc (k : Bool) (f : Ty → Ty → Ty) (a : Ty) (as : List Ty) (b : Ty) (bs : List Ty) : mrgP k f (a :: as) (b :: bs) =
    if a.off < b.off then lone k a ++ mrgP k f as (b :: bs) else if b.off < a.off then lone k b ++ mrgP k f (a :: as) bs else (f a b).at_ a.off :: mrgP k f as bs := by rw [mrgP]
theorem mrgP_nt (f : Ty → Ty → Ty) : ∀ bs : List Ty, mrgP true f [] bs = bs
  | [] => mrgP_nn _ _
  | b :: bs => by rw [mrgP_nc, mrgP_nt f bs]; rfl
theorem mrgP_tn (f : Ty → Ty → Ty) : ∀ as : List Ty, mrgP true f as [] = as
  | [] => mrgP_nn _ _
  | a :: as => by rw [mrgP_cn, mrgP_tn f as]; rfl
theorem mrgP_nf (f : Ty → Ty → Ty) : ∀ bs : List Ty, mrgP false f [] bs = []
  | [] => mrgP_nn _ _
  | b :: bs => by rw [mrgP_nc, mrgP_nf f bs]; rfl
theorem mrgP_fn (f : Ty → Ty → Ty) : ∀ as : List Ty, mrgP false f as [] = []
  | [] => mrgP_nn _ _
  | a :: as => by rw [mrgP_cn, mrgP_fn f as]; rfl
theorem mrgP_true (f : Ty → Ty → Ty) : ∀ as bs : List Ty, mrgP true f as bs = mrgF f as bs := by
  refine mrg_induct (fun bs => ?_) (fun as => ?_) (fun a as b bs h ih => ?_) (fun a as b bs h ih => ?_) (fun a as b bs h ih => ?_)
  · rw [mrgP_nt, mrgF_nil]
  · rw [mrgP_tn, mrgF_nil2]
  · rw [mrgP_cc, mrgF_cons, if_pos h, if_pos h, ih]; rfl
  · rw [mrgP_cc, mrgF_cons, if_neg (by omega), if_pos h, if_neg (by omega), if_pos h, ih]; rfl
  · rw [mrgP_cc, mrgF_cons, if_neg (by omega), if_neg (by omega), if_neg (by omega), if_neg (by omega), ih]
theorem fm_congr {α β : Type} {f g : α → Option β} : ∀ {l : List α}, (∀ x ∈ l, f x = g x) → l.filterMap f = l.filterMap g
  | [], _ => rfl
  | x :: l, h => by rw [List.filterMap_cons, List.filterMap_cons, h x (by simp), fm_congr fun y hy => h y (List.mem_cons_of_mem _ hy)]
theorem find_skip {b : Ty} {bs : List Ty} {o : Int} (h : b.off ≠ o) : (b :: bs).find? (fun y => y.off == o) = bs.find? fun y => y.off == o := by
  rw [List.find?_cons, show (b.off == o) = false from beq_eq_false_iff_ne.2 h]
theorem mrgP_false (f : Ty → Ty → Ty) : ∀ as bs : List Ty, Asc as → Asc bs → mrgP false f as bs = bothF f as bs := by
  refine mrg_induct (fun bs _ _ => ?_) (fun as _ _ => ?_) (fun a as b bs h ih ha hb => ?_) (fun a as b bs h ih ha hb => ?_) (fun a as b bs h ih ha hb => ?_)
  · rw [mrgP_nf]; rfl
  · rw [mrgP_fn]
    unfold bothF
    simp
  · rw [mrgP_cc, if_pos h, ih (asc_tail ha) hb]
    have hn : (b :: bs).find? (fun y => y.off == a.off) = none := by
      rw [List.find?_eq_none]
      intro y hy
      rcases List.mem_cons.1 hy with rfl | hy
      · simp; omega
      · have := asc_head hb y hy; simp; omega
    unfold bothF
    rw [List.filterMap_cons, hn]
    rfl
  · rw [mrgP_cc, if_neg (by omega), if_pos h, ih ha (asc_tail hb)]
    unfold bothF
    refine fm_congr fun x hx => ?_
    rw [find_skip]
    rcases List.mem_cons.1 hx with rfl | hx
    · omega
    · have := asc_head ha x hx; omega
  · rw [mrgP_cc, if_neg (by omega), if_neg (by omega), ih (asc_tail ha) (asc_tail hb)]
    have hf : (b :: bs).find? (fun y => y.off == a.off) = some b := by
      rw [List.find?_cons, show (b.off == a.off) = true by simp [h]]
    have hr : bothF f as (b :: bs) = bothF f as bs := by
      unfold bothF
      refine fm_congr fun x hx => ?_
      rw [find_skip]
      have := asc_head ha x hx; omega
    rw [← hr]
    conv => rhs; unfold bothF
    rw [List.filterMap_cons, hf]
    rfl
theorem mrgP_len (k : Bool) (f : Ty → Ty → Ty) : ∀ as bs : List Ty, (mrgP k f as bs).length ≤ as.length + bs.length := by
  have hl : ∀ x, (lone k x).length ≤ 1 := fun x => by unfold lone; split <;> simp
  have H : ∀ (n : Nat) (as bs : List Ty), as.length + bs.length ≤ n → (mrgP k f as bs).length ≤ as.length + bs.length := by
    intro n
    induction n with
    | zero =>
      intro as bs h
      obtain rfl : as = [] := List.length_eq_zero_iff.1 (by omega)
      obtain rfl : bs = [] := List.length_eq_zero_iff.1 (by omega)
      rw [mrgP_nn]; simp
    | succ n ih =>
      intro as bs h
      cases as with
      | nil => cases bs with
        | nil => rw [mrgP_nn]; simp
        | cons b bs =>
          rw [mrgP_nc, List.length_append]
          simp only [List.length_cons, List.length_nil] at h ⊢
          have := ih [] bs (by simp; omega)
          have := hl b
          simp only [List.length_nil] at *
          omega
      | cons a as => cases bs with
        | nil =>
          rw [mrgP_cn, List.length_append]
          simp only [List.length_cons, List.length_nil] at h ⊢
          have := ih as [] (by simp; omega)
          have := hl a
          simp only [List.length_nil] at *
          omega
        | cons b bs =>
          simp only [List.length_cons] at h
          have i1 := ih as (b :: bs) (by simp; omega)
          have i2 := ih (a :: as) bs (by simp; omega)
          have i3 := ih as bs (by omega)
          have h1 := hl a
          have h2 := hl b
          simp only [List.length_cons] at i1 i2 ⊢
          rw [mrgP_cc]
          split
          · rw [List.length_append]; omega
          · split
            · rw [List.length_append]; omega
            · rw [List.length_cons]; omega
  exact fun as bs => H _ as bs (Nat.le_refl _)
def cmpI (a b : Int) : Int := if a < b then -1 else if b < a then 1 else 0
end Go.Proofs.YtchjncoadhigmaaGreatDoor
