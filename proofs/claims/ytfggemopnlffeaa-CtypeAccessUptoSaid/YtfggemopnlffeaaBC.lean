/- Walks: accesses; what may be assigned. -/
import Derived.Test.YtfggemopnlffeaaHw
import Derived.Test.YtfggemopnlffeaaBB
namespace Go.Proofs.Ytfggemopnlffeaa
set_option linter.unusedSimpArgs false
set_option linter.unusedVariables false
set_option linter.unnecessarySimpa false
open Go.RowKit
/-- May it be accessed? -/
def accT (t : Ty) (off w : Int) : Bool :=
  if t.kind == 0 || t.kind == 6 || t.kind == 1 || t.kind == 2 then true
  else if t.kind == 3 then !good t || freeT (t.elem.headD tz) || (fieldA (t.elem.headD tz) off w).isSome
  else false
theorem ptr_elem {t : Ty} (hg : good t = true) (hk : t.kind = 3) : ∃ x, t.elem = [x] ∧ frm x = true := by
  cases t with
  | mk o k s c es fs =>
    obtain ⟨hb, _, _, hes⟩ := frm_inv (good_frm hg)
    obtain rfl : k = 3 := hk
    have h4 : es.length = 1 := by rcases base_cases hb with q | q | q | q | q <;> omega
    obtain ⟨x, rfl⟩ := List.length_eq_one_iff.1 h4
    exact ⟨x, rfl, hes x (by simp)⟩
theorem fit_elem {t : Ty} (h : fit t) {x : Ty} (hx : x ∈ t.elem) : fit x := by
  cases t with
  | mk o k s c es fs => exact (fit_mk h).2.2.1 x hx
theorem c_Access (t : Ty) (hfit : fit t) (off w : Int) (hoff : I64 off) : PC Try.prog 10 [tyV t, (.im (.int .i64 (off))), (.im (.int .i64 (w)))] (.im (.bool (accT t off w))) := by
  have h1 := c_check t hfit
  refine PC.enter 39 Try.func10 rfl (by decide) rfl rfl (s := [(0, tyV t), (1, (.im (.int .i64 (off)))), (2, (.im (.int .i64 (w))))]) (by rfl) ?_
  rw [tyV_eq t]
  unfold accT
  by_cases hk : t.kind = 0 ∨ t.kind = 6 ∨ t.kind = 1 ∨ t.kind = 2
  · have e : (t.kind == 0 || t.kind == 6 || t.kind == 1 || t.kind == 2) = true := by rcases hk with h | h | h | h <;> simp [h]
    rw [e]
    simp only [if_true]
    rcases hk with hk | hk | hk | hk
    all_goals
      refine w10 hk ?_
      exact Fin.oneP
  have e : (t.kind == 0 || t.kind == 6 || t.kind == 1 || t.kind == 2) = false := by simp; omega
  rw [e]
  simp only [Bool.false_eq_true, if_false]
  have k0 : ¬ t.kind = 0 := by omega
  have k6 : ¬ t.kind = 6 := by omega
  have k1 : ¬ t.kind = 1 := by omega
  have k2 : ¬ t.kind = 2 := by omega
  by_cases k3 : t.kind = 3
  case neg =>
    have e : (t.kind == 3) = false := by simp [k3]
    rw [e]
    simp only [Bool.false_eq_true, if_false]
    refine w10 (And.intro k0 (And.intro k6 (And.intro k1 (And.intro k2 k3)))) ?_
    exact Fin.oneP
  have e : (t.kind == 3) = true := by simp [k3]
  rw [e]
  simp only [if_true]
  cases hg : good t with
  | false =>
    have cb := bad_chk hg
    simp only [Bool.not_false, Bool.true_or]
    refine w10 k3 ?_
    refine AR.callP h1 (And.intro (@tyV_eq) k3) True.intro ?_
    refine go10 cb ?_
    refine w10 True.intro ?_
    exact Fin.oneP
  | true =>
    have cg := good_chk hg
    obtain ⟨x, hx, hxf⟩ := ptr_elem hg k3
    have hfx := fit_elem hfit (x := x) (by rw [hx]; simp)
    have h2 := c_isFree x
    rw [hx]
    simp only [Bool.not_true, Bool.false_or, List.headD_cons]
    cases hfr : freeT x with
    | true =>
      rw [hfr] at h2
      simp only [Bool.true_or]
      refine w10 k3 ?_
      refine AR.callP h1 (And.intro (@tyV_eq) (And.intro hx k3)) True.intro ?_
      refine go10 cg ?_
      refine AR.callP h2 @tyV_eq True.intro ?_
      refine go10 True.intro ?_
      refine w10 True.intro ?_
      exact Fin.oneP
    | false =>
      rw [hfr] at h2
      have h3 := c_FieldAt x hfx off w hoff
      simp only [Bool.false_or]
      refine w10 k3 ?_
      refine AR.callP h1 (And.intro (@tyV_eq) (And.intro hx k3)) True.intro ?_
      refine go10 cg ?_
      refine AR.callP h2 @tyV_eq True.intro ?_
      refine go10 True.intro ?_
      refine w10 True.intro ?_
      refine AR.callP h3 @tyV_eq True.intro ?_
      refine go10 True.intro ?_
      refine w10 True.intro ?_
      exact Fin.oneP
theorem c_AccessR (t : Ty) (hfit : fit t) (off w : Int) (hoff : I64 off) : PC Try.prog 11 [tyV t, (.im (.int .i64 (off))), (.im (.int .i64 (w)))] (.im (.bool (accT t off w))) := by
  have h1 := c_checkR t hfit
  have h0 := c_open t
  refine PC.enter 45 Try.func11 rfl (by decide) rfl rfl (s := [(0, tyV t), (1, (.im (.int .i64 (off)))), (2, (.im (.int .i64 (w))))]) (by rfl) ?_
  rw [tyV_eq t]
  unfold accT
  cases hf : freeT t with
  | true =>
    rw [hf] at h0
    have e : (t.kind == 0 || t.kind == 6 || t.kind == 1 || t.kind == 2) = true := by
      have : (t.kind == 0 || t.kind == 6) = true := hf
      rw [this]; rfl
    rw [e]
    simp only [if_true]
    refine w11 True.intro ?_
    refine AR.callP h0 @tyV_eq True.intro ?_
    refine go11 True.intro ?_
    refine w11 True.intro ?_
    exact Fin.oneP
  | false =>
  rw [hf] at h0
  have e0 : (t.kind == 0 || t.kind == 6) = false := hf
  have k0 : ¬ t.kind = 0 := by simp at e0; omega
  have k6 : ¬ t.kind = 6 := by simp at e0; omega
  rw [e0]
  by_cases k1 : t.kind = 1
  · have e : (t.kind == 1 || t.kind == 2) = true := by simp [k1]
    rw [Bool.false_or, e]
    simp only [if_true]
    refine w11 True.intro ?_
    refine AR.callP h0 @tyV_eq True.intro ?_
    refine go11 k1 ?_
    refine w11 True.intro ?_
    exact Fin.oneP
  by_cases k2 : t.kind = 2
  · have e : (t.kind == 1 || t.kind == 2) = true := by simp [k2]
    rw [Bool.false_or, e]
    simp only [if_true]
    refine w11 True.intro ?_
    refine AR.callP h0 @tyV_eq True.intro ?_
    refine go11 k2 ?_
    refine w11 True.intro ?_
    exact Fin.oneP
  have e : (t.kind == 1 || t.kind == 2) = false := by simp [k1, k2]
  rw [Bool.false_or, e]
  simp only [Bool.false_eq_true, if_false]
  by_cases k3 : t.kind = 3
  case neg =>
    have e : (t.kind == 3) = false := by simp [k3]
    rw [e]
    simp only [Bool.false_eq_true, if_false]
    refine w11 True.intro ?_
    refine AR.callP h0 @tyV_eq True.intro ?_
    refine go11 (And.intro k1 k2) ?_
    refine w11 k3 ?_
    exact Fin.oneP
  have e : (t.kind == 3) = true := by simp [k3]
  rw [e]
  simp only [if_true]
  cases hg : good t with
  | false =>
    have cb := bad_chk hg
    simp only [Bool.not_false, Bool.true_or]
    refine w11 True.intro ?_
    refine AR.callP h0 @tyV_eq True.intro ?_
    refine go11 k3 ?_
    refine w11 k3 ?_
    refine AR.callP h1 (And.intro (@tyV_eq) k3) True.intro ?_
    refine go11 cb ?_
    refine w11 True.intro ?_
    exact Fin.oneP
  | true =>
    have cg := good_chk hg
    obtain ⟨x, hx, hxf⟩ := ptr_elem hg k3
    have hfx := fit_elem hfit (x := x) (by rw [hx]; simp)
    have h2 := c_open x
    rw [hx]
    simp only [Bool.not_true, Bool.false_or, List.headD_cons]
    cases hfr : freeT x with
    | true =>
      rw [hfr] at h2
      simp only [Bool.true_or]
      refine w11 True.intro ?_
      refine AR.callP h0 (And.intro (@tyV_eq) hx) True.intro ?_
      refine go11 k3 ?_
      refine w11 k3 ?_
      refine AR.callP h1 (And.intro (@tyV_eq) (And.intro hx k3)) True.intro ?_
      refine go11 cg ?_
      refine AR.callP h2 @tyV_eq True.intro ?_
      refine go11 True.intro ?_
      refine w11 True.intro ?_
      exact Fin.oneP
    | false =>
      rw [hfr] at h2
      have h3 := c_FieldAtR x hfx off w hoff
      simp only [Bool.false_or]
      refine w11 True.intro ?_
      refine AR.callP h0 (And.intro (@tyV_eq) hx) True.intro ?_
      refine go11 k3 ?_
      refine w11 k3 ?_
      refine AR.callP h1 (And.intro (@tyV_eq) (And.intro hx k3)) True.intro ?_
      refine go11 cg ?_
      refine AR.callP h2 @tyV_eq True.intro ?_
      refine go11 True.intro ?_
      refine w11 True.intro ?_
      refine AR.callP h3 @tyV_eq True.intro ?_
      refine go11 True.intro ?_
      refine w11 True.intro ?_
      exact Fin.oneP
/-- May it be assigned? -/
def asgT (a b : Ty) : Bool := freeT a || freeT b || wordT a || wordT b || (good b && good a && subT b a)
theorem c_Assignable (a b : Ty) (ha : fit a) (hb : fit b) : PC Try.prog 12 [tyV a, tyV b] (.im (.bool (asgT a b))) := by
  have h1 := c_isFree a
  have h2 := c_isFree b
  have h3 := c_isWord a
  have h4 := c_isWord b
  have h5 := c_Sub b a hb ha
  refine PC.enter 24 Try.func12 rfl (by decide) rfl rfl (s := [(0, tyV a), (1, tyV b)]) (by rfl) ?_
  rw [tyV_eq a, tyV_eq b]
  unfold asgT
  refine w12 True.intro ?_
  refine AR.callP h1 @tyV_eq True.intro ?_
  cases g1 : freeT a with
  | true =>
    simp only [Bool.true_or]
    refine go12 True.intro ?_
    refine w12 True.intro ?_
    exact Fin.oneP
  | false =>
  refine go12 True.intro ?_
  refine AR.callP h2 @tyV_eq True.intro ?_
  cases g2 : freeT b with
  | true =>
    simp only [Bool.true_or, Bool.or_true]
    refine go12 True.intro ?_
    refine w12 True.intro ?_
    exact Fin.oneP
  | false =>
  refine go12 True.intro ?_
  refine AR.callP h3 @tyV_eq True.intro ?_
  cases g3 : wordT a with
  | true =>
    simp only [Bool.true_or, Bool.or_true]
    refine go12 True.intro ?_
    refine w12 True.intro ?_
    exact Fin.oneP
  | false =>
  refine go12 True.intro ?_
  refine AR.callP h4 @tyV_eq True.intro ?_
  cases g4 : wordT b with
  | true =>
    simp only [Bool.true_or, Bool.or_true]
    refine go12 True.intro ?_
    refine w12 True.intro ?_
    exact Fin.oneP
  | false =>
  simp only [Bool.false_or]
  refine go12 True.intro ?_
  refine AR.callP h5 @tyV_eq True.intro ?_
  refine go12 True.intro ?_
  refine w12 True.intro ?_
  exact Fin.oneP
theorem c_AssignableR (a b : Ty) (ha : fit a) (hb : fit b) : PC Try.prog 13 [tyV a, tyV b] (.im (.bool (asgT a b))) := by
  have h1 := c_open a
  have h2 := c_open b
  have h3 := c_word a
  have h4 := c_word b
  have h5 := c_SubR b a hb ha
  refine PC.enter 22 Try.func13 rfl (by decide) rfl rfl (s := [(0, tyV a), (1, tyV b)]) (by rfl) ?_
  rw [tyV_eq a, tyV_eq b]
  unfold asgT
  refine w13 True.intro ?_
  refine AR.callP h1 @tyV_eq True.intro ?_
  cases g1 : freeT a with
  | true =>
    simp only [Bool.true_or]
    refine go13 True.intro ?_
    refine w13 True.intro ?_
    exact Fin.oneP
  | false =>
  refine go13 True.intro ?_
  refine AR.callP h2 @tyV_eq True.intro ?_
  cases g2 : freeT b with
  | true =>
    simp only [Bool.true_or, Bool.or_true]
    refine go13 True.intro ?_
    refine w13 True.intro ?_
    exact Fin.oneP
  | false =>
  refine go13 True.intro ?_
  refine AR.callP h3 @tyV_eq True.intro ?_
  cases g3 : wordT a with
  | true =>
    simp only [Bool.true_or, Bool.or_true]
    refine go13 True.intro ?_
    refine w13 True.intro ?_
    exact Fin.oneP
  | false =>
  refine go13 True.intro ?_
  refine AR.callP h4 @tyV_eq True.intro ?_
  cases g4 : wordT b with
  | true =>
    simp only [Bool.true_or, Bool.or_true]
    refine go13 True.intro ?_
    refine w13 True.intro ?_
    exact Fin.oneP
  | false =>
  simp only [Bool.false_or]
  refine go13 True.intro ?_
  refine w13 True.intro ?_
  refine AR.callP h5 @tyV_eq True.intro ?_
  refine go13 True.intro ?_
  refine w13 True.intro ?_
  exact Fin.oneP
end Go.Proofs.Ytfggemopnlffeaa

