/- Plain mathematics: the text of an operator with two operands consists of those of its operands. No program in sight. -/
import Derived.Test.YtlbfgnpadggbgaaDoorM7
namespace Go.Proofs.YtlbfgnpadggbgaaDoor
set_option linter.unusedSimpArgs false
set_option linter.unusedVariables false
set_option linter.unnecessarySimpa false
structure OpL (s t u : Bs) : Prop where
  h3 : s.length + t.length + 3 ≤ u.length
  h9 : u.length ≤ s.length + t.length + 9
  s1 : 1 ≤ s.length
  t1 : 1 ≤ t.length
  left : (u.take s.length == s) = false → u[0]? = some 40 ∧ ((u.drop 1).take s.length == s) = true
  right : (u.drop (u.length - t.length) == t) = false → ((u.drop (u.length - 1 - t.length)).take t.length == t) = true
theorem txE_two {o : Int} (ho : 3 ≤ o ∧ o ≤ 15) (n w : Int) (s : ByteArray) (a b : Ex) : txE (.mk o n s w [a, b]) = opdT a.op (txE a) (stO o) ++ 32 :: (symB o ++ 32 :: opdT b.op (txE b) (stO o + 1)) := by
  rw [txE_mk]
  unfold txN
  rw [if_neg (by omega), if_neg (by omega), if_neg (by omega), if_neg (by omega), if_neg (by omega), if_neg (by omega)]
  rfl
theorem pos_len {s : Bs} (h : s ≠ []) : 1 ≤ s.length := by
  cases s with
  | nil => exact absurd rfl h
  | cons c s => simp
theorem oper_law {o : Int} (ho : 3 ≤ o ∧ o ≤ 15) {a b : Ex} (hs : prE a ≠ []) (ht : prE b ≠ []) (hu : prE (.mk o 0 ByteArray.empty 0 [a, b]) ≠ []) : OpL (prE a) (prE b) (prE (.mk o 0 ByteArray.empty 0 [a, b])) := by
  have s1 := pos_len hs
  have t1 := pos_len ht
  rw [(prE_inv hu).2, txE_two ho]
  rw [(prE_inv hs).2] at s1 ⊢
  rw [(prE_inv ht).2] at t1 ⊢
  have hy := symB_len o
  generalize txE a = s at s1 ⊢
  generalize txE b = t at t1 ⊢
  generalize symB o = y at hy ⊢
  have la : (opdT a.op s (stO o) = s) ∨ (opdT a.op s (stO o) = 40 :: (s ++ [41])) := by unfold opdT; split; exact .inr rfl; exact .inl rfl
  have lb : (opdT b.op t (stO o + 1) = t) ∨ (opdT b.op t (stO o + 1) = 40 :: (t ++ [41])) := by unfold opdT; split; exact .inr rfl; exact .inl rfl
  generalize opdT a.op s (stO o) = p at la ⊢
  generalize opdT b.op t (stO o + 1) = q at lb ⊢
  have lp : p.length = s.length ∨ p.length = s.length + 2 := by rcases la with rfl | rfl <;> simp
  have lq : q.length = t.length ∨ q.length = t.length + 2 := by rcases lb with rfl | rfl <;> simp
  have hL : (p ++ 32 :: (y ++ 32 :: q)).length = p.length + y.length + q.length + 2 := by simp only [List.length_append, List.length_cons]; omega
  refine ⟨by omega, by omega, s1, t1, fun h => ?_, fun h => ?_⟩
  · rcases la with rfl | rfl
    · rw [List.take_left] at h
      simp at h
    · refine ⟨rfl, ?_⟩
      rw [List.cons_append, List.drop_succ_cons, List.drop_zero, List.append_assoc, List.take_left]
      simp
  · rcases lb with rfl | rfl
    · rw [hL, show p.length + y.length + q.length + 2 - q.length = (p ++ 32 :: (y ++ [32])).length by simp; omega, show p ++ 32 :: (y ++ 32 :: q) = (p ++ 32 :: (y ++ [32])) ++ q by simp, List.drop_left] at h
      simp at h
    · rw [hL, show p.length + y.length + (40 :: (t ++ [41])).length + 2 - 1 - t.length = (p ++ 32 :: (y ++ [32, 40])).length by simp; omega, show p ++ 32 :: (y ++ 32 :: (40 :: (t ++ [41]))) = (p ++ 32 :: (y ++ [32, 40])) ++ (t ++ [41]) by simp, List.drop_left, List.take_left]
      simp
theorem two_len {o : Int} {a b : Ex} (ho : 3 ≤ o ∧ o ≤ 15) (na : n32 a = true) (nb : n32 b = true) (ha : 0 < exn a 2000) (hb : 0 < exn b 2000) : (prE (.mk o 0 ByteArray.empty 0 [a, b])).length ≤ 167772160 := by
  by_cases h : prE (.mk o 0 ByteArray.empty 0 [a, b]) = []
  · rw [h]; exact Nat.zero_le _
  · obtain ⟨h1, h2⟩ := prE_inv h
    rw [h2, txE_two ho]
    rw [efm_mk, Bool.and_eq_true] at h1
    have fa := List.all_eq_true.1 h1.2 a (by simp)
    have fb := List.all_eq_true.1 h1.2 b (by simp)
    have la := txE_len a fa na 2000 ha
    have lb := txE_len b fb nb 2000 hb
    have l1 := opdT_le a.op (txE a) (stO o)
    have l2 := opdT_le b.op (txE b) (stO o + 1)
    have l3 := symB_len o
    simp only [List.length_append, List.length_cons]
    omega
end Go.Proofs.YtlbfgnpadggbgaaDoor
