/- Plain: what the program's scanner finds is what the chapter says. -/
import Derived.Test.YtjilcaemoebloaaDoorHv
import Derived.Test.YtjilcaemoebloaaDoorT14
namespace Go.Proofs.YtjilcaemoebloaaDoor
set_option linter.unusedSimpArgs false
set_option linter.unusedVariables false
set_option linter.unnecessarySimpa false
open Go.RowKit
theorem dgv_hexv (b : Nat) (hb : b = 10 ∨ b = 16) (c : UInt8) : (∀ d, d < b → (dgv c = some d ↔ hexv c = some d)) := by
  have key : ∀ n, n < 16 → (dgv c = some n ↔ hexv c = some n) := by
    intro n hn
    have := u8_all (fun c => (List.range 16).all fun n => (dgv c == some n) == (hexv c == some n)) (by decide +kernel) c
    have h2 := List.all_eq_true.1 this n (by simpa using hn)
    have h3 := beq_iff_eq.1 h2
    constructor
    · intro h
      have : (hexv c == some n) = true := by rw [← h3, h]; simp
      exact beq_iff_eq.1 this
    · intro h
      have : (dgv c == some n) = true := by rw [h3, h]; simp
      exact beq_iff_eq.1 this
  intro d hd
  exact key d (by omega)
theorem digV_le {b : Nat} (hb : 1 ≤ b) (s : Bs) : ∀ a n, digV b a s = some n → a ≤ n := by
  induction s with
  | nil => intro a n h; cases h; exact Nat.le_refl _
  | cons c r ih =>
    intro a n h
    rw [digV] at h
    split at h
    · split at h
      · have h1 := ih _ _ h
        have : a * 1 ≤ a * b := Nat.mul_le_mul_left a hb
        omega
      · cases h
    · cases h
theorem puF_of {b : Nat} (hb : b = 10 ∨ b = 16) (s : Bs) : ∀ a n, digV b a s = some n → n ≤ 4294967295 → puF b a s = (n, 0) := by
  induction s with
  | nil => intro a n h _; cases h; rfl
  | cons c r ih =>
    intro a n h hn
    rw [digV] at h
    split at h
    · rename_i d hd
      split at h
      · rename_i hlt
        have h1 := digV_le (show 1 ≤ b by omega) r _ _ h
        rw [puF, (dgv_hexv b hb c d hlt).2 hd]
        simp only
        rw [if_neg (by omega), if_neg (by omega)]
        exact ih _ _ h hn
      · cases h
    · cases h
theorem puF_to {b : Nat} (hb : b = 10 ∨ b = 16) (s : Bs) : ∀ a, (puF b a s).2 = 0 → digV b a s = some (puF b a s).1 := by
  induction s with
  | nil => intro a _; rfl
  | cons c r ih =>
    intro a h
    rw [puF] at h ⊢
    cases hd : dgv c with
    | none => rw [hd] at h; cases h
    | some d =>
      rw [hd] at h
      simp only at h ⊢
      by_cases h1 : b ≤ d
      · rw [if_pos h1] at h; cases h
      · rw [if_neg h1] at h ⊢
        by_cases h2 : 4294967295 < a * b + d
        · rw [if_pos h2] at h; cases h
        · rw [if_neg h2] at h ⊢
          rw [digV, (dgv_hexv b hb c d (by omega)).1 hd]
          simp only
          rw [if_pos (by omega)]
          exact ih _ h
theorem digV_hex {b : Nat} (s : Bs) : ∀ a n, digV b a s = some n → ∀ c ∈ s, (hexv c).isSome = true := by
  induction s with
  | nil => intro a n _ c hc; cases hc
  | cons x r ih =>
    intro a n h c hc
    rw [digV] at h
    split at h
    · rename_i d hd
      split at h
      · rcases List.mem_cons.1 hc with rfl | hc
        · rw [hd]; rfl
        · exact ih _ _ h c hc
      · cases h
    · cases h
theorem noAny_hex {s : Bs} (h : ∀ c ∈ s, (hexv c).isSome = true) : Lib.containsAny s [95, 43, 45] = false := by
  unfold Lib.containsAny
  rw [Lib.indexAny_none (fun j b _ hb => ?_)]
  · decide
  · have h1 := h b (List.mem_of_getElem? hb)
    have h2 := u8_all (fun c => !(hexv c).isSome || !([95, 43, 45] : List UInt8).contains c) (by decide +kernel) b
    simp only [h1, Bool.not_true, Bool.false_or] at h2
    simpa using h2
theorem digV_lt16 (s : Bs) : ∀ a n, digV 16 a s = some n → n < (a + 1) * 16 ^ s.length := by
  induction s with
  | nil => intro a n h; cases h; simp
  | cons c r ih =>
    intro a n h
    rw [digV] at h
    split at h
    · rename_i d hd
      split at h
      · rename_i hlt
        have h1 := ih _ _ h
        have h2 : (a * 16 + d + 1) * 16 ^ r.length ≤ ((a + 1) * 16) * 16 ^ r.length := Nat.mul_le_mul_right _ (by omega)
        rw [List.length_cons, Nat.pow_succ, Nat.mul_comm (16 ^ r.length) 16, ← Nat.mul_assoc]
        omega
      · cases h
    · cases h
/-- Numbers. -/
theorem valR_some {w : Bs} {n : Nat} (h : valP w = some n) : valR w = (n, true) := by
  unfold valP at h
  unfold valR
  split at h
  · rename_i hp
    rw [if_pos hp]
    split at h
    · rename_i hl
      have h16 : n ≤ 4294967295 := by
        have := digV_lt16 _ _ _ h
        have h2 : 16 ^ (List.drop 2 w).length ≤ 16 ^ 8 := Nat.pow_le_pow_right (by decide) hl.2
        have h3 : (16 : Nat) ^ 8 = 4294967296 := by decide
        omega
      have hne : List.drop 2 w ≠ [] := fun e => by rw [e] at hl; exact absurd hl.1 (by decide)
      have hpu : puR 16 (List.drop 2 w) = (n, 0) := by
        unfold puR
        rw [if_neg hne]
        exact puF_of (.inr rfl) _ _ _ h h16
      rw [hpu, noAny_hex (digV_hex _ _ _ h), decide_eq_true hl.2]
      rfl
    · cases h
  · rename_i hp
    rw [if_neg hp]
    split at h
    · cases h
    · rename_i hz
      split at h
      · rename_i m hm
        split at h
        · rename_i hlt
          cases h
          have hne : w ≠ [] := fun e => hz (.inl (by rw [e]; rfl))
          have hpu : puR 10 w = (n, 0) := by
            unfold puR
            rw [if_neg hne]
            exact puF_of (.inl rfl) _ _ _ hm (by omega)
          rw [hpu, noAny_hex (digV_hex _ _ _ hm)]
          have hz2 : (w == [48] || decide (w.head? ≠ some 48)) = true := by
            by_cases q : w.head? = some 48
            · have : ¬ 1 < w.length := fun k => hz (.inr ⟨k, q⟩)
              obtain ⟨x, rfl⟩ : ∃ x, w = [x] := List.length_eq_one_iff.1 (by have := List.length_pos_iff.2 hne; omega)
              cases q; rfl
            · rw [decide_eq_true q, Bool.or_true]
          rw [hz2]
          rfl
        · cases h
      · cases h
theorem valR_none {w : Bs} (h : valP w = none) : (valR w).2 = false := by
  rw [← Bool.not_eq_true]
  intro hc
  unfold valR at hc
  unfold valP at h
  by_cases hp : pre [48, 120] w = true
  · rw [if_pos hp] at hc h
    simp only [Bool.and_eq_true, decide_eq_true_eq] at hc
    have hne : List.drop 2 w ≠ [] := fun e => by rw [e] at hc; exact absurd hc.1 (by decide)
    unfold puR at hc
    rw [if_neg hne] at hc
    rw [if_pos ⟨List.length_pos_iff.2 hne, hc.2.1⟩, puF_to (.inr rfl) _ _ hc.1] at h
    cases h
  · rw [if_neg hp] at hc h
    simp only [Bool.and_eq_true, decide_eq_true_eq] at hc
    have hne : w ≠ [] := fun e => by rw [e] at hc; exact absurd hc.1 (by decide)
    have hz : ¬ (w.length = 0 ∨ (1 < w.length ∧ w.head? = some 48)) := by
      rintro (k | ⟨k1, k2⟩)
      · exact hne (List.length_eq_zero_iff.1 k)
      · have h3 := hc.2.1
        rw [decide_eq_false (show ¬ (w.head? ≠ some 48) from fun k => k k2), Bool.or_false] at h3
        have h4 := beq_iff_eq.1 h3
        rw [h4] at k1
        exact absurd k1 (by decide)
    have hpu : puR 10 w = puF 10 0 w := if_neg hne
    have hle : (puF 10 0 w).1 ≤ 4294967295 := puF_le 10 w 0 (by decide)
    rw [hpu] at hc
    rw [if_neg hz, puF_to (.inl rfl) _ _ hc.1] at h
    simp only at h
    rw [if_pos (by omega)] at h
    cases h
theorem namR_some {w : Bs} {t : Tk} (h : namP w = some t) : namR w = (t, true) := by
  unfold namP at h
  unfold namR
  split
  · rename_i q
    rw [if_pos q] at h
    cases h; rfl
  · rename_i q
    rw [if_neg q] at h
    split
    · rename_i q2
      rw [if_pos q2] at h
      split at h
      · rename_i q3
        cases h
        rw [decide_eq_true q3]
      · cases h
    · rename_i q2
      rw [if_neg q2] at h
      cases hv : valP w with
      | none => rw [hv] at h; cases h
      | some n =>
        rw [hv] at h
        cases h
        rw [valR_some hv]
theorem namR_none {w : Bs} (h : namP w = none) : (namR w).2 = false := by
  unfold namP at h
  unfold namR
  split
  · rename_i q
    rw [if_pos q] at h
    cases h
  · rename_i q
    rw [if_neg q] at h
    split
    · rename_i q2
      rw [if_pos q2] at h
      split at h
      · cases h
      · rename_i q3
        exact decide_eq_false q3
    · rename_i q2
      rw [if_neg q2] at h
      cases hv : valP w with
      | none => exact valR_none hv
      | some n => rw [hv] at h; cases h
theorem nxtR_some {s : Bs} {t : Tk} {n : Nat} (h : tokP s = some (t, n)) : nxtR s = (t, n, true) := by
  unfold tokP at h
  unfold nxtR
  split
  · rename_i q
    rw [if_pos q] at h
    cases hn : namP (s.takeWhile isW) with
    | none => rw [hn] at h; cases h
    | some u => rw [hn] at h; cases h; rw [namR_some hn]
  · rename_i q
    rw [if_neg q] at h
    split
    · rename_i q2
      rw [if_pos q2] at h
      cases hq : quoP (s.drop 1) with
      | none => rw [hq] at h; cases h
      | some u => obtain ⟨u, m⟩ := u; rw [hq] at h; cases h; rw [quoR_some hq]
    · rename_i q2
      rw [if_neg q2] at h
      cases hq : symP s with
      | none => rw [hq] at h; cases h
      | some u => rw [hq] at h; cases h; unfold symR; rw [hq]
theorem nxtR_none {s : Bs} (h : tokP s = none) : (nxtR s).2.2 = false := by
  unfold tokP at h
  unfold nxtR
  split
  · rename_i q
    rw [if_pos q] at h
    cases hn : namP (s.takeWhile isW) with
    | none => exact namR_none hn
    | some u => rw [hn] at h; cases h
  · rename_i q
    rw [if_neg q] at h
    split
    · rename_i q2
      rw [if_pos q2] at h
      cases hq : quoP (s.drop 1) with
      | none => rw [quoR_none hq]
      | some u => obtain ⟨u, m⟩ := u; rw [hq] at h; cases h
    · rename_i q2
      rw [if_neg q2] at h
      cases hq : symP s with
      | none => unfold symR; rw [hq]
      | some u => rw [hq] at h; cases h
theorem scnN_scnG : ∀ (f : Nat) (s : Bs) (p : Int × Int), scnN f s p = scnG f s p
  | 0, s, p => rfl
  | f + 1, s, p => by
    rw [scnN, scnG]
    by_cases q : skpG false s = []
    · rw [if_pos q, if_pos q]
    rw [if_neg q, if_neg q]
    cases h : tokP (skpG false s) with
    | none =>
      rw [if_neg (by rw [nxtR_none h]; decide)]
    | some u =>
      obtain ⟨t, n⟩ := u
      rw [nxtR_some h, if_pos rfl, scnN_scnG f]
theorem scnB_scan (s : Bs) : scnB s = scan s := scnN_scnG _ s (1, 1)
end Go.Proofs.YtjilcaemoebloaaDoor

