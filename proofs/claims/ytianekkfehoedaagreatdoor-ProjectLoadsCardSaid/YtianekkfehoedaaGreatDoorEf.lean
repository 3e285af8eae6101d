/- Plain law: the reader of the reference's projects beside the program's. -/
import Derived.Test.YtianekkfehoedaaGreatDoorEr
namespace Go.Proofs.YtianekkfehoedaaGreatDoor
set_option linter.unusedSimpArgs false
set_option linter.unusedVariables false
/-- A number of w bytes. -/
def rdB (b : Bs) (a w : Nat) : Nat := vaB ((b.drop a).take w)
theorem rdB_lt (b : Bs) (a w : Nat) : rdB b a w < 256 ^ w := by
  have h := vaB_lt ((b.drop a).take w)
  have h2 : ((b.drop a).take w).length ≤ w := List.length_take_le _ _
  exact Nat.lt_of_lt_of_le h (Nat.pow_le_pow_right (by decide) h2)
theorem nu_ok {b : Bs} {a w : Nat} (h : a + w ≤ b.length) : nuN b w a false = (rdB b a w, a + w, false) := by
  unfold nuN tkN rdB
  rw [if_neg (by simp; omega)]
theorem nu_bad {b : Bs} {a w : Nat} {s : Bool} (h : s = true ∨ b.length - a < w) : (nuN b w a s).2 = (a, true) := by
  unfold nuN tkN
  rw [if_pos h]
theorem tk_ok {b : Bs} {a n : Nat} (h : a + n ≤ b.length) : tkN b n a false = ((b.drop a).take n, a + n, false) := by
  unfold tkN
  rw [if_neg (by simp; omega)]
def enR (b : Bs) (a : Nat) : En := ⟨rdB b a 1, rdB b (a + 5) 2, rdB b (a + 1) 4, (b.drop (a + 9)).take (rdB b (a + 7) 2)⟩
theorem en_ok {b : Bs} {a : Nat} (h : a + 9 + rdB b (a + 7) 2 ≤ b.length) : enN b a false = (enR b a, a + 9 + rdB b (a + 7) 2, false) := by
  have q1 := nu_ok (b := b) (a := a) (w := 1) (by omega)
  have q2 := nu_ok (b := b) (a := a + 1) (w := 4) (by omega)
  have q3 := nu_ok (b := b) (a := a + 1 + 4) (w := 2) (by omega)
  have q4 := nu_ok (b := b) (a := a + 1 + 4 + 2) (w := 2) (by omega)
  have q5 := tk_ok (b := b) (a := a + 1 + 4 + 2 + 2) (n := rdB b (a + 7) 2) (by omega)
  have q4' : nuN b 2 (a + 1 + 4 + 2) false = (rdB b (a + 7) 2, a + 1 + 4 + 2 + 2, false) := q4
  unfold enN
  simp only [q1, q2, q3, q4', q5]
  rfl
theorem nu_short {b : Bs} {w a : Nat} {s : Bool} (h : (nuN b w a s).2.2 = false) : s = false ∧ w ≤ b.length - a ∧ nuN b w a s = (rdB b a w, a + w, false) := by
  unfold nuN at h ⊢
  obtain ⟨h1, h2, h3⟩ := tkN_short b w a s h
  exact ⟨h1, h2, by rw [h3]; rfl⟩
theorem en_back {b : Bs} {a : Nat} {s : Bool} (h : (enN b a s).2.2 = false) : s = false ∧ 9 ≤ b.length - a ∧ rdB b (a + 7) 2 ≤ b.length - (a + 9) := by
  unfold enN at h
  dsimp only at h
  obtain ⟨a5, b5, -⟩ := tkN_short _ _ _ _ h
  obtain ⟨a4, b4, c4⟩ := nu_short a5
  obtain ⟨a3, b3, c3⟩ := nu_short a4
  obtain ⟨a2, b2, c2⟩ := nu_short a3
  obtain ⟨a1, b1, c1⟩ := nu_short a2
  rw [c4] at b5
  dsimp only at b5
  rw [c3] at b5 b4
  dsimp only at b5 b4
  rw [c2] at b5 b4 b3
  dsimp only at b5 b4 b3
  rw [c1] at b5 b4 b3 b2
  dsimp only at b5 b4 b3 b2
  have b5' : rdB b (a + 7) 2 ≤ b.length - (a + 9) := b5
  exact ⟨a1, by omega, b5'⟩
theorem en_bad {b : Bs} {a : Nat} (h : b.length - a < 9 ∨ b.length - a - 9 < rdB b (a + 7) 2) : (enN b a false).2.2 = true := by
  cases hs : (enN b a false).2.2 with
  | true => rfl
  | false =>
    obtain ⟨-, h1, h2⟩ := en_back hs
    omega
theorem ls_true (b : Bs) : ∀ (n : Nat) (acc : List En) (a : Nat), lsN b n acc a true = (acc, a, true)
  | 0, _, _ => rfl
  | n + 1, _, _ => by rw [lsN, if_pos rfl]
theorem ls_step (b : Bs) (n : Nat) (acc : List En) (a : Nat) : lsN b (n + 1) acc a false = lsN b n (acc ++ [(enN b a false).1]) (enN b a false).2.1 (enN b a false).2.2 := by
  rw [lsN, if_neg (by decide)]
theorem ls_bad {b : Bs} {n : Nat} {acc : List En} {a : Nat} (h : b.length - a < 9 ∨ b.length - a - 9 < rdB b (a + 7) 2) : (lsN b (n + 1) acc a false).2.2 = true := by
  rw [ls_step, en_bad h, ls_true]
theorem ls_ok {b : Bs} {n : Nat} {acc : List En} {a : Nat} (h : a + 9 + rdB b (a + 7) 2 ≤ b.length) : lsN b (n + 1) acc a false = lsN b n (acc ++ [enR b a]) (a + 9 + rdB b (a + 7) 2) false := by
  rw [ls_step, en_ok h]
theorem take_split (b : Bs) (a i j : Nat) : (b.drop a).take (i + j) = (b.drop a).take i ++ (b.drop (a + i)).take j := by
  rw [List.take_add, List.drop_drop]
theorem leB_rd {b : Bs} {a w : Nat} (h : a + w ≤ b.length) : leB (rdB b a w) w = (b.drop a).take w := by
  have h1 : ((b.drop a).take w).length = w := by simp; omega
  have h2 := leB_vaB ((b.drop a).take w)
  rw [h1] at h2
  exact h2
theorem encE_enR {b : Bs} {a : Nat} (h : a + 9 + rdB b (a + 7) 2 ≤ b.length) : encE (enR b a) = (b.drop a).take (9 + rdB b (a + 7) 2) := by
  have hl : ((b.drop (a + 9)).take (rdB b (a + 7) 2)).length = rdB b (a + 7) 2 := by simp; omega
  unfold encE enR
  dsimp only
  rw [hl]
  simp only [Int.toNat_natCast]
  rw [leB_rd (by omega), leB_rd (by omega), leB_rd (by omega), leB_rd (by omega), ← take_split b (a + 7) 2, ← take_split b (a + 5) 2, ← take_split b (a + 1) 4, ← take_split b a 1]
  congr 1
  omega
theorem ls_inv {b : Bs} : ∀ {n : Nat} {acc : List En} {a : Nat}, a ≤ b.length → (lsN b n acc a false).2.2 = false → ∃ l : List En, (lsN b n acc a false).1 = acc ++ l ∧ l.length = n ∧ (lsN b n acc a false).2.1 = a + (encL l).length ∧ a + (encL l).length ≤ b.length ∧ encL l = (b.drop a).take (encL l).length ∧ ∀ e ∈ l, 0 ≤ e.addr ∧ e.addr < 4294967296
  | 0, acc, a, ha, _ => ⟨[], by simp [lsN], rfl, by simp [lsN, encL], by simpa [encL] using ha, by simp [encL], by simp⟩
  | n + 1, acc, a, ha, h => by
    cases hs : (enN b a false).2.2 with
    | true => rw [ls_step, hs, ls_true] at h; cases h
    | false =>
      obtain ⟨-, k1, k2⟩ := en_back hs
      have hz : a + 9 + rdB b (a + 7) 2 ≤ b.length := by omega
      rw [ls_ok hz] at h ⊢
      obtain ⟨l, q1, q2, q3, q4, q5, q6⟩ := ls_inv hz h
      have he := encE_enR hz
      have hl : (encE (enR b a)).length = 9 + rdB b (a + 7) 2 := by rw [he]; simp; omega
      refine ⟨enR b a :: l, by rw [q1]; simp, by simp [q2], ?_, ?_, ?_, ?_⟩
      · rw [q3, encL, List.length_append, hl]; omega
      · rw [encL, List.length_append, hl]; omega
      · rw [encL, List.length_append, take_split, hl, ← Nat.add_assoc]
        exact congr (congrArg (· ++ ·) he) q5
      · intro e h'
        rcases List.mem_cons.1 h' with rfl | h'
        · have := rdB_lt b (a + 1) 4
          unfold enR
          dsimp only
          omega
        · exact q6 e h'
theorem ldF_ok : ∀ {l acc : List En}, AscE (acc ++ l) → (ldF acc l).1 = 0 → (ldF acc l).2 = acc ++ l
  | [], acc, _, _ => by simp [ldF]
  | e :: l, acc, ha, h => by
    have hb : ∀ x ∈ acc, ltE x e = true := fun x hx => (List.pairwise_append.1 ha).2.2 x hx e (by simp)
    rw [ldF] at h ⊢
    by_cases hE : eErr acc e = 0
    · rw [if_pos hE, eWith_snoc hb] at h ⊢
      have := ldF_ok (l := l) (acc := acc ++ [e]) (by simpa using ha) h
      simpa using this
    · rw [if_neg hE] at h; exact absurd h hE
theorem ldF_gd : ∀ {l acc : List En}, Gd acc → (∀ e ∈ l, 0 ≤ e.addr ∧ e.addr < 4294967296) → Gd (ldF acc l).2
  | [], acc, h, _ => by rw [ldF]; exact h
  | e :: l, acc, h, ha => by
    rw [ldF]
    split
    · rename_i hE
      exact ldF_gd (h.with_ hE (ha e (by simp))) fun x hx => ha x (by simp [hx])
    · exact Gd.nil
/-- What the reference asks, in its order. -/
theorem ldN_eq (b : Bs) : ldN b = if b.length < 6 ∨ (lsN b (rdB b 4 2) [] 6 false).2.2 = true ∨ b.length - (lsN b (rdB b 4 2) [] 6 false).2.1 < 2 then (5, []) else
    if b.take 4 ≠ magicB ∨ rdB b (lsN b (rdB b 4 2) [] 6 false).2.1 2 ≠ sumB (b.take (lsN b (rdB b 4 2) [] 6 false).2.1) ∨ (lsN b (rdB b 4 2) [] 6 false).2.1 + 2 ≠ b.length ∨ ascB (lsN b (rdB b 4 2) [] 6 false).1 = false then (4, []) else ldF [] (lsN b (rdB b 4 2) [] 6 false).1 := by
  unfold ldN
  dsimp only
  by_cases h6 : b.length < 6
  · have hc : (nuN b 2 (tkN b 4 0 false).2.1 (tkN b 4 0 false).2.2).2.2 = true := by
      cases hs : (nuN b 2 (tkN b 4 0 false).2.1 (tkN b 4 0 false).2.2).2.2 with
      | true => rfl
      | false =>
        obtain ⟨k1, k2, -⟩ := nu_short hs
        obtain ⟨-, k4, k5⟩ := tkN_short _ _ _ _ k1
        rw [k5] at k2
        dsimp only at k2
        omega
    rw [hc, ls_true]
    dsimp only
    rw [nu_bad (.inl rfl), if_pos rfl, if_pos (.inl h6)]
  · have q1 := tk_ok (b := b) (a := 0) (n := 4) (by omega)
    have q2 := nu_ok (b := b) (a := 4) (w := 2) (by omega)
    rw [List.drop_zero, Nat.zero_add] at q1
    rw [q1]
    dsimp only
    rw [q2]
    dsimp only
    generalize lsN b (rdB b 4 2) [] (4 + 2) false = l
    obtain ⟨l1, l2, l3⟩ := l
    dsimp only
    cases l3 with
    | true => rw [nu_bad (.inl rfl), if_pos rfl, if_pos (.inr (.inl rfl))]
    | false =>
      by_cases h2 : b.length - l2 < 2
      · rw [nu_bad (.inr h2), if_pos rfl, if_pos (.inr (.inr h2))]
      · rw [nu_ok (by omega)]
        dsimp only
        rw [if_neg (by decide), if_neg (c := b.length < 6 ∨ false = true ∨ b.length - l2 < 2)]
        simp [h6, h2]
theorem ld_back {b : Bs} (h : (ldN b).1 = 0) : saveB (ldN b).2 = b ∧ Gd (ldN b).2 := by
  rw [ldN_eq] at h ⊢
  split at h
  · cases h
  rename_i h1
  rw [if_neg h1]
  split at h
  · cases h
  rename_i h2
  rw [if_neg h2]
  simp only [not_or, Decidable.not_not, Nat.not_lt, Bool.not_eq_true, Bool.not_eq_false] at h1 h2
  obtain ⟨n6, n7, n8⟩ := h1
  obtain ⟨m1, m2, m3, m4⟩ := h2
  obtain ⟨l, q1, q2, q3, q4, q5, q6⟩ := ls_inv (b := b) (a := 6) (by omega) n7
  rw [List.nil_append] at q1
  rw [q1] at m4 h ⊢
  rw [q3] at m2 m3
  have hok := ldF_ok (l := l) (acc := []) (by simpa using ascB_iff.1 m4) h
  rw [List.nil_append] at hok
  refine ⟨?_, ldF_gd Gd.nil q6⟩
  rw [hok]
  have hb : bodyB l = b.take (6 + (encL l).length) := by
    unfold bodyB
    rw [q2, leB_rd (by omega), ← m1, q5, List.length_take, List.length_drop, Nat.min_eq_left (by omega)]
    have s1 := take_split b 4 2 (encL l).length
    have s2 := take_split b 0 4 (2 + (encL l).length)
    rw [List.drop_zero, Nat.zero_add] at s2
    rw [← s1, ← s2]
    congr 1
    omega
  unfold saveB
  rw [hb, ← m2, leB_rd (by omega), List.take_of_length_le (l := b.drop _) (by simp; omega), List.take_append_drop]
end Go.Proofs.YtianekkfehoedaaGreatDoor
