import Derived.Test.YtmbmmckagcdapaaGreatDoorK03
set_option linter.unusedSimpArgs false
set_option linter.unusedVariables false
set_option linter.unnecessarySimpa false
namespace Go.Proofs.YtmbmmckagcdapaaGreatDoor
theorem scnG_fuel : ∀ (f g : Nat) (s : Bs) (p : Int × Int), s.length < f → s.length < g → scnG f s p = scnG g s p
  | 0, _, s, p, h, _ => by omega
  | _, 0, s, p, _, h => by omega
  | f + 1, g + 1, s, p, hf, hg => by
    rw [scnG, scnG]; split
    · rfl
    rename_i q; split
    · rfl
    · rename_i t n hk
      have h1 := tokP_len hk; have h2 := skp_le false s; rw [scnG_fuel f g _ _ (by rw [List.length_drop]; omega) (by rw [List.length_drop]; omega)]
theorem scnG_blanks : ∀ (b : Bs), (∀ c ∈ b, isS c = true) → ∀ (f : Nat) (s : Bs) (p : Int × Int), scnG f (b ++ s) p = scnG f s (advs p b)
  | [], _, f, s, p => rfl
  | c :: b, h, f, s, p => by
    rw [List.cons_append, scnG_blank (h c (by simp)), scnG_blanks b (fun d hd => h d (by simp [hd]))]
    rfl
theorem skp_comment : ∀ (b : Bs), (∀ c ∈ b, c ≠ 10) → ∀ s, skpG true (b ++ 10 :: s) = skpG false s
  | [], _, s => by rw [List.nil_append, skpG, if_pos (by decide)]
  | c :: b, h, s => by
    rw [List.cons_append, skpG, if_neg (show ¬ c.toNat = 10 from fun q => h c (by simp) (toNat_inj q)), skp_comment b fun d hd => h d (by simp [hd])]
theorem scnG_comment (b : Bs) (h : ∀ c ∈ b, c ≠ 10) (f : Nat) (s : Bs) (p : Int × Int) : scnG f (47 :: 47 :: (b ++ 10 :: s)) p = scnG f s (advs p (47 :: 47 :: (b ++ [10]))) := by
  have h1 : skpG false (47 :: 47 :: (b ++ 10 :: s)) = skpG false s := by
    rw [skpG, if_neg (by decide), if_pos ⟨by decide, rfl⟩, skpG, if_neg (by decide), skp_comment b h]
  cases f with
  | zero => rfl
  | succ f =>
    have h2 := skp_le false s
    have hq : skq (47 :: 47 :: (b ++ 10 :: s)) p = skq s (advs p (47 :: 47 :: (b ++ [10]))) := by
      unfold skq; rw [h1]; have e : 47 :: 47 :: (b ++ 10 :: s) = (47 :: 47 :: (b ++ [10])) ++ s := by simp
      rw [e, List.length_append, show (47 :: 47 :: (b ++ [10])).length + s.length - (skpG false s).length = (47 :: 47 :: (b ++ [10])).length + (s.length - (skpG false s).length) by omega, List.take_length_add_append]
      unfold advs; rw [List.foldl_append]
    rw [scnG, scnG, h1, hq]
theorem advs_app (p : Int × Int) (a b : Bs) : advs p (a ++ b) = advs (advs p a) b := by unfold advs; rw [List.foldl_append]
def tailB : Bs := [10, 47, 47, 32, 41]
theorem skp_tail : ∀ (b : Bool) (s : Bs), skpG b (s ++ tailB) = if skpG b s = [] then [] else skpG b s ++ tailB
  | true, [] => rfl
  | false, [] => rfl
  | true, c :: r => by
    rw [List.cons_append, skpG, skpG]; split
    · exact skp_tail false r
    · exact skp_tail true r
  | false, c :: r => by
    rw [List.cons_append, skpG, skpG]; split
    · exact skp_tail false r
    rename_i q
    by_cases q2 : c.toNat = 47 ∧ r.head? = some 47
    · rw [if_pos q2, if_pos ⟨q2.1, by cases r with | nil => cases q2.2 | cons d r => exact q2.2⟩]
      exact skp_tail true r
    · rw [if_neg q2, if_neg (fun h => q2 ⟨h.1, by cases r with | nil => cases h.2 | cons d r => exact h.2⟩), if_neg (by simp)]
      rfl
theorem scn_tail : ∀ (f : Nat) (s : Bs) (p : Int × Int), s.length < f → (scnG f s p).2 = true → (scnG f (s ++ tailB) p).2 = true ∧ (scnG f (s ++ tailB) p).1.map core = (scnG f s p).1.map core
  | 0, s, p, hf, h => by omega
  | f + 1, s, p, hf, h => by
    rw [scnG] at h; rw [scnG, scnG, skp_tail]
    by_cases q : skpG false s = []
    · rw [if_pos q, if_pos rfl, if_pos q]
      exact ⟨rfl, rfl⟩
    rw [if_neg q] at h; rw [if_neg q, if_neg (by simp [q]), if_neg q]
    cases hk : tokP (skpG false s) with
    | none => rw [hk] at h; cases h
    | some x =>
      obtain ⟨t, n⟩ := x; rw [hk] at h; have h1 := tokP_len hk; have h2 := skp_le false s; rw [tokP_tail hk (show sepB tailB = true from rfl)]
      simp only; rw [List.drop_append_of_le_length h1.2, List.take_append_of_le_length h1.2]
      have key : ∀ p q : Int × Int, (scnG f ((skpG false s).drop n) p).2 = true → (scnG f ((skpG false s).drop n ++ tailB) q).2 = true ∧ (scnG f ((skpG false s).drop n ++ tailB) q).1.map core = (scnG f ((skpG false s).drop n) p).1.map core := fun p q h => by
        have e := scnG_pos f ((skpG false s).drop n) p q; obtain ⟨k1, k2⟩ := scn_tail f ((skpG false s).drop n) q (by rw [List.length_drop]; omega) (by rw [← e.2]; exact h)
        exact ⟨k1, k2.trans e.1.symm⟩
      obtain ⟨k1, k2⟩ := key _ (advs (skq (s ++ tailB) p) ((skpG false s).take n)) h; refine ⟨k1, ?_⟩; rw [List.map_cons, List.map_cons, k2]; rfl
where
  scnG_pos : ∀ (f : Nat) (s : Bs) (p q : Int × Int), (scnG f s p).1.map core = (scnG f s q).1.map core ∧ (scnG f s p).2 = (scnG f s q).2
    | 0, s, p, q => ⟨rfl, rfl⟩
    | f + 1, s, p, q => by
      rw [scnG, scnG]; split
      · exact ⟨rfl, rfl⟩
      split
      · exact ⟨rfl, rfl⟩
      · rename_i t n _
        obtain ⟨h1, h2⟩ := scnG_pos f ((skpG false s).drop n) (advs (skq s p) ((skpG false s).take n)) (advs (skq s q) ((skpG false s).take n)); refine ⟨?_, h2⟩; rw [List.map_cons, List.map_cons, h1]; rfl
theorem scan_len (s : Bs) : (scan s).1.length ≤ s.length := by
  have h : ∀ (f : Nat) (s : Bs) (p : Int × Int), (scnG f s p).1.length ≤ s.length := by
    intro f
    induction f with
    | zero => intro s p; simp [scnG]
    | succ f ih =>
      intro s p; have h2 := skp_le false s; rw [scnG]; split
      · simp
      rename_i q; have h3 := List.length_pos_iff.2 q; split
      · simp; omega
      · rename_i t n hk
        have h1 := tokP_len hk; have := ih ((skpG false s).drop n) (advs (skq s p) ((skpG false s).take n)); rw [List.length_drop] at this; simp only [List.length_cons]; omega
  exact h _ s _
end Go.Proofs.YtmbmmckagcdapaaGreatDoor
