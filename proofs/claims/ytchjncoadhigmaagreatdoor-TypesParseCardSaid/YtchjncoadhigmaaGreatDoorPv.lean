/- Plain law: what reading leaves, and that what it answers fits. -/
import Derived.Test.YtchjncoadhigmaaGreatDoorPu
import Derived.Test.YtchjncoadhigmaaGreatDoorYf
namespace Go.Proofs.YtchjncoadhigmaaGreatDoor
set_option linter.unusedSimpArgs false
set_option linter.unusedVariables false
set_option linter.unnecessarySimpa false
theorem accP_len (p l : Bs) : (accP p l).length ≤ l.length := by
  unfold accP
  split
  · rw [List.length_drop]; omega
  · exact Nat.le_refl _
theorem numP_len (l : Bs) (b : Bool) : (numP l b).2.1.length ≤ l.length ∧ ((numP l b).2.2 = false → b = false ∧ (numP l b).2.1.length < l.length) ∧ 0 ≤ (numP l b).1 ∧ (numP l b).1 < 1000000 := by
  have hd := digs_le l
  unfold numP
  by_cases h : noNum l = true
  · rw [if_pos h]
    exact ⟨Nat.le_refl _, fun h => (by cases h), Int.le_refl _, show (0 : Int) < 1000000 by decide⟩
  · rw [if_neg h]
    have h : ¬ (digs l == 0) = true ∧ ¬ (decide (6 < digs l)) = true := by
      unfold noNum at h
      simp only [Bool.or_eq_true] at h
      exact ⟨fun e => h (.inl (.inl e)), fun e => h (.inl (.inr e))⟩
    have h0 : digs l ≠ 0 := by simpa using h.1
    have h6 : digs l ≤ 6 := by simpa using h.2
    have hne : l.take (digs l) ≠ [] := by
      intro e
      have := congrArg List.length e
      rw [List.length_take, List.length_nil] at this
      omega
    have h1 : (l.drop (digs l)).length < l.length := by rw [List.length_drop]; omega
    exact ⟨Nat.le_of_lt h1, fun hb => ⟨hb, h1⟩, (numV_eq (fun b hb => digs_all hb) hne).2, numV_lt (fun b hb => digs_all hb) hne (by rw [List.length_take]; omega)⟩
theorem needP_len (p l : Bs) (b : Bool) : (needP p l b).1.length ≤ l.length ∧ ((needP p l b).2 = false → b = false) := by
  refine ⟨accP_len p l, fun h => ?_⟩
  unfold needP at h
  cases b with
  | true => simp at h
  | false => rfl
theorem tz_fit : fit tz := fit_mkc ⟨⟨by decide, by decide⟩, ⟨by decide, by decide⟩, ⟨by decide, by decide⟩, ⟨by decide, by decide⟩⟩ (by simp) (by simp) (by simp) (by simp)
theorem intP_len (l : Bs) (b : Bool) : (intP l b).2.1.length ≤ l.length ∧ ((intP l b).2.2 = false → b = false) ∧ fit (intP l b).1 := by
  have h2 : (accP [105, 110, 116] (accP [117] l)).length ≤ l.length := Nat.le_trans (accP_len _ _) (accP_len _ _)
  have hb : (b || ![105, 110, 116].isPrefixOf (accP [117] l)) = false → b = false := fun h => by cases b with
    | true => simp at h
    | false => rfl
  have hk : I64 (if [117].isPrefixOf l = true then 2 else 1) := by split <;> exact ⟨by decide, by decide⟩
  have z : I64 0 := ⟨by decide, by decide⟩
  unfold intP
  simp only
  split
  · exact ⟨Nat.le_trans (accP_len _ _) h2, hb, fit_mkc ⟨z, hk, ⟨by decide, by decide⟩, z⟩ (by simp) (by simp) (by simp) (by simp)⟩
  · split
    · exact ⟨Nat.le_trans (accP_len _ _) h2, hb, fit_mkc ⟨z, hk, ⟨by decide, by decide⟩, z⟩ (by simp) (by simp) (by simp) (by simp)⟩
    · split
      · exact ⟨Nat.le_trans (accP_len _ _) h2, hb, fit_mkc ⟨z, hk, ⟨by decide, by decide⟩, z⟩ (by simp) (by simp) (by simp) (by simp)⟩
      · exact ⟨h2, fun h => (by cases h), tz_fit⟩
theorem fit_atL {t : Ty} (h : fit t) {o : Int} (h0 : 0 ≤ o) (h1 : o < 1000000) : fit (t.at_ o) := fit_to h ⟨by omega, by omega⟩
theorem rdn_len : ∀ m, m ≤ 4000000 → (∀ l b, ((rdn m).1 l b).2.1.length ≤ l.length ∧ (((rdn m).1 l b).2.2 = false → b = false) ∧ fit ((rdn m).1 l b).1) ∧
    ∀ out l b, ((rdn m).2 out l b).2.1.length ≤ l.length ∧ (((rdn m).2 out l b).2.2 = false → b = false) ∧ ((rdn m).2 out l b).1.length ≤ out.length + m ∧ ((∀ t ∈ out, fit t) → ∀ t ∈ ((rdn m).2 out l b).1, fit t) := by
  intro m
  have z : I64 0 := ⟨by decide, by decide⟩
  induction m with
  | zero =>
    intro _
    exact ⟨fun l b => ⟨Nat.le_refl _, fun h => (by cases h), tz_fit⟩, fun out l b => ⟨Nat.le_refl _, fun h => (by cases h), by simp [rdn], fun _ t ht => (by cases ht)⟩⟩
  | succ m ih =>
    intro hm
    obtain ⟨i1, i2⟩ := ih (by omega)
    refine ⟨fun l b => ?_, fun out l b => ?_⟩
    · show (rdS (rdn m).1 (rdn m).2 l b).2.1.length ≤ l.length ∧ ((rdS (rdn m).1 (rdn m).2 l b).2.2 = false → b = false) ∧ fit (rdS (rdn m).1 (rdn m).2 l b).1
      unfold rdS
      have hd : ∀ n, (l.drop n).length ≤ l.length := fun n => by rw [List.length_drop]; omega
      split
      · exact intP_len l b
      · rename_i hb
        have hb : b = false := by simpa using hb
        split
        · exact ⟨hd 1, fun h => h, tz_fit⟩
        · split
          · exact ⟨hd 3, fun h => h, fit_mkc ⟨z, ⟨by decide, by decide⟩, z, z⟩ (by simp) (by simp) (by simp) (by simp)⟩
          · split
            · obtain ⟨j1, j2, j3⟩ := i1 (l.drop 1) b
              exact ⟨Nat.le_trans j1 (hd 1), j2, fit_mkc ⟨z, ⟨by decide, by decide⟩, z, z⟩ (by simp) (by simp) (by simpa using j3) (by simp)⟩
            · split
              · obtain ⟨n1, n2, n3, n4⟩ := numP_len (l.drop 1) b
                obtain ⟨q1, q2⟩ := needP_len [93] (numP (l.drop 1) b).2.1 (numP (l.drop 1) b).2.2
                obtain ⟨j1, j2, j3⟩ := i1 (needP [93] (numP (l.drop 1) b).2.1 (numP (l.drop 1) b).2.2).1 (needP [93] (numP (l.drop 1) b).2.1 (numP (l.drop 1) b).2.2).2
                exact ⟨Nat.le_trans j1 (Nat.le_trans q1 (Nat.le_trans n1 (hd 1))), fun _ => hb, fit_mkc ⟨z, ⟨by decide, by decide⟩, z, ⟨by omega, by omega⟩⟩ (by simp) (by simp) (by simpa using j3) (by simp)⟩
              · split
                · simp only
                  split
                  · exact ⟨by rw [List.length_drop, List.length_drop]; show _ ≤ _; omega, fun h => h, fit_mkc ⟨z, ⟨by decide, by decide⟩, z, z⟩ (by simp) (by simp) (by simp) (by simp)⟩
                  · obtain ⟨j1, j2, j3, j4⟩ := i2 [] (l.drop 1) b
                    exact ⟨Nat.le_trans j1 (hd 1), fun _ => hb, fit_mkc ⟨z, ⟨by decide, by decide⟩, z, z⟩ (by simp) (Nat.le_trans j3 (by simp; omega)) (by simp) (j4 (by simp))⟩
                · exact intP_len l b
    · show (flS (rdn m).1 (rdn m).2 out l b).2.1.length ≤ l.length ∧ ((flS (rdn m).1 (rdn m).2 out l b).2.2 = false → b = false) ∧ (flS (rdn m).1 (rdn m).2 out l b).1.length ≤ out.length + (m + 1) ∧ ((∀ t ∈ out, fit t) → ∀ t ∈ (flS (rdn m).1 (rdn m).2 out l b).1, fit t)
      unfold flS
      split
      · exact ⟨Nat.le_refl _, fun h => h, by simp, fun _ t ht => (by cases ht)⟩
      · rename_i hb
        have hb : b = false := by simpa using hb
        simp only
        obtain ⟨n1, n2, n3, n4⟩ := numP_len l b
        generalize numP l b = n at n1 n2 n3 n4 ⊢
        obtain ⟨q1, q2⟩ := needP_len [58, 32] n.2.1 n.2.2
        generalize needP [58, 32] n.2.1 n.2.2 = q at q1 q2 ⊢
        obtain ⟨j1, j2, j3⟩ := i1 q.1 q.2
        generalize (rdn m).1 q.1 q.2 = r at j1 j2 j3 ⊢
        have hl : r.2.1.length ≤ l.length := Nat.le_trans j1 (Nat.le_trans q1 n1)
        have hf := fit_atL j3 n3 n4
        split
        · exact ⟨by rw [List.length_drop]; omega, fun _ => hb, by simp, fun ho t ht => by
            rcases List.mem_append.1 ht with h | h
            · exact ho t h
            · rw [List.mem_singleton.1 h]; exact hf⟩
        · obtain ⟨s1, s2⟩ := needP_len [44, 32] r.2.1 r.2.2
          obtain ⟨k1, k2, k3, k4⟩ := i2 (out ++ [r.1.at_ n.1]) (needP [44, 32] r.2.1 r.2.2).1 (needP [44, 32] r.2.1 r.2.2).2
          refine ⟨Nat.le_trans k1 (Nat.le_trans s1 hl), fun _ => hb, by simp at k3; omega, fun ho => k4 fun t ht => ?_⟩
          rcases List.mem_append.1 ht with h | h
          · exact ho t h
          · rw [List.mem_singleton.1 h]; exact hf
theorem psT_fit (l : Bs) : fit (psT l).1 := by
  unfold psT
  split
  · exact tz_fit
  · rename_i hl
    simp only
    split
    · exact tz_fit
    · split
      · exact tz_fit
      · exact ((rdn_len (l.length + 2) (by omega)).1 l false).2.2
end Go.Proofs.YtchjncoadhigmaaGreatDoor
