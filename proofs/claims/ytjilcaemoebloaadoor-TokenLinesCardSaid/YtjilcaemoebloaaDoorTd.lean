/- Plain mathematics: how large tokens and prints are; alike. No program in sight. -/
import Derived.Test.YtjilcaemoebloaaDoorTc
namespace Go.Proofs.YtjilcaemoebloaaDoor
set_option linter.unusedSimpArgs false
set_option linter.unusedVariables false
set_option linter.unnecessarySimpa false
/-- A token as the program can hold it. -/
def TkOk (t : Tk) : Prop := (0 ≤ t.n ∧ t.n < 4294967296) ∧ t.text.length ≤ 4194304
theorem escC_len (c : UInt8) : (escC c).length ≤ 4 := by unfold escC; split <;> (try split) <;> simp
theorem flat_len (l : Bs) : (l.flatMap escC).length ≤ 4 * l.length := by
  induction l with
  | nil => simp
  | cons c l ih =>
    have h1 := escC_len c
    rw [List.flatMap_cons, List.length_append, List.length_cons]
    omega
theorem quoS_len (t : Bs) : (quoS t).length ≤ 4 * t.length + 2 := by
  have := flat_len t
  simp only [quoS, List.length_cons, List.length_append, List.length_nil]
  omega
theorem numS_len (v : Nat) (hv : v < 4294967296) : (numS v).length ≤ 10 := by
  unfold numS
  split
  · simp
  · have h4 := hexG_len 7 (v + 1) v (by omega) (by omega)
    simp only [List.length_cons]
    unfold hexS
    omega
theorem quoG_tlen : ∀ (f : Nat) {s t : Bs} {n : Nat}, quoG f s = some (t, n) → t.length ≤ n
  | 0, s, t, n, h => by simp [quoG] at h
  | f + 1, [], t, n, h => by simp [quoG] at h
  | f + 1, c :: r, t, n, h => by
    rw [quoG] at h
    split at h
    · cases h; simp
    split at h
    · split at h
      · cases h
      · rename_i x k hk
        split at h
        · cases h
        · rename_i t' m hm
          cases h
          have h1 := escP_len hk
          have h2 := quoG_tlen f hm
          simp only [List.length_cons]
          omega
    split at h
    · cases h
    · split at h
      · cases h
      · rename_i t' m hm
        cases h
        have h2 := quoG_tlen f hm
        simp only [List.length_cons]
        omega
/-- What is written of a token, and a blank. -/
def wdt (t : Tk) : Nat := (shw t).elim 0 fun w => w.length + 1
theorem zOk : (0 : Int) ≤ 0 ∧ (0 : Int) < 4294967296 := ⟨by decide, by decide⟩
theorem wdt_none {t : Tk} (h : shw t = none) : wdt t = 0 := by unfold wdt; rw [h]; rfl
theorem wdt_some {t : Tk} {w : Bs} (h : shw t = some w) : wdt t = w.length + 1 := by unfold wdt; rw [h]; rfl
theorem tokP_size {s : Bs} {t : Tk} {n : Nat} (h : tokP s = some (t, n)) : (0 ≤ t.n ∧ t.n < 4294967296) ∧ t.text.length ≤ n ∧ wdt t ≤ 15 * n := by
  have hn := tokP_len h
  unfold tokP at h
  split at h
  · split at h
    · rename_i q t' hN
      cases h
      unfold namP at hN
      split at hN
      · cases hN
        refine ⟨zOk, Nat.le_refl _, ?_⟩
        simp [wdt, shw]; omega
      split at hN
      · split at hN
        · cases hN
          refine ⟨zOk, Nat.le_refl _, ?_⟩
          simp [wdt, shw]; omega
        · cases hN
      · split at hN
        · rename_i v hv
          cases hN
          have hlt := valP_lt hv
          have := numS_len v hlt
          refine ⟨⟨by simp, by simp only; omega⟩, by simp, ?_⟩
          simp [wdt, shw]; omega
        · cases hN
    · cases h
  split at h
  · split at h
    · rename_i t' m hq
      cases h
      have h1 := quoG_tlen _ hq
      have h2 := quoS_len t'
      refine ⟨zOk, by simp only; omega, ?_⟩
      simp [wdt, shw]; omega
    · cases h
  · split at h
    · cases h
      refine ⟨zOk, Nat.le_refl _, ?_⟩
      simp [wdt, shw]; omega
    · cases h
theorem joinB_len : ∀ l : List Bs, (joinB l).length ≤ (l.map fun w => w.length + 1).sum
  | [] => by simp [joinB]
  | [x] => by simp [joinB]
  | x :: y :: r => by
    have := joinB_len (y :: r)
    rw [show joinB (x :: y :: r) = x ++ 32 :: joinB (y :: r) from rfl, List.length_append, List.length_cons, List.map_cons, List.sum_cons]
    omega
theorem prn_len (l : List Tk) : (prn l).length ≤ (l.map wdt).sum := by
  refine Nat.le_trans (joinB_len _) ?_
  induction l with
  | nil => simp
  | cons t l ih =>
    rw [List.filterMap_cons, List.map_cons, List.sum_cons]
    cases h : shw t with
    | none => rw [wdt_none h]; simp only; omega
    | some w => rw [wdt_some h]; simp only [List.map_cons, List.sum_cons]; omega
theorem scnG_size : ∀ (f : Nat) (s : Bs) (p : Int × Int), (∀ t ∈ (scnG f s p).1, (0 ≤ t.n ∧ t.n < 4294967296) ∧ t.text.length ≤ s.length) ∧ ((scnG f s p).1.map wdt).sum ≤ 15 * s.length
  | 0, s, p => ⟨fun t h => (by cases h), by simp [scnG]⟩
  | f + 1, s, p => by
    have h2 := skp_le false s
    rw [scnG]
    split
    · exact ⟨fun t h => (by cases h), by simp⟩
    split
    · refine ⟨fun t h => ?_, by simp [wdt, shw]⟩
      obtain rfl := List.mem_singleton.1 h
      exact ⟨zOk, by simp⟩
    · rename_i t n hk
      have h1 := tokP_len hk
      obtain ⟨k1, k2, k3⟩ := tokP_size hk
      obtain ⟨r1, r2⟩ := scnG_size f ((skpG false s).drop n) (advs (skq s p) ((skpG false s).take n))
      rw [List.length_drop] at r1 r2
      refine ⟨fun u hu => ?_, ?_⟩
      · rcases List.mem_cons.1 hu with rfl | hu
        · exact ⟨k1, by simp only [Tk.at_]; omega⟩
        · obtain ⟨r3, r4⟩ := r1 u hu
          exact ⟨r3, by omega⟩
      · rw [List.map_cons, List.sum_cons]
        have : wdt (t.at_ (skq s p)) = wdt t := rfl
        omega
theorem scan_ok {s : Bs} (h : s.length ≤ 4194304) : ∀ t ∈ (scan s).1, TkOk t := fun t ht => by
  obtain ⟨h1, h2⟩ := (scnG_size _ s (1, 1)).1 t ht
  exact ⟨h1, by omega⟩
theorem scan_prn_len (s : Bs) : (prn (scan s).1).length ≤ 15 * s.length := Nat.le_trans (prn_len _) (scnG_size _ s (1, 1)).2
/-- alike: the same but for the places. -/
def alk (a b : List Tk) : Bool := decide (a.map core = b.map core)
end Go.Proofs.YtjilcaemoebloaaDoor
