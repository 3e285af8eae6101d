/- Plain: scanning by nxtR. -/
import Derived.Test.YtjilcaemoebloaaDoorHv
import Derived.Test.YtjilcaemoebloaaDoorT12
namespace Go.Proofs.YtjilcaemoebloaaDoor
set_option linter.unusedSimpArgs false
set_option linter.unusedVariables false
set_option linter.unnecessarySimpa false
open Go.RowKit
theorem skp_idem : ∀ (s : Bs) (b : Bool), skpG false (skpG b s) = skpG b s
  | [], b => by cases b <;> rfl
  | c :: r, true => by
    by_cases h : c.toNat = 10
    · have e : skpG true (c :: r) = skpG false r := by rw [skpG, if_pos h]
      rw [e]; exact skp_idem r false
    · have e : skpG true (c :: r) = skpG true r := by rw [skpG, if_neg h]
      rw [e]; exact skp_idem r true
  | c :: r, false => by
    by_cases h1 : isS c = true
    · have e : skpG false (c :: r) = skpG false r := by rw [skpG, if_pos h1]
      rw [e]; exact skp_idem r false
    · by_cases h2 : c.toNat = 47 ∧ r.head? = some 47
      · have e : skpG false (c :: r) = skpG true r := by rw [skpG, if_neg h1, if_pos h2]
        rw [e]; exact skp_idem r true
      · have e : skpG false (c :: r) = c :: r := by rw [skpG, if_neg h1, if_neg h2]
        rw [e, e]
theorem skp_suf : ∀ (s : Bs) (b : Bool), skpG b s <:+ s
  | [], b => by cases b <;> exact List.suffix_refl _
  | c :: r, true => by
    by_cases h : c.toNat = 10
    · have e : skpG true (c :: r) = skpG false r := by rw [skpG, if_pos h]
      rw [e]; exact (skp_suf r false).trans (List.suffix_cons c r)
    · have e : skpG true (c :: r) = skpG true r := by rw [skpG, if_neg h]
      rw [e]; exact (skp_suf r true).trans (List.suffix_cons c r)
  | c :: r, false => by
    by_cases h1 : isS c = true
    · have e : skpG false (c :: r) = skpG false r := by rw [skpG, if_pos h1]
      rw [e]; exact (skp_suf r false).trans (List.suffix_cons c r)
    · by_cases h2 : c.toNat = 47 ∧ r.head? = some 47
      · have e : skpG false (c :: r) = skpG true r := by rw [skpG, if_neg h1, if_pos h2]
        rw [e]; exact (skp_suf r true).trans (List.suffix_cons c r)
      · have e : skpG false (c :: r) = c :: r := by rw [skpG, if_neg h1, if_neg h2]
        rw [e]; exact List.suffix_refl _
theorem skq_idem {x : Bs} (h : skpG false x = x) (q : Int × Int) : skq x q = q := by
  unfold skq
  rw [h, Nat.sub_self, List.take_zero]
  rfl
theorem quoR_len {r : Bs} (h : (quoR r).2.2 = true) : 1 ≤ (quoR r).2.1 ∧ (quoR r).2.1 ≤ r.length + 1 := by
  cases hq : quoP r with
  | none => rw [quoR_none hq] at h; cases h
  | some p =>
    obtain ⟨t, m⟩ := p
    rw [quoR_some hq]
    have := quoG_len _ hq
    exact ⟨by simp, by simp only; omega⟩
theorem symP_pre {s op : Bs} (h : symP s = some op) : pre op s = true ∧ op ≠ [] := by
  unfold symP at h
  split at h
  · rename_i h1
    cases h
    exact ⟨(Bool.and_eq_true _ _ ▸ h1).1, by simp⟩
  split at h
  · rename_i h1
    cases h
    exact ⟨(Bool.and_eq_true _ _ ▸ h1).1, by simp⟩
  split at h
  · rename_i h1; cases h; exact ⟨h1, by simp⟩
  split at h
  · rename_i h1; cases h; exact ⟨h1, by simp⟩
  split at h
  · rename_i h1; cases h; exact ⟨h1, by simp⟩
  split at h
  · rename_i h1; cases h; exact ⟨h1, by simp⟩
  split at h
  · cases h
  · split at h
    · cases h; exact ⟨by simp [pre, List.isPrefixOf], by simp⟩
    · cases h
theorem nxtR_len {s : Bs} (h0 : s ≠ []) (h : (nxtR s).2.2 = true) : 1 ≤ (nxtR s).2.1 ∧ (nxtR s).2.1 ≤ s.length := by
  unfold nxtR at h ⊢
  split
  · rename_i h1
    exact ⟨h1, (List.takeWhile_prefix isW).length_le⟩
  · rename_i h1
    rw [if_neg h1] at h
    have hs : 1 ≤ s.length := by cases s with
      | nil => exact absurd rfl h0
      | cons c r => simp
    split
    · rename_i h2
      rw [if_pos h2] at h
      have := quoR_len h
      rw [List.length_drop] at this
      exact ⟨this.1, by simp only; omega⟩
    · rename_i h2
      rw [if_neg h2] at h
      unfold symR at h ⊢
      cases hs : symP s with
      | none => rw [hs] at h; cases h
      | some op =>
        obtain ⟨h3, h4⟩ := symP_pre hs
        simp only
        obtain ⟨x, rfl⟩ := pre_iff.1 h3
        refine ⟨?_, by simp⟩
        cases op with
        | nil => exact absurd rfl h4
        | cons c r => simp
/-- All tokens, by nxtR. -/
def scnN : Nat → Bs → Int × Int → List Tk × Bool
  | 0, _, _ => ([], true)
  | f + 1, s, p => if skpG false s = [] then ([], true)
    else if (nxtR (skpG false s)).2.2 then ((nxtR (skpG false s)).1.at_ (skq s p) :: (scnN f ((skpG false s).drop (nxtR (skpG false s)).2.1) (advs (skq s p) ((skpG false s).take (nxtR (skpG false s)).2.1))).1, (scnN f ((skpG false s).drop (nxtR (skpG false s)).2.1) (advs (skq s p) ((skpG false s).take (nxtR (skpG false s)).2.1))).2)
    else ([⟨6, [], 0, (skq s p).1, (skq s p).2⟩], false)
def scnB (s : Bs) : List Tk × Bool := scnN (s.length + 1) s (1, 1)
theorem scnN_skp (f : Nat) (s : Bs) (p : Int × Int) : scnN f s p = scnN f (skpG false s) (skq s p) := by
  cases f with
  | zero => rfl
  | succ f =>
    unfold scnN
    rw [skp_idem, skq_idem (skp_idem s false)]
theorem scnN_nil (f : Nat) (p : Int × Int) : scnN f [] p = ([], true) := by
  cases f with
  | zero => rfl
  | succ f => unfold scnN; rw [if_pos (show skpG false [] = [] from rfl)]
theorem scnN_ok {f : Nat} {x : Bs} (hx : skpG false x = x) (h0 : x ≠ []) (h : (nxtR x).2.2 = true) (q : Int × Int) : scnN (f + 1) x q = ((nxtR x).1.at_ q :: (scnN f (x.drop (nxtR x).2.1) (advs q (x.take (nxtR x).2.1))).1, (scnN f (x.drop (nxtR x).2.1) (advs q (x.take (nxtR x).2.1))).2) := by
  conv => lhs; unfold scnN
  rw [hx, skq_idem hx, if_neg h0, if_pos h]
theorem scnN_no {f : Nat} {x : Bs} (hx : skpG false x = x) (h0 : x ≠ []) (h : (nxtR x).2.2 = false) (q : Int × Int) : scnN (f + 1) x q = ([⟨6, [], 0, q.1, q.2⟩], false) := by
  conv => lhs; unfold scnN
  rw [hx, skq_idem hx, if_neg h0, if_neg (by rw [h]; decide)]
end Go.Proofs.YtjilcaemoebloaaDoor

