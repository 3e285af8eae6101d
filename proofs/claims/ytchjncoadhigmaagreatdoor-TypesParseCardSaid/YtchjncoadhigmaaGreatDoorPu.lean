/- Plain law: how the text of a type is read. -/
import Derived.Test.YtchjncoadhigmaaGreatDoorPt
import Derived.Lib.Atoi
namespace Go.Proofs.YtchjncoadhigmaaGreatDoor
set_option linter.unusedSimpArgs false
set_option linter.unusedVariables false
set_option linter.unnecessarySimpa false
/-- Skips a text, if it comes next. -/
def accP (p l : Bs) : Bs := if p.isPrefixOf l then l.drop p.length else l
def isDig (b : UInt8) : Bool := decide (48 ≤ b.toNat) && decide (b.toNat ≤ 57)
/-- How many digits there are. -/
def digs : Bs → Nat
  | [] => 0
  | b :: r => if isDig b then digs r + 1 else 0
theorem digs_le : ∀ l : Bs, digs l ≤ l.length
  | [] => Nat.le_refl _
  | b :: r => by
    have := digs_le r
    unfold digs
    split
    · simp; exact this
    · omega
theorem digs_all : ∀ {l : Bs} {b : UInt8}, b ∈ l.take (digs l) → isDig b = true
  | [], b, h => by simp at h
  | x :: r, b, h => by
    unfold digs at h
    split at h
    · rename_i hx
      rw [List.take_succ_cons] at h
      rcases List.mem_cons.1 h with rfl | h
      · exact hx
      · exact digs_all h
    · simp at h
theorem digs_at : ∀ {l : Bs} {n : Nat}, n < digs l → ∃ b, l[n]? = some b ∧ isDig b = true
  | [], n, h => by simp [digs] at h
  | x :: r, n, h => by
    unfold digs at h
    split at h
    · rename_i hx
      cases n with
      | zero => exact ⟨x, rfl, hx⟩
      | succ n => exact digs_at (l := r) (n := n) (by omega)
    · omega
theorem digs_end : ∀ {l : Bs} {b : UInt8}, l[digs l]? = some b → isDig b = false
  | [], b, h => by simp [digs] at h
  | x :: r, b, h => by
    unfold digs at h
    split at h
    · exact digs_end (l := r) h
    · rename_i hx
      have : x = b := by simpa using h
      subst this
      simpa using hx
theorem decFrom_digs : ∀ (l : Bs) (a : Nat), (∀ b ∈ l, isDig b = true) → ∃ n, Lib.decFrom a l = some n
  | [], a, _ => ⟨a, rfl⟩
  | b :: r, a, h => by
    have hb := h b (by simp)
    unfold isDig at hb
    simp only [Bool.and_eq_true, decide_eq_true_eq] at hb
    have : Lib.digitVal b = some (b.toNat - 48) := if_pos hb
    obtain ⟨n, hn⟩ := decFrom_digs r (a * 10 + (b.toNat - 48)) fun x hx => h x (by simp [hx])
    exact ⟨n, by simp only [Lib.decFrom, this]; exact hn⟩
/-- The number that digits spell. -/
def numV (l : Bs) : Int := (Lib.atoi l).getD 0
theorem numV_eq {l : Bs} (h : ∀ b ∈ l, isDig b = true) (h0 : l ≠ []) : Lib.atoi l = some (numV l) ∧ 0 ≤ numV l := by
  cases l with
  | nil => exact absurd rfl h0
  | cons b r =>
    obtain ⟨n, hn⟩ := decFrom_digs (b :: r) 0 h
    have hb := h b (by simp)
    unfold isDig at hb
    simp only [Bool.and_eq_true, decide_eq_true_eq] at hb
    have h1 : ¬ (b == 45) = true := by intro e; have e := eq_of_beq e; subst e; exact absurd hb.1 (by decide)
    have h2 : ¬ (b == 43) = true := by intro e; have e := eq_of_beq e; subst e; exact absurd hb.1 (by decide)
    have e : Lib.atoi (b :: r) = some (n : Int) := by
      simp only [Lib.atoi, if_neg h1, if_neg h2]
      have : Lib.decNat (b :: r) = some n := by unfold Lib.decNat; simpa using hn
      rw [this]
      rfl
    refine ⟨by unfold numV; rw [e]; rfl, ?_⟩
    unfold numV
    rw [e]
    simp
theorem decFrom_lt : ∀ (l : Bs) (a n : Nat), Lib.decFrom a l = some n → n < (a + 1) * 10 ^ l.length
  | [], a, n, h => by
    have : a = n := by simpa [Lib.decFrom] using h
    simp; omega
  | b :: r, a, n, h => by
    simp only [Lib.decFrom] at h
    cases hd : Lib.digitVal b with
    | none => rw [hd] at h; cases h
    | some d =>
      rw [hd] at h
      have hd9 : d ≤ 9 := by
        unfold Lib.digitVal at hd
        split at hd
        · cases hd; omega
        · cases hd
      have := decFrom_lt r _ n h
      refine Nat.lt_of_lt_of_le this ?_
      rw [List.length_cons, Nat.pow_succ, Nat.mul_comm (10 ^ r.length) 10, ← Nat.mul_assoc]
      exact Nat.mul_le_mul_right _ (by omega)
theorem numV_lt {l : Bs} (h : ∀ b ∈ l, isDig b = true) (h0 : l ≠ []) (h6 : l.length ≤ 6) : numV l < 1000000 := by
  cases l with
  | nil => exact absurd rfl h0
  | cons b r =>
    obtain ⟨n, hn⟩ := decFrom_digs (b :: r) 0 h
    have hlt := decFrom_lt _ _ _ hn
    have hp : (0 + 1) * 10 ^ (b :: r).length ≤ 1000000 := by
      rw [Nat.zero_add, Nat.one_mul]
      exact Nat.le_trans (Nat.pow_le_pow_right (by decide) h6) (by decide)
    have hb := h b (by simp)
    unfold isDig at hb
    simp only [Bool.and_eq_true, decide_eq_true_eq] at hb
    have h1 : ¬ (b == 45) = true := by intro e; have e := eq_of_beq e; subst e; exact absurd hb.1 (by decide)
    have h2 : ¬ (b == 43) = true := by intro e; have e := eq_of_beq e; subst e; exact absurd hb.1 (by decide)
    have e : Lib.atoi (b :: r) = some (n : Int) := by
      simp only [Lib.atoi, if_neg h1, if_neg h2]
      have : Lib.decNat (b :: r) = some n := by unfold Lib.decNat; simpa using hn
      rw [this]
      rfl
    unfold numV
    rw [e]
    simp only [Option.getD_some]
    omega
/-- What is read, what is left, whether there was an error. -/
abbrev Rdr (α : Type) := α × Bs × Bool
/-- Is there no number here? -/
def noNum (l : Bs) : Bool := digs l == 0 || decide (6 < digs l) || (decide (1 < digs l) && l.headD 0 == 48)
def numP (l : Bs) (b : Bool) : Rdr Int := if noNum l then (0, l, true) else (numV (l.take (digs l)), l.drop (digs l), b)
/-- A text that must come next. -/
def needP (p l : Bs) (b : Bool) : Bs × Bool := (accP p l, b || !p.isPrefixOf l)
def intP (l : Bs) (b : Bool) : Rdr Ty :=
  let k : Int := if [117].isPrefixOf l then 2 else 1
  let l2 := accP [105, 110, 116] (accP [117] l)
  let b2 := b || ![105, 110, 116].isPrefixOf (accP [117] l)
  if [56].isPrefixOf l2 then (.mk 0 k 1 0 [] [], accP [56] l2, b2) else if [49, 54].isPrefixOf l2 then (.mk 0 k 2 0 [] [], accP [49, 54] l2, b2)
  else if [51, 50].isPrefixOf l2 then (.mk 0 k 4 0 [] [], accP [51, 50] l2, b2) else (tz, l2, true)
def rdS (rd : Bs → Bool → Rdr Ty) (fl : List Ty → Bs → Bool → Rdr (List Ty)) (l : Bs) (b : Bool) : Rdr Ty :=
  if b then intP l b else if [63].isPrefixOf l then (tz, l.drop 1, b) else if [97, 110, 121].isPrefixOf l then (.mk 0 6 0 0 [] [], l.drop 3, b)
  else if [42].isPrefixOf l then let r := rd (l.drop 1) b; (.mk 0 3 0 0 [r.1] [], r.2)
  else if [91].isPrefixOf l then let n := numP (l.drop 1) b; let q := needP [93] n.2.1 n.2.2; let r := rd q.1 q.2; (.mk 0 4 0 n.1 [r.1] [], r.2)
  else if [123].isPrefixOf l then let l1 := l.drop 1
    if [125].isPrefixOf l1 then (.mk 0 5 0 0 [] [], l1.drop 1, b) else let r := fl [] l1 b; (.mk 0 5 0 0 [] r.1, r.2)
  else intP l b
def flS (rd : Bs → Bool → Rdr Ty) (fl : List Ty → Bs → Bool → Rdr (List Ty)) (out : List Ty) (l : Bs) (b : Bool) : Rdr (List Ty) :=
  if b then ([], l, b) else
    let n := numP l b; let q := needP [58, 32] n.2.1 n.2.2; let r := rd q.1 q.2
    if [125].isPrefixOf r.2.1 then (out ++ [r.1.at_ n.1], r.2.1.drop 1, r.2.2) else let s := needP [44, 32] r.2.1 r.2.2; fl (out ++ [r.1.at_ n.1]) s.1 s.2
/-- Reading, with as many steps as n. -/
def rdn : Nat → (Bs → Bool → Rdr Ty) × (List Ty → Bs → Bool → Rdr (List Ty))
  | 0 => (fun l _ => (tz, l, true), fun _ l _ => ([], l, true))
  | n + 1 => (rdS (rdn n).1 (rdn n).2, flS (rdn n).1 (rdn n).2)
/-- What Parse answers. -/
def psT (l : Bs) : Ty × Int :=
  if 65536 < l.length then (tz, 6) else
    let r := (rdn (l.length + 2)).1 l false
    if r.2.2 || !r.2.1.isEmpty then (tz, 3) else if chk r.1 ≠ 0 then (tz, chk r.1) else (r.1, 0)
end Go.Proofs.YtchjncoadhigmaaGreatDoor
