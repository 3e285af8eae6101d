/- Plain law: how the text of a type is read. Plain law: what reading leaves, and that what it answers fits. Plain law: the entries of a project; how they are saved and read. Plain law: what calls do to a project; merging. -/
import Derived.Test.YtianekkfehoedaaGreatDoorPt
import Derived.Lib.Atoi
import Derived.Test.YtianekkfehoedaaGreatDoorZ0
import Derived.Test.YtianekkfehoedaaGreatDoorK2
namespace Go.Proofs.YtianekkfehoedaaGreatDoor
set_option linter.unusedSimpArgs false
set_option linter.unusedVariables false
set_option linter.unnecessarySimpa false
/-- Skips a text, if it comes next. -/
def accP (p l : Bs) : Bs := if p.isPrefixOf l then l.drop p.length else l
def isDig (b : UInt8) : Bool := decide (48 ≤ b.toNat) && decide (b.toNat ≤ 57)
/-- How many digits there are. -/
def digs : Bs → Nat
  | [] => 0
  | b :: r => if isDig b then digs r + 1 else 0
theorem digs_le : ∀ l : Bs, digs l ≤ l.length
  | [] => Nat.le_refl _
  | b :: r => by
    have := digs_le r
    unfold digs
    split
    · simp; exact this
    · omega
theorem digs_all : ∀ {l : Bs} {b : UInt8}, b ∈ l.take (digs l) → isDig b = true
  | [], b, h => by simp at h
  | x :: r, b, h => by
    unfold digs at h
    split at h
    · rename_i hx
      rw [List.take_succ_cons] at h
      rcases List.mem_cons.1 h with rfl | h
      · exact hx
      · exact digs_all h
    · simp at h
theorem digs_at : ∀ {l : Bs} {n : Nat}, n < digs l → ∃ b, l[n]? = some b ∧ isDig b = true
  | [], n, h => by simp [digs] at h
  | x :: r, n, h => by
    unfold digs at h
    split at h
    · rename_i hx
      cases n with
      | zero => exact ⟨x, rfl, hx⟩
      | succ n => exact digs_at (l := r) (n := n) (by omega)
    · omega
theorem digs_end : ∀ {l : Bs} {b : UInt8}, l[digs l]? = some b → isDig b = false
  | [], b, h => by simp [digs] at h
  | x :: r, b, h => by
    unfold digs at h
    split at h
    · exact digs_end (l := r) h
    · rename_i hx
      have : x = b := by simpa using h
      subst this
      simpa using hx
theorem decFrom_digs : ∀ (l : Bs) (a : Nat), (∀ b ∈ l, isDig b = true) → ∃ n, Lib.decFrom a l = some n
  | [], a, _ => ⟨a, rfl⟩
  | b :: r, a, h => by
    have hb := h b (by simp)
    unfold isDig at hb
    simp only [Bool.and_eq_true, decide_eq_true_eq] at hb
    have : Lib.digitVal b = some (b.toNat - 48) := if_pos hb
    obtain ⟨n, hn⟩ := decFrom_digs r (a * 10 + (b.toNat - 48)) fun x hx => h x (by simp [hx])
    exact ⟨n, by simp only [Lib.decFrom, this]; exact hn⟩
/-- The number that digits spell. -/
def numV (l : Bs) : Int := (Lib.atoi l).getD 0
theorem numV_eq {l : Bs} (h : ∀ b ∈ l, isDig b = true) (h0 : l ≠ []) : Lib.atoi l = some (numV l) ∧ 0 ≤ numV l := by
  cases l with
  | nil => exact absurd rfl h0
  | cons b r =>
    obtain ⟨n, hn⟩ := decFrom_digs (b :: r) 0 h
    have hb := h b (by simp)
    unfold isDig at hb
    simp only [Bool.and_eq_true, decide_eq_true_eq] at hb
    have h1 : ¬ (b == 45) = true := by intro e; have e := eq_of_beq e; subst e; exact absurd hb.1 (by decide)
    have h2 : ¬ (b == 43) = true := by intro e; have e := eq_of_beq e; subst e; exact absurd hb.1 (by decide)
    have e : Lib.atoi (b :: r) = some (n : Int) := by
      simp only [Lib.atoi, if_neg h1, if_neg h2]
      have : Lib.decNat (b :: r) = some n := by unfold Lib.decNat; simpa using hn
      rw [this]
      rfl
    refine ⟨by unfold numV; rw [e]; rfl, ?_⟩
    unfold numV
    rw [e]
    simp
theorem decFrom_lt : ∀ (l : Bs) (a n : Nat), Lib.decFrom a l = some n → n < (a + 1) * 10 ^ l.length
  | [], a, n, h => by
    have : a = n := by simpa [Lib.decFrom] using h
    simp; omega
  | b :: r, a, n, h => by
    simp only [Lib.decFrom] at h
    cases hd : Lib.digitVal b with
    | none => rw [hd] at h; cases h
    | some d =>
      rw [hd] at h
      have hd9 : d ≤ 9 := by
        unfold Lib.digitVal at hd
        split at hd
        · cases hd; omega
        · cases hd
      have := decFrom_lt r _ n h
      refine Nat.lt_of_lt_of_le this ?_
      rw [List.length_cons, Nat.pow_succ, Nat.mul_comm (10 ^ r.length) 10, ← Nat.mul_assoc]
      exact Nat.mul_le_mul_right _ (by omega)
theorem numV_lt {l : Bs} (h : ∀ b ∈ l, isDig b = true) (h0 : l ≠ []) (h6 : l.length ≤ 6) : numV l < 1000000 := by
  cases l with
  | nil => exact absurd rfl h0
  | cons b r =>
    obtain ⟨n, hn⟩ := decFrom_digs (b :: r) 0 h
    have hlt := decFrom_lt _ _ _ hn
    have hp : (0 + 1) * 10 ^ (b :: r).length ≤ 1000000 := by
      rw [Nat.zero_add, Nat.one_mul]
      exact Nat.le_trans (Nat.pow_le_pow_right (by decide) h6) (by decide)
    have hb := h b (by simp)
    unfold isDig at hb
    simp only [Bool.and_eq_true, decide_eq_true_eq] at hb
    have h1 : ¬ (b == 45) = true := by intro e; have e := eq_of_beq e; subst e; exact absurd hb.1 (by decide)
    have h2 : ¬ (b == 43) = true := by intro e; have e := eq_of_beq e; subst e; exact absurd hb.1 (by decide)
    have e : Lib.atoi (b :: r) = some (n : Int) := by
      simp only [Lib.atoi, if_neg h1, if_neg h2]
      have : Lib.decNat (b :: r) = some n := by unfold Lib.decNat; simpa using hn
      rw [this]
      rfl
    unfold numV
    rw [e]
    simp only [Option.getD_some]
    omega
/-- What is read, what is left, whether there was an error. -/
abbrev Rdr (α : Type) := α × Bs × Bool
/-- Is there no number here? -/
def noNum (l : Bs) : Bool := digs l == 0 || decide (6 < digs l) || (decide (1 < digs l) && l.headD 0 == 48)
def numP (l : Bs) (b : Bool) : Rdr Int := if noNum l then (0, l, true) else (numV (l.take (digs l)), l.drop (digs l), b)
/-- A text that must come next. -/
def needP (p l : Bs) (b : Bool) : Bs × Bool := (accP p l, b || !p.isPrefixOf l)
def intP (l : Bs) (b : Bool) : Rdr Ty :=
  let k : Int := if [117].isPrefixOf l then 2 else 1
  let l2 := accP [105, 110, 116] (accP [117] l)
  let b2 := b || ![105, 110, 116].isPrefixOf (accP [117] l)
  if [56].isPrefixOf l2 then (.mk 0 k 1 0 [] [], accP [56] l2, b2) else if [49, 54].isPrefixOf l2 then (.mk 0 k 2 0 [] [], accP [49, 54] l2, b2)
  else if [51, 50].isPrefixOf l2 then (.mk 0 k 4 0 [] [], accP [51, 50] l2, b2) else (tz, l2, true)
def rdS (rd : Bs → Bool → Rdr Ty) (fl : List Ty → Bs → Bool → Rdr (List Ty)) (l : Bs) (b : Bool) : Rdr Ty :=
  if b then intP l b else if [63].isPrefixOf l then (tz, l.drop 1, b) else if [97, 110, 121].isPrefixOf l then (.mk 0 6 0 0 [] [], l.drop 3, b)
  else if [42].isPrefixOf l then let r := rd (l.drop 1) b; (.mk 0 3 0 0 [r.1] [], r.2)
  else if [91].isPrefixOf l then let n := numP (l.drop 1) b; let q := needP [93] n.2.1 n.2.2; let r := rd q.1 q.2; (.mk 0 4 0 n.1 [r.1] [], r.2)
  else if [123].isPrefixOf l then let l1 := l.drop 1
    if [125].isPrefixOf l1 then (.mk 0 5 0 0 [] [], l1.drop 1, b) else let r := fl [] l1 b; (.mk 0 5 0 0 [] r.1, r.2)
  else intP l b
def flS (rd : Bs → Bool → Rdr Ty) (fl : List Ty → Bs → Bool → Rdr (List Ty)) (out : List Ty) (l : Bs) (b : Bool) : Rdr (List Ty) :=
  if b then ([], l, b) else
    let n := numP l b; let q := needP [58, 32] n.2.1 n.2.2; let r := rd q.1 q.2
    if [125].isPrefixOf r.2.1 then (out ++ [r.1.at_ n.1], r.2.1.drop 1, r.2.2) else let s := needP [44, 32] r.2.1 r.2.2; fl (out ++ [r.1.at_ n.1]) s.1 s.2
/-- Reading, with as many steps as n. -/
def rdn : Nat → (Bs → Bool → Rdr Ty) × (List Ty → Bs → Bool → Rdr (List Ty))
  | 0 => (fun l _ => (tz, l, true), fun _ l _ => ([], l, true))
  | n + 1 => (rdS (rdn n).1 (rdn n).2, flS (rdn n).1 (rdn n).2)
/-- What Parse answers. -/
def psT (l : Bs) : Ty × Int :=
  if 65536 < l.length then (tz, 6) else
    let r := (rdn (l.length + 2)).1 l false
    if r.2.2 || !r.2.1.isEmpty then (tz, 3) else if chk r.1 ≠ 0 then (tz, chk r.1) else (r.1, 0)
end Go.Proofs.YtianekkfehoedaaGreatDoor
namespace Go.Proofs.YtianekkfehoedaaGreatDoor
set_option linter.unusedSimpArgs false
set_option linter.unusedVariables false
set_option linter.unnecessarySimpa false
theorem accP_len (p l : Bs) : (accP p l).length ≤ l.length := by
  unfold accP
  split
  · rw [List.length_drop]; omega
  · exact Nat.le_refl _
theorem numP_len (l : Bs) (b : Bool) : (numP l b).2.1.length ≤ l.length ∧ ((numP l b).2.2 = false → b = false ∧ (numP l b).2.1.length < l.length) ∧ 0 ≤ (numP l b).1 ∧ (numP l b).1 < 1000000 := by
  have hd := digs_le l
  unfold numP
  by_cases h : noNum l = true
  · rw [if_pos h]
    exact ⟨Nat.le_refl _, fun h => (by cases h), Int.le_refl _, show (0 : Int) < 1000000 by decide⟩
  · rw [if_neg h]
    have h : ¬ (digs l == 0) = true ∧ ¬ (decide (6 < digs l)) = true := by
      unfold noNum at h
      simp only [Bool.or_eq_true] at h
      exact ⟨fun e => h (.inl (.inl e)), fun e => h (.inl (.inr e))⟩
    have h0 : digs l ≠ 0 := by simpa using h.1
    have h6 : digs l ≤ 6 := by simpa using h.2
    have hne : l.take (digs l) ≠ [] := by
      intro e
      have := congrArg List.length e
      rw [List.length_take, List.length_nil] at this
      omega
    have h1 : (l.drop (digs l)).length < l.length := by rw [List.length_drop]; omega
    exact ⟨Nat.le_of_lt h1, fun hb => ⟨hb, h1⟩, (numV_eq (fun b hb => digs_all hb) hne).2, numV_lt (fun b hb => digs_all hb) hne (by rw [List.length_take]; omega)⟩
theorem needP_len (p l : Bs) (b : Bool) : (needP p l b).1.length ≤ l.length ∧ ((needP p l b).2 = false → b = false) := by
  refine ⟨accP_len p l, fun h => ?_⟩
  unfold needP at h
  cases b with
  | true => simp at h
  | false => rfl
theorem tz_fit : fit tz := fit_mkc ⟨⟨by decide, by decide⟩, ⟨by decide, by decide⟩, ⟨by decide, by decide⟩, ⟨by decide, by decide⟩⟩ (by simp) (by simp) (by simp) (by simp)
theorem intP_len (l : Bs) (b : Bool) : (intP l b).2.1.length ≤ l.length ∧ ((intP l b).2.2 = false → b = false) ∧ fit (intP l b).1 := by
  have h2 : (accP [105, 110, 116] (accP [117] l)).length ≤ l.length := Nat.le_trans (accP_len _ _) (accP_len _ _)
  have hb : (b || ![105, 110, 116].isPrefixOf (accP [117] l)) = false → b = false := fun h => by cases b with
    | true => simp at h
    | false => rfl
  have hk : I64 (if [117].isPrefixOf l = true then 2 else 1) := by split <;> exact ⟨by decide, by decide⟩
  have z : I64 0 := ⟨by decide, by decide⟩
  unfold intP
  simp only
  split
  · exact ⟨Nat.le_trans (accP_len _ _) h2, hb, fit_mkc ⟨z, hk, ⟨by decide, by decide⟩, z⟩ (by simp) (by simp) (by simp) (by simp)⟩
  · split
    · exact ⟨Nat.le_trans (accP_len _ _) h2, hb, fit_mkc ⟨z, hk, ⟨by decide, by decide⟩, z⟩ (by simp) (by simp) (by simp) (by simp)⟩
    · split
      · exact ⟨Nat.le_trans (accP_len _ _) h2, hb, fit_mkc ⟨z, hk, ⟨by decide, by decide⟩, z⟩ (by simp) (by simp) (by simp) (by simp)⟩
      · exact ⟨h2, fun h => (by cases h), tz_fit⟩
theorem fit_atL {t : Ty} (h : fit t) {o : Int} (h0 : 0 ≤ o) (h1 : o < 1000000) : fit (t.at_ o) := fit_to h ⟨by omega, by omega⟩
theorem rdn_len : ∀ m, m ≤ 4000000 → (∀ l b, ((rdn m).1 l b).2.1.length ≤ l.length ∧ (((rdn m).1 l b).2.2 = false → b = false) ∧ fit ((rdn m).1 l b).1) ∧
    ∀ out l b, ((rdn m).2 out l b).2.1.length ≤ l.length ∧ (((rdn m).2 out l b).2.2 = false → b = false) ∧ ((rdn m).2 out l b).1.length ≤ out.length + m ∧ ((∀ t ∈ out, fit t) → ∀ t ∈ ((rdn m).2 out l b).1, fit t) := by
  intro m
  have z : I64 0 := ⟨by decide, by decide⟩
  induction m with
  | zero =>
    intro _
    exact ⟨fun l b => ⟨Nat.le_refl _, fun h => (by cases h), tz_fit⟩, fun out l b => ⟨Nat.le_refl _, fun h => (by cases h), by simp [rdn], fun _ t ht => (by cases ht)⟩⟩
  | succ m ih =>
    intro hm
    obtain ⟨i1, i2⟩ := ih (by omega)
    refine ⟨fun l b => ?_, fun out l b => ?_⟩
    · show (rdS (rdn m).1 (rdn m).2 l b).2.1.length ≤ l.length ∧ ((rdS (rdn m).1 (rdn m).2 l b).2.2 = false → b = false) ∧ fit (rdS (rdn m).1 (rdn m).2 l b).1
      unfold rdS
      have hd : ∀ n, (l.drop n).length ≤ l.length := fun n => by rw [List.length_drop]; omega
      split
      · exact intP_len l b
      · rename_i hb
        have hb : b = false := by simpa using hb
        split
        · exact ⟨hd 1, fun h => h, tz_fit⟩
        · split
          · exact ⟨hd 3, fun h => h, fit_mkc ⟨z, ⟨by decide, by decide⟩, z, z⟩ (by simp) (by simp) (by simp) (by simp)⟩
          · split
            · obtain ⟨j1, j2, j3⟩ := i1 (l.drop 1) b
              exact ⟨Nat.le_trans j1 (hd 1), j2, fit_mkc ⟨z, ⟨by decide, by decide⟩, z, z⟩ (by simp) (by simp) (by simpa using j3) (by simp)⟩
            · split
              · obtain ⟨n1, n2, n3, n4⟩ := numP_len (l.drop 1) b
                obtain ⟨q1, q2⟩ := needP_len [93] (numP (l.drop 1) b).2.1 (numP (l.drop 1) b).2.2
                obtain ⟨j1, j2, j3⟩ := i1 (needP [93] (numP (l.drop 1) b).2.1 (numP (l.drop 1) b).2.2).1 (needP [93] (numP (l.drop 1) b).2.1 (numP (l.drop 1) b).2.2).2
                exact ⟨Nat.le_trans j1 (Nat.le_trans q1 (Nat.le_trans n1 (hd 1))), fun _ => hb, fit_mkc ⟨z, ⟨by decide, by decide⟩, z, ⟨by omega, by omega⟩⟩ (by simp) (by simp) (by simpa using j3) (by simp)⟩
              · split
                · simp only
                  split
                  · exact ⟨by rw [List.length_drop, List.length_drop]; show _ ≤ _; omega, fun h => h, fit_mkc ⟨z, ⟨by decide, by decide⟩, z, z⟩ (by simp) (by simp) (by simp) (by simp)⟩
                  · obtain ⟨j1, j2, j3, j4⟩ := i2 [] (l.drop 1) b
                    exact ⟨Nat.le_trans j1 (hd 1), fun _ => hb, fit_mkc ⟨z, ⟨by decide, by decide⟩, z, z⟩ (by simp) (Nat.le_trans j3 (by simp; omega)) (by simp) (j4 (by simp))⟩
                · exact intP_len l b
    · show (flS (rdn m).1 (rdn m).2 out l b).2.1.length ≤ l.length ∧ ((flS (rdn m).1 (rdn m).2 out l b).2.2 = false → b = false) ∧ (flS (rdn m).1 (rdn m).2 out l b).1.length ≤ out.length + (m + 1) ∧ ((∀ t ∈ out, fit t) → ∀ t ∈ (flS (rdn m).1 (rdn m).2 out l b).1, fit t)
      unfold flS
      split
      · exact ⟨Nat.le_refl _, fun h => h, by simp, fun _ t ht => (by cases ht)⟩
      · rename_i hb
        have hb : b = false := by simpa using hb
        simp only
        obtain ⟨n1, n2, n3, n4⟩ := numP_len l b
        generalize numP l b = n at n1 n2 n3 n4 ⊢
        obtain ⟨q1, q2⟩ := needP_len [58, 32] n.2.1 n.2.2
        generalize needP [58, 32] n.2.1 n.2.2 = q at q1 q2 ⊢
        obtain ⟨j1, j2, j3⟩ := i1 q.1 q.2
        generalize (rdn m).1 q.1 q.2 = r at j1 j2 j3 ⊢
        have hl : r.2.1.length ≤ l.length := Nat.le_trans j1 (Nat.le_trans q1 n1)
        have hf := fit_atL j3 n3 n4
        split
        · exact ⟨by rw [List.length_drop]; omega, fun _ => hb, by simp, fun ho t ht => by
            rcases List.mem_append.1 ht with h | h
            · exact ho t h
            · rw [List.mem_singleton.1 h]; exact hf⟩
        · obtain ⟨s1, s2⟩ := needP_len [44, 32] r.2.1 r.2.2
          obtain ⟨k1, k2, k3, k4⟩ := i2 (out ++ [r.1.at_ n.1]) (needP [44, 32] r.2.1 r.2.2).1 (needP [44, 32] r.2.1 r.2.2).2
          refine ⟨Nat.le_trans k1 (Nat.le_trans s1 hl), fun _ => hb, by simp at k3; omega, fun ho => k4 fun t ht => ?_⟩
          rcases List.mem_append.1 ht with h | h
          · exact ho t h
          · rw [List.mem_singleton.1 h]; exact hf
end Go.Proofs.YtianekkfehoedaaGreatDoor
namespace Go.Proofs.YtianekkfehoedaaGreatDoor
set_option linter.unusedSimpArgs false
set_option linter.unusedVariables false
set_option linter.unnecessarySimpa false
/-- An entry of a project. -/
structure En where
  kind : Int
  var : Int
  addr : Int
  text : Bs
  deriving DecidableEq
def ltE (a b : En) : Bool := decide (a.addr < b.addr) || decide (a.addr = b.addr) && (decide (a.kind < b.kind) || decide (a.kind = b.kind) && decide (a.var < b.var))
def keyE (a b : En) : Bool := decide (a.kind = b.kind) && decide (a.addr = b.addr) && decide (a.var = b.var)
def orI (a b c : Int) : Int := if a ≠ 0 then a else if b ≠ 0 then b else c
def cmpE (a b : En) : Int := orI (cmpI a.addr b.addr) (cmpI a.kind b.kind) (cmpI a.var b.var)
theorem ltE_iff {a b : En} : ltE a b = true ↔ a.addr < b.addr ∨ a.addr = b.addr ∧ (a.kind < b.kind ∨ a.kind = b.kind ∧ a.var < b.var) := by
  simp only [ltE, Bool.or_eq_true, Bool.and_eq_true, decide_eq_true_eq]
theorem keyE_iff {a b : En} : keyE a b = true ↔ a.kind = b.kind ∧ a.addr = b.addr ∧ a.var = b.var := by
  simp only [keyE, Bool.and_eq_true, decide_eq_true_eq, and_assoc]
theorem cmpE_neg (a b : En) : cmpE a b < 0 ↔ ltE a b = true := by
  rw [ltE_iff]; unfold cmpE orI cmpI
  repeat' split
  all_goals omega
theorem cmpE_zero (a b : En) : cmpE a b = 0 ↔ keyE a b = true := by
  rw [keyE_iff]; unfold cmpE orI cmpI
  repeat' split
  all_goals omega
theorem ltE_irrefl (a : En) : ltE a a = false := by
  cases h : ltE a a with
  | false => rfl
  | true => rw [ltE_iff] at h; omega
theorem ltE_trans {a b c : En} (h : ltE a b = true) (k : ltE b c = true) : ltE a c = true := by
  rw [ltE_iff] at *; omega
theorem ltE_key {a b : En} (h : ltE a b = true) : keyE a b = false := by
  cases k : keyE a b with
  | false => rfl
  | true => rw [ltE_iff] at h; rw [keyE_iff] at k; omega
theorem ltE_tri (a b : En) : ltE a b = true ∨ keyE a b = true ∨ ltE b a = true := by
  simp only [ltE_iff, keyE_iff]; omega
theorem keyE_refl (a : En) : keyE a a = true := by rw [keyE_iff]; exact ⟨rfl, rfl, rfl⟩
theorem keyE_symm {a b : En} (h : keyE a b = true) : keyE b a = true := by rw [keyE_iff] at *; omega
theorem ltE_keyl {a b : En} (h : keyE a b = true) (c : En) : ltE a c = ltE b c := by
  rw [keyE_iff] at h; unfold ltE; rw [h.1, h.2.1, h.2.2]
theorem ltE_keyr {a b : En} (h : keyE a b = true) (c : En) : ltE c a = ltE c b := by
  rw [keyE_iff] at h; unfold ltE; rw [h.1, h.2.1, h.2.2]
/-- In order. -/
def AscE (l : List En) : Prop := l.Pairwise fun a b => ltE a b = true
/-- Where an entry stands, or would stand. -/
def posE : List En → En → Nat
  | [], _ => 0
  | x :: l, e => if ltE x e then posE l e + 1 else 0
def hasE (l : List En) (e : En) : Bool := l.any fun x => keyE x e
theorem posE_le : ∀ (l : List En) (e : En), posE l e ≤ l.length
  | [], e => Nat.le_refl _
  | x :: l, e => by
    have := posE_le l e
    unfold posE
    split
    · simp; exact this
    · omega
theorem posE_lt : ∀ {l : List En} (_ : AscE l) (e : En) (i : Nat) (hi : i < l.length), ltE l[i] e = true ↔ i < posE l e
  | [], _, e, i, hi => by simp at hi
  | x :: l, h, e, i, hi => by
    have h1 := List.pairwise_cons.1 h
    have ih := fun j hj => posE_lt h1.2 e j hj
    unfold posE
    cases i with
    | zero =>
      simp only [List.getElem_cons_zero]
      split
      · rename_i hx; exact ⟨fun _ => by omega, fun _ => hx⟩
      · rename_i hx; exact ⟨fun k => absurd k hx, fun k => by omega⟩
    | succ i =>
      simp only [List.getElem_cons_succ]
      have hi' : i < l.length := by simpa using hi
      split
      · rw [ih i hi']; omega
      · rename_i hx
        refine ⟨fun k => absurd (ltE_trans (h1.1 _ (List.getElem_mem hi')) k) hx, fun k => by omega⟩
theorem hasE_pos {l : List En} (h : AscE l) {e : En} (hh : hasE l e = true) : ∃ hp : posE l e < l.length, keyE l[posE l e] e = true := by
  obtain ⟨x, hx, hk⟩ := List.any_eq_true.1 hh
  obtain ⟨i, hi, rfl⟩ := List.getElem_of_mem hx
  have h1 : ¬ i < posE l e := fun hc => by
    have := (posE_lt h e i hi).2 hc
    rw [ltE_key this] at hk
    cases hk
  have h2 : ¬ posE l e < i := fun hc => by
    have hp : posE l e < l.length := by omega
    have := List.pairwise_iff_getElem.1 h (posE l e) i hp hi hc
    rw [ltE_keyr hk, posE_lt h e _ hp] at this
    omega
  obtain rfl : i = posE l e := by omega
  exact ⟨hi, hk⟩
theorem pos_hasE {l : List En} {e : En} (hp : posE l e < l.length) (hk : keyE l[posE l e] e = true) : hasE l e = true := List.any_eq_true.2 ⟨_, List.getElem_mem hp, hk⟩
def insE (l : List En) (e : En) : List En := l.take (posE l e) ++ e :: l.drop (posE l e)
def setE (l : List En) (e : En) : List En := l.set (posE l e) e
def delE (l : List En) (e : En) : List En := l.eraseIdx (posE l e)
theorem insE_cons (x : En) (l : List En) (e : En) : insE (x :: l) e = if ltE x e then x :: insE l e else e :: x :: l := by
  unfold insE
  rw [show posE (x :: l) e = if ltE x e then posE l e + 1 else 0 from rfl]
  split <;> simp
theorem setE_cons (x : En) (l : List En) (e : En) : setE (x :: l) e = if ltE x e then x :: setE l e else e :: l := by
  unfold setE; rw [posE]
  split <;> simp
theorem hasE_cons (x : En) (l : List En) (e : En) : hasE (x :: l) e = (keyE x e || hasE l e) := rfl
theorem mem_insE {l : List En} {e x : En} : x ∈ insE l e ↔ x = e ∨ x ∈ l := by
  unfold insE
  have : x ∈ l ↔ x ∈ l.take (posE l e) ∨ x ∈ l.drop (posE l e) := by rw [← List.mem_append, List.take_append_drop]
  rw [List.mem_append, List.mem_cons, this]
  constructor
  · rintro (h | h | h) <;> simp [h]
  · rintro (h | h | h) <;> simp [h]
theorem len_insE (l : List En) (e : En) : (insE l e).length = l.length + 1 := by
  have := posE_le l e
  unfold insE; simp; omega
theorem asc_insE : ∀ {l : List En} {e : En}, AscE l → hasE l e = false → AscE (insE l e)
  | [], e, _, _ => List.pairwise_singleton _ _
  | x :: l, e, h, hn => by
    have h1 := List.pairwise_cons.1 h
    rw [hasE_cons, Bool.or_eq_false_iff] at hn
    rw [insE_cons]
    split
    · rename_i hx
      refine List.pairwise_cons.2 ⟨fun y hy => ?_, asc_insE h1.2 hn.2⟩
      rcases mem_insE.1 hy with rfl | hy
      · exact hx
      · exact h1.1 y hy
    · rename_i hx
      have hex : ltE e x = true := by
        rcases ltE_tri x e with k | k | k
        · exact absurd k hx
        · rw [hn.1] at k; cases k
        · exact k
      refine List.pairwise_cons.2 ⟨fun y hy => ?_, h⟩
      rcases List.mem_cons.1 hy with rfl | hy
      · exact hex
      · exact ltE_trans hex (h1.1 y hy)
theorem mem_setE : ∀ {l : List En} {e : En}, AscE l → hasE l e = true → ∀ {x : En}, x ∈ setE l e ↔ x = e ∨ x ∈ l ∧ keyE x e = false
  | [], e, _, hh, x => by cases hh
  | y :: l, e, h, hh, x => by
    have h1 := List.pairwise_cons.1 h
    rw [hasE_cons, Bool.or_eq_true] at hh
    rw [setE_cons]
    split
    · rename_i hy
      rw [ltE_key hy] at hh
      have hh := hh.resolve_left (by decide)
      rw [List.mem_cons, List.mem_cons, mem_setE h1.2 hh]
      constructor
      · rintro (rfl | rfl | k)
        · exact .inr ⟨.inl rfl, ltE_key hy⟩
        · exact .inl rfl
        · exact .inr ⟨.inr k.1, k.2⟩
      · rintro (rfl | ⟨rfl | k, k2⟩)
        · exact .inr (.inl rfl)
        · exact .inl rfl
        · exact .inr (.inr ⟨k, k2⟩)
    · rename_i hy
      have hye : keyE y e = true := by
        obtain ⟨hp, hk⟩ := hasE_pos h (e := e) (by rw [hasE_cons, Bool.or_eq_true]; exact hh)
        have h0 : posE (y :: l) e = 0 := by unfold posE; rw [if_neg hy]
        simpa [h0] using hk
      rw [List.mem_cons, List.mem_cons]
      constructor
      · rintro (rfl | k)
        · exact .inl rfl
        · refine .inr ⟨.inr k, ?_⟩
          have := h1.1 x k
          rw [ltE_keyl hye] at this
          cases hk : keyE x e with
          | false => rfl
          | true => rw [ltE_keyr hk, ltE_irrefl] at this; cases this
      · rintro (rfl | ⟨rfl | k, k2⟩)
        · exact .inl rfl
        · rw [hye] at k2; cases k2
        · exact .inr k
theorem asc_setE : ∀ {l : List En} {e : En}, AscE l → hasE l e = true → AscE (setE l e)
  | [], e, _, hh => by cases hh
  | y :: l, e, h, hh => by
    have h1 := List.pairwise_cons.1 h
    have hh' := hh
    rw [hasE_cons, Bool.or_eq_true] at hh
    rw [setE_cons]
    split
    · rename_i hy
      rw [ltE_key hy] at hh
      have hh := hh.resolve_left (by decide)
      refine List.pairwise_cons.2 ⟨fun z hz => ?_, asc_setE h1.2 hh⟩
      rcases (mem_setE h1.2 hh).1 hz with rfl | hz
      · exact hy
      · exact h1.1 z hz.1
    · rename_i hy
      have hye : keyE y e = true := by
        obtain ⟨hp, hk⟩ := hasE_pos h hh'
        have h0 : posE (y :: l) e = 0 := by unfold posE; rw [if_neg hy]
        simpa [h0] using hk
      exact List.pairwise_cons.2 ⟨fun z hz => by rw [← ltE_keyl hye]; exact h1.1 z hz, h1.2⟩
theorem len_setE (l : List En) (e : En) : (setE l e).length = l.length := by unfold setE; simp
def letB (c : UInt8) : Bool := (decide (97 ≤ c.toNat) && decide (c.toNat ≤ 122)) || (decide (65 ≤ c.toNat) && decide (c.toNat ≤ 90)) || decide (c.toNat = 95)
def nmC (i : Nat) (c : UInt8) : Bool := letB c || (decide (i ≠ 0) && decide (48 ≤ c.toNat) && decide (c.toNat ≤ 57))
def nmA : Nat → Bs → Bool
  | _, [] => true
  | i, c :: r => nmC i c && nmA (i + 1) r
def nameB (s : Bs) : Bool := nmA 0 s && decide (1 ≤ s.length) && decide (s.length ≤ 32)
def cmC (c : UInt8) : Bool := decide (32 ≤ c.toNat) && decide (c.toNat ≤ 126)
def commB (s : Bs) : Bool := s.all cmC && decide (1 ≤ s.length) && decide (s.length ≤ 256)
def vkeyB (e : En) : Bool := if e.kind = 4 then decide (0 ≤ e.var) && decide (e.var < 256) else decide (1 ≤ e.kind) && decide (e.kind ≤ 3) && decide (e.var = 0)
def vtextB (e : En) : Bool := if e.kind = 2 then commB e.text else if e.kind = 3 then decide ((psT e.text).2 = 0) && decide (e.text.length ≤ 65535) else nameB e.text
def tkC (e o : En) : Bool := decide (o.kind = e.kind) && (o.text == e.text) && !keyE o e && (decide (e.kind = 1) || decide (e.kind = 4) && decide (o.addr = e.addr))
def takenB (l : List En) (e : En) : Bool := l.any (tkC e)
/-- The error of putting an entry. -/
def eErr (l : List En) (e : En) : Int :=
  if vkeyB e = false then 2 else if vtextB e = false then 3 else if takenB l e = true then 8 else if hasE l e = false ∧ 1024 ≤ l.length then 6 else 0
def eWith (l : List En) (e : En) : List En := if hasE l e = true then setE l e else insE l e
theorem asc_eWith {l : List En} (h : AscE l) (e : En) : AscE (eWith l e) := by
  unfold eWith
  split
  · rename_i hh; exact asc_setE h hh
  · rename_i hh; exact asc_insE h (by simpa using hh)
theorem len_eWith {l : List En} {e : En} (h : l.length ≤ 1024) (hE : eErr l e = 0) : (eWith l e).length ≤ 1024 := by
  unfold eWith
  split
  · rw [len_setE]; exact h
  · rename_i hh
    rw [len_insE]
    unfold eErr at hE
    repeat' split at hE
    all_goals first | (exfalso; omega) | skip
    rename_i hx
    have : ¬ 1024 ≤ l.length := fun hc => hx ⟨by simpa using hh, hc⟩
    omega
/-- The list of the reference. -/
def wRg : Bool → List En → En → List En
  | done, [], e => if done then [] else [e]
  | done, x :: l, e => (if !done && !ltE x e then [e] else []) ++ ((if keyE x e then [] else [x]) ++ wRg (done || !ltE x e) l e)
theorem wRg_true : ∀ (l : List En) (e : En), (∀ x ∈ l, keyE x e = false) → wRg true l e = l
  | [], e, _ => rfl
  | x :: l, e, h => by
    unfold wRg
    rw [h x (by simp)]
    simp [wRg_true l e (fun y hy => h y (by simp [hy]))]
theorem wRg_eq : ∀ {l : List En} (_ : AscE l) (e : En), wRg false l e = eWith l e
  | [], _, e => by
    show [e] = insE [] e
    rfl
  | x :: l, h, e => by
    have h1 := List.pairwise_cons.1 h
    unfold wRg eWith
    rw [hasE_cons]
    by_cases hx : ltE x e = true
    · rw [hx, ltE_key hx, setE_cons, insE_cons, if_pos hx, if_pos hx]
      simp only [Bool.not_true, Bool.and_false, Bool.false_eq_true, if_false, List.nil_append, Bool.or_false, Bool.false_or]
      rw [wRg_eq h1.2 e]
      unfold eWith
      split <;> rfl
    · have hx' : ltE x e = false := by simpa using hx
      rw [hx', setE_cons, insE_cons, if_neg hx, if_neg hx]
      simp only [Bool.not_false, Bool.and_true, if_true, Bool.or_true]
      by_cases hk : keyE x e = true
      · rw [hk, wRg_true]
        · simp
        · intro y hy
          have := h1.1 y hy
          rw [ltE_keyl hk] at this
          cases hz : keyE y e with
          | false => rfl
          | true => rw [ltE_keyr hz, ltE_irrefl] at this; cases this
      · have hk' : keyE x e = false := by simpa using hk
        have hex : ltE e x = true := by
          rcases ltE_tri x e with k | k | k
          · exact absurd k hx
          · exact absurd k hk
          · exact k
        have hall : ∀ y ∈ l, keyE y e = false := fun y hy => by
          have := ltE_trans hex (h1.1 y hy)
          cases hz : keyE y e with
          | false => rfl
          | true => rw [ltE_keyr hz, ltE_irrefl] at this; cases this
        have hh : hasE l e = false := by
          cases hq : hasE l e with
          | false => rfl
          | true =>
            obtain ⟨y, hy, hz⟩ := List.any_eq_true.1 hq
            rw [hall y hy] at hz; cases hz
        rw [hk', hh, wRg_true l e hall]
        simp
/-- The index of the reference. -/
def fndR : Nat → List En → En → Int
  | _, [], _ => -1
  | i, x :: l, e => if keyE x e then (i : Int) else fndR (i + 1) l e
theorem fndR_eq : ∀ {l : List En} (_ : AscE l) (i : Nat) (e : En), fndR i l e = if hasE l e = true then ((i + posE l e : Nat) : Int) else -1
  | [], _, i, e => rfl
  | x :: l, h, i, e => by
    have h1 := List.pairwise_cons.1 h
    unfold fndR
    rw [hasE_cons]
    by_cases hk : keyE x e = true
    · have h0 : posE (x :: l) e = 0 := by
        unfold posE
        have : ltE x e = false := by rw [ltE_keyl hk, ltE_irrefl]
        rw [this]; rfl
      rw [hk, h0]
      simp
    · have hk' : keyE x e = false := by simpa using hk
      rw [if_neg hk, fndR_eq h1.2, hk', Bool.false_or]
      by_cases hh : hasE l e = true
      · rw [if_pos hh, if_pos hh]
        obtain ⟨hp, hy⟩ := hasE_pos h1.2 hh
        have hx : ltE x e = true := by
          have := h1.1 _ (List.getElem_mem hp)
          rwa [ltE_keyr hy] at this
        have : posE (x :: l) e = posE l e + 1 := by rw [show posE (x :: l) e = if ltE x e then posE l e + 1 else 0 from rfl, hx]; rfl
        rw [this]; congr 1; omega
      · rw [if_neg hh, if_neg hh]
/-- What the reference says of an entry on its own. -/
theorem vkeyB_ref (e : En) : vkeyB e = false ↔ e.kind < 1 ∨ e.kind > 4 ∨ e.var < 0 ∨ e.var ≥ 256 ∨ e.kind ≠ 4 ∧ e.var ≠ 0 := by
  unfold vkeyB
  split
  · simp only [Bool.and_eq_false_iff, decide_eq_false_iff_not]; omega
  · simp only [Bool.and_eq_false_iff, decide_eq_false_iff_not]; omega
/-- The changes that can be undone. -/
def clipE (u : List (List En)) : List (List En) := u.drop (u.length - 256)
/-- A project: its entries, the states before, the states behind (the last one first in both: at the end). -/
structure Pr where
  l : List En
  un : List (List En)
  re : List (List En)
def Pr.chg (p : Pr) (l : List En) : Pr := ⟨l, clipE (p.un ++ [p.l]), []⟩
def Pr.put (p : Pr) (e : En) : Pr := if eErr p.l e = 0 then p.chg (eWith p.l e) else p
def rmErr (l : List En) (e : En) : Int := if vkeyB e = false then 2 else if hasE l e = false then 9 else 0
def Pr.rem (p : Pr) (e : En) : Pr := if rmErr p.l e = 0 then p.chg (delE p.l e) else p
/-- Little-endian numbers. -/
def leB : Nat → Nat → Bs
  | _, 0 => []
  | n, w + 1 => UInt8.ofNat (n % 256) :: leB (n / 256) w
def vaB : Bs → Nat
  | [] => 0
  | c :: r => c.toNat + 256 * vaB r
theorem leB_len : ∀ (n w : Nat), (leB n w).length = w
  | _, 0 => rfl
  | n, w + 1 => by simp [leB, leB_len (n / 256) w]
theorem vaB_lt : ∀ b : Bs, vaB b < 256 ^ b.length
  | [] => by simp [vaB]
  | c :: r => by
    have h1 := vaB_lt r
    have h2 : c.toNat < 256 := c.toNat_lt
    simp only [vaB, List.length_cons, Nat.pow_succ]
    omega
theorem vaB_leB : ∀ (n w : Nat), n < 256 ^ w → vaB (leB n w) = n
  | n, 0, h => by simp at h; subst h; rfl
  | n, w + 1, h => by
    rw [Nat.pow_succ] at h
    have h1 := vaB_leB (n / 256) w (by omega)
    simp only [leB, vaB, h1, UInt8.toNat_ofNat']
    omega
theorem leB_vaB : ∀ b : Bs, leB (vaB b) b.length = b
  | [] => rfl
  | c :: r => by
    have h2 : c.toNat < 256 := c.toNat_lt
    have h3 : (c.toNat + 256 * vaB r) % 256 = c.toNat := by omega
    have h4 : (c.toNat + 256 * vaB r) / 256 = vaB r := by omega
    simp only [vaB, List.length_cons, leB, h3, h4, leB_vaB r]
    congr 1
    exact UInt8.ofNat_toNat
def sumB (b : Bs) : Nat := (b.foldl (fun n c => n + c.toNat) 0) % 65536
def magicB : Bs := [68, 67, 80, 49]
def encE (e : En) : Bs := leB e.kind.toNat 1 ++ (leB e.addr.toNat 4 ++ (leB e.var.toNat 2 ++ (leB e.text.length 2 ++ e.text)))
def encL : List En → Bs
  | [] => []
  | e :: l => encE e ++ encL l
def bodyB (l : List En) : Bs := magicB ++ (leB l.length 2 ++ encL l)
def saveB (l : List En) : Bs := bodyB l ++ leB (sumB (bodyB l)) 2
theorem sumB_lt (b : Bs) : sumB b < 65536 := Nat.mod_lt _ (by decide)
/-- The reader. -/
def tkN (b : Bs) (n a : Nat) (s : Bool) : Bs × Nat × Bool := if s = true ∨ b.length - a < n then (List.replicate n 0, a, true) else ((b.drop a).take n, a + n, false)
def nuN (b : Bs) (w a : Nat) (s : Bool) : Nat × Nat × Bool := (vaB (tkN b w a s).1, (tkN b w a s).2)
def enN (b : Bs) (a : Nat) (s : Bool) : En × Nat × Bool :=
  let k := nuN b 1 a s
  let d := nuN b 4 k.2.1 k.2.2
  let v := nuN b 2 d.2.1 d.2.2
  let z := nuN b 2 v.2.1 v.2.2
  let t := tkN b z.1 z.2.1 z.2.2
  (⟨k.1, v.1, d.1, t.1⟩, t.2)
def lsN (b : Bs) : Nat → List En → Nat → Bool → List En × Nat × Bool
  | 0, acc, a, s => (acc, a, s)
  | n + 1, acc, a, s => if s = true then (acc, a, s) else lsN b n (acc ++ [(enN b a s).1]) (enN b a s).2.1 (enN b a s).2.2
def ldF : List En → List En → Int × List En
  | acc, [] => (0, acc)
  | acc, e :: l => if eErr acc e = 0 then ldF (eWith acc e) l else (eErr acc e, [])
def ascB : List En → Bool
  | [] => true
  | [_] => true
  | a :: b :: l => ltE a b && ascB (b :: l)
theorem ascB_iff : ∀ {l : List En}, ascB l = true ↔ AscE l
  | [] => ⟨fun _ => List.Pairwise.nil, fun _ => rfl⟩
  | [_] => ⟨fun _ => List.pairwise_singleton _ _, fun _ => rfl⟩
  | a :: b :: l => by
    rw [ascB, Bool.and_eq_true, ascB_iff]
    constructor
    · rintro ⟨h1, h2⟩
      refine List.pairwise_cons.2 ⟨fun x hx => ?_, h2⟩
      rcases List.mem_cons.1 hx with rfl | hx
      · exact h1
      · exact ltE_trans h1 ((List.pairwise_cons.1 h2).1 x hx)
    · intro h
      have := List.pairwise_cons.1 h
      exact ⟨this.1 b (by simp), this.2⟩
def ldN (b : Bs) : Int × List En :=
  let h := tkN b 4 0 false
  let c := nuN b 2 h.2.1 h.2.2
  let l := lsN b c.1 [] c.2.1 c.2.2
  let k := nuN b 2 l.2.1 l.2.2
  if k.2.2 = true then (5, []) else if h.1 ≠ magicB ∨ k.1 ≠ sumB (b.take l.2.1) ∨ k.2.1 ≠ b.length ∨ ascB l.1 = false then (4, []) else ldF [] l.1
theorem tkN_len (b : Bs) (n a : Nat) (s : Bool) : (tkN b n a s).1.length = n := by
  unfold tkN
  split
  · simp
  · rename_i h; rw [not_or] at h; simp; omega
theorem tkN_le (b : Bs) (n a : Nat) (s : Bool) (h : a ≤ b.length) : a ≤ (tkN b n a s).2.1 ∧ (tkN b n a s).2.1 ≤ b.length := by
  unfold tkN
  split
  · exact ⟨Nat.le_refl _, h⟩
  · rename_i hh; rw [not_or] at hh; exact ⟨by show a ≤ a + n; omega, by show a + n ≤ b.length; omega⟩
theorem tkN_short (b : Bs) (n a : Nat) (s : Bool) (h : (tkN b n a s).2.2 = false) : s = false ∧ n ≤ b.length - a ∧ tkN b n a s = ((b.drop a).take n, a + n, false) := by
  unfold tkN at h ⊢
  split at h
  · cases h
  · rename_i hh
    rw [if_neg hh]
    rw [not_or] at hh
    exact ⟨by simpa using hh.1, by omega, rfl⟩
theorem tkN_app {b x y : Bs} {a n : Nat} (h : b.drop a = x ++ y) (hn : x.length = n) : tkN b n a false = (x, a + n, false) ∧ b.drop (a + n) = y := by
  have hl : b.length - a = x.length + y.length := by have := congrArg List.length h; simpa using this
  have hd : b.drop (a + n) = y := by rw [← List.drop_drop, h, ← hn, List.drop_left]
  refine ⟨?_, hd⟩
  unfold tkN
  rw [if_neg (by rw [hl]; simp; omega), h, ← hn, List.take_left]
theorem nuN_app {b y : Bs} {a v w : Nat} (h : b.drop a = leB v w ++ y) (hv : v < 256 ^ w) : nuN b w a false = (v, a + w, false) ∧ b.drop (a + w) = y := by
  obtain ⟨h1, h2⟩ := tkN_app h (leB_len v w)
  exact ⟨by unfold nuN; rw [h1, vaB_leB v w hv], h2⟩
/-- What is saved. -/
structure Fits47 (e : En) : Prop where
  kind : 0 ≤ e.kind ∧ e.kind < 256
  var : 0 ≤ e.var ∧ e.var < 65536
  addr : 0 ≤ e.addr ∧ e.addr < 4294967296
  text : e.text.length < 65536
theorem enN_app {b y : Bs} {a : Nat} {e : En} (h : b.drop a = encE e ++ y) (hf : Fits47 e) : enN b a false = (e, a + (encE e).length, false) ∧ b.drop (a + (encE e).length) = y := by
  obtain ⟨q1, q2, q3, q4⟩ := hf
  unfold encE at h
  simp only [List.append_assoc] at h
  obtain ⟨a1, b1⟩ := nuN_app h (by omega)
  obtain ⟨a2, b2⟩ := nuN_app b1 (by omega)
  obtain ⟨a3, b3⟩ := nuN_app b2 (by omega)
  obtain ⟨a4, b4⟩ := nuN_app b3 (by omega)
  obtain ⟨a5, b5⟩ := tkN_app b4 rfl
  have hl : a + 1 + 4 + 2 + 2 + e.text.length = a + (encE e).length := by
    unfold encE; simp [leB_len]; omega
  rw [hl] at a5 b5
  refine ⟨?_, b5⟩
  unfold enN
  simp only [a1, a2, a3, a4, a5]
  refine Prod.ext ?_ rfl
  cases e
  simp only at *
  congr 1 <;> omega
theorem lsN_app {b y : Bs} : ∀ {l acc : List En} {a : Nat}, b.drop a = encL l ++ y → (∀ e ∈ l, Fits47 e) → lsN b l.length acc a false = (acc ++ l, a + (encL l).length, false) ∧ b.drop (a + (encL l).length) = y
  | [], acc, a, h, _ => by
    refine ⟨?_, by simpa [encL] using h⟩
    simp [lsN, encL]
  | e :: l, acc, a, h, hf => by
    unfold encL at h
    rw [List.append_assoc] at h
    obtain ⟨h1, h2⟩ := enN_app h (hf e (by simp))
    obtain ⟨h3, h4⟩ := lsN_app (acc := acc ++ [e]) h2 (fun x hx => hf x (by simp [hx]))
    have hl : a + (encE e).length + (encL l).length = a + (encL (e :: l)).length := by simp [encL]; omega
    rw [hl] at h3 h4
    refine ⟨?_, h4⟩
    rw [List.length_cons, lsN, if_neg (by decide), h1]
    simp only
    rw [h3]
    simp
/-- What a project's entries are like. -/
structure Gd (l : List En) : Prop where
  asc : AscE l
  key : ∀ e ∈ l, vkeyB e = true
  txt : ∀ e ∈ l, vtextB e = true
  adr : ∀ e ∈ l, 0 ≤ e.addr ∧ e.addr < 4294967296
  nam : ∀ e ∈ l, ∀ o ∈ l, tkC e o = false
  len : l.length ≤ 1024
theorem tkC_symm {e o : En} (h : tkC e o = true) : tkC o e = true := by
  unfold tkC at h ⊢
  simp only [Bool.and_eq_true, Bool.or_eq_true, decide_eq_true_eq, Bool.not_eq_true', beq_iff_eq] at h ⊢
  obtain ⟨⟨⟨h1, h2⟩, h3⟩, h4⟩ := h
  refine ⟨⟨⟨h1.symm, h2.symm⟩, ?_⟩, by omega⟩
  cases hk : keyE e o with
  | false => rfl
  | true => rw [keyE_symm hk] at h3; cases h3
theorem vkeyB_bd {e : En} (h : vkeyB e = true) : 1 ≤ e.kind ∧ e.kind ≤ 4 ∧ 0 ≤ e.var ∧ e.var < 256 := by
  unfold vkeyB at h
  split at h
  · simp only [Bool.and_eq_true, decide_eq_true_eq] at h; omega
  · simp only [Bool.and_eq_true, decide_eq_true_eq] at h; omega
theorem vtextB_bd {e : En} (h : vtextB e = true) : e.text.length < 65536 := by
  unfold vtextB commB nameB at h
  repeat' split at h
  all_goals simp only [Bool.and_eq_true, decide_eq_true_eq] at h; omega
theorem Gd.fits {l : List En} (h : Gd l) {e : En} (he : e ∈ l) : Fits47 e := by
  have h1 := vkeyB_bd (h.key e he)
  exact ⟨by omega, by omega, h.adr e he, vtextB_bd (h.txt e he)⟩
theorem eErr_zero {l : List En} {e : En} : eErr l e = 0 ↔ vkeyB e = true ∧ vtextB e = true ∧ takenB l e = false ∧ (hasE l e = true ∨ l.length < 1024) := by
  unfold eErr
  by_cases h1 : vkeyB e = false
  · rw [if_pos h1]; simp [h1]
  rw [if_neg h1]
  by_cases h2 : vtextB e = false
  · rw [if_pos h2]; simp [h2]
  rw [if_neg h2]
  by_cases h3 : takenB l e = true
  · rw [if_pos h3]; simp [h3]
  rw [if_neg h3]
  simp only [Bool.not_eq_false, Bool.not_eq_true] at h1 h2 h3
  by_cases h4 : hasE l e = false ∧ 1024 ≤ l.length
  · rw [if_pos h4]
    simp only [h1, h2, h3, h4.1, true_and]
    have := h4.2
    simp; omega
  · rw [if_neg h4]
    simp only [h1, h2, h3, true_and, true_iff]
    cases h : hasE l e with
    | true => simp
    | false => right; rw [h] at h4; simp at h4; omega
theorem mem_eWith {l : List En} (hl : AscE l) {e x : En} (h : x ∈ eWith l e) : x = e ∨ x ∈ l ∧ keyE x e = false := by
  unfold eWith at h
  split at h
  · rename_i hh; exact (mem_setE hl hh).1 h
  · rename_i hh
    rcases mem_insE.1 h with h | h
    · exact .inl h
    · refine .inr ⟨h, ?_⟩
      cases hk : keyE x e with
      | false => rfl
      | true => exact absurd (List.any_eq_true.2 ⟨x, h, hk⟩) hh
theorem tkC_self (e : En) : tkC e e = false := by unfold tkC; simp [keyE_refl]
theorem Gd.with_ {l : List En} (h : Gd l) {e : En} (hE : eErr l e = 0) (ha : 0 ≤ e.addr ∧ e.addr < 4294967296) : Gd (eWith l e) := by
  have h0 := hE
  rw [eErr_zero] at hE
  obtain ⟨h1, h2, h3, h4⟩ := hE
  have hno : ∀ o ∈ l, tkC e o = false := fun o ho => by
    cases hk : tkC e o with
    | false => rfl
    | true =>
      have : takenB l e = true := List.any_eq_true.2 ⟨o, ho, hk⟩
      rw [h3] at this; cases this
  refine ⟨asc_eWith h.asc e, fun x hx => ?_, fun x hx => ?_, fun x hx => ?_, fun x hx o ho => ?_, len_eWith h.len h0⟩
  · rcases mem_eWith h.asc hx with rfl | ⟨hx, _⟩
    · exact h1
    · exact h.key x hx
  · rcases mem_eWith h.asc hx with rfl | ⟨hx, _⟩
    · exact h2
    · exact h.txt x hx
  · rcases mem_eWith h.asc hx with rfl | ⟨hx, _⟩
    · exact ha
    · exact h.adr x hx
  · rcases mem_eWith h.asc hx with rfl | ⟨hx, _⟩
    · rcases mem_eWith h.asc ho with rfl | ⟨ho, _⟩
      · exact tkC_self _
      · exact hno o ho
    · rcases mem_eWith h.asc ho with rfl | ⟨ho, _⟩
      · cases hk : tkC x o with
        | false => rfl
        | true => have h7 := hno x ‹x ∈ l›; rw [tkC_symm hk] at h7; cases h7
      · exact h.nam x hx o ho
theorem Gd.nil : Gd [] := ⟨List.Pairwise.nil, fun _ h => by simp at h, fun _ h => by simp at h, fun _ h => by simp at h, fun _ h => by simp at h, by simp⟩
/-- An entry behind all others is put at the end. -/
theorem eWith_snoc : ∀ {l : List En} {e : En}, (∀ x ∈ l, ltE x e = true) → eWith l e = l ++ [e]
  | l, e, h => by
    have hh : hasE l e = false := by
      cases hk : hasE l e with
      | false => rfl
      | true =>
        obtain ⟨x, hx, hy⟩ := List.any_eq_true.1 hk
        rw [ltE_key (h x hx)] at hy; cases hy
    unfold eWith
    rw [if_neg (by rw [hh]; decide)]
    clear hh
    induction l with
    | nil => rfl
    | cons x l ih => rw [insE_cons, if_pos (h x (by simp)), ih (fun y hy => h y (by simp [hy]))]; rfl
theorem ldF_snoc : ∀ {l acc : List En}, Gd (acc ++ l) → ldF acc l = (0, acc ++ l)
  | [], acc, _ => by simp [ldF]
  | e :: l, acc, h => by
    have hb : ∀ x ∈ acc, ltE x e = true := fun x hx => (List.pairwise_append.1 h.asc).2.2 x hx e (by simp)
    have hE : eErr acc e = 0 := by
      rw [eErr_zero]
      refine ⟨h.key e (by simp), h.txt e (by simp), ?_, .inr ?_⟩
      · cases hk : takenB acc e with
        | false => rfl
        | true =>
          obtain ⟨o, ho, hk⟩ := List.any_eq_true.1 hk
          rw [h.nam e (by simp) o (by simp [ho])] at hk
          cases hk
      · have := h.len
        simp at this; omega
    rw [ldF, if_pos hE, eWith_snoc hb]
    have := ldF_snoc (l := l) (acc := acc ++ [e]) (by simpa using h)
    simpa using this
theorem body_parse {l : List En} (h : Gd l) (y : Bs) : tkN (bodyB l ++ y) 4 0 false = (magicB, 4, false) ∧ nuN (bodyB l ++ y) 2 4 false = (l.length, 6, false) ∧ lsN (bodyB l ++ y) l.length [] 6 false = (l, (bodyB l).length, false) ∧ (bodyB l ++ y).drop (bodyB l).length = y := by
  have e0 : (bodyB l ++ y).drop 0 = magicB ++ (leB l.length 2 ++ (encL l ++ y)) := by unfold bodyB; simp
  obtain ⟨a1, b1⟩ := tkN_app e0 (n := 4) rfl
  obtain ⟨a2, b2⟩ := nuN_app b1 (by have := h.len; omega)
  obtain ⟨a3, b3⟩ := lsN_app (acc := []) b2 (fun e he => h.fits he)
  have hl : 0 + 4 + 2 + (encL l).length = (bodyB l).length := by unfold bodyB; simp [leB_len, magicB]; omega
  rw [hl] at a3 b3
  exact ⟨a1, a2, a3, b3⟩
theorem ld_save {l : List En} (h : Gd l) : ldN (saveB l) = (0, l) := by
  obtain ⟨a1, a2, a3, a4⟩ := body_parse h (leB (sumB (bodyB l)) 2)
  have a5 := nuN_app (y := []) (by rw [a4, List.append_nil]) (sumB_lt (bodyB l))
  unfold ldN saveB
  simp only [a1, a2, a3, a5.1]
  rw [if_neg (by decide), if_neg, ldF_snoc (acc := []) (by simpa using h)]
  · rfl
  · rintro (k | k | k | k)
    · exact k rfl
    · exact k (by rw [List.take_left])
    · exact k (by simp [leB_len])
    · rw [ascB_iff.2 h.asc] at k; cases k
theorem save_len (l : List En) : (saveB l).length = (bodyB l).length + 2 := by unfold saveB; simp [leB_len]
end Go.Proofs.YtianekkfehoedaaGreatDoor
namespace Go.Proofs.YtianekkfehoedaaGreatDoor
set_option linter.unusedSimpArgs false
set_option linter.unusedVariables false
set_option linter.unnecessarySimpa false
/-- A step of a law. -/
structure Sp where
  kind : Int
  e : En
  l : List En
theorem clipE_id {u : List (List En)} (h : u.length ≤ 256) : clipE u = u := by unfold clipE; rw [show u.length - 256 = 0 by omega, List.drop_zero]
end Go.Proofs.YtianekkfehoedaaGreatDoor
