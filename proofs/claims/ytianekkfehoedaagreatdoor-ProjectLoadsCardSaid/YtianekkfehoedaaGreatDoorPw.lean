/- Plain law: an accepted text is the text of its type; the reading of the reference. -/
import Derived.Test.YtianekkfehoedaaGreatDoorPy
namespace Go.Proofs.YtianekkfehoedaaGreatDoor
set_option linter.unusedSimpArgs false
set_option linter.unusedVariables false
set_option linter.unnecessarySimpa false
theorem dig_back {b : UInt8} (h : isDig b = true) : ∃ d, d < 10 ∧ Lib.digitVal b = some d ∧ UInt8.ofNat (48 + d) = b := by
  unfold isDig at h
  simp only [Bool.and_eq_true, decide_eq_true_eq] at h
  refine ⟨b.toNat - 48, by omega, if_pos h, ?_⟩
  rw [show 48 + (b.toNat - 48) = b.toNat by omega]
  exact UInt8.ofNat_toNat
theorem dec_back : ∀ (k : Nat) (ds : Bs), ds.length = k + 1 → (∀ b ∈ ds, isDig b = true) → (1 < ds.length → ds.headD 0 ≠ 48) → ∀ n, Lib.decFrom 0 ds = some n → Lib.decDigits n = ds := by
  intro k
  induction k with
  | zero =>
    intro ds hl hd _ n hn
    obtain ⟨b, rfl⟩ := List.length_eq_one_iff.1 hl
    obtain ⟨d, h1, h2, h3⟩ := dig_back (hd b (by simp))
    have : n = d := by
      simp only [Lib.decFrom, h2] at hn
      cases hn
      omega
    subst this
    rw [Lib.decDigits, dif_pos h1, h3]
  | succ k ih =>
    intro ds hl hd h0 n hn
    have hne : ds ≠ [] := by intro e; subst e; simp at hl
    obtain ⟨i, b, rfl⟩ : ∃ i b, ds = i ++ [b] := ⟨ds.dropLast, ds.getLast hne, (List.dropLast_concat_getLast hne).symm⟩
    have hil : i.length = k + 1 := by simpa using hl
    have hid : ∀ x ∈ i, isDig x = true := fun x hx => hd x (by simp [hx])
    obtain ⟨v, hv⟩ := decFrom_digs i 0 hid
    obtain ⟨d, h1, h2, h3⟩ := dig_back (hd b (by simp))
    have hh : i.headD 0 ≠ 48 := by
      cases i with
      | nil => simp at hil
      | cons x r => exact h0 (by simp)
    have hi := ih i hil hid (fun _ => hh) v hv
    rw [decFrom_snoc i 0 v d b hv h2] at hn
    cases hn
    have hv1 : v ≠ 0 := by
      intro e
      subst e
      rw [← hi, Lib.decDigits, dif_pos (by decide)] at hh
      exact hh rfl
    rw [Lib.decDigits, dif_neg (by omega), show (v * 10 + d) / 10 = v by omega, show (v * 10 + d) % 10 = d by omega, hi, h3]
theorem numV_nat {l : Bs} (h : ∀ b ∈ l, isDig b = true) (h0 : l ≠ []) : ∃ n : Nat, Lib.decFrom 0 l = some n ∧ numV l = (n : Int) := by
  cases l with
  | nil => exact absurd rfl h0
  | cons b r =>
    obtain ⟨n, hn⟩ := decFrom_digs (b :: r) 0 h
    have hb := h b (by simp)
    unfold isDig at hb
    simp only [Bool.and_eq_true, decide_eq_true_eq] at hb
    have h1 : ¬ (b == 45) = true := by intro e; have e := eq_of_beq e; subst e; exact absurd hb.1 (by decide)
    have h2 : ¬ (b == 43) = true := by intro e; have e := eq_of_beq e; subst e; exact absurd hb.1 (by decide)
    refine ⟨n, hn, ?_⟩
    have : Lib.decNat (b :: r) = some n := by unfold Lib.decNat; simpa using hn
    unfold numV
    simp only [Lib.atoi, if_neg h1, if_neg h2, this]
    rfl
theorem noNum_inv {l : Bs} (h : noNum l = false) : digs l ≠ 0 ∧ digs l ≤ 6 ∧ (1 < digs l → l.headD 0 ≠ 48) := by
  unfold noNum at h
  simp only [Bool.or_eq_false_iff, Bool.and_eq_false_iff, decide_eq_false_iff_not, beq_eq_false_iff_ne] at h
  refine ⟨h.1.1, by omega, fun h1 => ?_⟩
  rcases h.2 with g | g
  · exact absurd h1 g
  · exact g
theorem itoa_numV {l : Bs} (h : noNum l = false) : Lib.itoa (numV (l.take (digs l))) = l.take (digs l) := by
  obtain ⟨h0, h6, hh⟩ := noNum_inv h
  have hd := digs_le l
  have hlen : (l.take (digs l)).length = digs l := by rw [List.length_take]; omega
  have hne : l.take (digs l) ≠ [] := by intro e; rw [e] at hlen; simp at hlen; omega
  obtain ⟨n, hn, e⟩ := numV_nat (fun b hb => digs_all hb) hne
  rw [e]
  unfold Lib.itoa
  rw [if_neg (by omega), Int.toNat_natCast]
  refine dec_back (digs l - 1) _ (by omega) (fun b hb => digs_all hb) (fun h1 => ?_) n hn
  have := hh (by omega)
  cases l with
  | nil => simp at hne
  | cons x r =>
    cases hk : digs (x :: r) with
    | zero => exact absurd hk h0
    | succ k => exact this
theorem pre_app {p l : Bs} (h : p.isPrefixOf l = true) : ∃ r, l = p ++ r ∧ l.drop p.length = r := by
  obtain ⟨r, hr⟩ := List.isPrefixOf_iff_prefix.1 h
  exact ⟨r, hr.symm, by rw [← hr, List.drop_left]⟩
theorem pre_of (p r : Bs) : p.isPrefixOf (p ++ r) = true := List.isPrefixOf_iff_prefix.2 (List.prefix_append p r)
theorem numP_back {l rest : Bs} {n : Int} {b : Bool} (h : numP l b = (n, rest, false)) : b = false ∧ l = Lib.itoa n ++ rest ∧ noNum l = false ∧ n = numV (l.take (digs l)) ∧ rest = l.drop (digs l) := by
  unfold numP at h
  cases hn : noNum l with
  | true => rw [hn, if_pos rfl] at h; cases h
  | false =>
    rw [hn, if_neg (by decide)] at h
    cases h
    exact ⟨rfl, by rw [itoa_numV hn, List.take_append_drop], rfl, rfl, rfl⟩
def wdL : List (Bs × Ty) := [([63], tz), ([97, 110, 121], .mk 0 6 0 0 [] []), ([105, 110, 116, 56], .mk 0 1 1 0 [] []), ([105, 110, 116, 49, 54], .mk 0 1 2 0 [] []), ([105, 110, 116, 51, 50], .mk 0 1 4 0 [] []),
  ([117, 105, 110, 116, 56], .mk 0 2 1 0 [] []), ([117, 105, 110, 116, 49, 54], .mk 0 2 2 0 [] []), ([117, 105, 110, 116, 51, 50], .mk 0 2 4 0 [] [])]
/-- The reference's reading of a word. -/
def wdP (l : Bs) : Ty × Option Bs := match wdL.find? (fun p => p.1.isPrefixOf l) with
  | some p => (p.2, some (l.drop p.1.length))
  | none => (tz, none)
/-- A number's word is read alike. -/
theorem int_cases (l : Bs) : (intP l false).2.2 = true ∨ ∃ p ∈ wdL.drop 2, ∃ r, l = p.1 ++ r ∧ intP l false = (p.2, r, false) := by
  unfold intP
  by_cases hu : [117].isPrefixOf l = true
  · obtain ⟨l1, e1, e2⟩ := pre_app hu
    have ha : accP [117] l = l1 := by unfold accP; rw [if_pos hu]; exact e2
    rw [if_pos hu, ha]
    by_cases hi : [105, 110, 116].isPrefixOf l1 = true
    · obtain ⟨l2, f1, f2⟩ := pre_app hi
      have hb : accP [105, 110, 116] l1 = l2 := by unfold accP; rw [if_pos hi]; exact f2
      simp only [hb, hi, Bool.not_true, Bool.or_false]
      by_cases h8 : [56].isPrefixOf l2 = true
      · obtain ⟨r, g1, g2⟩ := pre_app h8
        exact .inr ⟨([117, 105, 110, 116, 56], .mk 0 2 1 0 [] []), by simp [wdL], r, by rw [e1, f1, g1]; rfl, by rw [if_pos h8]; unfold accP; rw [if_pos h8, g2]⟩
      · rw [if_neg h8]
        by_cases h16 : [49, 54].isPrefixOf l2 = true
        · obtain ⟨r, g1, g2⟩ := pre_app h16
          exact .inr ⟨([117, 105, 110, 116, 49, 54], .mk 0 2 2 0 [] []), by simp [wdL], r, by rw [e1, f1, g1]; rfl, by rw [if_pos h16]; unfold accP; rw [if_pos h16, g2]⟩
        · rw [if_neg h16]
          by_cases h32 : [51, 50].isPrefixOf l2 = true
          · obtain ⟨r, g1, g2⟩ := pre_app h32
            exact .inr ⟨([117, 105, 110, 116, 51, 50], .mk 0 2 4 0 [] []), by simp [wdL], r, by rw [e1, f1, g1]; rfl, by rw [if_pos h32]; unfold accP; rw [if_pos h32, g2]⟩
          · rw [if_neg h32]
            exact .inl rfl
    · left
      simp only [show [105, 110, 116].isPrefixOf l1 = false from eq_false_of_ne_true hi, Bool.not_false, Bool.or_true]
      split
      · rfl
      · split
        · rfl
        · split <;> rfl
  · have ha : accP [117] l = l := by unfold accP; rw [if_neg hu]
    rw [if_neg hu, ha]
    by_cases hi : [105, 110, 116].isPrefixOf l = true
    · obtain ⟨l2, f1, f2⟩ := pre_app hi
      have hb : accP [105, 110, 116] l = l2 := by unfold accP; rw [if_pos hi]; exact f2
      simp only [hb, hi, Bool.not_true, Bool.or_false]
      by_cases h8 : [56].isPrefixOf l2 = true
      · obtain ⟨r, g1, g2⟩ := pre_app h8
        exact .inr ⟨([105, 110, 116, 56], .mk 0 1 1 0 [] []), by simp [wdL], r, by rw [f1, g1]; rfl, by rw [if_pos h8]; unfold accP; rw [if_pos h8, g2]⟩
      · rw [if_neg h8]
        by_cases h16 : [49, 54].isPrefixOf l2 = true
        · obtain ⟨r, g1, g2⟩ := pre_app h16
          exact .inr ⟨([105, 110, 116, 49, 54], .mk 0 1 2 0 [] []), by simp [wdL], r, by rw [f1, g1]; rfl, by rw [if_pos h16]; unfold accP; rw [if_pos h16, g2]⟩
        · rw [if_neg h16]
          by_cases h32 : [51, 50].isPrefixOf l2 = true
          · obtain ⟨r, g1, g2⟩ := pre_app h32
            exact .inr ⟨([105, 110, 116, 51, 50], .mk 0 1 4 0 [] []), by simp [wdL], r, by rw [f1, g1]; rfl, by rw [if_pos h32]; unfold accP; rw [if_pos h32, g2]⟩
          · rw [if_neg h32]
            exact .inl rfl
    · left
      simp only [show [105, 110, 116].isPrefixOf l = false from eq_false_of_ne_true hi, Bool.not_false, Bool.or_true]
      split
      · rfl
      · split
        · rfl
        · split <;> rfl
theorem wd_txt : ∀ p ∈ wdL.drop 2, txT p.2 = p.1 := by
  intro p hp
  simp only [wdL, List.drop_succ_cons, List.drop_zero, List.mem_cons, List.not_mem_nil, or_false] at hp
  rcases hp with rfl | rfl | rfl | rfl | rfl | rfl <;> rw [txT_mk]
  · rw [show (8 : Int) * 1 = 8 from rfl, itoa_8]; rfl
  · rw [show (8 : Int) * 2 = 16 from rfl, itoa_16]; rfl
  · rw [show (8 : Int) * 4 = 32 from rfl, itoa_32]; rfl
  · rw [show (8 : Int) * 1 = 8 from rfl, itoa_8]; rfl
  · rw [show (8 : Int) * 2 = 16 from rfl, itoa_16]; rfl
  · rw [show (8 : Int) * 4 = 32 from rfl, itoa_32]; rfl
theorem wd_find : ∀ p ∈ wdL.drop 2, ∀ r : Bs, wdP (p.1 ++ r) = (p.2, some r) := by
  intro p hp r
  simp only [wdL, List.drop_succ_cons, List.drop_zero, List.mem_cons, List.not_mem_nil, or_false] at hp
  rcases hp with rfl | rfl | rfl | rfl | rfl | rfl <;> rfl
theorem wd_int : ∀ p ∈ wdL.drop 2, ∀ r : Bs, intP (p.1 ++ r) false = (p.2, r, false) := by
  intro p hp r
  simp only [wdL, List.drop_succ_cons, List.drop_zero, List.mem_cons, List.not_mem_nil, or_false] at hp
  rcases hp with rfl | rfl | rfl | rfl | rfl | rfl <;> rfl
theorem int_back {l rest : Bs} {t : Ty} (h : intP l false = (t, rest, false)) : l = txT t ++ rest ∧ wdP l = (t, some rest) := by
  rcases int_cases l with g | ⟨p, hp, r, e1, e2⟩
  · rw [h] at g; cases g
  · rw [h] at e2
    cases e2
    exact ⟨by rw [wd_txt p hp]; exact e1, by rw [e1]; exact wd_find p hp rest⟩
theorem wd_none {l : Bs} (h63 : [63].isPrefixOf l = false) (h97 : [97, 110, 121].isPrefixOf l = false) (h : (intP l false).2.2 = true) : (wdP l).2 = none := by
  unfold wdP
  split
  · rename_i p hp
    have hm := List.mem_of_find?_eq_some hp
    have hq := List.find?_some hp
    have hm2 : p = ([63], tz) ∨ p = ([97, 110, 121], .mk 0 6 0 0 [] []) ∨ p ∈ wdL.drop 2 := by
      simp only [wdL, List.drop_succ_cons, List.drop_zero, List.mem_cons, List.not_mem_nil, or_false] at hm ⊢
      exact hm
    rcases hm2 with rfl | rfl | hm2
    · rw [h63] at hq; cases hq
    · rw [h97] at hq; cases hq
    · obtain ⟨r, e1, _⟩ := pre_app hq
      rw [e1, wd_int p hm2 r] at h
      cases h
  · rfl
/-- The reference's reading of a type, with as many steps as n. -/
def rfS (rd : Bs → Ty × Option Bs) (fl : List Ty → Bs → Ty × Option Bs) (l : Bs) : Ty × Option Bs :=
  if [42].isPrefixOf l then (.mk 0 3 0 0 [(rd (l.drop 1)).1] [], (rd (l.drop 1)).2)
  else if [91].isPrefixOf l then
    if noNum (l.drop 1) then (tz, none) else if [93].isPrefixOf ((l.drop 1).drop (digs (l.drop 1))) then
      (.mk 0 4 0 (numV ((l.drop 1).take (digs (l.drop 1)))) [(rd (((l.drop 1).drop (digs (l.drop 1))).drop 1)).1] [], (rd (((l.drop 1).drop (digs (l.drop 1))).drop 1)).2) else (tz, none)
  else if [123].isPrefixOf l then
    if [125].isPrefixOf (l.drop 1) then (.mk 0 5 0 0 [] [], some ((l.drop 1).drop 1)) else fl [] (l.drop 1)
  else wdP l
def rfF (rd : Bs → Ty × Option Bs) (fl : List Ty → Bs → Ty × Option Bs) (out : List Ty) (l : Bs) : Ty × Option Bs :=
  if noNum l then (tz, none) else if [58, 32].isPrefixOf (l.drop (digs l)) then
    match rd ((l.drop (digs l)).drop 2) with
    | (_, none) => (tz, none)
    | (t, some r) => if [125].isPrefixOf r then (.mk 0 5 0 0 [] (out ++ [t.at_ (numV (l.take (digs l)))]), some (r.drop 1)) else if [44, 32].isPrefixOf r then fl (out ++ [t.at_ (numV (l.take (digs l)))]) (r.drop 2) else (tz, none)
  else (tz, none)
def rfn : Nat → (Bs → Ty × Option Bs) × (List Ty → Bs → Ty × Option Bs)
  | 0 => (fun _ => (tz, none), fun _ _ => (tz, none))
  | n + 1 => (rfS (rfn n).1 (rfn n).2, rfF (rfn n).1 (rfn n).2)
/-- What the program's reader accepts, the reference's accepts, and it is the text of the type; what it refuses, the reference refuses. -/
theorem rd_back : ∀ m, m ≤ 4000000 → (∀ l, (((rdn m).1 l false).2.2 = false → l = txT ((rdn m).1 l false).1 ++ ((rdn m).1 l false).2.1 ∧ (rfn m).1 l = (((rdn m).1 l false).1, some ((rdn m).1 l false).2.1)) ∧ (((rdn m).1 l false).2.2 = true → ((rfn m).1 l).2 = none)) ∧
    ∀ out l, (((rdn m).2 out l false).2.2 = false → (∃ f r, ((rdn m).2 out l false).1 = out ++ f :: r ∧ l = (pcT (f.off, txT f) ++ tlT r) ++ 125 :: ((rdn m).2 out l false).2.1) ∧ (rfn m).2 out l = (.mk 0 5 0 0 [] ((rdn m).2 out l false).1, some ((rdn m).2 out l false).2.1)) ∧ (((rdn m).2 out l false).2.2 = true → ((rfn m).2 out l).2 = none) := by
  intro m
  induction m with
  | zero => exact fun _ => ⟨fun l => ⟨fun h => (by cases h), fun _ => rfl⟩, fun out l => ⟨fun h => (by cases h), fun _ => rfl⟩⟩
  | succ m ih =>
    intro hm
    obtain ⟨i1, i2⟩ := ih (by omega)
    obtain ⟨k1, k2⟩ := rdn_len m (by omega)
    refine ⟨fun l => ?_, fun out l => ?_⟩
    · show ((rdS (rdn m).1 (rdn m).2 l false).2.2 = false → l = txT (rdS (rdn m).1 (rdn m).2 l false).1 ++ (rdS (rdn m).1 (rdn m).2 l false).2.1 ∧ rfS (rfn m).1 (rfn m).2 l = ((rdS (rdn m).1 (rdn m).2 l false).1, some (rdS (rdn m).1 (rdn m).2 l false).2.1)) ∧ ((rdS (rdn m).1 (rdn m).2 l false).2.2 = true → (rfS (rfn m).1 (rfn m).2 l).2 = none)
      by_cases h63 : [63].isPrefixOf l = true
      · obtain ⟨r, rfl, _⟩ := pre_app h63
        exact ⟨fun _ => ⟨rfl, rfl⟩, fun h => (by cases h)⟩
      by_cases h97 : [97, 110, 121].isPrefixOf l = true
      · obtain ⟨r, rfl, _⟩ := pre_app h97
        exact ⟨fun _ => ⟨rfl, rfl⟩, fun h => (by cases h)⟩
      by_cases h42 : [42].isPrefixOf l = true
      · obtain ⟨r, rfl, _⟩ := pre_app h42
        have e1 : rdS (rdn m).1 (rdn m).2 ([42] ++ r) false = (.mk 0 3 0 0 [((rdn m).1 r false).1] [], ((rdn m).1 r false).2) := rfl
        have e2 : rfS (rfn m).1 (rfn m).2 ([42] ++ r) = (.mk 0 3 0 0 [((rfn m).1 r).1] [], ((rfn m).1 r).2) := rfl
        rw [e1, e2]
        obtain ⟨j1, j2⟩ := i1 r
        refine ⟨fun h => ?_, fun h => j2 h⟩
        obtain ⟨q1, q2⟩ := j1 h
        refine ⟨?_, by rw [q2]⟩
        rw [txT_mk]
        show 42 :: r = 42 :: (txT ((rdn m).1 r false).1 ++ ((rdn m).1 r false).2.1)
        rw [← q1]
      by_cases h91 : [91].isPrefixOf l = true
      · obtain ⟨r, rfl, _⟩ := pre_app h91
        have e1 : rdS (rdn m).1 (rdn m).2 ([91] ++ r) false = (let n := numP r false; let q := needP [93] n.2.1 n.2.2; let r := (rdn m).1 q.1 q.2; (.mk 0 4 0 n.1 [r.1] [], r.2)) := rfl
        have e2 : rfS (rfn m).1 (rfn m).2 ([91] ++ r) = if noNum r then (tz, none) else if [93].isPrefixOf (r.drop (digs r)) then
          (.mk 0 4 0 (numV (r.take (digs r))) [((rfn m).1 ((r.drop (digs r)).drop 1)).1] [], ((rfn m).1 ((r.drop (digs r)).drop 1)).2) else (tz, none) := rfl
        rw [e1, e2]
        have hn : numP r false = if noNum r then (0, r, true) else (numV (r.take (digs r)), r.drop (digs r), false) := rfl
        cases hnn : noNum r with
        | true =>
          rw [hnn, if_pos (rfl : true = true)] at hn
          rw [hn, if_pos (rfl : true = true)]
          simp only
          have hq : (needP [93] r true).2 = true := rfl
          refine ⟨fun h => ?_, fun _ => trivial⟩
          have := (k1 _ _).2.1 h
          rw [hq] at this
          cases this
        | false =>
          rw [hnn, if_neg Bool.false_ne_true] at hn
          have hnb := numP_back hn
          rw [hn, if_neg Bool.false_ne_true]
          simp only
          cases hp : [93].isPrefixOf (r.drop (digs r)) with
          | false =>
            rw [if_neg Bool.false_ne_true]
            have hq : (needP [93] (r.drop (digs r)) false).2 = true := by unfold needP; rw [hp]; rfl
            refine ⟨fun h => ?_, fun _ => rfl⟩
            have := (k1 _ _).2.1 h
            rw [hq] at this
            cases this
          | true =>
            rw [if_pos (rfl : true = true)]
            obtain ⟨r2, g1, g2⟩ := pre_app hp
            have hq : needP [93] (r.drop (digs r)) false = (r2, false) := by unfold needP accP; rw [hp, if_pos (rfl : true = true), g2]; rfl
            rw [hq]
            simp only
            rw [show (r.drop (digs r)).drop 1 = r2 from g2]
            obtain ⟨j1, j2⟩ := i1 r2
            refine ⟨fun h => ?_, fun h => j2 h⟩
            obtain ⟨q1, q2⟩ := j1 h
            refine ⟨?_, by rw [q2]⟩
            rw [txT_mk]
            show 91 :: r = ([91] ++ Lib.itoa (numV (r.take (digs r))) ++ [93]) ++ txT ((rdn m).1 r2 false).1 ++ ((rdn m).1 r2 false).2.1
            rw [List.append_assoc, ← q1, itoa_numV hnn]
            have : r = r.take (digs r) ++ ([93] ++ r2) := by rw [← g1, List.take_append_drop]
            simp only [List.append_assoc]
            rw [← this]
            rfl
      by_cases h123 : [123].isPrefixOf l = true
      · obtain ⟨r, rfl, _⟩ := pre_app h123
        have e1 : rdS (rdn m).1 (rdn m).2 ([123] ++ r) false = if [125].isPrefixOf r then (.mk 0 5 0 0 [] [], r.drop 1, false) else (.mk 0 5 0 0 [] ((rdn m).2 [] r false).1, ((rdn m).2 [] r false).2) := rfl
        have e2 : rfS (rfn m).1 (rfn m).2 ([123] ++ r) = if [125].isPrefixOf r then (.mk 0 5 0 0 [] [], some (r.drop 1)) else (rfn m).2 [] r := rfl
        rw [e1, e2]
        cases hp : [125].isPrefixOf r with
        | true =>
          obtain ⟨r2, rfl, _⟩ := pre_app hp
          rw [if_pos (rfl : true = true), if_pos (rfl : true = true)]
          exact ⟨fun _ => ⟨by rw [txT_mk]; rfl, rfl⟩, fun h => (by cases h)⟩
        | false =>
          rw [if_neg Bool.false_ne_true, if_neg Bool.false_ne_true]
          obtain ⟨j1, j2⟩ := i2 [] r
          refine ⟨fun h => ?_, fun h => j2 h⟩
          obtain ⟨⟨f, fs, q0, q1⟩, q2⟩ := j1 h
          refine ⟨?_, by rw [q2]⟩
          rw [txT_mk]
          simp only
          rw [q0]
          show 123 :: r = ([123] ++ fldT ((f :: fs).map fun f => (f.off, txT f)) ++ [125]) ++ ((rdn m).2 [] r false).2.1
          rw [fldT_cons]
          simp only [List.append_assoc]
          show 123 :: r = 123 :: (pcT (f.off, txT f) ++ (tlT fs ++ (125 :: ((rdn m).2 [] r false).2.1)))
          rw [← List.append_assoc, ← q1]
      have e1 : rdS (rdn m).1 (rdn m).2 l false = intP l false := by
        unfold rdS
        rw [if_neg Bool.false_ne_true, if_neg h63, if_neg h97, if_neg h42, if_neg h91, if_neg h123]
      have e2 : rfS (rfn m).1 (rfn m).2 l = wdP l := by
        unfold rfS
        rw [if_neg h42, if_neg h91, if_neg h123]
      rw [e1, e2]
      exact ⟨fun h => int_back (Prod.ext rfl (Prod.ext rfl h)), fun h => wd_none (eq_false_of_ne_true h63) (eq_false_of_ne_true h97) h⟩
    · show ((flS (rdn m).1 (rdn m).2 out l false).2.2 = false → (∃ f r, (flS (rdn m).1 (rdn m).2 out l false).1 = out ++ f :: r ∧ l = (pcT (f.off, txT f) ++ tlT r) ++ 125 :: (flS (rdn m).1 (rdn m).2 out l false).2.1) ∧ rfF (rfn m).1 (rfn m).2 out l = (.mk 0 5 0 0 [] (flS (rdn m).1 (rdn m).2 out l false).1, some (flS (rdn m).1 (rdn m).2 out l false).2.1)) ∧ ((flS (rdn m).1 (rdn m).2 out l false).2.2 = true → (rfF (rfn m).1 (rfn m).2 out l).2 = none)
      have stick : ∀ n q, (let r := (rdn m).1 q true; if [125].isPrefixOf r.2.1 then (out ++ [r.1.at_ n], r.2.1.drop 1, r.2.2) else let s := needP [44, 32] r.2.1 r.2.2; (rdn m).2 (out ++ [r.1.at_ n]) s.1 s.2).2.2 = true := by
        intro n q
        simp only
        have ht : ((rdn m).1 q true).2.2 = true := by
          cases hx : ((rdn m).1 q true).2.2 with
          | true => rfl
          | false => exact ((k1 q true).2.1 hx).symm
        split
        · exact ht
        · rw [ht]
          cases hx : ((rdn m).2 (out ++ [((rdn m).1 q true).1.at_ n]) (needP [44, 32] ((rdn m).1 q true).2.1 true).1 (needP [44, 32] ((rdn m).1 q true).2.1 true).2).2.2 with
          | true => rfl
          | false => exact ((k2 _ _ _).2.1 hx).symm
      unfold flS
      rw [if_neg Bool.false_ne_true]
      have hn : numP l false = if noNum l then (0, l, true) else (numV (l.take (digs l)), l.drop (digs l), false) := rfl
      unfold rfF
      cases hnn : noNum l with
      | true =>
        rw [hnn, if_pos (rfl : true = true)] at hn
        rw [hn, if_pos (rfl : true = true)]
        simp only
        rw [show ∀ x : Bs, needP [58, 32] x true = (accP [58, 32] x, true) from fun _ => rfl]
        have hs := stick 0 (accP [58, 32] l)
        simp only at hs ⊢
        exact ⟨fun h => absurd (hs.symm.trans h) (by decide), fun _ => trivial⟩
      | false =>
        rw [hnn, if_neg Bool.false_ne_true] at hn
        have hit := itoa_numV hnn
        have hspl : l = Lib.itoa (numV (l.take (digs l))) ++ l.drop (digs l) := by rw [hit, List.take_append_drop]
        rw [hn, if_neg Bool.false_ne_true]
        generalize numV (l.take (digs l)) = n at hspl ⊢
        generalize l.drop (digs l) = l2 at hspl ⊢
        simp only
        cases hp : [58, 32].isPrefixOf l2 with
        | false =>
          rw [if_neg Bool.false_ne_true]
          have hq : needP [58, 32] l2 false = (l2, true) := by unfold needP accP; rw [hp]; rfl
          rw [hq]
          have hs := stick n l2
          simp only at hs ⊢
          exact ⟨fun h => absurd (hs.symm.trans h) (by decide), fun _ => trivial⟩
        | true =>
          rw [if_pos (rfl : true = true)]
          obtain ⟨l3, g1, g2⟩ := pre_app hp
          have hq : needP [58, 32] l2 false = (l3, false) := by unfold needP accP; rw [hp, if_pos (rfl : true = true), g2]; rfl
          rw [hq, show l2.drop 2 = l3 from g2]
          simp only
          obtain ⟨j1, j2⟩ := i1 l3
          have hk := k1 l3 false
          cases hb : ((rdn m).1 l3 false).2.2 with
          | true =>
            have hno := j2 hb
            generalize (rfn m).1 l3 = z at hno ⊢
            obtain ⟨zt, zo⟩ := z
            simp only at hno
            subst hno
            simp only
            refine ⟨fun h => ?_, fun _ => trivial⟩
            split at h
            · cases h
            · have := (k2 _ _ _).2.1 h
              cases this
          | false =>
            obtain ⟨q1, q2⟩ := j1 hb
            rw [q2]
            generalize (rdn m).1 l3 false = z at hb q1 ⊢
            obtain ⟨t, r, b⟩ := z
            simp only at hb q1 ⊢
            subst hb
            have hl : l = pcT (n, txT (t.at_ n)) ++ r := by rw [hspl, g1, q1, txT_at]; simp [pcT]
            cases hc : [125].isPrefixOf r with
            | true =>
              obtain ⟨r2, rfl, _⟩ := pre_app hc
              rw [if_pos (rfl : true = true), if_pos (rfl : true = true)]
              exact ⟨fun _ => ⟨⟨t.at_ n, [], rfl, by rw [hl]; simp [tlT]; rfl⟩, rfl⟩, fun h => (by cases h)⟩
            | false =>
              rw [if_neg Bool.false_ne_true, if_neg Bool.false_ne_true]
              cases hd : [44, 32].isPrefixOf r with
              | false =>
                rw [if_neg Bool.false_ne_true]
                have hq : needP [44, 32] r false = (r, true) := by unfold needP accP; rw [hd]; rfl
                rw [hq]
                simp only
                refine ⟨fun h => ?_, fun _ => trivial⟩
                have := (k2 _ _ _).2.1 h
                cases this
              | true =>
                rw [if_pos (rfl : true = true)]
                obtain ⟨r2, f1, f2⟩ := pre_app hd
                have hq : needP [44, 32] r false = (r2, false) := by unfold needP accP; rw [hd, if_pos (rfl : true = true), f2]; rfl
                rw [hq, show r.drop 2 = r2 from f2]
                simp only
                obtain ⟨u1, u2⟩ := i2 (out ++ [t.at_ n]) r2
                refine ⟨fun h => ?_, u2⟩
                obtain ⟨⟨f, fs, v0, v1⟩, v2⟩ := u1 h
                refine ⟨⟨t.at_ n, f :: fs, by rw [v0]; simp, ?_⟩, v2⟩
                generalize ((rdn m).2 (out ++ [t.at_ n]) r2 false).2.1 = z at v1 ⊢
                rw [hl, f1, v1, tlT_cons]
                simp only [List.append_assoc]
                rfl
/-- How the reference's Parse answers. -/
theorem psT_ref (l : Bs) (hl : l.length ≤ 65536) : psT l = match (rfn (l.length + 2)).1 l with
    | (t, some []) => if chk t ≠ 0 then (tz, chk t) else (t, 0)
    | _ => (tz, 3) := by
  unfold psT
  rw [if_neg (by omega)]
  obtain ⟨h1, h2⟩ := (rd_back (l.length + 2) (by omega)).1 l
  simp only
  generalize (rdn (l.length + 2)).1 l false = r at h1 h2 ⊢
  generalize (rfn (l.length + 2)).1 l = s at h1 h2 ⊢
  obtain ⟨t, r, b⟩ := r
  simp only at h1 h2 ⊢
  cases b with
  | true =>
    have := h2 rfl
    obtain ⟨u, o⟩ := s
    simp only at this
    subst this
    rfl
  | false =>
    obtain ⟨_, rfl⟩ := h1 rfl
    cases r with
    | cons x r => rfl
    | nil => rfl
/-- Where the reference stops. -/
theorem rfn_len : ∀ m, (∀ l t r, (rfn m).1 l = (t, some r) → ∃ p, l = p ++ r ∧ p ≠ []) ∧ ∀ out l t r, (rfn m).2 out l = (t, some r) → ∃ p, l = p ++ r ∧ p ≠ [] := by
  intro m
  induction m with
  | zero => exact ⟨fun l t r h => (by cases h), fun out l t r h => (by cases h)⟩
  | succ m ih =>
    obtain ⟨i1, i2⟩ := ih
    refine ⟨fun l t r h => ?_, fun out l t r h => ?_⟩
    · have h : rfS (rfn m).1 (rfn m).2 l = (t, some r) := h
      unfold rfS at h
      split at h
      · rename_i hp
        obtain ⟨q, rfl, _⟩ := pre_app hp
        have h2 : ((rfn m).1 q).2 = some r := (Prod.mk.inj h).2
        obtain ⟨p, e, _⟩ := i1 q ((rfn m).1 q).1 r (Prod.ext rfl h2)
        exact ⟨42 :: p, by rw [e]; rfl, by simp⟩
      · split at h
        · rename_i hp
          obtain ⟨q, rfl, _⟩ := pre_app hp
          split at h
          · cases h
          · split at h
            · rename_i hq
              obtain ⟨q2, e2, e3⟩ := pre_app hq
              have h2 : ((rfn m).1 q2).2 = some r := by
                have := (Prod.mk.inj h).2
                rw [show (List.drop (digs (List.drop 1 ([91] ++ q))) (List.drop 1 ([91] ++ q))).drop 1 = q2 from e3] at this
                exact this
              obtain ⟨p, e, _⟩ := i1 q2 ((rfn m).1 q2).1 r (Prod.ext rfl h2)
              refine ⟨91 :: (q.take (digs q) ++ 93 :: p), ?_, by simp⟩
              have e2 : q.drop (digs q) = [93] ++ q2 := e2
              have : q = q.take (digs q) ++ ([93] ++ q2) := by rw [← e2, List.take_append_drop]
              rw [e] at this
              show 91 :: q = 91 :: ((q.take (digs q) ++ 93 :: p) ++ r)
              rw [List.append_assoc]
              exact congrArg _ this
            · cases h
        · split at h
          · rename_i hp
            obtain ⟨q, rfl, _⟩ := pre_app hp
            split at h
            · rename_i hq
              have hq : [125].isPrefixOf q = true := hq
              obtain ⟨q2, rfl, _⟩ := pre_app hq
              cases h
              exact ⟨[123, 125], rfl, by simp⟩
            · obtain ⟨p, e, _⟩ := i2 [] q t r h
              exact ⟨123 :: p, by rw [e]; rfl, by simp⟩
          · unfold wdP at h
            split at h
            · rename_i p hp
              have hm := List.mem_of_find?_eq_some hp
              have hq := List.find?_some hp
              obtain ⟨q, e1, e2⟩ := pre_app hq
              rw [e2] at h
              cases h
              refine ⟨p.1, e1, ?_⟩
              intro e
              simp only [wdL, List.mem_cons, List.not_mem_nil, or_false] at hm
              rcases hm with rfl | rfl | rfl | rfl | rfl | rfl | rfl | rfl <;> cases e
            · cases h
    · have h : rfF (rfn m).1 (rfn m).2 out l = (t, some r) := h
      unfold rfF at h
      split at h
      · cases h
      · split at h
        · rename_i hp
          obtain ⟨q, e1, e2⟩ := pre_app hp
          rw [show (l.drop (digs l)).drop 2 = q from e2] at h
          have hl : l = l.take (digs l) ++ ([58, 32] ++ q) := by rw [← e1, List.take_append_drop]
          split at h
          · cases h
          · rename_i t1 r1 hr
            obtain ⟨p, e, _⟩ := i1 _ _ _ hr
            split at h
            · rename_i hc
              obtain ⟨r2, rfl, _⟩ := pre_app hc
              cases h
              exact ⟨l.take (digs l) ++ ([58, 32] ++ (p ++ [125])), hl.trans (by rw [e]; simp), by simp⟩
            · split at h
              · rename_i hd
                obtain ⟨r2, f1, f2⟩ := pre_app hd
                rw [show r1.drop 2 = r2 from f2] at h
                obtain ⟨p2, e3, _⟩ := i2 _ _ _ _ h
                exact ⟨l.take (digs l) ++ ([58, 32] ++ (p ++ ([44, 32] ++ p2))), hl.trans (by rw [e, f1, e3]; simp), by simp⟩
              · cases h
        · cases h
end Go.Proofs.YtianekkfehoedaaGreatDoor
