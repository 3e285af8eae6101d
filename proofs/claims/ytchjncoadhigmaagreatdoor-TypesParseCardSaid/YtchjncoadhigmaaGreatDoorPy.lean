/- Plain law: the text of a type is read as the type. -/
import Derived.Test.YtchjncoadhigmaaGreatDoorPv
import Derived.Test.YtchjncoadhigmaaGreatDoorPq
import Derived.Test.YtchjncoadhigmaaGreatDoorYg
namespace Go.Proofs.YtchjncoadhigmaaGreatDoor
set_option linter.unusedSimpArgs false
set_option linter.unusedVariables false
set_option linter.unnecessarySimpa false
theorem dig_nat {d : Nat} (h : d < 10) : (UInt8.ofNat (48 + d)).toNat = 48 + d := by
  have : (UInt8.ofNat (48 + d)).toNat = (48 + d) % 256 := rfl
  omega
theorem dig_is {d : Nat} (h : d < 10) : isDig (UInt8.ofNat (48 + d)) = true := by
  unfold isDig
  rw [dig_nat h]
  simp
  omega
theorem dig_val {d : Nat} (h : d < 10) : Lib.digitVal (UInt8.ofNat (48 + d)) = some d := by
  unfold Lib.digitVal
  rw [dig_nat h, if_pos (by omega)]
  congr 1
  omega
theorem dec_dig : ∀ u : Nat, ∀ b ∈ Lib.decDigits u, isDig b = true := by
  intro u
  induction u using Nat.strongRecOn with
  | _ u ih =>
    intro b hb
    rw [Lib.decDigits] at hb
    split at hb
    · rename_i h
      rw [List.mem_singleton.1 hb]
      exact dig_is h
    · rename_i h
      rcases List.mem_append.1 hb with h1 | h1
      · exact ih (u / 10) (by omega) b h1
      · rw [List.mem_singleton.1 h1]
        exact dig_is (by omega)
theorem dec_ne (u : Nat) : Lib.decDigits u ≠ [] := by
  rw [Lib.decDigits]
  split <;> simp
theorem dec_len : ∀ (k u : Nat), u < 10 ^ (k + 1) → (Lib.decDigits u).length ≤ k + 1 := by
  intro k
  induction k with
  | zero =>
    intro u h
    rw [Lib.decDigits, dif_pos (by simpa using h)]
    simp
  | succ k ih =>
    intro u h
    rw [Lib.decDigits]
    split
    · simp
    · rw [List.length_append, List.length_singleton]
      have := ih (u / 10) (by rw [Nat.pow_succ] at h; omega)
      omega
theorem dec_head : ∀ u : Nat, 1 ≤ u → ∃ b r, Lib.decDigits u = b :: r ∧ b ≠ 48 := by
  intro u
  induction u using Nat.strongRecOn with
  | _ u ih =>
    intro h1
    rw [Lib.decDigits]
    split
    · rename_i h
      refine ⟨_, [], rfl, fun e => ?_⟩
      have := congrArg UInt8.toNat e
      rw [dig_nat h] at this
      have e2 : (48 : UInt8).toNat = 48 := rfl
      omega
    · obtain ⟨b, r, e, hb⟩ := ih (u / 10) (by omega) (by omega)
      exact ⟨b, r ++ [UInt8.ofNat (48 + u % 10)], by rw [e]; rfl, hb⟩
theorem dec_one {u : Nat} (h : (Lib.decDigits u).length ≠ 1) : 10 ≤ u := by
  refine Classical.byContradiction fun h1 => h ?_
  rw [Lib.decDigits, dif_pos (by omega)]
  rfl
theorem decFrom_snoc : ∀ (l : Bs) (a n d : Nat) (b : UInt8), Lib.decFrom a l = some n → Lib.digitVal b = some d → Lib.decFrom a (l ++ [b]) = some (n * 10 + d)
  | [], a, n, d, b, h, hb => by
    have : a = n := by simpa [Lib.decFrom] using h
    subst this
    simp [Lib.decFrom, hb]
  | x :: l, a, n, d, b, h, hb => by
    rw [List.cons_append]
    unfold Lib.decFrom at h ⊢
    cases hx : Lib.digitVal x with
    | none => rw [hx] at h; cases h
    | some e =>
      rw [hx] at h
      exact decFrom_snoc l _ n d b h hb
theorem dec_val : ∀ u : Nat, Lib.decFrom 0 (Lib.decDigits u) = some u := by
  intro u
  induction u using Nat.strongRecOn with
  | _ u ih =>
    rw [Lib.decDigits]
    split
    · rename_i h
      unfold Lib.decFrom
      rw [dig_val h]
      simp [Lib.decFrom]
    · rename_i h
      rw [decFrom_snoc _ 0 (u / 10) (u % 10) _ (ih (u / 10) (by omega)) (dig_val (by omega))]
      congr 1
      omega
theorem numV_dec (u : Nat) : numV (Lib.decDigits u) = (u : Int) := by
  obtain ⟨b, r, e⟩ : ∃ b r, Lib.decDigits u = b :: r := by
    cases h : Lib.decDigits u with
    | nil => exact absurd h (dec_ne u)
    | cons b r => exact ⟨b, r, rfl⟩
  have hb := dec_dig u b (by rw [e]; simp)
  unfold isDig at hb
  simp only [Bool.and_eq_true, decide_eq_true_eq] at hb
  have h1 : ¬ (b == 45) = true := by intro e; have e := eq_of_beq e; subst e; exact absurd hb.1 (by decide)
  have h2 : ¬ (b == 43) = true := by intro e; have e := eq_of_beq e; subst e; exact absurd hb.1 (by decide)
  have hv := dec_val u
  rw [e] at hv ⊢
  have : Lib.decNat (b :: r) = some u := by unfold Lib.decNat; simpa using hv
  unfold numV
  simp only [Lib.atoi, if_neg h1, if_neg h2, this]
  rfl
theorem digs_app : ∀ (l r : Bs), (∀ b ∈ l, isDig b = true) → (∀ b q, r = b :: q → isDig b = false) → digs (l ++ r) = l.length
  | [], r, _, h => by
    cases r with
    | nil => rfl
    | cons b q =>
      have := h b q rfl
      show digs (b :: q) = 0
      unfold digs
      rw [this]
      rfl
  | x :: l, r, hl, h => by
    have := digs_app l r (fun b hb => hl b (by simp [hb])) h
    rw [List.cons_append]
    unfold digs
    rw [hl x (by simp), this]
    rfl
theorem numP_itoa {c : Int} (h0 : 0 ≤ c) (h1 : c < 1000000) (r : Bs) (hr : ∀ b q, r = b :: q → isDig b = false) (b : Bool) : numP (Lib.itoa c ++ r) b = (c, r, b) := by
  have e : Lib.itoa c = Lib.decDigits c.toNat := by unfold Lib.itoa; rw [if_neg (by omega)]
  obtain ⟨u, hu⟩ : ∃ u : Nat, u = c.toNat := ⟨_, rfl⟩
  have hcu : c = (u : Int) := by omega
  rw [e, ← hu]
  have hd := digs_app (Lib.decDigits u) r (dec_dig u) hr
  have hlen := dec_len 5 u (by omega)
  have hne := dec_ne u
  have hn : noNum (Lib.decDigits u ++ r) = false := by
    unfold noNum
    rw [hd]
    have h2 : 1 ≤ (Lib.decDigits u).length := List.length_pos_iff.2 hne
    have a1 : ((Lib.decDigits u).length == 0) = false := by simpa using hne
    have a2 : decide (6 < (Lib.decDigits u).length) = false := by simpa using hlen
    rw [a1, a2]
    by_cases h3 : (Lib.decDigits u).length = 1
    · simp [h3]
    · obtain ⟨x, q, ex, hx⟩ := dec_head u (by have := dec_one h3; omega)
      have : ((Lib.decDigits u ++ r).headD 0 == 48) = false := by rw [ex]; simpa using hx
      rw [this]
      simp
  unfold numP
  rw [hn, hd, List.take_left, List.drop_left, numV_dec, hcu]
  rfl
/-- The text of t, with whatever behind it, is read as t. -/
def RT (t : Ty) : Prop := ∀ (m : Nat) (rest : Bs), (txT t).length + rest.length + 2 ≤ m → ∃ t', (rdn m).1 (txT t ++ rest) false = (t', rest, false) ∧ samT t' t = true
theorem itoa_ne (c : Int) (h : 0 ≤ c) : 1 ≤ (Lib.itoa c).length := by
  have e : Lib.itoa c = Lib.decDigits c.toNat := by unfold Lib.itoa; rw [if_neg (by omega)]
  rw [e]
  exact List.length_pos_iff.2 (dec_ne _)
theorem itoa_head (c : Int) (h : 0 ≤ c) : ∃ b r, Lib.itoa c = b :: r ∧ isDig b = true := by
  have e : Lib.itoa c = Lib.decDigits c.toNat := by unfold Lib.itoa; rw [if_neg (by omega)]
  rw [e]
  cases hd : Lib.decDigits c.toNat with
  | nil => exact absurd hd (dec_ne _)
  | cons b r => exact ⟨b, r, rfl, dec_dig _ b (by rw [hd]; simp)⟩
/-- What stands behind the first field. -/
def tlT (l : List Ty) : Bs := (l.map fun f => [44, 32] ++ pcT (f.off, txT f)).flatten
theorem fldT_cons (f : Ty) (r : List Ty) : fldT ((f :: r).map fun f => (f.off, txT f)) = pcT (f.off, txT f) ++ tlT r := by
  unfold fldT tlT
  rw [List.map_cons]
  simp only [List.map_map]
  rfl
theorem tlT_cons (f : Ty) (r : List Ty) : tlT (f :: r) = [44, 32] ++ (pcT (f.off, txT f) ++ tlT r) := by
  unfold tlT
  rw [List.map_cons, List.flatten_cons, List.append_assoc]
theorem rt_fields : ∀ (r : List Ty) (f : Ty), (∀ x ∈ f :: r, RT x) → (∀ x ∈ f :: r, 0 ≤ x.off ∧ x.off < 65536) → ∀ (out : List Ty) (m : Nat) (rest : Bs), (pcT (f.off, txT f) ++ tlT r).length + rest.length + 3 ≤ m →
    ∃ fs', (rdn m).2 out ((pcT (f.off, txT f) ++ tlT r) ++ 125 :: rest) false = (out ++ fs', rest, false) ∧ all2 (fun x y => x.off == y.off && samT x y) fs' (f :: r) = true := by
  intro r
  induction r with
  | nil =>
    intro f hR ho out m rest hm
    obtain ⟨m, rfl⟩ : ∃ k, m = k + 1 := ⟨m - 1, by omega⟩
    have hf := ho f (by simp)
    have hl : (pcT (f.off, txT f) ++ tlT []) ++ 125 :: rest = Lib.itoa f.off ++ (58 :: 32 :: (txT f ++ 125 :: rest)) := by simp [pcT, tlT]
    have hlen : (pcT (f.off, txT f) ++ tlT []).length = (Lib.itoa f.off).length + 2 + (txT f).length := by simp [pcT, tlT]; omega
    rw [hl]
    have hi := itoa_ne f.off hf.1
    obtain ⟨t', e, hs⟩ := hR f (by simp) m (125 :: rest) (by rw [List.length_cons]; omega)
    refine ⟨[t'.at_ f.off], ?_, ?_⟩
    · show flS (rdn m).1 (rdn m).2 out _ false = _
      unfold flS
      rw [if_neg (by decide)]
      simp only
      rw [numP_itoa hf.1 (by omega) _ (fun b q e => by cases e; decide)]
      simp only
      rw [show needP [58, 32] (58 :: 32 :: (txT f ++ 125 :: rest)) false = (txT f ++ 125 :: rest, false) from rfl]
      simp only
      rw [e]
      rfl
    · show ((t'.at_ f.off).off == f.off && samT (t'.at_ f.off) f && true) = true
      rw [samT_atL, hs, show (t'.at_ f.off).off = f.off from rfl]
      simp
  | cons g r ih =>
    intro f hR ho out m rest hm
    obtain ⟨m, rfl⟩ : ∃ k, m = k + 1 := ⟨m - 1, by omega⟩
    have hf := ho f (by simp)
    have hl : (pcT (f.off, txT f) ++ tlT (g :: r)) ++ 125 :: rest = Lib.itoa f.off ++ (58 :: 32 :: (txT f ++ (44 :: 32 :: ((pcT (g.off, txT g) ++ tlT r) ++ 125 :: rest)))) := by rw [tlT_cons]; simp [pcT]
    have hlen : (pcT (f.off, txT f) ++ tlT (g :: r)).length = (Lib.itoa f.off).length + 2 + (txT f).length + 2 + (pcT (g.off, txT g) ++ tlT r).length := by rw [tlT_cons]; simp [pcT]; omega
    rw [hl]
    have hi := itoa_ne f.off hf.1
    obtain ⟨t', e, hs⟩ := hR f (by simp) m (44 :: 32 :: ((pcT (g.off, txT g) ++ tlT r) ++ 125 :: rest)) (by simp only [List.length_cons, List.length_append] at hlen hm ⊢; omega)
    obtain ⟨fs', e2, hs2⟩ := ih g (fun x hx => hR x (by simp at hx ⊢; exact .inr hx)) (fun x hx => ho x (by simp at hx ⊢; exact .inr hx)) (out ++ [t'.at_ f.off]) m rest (by omega)
    refine ⟨t'.at_ f.off :: fs', ?_, ?_⟩
    · show flS (rdn m).1 (rdn m).2 out _ false = _
      unfold flS
      rw [if_neg (by decide)]
      simp only
      rw [numP_itoa hf.1 (by omega) _ (fun b q e => by cases e; decide)]
      simp only
      rw [show ∀ q : Bs, needP [58, 32] (58 :: 32 :: q) false = (q, false) from fun _ => rfl]
      simp only
      rw [e]
      simp only
      rw [if_neg (show ¬ [125].isPrefixOf (44 :: 32 :: ((pcT (g.off, txT g) ++ tlT r) ++ 125 :: rest)) = true from Bool.noConfusion)]
      rw [show ∀ q : Bs, needP [44, 32] (44 :: 32 :: q) false = (q, false) from fun _ => rfl]
      simp only
      rw [e2, List.append_assoc]
      rfl
    · show ((t'.at_ f.off).off == f.off && samT (t'.at_ f.off) f && all2 (fun x y => x.off == y.off && samT x y) fs' (g :: r)) = true
      rw [samT_atL, hs, hs2, show (t'.at_ f.off).off = f.off from rfl]
      simp
theorem rt_all : ∀ t : Ty, frm t = true → RT t := by
  refine Ty.induct fun o k s c es fs hE hF => ?_
  intro hfrm m rest hm
  obtain ⟨hb, hof, hfs, hes⟩ := frm_inv hfrm
  obtain ⟨m, rfl⟩ : ∃ k, m = k + 1 := ⟨m - 1, by omega⟩
  rw [txT_mk] at hm ⊢
  show ∃ t', rdS (rdn m).1 (rdn m).2 _ false = _ ∧ _
  rcases base_cases hb with ⟨hk, h1⟩ | ⟨hk, hs, h1⟩ | ⟨rfl, h1⟩ | ⟨rfl, h0, h1, h2, h3, h4⟩ | ⟨rfl, h1⟩
  · obtain ⟨rfl, rfl, he, hf⟩ := h1
    obtain rfl := List.length_eq_zero_iff.1 he
    obtain rfl := List.length_eq_zero_iff.1 hf
    rcases hk with rfl | rfl
    · rw [if_pos rfl]
      exact ⟨tz, rfl, by rw [tz, samT_mk]; rfl⟩
    · rw [if_neg (by decide), if_pos rfl]
      exact ⟨.mk 0 6 0 0 [] [], rfl, by rw [samT_mk]; rfl⟩
  · obtain ⟨rfl, he, hf⟩ := h1
    obtain rfl := List.length_eq_zero_iff.1 he
    obtain rfl := List.length_eq_zero_iff.1 hf
    rcases hk with rfl | rfl
    · rw [if_neg (by decide), if_neg (by decide), if_pos rfl]
      refine ⟨.mk 0 1 s 0 [] [], ?_, by rw [samT_mk]; simp [Ty.kind, Ty.size, Ty.count, Ty.elem, Ty.fields, all2]⟩
      rcases hs with rfl | rfl | rfl
      · rw [show (8 : Int) * 1 = 8 from rfl, itoa_8]; rfl
      · rw [show (8 : Int) * 2 = 16 from rfl, itoa_16]; rfl
      · rw [show (8 : Int) * 4 = 32 from rfl, itoa_32]; rfl
    · rw [if_neg (by decide), if_neg (by decide), if_neg (by decide), if_pos rfl]
      refine ⟨.mk 0 2 s 0 [] [], ?_, by rw [samT_mk]; simp [Ty.kind, Ty.size, Ty.count, Ty.elem, Ty.fields, all2]⟩
      rcases hs with rfl | rfl | rfl
      · rw [show (8 : Int) * 1 = 8 from rfl, itoa_8]; rfl
      · rw [show (8 : Int) * 2 = 16 from rfl, itoa_16]; rfl
      · rw [show (8 : Int) * 4 = 32 from rfl, itoa_32]; rfl
  · obtain ⟨rfl, rfl, he, hf⟩ := h1
    obtain ⟨x, rfl⟩ := List.length_eq_one_iff.1 he
    obtain rfl := List.length_eq_zero_iff.1 hf
    rw [if_neg (by decide), if_neg (by decide), if_neg (by decide), if_neg (by decide), if_pos rfl] at hm ⊢
    simp only [List.map_cons, List.map_nil, List.headD_cons, List.length_append, List.length_singleton] at hm ⊢
    obtain ⟨t', e, hs⟩ := hE x (by simp) (hes x (by simp)) m rest (by omega)
    refine ⟨.mk 0 3 0 0 [t'] [], ?_, by rw [samT_mk]; simp [Ty.kind, Ty.size, Ty.count, Ty.elem, Ty.fields, all2, hs]⟩
    show (Ty.mk 0 3 0 0 [((rdn m).1 (txT x ++ rest) false).1] [], ((rdn m).1 (txT x ++ rest) false).2) = _
    rw [e]
  · obtain rfl := h0
    obtain ⟨x, rfl⟩ := List.length_eq_one_iff.1 h3
    obtain rfl := List.length_eq_zero_iff.1 h4
    rw [if_neg (by decide), if_neg (by decide), if_neg (by decide), if_neg (by decide), if_neg (by decide), if_pos rfl] at hm ⊢
    simp only [List.map_cons, List.map_nil, List.headD_cons, List.length_append, List.length_singleton] at hm ⊢
    obtain ⟨t', e, hs⟩ := hE x (by simp) (hes x (by simp)) m rest (by omega)
    refine ⟨.mk 0 4 0 c [t'] [], ?_, by rw [samT_mk]; simp [Ty.kind, Ty.size, Ty.count, Ty.elem, Ty.fields, all2, hs]⟩
    have hl : [91] ++ Lib.itoa c ++ [93] ++ txT x ++ rest = 91 :: (Lib.itoa c ++ 93 :: (txT x ++ rest)) := by simp
    rw [hl]
    have hn := numP_itoa (c := c) (by omega) (by omega) (93 :: (txT x ++ rest)) (fun b q e => by cases e; decide) false
    show (let n := numP (Lib.itoa c ++ 93 :: (txT x ++ rest)) false; let q := needP [93] n.2.1 n.2.2; let r := (rdn m).1 q.1 q.2; ((Ty.mk 0 4 0 n.1 [r.1] [], r.2) : Rdr Ty)) = _
    rw [hn]
    simp only
    rw [show ∀ q : Bs, needP [93] (93 :: q) false = (q, false) from fun _ => rfl]
    simp only
    rw [e]
  · obtain ⟨rfl, rfl, he⟩ := h1
    obtain rfl := List.length_eq_zero_iff.1 he
    rw [if_neg (by decide), if_neg (by decide), if_neg (by decide), if_neg (by decide), if_neg (by decide), if_neg (by decide), if_pos rfl] at hm ⊢
    cases fs with
    | nil => exact ⟨.mk 0 5 0 0 [] [], rfl, by rw [samT_mk]; rfl⟩
    | cons f r =>
      rw [fldT_cons] at hm ⊢
      have ho : ∀ x ∈ f :: r, 0 ≤ x.off ∧ x.off < 65536 := fun x hx => by
        obtain ⟨i, hi, rfl⟩ := List.getElem_of_mem hx
        have := hof i hi
        unfold fok at this
        simp only [Bool.and_eq_true, decide_eq_true_eq] at this
        have e : (List.map Ty.off (f :: r)).getD i 0 = (f :: r)[i].off := by rw [List.getD_eq_getElem?_getD, List.getElem?_map, List.getElem?_eq_getElem hi]; rfl
        rw [e] at this
        exact this.1
      obtain ⟨fs', e, hs⟩ := rt_fields r f (fun x hx => hF x hx (hfs x hx)) ho [] m rest (by simp only [List.length_append, List.length_singleton] at hm ⊢; omega)
      refine ⟨.mk 0 5 0 0 [] fs', ?_, by rw [samT_mk]; simp [Ty.kind, Ty.size, Ty.count, Ty.elem, Ty.fields]; exact ⟨rfl, hs⟩⟩
      have hl : [123] ++ (pcT (f.off, txT f) ++ tlT r) ++ [125] ++ rest = 123 :: ((pcT (f.off, txT f) ++ tlT r) ++ 125 :: rest) := by simp
      rw [hl]
      obtain ⟨b, q, eb, hb'⟩ := itoa_head f.off (ho f (by simp)).1
      have hnp : [125].isPrefixOf ((pcT (f.off, txT f) ++ tlT r) ++ 125 :: rest) = false := by
        unfold pcT
        simp only [eb, List.cons_append, List.isPrefixOf]
        have : (125 == b) = false := by
          rw [beq_eq_false_iff_ne]
          intro e
          rw [← e] at hb'
          exact absurd hb' (by decide)
        rw [this]
        rfl
      show (if [125].isPrefixOf ((pcT (f.off, txT f) ++ tlT r) ++ 125 :: rest) then ((Ty.mk 0 5 0 0 [] [], ((pcT (f.off, txT f) ++ tlT r) ++ 125 :: rest).drop 1, false) : Rdr Ty) else (Ty.mk 0 5 0 0 [] ((rdn m).2 [] ((pcT (f.off, txT f) ++ tlT r) ++ 125 :: rest) false).1, ((rdn m).2 [] ((pcT (f.off, txT f) ++ tlT r) ++ 125 :: rest) false).2)) = _
      rw [hnp, e]
      rfl
/-- Parse reads what Print said. -/
theorem psT_txT {t : Ty} (h : good t = true) (hl : (txT t).length ≤ 65536) : (psT (txT t)).2 = 0 ∧ samT (psT (txT t)).1 t = true := by
  obtain ⟨t', e, hs⟩ := rt_all t (good_frm h) ((txT t).length + 2) [] (by simp)
  rw [List.append_nil] at e
  have hg : good t' = true := by rw [samT_good hs]; exact h
  have hc : chk t' = 0 := by unfold good at hg; simpa using hg
  unfold psT
  rw [if_neg (by omega)]
  simp only
  rw [e]
  simp only [List.isEmpty_nil, Bool.not_true, Bool.or_false, Bool.false_eq_true, if_false]
  rw [if_neg (by simpa using hc)]
  exact ⟨rfl, hs⟩
theorem psT_long {l : Bs} (hl : 65536 < l.length) : psT l = (tz, 6) := by unfold psT; rw [if_pos hl]
theorem itoa_len {c : Int} (h0 : 0 ≤ c) (h1 : c < 1000000) : (Lib.itoa c).length ≤ 6 := by
  have e : Lib.itoa c = Lib.decDigits c.toNat := by unfold Lib.itoa; rw [if_neg (by omega)]
  rw [e]
  exact dec_len 5 _ (by omega)
/-- What the texts of a list take. -/
def sumT (l : List Ty) : Nat := (l.map fun x => (txT x).length + 10).sum
theorem sumT_cons (x : Ty) (l : List Ty) : sumT (x :: l) = (txT x).length + 10 + sumT l := by unfold sumT; simp
theorem tlT_len : ∀ l : List Ty, (∀ x ∈ l, 0 ≤ x.off ∧ x.off < 65536) → (tlT l).length ≤ sumT l
  | [], _ => by simp [tlT, sumT]
  | x :: l, h => by
    have := tlT_len l fun y hy => h y (by simp [hy])
    have hx := h x (by simp)
    have hi := itoa_len hx.1 (by omega)
    rw [tlT_cons, sumT_cons]
    simp only [pcT, List.length_append, List.length_cons, List.length_nil]
    omega
theorem fldT_len (l : List Ty) (h : ∀ x ∈ l, 0 ≤ x.off ∧ x.off < 65536) : (fldT (l.map fun f => (f.off, txT f))).length ≤ sumT l := by
  cases l with
  | nil => simp [fldT, sumT]
  | cons x l =>
    have := tlT_len l fun y hy => h y (by simp [hy])
    have hx := h x (by simp)
    have hi := itoa_len hx.1 (by omega)
    rw [fldT_cons, sumT_cons]
    simp only [pcT, List.length_append, List.length_cons, List.length_nil]
    omega
theorem pfold_sum {most : Int} : ∀ (l : List Ty), (∀ x ∈ l, ∀ n, 0 ≤ tpa x most n → ((txT x).length : Int) + 10 ≤ 40 * (n - tpa x most n)) → ∀ n, 0 ≤ n → 0 ≤ pfold (fun x n => tpa x most n) l n → (sumT l : Int) ≤ 40 * (n - pfold (fun x n => tpa x most n) l n)
  | [], _, n, hn, h => by simp [pfold, sumT]
  | x :: l, hx, n, hn, h => by
    have e : pfold (fun x n => tpa x most n) (x :: l) n = pfold (fun x n => tpa x most n) l (tpa x most n) := by unfold pfold; rw [List.foldl_cons, if_pos hn]
    rw [e] at h ⊢
    have h0 : 0 ≤ tpa x most n := Int.not_lt.1 fun hneg => by
      rw [pfold_stop _ (by omega)] at h
      omega
    have h1 := hx x (by simp) n h0
    have h2 := pfold_sum l (fun y hy => hx y (by simp [hy])) _ h0 h
    rw [sumT_cons]
    omega
theorem txT_len : ∀ t : Ty, frm t = true → ∀ most left : Int, 0 ≤ left → 0 ≤ tpa t most left → ((txT t).length : Int) + 10 ≤ 40 * (left - tpa t most left) := by
  refine Ty.induct fun o k s c es fs hE hF => ?_
  intro hfrm most left hl h
  obtain ⟨hb, hof, hfs, hes⟩ := frm_inv hfrm
  rw [tpa_mk] at h ⊢
  split at h
  · omega
  · rename_i hn
    rw [if_neg hn]
    have h0 : 0 ≤ pfold (fun x n => tpa x (most - 1) n) es (left - 1) := Int.not_lt.1 fun hneg => by
      rw [pfold_stop _ (by omega)] at h
      omega
    have a1 := pfold_sum es (fun x hx n hn => by
      by_cases hn0 : 0 ≤ n
      · exact hE x hx (hes x hx) _ _ hn0 hn
      · obtain ⟨o', k', s', c', es', fs'⟩ := x
        rw [tpa_mk, if_pos (by omega)] at hn
        omega) (left - 1) (by omega) h0
    have a2 := pfold_sum fs (fun x hx n hn => by
      by_cases hn0 : 0 ≤ n
      · exact hF x hx (hfs x hx) _ _ hn0 hn
      · obtain ⟨o', k', s', c', es', fs'⟩ := x
        rw [tpa_mk, if_pos (by omega)] at hn
        omega) _ h0 h
    have hlen : ((txT (.mk o k s c es fs)).length : Int) ≤ 12 + sumT es + sumT fs := by
      rw [txT_mk]
      rcases base_cases hb with ⟨hk, h1⟩ | ⟨hk, hs, h1⟩ | ⟨rfl, h1⟩ | ⟨rfl, h0, h1, h2, h3, h4⟩ | ⟨rfl, h1⟩
      · rcases hk with rfl | rfl
        · rw [if_pos rfl]; simp; omega
        · rw [if_neg (by decide), if_pos rfl]; simp; omega
      · have hi := itoa_len (c := 8 * s) (by omega) (by omega)
        rcases hk with rfl | rfl
        · rw [if_neg (by decide), if_neg (by decide), if_pos rfl]; simp only [List.length_append, List.length_cons, List.length_nil]; omega
        · rw [if_neg (by decide), if_neg (by decide), if_neg (by decide), if_pos rfl]; simp only [List.length_append, List.length_cons, List.length_nil]; omega
      · rw [if_neg (by decide), if_neg (by decide), if_neg (by decide), if_neg (by decide), if_pos rfl]
        obtain ⟨x, rfl⟩ := List.length_eq_one_iff.1 h1.2.2.1
        simp only [List.map_cons, List.map_nil, List.headD_cons, List.length_append, List.length_cons, List.length_nil, sumT_cons]
        omega
      · rw [if_neg (by decide), if_neg (by decide), if_neg (by decide), if_neg (by decide), if_neg (by decide), if_pos rfl]
        obtain ⟨x, rfl⟩ := List.length_eq_one_iff.1 h3
        have hi := itoa_len (c := c) (by omega) (by omega)
        simp only [List.map_cons, List.map_nil, List.headD_cons, List.length_append, List.length_cons, List.length_nil, sumT_cons]
        omega
      · rw [if_neg (by decide), if_neg (by decide), if_neg (by decide), if_neg (by decide), if_neg (by decide), if_neg (by decide), if_pos rfl]
        have := fldT_len fs fun x hx => by
          obtain ⟨i, hi, rfl⟩ := List.getElem_of_mem hx
          have := hof i hi
          unfold fok at this
          simp only [Bool.and_eq_true, decide_eq_true_eq] at this
          have e : (List.map Ty.off fs).getD i 0 = fs[i].off := by rw [List.getD_eq_getElem?_getD, List.getElem?_map, List.getElem?_eq_getElem hi]; rfl
          rw [e] at this
          exact this.1
        simp only [List.length_append, List.length_cons, List.length_nil]
        omega
    omega
theorem txT_small {t : Ty} {most : Int} (h : frm t = true) (hs : smallT t most = true) : (txT t).length ≤ 120000 := by
  unfold smallT at hs
  have h1 : 0 ≤ tpa t most 3000 := by simpa using hs
  have := txT_len t h most 3000 (by decide) h1
  omega
end Go.Proofs.YtchjncoadhigmaaGreatDoor
