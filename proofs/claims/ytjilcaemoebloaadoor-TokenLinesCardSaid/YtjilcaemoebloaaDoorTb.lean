/- Plain mathematics: what is written of tokens is taken apart into the same tokens. No program in sight. -/
import Derived.Test.YtjilcaemoebloaaDoorTa
namespace Go.Proofs.YtjilcaemoebloaaDoor
set_option linter.unusedSimpArgs false
set_option linter.unusedVariables false
set_option linter.unnecessarySimpa false

/-! ### Lengths -/
/-- The operators. -/
def opl : List Bs := [[62, 62, 115], [60, 115], [61, 61], [33, 61], [60, 60], [62, 62]] ++ ops1.map fun c => [c]
theorem symP_spec {s op : Bs} (h : symP s = some op) : op ∈ opl ∧ ∃ x, s = op ++ x := by
  unfold symP at h
  split at h
  · rename_i q
    cases h
    simp only [Bool.and_eq_true] at q
    exact ⟨by simp [opl], pre_iff.1 q.1⟩
  split at h
  · rename_i q
    cases h
    simp only [Bool.and_eq_true] at q
    exact ⟨by simp [opl], pre_iff.1 q.1⟩
  split at h
  · rename_i q; cases h; exact ⟨by simp [opl], pre_iff.1 q⟩
  split at h
  · rename_i q; cases h; exact ⟨by simp [opl], pre_iff.1 q⟩
  split at h
  · rename_i q; cases h; exact ⟨by simp [opl], pre_iff.1 q⟩
  split at h
  · rename_i q; cases h; exact ⟨by simp [opl], pre_iff.1 q⟩
  split at h
  · cases h
  · rename_i c r _ _ _ _ _ _
    split at h
    · rename_i q
      cases h
      refine ⟨?_, r, rfl⟩
      unfold opl
      refine List.mem_append_right _ (List.mem_map.2 ⟨c, ?_, rfl⟩)
      simpa using q
    · cases h
theorem opl_len : ∀ op ∈ opl, op ≠ [] ∧ symP op = some op ∧ (op.takeWhile isW).length = 0 ∧ op.head? ≠ some 34 ∧ op.head?.elim false (fun c => !isS c && c != 47) = true := by decide
theorem escX_len {s : Bs} {x : UInt8} {n : Nat} (h : escX s = some (x, n)) : 1 ≤ n ∧ n ≤ s.length + 1 := by
  match s, h with
  | a :: b :: r, h =>
    rw [escX] at h
    cases h1 : hexv a with
    | none => rw [h1] at h; cases h
    | some u =>
      cases h2 : hexv b with
      | none => rw [h1, h2] at h; cases h
      | some v => rw [h1, h2] at h; cases h; simp
theorem escP_len {s : Bs} {x : UInt8} {n : Nat} (h : escP s = some (x, n)) : 1 ≤ n ∧ n ≤ s.length := by
  cases s with
  | nil => cases h
  | cons c r =>
    rw [escP] at h
    split at h
    · cases h; simp
    split at h
    · have := escX_len h
      simpa using this
    · cases h
theorem quoG_len : ∀ (f : Nat) {s t : Bs} {n : Nat}, quoG f s = some (t, n) → 1 ≤ n ∧ n ≤ s.length
  | 0, s, t, n, h => by simp [quoG] at h
  | f + 1, [], t, n, h => by simp [quoG] at h
  | f + 1, c :: r, t, n, h => by
    rw [quoG] at h
    split at h
    · cases h; simp
    split at h
    · split at h
      · cases h
      · rename_i x k hk
        split at h
        · cases h
        · rename_i t' m hm
          cases h
          have h1 := escP_len hk
          have h2 := quoG_len f hm
          rw [List.length_drop] at h2
          simp only [List.length_cons]
          omega
    split at h
    · cases h
    · split at h
      · cases h
      · rename_i t' m hm
        cases h
        have h2 := quoG_len f hm
        simp only [List.length_cons]
        omega
/-- Enough fuel is enough. -/
theorem quoG_fuel : ∀ (f g : Nat) (s : Bs), s.length < f → s.length < g → quoG f s = quoG g s
  | 0, _, s, h, _ => by omega
  | _, 0, s, _, h => by omega
  | f + 1, g + 1, [], _, _ => by rw [quoG, quoG]
  | f + 1, g + 1, c :: r, hf, hg => by
    simp only [List.length_cons] at hf hg
    rw [quoG, quoG, quoG_fuel f g r (by omega) (by omega)]
    split
    · rfl
    split
    · cases h : escP r with
      | none => rfl
      | some x =>
      obtain ⟨x, k⟩ := x
      simp only
      rw [quoG_fuel f g (r.drop k) (by rw [List.length_drop]; omega) (by rw [List.length_drop]; omega)]
    · rfl
theorem quoP_nil : quoP [] = none := rfl
theorem quoP_cons (c : UInt8) (r : Bs) : quoP (c :: r) = if c.toNat = 34 then some ([], 1) else if c.toNat = 92 then (match escP r with
      | none => none
      | some (x, n) => match quoP (r.drop n) with
        | none => none
        | some (t, m) => some (x :: t, m + n + 1))
    else if c.toNat < 32 ∨ 126 < c.toNat then none
    else match quoP r with
      | none => none
      | some (t, m) => some (c :: t, m + 1) := by
  unfold quoP
  rw [quoG]
  split
  · rfl
  split
  · cases h : escP r with
    | none => rfl
    | some x =>
      obtain ⟨x, k⟩ := x
      simp only
      rw [quoG_fuel (c :: r).length ((r.drop k).length + 1) (r.drop k) (by rw [List.length_drop, List.length_cons]; omega) (by omega)]
      rfl
  · rfl
theorem tokP_len {s : Bs} {t : Tk} {n : Nat} (h : tokP s = some (t, n)) : 1 ≤ n ∧ n ≤ s.length := by
  unfold tokP at h
  split at h
  · rename_i q
    split at h
    · cases h; exact ⟨q, takeW_len s⟩
    · cases h
  split at h
  · rename_i q
    split at h
    · rename_i t' m hm
      cases h
      have := quoG_len _ hm
      rw [List.length_drop] at this
      have h1 : s ≠ [] := fun e => by rw [e] at q; cases q
      have h2 := List.length_pos_iff.2 h1
      omega
    · cases h
  · split at h
    · rename_i op hop
      cases h
      obtain ⟨h1, x, rfl⟩ := symP_spec hop
      have h2 := (opl_len _ h1).1
      have h3 := List.length_pos_iff.2 h2
      simp only [List.length_append]
      omega
    · cases h

/-! ### What follows behind a blank does not matter -/
def sepB : Bs → Bool
  | [] => true
  | c :: _ => isS c
theorem isS_nW {c : UInt8} (h : isS c = true) : isW c = false := by
  have := u8_all (fun c => !isS c || !isW c) (by decide +kernel) c
  simp only [h, Bool.not_true, Bool.false_or] at this
  simpa using this
theorem sepB_nW {r : Bs} (h : sepB r = true) : nW r = true := by
  cases r with
  | nil => rfl
  | cons c r => simp only [nW, isS_nW h, Bool.not_false]
theorem takeW_tail {s r : Bs} (hr : nW r = true) : (s ++ r).takeWhile isW = s.takeWhile isW := by
  induction s with
  | nil =>
    cases r with
    | nil => rfl
    | cons c r =>
      unfold nW at hr
      rw [List.nil_append, List.takeWhile_cons, if_neg (by simpa using hr)]
      rfl
  | cons x s ih =>
    rw [List.cons_append, List.takeWhile_cons, List.takeWhile_cons, ih]
theorem pre_tail {p : Bs} (hp : ∀ c ∈ p, isS c = false) {r : Bs} (hr : sepB r = true) : ∀ s : Bs, pre p (s ++ r) = pre p s := by
  unfold pre
  induction p with
  | nil => intro s; simp [List.isPrefixOf]
  | cons a p ih =>
    intro s
    cases s with
    | nil =>
      cases r with
      | nil => rfl
      | cons c r =>
        have h1 := hp a (by simp)
        have h2 : isS c = true := hr
        have h3 : (a == c) = false := by
          rw [beq_eq_false_iff_ne]
          rintro rfl
          rw [h1] at h2
          cases h2
        simp [List.isPrefixOf, h3]
    | cons b s =>
      simp only [List.cons_append, List.isPrefixOf]
      rw [ih fun c hc => hp c (by simp [hc])]
theorem nW_tail {s r : Bs} (hr : nW r = true) : nW (s ++ r) = nW s := by
  cases s with
  | nil => simpa [nW] using hr
  | cons c s => rfl
theorem symP_tail {s r : Bs} (hs : s ≠ []) (hr : sepB r = true) : symP (s ++ r) = symP s := by
  have hn := sepB_nW hr
  have hd : ∀ k, pre [62, 62, 115] s = true ∧ k = 3 ∨ pre [60, 115] s = true ∧ k = 2 → nW ((s ++ r).drop k) = nW (s.drop k) := fun k h => by
    rcases h with ⟨h, rfl⟩ | ⟨h, rfl⟩
    · obtain ⟨x, rfl⟩ := pre_iff.1 h
      show nW (x ++ r) = nW x
      exact nW_tail hn
    · obtain ⟨x, rfl⟩ := pre_iff.1 h
      show nW (x ++ r) = nW x
      exact nW_tail hn
  have e1 : (pre [62, 62, 115] (s ++ r) && nW ((s ++ r).drop 3)) = (pre [62, 62, 115] s && nW (s.drop 3)) := by
    rw [pre_tail (by decide) hr]
    cases h : pre [62, 62, 115] s with
    | false => rfl
    | true => rw [hd 3 (.inl ⟨h, rfl⟩)]
  have e2 : (pre [60, 115] (s ++ r) && nW ((s ++ r).drop 2)) = (pre [60, 115] s && nW (s.drop 2)) := by
    rw [pre_tail (by decide) hr]
    cases h : pre [60, 115] s with
    | false => rfl
    | true => rw [hd 2 (.inr ⟨h, rfl⟩)]
  unfold symP
  rw [e1, e2, pre_tail (by decide) hr, pre_tail (by decide) hr, pre_tail (by decide) hr, pre_tail (by decide) hr]
  cases s with
  | nil => exact absurd rfl hs
  | cons c s => rfl
theorem escX_tail {s : Bs} {x : UInt8} {n : Nat} (h : escX s = some (x, n)) (r : Bs) : escX (s ++ r) = some (x, n) := by
  match s, h with
  | a :: b :: t, h => exact h
theorem escP_tail {s : Bs} {x : UInt8} {n : Nat} (h : escP s = some (x, n)) (r : Bs) : escP (s ++ r) = some (x, n) := by
  cases s with
  | nil => cases h
  | cons c s =>
    rw [escP] at h
    rw [List.cons_append, escP]
    split at h
    · rename_i q; rw [if_pos q]; exact h
    rename_i q
    rw [if_neg q]
    split at h
    · rename_i q2
      rw [if_pos q2]
      exact escX_tail h r
    · cases h
theorem quoP_tail : ∀ (N : Nat) {s t : Bs} {n : Nat}, s.length ≤ N → quoP s = some (t, n) → ∀ r, quoP (s ++ r) = some (t, n)
  | _, [], t, n, _, h, r => by rw [quoP_nil] at h; cases h
  | 0, c :: s, t, n, hN, h, r => by simp at hN
  | N + 1, c :: s, t, n, hN, h, r => by
    simp only [List.length_cons] at hN
    rw [quoP_cons] at h
    rw [List.cons_append, quoP_cons]
    split at h
    · rename_i q; rw [if_pos q]; exact h
    rename_i q
    rw [if_neg q]
    split at h
    · rename_i q2
      rw [if_pos q2]
      split at h
      · cases h
      · rename_i x k hk
        rw [escP_tail hk r]
        simp only
        split at h
        · cases h
        · rename_i t' m hm
          have h1 := escP_len hk
          rw [List.drop_append_of_le_length h1.2, quoP_tail N (by rw [List.length_drop]; omega) hm r]
          exact h
    rename_i q2
    rw [if_neg q2]
    split at h
    · cases h
    rename_i q3
    rw [if_neg q3]
    split at h
    · cases h
    · rename_i t' m hm
      rw [quoP_tail N (by omega) hm r]
      exact h
theorem tokP_tail {s : Bs} {t : Tk} {n : Nat} (h : tokP s = some (t, n)) {r : Bs} (hr : sepB r = true) : tokP (s ++ r) = some (t, n) := by
  have hs : s ≠ [] := fun e => by
    have := tokP_len h
    rw [e] at this
    simp at this
    omega
  unfold tokP at h ⊢
  rw [takeW_tail (sepB_nW hr)]
  split at h
  · rename_i q; rw [if_pos q]; exact h
  rename_i q
  rw [if_neg q]
  have e : (s ++ r).head? = s.head? := by
    cases s with
    | nil => exact absurd rfl hs
    | cons c s => rfl
  rw [e]
  split at h
  · rename_i q2
    rw [if_pos q2]
    have h1 := List.length_pos_iff.2 hs
    rw [List.drop_append_of_le_length (by omega)]
    split at h
    · rename_i t' m hm
      rw [quoP_tail _ (Nat.le_refl _) hm r]
      exact h
    · cases h
  rename_i q2
  rw [if_neg q2, symP_tail hs hr]
  exact h

/-! ### Each token is written so that it is found again -/
theorem hexv_hexD : ∀ d < 16, hexv (hexD d) = some d ∧ isW (hexD d) = true ∧ (d < 10 → isD (hexD d) = true) := by decide
theorem digV_app (b : Nat) (l : Bs) (m : Bs) : ∀ a, digV b a (l ++ m) = (digV b a l).bind fun v => digV b v m := by
  induction l with
  | nil => intro a; rfl
  | cons c l ih =>
    intro a
    rw [List.cons_append, digV, digV]
    cases hexv c with
    | none => rfl
    | some d =>
      simp only
      split
      · exact ih _
      · rfl
theorem digV_hexG : ∀ (f n : Nat), n < f → digV 16 0 (hexG f n) = some n ∧ hexG f n ≠ [] ∧ ∀ c ∈ hexG f n, isW c = true
  | 0, n, h => by omega
  | f + 1, n, h => by
    rw [hexG]
    split
    · rename_i q
      obtain ⟨h1, h2, _⟩ := hexv_hexD n q
      refine ⟨?_, by simp, fun c hc => ?_⟩
      · rw [digV, h1]
        simp only
        rw [if_pos q, digV]
        congr 1
        omega
      · obtain rfl := List.mem_singleton.1 hc
        exact h2
    · rename_i q
      obtain ⟨h1, h2, h3⟩ := digV_hexG f (n / 16) (by omega)
      obtain ⟨k1, k2, _⟩ := hexv_hexD (n % 16) (by omega)
      refine ⟨?_, by simp, fun c hc => ?_⟩
      · rw [digV_app, h1, Option.bind_some, digV, k1]
        simp only
        rw [if_pos (by omega), digV]
        congr 1
        omega
      · rcases List.mem_append.1 hc with hc | hc
        · exact h3 c hc
        · obtain rfl := List.mem_singleton.1 hc
          exact k2
theorem hexG_len : ∀ (k f n : Nat), n < 16 ^ (k + 1) → n < f → (hexG f n).length ≤ k + 1
  | k, 0, n, _, h => by omega
  | k, f + 1, n, hn, h => by
    rw [hexG]
    split
    · simp
    · cases k with
      | zero => omega
      | succ k =>
        have := hexG_len k f (n / 16) (by rw [Nat.pow_succ] at hn; omega) (by omega)
        simp
        omega
theorem isK_head : ∀ w ∈ kwds, w.head?.elim false isL = true ∧ w.length ≤ 32 ∧ ∀ c ∈ w, isW c = true := by decide
theorem isK_mem {w : Bs} : isK w = true ↔ w ∈ kwds := by unfold isK; simp
theorem numS_spec (v : Nat) (hv : v < 4294967296) : numS v ≠ [] ∧ (∀ c ∈ numS v, isW c = true) ∧ isK (numS v) = false ∧ (numS v).head?.elim false isL = false ∧ valP (numS v) = some v := by
  unfold numS
  have nk : ∀ w : Bs, w.head?.elim false isL = false → isK w = false := fun w h => by
    rw [← Bool.not_eq_true, isK_mem]
    intro hm
    rw [(isK_head w hm).1] at h
    cases h
  split
  · rename_i q
    have key : ∀ d < 10, (∀ c ∈ [hexD d], isW c = true) ∧ ([hexD d] : Bs).head?.elim false isL = false ∧ valP [hexD d] = some d := by decide
    obtain ⟨k1, k2, k3⟩ := key v (by omega)
    exact ⟨by simp, k1, nk _ k2, k2, k3⟩
  · rename_i q
    obtain ⟨h1, h2, h3⟩ := digV_hexG (v + 1) v (by omega)
    have h4 := hexG_len 7 (v + 1) v (by omega) (by omega)
    refine ⟨by simp, fun c hc => ?_, nk _ rfl, rfl, ?_⟩
    · rcases List.mem_cons.1 hc with rfl | hc
      · decide
      rcases List.mem_cons.1 hc with rfl | hc
      · decide
      exact h3 c hc
    · unfold valP
      rw [if_pos (show pre [48, 120] (48 :: 120 :: hexS v) = true from pre_app [48, 120] (hexS v))]
      rw [show (48 :: 120 :: hexS v).drop 2 = hexS v from rfl]
      have h5 := List.length_pos_iff.2 h2
      unfold hexS
      rw [if_pos ⟨h5, h4⟩]
      exact h1
theorem escC_spec (c : UInt8) (r : Bs) : quoP (escC c ++ r) = (match quoP r with
    | none => none
    | some (t, m) => some (c :: t, m + (escC c).length)) := by
  unfold escC
  split
  · rename_i q
    show quoP (92 :: c :: r) = _
    rw [quoP_cons, if_neg (by decide), if_pos (by decide), escP, if_pos q]
    simp only [List.drop_succ_cons, List.drop_zero]
    cases quoP r <;> rfl
  rename_i q
  split
  · rename_i q2
    have hd1 := hexv_hexD (c.toNat / 16) (by have := c.toNat_lt; omega)
    have hd2 := hexv_hexD (c.toNat % 16) (by omega)
    show quoP (92 :: 120 :: hexD (c.toNat / 16) :: hexD (c.toNat % 16) :: r) = _
    rw [quoP_cons, if_neg (by decide), if_pos (by decide), escP, if_neg (by decide), if_pos (by decide), escX]
    simp only [hd1.1, hd2.1]
    rw [show 16 * (c.toNat / 16) + c.toNat % 16 = c.toNat by omega, show UInt8.ofNat c.toNat = c from by simp]
    simp only [List.drop_succ_cons, List.drop_zero]
    cases quoP r <;> rfl
  · rename_i q2
    rw [List.singleton_append, quoP_cons, if_neg (by omega), if_neg (by omega), if_neg q2]
    rfl
theorem quoS_spec (t r : Bs) : quoP (t.flatMap escC ++ 34 :: r) = some (t, (t.flatMap escC).length + 1) := by
  induction t with
  | nil => rw [List.flatMap_nil, List.nil_append, quoP_cons, if_pos (by decide)]; rfl
  | cons c t ih =>
    rw [List.flatMap_cons, List.append_assoc, escC_spec, ih]
    simp only [List.length_append]
    congr 2
    omega
/-- A token is written so that it is found again. -/
def GoodT (t : Tk) : Prop := ∃ w, shw t = some w ∧ tokP w = some (⟨t.kind, t.text, t.n, 0, 0⟩, w.length) ∧ ∀ x, skpG false (w ++ x) = w ++ x
theorem skp_stop {c : UInt8} {w : Bs} (h : (!isS c && c != 47) = true) (x : Bs) : skpG false ((c :: w) ++ x) = (c :: w) ++ x := by
  simp only [Bool.and_eq_true, Bool.not_eq_true', bne_iff_ne, ne_eq] at h
  rw [List.cons_append, skpG, if_neg (by simp [h.1]), if_neg (fun q => h.2 (toNat_inj q.1))]
theorem skp_word {w : Bs} (hw : w ≠ []) (h : ∀ c ∈ w, isW c = true) (x : Bs) : skpG false (w ++ x) = w ++ x := by
  cases w with
  | nil => exact absurd rfl hw
  | cons c w =>
    refine skp_stop ?_ x
    have := u8_all (fun c => !isW c || (!isS c && c != 47)) (by decide +kernel) c
    rw [h c (by simp)] at this
    simpa using this
theorem tok_word {w : Bs} (hw : w ≠ []) (h : ∀ c ∈ w, isW c = true) {t : Tk} (ht : namP w = some t) : tokP w = some (t, w.length) := by
  have e : w.takeWhile isW = w := by simpa using takeW_app h (r := []) rfl
  unfold tokP
  rw [e, if_pos (List.length_pos_iff.2 hw), ht]
theorem quoS_tok (s : Bs) : tokP (quoS s) = some (⟨4, s, 0, 0, 0⟩, (quoS s).length) := by
  unfold tokP quoS
  rw [if_neg (by rw [List.takeWhile_cons, if_neg (by decide)]; simp), if_pos (show (34 :: (s.flatMap escC ++ [34])).head? = some 34 from rfl)]
  simp only [List.drop_succ_cons, List.drop_zero]
  rw [quoS_spec s []]
  simp
theorem numS_tok (v : Nat) (hv : v < 4294967296) : tokP (numS v) = some (⟨3, [], v, 0, 0⟩, (numS v).length) := by
  obtain ⟨h1, h2, h3, h4, h5⟩ := numS_spec v hv
  refine tok_word h1 h2 ?_
  unfold namP
  rw [if_neg (by simp [h3]), if_neg (by simp [h4]), h5]
theorem digV_lt : ∀ (l : Bs) (b a v : Nat), digV b a l = some v → v < (a + 1) * b ^ l.length
  | [], b, a, v, h => by cases h; simp
  | c :: l, b, a, v, h => by
    rw [digV] at h
    split at h
    · rename_i d _
      split at h
      · rename_i q
        have := digV_lt l b _ v h
        rw [List.length_cons, Nat.pow_succ]
        have h2 : a * b + d + 1 ≤ (a + 1) * b := by rw [Nat.add_mul]; omega
        have h3 := Nat.mul_le_mul_right (b ^ l.length) h2
        rw [show (a + 1) * (b ^ l.length * b) = (a + 1) * b * b ^ l.length by rw [Nat.mul_comm (b ^ l.length) b, Nat.mul_assoc]]
        omega
      · cases h
    · cases h
theorem valP_lt {w : Bs} {v : Nat} (h : valP w = some v) : v < 4294967296 := by
  unfold valP at h
  split at h
  · split at h
    · rename_i q
      have := digV_lt _ _ _ _ h
      have h2 : 16 ^ (w.drop 2).length ≤ 16 ^ 8 := Nat.pow_le_pow_right (by decide) q.2
      have h3 : (16 : Nat) ^ 8 = 4294967296 := by decide
      omega
    · cases h
  split at h
  · cases h
  split at h
  · split at h
    · rename_i q
      cases h
      exact q
    · cases h
  · cases h
theorem good_of {s : Bs} {t : Tk} {n : Nat} (h : tokP s = some (t, n)) (p : Int × Int) : GoodT (t.at_ p) := by
  unfold tokP at h
  split at h
  · rename_i q
    split at h
    · rename_i t' hn
      cases h
      have hw : s.takeWhile isW ≠ [] := List.length_pos_iff.1 q
      have hall := takeW_all (l := s)
      generalize s.takeWhile isW = w at hn hw hall
      have hn0 := hn
      unfold namP at hn
      split at hn
      · cases hn
        exact ⟨w, rfl, tok_word hw hall hn0, skp_word hw hall⟩
      split at hn
      · split at hn
        · cases hn
          exact ⟨w, rfl, tok_word hw hall hn0, skp_word hw hall⟩
        · cases hn
      · split at hn
        · rename_i v hv
          cases hn
          have hlt := valP_lt hv
          obtain ⟨h1, h2, _⟩ := numS_spec v hlt
          refine ⟨numS v, by simp [shw, Tk.at_], numS_tok v hlt, skp_word h1 h2⟩
        · cases hn
    · cases h
  split at h
  · split at h
    · rename_i t' m hm
      cases h
      refine ⟨quoS t', by simp [shw, Tk.at_], quoS_tok t', fun x => ?_⟩
      exact skp_stop (by decide) x
    · cases h
  · split at h
    · rename_i op hop
      cases h
      obtain ⟨h1, _⟩ := symP_spec hop
      obtain ⟨k1, k2, k3, k4, k5⟩ := opl_len _ h1
      refine ⟨op, rfl, ?_, fun x => ?_⟩
      · unfold tokP
        rw [if_neg (by omega), if_neg k4, k2]
        rfl
      · cases op with
        | nil => exact absurd rfl k1
        | cons c w => exact skp_stop k5 x
    · cases h

/-! ### Lists of tokens -/
def core (t : Tk) : Int × Bs × Int := (t.kind, t.text, t.n)
theorem shw_core {a b : Tk} (h : core a = core b) : shw a = shw b := by
  simp only [core, Prod.mk.injEq] at h
  obtain ⟨h1, h2, h3⟩ := h
  unfold shw
  rw [h1, h2, h3]
theorem prn_core : ∀ {a b : List Tk}, a.map core = b.map core → a.filterMap shw = b.filterMap shw
  | [], [], _ => rfl
  | [], _ :: _, h => by cases h
  | _ :: _, [], h => by cases h
  | x :: a, y :: b, h => by
    simp only [List.map_cons, List.cons.injEq] at h
    rw [List.filterMap_cons, List.filterMap_cons, shw_core h.1, prn_core h.2]
theorem scn_goodT : ∀ (f : Nat) (s : Bs) (p : Int × Int), (scnG f s p).2 = true → ∀ t ∈ (scnG f s p).1, GoodT t
  | 0, s, p, _, t, ht => by simp [scnG] at ht
  | f + 1, s, p, h, t, ht => by
    rw [scnG] at h ht
    split at ht
    · cases ht
    rename_i q
    rw [if_neg q] at h
    split at ht
    · rename_i hk
      rw [hk] at h
      cases h
    · rename_i t0 n hk
      rw [hk] at h
      simp only at h
      rcases List.mem_cons.1 ht with rfl | ht
      · exact good_of hk _
      · exact scn_goodT f _ _ h t ht
theorem skp_le : ∀ (b : Bool) (s : Bs), (skpG b s).length ≤ s.length
  | b, [] => by cases b <;> simp [skpG]
  | true, c :: r => by
    rw [skpG]
    have h1 := skp_le false r
    have h2 := skp_le true r
    split <;> simp <;> omega
  | false, c :: r => by
    rw [skpG]
    have h1 := skp_le false r
    have h2 := skp_le true r
    split
    · simp; omega
    split
    · simp; omega
    · simp
theorem skq_blank {c : UInt8} (hc : isS c = true) (s : Bs) (p : Int × Int) : skq (c :: s) p = skq s (adv p c) := by
  unfold skq
  have h1 : skpG false (c :: s) = skpG false s := by rw [skpG, if_pos hc]
  have h2 := skp_le false s
  rw [h1, List.length_cons, show s.length + 1 - (skpG false s).length = (s.length - (skpG false s).length) + 1 by omega, List.take_succ_cons]
  rfl
theorem scnG_blank {c : UInt8} (hc : isS c = true) (f : Nat) (s : Bs) (p : Int × Int) : scnG f (c :: s) p = scnG f s (adv p c) := by
  cases f with
  | zero => rfl
  | succ f =>
    rw [scnG, scnG, skq_blank hc, show skpG false (c :: s) = skpG false s by rw [skpG, if_pos hc]]
theorem scnG_nil (f : Nat) (p : Int × Int) : scnG f [] p = ([], true) := by
  cases f with
  | zero => rfl
  | succ f => rw [scnG, if_pos (show skpG false [] = [] from rfl)]
/-- Scanning what was written. -/
theorem scn_prn : ∀ (l : List Tk), (∀ t ∈ l, GoodT t) → ∀ (f : Nat) (p : Int × Int), (prn l).length < f → (scnG f (prn l) p).2 = true ∧ (scnG f (prn l) p).1.map core = l.map core
  | [], _, f, p, _ => by
    rw [show prn [] = [] from rfl, scnG_nil]
    exact ⟨rfl, rfl⟩
  | t :: l, hg, 0, p, hf => by omega
  | t :: l, hg, f + 1, p, hf => by
    obtain ⟨w, h1, h2, h3⟩ := hg t (by simp)
    have hl := tokP_len h2
    have ih := scn_prn l fun x hx => hg x (by simp [hx])
    have hp : ∃ r, prn (t :: l) = w ++ r ∧ sepB r = true ∧ ∀ (f : Nat) (p : Int × Int), r.length < f + 1 → (scnG f r p).2 = true ∧ (scnG f r p).1.map core = l.map core := by
      unfold prn
      rw [List.filterMap_cons, h1]
      simp only
      cases hfm : l.filterMap shw with
      | nil =>
        refine ⟨[], by simp [joinB], rfl, fun f p _ => ?_⟩
        have : l = [] := by
          cases l with
          | nil => rfl
          | cons u l =>
            obtain ⟨v, k1, _⟩ := hg u (by simp)
            rw [List.filterMap_cons, k1] at hfm
            cases hfm
        rw [this, scnG_nil]
        exact ⟨rfl, rfl⟩
      | cons y r =>
        refine ⟨32 :: joinB (y :: r), rfl, rfl, fun f p hf => ?_⟩
        rw [scnG_blank (by decide)]
        have e : prn l = joinB (y :: r) := by unfold prn; rw [hfm]
        rw [← e]
        refine ih f _ ?_
        rw [e]
        simp only [List.length_cons] at hf
        omega
    obtain ⟨r, e, hr, hrest⟩ := hp
    rw [e] at hf ⊢
    rw [scnG, h3 r, if_neg (fun q => by rw [List.append_eq_nil_iff] at q; rw [q.1] at hl; simp at hl), tokP_tail h2 hr]
    simp only [List.length_append] at hf
    obtain ⟨k1, k2⟩ := hrest f (advs (skq (w ++ r) p) ((w ++ r).take w.length)) (by omega)
    simp only [List.drop_left]
    refine ⟨k1, ?_⟩
    rw [List.map_cons, List.map_cons, k2]
    rfl
theorem scn_last : ∀ (f : Nat) (s : Bs) (p : Int × Int), (scnG f s p).2 = false → ∃ t, (scnG f s p).1.getLast? = some t ∧ t.kind = 6
  | 0, s, p, h => by cases h
  | f + 1, s, p, h => by
    rw [scnG] at h ⊢
    by_cases q : skpG false s = []
    · rw [if_pos q] at h; cases h
    rw [if_neg q] at h ⊢
    cases hk : tokP (skpG false s) with
    | none => exact ⟨_, rfl, rfl⟩
    | some x =>
      obtain ⟨t, n⟩ := x
      rw [hk] at h
      obtain ⟨u, h1, h2⟩ := scn_last f _ _ h
      refine ⟨u, ?_, h2⟩
      simp only
      rw [List.getLast?_cons, h1]
      rfl
/-- The theorem of the stage. -/
theorem round_trip {s : Bs} (h : (scan s).2 = true) : (scan (prn (scan s).1)).2 = true ∧ (scan (prn (scan s).1)).1.map core = (scan s).1.map core ∧ prn (scan (prn (scan s).1)).1 = prn (scan s).1 := by
  obtain ⟨h1, h2⟩ := scn_prn (scan s).1 (scn_goodT _ _ _ h) ((prn (scan s).1).length + 1) (1, 1) (by omega)
  refine ⟨h1, h2, ?_⟩
  exact congrArg joinB (prn_core h2)
end Go.Proofs.YtjilcaemoebloaaDoor
