/- Plain mathematics: tokens: keywords, strings and numbers as texts; white space around a text; places ascend. No program in sight. -/
import Derived.Test.YtjilcaemoebloaaDoorTb
namespace Go.Proofs.YtjilcaemoebloaaDoor
set_option linter.unusedSimpArgs false
set_option linter.unusedVariables false
set_option linter.unnecessarySimpa false

/-- A text that is one token. -/
theorem scan_one {w : Bs} {t : Tk} (h : tokP w = some (t, w.length)) (hs : ∀ x, skpG false (w ++ x) = w ++ x) : scan w = ([t.at_ (1, 1)], true) := by
  have h0 : skpG false w = w := by simpa using hs []
  have hl := tokP_len h
  unfold scan
  rw [scnG, h0, if_neg (fun q => by rw [q] at hl; simp at hl), h]
  simp only [List.drop_length, scnG_nil]
  unfold skq
  rw [h0, Nat.sub_self]
  rfl
theorem scan_string (s : Bs) : scan (prn [⟨4, s, 0, 0, 0⟩]) = ([⟨4, s, 0, 1, 1⟩], true) :=
  scan_one (quoS_tok s) fun x => skp_stop (by decide) x
theorem scan_number (v : Nat) (hv : v < 4294967296) : scan (prn [⟨3, [], v, 0, 0⟩]) = ([⟨3, [], v, 1, 1⟩], true) := by
  obtain ⟨h1, h2, _⟩ := numS_spec v hv
  have e : prn [⟨3, [], v, 0, 0⟩] = numS v := by simp [prn, shw, joinB]
  rw [e]
  exact scan_one (numS_tok v hv) fun x => skp_word h1 h2 x
theorem digV_g (b : Nat) (l : Bs) : ∀ a, digV b a (l ++ [103]) = none := by
  induction l with
  | nil => intro a; rfl
  | cons c l ih =>
    intro a
    rw [List.cons_append, digV]
    split
    · split
      · exact ih _
      · rfl
    · rfl
theorem scan_number_g (v : Nat) (hv : v < 4294967296) : scan (prn [⟨3, [], v, 0, 0⟩] ++ [103]) = ([⟨6, [], 0, 1, 1⟩], false) := by
  obtain ⟨h1, h2, h3, h4, h5⟩ := numS_spec v hv
  have e : prn [⟨3, [], v, 0, 0⟩] = numS v := by simp [prn, shw, joinB]
  rw [e]
  have hw : ∀ c ∈ numS v ++ [103], isW c = true := fun c hc => by
    rcases List.mem_append.1 hc with hc | hc
    · exact h2 c hc
    · obtain rfl := List.mem_singleton.1 hc
      decide
  have hne : numS v ++ [103] ≠ [] := by simp
  have hh : (numS v ++ [103]).head?.elim false isL = false := by
    cases q : numS v with
    | nil => exact absurd q h1
    | cons c r => rw [q] at h4; exact h4
  have hk : isK (numS v ++ [103]) = false := by
    rw [← Bool.not_eq_true, isK_mem]
    intro hm
    rw [(isK_head _ hm).1] at hh
    cases hh
  have hv0 : valP (numS v ++ [103]) = none := by
    unfold valP
    split
    · split
      · rename_i q2
        have : (numS v ++ [103]).drop 2 = (numS v).drop 2 ++ [103] := by
          rename_i q
          unfold numS at q ⊢
          split
          · rename_i q3
            rw [if_pos q3] at q
            have key : ∀ d < 10, pre [48, 120] ([hexD d] ++ [103]) = false := by decide
            rw [key v (by omega)] at q
            cases q
          · rfl
        rw [this]
        exact digV_g _ _ _
      · rfl
    split
    · rfl
    · rw [digV_g]
  have hn : namP (numS v ++ [103]) = none := by
    unfold namP
    rw [if_neg (by simp [hk]), if_neg (by rw [hh]; decide), hv0]
  have ht : tokP (numS v ++ [103]) = none := by
    have e : (numS v ++ [103]).takeWhile isW = numS v ++ [103] := by simpa using takeW_app hw (r := []) rfl
    unfold tokP
    rw [e, if_pos (List.length_pos_iff.2 hne), hn]
  have h0 : skpG false (numS v ++ [103]) = numS v ++ [103] := by simpa using skp_word hne hw []
  unfold scan
  rw [scnG, h0, if_neg hne, ht]
  simp only
  unfold skq
  rw [h0, Nat.sub_self]
  rfl
/-- A text is scanned as one keyword if and only if it is one. -/
theorem scan_keyword (s : Bs) : isK s = true ↔ (scan s).2 = true ∧ ∃ t, (scan s).1 = [t] ∧ t.kind = 2 ∧ t.text = s := by
  constructor
  · intro h
    obtain ⟨h1, h2, h3⟩ := isK_head s (isK_mem.1 h)
    have hne : s ≠ [] := fun e => by rw [e] at h1; cases h1
    rw [scan_one (tok_word hne h3 (t := ⟨2, s, 0, 0, 0⟩) (by unfold namP; rw [if_pos h])) fun x => skp_word hne h3 x]
    exact ⟨rfl, _, rfl, rfl, rfl⟩
  · rintro ⟨h1, t, h2, h3, h4⟩
    unfold scan at h2
    rw [scnG] at h2
    split at h2
    · cases h2
    split at h2
    · cases h2; cases h3
    · rename_i t0 n hk
      simp only [List.cons.injEq] at h2
      obtain ⟨rfl, _⟩ := h2
      unfold tokP at hk
      split at hk
      · split at hk
        · rename_i t1 hn
          cases hk
          unfold namP at hn
          split at hn
          · rename_i q
            cases hn
            rw [← h4]
            exact q
          split at hn
          · split at hn
            · cases hn; cases h3
            · cases hn
          · split at hn
            · cases hn; cases h3
            · cases hn
        · cases hk
      split at hk
      · split at hk
        · cases hk; cases h3
        · cases hk
      · split at hk
        · cases hk; cases h3
        · cases hk

/-! ### White space around a text -/
def mvL (k : Int) (t : Tk) : Tk := ⟨t.kind, t.text, t.n, t.line + k, t.col⟩
theorem adv_mv (k : Int) (p : Int × Int) (c : UInt8) : adv (p.1 + k, p.2) c = ((adv p c).1 + k, (adv p c).2) := by
  unfold adv
  split
  · rw [show p.1 + k + 1 = p.1 + 1 + k by omega]
  · rfl
theorem advs_mv (k : Int) (l : Bs) : ∀ p : Int × Int, advs (p.1 + k, p.2) l = ((advs p l).1 + k, (advs p l).2) := by
  induction l with
  | nil => intro p; rfl
  | cons c l ih =>
    intro p
    show advs (adv (p.1 + k, p.2) c) l = _
    rw [adv_mv]
    exact ih (adv p c)
theorem scnG_mv (k : Int) : ∀ (f : Nat) (s : Bs) (p : Int × Int), scnG f s (p.1 + k, p.2) = ((scnG f s p).1.map (mvL k), (scnG f s p).2)
  | 0, s, p => rfl
  | f + 1, s, p => by
    have hq : skq s (p.1 + k, p.2) = ((skq s p).1 + k, (skq s p).2) := advs_mv k _ p
    rw [scnG, scnG, hq]
    split
    · rfl
    split
    · rfl
    · rename_i t n _
      simp only
      rw [advs_mv k _ (skq s p), scnG_mv k f _ _]
      rfl
/-- More fuel than bytes: it does not matter how much. -/
theorem scnG_fuel : ∀ (f g : Nat) (s : Bs) (p : Int × Int), s.length < f → s.length < g → scnG f s p = scnG g s p
  | 0, _, s, p, h, _ => by omega
  | _, 0, s, p, _, h => by omega
  | f + 1, g + 1, s, p, hf, hg => by
    rw [scnG, scnG]
    split
    · rfl
    rename_i q
    split
    · rfl
    · rename_i t n hk
      have h1 := tokP_len hk
      have h2 := skp_le false s
      rw [scnG_fuel f g _ _ (by rw [List.length_drop]; omega) (by rw [List.length_drop]; omega)]
/-- Blanks ahead of a text. -/
theorem scnG_blanks : ∀ (b : Bs), (∀ c ∈ b, isS c = true) → ∀ (f : Nat) (s : Bs) (p : Int × Int), scnG f (b ++ s) p = scnG f s (advs p b)
  | [], _, f, s, p => rfl
  | c :: b, h, f, s, p => by
    rw [List.cons_append, scnG_blank (h c (by simp)), scnG_blanks b (fun d hd => h d (by simp [hd]))]
    rfl
/-- A comment ahead of a text. -/
theorem skp_comment : ∀ (b : Bs), (∀ c ∈ b, c ≠ 10) → ∀ s, skpG true (b ++ 10 :: s) = skpG false s
  | [], _, s => by rw [List.nil_append, skpG, if_pos (by decide)]
  | c :: b, h, s => by
    rw [List.cons_append, skpG, if_neg (show ¬ c.toNat = 10 from fun q => h c (by simp) (toNat_inj q)), skp_comment b fun d hd => h d (by simp [hd])]
theorem scnG_comment (b : Bs) (h : ∀ c ∈ b, c ≠ 10) (f : Nat) (s : Bs) (p : Int × Int) : scnG f (47 :: 47 :: (b ++ 10 :: s)) p = scnG f s (advs p (47 :: 47 :: (b ++ [10]))) := by
  have h1 : skpG false (47 :: 47 :: (b ++ 10 :: s)) = skpG false s := by
    rw [skpG, if_neg (by decide), if_pos ⟨by decide, rfl⟩, skpG, if_neg (by decide), skp_comment b h]
  cases f with
  | zero => rfl
  | succ f =>
    have h2 := skp_le false s
    have hq : skq (47 :: 47 :: (b ++ 10 :: s)) p = skq s (advs p (47 :: 47 :: (b ++ [10]))) := by
      unfold skq
      rw [h1]
      have e : 47 :: 47 :: (b ++ 10 :: s) = (47 :: 47 :: (b ++ [10])) ++ s := by simp
      rw [e, List.length_append, show (47 :: 47 :: (b ++ [10])).length + s.length - (skpG false s).length = (47 :: 47 :: (b ++ [10])).length + (s.length - (skpG false s).length) by omega, List.take_length_add_append]
      unfold advs
      rw [List.foldl_append]
    rw [scnG, scnG, h1, hq]
/-- What is put ahead of a text by the law. -/
def frontB (k : Nat) : Bs := [47, 47, 32, 125, 34, 10] ++ (List.replicate k [9, 32, 10]).flatten
theorem advs_app (p : Int × Int) (a b : Bs) : advs p (a ++ b) = advs (advs p a) b := by unfold advs; rw [List.foldl_append]
theorem advs_front : ∀ (k : Nat) (p : Int × Int), advs (p.1, 1) (List.replicate k [9, 32, 10]).flatten = (p.1 + k, 1)
  | 0, p => by simp [advs]
  | k + 1, p => by
    rw [List.replicate_succ, List.flatten_cons, advs_app, show advs (p.1, 1) [9, 32, 10] = (p.1 + 1, 1) from rfl, advs_front k (p.1 + 1, 1)]
    simp only [Prod.mk.injEq, and_true]
    omega
theorem scan_front (k : Nat) (s : Bs) : scan (frontB k ++ s) = ((scan s).1.map (mvL (1 + k)), (scan s).2) := by
  unfold scan frontB
  have hb : ∀ c ∈ (List.replicate k ([9, 32, 10] : Bs)).flatten, isS c = true := fun c hc => by
    obtain ⟨l, hl, hc⟩ := List.mem_flatten.1 hc
    obtain rfl := (List.mem_replicate.1 hl).2
    exact (show ∀ c ∈ ([9, 32, 10] : Bs), isS c = true by decide) c hc
  rw [show [47, 47, 32, 125, 34, 10] ++ (List.replicate k [9, 32, 10]).flatten ++ s = 47 :: 47 :: ([32, 125, 34] ++ 10 :: ((List.replicate k [9, 32, 10]).flatten ++ s)) by simp, scnG_comment [32, 125, 34] (by decide), scnG_blanks _ hb]
  rw [show advs (1, 1) (47 :: 47 :: ([32, 125, 34] ++ [10])) = (2, 1) from rfl, advs_front k (2, 1)]
  rw [scnG_fuel _ (s.length + 1) s _ (by simp; omega) (by omega), show ((2 : Int) + (k : Int), (1 : Int)) = (((1 : Int), (1 : Int)).1 + (1 + (k : Int)), ((1 : Int), (1 : Int)).2) by simp only [Prod.mk.injEq, and_true]; omega, scnG_mv]
/-- A comment behind a text. -/
def tailB : Bs := [10, 47, 47, 32, 41]
theorem skp_tail : ∀ (b : Bool) (s : Bs), skpG b (s ++ tailB) = if skpG b s = [] then [] else skpG b s ++ tailB
  | true, [] => rfl
  | false, [] => rfl
  | true, c :: r => by
    rw [List.cons_append, skpG, skpG]
    split
    · exact skp_tail false r
    · exact skp_tail true r
  | false, c :: r => by
    rw [List.cons_append, skpG, skpG]
    split
    · exact skp_tail false r
    rename_i q
    by_cases q2 : c.toNat = 47 ∧ r.head? = some 47
    · rw [if_pos q2, if_pos ⟨q2.1, by cases r with | nil => cases q2.2 | cons d r => exact q2.2⟩]
      exact skp_tail true r
    · rw [if_neg q2, if_neg (fun h => q2 ⟨h.1, by cases r with | nil => cases h.2 | cons d r => exact h.2⟩), if_neg (by simp)]
      rfl
theorem scn_tail : ∀ (f : Nat) (s : Bs) (p : Int × Int), s.length < f → (scnG f s p).2 = true → (scnG f (s ++ tailB) p).2 = true ∧ (scnG f (s ++ tailB) p).1.map core = (scnG f s p).1.map core
  | 0, s, p, hf, h => by omega
  | f + 1, s, p, hf, h => by
    rw [scnG] at h
    rw [scnG, scnG, skp_tail]
    by_cases q : skpG false s = []
    · rw [if_pos q, if_pos rfl, if_pos q]
      exact ⟨rfl, rfl⟩
    rw [if_neg q] at h
    rw [if_neg q, if_neg (by simp [q]), if_neg q]
    cases hk : tokP (skpG false s) with
    | none => rw [hk] at h; cases h
    | some x =>
      obtain ⟨t, n⟩ := x
      rw [hk] at h
      have h1 := tokP_len hk
      have h2 := skp_le false s
      rw [tokP_tail hk (show sepB tailB = true from rfl)]
      simp only
      rw [List.drop_append_of_le_length h1.2, List.take_append_of_le_length h1.2]
      have key : ∀ p q : Int × Int, (scnG f ((skpG false s).drop n) p).2 = true → (scnG f ((skpG false s).drop n ++ tailB) q).2 = true ∧ (scnG f ((skpG false s).drop n ++ tailB) q).1.map core = (scnG f ((skpG false s).drop n) p).1.map core := fun p q h => by
        have e := scnG_pos f ((skpG false s).drop n) p q
        obtain ⟨k1, k2⟩ := scn_tail f ((skpG false s).drop n) q (by rw [List.length_drop]; omega) (by rw [← e.2]; exact h)
        exact ⟨k1, k2.trans e.1.symm⟩
      obtain ⟨k1, k2⟩ := key _ (advs (skq (s ++ tailB) p) ((skpG false s).take n)) h
      refine ⟨k1, ?_⟩
      rw [List.map_cons, List.map_cons, k2]
      rfl
where
  scnG_pos : ∀ (f : Nat) (s : Bs) (p q : Int × Int), (scnG f s p).1.map core = (scnG f s q).1.map core ∧ (scnG f s p).2 = (scnG f s q).2
    | 0, s, p, q => ⟨rfl, rfl⟩
    | f + 1, s, p, q => by
      rw [scnG, scnG]
      split
      · exact ⟨rfl, rfl⟩
      split
      · exact ⟨rfl, rfl⟩
      · rename_i t n _
        obtain ⟨h1, h2⟩ := scnG_pos f ((skpG false s).drop n) (advs (skq s p) ((skpG false s).take n)) (advs (skq s q) ((skpG false s).take n))
        refine ⟨?_, h2⟩
        rw [List.map_cons, List.map_cons, h1]
        rfl
theorem scan_tail {s : Bs} (h : (scan s).2 = true) : (scan (s ++ tailB)).2 = true ∧ (scan (s ++ tailB)).1.map core = (scan s).1.map core := by
  unfold scan at h ⊢
  rw [scnG_fuel (s.length + 1) ((s ++ tailB).length + 1) s _ (by omega) (by simp; omega)] at h ⊢
  exact scn_tail _ s _ (by simp; omega) h

/-! ### Places ascend -/
def ltP (p q : Int × Int) : Prop := p.1 < q.1 ∨ p.1 = q.1 ∧ p.2 < q.2
def leP (p q : Int × Int) : Prop := p = q ∨ ltP p q
theorem ltP_trans {a b c : Int × Int} (h : ltP a b) (k : ltP b c) : ltP a c := by unfold ltP at *; omega
theorem leP_trans {a b c : Int × Int} (h : leP a b) (k : leP b c) : leP a c := by
  rcases h with rfl | h
  · exact k
  · rcases k with rfl | k
    · exact .inr h
    · exact .inr (ltP_trans h k)
theorem ltP_le {a b c : Int × Int} (h : ltP a b) (k : leP b c) : ltP a c := by
  rcases k with rfl | k
  · exact h
  · exact ltP_trans h k
theorem adv_lt (p : Int × Int) (c : UInt8) : ltP p (adv p c) := by
  unfold adv ltP
  split
  · exact .inl (by simp only; omega)
  · exact .inr ⟨rfl, by simp only; omega⟩
theorem advs_le (l : Bs) : ∀ p, leP p (advs p l) := by
  induction l with
  | nil => intro p; exact .inl rfl
  | cons c l ih =>
    intro p
    exact .inr (ltP_le (adv_lt p c) (ih (adv p c)))
theorem advs_lt {l : Bs} (h : l ≠ []) (p : Int × Int) : ltP p (advs p l) := by
  cases l with
  | nil => exact absurd rfl h
  | cons c l => exact ltP_le (adv_lt p c) (advs_le l _)
def plc (t : Tk) : Int × Int := (t.line, t.col)
def Asc (l : List Tk) : Prop := ∀ i a b, l[i]? = some a → l[i + 1]? = some b → ltP (plc a) (plc b)
theorem scn_asc : ∀ (f : Nat) (s : Bs) (p : Int × Int), (∀ t ∈ (scnG f s p).1, leP p (plc t)) ∧ Asc (scnG f s p).1
  | 0, s, p => ⟨fun t h => (by cases h), fun i a b h _ => by cases h⟩
  | f + 1, s, p => by
    have hq : leP p (skq s p) := advs_le _ p
    obtain ⟨L, hL⟩ : ∃ L, scnG (f + 1) s p = L := ⟨_, rfl⟩
    rw [hL]
    rw [scnG] at hL
    split at hL
    · subst hL
      exact ⟨fun t h => (by cases h), fun i a b h k => by simp at h k⟩
    split at hL
    · subst hL
      refine ⟨fun t h => ?_, fun i a b h k => by simp at k⟩
      obtain rfl := List.mem_singleton.1 h
      exact hq
    · rename_i t n hk
      subst hL
      have h1 := tokP_len hk
      obtain ⟨k1, k2⟩ := scn_asc f ((skpG false s).drop n) (advs (skq s p) ((skpG false s).take n))
      have hlt : ltP (skq s p) (advs (skq s p) ((skpG false s).take n)) := advs_lt (fun e => by
        have := congrArg List.length e
        rw [List.length_take, List.length_nil] at this
        omega) _
      refine ⟨fun u hu => ?_, fun i a b ha hb => ?_⟩
      · rcases List.mem_cons.1 hu with rfl | hu
        · exact hq
        · exact leP_trans hq (leP_trans (.inr hlt) (k1 u hu))
      · cases i with
        | zero =>
          simp only [List.getElem?_cons_zero, Option.some.injEq] at ha
          subst ha
          exact ltP_le hlt (k1 _ (List.mem_of_getElem? (by simpa using hb)))
        | succ i => exact k2 i a b (by simpa using ha) (by simpa using hb)
theorem scan_len (s : Bs) : (scan s).1.length ≤ s.length := by
  have h : ∀ (f : Nat) (s : Bs) (p : Int × Int), (scnG f s p).1.length ≤ s.length := by
    intro f
    induction f with
    | zero => intro s p; simp [scnG]
    | succ f ih =>
      intro s p
      have h2 := skp_le false s
      rw [scnG]
      split
      · simp
      rename_i q
      have h3 := List.length_pos_iff.2 q
      split
      · simp; omega
      · rename_i t n hk
        have h1 := tokP_len hk
        have := ih ((skpG false s).drop n) (advs (skq s p) ((skpG false s).take n))
        rw [List.length_drop] at this
        simp only [List.length_cons]
        omega
  exact h _ s _
end Go.Proofs.YtjilcaemoebloaaDoor
