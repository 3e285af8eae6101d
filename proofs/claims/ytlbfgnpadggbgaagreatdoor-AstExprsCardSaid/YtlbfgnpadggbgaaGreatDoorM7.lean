/- Plain mathematics: the text of an expression, and how it is read back: well-formed expressions with the same text are equal. No program in sight. Plain mathematics: equal expressions; the length of a text; an operator's text and those of its operands. No program in sight. -/
import Derived.Test.YtlbfgnpadggbgaaGreatDoorPm
import Derived.Test.YtlbfgnpadggbgaaGreatDoorTd
namespace Go.Proofs.YtlbfgnpadggbgaaGreatDoor
set_option linter.unusedSimpArgs false
set_option linter.unusedVariables false
set_option linter.unnecessarySimpa false

/-! ### The text -/
def symB (o : Int) : Bs := if o = 3 then [43] else if o = 4 then [45] else if o = 5 then [42] else if o = 6 then [38] else if o = 7 then [124] else if o = 8 then [94] else if o = 9 then [60, 60] else if o = 10 then [62, 62] else if o = 11 then [62, 62, 115] else if o = 12 then [61, 61] else if o = 13 then [33, 61] else if o = 14 then [60, 115] else [60]
def stO (o : Int) : Nat := if o = 3 then 7 else if o = 4 then 7 else if o = 5 then 8 else if o = 6 then 3 else if o = 7 then 1 else if o = 8 then 2 else if o = 9 then 6 else if o = 10 then 6 else if o = 11 then 6 else if o = 12 then 4 else if o = 13 then 4 else if o = 14 then 5 else 5
def strE (o : Int) : Nat := if 3 ≤ o ∧ o ≤ 15 then stO o else if o = 16 ∨ o = 17 then 9 else 10
def opdT (o : Int) (t : Bs) (need : Nat) : Bs := if strE o < need then 40 :: (t ++ [41]) else t
def wB (w : Int) : Bs := [UInt8.ofNat (48 + w.toNat)]
def opAt (l : List Ex) (i : Nat) : Int := match l[i]? with
  | some x => x.op
  | none => 0
/-- The text of a node, given the texts of the parts. -/
def txN (o n : Int) (s : Bs) (w : Int) (l : List Ex) (r : List Bs) : Bs :=
  if o = 1 then numS n.toNat
  else if o = 2 then s
  else if o = 18 then 108 :: 111 :: 97 :: 100 :: (wB w ++ 40 :: (r.getD 0 [] ++ [41]))
  else if o = 19 then 115 :: 101 :: 120 :: 116 :: (wB w ++ 40 :: (r.getD 0 [] ++ [41]))
  else if o = 16 then 33 :: opdT (opAt l 0) (r.getD 0 []) 9
  else if o = 17 then 45 :: opdT (opAt l 0) (r.getD 0 []) 9
  else opdT (opAt l 0) (r.getD 0 []) (stO o) ++ 32 :: (symB o ++ 32 :: opdT (opAt l 1) (r.getD 1 []) (stO o + 1))
def txE : Ex → Bs := Ex.para fun e r => txN e.op e.n e.name.data.toList e.width e.l r
theorem txE_mk (o n : Int) (s : ByteArray) (w : Int) (l : List Ex) : txE (.mk o n s w l) = txN o n s.data.toList w l (l.map txE) := by
  unfold txE
  rw [Ex.para_mk]
  rfl

/-! ### What was read -/
inductive Raw where
  | atom (w : Bs)
  | un (c : UInt8) (x : Raw)
  | call (w : Bs) (x : Raw)
  | bin (s : Bs) (x y : Raw)
def raN (o n : Int) (s : Bs) (w : Int) (r : List Raw) : Raw :=
  if o = 1 then .atom (numS n.toNat)
  else if o = 2 then .atom s
  else if o = 18 then .call (108 :: 111 :: 97 :: 100 :: wB w) (r.getD 0 (.atom []))
  else if o = 19 then .call (115 :: 101 :: 120 :: 116 :: wB w) (r.getD 0 (.atom []))
  else if o = 16 then .un 33 (r.getD 0 (.atom []))
  else if o = 17 then .un 45 (r.getD 0 (.atom []))
  else .bin (symB o) (r.getD 0 (.atom [])) (r.getD 1 (.atom []))
def raw : Ex → Raw := Ex.para fun e r => raN e.op e.n e.name.data.toList e.width r
theorem raw_mk (o n : Int) (s : ByteArray) (w : Int) (l : List Ex) : raw (.mk o n s w l) = raN o n s.data.toList w (l.map raw) := by
  unfold raw
  rw [Ex.para_mk]
  rfl

/-! ### The reader -/
def stS (s : Bs) : Nat := if s = [43] then 7 else if s = [45] then 7 else if s = [42] then 8 else if s = [38] then 3 else if s = [124] then 1 else if s = [94] then 2 else if s = [60, 60] then 6 else if s = [62, 62] then 6 else if s = [62, 62, 115] then 6 else if s = [61, 61] then 4 else if s = [33, 61] then 4 else if s = [60, 115] then 5 else if s = [60] then 5 else 0
inductive Md where
  | op
  | ex (l : Nat)
  | lo (l : Nat) (x : Raw)
def shut (g : Raw → Raw) : Option (Raw × Bs) → Option (Raw × Bs)
  | some (x, d :: v) => if d = 41 then some (g x, v) else none
  | _ => none
def pa : Nat → Md → Bs → Option (Raw × Bs)
  | 0, _, _ => none
  | f + 1, .op, s => match s with
    | [] => none
    | c :: t =>
      if c = 40 then shut id (pa f (.ex 1) t)
      else if c = 33 ∨ c = 45 then (pa f .op t).map fun p => (.un c p.1, p.2)
      else match (c :: t).dropWhile isW with
        | [] => some (.atom ((c :: t).takeWhile isW), [])
        | d :: v => if d = 40 then shut (.call ((c :: t).takeWhile isW)) (pa f (.ex 1) v) else some (.atom ((c :: t).takeWhile isW), d :: v)
  | f + 1, .ex l, s => (pa f .op s).bind fun p => pa f (.lo l p.1) p.2
  | f + 1, .lo l x, s => match s with
    | [] => some (x, [])
    | c :: t => if c = 32 then
        (if stS (t.takeWhile (· != 32)) < l ∨ stS (t.takeWhile (· != 32)) = 0 then some (x, c :: t)
         else (pa f (.ex (stS (t.takeWhile (· != 32)) + 1)) ((t.dropWhile (· != 32)).drop 1)).bind fun p => pa f (.lo l (.bin (t.takeWhile (· != 32)) x p.1)) p.2)
      else some (x, c :: t)
def Evt (m : Md) (s : Bs) (r : Raw × Bs) : Prop := ∃ F, ∀ f, F ≤ f → pa f m s = some r
theorem Evt.inj {m : Md} {s : Bs} {r r' : Raw × Bs} (h : Evt m s r) (h' : Evt m s r') : r = r' := by
  obtain ⟨F, h⟩ := h
  obtain ⟨G, h'⟩ := h'
  have e1 := h (max F G) (by omega)
  have e2 := h' (max F G) (by omega)
  exact Option.some.inj (e1.symm.trans e2)
theorem ev_paren {t v : Bs} {x : Raw} (h : Evt (.ex 1) t (x, 41 :: v)) : Evt .op (40 :: t) (x, v) := by
  obtain ⟨F, h⟩ := h
  refine ⟨F + 1, fun f hf => ?_⟩
  obtain ⟨f, rfl⟩ : ∃ g, f = g + 1 := ⟨f - 1, by omega⟩
  simp only [pa, if_true, h f (by omega), shut, id]
theorem ev_un {c : UInt8} {t u : Bs} {x : Raw} (hc : c = 33 ∨ c = 45) (h : Evt .op t (x, u)) : Evt .op (c :: t) (.un c x, u) := by
  obtain ⟨F, h⟩ := h
  refine ⟨F + 1, fun f hf => ?_⟩
  obtain ⟨f, rfl⟩ : ∃ g, f = g + 1 := ⟨f - 1, by omega⟩
  have h40 : c ≠ 40 := by rcases hc with rfl | rfl <;> decide
  simp only [pa, if_neg h40, if_pos hc, h f (by omega), Option.map_some]
theorem isW_not {c : UInt8} (h : isW c = true) : c ≠ 40 ∧ ¬ (c = 33 ∨ c = 45) := by
  refine ⟨fun e => ?_, fun e => ?_⟩
  · subst e; revert h; decide
  · rcases e with rfl | rfl <;> (revert h; decide)
theorem take_all {p : UInt8 → Bool} {w : Bs} (h : ∀ c ∈ w, p c = true) {r : Bs} (hr : ∀ c, r.head? = some c → p c = false) : (w ++ r).takeWhile p = w ∧ (w ++ r).dropWhile p = r := by
  induction w with
  | nil =>
    cases r with
    | nil => exact ⟨rfl, rfl⟩
    | cons c r =>
      have := hr c rfl
      simp [this]
  | cons c w ih =>
    obtain ⟨h1, h2⟩ := ih fun d hd => h d (List.mem_cons_of_mem _ hd)
    have hc := h c (List.mem_cons_self)
    rw [List.cons_append, List.takeWhile_cons, List.dropWhile_cons, hc, h1]
    exact ⟨rfl, h2⟩
theorem ev_atom {w r : Bs} (hw : w ≠ []) (h : ∀ c ∈ w, isW c = true) (hr : ∀ c, r.head? = some c → isW c = false ∧ c ≠ 40) : Evt .op (w ++ r) (.atom w, r) := by
  refine ⟨1, fun f hf => ?_⟩
  obtain ⟨f, rfl⟩ : ∃ g, f = g + 1 := ⟨f - 1, by omega⟩
  obtain ⟨h1, h2⟩ := take_all (p := isW) h (r := r) fun c hc => (hr c hc).1
  cases w with
  | nil => exact absurd rfl hw
  | cons c w =>
    obtain ⟨h40, h33⟩ := isW_not (h c List.mem_cons_self)
    rw [List.cons_append] at h1 h2
    simp only [List.cons_append, pa, if_neg h40, if_neg h33, h1, h2]
    cases r with
    | nil => rfl
    | cons d v => simp only [if_neg (hr d rfl).2]
theorem ev_call {w t v : Bs} {x : Raw} (hw : w ≠ []) (h : ∀ c ∈ w, isW c = true) (hx : Evt (.ex 1) t (x, 41 :: v)) : Evt .op (w ++ 40 :: t) (.call w x, v) := by
  obtain ⟨F, hx⟩ := hx
  refine ⟨F + 1, fun f hf => ?_⟩
  obtain ⟨f, rfl⟩ : ∃ g, f = g + 1 := ⟨f - 1, by omega⟩
  obtain ⟨h1, h2⟩ := take_all (p := isW) h (r := 40 :: t) fun c hc => by cases hc; decide
  cases w with
  | nil => exact absurd rfl hw
  | cons c w =>
    obtain ⟨h40, h33⟩ := isW_not (h c List.mem_cons_self)
    rw [List.cons_append] at h1 h2
    simp only [List.cons_append, pa, if_neg h40, if_neg h33, h1, h2, if_true, hx f (by omega), shut]
theorem ev_ex {l : Nat} {s u : Bs} {x : Raw} {r : Raw × Bs} (h : Evt .op s (x, u)) (k : Evt (.lo l x) u r) : Evt (.ex l) s r := by
  obtain ⟨F, h⟩ := h
  obtain ⟨G, k⟩ := k
  refine ⟨max F G + 1, fun f hf => ?_⟩
  obtain ⟨f, rfl⟩ : ∃ g, f = g + 1 := ⟨f - 1, by omega⟩
  simp only [pa, h f (by omega), Option.bind_some, k f (by omega)]
theorem ne32 {w u : Bs} (h : ∀ c ∈ w, c ≠ 32) : (w ++ 32 :: u).takeWhile (· != 32) = w ∧ (w ++ 32 :: u).dropWhile (· != 32) = 32 :: u :=
  take_all (p := (· != 32)) (fun c hc => by simpa using h c hc) fun c hc => by cases hc; rfl
theorem ev_lo {l : Nat} {x y : Raw} {w u v : Bs} {r : Raw × Bs} (hw : ∀ c ∈ w, c ≠ 32) (h0 : stS w ≠ 0) (hl : l ≤ stS w) (h : Evt (.ex (stS w + 1)) u (y, v)) (k : Evt (.lo l (.bin w x y)) v r) : Evt (.lo l x) (32 :: (w ++ 32 :: u)) r := by
  obtain ⟨F, h⟩ := h
  obtain ⟨G, k⟩ := k
  refine ⟨max F G + 1, fun f hf => ?_⟩
  obtain ⟨f, rfl⟩ : ∃ g, f = g + 1 := ⟨f - 1, by omega⟩
  obtain ⟨h1, h2⟩ := ne32 (u := u) hw
  have hn : ¬ (stS w < l ∨ stS w = 0) := by omega
  simp only [pa, if_true, h1, h2, if_neg hn, List.drop_succ_cons, List.drop_zero, h f (by omega), Option.bind_some, k f (by omega)]
/-- Behind an operand: no operator that binds so much. -/
def stop (l : Nat) (s : Bs) : Prop := s = [] ∨ (∃ t, s = 41 :: t) ∨ ∃ w u, s = 32 :: (w ++ 32 :: u) ∧ (∀ c ∈ w, c ≠ 32) ∧ stS w < l
theorem stop.mono {l m : Nat} {s : Bs} (h : stop l s) (hm : l ≤ m) : stop m s := by
  rcases h with h | h | ⟨w, u, h1, h2, h3⟩
  · exact .inl h
  · exact .inr (.inl h)
  · exact .inr (.inr ⟨w, u, h1, h2, by omega⟩)
theorem stop.bnd {l : Nat} {s : Bs} (h : stop l s) : ∀ c, s.head? = some c → isW c = false ∧ c ≠ 40 := by
  rcases h with rfl | ⟨t, rfl⟩ | ⟨w, u, rfl, _⟩
  · intro c hc; cases hc
  · intro c hc; cases hc; decide
  · intro c hc; cases hc; decide
theorem ev_stop {l : Nat} {s : Bs} (h : stop l s) (x : Raw) : Evt (.lo l x) s (x, s) := by
  refine ⟨1, fun f hf => ?_⟩
  obtain ⟨f, rfl⟩ : ∃ g, f = g + 1 := ⟨f - 1, by omega⟩
  rcases h with rfl | ⟨t, rfl⟩ | ⟨w, u, rfl, h2, h3⟩
  · rfl
  · rfl
  · obtain ⟨k1, k2⟩ := ne32 (u := u) h2
    simp only [pa, if_true, k1, k2, if_pos (show stS w < l ∨ stS w = 0 from .inl h3)]

/-! ### The text is read back -/
theorem ite1 {p : Prop} [Decidable p] {a b : Nat} (ha : 1 ≤ a) (hb : 1 ≤ b) : 1 ≤ (if p then a else b) := by split <;> assumption
theorem stO_pos (o : Int) : 1 ≤ stO o := by
  unfold stO
  repeat (refine ite1 (by decide) ?_)
  decide
theorem strE_pos (o : Int) : 1 ≤ strE o := ite1 (stO_pos o) (ite1 (by decide) (by decide))
theorem opd_back {o : Int} {t : Bs} {x : Raw} (H : ∀ l rest r, stop (strE o + 1) rest → l ≤ strE o → Evt (.lo l x) rest r → Evt (.ex l) (t ++ rest) r) {need l : Nat} {rest : Bs} {r : Raw × Bs} (hl : l ≤ need) (hs : stop (need + 1) rest) (k : Evt (.lo l x) rest r) : Evt (.ex l) (opdT o t need ++ rest) r := by
  unfold opdT
  split
  · rename_i hlt
    refine ev_ex (x := x) (u := rest) ?_ k
    rw [List.cons_append, List.append_assoc]
    refine ev_paren ?_
    exact H 1 _ _ (.inr (.inl ⟨rest, rfl⟩)) (strE_pos o) (ev_stop (.inr (.inl ⟨rest, rfl⟩)) x)
  · exact H l rest r (hs.mono (by omega)) (by omega) k
theorem symB_ok {o : Int} (h : 3 ≤ o ∧ o ≤ 15) : stS (symB o) = stO o ∧ stO o ≠ 0 ∧ stO o ≤ 8 ∧ ∀ c ∈ symB o, c ≠ 32 := by
  have key : ∀ i : Fin 13, stS (symB ((i.val + 3 : Nat) : Int)) = stO ((i.val + 3 : Nat) : Int) ∧ stO ((i.val + 3 : Nat) : Int) ≠ 0 ∧ stO ((i.val + 3 : Nat) : Int) ≤ 8 ∧ ∀ c ∈ symB ((i.val + 3 : Nat) : Int), c ≠ 32 := by decide
  have := key ⟨(o - 3).toNat, by omega⟩
  rwa [show ((((o - 3).toNat + 3 : Nat)) : Int) = o by omega] at this
theorem okN_isW {s : ByteArray} (h : okN s = true) : ∀ c ∈ s.data.toList, isW c = true := by
  intro c hc
  obtain ⟨i, hi, rfl⟩ := List.mem_iff_getElem.1 hc
  have := List.all_eq_true.1 h i (List.mem_range.2 (by simpa using hi))
  unfold okB bAt at this
  rw [show s.data.toList.getD i 0 = s.data.toList[i] by simp [List.getD, List.getElem?_eq_getElem hi]] at this
  generalize s.data.toList[i] = c at this
  simp only [Bool.or_eq_true, Bool.and_eq_true, decide_eq_true_eq, beq_iff_eq] at this
  unfold isW isL isD
  simp only [Bool.or_eq_true, decide_eq_true_eq]
  omega
theorem okN_head {s : ByteArray} (h : okN s = true) (hs : 0 < s.size) : s.data.toList.head?.elim false isL = true := by
  have hl : 0 < s.data.toList.length := by simpa using hs
  have := List.all_eq_true.1 h 0 (List.mem_range.2 hs)
  unfold okB bAt at this
  rw [show s.data.toList.getD 0 0 = s.data.toList[0] by simp [List.getD, List.getElem?_eq_getElem hl]] at this
  rw [List.head?_eq_getElem?, List.getElem?_eq_getElem hl]
  generalize s.data.toList[0] = c at this
  simp only [Bool.or_eq_true, Bool.and_eq_true, decide_eq_true_eq, beq_iff_eq, ne_eq, not_true_eq_false, false_and, or_false] at this
  show isL c = true
  unfold isL
  simp only [decide_eq_true_eq]
  omega
theorem nameT_inv {s : ByteArray} (h : nameT s = true) : s.data.toList ≠ [] ∧ (∀ c ∈ s.data.toList, isW c = true) ∧ s.data.toList.head?.elim false isL = true ∧ s.size ≤ 32 := by
  unfold nameT at h
  simp only [Bool.and_eq_true, decide_eq_true_eq] at h
  refine ⟨fun e => ?_, okN_isW h.1.1.1, okN_head h.1.1.1 h.1.2, h.2⟩
  have := h.1.2
  rw [show s.size = s.data.toList.length by simp, e] at this
  cases this
/-- What a formed node looks like. -/
theorem ebase_inv {o n : Int} {s : ByteArray} {w : Int} {m : Nat} (h : ebase o n s w m = true) :
    (o = 1 ∧ s = ByteArray.empty ∧ w = 0 ∧ m = 0) ∨ (o = 2 ∧ nameT s = true ∧ n = 0 ∧ w = 0 ∧ m = 0) ∨ ((3 ≤ o ∧ o ≤ 15) ∧ n = 0 ∧ s = ByteArray.empty ∧ w = 0 ∧ m = 2) ∨
    ((o = 16 ∨ o = 17) ∧ n = 0 ∧ s = ByteArray.empty ∧ w = 0 ∧ m = 1) ∨ (o = 18 ∧ n = 0 ∧ s = ByteArray.empty ∧ (w = 1 ∨ w = 2 ∨ w = 4) ∧ m = 1) ∨ (o = 19 ∧ n = 0 ∧ s = ByteArray.empty ∧ (w = 1 ∨ w = 2) ∧ m = 1) := by
  unfold ebase at h
  repeat' split at h
  all_goals (try simp only [Bool.and_eq_true, Bool.or_eq_true, beq_iff_eq, eqS_iff, decide_eq_true_eq] at *)
  · exact .inl ⟨by assumption, h.1.1, h.1.2, h.2⟩
  · exact .inr (.inl ⟨by assumption, h.1.1.1, h.1.1.2, h.1.2, h.2⟩)
  · exact .inr (.inr (.inl ⟨by omega, h.1.1.1, h.1.1.2, h.1.2, h.2⟩))
  · exact .inr (.inr (.inr (.inl ⟨by assumption, h.1.1.1, h.1.1.2, h.1.2, h.2⟩)))
  · exact .inr (.inr (.inr (.inr (.inl ⟨by assumption, h.1.1.1, h.1.1.2, by have := h.1.2; omega, h.2⟩))))
  · exact .inr (.inr (.inr (.inr (.inr ⟨by assumption, h.1.1.1, h.1.1.2, h.1.2, h.2⟩))))
  · cases h
/-- All numbers are of 32 bits. -/
def n32 : Ex → Bool := Ex.para fun e r => decide (0 ≤ e.n ∧ e.n < 4294967296) && r.all id
theorem n32_mk (o n : Int) (s : ByteArray) (w : Int) (l : List Ex) : n32 (.mk o n s w l) = (decide (0 ≤ n ∧ n < 4294967296) && l.all n32) := by
  unfold n32
  rw [Ex.para_mk]
  simp only [List.all_map]
  rfl
theorem wB_isW {w : Int} (h : w = 1 ∨ w = 2 ∨ w = 4) : ∀ c ∈ wB w, isW c = true := by rcases h with rfl | rfl | rfl <;> decide
theorem back : ∀ e : Ex, efm e = true → n32 e = true → (9 ≤ strE e.op → ∀ rest, (∀ c, rest.head? = some c → isW c = false ∧ c ≠ 40) → Evt .op (txE e ++ rest) (raw e, rest)) ∧
    ∀ l rest r, stop (strE e.op + 1) rest → l ≤ strE e.op → Evt (.lo l (raw e)) rest r → Evt (.ex l) (txE e ++ rest) r := by
  intro e
  induction e using Ex.induct with
  | h o n s w l ih =>
  intro hf hn
  rw [efm_mk, Bool.and_eq_true] at hf
  rw [n32_mk, Bool.and_eq_true, decide_eq_true_eq] at hn
  obtain ⟨hb, hl⟩ := hf
  obtain ⟨hn, hln⟩ := hn
  have IH := fun t ht => ih t ht (List.all_eq_true.1 hl t ht) (List.all_eq_true.1 hln t ht)
  clear ih hl hln
  have fromA : 9 ≤ strE o → (∀ rest, (∀ c, rest.head? = some c → isW c = false ∧ c ≠ 40) → Evt .op (txE (.mk o n s w l) ++ rest) (raw (.mk o n s w l), rest)) →
      (9 ≤ strE o → ∀ rest, (∀ c, rest.head? = some c → isW c = false ∧ c ≠ 40) → Evt .op (txE (.mk o n s w l) ++ rest) (raw (.mk o n s w l), rest)) ∧
      ∀ k rest r, stop (strE o + 1) rest → k ≤ strE o → Evt (.lo k (raw (.mk o n s w l))) rest r → Evt (.ex k) (txE (.mk o n s w l) ++ rest) r :=
    fun _ h => ⟨fun _ => h, fun k rest r hs _ hk => ev_ex (h rest hs.bnd) hk⟩
  show (9 ≤ strE o → _) ∧ _
  rcases ebase_inv hb with ⟨rfl, _, _, h4⟩ | ⟨rfl, h1, _, _, h4⟩ | ⟨ho, _, _, _, h4⟩ | ⟨ho, _, _, _, h4⟩ | ⟨rfl, _, _, h3, h4⟩ | ⟨rfl, _, _, h3, h4⟩
  · obtain ⟨k1, k2, _⟩ := numS_spec n.toNat (by omega)
    refine fromA (by decide) fun rest hr => ?_
    rw [txE_mk, raw_mk]
    exact ev_atom k1 k2 hr
  · obtain ⟨k1, k2, _⟩ := nameT_inv h1
    refine fromA (by decide) fun rest hr => ?_
    rw [txE_mk, raw_mk]
    exact ev_atom k1 k2 hr
  · obtain ⟨a, b, rfl⟩ : ∃ a b, l = [a, b] := by
      match l, h4 with
      | [a, b], _ => exact ⟨a, b, rfl⟩
    obtain ⟨q1, q2, q3, q4⟩ := symB_ok ho
    have hstr : strE o = stO o := if_pos ho
    have ia := (IH a (by simp)).2
    have ib := (IH b (by simp)).2
    have e1 : txE (.mk o n s w [a, b]) = opdT a.op (txE a) (stO o) ++ 32 :: (symB o ++ 32 :: opdT b.op (txE b) (stO o + 1)) := by
      rw [txE_mk]
      unfold txN
      rw [if_neg (by omega), if_neg (by omega), if_neg (by omega), if_neg (by omega), if_neg (by omega), if_neg (by omega)]
      rfl
    have e2 : raw (.mk o n s w [a, b]) = .bin (symB o) (raw a) (raw b) := by
      rw [raw_mk]
      unfold raN
      rw [if_neg (by omega), if_neg (by omega), if_neg (by omega), if_neg (by omega), if_neg (by omega), if_neg (by omega)]
      rfl
    rw [e1, e2, show strE (Ex.mk o n s w [a, b]).op = stO o from hstr]
    refine ⟨fun h9 => by omega, fun k rest r hs hk hr => ?_⟩
    rw [List.append_assoc, List.cons_append, List.append_assoc, List.cons_append]
    refine opd_back ia hk (.inr (.inr ⟨symB o, _, rfl, q4, by omega⟩)) ?_
    refine ev_lo q4 (by omega) (by omega) (y := raw b) (v := rest) ?_ hr
    rw [q1]
    exact opd_back ib (Nat.le_refl _) (hs.mono (by omega)) (ev_stop hs _)
  · obtain ⟨a, rfl⟩ : ∃ a, l = [a] := by
      match l, h4 with
      | [a], _ => exact ⟨a, rfl⟩
    obtain ⟨c, hc, e1, e2⟩ : ∃ c : UInt8, (c = 33 ∨ c = 45) ∧ txE (.mk o n s w [a]) = c :: opdT a.op (txE a) 9 ∧ raw (.mk o n s w [a]) = .un c (raw a) := by
      rcases ho with rfl | rfl
      · exact ⟨33, .inl rfl, by rw [txE_mk]; rfl, by rw [raw_mk]; rfl⟩
      · exact ⟨45, .inr rfl, by rw [txE_mk]; rfl, by rw [raw_mk]; rfl⟩
    have hstr : strE o = 9 := by rcases ho with rfl | rfl <;> decide
    obtain ⟨ia, ib⟩ := IH a (by simp)
    refine fromA (by omega) fun rest hr => ?_
    rw [e1, e2, List.cons_append]
    refine ev_un hc ?_
    unfold opdT
    split
    · rw [List.cons_append, List.append_assoc]
      exact ev_paren (ib 1 _ _ (.inr (.inl ⟨rest, rfl⟩)) (strE_pos _) (ev_stop (.inr (.inl ⟨rest, rfl⟩)) _))
    · exact ia (by omega) rest hr
  · obtain ⟨a, rfl⟩ : ∃ a, l = [a] := by
      match l, h4 with
      | [a], _ => exact ⟨a, rfl⟩
    obtain ⟨ia, ib⟩ := IH a (by simp)
    refine fromA (by decide) fun rest hr => ?_
    have e1 : txE (.mk 18 n s w [a]) ++ rest = (108 :: 111 :: 97 :: 100 :: wB w) ++ 40 :: (txE a ++ 41 :: rest) := by
      rw [txE_mk]
      show (108 :: 111 :: 97 :: 100 :: (wB w ++ 40 :: (txE a ++ [41]))) ++ rest = _
      simp
    have e2 : raw (.mk 18 n s w [a]) = .call (108 :: 111 :: 97 :: 100 :: wB w) (raw a) := by rw [raw_mk]; rfl
    rw [e1, e2]
    refine ev_call (by simp) (fun c hc => ?_) (ib 1 _ _ (.inr (.inl ⟨rest, rfl⟩)) (strE_pos _) (ev_stop (.inr (.inl ⟨rest, rfl⟩)) _))
    simp only [List.mem_cons] at hc
    rcases hc with rfl | rfl | rfl | rfl | hc
    · decide
    · decide
    · decide
    · decide
    · exact wB_isW h3 c hc
  · obtain ⟨a, rfl⟩ : ∃ a, l = [a] := by
      match l, h4 with
      | [a], _ => exact ⟨a, rfl⟩
    obtain ⟨ia, ib⟩ := IH a (by simp)
    refine fromA (by decide) fun rest hr => ?_
    have e1 : txE (.mk 19 n s w [a]) ++ rest = (115 :: 101 :: 120 :: 116 :: wB w) ++ 40 :: (txE a ++ 41 :: rest) := by
      rw [txE_mk]
      show (115 :: 101 :: 120 :: 116 :: (wB w ++ 40 :: (txE a ++ [41]))) ++ rest = _
      simp
    have e2 : raw (.mk 19 n s w [a]) = .call (115 :: 101 :: 120 :: 116 :: wB w) (raw a) := by rw [raw_mk]; rfl
    rw [e1, e2]
    refine ev_call (by simp) (fun c hc => ?_) (ib 1 _ _ (.inr (.inl ⟨rest, rfl⟩)) (strE_pos _) (ev_stop (.inr (.inl ⟨rest, rfl⟩)) _))
    simp only [List.mem_cons] at hc
    rcases hc with rfl | rfl | rfl | rfl | hc
    · decide
    · decide
    · decide
    · decide
    · exact wB_isW (by omega) c hc
/-- What was read tells the expression. -/
theorem numS_inj {a b : Nat} (ha : a < 4294967296) (hb : b < 4294967296) (h : numS a = numS b) : a = b := by
  have e1 := (numS_spec a ha).2.2.2.2
  have e2 := (numS_spec b hb).2.2.2.2
  rw [h] at e1
  exact Option.some.inj (e1.symm.trans e2)
theorem symB_inj {o p : Int} (h : 3 ≤ o ∧ o ≤ 15) (k : 3 ≤ p ∧ p ≤ 15) (e : symB o = symB p) : o = p := by
  have key : ∀ i j : Fin 13, symB ((i.val + 3 : Nat) : Int) = symB ((j.val + 3 : Nat) : Int) → i = j := by decide
  have := key ⟨(o - 3).toNat, by omega⟩ ⟨(p - 3).toNat, by omega⟩
  rw [show ((((o - 3).toNat + 3 : Nat)) : Int) = o by omega, show ((((p - 3).toNat + 3 : Nat)) : Int) = p by omega] at this
  have := Fin.mk.inj (this e)
  omega
theorem wB_inj {a b : Int} (h : a = 1 ∨ a = 2 ∨ a = 4) (k : b = 1 ∨ b = 2 ∨ b = 4) (e : wB a = wB b) : a = b := by
  rcases h with rfl | rfl | rfl <;> rcases k with rfl | rfl | rfl <;> first | rfl | (revert e; decide)
theorem toList_inj {s t : ByteArray} (h : s.data.toList = t.data.toList) : s = t := by
  obtain ⟨⟨s⟩⟩ := s
  obtain ⟨⟨t⟩⟩ := t
  cases h
  rfl
/-- The form of what was read. -/
inductive Fm (o n : Int) (s : ByteArray) (w : Int) (l : List Ex) : Raw → Prop
  | num (h : o = 1) (hs : s = ByteArray.empty) (hw : w = 0) (hl : l = []) : Fm o n s w l (.atom (numS n.toNat))
  | nam (h : o = 2) (hs : nameT s = true) (hn : n = 0) (hw : w = 0) (hl : l = []) : Fm o n s w l (.atom s.data.toList)
  | bin (h : 3 ≤ o ∧ o ≤ 15) (hn : n = 0) (hs : s = ByteArray.empty) (hw : w = 0) (a b : Ex) (hl : l = [a, b]) : Fm o n s w l (.bin (symB o) (raw a) (raw b))
  | un (c : UInt8) (h : (o = 16 ∧ c = 33) ∨ (o = 17 ∧ c = 45)) (hn : n = 0) (hs : s = ByteArray.empty) (hw : w = 0) (a : Ex) (hl : l = [a]) : Fm o n s w l (.un c (raw a))
  | call (q : Bs) (h : (o = 18 ∧ q = 108 :: 111 :: 97 :: 100 :: wB w) ∨ (o = 19 ∧ q = 115 :: 101 :: 120 :: 116 :: wB w)) (hn : n = 0) (hs : s = ByteArray.empty) (hw : w = 1 ∨ w = 2 ∨ w = 4) (a : Ex) (hl : l = [a]) : Fm o n s w l (.call q (raw a))
theorem raw_fm {o n : Int} {s : ByteArray} {w : Int} {l : List Ex} (hb : ebase o n s w l.length = true) : Fm o n s w l (raw (.mk o n s w l)) := by
  rw [raw_mk]
  rcases ebase_inv hb with ⟨rfl, h2, h3, h4⟩ | ⟨rfl, h1, h2, h3, h4⟩ | ⟨ho, h1, h2, h3, h4⟩ | ⟨ho, h1, h2, h3, h4⟩ | ⟨rfl, h1, h2, h3, h4⟩ | ⟨rfl, h1, h2, h3, h4⟩
  · exact .num rfl h2 h3 (List.eq_nil_of_length_eq_zero h4)
  · exact .nam rfl h1 h2 h3 (List.eq_nil_of_length_eq_zero h4)
  · match l, h4 with
    | [a, b], _ =>
      unfold raN
      rw [if_neg (by omega), if_neg (by omega), if_neg (by omega), if_neg (by omega), if_neg (by omega), if_neg (by omega)]
      exact .bin ho h1 h2 h3 a b rfl
  · match l, h4 with
    | [a], _ =>
      rcases ho with rfl | rfl
      · exact .un 33 (.inl ⟨rfl, rfl⟩) h1 h2 h3 a rfl
      · exact .un 45 (.inr ⟨rfl, rfl⟩) h1 h2 h3 a rfl
  · match l, h4 with
    | [a], _ => exact .call _ (.inl ⟨rfl, rfl⟩) h1 h2 h3 a rfl
  · match l, h4 with
    | [a], _ => exact .call _ (.inr ⟨rfl, rfl⟩) h1 h2 (by omega) a rfl
theorem raw_inj : ∀ e : Ex, efm e = true → n32 e = true → ∀ e' : Ex, efm e' = true → n32 e' = true → raw e = raw e' → e = e' := by
  intro e
  induction e using Ex.induct with
  | h o n s w l ih =>
  intro hf hn e' hf' hn' he
  obtain ⟨o', n', s', w', l'⟩ := e'
  rw [efm_mk, Bool.and_eq_true] at hf hf'
  rw [n32_mk, Bool.and_eq_true, decide_eq_true_eq] at hn hn'
  have IH := fun t ht => ih t ht (List.all_eq_true.1 hf.2 t ht) (List.all_eq_true.1 hn.2 t ht)
  have IF := fun t ht => List.all_eq_true.1 hf'.2 t ht
  have IN := fun t ht => List.all_eq_true.1 hn'.2 t ht
  have F1 := raw_fm hf.1
  have F2 := raw_fm hf'.1
  rw [← he] at F2
  generalize raw (.mk o n s w l) = x at F1 F2 he
  clear he ih
  cases F1 with
  | num h hs hw hl =>
    generalize hx : numS n.toNat = x at F2
    cases F2 with
    | num h' hs' hw' hl' =>
      have := numS_inj (by omega) (by omega) hx
      obtain rfl : n = n' := by omega
      subst h hs hw hl h' hs' hw' hl'
      rfl
    | nam h' hs' hn0 hw' hl' =>
      have e1 := (numS_spec n.toNat (by omega)).2.2.2.1
      rw [hx, (nameT_inv hs').2.2.1] at e1
      cases e1
  | nam h hs hn0 hw hl =>
    generalize hx : s.data.toList = x at F2
    cases F2 with
    | num h' hs' hw' hl' =>
      have e1 := (numS_spec n'.toNat (by omega)).2.2.2.1
      rw [← hx, (nameT_inv hs).2.2.1] at e1
      cases e1
    | nam h' hs' hn0' hw' hl' =>
      obtain rfl := toList_inj hx
      subst h hn0 hw hl h' hn0' hw' hl'
      rfl
  | bin h hn0 hs hw a b hl =>
    generalize hx : symB o = x at F2
    generalize hy : raw a = y at F2
    generalize hz : raw b = z at F2
    cases F2 with
    | bin h' hn0' hs' hw' a' b' hl' =>
      obtain rfl := symB_inj h h' hx
      subst hl hl'
      obtain rfl := IH a (by simp) a' (IF a' (by simp)) (IN a' (by simp)) hy
      obtain rfl := IH b (by simp) b' (IF b' (by simp)) (IN b' (by simp)) hz
      subst hn0 hs hw hn0' hs' hw'
      rfl
  | un c h hn0 hs hw a hl =>
    generalize hy : raw a = y at F2
    cases F2 with
    | un _ h' hn0' hs' hw' a' hl' =>
      subst hl hl'
      obtain rfl := IH a (by simp) a' (IF a' (by simp)) (IN a' (by simp)) hy
      obtain rfl : o = o' := by
        rcases h with ⟨rfl, rfl⟩ | ⟨rfl, rfl⟩ <;> rcases h' with ⟨rfl, h2⟩ | ⟨rfl, h2⟩ <;> first | rfl | (revert h2; decide)
      subst hn0 hs hw hn0' hs' hw'
      rfl
  | call q h hn0 hs hw a hl =>
    generalize hy : raw a = y at F2
    cases F2 with
    | call _ h' hn0' hs' hw' a' hl' =>
      subst hl hl'
      obtain rfl := IH a (by simp) a' (IF a' (by simp)) (IN a' (by simp)) hy
      obtain ⟨rfl, hq⟩ : o = o' ∧ wB w = wB w' := by
        rcases h with ⟨rfl, rfl⟩ | ⟨rfl, rfl⟩ <;> rcases h' with ⟨rfl, h2⟩ | ⟨rfl, h2⟩ <;> simp_all
      obtain rfl := wB_inj hw hw' hq
      subst hn0 hs hn0' hs'
      rfl
/-- Formed expressions with the same text are equal. -/
theorem txE_inj {a b : Ex} (ha : efm a = true) (hb : efm b = true) (na : n32 a = true) (nb : n32 b = true) (h : txE a = txE b) : a = b := by
  have e1 := (back a ha na).2 1 [] (raw a, []) (.inl rfl) (strE_pos _) (ev_stop (.inl rfl) _)
  have e2 := (back b hb nb).2 1 [] (raw b, []) (.inl rfl) (strE_pos _) (ev_stop (.inl rfl) _)
  rw [h] at e1
  exact raw_inj a ha na b hb nb (congrArg Prod.fst (e1.inj e2))
end Go.Proofs.YtlbfgnpadggbgaaGreatDoor
namespace Go.Proofs.YtlbfgnpadggbgaaGreatDoor
set_option linter.unusedSimpArgs false
set_option linter.unusedVariables false
set_option linter.unnecessarySimpa false
def samE : Ex → Ex → Bool := Ex.para fun e r b => e.op == b.op && e.n == b.n && eqS e.name b.name && e.width == b.width && all2 (fun q y => q y) r b.l
theorem samE_mk (o n : Int) (s : ByteArray) (w : Int) (l : List Ex) (b : Ex) : samE (.mk o n s w l) b = (o == b.op && n == b.n && eqS s b.name && w == b.width && all2 samE l b.l) := by
  unfold samE
  rw [Ex.para_mk, all2_map]
  rfl
theorem all2_same {α : Type} {p : α → α → Bool} : ∀ {l : List α}, (∀ x ∈ l, p x x = true) → all2 p l l = true
  | [], _ => rfl
  | x :: l, h => by
    rw [all2_iff]
    refine ⟨rfl, fun i h1 h2 => h _ (List.getElem_mem _)⟩
theorem samE_refl : ∀ e : Ex, samE e e = true := by
  refine Ex.induct fun o n s w l hl => ?_
  rw [samE_mk]
  simp only [Ex.op, Ex.n, Ex.name, Ex.width, Ex.l, beq_self_eq_true, eqS_refl, Bool.true_and]
  exact all2_same hl
theorem samE_eq : ∀ a b : Ex, samE a b = true → a = b := by
  refine Ex.induct fun o n s w l hl => ?_
  intro b h
  obtain ⟨o', n', s', w', l'⟩ := b
  rw [samE_mk] at h
  simp only [Ex.op, Ex.n, Ex.name, Ex.width, Ex.l, Bool.and_eq_true, beq_iff_eq, eqS_iff] at h
  obtain ⟨⟨⟨⟨rfl, rfl⟩, rfl⟩, rfl⟩, h⟩ := h
  congr 1
  obtain ⟨h1, h2⟩ := all2_iff.1 h
  refine List.ext_getElem h1 fun i k1 k2 => hl _ (List.getElem_mem k1) _ (h2 i k1 k2)
theorem samE_iff (a b : Ex) : samE a b = true ↔ a = b := ⟨samE_eq a b, fun h => h ▸ samE_refl a⟩
/-- What PrintExpr gives. -/
def prE (e : Ex) : Bs := if esh e 64 && efm e then txE e else []
/-- An expression of which little is left over has a short text. -/
theorem exn_one {a : Ex} {n : Int} (h : 0 < gfold exn [a] n) : 0 < n ∧ gfold exn [a] n = exn a n := by
  simp only [gfold, List.foldl_cons, List.foldl_nil] at h ⊢
  split at h
  · rename_i hn
    exact ⟨hn, if_pos hn⟩
  · omega
theorem exn_two {a b : Ex} {n : Int} (h : 0 < gfold exn [a, b] n) : 0 < n ∧ 0 < exn a n ∧ gfold exn [a, b] n = exn b (exn a n) := by
  simp only [gfold, List.foldl_cons, List.foldl_nil] at h ⊢
  by_cases hn : 0 < n
  · rw [if_pos hn] at h ⊢
    by_cases ha : 0 < exn a n
    · rw [if_pos ha] at h ⊢
      exact ⟨hn, ha, rfl⟩
    · rw [if_neg ha] at h
      omega
  · rw [if_neg hn, if_neg hn] at h
    omega
theorem opdT_le (o : Int) (t : Bs) (need : Nat) : (opdT o t need).length ≤ t.length + 2 := by
  unfold opdT
  split
  · simp only [List.length_cons, List.length_append, List.length_nil]; omega
  · omega
theorem ite3 {p : Prop} [Decidable p] {a b : Bs} (ha : 1 ≤ a.length ∧ a.length ≤ 3) (hb : 1 ≤ b.length ∧ b.length ≤ 3) : 1 ≤ (if p then a else b).length ∧ (if p then a else b).length ≤ 3 := by split <;> assumption
theorem symB_len (o : Int) : 1 ≤ (symB o).length ∧ (symB o).length ≤ 3 := by
  unfold symB
  repeat (refine ite3 (by decide) ?_)
  decide
theorem txE_len : ∀ e : Ex, efm e = true → n32 e = true → ∀ n : Int, 0 < exn e n → ((txE e).length : Int) ≤ 40 * (n - exn e n) - 8 := by
  refine Ex.induct fun o k s w l hl => ?_
  intro hf hn n hp
  rw [efm_mk, Bool.and_eq_true] at hf
  rw [n32_mk, Bool.and_eq_true, decide_eq_true_eq] at hn
  have IH := fun t ht => hl t ht (List.all_eq_true.1 hf.2 t ht) (List.all_eq_true.1 hn.2 t ht)
  clear hl
  rw [exn_mk] at hp ⊢
  rw [txE_mk]
  rcases ebase_inv hf.1 with ⟨rfl, _, _, h4⟩ | ⟨rfl, h1, _, _, h4⟩ | ⟨ho, _, _, _, h4⟩ | ⟨ho, _, _, _, h4⟩ | ⟨rfl, _, _, h3, h4⟩ | ⟨rfl, _, _, h3, h4⟩
  · obtain rfl := List.eq_nil_of_length_eq_zero h4
    have := numS_len k.toNat (by omega)
    show ((numS k.toNat).length : Int) ≤ 40 * (n - (n - 1)) - 8
    omega
  · obtain rfl := List.eq_nil_of_length_eq_zero h4
    have := (nameT_inv h1).2.2.2
    show (s.data.toList.length : Int) ≤ 40 * (n - (n - 1)) - 8
    have e : s.data.toList.length = s.size := by simp
    omega
  · match l, h4 with
    | [a, b], _ =>
      obtain ⟨p1, p2, p3⟩ := exn_two hp
      rw [p3] at hp ⊢
      have ia := IH a (by simp) (n - 1) p2
      have ib := IH b (by simp) _ hp
      have e1 : txN o k s.data.toList w [a, b] ([a, b].map txE) = opdT a.op (txE a) (stO o) ++ 32 :: (symB o ++ 32 :: opdT b.op (txE b) (stO o + 1)) := by
        unfold txN
        rw [if_neg (by omega), if_neg (by omega), if_neg (by omega), if_neg (by omega), if_neg (by omega), if_neg (by omega)]
        rfl
      rw [e1]
      simp only [List.length_append, List.length_cons]
      have l1 := opdT_le a.op (txE a) (stO o)
      have l2 := opdT_le b.op (txE b) (stO o + 1)
      have l3 := symB_len o
      omega
  · match l, h4 with
    | [a], _ =>
      obtain ⟨p1, p3⟩ := exn_one hp
      rw [p3] at hp ⊢
      have ia := IH a (by simp) (n - 1) hp
      obtain ⟨c, e1⟩ : ∃ c : UInt8, txN o k s.data.toList w [a] ([a].map txE) = c :: opdT a.op (txE a) 9 := by
        rcases ho with rfl | rfl
        · exact ⟨33, rfl⟩
        · exact ⟨45, rfl⟩
      rw [e1]
      simp only [List.length_cons]
      have l1 := opdT_le a.op (txE a) 9
      omega
  · match l, h4 with
    | [a], _ =>
      obtain ⟨p1, p3⟩ := exn_one hp
      rw [p3] at hp ⊢
      have ia := IH a (by simp) (n - 1) hp
      show ((108 :: 111 :: 97 :: 100 :: (wB w ++ 40 :: (txE a ++ [41])) : Bs).length : Int) ≤ _
      simp only [List.length_cons, List.length_append, wB, List.length_nil]
      omega
  · match l, h4 with
    | [a], _ =>
      obtain ⟨p1, p3⟩ := exn_one hp
      rw [p3] at hp ⊢
      have ia := IH a (by simp) (n - 1) hp
      show ((115 :: 101 :: 120 :: 116 :: (wB w ++ 40 :: (txE a ++ [41])) : Bs).length : Int) ≤ _
      simp only [List.length_cons, List.length_append, wB, List.length_nil]
      omega
theorem prE_len {e : Ex} (hn : n32 e = true) {n : Int} (h : 0 < exn e n) (hb : n ≤ 4194304) : (prE e).length ≤ 167772160 := by
  unfold prE
  split
  · rename_i q
    rw [Bool.and_eq_true] at q
    have := txE_len e q.2 hn n h
    omega
  · exact Nat.zero_le _
theorem txE_ne {e : Ex} (hf : efm e = true) (hn : n32 e = true) : txE e ≠ [] := by
  intro h
  have e1 := (back e hf hn).2 1 [] (raw e, []) (.inl rfl) (strE_pos _) (ev_stop (.inl rfl) _)
  rw [h] at e1
  have e2 : Evt (.ex 1) ([] ++ []) (raw e, []) := e1
  obtain ⟨F, hF⟩ := e2
  have := hF (F + 2) (by omega)
  simp only [pa, List.append_nil, Option.bind_none] at this
  cases this
/-- What is printed is well-formed. -/
theorem prE_inv {e : Ex} (h : prE e ≠ []) : efm e = true ∧ prE e = txE e := by
  unfold prE at h ⊢
  split at h
  · rename_i q
    rw [if_pos q]
    rw [Bool.and_eq_true] at q
    exact ⟨q.2, rfl⟩
  · exact absurd rfl h
/-- Two expressions have the same text if and only if they are equal. -/
theorem prec_law {a b : Ex} (na : n32 a = true) (nb : n32 b = true) (ha : prE a ≠ []) (hb : prE b ≠ []) : (prE a == prE b) = samE a b := by
  obtain ⟨fa, ea⟩ := prE_inv ha
  obtain ⟨fb, eb⟩ := prE_inv hb
  rw [ea, eb]
  by_cases h : a = b
  · subst h
    rw [samE_refl]
    simp
  · have h1 : samE a b = false := by rw [← Bool.not_eq_true, samE_iff]; exact h
    have h2 : (txE a == txE b) = false := by
      rw [← Bool.not_eq_true, beq_iff_eq]
      exact fun e => h (txE_inj fa fb na nb e)
    rw [h1, h2]
end Go.Proofs.YtlbfgnpadggbgaaGreatDoor
