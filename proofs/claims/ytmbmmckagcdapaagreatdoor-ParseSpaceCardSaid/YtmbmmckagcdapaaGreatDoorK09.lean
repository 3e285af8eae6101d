import Derived.Test.YtmbmmckagcdapaaGreatDoorK00
import Derived.Test.YtmbmmckagcdapaaGreatDoorK07
set_option linter.unusedSimpArgs false
set_option linter.unusedVariables false
set_option linter.unnecessarySimpa false
namespace Go.Proofs.YtmbmmckagcdapaaGreatDoor
def samE : Ex → Ex → Bool := Ex.para fun e r b => e.op == b.op && e.n == b.n && eqS e.name b.name && e.width == b.width && all2 (fun q y => q y) r b.l
theorem samE_mk (o n : Int) (s : ByteArray) (w : Int) (l : List Ex) (b : Ex) : samE (.mk o n s w l) b = (o == b.op && n == b.n && eqS s b.name && w == b.width && all2 samE l b.l) := by
  unfold samE
  rw [Ex.para_mk, all2_map]
  rfl
theorem all2_same {α : Type} {p : α → α → Bool} : ∀ {l : List α}, (∀ x ∈ l, p x x = true) → all2 p l l = true
  | [], _ => rfl
  | x :: l, h => by
    rw [all2_iff]; refine ⟨rfl, fun i h1 h2 => h _ (List.getElem_mem _)⟩
theorem samE_refl : ∀ e : Ex, samE e e = true := by
  refine Ex.induct fun o n s w l hl => ?_
  rw [samE_mk]
  simp only [Ex.op, Ex.n, Ex.name, Ex.width, Ex.l, beq_self_eq_true, eqS_refl, Bool.true_and]
  exact all2_same hl
inductive Rs (α : Type) where
  | ok (x : α) (a o : Nat)
  | bad (a : Nat) (e : Int)
def rb {α β : Type} (r : Option (Rs α)) (k : α → Nat → Nat → Option (Rs β)) : Option (Rs β) := match r with
  | none => none
  | some (.bad a e) => some (.bad a e)
  | some (.ok x a o) => k x a o
theorem rb_ok {α β : Type} {r : Option (Rs α)} {k : α → Nat → Nat → Option (Rs β)} {y : β} {b p : Nat} (h : rb r k = some (.ok y b p)) : ∃ x a o, r = some (.ok x a o) ∧ k x a o = some (.ok y b p) := by
  match r, h with
  | some (.ok x a o), h => exact ⟨x, a, o, rfl, h⟩
theorem rb_bad {α β : Type} {r : Option (Rs α)} {k : α → Nat → Nat → Option (Rs β)} {b : Nat} {e : Int} (h : rb r k = some (.bad b e)) : r = some (.bad b e) ∨ ∃ x a o, r = some (.ok x a o) ∧ k x a o = some (.bad b e) := by
  match r, h with
  | some (.bad a e'), h => cases h; exact .inl rfl
  | some (.ok x a o), h => exact .inr ⟨x, a, o, rfl, h⟩
theorem rb_some {α β : Type} {r : Option (Rs α)} {k : α → Nat → Nat → Option (Rs β)} {z : Rs β} (h : rb r k = some z) : (∃ b e, r = some (.bad b e) ∧ z = .bad b e) ∨ ∃ x a o, r = some (.ok x a o) ∧ k x a o = some z := by
  match r, h with
  | some (.bad a e), h => cases h; exact .inl ⟨_, _, rfl, rfl⟩
  | some (.ok x a o), h => exact .inr ⟨x, a, o, rfl, h⟩
def tk0 : Tk := ⟨0, [], 0, 0, 0⟩
def pk (ts : List Tk) (a : Nat) : Tk := ts.getD a tk0
def sees (ts : List Tk) (a : Nat) (s : Bs) : Bool := ((pk ts a).kind == 2 || (pk ts a).kind == 5) && (pk ts a).text == s
theorem sees_lt {ts : List Tk} {a : Nat} {s : Bs} (h : sees ts a s = true) : a < ts.length := by
  refine Nat.lt_of_not_le fun hle => ?_
  have : pk ts a = tk0 := by simp [pk, List.getD, List.getElem?_eq_none hle]
  simp [sees, this, tk0] at h
theorem pk_lt {ts : List Tk} {a : Nat} (h : a < ts.length) : ts[a]? = some (pk ts a) := by
  unfold pk List.getD
  rw [List.getElem?_eq_getElem h]; rfl
theorem pk_ge {ts : List Tk} {a : Nat} (h : ts.length ≤ a) : pk ts a = tk0 := by
  unfold pk List.getD
  rw [List.getElem?_eq_none h]; rfl
theorem pk_kind {ts : List Tk} {a : Nat} {k : Int} (h : (pk ts a).kind = k) (hk : k ≠ 0) : a < ts.length := Nat.lt_of_not_le fun hle => by rw [pk_ge hle] at h; exact hk h.symm
theorem pk_ok {ts : List Tk} (h : ∀ t ∈ ts, TkOk t) (a : Nat) : 0 ≤ (pk ts a).n ∧ (pk ts a).n < 4294967296 := by
  by_cases hl : a < ts.length
  · exact (h _ (List.mem_of_getElem? (pk_lt hl))).1
  · rw [pk_ge (by omega)]; decide
def begM (ts : List Tk) (s : Bs) (a o : Nat) : Option (Rs Unit) := some (if sees ts a s = false then .bad a 3 else if 256 ≤ o then .bad a 20 else .ok () (a + 1) (o + 1))
def expM (ts : List Tk) (s : Bs) (a o : Nat) : Option (Rs Unit) := some (if sees ts a s = false then .bad a 3 else .ok () (a + 1) o)
def endM (ts : List Tk) (s : Bs) (a o : Nat) : Option (Rs Unit) := some (if sees ts a s = false then .bad a 3 else .ok () (a + 1) (o - 1))
def takM (ts : List Tk) (k : Int) (a o : Nat) : Option (Rs Tk) := some (if (pk ts a).kind ≠ k then .bad a 3 else .ok (pk ts a) (a + 1) o)
def ret {α : Type} (x : α) (a o : Nat) : Option (Rs α) := some (.ok x a o)
def opR (s : Bs) : Int × Nat := if s = [124] then (7, 1) else if s = [94] then (8, 2) else if s = [38] then (6, 3) else if s = [61, 61] then (12, 4) else if s = [33, 61] then (13, 4) else if s = [60] then (15, 5) else if s = [60, 115] then (14, 5) else if s = [60, 60] then (9, 6) else if s = [62, 62] then (10, 6) else if s = [62, 62, 115] then (11, 6) else if s = [43] then (3, 7) else if s = [45] then (4, 7) else if s = [42] then (5, 8) else (0, 0)
def stR (t : Tk) : Int × Nat := if t.kind = 5 then opR t.text else (0, 0)
def accW (s : Bs) : Option (Int × Int) := if s = [108, 111, 97, 100, 49] then some (18, 1) else if s = [108, 111, 97, 100, 50] then some (18, 2) else if s = [108, 111, 97, 100, 52] then some (18, 4) else if s = [115, 101, 120, 116, 49] then some (19, 1) else if s = [115, 101, 120, 116, 50] then some (19, 2) else none
inductive Md4 where
  | op
  | ex (l : Nat)
  | lo (l : Nat) (x : Ex)
def inn (ts : List Tk) (g : Nat → Nat → Option (Rs Ex)) (h : Ex → Ex) (a o : Nat) : Option (Rs Ex) :=
  rb (begM ts [40] a o) fun _ a o => rb (g a o) fun x a o => rb (endM ts [41] a o) fun _ a o => ret (h x) a o
def mkU (o w : Int) (x : Ex) : Ex := .mk o 0 ByteArray.empty w [x]
def exM (ts : List Tk) : Nat → Md4 → Nat → Nat → Option (Rs Ex)
  | 0, _, _, _ => none
  | f + 1, .op, a, o =>
    if (pk ts a).kind = 3 then ret (.mk 1 (pk ts a).n ByteArray.empty 0 []) (a + 1) o
    else if (pk ts a).kind = 1 then ret (.mk 2 0 ⟨(pk ts a).text.toArray⟩ 0 []) (a + 1) o
    else if (pk ts a).kind = 2 then match accW (pk ts a).text with
      | some (k, w) => inn ts (exM ts f (.ex 1)) (mkU k w) (a + 1) o
      | none => some (.bad a 3)
    else if (pk ts a).kind = 5 then
      if (pk ts a).text = [40] then inn ts (exM ts f (.ex 1)) id a o
      else if (pk ts a).text = [33] ∨ (pk ts a).text = [45] then
        rb (begM ts (pk ts a).text a o) fun _ a' o => rb (exM ts f .op a' o) fun x b p => ret (mkU (if (pk ts a).text = [45] then 17 else 16) 0 x) b (p - 1)
      else some (.bad a 3)
    else some (.bad a 3)
  | f + 1, .ex l, a, o => rb (exM ts f .op a o) fun x b p => exM ts f (.lo l x) b p
  | f + 1, .lo l x, a, o =>
    if (stR (pk ts a)).2 = 0 ∨ (stR (pk ts a)).2 < l then ret x a o
    else rb (exM ts f (.ex ((stR (pk ts a)).2 + 1)) (a + 1) o) fun y b p => exM ts f (.lo l (.mk (stR (pk ts a)).1 0 ByteArray.empty 0 [x, y])) b p
theorem begM_ok {ts : List Tk} {s : Bs} {a o : Nat} {u : Unit} {b p : Nat} (h : begM ts s a o = some (.ok u b p)) : sees ts a s = true ∧ o < 256 ∧ b = a + 1 ∧ p = o + 1 := by
  unfold begM at h
  cases hs : sees ts a s with
  | false => rw [if_pos hs] at h; cases h
  | true =>
    rw [if_neg (by rw [hs]; decide)] at h
    split at h
    · cases h
    · cases h; exact ⟨rfl, by omega, rfl, rfl⟩
theorem endM_ok {ts : List Tk} {s : Bs} {a o : Nat} {u : Unit} {b p : Nat} (h : endM ts s a o = some (.ok u b p)) : sees ts a s = true ∧ b = a + 1 ∧ p = o - 1 := by
  unfold endM at h
  cases hs : sees ts a s with
  | false => rw [if_pos hs] at h; cases h
  | true => rw [if_neg (by rw [hs]; decide)] at h; cases h; exact ⟨rfl, rfl, rfl⟩
theorem expM_ok {ts : List Tk} {s : Bs} {a o : Nat} {u : Unit} {b p : Nat} (h : expM ts s a o = some (.ok u b p)) : sees ts a s = true ∧ b = a + 1 ∧ p = o := by
  unfold expM at h
  cases hs : sees ts a s with
  | false => rw [if_pos hs] at h; cases h
  | true => rw [if_neg (by rw [hs]; decide)] at h; cases h; exact ⟨rfl, rfl, rfl⟩
theorem exM_open (ts : List Tk) : ∀ (f : Nat) (m : Md4) (a o : Nat) (x : Ex) (b p : Nat), exM ts f m a o = some (.ok x b p) → p = o ∧ a ≤ b := by
  have inn_open : ∀ (g : Nat → Nat → Option (Rs Ex)) (q : Ex → Ex), (∀ a o x b p, g a o = some (.ok x b p) → p = o ∧ a ≤ b) → ∀ a o x b p, inn ts g q a o = some (.ok x b p) → p = o ∧ a ≤ b := by
    intro g q hg a o x b p h; obtain ⟨_, a1, o1, h1, h⟩ := rb_ok h; obtain ⟨y, a2, o2, h2, h⟩ := rb_ok h; obtain ⟨_, a3, o3, h3, h⟩ := rb_ok h; cases h
    have e1 := begM_ok h1; have e2 := hg _ _ _ _ _ h2; have e3 := endM_ok h3; omega
  intro f
  induction f with
  | zero => intro m a o x b p h; cases m <;> cases h
  | succ f ih =>
    intro m a o x b p h; cases m with
    | op =>
      rw [exM] at h; split at h
      · cases h; omega
      split at h
      · cases h; omega
      split at h
      · split at h
        · have := inn_open _ _ (fun a o x b p => ih _ a o x b p) _ _ _ _ _ h
          omega
        · cases h
      split at h
      · split at h
        · exact inn_open _ _ (fun a o x b p => ih _ a o x b p) _ _ _ _ _ h
        split at h
        · obtain ⟨_, a1, o1, h1, h⟩ := rb_ok h
          obtain ⟨y, a2, o2, h2, h⟩ := rb_ok h; cases h
          have e1 := begM_ok h1; have e2 := ih _ _ _ _ _ _ h2; omega
        · cases h
      · cases h
    | ex l =>
      rw [exM] at h; obtain ⟨y, a1, o1, h1, h⟩ := rb_ok h; have e1 := ih _ _ _ _ _ _ h1; have e2 := ih _ _ _ _ _ _ h; omega
    | lo l y =>
      rw [exM] at h; split at h
      · cases h; omega
      · obtain ⟨z, a1, o1, h1, h⟩ := rb_ok h
        have e1 := ih _ _ _ _ _ _ h1; have e2 := ih _ _ _ _ _ _ h; omega
def intR (s : Bs) : Option (Int × Int) := if s = [97, 110, 121] then some (6, 0) else if s = [105, 110, 116, 56] then some (1, 1) else if s = [105, 110, 116, 49, 54] then some (1, 2) else if s = [105, 110, 116, 51, 50] then some (1, 4) else if s = [117, 105, 110, 116, 56] then some (2, 1) else if s = [117, 105, 110, 116, 49, 54] then some (2, 2) else if s = [117, 105, 110, 116, 51, 50] then some (2, 4) else none
inductive Md5 where
  | ty
  | fl (l : List Ty)
def tyM (ts : List Tk) : Nat → Md5 → Nat → Nat → Option (Rs Ty)
  | 0, _, _, _ => none
  | f + 1, .ty, a, o =>
    if (pk ts a).kind = 1 then match intR (pk ts a).text with
      | some (k, s) => ret (.mk 0 k s 0 [] []) (a + 1) o
      | none => some (.bad a 3)
    else if sees ts a [63] = true then ret (.mk 0 0 0 0 [] []) (a + 1) o
    else if sees ts a [42] = true then rb (begM ts [42] a o) fun _ a o => rb (tyM ts f .ty a o) fun x a o => ret (.mk 0 3 0 0 [x] []) a (o - 1)
    else if sees ts a [91] = true then rb (begM ts [91] a o) fun _ a o => rb (takM ts 3 a o) fun n a o => rb (expM ts [93] a o) fun _ a o => rb (tyM ts f .ty a o) fun x a o => ret (.mk 0 4 0 n.n [x] []) a (o - 1)
    else if sees ts a [123] = true then rb (begM ts [123] a o) fun _ a o => tyM ts f (.fl []) a o
    else some (.bad a 3)
  | f + 1, .fl l, a, o =>
    if sees ts a [125] = true then rb (endM ts [125] a o) fun _ a o => ret (.mk 0 5 0 0 [] l) a o
    else rb (if 0 < l.length then expM ts [44] a o else ret () a o) fun _ a o => rb (takM ts 3 a o) fun n a o => rb (expM ts [58] a o) fun _ a o => rb (tyM ts f .ty a o) fun x a o => tyM ts f (.fl (l ++ [x.at_ n.n])) a o
theorem takM_ok {ts : List Tk} {k : Int} {a o : Nat} {t : Tk} {b p : Nat} (h : takM ts k a o = some (.ok t b p)) : (pk ts a).kind = k ∧ t = pk ts a ∧ b = a + 1 ∧ p = o := by
  unfold takM at h
  split at h
  · cases h
  · rename_i hk
    cases h
    exact ⟨Classical.not_not.1 hk, rfl, rfl, rfl⟩
theorem tyM_open (ts : List Tk) : ∀ f, (∀ a o x b p, tyM ts f .ty a o = some (.ok x b p) → p = o ∧ a ≤ b ∧ b ≤ ts.length) ∧ (∀ l a o x b p, tyM ts f (.fl l) a o = some (.ok x b p) → p = o - 1 ∧ a ≤ b ∧ b ≤ ts.length) := by
  intro f
  induction f with
  | zero => exact ⟨(fun _ _ _ _ _ h => by cases h), (fun _ _ _ _ _ _ h => by cases h)⟩
  | succ f ih =>
    refine ⟨fun a o x b p h => ?_, fun l a o x b p h => ?_⟩
    · rw [tyM] at h
      split at h
      · rename_i hk
        have := pk_kind hk (by decide)
        split at h
        · cases h; omega
        · cases h
      split at h
      · rename_i hk
        have := sees_lt hk; cases h; omega
      split at h
      · obtain ⟨_, a1, o1, h1, h⟩ := rb_ok h
        obtain ⟨y, a2, o2, h2, h⟩ := rb_ok h; have e1 := begM_ok h1; have e2 := ih.1 _ _ _ _ _ h2; cases h; omega
      split at h
      · obtain ⟨_, a1, o1, h1, h⟩ := rb_ok h
        obtain ⟨n, a2, o2, h2, h⟩ := rb_ok h; obtain ⟨_, a3, o3, h3, h⟩ := rb_ok h; obtain ⟨y, a4, o4, h4, h⟩ := rb_ok h; have e1 := begM_ok h1; have e2 := takM_ok h2; have e3 := expM_ok h3; have e4 := ih.1 _ _ _ _ _ h4; cases h; omega
      split at h
      · obtain ⟨_, a1, o1, h1, h⟩ := rb_ok h
        have e1 := begM_ok h1; have e2 := ih.2 _ _ _ _ _ _ h; omega
      · cases h
    · rw [tyM] at h
      split at h
      · obtain ⟨_, a1, o1, h1, h⟩ := rb_ok h
        have e1 := endM_ok h1; have := sees_lt e1.1; cases h; omega
      · obtain ⟨_, a1, o1, h1, h⟩ := rb_ok h
        obtain ⟨n, a2, o2, h2, h⟩ := rb_ok h; obtain ⟨_, a3, o3, h3, h⟩ := rb_ok h; obtain ⟨y, a4, o4, h4, h⟩ := rb_ok h
        have e0 : a ≤ a1 ∧ o1 = o := by
          split at h1
          · have := expM_ok h1; omega
          · cases h1; omega
        have e2 := takM_ok h2; have e3 := expM_ok h3; have e4 := ih.1 _ _ _ _ _ h4; have e5 := ih.2 _ _ _ _ _ _ h; omega
end Go.Proofs.YtmbmmckagcdapaaGreatDoor
