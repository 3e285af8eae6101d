import Derived.Lib.Repeat
import Derived.Lib.ItoaNum
import Derived.Test.YtmbmmckagcdapaaGreatDoorK09
import Derived.Test.YtmbmmckagcdapaaGreatDoorK02
set_option linter.unusedSimpArgs false
set_option linter.unusedVariables false
set_option linter.unnecessarySimpa false
namespace Go.Proofs.YtmbmmckagcdapaaGreatDoor
def nE (k : Int) : Int := if k == 1 || k == 4 || k == 6 || k == 7 || k == 9 then 1 else if k == 2 then 2 else 0
def nmd (k : Int) : Bool := k == 1 || k == 3 || k == 5 || k == 12 || k == 13
def lst (k : Int) : Bool := k == 6 || k == 7 || k == 8
def stT (s : Nd) : Bool := decide (1 ≤ s.kind) && decide (s.kind ≤ 15) && decide ((s.e.length : Int) = nE s.kind) && (if nmd s.kind then nameT s.name else eqS s.name ByteArray.empty) && (lst s.kind || decide (s.l.length = 0)) && (s.kind == 6 || decide (s.el.length = 0)) &&
  (if s.kind == 2 then s.width == 1 || s.width == 2 || s.width == 4 else s.width == 0) && (if s.kind == 9 then decide (1 ≤ s.cs.length) && decide (s.cs.length ≤ 64) else decide (s.cs.length = 0)) && s.e.all efm
def strA (b : Bs) : ByteArray := ⟨b.toArray⟩
def nd0 : Nd := .mk 0 0 ByteArray.empty [] [] [] []
def nmM (ts : List Tk) (a o : Nat) : Option (Rs ByteArray) := rb (takM ts 1 a o) fun t a o => ret (strA t.text) a o
inductive Md6 where
  | st
  | li (l : List Nd)
  | br
  | ca (l : List (List Nd))
def oneS (s : Nd) : List (List Nd) := [[s]]
def theS (x : List (List Nd)) : Nd := (x.headD []).headD nd0
def storM (ts : List Tk) (f : Nat) (w : Int) (a o : Nat) : Option (Rs (List (List Nd))) :=
  rb (begM ts [40] a o) fun _ a o => rb (exM ts f (.ex 1) a o) fun x a o => rb (expM ts [44] a o) fun _ a o => rb (exM ts f (.ex 1) a o) fun y a o => rb (endM ts [41] a o) fun _ a o => rb (expM ts [59] a o) fun _ a o =>
    ret (oneS (.mk 2 w ByteArray.empty [x, y] [] [] [])) a o
def simpM (ts : List Tk) (k : Int) (a o : Nat) : Option (Rs (List (List Nd))) := rb (expM ts [59] a o) fun _ a o => ret (oneS (.mk k 0 ByteArray.empty [] [] [] [])) a o
def namM (ts : List Tk) (f : Nat) (a o : Nat) : Option (Rs (List (List Nd))) :=
  rb (nmM ts a o) fun n a o => if sees ts a [58] = true then ret (oneS (.mk 13 0 n [] [] [] [])) (a + 1) o
    else rb (expM ts [61] a o) fun _ a o => if sees ts a [105, 110] = true then rb (expM ts [59] (a + 1) o) fun _ a o => ret (oneS (.mk 3 0 n [] [] [] [])) a o
      else rb (exM ts f (.ex 1) a o) fun x a o => rb (expM ts [59] a o) fun _ a o => ret (oneS (.mk 1 0 n [x] [] [] [])) a o
def stM (ts : List Tk) : Nat → Md6 → Nat → Nat → Option (Rs (List (List Nd)))
  | 0, _, _, _ => none
  | f + 1, .st, a, o =>
    if (pk ts a).kind = 1 then namM ts f a o
    else if sees ts a [103, 111, 116, 111] = true then rb (nmM ts (a + 1) o) fun n a o => rb (expM ts [59] a o) fun _ a o => ret (oneS (.mk 12 0 n [] [] [] [])) a o
    else if sees ts a [99, 97, 108, 108] = true then rb (nmM ts (a + 1) o) fun n a o => rb (expM ts [59] a o) fun _ a o => ret (oneS (.mk 5 0 n [] [] [] [])) a o
    else if sees ts a [115, 116, 111, 114, 101, 49] = true then storM ts f 1 (a + 1) o
    else if sees ts a [115, 116, 111, 114, 101, 50] = true then storM ts f 2 (a + 1) o
    else if sees ts a [115, 116, 111, 114, 101, 52] = true then storM ts f 4 (a + 1) o
    else if sees ts a [111, 117, 116] = true then rb (exM ts f (.ex 1) (a + 1) o) fun x a o => rb (expM ts [59] a o) fun _ a o => ret (oneS (.mk 4 0 ByteArray.empty [x] [] [] [])) a o
    else if sees ts a [105, 102] = true then rb (exM ts f (.ex 1) (a + 1) o) fun x a o => rb (stM ts f .br a o) fun l a o =>
      if sees ts a [101, 108, 115, 101] = true then rb (stM ts f .br (a + 1) o) fun e a o => ret (oneS (.mk 6 0 ByteArray.empty [x] (l.headD []) (e.headD []) [])) a o
      else ret (oneS (.mk 6 0 ByteArray.empty [x] (l.headD []) [] [])) a o
    else if sees ts a [119, 104, 105, 108, 101] = true then rb (exM ts f (.ex 1) (a + 1) o) fun x a o => rb (stM ts f .br a o) fun l a o => ret (oneS (.mk 7 0 ByteArray.empty [x] (l.headD []) [] [])) a o
    else if sees ts a [108, 111, 111, 112] = true then rb (stM ts f .br (a + 1) o) fun l a o => ret (oneS (.mk 8 0 ByteArray.empty [] (l.headD []) [] [])) a o
    else if sees ts a [115, 119, 105, 116, 99, 104] = true then rb (exM ts f (.ex 1) (a + 1) o) fun x a o => rb (begM ts [123] a o) fun _ a o => rb (stM ts f (.ca []) a o) fun c a o => ret (oneS (.mk 9 0 ByteArray.empty [x] [] [] c)) a o
    else if sees ts a [98, 114, 101, 97, 107] = true then simpM ts 10 (a + 1) o
    else if sees ts a [99, 111, 110, 116, 105, 110, 117, 101] = true then simpM ts 11 (a + 1) o
    else if sees ts a [114, 101, 116, 117, 114, 110] = true then simpM ts 14 (a + 1) o
    else if sees ts a [104, 97, 108, 116] = true then simpM ts 15 (a + 1) o
    else some (.bad a 3)
  | f + 1, .li l, a, o => if sees ts a [125] = true then ret [l] a o else rb (stM ts f .st a o) fun s a o => stM ts f (.li (l ++ [theS s])) a o
  | f + 1, .br, a, o => rb (begM ts [123] a o) fun _ a o => rb (stM ts f (.li []) a o) fun l a o => rb (endM ts [125] a o) fun _ a o => ret l a o
  | f + 1, .ca c, a, o =>
    if sees ts a [99, 97, 115, 101] = true then (if (pk ts (a + 1)).kind = 3 ∧ (pk ts (a + 1)).n = c.length then rb (stM ts f .br (a + 2) o) fun l a o => stM ts f (.ca (c ++ [l.headD []])) a o else some (.bad (a + 1) 3))
    else rb (endM ts [125] a o) fun _ a o => ret c a o
def varM (ts : List Tk) (f : Nat) (a o : Nat) : Option (Rs Va) :=
  rb (expM ts [118, 97, 114] a o) fun _ a o => rb (nmM ts a o) fun n a o => rb (expM ts [58] a o) fun _ a o => rb (tyM ts f .ty a o) fun t a o => rb (expM ts [59] a o) fun _ a o => ret ⟨n, t⟩ a o
def accM (ts : List Tk) (s : Bs) (a o : Nat) : Option (Rs Bool) := if sees ts a s = true then ret true (a + 1) o else ret false a o
def datM (ts : List Tk) (a o : Nat) : Option (Rs Sec) :=
  rb (expM ts [100, 97, 116, 97] a o) fun _ a o => rb (nmM ts a o) fun n a o => rb (takM ts 3 a o) fun d a o => rb (accM ts [119, 114, 105, 116, 101] a o) fun w a o => rb (accM ts [101, 120, 101, 99] a o) fun x a o =>
    rb (expM ts [61] a o) fun _ a o => rb (takM ts 4 a o) fun b a o => rb (expM ts [59] a o) fun _ a o => ret ⟨n, d.n, b.text, w, x⟩ a o
def vasM (ts : List Tk) : Nat → List Va → Nat → Nat → Option (Rs (List Va))
  | 0, _, _, _ => none
  | f + 1, l, a, o => if sees ts a [118, 97, 114] = true then rb (varM ts f a o) fun v a o => vasM ts f (l ++ [v]) a o else ret l a o
def funM (ts : List Tk) (f : Nat) (a o : Nat) : Option (Rs Fun) :=
  rb (expM ts [102, 117, 110, 99] a o) fun _ a o => rb (nmM ts a o) fun n a o => rb (begM ts [123] a o) fun _ a o => rb (vasM ts f [] a o) fun v a o => rb (stM ts f (.li []) a o) fun l a o => rb (endM ts [125] a o) fun _ a o =>
    ret ⟨n, v, l.headD []⟩ a o
def uniM (ts : List Tk) : Nat → Un → Nat → Nat → Option (Rs Un)
  | 0, _, _, _ => none
  | f + 1, u, a, o =>
    if ts.length ≤ a then ret u a o
    else if sees ts a [118, 97, 114] = true then rb (varM ts f a o) fun v a o => uniM ts f ⟨u.globals ++ [v], u.data, u.funcs⟩ a o
    else if sees ts a [100, 97, 116, 97] = true then rb (datM ts a o) fun d a o => uniM ts f ⟨u.globals, u.data ++ [d], u.funcs⟩ a o
    else if sees ts a [102, 117, 110, 99] = true then rb (funM ts f a o) fun g a o => uniM ts f ⟨u.globals, u.data, u.funcs ++ [g]⟩ a o
    else some (.bad a 3)
def allM {α : Type} (ts : List Tk) (r : Option (Rs α)) : Option (Rs α) := rb r fun x a o => if a < ts.length then some (.bad a 3) else ret x a o
theorem nmM_ok {ts : List Tk} {a o : Nat} {n : ByteArray} {b p : Nat} (h : nmM ts a o = some (.ok n b p)) : n = strA (pk ts a).text ∧ b = a + 1 ∧ p = o ∧ a < ts.length := by
  obtain ⟨t, a1, o1, h1, h2⟩ := rb_ok h
  obtain ⟨hk, rfl, rfl, rfl⟩ := takM_ok h1
  cases h2
  exact ⟨rfl, rfl, rfl, pk_kind hk (by decide)⟩
theorem expM_ok' {ts : List Tk} {s : Bs} {a o : Nat} {u : Unit} {b p : Nat} (h : expM ts s a o = some (.ok u b p)) : a < ts.length ∧ b = a + 1 ∧ p = o := by
  obtain ⟨h1, h2, h3⟩ := expM_ok h
  exact ⟨sees_lt h1, h2, h3⟩
theorem endM_ok' {ts : List Tk} {s : Bs} {a o : Nat} {u : Unit} {b p : Nat} (h : endM ts s a o = some (.ok u b p)) : a < ts.length ∧ b = a + 1 ∧ p = o - 1 := by
  obtain ⟨h1, h2, h3⟩ := endM_ok h
  exact ⟨sees_lt h1, h2, h3⟩
theorem storM_open {ts : List Tk} {f : Nat} {w : Int} {a o : Nat} {x : List (List Nd)} {b p : Nat} (h : storM ts f w a o = some (.ok x b p)) : p = o ∧ a < b ∧ b ≤ ts.length := by
  obtain ⟨_, a1, o1, h1, h⟩ := rb_ok h
  obtain ⟨_, a2, o2, h2, h⟩ := rb_ok h
  obtain ⟨_, a3, o3, h3, h⟩ := rb_ok h
  obtain ⟨_, a4, o4, h4, h⟩ := rb_ok h
  obtain ⟨_, a5, o5, h5, h⟩ := rb_ok h
  obtain ⟨_, a6, o6, h6, h⟩ := rb_ok h
  have e1 := begM_ok h1
  have e2 := exM_open _ _ _ _ _ _ _ _ h2
  have e3 := expM_ok h3
  have e4 := exM_open _ _ _ _ _ _ _ _ h4
  have e5 := endM_ok h5
  have e6 := expM_ok' h6
  cases h; omega
theorem simpM_open {ts : List Tk} {k : Int} {a o : Nat} {x : List (List Nd)} {b p : Nat} (h : simpM ts k a o = some (.ok x b p)) : p = o ∧ a < b ∧ b ≤ ts.length := by
  obtain ⟨_, a1, o1, h1, h⟩ := rb_ok h
  have e1 := expM_ok' h1
  cases h; omega
theorem namM_open {ts : List Tk} {f : Nat} {a o : Nat} {x : List (List Nd)} {b p : Nat} (h : namM ts f a o = some (.ok x b p)) : p = o ∧ a < b ∧ b ≤ ts.length := by
  obtain ⟨_, a1, o1, h1, h⟩ := rb_ok h
  have e1 := nmM_ok h1
  split at h
  · rename_i hk
    have := sees_lt hk; cases h; omega
  obtain ⟨_, a2, o2, h2, h⟩ := rb_ok h
  have e2 := expM_ok h2
  split at h
  · obtain ⟨_, a3, o3, h3, h⟩ := rb_ok h
    have e3 := expM_ok' h3; cases h; omega
  · obtain ⟨_, a3, o3, h3, h⟩ := rb_ok h
    obtain ⟨_, a4, o4, h4, h⟩ := rb_ok h; have e3 := exM_open _ _ _ _ _ _ _ _ h3; have e4 := expM_ok' h4; cases h; omega
theorem ite_or {α : Type} {c : Prop} [Decidable c] {x y z : α} (h : (if c then x else y) = z) : (c ∧ x = z) ∨ (¬ c ∧ y = z) := by
  by_cases hc : c
  · exact .inl ⟨hc, by rw [if_pos hc] at h; exact h⟩
  · exact .inr ⟨hc, by rw [if_neg hc] at h; exact h⟩
theorem stM_open (ts : List Tk) : ∀ f, (∀ a o x b p, stM ts f .st a o = some (.ok x b p) → p = o ∧ a < b ∧ b ≤ ts.length) ∧ (∀ l a o x b p, stM ts f (.li l) a o = some (.ok x b p) → p = o ∧ a ≤ b ∧ b < ts.length) ∧
    (∀ a o x b p, stM ts f .br a o = some (.ok x b p) → p = o ∧ a < b ∧ b ≤ ts.length) ∧ (∀ l a o x b p, stM ts f (.ca l) a o = some (.ok x b p) → p = o - 1 ∧ a < b ∧ b ≤ ts.length) := by
  intro f
  induction f with
  | zero => exact ⟨(fun _ _ _ _ _ h => by cases h), (fun _ _ _ _ _ _ h => by cases h), (fun _ _ _ _ _ h => by cases h), (fun _ _ _ _ _ _ h => by cases h)⟩
  | succ f ih =>
    obtain ⟨i1, i2, i3, i4⟩ := ih; refine ⟨fun a o x b p h => ?_, fun l a o x b p h => ?_, fun a o x b p h => ?_, fun l a o x b p h => ?_⟩
    · rw [stM] at h
      have kw : ∀ {r : Option (Rs (List (List Nd)))}, (r = some (.ok x b p) → p = o ∧ a + 1 < b ∧ b ≤ ts.length) → r = some (.ok x b p) → p = o ∧ a < b ∧ b ≤ ts.length := fun g h => by have := g h; omega
      rcases ite_or h with ⟨_, h⟩ | ⟨_, h⟩
      · exact namM_open h
      rcases ite_or h with ⟨_, h⟩ | ⟨_, h⟩
      · obtain ⟨_, a1, o1, h1, h⟩ := rb_ok h
        obtain ⟨_, a2, o2, h2, h⟩ := rb_ok h; have e1 := nmM_ok h1; have e2 := expM_ok' h2; cases h; omega
      rcases ite_or h with ⟨_, h⟩ | ⟨_, h⟩
      · obtain ⟨_, a1, o1, h1, h⟩ := rb_ok h
        obtain ⟨_, a2, o2, h2, h⟩ := rb_ok h; have e1 := nmM_ok h1; have e2 := expM_ok' h2; cases h; omega
      rcases ite_or h with ⟨_, h⟩ | ⟨_, h⟩
      · exact kw storM_open h
      rcases ite_or h with ⟨_, h⟩ | ⟨_, h⟩
      · exact kw storM_open h
      rcases ite_or h with ⟨_, h⟩ | ⟨_, h⟩
      · exact kw storM_open h
      rcases ite_or h with ⟨_, h⟩ | ⟨_, h⟩
      · obtain ⟨_, a1, o1, h1, h⟩ := rb_ok h
        obtain ⟨_, a2, o2, h2, h⟩ := rb_ok h; have e1 := exM_open _ _ _ _ _ _ _ _ h1; have e2 := expM_ok' h2; cases h; omega
      rcases ite_or h with ⟨_, h⟩ | ⟨_, h⟩
      · obtain ⟨_, a1, o1, h1, h⟩ := rb_ok h
        obtain ⟨_, a2, o2, h2, h⟩ := rb_ok h; have e1 := exM_open _ _ _ _ _ _ _ _ h1; have e2 := i3 _ _ _ _ _ h2; rcases ite_or h with ⟨_, h⟩ | ⟨_, h⟩
        · obtain ⟨_, a3, o3, h3, h⟩ := rb_ok h
          have e3 := i3 _ _ _ _ _ h3; cases h; omega
        · cases h; omega
      rcases ite_or h with ⟨_, h⟩ | ⟨_, h⟩
      · obtain ⟨_, a1, o1, h1, h⟩ := rb_ok h
        obtain ⟨_, a2, o2, h2, h⟩ := rb_ok h; have e1 := exM_open _ _ _ _ _ _ _ _ h1; have e2 := i3 _ _ _ _ _ h2; cases h; omega
      rcases ite_or h with ⟨_, h⟩ | ⟨_, h⟩
      · obtain ⟨_, a1, o1, h1, h⟩ := rb_ok h
        have e1 := i3 _ _ _ _ _ h1; cases h; omega
      rcases ite_or h with ⟨_, h⟩ | ⟨_, h⟩
      · obtain ⟨_, a1, o1, h1, h⟩ := rb_ok h
        obtain ⟨_, a2, o2, h2, h⟩ := rb_ok h; obtain ⟨_, a3, o3, h3, h⟩ := rb_ok h; have e1 := exM_open _ _ _ _ _ _ _ _ h1; have e2 := begM_ok h2; have e3 := i4 _ _ _ _ _ _ h3; cases h; omega
      rcases ite_or h with ⟨_, h⟩ | ⟨_, h⟩
      · exact kw simpM_open h
      rcases ite_or h with ⟨_, h⟩ | ⟨_, h⟩
      · exact kw simpM_open h
      rcases ite_or h with ⟨_, h⟩ | ⟨_, h⟩
      · exact kw simpM_open h
      rcases ite_or h with ⟨_, h⟩ | ⟨_, h⟩
      · exact kw simpM_open h
      · cases h
    · rw [stM] at h
      rcases ite_or h with ⟨hk, h⟩ | ⟨_, h⟩
      · have := sees_lt hk
        cases h; omega
      · obtain ⟨_, a1, o1, h1, h⟩ := rb_ok h
        have e1 := i1 _ _ _ _ _ h1; have e2 := i2 _ _ _ _ _ _ h; omega
    · rw [stM] at h
      obtain ⟨_, a1, o1, h1, h⟩ := rb_ok h; obtain ⟨_, a2, o2, h2, h⟩ := rb_ok h; obtain ⟨_, a3, o3, h3, h⟩ := rb_ok h; have e1 := begM_ok h1; have e2 := i2 _ _ _ _ _ _ h2; have e3 := endM_ok' h3; cases h; omega
    · rw [stM] at h
      rcases ite_or h with ⟨_, h⟩ | ⟨_, h⟩
      · rcases ite_or h with ⟨_, h⟩ | ⟨_, h⟩
        · obtain ⟨_, a1, o1, h1, h⟩ := rb_ok h
          have e1 := i3 _ _ _ _ _ h1; have e2 := i4 _ _ _ _ _ _ h; omega
        · cases h
      · obtain ⟨_, a1, o1, h1, h⟩ := rb_ok h
        have e1 := endM_ok' h1; cases h; omega
end Go.Proofs.YtmbmmckagcdapaaGreatDoor
namespace Go.Proofs.YtmbmmckagcdapaaGreatDoor
def Sm {α : Type} (r : Option (Rs α)) : Prop := ∃ z, r = some z
theorem Sm.rb {α β : Type} {r : Option (Rs α)} {k : α → Nat → Nat → Option (Rs β)} (h : Sm r) (hk : ∀ x a o, r = some (.ok x a o) → Sm (k x a o)) : Sm (rb r k) := by
  obtain ⟨z, rfl⟩ := h
  cases z with
  | ok x a o => exact hk x a o rfl
  | bad b e => exact ⟨_, rfl⟩
theorem Sm.ite {α : Type} {c : Prop} [Decidable c] {x y : Option (Rs α)} (hx : c → Sm x) (hy : ¬ c → Sm y) : Sm (if c then x else y) := by
  by_cases h : c
  · rw [if_pos h]; exact hx h
  · rw [if_neg h]; exact hy h
theorem Sm.some {α : Type} (z : Rs α) : Sm (some z) := ⟨z, rfl⟩
theorem Sm.ret {α : Type} (x : α) (a o : Nat) : Sm (ret x a o) := ⟨_, rfl⟩
theorem Sm.beg (ts : List Tk) (s : Bs) (a o : Nat) : Sm (begM ts s a o) := ⟨_, rfl⟩
theorem Sm.exp (ts : List Tk) (s : Bs) (a o : Nat) : Sm (expM ts s a o) := ⟨_, rfl⟩
theorem Sm.en (ts : List Tk) (s : Bs) (a o : Nat) : Sm (endM ts s a o) := ⟨_, rfl⟩
theorem Sm.tak (ts : List Tk) (k : Int) (a o : Nat) : Sm (takM ts k a o) := ⟨_, rfl⟩
theorem Sm.nm (ts : List Tk) (a o : Nat) : Sm (nmM ts a o) := Sm.rb (Sm.tak ..) fun _ _ _ _ => Sm.ret ..
theorem stR_lt {ts : List Tk} {a : Nat} (h : ¬ (stR (pk ts a)).2 = 0) : a < ts.length := by
  refine pk_kind (k := 5) ?_ (by decide)
  unfold stR at h
  split at h
  · assumption
  · exact absurd rfl h
theorem exM_op_lt {ts : List Tk} {f a o : Nat} {x : Ex} {b p : Nat} (h : exM ts f .op a o = some (.ok x b p)) : a < b ∧ a < ts.length := by
  cases f with
  | zero => cases h
  | succ f =>
  have inn_lt : ∀ (q : Ex → Ex) a o, inn ts (exM ts f (.ex 1)) q a o = some (.ok x b p) → a < b := by
    intro q a o h; obtain ⟨_, a1, o1, h1, h⟩ := rb_ok h; obtain ⟨y, a2, o2, h2, h⟩ := rb_ok h; obtain ⟨_, a3, o3, h3, h⟩ := rb_ok h; cases h
    have e1 := begM_ok h1; have e2 := exM_open _ _ _ _ _ _ _ _ h2; have e3 := endM_ok h3; omega
  rw [exM] at h
  rcases ite_or h with ⟨hk, h⟩ | ⟨_, h⟩
  · have := pk_kind hk (by decide)
    cases h; omega
  rcases ite_or h with ⟨hk, h⟩ | ⟨_, h⟩
  · have := pk_kind hk (by decide)
    cases h; omega
  rcases ite_or h with ⟨hk, h⟩ | ⟨_, h⟩
  · have := pk_kind hk (by decide)
    split at h
    · have := inn_lt _ _ _ h; omega
    · cases h
  rcases ite_or h with ⟨hk, h⟩ | ⟨_, h⟩
  · have := pk_kind hk (by decide)
    rcases ite_or h with ⟨_, h⟩ | ⟨_, h⟩
    · have := inn_lt _ _ _ h; omega
    rcases ite_or h with ⟨_, h⟩ | ⟨_, h⟩
    · obtain ⟨_, a1, o1, h1, h⟩ := rb_ok h
      obtain ⟨y, a2, o2, h2, h⟩ := rb_ok h; cases h
      have e1 := begM_ok h1; have e2 := exM_open _ _ _ _ _ _ _ _ h2; omega
    · cases h
  · cases h
theorem exM_lt {ts : List Tk} {f l a o : Nat} {x : Ex} {b p : Nat} (h : exM ts f (.ex l) a o = some (.ok x b p)) : a < b ∧ a < ts.length := by
  cases f with
  | zero => cases h
  | succ f =>
  rw [exM] at h
  obtain ⟨y, a1, o1, h1, h⟩ := rb_ok h
  have e1 := exM_op_lt h1
  have e2 := exM_open _ _ _ _ _ _ _ _ h
  omega
theorem exM_some (ts : List Tk) : ∀ f, (∀ a o, 3 * (ts.length - a) + 1 ≤ f → Sm (exM ts f .op a o)) ∧ (∀ l a o, 3 * (ts.length - a) + 2 ≤ f → Sm (exM ts f (.ex l) a o)) ∧ (∀ l x a o, 3 * (ts.length - a) + 1 ≤ f → Sm (exM ts f (.lo l x) a o)) := by
  intro f
  induction f with
  | zero => exact ⟨(fun a o h => by omega), (fun l a o h => by omega), (fun l x a o h => by omega)⟩
  | succ f ih =>
    obtain ⟨i1, i2, i3⟩ := ih
    have hin : ∀ q a o, a < ts.length → 3 * (ts.length - a) ≤ f → Sm (inn ts (exM ts f (.ex 1)) q a o) := fun q a o ha h => by
      refine Sm.rb (Sm.beg ..) fun _ a1 o1 h1 => Sm.rb ?_ fun _ _ _ _ => Sm.rb (Sm.en ..) fun _ _ _ _ => Sm.ret ..
      have := begM_ok h1; exact i2 _ _ _ (by omega)
    refine ⟨fun a o h => ?_, fun l a o h => ?_, fun l x a o h => ?_⟩
    · rw [exM]
      refine Sm.ite (fun _ => Sm.ret ..) fun _ => Sm.ite (fun _ => Sm.ret ..) fun _ => Sm.ite (fun hk => ?_) fun _ => Sm.ite (fun hk => ?_) fun _ => Sm.some _
      · have hl := pk_kind hk (by decide)
        cases accW (pk ts a).text with
        | none => exact Sm.some _
        | some p =>
          by_cases hl2 : a + 1 < ts.length
          · exact hin _ _ _ hl2 (by omega)
          · refine Sm.rb (Sm.beg ..) fun _ a1 o1 h1 => ?_
            have := sees_lt (begM_ok h1).1; omega
      · have hl := pk_kind hk (by decide)
        refine Sm.ite (fun _ => hin _ _ _ hl (by omega)) fun _ => Sm.ite (fun _ => ?_) fun _ => Sm.some _
        refine Sm.rb (Sm.beg ..) fun _ a1 o1 h1 => Sm.rb ?_ fun _ _ _ _ => Sm.ret ..
        have := begM_ok h1; exact i1 _ _ (by omega)
    · rw [exM]
      refine Sm.rb (i1 _ _ (by omega)) fun x b p h1 => i3 _ _ _ _ ?_
      have := exM_op_lt h1; omega
    · rw [exM]
      refine Sm.ite (fun _ => Sm.ret ..) fun hk => ?_
      have hl := stR_lt (ts := ts) (a := a) (fun e => hk (.inl e))
      refine Sm.rb (i2 _ _ _ (by omega)) fun y b p h1 => i3 _ _ _ _ ?_
      have := exM_lt h1; omega
theorem tyM_some (ts : List Tk) : ∀ f, (∀ a o, ts.length - a + 1 ≤ f → Sm (tyM ts f .ty a o)) ∧ (∀ l a o, ts.length - a + 1 ≤ f → Sm (tyM ts f (.fl l) a o)) := by
  intro f
  induction f with
  | zero => exact ⟨(fun a o h => by omega), (fun l a o h => by omega)⟩
  | succ f ih =>
    obtain ⟨i1, i2⟩ := ih; refine ⟨fun a o h => ?_, fun l a o h => ?_⟩
    · rw [tyM]
      refine Sm.ite (fun _ => ?_) fun _ => Sm.ite (fun _ => Sm.ret ..) fun _ => Sm.ite (fun hk => ?_) fun _ => Sm.ite (fun hk => ?_) fun _ => Sm.ite (fun hk => ?_) fun _ => Sm.some _
      · cases intR (pk ts a).text with
        | none => exact Sm.some _
        | some p => exact Sm.ret ..
      · have hl := sees_lt hk
        refine Sm.rb (Sm.beg ..) fun _ a1 o1 h1 => Sm.rb (i1 _ _ ?_) fun _ _ _ _ => Sm.ret ..
        have := begM_ok h1; omega
      · have hl := sees_lt hk
        refine Sm.rb (Sm.beg ..) fun _ a1 o1 h1 => Sm.rb (Sm.tak ..) fun _ a2 o2 h2 => Sm.rb (Sm.exp ..) fun _ a3 o3 h3 => Sm.rb (i1 _ _ ?_) fun _ _ _ _ => Sm.ret ..
        have := begM_ok h1; have := takM_ok h2; have := expM_ok h3; omega
      · have hl := sees_lt hk
        refine Sm.rb (Sm.beg ..) fun _ a1 o1 h1 => i2 _ _ _ ?_
        have := begM_ok h1; omega
    · rw [tyM]
      refine Sm.ite (fun _ => Sm.rb (Sm.en ..) fun _ _ _ _ => Sm.ret ..) fun _ => Sm.rb (Sm.ite (fun _ => Sm.exp ..) fun _ => Sm.ret ..) fun _ a1 o1 h1 => Sm.rb (Sm.tak ..) fun _ a2 o2 h2 => Sm.rb (Sm.exp ..) fun _ a3 o3 h3 => ?_
      have e1 : a ≤ a1 := by
        rcases ite_or h1 with ⟨_, h1⟩ | ⟨_, h1⟩
        · have := expM_ok h1; omega
        · cases h1; omega
      have e2 := takM_ok h2; have e3 := expM_ok h3; have e4 := pk_kind e2.1 (by decide)
      refine Sm.rb (i1 _ _ (by omega)) fun _ a5 o5 h5 => i2 _ _ _ ?_
      have := (tyM_open ts f).1 _ _ _ _ _ h5; omega
theorem stM_some (ts : List Tk) : ∀ f, (∀ a o, 3 * (ts.length - a) + 2 ≤ f → Sm (stM ts f .st a o)) ∧ (∀ l a o, 3 * (ts.length - a) + 3 ≤ f → Sm (stM ts f (.li l) a o)) ∧ (∀ a o, 3 * (ts.length - a) + 3 ≤ f → Sm (stM ts f .br a o)) ∧ (∀ c a o, 3 * (ts.length - a) + 3 ≤ f → Sm (stM ts f (.ca c) a o)) := by
  intro f
  induction f with
  | zero => exact ⟨(fun a o h => by omega), (fun l a o h => by omega), (fun a o h => by omega), (fun c a o h => by omega)⟩
  | succ f ih =>
    obtain ⟨i1, i2, i3, i4⟩ := ih; have ex : ∀ l a o, 3 * (ts.length - a) + 2 ≤ f → Sm (exM ts f (.ex l) a o) := fun l a o h => (exM_some ts f).2.1 l a o h
    refine ⟨fun a o h => ?_, fun l a o h => ?_, fun a o h => ?_, fun c a o h => ?_⟩
    · rw [stM]
      have sto : ∀ w, a < ts.length → Sm (storM ts f w (a + 1) o) := fun w ha => by
        refine Sm.rb (Sm.beg ..) fun _ a1 o1 h1 => ?_
        have e1 := begM_ok h1; have := sees_lt e1.1; refine Sm.rb (ex _ _ _ (by omega)) fun _ a2 o2 h2 => Sm.rb (Sm.exp ..) fun _ a3 o3 h3 => ?_
        have e2 := exM_lt h2; have e3 := expM_ok h3; refine Sm.rb (ex _ _ _ (by omega)) fun _ a4 o4 h4 => Sm.rb (Sm.en ..) fun _ a5 o5 h5 => Sm.rb (Sm.exp ..) fun _ a6 o6 h6 => Sm.ret ..
      have sim : ∀ k a o, Sm (simpM ts k a o) := fun k a o => Sm.rb (Sm.exp ..) fun _ _ _ _ => Sm.ret ..
      refine Sm.ite (fun hk => ?_) fun _ => Sm.ite (fun _ => Sm.rb (Sm.nm ..) fun _ _ _ _ => Sm.rb (Sm.exp ..) fun _ _ _ _ => Sm.ret ..) fun _ => Sm.ite (fun _ => Sm.rb (Sm.nm ..) fun _ _ _ _ => Sm.rb (Sm.exp ..) fun _ _ _ _ => Sm.ret ..) fun _ =>
        Sm.ite (fun hk => sto _ (sees_lt hk)) fun _ => Sm.ite (fun hk => sto _ (sees_lt hk)) fun _ => Sm.ite (fun hk => sto _ (sees_lt hk)) fun _ => Sm.ite (fun hk => ?_) fun _ => Sm.ite (fun hk => ?_) fun _ => Sm.ite (fun hk => ?_) fun _ => Sm.ite (fun hk => ?_) fun _ => Sm.ite (fun hk => ?_) fun _ =>
        Sm.ite (fun _ => sim ..) fun _ => Sm.ite (fun _ => sim ..) fun _ => Sm.ite (fun _ => sim ..) fun _ => Sm.ite (fun _ => sim ..) fun _ => Sm.some _
      · have hl := pk_kind hk (by decide)
        refine Sm.rb (Sm.nm ..) fun _ a1 o1 h1 => Sm.ite (fun _ => Sm.ret ..) fun _ => Sm.rb (Sm.exp ..) fun _ a2 o2 h2 => Sm.ite (fun _ => Sm.rb (Sm.exp ..) fun _ _ _ _ => Sm.ret ..) fun _ => ?_
        have e1 := nmM_ok h1; have e2 := expM_ok h2; have := sees_lt e2.1; exact Sm.rb (ex _ _ _ (by omega)) fun _ _ _ _ => Sm.rb (Sm.exp ..) fun _ _ _ _ => Sm.ret ..
      · have hl := sees_lt hk
        exact Sm.rb (ex _ _ _ (by omega)) fun _ _ _ _ => Sm.rb (Sm.exp ..) fun _ _ _ _ => Sm.ret ..
      · have hl := sees_lt hk
        refine Sm.rb (ex _ _ _ (by omega)) fun _ a1 o1 h1 => ?_
        have e1 := exM_lt h1; refine Sm.rb (i3 _ _ (by omega)) fun _ a2 o2 h2 => Sm.ite (fun _ => ?_) fun _ => Sm.ret ..
        have e2 := (stM_open ts f).2.2.1 _ _ _ _ _ h2; exact Sm.rb (i3 _ _ (by omega)) fun _ _ _ _ => Sm.ret ..
      · have hl := sees_lt hk
        refine Sm.rb (ex _ _ _ (by omega)) fun _ a1 o1 h1 => ?_
        have e1 := exM_lt h1; exact Sm.rb (i3 _ _ (by omega)) fun _ a2 o2 h2 => Sm.ret ..
      · have hl := sees_lt hk
        exact Sm.rb (i3 _ _ (by omega)) fun _ a2 o2 h2 => Sm.ret ..
      · have hl := sees_lt hk
        refine Sm.rb (ex _ _ _ (by omega)) fun _ a1 o1 h1 => Sm.rb (Sm.beg ..) fun _ a2 o2 h2 => ?_
        have e1 := exM_lt h1; have e2 := begM_ok h2; exact Sm.rb (i4 _ _ _ (by omega)) fun _ _ _ _ => Sm.ret ..
    · rw [stM]
      refine Sm.ite (fun _ => Sm.ret ..) fun _ => Sm.rb (i1 _ _ (by omega)) fun _ a1 o1 h1 => ?_
      have e1 := (stM_open ts f).1 _ _ _ _ _ h1; exact i2 _ _ _ (by omega)
    · rw [stM]
      refine Sm.rb (Sm.beg ..) fun _ a1 o1 h1 => ?_
      have e1 := begM_ok h1; have := sees_lt e1.1; exact Sm.rb (i2 _ _ _ (by omega)) fun _ _ _ _ => Sm.rb (Sm.en ..) fun _ _ _ _ => Sm.ret ..
    · rw [stM]
      refine Sm.ite (fun hk => Sm.ite (fun hn => ?_) fun _ => Sm.some _) fun _ => Sm.rb (Sm.en ..) fun _ _ _ _ => Sm.ret ..
      have hl := sees_lt hk; refine Sm.rb (i3 _ _ (by omega)) fun _ a1 o1 h1 => ?_
      have e1 := (stM_open ts f).2.2.1 _ _ _ _ _ h1; exact i4 _ _ _ (by omega)
theorem varM_ok {ts : List Tk} {f a o : Nat} {v : Va} {b p : Nat} (h : varM ts f a o = some (.ok v b p)) : p = o ∧ a < b ∧ b ≤ ts.length := by
  obtain ⟨_, a1, o1, h1, h⟩ := rb_ok h
  obtain ⟨_, a2, o2, h2, h⟩ := rb_ok h
  obtain ⟨_, a3, o3, h3, h⟩ := rb_ok h
  obtain ⟨_, a4, o4, h4, h⟩ := rb_ok h
  obtain ⟨_, a5, o5, h5, h⟩ := rb_ok h
  have e1 := expM_ok h1
  have e2 := nmM_ok h2
  have e3 := expM_ok h3
  have e4 := (tyM_open ts f).1 _ _ _ _ _ h4
  have e5 := expM_ok' h5
  cases h; omega
theorem varM_some (ts : List Tk) {f a o : Nat} (h : ts.length - a + 1 ≤ f) : Sm (varM ts f a o) := by
  refine Sm.rb (Sm.exp ..) fun _ a1 o1 h1 => Sm.rb (Sm.nm ..) fun _ a2 o2 h2 => Sm.rb (Sm.exp ..) fun _ a3 o3 h3 => Sm.rb ((tyM_some ts f).1 _ _ ?_) fun _ _ _ _ => Sm.rb (Sm.exp ..) fun _ _ _ _ => Sm.ret ..
  have e1 := expM_ok h1
  have e2 := nmM_ok h2
  have e3 := expM_ok h3
  omega
theorem accM_ok {ts : List Tk} {s : Bs} {a o : Nat} {w : Bool} {b p : Nat} (h : accM ts s a o = some (.ok w b p)) : p = o ∧ a ≤ b ∧ w = sees ts a s ∧ b = (if sees ts a s = true then a + 1 else a) := by
  rcases ite_or h with ⟨hk, h⟩ | ⟨hk, h⟩
  · cases h; rw [hk, if_pos rfl]; exact ⟨rfl, by omega, rfl, rfl⟩
  · cases h; rw [if_neg hk]; exact ⟨rfl, by omega, by simpa using hk, rfl⟩
theorem Sm.acc (ts : List Tk) (s : Bs) (a o : Nat) : Sm (accM ts s a o) := Sm.ite (fun _ => Sm.ret ..) fun _ => Sm.ret ..
theorem datM_ok {ts : List Tk} {a o : Nat} {v : Sec} {b p : Nat} (h : datM ts a o = some (.ok v b p)) : p = o ∧ a < b ∧ b ≤ ts.length := by
  obtain ⟨_, a1, o1, h1, h⟩ := rb_ok h
  obtain ⟨_, a2, o2, h2, h⟩ := rb_ok h
  obtain ⟨_, a3, o3, h3, h⟩ := rb_ok h
  obtain ⟨_, a4, o4, h4, h⟩ := rb_ok h
  obtain ⟨_, a5, o5, h5, h⟩ := rb_ok h
  obtain ⟨_, a6, o6, h6, h⟩ := rb_ok h
  obtain ⟨_, a7, o7, h7, h⟩ := rb_ok h
  obtain ⟨_, a8, o8, h8, h⟩ := rb_ok h
  have e1 := expM_ok h1
  have e2 := nmM_ok h2
  have e3 := takM_ok h3
  have e4 := accM_ok h4
  have e5 := accM_ok h5
  have e6 := expM_ok h6
  have e7 := takM_ok h7
  have e8 := expM_ok' h8
  cases h; omega
theorem Sm.dat (ts : List Tk) (a o : Nat) : Sm (datM ts a o) :=
  Sm.rb (Sm.exp ..) fun _ _ _ _ => Sm.rb (Sm.nm ..) fun _ _ _ _ => Sm.rb (Sm.tak ..) fun _ _ _ _ => Sm.rb (Sm.acc ..) fun _ _ _ _ => Sm.rb (Sm.acc ..) fun _ _ _ _ => Sm.rb (Sm.exp ..) fun _ _ _ _ => Sm.rb (Sm.tak ..) fun _ _ _ _ => Sm.rb (Sm.exp ..) fun _ _ _ _ => Sm.ret ..
theorem vasM_ok {ts : List Tk} : ∀ (f : Nat) {l : List Va} {a o : Nat} {v : List Va} {b p : Nat}, vasM ts f l a o = some (.ok v b p) → p = o ∧ a ≤ b := by
  intro f
  induction f with
  | zero => intro l a o v b p h; cases h
  | succ f ih =>
    intro l a o v b p h; rw [vasM] at h; rcases ite_or h with ⟨hk, h⟩ | ⟨hk, h⟩
    · obtain ⟨_, a1, o1, h1, h⟩ := rb_ok h
      have e1 := varM_ok h1; have e2 := ih h; omega
    · cases h; omega
theorem vasM_some (ts : List Tk) : ∀ (f : Nat) (l : List Va) (a o : Nat), ts.length - a + 2 ≤ f → Sm (vasM ts f l a o) := by
  intro f
  induction f with
  | zero => intro l a o h; omega
  | succ f ih =>
    intro l a o h; rw [vasM]; refine Sm.ite (fun hk => Sm.rb (varM_some ts (by omega)) fun _ a1 o1 h1 => ih _ _ _ ?_) fun _ => Sm.ret ..
    have e1 := varM_ok h1; have := sees_lt hk; omega
theorem funM_ok {ts : List Tk} {f a o : Nat} {v : Fun} {b p : Nat} (h : funM ts f a o = some (.ok v b p)) : p = o ∧ a < b ∧ b ≤ ts.length := by
  obtain ⟨_, a1, o1, h1, h⟩ := rb_ok h
  obtain ⟨_, a2, o2, h2, h⟩ := rb_ok h
  obtain ⟨_, a3, o3, h3, h⟩ := rb_ok h
  obtain ⟨_, a4, o4, h4, h⟩ := rb_ok h
  obtain ⟨_, a5, o5, h5, h⟩ := rb_ok h
  obtain ⟨_, a6, o6, h6, h⟩ := rb_ok h
  have e1 := expM_ok h1
  have e2 := nmM_ok h2
  have e3 := begM_ok h3
  have e4 := vasM_ok _ h4
  have e5 := (stM_open ts f).2.1 _ _ _ _ _ _ h5
  have e6 := endM_ok' h6
  cases h; omega
theorem funM_some (ts : List Tk) {f a o : Nat} (h : 3 * (ts.length - a) + 3 ≤ f) : Sm (funM ts f a o) := by
  refine Sm.rb (Sm.exp ..) fun _ a1 o1 h1 => Sm.rb (Sm.nm ..) fun _ a2 o2 h2 => Sm.rb (Sm.beg ..) fun _ a3 o3 h3 => ?_
  have e1 := expM_ok h1
  have e2 := nmM_ok h2
  have e3 := begM_ok h3
  refine Sm.rb (vasM_some ts _ _ _ _ (by omega)) fun _ a4 o4 h4 => ?_
  have e4 := vasM_ok _ h4
  exact Sm.rb ((stM_some ts f).2.1 _ _ _ (by omega)) fun _ _ _ _ => Sm.rb (Sm.en ..) fun _ _ _ _ => Sm.ret ..
theorem uniM_some (ts : List Tk) : ∀ (f : Nat) (u : Un) (a o : Nat), 3 * (ts.length - a) + 4 ≤ f → Sm (uniM ts f u a o) := by
  intro f
  induction f with
  | zero => intro u a o h; omega
  | succ f ih =>
    intro u a o h; rw [uniM]; refine Sm.ite (fun _ => Sm.ret ..) fun hl => Sm.ite (fun hk => ?_) fun _ => Sm.ite (fun hk => ?_) fun _ => Sm.ite (fun hk => ?_) fun _ => Sm.some _
    · refine Sm.rb (varM_some ts (by omega)) fun _ a1 o1 h1 => ih _ _ _ ?_
      have e1 := varM_ok h1; omega
    · refine Sm.rb (Sm.dat ..) fun _ a1 o1 h1 => ih _ _ _ ?_
      have e1 := datM_ok h1; omega
    · refine Sm.rb (funM_some ts (by omega)) fun _ a1 o1 h1 => ih _ _ _ ?_
      have e1 := funM_ok h1; omega
theorem Sm.all {α : Type} {ts : List Tk} {r : Option (Rs α)} (h : Sm r) : Sm (allM ts r) := Sm.rb h fun _ _ _ _ => Sm.ite (fun _ => Sm.some _) fun _ => Sm.ret ..
section
variable {ts us : List Tk} (h : ts.map core = us.map core)
include h
theorem cz_len : ts.length = us.length := by simpa using congrArg List.length h
theorem cz_pk (a : Nat) : core (pk ts a) = core (pk us a) := by
  have h1 := congrArg (fun l => l[a]?) h
  simp only [List.getElem?_map] at h1
  unfold pk List.getD
  cases ha : ts[a]? with
  | none =>
    rw [ha] at h1; cases hb : us[a]? with
    | none => rfl
    | some y => rw [hb] at h1; cases h1
  | some x =>
    rw [ha] at h1; cases hb : us[a]? with
    | none => rw [hb] at h1; cases h1
    | some y => rw [hb] at h1; simpa using h1
theorem cz_kind (a : Nat) : (pk ts a).kind = (pk us a).kind := congrArg (·.1) (cz_pk h a)
theorem cz_text (a : Nat) : (pk ts a).text = (pk us a).text := congrArg (·.2.1) (cz_pk h a)
theorem cz_n (a : Nat) : (pk ts a).n = (pk us a).n := congrArg (·.2.2) (cz_pk h a)
theorem cz_sees (a : Nat) (s : Bs) : sees ts a s = sees us a s := by unfold sees; rw [cz_kind h, cz_text h]
theorem cz_st (a : Nat) : stR (pk ts a) = stR (pk us a) := by unfold stR; rw [cz_kind h, cz_text h]
theorem cz_beg (s : Bs) (a o : Nat) : begM ts s a o = begM us s a o := by unfold begM; rw [cz_sees h]
theorem cz_exp (s : Bs) (a o : Nat) : expM ts s a o = expM us s a o := by unfold expM; rw [cz_sees h]
theorem cz_end (s : Bs) (a o : Nat) : endM ts s a o = endM us s a o := by unfold endM; rw [cz_sees h]
theorem cz_acc (s : Bs) (a o : Nat) : accM ts s a o = accM us s a o := by unfold accM; rw [cz_sees h]
theorem cz_tak {β : Type} (k : Int) (a o : Nat) {g : Tk → Nat → Nat → Option (Rs β)} (hg : ∀ t t' a o, core t = core t' → g t a o = g t' a o) : rb (takM ts k a o) g = rb (takM us k a o) g := by
  unfold takM
  rw [cz_kind h]
  by_cases hk : (pk us a).kind ≠ k
  · rw [if_pos hk, if_pos hk]
    try rfl
  · rw [if_neg hk, if_neg hk]; exact hg _ _ _ _ (cz_pk h a)
theorem cz_nm (a o : Nat) : nmM ts a o = nmM us a o := cz_tak h _ _ _ fun t t' a o e => by show ret _ _ _ = ret _ _ _; rw [show t.text = t'.text from congrArg (·.2.1) e]
theorem cz_ex : ∀ f m a o, exM ts f m a o = exM us f m a o := by
  intro f
  induction f with
  | zero => intro m a o; cases m <;> rfl
  | succ f ih =>
    have hin : ∀ q a o, inn ts (exM ts f (.ex 1)) q a o = inn us (exM us f (.ex 1)) q a o := fun q a o => by
      unfold inn; simp only [cz_beg h, cz_end h, ih]
    intro m a o; cases m with
    | op => rw [exM, exM, cz_kind h, cz_text h, cz_n h]; simp only [hin, cz_beg h, ih]
    | ex l => rw [exM, exM]; simp only [ih]
    | lo l x => rw [exM, exM, cz_st h]; simp only [ih]
theorem cz_ty : ∀ f m a o, tyM ts f m a o = tyM us f m a o := by
  intro f
  induction f with
  | zero => intro m a o; cases m <;> rfl
  | succ f ih =>
    intro m a o; cases m with
    | ty =>
      rw [tyM, tyM, cz_kind h, cz_text h]; simp only [cz_sees h, cz_beg h, ih]
      have e : ∀ a o, (rb (takM ts 3 a o) fun n a o => rb (expM ts [93] a o) fun _ a o => rb (tyM us f .ty a o) fun x a o => ret (Ty.mk 0 4 0 n.n [x] []) a (o - 1)) = (rb (takM us 3 a o) fun n a o => rb (expM us [93] a o) fun _ a o => rb (tyM us f .ty a o) fun x a o => ret (Ty.mk 0 4 0 n.n [x] []) a (o - 1)) := fun a o => by
        simp only [cz_exp h]; exact cz_tak h _ _ _ fun t t' a o e => by simp only [show t.n = t'.n from congrArg (·.2.2) e]
      simp only [e]
    | fl l =>
      rw [tyM, tyM]; simp only [cz_sees h, cz_end h, cz_exp h, ih]
      have e : ∀ a o, (rb (takM ts 3 a o) fun n a o => rb (expM us [58] a o) fun _ a o => rb (tyM us f .ty a o) fun x a o => tyM us f (.fl (l ++ [x.at_ n.n])) a o) = (rb (takM us 3 a o) fun n a o => rb (expM us [58] a o) fun _ a o => rb (tyM us f .ty a o) fun x a o => tyM us f (.fl (l ++ [x.at_ n.n])) a o) := fun a o =>
        cz_tak h _ _ _ fun t t' a o e => by simp only [show t.n = t'.n from congrArg (·.2.2) e]
      simp only [e]
theorem cz_sto (f : Nat) (w : Int) (a o : Nat) : storM ts f w a o = storM us f w a o := by unfold storM; simp only [cz_beg h, cz_ex h, cz_exp h, cz_end h]
theorem cz_sim (k : Int) (a o : Nat) : simpM ts k a o = simpM us k a o := by unfold simpM; simp only [cz_exp h]
theorem cz_nam (f : Nat) (a o : Nat) : namM ts f a o = namM us f a o := by unfold namM; simp only [cz_nm h, cz_sees h, cz_exp h, cz_ex h]
theorem cz_stm : ∀ f m a o, stM ts f m a o = stM us f m a o := by
  intro f
  induction f with
  | zero => intro m a o; cases m <;> rfl
  | succ f ih =>
    intro m a o; cases m <;> rw [stM, stM] <;> simp only [cz_kind h, cz_n h, cz_sees h, cz_nm h, cz_nam h, cz_exp h, cz_ex h, cz_sto h, cz_sim h, cz_beg h, cz_end h, ih]
theorem cz_var (f a o : Nat) : varM ts f a o = varM us f a o := by unfold varM; simp only [cz_nm h, cz_exp h, cz_ty h]
theorem cz_dat (a o : Nat) : datM ts a o = datM us a o := by
  unfold datM
  simp only [cz_nm h, cz_exp h, cz_acc h]
  have e1 : ∀ a o n (d : Tk) w x, (rb (takM ts 4 a o) fun b a o => rb (expM us [59] a o) fun _ a o => ret (Sec.mk n d.n b.text w x) a o) = (rb (takM us 4 a o) fun b a o => rb (expM us [59] a o) fun _ a o => ret (Sec.mk n d.n b.text w x) a o) := fun a o n d w x =>
    cz_tak h _ _ _ fun t t' a o e => by simp only [show t.text = t'.text from congrArg (·.2.1) e]
  simp only [e1]
  have e2 : ∀ a o n, (rb (takM ts 3 a o) fun d a o => rb (accM us [119, 114, 105, 116, 101] a o) fun w a o => rb (accM us [101, 120, 101, 99] a o) fun x a o => rb (expM us [61] a o) fun _ a o => rb (takM us 4 a o) fun b a o => rb (expM us [59] a o) fun _ a o => ret (Sec.mk n d.n b.text w x) a o) =
      (rb (takM us 3 a o) fun d a o => rb (accM us [119, 114, 105, 116, 101] a o) fun w a o => rb (accM us [101, 120, 101, 99] a o) fun x a o => rb (expM us [61] a o) fun _ a o => rb (takM us 4 a o) fun b a o => rb (expM us [59] a o) fun _ a o => ret (Sec.mk n d.n b.text w x) a o) := fun a o n =>
    cz_tak h _ _ _ fun t t' a o e => by simp only [show t.n = t'.n from congrArg (·.2.2) e]
  simp only [e2]
theorem cz_vas : ∀ f l a o, vasM ts f l a o = vasM us f l a o := by
  intro f
  induction f with
  | zero => intro l a o; rfl
  | succ f ih => intro l a o; rw [vasM, vasM]; simp only [cz_sees h, cz_var h, ih]
theorem cz_fun (f a o : Nat) : funM ts f a o = funM us f a o := by unfold funM; simp only [cz_exp h, cz_nm h, cz_beg h, cz_vas h, cz_stm h, cz_end h]
theorem cz_uni : ∀ f u a o, uniM ts f u a o = uniM us f u a o := by
  intro f
  induction f with
  | zero => intro u a o; rfl
  | succ f ih => intro u a o; rw [uniM, uniM]; simp only [cz_len h, cz_sees h, cz_var h, cz_dat h, cz_fun h, ih]
theorem cz_all {α : Type} (r : Option (Rs α)) : allM ts r = allM us r := by unfold allM; rw [cz_len h]
end
end Go.Proofs.YtmbmmckagcdapaaGreatDoor
