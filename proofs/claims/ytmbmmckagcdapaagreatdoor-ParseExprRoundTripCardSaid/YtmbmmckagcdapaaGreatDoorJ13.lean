import Derived.Test.YtmbmmckagcdapaaGreatDoorJ10
import Derived.Test.YtmbmmckagcdapaaGreatDoorJ02
set_option linter.unusedSimpArgs false
set_option linter.unusedVariables false
set_option linter.unnecessarySimpa false
namespace Go.Proofs.YtmbmmckagcdapaaGreatDoor
def strA (b : Bs) : ByteArray := ⟨b.toArray⟩
def nd0 : Nd := .mk 0 0 ByteArray.empty [] [] [] []
def nmM (ts : List Tk) (a o : Nat) : Option (Rs ByteArray) := rb (takM ts 1 a o) fun t a o => ret (strA t.text) a o
inductive Md6 where
  | st
  | li (l : List Nd)
  | br
  | ca (l : List (List Nd))
def oneS (s : Nd) : List (List Nd) := [[s]]
def theS (x : List (List Nd)) : Nd := (x.headD []).headD nd0
def storM (ts : List Tk) (f : Nat) (w : Int) (a o : Nat) : Option (Rs (List (List Nd))) :=
  rb (begM ts [40] a o) fun _ a o => rb (exM ts f (.ex 1) a o) fun x a o => rb (expM ts [44] a o) fun _ a o => rb (exM ts f (.ex 1) a o) fun y a o => rb (endM ts [41] a o) fun _ a o => rb (expM ts [59] a o) fun _ a o =>
    ret (oneS (.mk 2 w ByteArray.empty [x, y] [] [] [])) a o
def simpM (ts : List Tk) (k : Int) (a o : Nat) : Option (Rs (List (List Nd))) := rb (expM ts [59] a o) fun _ a o => ret (oneS (.mk k 0 ByteArray.empty [] [] [] [])) a o
def namM (ts : List Tk) (f : Nat) (a o : Nat) : Option (Rs (List (List Nd))) :=
  rb (nmM ts a o) fun n a o => if sees ts a [58] = true then ret (oneS (.mk 13 0 n [] [] [] [])) (a + 1) o
    else rb (expM ts [61] a o) fun _ a o => if sees ts a [105, 110] = true then rb (expM ts [59] (a + 1) o) fun _ a o => ret (oneS (.mk 3 0 n [] [] [] [])) a o
      else rb (exM ts f (.ex 1) a o) fun x a o => rb (expM ts [59] a o) fun _ a o => ret (oneS (.mk 1 0 n [x] [] [] [])) a o
def stM (ts : List Tk) : Nat → Md6 → Nat → Nat → Option (Rs (List (List Nd)))
  | 0, _, _, _ => none
  | f + 1, .st, a, o =>
    if (pk ts a).kind = 1 then namM ts f a o
    else if sees ts a [103, 111, 116, 111] = true then rb (nmM ts (a + 1) o) fun n a o => rb (expM ts [59] a o) fun _ a o => ret (oneS (.mk 12 0 n [] [] [] [])) a o
    else if sees ts a [99, 97, 108, 108] = true then rb (nmM ts (a + 1) o) fun n a o => rb (expM ts [59] a o) fun _ a o => ret (oneS (.mk 5 0 n [] [] [] [])) a o
    else if sees ts a [115, 116, 111, 114, 101, 49] = true then storM ts f 1 (a + 1) o
    else if sees ts a [115, 116, 111, 114, 101, 50] = true then storM ts f 2 (a + 1) o
    else if sees ts a [115, 116, 111, 114, 101, 52] = true then storM ts f 4 (a + 1) o
    else if sees ts a [111, 117, 116] = true then rb (exM ts f (.ex 1) (a + 1) o) fun x a o => rb (expM ts [59] a o) fun _ a o => ret (oneS (.mk 4 0 ByteArray.empty [x] [] [] [])) a o
    else if sees ts a [105, 102] = true then rb (exM ts f (.ex 1) (a + 1) o) fun x a o => rb (stM ts f .br a o) fun l a o =>
      if sees ts a [101, 108, 115, 101] = true then rb (stM ts f .br (a + 1) o) fun e a o => ret (oneS (.mk 6 0 ByteArray.empty [x] (l.headD []) (e.headD []) [])) a o
      else ret (oneS (.mk 6 0 ByteArray.empty [x] (l.headD []) [] [])) a o
    else if sees ts a [119, 104, 105, 108, 101] = true then rb (exM ts f (.ex 1) (a + 1) o) fun x a o => rb (stM ts f .br a o) fun l a o => ret (oneS (.mk 7 0 ByteArray.empty [x] (l.headD []) [] [])) a o
    else if sees ts a [108, 111, 111, 112] = true then rb (stM ts f .br (a + 1) o) fun l a o => ret (oneS (.mk 8 0 ByteArray.empty [] (l.headD []) [] [])) a o
    else if sees ts a [115, 119, 105, 116, 99, 104] = true then rb (exM ts f (.ex 1) (a + 1) o) fun x a o => rb (begM ts [123] a o) fun _ a o => rb (stM ts f (.ca []) a o) fun c a o => ret (oneS (.mk 9 0 ByteArray.empty [x] [] [] c)) a o
    else if sees ts a [98, 114, 101, 97, 107] = true then simpM ts 10 (a + 1) o
    else if sees ts a [99, 111, 110, 116, 105, 110, 117, 101] = true then simpM ts 11 (a + 1) o
    else if sees ts a [114, 101, 116, 117, 114, 110] = true then simpM ts 14 (a + 1) o
    else if sees ts a [104, 97, 108, 116] = true then simpM ts 15 (a + 1) o
    else some (.bad a 3)
  | f + 1, .li l, a, o => if sees ts a [125] = true then ret [l] a o else rb (stM ts f .st a o) fun s a o => stM ts f (.li (l ++ [theS s])) a o
  | f + 1, .br, a, o => rb (begM ts [123] a o) fun _ a o => rb (stM ts f (.li []) a o) fun l a o => rb (endM ts [125] a o) fun _ a o => ret l a o
  | f + 1, .ca c, a, o =>
    if sees ts a [99, 97, 115, 101] = true then (if (pk ts (a + 1)).kind = 3 ∧ (pk ts (a + 1)).n = c.length then rb (stM ts f .br (a + 2) o) fun l a o => stM ts f (.ca (c ++ [l.headD []])) a o else some (.bad (a + 1) 3))
    else rb (endM ts [125] a o) fun _ a o => ret c a o
def varM (ts : List Tk) (f : Nat) (a o : Nat) : Option (Rs Va) :=
  rb (expM ts [118, 97, 114] a o) fun _ a o => rb (nmM ts a o) fun n a o => rb (expM ts [58] a o) fun _ a o => rb (tyM ts f .ty a o) fun t a o => rb (expM ts [59] a o) fun _ a o => ret ⟨n, t⟩ a o
def accM (ts : List Tk) (s : Bs) (a o : Nat) : Option (Rs Bool) := if sees ts a s = true then ret true (a + 1) o else ret false a o
def datM (ts : List Tk) (a o : Nat) : Option (Rs Sec) :=
  rb (expM ts [100, 97, 116, 97] a o) fun _ a o => rb (nmM ts a o) fun n a o => rb (takM ts 3 a o) fun d a o => rb (accM ts [119, 114, 105, 116, 101] a o) fun w a o => rb (accM ts [101, 120, 101, 99] a o) fun x a o =>
    rb (expM ts [61] a o) fun _ a o => rb (takM ts 4 a o) fun b a o => rb (expM ts [59] a o) fun _ a o => ret ⟨n, d.n, b.text, w, x⟩ a o
def vasM (ts : List Tk) : Nat → List Va → Nat → Nat → Option (Rs (List Va))
  | 0, _, _, _ => none
  | f + 1, l, a, o => if sees ts a [118, 97, 114] = true then rb (varM ts f a o) fun v a o => vasM ts f (l ++ [v]) a o else ret l a o
def funM (ts : List Tk) (f : Nat) (a o : Nat) : Option (Rs Fun) :=
  rb (expM ts [102, 117, 110, 99] a o) fun _ a o => rb (nmM ts a o) fun n a o => rb (begM ts [123] a o) fun _ a o => rb (vasM ts f [] a o) fun v a o => rb (stM ts f (.li []) a o) fun l a o => rb (endM ts [125] a o) fun _ a o =>
    ret ⟨n, v, l.headD []⟩ a o
def uniM (ts : List Tk) : Nat → Un → Nat → Nat → Option (Rs Un)
  | 0, _, _, _ => none
  | f + 1, u, a, o =>
    if ts.length ≤ a then ret u a o
    else if sees ts a [118, 97, 114] = true then rb (varM ts f a o) fun v a o => uniM ts f ⟨u.globals ++ [v], u.data, u.funcs⟩ a o
    else if sees ts a [100, 97, 116, 97] = true then rb (datM ts a o) fun d a o => uniM ts f ⟨u.globals, u.data ++ [d], u.funcs⟩ a o
    else if sees ts a [102, 117, 110, 99] = true then rb (funM ts f a o) fun g a o => uniM ts f ⟨u.globals, u.data, u.funcs ++ [g]⟩ a o
    else some (.bad a 3)
def allM {α : Type} (ts : List Tk) (r : Option (Rs α)) : Option (Rs α) := rb r fun x a o => if a < ts.length then some (.bad a 3) else ret x a o
theorem nmM_ok {ts : List Tk} {a o : Nat} {n : ByteArray} {b p : Nat} (h : nmM ts a o = some (.ok n b p)) : n = strA (pk ts a).text ∧ b = a + 1 ∧ p = o ∧ a < ts.length := by
  obtain ⟨t, a1, o1, h1, h2⟩ := rb_ok h
  obtain ⟨hk, rfl, rfl, rfl⟩ := takM_ok h1
  cases h2
  exact ⟨rfl, rfl, rfl, pk_kind hk (by decide)⟩
theorem expM_ok' {ts : List Tk} {s : Bs} {a o : Nat} {u : Unit} {b p : Nat} (h : expM ts s a o = some (.ok u b p)) : a < ts.length ∧ b = a + 1 ∧ p = o := by
  obtain ⟨h1, h2, h3⟩ := expM_ok h
  exact ⟨sees_lt h1, h2, h3⟩
theorem endM_ok' {ts : List Tk} {s : Bs} {a o : Nat} {u : Unit} {b p : Nat} (h : endM ts s a o = some (.ok u b p)) : a < ts.length ∧ b = a + 1 ∧ p = o - 1 := by
  obtain ⟨h1, h2, h3⟩ := endM_ok h
  exact ⟨sees_lt h1, h2, h3⟩
theorem storM_open {ts : List Tk} {f : Nat} {w : Int} {a o : Nat} {x : List (List Nd)} {b p : Nat} (h : storM ts f w a o = some (.ok x b p)) : p = o ∧ a < b ∧ b ≤ ts.length := by
  obtain ⟨_, a1, o1, h1, h⟩ := rb_ok h
  obtain ⟨_, a2, o2, h2, h⟩ := rb_ok h
  obtain ⟨_, a3, o3, h3, h⟩ := rb_ok h
  obtain ⟨_, a4, o4, h4, h⟩ := rb_ok h
  obtain ⟨_, a5, o5, h5, h⟩ := rb_ok h
  obtain ⟨_, a6, o6, h6, h⟩ := rb_ok h
  have e1 := begM_ok h1
  have e2 := exM_open _ _ _ _ _ _ _ _ h2
  have e3 := expM_ok h3
  have e4 := exM_open _ _ _ _ _ _ _ _ h4
  have e5 := endM_ok h5
  have e6 := expM_ok' h6
  cases h; omega
theorem simpM_open {ts : List Tk} {k : Int} {a o : Nat} {x : List (List Nd)} {b p : Nat} (h : simpM ts k a o = some (.ok x b p)) : p = o ∧ a < b ∧ b ≤ ts.length := by
  obtain ⟨_, a1, o1, h1, h⟩ := rb_ok h
  have e1 := expM_ok' h1
  cases h; omega
theorem namM_open {ts : List Tk} {f : Nat} {a o : Nat} {x : List (List Nd)} {b p : Nat} (h : namM ts f a o = some (.ok x b p)) : p = o ∧ a < b ∧ b ≤ ts.length := by
  obtain ⟨_, a1, o1, h1, h⟩ := rb_ok h
  have e1 := nmM_ok h1
  split at h
  · rename_i hk
    have := sees_lt hk; cases h; omega
  obtain ⟨_, a2, o2, h2, h⟩ := rb_ok h
  have e2 := expM_ok h2
  split at h
  · obtain ⟨_, a3, o3, h3, h⟩ := rb_ok h
    have e3 := expM_ok' h3; cases h; omega
  · obtain ⟨_, a3, o3, h3, h⟩ := rb_ok h
    obtain ⟨_, a4, o4, h4, h⟩ := rb_ok h; have e3 := exM_open _ _ _ _ _ _ _ _ h3; have e4 := expM_ok' h4; cases h; omega
theorem ite_or {α : Type} {c : Prop} [Decidable c] {x y z : α} (h : (if c then x else y) = z) : (c ∧ x = z) ∨ (¬ c ∧ y = z) := by
  by_cases hc : c
  · exact .inl ⟨hc, by rw [if_pos hc] at h; exact h⟩
  · exact .inr ⟨hc, by rw [if_neg hc] at h; exact h⟩
theorem stM_open (ts : List Tk) : ∀ f, (∀ a o x b p, stM ts f .st a o = some (.ok x b p) → p = o ∧ a < b ∧ b ≤ ts.length) ∧ (∀ l a o x b p, stM ts f (.li l) a o = some (.ok x b p) → p = o ∧ a ≤ b ∧ b < ts.length) ∧
    (∀ a o x b p, stM ts f .br a o = some (.ok x b p) → p = o ∧ a < b ∧ b ≤ ts.length) ∧ (∀ l a o x b p, stM ts f (.ca l) a o = some (.ok x b p) → p = o - 1 ∧ a < b ∧ b ≤ ts.length) := by
  intro f
  induction f with
  | zero => exact ⟨(fun _ _ _ _ _ h => by cases h), (fun _ _ _ _ _ _ h => by cases h), (fun _ _ _ _ _ h => by cases h), (fun _ _ _ _ _ _ h => by cases h)⟩
  | succ f ih =>
    obtain ⟨i1, i2, i3, i4⟩ := ih; refine ⟨fun a o x b p h => ?_, fun l a o x b p h => ?_, fun a o x b p h => ?_, fun l a o x b p h => ?_⟩
    · rw [stM] at h
      have kw : ∀ {r : Option (Rs (List (List Nd)))}, (r = some (.ok x b p) → p = o ∧ a + 1 < b ∧ b ≤ ts.length) → r = some (.ok x b p) → p = o ∧ a < b ∧ b ≤ ts.length := fun g h => by have := g h; omega
      rcases ite_or h with ⟨_, h⟩ | ⟨_, h⟩
      · exact namM_open h
      rcases ite_or h with ⟨_, h⟩ | ⟨_, h⟩
      · obtain ⟨_, a1, o1, h1, h⟩ := rb_ok h
        obtain ⟨_, a2, o2, h2, h⟩ := rb_ok h; have e1 := nmM_ok h1; have e2 := expM_ok' h2; cases h; omega
      rcases ite_or h with ⟨_, h⟩ | ⟨_, h⟩
      · obtain ⟨_, a1, o1, h1, h⟩ := rb_ok h
        obtain ⟨_, a2, o2, h2, h⟩ := rb_ok h; have e1 := nmM_ok h1; have e2 := expM_ok' h2; cases h; omega
      rcases ite_or h with ⟨_, h⟩ | ⟨_, h⟩
      · exact kw storM_open h
      rcases ite_or h with ⟨_, h⟩ | ⟨_, h⟩
      · exact kw storM_open h
      rcases ite_or h with ⟨_, h⟩ | ⟨_, h⟩
      · exact kw storM_open h
      rcases ite_or h with ⟨_, h⟩ | ⟨_, h⟩
      · obtain ⟨_, a1, o1, h1, h⟩ := rb_ok h
        obtain ⟨_, a2, o2, h2, h⟩ := rb_ok h; have e1 := exM_open _ _ _ _ _ _ _ _ h1; have e2 := expM_ok' h2; cases h; omega
      rcases ite_or h with ⟨_, h⟩ | ⟨_, h⟩
      · obtain ⟨_, a1, o1, h1, h⟩ := rb_ok h
        obtain ⟨_, a2, o2, h2, h⟩ := rb_ok h; have e1 := exM_open _ _ _ _ _ _ _ _ h1; have e2 := i3 _ _ _ _ _ h2; rcases ite_or h with ⟨_, h⟩ | ⟨_, h⟩
        · obtain ⟨_, a3, o3, h3, h⟩ := rb_ok h
          have e3 := i3 _ _ _ _ _ h3; cases h; omega
        · cases h; omega
      rcases ite_or h with ⟨_, h⟩ | ⟨_, h⟩
      · obtain ⟨_, a1, o1, h1, h⟩ := rb_ok h
        obtain ⟨_, a2, o2, h2, h⟩ := rb_ok h; have e1 := exM_open _ _ _ _ _ _ _ _ h1; have e2 := i3 _ _ _ _ _ h2; cases h; omega
      rcases ite_or h with ⟨_, h⟩ | ⟨_, h⟩
      · obtain ⟨_, a1, o1, h1, h⟩ := rb_ok h
        have e1 := i3 _ _ _ _ _ h1; cases h; omega
      rcases ite_or h with ⟨_, h⟩ | ⟨_, h⟩
      · obtain ⟨_, a1, o1, h1, h⟩ := rb_ok h
        obtain ⟨_, a2, o2, h2, h⟩ := rb_ok h; obtain ⟨_, a3, o3, h3, h⟩ := rb_ok h; have e1 := exM_open _ _ _ _ _ _ _ _ h1; have e2 := begM_ok h2; have e3 := i4 _ _ _ _ _ _ h3; cases h; omega
      rcases ite_or h with ⟨_, h⟩ | ⟨_, h⟩
      · exact kw simpM_open h
      rcases ite_or h with ⟨_, h⟩ | ⟨_, h⟩
      · exact kw simpM_open h
      rcases ite_or h with ⟨_, h⟩ | ⟨_, h⟩
      · exact kw simpM_open h
      rcases ite_or h with ⟨_, h⟩ | ⟨_, h⟩
      · exact kw simpM_open h
      · cases h
    · rw [stM] at h
      rcases ite_or h with ⟨hk, h⟩ | ⟨_, h⟩
      · have := sees_lt hk
        cases h; omega
      · obtain ⟨_, a1, o1, h1, h⟩ := rb_ok h
        have e1 := i1 _ _ _ _ _ h1; have e2 := i2 _ _ _ _ _ _ h; omega
    · rw [stM] at h
      obtain ⟨_, a1, o1, h1, h⟩ := rb_ok h; obtain ⟨_, a2, o2, h2, h⟩ := rb_ok h; obtain ⟨_, a3, o3, h3, h⟩ := rb_ok h; have e1 := begM_ok h1; have e2 := i2 _ _ _ _ _ _ h2; have e3 := endM_ok' h3; cases h; omega
    · rw [stM] at h
      rcases ite_or h with ⟨_, h⟩ | ⟨_, h⟩
      · rcases ite_or h with ⟨_, h⟩ | ⟨_, h⟩
        · obtain ⟨_, a1, o1, h1, h⟩ := rb_ok h
          have e1 := i3 _ _ _ _ _ h1; have e2 := i4 _ _ _ _ _ _ h; omega
        · cases h
      · obtain ⟨_, a1, o1, h1, h⟩ := rb_ok h
        have e1 := endM_ok' h1; cases h; omega
end Go.Proofs.YtmbmmckagcdapaaGreatDoor
namespace Go.Proofs.YtmbmmckagcdapaaGreatDoor
def Sm {α : Type} (r : Option (Rs α)) : Prop := ∃ z, r = some z
theorem Sm.rb {α β : Type} {r : Option (Rs α)} {k : α → Nat → Nat → Option (Rs β)} (h : Sm r) (hk : ∀ x a o, r = some (.ok x a o) → Sm (k x a o)) : Sm (rb r k) := by
  obtain ⟨z, rfl⟩ := h
  cases z with
  | ok x a o => exact hk x a o rfl
  | bad b e => exact ⟨_, rfl⟩
theorem Sm.ite {α : Type} {c : Prop} [Decidable c] {x y : Option (Rs α)} (hx : c → Sm x) (hy : ¬ c → Sm y) : Sm (if c then x else y) := by
  by_cases h : c
  · rw [if_pos h]; exact hx h
  · rw [if_neg h]; exact hy h
theorem Sm.some {α : Type} (z : Rs α) : Sm (some z) := ⟨z, rfl⟩
theorem Sm.ret {α : Type} (x : α) (a o : Nat) : Sm (ret x a o) := ⟨_, rfl⟩
theorem Sm.beg (ts : List Tk) (s : Bs) (a o : Nat) : Sm (begM ts s a o) := ⟨_, rfl⟩
theorem Sm.exp (ts : List Tk) (s : Bs) (a o : Nat) : Sm (expM ts s a o) := ⟨_, rfl⟩
theorem Sm.en (ts : List Tk) (s : Bs) (a o : Nat) : Sm (endM ts s a o) := ⟨_, rfl⟩
theorem Sm.tak (ts : List Tk) (k : Int) (a o : Nat) : Sm (takM ts k a o) := ⟨_, rfl⟩
theorem Sm.nm (ts : List Tk) (a o : Nat) : Sm (nmM ts a o) := Sm.rb (Sm.tak ..) fun _ _ _ _ => Sm.ret ..
theorem stR_lt {ts : List Tk} {a : Nat} (h : ¬ (stR (pk ts a)).2 = 0) : a < ts.length := by
  refine pk_kind (k := 5) ?_ (by decide)
  unfold stR at h
  split at h
  · assumption
  · exact absurd rfl h
theorem exM_op_lt {ts : List Tk} {f a o : Nat} {x : Ex} {b p : Nat} (h : exM ts f .op a o = some (.ok x b p)) : a < b ∧ a < ts.length := by
  cases f with
  | zero => cases h
  | succ f =>
  have inn_lt : ∀ (q : Ex → Ex) a o, inn ts (exM ts f (.ex 1)) q a o = some (.ok x b p) → a < b := by
    intro q a o h; obtain ⟨_, a1, o1, h1, h⟩ := rb_ok h; obtain ⟨y, a2, o2, h2, h⟩ := rb_ok h; obtain ⟨_, a3, o3, h3, h⟩ := rb_ok h; cases h
    have e1 := begM_ok h1; have e2 := exM_open _ _ _ _ _ _ _ _ h2; have e3 := endM_ok h3; omega
  rw [exM] at h
  rcases ite_or h with ⟨hk, h⟩ | ⟨_, h⟩
  · have := pk_kind hk (by decide)
    cases h; omega
  rcases ite_or h with ⟨hk, h⟩ | ⟨_, h⟩
  · have := pk_kind hk (by decide)
    cases h; omega
  rcases ite_or h with ⟨hk, h⟩ | ⟨_, h⟩
  · have := pk_kind hk (by decide)
    split at h
    · have := inn_lt _ _ _ h; omega
    · cases h
  rcases ite_or h with ⟨hk, h⟩ | ⟨_, h⟩
  · have := pk_kind hk (by decide)
    rcases ite_or h with ⟨_, h⟩ | ⟨_, h⟩
    · have := inn_lt _ _ _ h; omega
    rcases ite_or h with ⟨_, h⟩ | ⟨_, h⟩
    · obtain ⟨_, a1, o1, h1, h⟩ := rb_ok h
      obtain ⟨y, a2, o2, h2, h⟩ := rb_ok h; cases h
      have e1 := begM_ok h1; have e2 := exM_open _ _ _ _ _ _ _ _ h2; omega
    · cases h
  · cases h
theorem exM_lt {ts : List Tk} {f l a o : Nat} {x : Ex} {b p : Nat} (h : exM ts f (.ex l) a o = some (.ok x b p)) : a < b ∧ a < ts.length := by
  cases f with
  | zero => cases h
  | succ f =>
  rw [exM] at h
  obtain ⟨y, a1, o1, h1, h⟩ := rb_ok h
  have e1 := exM_op_lt h1
  have e2 := exM_open _ _ _ _ _ _ _ _ h
  omega
theorem exM_some (ts : List Tk) : ∀ f, (∀ a o, 3 * (ts.length - a) + 1 ≤ f → Sm (exM ts f .op a o)) ∧ (∀ l a o, 3 * (ts.length - a) + 2 ≤ f → Sm (exM ts f (.ex l) a o)) ∧ (∀ l x a o, 3 * (ts.length - a) + 1 ≤ f → Sm (exM ts f (.lo l x) a o)) := by
  intro f
  induction f with
  | zero => exact ⟨(fun a o h => by omega), (fun l a o h => by omega), (fun l x a o h => by omega)⟩
  | succ f ih =>
    obtain ⟨i1, i2, i3⟩ := ih
    have hin : ∀ q a o, a < ts.length → 3 * (ts.length - a) ≤ f → Sm (inn ts (exM ts f (.ex 1)) q a o) := fun q a o ha h => by
      refine Sm.rb (Sm.beg ..) fun _ a1 o1 h1 => Sm.rb ?_ fun _ _ _ _ => Sm.rb (Sm.en ..) fun _ _ _ _ => Sm.ret ..
      have := begM_ok h1; exact i2 _ _ _ (by omega)
    refine ⟨fun a o h => ?_, fun l a o h => ?_, fun l x a o h => ?_⟩
    · rw [exM]
      refine Sm.ite (fun _ => Sm.ret ..) fun _ => Sm.ite (fun _ => Sm.ret ..) fun _ => Sm.ite (fun hk => ?_) fun _ => Sm.ite (fun hk => ?_) fun _ => Sm.some _
      · have hl := pk_kind hk (by decide)
        cases accW (pk ts a).text with
        | none => exact Sm.some _
        | some p =>
          by_cases hl2 : a + 1 < ts.length
          · exact hin _ _ _ hl2 (by omega)
          · refine Sm.rb (Sm.beg ..) fun _ a1 o1 h1 => ?_
            have := sees_lt (begM_ok h1).1; omega
      · have hl := pk_kind hk (by decide)
        refine Sm.ite (fun _ => hin _ _ _ hl (by omega)) fun _ => Sm.ite (fun _ => ?_) fun _ => Sm.some _
        refine Sm.rb (Sm.beg ..) fun _ a1 o1 h1 => Sm.rb ?_ fun _ _ _ _ => Sm.ret ..
        have := begM_ok h1; exact i1 _ _ (by omega)
    · rw [exM]
      refine Sm.rb (i1 _ _ (by omega)) fun x b p h1 => i3 _ _ _ _ ?_
      have := exM_op_lt h1; omega
    · rw [exM]
      refine Sm.ite (fun _ => Sm.ret ..) fun hk => ?_
      have hl := stR_lt (ts := ts) (a := a) (fun e => hk (.inl e))
      refine Sm.rb (i2 _ _ _ (by omega)) fun y b p h1 => i3 _ _ _ _ ?_
      have := exM_lt h1; omega
theorem tyM_some (ts : List Tk) : ∀ f, (∀ a o, ts.length - a + 1 ≤ f → Sm (tyM ts f .ty a o)) ∧ (∀ l a o, ts.length - a + 1 ≤ f → Sm (tyM ts f (.fl l) a o)) := by
  intro f
  induction f with
  | zero => exact ⟨(fun a o h => by omega), (fun l a o h => by omega)⟩
  | succ f ih =>
    obtain ⟨i1, i2⟩ := ih; refine ⟨fun a o h => ?_, fun l a o h => ?_⟩
    · rw [tyM]
      refine Sm.ite (fun _ => ?_) fun _ => Sm.ite (fun _ => Sm.ret ..) fun _ => Sm.ite (fun hk => ?_) fun _ => Sm.ite (fun hk => ?_) fun _ => Sm.ite (fun hk => ?_) fun _ => Sm.some _
      · cases intR (pk ts a).text with
        | none => exact Sm.some _
        | some p => exact Sm.ret ..
      · have hl := sees_lt hk
        refine Sm.rb (Sm.beg ..) fun _ a1 o1 h1 => Sm.rb (i1 _ _ ?_) fun _ _ _ _ => Sm.ret ..
        have := begM_ok h1; omega
      · have hl := sees_lt hk
        refine Sm.rb (Sm.beg ..) fun _ a1 o1 h1 => Sm.rb (Sm.tak ..) fun _ a2 o2 h2 => Sm.rb (Sm.exp ..) fun _ a3 o3 h3 => Sm.rb (i1 _ _ ?_) fun _ _ _ _ => Sm.ret ..
        have := begM_ok h1; have := takM_ok h2; have := expM_ok h3; omega
      · have hl := sees_lt hk
        refine Sm.rb (Sm.beg ..) fun _ a1 o1 h1 => i2 _ _ _ ?_
        have := begM_ok h1; omega
    · rw [tyM]
      refine Sm.ite (fun _ => Sm.rb (Sm.en ..) fun _ _ _ _ => Sm.ret ..) fun _ => Sm.rb (Sm.ite (fun _ => Sm.exp ..) fun _ => Sm.ret ..) fun _ a1 o1 h1 => Sm.rb (Sm.tak ..) fun _ a2 o2 h2 => Sm.rb (Sm.exp ..) fun _ a3 o3 h3 => ?_
      have e1 : a ≤ a1 := by
        rcases ite_or h1 with ⟨_, h1⟩ | ⟨_, h1⟩
        · have := expM_ok h1; omega
        · cases h1; omega
      have e2 := takM_ok h2; have e3 := expM_ok h3; have e4 := pk_kind e2.1 (by decide)
      refine Sm.rb (i1 _ _ (by omega)) fun _ a5 o5 h5 => i2 _ _ _ ?_
      have := (tyM_open ts f).1 _ _ _ _ _ h5; omega
theorem stM_some (ts : List Tk) : ∀ f, (∀ a o, 3 * (ts.length - a) + 2 ≤ f → Sm (stM ts f .st a o)) ∧ (∀ l a o, 3 * (ts.length - a) + 3 ≤ f → Sm (stM ts f (.li l) a o)) ∧ (∀ a o, 3 * (ts.length - a) + 3 ≤ f → Sm (stM ts f .br a o)) ∧ (∀ c a o, 3 * (ts.length - a) + 3 ≤ f → Sm (stM ts f (.ca c) a o)) := by
  intro f
  induction f with
  | zero => exact ⟨(fun a o h => by omega), (fun l a o h => by omega), (fun a o h => by omega), (fun c a o h => by omega)⟩
  | succ f ih =>
    obtain ⟨i1, i2, i3, i4⟩ := ih; have ex : ∀ l a o, 3 * (ts.length - a) + 2 ≤ f → Sm (exM ts f (.ex l) a o) := fun l a o h => (exM_some ts f).2.1 l a o h
    refine ⟨fun a o h => ?_, fun l a o h => ?_, fun a o h => ?_, fun c a o h => ?_⟩
    · rw [stM]
      have sto : ∀ w, a < ts.length → Sm (storM ts f w (a + 1) o) := fun w ha => by
        refine Sm.rb (Sm.beg ..) fun _ a1 o1 h1 => ?_
        have e1 := begM_ok h1; have := sees_lt e1.1; refine Sm.rb (ex _ _ _ (by omega)) fun _ a2 o2 h2 => Sm.rb (Sm.exp ..) fun _ a3 o3 h3 => ?_
        have e2 := exM_lt h2; have e3 := expM_ok h3; refine Sm.rb (ex _ _ _ (by omega)) fun _ a4 o4 h4 => Sm.rb (Sm.en ..) fun _ a5 o5 h5 => Sm.rb (Sm.exp ..) fun _ a6 o6 h6 => Sm.ret ..
      have sim : ∀ k a o, Sm (simpM ts k a o) := fun k a o => Sm.rb (Sm.exp ..) fun _ _ _ _ => Sm.ret ..
      refine Sm.ite (fun hk => ?_) fun _ => Sm.ite (fun _ => Sm.rb (Sm.nm ..) fun _ _ _ _ => Sm.rb (Sm.exp ..) fun _ _ _ _ => Sm.ret ..) fun _ => Sm.ite (fun _ => Sm.rb (Sm.nm ..) fun _ _ _ _ => Sm.rb (Sm.exp ..) fun _ _ _ _ => Sm.ret ..) fun _ =>
        Sm.ite (fun hk => sto _ (sees_lt hk)) fun _ => Sm.ite (fun hk => sto _ (sees_lt hk)) fun _ => Sm.ite (fun hk => sto _ (sees_lt hk)) fun _ => Sm.ite (fun hk => ?_) fun _ => Sm.ite (fun hk => ?_) fun _ => Sm.ite (fun hk => ?_) fun _ => Sm.ite (fun hk => ?_) fun _ => Sm.ite (fun hk => ?_) fun _ =>
        Sm.ite (fun _ => sim ..) fun _ => Sm.ite (fun _ => sim ..) fun _ => Sm.ite (fun _ => sim ..) fun _ => Sm.ite (fun _ => sim ..) fun _ => Sm.some _
      · have hl := pk_kind hk (by decide)
        refine Sm.rb (Sm.nm ..) fun _ a1 o1 h1 => Sm.ite (fun _ => Sm.ret ..) fun _ => Sm.rb (Sm.exp ..) fun _ a2 o2 h2 => Sm.ite (fun _ => Sm.rb (Sm.exp ..) fun _ _ _ _ => Sm.ret ..) fun _ => ?_
        have e1 := nmM_ok h1; have e2 := expM_ok h2; have := sees_lt e2.1; exact Sm.rb (ex _ _ _ (by omega)) fun _ _ _ _ => Sm.rb (Sm.exp ..) fun _ _ _ _ => Sm.ret ..
      · have hl := sees_lt hk
        exact Sm.rb (ex _ _ _ (by omega)) fun _ _ _ _ => Sm.rb (Sm.exp ..) fun _ _ _ _ => Sm.ret ..
      · have hl := sees_lt hk
        refine Sm.rb (ex _ _ _ (by omega)) fun _ a1 o1 h1 => ?_
        have e1 := exM_lt h1; refine Sm.rb (i3 _ _ (by omega)) fun _ a2 o2 h2 => Sm.ite (fun _ => ?_) fun _ => Sm.ret ..
        have e2 := (stM_open ts f).2.2.1 _ _ _ _ _ h2; exact Sm.rb (i3 _ _ (by omega)) fun _ _ _ _ => Sm.ret ..
      · have hl := sees_lt hk
        refine Sm.rb (ex _ _ _ (by omega)) fun _ a1 o1 h1 => ?_
        have e1 := exM_lt h1; exact Sm.rb (i3 _ _ (by omega)) fun _ a2 o2 h2 => Sm.ret ..
      · have hl := sees_lt hk
        exact Sm.rb (i3 _ _ (by omega)) fun _ a2 o2 h2 => Sm.ret ..
      · have hl := sees_lt hk
        refine Sm.rb (ex _ _ _ (by omega)) fun _ a1 o1 h1 => Sm.rb (Sm.beg ..) fun _ a2 o2 h2 => ?_
        have e1 := exM_lt h1; have e2 := begM_ok h2; exact Sm.rb (i4 _ _ _ (by omega)) fun _ _ _ _ => Sm.ret ..
    · rw [stM]
      refine Sm.ite (fun _ => Sm.ret ..) fun _ => Sm.rb (i1 _ _ (by omega)) fun _ a1 o1 h1 => ?_
      have e1 := (stM_open ts f).1 _ _ _ _ _ h1; exact i2 _ _ _ (by omega)
    · rw [stM]
      refine Sm.rb (Sm.beg ..) fun _ a1 o1 h1 => ?_
      have e1 := begM_ok h1; have := sees_lt e1.1; exact Sm.rb (i2 _ _ _ (by omega)) fun _ _ _ _ => Sm.rb (Sm.en ..) fun _ _ _ _ => Sm.ret ..
    · rw [stM]
      refine Sm.ite (fun hk => Sm.ite (fun hn => ?_) fun _ => Sm.some _) fun _ => Sm.rb (Sm.en ..) fun _ _ _ _ => Sm.ret ..
      have hl := sees_lt hk; refine Sm.rb (i3 _ _ (by omega)) fun _ a1 o1 h1 => ?_
      have e1 := (stM_open ts f).2.2.1 _ _ _ _ _ h1; exact i4 _ _ _ (by omega)
theorem varM_ok {ts : List Tk} {f a o : Nat} {v : Va} {b p : Nat} (h : varM ts f a o = some (.ok v b p)) : p = o ∧ a < b ∧ b ≤ ts.length := by
  obtain ⟨_, a1, o1, h1, h⟩ := rb_ok h
  obtain ⟨_, a2, o2, h2, h⟩ := rb_ok h
  obtain ⟨_, a3, o3, h3, h⟩ := rb_ok h
  obtain ⟨_, a4, o4, h4, h⟩ := rb_ok h
  obtain ⟨_, a5, o5, h5, h⟩ := rb_ok h
  have e1 := expM_ok h1
  have e2 := nmM_ok h2
  have e3 := expM_ok h3
  have e4 := (tyM_open ts f).1 _ _ _ _ _ h4
  have e5 := expM_ok' h5
  cases h; omega
theorem varM_some (ts : List Tk) {f a o : Nat} (h : ts.length - a + 1 ≤ f) : Sm (varM ts f a o) := by
  refine Sm.rb (Sm.exp ..) fun _ a1 o1 h1 => Sm.rb (Sm.nm ..) fun _ a2 o2 h2 => Sm.rb (Sm.exp ..) fun _ a3 o3 h3 => Sm.rb ((tyM_some ts f).1 _ _ ?_) fun _ _ _ _ => Sm.rb (Sm.exp ..) fun _ _ _ _ => Sm.ret ..
  have e1 := expM_ok h1
  have e2 := nmM_ok h2
  have e3 := expM_ok h3
  omega
theorem accM_ok {ts : List Tk} {s : Bs} {a o : Nat} {w : Bool} {b p : Nat} (h : accM ts s a o = some (.ok w b p)) : p = o ∧ a ≤ b ∧ w = sees ts a s ∧ b = (if sees ts a s = true then a + 1 else a) := by
  rcases ite_or h with ⟨hk, h⟩ | ⟨hk, h⟩
  · cases h; rw [hk, if_pos rfl]; exact ⟨rfl, by omega, rfl, rfl⟩
  · cases h; rw [if_neg hk]; exact ⟨rfl, by omega, by simpa using hk, rfl⟩
theorem Sm.acc (ts : List Tk) (s : Bs) (a o : Nat) : Sm (accM ts s a o) := Sm.ite (fun _ => Sm.ret ..) fun _ => Sm.ret ..
theorem datM_ok {ts : List Tk} {a o : Nat} {v : Sec} {b p : Nat} (h : datM ts a o = some (.ok v b p)) : p = o ∧ a < b ∧ b ≤ ts.length := by
  obtain ⟨_, a1, o1, h1, h⟩ := rb_ok h
  obtain ⟨_, a2, o2, h2, h⟩ := rb_ok h
  obtain ⟨_, a3, o3, h3, h⟩ := rb_ok h
  obtain ⟨_, a4, o4, h4, h⟩ := rb_ok h
  obtain ⟨_, a5, o5, h5, h⟩ := rb_ok h
  obtain ⟨_, a6, o6, h6, h⟩ := rb_ok h
  obtain ⟨_, a7, o7, h7, h⟩ := rb_ok h
  obtain ⟨_, a8, o8, h8, h⟩ := rb_ok h
  have e1 := expM_ok h1
  have e2 := nmM_ok h2
  have e3 := takM_ok h3
  have e4 := accM_ok h4
  have e5 := accM_ok h5
  have e6 := expM_ok h6
  have e7 := takM_ok h7
  have e8 := expM_ok' h8
  cases h; omega
theorem Sm.dat (ts : List Tk) (a o : Nat) : Sm (datM ts a o) :=
  Sm.rb (Sm.exp ..) fun _ _ _ _ => Sm.rb (Sm.nm ..) fun _ _ _ _ => Sm.rb (Sm.tak ..) fun _ _ _ _ => Sm.rb (Sm.acc ..) fun _ _ _ _ => Sm.rb (Sm.acc ..) fun _ _ _ _ => Sm.rb (Sm.exp ..) fun _ _ _ _ => Sm.rb (Sm.tak ..) fun _ _ _ _ => Sm.rb (Sm.exp ..) fun _ _ _ _ => Sm.ret ..
theorem vasM_ok {ts : List Tk} : ∀ (f : Nat) {l : List Va} {a o : Nat} {v : List Va} {b p : Nat}, vasM ts f l a o = some (.ok v b p) → p = o ∧ a ≤ b := by
  intro f
  induction f with
  | zero => intro l a o v b p h; cases h
  | succ f ih =>
    intro l a o v b p h; rw [vasM] at h; rcases ite_or h with ⟨hk, h⟩ | ⟨hk, h⟩
    · obtain ⟨_, a1, o1, h1, h⟩ := rb_ok h
      have e1 := varM_ok h1; have e2 := ih h; omega
    · cases h; omega
theorem vasM_some (ts : List Tk) : ∀ (f : Nat) (l : List Va) (a o : Nat), ts.length - a + 2 ≤ f → Sm (vasM ts f l a o) := by
  intro f
  induction f with
  | zero => intro l a o h; omega
  | succ f ih =>
    intro l a o h; rw [vasM]; refine Sm.ite (fun hk => Sm.rb (varM_some ts (by omega)) fun _ a1 o1 h1 => ih _ _ _ ?_) fun _ => Sm.ret ..
    have e1 := varM_ok h1; have := sees_lt hk; omega
theorem funM_ok {ts : List Tk} {f a o : Nat} {v : Fun} {b p : Nat} (h : funM ts f a o = some (.ok v b p)) : p = o ∧ a < b ∧ b ≤ ts.length := by
  obtain ⟨_, a1, o1, h1, h⟩ := rb_ok h
  obtain ⟨_, a2, o2, h2, h⟩ := rb_ok h
  obtain ⟨_, a3, o3, h3, h⟩ := rb_ok h
  obtain ⟨_, a4, o4, h4, h⟩ := rb_ok h
  obtain ⟨_, a5, o5, h5, h⟩ := rb_ok h
  obtain ⟨_, a6, o6, h6, h⟩ := rb_ok h
  have e1 := expM_ok h1
  have e2 := nmM_ok h2
  have e3 := begM_ok h3
  have e4 := vasM_ok _ h4
  have e5 := (stM_open ts f).2.1 _ _ _ _ _ _ h5
  have e6 := endM_ok' h6
  cases h; omega
theorem funM_some (ts : List Tk) {f a o : Nat} (h : 3 * (ts.length - a) + 3 ≤ f) : Sm (funM ts f a o) := by
  refine Sm.rb (Sm.exp ..) fun _ a1 o1 h1 => Sm.rb (Sm.nm ..) fun _ a2 o2 h2 => Sm.rb (Sm.beg ..) fun _ a3 o3 h3 => ?_
  have e1 := expM_ok h1
  have e2 := nmM_ok h2
  have e3 := begM_ok h3
  refine Sm.rb (vasM_some ts _ _ _ _ (by omega)) fun _ a4 o4 h4 => ?_
  have e4 := vasM_ok _ h4
  exact Sm.rb ((stM_some ts f).2.1 _ _ _ (by omega)) fun _ _ _ _ => Sm.rb (Sm.en ..) fun _ _ _ _ => Sm.ret ..
theorem uniM_some (ts : List Tk) : ∀ (f : Nat) (u : Un) (a o : Nat), 3 * (ts.length - a) + 4 ≤ f → Sm (uniM ts f u a o) := by
  intro f
  induction f with
  | zero => intro u a o h; omega
  | succ f ih =>
    intro u a o h; rw [uniM]; refine Sm.ite (fun _ => Sm.ret ..) fun hl => Sm.ite (fun hk => ?_) fun _ => Sm.ite (fun hk => ?_) fun _ => Sm.ite (fun hk => ?_) fun _ => Sm.some _
    · refine Sm.rb (varM_some ts (by omega)) fun _ a1 o1 h1 => ih _ _ _ ?_
      have e1 := varM_ok h1; omega
    · refine Sm.rb (Sm.dat ..) fun _ a1 o1 h1 => ih _ _ _ ?_
      have e1 := datM_ok h1; omega
    · refine Sm.rb (funM_some ts (by omega)) fun _ a1 o1 h1 => ih _ _ _ ?_
      have e1 := funM_ok h1; omega
theorem Sm.all {α : Type} {ts : List Tk} {r : Option (Rs α)} (h : Sm r) : Sm (allM ts r) := Sm.rb h fun _ _ _ _ => Sm.ite (fun _ => Sm.some _) fun _ => Sm.ret ..
section
variable {ts us : List Tk} (h : ts.map core = us.map core)
include h
theorem cz_len : ts.length = us.length := by simpa using congrArg List.length h
theorem cz_pk (a : Nat) : core (pk ts a) = core (pk us a) := by
  have h1 := congrArg (fun l => l[a]?) h
  simp only [List.getElem?_map] at h1
  unfold pk List.getD
  cases ha : ts[a]? with
  | none =>
    rw [ha] at h1; cases hb : us[a]? with
    | none => rfl
    | some y => rw [hb] at h1; cases h1
  | some x =>
    rw [ha] at h1; cases hb : us[a]? with
    | none => rw [hb] at h1; cases h1
    | some y => rw [hb] at h1; simpa using h1
theorem cz_kind (a : Nat) : (pk ts a).kind = (pk us a).kind := congrArg (·.1) (cz_pk h a)
theorem cz_text (a : Nat) : (pk ts a).text = (pk us a).text := congrArg (·.2.1) (cz_pk h a)
theorem cz_n (a : Nat) : (pk ts a).n = (pk us a).n := congrArg (·.2.2) (cz_pk h a)
theorem cz_sees (a : Nat) (s : Bs) : sees ts a s = sees us a s := by unfold sees; rw [cz_kind h, cz_text h]
theorem cz_st (a : Nat) : stR (pk ts a) = stR (pk us a) := by unfold stR; rw [cz_kind h, cz_text h]
theorem cz_beg (s : Bs) (a o : Nat) : begM ts s a o = begM us s a o := by unfold begM; rw [cz_sees h]
theorem cz_end (s : Bs) (a o : Nat) : endM ts s a o = endM us s a o := by unfold endM; rw [cz_sees h]
theorem cz_ex : ∀ f m a o, exM ts f m a o = exM us f m a o := by
  intro f
  induction f with
  | zero => intro m a o; cases m <;> rfl
  | succ f ih =>
    have hin : ∀ q a o, inn ts (exM ts f (.ex 1)) q a o = inn us (exM us f (.ex 1)) q a o := fun q a o => by
      unfold inn; simp only [cz_beg h, cz_end h, ih]
    intro m a o; cases m with
    | op => rw [exM, exM, cz_kind h, cz_text h, cz_n h]; simp only [hin, cz_beg h, ih]
    | ex l => rw [exM, exM]; simp only [ih]
    | lo l x => rw [exM, exM, cz_st h]; simp only [ih]
theorem cz_all {α : Type} (r : Option (Rs α)) : allM ts r = allM us r := by unfold allM; rw [cz_len h]
end
end Go.Proofs.YtmbmmckagcdapaaGreatDoor
namespace Go.Proofs.YtmbmmckagcdapaaGreatDoor
def epa : Ex → Int → Int → Int := Ex.para fun e r most left => if most < 1 ∨ left < 1 ∨ 4 < e.l.length then -1 else pfold (fun r n => r (most - 1) n) r (left - 1)
theorem epa_mk (o n : Int) (s : ByteArray) (w : Int) (l : List Ex) (most left : Int) : epa (.mk o n s w l) most left = if most < 1 ∨ left < 1 ∨ 4 < l.length then -1 else pfold (fun x n => epa x (most - 1) n) l (left - 1) := by
  have h : epa (.mk o n s w l) most left = _ := congrFun (congrFun (Ex.para_mk _ o n s w l) most) left
  rw [h]
  simp only [Ex.l, pfold_map]
  rfl
theorem epa_bound : ∀ (t : Ex) (most left : Int), 0 ≤ left → -1 ≤ epa t most left ∧ epa t most left ≤ left := by
  intro t
  induction t using Ex.induct with
  | h o n s w l ih =>
  intro most left h
  rw [epa_mk]
  split
  · omega
  · rename_i hc
    have := pfold_bound (f := fun x n => epa x (most - 1) n) (l := l) (fun x hx n hn => ih x hx (most - 1) n hn) (left - 1) (by omega)
    omega
theorem epa_exn : ∀ (t : Ex) (most left : Int), 0 ≤ left → 0 ≤ epa t most left → exn t (left + 1) = epa t most left + 1 := by
  intro t
  induction t using Ex.induct with
  | h o n s w l ih =>
  intro most left h h0
  rw [epa_mk] at h0 ⊢
  split at h0
  · omega
  · rename_i hc
    rw [if_neg hc, exn_mk]
    have key : ∀ (l : List Ex), (∀ x ∈ l, ∀ left, 0 ≤ left → 0 ≤ epa x (most - 1) left → exn x (left + 1) = epa x (most - 1) left + 1) → ∀ n : Int, 0 ≤ n → 0 ≤ pfold (fun x n => epa x (most - 1) n) l n → gfold exn l (n + 1) = pfold (fun x n => epa x (most - 1) n) l n + 1 := by
      intro l
      induction l with
      | nil => intro _ n _ _; rfl
      | cons x l ihl =>
        intro hl n hn hp
        have e1 : pfold (fun x n => epa x (most - 1) n) (x :: l) n = pfold (fun x n => epa x (most - 1) n) l (epa x (most - 1) n) := by
          unfold pfold; rw [List.foldl_cons, if_pos hn]
        rw [e1] at hp ⊢
        have h1 : 0 ≤ epa x (most - 1) n := by
          refine Classical.byContradiction fun hc => ?_
          rw [pfold_stop _ hc] at hp; exact hc hp
        have e2 : gfold exn (x :: l) (n + 1) = gfold exn l (exn x (n + 1)) := by
          unfold gfold; rw [List.foldl_cons, if_pos (by omega)]
        rw [e2, hl x (by simp) n hn h1]
        exact ihl (fun y hy => hl y (by simp [hy])) _ h1 hp
    have := key l (fun x hx left h1 h2 => ih x hx (most - 1) left h1 h2) (left - 1) (by omega) h0
    rw [show left + 1 - 1 = left - 1 + 1 by omega]
    exact this
def smE (e : Ex) (most : Int) : Bool := decide (0 ≤ epa e most 3000)
theorem smE_len {e : Ex} {most : Int} (hn : n32 e = true) (h : smE e most = true) : (prE e).length ≤ 167772160 := by
  unfold smE at h
  rw [decide_eq_true_eq] at h
  have := epa_exn e most 3000 (by decide) h
  exact prE_len hn (n := 3000 + 1) (by omega) (by decide)
end Go.Proofs.YtmbmmckagcdapaaGreatDoor
namespace Go.Proofs.YtmbmmckagcdapaaGreatDoor
def Le {α : Type} (r r' : Option (Rs α)) : Prop := ∀ z, r = some z → r' = some z
theorem Le.refl {α : Type} (r : Option (Rs α)) : Le r r := fun _ h => h
theorem Le.rb {α β : Type} {r r' : Option (Rs α)} {k k' : α → Nat → Nat → Option (Rs β)} (h : Le r r') (hk : ∀ x a o, Le (k x a o) (k' x a o)) : Le (rb r k) (rb r' k') := fun z q => by
  match r, h, q with
  | some (.bad b e), h, q => rw [h _ rfl]; exact q
  | some (.ok x a o), h, q => rw [h _ rfl]; exact hk x a o z q
theorem Le.ite {α : Type} {c : Prop} [Decidable c] {x y x' y' : Option (Rs α)} (hx : c → Le x x') (hy : ¬ c → Le y y') : Le (if c then x else y) (if c then x' else y') := by
  by_cases h : c
  · rw [if_pos h, if_pos h]; exact hx h
  · rw [if_neg h, if_neg h]; exact hy h
section
variable (ts : List Tk)
theorem exM_mono : ∀ f m a o, Le (exM ts f m a o) (exM ts (f + 1) m a o) := by
  intro f
  induction f with
  | zero => intro m a o z h; cases m <;> cases h
  | succ f ih =>
    have hin : ∀ q a o, Le (inn ts (exM ts f (.ex 1)) q a o) (inn ts (exM ts (f + 1) (.ex 1)) q a o) := fun q a o =>
      Le.rb (Le.refl _) fun _ a o => Le.rb (ih _ _ _) fun _ _ _ => Le.refl _
    intro m a o; cases m with
    | op =>
      rw [exM, exM]; refine Le.ite (fun _ => Le.refl _) fun _ => Le.ite (fun _ => Le.refl _) fun _ => Le.ite (fun _ => ?_) fun _ => Le.ite (fun _ => Le.ite (fun _ => hin _ _ _) fun _ => Le.ite (fun _ => Le.rb (Le.refl _) fun _ a o => Le.rb (ih _ _ _) fun _ _ _ => Le.refl _) fun _ => Le.refl _) fun _ => Le.refl _
      cases accW (pk ts a).text with
      | none => exact Le.refl _
      | some p => exact hin _ _ _
    | ex l => rw [exM, exM]; exact Le.rb (ih _ _ _) fun _ _ _ => ih _ _ _
    | lo l x => rw [exM, exM]; exact Le.ite (fun _ => Le.refl _) fun _ => Le.rb (ih _ _ _) fun _ _ _ => ih _ _ _
theorem fuel_eq {α : Type} {r : Nat → Option (Rs α)} (hm : ∀ f, Le (r f) (r (f + 1))) {f F : Nat} {y z : Rs α} (h1 : r f = some y) (h2 : ∀ g, F ≤ g → r g = some z) : y = z := by
  have up : ∀ d, r (f + d) = some y := by
    intro d
    induction d with
    | zero => exact h1
    | succ d ih => exact hm _ _ ih
  have e1 := up F
  have e2 := h2 (f + F) (by omega)
  rw [e1] at e2
  exact Option.some.inj e2
end
end Go.Proofs.YtmbmmckagcdapaaGreatDoor
namespace Go.Proofs.YtmbmmckagcdapaaGreatDoor
section
variable {ts : List Tk}
theorem pk_drop {a : Nat} {t : Tk} {l : List Tk} (h : ts.drop a = t :: l) : pk ts a = t := by
  unfold pk List.getD
  have : ts[a]? = (ts.drop a)[0]? := by simp
  rw [this, h]; rfl
theorem drop_1 {a : Nat} {t : Tk} {l : List Tk} (h : ts.drop a = t :: l) : ts.drop (a + 1) = l := by
  have : ts.drop (a + 1) = (ts.drop a).drop 1 := by rw [List.drop_drop]
  rw [this, h]; rfl
theorem drop_n {a : Nat} {k l : List Tk} (h : ts.drop a = k ++ l) : ts.drop (a + k.length) = l := by
  have : ts.drop (a + k.length) = (ts.drop a).drop k.length := by rw [List.drop_drop]
  rw [this, h, List.drop_left]
theorem sees_op {a : Nat} {s : Bs} {l : List Tk} (h : ts.drop a = opT s :: l) (u : Bs) : sees ts a u = (s == u) := by
  unfold sees; rw [pk_drop h]; rfl
theorem beg_is {a o : Nat} {s : Bs} {l : List Tk} (h : ts.drop a = opT s :: l) (ho : o < 256) : begM ts s a o = some (.ok () (a + 1) (o + 1)) := by
  unfold begM; rw [sees_op h, beq_self_eq_true, if_neg (by decide), if_neg (by omega)]
theorem end_is {a o : Nat} {s : Bs} {l : List Tk} (h : ts.drop a = opT s :: l) : endM ts s a o = some (.ok () (a + 1) (o - 1)) := by
  unfold endM; rw [sees_op h, beq_self_eq_true, if_neg (by decide)]
def EvX (ts : List Tk) (m : Md4) (a o : Nat) (z : Rs Ex) : Prop := ∃ F, ∀ f, F ≤ f → exM ts f m a o = some z
theorem inn_is {x : Ex} {q : Ex → Ex} {a b o : Nat} {l l' : List Tk} (h : ts.drop a = opT [40] :: l) (hx : EvX ts (.ex 1) (a + 1) (o + 1) (.ok x b (o + 1))) (h' : ts.drop b = opT [41] :: l') (ho : o < 256) :
    ∃ F, ∀ f, F ≤ f → inn ts (exM ts f (.ex 1)) q a o = some (.ok (q x) (b + 1) o) := by
  obtain ⟨F, hF⟩ := hx
  refine ⟨F, fun f hf => ?_⟩
  unfold inn
  rw [beg_is h ho]
  show rb (exM ts f (.ex 1) (a + 1) (o + 1)) _ = _
  rw [hF f hf]
  show rb (endM ts [41] b (o + 1)) _ = _
  rw [end_is h']
  rfl
theorem ev_par {x : Ex} {a b o : Nat} {l l' : List Tk} (h : ts.drop a = opT [40] :: l) (hx : EvX ts (.ex 1) (a + 1) (o + 1) (.ok x b (o + 1))) (h' : ts.drop b = opT [41] :: l') (ho : o < 256) : EvX ts .op a o (.ok x (b + 1) o) := by
  obtain ⟨F, hF⟩ := inn_is (q := id) h hx h' ho
  refine ⟨F + 1, fun f hf => ?_⟩
  cases f with
  | zero => omega
  | succ f =>
    rw [exM, pk_drop h]; exact hF f (by omega)
theorem ev_acc {x : Ex} {a b o : Nat} {w : Bs} {k v : Int} {l l' : List Tk} (h0 : ts.drop a = kwT w :: opT [40] :: l) (hw : accW w = some (k, v)) (hx : EvX ts (.ex 1) (a + 2) (o + 1) (.ok x b (o + 1))) (h' : ts.drop b = opT [41] :: l') (ho : o < 256) : EvX ts .op a o (.ok (mkU k v x) (b + 1) o) := by
  obtain ⟨F, hF⟩ := inn_is (q := mkU k v) (drop_1 h0) hx h' ho
  refine ⟨F + 1, fun f hf => ?_⟩
  cases f with
  | zero => omega
  | succ f =>
    rw [exM, pk_drop h0]; show (match accW w with | some (k, w) => inn ts (exM ts f (.ex 1)) (mkU k w) (a + 1) o | none => some (.bad a 3)) = _
    rw [hw]; exact hF f (by omega)
theorem ev_pre {x : Ex} {a b o : Nat} {s : Bs} {l : List Tk} (h : ts.drop a = opT s :: l) (hs : s = [33] ∨ s = [45]) (hx : EvX ts .op (a + 1) (o + 1) (.ok x b (o + 1))) (ho : o < 256) : EvX ts .op a o (.ok (mkU (if s = [45] then 17 else 16) 0 x) b o) := by
  obtain ⟨F, hF⟩ := hx
  refine ⟨F + 1, fun f hf => ?_⟩
  cases f with
  | zero => omega
  | succ f =>
    rw [exM, pk_drop h]; have h40 : s ≠ [40] := by rcases hs with rfl | rfl <;> decide
    show (if s = [40] then _ else if s = [33] ∨ s = [45] then rb (begM ts s a o) _ else _) = _
    rw [if_neg h40, if_pos hs, beg_is h ho]; show rb (exM ts f .op (a + 1) (o + 1)) _ = _
    rw [hF f (by omega)]
    rfl
theorem ev_nu {a o n : Nat} {l : List Tk} (h : ts.drop a = nuT n :: l) : EvX ts .op a o (.ok (.mk 1 n ByteArray.empty 0 []) (a + 1) o) := by
  refine ⟨1, fun f hf => ?_⟩
  cases f with
  | zero => omega
  | succ f => rw [exM, pk_drop h]; rfl
theorem ev_id {a o : Nat} {s : Bs} {l : List Tk} (h : ts.drop a = idT s :: l) : EvX ts .op a o (.ok (.mk 2 0 ⟨s.toArray⟩ 0 []) (a + 1) o) := by
  refine ⟨1, fun f hf => ?_⟩
  cases f with
  | zero => omega
  | succ f => rw [exM, pk_drop h]; rfl
theorem evx_ex {l a o b p : Nat} {x : Ex} {z : Rs Ex} (h : EvX ts .op a o (.ok x b p)) (k : EvX ts (.lo l x) b p z) : EvX ts (.ex l) a o z := by
  obtain ⟨F, hF⟩ := h
  obtain ⟨G, hG⟩ := k
  refine ⟨F + G + 1, fun f hf => ?_⟩
  cases f with
  | zero => omega
  | succ f =>
    rw [exM, hF f (by omega)]
    exact hG f (by omega)
theorem evx_lo {l a o b p : Nat} {x y : Ex} {s : Bs} {r : List Tk} {z : Rs Ex} (hd : ts.drop a = opT s :: r) (h0 : (opR s).2 ≠ 0) (hl : l ≤ (opR s).2) (h : EvX ts (.ex ((opR s).2 + 1)) (a + 1) o (.ok y b p)) (k : EvX ts (.lo l (.mk (opR s).1 0 ByteArray.empty 0 [x, y])) b p z) : EvX ts (.lo l x) a o z := by
  obtain ⟨F, hF⟩ := h
  obtain ⟨G, hG⟩ := k
  refine ⟨F + G + 1, fun f hf => ?_⟩
  cases f with
  | zero => omega
  | succ f =>
    have e : stR (pk ts a) = opR s := by rw [pk_drop hd]; rfl
    rw [exM, e, if_neg (by omega), hF f (by omega)]
    exact hG f (by omega)
def stp (l : Nat) (t : Tk) : Prop := (stR t).2 = 0 ∨ (stR t).2 < l
theorem stp.mono {l m : Nat} {t : Tk} (h : stp l t) (hm : l ≤ m) : stp m t := by unfold stp at *; omega
theorem evx_stop {l a o : Nat} {x : Ex} (h : stp l (pk ts a)) : EvX ts (.lo l x) a o (.ok x a o) := by
  refine ⟨1, fun f hf => ?_⟩
  cases f with
  | zero => omega
  | succ f =>
    have h : (stR (pk ts a)).2 = 0 ∨ (stR (pk ts a)).2 < l := h; rw [exM, if_pos h]; rfl
theorem symB_R {o : Int} (h : 3 ≤ o ∧ o ≤ 15) : opR (symB o) = (o, stO o) := by
  obtain ⟨n, rfl⟩ : ∃ n : Nat, o = n := ⟨o.toNat, by omega⟩
  have key : ∀ n : Nat, n < 16 → 3 ≤ n → opR (symB (n : Int)) = ((n : Int), stO (n : Int)) := by decide
  exact key n (by omega) (by omega)
theorem accW_l {w : Int} (h : w = 1 ∨ w = 2 ∨ w = 4) : accW ([108, 111, 97, 100] ++ wB w) = some (18, w) := by rcases h with rfl | rfl | rfl <;> decide
theorem accW_s {w : Int} (h : w = 1 ∨ w = 2) : accW ([115, 101, 120, 116] ++ wB w) = some (19, w) := by rcases h with rfl | rfl <;> decide
def gO (o : Int) (g need : Nat) : Nat := if strE o < need then 1 + g else g
def gN (o : Int) (l : List Ex) (r : List Nat) : Nat :=
  if o = 1 ∨ o = 2 then 0 else if o = 16 ∨ o = 17 then 1 + gO (opAt l 0) (r.getD 0 0) 9 else if o = 18 ∨ o = 19 then 1 + r.getD 0 0
  else max (gO (opAt l 0) (r.getD 0 0) (stO o)) (gO (opAt l 1) (r.getD 1 0) (stO o + 1))
def gE : Ex → Nat := Ex.para fun e r => gN e.op e.l r
theorem gE_mk (o n : Int) (s : ByteArray) (w : Int) (l : List Ex) : gE (.mk o n s w l) = gN o l (l.map gE) := by
  unfold gE
  rw [Ex.para_mk]
  rfl
def RdE (ts : List Tk) (e : Ex) : Prop := ∀ (a o : Nat) (rest : List Tk), ts.drop a = tkE e ++ rest → o + gE e ≤ 256 →
    (9 ≤ strE e.op → EvX ts .op a o (.ok e (a + (tkE e).length) o)) ∧
    ∀ l z, stp (strE e.op + 1) (pk ts (a + (tkE e).length)) → l ≤ strE e.op → EvX ts (.lo l e) (a + (tkE e).length) o z → EvX ts (.ex l) a o z
theorem stp_41 {a l : Nat} {r : List Tk} (h : ts.drop a = opT [41] :: r) : stp l (pk ts a) := by rw [pk_drop h]; exact .inl (by decide)
theorem rd_par {x : Ex} (hx : RdE ts x) {a o : Nat} {rest : List Tk} (hd : ts.drop a = opT [40] :: (tkE x ++ opT [41] :: rest)) (ho : o + (1 + gE x) ≤ 256) : EvX ts (.ex 1) (a + 1) (o + 1) (.ok x (a + 1 + (tkE x).length) (o + 1)) ∧ ts.drop (a + 1 + (tkE x).length) = opT [41] :: rest := by
  have h1 := drop_1 hd
  have h2 := drop_n h1
  exact ⟨((hx _ (o + 1) _ h1 (by omega)).2) 1 _ (stp_41 h2) (strE_pos _) (evx_stop (stp_41 h2)), h2⟩
theorem opd_is {x : Ex} (hx : RdE ts x) {need l a o : Nat} {rest : List Tk} {z : Rs Ex} (hd : ts.drop a = opdK x.op (tkE x) need ++ rest) (ho : o + gO x.op (gE x) need ≤ 256) (hs : stp (need + 1) (pk ts (a + (opdK x.op (tkE x) need).length))) (hl : l ≤ need)
    (k : EvX ts (.lo l x) (a + (opdK x.op (tkE x) need).length) o z) : EvX ts (.ex l) a o z := by
  unfold opdK at hd hs k
  unfold gO at ho
  by_cases hc : strE x.op < need
  · rw [if_pos hc] at hd hs k ho
    rw [List.cons_append, List.append_assoc] at hd; obtain ⟨h1, h2⟩ := rd_par hx hd ho; refine evx_ex (ev_par hd h1 h2 (by omega)) ?_
    have e : a + (opT [40] :: (tkE x ++ [opT [41]])).length = a + 1 + (tkE x).length + 1 := by simp only [List.length_cons, List.length_append, List.length_nil]; omega
    rw [e] at k; exact k
  · rw [if_neg hc] at hd hs k ho
    exact (hx a o rest hd ho).2 l z (hs.mono (by omega)) (by omega) k
theorem rd_ex : ∀ e : Ex, efm e = true → n32 e = true → RdE ts e := by
  intro e
  induction e using Ex.induct with
  | h o n s w l ih =>
  intro hf hn
  rw [efm_mk, Bool.and_eq_true] at hf
  rw [n32_mk, Bool.and_eq_true, decide_eq_true_eq] at hn
  obtain ⟨hb, hl⟩ := hf
  obtain ⟨hn, hln⟩ := hn
  have IH := fun t ht => ih t ht (List.all_eq_true.1 hl t ht) (List.all_eq_true.1 hln t ht)
  clear ih hl hln
  intro a p rest hd hg
  rw [gE_mk] at hg
  show (9 ≤ strE o → _) ∧ ∀ l' z, stp (strE o + 1) _ → l' ≤ strE o → _
  have fromA : EvX ts .op a p (.ok (.mk o n s w l) (a + (tkE (.mk o n s w l)).length) p) → (9 ≤ strE o → EvX ts .op a p (.ok (.mk o n s w l) (a + (tkE (.mk o n s w l)).length) p)) ∧
      ∀ l' z, stp (strE o + 1) (pk ts (a + (tkE (.mk o n s w l)).length)) → l' ≤ strE o → EvX ts (.lo l' (.mk o n s w l)) (a + (tkE (.mk o n s w l)).length) p z → EvX ts (.ex l') a p z :=
    fun h => ⟨fun _ => h, fun l' z _ _ hk => evx_ex h hk⟩
  have hfm := raw_fm hb
  generalize raw (.mk o n s w l) = rw0 at hfm
  cases hfm with
  | num h hs hw hl0 =>
    subst h hs hw hl0; refine fromA ?_; rw [tkE_mk] at hd ⊢; have hd : ts.drop a = nuT n.toNat :: rest := hd; have := ev_nu (o := p) hd; rw [Int.toNat_of_nonneg hn.1] at this; exact this
  | nam h hs hn0 hw hl0 =>
    subst h hn0 hw hl0; refine fromA ?_; rw [tkE_mk] at hd ⊢; have hd : ts.drop a = idT s.data.toList :: rest := hd; exact ev_id hd
  | bin h hn0 hs hw x y hl0 =>
    subst hn0 hs hw hl0; have hstr : strE o = stO o := if_pos h; have hpos := stO_pos o; have h8 : stO o ≤ 8 := (symB_ok h).2.2.1; have hR := symB_R h
    have e1 : tkE (.mk o 0 ByteArray.empty 0 [x, y]) = opdK x.op (tkE x) (stO o) ++ opT (symB o) :: opdK y.op (tkE y) (stO o + 1) := by
      rw [tkE_mk]; unfold tkN; rw [if_neg (by omega), if_neg (by omega), if_neg (by omega), if_neg (by omega), if_neg (by omega), if_neg (by omega)]
      rfl
    have e2 : gN o [x, y] ([x, y].map gE) = max (gO x.op (gE x) (stO o)) (gO y.op (gE y) (stO o + 1)) := by
      unfold gN; rw [if_neg (by omega), if_neg (by omega), if_neg (by omega)]
      rfl
    rw [e2] at hg; rw [e1] at hd ⊢; rw [List.append_assoc, List.cons_append] at hd; rw [hstr]; have hd1 := drop_n hd; have hd2 := drop_1 hd1
    have hlen : a + (opdK x.op (tkE x) (stO o) ++ opT (symB o) :: opdK y.op (tkE y) (stO o + 1)).length = a + (opdK x.op (tkE x) (stO o)).length + 1 + (opdK y.op (tkE y) (stO o + 1)).length := by
      simp only [List.length_cons, List.length_append]; omega
    rw [hlen]; refine ⟨fun h9 => by omega, fun l' z hs hl' hk => ?_⟩
    have hp1 : stR (pk ts (a + (opdK x.op (tkE x) (stO o)).length)) = (o, stO o) := by rw [pk_drop hd1]; exact hR
    refine opd_is (IH x (by simp)) hd (by omega) (.inr (by rw [hp1]; exact Nat.lt_succ_self _)) hl' ?_
    refine evx_lo hd1 (by rw [hR]; show stO o ≠ 0; omega) (by rw [hR]; exact hl') (y := y) (b := a + (opdK x.op (tkE x) (stO o)).length + 1 + (opdK y.op (tkE y) (stO o + 1)).length) (p := p) ?_ (by rw [hR]; exact hk)
    rw [hR]; exact opd_is (IH y (by simp)) hd2 (by omega) (hs.mono (by omega)) (Nat.le_refl _) (evx_stop hs)
  | un c h hn0 hs hw x hl0 =>
    subst hn0 hs hw hl0
    have e1 : tkE (.mk o 0 ByteArray.empty 0 [x]) = opT [c] :: opdK x.op (tkE x) 9 := by
      rw [tkE_mk]; rcases h with ⟨rfl, rfl⟩ | ⟨rfl, rfl⟩ <;> rfl
    have e2 : gN o [x] ([x].map gE) = 1 + gO x.op (gE x) 9 := by
      unfold gN; rw [if_neg (by omega), if_pos (by omega)]
      rfl
    have hstr : strE o = 9 := by rcases h with ⟨rfl, _⟩ | ⟨rfl, _⟩ <;> decide
    rw [e2] at hg; rw [e1] at hd fromA ⊢; refine fromA ?_; rw [List.cons_append] at hd; have hd1 := drop_1 hd
    have hx : EvX ts .op (a + 1) (p + 1) (.ok x (a + 1 + (opdK x.op (tkE x) 9).length) (p + 1)) := by
      unfold gO at hg; unfold opdK at hd1 ⊢
      by_cases hc : strE x.op < 9
      · rw [if_pos hc] at hd1 hg ⊢
        rw [List.cons_append, List.append_assoc] at hd1; obtain ⟨k1, k2⟩ := rd_par (IH x (by simp)) (o := p + 1) hd1 (by omega)
        have := ev_par hd1 k1 k2 (by omega)
        have e : a + 1 + (opT [40] :: (tkE x ++ [opT [41]])).length = a + 1 + 1 + (tkE x).length + 1 := by simp only [List.length_cons, List.length_append, List.length_nil]; omega
        rw [e]; exact this
      · rw [if_neg hc] at hd1 hg ⊢
        exact ((IH x (by simp)) _ _ _ hd1 (by omega)).1 (by omega)
    have := ev_pre hd (by rcases h with ⟨_, rfl⟩ | ⟨_, rfl⟩ <;> simp) hx (by omega)
    have e3 : mkU (if [c] = [45] then 17 else 16) 0 x = .mk o 0 ByteArray.empty 0 [x] := by
      rcases h with ⟨rfl, rfl⟩ | ⟨rfl, rfl⟩ <;> rfl
    rw [e3] at this; have e : a + (opT [c] :: opdK x.op (tkE x) 9).length = a + 1 + (opdK x.op (tkE x) 9).length := by rw [List.length_cons]; omega
    rw [e]; exact this
  | call q h hn0 hs hw x hl0 =>
    subst hn0 hs hl0; have hw2 : o = 19 → w = 1 ∨ w = 2 := fun e => ebase_19 (by rw [e] at hb; exact hb)
    obtain ⟨u, hu, e1⟩ : ∃ u, accW u = some (o, w) ∧ tkE (.mk o 0 ByteArray.empty w [x]) = kwT u :: opT [40] :: (tkE x ++ [opT [41]]) := by
      rw [tkE_mk]; rcases h with ⟨rfl, _⟩ | ⟨rfl, _⟩
      · exact ⟨_, accW_l hw, by show kwT _ :: opT [40] :: (([x].map tkE).flatten ++ _) = _; simp⟩
      · exact ⟨_, accW_s (hw2 rfl), by show kwT _ :: opT [40] :: (([x].map tkE).flatten ++ _) = _; simp⟩
    have e2 : gN o [x] ([x].map gE) = 1 + gE x := by
      unfold gN; rw [if_neg (by omega), if_neg (by omega), if_pos (by omega)]
      rfl
    rw [e2] at hg; rw [e1] at hd fromA ⊢; refine fromA ?_; rw [List.cons_append, List.cons_append, List.append_assoc] at hd; obtain ⟨k1, k2⟩ := rd_par (IH x (by simp)) (o := p) (drop_1 hd) (by omega)
    have := ev_acc hd hu k1 k2 (by omega)
    have e : a + (kwT u :: opT [40] :: (tkE x ++ [opT [41]])).length = a + 1 + 1 + (tkE x).length + 1 := by simp only [List.length_cons, List.length_append, List.length_nil]; omega
    rw [e]; exact this
theorem gE_le : ∀ e : Ex, efm e = true → ∀ d : Nat, esh e ((d : Int) + 1) = true → gE e ≤ d ∧ (strE e.op < 9 → gE e + 1 ≤ d) := by
  intro e
  induction e using Ex.induct with
  | h o n s w l ih =>
  intro hf d hd
  rw [efm_mk, Bool.and_eq_true] at hf
  obtain ⟨hb, hl⟩ := hf
  rw [esh_mk, Bool.and_eq_true, List.all_eq_true] at hd
  have hd := hd.2
  have IH : ∀ t ∈ l, ∃ d', d = d' + 1 ∧ gE t ≤ d' ∧ ∀ need, need ≤ 9 → gO t.op (gE t) need ≤ d' := fun t ht => by
    have h1 := hd t ht; rw [show (d : Int) + 1 - 1 = (d : Int) by omega] at h1
    cases d with
    | zero =>
      cases t with
      | mk o n s w l => rw [esh_mk] at h1; simp at h1
    | succ d =>
      have := ih t ht (List.all_eq_true.1 hl t ht) d (by rw [Int.natCast_add] at h1; exact h1)
      refine ⟨d, rfl, this.1, fun need hn => ?_⟩
      unfold gO; split
      · have := this.2 (by omega); omega
      · exact this.1
  clear ih hd
  rw [gE_mk]
  show _ ∧ (strE o < 9 → _)
  have hfm := raw_fm hb
  generalize raw (.mk o n s w l) = rw0 at hfm
  cases hfm with
  | num h hs hw hl0 => subst h; exact ⟨Nat.zero_le _, fun h => absurd h (by decide)⟩
  | nam h hs hn0 hw hl0 => subst h; exact ⟨Nat.zero_le _, fun h => absurd h (by decide)⟩
  | bin h hn0 hs hw x y hl0 =>
    subst hl0; have h8 : stO o ≤ 8 := (symB_ok h).2.2.1
    have e2 : gN o [x, y] ([x, y].map gE) = max (gO x.op (gE x) (stO o)) (gO y.op (gE y) (stO o + 1)) := by
      unfold gN; rw [if_neg (by omega), if_neg (by omega), if_neg (by omega)]
      rfl
    rw [e2]; obtain ⟨d1, q1, _, q2⟩ := IH x (by simp)
    obtain ⟨d2, q3, _, q4⟩ := IH y (by simp)
    have := q2 (stO o) (by omega)
    have := q4 (stO o + 1) (by omega)
    constructor <;> omega
  | un c h hn0 hs hw x hl0 =>
    subst hl0
    have e2 : gN o [x] ([x].map gE) = 1 + gO x.op (gE x) 9 := by
      unfold gN; rw [if_neg (by omega), if_pos (by omega)]
      rfl
    rw [e2]; obtain ⟨d1, q1, _, q2⟩ := IH x (by simp)
    have := q2 9 (by omega)
    have hstr : strE o = 9 := by rcases h with ⟨rfl, _⟩ | ⟨rfl, _⟩ <;> decide
    constructor <;> omega
  | call q h hn0 hs hw x hl0 =>
    subst hl0
    have e2 : gN o [x] ([x].map gE) = 1 + gE x := by
      unfold gN; rw [if_neg (by omega), if_neg (by omega), if_pos (by omega)]
      rfl
    rw [e2]; obtain ⟨d1, q1, q2, _⟩ := IH x (by simp)
    have hstr : strE o = 10 := by rcases h with ⟨rfl, _⟩ | ⟨rfl, _⟩ <;> decide
    constructor <;> omega
theorem rd_all {e : Ex} (hf : efm e = true) (hn : n32 e = true) (hg : gE e ≤ 256) (hd : ts = tkE e) : ∃ F, ∀ f, F ≤ f → allM ts (exM ts f (.ex 1) 0 0) = some (.ok e ts.length 0) := by
  have h0 : ts.drop 0 = tkE e ++ [] := by rw [List.drop_zero, List.append_nil]; exact hd
  have hl : ts.drop (0 + (tkE e).length) = [] := by have := drop_n h0; exact this
  have hs : ∀ l, stp l (pk ts (0 + (tkE e).length)) := fun l => by rw [pk_ge (List.drop_eq_nil_iff.1 hl)]; exact .inl (by decide)
  obtain ⟨F, hF⟩ := ((rd_ex e hf hn) 0 0 [] h0 (by omega)).2 1 _ (hs _) (strE_pos _) (evx_stop (hs 1))
  refine ⟨F, fun f hf => ?_⟩
  rw [hF f hf]
  show (if _ < _ then _ else _) = _
  rw [if_neg (by rw [hd]; omega), hd, Nat.zero_add]
  rfl
end
end Go.Proofs.YtmbmmckagcdapaaGreatDoor
