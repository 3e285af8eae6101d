/- Plain mathematics: tokens: how a text is taken apart, and how tokens are written. No program in sight. -/
namespace Go.Proofs.YtjilcaemoebloaaDoor
set_option linter.unusedSimpArgs false
set_option linter.unusedVariables false
set_option linter.unnecessarySimpa false

/-- Bytes. -/
abbrev Bs := List UInt8
def isL (c : UInt8) : Bool := decide (97 ≤ c.toNat ∧ c.toNat ≤ 122 ∨ 65 ≤ c.toNat ∧ c.toNat ≤ 90 ∨ c.toNat = 95 ∨ c.toNat = 46)
def isD (c : UInt8) : Bool := decide (48 ≤ c.toNat ∧ c.toNat ≤ 57)
def isW (c : UInt8) : Bool := isL c || isD c
def isS (c : UInt8) : Bool := decide (c.toNat = 32 ∨ c.toNat = 9 ∨ c.toNat = 13 ∨ c.toNat = 10)
/-- The value of a hexadecimal digit. -/
def hexv (c : UInt8) : Option Nat := if 48 ≤ c.toNat ∧ c.toNat ≤ 57 then some (c.toNat - 48) else if 97 ≤ c.toNat ∧ c.toNat ≤ 102 then some (c.toNat - 87) else if 65 ≤ c.toNat ∧ c.toNat ≤ 70 then some (c.toNat - 55) else none
/-- The keywords. -/
def kwds : List Bs := [[98, 114, 101, 97, 107], [99, 97, 108, 108], [99, 97, 115, 101], [99, 111, 110, 116, 105, 110, 117, 101], [100, 97, 116, 97], [101, 108, 115, 101], [101, 120, 101, 99], [102, 117, 110, 99], [103, 111, 116, 111], [104, 97, 108, 116], [105, 102], [105, 110], [108, 111, 111, 112], [111, 117, 116],
  [114, 101, 116, 117, 114, 110], [115, 119, 105, 116, 99, 104], [118, 97, 114], [119, 104, 105, 108, 101], [119, 114, 105, 116, 101], [108, 111, 97, 100, 49], [108, 111, 97, 100, 50], [108, 111, 97, 100, 52], [115, 116, 111, 114, 101, 49], [115, 116, 111, 114, 101, 50], [115, 116, 111, 114, 101, 52], [115, 101, 120, 116, 49], [115, 101, 120, 116, 50]]
def isK (w : Bs) : Bool := kwds.contains w
/-- The number that digits denote. -/
def digV (b : Nat) : Nat → Bs → Option Nat
  | a, [] => some a
  | a, c :: r => match hexv c with
    | some d => if d < b then digV b (a * b + d) r else none
    | none => none
def pre (p s : Bs) : Bool := p.isPrefixOf s
def valP (w : Bs) : Option Nat :=
  if pre [48, 120] w then (if 0 < (w.drop 2).length ∧ (w.drop 2).length ≤ 8 then digV 16 0 (w.drop 2) else none)
  else if w.length = 0 ∨ (1 < w.length ∧ w.head? = some 48) then none
  else match digV 10 0 w with
    | some n => if n < 4294967296 then some n else none
    | none => none
/-- What a sequence behind a backslash means, and its length. -/
def escX : Bs → Option (UInt8 × Nat)
  | a :: b :: _ => (match hexv a, hexv b with
    | some x, some y => some (UInt8.ofNat (16 * x + y), 3)
    | _, _ => none)
  | _ => none
def escP : Bs → Option (UInt8 × Nat)
  | [] => none
  | c :: r => if c.toNat = 34 ∨ c.toNat = 92 then some (c, 1) else if c.toNat = 120 then escX r else none
/-- The bytes of a string behind its first quote, and how many bytes it has there. -/
def quoG : Nat → Bs → Option (Bs × Nat)
  | 0, _ => none
  | _ + 1, [] => none
  | f + 1, c :: r => if c.toNat = 34 then some ([], 1) else if c.toNat = 92 then (match escP r with
      | none => none
      | some (x, n) => match quoG f (r.drop n) with
        | none => none
        | some (t, m) => some (x :: t, m + n + 1))
    else if c.toNat < 32 ∨ 126 < c.toNat then none
    else match quoG f r with
      | none => none
      | some (t, m) => some (c :: t, m + 1)
def quoP (s : Bs) : Option (Bs × Nat) := quoG (s.length + 1) s
/-- The operator that a text begins with. -/
def nW : Bs → Bool
  | [] => true
  | c :: _ => !isW c
def ops1 : Bs := [40, 41, 123, 125, 91, 93, 44, 59, 58, 63, 61, 43, 45, 42, 38, 124, 94, 33, 60]
def symP (s : Bs) : Option Bs :=
  if pre [62, 62, 115] s && nW (s.drop 3) then some [62, 62, 115]
  else if pre [60, 115] s && nW (s.drop 2) then some [60, 115]
  else if pre [61, 61] s then some [61, 61]
  else if pre [33, 61] s then some [33, 61]
  else if pre [60, 60] s then some [60, 60]
  else if pre [62, 62] s then some [62, 62]
  else match s with
    | [] => none
    | c :: _ => if ops1.contains c then some [c] else none
structure Tk where
  kind : Int
  text : Bs
  n : Int
  line : Int
  col : Int
  deriving DecidableEq
def Tk.at_ (t : Tk) (p : Int × Int) : Tk := ⟨t.kind, t.text, t.n, p.1, p.2⟩
/-- The token of a word. -/
def namP (w : Bs) : Option Tk :=
  if isK w then some ⟨2, w, 0, 0, 0⟩
  else if w.head?.elim false isL then (if w.length ≤ 32 then some ⟨1, w, 0, 0, 0⟩ else none)
  else match valP w with
    | some n => some ⟨3, [], n, 0, 0⟩
    | none => none
/-- The token that a text begins with, and its length. -/
def tokP (s : Bs) : Option (Tk × Nat) :=
  if 0 < (s.takeWhile isW).length then (match namP (s.takeWhile isW) with
    | some t => some (t, (s.takeWhile isW).length)
    | none => none)
  else if s.head? = some 34 then (match quoP (s.drop 1) with
    | some (t, n) => some (⟨4, t, 0, 0, 0⟩, n + 1)
    | none => none)
  else match symP s with
    | some op => some (⟨5, op, 0, 0, 0⟩, op.length)
    | none => none
/-- What is left behind white space and comments; in a comment or not. -/
def skpG : Bool → Bs → Bs
  | _, [] => []
  | true, c :: r => if c.toNat = 10 then skpG false r else skpG true r
  | false, c :: r => if isS c then skpG false r else if c.toNat = 47 ∧ r.head? = some 47 then skpG true r else c :: r
def adv (p : Int × Int) (c : UInt8) : Int × Int := if c.toNat = 10 then (p.1 + 1, 1) else (p.1, p.2 + 1)
def advs (p : Int × Int) (l : Bs) : Int × Int := l.foldl adv p
/-- The place behind white space and comments. -/
def skq (s : Bs) (p : Int × Int) : Int × Int := advs p (s.take (s.length - (skpG false s).length))
def scnG : Nat → Bs → Int × Int → List Tk × Bool
  | 0, _, _ => ([], true)
  | f + 1, s, p => if skpG false s = [] then ([], true) else match tokP (skpG false s) with
    | none => ([⟨6, [], 0, (skq s p).1, (skq s p).2⟩], false)
    | some (t, n) => (t.at_ (skq s p) :: (scnG f ((skpG false s).drop n) (advs (skq s p) ((skpG false s).take n))).1, (scnG f ((skpG false s).drop n) (advs (skq s p) ((skpG false s).take n))).2)
def scan (s : Bs) : List Tk × Bool := scnG (s.length + 1) s (1, 1)
/-- How tokens are written. -/
def hexD (d : Nat) : UInt8 := UInt8.ofNat (if d < 10 then 48 + d else 87 + d)
def hexG : Nat → Nat → Bs
  | 0, _ => []
  | f + 1, n => if n < 16 then [hexD n] else hexG f (n / 16) ++ [hexD (n % 16)]
def hexS (n : Nat) : Bs := hexG (n + 1) n
def escC (c : UInt8) : Bs := if c.toNat = 34 ∨ c.toNat = 92 then [92, c] else if c.toNat < 32 ∨ 126 < c.toNat then [92, 120, hexD (c.toNat / 16), hexD (c.toNat % 16)] else [c]
def quoS (t : Bs) : Bs := 34 :: (t.flatMap escC ++ [34])
def numS (n : Nat) : Bs := if n ≤ 9 then [hexD n] else 48 :: 120 :: hexS n
def shw (t : Tk) : Option Bs := if t.kind = 1 ∨ t.kind = 2 ∨ t.kind = 5 then some t.text else if t.kind = 3 then some (numS t.n.toNat) else if t.kind = 4 then some (quoS t.text) else none
def joinB : List Bs → Bs
  | [] => []
  | [x] => x
  | x :: y :: r => x ++ 32 :: joinB (y :: r)
def prn (l : List Tk) : Bs := joinB (l.filterMap shw)

/-! ### Small facts -/
theorem u8_all (p : UInt8 → Bool) (h : (List.range 256).all (fun n => p (UInt8.ofNat n)) = true) (c : UInt8) : p c = true := by
  have := List.all_eq_true.1 h c.toNat (by simp; exact c.toNat_lt)
  simpa using this
theorem toNat_inj {a b : UInt8} (h : a.toNat = b.toNat) : a = b := UInt8.toNat_inj.1 h
theorem isW_32 : isW 32 = false := by decide
theorem takeW_all {l : Bs} : ∀ c ∈ l.takeWhile isW, isW c = true := fun c hc => by
  induction l with
  | nil => cases hc
  | cons x l ih =>
    rw [List.takeWhile_cons] at hc
    split at hc
    · rename_i h
      rcases List.mem_cons.1 hc with rfl | hc
      · exact h
      · exact ih hc
    · cases hc
theorem takeW_app {w r : Bs} (h : ∀ c ∈ w, isW c = true) (hr : nW r = true) : (w ++ r).takeWhile isW = w := by
  induction w with
  | nil =>
    cases r with
    | nil => rfl
    | cons c r =>
      unfold nW at hr
      rw [List.nil_append, List.takeWhile_cons, if_neg (by simpa using hr)]
  | cons x w ih =>
    rw [List.cons_append, List.takeWhile_cons, if_pos (h x (by simp)), ih fun c hc => h c (by simp [hc])]
theorem takeW_pre (l : Bs) : l.takeWhile isW = l.take (l.takeWhile isW).length := by
  induction l with
  | nil => rfl
  | cons x l ih =>
    rw [List.takeWhile_cons]
    split
    · rw [List.length_cons, List.take_succ_cons, ← ih]
    · rfl
theorem takeW_len (l : Bs) : (l.takeWhile isW).length ≤ l.length := by
  induction l with
  | nil => simp
  | cons x l ih =>
    rw [List.takeWhile_cons]
    split <;> simp <;> omega
theorem takeW_next (l : Bs) : nW (l.drop (l.takeWhile isW).length) = true := by
  induction l with
  | nil => rfl
  | cons x l ih =>
    rw [List.takeWhile_cons]
    split
    · simpa using ih
    · rename_i h
      simpa [nW] using h
theorem pre_app (p x : Bs) : pre p (p ++ x) = true := by
  unfold pre
  induction p with
  | nil => simp
  | cons a p ih => simpa [List.isPrefixOf] using ih
theorem pre_iff {p s : Bs} : pre p s = true ↔ ∃ x, s = p ++ x := by
  constructor
  · unfold pre
    induction p generalizing s with
    | nil => exact fun _ => ⟨s, rfl⟩
    | cons a p ih =>
      cases s with
      | nil => simp [List.isPrefixOf]
      | cons b s =>
        simp only [List.isPrefixOf, Bool.and_eq_true, beq_iff_eq]
        rintro ⟨rfl, h⟩
        obtain ⟨x, rfl⟩ := ih h
        exact ⟨x, rfl⟩
  · rintro ⟨x, rfl⟩
    exact pre_app p x
end Go.Proofs.YtjilcaemoebloaaDoor
