/- Plain mathematics: types of the output language as finite trees, and what the program and the reference compute on them. No program in sight. -/
import Derived.Laws.Strings
import Derived.Lib.IndexMore
import Derived.Laws.RangeString
import Derived.KernelRfl
namespace Go.Proofs.YtianekkfehoedaaGreatDoor
set_option linter.unusedSimpArgs false
set_option linter.unusedVariables false
set_option linter.unnecessarySimpa false
/-- A type; `off` is the offset of a field (0 elsewhere). -/
inductive Ty where
  | mk (off kind size count : Int) (elem fields : List Ty)
namespace Ty
def off : Ty → Int | .mk o _ _ _ _ _ => o
def kind : Ty → Int | .mk _ k _ _ _ _ => k
def size : Ty → Int | .mk _ _ s _ _ _ => s
def count : Ty → Int | .mk _ _ _ c _ _ => c
def elem : Ty → List Ty | .mk _ _ _ _ es _ => es
def fields : Ty → List Ty | .mk _ _ _ _ _ fs => fs
def at_ (t : Ty) (o : Int) : Ty := .mk o t.kind t.size t.count t.elem t.fields
mutual
def para {α : Type} (f : Ty → List α → List α → α) : Ty → α
  | .mk o k s c es fs => f (.mk o k s c es fs) (paraL f es) (paraL f fs)
def paraL {α : Type} (f : Ty → List α → List α → α) : List Ty → List α
  | [] => []
  | t :: r => para f t :: paraL f r
end
theorem paraL_eq {α : Type} (f : Ty → List α → List α → α) : ∀ l : List Ty, paraL f l = l.map (para f)
  | [] => by simp [paraL]
  | t :: r => by simp [paraL, paraL_eq f r]
theorem para_mk {α : Type} (f : Ty → List α → List α → α) (o k s c : Int) (es fs : List Ty) :
    para f (.mk o k s c es fs) = f (.mk o k s c es fs) (es.map (para f)) (fs.map (para f)) := by
  simp [para, paraL_eq]
/-- Induction over types. -/
theorem induct {P : Ty → Prop} (h : ∀ o k s c es fs, (∀ t ∈ es, P t) → (∀ t ∈ fs, P t) → P (.mk o k s c es fs)) : ∀ t, P t := by
  intro t
  refine Ty.rec (motive_1 := P) (motive_2 := fun l => ∀ t ∈ l, P t) ?_ ?_ ?_ t
  · intro o k s c es fs h1 h2
    exact h o k s c es fs h1 h2
  · intro t ht
    cases ht
  · intro t r ht hr x hx
    rcases List.mem_cons.1 hx with rfl | hx
    · exact ht
    · exact hr x hx
end Ty
/-- At most n levels. -/
def shal : Ty → Int → Bool := Ty.para fun _ re rf n => decide (1 ≤ n) && re.all (· (n - 1)) && rf.all (· (n - 1))
theorem shal_mk (o k s c : Int) (es fs : List Ty) (n : Int) : shal (.mk o k s c es fs) n = (decide (1 ≤ n) && es.all (fun t => shal t (n - 1)) && fs.all (fun t => shal t (n - 1))) := by
  unfold shal
  rw [Ty.para_mk]
  simp only [List.all_map]
  rfl
/-- The size of a formed type, cut at 65537. -/
def siz : Ty → Int := Ty.para fun t re rf =>
  min (if t.kind == 1 || t.kind == 2 then t.size else if t.kind == 3 then 4 else if t.kind == 4 then t.count * re.headD 0
    else if t.kind == 5 then (List.zipWith (fun (f : Ty) r => f.off + r) t.fields rf).foldl max 0 else 0) 65537
theorem zip_map {α β γ : Type} (f : α → β → γ) (g : α → β) : ∀ l : List α, List.zipWith f l (l.map g) = l.map fun x => f x (g x)
  | [] => rfl
  | x :: l => by simp [zip_map f g l]
theorem siz_mk (o k s c : Int) (es fs : List Ty) : siz (.mk o k s c es fs) =
    min (if k == 1 || k == 2 then s else if k == 3 then 4 else if k == 4 then c * (es.map siz).headD 0
      else if k == 5 then (fs.map fun f => f.off + siz f).foldl max 0 else 0) 65537 := by
  have h : siz (.mk o k s c es fs) = _ := Ty.para_mk _ o k s c es fs
  rw [h]
  simp only [Ty.kind, Ty.size, Ty.count, Ty.fields, zip_map]
  rfl
/-- Is field number i at a place where it may be? -/
def fok (fs : List Ty) (i : Nat) : Bool :=
  decide (0 ≤ ((fs.map Ty.off).getD i 0)) && decide (((fs.map Ty.off).getD i 0) < 65536) && (i == 0 || decide ((fs.map Ty.off).getD (i - 1) 0 < (fs.map Ty.off).getD i 0))
def asc (fs : List Ty) : Bool := (List.range fs.length).all (fok fs)
/-- What is asked of a node itself, apart from its parts. -/
def base (k s c : Int) (ne nf : Nat) : Bool :=
  if k == 0 || k == 6 then s == 0 && c == 0 && ne == 0 && nf == 0
  else if k == 1 || k == 2 then (s == 1 || s == 2 || s == 4) && c == 0 && ne == 0 && nf == 0
  else if k == 3 then s == 0 && c == 0 && ne == 1 && nf == 0
  else if k == 4 then s == 0 && decide (1 ≤ c) && decide (c ≤ 65536) && ne == 1 && nf == 0
  else if k == 5 then s == 0 && c == 0 && ne == 0
  else false
/-- Well-formed apart from limits. -/
def frm : Ty → Bool := Ty.para fun t re rf => base t.kind t.size t.count t.elem.length t.fields.length && asc t.fields && rf.all id && re.all id
theorem frm_mk (o k s c : Int) (es fs : List Ty) : frm (.mk o k s c es fs) = (base k s c es.length fs.length && asc fs && fs.all frm && es.all frm) := by
  have h : frm (.mk o k s c es fs) = _ := Ty.para_mk _ o k s c es fs
  rw [h]
  simp only [Ty.kind, Ty.size, Ty.count, Ty.fields, Ty.elem, List.all_map]
  rfl
/-- Within the limits. -/
def wit : Ty → Bool := Ty.para fun t re rf => decide (t.fields.length ≤ 64) && decide (siz t ≤ 65536) && rf.all id && re.all id
theorem wit_mk (o k s c : Int) (es fs : List Ty) : wit (.mk o k s c es fs) = (decide (fs.length ≤ 64) && decide (siz (.mk o k s c es fs) ≤ 65536) && fs.all wit && es.all wit) := by
  have h : wit (.mk o k s c es fs) = _ := Ty.para_mk _ o k s c es fs
  rw [h]
  simp only [Ty.fields, List.all_map]
  rfl
/-- The error of a type. -/
def chk (t : Ty) : Int := if !shal t 64 then 20 else if !frm t then 2 else if !wit t then 6 else 0
/-- What a formed node is like. -/
theorem frm_inv {o k s c : Int} {es fs : List Ty} (h : frm (.mk o k s c es fs) = true) :
    base k s c es.length fs.length = true ∧ (∀ i, i < fs.length → fok fs i = true) ∧ (∀ t ∈ fs, frm t = true) ∧ (∀ t ∈ es, frm t = true) := by
  rw [frm_mk] at h
  simp only [Bool.and_eq_true, List.all_eq_true, asc, List.mem_range] at h
  exact ⟨h.1.1.1, h.1.1.2, h.1.2, h.2⟩
theorem base_cases {k s c : Int} {ne nf : Nat} (h : base k s c ne nf = true) :
    ((k = 0 ∨ k = 6) ∧ s = 0 ∧ c = 0 ∧ ne = 0 ∧ nf = 0) ∨ ((k = 1 ∨ k = 2) ∧ (s = 1 ∨ s = 2 ∨ s = 4) ∧ c = 0 ∧ ne = 0 ∧ nf = 0) ∨ (k = 3 ∧ s = 0 ∧ c = 0 ∧ ne = 1 ∧ nf = 0) ∨
    (k = 4 ∧ s = 0 ∧ 1 ≤ c ∧ c ≤ 65536 ∧ ne = 1 ∧ nf = 0) ∨ (k = 5 ∧ s = 0 ∧ c = 0 ∧ ne = 0) := by
  unfold base at h
  split at h
  · rename_i hk; simp at h hk; omega
  · split at h
    · rename_i hk; simp at h hk; omega
    · split at h
      · rename_i hk; simp at h hk; omega
      · split at h
        · rename_i hk; simp at h hk; omega
        · split at h
          · rename_i hk; simp at h hk; omega
          · cases h
theorem fok_off {fs : List Ty} {i : Nat} (hi : i < fs.length) (h : fok fs i = true) : 0 ≤ fs[i].off ∧ fs[i].off < 65536 := by
  unfold fok at h
  simp only [Bool.and_eq_true, decide_eq_true_eq] at h
  have e : (fs.map Ty.off).getD i 0 = fs[i].off := by simp [List.getD, hi]
  rw [e] at h
  exact h.1
theorem foldl_max_ge (l : List Int) : ∀ a : Int, a ≤ l.foldl max a := by
  induction l with
  | nil => intro a; exact Int.le_refl _
  | cons x l ih => intro a; exact Int.le_trans (Int.le_max_left a x) (ih _)
theorem siz_le (t : Ty) : siz t ≤ 65537 := by
  cases t
  rw [siz_mk]
  omega
theorem siz_nonneg : ∀ t : Ty, frm t = true → 0 ≤ siz t := by
  refine Ty.induct fun o k s c es fs hE hF h => ?_
  obtain ⟨hb, hf, hfs, hes⟩ := frm_inv h
  rw [siz_mk]
  rcases base_cases hb with h1 | h1 | h1 | h1 | h1
  · obtain ⟨h1, rfl, rfl, _, _⟩ := h1
    rcases h1 with rfl | rfl <;> simp <;> omega
  · obtain ⟨h1, h2, _⟩ := h1
    have : (k == 1 || k == 2) = true := by rcases h1 with rfl | rfl <;> rfl
    rw [this]
    simp; omega
  · obtain ⟨rfl, _⟩ := h1
    simp; omega
  · obtain ⟨rfl, _, h2, h3, h4, _⟩ := h1
    match es, h4 with
    | [e], _ =>
      have := hE e (List.mem_singleton.2 rfl) (hes e (List.mem_singleton.2 rfl))
      have h5 : 0 ≤ c * siz e := Int.mul_nonneg (by omega) this
      simp
      omega
  · obtain ⟨rfl, _⟩ := h1
    have := foldl_max_ge (fs.map fun f => f.off + siz f) 0
    simp
    omega
end Go.Proofs.YtianekkfehoedaaGreatDoor
/- Plain mathematics: the order of types. -/
namespace Go.Proofs.YtianekkfehoedaaGreatDoor
set_option linter.unusedSimpArgs false
set_option linter.unusedVariables false
set_option linter.unnecessarySimpa false
/-- a is below b. -/
def subT (a b : Ty) : Bool := Ty.para (α := Ty → Bool) (fun t re rf a =>
  if a.kind == 0 || t.kind == 6 then true
  else if a.kind != t.kind then false
  else if t.kind == 1 || t.kind == 2 then a.size == t.size
  else if t.kind == 3 then (match a.elem, re with | x :: _, r :: _ => r x | _, _ => false)
  else if t.kind == 4 then decide (t.count ≤ a.count) && (match a.elem, re with | x :: _, r :: _ => r x | _, _ => false)
  else (List.zipWith (fun (f : Ty) r => a.fields.any fun x => x.off == f.off && r x) t.fields rf).all id) b a
def hd2 (f : Ty → Ty → Bool) : List Ty → List Ty → Bool
  | x :: _, y :: _ => f x y
  | _, _ => false
end Go.Proofs.YtianekkfehoedaaGreatDoor
/- Plain mathematics: the type of an access. -/
namespace Go.Proofs.YtianekkfehoedaaGreatDoor
set_option linter.unusedSimpArgs false
set_option linter.unusedVariables false
set_option linter.unnecessarySimpa false
/-- The type that says nothing. -/
def tz : Ty := .mk 0 0 0 0 [] []
end Go.Proofs.YtianekkfehoedaaGreatDoor
/- Plain mathematics: expressions as finite trees, and what the program and the reference compute on them. No program in sight. -/
namespace Go.Proofs.YtianekkfehoedaaGreatDoor
set_option linter.unusedSimpArgs false
set_option linter.unusedVariables false
set_option linter.unnecessarySimpa false
/-- An expression. -/
inductive Ex where
  | mk (op n : Int) (name : ByteArray) (width : Int) (l : List Ex)
namespace Ex
def op : Ex → Int | .mk o _ _ _ _ => o
def n : Ex → Int | .mk _ n _ _ _ => n
def name : Ex → ByteArray | .mk _ _ s _ _ => s
def width : Ex → Int | .mk _ _ _ w _ => w
def l : Ex → List Ex | .mk _ _ _ _ l => l
mutual
def para {α : Type} (f : Ex → List α → α) : Ex → α
  | .mk o n s w l => f (.mk o n s w l) (paraL f l)
def paraL {α : Type} (f : Ex → List α → α) : List Ex → List α
  | [] => []
  | t :: r => para f t :: paraL f r
end
theorem paraL_eq {α : Type} (f : Ex → List α → α) : ∀ l : List Ex, paraL f l = l.map (para f)
  | [] => by simp [paraL]
  | t :: r => by simp [paraL, paraL_eq f r]
theorem para_mk {α : Type} (f : Ex → List α → α) (o n : Int) (s : ByteArray) (w : Int) (l : List Ex) :
    para f (.mk o n s w l) = f (.mk o n s w l) (l.map (para f)) := by
  simp [para, paraL_eq]
/-- Induction over expressions. -/
theorem induct {P : Ex → Prop} (h : ∀ o n s w l, (∀ t ∈ l, P t) → P (.mk o n s w l)) : ∀ t, P t := by
  intro t
  refine Ex.rec (motive_1 := P) (motive_2 := fun l => ∀ t ∈ l, P t) ?_ ?_ ?_ t
  · intro o n s w l h1
    exact h o n s w l h1
  · intro t ht
    cases ht
  · intro t r ht hr x hx
    rcases List.mem_cons.1 hx with rfl | hx
    · exact ht
    · exact hr x hx
end Ex
/-- The same text. -/
def eqS (a b : ByteArray) : Bool := a.toList == b.toList
theorem eqS_iff (a b : ByteArray) : eqS a b = true ↔ a = b := by
  unfold eqS
  rw [beq_iff_eq, ByteArray.toList_eq, ByteArray.toList_eq]
  constructor
  · intro e
    cases a; cases b
    simp only at e
    congr
    exact Array.ext' e
  · rintro rfl; rfl
theorem eqS_f {a b : ByteArray} : eqS a b = false ↔ a ≠ b := by
  rw [← Bool.not_eq_true, eqS_iff]
/-- A variable: its name and its type. -/
structure Va where
  name : ByteArray
  ty : Ty
def has (vs : List Va) (s : ByteArray) : Bool := vs.any fun v => eqS v.name s
end Go.Proofs.YtianekkfehoedaaGreatDoor
/- Plain mathematics: the order of types is reflexive; equality of types; how many of a number of types are left. No program in sight. -/
namespace Go.Proofs.YtianekkfehoedaaGreatDoor
set_option linter.unusedSimpArgs false
set_option linter.unusedVariables false
set_option linter.unnecessarySimpa false
/-- All pairs of members, and as many of each. -/
def all2 {α β : Type} (p : α → β → Bool) : List α → List β → Bool
  | [], [] => true
  | x :: l, y :: m => p x y && all2 p l m
  | _, _ => false
/-- Equal types (the offset of the type itself apart). -/
def samT : Ty → Ty → Bool := Ty.para fun t re rf b => t.kind == b.kind && t.size == b.size && t.count == b.count && all2 (fun r y => r y) re b.elem && all2 (fun (p : Ty × (Ty → Bool)) y => p.1.off == y.off && p.2 y) (t.fields.zip rf) b.fields
end Go.Proofs.YtianekkfehoedaaGreatDoor
/- Plain mathematics: which names are words. No program in sight. -/
namespace Go.Proofs.YtianekkfehoedaaGreatDoor
set_option linter.unusedSimpArgs false
set_option linter.unusedVariables false
set_option linter.unnecessarySimpa false
open Go
def sp (b : UInt8) : Bool := b != 32
end Go.Proofs.YtianekkfehoedaaGreatDoor
