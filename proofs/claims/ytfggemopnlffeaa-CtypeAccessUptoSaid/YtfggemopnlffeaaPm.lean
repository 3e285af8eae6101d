/- Plain mathematics: types of the output language as finite trees, and what the program and the reference compute on them. No program in sight. -/
import Derived.Laws.Strings
import Derived.Lib.IndexMore
import Derived.Laws.RangeString
import Derived.KernelRfl

namespace Go.Proofs.Ytfggemopnlffeaa
set_option linter.unusedSimpArgs false
set_option linter.unusedVariables false
set_option linter.unnecessarySimpa false

/-- A type; `off` is the offset of a field (0 elsewhere). -/
inductive Ty where
  | mk (off kind size count : Int) (elem fields : List Ty)

namespace Ty
def off : Ty → Int | .mk o _ _ _ _ _ => o
def kind : Ty → Int | .mk _ k _ _ _ _ => k
def size : Ty → Int | .mk _ _ s _ _ _ => s
def count : Ty → Int | .mk _ _ _ c _ _ => c
def elem : Ty → List Ty | .mk _ _ _ _ es _ => es
def fields : Ty → List Ty | .mk _ _ _ _ _ fs => fs
def at_ (t : Ty) (o : Int) : Ty := .mk o t.kind t.size t.count t.elem t.fields

mutual
def para {α : Type} (f : Ty → List α → List α → α) : Ty → α
  | .mk o k s c es fs => f (.mk o k s c es fs) (paraL f es) (paraL f fs)
def paraL {α : Type} (f : Ty → List α → List α → α) : List Ty → List α
  | [] => []
  | t :: r => para f t :: paraL f r
end
theorem paraL_eq {α : Type} (f : Ty → List α → List α → α) : ∀ l : List Ty, paraL f l = l.map (para f)
  | [] => by simp [paraL]
  | t :: r => by simp [paraL, paraL_eq f r]
theorem para_mk {α : Type} (f : Ty → List α → List α → α) (o k s c : Int) (es fs : List Ty) :
    para f (.mk o k s c es fs) = f (.mk o k s c es fs) (es.map (para f)) (fs.map (para f)) := by
  simp [para, paraL_eq]

/-- Induction over types. -/
theorem induct {P : Ty → Prop} (h : ∀ o k s c es fs, (∀ t ∈ es, P t) → (∀ t ∈ fs, P t) → P (.mk o k s c es fs)) : ∀ t, P t := by
  intro t
  refine Ty.rec (motive_1 := P) (motive_2 := fun l => ∀ t ∈ l, P t) ?_ ?_ ?_ t
  · intro o k s c es fs h1 h2
    exact h o k s c es fs h1 h2
  · intro t ht
    cases ht
  · intro t r ht hr x hx
    rcases List.mem_cons.1 hx with rfl | hx
    · exact ht
    · exact hr x hx
end Ty

/-- At most n levels. -/
def shal : Ty → Int → Bool := Ty.para fun _ re rf n => decide (1 ≤ n) && re.all (· (n - 1)) && rf.all (· (n - 1))
theorem shal_mk (o k s c : Int) (es fs : List Ty) (n : Int) : shal (.mk o k s c es fs) n = (decide (1 ≤ n) && es.all (fun t => shal t (n - 1)) && fs.all (fun t => shal t (n - 1))) := by
  unfold shal
  rw [Ty.para_mk]
  simp only [List.all_map]
  rfl

/-- The size of a formed type, cut at 65537. -/
def siz : Ty → Int := Ty.para fun t re rf =>
  min (if t.kind == 1 || t.kind == 2 then t.size else if t.kind == 3 then 4 else if t.kind == 4 then t.count * re.headD 0
    else if t.kind == 5 then (List.zipWith (fun (f : Ty) r => f.off + r) t.fields rf).foldl max 0 else 0) 65537
theorem zip_map {α β γ : Type} (f : α → β → γ) (g : α → β) : ∀ l : List α, List.zipWith f l (l.map g) = l.map fun x => f x (g x)
  | [] => rfl
  | x :: l => by simp [zip_map f g l]
theorem siz_mk (o k s c : Int) (es fs : List Ty) : siz (.mk o k s c es fs) =
    min (if k == 1 || k == 2 then s else if k == 3 then 4 else if k == 4 then c * (es.map siz).headD 0
      else if k == 5 then (fs.map fun f => f.off + siz f).foldl max 0 else 0) 65537 := by
  have h : siz (.mk o k s c es fs) = _ := Ty.para_mk _ o k s c es fs
  rw [h]
  simp only [Ty.kind, Ty.size, Ty.count, Ty.fields, zip_map]
  rfl

/-- Is field number i at a place where it may be? -/
def fok (fs : List Ty) (i : Nat) : Bool :=
  decide (0 ≤ ((fs.map Ty.off).getD i 0)) && decide (((fs.map Ty.off).getD i 0) < 65536) && (i == 0 || decide ((fs.map Ty.off).getD (i - 1) 0 < (fs.map Ty.off).getD i 0))
def asc (fs : List Ty) : Bool := (List.range fs.length).all (fok fs)
/-- What is asked of a node itself, apart from its parts. -/
def base (k s c : Int) (ne nf : Nat) : Bool :=
  if k == 0 || k == 6 then s == 0 && c == 0 && ne == 0 && nf == 0
  else if k == 1 || k == 2 then (s == 1 || s == 2 || s == 4) && c == 0 && ne == 0 && nf == 0
  else if k == 3 then s == 0 && c == 0 && ne == 1 && nf == 0
  else if k == 4 then s == 0 && decide (1 ≤ c) && decide (c ≤ 65536) && ne == 1 && nf == 0
  else if k == 5 then s == 0 && c == 0 && ne == 0
  else false
/-- Well-formed apart from limits. -/
def frm : Ty → Bool := Ty.para fun t re rf => base t.kind t.size t.count t.elem.length t.fields.length && asc t.fields && rf.all id && re.all id
theorem frm_mk (o k s c : Int) (es fs : List Ty) : frm (.mk o k s c es fs) = (base k s c es.length fs.length && asc fs && fs.all frm && es.all frm) := by
  have h : frm (.mk o k s c es fs) = _ := Ty.para_mk _ o k s c es fs
  rw [h]
  simp only [Ty.kind, Ty.size, Ty.count, Ty.fields, Ty.elem, List.all_map]
  rfl
/-- Within the limits. -/
def wit : Ty → Bool := Ty.para fun t re rf => decide (t.fields.length ≤ 64) && decide (siz t ≤ 65536) && rf.all id && re.all id
theorem wit_mk (o k s c : Int) (es fs : List Ty) : wit (.mk o k s c es fs) = (decide (fs.length ≤ 64) && decide (siz (.mk o k s c es fs) ≤ 65536) && fs.all wit && es.all wit) := by
  have h : wit (.mk o k s c es fs) = _ := Ty.para_mk _ o k s c es fs
  rw [h]
  simp only [Ty.fields, List.all_map]
  rfl
/-- The error of a type. -/
def chk (t : Ty) : Int := if !shal t 64 then 20 else if !frm t then 2 else if !wit t then 6 else 0
def good (t : Ty) : Bool := chk t == 0

/-- What a formed node is like. -/
theorem frm_inv {o k s c : Int} {es fs : List Ty} (h : frm (.mk o k s c es fs) = true) :
    base k s c es.length fs.length = true ∧ (∀ i, i < fs.length → fok fs i = true) ∧ (∀ t ∈ fs, frm t = true) ∧ (∀ t ∈ es, frm t = true) := by
  rw [frm_mk] at h
  simp only [Bool.and_eq_true, List.all_eq_true, asc, List.mem_range] at h
  exact ⟨h.1.1.1, h.1.1.2, h.1.2, h.2⟩
theorem base_cases {k s c : Int} {ne nf : Nat} (h : base k s c ne nf = true) :
    ((k = 0 ∨ k = 6) ∧ s = 0 ∧ c = 0 ∧ ne = 0 ∧ nf = 0) ∨ ((k = 1 ∨ k = 2) ∧ (s = 1 ∨ s = 2 ∨ s = 4) ∧ c = 0 ∧ ne = 0 ∧ nf = 0) ∨ (k = 3 ∧ s = 0 ∧ c = 0 ∧ ne = 1 ∧ nf = 0) ∨
    (k = 4 ∧ s = 0 ∧ 1 ≤ c ∧ c ≤ 65536 ∧ ne = 1 ∧ nf = 0) ∨ (k = 5 ∧ s = 0 ∧ c = 0 ∧ ne = 0) := by
  unfold base at h
  split at h
  · rename_i hk; simp at h hk; omega
  · split at h
    · rename_i hk; simp at h hk; omega
    · split at h
      · rename_i hk; simp at h hk; omega
      · split at h
        · rename_i hk; simp at h hk; omega
        · split at h
          · rename_i hk; simp at h hk; omega
          · cases h
theorem fok_off {fs : List Ty} {i : Nat} (hi : i < fs.length) (h : fok fs i = true) : 0 ≤ fs[i].off ∧ fs[i].off < 65536 := by
  unfold fok at h
  simp only [Bool.and_eq_true, decide_eq_true_eq] at h
  have e : (fs.map Ty.off).getD i 0 = fs[i].off := by simp [List.getD, hi]
  rw [e] at h
  exact h.1
theorem foldl_max_ge (l : List Int) : ∀ a : Int, a ≤ l.foldl max a := by
  induction l with
  | nil => intro a; exact Int.le_refl _
  | cons x l ih => intro a; exact Int.le_trans (Int.le_max_left a x) (ih _)
theorem foldl_max_le (l : List Int) (b : Int) (h : ∀ x ∈ l, x ≤ b) : ∀ a : Int, a ≤ b → l.foldl max a ≤ b := by
  induction l with
  | nil => intro a ha; exact ha
  | cons x l ih =>
    intro a ha
    exact ih (fun y hy => h y (List.mem_cons_of_mem _ hy)) _ (Int.max_le.2 ⟨ha, h x (List.mem_cons_self ..)⟩)
theorem siz_le (t : Ty) : siz t ≤ 65537 := by
  cases t
  rw [siz_mk]
  omega
theorem siz_nonneg : ∀ t : Ty, frm t = true → 0 ≤ siz t := by
  refine Ty.induct fun o k s c es fs hE hF h => ?_
  obtain ⟨hb, hf, hfs, hes⟩ := frm_inv h
  rw [siz_mk]
  rcases base_cases hb with h1 | h1 | h1 | h1 | h1
  · obtain ⟨h1, rfl, rfl, _, _⟩ := h1
    rcases h1 with rfl | rfl <;> simp <;> omega
  · obtain ⟨h1, h2, _⟩ := h1
    have : (k == 1 || k == 2) = true := by rcases h1 with rfl | rfl <;> rfl
    rw [this]
    simp; omega
  · obtain ⟨rfl, _⟩ := h1
    simp; omega
  · obtain ⟨rfl, _, h2, h3, h4, _⟩ := h1
    match es, h4 with
    | [e], _ =>
      have := hE e (List.mem_singleton.2 rfl) (hes e (List.mem_singleton.2 rfl))
      have h5 : 0 ≤ c * siz e := Int.mul_nonneg (by omega) this
      simp
      omega
  · obtain ⟨rfl, _⟩ := h1
    have := foldl_max_ge (fs.map fun f => f.off + siz f) 0
    simp
    omega

end Go.Proofs.Ytfggemopnlffeaa
/- Plain mathematics: the order of types. -/
namespace Go.Proofs.Ytfggemopnlffeaa
set_option linter.unusedSimpArgs false
set_option linter.unusedVariables false
set_option linter.unnecessarySimpa false

/-- a is below b. -/
def subT (a b : Ty) : Bool := Ty.para (α := Ty → Bool) (fun t re rf a =>
  if a.kind == 0 || t.kind == 6 then true
  else if a.kind != t.kind then false
  else if t.kind == 1 || t.kind == 2 then a.size == t.size
  else if t.kind == 3 then (match a.elem, re with | x :: _, r :: _ => r x | _, _ => false)
  else if t.kind == 4 then decide (t.count ≤ a.count) && (match a.elem, re with | x :: _, r :: _ => r x | _, _ => false)
  else (List.zipWith (fun (f : Ty) r => a.fields.any fun x => x.off == f.off && r x) t.fields rf).all id) b a
def hd2 (f : Ty → Ty → Bool) : List Ty → List Ty → Bool
  | x :: _, y :: _ => f x y
  | _, _ => false
theorem subT_mk (a : Ty) (o k s c : Int) (es fs : List Ty) : subT a (.mk o k s c es fs) =
    if a.kind == 0 || k == 6 then true
    else if a.kind != k then false
    else if k == 1 || k == 2 then a.size == s
    else if k == 3 then hd2 subT a.elem es
    else if k == 4 then decide (c ≤ a.count) && hd2 subT a.elem es
    else fs.all fun f => a.fields.any fun x => x.off == f.off && subT x f := by
  have hh : ∀ l : List Ty, (match l, es.map (fun b a => subT a b) with | x :: _, r :: _ => r x | _, _ => false) = hd2 subT l es := by
    intro l
    cases l <;> cases es <;> rfl
  have h : subT a (.mk o k s c es fs) = _ := congrFun (Ty.para_mk _ o k s c es fs) a
  rw [h]
  simp only [Ty.kind, Ty.size, Ty.count, Ty.fields, zip_map, List.all_map]
  have hm : es.map (Ty.para (α := Ty → Bool) (fun t re rf a =>
    if a.kind == 0 || t.kind == 6 then true
    else if a.kind != t.kind then false
    else if t.kind == 1 || t.kind == 2 then a.size == t.size
    else if t.kind == 3 then (match a.elem, re with | x :: _, r :: _ => r x | _, _ => false)
    else if t.kind == 4 then decide (t.count ≤ a.count) && (match a.elem, re with | x :: _, r :: _ => r x | _, _ => false)
    else (List.zipWith (fun (f : Ty) r => a.fields.any fun x => x.off == f.off && r x) t.fields rf).all id)) = es.map (fun b a => subT a b) := rfl
  simp only [Ty.kind, Ty.size, Ty.count, Ty.fields] at hm
  rw [hm, hh]
  rfl

theorem subT_mk2 (oa ka sa ca : Int) (ea fa : List Ty) (o k s c : Int) (es fs : List Ty) : subT (.mk oa ka sa ca ea fa) (.mk o k s c es fs) =
    if ka == 0 || k == 6 then true
    else if ka != k then false
    else if k == 1 || k == 2 then sa == s
    else if k == 3 then hd2 subT ea es
    else if k == 4 then decide (c ≤ ca) && hd2 subT ea es
    else fs.all fun f => fa.any fun x => x.off == f.off && subT x f := subT_mk _ o k s c es fs

/-- The place of the first field at an offset, or -1. -/
def findI (fs : List Ty) (o : Int) : Int := match fs.findIdx? (fun f => f.off == o) with
  | some k => k
  | none => -1
theorem findI_none {fs : List Ty} {o : Int} (h : ∀ j (hj : j < fs.length), fs[j].off ≠ o) : findI fs o = -1 := by
  unfold findI
  have : fs.findIdx? (fun f => f.off == o) = none := by
    rw [List.findIdx?_eq_none_iff]
    intro x hx
    obtain ⟨j, hj, rfl⟩ := List.getElem_of_mem hx
    simpa using h j hj
  rw [this]
theorem findI_some {fs : List Ty} {o : Int} {k : Nat} (hk : k < fs.length) (ho : fs[k].off = o) (h : ∀ j (hj : j < fs.length), j < k → fs[j].off ≠ o) : findI fs o = k := by
  unfold findI
  have : fs.findIdx? (fun f => f.off == o) = some k := by
    rw [List.findIdx?_eq_some_iff_getElem]
    refine ⟨hk, by simpa using ho, fun j hj => ?_⟩
    simpa using h j (by omega) hj
  rw [this]
theorem asc_lt {fs : List Ty} (h : ∀ i, i < fs.length → fok fs i = true) : ∀ (j : Nat) (hj : j < fs.length) (i : Nat) (hi : i < j), fs[i].off < fs[j].off := by
  intro j
  induction j with
  | zero => intro _ i hi; omega
  | succ j ih =>
    intro hj i hi
    have h1 := h (j + 1) hj
    unfold fok at h1
    simp only [Bool.and_eq_true, Bool.or_eq_true, decide_eq_true_eq, Nat.add_sub_cancel] at h1
    have e1 : (fs.map Ty.off).getD (j + 1) 0 = fs[j + 1].off := by simp [List.getD, hj]
    have e2 : (fs.map Ty.off).getD j 0 = fs[j].off := by simp [List.getD, show j < fs.length by omega]
    rw [e1, e2] at h1
    have h2 : fs[j].off < fs[j + 1].off := by
      rcases h1.2 with h | h
      · simp at h
      · exact h
    rcases Nat.lt_succ_iff_lt_or_eq.1 hi with h3 | rfl
    · have := ih (by omega) i h3
      omega
    · exact h2
/-- In a list of ascending offsets one field at most is at an offset. -/
theorem any_at {fs : List Ty} (h : ∀ i, i < fs.length → fok fs i = true) (P : Ty → Bool) {k : Nat} (hk : k < fs.length) {o : Int} (ho : fs[k].off = o) :
    (fs.any fun x => x.off == o && P x) = P fs[k] := by
  rw [Bool.eq_iff_iff, List.any_eq_true]
  constructor
  · rintro ⟨x, hx, hp⟩
    obtain ⟨j, hj, rfl⟩ := List.getElem_of_mem hx
    simp only [Bool.and_eq_true, beq_iff_eq] at hp
    have : j = k := by
      rcases Nat.lt_trichotomy j k with h1 | h1 | h1
      · have := asc_lt h k hk j h1; omega
      · exact h1
      · have := asc_lt h j hj k h1; omega
    subst this
    exact hp.2
  · intro hp
    exact ⟨fs[k], List.getElem_mem hk, by simp [ho, hp]⟩
theorem any_none {fs : List Ty} (P : Ty → Bool) {o : Int} (h : ∀ j (hj : j < fs.length), fs[j].off ≠ o) : (fs.any fun x => x.off == o && P x) = false := by
  rw [List.any_eq_false]
  intro x hx
  obtain ⟨j, hj, rfl⟩ := List.getElem_of_mem hx
  have := h j hj
  simp [this]

end Go.Proofs.Ytfggemopnlffeaa
/- Plain mathematics: the type of an access. -/
namespace Go.Proofs.Ytfggemopnlffeaa
set_option linter.unusedSimpArgs false
set_option linter.unusedVariables false
set_option linter.unnecessarySimpa false

/-- The first part of a list of results, from the end, that is something. -/
def lastSome {α : Type} : List (Option α) → Option α
  | [] => none
  | x :: r => match lastSome r with
    | some y => some y
    | none => x
theorem lastSome_none {α : Type} : ∀ {l : List (Option α)}, (∀ i (h : i < l.length), l[i] = none) → lastSome l = none
  | [], _ => rfl
  | x :: r, h => by
    have h1 : lastSome r = none := lastSome_none fun i hi => h (i + 1) (by simpa using hi)
    have h2 : x = none := h 0 (by simp)
    unfold lastSome
    rw [h1, h2]
theorem lastSome_some {α : Type} {y : α} : ∀ {l : List (Option α)} {k : Nat} (hk : k < l.length), l[k] = some y → (∀ i (h : i < l.length), k < i → l[i] = none) → lastSome l = some y
  | x :: r, 0, _, hy, h => by
    have h1 : lastSome r = none := lastSome_none fun i hi => h (i + 1) (by simpa using hi) (by omega)
    unfold lastSome
    rw [h1]
    exact hy
  | x :: r, k + 1, hk, hy, h => by
    have h1 : lastSome r = some y := lastSome_some (k := k) (by simpa using hk) hy fun i hi hki => h (i + 1) (by simpa using hi) (by omega)
    unfold lastSome
    rw [h1]

/-- What an access finds in a formed type. -/
def fat : Ty → Int → Int → Option Ty := Ty.para fun t re rf off w =>
  if t.kind == 0 || t.kind == 6 then (if 0 ≤ off then some (t.at_ 0) else none)
  else if t.kind == 1 || t.kind == 2 || t.kind == 3 then (if off == 0 && w == siz t then some (t.at_ 0) else none)
  else if t.kind == 4 then (if off < 0 ∨ siz t ≤ off then none else match re, t.elem with | r :: _, e :: _ => r (off % siz e) w | _, _ => none)
  else if off < 0 then none
  else lastSome (List.zipWith (fun (f : Ty) r => r (off - f.off) w) t.fields rf)
theorem fat_mk (o k s c : Int) (es fs : List Ty) (off w : Int) : fat (.mk o k s c es fs) off w =
    if k == 0 || k == 6 then (if 0 ≤ off then some (.mk 0 k s c es fs) else none)
    else if k == 1 || k == 2 || k == 3 then (if off == 0 && w == siz (.mk o k s c es fs) then some (.mk 0 k s c es fs) else none)
    else if k == 4 then (if off < 0 ∨ siz (.mk o k s c es fs) ≤ off then none else match es with | e :: _ => fat e (off % siz e) w | [] => none)
    else if off < 0 then none
    else lastSome (fs.map fun f => fat f (off - f.off) w) := by
  have h : fat (.mk o k s c es fs) = _ := Ty.para_mk _ o k s c es fs
  rw [h]
  cases es
  · simp only [Ty.kind, Ty.fields, Ty.elem, zip_map, List.map_nil]
    rfl
  · simp only [Ty.kind, Ty.fields, Ty.elem, zip_map, List.map_cons]
    rfl
theorem fat_neg : ∀ (t : Ty) (off w : Int), off < 0 → fat t off w = none := by
  intro t off w h
  cases t with
  | mk o k s c es fs =>
    rw [fat_mk]
    split
    · rw [if_neg (by omega)]
    · split
      · have : (off == 0) = false := by simp; omega
        rw [this]; rfl
      · split
        · rw [if_pos (Or.inl h)]
        · first | rfl | rw [if_pos h]

/-- The type that the program hands back where there is none. -/
def failP : Ty → Int → Int → Ty := Ty.para fun t re _ off w =>
  if t.kind == 4 && !decide (off < 0 ∨ siz t ≤ off) then (match re, t.elem with | r :: _, e :: _ => r (off % siz e) w | _, _ => t.at_ 0) else t.at_ 0
theorem failP_mk (o k s c : Int) (es fs : List Ty) (off w : Int) : failP (.mk o k s c es fs) off w =
    if k == 4 && !decide (off < 0 ∨ siz (.mk o k s c es fs) ≤ off) then (match es with | e :: _ => failP e (off % siz e) w | [] => .mk 0 k s c es fs) else .mk 0 k s c es fs := by
  have h : failP (.mk o k s c es fs) = _ := Ty.para_mk _ o k s c es fs
  rw [h]
  cases es
  · simp only [Ty.kind, Ty.elem, List.map_nil]
    rfl
  · simp only [Ty.kind, Ty.elem, List.map_cons]
    rfl
/-- The type that says nothing. -/
def tz : Ty := .mk 0 0 0 0 [] []
/-- What an access finds. -/
def fieldA (t : Ty) (off w : Int) : Option Ty := if good t && (w == 1 || w == 2 || w == 4) then fat t off w else none
theorem good_frm {t : Ty} (h : good t = true) : frm t = true := by
  unfold good chk at h
  cases h1 : frm t with
  | true => rfl
  | false =>
    rw [h1] at h
    split at h <;> simp at h
theorem lastSome_mem {α : Type} {y : α} : ∀ {l : List (Option α)}, lastSome l = some y → some y ∈ l
  | x :: r, h => by
    unfold lastSome at h
    split at h
    · rename_i z hz
      cases h
      exact List.mem_cons_of_mem _ (lastSome_mem hz)
    · rw [h]; exact List.mem_cons_self ..
/-- What is found is a part. -/
theorem fat_part {P : Ty → Prop} (h0 : ∀ t, P t → P (t.at_ 0)) (hE : ∀ o k s c es fs, P (.mk o k s c es fs) → (∀ t ∈ es, P t) ∧ ∀ t ∈ fs, P t) : ∀ (t : Ty) (off w : Int) (x : Ty), P t → fat t off w = some x → P x := by
  refine Ty.induct (P := fun t => ∀ (off w : Int) (x : Ty), P t → fat t off w = some x → P x) fun o k s c es fs ihE ihF off w x hp hx => ?_
  have hz := h0 _ hp
  obtain ⟨h1, h2⟩ := hE o k s c es fs hp
  rw [fat_mk] at hx
  split at hx
  · split at hx
    · cases hx; exact hz
    · cases hx
  · split at hx
    · split at hx
      · cases hx; exact hz
      · cases hx
    · split at hx
      · split at hx
        · cases hx
        · split at hx
          · rename_i e r _
            exact ihE e (by simp) _ _ _ (h1 e (by simp)) hx
          · cases hx
      · split at hx
        · cases hx
        · obtain ⟨f, hf, hf2⟩ := List.mem_map.1 (lastSome_mem hx)
          exact ihF f hf _ _ _ (h2 f hf) hf2
end Go.Proofs.Ytfggemopnlffeaa
/- Plain mathematics: expressions as finite trees, and what the program and the reference compute on them. No program in sight. -/
namespace Go.Proofs.Ytfggemopnlffeaa
set_option linter.unusedSimpArgs false
set_option linter.unusedVariables false
set_option linter.unnecessarySimpa false

/-- An expression. -/
inductive Ex where
  | mk (op n : Int) (name : ByteArray) (width : Int) (l : List Ex)

namespace Ex
def op : Ex → Int | .mk o _ _ _ _ => o
def n : Ex → Int | .mk _ n _ _ _ => n
def name : Ex → ByteArray | .mk _ _ s _ _ => s
def width : Ex → Int | .mk _ _ _ w _ => w
def l : Ex → List Ex | .mk _ _ _ _ l => l

mutual
def para {α : Type} (f : Ex → List α → α) : Ex → α
  | .mk o n s w l => f (.mk o n s w l) (paraL f l)
def paraL {α : Type} (f : Ex → List α → α) : List Ex → List α
  | [] => []
  | t :: r => para f t :: paraL f r
end
theorem paraL_eq {α : Type} (f : Ex → List α → α) : ∀ l : List Ex, paraL f l = l.map (para f)
  | [] => by simp [paraL]
  | t :: r => by simp [paraL, paraL_eq f r]
theorem para_mk {α : Type} (f : Ex → List α → α) (o n : Int) (s : ByteArray) (w : Int) (l : List Ex) :
    para f (.mk o n s w l) = f (.mk o n s w l) (l.map (para f)) := by
  simp [para, paraL_eq]

/-- Induction over expressions. -/
theorem induct {P : Ex → Prop} (h : ∀ o n s w l, (∀ t ∈ l, P t) → P (.mk o n s w l)) : ∀ t, P t := by
  intro t
  refine Ex.rec (motive_1 := P) (motive_2 := fun l => ∀ t ∈ l, P t) ?_ ?_ ?_ t
  · intro o n s w l h1
    exact h o n s w l h1
  · intro t ht
    cases ht
  · intro t r ht hr x hx
    rcases List.mem_cons.1 hx with rfl | hx
    · exact ht
    · exact hr x hx
end Ex

/-- At most n levels. -/
def esh : Ex → Int → Bool := Ex.para fun _ r n => decide (1 ≤ n) && r.all (· (n - 1))
theorem esh_mk (o k : Int) (s : ByteArray) (w : Int) (l : List Ex) (n : Int) : esh (.mk o k s w l) n = (decide (1 ≤ n) && l.all (fun t => esh t (n - 1))) := by
  unfold esh
  rw [Ex.para_mk]
  simp only [List.all_map]
  rfl

/-! ### Names -/
/-- The same text. -/
def eqS (a b : ByteArray) : Bool := a.toList == b.toList
theorem eqS_iff (a b : ByteArray) : eqS a b = true ↔ a = b := by
  unfold eqS
  rw [beq_iff_eq, ByteArray.toList_eq, ByteArray.toList_eq]
  constructor
  · intro e
    cases a; cases b
    simp only at e
    congr
    exact Array.ext' e
  · rintro rfl; rfl
theorem eqS_refl (a : ByteArray) : eqS a a = true := (eqS_iff a a).2 rfl
theorem eqS_f {a b : ByteArray} : eqS a b = false ↔ a ≠ b := by
  rw [← Bool.not_eq_true, eqS_iff]
/-- A byte that may stand in a name, at place i. -/
def okB (i : Nat) (b : Int) : Bool := (decide (b ≥ 97) && decide (b ≤ 122)) || (decide (b ≥ 65) && decide (b ≤ 90)) || b == 95 || b == 46 || (decide (i ≠ 0) && decide (48 ≤ b) && decide (b ≤ 57))
def bAt (s : ByteArray) (i : Nat) : Int := (s.data.toList.getD i 0).toNat
def okN (s : ByteArray) : Bool := (List.range s.size).all fun i => okB i (bAt s i)
def words : List ByteArray := ["break", "call", "case", "continue", "data", "else", "exec", "func", "goto", "halt", "if", "in", "loop", "out", "return", "switch", "var", "while", "write", "load1", "load2", "load4", "sext1", "sext2", "store1", "store2", "store4"].map String.toUTF8
def nameT (s : ByteArray) : Bool := okN s && !words.any (eqS · s) && decide (0 < s.size) && decide (s.size ≤ 32)

/-! ### Formed expressions -/
def ebase (o n : Int) (s : ByteArray) (w : Int) (m : Nat) : Bool :=
  if o == 1 then eqS s ByteArray.empty && w == 0 && m == 0
  else if o == 2 then nameT s && n == 0 && w == 0 && m == 0
  else if decide (o ≥ 3) && decide (o ≤ 15) then n == 0 && eqS s ByteArray.empty && w == 0 && m == 2
  else if o == 16 || o == 17 then n == 0 && eqS s ByteArray.empty && w == 0 && m == 1
  else if o == 18 then n == 0 && eqS s ByteArray.empty && (w == 1 || w == 2 || w == 4) && m == 1
  else if o == 19 then n == 0 && eqS s ByteArray.empty && (w == 1 || w == 2) && m == 1
  else false
def efm : Ex → Bool := Ex.para fun e r => ebase e.op e.n e.name e.width e.l.length && r.all id
theorem efm_mk (o n : Int) (s : ByteArray) (w : Int) (l : List Ex) : efm (.mk o n s w l) = (ebase o n s w l.length && l.all efm) := by
  unfold efm
  rw [Ex.para_mk]
  simp only [List.all_map]
  rfl

/-- A variable: its name and its type. -/
structure Va where
  name : ByteArray
  ty : Ty
def has (vs : List Va) (s : ByteArray) : Bool := vs.any fun v => eqS v.name s
/-- All its names are among vs. -/
def knw (vs : List Va) : Ex → Bool := Ex.para fun e r => if e.op == 2 then has vs e.name else r.all id
theorem knw_mk (vs : List Va) (o n : Int) (s : ByteArray) (w : Int) (l : List Ex) : knw vs (.mk o n s w l) = if o == 2 then has vs s else l.all (knw vs) := by
  unfold knw
  rw [Ex.para_mk]
  simp only [List.all_map]
  rfl
/-- What CheckExpr says: 0, or the number of an error. -/
def chkE (vs : List Va) (e : Ex) : Int := if !esh e 64 then 20 else if !efm e then 2 else if !knw vs e then 17 else 0
end Go.Proofs.Ytfggemopnlffeaa
/- Plain mathematics: the order of types is reflexive; equality of types; how many of a number of types are left. No program in sight. -/
namespace Go.Proofs.Ytfggemopnlffeaa
set_option linter.unusedSimpArgs false
set_option linter.unusedVariables false
set_option linter.unnecessarySimpa false

theorem subT_refl : ∀ t : Ty, frm t = true → subT t t = true := by
  refine Ty.induct fun o k s c es fs hE hF h => ?_
  obtain ⟨hb, hf, hfs, hes⟩ := frm_inv h
  rw [subT_mk2]
  rcases base_cases hb with h1 | h1 | h1 | h1 | h1
  · obtain ⟨h1, _⟩ := h1
    rcases h1 with rfl | rfl <;> simp
  · obtain ⟨h1, _⟩ := h1
    rcases h1 with rfl | rfl <;> simp
  · obtain ⟨rfl, _, _, h4, _⟩ := h1
    obtain ⟨x, rfl⟩ := List.length_eq_one_iff.1 h4
    simp [hd2, hE x (by simp) (hes x (by simp))]
  · obtain ⟨rfl, _, _, _, h4, _⟩ := h1
    obtain ⟨x, rfl⟩ := List.length_eq_one_iff.1 h4
    simp [hd2, hE x (by simp) (hes x (by simp))]
  · obtain ⟨rfl, _⟩ := h1
    have : (fs.all fun f => fs.any fun x => x.off == f.off && subT x f) = true := by
      rw [List.all_eq_true]
      intro f hm
      rw [List.any_eq_true]
      exact ⟨f, hm, by simp [hF f hm (hfs f hm)]⟩
    simp [this]

/-- How many of n are left after those in the members of a list, one after the other while any are left. -/
def gfold {α : Type} (f : α → Int → Int) (l : List α) (n : Int) : Int := l.foldl (fun m x => if 0 < m then f x m else m) n
theorem gfold_take {α : Type} {f : α → Int → Int} {l : List α} {m : Nat} (h : m < l.length) {n : Int} (hp : 0 < gfold f (l.take m) n) : gfold f (l.take (m + 1)) n = f l[m] (gfold f (l.take m) n) := by
  rw [List.take_succ_eq_append_getElem h]
  unfold gfold at hp ⊢
  rw [List.foldl_append, List.foldl_cons, List.foldl_nil, if_pos hp]
theorem gfold_bound {α : Type} {f : α → Int → Int} {l : List α} (h : ∀ t ∈ l, ∀ n, 0 < n → 0 ≤ f t n ∧ f t n < n) : ∀ n, 0 ≤ n → 0 ≤ gfold f l n ∧ gfold f l n ≤ n := by
  induction l with
  | nil => intro n hn; exact ⟨hn, Int.le_refl _⟩
  | cons t l ih =>
    intro n hn
    have e : gfold f (t :: l) n = gfold f l (if 0 < n then f t n else n) := rfl
    rw [e]
    have h2 : 0 ≤ (if 0 < n then f t n else n) ∧ (if 0 < n then f t n else n) ≤ n := by
      split
      · rename_i hp; have := h t (by simp) n hp; omega
      · omega
    have h3 := ih (fun x hx => h x (by simp [hx])) _ h2.1
    omega
theorem gfold_stop {α : Type} {f : α → Int → Int} : ∀ (l : List α), gfold f l 0 = 0
  | [] => rfl
  | x :: l => gfold_stop l
theorem gfold_all {α : Type} {f : α → Int → Int} {l : List α} (hb : ∀ t ∈ l, ∀ n, 0 < n → 0 ≤ f t n ∧ f t n < n) {m : Nat} {n : Int} (hn : 0 ≤ n) (h : ¬ 0 < gfold f (l.take m) n) : gfold f l n = gfold f (l.take m) n := by
  have h1 := gfold_bound (l := l.take m) (fun t ht => hb t (List.mem_of_mem_take ht)) n hn
  have h0 : gfold f (l.take m) n = 0 := by omega
  have e : gfold f l n = gfold f (l.drop m) (gfold f (l.take m) n) := by
    unfold gfold
    rw [← List.foldl_append, List.take_append_drop]
  rw [e, h0, gfold_stop]

/-- How many of n types are left after those in a type. -/
def lft : Ty → Int → Int := Ty.para fun _ re rf n => gfold (fun r => r) rf (gfold (fun r => r) re (n - 1))
theorem gfold_map {α β : Type} (g : α → β) (f : β → Int → Int) (l : List α) (n : Int) : gfold f (l.map g) n = gfold (fun x => f (g x)) l n := by
  simp only [gfold, List.foldl_map]
theorem lft_mk (o k s c : Int) (es fs : List Ty) (n : Int) : lft (.mk o k s c es fs) n = gfold lft fs (gfold lft es (n - 1)) := by
  unfold lft
  rw [Ty.para_mk]
  simp only [gfold_map]
theorem lft_bound : ∀ t : Ty, ∀ n, 0 < n → 0 ≤ lft t n ∧ lft t n < n := by
  refine Ty.induct fun o k s c es fs hE hF n hn => ?_
  rw [lft_mk]
  have h1 := gfold_bound hE (n - 1) (by omega)
  have h2 := gfold_bound hF _ h1.1
  omega
/-- How many of n expressions are left after those in an expression. -/
def exn : Ex → Int → Int := Ex.para fun _ r n => gfold (fun r => r) r (n - 1)
theorem exn_mk (o k : Int) (s : ByteArray) (w : Int) (l : List Ex) (n : Int) : exn (.mk o k s w l) n = gfold exn l (n - 1) := by
  unfold exn
  rw [Ex.para_mk]
  simp only [gfold_map]
theorem exn_bound : ∀ t : Ex, ∀ n, 0 < n → 0 ≤ exn t n ∧ exn t n < n := by
  refine Ex.induct fun o k s w l h n hn => ?_
  rw [exn_mk]
  have h1 := gfold_bound h (n - 1) (by omega)
  omega

/-- All pairs of members, and as many of each. -/
def all2 {α β : Type} (p : α → β → Bool) : List α → List β → Bool
  | [], [] => true
  | x :: l, y :: m => p x y && all2 p l m
  | _, _ => false
theorem all2_iff {α β : Type} {p : α → β → Bool} : ∀ {l : List α} {m : List β}, all2 p l m = true ↔ l.length = m.length ∧ ∀ i (h : i < l.length) (h' : i < m.length), p l[i] m[i] = true
  | [], [] => by simp [all2]
  | [], y :: m => by simp [all2]
  | x :: l, [] => by simp [all2]
  | x :: l, y :: m => by
    simp only [all2, Bool.and_eq_true, all2_iff, List.length_cons, Nat.add_right_cancel_iff]
    constructor
    · rintro ⟨h1, h2, h3⟩
      refine ⟨h2, fun i hi hi' => ?_⟩
      cases i with
      | zero => exact h1
      | succ i => exact h3 i (by omega) (by omega)
    · rintro ⟨h1, h2⟩
      exact ⟨h2 0 (by omega) (by omega), h1, fun i hi hi' => h2 (i + 1) (by omega) (by omega)⟩
theorem all2_map {α β γ : Type} (g : γ → α) (p : α → β → Bool) : ∀ (l : List γ) (m : List β), all2 p (l.map g) m = all2 (fun x y => p (g x) y) l m
  | [], [] => rfl
  | [], _ :: _ => rfl
  | _ :: _, [] => rfl
  | x :: l, y :: m => by simp [all2, all2_map g p l m]
/-- Equal types (the offset of the type itself apart). -/
def samT : Ty → Ty → Bool := Ty.para fun t re rf b => t.kind == b.kind && t.size == b.size && t.count == b.count && all2 (fun r y => r y) re b.elem && all2 (fun (p : Ty × (Ty → Bool)) y => p.1.off == y.off && p.2 y) (t.fields.zip rf) b.fields
theorem samT_mk (o k s c : Int) (es fs : List Ty) (b : Ty) : samT (.mk o k s c es fs) b = (k == b.kind && s == b.size && c == b.count && all2 samT es b.elem && all2 (fun x y => x.off == y.off && samT x y) fs b.fields) := by
  have h : samT (.mk o k s c es fs) b = _ := congrFun (Ty.para_mk _ o k s c es fs) b
  rw [h]
  simp only [Ty.kind, Ty.size, Ty.count, Ty.fields]
  congr 1
  · rw [all2_map]; rfl
  · have e : ∀ (g : Ty → Ty → Bool) (l : List Ty), l.zip (l.map g) = l.map fun x => (x, g x) := by
      intro g l
      induction l with
      | nil => rfl
      | cons x l ih => simp [ih]
    rw [e, all2_map]
    rfl
theorem all2_refl {α : Type} {p : α → α → Bool} : ∀ {l : List α}, (∀ x ∈ l, p x x = true) → all2 p l l = true
  | [], _ => rfl
  | x :: l, h => by simp [all2, h x (by simp), all2_refl (l := l) fun y hy => h y (List.mem_cons_of_mem _ hy)]
theorem samT_refl : ∀ t : Ty, samT t t = true := by
  refine Ty.induct fun o k s c es fs hE hF => ?_
  rw [samT_mk]
  have h1 := all2_refl hE
  have h2 : all2 (fun x y : Ty => x.off == y.off && samT x y) fs fs = true := all2_refl fun x hx => by simp [hF x hx]
  simp [Ty.kind, Ty.size, Ty.count, Ty.elem, Ty.fields, h1, h2]
/-- Equal types are equal, the offset of the type itself apart. -/
theorem all2_eq {α : Type} {p : α → α → Bool} : ∀ {l m : List α}, (∀ x ∈ l, ∀ y, p x y = true → x = y) → all2 p l m = true → l = m
  | [], [], _, _ => rfl
  | [], _ :: _, _, h => by simp [all2] at h
  | _ :: _, [], _, h => by simp [all2] at h
  | x :: l, y :: m, hp, h => by
    simp only [all2, Bool.and_eq_true] at h
    rw [hp x (by simp) y h.1, all2_eq (fun z hz => hp z (by simp [hz])) h.2]
end Go.Proofs.Ytfggemopnlffeaa
/- Plain mathematics: which names are words. No program in sight. -/
namespace Go.Proofs.Ytfggemopnlffeaa
set_option linter.unusedSimpArgs false
set_option linter.unusedVariables false
set_option linter.unnecessarySimpa false
open Go

def sp (b : UInt8) : Bool := b != 32
/-- What stands between two blanks. -/
def tween : List UInt8 → List (List UInt8)
  | [] => []
  | c :: t => if c == 32 && !(t.dropWhile sp).isEmpty then t.takeWhile sp :: tween t else tween t
theorem prefix_word : ∀ (s t : List UInt8), (∀ b ∈ s, b ≠ 32) → (s ++ [32]).isPrefixOf t = (t.takeWhile sp == s && !(t.dropWhile sp).isEmpty)
  | [], [], _ => rfl
  | [], c :: t, _ => by
    by_cases h : c = 32
    · subst h; rfl
    · have h2 : sp c = true := by simp [sp, h]
      have h3 : ((32 : UInt8) == c) = false := by simp; exact fun e => h e.symm
      simp [List.isPrefixOf, h2, h3]
  | a :: s, [], _ => rfl
  | a :: s, c :: t, h => by
    have ha : a ≠ 32 := h a (by simp)
    have ih := prefix_word s t (fun b hb => h b (by simp [hb]))
    simp only [List.cons_append, List.isPrefixOf]
    rw [ih]
    by_cases hc : c = 32
    · subst hc
      have h3 : (a == (32 : UInt8)) = false := by simpa using ha
      have h4 : sp 32 = false := rfl
      simp [h3, h4, List.takeWhile, List.dropWhile]
    · have h2 : sp c = true := by simp [sp, hc]
      simp only [List.takeWhile, List.dropWhile, h2]
      by_cases hac : a = c
      · subst hac; simp
      · have h3 : (a == c) = false := by simpa using hac
        have h4 : ((c :: t.takeWhile sp) == a :: s) = false := by
          rw [beq_eq_false_iff_ne]
          intro e
          cases e
          exact hac rfl
        rw [h3, h4, Bool.false_and, Bool.false_and]
theorem contains_cons (c : UInt8) (t sub : List UInt8) : Lib.contains (c :: t) sub = (sub.isPrefixOf (c :: t) || Lib.contains t sub) := by
  unfold Lib.contains
  rw [Lib.index]
  split
  · rename_i h; rw [h]; simp
  · rename_i h
    have h' : sub.isPrefixOf (c :: t) = false := Bool.eq_false_iff.2 h
    rw [h', Bool.false_or]
    have := Lib.index_ge t sub
    split <;> simp_all <;> omega
theorem contains_word : ∀ (t s : List UInt8), (∀ b ∈ s, b ≠ 32) → Lib.contains t (32 :: (s ++ [32])) = (tween t).any (· == s)
  | [], s, _ => by simp [Lib.contains, Lib.index, tween]
  | c :: t, s, h => by
    rw [contains_cons, contains_word t s h]
    simp only [List.isPrefixOf, prefix_word s t h, tween]
    by_cases hc : c = 32
    · subst hc
      cases h2 : (t.dropWhile sp).isEmpty
      · simp [h2]
      · simp [h2]
    · have h3 : ((32 : UInt8) == c) = false := by simp; exact fun e => hc e.symm
      have h4 : (c == (32 : UInt8)) = false := by simpa using hc
      simp [h3, h4]
/-- The words, between blanks. -/
def wtxt : List UInt8 := 32 :: words.flatMap fun w => w.data.toList ++ [32]
theorem tween_wtxt : tween wtxt = words.map fun w => w.data.toList := by kernel_rfl
theorem contains_wtxt (s : ByteArray) (h : okN s = true) : Lib.contains wtxt (32 :: (s.data.toList ++ [32])) = words.any (eqS · s) := by
  rw [contains_word, tween_wtxt, List.any_map]
  · congr 1
    funext w
    simp only [Function.comp]
    unfold eqS
    rw [ByteArray.toList_eq, ByteArray.toList_eq]
  · intro b hb e
    subst e
    obtain ⟨i, hi, hbi⟩ := List.getElem_of_mem hb
    have hi' : i < s.size := by simpa using hi
    have h1 : okB i (bAt s i) = true := List.all_eq_true.1 h i (by simpa using hi')
    have h2 : bAt s i = 32 := by
      unfold bAt
      have : s.data.toList.getD i 0 = 32 := by rw [List.getD_eq_getElem?_getD, List.getElem?_eq_getElem hi, hbi]; rfl
      rw [this]; rfl
    rw [h2] at h1
    simp [okB] at h1
theorem bAt_get (s : ByteArray) (i : Nat) (h : i < s.size) : bAt s i = (s[i]'h).toNat := by
  unfold bAt
  have hi : i < s.data.toList.length := by simpa using h
  rw [List.getD_eq_getElem?_getD, List.getElem?_eq_getElem hi]
  rfl
theorem decode_big (s : ByteArray) (i : Nat) (h : i < s.size) (hb : 128 ≤ (s[i]'h).toNat) : 128 ≤ (Utf8.decode s i).1 := by
  have e : s.get! (i + 0) = s[i]'h := by
    show s.get! i = _
    simp [ByteArray.get!, getElem!_pos, h]
    rfl
  have h0 : ¬ (s[i]'h).toNat < 128 := by omega
  simp only [Utf8.decode, e, h0, if_false, Utf8.runeError]
  split
  · split <;> simp_all
  · split
    · split
      · rename_i h2; simp only [Bool.and_eq_true, decide_eq_true_eq] at h2; omega
      · decide
    · split
      · split
        · rename_i h2; simp only [Bool.and_eq_true, decide_eq_true_eq] at h2; omega
        · decide
      · decide
end Go.Proofs.Ytfggemopnlffeaa
