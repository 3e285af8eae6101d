/- Plain mathematics: Meet is the greatest lower bound. No program in sight. -/
import Derived.Test.YtchjncoadhigmaaGreatDoorPl
namespace Go.Proofs.YtchjncoadhigmaaGreatDoor
set_option linter.unusedSimpArgs false
set_option linter.unusedVariables false
set_option linter.unnecessarySimpa false

/-- Two ascending lists as one. -/
def mrg {α : Type} (off : α → Int) (one : α → Ty) (f : α → Ty → Ty) : List α → List Ty → List Ty
  | [], bs => bs
  | a :: as, [] => (a :: as).map one
  | a :: as, b :: bs =>
    if off a < b.off then one a :: mrg off one f as (b :: bs)
    else if b.off < off a then b :: mrg off one f (a :: as) bs
    else (f a b).at_ (off a) :: mrg off one f as bs
termination_by as bs => as.length + bs.length
theorem mrg_map {α β : Type} (off : α → Int) (one : α → Ty) (f : α → Ty → Ty) (g : β → α) : ∀ (l : List β) (bs : List Ty), mrg off one f (l.map g) bs = mrg (fun x => off (g x)) (fun x => one (g x)) (fun x y => f (g x) y) l bs := by
  have H : ∀ (n : Nat) (l : List β) (bs : List Ty), l.length + bs.length ≤ n → mrg off one f (l.map g) bs = mrg (fun x => off (g x)) (fun x => one (g x)) (fun x y => f (g x) y) l bs := by
    intro n
    induction n with
    | zero =>
      intro l bs h
      obtain rfl : l = [] := List.length_eq_zero_iff.1 (by omega)
      rw [List.map_nil, mrg, mrg]
    | succ n ih =>
      intro l bs h
      cases l with
      | nil => rw [List.map_nil, mrg, mrg]
      | cons a as => cases bs with
        | nil => rw [List.map_cons, mrg, mrg]; simp
        | cons b bs =>
          simp only [List.length_cons] at h
          rw [List.map_cons, mrg, mrg, ih as (b :: bs) (by simp; omega), ← List.map_cons, ih (a :: as) bs (by simp; omega), ih as bs (by omega)]
  exact fun l bs => H _ l bs (Nat.le_refl _)
def mrgF (f : Ty → Ty → Ty) (fa fb : List Ty) : List Ty := mrg Ty.off (fun x => x) f fa fb
def meetT (a : Ty) (b : Ty) : Ty := Ty.para (α := Ty → Ty) (fun t re rf b =>
  if t.kind = 6 then b.at_ 0
  else if b.kind = 6 then t.at_ 0
  else if t.kind ≠ b.kind ∨ t.size ≠ b.size then tz
  else if t.kind = 3 then .mk 0 3 0 0 (match re, b.elem with | r :: _, y :: _ => [r y] | _, _ => []) []
  else if t.kind = 4 then .mk 0 4 0 (max t.count b.count) (match re, b.elem with | r :: _, y :: _ => [r y] | _, _ => []) []
  else if t.kind = 5 then .mk 0 5 0 0 [] (mrg (fun p : Ty × (Ty → Ty) => p.1.off) (fun p => p.1) (fun p y => p.2 y) (t.fields.zip rf) b.fields)
  else t.at_ 0) a b
theorem meetT_mk (o k s c : Int) (es fs : List Ty) (b : Ty) : meetT (.mk o k s c es fs) b =
    if k = 6 then b.at_ 0
    else if b.kind = 6 then .mk 0 k s c es fs
    else if k ≠ b.kind ∨ s ≠ b.size then tz
    else if k = 3 then .mk 0 3 0 0 (hdJ meetT es b.elem) []
    else if k = 4 then .mk 0 4 0 (max c b.count) (hdJ meetT es b.elem) []
    else if k = 5 then .mk 0 5 0 0 [] (mrgF meetT fs b.fields)
    else .mk 0 k s c es fs := by
  have h : meetT (.mk o k s c es fs) b = _ := congrFun (Ty.para_mk _ o k s c es fs) b
  rw [h]
  have hh : ∀ l : List Ty, (match es.map (fun a b => meetT a b), l with | r :: _, y :: _ => [r y] | _, _ => []) = hdJ meetT es l := by
    intro l
    cases l <;> cases es <;> rfl
  simp only [Ty.kind, Ty.size, Ty.count, Ty.fields, zip_self, mrg_map, at_mk]
  rw [← hh]
  rfl
theorem mrgF_cons (f : Ty → Ty → Ty) (a b : Ty) (as bs : List Ty) : mrgF f (a :: as) (b :: bs) =
    if a.off < b.off then a :: mrgF f as (b :: bs) else if b.off < a.off then b :: mrgF f (a :: as) bs else (f a b).at_ a.off :: mrgF f as bs := by
  unfold mrgF
  rw [mrg]
theorem mrgF_nil (f : Ty → Ty → Ty) (bs : List Ty) : mrgF f [] bs = bs := by unfold mrgF; rw [mrg]
theorem mrgF_nil2 (f : Ty → Ty → Ty) (as : List Ty) : mrgF f as [] = as := by
  cases as with
  | nil => exact mrgF_nil f []
  | cons a as => unfold mrgF; rw [mrg]; simp
/-- Induction along mrgF. -/
theorem mrg_induct {P : List Ty → List Ty → Prop} (h1 : ∀ bs, P [] bs) (h2 : ∀ as, P as []) (h3 : ∀ a as b bs, a.off < b.off → P as (b :: bs) → P (a :: as) (b :: bs))
    (h4 : ∀ a as b bs, b.off < a.off → P (a :: as) bs → P (a :: as) (b :: bs)) (h5 : ∀ a as b bs, a.off = b.off → P as bs → P (a :: as) (b :: bs)) : ∀ as bs, P as bs := by
  have H : ∀ (n : Nat) (l : List Ty) (bs : List Ty), l.length + bs.length ≤ n → P l bs := by
    intro n
    induction n with
    | zero =>
      intro l bs h
      obtain rfl : l = [] := List.length_eq_zero_iff.1 (by omega)
      exact h1 bs
    | succ n ih =>
      intro l bs h
      cases l with
      | nil => exact h1 bs
      | cons a as => cases bs with
        | nil => exact h2 _
        | cons b bs =>
          simp only [List.length_cons] at h
          rcases Int.lt_trichotomy a.off b.off with hh | hh | hh
          · exact h3 a as b bs hh (ih _ _ (by simp; omega))
          · exact h5 a as b bs hh (ih _ _ (by omega))
          · exact h4 a as b bs hh (ih _ _ (by simp; omega))
  exact fun l bs => H _ l bs (Nat.le_refl _)
theorem asc_tail {a : Ty} {l : List Ty} (h : Asc (a :: l)) : Asc l := ⟨by have := h.1; rw [List.map_cons, List.pairwise_cons] at this; exact this.2, fun x hx => h.2 x (by simp [hx])⟩
theorem asc_head {a : Ty} {l : List Ty} (h : Asc (a :: l)) : ∀ x ∈ l, a.off < x.off := by
  have := h.1
  rw [List.map_cons, List.pairwise_cons] at this
  exact fun x hx => this.1 _ (List.mem_map_of_mem hx)
theorem asc_cons {a : Ty} {l : List Ty} (h : Asc l) (h1 : 0 ≤ a.off ∧ a.off < 65536) (h2 : ∀ x ∈ l, a.off < x.off) : Asc (a :: l) := by
  refine ⟨?_, fun x hx => ?_⟩
  · rw [List.map_cons, List.pairwise_cons]
    refine ⟨fun o ho => ?_, h.1⟩
    obtain ⟨x, hx, rfl⟩ := List.mem_map.1 ho
    exact h2 x hx
  · rcases List.mem_cons.1 hx with rfl | hx
    · exact h1
    · exact h.2 x hx
/-- What is in the merged list. -/
def inM (f : Ty → Ty → Ty) (fa fb : List Ty) (z : Ty) : Prop :=
  (z ∈ fa ∧ ∀ y ∈ fb, y.off ≠ z.off) ∨ (z ∈ fb ∧ ∀ x ∈ fa, x.off ≠ z.off) ∨ ∃ x ∈ fa, ∃ y ∈ fb, x.off = y.off ∧ z = (f x y).at_ x.off
theorem inM_off {f : Ty → Ty → Ty} {fa fb : List Ty} {z : Ty} (h : inM f fa fb z) : (∃ x ∈ fa, x.off = z.off) ∨ ∃ y ∈ fb, y.off = z.off := by
  rcases h with ⟨h, _⟩ | ⟨h, _⟩ | ⟨x, hx, y, hy, e, rfl⟩
  · exact .inl ⟨z, h, rfl⟩
  · exact .inr ⟨z, h, rfl⟩
  · exact .inl ⟨x, hx, rfl⟩
theorem mrgF_spec (f : Ty → Ty → Ty) : ∀ fa fb : List Ty, Asc fa → Asc fb → Asc (mrgF f fa fb) ∧ ∀ z, z ∈ mrgF f fa fb ↔ inM f fa fb z := by
  refine mrg_induct (fun bs _ hb => ?_) (fun as ha _ => ?_) (fun a as b bs hlt ih ha hb => ?_) (fun a as b bs hlt ih ha hb => ?_) (fun a as b bs heq ih ha hb => ?_)
  · rw [mrgF_nil]
    exact ⟨hb, fun z => ⟨fun h => .inr (.inl ⟨h, by simp⟩), fun h => by rcases h with ⟨h, _⟩ | ⟨h, _⟩ | ⟨x, h, _⟩ <;> first | exact h | cases h⟩⟩
  · rw [mrgF_nil2]
    exact ⟨ha, fun z => ⟨fun h => .inl ⟨h, by simp⟩, fun h => by rcases h with ⟨h, _⟩ | ⟨h, _⟩ | ⟨x, _, y, h, _⟩ <;> first | exact h | cases h⟩⟩
  · obtain ⟨i1, i2⟩ := ih (asc_tail ha) hb
    rw [mrgF_cons, if_pos hlt]
    have la := asc_head ha
    have lb := asc_head hb
    have nb : ∀ y ∈ b :: bs, a.off < y.off := fun y hy => by
      rcases List.mem_cons.1 hy with rfl | hy
      · exact hlt
      · have := lb y hy; omega
    refine ⟨asc_cons i1 (ha.2 a (by simp)) fun z hz => ?_, fun z => ?_⟩
    · rcases inM_off ((i2 z).1 hz) with ⟨x, hx, e⟩ | ⟨y, hy, e⟩
      · rw [← e]; exact la x hx
      · rw [← e]; exact nb y hy
    · rw [List.mem_cons, i2]
      constructor
      · rintro (rfl | ⟨h, h'⟩ | ⟨h, h'⟩ | ⟨x, hx, y, hy, e, rfl⟩)
        · exact .inl ⟨by simp, fun y hy => by have := nb y hy; omega⟩
        · exact .inl ⟨by simp [h], h'⟩
        · refine .inr (.inl ⟨h, fun x hx => ?_⟩)
          rcases List.mem_cons.1 hx with rfl | hx
          · have := nb z h; omega
          · exact h' x hx
        · exact .inr (.inr ⟨x, by simp [hx], y, hy, e, rfl⟩)
      · rintro (⟨h, h'⟩ | ⟨h, h'⟩ | ⟨x, hx, y, hy, e, rfl⟩)
        · rcases List.mem_cons.1 h with rfl | h
          · exact .inl rfl
          · exact .inr (.inl ⟨h, h'⟩)
        · exact .inr (.inr (.inl ⟨h, fun x hx => h' x (by simp [hx])⟩))
        · rcases List.mem_cons.1 hx with rfl | hx
          · have := nb y hy; omega
          · exact .inr (.inr (.inr ⟨x, hx, y, hy, e, rfl⟩))
  · obtain ⟨i1, i2⟩ := ih ha (asc_tail hb)
    rw [mrgF_cons, if_neg (by omega), if_pos hlt]
    have la := asc_head ha
    have lb := asc_head hb
    have na : ∀ y ∈ a :: as, b.off < y.off := fun y hy => by
      rcases List.mem_cons.1 hy with rfl | hy
      · exact hlt
      · have := la y hy; omega
    refine ⟨asc_cons i1 (hb.2 b (by simp)) fun z hz => ?_, fun z => ?_⟩
    · rcases inM_off ((i2 z).1 hz) with ⟨x, hx, e⟩ | ⟨y, hy, e⟩
      · rw [← e]; exact na x hx
      · rw [← e]; exact lb y hy
    · rw [List.mem_cons, i2]
      constructor
      · rintro (rfl | ⟨h, h'⟩ | ⟨h, h'⟩ | ⟨x, hx, y, hy, e, rfl⟩)
        · exact .inr (.inl ⟨by simp, fun y hy => by have := na y hy; omega⟩)
        · refine .inl ⟨h, fun x hx => ?_⟩
          rcases List.mem_cons.1 hx with rfl | hx
          · have := na z h; omega
          · exact h' x hx
        · exact .inr (.inl ⟨by simp [h], h'⟩)
        · exact .inr (.inr ⟨x, hx, y, by simp [hy], e, rfl⟩)
      · rintro (⟨h, h'⟩ | ⟨h, h'⟩ | ⟨x, hx, y, hy, e, rfl⟩)
        · exact .inr (.inl ⟨h, fun x hx => h' x (by simp [hx])⟩)
        · rcases List.mem_cons.1 h with rfl | h
          · exact .inl rfl
          · exact .inr (.inr (.inl ⟨h, h'⟩))
        · rcases List.mem_cons.1 hy with rfl | hy
          · have := na x hx; omega
          · exact .inr (.inr (.inr ⟨x, hx, y, hy, e, rfl⟩))
  · obtain ⟨i1, i2⟩ := ih (asc_tail ha) (asc_tail hb)
    rw [mrgF_cons, if_neg (by omega), if_neg (by omega)]
    have la := asc_head ha
    have lb := asc_head hb
    refine ⟨asc_cons i1 (by rw [at_off]; exact ha.2 a (by simp)) fun z hz => ?_, fun z => ?_⟩
    · rw [at_off]
      rcases inM_off ((i2 z).1 hz) with ⟨x, hx, e⟩ | ⟨y, hy, e⟩
      · rw [← e]; exact la x hx
      · rw [← e, heq]; exact lb y hy
    · rw [List.mem_cons, i2]
      constructor
      · rintro (rfl | ⟨h, h'⟩ | ⟨h, h'⟩ | ⟨x, hx, y, hy, e, rfl⟩)
        · exact .inr (.inr ⟨a, by simp, b, by simp, heq, rfl⟩)
        · refine .inl ⟨by simp [h], fun y hy => ?_⟩
          rcases List.mem_cons.1 hy with rfl | hy
          · have := la z h; omega
          · exact h' y hy
        · refine .inr (.inl ⟨by simp [h], fun y hy => ?_⟩)
          rcases List.mem_cons.1 hy with rfl | hy
          · have := lb z h; omega
          · exact h' y hy
        · exact .inr (.inr ⟨x, by simp [hx], y, by simp [hy], e, rfl⟩)
      · rintro (⟨h, h'⟩ | ⟨h, h'⟩ | ⟨x, hx, y, hy, e, rfl⟩)
        · rcases List.mem_cons.1 h with rfl | h
          · exact absurd heq.symm (h' b (by simp))
          · exact .inr (.inl ⟨h, fun y hy => h' y (by simp [hy])⟩)
        · rcases List.mem_cons.1 h with rfl | h
          · exact absurd heq (h' a (by simp))
          · exact .inr (.inr (.inl ⟨h, fun y hy => h' y (by simp [hy])⟩))
        · rcases List.mem_cons.1 hx with rfl | hx
          · rcases List.mem_cons.1 hy with rfl | hy
            · exact .inl rfl
            · have := lb y hy; omega
          · rcases List.mem_cons.1 hy with rfl | hy
            · have := la x hx; omega
            · exact .inr (.inr (.inr ⟨x, hx, y, hy, e, rfl⟩))
end Go.Proofs.YtchjncoadhigmaaGreatDoor
