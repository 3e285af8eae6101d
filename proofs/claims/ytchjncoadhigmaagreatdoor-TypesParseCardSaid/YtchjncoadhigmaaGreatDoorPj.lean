/- Plain mathematics: the least upper bound of two types. No program in sight. -/
import Derived.Test.YtchjncoadhigmaaGreatDoorPm
namespace Go.Proofs.YtchjncoadhigmaaGreatDoor
set_option linter.unusedSimpArgs false
set_option linter.unusedVariables false
set_option linter.unnecessarySimpa false

/-! ### The offset of a type itself does not matter -/
theorem at_mk (o' o k s c : Int) (es fs : List Ty) : (Ty.mk o k s c es fs).at_ o' = .mk o' k s c es fs := rfl
theorem at_off (t : Ty) (o : Int) : (t.at_ o).off = o := rfl
theorem at_self (t : Ty) : t.at_ t.off = t := by cases t; rfl
theorem at_at (t : Ty) (o p : Int) : (t.at_ o).at_ p = t.at_ p := by cases t; rfl
theorem frm_at (t : Ty) (o : Int) : frm (t.at_ o) = frm t := by cases t; rw [at_mk, frm_mk, frm_mk]
theorem siz_at (t : Ty) (o : Int) : siz (t.at_ o) = siz t := by cases t; rw [at_mk, siz_mk, siz_mk]
theorem shal_at (t : Ty) (o n : Int) : shal (t.at_ o) n = shal t n := by cases t; rw [at_mk, shal_mk, shal_mk]
theorem wit_at (t : Ty) (o : Int) : wit (t.at_ o) = wit t := by cases t; rw [at_mk, wit_mk, wit_mk, siz_mk, siz_mk]
theorem subT_atL (a b : Ty) (o : Int) : subT (a.at_ o) b = subT a b := by cases a; cases b; rw [at_mk, subT_mk2, subT_mk2]
theorem subT_atR (a b : Ty) (o : Int) : subT a (b.at_ o) = subT a b := by cases a; cases b; rw [at_mk, subT_mk2, subT_mk2]

/-! ### Fields in ascending order -/
def Asc (fs : List Ty) : Prop := (fs.map Ty.off).Pairwise (· < ·) ∧ ∀ x ∈ fs, 0 ≤ x.off ∧ x.off < 65536
theorem fokP_iff (fs : List Ty) (i : Nat) (hi : i < fs.length) : fok fs i = true ↔ (0 ≤ fs[i].off ∧ fs[i].off < 65536) ∧ (i = 0 ∨ (fs.map Ty.off).getD (i - 1) 0 < fs[i].off) := by
  have e : (fs.map Ty.off).getD i 0 = fs[i].off := by simp [List.getD, hi]
  unfold fok
  rw [e]
  simp only [Bool.and_eq_true, Bool.or_eq_true, decide_eq_true_eq, beq_iff_eq]
theorem asc_iff {fs : List Ty} : (∀ i, i < fs.length → fok fs i = true) ↔ Asc fs := by
  constructor
  · intro h
    refine ⟨?_, fun x hx => ?_⟩
    · rw [List.pairwise_iff_getElem]
      intro i j hi hj hij
      simp only [List.length_map] at hi hj
      simp only [List.getElem_map]
      exact asc_lt h j hj i hij
    · obtain ⟨j, hj, rfl⟩ := List.getElem_of_mem hx
      exact ((fokP_iff fs j hj).1 (h j hj)).1
  · rintro ⟨h1, h2⟩ i hi
    rw [fokP_iff fs i hi]
    refine ⟨h2 _ (List.getElem_mem hi), ?_⟩
    rcases Nat.eq_zero_or_pos i with h0 | h0
    · exact .inl h0
    · right
      rw [List.pairwise_iff_getElem] at h1
      have := h1 (i - 1) i (by simp; omega) (by simpa using hi) (by omega)
      simp only [List.getElem_map] at this
      have e : (fs.map Ty.off).getD (i - 1) 0 = fs[i - 1].off := by simp [List.getD, show i - 1 < fs.length by omega]
      rw [e]
      exact this
theorem asc_find {fs : List Ty} (h : Asc fs) {y : Ty} (hy : y ∈ fs) : fs.find? (fun x => x.off == y.off) = some y := by
  induction fs with
  | nil => cases hy
  | cons x l ih =>
    rw [List.find?_cons]
    obtain ⟨h1, h2⟩ := h
    rw [List.map_cons, List.pairwise_cons] at h1
    rcases List.mem_cons.1 hy with rfl | hy
    · simp
    · have : x.off < y.off := h1.1 _ (List.mem_map_of_mem hy)
      rw [show (x.off == y.off) = false from beq_eq_false_iff_ne.2 (by omega)]
      exact ih ⟨h1.2, fun z hz => h2 z (by simp [hz])⟩ hy
theorem find_off {fs : List Ty} {o : Int} {y : Ty} (h : fs.find? (fun x => x.off == o) = some y) : y ∈ fs ∧ y.off = o := by
  have h1 := List.find?_some h
  exact ⟨List.mem_of_find?_eq_some h, by simpa using h1⟩
theorem asc_uniq {fs : List Ty} (h : Asc fs) {x y : Ty} (hx : x ∈ fs) (hy : y ∈ fs) (e : x.off = y.off) : x = y := by
  have h1 := asc_find h hx
  have h2 := asc_find h hy
  rw [e, h2] at h1
  exact (Option.some.inj h1).symm
theorem subS_iff {fa fs : List Ty} : (fs.all fun f => fa.any fun x => x.off == f.off && subT x f) = true ↔ ∀ f ∈ fs, ∃ x ∈ fa, x.off = f.off ∧ subT x f = true := by
  rw [List.all_eq_true]
  constructor
  · intro h f hf
    have := h f hf
    rw [List.any_eq_true] at this
    obtain ⟨x, hx, hp⟩ := this
    simp only [Bool.and_eq_true, beq_iff_eq] at hp
    exact ⟨x, hx, hp⟩
  · intro h f hf
    obtain ⟨x, hx, h1, h2⟩ := h f hf
    rw [List.any_eq_true]
    exact ⟨x, hx, by simp [h1, h2]⟩

/-! ### What a formed type is like -/
inductive Kd where
  | unk | any | num (k s : Int) | ptr (e : Ty) | arr (c : Int) (e : Ty) | str (fs : List Ty)
def Kd.ty : Kd → Ty
  | .unk => .mk 0 0 0 0 [] []
  | .any => .mk 0 6 0 0 [] []
  | .num k s => .mk 0 k s 0 [] []
  | .ptr e => .mk 0 3 0 0 [e] []
  | .arr c e => .mk 0 4 0 c [e] []
  | .str fs => .mk 0 5 0 0 [] fs
def Kd.ok : Kd → Prop
  | .unk => True
  | .any => True
  | .num k s => (k = 1 ∨ k = 2) ∧ (s = 1 ∨ s = 2 ∨ s = 4)
  | .ptr e => frm e = true
  | .arr c e => 1 ≤ c ∧ c ≤ 65536 ∧ frm e = true
  | .str fs => Asc fs ∧ ∀ x ∈ fs, frm x = true
theorem frm_kd {t : Ty} : frm t = true ↔ ∃ d : Kd, d.ok ∧ t = d.ty.at_ t.off := by
  constructor
  · intro h
    obtain ⟨o, k, s, c, es, fs⟩ := t
    obtain ⟨hb, hf, hfs, hes⟩ := frm_inv h
    rcases base_cases hb with h1 | h1 | h1 | h1 | h1
    · obtain ⟨h1, rfl, rfl, h4, h5⟩ := h1
      obtain rfl := List.length_eq_zero_iff.1 h4
      obtain rfl := List.length_eq_zero_iff.1 h5
      rcases h1 with rfl | rfl
      · exact ⟨.unk, trivial, rfl⟩
      · exact ⟨.any, trivial, rfl⟩
    · obtain ⟨h1, h2, rfl, h4, h5⟩ := h1
      obtain rfl := List.length_eq_zero_iff.1 h4
      obtain rfl := List.length_eq_zero_iff.1 h5
      exact ⟨.num k s, ⟨h1, h2⟩, rfl⟩
    · obtain ⟨rfl, rfl, rfl, h4, h5⟩ := h1
      obtain ⟨x, rfl⟩ := List.length_eq_one_iff.1 h4
      obtain rfl := List.length_eq_zero_iff.1 h5
      exact ⟨.ptr x, hes x (by simp), rfl⟩
    · obtain ⟨rfl, rfl, h2, h3, h4, h5⟩ := h1
      obtain ⟨x, rfl⟩ := List.length_eq_one_iff.1 h4
      obtain rfl := List.length_eq_zero_iff.1 h5
      exact ⟨.arr c x, ⟨h2, h3, hes x (by simp)⟩, rfl⟩
    · obtain ⟨rfl, rfl, rfl, h4⟩ := h1
      obtain rfl := List.length_eq_zero_iff.1 h4
      exact ⟨.str fs, ⟨asc_iff.1 hf, hfs⟩, rfl⟩
  · rintro ⟨d, hd, he⟩
    rw [he, frm_at]
    cases d with
    | unk => rfl
    | any => rfl
    | num k s =>
      obtain ⟨h1, h2⟩ := hd
      rcases h1 with rfl | rfl <;> rcases h2 with rfl | rfl | rfl <;> rfl
    | ptr e => rw [Kd.ty, frm_mk]; simp [base, asc, show frm e = true from hd]
    | arr c e =>
      obtain ⟨h1, h2, h3⟩ := hd
      rw [Kd.ty, frm_mk]
      simp [base, asc, h1, h2, h3]
    | str fs =>
      obtain ⟨h1, h2⟩ := hd
      have h3 := asc_iff.2 h1
      rw [Kd.ty, frm_mk]
      simp only [base, asc, List.all_nil, Bool.and_true, Bool.and_eq_true, List.all_eq_true, List.mem_range]
      exact ⟨⟨rfl, h3⟩, h2⟩

/-! ### Join -/
def topT : Ty := .mk 0 6 0 0 [] []
def hdJ (f : Ty → Ty → Ty) : List Ty → List Ty → List Ty
  | x :: _, y :: _ => [f x y]
  | _, _ => []
def bothF (f : Ty → Ty → Ty) (fa fb : List Ty) : List Ty := fa.filterMap fun x => (fb.find? (fun y => y.off == x.off)).map fun y => (f x y).at_ x.off
def joinT (a : Ty) (b : Ty) : Ty := Ty.para (α := Ty → Ty) (fun t re rf b =>
  if t.kind = 0 then b.at_ 0
  else if b.kind = 0 then t.at_ 0
  else if t.kind ≠ b.kind ∨ t.kind = 6 ∨ t.size ≠ b.size then topT
  else if t.kind = 3 then .mk 0 3 0 0 (match re, b.elem with | r :: _, y :: _ => [r y] | _, _ => []) []
  else if t.kind = 4 then .mk 0 4 0 (min t.count b.count) (match re, b.elem with | r :: _, y :: _ => [r y] | _, _ => []) []
  else if t.kind = 5 then .mk 0 5 0 0 [] ((t.fields.zip rf).filterMap fun p => (b.fields.find? (fun y => y.off == p.1.off)).map fun y => (p.2 y).at_ p.1.off)
  else t.at_ 0) a b
theorem zip_self {α β : Type} (g : α → β) : ∀ l : List α, l.zip (l.map g) = l.map fun x => (x, g x)
  | [] => rfl
  | x :: l => by simp [zip_self g l]
theorem joinT_mk (o k s c : Int) (es fs : List Ty) (b : Ty) : joinT (.mk o k s c es fs) b =
    if k = 0 then b.at_ 0
    else if b.kind = 0 then .mk 0 k s c es fs
    else if k ≠ b.kind ∨ k = 6 ∨ s ≠ b.size then topT
    else if k = 3 then .mk 0 3 0 0 (hdJ joinT es b.elem) []
    else if k = 4 then .mk 0 4 0 (min c b.count) (hdJ joinT es b.elem) []
    else if k = 5 then .mk 0 5 0 0 [] (bothF joinT fs b.fields)
    else .mk 0 k s c es fs := by
  have h : joinT (.mk o k s c es fs) b = _ := congrFun (Ty.para_mk _ o k s c es fs) b
  rw [h]
  have hh : ∀ l : List Ty, (match es.map (fun a b => joinT a b), l with | r :: _, y :: _ => [r y] | _, _ => []) = hdJ joinT es l := by
    intro l
    cases l <;> cases es <;> rfl
  simp only [Ty.kind, Ty.size, Ty.count, Ty.fields, zip_self, List.filterMap_map, at_mk]
  rw [← hh]
  rfl
theorem both_off (f : Ty → Ty → Ty) (fa fb : List Ty) : ((bothF f fa fb).map Ty.off).Sublist (fa.map Ty.off) := by
  unfold bothF
  induction fa with
  | nil => exact List.Sublist.refl _
  | cons x l ih =>
    rw [List.filterMap_cons, List.map_cons]
    cases fb.find? (fun y => y.off == x.off) with
    | none => exact List.Sublist.cons _ ih
    | some y => simp only [Option.map_some, List.map_cons, at_off]; exact List.Sublist.cons_cons _ ih
theorem both_mem {f : Ty → Ty → Ty} {fa fb : List Ty} {z : Ty} : z ∈ bothF f fa fb ↔ ∃ x ∈ fa, ∃ y, fb.find? (fun y => y.off == x.off) = some y ∧ z = (f x y).at_ x.off := by
  unfold bothF
  rw [List.mem_filterMap]
  constructor
  · rintro ⟨x, hx, h⟩
    cases hy : fb.find? (fun y => y.off == x.off) with
    | none => rw [hy] at h; cases h
    | some y =>
      refine ⟨x, hx, y, hy, ?_⟩
      rw [hy] at h
      exact (Option.some.inj h).symm
  · rintro ⟨x, hx, y, hy, rfl⟩
    exact ⟨x, hx, by rw [hy]; rfl⟩
theorem asc_sub {fs gs : List Ty} (h : Asc gs) (hs : (fs.map Ty.off).Sublist (gs.map Ty.off)) : Asc fs := by
  refine ⟨h.1.sublist hs, fun x hx => ?_⟩
  obtain ⟨y, hy, e⟩ := List.mem_map.1 (hs.subset (List.mem_map_of_mem hx))
  rw [← e]
  exact h.2 y hy
theorem both_asc (f : Ty → Ty → Ty) {fa fb : List Ty} (h : Asc fa) : Asc (bothF f fa fb) := asc_sub h (both_off f fa fb)
/-! ### Join is the least upper bound -/
def sK : Kd → Kd → Prop
  | .unk, _ => True
  | _, .any => True
  | .num k s, .num k' s' => k = k' ∧ s = s'
  | .ptr e, .ptr e' => subT e e' = true
  | .arr c e, .arr c' e' => c' ≤ c ∧ subT e e' = true
  | .str fs, .str gs => ∀ f ∈ gs, ∃ x ∈ fs, x.off = f.off ∧ subT x f = true
  | _, _ => False
theorem sK_iff {a b : Kd} (ha : a.ok) (hb : b.ok) : subT a.ty b.ty = true ↔ sK a b := by
  cases a with
  | unk => cases b <;> simp [Kd.ty, subT_mk2, sK]
  | any => cases b with
    | num k s => rcases hb.1 with rfl | rfl <;> simp [Kd.ty, subT_mk2, sK]
    | _ => simp [Kd.ty, subT_mk2, sK]
  | num k s => cases b with
    | num k' s' => rcases ha.1 with rfl | rfl <;> rcases hb.1 with rfl | rfl <;> simp [Kd.ty, subT_mk2, sK]
    | _ => rcases ha.1 with rfl | rfl <;> simp [Kd.ty, subT_mk2, sK]
  | ptr e => cases b with
    | num k s => rcases hb.1 with rfl | rfl <;> simp [Kd.ty, subT_mk2, sK]
    | _ => simp [Kd.ty, subT_mk2, sK, hd2]
  | arr c e => cases b with
    | num k s => rcases hb.1 with rfl | rfl <;> simp [Kd.ty, subT_mk2, sK]
    | _ => simp [Kd.ty, subT_mk2, sK, hd2]
  | str fs => cases b with
    | num k s => rcases hb.1 with rfl | rfl <;> simp [Kd.ty, subT_mk2, sK]
    | str gs =>
      have h : subT (Kd.str fs).ty (Kd.str gs).ty = gs.all fun f => fs.any fun x => x.off == f.off && subT x f := by
        simp [Kd.ty, subT_mk2]
      rw [h, subS_iff]
      rfl
    | _ => simp [Kd.ty, subT_mk2, sK]
def jK : Kd → Kd → Kd
  | .unk, d => d
  | d, .unk => d
  | .num k s, .num k' s' => if k = k' ∧ s = s' then .num k s else .any
  | .ptr e, .ptr e' => .ptr (joinT e e')
  | .arr c e, .arr c' e' => .arr (min c c') (joinT e e')
  | .str fs, .str gs => .str (bothF joinT fs gs)
  | _, _ => .any
theorem kd_at (d : Kd) : d.ty.at_ 0 = d.ty := by cases d <;> rfl
theorem jK_eq {a b : Kd} (ha : a.ok) (hb : b.ok) : joinT a.ty b.ty = (jK a b).ty := by
  cases a with
  | unk => show joinT (.mk 0 0 0 0 [] []) b.ty = b.ty; rw [joinT_mk, if_pos rfl, kd_at]
  | any => cases b with
    | num k s => rcases hb.1 with rfl | rfl <;> simp [Kd.ty, jK, joinT_mk, Ty.kind, Ty.size, topT]
    | _ => simp [Kd.ty, jK, joinT_mk, Ty.kind, Ty.size, topT]
  | num k s => cases b with
    | num k' s' =>
      by_cases h : k = k' ∧ s = s'
      · obtain ⟨rfl, rfl⟩ := h
        rcases ha.1 with rfl | rfl <;> simp [Kd.ty, jK, joinT_mk, Ty.kind, Ty.size, topT]
      · have h2 : k ≠ k' ∨ k = 6 ∨ s ≠ s' := by omega
        have h3 : ¬ k = 0 := by have := ha.1; omega
        have h4 : ¬ k' = 0 := by have := hb.1; omega
        show joinT (.mk 0 k s 0 [] []) (.mk 0 k' s' 0 [] []) = (if k = k' ∧ s = s' then Kd.num k s else Kd.any).ty
        rw [if_neg h, joinT_mk, if_neg h3, if_neg (show ¬ (Ty.mk 0 k' s' 0 [] []).kind = 0 from h4), if_pos (show k ≠ (Ty.mk 0 k' s' 0 [] []).kind ∨ k = 6 ∨ s ≠ (Ty.mk 0 k' s' 0 [] []).size from h2)]
        rfl
    | _ => rcases ha.1 with rfl | rfl <;> simp [Kd.ty, jK, joinT_mk, Ty.kind, Ty.size, topT]
  | ptr e => cases b with
    | num k s => rcases hb.1 with rfl | rfl <;> simp [Kd.ty, jK, joinT_mk, Ty.kind, Ty.size, topT]
    | _ => simp [Kd.ty, jK, joinT_mk, Ty.kind, Ty.size, Ty.elem, hdJ, topT]
  | arr c e => cases b with
    | num k s => rcases hb.1 with rfl | rfl <;> simp [Kd.ty, jK, joinT_mk, Ty.kind, Ty.size, topT]
    | _ => simp [Kd.ty, jK, joinT_mk, Ty.kind, Ty.size, Ty.elem, Ty.count, hdJ, topT]
  | str fs => cases b with
    | num k s => rcases hb.1 with rfl | rfl <;> simp [Kd.ty, jK, joinT_mk, Ty.kind, Ty.size, topT]
    | _ => simp [Kd.ty, jK, joinT_mk, Ty.kind, Ty.size, Ty.fields, topT]
theorem kd_frm {d : Kd} (h : d.ok) : frm d.ty = true := frm_kd.2 ⟨d, h, by cases d <;> rfl⟩
theorem kd_of {t : Ty} (h : frm t = true) : ∃ d : Kd, d.ok ∧ t = d.ty.at_ t.off := frm_kd.1 h
structure Lub (a b j : Ty) : Prop where
  frm : frm j = true
  left : subT a j = true
  right : subT b j = true
  least : ∀ c, Go.Proofs.YtchjncoadhigmaaGreatDoor.frm c = true → subT a c = true → subT b c = true → subT j c = true
/-- The parts of a node. -/
def Kd.parts : Kd → List Ty
  | .ptr e => [e]
  | .arr _ e => [e]
  | .str fs => fs
  | _ => []
theorem both_of {fa fb : List Ty} (ha : Asc fa) (hb : Asc fb) {x y : Ty} (hx : x ∈ fa) (hy : y ∈ fb) (e : x.off = y.off) (f : Ty → Ty → Ty) : (f x y).at_ x.off ∈ bothF f fa fb :=
  both_mem.2 ⟨x, hx, y, by rw [e]; exact asc_find hb hy, rfl⟩
theorem lub_kd {a b : Kd} (ha : a.ok) (hb : b.ok) (IH : ∀ x ∈ a.parts, frm x = true → ∀ y, frm y = true → Lub x y (joinT x y)) : (jK a b).ok ∧ sK a (jK a b) ∧ sK b (jK a b) ∧ ∀ c : Kd, c.ok → sK a c → sK b c → sK (jK a b) c := by
  cases a with
  | unk => exact ⟨hb, trivial, (sK_iff hb hb).1 (subT_refl _ (kd_frm hb)), fun c _ _ h => h⟩
  | any => cases b <;> refine ⟨trivial, by trivial, by trivial, fun c hc h1 h2 => ?_⟩ <;> cases c <;> simp_all [sK, jK]
  | num k s => cases b with
    | unk => exact ⟨ha, (sK_iff ha ha).1 (subT_refl _ (kd_frm ha)), trivial, fun c _ h _ => h⟩
    | num k' s' =>
      rw [show jK (.num k s) (.num k' s') = (if k = k' ∧ s = s' then .num k s else .any) from rfl]
      by_cases h : k = k' ∧ s = s'
      · rw [if_pos h]
        obtain ⟨rfl, rfl⟩ := h
        exact ⟨ha, ⟨rfl, rfl⟩, ⟨rfl, rfl⟩, fun c _ h _ => h⟩
      · rw [if_neg h]
        refine ⟨trivial, trivial, trivial, fun c hc h1 h2 => ?_⟩
        cases c with
        | any => trivial
        | num k2 s2 => exact absurd ⟨h1.1.trans h2.1.symm, h1.2.trans h2.2.symm⟩ h
        | _ => exact absurd h1 (by simp [sK])
    | _ => refine ⟨trivial, by trivial, by trivial, fun c hc h1 h2 => ?_⟩; cases c <;> simp_all [sK, jK]
  | ptr e => cases b with
    | unk => exact ⟨ha, (sK_iff ha ha).1 (subT_refl _ (kd_frm ha)), trivial, fun c _ h _ => h⟩
    | ptr e' =>
      have h := IH e (by simp [Kd.parts]) ha e' hb
      refine ⟨h.frm, h.left, h.right, fun c hc h1 h2 => ?_⟩
      cases c with
      | any => trivial
      | ptr e2 => exact h.least e2 hc h1 h2
      | _ => exact absurd h1 (by simp [sK])
    | _ => refine ⟨trivial, by trivial, by trivial, fun c hc h1 h2 => ?_⟩; cases c <;> simp_all [sK, jK]
  | arr n e => cases b with
    | unk => exact ⟨ha, (sK_iff ha ha).1 (subT_refl _ (kd_frm ha)), trivial, fun c _ h _ => h⟩
    | arr n' e' =>
      obtain ⟨a1, a2, a3⟩ := ha
      obtain ⟨b1, b2, b3⟩ := hb
      have h := IH e (by simp [Kd.parts]) a3 e' b3
      refine ⟨⟨by omega, by omega, h.frm⟩, ⟨by omega, h.left⟩, ⟨by omega, h.right⟩, fun c hc h1 h2 => ?_⟩
      cases c with
      | any => trivial
      | arr n2 e2 => exact ⟨by have := h1.1; have := h2.1; omega, h.least e2 hc.2.2 h1.2 h2.2⟩
      | _ => exact absurd h1 (by simp [sK])
    | _ => refine ⟨trivial, by trivial, by trivial, fun c hc h1 h2 => ?_⟩; cases c <;> simp_all [sK, jK]
  | str fs => cases b with
    | unk => exact ⟨ha, (sK_iff ha ha).1 (subT_refl _ (kd_frm ha)), trivial, fun c _ h _ => h⟩
    | str gs =>
      obtain ⟨a1, a2⟩ := ha
      obtain ⟨b1, b2⟩ := hb
      have hL : ∀ x ∈ fs, ∀ y ∈ gs, Lub x y (joinT x y) := fun x hx y hy => IH x hx (a2 x hx) y (b2 y hy)
      refine ⟨⟨both_asc _ a1, fun z hz => ?_⟩, fun f hf => ?_, fun f hf => ?_, fun c hc h1 h2 => ?_⟩
      · obtain ⟨x, hx, y, hy, rfl⟩ := both_mem.1 hz
        rw [frm_at]
        exact (hL x hx y (find_off hy).1).frm
      · obtain ⟨x, hx, y, hy, rfl⟩ := both_mem.1 hf
        exact ⟨x, hx, rfl, by rw [subT_atR]; exact (hL x hx y (find_off hy).1).left⟩
      · obtain ⟨x, hx, y, hy, rfl⟩ := both_mem.1 hf
        exact ⟨y, (find_off hy).1, (find_off hy).2, by rw [subT_atR]; exact (hL x hx y (find_off hy).1).right⟩
      · cases c with
        | any => trivial
        | str hs =>
          intro f hf
          obtain ⟨x, hx, e1, s1⟩ := h1 f hf
          obtain ⟨y, hy, e2, s2⟩ := h2 f hf
          exact ⟨_, both_of a1 b1 hx hy (e1.trans e2.symm) joinT, e1, by rw [subT_atL]; exact (hL x hx y hy).least f (hc.2 f hf) s1 s2⟩
        | _ => exact absurd h1 (by simp [sK])
    | _ => refine ⟨trivial, by trivial, by trivial, fun c hc h1 h2 => ?_⟩; cases c <;> simp_all [sK, jK]
theorem joinT_atL (a b : Ty) (o : Int) : joinT (a.at_ o) b = joinT a b := by cases a; rw [at_mk, joinT_mk, joinT_mk]
theorem joinT_atR (a b : Ty) (o : Int) : joinT a (b.at_ o) = joinT a b := by cases a; cases b; rw [at_mk, joinT_mk, joinT_mk]; rfl
theorem kd_parts {d : Kd} {o o' k s c : Int} {es fs : List Ty} (h : Ty.mk o k s c es fs = d.ty.at_ o') : ∀ x ∈ d.parts, x ∈ es ∨ x ∈ fs := by
  cases d with
  | ptr e => cases h; exact fun x hx => .inl hx
  | arr c e => cases h; exact fun x hx => .inl hx
  | str gs => cases h; exact fun x hx => .inr hx
  | _ => exact fun x hx => by cases hx
theorem joinT_lub : ∀ a : Ty, frm a = true → ∀ b : Ty, frm b = true → Lub a b (joinT a b) := by
  refine Ty.induct fun o k s c es fs hE hF ha b hb => ?_
  obtain ⟨da, hda, ea⟩ := kd_of ha
  obtain ⟨db, hdb, eb⟩ := kd_of hb
  have h := lub_kd hda hdb fun x hx hfx y hy => by
    rcases kd_parts ea x hx with h | h
    · exact hE x h hfx y hy
    · exact hF x h hfx y hy
  obtain ⟨h1, h2, h3, h4⟩ := h
  rw [ea, eb, joinT_atL, joinT_atR, jK_eq hda hdb]
  refine ⟨kd_frm h1, ?_, ?_, fun c hc s1 s2 => ?_⟩
  · rw [subT_atL]; exact (sK_iff hda h1).2 h2
  · rw [subT_atL]; exact (sK_iff hdb h1).2 h3
  · obtain ⟨dc, hdc, ec⟩ := kd_of hc
    rw [ec, subT_atL, subT_atR] at s1 s2
    rw [ec, subT_atR]
    exact (sK_iff h1 hdc).2 (h4 dc hdc ((sK_iff hda hdc).1 s1) ((sK_iff hdb hdc).1 s2))
end Go.Proofs.YtchjncoadhigmaaGreatDoor
