/- Plain mathematics: the least upper bound of two types. No program in sight. Plain mathematics: the order of types; Join of good types is good; Meet. No program in sight. Plain mathematics: Join of good types is good; Meet is the greatest lower bound. No program in sight. Plain mathematics: Meet is the greatest lower bound. No program in sight. Plain mathematics: Meet is the greatest lower bound; the algebra of types. No program in sight. Plain mathematics: which types are small. No program in sight. Plain mathematics: what the program's merge computes. No program in sight. -/
import Derived.Test.YtianekkfehoedaaDoorPm
namespace Go.Proofs.YtianekkfehoedaaDoor
set_option linter.unusedSimpArgs false
set_option linter.unusedVariables false
set_option linter.unnecessarySimpa false

/-! ### The offset of a type itself does not matter -/
theorem at_mk (o' o k s c : Int) (es fs : List Ty) : (Ty.mk o k s c es fs).at_ o' = .mk o' k s c es fs := rfl
theorem at_off (t : Ty) (o : Int) : (t.at_ o).off = o := rfl
theorem at_self (t : Ty) : t.at_ t.off = t := by cases t; rfl
theorem at_at (t : Ty) (o p : Int) : (t.at_ o).at_ p = t.at_ p := by cases t; rfl
theorem frm_at (t : Ty) (o : Int) : frm (t.at_ o) = frm t := by cases t; rw [at_mk, frm_mk, frm_mk]
theorem siz_at (t : Ty) (o : Int) : siz (t.at_ o) = siz t := by cases t; rw [at_mk, siz_mk, siz_mk]
theorem shal_at (t : Ty) (o n : Int) : shal (t.at_ o) n = shal t n := by cases t; rw [at_mk, shal_mk, shal_mk]
theorem wit_at (t : Ty) (o : Int) : wit (t.at_ o) = wit t := by cases t; rw [at_mk, wit_mk, wit_mk, siz_mk, siz_mk]
theorem subT_atL (a b : Ty) (o : Int) : subT (a.at_ o) b = subT a b := by cases a; cases b; rw [at_mk, subT_mk2, subT_mk2]
theorem subT_atR (a b : Ty) (o : Int) : subT a (b.at_ o) = subT a b := by cases a; cases b; rw [at_mk, subT_mk2, subT_mk2]

/-! ### Fields in ascending order -/
def Asc (fs : List Ty) : Prop := (fs.map Ty.off).Pairwise (· < ·) ∧ ∀ x ∈ fs, 0 ≤ x.off ∧ x.off < 65536
theorem fokP_iff (fs : List Ty) (i : Nat) (hi : i < fs.length) : fok fs i = true ↔ (0 ≤ fs[i].off ∧ fs[i].off < 65536) ∧ (i = 0 ∨ (fs.map Ty.off).getD (i - 1) 0 < fs[i].off) := by
  have e : (fs.map Ty.off).getD i 0 = fs[i].off := by simp [List.getD, hi]
  unfold fok
  rw [e]
  simp only [Bool.and_eq_true, Bool.or_eq_true, decide_eq_true_eq, beq_iff_eq]
theorem asc_iff {fs : List Ty} : (∀ i, i < fs.length → fok fs i = true) ↔ Asc fs := by
  constructor
  · intro h
    refine ⟨?_, fun x hx => ?_⟩
    · rw [List.pairwise_iff_getElem]
      intro i j hi hj hij
      simp only [List.length_map] at hi hj
      simp only [List.getElem_map]
      exact asc_lt h j hj i hij
    · obtain ⟨j, hj, rfl⟩ := List.getElem_of_mem hx
      exact ((fokP_iff fs j hj).1 (h j hj)).1
  · rintro ⟨h1, h2⟩ i hi
    rw [fokP_iff fs i hi]
    refine ⟨h2 _ (List.getElem_mem hi), ?_⟩
    rcases Nat.eq_zero_or_pos i with h0 | h0
    · exact .inl h0
    · right
      rw [List.pairwise_iff_getElem] at h1
      have := h1 (i - 1) i (by simp; omega) (by simpa using hi) (by omega)
      simp only [List.getElem_map] at this
      have e : (fs.map Ty.off).getD (i - 1) 0 = fs[i - 1].off := by simp [List.getD, show i - 1 < fs.length by omega]
      rw [e]
      exact this
theorem asc_find {fs : List Ty} (h : Asc fs) {y : Ty} (hy : y ∈ fs) : fs.find? (fun x => x.off == y.off) = some y := by
  induction fs with
  | nil => cases hy
  | cons x l ih =>
    rw [List.find?_cons]
    obtain ⟨h1, h2⟩ := h
    rw [List.map_cons, List.pairwise_cons] at h1
    rcases List.mem_cons.1 hy with rfl | hy
    · simp
    · have : x.off < y.off := h1.1 _ (List.mem_map_of_mem hy)
      rw [show (x.off == y.off) = false from beq_eq_false_iff_ne.2 (by omega)]
      exact ih ⟨h1.2, fun z hz => h2 z (by simp [hz])⟩ hy
theorem find_off {fs : List Ty} {o : Int} {y : Ty} (h : fs.find? (fun x => x.off == o) = some y) : y ∈ fs ∧ y.off = o := by
  have h1 := List.find?_some h
  exact ⟨List.mem_of_find?_eq_some h, by simpa using h1⟩
theorem asc_uniq {fs : List Ty} (h : Asc fs) {x y : Ty} (hx : x ∈ fs) (hy : y ∈ fs) (e : x.off = y.off) : x = y := by
  have h1 := asc_find h hx
  have h2 := asc_find h hy
  rw [e, h2] at h1
  exact (Option.some.inj h1).symm
theorem subS_iff {fa fs : List Ty} : (fs.all fun f => fa.any fun x => x.off == f.off && subT x f) = true ↔ ∀ f ∈ fs, ∃ x ∈ fa, x.off = f.off ∧ subT x f = true := by
  rw [List.all_eq_true]
  constructor
  · intro h f hf
    have := h f hf
    rw [List.any_eq_true] at this
    obtain ⟨x, hx, hp⟩ := this
    simp only [Bool.and_eq_true, beq_iff_eq] at hp
    exact ⟨x, hx, hp⟩
  · intro h f hf
    obtain ⟨x, hx, h1, h2⟩ := h f hf
    rw [List.any_eq_true]
    exact ⟨x, hx, by simp [h1, h2]⟩

/-! ### What a formed type is like -/
inductive Kd where
  | unk | any | num (k s : Int) | ptr (e : Ty) | arr (c : Int) (e : Ty) | str (fs : List Ty)
def Kd.ty : Kd → Ty
  | .unk => .mk 0 0 0 0 [] []
  | .any => .mk 0 6 0 0 [] []
  | .num k s => .mk 0 k s 0 [] []
  | .ptr e => .mk 0 3 0 0 [e] []
  | .arr c e => .mk 0 4 0 c [e] []
  | .str fs => .mk 0 5 0 0 [] fs
def Kd.ok : Kd → Prop
  | .unk => True
  | .any => True
  | .num k s => (k = 1 ∨ k = 2) ∧ (s = 1 ∨ s = 2 ∨ s = 4)
  | .ptr e => frm e = true
  | .arr c e => 1 ≤ c ∧ c ≤ 65536 ∧ frm e = true
  | .str fs => Asc fs ∧ ∀ x ∈ fs, frm x = true
theorem frm_kd {t : Ty} : frm t = true ↔ ∃ d : Kd, d.ok ∧ t = d.ty.at_ t.off := by
  constructor
  · intro h
    obtain ⟨o, k, s, c, es, fs⟩ := t
    obtain ⟨hb, hf, hfs, hes⟩ := frm_inv h
    rcases base_cases hb with h1 | h1 | h1 | h1 | h1
    · obtain ⟨h1, rfl, rfl, h4, h5⟩ := h1
      obtain rfl := List.length_eq_zero_iff.1 h4
      obtain rfl := List.length_eq_zero_iff.1 h5
      rcases h1 with rfl | rfl
      · exact ⟨.unk, trivial, rfl⟩
      · exact ⟨.any, trivial, rfl⟩
    · obtain ⟨h1, h2, rfl, h4, h5⟩ := h1
      obtain rfl := List.length_eq_zero_iff.1 h4
      obtain rfl := List.length_eq_zero_iff.1 h5
      exact ⟨.num k s, ⟨h1, h2⟩, rfl⟩
    · obtain ⟨rfl, rfl, rfl, h4, h5⟩ := h1
      obtain ⟨x, rfl⟩ := List.length_eq_one_iff.1 h4
      obtain rfl := List.length_eq_zero_iff.1 h5
      exact ⟨.ptr x, hes x (by simp), rfl⟩
    · obtain ⟨rfl, rfl, h2, h3, h4, h5⟩ := h1
      obtain ⟨x, rfl⟩ := List.length_eq_one_iff.1 h4
      obtain rfl := List.length_eq_zero_iff.1 h5
      exact ⟨.arr c x, ⟨h2, h3, hes x (by simp)⟩, rfl⟩
    · obtain ⟨rfl, rfl, rfl, h4⟩ := h1
      obtain rfl := List.length_eq_zero_iff.1 h4
      exact ⟨.str fs, ⟨asc_iff.1 hf, hfs⟩, rfl⟩
  · rintro ⟨d, hd, he⟩
    rw [he, frm_at]
    cases d with
    | unk => rfl
    | any => rfl
    | num k s =>
      obtain ⟨h1, h2⟩ := hd
      rcases h1 with rfl | rfl <;> rcases h2 with rfl | rfl | rfl <;> rfl
    | ptr e => rw [Kd.ty, frm_mk]; simp [base, asc, show frm e = true from hd]
    | arr c e =>
      obtain ⟨h1, h2, h3⟩ := hd
      rw [Kd.ty, frm_mk]
      simp [base, asc, h1, h2, h3]
    | str fs =>
      obtain ⟨h1, h2⟩ := hd
      have h3 := asc_iff.2 h1
      rw [Kd.ty, frm_mk]
      simp only [base, asc, List.all_nil, Bool.and_true, Bool.and_eq_true, List.all_eq_true, List.mem_range]
      exact ⟨⟨rfl, h3⟩, h2⟩

/-! ### Join -/
def topT : Ty := .mk 0 6 0 0 [] []
def hdJ (f : Ty → Ty → Ty) : List Ty → List Ty → List Ty
  | x :: _, y :: _ => [f x y]
  | _, _ => []
def bothF (f : Ty → Ty → Ty) (fa fb : List Ty) : List Ty := fa.filterMap fun x => (fb.find? (fun y => y.off == x.off)).map fun y => (f x y).at_ x.off
def joinT (a : Ty) (b : Ty) : Ty := Ty.para (α := Ty → Ty) (fun t re rf b =>
  if t.kind = 0 then b.at_ 0
  else if b.kind = 0 then t.at_ 0
  else if t.kind ≠ b.kind ∨ t.kind = 6 ∨ t.size ≠ b.size then topT
  else if t.kind = 3 then .mk 0 3 0 0 (match re, b.elem with | r :: _, y :: _ => [r y] | _, _ => []) []
  else if t.kind = 4 then .mk 0 4 0 (min t.count b.count) (match re, b.elem with | r :: _, y :: _ => [r y] | _, _ => []) []
  else if t.kind = 5 then .mk 0 5 0 0 [] ((t.fields.zip rf).filterMap fun p => (b.fields.find? (fun y => y.off == p.1.off)).map fun y => (p.2 y).at_ p.1.off)
  else t.at_ 0) a b
theorem zip_self {α β : Type} (g : α → β) : ∀ l : List α, l.zip (l.map g) = l.map fun x => (x, g x)
  | [] => rfl
  | x :: l => by simp [zip_self g l]
theorem joinT_mk (o k s c : Int) (es fs : List Ty) (b : Ty) : joinT (.mk o k s c es fs) b =
    if k = 0 then b.at_ 0
    else if b.kind = 0 then .mk 0 k s c es fs
    else if k ≠ b.kind ∨ k = 6 ∨ s ≠ b.size then topT
    else if k = 3 then .mk 0 3 0 0 (hdJ joinT es b.elem) []
    else if k = 4 then .mk 0 4 0 (min c b.count) (hdJ joinT es b.elem) []
    else if k = 5 then .mk 0 5 0 0 [] (bothF joinT fs b.fields)
    else .mk 0 k s c es fs := by
  have h : joinT (.mk o k s c es fs) b = _ := congrFun (Ty.para_mk _ o k s c es fs) b
  rw [h]
  have hh : ∀ l : List Ty, (match es.map (fun a b => joinT a b), l with | r :: _, y :: _ => [r y] | _, _ => []) = hdJ joinT es l := by
    intro l
    cases l <;> cases es <;> rfl
  simp only [Ty.kind, Ty.size, Ty.count, Ty.fields, zip_self, List.filterMap_map, at_mk]
  rw [← hh]
  rfl
theorem both_off (f : Ty → Ty → Ty) (fa fb : List Ty) : ((bothF f fa fb).map Ty.off).Sublist (fa.map Ty.off) := by
  unfold bothF
  induction fa with
  | nil => exact List.Sublist.refl _
  | cons x l ih =>
    rw [List.filterMap_cons, List.map_cons]
    cases fb.find? (fun y => y.off == x.off) with
    | none => exact List.Sublist.cons _ ih
    | some y => simp only [Option.map_some, List.map_cons, at_off]; exact List.Sublist.cons_cons _ ih
theorem both_mem {f : Ty → Ty → Ty} {fa fb : List Ty} {z : Ty} : z ∈ bothF f fa fb ↔ ∃ x ∈ fa, ∃ y, fb.find? (fun y => y.off == x.off) = some y ∧ z = (f x y).at_ x.off := by
  unfold bothF
  rw [List.mem_filterMap]
  constructor
  · rintro ⟨x, hx, h⟩
    cases hy : fb.find? (fun y => y.off == x.off) with
    | none => rw [hy] at h; cases h
    | some y =>
      refine ⟨x, hx, y, hy, ?_⟩
      rw [hy] at h
      exact (Option.some.inj h).symm
  · rintro ⟨x, hx, y, hy, rfl⟩
    exact ⟨x, hx, by rw [hy]; rfl⟩
theorem asc_sub {fs gs : List Ty} (h : Asc gs) (hs : (fs.map Ty.off).Sublist (gs.map Ty.off)) : Asc fs := by
  refine ⟨h.1.sublist hs, fun x hx => ?_⟩
  obtain ⟨y, hy, e⟩ := List.mem_map.1 (hs.subset (List.mem_map_of_mem hx))
  rw [← e]
  exact h.2 y hy
theorem both_asc (f : Ty → Ty → Ty) {fa fb : List Ty} (h : Asc fa) : Asc (bothF f fa fb) := asc_sub h (both_off f fa fb)
/-! ### Join is the least upper bound -/
def sK : Kd → Kd → Prop
  | .unk, _ => True
  | _, .any => True
  | .num k s, .num k' s' => k = k' ∧ s = s'
  | .ptr e, .ptr e' => subT e e' = true
  | .arr c e, .arr c' e' => c' ≤ c ∧ subT e e' = true
  | .str fs, .str gs => ∀ f ∈ gs, ∃ x ∈ fs, x.off = f.off ∧ subT x f = true
  | _, _ => False
theorem sK_iff {a b : Kd} (ha : a.ok) (hb : b.ok) : subT a.ty b.ty = true ↔ sK a b := by
  cases a with
  | unk => cases b <;> simp [Kd.ty, subT_mk2, sK]
  | any => cases b with
    | num k s => rcases hb.1 with rfl | rfl <;> simp [Kd.ty, subT_mk2, sK]
    | _ => simp [Kd.ty, subT_mk2, sK]
  | num k s => cases b with
    | num k' s' => rcases ha.1 with rfl | rfl <;> rcases hb.1 with rfl | rfl <;> simp [Kd.ty, subT_mk2, sK]
    | _ => rcases ha.1 with rfl | rfl <;> simp [Kd.ty, subT_mk2, sK]
  | ptr e => cases b with
    | num k s => rcases hb.1 with rfl | rfl <;> simp [Kd.ty, subT_mk2, sK]
    | _ => simp [Kd.ty, subT_mk2, sK, hd2]
  | arr c e => cases b with
    | num k s => rcases hb.1 with rfl | rfl <;> simp [Kd.ty, subT_mk2, sK]
    | _ => simp [Kd.ty, subT_mk2, sK, hd2]
  | str fs => cases b with
    | num k s => rcases hb.1 with rfl | rfl <;> simp [Kd.ty, subT_mk2, sK]
    | str gs =>
      have h : subT (Kd.str fs).ty (Kd.str gs).ty = gs.all fun f => fs.any fun x => x.off == f.off && subT x f := by
        simp [Kd.ty, subT_mk2]
      rw [h, subS_iff]
      rfl
    | _ => simp [Kd.ty, subT_mk2, sK]
def jK : Kd → Kd → Kd
  | .unk, d => d
  | d, .unk => d
  | .num k s, .num k' s' => if k = k' ∧ s = s' then .num k s else .any
  | .ptr e, .ptr e' => .ptr (joinT e e')
  | .arr c e, .arr c' e' => .arr (min c c') (joinT e e')
  | .str fs, .str gs => .str (bothF joinT fs gs)
  | _, _ => .any
theorem kd_at (d : Kd) : d.ty.at_ 0 = d.ty := by cases d <;> rfl
theorem jK_eq {a b : Kd} (ha : a.ok) (hb : b.ok) : joinT a.ty b.ty = (jK a b).ty := by
  cases a with
  | unk => show joinT (.mk 0 0 0 0 [] []) b.ty = b.ty; rw [joinT_mk, if_pos rfl, kd_at]
  | any => cases b with
    | num k s => rcases hb.1 with rfl | rfl <;> simp [Kd.ty, jK, joinT_mk, Ty.kind, Ty.size, topT]
    | _ => simp [Kd.ty, jK, joinT_mk, Ty.kind, Ty.size, topT]
  | num k s => cases b with
    | num k' s' =>
      by_cases h : k = k' ∧ s = s'
      · obtain ⟨rfl, rfl⟩ := h
        rcases ha.1 with rfl | rfl <;> simp [Kd.ty, jK, joinT_mk, Ty.kind, Ty.size, topT]
      · have h2 : k ≠ k' ∨ k = 6 ∨ s ≠ s' := by omega
        have h3 : ¬ k = 0 := by have := ha.1; omega
        have h4 : ¬ k' = 0 := by have := hb.1; omega
        show joinT (.mk 0 k s 0 [] []) (.mk 0 k' s' 0 [] []) = (if k = k' ∧ s = s' then Kd.num k s else Kd.any).ty
        rw [if_neg h, joinT_mk, if_neg h3, if_neg (show ¬ (Ty.mk 0 k' s' 0 [] []).kind = 0 from h4), if_pos (show k ≠ (Ty.mk 0 k' s' 0 [] []).kind ∨ k = 6 ∨ s ≠ (Ty.mk 0 k' s' 0 [] []).size from h2)]
        rfl
    | _ => rcases ha.1 with rfl | rfl <;> simp [Kd.ty, jK, joinT_mk, Ty.kind, Ty.size, topT]
  | ptr e => cases b with
    | num k s => rcases hb.1 with rfl | rfl <;> simp [Kd.ty, jK, joinT_mk, Ty.kind, Ty.size, topT]
    | _ => simp [Kd.ty, jK, joinT_mk, Ty.kind, Ty.size, Ty.elem, hdJ, topT]
  | arr c e => cases b with
    | num k s => rcases hb.1 with rfl | rfl <;> simp [Kd.ty, jK, joinT_mk, Ty.kind, Ty.size, topT]
    | _ => simp [Kd.ty, jK, joinT_mk, Ty.kind, Ty.size, Ty.elem, Ty.count, hdJ, topT]
  | str fs => cases b with
    | num k s => rcases hb.1 with rfl | rfl <;> simp [Kd.ty, jK, joinT_mk, Ty.kind, Ty.size, topT]
    | _ => simp [Kd.ty, jK, joinT_mk, Ty.kind, Ty.size, Ty.fields, topT]
theorem kd_frm {d : Kd} (h : d.ok) : frm d.ty = true := frm_kd.2 ⟨d, h, by cases d <;> rfl⟩
theorem kd_of {t : Ty} (h : frm t = true) : ∃ d : Kd, d.ok ∧ t = d.ty.at_ t.off := frm_kd.1 h
structure Lub (a b j : Ty) : Prop where
  frm : frm j = true
  left : subT a j = true
  right : subT b j = true
  least : ∀ c, Go.Proofs.YtianekkfehoedaaDoor.frm c = true → subT a c = true → subT b c = true → subT j c = true
/-- The parts of a node. -/
def Kd.parts : Kd → List Ty
  | .ptr e => [e]
  | .arr _ e => [e]
  | .str fs => fs
  | _ => []
theorem both_of {fa fb : List Ty} (ha : Asc fa) (hb : Asc fb) {x y : Ty} (hx : x ∈ fa) (hy : y ∈ fb) (e : x.off = y.off) (f : Ty → Ty → Ty) : (f x y).at_ x.off ∈ bothF f fa fb :=
  both_mem.2 ⟨x, hx, y, by rw [e]; exact asc_find hb hy, rfl⟩
theorem lub_kd {a b : Kd} (ha : a.ok) (hb : b.ok) (IH : ∀ x ∈ a.parts, frm x = true → ∀ y, frm y = true → Lub x y (joinT x y)) : (jK a b).ok ∧ sK a (jK a b) ∧ sK b (jK a b) ∧ ∀ c : Kd, c.ok → sK a c → sK b c → sK (jK a b) c := by
  cases a with
  | unk => exact ⟨hb, trivial, (sK_iff hb hb).1 (subT_refl _ (kd_frm hb)), fun c _ _ h => h⟩
  | any => cases b <;> refine ⟨trivial, by trivial, by trivial, fun c hc h1 h2 => ?_⟩ <;> cases c <;> simp_all [sK, jK]
  | num k s => cases b with
    | unk => exact ⟨ha, (sK_iff ha ha).1 (subT_refl _ (kd_frm ha)), trivial, fun c _ h _ => h⟩
    | num k' s' =>
      rw [show jK (.num k s) (.num k' s') = (if k = k' ∧ s = s' then .num k s else .any) from rfl]
      by_cases h : k = k' ∧ s = s'
      · rw [if_pos h]
        obtain ⟨rfl, rfl⟩ := h
        exact ⟨ha, ⟨rfl, rfl⟩, ⟨rfl, rfl⟩, fun c _ h _ => h⟩
      · rw [if_neg h]
        refine ⟨trivial, trivial, trivial, fun c hc h1 h2 => ?_⟩
        cases c with
        | any => trivial
        | num k2 s2 => exact absurd ⟨h1.1.trans h2.1.symm, h1.2.trans h2.2.symm⟩ h
        | _ => exact absurd h1 (by simp [sK])
    | _ => refine ⟨trivial, by trivial, by trivial, fun c hc h1 h2 => ?_⟩; cases c <;> simp_all [sK, jK]
  | ptr e => cases b with
    | unk => exact ⟨ha, (sK_iff ha ha).1 (subT_refl _ (kd_frm ha)), trivial, fun c _ h _ => h⟩
    | ptr e' =>
      have h := IH e (by simp [Kd.parts]) ha e' hb
      refine ⟨h.frm, h.left, h.right, fun c hc h1 h2 => ?_⟩
      cases c with
      | any => trivial
      | ptr e2 => exact h.least e2 hc h1 h2
      | _ => exact absurd h1 (by simp [sK])
    | _ => refine ⟨trivial, by trivial, by trivial, fun c hc h1 h2 => ?_⟩; cases c <;> simp_all [sK, jK]
  | arr n e => cases b with
    | unk => exact ⟨ha, (sK_iff ha ha).1 (subT_refl _ (kd_frm ha)), trivial, fun c _ h _ => h⟩
    | arr n' e' =>
      obtain ⟨a1, a2, a3⟩ := ha
      obtain ⟨b1, b2, b3⟩ := hb
      have h := IH e (by simp [Kd.parts]) a3 e' b3
      refine ⟨⟨by omega, by omega, h.frm⟩, ⟨by omega, h.left⟩, ⟨by omega, h.right⟩, fun c hc h1 h2 => ?_⟩
      cases c with
      | any => trivial
      | arr n2 e2 => exact ⟨by have := h1.1; have := h2.1; omega, h.least e2 hc.2.2 h1.2 h2.2⟩
      | _ => exact absurd h1 (by simp [sK])
    | _ => refine ⟨trivial, by trivial, by trivial, fun c hc h1 h2 => ?_⟩; cases c <;> simp_all [sK, jK]
  | str fs => cases b with
    | unk => exact ⟨ha, (sK_iff ha ha).1 (subT_refl _ (kd_frm ha)), trivial, fun c _ h _ => h⟩
    | str gs =>
      obtain ⟨a1, a2⟩ := ha
      obtain ⟨b1, b2⟩ := hb
      have hL : ∀ x ∈ fs, ∀ y ∈ gs, Lub x y (joinT x y) := fun x hx y hy => IH x hx (a2 x hx) y (b2 y hy)
      refine ⟨⟨both_asc _ a1, fun z hz => ?_⟩, fun f hf => ?_, fun f hf => ?_, fun c hc h1 h2 => ?_⟩
      · obtain ⟨x, hx, y, hy, rfl⟩ := both_mem.1 hz
        rw [frm_at]
        exact (hL x hx y (find_off hy).1).frm
      · obtain ⟨x, hx, y, hy, rfl⟩ := both_mem.1 hf
        exact ⟨x, hx, rfl, by rw [subT_atR]; exact (hL x hx y (find_off hy).1).left⟩
      · obtain ⟨x, hx, y, hy, rfl⟩ := both_mem.1 hf
        exact ⟨y, (find_off hy).1, (find_off hy).2, by rw [subT_atR]; exact (hL x hx y (find_off hy).1).right⟩
      · cases c with
        | any => trivial
        | str hs =>
          intro f hf
          obtain ⟨x, hx, e1, s1⟩ := h1 f hf
          obtain ⟨y, hy, e2, s2⟩ := h2 f hf
          exact ⟨_, both_of a1 b1 hx hy (e1.trans e2.symm) joinT, e1, by rw [subT_atL]; exact (hL x hx y hy).least f (hc.2 f hf) s1 s2⟩
        | _ => exact absurd h1 (by simp [sK])
    | _ => refine ⟨trivial, by trivial, by trivial, fun c hc h1 h2 => ?_⟩; cases c <;> simp_all [sK, jK]
theorem joinT_atL (a b : Ty) (o : Int) : joinT (a.at_ o) b = joinT a b := by cases a; rw [at_mk, joinT_mk, joinT_mk]
theorem joinT_atR (a b : Ty) (o : Int) : joinT a (b.at_ o) = joinT a b := by cases a; cases b; rw [at_mk, joinT_mk, joinT_mk]; rfl
theorem kd_parts {d : Kd} {o o' k s c : Int} {es fs : List Ty} (h : Ty.mk o k s c es fs = d.ty.at_ o') : ∀ x ∈ d.parts, x ∈ es ∨ x ∈ fs := by
  cases d with
  | ptr e => cases h; exact fun x hx => .inl hx
  | arr c e => cases h; exact fun x hx => .inl hx
  | str gs => cases h; exact fun x hx => .inr hx
  | _ => exact fun x hx => by cases hx
theorem joinT_lub : ∀ a : Ty, frm a = true → ∀ b : Ty, frm b = true → Lub a b (joinT a b) := by
  refine Ty.induct fun o k s c es fs hE hF ha b hb => ?_
  obtain ⟨da, hda, ea⟩ := kd_of ha
  obtain ⟨db, hdb, eb⟩ := kd_of hb
  have h := lub_kd hda hdb fun x hx hfx y hy => by
    rcases kd_parts ea x hx with h | h
    · exact hE x h hfx y hy
    · exact hF x h hfx y hy
  obtain ⟨h1, h2, h3, h4⟩ := h
  rw [ea, eb, joinT_atL, joinT_atR, jK_eq hda hdb]
  refine ⟨kd_frm h1, ?_, ?_, fun c hc s1 s2 => ?_⟩
  · rw [subT_atL]; exact (sK_iff hda h1).2 h2
  · rw [subT_atL]; exact (sK_iff hdb h1).2 h3
  · obtain ⟨dc, hdc, ec⟩ := kd_of hc
    rw [ec, subT_atL, subT_atR] at s1 s2
    rw [ec, subT_atR]
    exact (sK_iff h1 hdc).2 (h4 dc hdc ((sK_iff hda hdc).1 s1) ((sK_iff hdb hdc).1 s2))
end Go.Proofs.YtianekkfehoedaaDoor
namespace Go.Proofs.YtianekkfehoedaaDoor
set_option linter.unusedSimpArgs false
set_option linter.unusedVariables false
set_option linter.unnecessarySimpa false

/-! ### Induction on formed types by their kinds -/
theorem kd_induct {P : Kd → Prop} (h : ∀ d : Kd, d.ok → (∀ x ∈ d.parts, ∀ e : Kd, e.ok → x = e.ty.at_ x.off → P e) → P d) : ∀ d : Kd, d.ok → P d := by
  have H : ∀ t : Ty, ∀ d : Kd, d.ok → t = d.ty.at_ t.off → P d := by
    refine Ty.induct fun o k s c es fs hE hF d hd ed => ?_
    refine h d hd fun x hx e he ex => ?_
    rcases kd_parts ed x hx with h | h
    · exact hE x h e he ex
    · exact hF x h e he ex
  exact fun d hd => H d.ty d hd (by cases d <;> rfl)
theorem parts_frm {d : Kd} (h : d.ok) : ∀ x ∈ d.parts, frm x = true := by
  cases d with
  | ptr e => intro x hx; simp only [Kd.parts, List.mem_singleton] at hx; subst hx; exact h
  | arr c e => intro x hx; simp only [Kd.parts, List.mem_singleton] at hx; subst hx; exact h.2.2
  | str fs => exact h.2
  | _ => intro x hx; cases hx
/-- A statement on all formed types, by the parts. -/
theorem frm_induct {P : Ty → Prop} (hat : ∀ t o, P t → P (t.at_ o)) (h : ∀ d : Kd, d.ok → (∀ x ∈ d.parts, P x) → P d.ty) : ∀ t : Ty, frm t = true → P t := by
  intro t ht
  obtain ⟨d, hd, e⟩ := kd_of ht
  have := kd_induct (P := fun d => P d.ty) (fun d hd ih => h d hd fun x hx => by
    obtain ⟨e, he, ex⟩ := kd_of (parts_frm hd x hx)
    rw [ex]
    exact hat _ _ (ih x hx e he ex)) d hd
  rw [e]
  exact hat _ _ this
theorem sub_kd {a b : Kd} (ha : a.ok) (hb : b.ok) (o p : Int) : subT (a.ty.at_ o) (b.ty.at_ p) = true ↔ sK a b := by
  rw [subT_atL, subT_atR, sK_iff ha hb]
theorem subT_trans : ∀ a : Ty, frm a = true → ∀ b c : Ty, frm b = true → frm c = true → subT a b = true → subT b c = true → subT a c = true := by
  refine frm_induct (fun t o h b c hb hc h1 h2 => by rw [subT_atL] at *; exact h b c hb hc h1 h2) fun a ha ih b c hb hc h1 h2 => ?_
  obtain ⟨b, hb', rfl'⟩ := kd_of hb
  obtain ⟨c, hc', rfl''⟩ := kd_of hc
  rw [rfl', subT_atR, sK_iff ha hb'] at h1
  rw [rfl', rfl'', sub_kd hb' hc'] at h2
  rw [rfl'', subT_atR, sK_iff ha hc']
  clear rfl' rfl'' hb hc
  cases a with
  | unk => trivial
  | any => cases b <;> first | exact False.elim h1 | (cases c <;> first | trivial | exact False.elim h2)
  | num k s => cases b with
    | any => cases c <;> first | trivial | exact absurd h2 (by simp [sK])
    | num k' s' => cases c with
      | any => trivial
      | num k2 s2 => exact ⟨h1.1.trans h2.1, h1.2.trans h2.2⟩
      | _ => exact absurd h2 (by simp [sK])
    | _ => exact absurd h1 (by simp [sK])
  | ptr e => cases b with
    | any => cases c <;> first | trivial | exact absurd h2 (by simp [sK])
    | ptr e' => cases c with
      | any => trivial
      | ptr e2 => exact ih e (by simp [Kd.parts]) e' e2 hb' hc' h1 h2
      | _ => exact absurd h2 (by simp [sK])
    | _ => exact absurd h1 (by simp [sK])
  | arr n e => cases b with
    | any => cases c <;> first | trivial | exact absurd h2 (by simp [sK])
    | arr n' e' => cases c with
      | any => trivial
      | arr n2 e2 => exact ⟨Int.le_trans h2.1 h1.1, ih e (by simp [Kd.parts]) e' e2 hb'.2.2 hc'.2.2 h1.2 h2.2⟩
      | _ => exact absurd h2 (by simp [sK])
    | _ => exact absurd h1 (by simp [sK])
  | str fs => cases b with
    | any => cases c <;> first | trivial | exact absurd h2 (by simp [sK])
    | str gs => cases c with
      | any => trivial
      | str hs =>
        intro z hz
        obtain ⟨y, hy, e1, s1⟩ := h2 z hz
        obtain ⟨x, hx, e2, s2⟩ := h1 y hy
        exact ⟨x, hx, e2.trans e1, ih x hx y z (hb'.2 y hy) (hc'.2 z hz) s2 s1⟩
      | _ => exact absurd h2 (by simp [sK])
    | _ => exact absurd h1 (by simp [sK])
/-- Lists of fields in ascending order with the same members are one. -/
theorem asc_ext : ∀ {fs gs : List Ty}, Asc fs → Asc gs → (∀ x, x ∈ fs ↔ x ∈ gs) → fs = gs
  | [], [], _, _, _ => rfl
  | [], y :: _, _, _, h => by cases (h y).2 (by simp)
  | x :: _, [], _, _, h => by cases (h x).1 (by simp)
  | x :: fs, y :: gs, ⟨h1, h2⟩, ⟨h3, h4⟩, h => by
    rw [List.map_cons, List.pairwise_cons] at h1 h3
    have e : x = y := by
      rcases List.mem_cons.1 ((h x).1 (by simp)) with e | e
      · exact e
      · rcases List.mem_cons.1 ((h y).2 (by simp)) with e' | e'
        · exact e'.symm
        · have a1 := h1.1 _ (List.mem_map_of_mem e')
          have a2 := h3.1 _ (List.mem_map_of_mem e)
          omega
    subst e
    congr 1
    refine asc_ext ⟨h1.2, fun z hz => h2 z (by simp [hz])⟩ ⟨h3.2, fun z hz => h4 z (by simp [hz])⟩ fun z => ?_
    have n1 : x ∉ fs := fun hx => by have := h1.1 _ (List.mem_map_of_mem hx); omega
    have n2 : x ∉ gs := fun hx => by have := h3.1 _ (List.mem_map_of_mem hx); omega
    have := h z
    simp only [List.mem_cons] at this
    by_cases hz : z = x
    · subst hz; exact ⟨fun hh => absurd hh n1, fun hh => absurd hh n2⟩
    · simpa [hz] using this
/-- Lists of fields that match by their offsets. -/
theorem asc_all2 {p : Ty → Ty → Bool} : ∀ {fs gs : List Ty}, Asc fs → Asc gs → (∀ x ∈ fs, ∃ y ∈ gs, y.off = x.off) → (∀ y ∈ gs, ∃ x ∈ fs, x.off = y.off) → (∀ x ∈ fs, ∀ y ∈ gs, x.off = y.off → p x y = true) → all2 (fun x y => x.off == y.off && p x y) fs gs = true
  | [], [], _, _, _, _, _ => rfl
  | [], y :: _, _, _, _, h, _ => by obtain ⟨x, hx, _⟩ := h y (by simp); cases hx
  | x :: _, [], _, _, h, _, _ => by obtain ⟨x, hx, _⟩ := h x (by simp); cases hx
  | x :: fs, y :: gs, ⟨h1, h2⟩, ⟨h3, h4⟩, u, d, hp => by
    rw [List.map_cons, List.pairwise_cons] at h1 h3
    have lx : ∀ z ∈ fs, x.off < z.off := fun z hz => h1.1 _ (List.mem_map_of_mem hz)
    have ly : ∀ z ∈ gs, y.off < z.off := fun z hz => h3.1 _ (List.mem_map_of_mem hz)
    have e : x.off = y.off := by
      obtain ⟨y', hy', e1⟩ := u x (by simp)
      obtain ⟨x', hx', e2⟩ := d y (by simp)
      rcases List.mem_cons.1 hy' with rfl | m1
      · exact e1.symm
      · rcases List.mem_cons.1 hx' with rfl | m2
        · exact e2
        · have := lx _ m2; have := ly _ m1; omega
    simp only [all2, Bool.and_eq_true, beq_iff_eq]
    refine ⟨⟨e, hp x (by simp) y (by simp) e⟩, ?_⟩
    refine asc_all2 ⟨h1.2, fun z hz => h2 z (by simp [hz])⟩ ⟨h3.2, fun z hz => h4 z (by simp [hz])⟩ (fun z hz => ?_) (fun z hz => ?_) (fun z hz w hw => hp z (by simp [hz]) w (by simp [hw]))
    · obtain ⟨w, hw, e1⟩ := u z (by simp [hz])
      rcases List.mem_cons.1 hw with rfl | hw
      · have := lx _ hz; omega
      · exact ⟨w, hw, e1⟩
    · obtain ⟨w, hw, e1⟩ := d z (by simp [hz])
      rcases List.mem_cons.1 hw with rfl | hw
      · have := ly _ hz; omega
      · exact ⟨w, hw, e1⟩
theorem samT_atL (a b : Ty) (o : Int) : samT (a.at_ o) b = samT a b := by cases a; rw [at_mk, samT_mk, samT_mk]
theorem samT_atR (a b : Ty) (o : Int) : samT a (b.at_ o) = samT a b := by cases a; cases b; rw [at_mk, samT_mk, samT_mk]; rfl
theorem subT_antisymm : ∀ a : Ty, frm a = true → ∀ b : Ty, frm b = true → subT a b = true → subT b a = true → samT a b = true := by
  refine frm_induct (fun t o h b hb h1 h2 => by rw [subT_atL] at h1; rw [subT_atR] at h2; rw [samT_atL]; exact h b hb h1 h2) fun a ha ih b hb h1 h2 => ?_
  obtain ⟨b, hb', rfl'⟩ := kd_of hb
  rw [rfl', subT_atR, sK_iff ha hb'] at h1
  rw [rfl', subT_atL, sK_iff hb' ha] at h2
  rw [rfl', samT_atR]
  clear rfl' hb
  cases a with
  | unk => cases b <;> first | exact samT_refl _ | exact absurd h2 (by simp [sK])
  | any => cases b <;> first | exact samT_refl _ | exact absurd h1 (by simp [sK])
  | num k s => cases b with
    | num k' s' => obtain ⟨rfl, rfl⟩ := h1; exact samT_refl _
    | any => exact absurd h2 (by simp [sK])
    | _ => exact absurd h1 (by simp [sK])
  | ptr e => cases b with
    | ptr e' =>
      have := ih e (by simp [Kd.parts]) e' hb' h1 h2
      simp [Kd.ty, samT_mk, all2, Ty.kind, Ty.size, Ty.count, Ty.elem, Ty.fields, this]
    | any => exact absurd h2 (by simp [sK])
    | _ => exact absurd h1 (by simp [sK])
  | arr n e => cases b with
    | arr n' e' =>
      have := ih e (by simp [Kd.parts]) e' hb'.2.2 h1.2 h2.2
      have hn : n = n' := Int.le_antisymm h2.1 h1.1
      subst hn
      simp [Kd.ty, samT_mk, all2, Ty.kind, Ty.size, Ty.count, Ty.elem, Ty.fields, this]
    | any => exact absurd h2 (by simp [sK])
    | _ => exact absurd h1 (by simp [sK])
  | str fs => cases b with
    | str gs =>
      have : all2 (fun x y => x.off == y.off && samT x y) fs gs = true := by
        refine asc_all2 ha.1 hb'.1 (fun x hx => ?_) (fun y hy => ?_) fun x hx y hy e => ?_
        · obtain ⟨y, hy, e1, _⟩ := h2 x hx; exact ⟨y, hy, e1⟩
        · obtain ⟨x, hx, e1, _⟩ := h1 y hy; exact ⟨x, hx, e1⟩
        · obtain ⟨x', hx', e1, s1⟩ := h1 y hy
          obtain ⟨y', hy', e2, s2⟩ := h2 x hx
          obtain rfl := asc_uniq ha.1 hx' hx (e1.trans e.symm)
          obtain rfl := asc_uniq hb'.1 hy' hy (e2.trans e)
          exact ih x' hx y' (hb'.2 y' hy) s1 s2
      simp [Kd.ty, samT_mk, all2, Ty.kind, Ty.size, Ty.count, Ty.elem, Ty.fields, this]
    | any => exact absurd h2 (by simp [sK])
    | _ => exact absurd h1 (by simp [sK])
/-! ### Equal types answer alike -/
theorem all2_maps {α β γ : Type} {p : α → β → Bool} {f : α → γ} {g : β → γ} : ∀ {l : List α} {m : List β}, (∀ x ∈ l, ∀ y, p x y = true → f x = g y) → all2 p l m = true → l.map f = m.map g
  | [], [], _, _ => rfl
  | [], _ :: _, _, h => by simp [all2] at h
  | _ :: _, [], _, h => by simp [all2] at h
  | x :: l, y :: m, hp, h => by
    simp only [all2, Bool.and_eq_true] at h
    rw [List.map_cons, List.map_cons, hp x (by simp) y h.1, all2_maps (fun z hz => hp z (by simp [hz])) h.2]
theorem all_map' {α : Type} (f : α → Bool) (l : List α) : l.all f = (l.map f).all id := by rw [List.all_map]; rfl
theorem samT_inv {o k s c : Int} {es fs : List Ty} {b : Ty} (h : samT (.mk o k s c es fs) b = true) : ∃ o' es' fs', b = .mk o' k s c es' fs' ∧ all2 samT es es' = true ∧ all2 (fun x y => x.off == y.off && samT x y) fs fs' = true := by
  obtain ⟨o', k', s', c', es', fs'⟩ := b
  rw [samT_mk] at h
  simp only [Bool.and_eq_true, beq_iff_eq, Ty.kind, Ty.size, Ty.count, Ty.elem, Ty.fields] at h
  obtain ⟨⟨⟨⟨rfl, rfl⟩, rfl⟩, h1⟩, h2⟩ := h
  exact ⟨o', es', fs', rfl, h1, h2⟩
structure Alike (a b : Ty) : Prop where
  shal : ∀ n, Go.Proofs.YtianekkfehoedaaDoor.shal a n = Go.Proofs.YtianekkfehoedaaDoor.shal b n
  siz : Go.Proofs.YtianekkfehoedaaDoor.siz a = Go.Proofs.YtianekkfehoedaaDoor.siz b
  frm : Go.Proofs.YtianekkfehoedaaDoor.frm a = Go.Proofs.YtianekkfehoedaaDoor.frm b
  wit : Go.Proofs.YtianekkfehoedaaDoor.wit a = Go.Proofs.YtianekkfehoedaaDoor.wit b
  symm : samT b a = true
theorem samT_alike : ∀ a b : Ty, samT a b = true → Alike a b := by
  refine Ty.induct fun o k s c es fs hE hF b h => ?_
  obtain ⟨o', es', fs', rfl, h1, h2⟩ := samT_inv h
  have hF' : ∀ x ∈ fs, ∀ y, (x.off == y.off && samT x y) = true → x.off = y.off ∧ Alike x y := fun x hx y hxy => by
    simp only [Bool.and_eq_true, beq_iff_eq] at hxy
    exact ⟨hxy.1, hF x hx y hxy.2⟩
  have lE : es.length = es'.length := (all2_iff.1 h1).1
  have lF : fs.length = fs'.length := (all2_iff.1 h2).1
  have mo : fs.map Ty.off = fs'.map Ty.off := all2_maps (fun x hx y hxy => (hF' x hx y hxy).1) h2
  have ms : (fs.map fun f => f.off + Go.Proofs.YtianekkfehoedaaDoor.siz f) = fs'.map fun f => f.off + Go.Proofs.YtianekkfehoedaaDoor.siz f := all2_maps (fun x hx y hxy => by rw [(hF' x hx y hxy).1, (hF' x hx y hxy).2.siz]) h2
  have me : es.map Go.Proofs.YtianekkfehoedaaDoor.siz = es'.map Go.Proofs.YtianekkfehoedaaDoor.siz := all2_maps (fun x hx y hxy => (hE x hx y hxy).siz) h1
  have hs : Go.Proofs.YtianekkfehoedaaDoor.siz (.mk o k s c es fs) = Go.Proofs.YtianekkfehoedaaDoor.siz (.mk o' k s c es' fs') := by rw [siz_mk, siz_mk, ms, me]
  have ha : asc fs = asc fs' := by
    unfold asc
    rw [lF]
    congr 1
    funext i
    unfold fok
    rw [mo]
  refine ⟨fun n => ?_, hs, ?_, ?_, ?_⟩
  · rw [shal_mk, shal_mk, all_map' _ es, all_map' _ es', all_map' _ fs, all_map' _ fs', all2_maps (fun x hx y hxy => (hE x hx y hxy).shal (n - 1)) h1, all2_maps (fun x hx y hxy => (hF' x hx y hxy).2.shal (n - 1)) h2]
  · rw [frm_mk, frm_mk, lE, lF, ha, all_map' _ es, all_map' _ es', all_map' _ fs, all_map' _ fs', all2_maps (fun x hx y hxy => (hE x hx y hxy).frm) h1, all2_maps (fun x hx y hxy => (hF' x hx y hxy).2.frm) h2]
  · rw [wit_mk, wit_mk, lF, hs, all_map' _ es, all_map' _ es', all_map' _ fs, all_map' _ fs', all2_maps (fun x hx y hxy => (hE x hx y hxy).wit) h1, all2_maps (fun x hx y hxy => (hF' x hx y hxy).2.wit) h2]
  · rw [samT_mk]
    have k1 : all2 samT es' es = true := all2_iff.2 ⟨lE.symm, fun i hi hi' => (hE _ (List.getElem_mem hi') _ ((all2_iff.1 h1).2 i hi' hi)).symm⟩
    have k2 : all2 (fun x y => x.off == y.off && samT x y) fs' fs = true := all2_iff.2 ⟨lF.symm, fun i hi hi' => by
      have := hF' _ (List.getElem_mem hi') _ ((all2_iff.1 h2).2 i hi' hi)
      simp [this.1, this.2.symm]⟩
    simp [Ty.kind, Ty.size, Ty.count, Ty.elem, Ty.fields, k1, k2]
theorem samT_good {a b : Ty} (h : samT a b = true) : good a = good b := by
  have := samT_alike a b h
  unfold good chk
  rw [this.shal, this.frm, this.wit]
theorem samT_comm (a b : Ty) : samT a b = samT b a := by
  cases h : samT a b with
  | true => exact (samT_alike a b h).symm.symm
  | false => cases h' : samT b a with
    | false => rfl
    | true => rw [(samT_alike b a h').symm] at h; exact h.symm
theorem samT_trans : ∀ a b c : Ty, samT a b = true → samT b c = true → samT a c = true := by
  refine Ty.induct fun o k s c es fs hE hF b d h h' => ?_
  obtain ⟨o', es', fs', rfl, h1, h2⟩ := samT_inv h
  obtain ⟨o2, es2, fs2, rfl, h3, h4⟩ := samT_inv h'
  rw [all2_iff] at h1 h2 h3 h4
  have k1 : all2 samT es es2 = true := all2_iff.2 ⟨h1.1.trans h3.1, fun i hi hi' => hE _ (List.getElem_mem hi) _ _ (h1.2 i hi (by omega)) (h3.2 i (by omega) hi')⟩
  have k2 : all2 (fun x y => x.off == y.off && samT x y) fs fs2 = true := all2_iff.2 ⟨h2.1.trans h4.1, fun i hi hi' => by
    have a1 := h2.2 i hi (by omega)
    have a2 := h4.2 i (by omega) hi'
    simp only [Bool.and_eq_true, beq_iff_eq] at a1 a2 ⊢
    exact ⟨a1.1.trans a2.1, hF _ (List.getElem_mem hi) _ _ a1.2 a2.2⟩⟩
  rw [samT_mk]
  simp [Ty.kind, Ty.size, Ty.count, Ty.elem, Ty.fields, k1, k2]
/-- Equal formed types are subtypes. -/
theorem samT_sub : ∀ a : Ty, frm a = true → ∀ b : Ty, samT a b = true → subT a b = true := by
  refine frm_induct (fun t o h b h1 => by rw [subT_atL]; rw [samT_atL] at h1; exact h b h1) fun a ha ih b h => ?_
  have hb : frm b = true := (samT_alike _ _ h).frm ▸ kd_frm ha
  obtain ⟨b, hb', eb⟩ := kd_of hb
  rw [eb, samT_atR] at h
  rw [eb, subT_atR, sK_iff ha hb']
  clear eb hb
  cases a with
  | unk => trivial
  | any => cases b with
    | any => trivial
    | num k' s' => rcases hb'.1 with rfl | rfl <;> exact absurd h (by simp [Kd.ty, samT_mk, all2, Ty.kind])
    | _ => exact absurd h (by simp [Kd.ty, samT_mk, all2, Ty.kind])
  | num k s => cases b with
    | any => trivial
    | num k' s' => simp [Kd.ty, samT_mk, all2, Ty.kind, Ty.size, Ty.count, Ty.elem, Ty.fields] at h; exact h
    | _ => rcases ha.1 with rfl | rfl <;> exact absurd h (by simp [Kd.ty, samT_mk, all2, Ty.kind])
  | ptr e => cases b with
    | any => trivial
    | ptr e' => simp [Kd.ty, samT_mk, all2, Ty.kind, Ty.size, Ty.count, Ty.elem, Ty.fields] at h; exact ih e (by simp [Kd.parts]) e' h
    | num k' s' => rcases hb'.1 with rfl | rfl <;> exact absurd h (by simp [Kd.ty, samT_mk, all2, Ty.kind])
    | _ => exact absurd h (by simp [Kd.ty, samT_mk, all2, Ty.kind])
  | arr n e => cases b with
    | any => trivial
    | arr n' e' =>
      simp [Kd.ty, samT_mk, all2, Ty.kind, Ty.size, Ty.count, Ty.elem, Ty.fields] at h
      exact ⟨by omega, ih e (by simp [Kd.parts]) e' h.2⟩
    | num k' s' => rcases hb'.1 with rfl | rfl <;> exact absurd h (by simp [Kd.ty, samT_mk, all2, Ty.kind])
    | _ => exact absurd h (by simp [Kd.ty, samT_mk, all2, Ty.kind])
  | str fs => cases b with
    | any => trivial
    | str gs =>
      simp [Kd.ty, samT_mk, all2, Ty.kind, Ty.size, Ty.count, Ty.elem, Ty.fields] at h
      rw [all2_iff] at h
      intro f hf
      obtain ⟨i, hi, rfl⟩ := List.getElem_of_mem hf
      have := h.2 i (by omega) hi
      simp only [Bool.and_eq_true, beq_iff_eq] at this
      exact ⟨fs[i], List.getElem_mem _, this.1, ih _ (List.getElem_mem _) _ this.2⟩
    | num k' s' => rcases hb'.1 with rfl | rfl <;> exact absurd h (by simp [Kd.ty, samT_mk, all2, Ty.kind])
    | _ => exact absurd h (by simp [Kd.ty, samT_mk, all2, Ty.kind])
end Go.Proofs.YtianekkfehoedaaDoor
namespace Go.Proofs.YtianekkfehoedaaDoor
set_option linter.unusedSimpArgs false
set_option linter.unusedVariables false
set_option linter.unnecessarySimpa false

theorem foldl_max_mem : ∀ (l : List Int) (a x : Int), x ∈ l → x ≤ l.foldl max a
  | [], _, _, h => by cases h
  | y :: l, a, x, h => by
    rw [List.foldl_cons]
    rcases List.mem_cons.1 h with rfl | h
    · exact Int.le_trans (Int.le_max_right a x) (foldl_max_ge l _)
    · exact foldl_max_mem l _ x h
theorem siz_unk : siz Kd.unk.ty = 0 := by rw [Kd.ty, siz_mk]; rfl
theorem siz_any : siz Kd.any.ty = 0 := by rw [Kd.ty, siz_mk]; rfl
theorem siz_num {k s : Int} (h : (Kd.num k s).ok) : siz (Kd.num k s).ty = s := by
  obtain ⟨h1, h2⟩ := h
  rw [Kd.ty, siz_mk]
  rcases h1 with rfl | rfl <;> rcases h2 with rfl | rfl | rfl <;> rfl
theorem siz_ptr (e : Ty) : siz (Kd.ptr e).ty = 4 := by rw [Kd.ty, siz_mk]; rfl
theorem siz_arr (c : Int) (e : Ty) : siz (Kd.arr c e).ty = min (c * siz e) 65537 := by rw [Kd.ty, siz_mk]; rfl
theorem siz_str (fs : List Ty) : siz (Kd.str fs).ty = min ((fs.map fun f => f.off + siz f).foldl max 0) 65537 := by rw [Kd.ty, siz_mk]; rfl
theorem shal_kd (d : Kd) (n : Int) : shal d.ty n = (decide (1 ≤ n) && d.parts.all fun t => shal t (n - 1)) := by
  cases d <;> rw [Kd.ty, shal_mk] <;> simp [Kd.parts]
theorem wit_kd (d : Kd) (hd : d.ok) : wit d.ty = (decide (d.parts.length ≤ 64) && decide (siz d.ty ≤ 65536) && d.parts.all wit) := by
  cases d <;> unfold Kd.ty <;> rw [wit_mk] <;> simp [Kd.parts] <;> rfl
/-- What a type made out of two others keeps. -/
structure Keep (a b j : Ty) : Prop where
  shal : ∀ n, Go.Proofs.YtianekkfehoedaaDoor.shal a n = true → Go.Proofs.YtianekkfehoedaaDoor.shal b n = true → Go.Proofs.YtianekkfehoedaaDoor.shal j n = true
  siz : Go.Proofs.YtianekkfehoedaaDoor.siz j ≤ max (Go.Proofs.YtianekkfehoedaaDoor.siz a) (Go.Proofs.YtianekkfehoedaaDoor.siz b)
  wit : Go.Proofs.YtianekkfehoedaaDoor.wit a = true → Go.Proofs.YtianekkfehoedaaDoor.wit b = true → Go.Proofs.YtianekkfehoedaaDoor.wit j = true
theorem keep_left (a b : Ty) : Keep a b a := ⟨fun n h _ => h, Int.le_max_left _ _, fun h _ => h⟩
theorem keep_right (a b : Ty) : Keep a b b := ⟨fun n _ h => h, Int.le_max_right _ _, fun _ h => h⟩
theorem keep_any {a b : Ty} (ha : frm a = true) : Keep a b Kd.any.ty := by
  refine ⟨fun n h _ => ?_, ?_, fun _ _ => ?_⟩
  · rw [shal_kd]
    obtain ⟨o, k, s, c, es, fs⟩ := a
    rw [shal_mk] at h
    simp only [Bool.and_eq_true] at h
    simp [Kd.parts, h.1.1]
  · rw [siz_any]
    exact Int.le_trans (siz_nonneg a ha) (Int.le_max_left _ _)
  · rw [wit_kd _ (by trivial), siz_any]; rfl
theorem keep_kd {a b : Kd} (ha : a.ok) (hb : b.ok) (IH : ∀ x ∈ a.parts, ∀ y, frm y = true → Keep x y (joinT x y)) : Keep a.ty b.ty (jK a b).ty := by
  cases a with
  | unk => exact keep_right _ _
  | any => cases b <;> first | exact keep_left _ _ | exact keep_any (kd_frm ha)
  | num k s => cases b with
    | unk => exact keep_left _ _
    | num k' s' =>
      rw [show jK (.num k s) (.num k' s') = (if k = k' ∧ s = s' then .num k s else .any) from rfl]
      by_cases h : k = k' ∧ s = s'
      · rw [if_pos h]; exact keep_left _ _
      · rw [if_neg h]; exact keep_any (kd_frm ha)
    | _ => exact keep_any (kd_frm ha)
  | ptr e => cases b with
    | unk => exact keep_left _ _
    | ptr e' =>
      have h := IH e (by simp [Kd.parts]) e' hb
      refine ⟨fun n h1 h2 => ?_, ?_, fun h1 h2 => ?_⟩
      · rw [shal_kd] at *
        simp only [Kd.parts, jK, List.all_cons, List.all_nil, Bool.and_true, Bool.and_eq_true] at *
        exact ⟨h1.1, h.shal _ h1.2 h2.2⟩
      · rw [show jK (.ptr e) (.ptr e') = .ptr (joinT e e') from rfl, siz_ptr, siz_ptr]; exact Int.le_max_left _ _
      · have hj : (jK (.ptr e) (.ptr e')).ok := (joinT_lub e ha e' hb).frm
        rw [wit_kd _ ha] at h1
        rw [wit_kd _ hb] at h2
        rw [wit_kd _ hj]
        simp only [Kd.parts, jK, List.all_cons, List.all_nil, Bool.and_true, Bool.and_eq_true, siz_ptr, List.length_singleton] at *
        exact ⟨h1.1, h.wit h1.2 h2.2⟩
    | _ => exact keep_any (kd_frm ha)
  | arr c e => cases b with
    | unk => exact keep_left _ _
    | arr c' e' =>
      have h := IH e (by simp [Kd.parts]) e' hb.2.2
      have hj : (jK (.arr c e) (.arr c' e')).ok := by
        obtain ⟨a1, a2, a3⟩ := ha
        obtain ⟨b1, b2, b3⟩ := hb
        exact ⟨by omega, by omega, (joinT_lub e a3 e' b3).frm⟩
      have hs : siz (jK (.arr c e) (.arr c' e')).ty ≤ max (siz (Kd.arr c e).ty) (siz (Kd.arr c' e').ty) := by
        rw [show jK (.arr c e) (.arr c' e') = .arr (min c c') (joinT e e') from rfl, siz_arr, siz_arr, siz_arr]
        have h0 := siz_nonneg e ha.2.2
        have h0' := siz_nonneg e' hb.2.2
        have hs := h.siz
        have m1 : min c c' * siz (joinT e e') ≤ min c c' * max (siz e) (siz e') := Int.mul_le_mul_of_nonneg_left hs (by have := ha.1; have := hb.1; omega)
        have m2 : min c c' * siz e ≤ c * siz e := Int.mul_le_mul_of_nonneg_right (by omega) h0
        have m3 : min c c' * siz e' ≤ c' * siz e' := Int.mul_le_mul_of_nonneg_right (by omega) h0'
        rcases Int.le_total (siz e) (siz e') with hh | hh
        · rw [Int.max_eq_right hh] at m1; omega
        · rw [Int.max_eq_left hh] at m1; omega
      refine ⟨fun n h1 h2 => ?_, hs, fun h1 h2 => ?_⟩
      · rw [shal_kd] at *
        simp only [Kd.parts, jK, List.all_cons, List.all_nil, Bool.and_true, Bool.and_eq_true] at *
        exact ⟨h1.1, h.shal _ h1.2 h2.2⟩
      · rw [wit_kd _ ha] at h1
        rw [wit_kd _ hb] at h2
        rw [wit_kd _ hj]
        simp only [Bool.and_eq_true, decide_eq_true_eq] at *
        refine ⟨⟨by simp [Kd.parts, jK], by have := h1.1.2; have := h2.1.2; omega⟩, ?_⟩
        have w1 := h1.2
        have w2 := h2.2
        simp only [Kd.parts, jK, List.all_cons, List.all_nil, Bool.and_true, Bool.and_eq_true] at *
        exact h.wit w1 w2
    | _ => exact keep_any (kd_frm ha)
  | str fs => cases b with
    | unk => exact keep_left _ _
    | str gs =>
      have hL : ∀ z ∈ bothF joinT fs gs, ∃ x ∈ fs, ∃ y ∈ gs, x.off = y.off ∧ z = (joinT x y).at_ x.off ∧ Keep x y (joinT x y) := fun z hz => by
        obtain ⟨x, hx, y, hy, rfl⟩ := both_mem.1 hz
        obtain ⟨hy, e⟩ := find_off hy
        exact ⟨x, hx, y, hy, e.symm, rfl, IH x hx y (hb.2 y hy)⟩
      have hj : (jK (.str fs) (.str gs)).ok := ⟨both_asc _ ha.1, fun z hz => by
        obtain ⟨x, hx, y, hy, e, rfl, h⟩ := hL z hz
        rw [frm_at]
        exact (joinT_lub x (ha.2 x hx) y (hb.2 y hy)).frm⟩
      have hs : siz (jK (.str fs) (.str gs)).ty ≤ max (siz (Kd.str fs).ty) (siz (Kd.str gs).ty) := by
        rw [show jK (.str fs) (.str gs) = .str (bothF joinT fs gs) from rfl, siz_str, siz_str, siz_str]
        have : ((bothF joinT fs gs).map fun f => f.off + siz f).foldl max 0 ≤ max ((fs.map fun f => f.off + siz f).foldl max 0) ((gs.map fun f => f.off + siz f).foldl max 0) := by
          refine foldl_max_le _ _ (fun v hv => ?_) _ (Int.le_trans (foldl_max_ge _ _) (Int.le_max_left _ _))
          obtain ⟨z, hz, rfl⟩ := List.mem_map.1 hv
          obtain ⟨x, hx, y, hy, e, rfl, h⟩ := hL z hz
          rw [at_off, siz_at]
          have h1 := foldl_max_mem (fs.map fun f => f.off + siz f) 0 _ (List.mem_map_of_mem hx)
          have h2 := foldl_max_mem (gs.map fun f => f.off + siz f) 0 _ (List.mem_map_of_mem hy)
          have := h.siz
          omega
        omega
      refine ⟨fun n h1 h2 => ?_, hs, fun h1 h2 => ?_⟩
      · rw [shal_kd] at *
        simp only [Bool.and_eq_true, List.all_eq_true] at *
        refine ⟨h1.1, fun z hz => ?_⟩
        obtain ⟨x, hx, y, hy, e, rfl, h⟩ := hL z hz
        rw [shal_at]
        exact h.shal _ (h1.2 x hx) (h2.2 y hy)
      · rw [wit_kd _ ha] at h1
        rw [wit_kd _ hb] at h2
        rw [wit_kd _ hj]
        simp only [Bool.and_eq_true, decide_eq_true_eq, List.all_eq_true] at *
        refine ⟨⟨?_, by have := h1.1.2; have := h2.1.2; omega⟩, fun z hz => ?_⟩
        · have := (both_off joinT fs gs).length_le
          simp only [List.length_map] at this
          exact Nat.le_trans this h1.1.1
        · obtain ⟨x, hx, y, hy, e, rfl, h⟩ := hL z hz
          rw [wit_at]
          exact h.wit (h1.2 x hx) (h2.2 y hy)
    | _ => exact keep_any (kd_frm ha)
theorem keep_atL {a b j : Ty} (o : Int) : Keep (a.at_ o) b j ↔ Keep a b j := by
  constructor <;> rintro ⟨h1, h2, h3⟩
  · exact ⟨fun n => by have := h1 n; rwa [shal_at] at this, by rwa [siz_at] at h2, by rwa [wit_at] at h3⟩
  · exact ⟨fun n => by rw [shal_at]; exact h1 n, by rwa [siz_at], by rwa [wit_at]⟩
theorem keep_atR {a b j : Ty} (o : Int) : Keep a (b.at_ o) j ↔ Keep a b j := by
  constructor <;> rintro ⟨h1, h2, h3⟩
  · exact ⟨fun n => by have := h1 n; rwa [shal_at] at this, by rwa [siz_at] at h2, by rwa [wit_at] at h3⟩
  · exact ⟨fun n => by rw [shal_at]; exact h1 n, by rwa [siz_at], by rwa [wit_at]⟩
theorem joinT_keep : ∀ a : Ty, frm a = true → ∀ b : Ty, frm b = true → Keep a b (joinT a b) := by
  refine frm_induct (fun t o h b hb => by rw [joinT_atL, keep_atL]; exact h b hb) fun a ha ih b hb => ?_
  obtain ⟨b, hb', eb⟩ := kd_of hb
  rw [eb, joinT_atR, keep_atR, jK_eq ha hb']
  exact keep_kd ha hb' fun x hx y hy => ih x hx y hy
theorem good_iff {t : Ty} : good t = true ↔ shal t 64 = true ∧ frm t = true ∧ wit t = true := by
  unfold good chk
  cases shal t 64 <;> cases frm t <;> cases wit t <;> simp
theorem joinT_good {a b : Ty} (ha : good a = true) (hb : good b = true) : good (joinT a b) = true := by
  obtain ⟨a1, a2, a3⟩ := good_iff.1 ha
  obtain ⟨b1, b2, b3⟩ := good_iff.1 hb
  have h := joinT_keep a a2 b b2
  exact good_iff.2 ⟨h.shal _ a1 b1, (joinT_lub a a2 b b2).frm, h.wit a3 b3⟩
end Go.Proofs.YtianekkfehoedaaDoor
namespace Go.Proofs.YtianekkfehoedaaDoor
set_option linter.unusedSimpArgs false
set_option linter.unusedVariables false
set_option linter.unnecessarySimpa false

/-- Two ascending lists as one. -/
def mrg {α : Type} (off : α → Int) (one : α → Ty) (f : α → Ty → Ty) : List α → List Ty → List Ty
  | [], bs => bs
  | a :: as, [] => (a :: as).map one
  | a :: as, b :: bs =>
    if off a < b.off then one a :: mrg off one f as (b :: bs)
    else if b.off < off a then b :: mrg off one f (a :: as) bs
    else (f a b).at_ (off a) :: mrg off one f as bs
termination_by as bs => as.length + bs.length
theorem mrg_map {α β : Type} (off : α → Int) (one : α → Ty) (f : α → Ty → Ty) (g : β → α) : ∀ (l : List β) (bs : List Ty), mrg off one f (l.map g) bs = mrg (fun x => off (g x)) (fun x => one (g x)) (fun x y => f (g x) y) l bs := by
  have H : ∀ (n : Nat) (l : List β) (bs : List Ty), l.length + bs.length ≤ n → mrg off one f (l.map g) bs = mrg (fun x => off (g x)) (fun x => one (g x)) (fun x y => f (g x) y) l bs := by
    intro n
    induction n with
    | zero =>
      intro l bs h
      obtain rfl : l = [] := List.length_eq_zero_iff.1 (by omega)
      rw [List.map_nil, mrg, mrg]
    | succ n ih =>
      intro l bs h
      cases l with
      | nil => rw [List.map_nil, mrg, mrg]
      | cons a as => cases bs with
        | nil => rw [List.map_cons, mrg, mrg]; simp
        | cons b bs =>
          simp only [List.length_cons] at h
          rw [List.map_cons, mrg, mrg, ih as (b :: bs) (by simp; omega), ← List.map_cons, ih (a :: as) bs (by simp; omega), ih as bs (by omega)]
  exact fun l bs => H _ l bs (Nat.le_refl _)
def mrgF (f : Ty → Ty → Ty) (fa fb : List Ty) : List Ty := mrg Ty.off (fun x => x) f fa fb
def meetT (a : Ty) (b : Ty) : Ty := Ty.para (α := Ty → Ty) (fun t re rf b =>
  if t.kind = 6 then b.at_ 0
  else if b.kind = 6 then t.at_ 0
  else if t.kind ≠ b.kind ∨ t.size ≠ b.size then tz
  else if t.kind = 3 then .mk 0 3 0 0 (match re, b.elem with | r :: _, y :: _ => [r y] | _, _ => []) []
  else if t.kind = 4 then .mk 0 4 0 (max t.count b.count) (match re, b.elem with | r :: _, y :: _ => [r y] | _, _ => []) []
  else if t.kind = 5 then .mk 0 5 0 0 [] (mrg (fun p : Ty × (Ty → Ty) => p.1.off) (fun p => p.1) (fun p y => p.2 y) (t.fields.zip rf) b.fields)
  else t.at_ 0) a b
theorem meetT_mk (o k s c : Int) (es fs : List Ty) (b : Ty) : meetT (.mk o k s c es fs) b =
    if k = 6 then b.at_ 0
    else if b.kind = 6 then .mk 0 k s c es fs
    else if k ≠ b.kind ∨ s ≠ b.size then tz
    else if k = 3 then .mk 0 3 0 0 (hdJ meetT es b.elem) []
    else if k = 4 then .mk 0 4 0 (max c b.count) (hdJ meetT es b.elem) []
    else if k = 5 then .mk 0 5 0 0 [] (mrgF meetT fs b.fields)
    else .mk 0 k s c es fs := by
  have h : meetT (.mk o k s c es fs) b = _ := congrFun (Ty.para_mk _ o k s c es fs) b
  rw [h]
  have hh : ∀ l : List Ty, (match es.map (fun a b => meetT a b), l with | r :: _, y :: _ => [r y] | _, _ => []) = hdJ meetT es l := by
    intro l
    cases l <;> cases es <;> rfl
  simp only [Ty.kind, Ty.size, Ty.count, Ty.fields, zip_self, mrg_map, at_mk]
  rw [← hh]
  rfl
theorem mrgF_cons (f : Ty → Ty → Ty) (a b : Ty) (as bs : List Ty) : mrgF f (a :: as) (b :: bs) =
    if a.off < b.off then a :: mrgF f as (b :: bs) else if b.off < a.off then b :: mrgF f (a :: as) bs else (f a b).at_ a.off :: mrgF f as bs := by
  unfold mrgF
  rw [mrg]
theorem mrgF_nil (f : Ty → Ty → Ty) (bs : List Ty) : mrgF f [] bs = bs := by unfold mrgF; rw [mrg]
theorem mrgF_nil2 (f : Ty → Ty → Ty) (as : List Ty) : mrgF f as [] = as := by
  cases as with
  | nil => exact mrgF_nil f []
  | cons a as => unfold mrgF; rw [mrg]; simp
/-- Induction along mrgF. -/
theorem mrg_induct {P : List Ty → List Ty → Prop} (h1 : ∀ bs, P [] bs) (h2 : ∀ as, P as []) (h3 : ∀ a as b bs, a.off < b.off → P as (b :: bs) → P (a :: as) (b :: bs))
    (h4 : ∀ a as b bs, b.off < a.off → P (a :: as) bs → P (a :: as) (b :: bs)) (h5 : ∀ a as b bs, a.off = b.off → P as bs → P (a :: as) (b :: bs)) : ∀ as bs, P as bs := by
  have H : ∀ (n : Nat) (l : List Ty) (bs : List Ty), l.length + bs.length ≤ n → P l bs := by
    intro n
    induction n with
    | zero =>
      intro l bs h
      obtain rfl : l = [] := List.length_eq_zero_iff.1 (by omega)
      exact h1 bs
    | succ n ih =>
      intro l bs h
      cases l with
      | nil => exact h1 bs
      | cons a as => cases bs with
        | nil => exact h2 _
        | cons b bs =>
          simp only [List.length_cons] at h
          rcases Int.lt_trichotomy a.off b.off with hh | hh | hh
          · exact h3 a as b bs hh (ih _ _ (by simp; omega))
          · exact h5 a as b bs hh (ih _ _ (by omega))
          · exact h4 a as b bs hh (ih _ _ (by simp; omega))
  exact fun l bs => H _ l bs (Nat.le_refl _)
theorem asc_tail {a : Ty} {l : List Ty} (h : Asc (a :: l)) : Asc l := ⟨by have := h.1; rw [List.map_cons, List.pairwise_cons] at this; exact this.2, fun x hx => h.2 x (by simp [hx])⟩
theorem asc_head {a : Ty} {l : List Ty} (h : Asc (a :: l)) : ∀ x ∈ l, a.off < x.off := by
  have := h.1
  rw [List.map_cons, List.pairwise_cons] at this
  exact fun x hx => this.1 _ (List.mem_map_of_mem hx)
theorem asc_cons {a : Ty} {l : List Ty} (h : Asc l) (h1 : 0 ≤ a.off ∧ a.off < 65536) (h2 : ∀ x ∈ l, a.off < x.off) : Asc (a :: l) := by
  refine ⟨?_, fun x hx => ?_⟩
  · rw [List.map_cons, List.pairwise_cons]
    refine ⟨fun o ho => ?_, h.1⟩
    obtain ⟨x, hx, rfl⟩ := List.mem_map.1 ho
    exact h2 x hx
  · rcases List.mem_cons.1 hx with rfl | hx
    · exact h1
    · exact h.2 x hx
/-- What is in the merged list. -/
def inM (f : Ty → Ty → Ty) (fa fb : List Ty) (z : Ty) : Prop :=
  (z ∈ fa ∧ ∀ y ∈ fb, y.off ≠ z.off) ∨ (z ∈ fb ∧ ∀ x ∈ fa, x.off ≠ z.off) ∨ ∃ x ∈ fa, ∃ y ∈ fb, x.off = y.off ∧ z = (f x y).at_ x.off
theorem inM_off {f : Ty → Ty → Ty} {fa fb : List Ty} {z : Ty} (h : inM f fa fb z) : (∃ x ∈ fa, x.off = z.off) ∨ ∃ y ∈ fb, y.off = z.off := by
  rcases h with ⟨h, _⟩ | ⟨h, _⟩ | ⟨x, hx, y, hy, e, rfl⟩
  · exact .inl ⟨z, h, rfl⟩
  · exact .inr ⟨z, h, rfl⟩
  · exact .inl ⟨x, hx, rfl⟩
theorem mrgF_spec (f : Ty → Ty → Ty) : ∀ fa fb : List Ty, Asc fa → Asc fb → Asc (mrgF f fa fb) ∧ ∀ z, z ∈ mrgF f fa fb ↔ inM f fa fb z := by
  refine mrg_induct (fun bs _ hb => ?_) (fun as ha _ => ?_) (fun a as b bs hlt ih ha hb => ?_) (fun a as b bs hlt ih ha hb => ?_) (fun a as b bs heq ih ha hb => ?_)
  · rw [mrgF_nil]
    exact ⟨hb, fun z => ⟨fun h => .inr (.inl ⟨h, by simp⟩), fun h => by rcases h with ⟨h, _⟩ | ⟨h, _⟩ | ⟨x, h, _⟩ <;> first | exact h | cases h⟩⟩
  · rw [mrgF_nil2]
    exact ⟨ha, fun z => ⟨fun h => .inl ⟨h, by simp⟩, fun h => by rcases h with ⟨h, _⟩ | ⟨h, _⟩ | ⟨x, _, y, h, _⟩ <;> first | exact h | cases h⟩⟩
  · obtain ⟨i1, i2⟩ := ih (asc_tail ha) hb
    rw [mrgF_cons, if_pos hlt]
    have la := asc_head ha
    have lb := asc_head hb
    have nb : ∀ y ∈ b :: bs, a.off < y.off := fun y hy => by
      rcases List.mem_cons.1 hy with rfl | hy
      · exact hlt
      · have := lb y hy; omega
    refine ⟨asc_cons i1 (ha.2 a (by simp)) fun z hz => ?_, fun z => ?_⟩
    · rcases inM_off ((i2 z).1 hz) with ⟨x, hx, e⟩ | ⟨y, hy, e⟩
      · rw [← e]; exact la x hx
      · rw [← e]; exact nb y hy
    · rw [List.mem_cons, i2]
      constructor
      · rintro (rfl | ⟨h, h'⟩ | ⟨h, h'⟩ | ⟨x, hx, y, hy, e, rfl⟩)
        · exact .inl ⟨by simp, fun y hy => by have := nb y hy; omega⟩
        · exact .inl ⟨by simp [h], h'⟩
        · refine .inr (.inl ⟨h, fun x hx => ?_⟩)
          rcases List.mem_cons.1 hx with rfl | hx
          · have := nb z h; omega
          · exact h' x hx
        · exact .inr (.inr ⟨x, by simp [hx], y, hy, e, rfl⟩)
      · rintro (⟨h, h'⟩ | ⟨h, h'⟩ | ⟨x, hx, y, hy, e, rfl⟩)
        · rcases List.mem_cons.1 h with rfl | h
          · exact .inl rfl
          · exact .inr (.inl ⟨h, h'⟩)
        · exact .inr (.inr (.inl ⟨h, fun x hx => h' x (by simp [hx])⟩))
        · rcases List.mem_cons.1 hx with rfl | hx
          · have := nb y hy; omega
          · exact .inr (.inr (.inr ⟨x, hx, y, hy, e, rfl⟩))
  · obtain ⟨i1, i2⟩ := ih ha (asc_tail hb)
    rw [mrgF_cons, if_neg (by omega), if_pos hlt]
    have la := asc_head ha
    have lb := asc_head hb
    have na : ∀ y ∈ a :: as, b.off < y.off := fun y hy => by
      rcases List.mem_cons.1 hy with rfl | hy
      · exact hlt
      · have := la y hy; omega
    refine ⟨asc_cons i1 (hb.2 b (by simp)) fun z hz => ?_, fun z => ?_⟩
    · rcases inM_off ((i2 z).1 hz) with ⟨x, hx, e⟩ | ⟨y, hy, e⟩
      · rw [← e]; exact na x hx
      · rw [← e]; exact lb y hy
    · rw [List.mem_cons, i2]
      constructor
      · rintro (rfl | ⟨h, h'⟩ | ⟨h, h'⟩ | ⟨x, hx, y, hy, e, rfl⟩)
        · exact .inr (.inl ⟨by simp, fun y hy => by have := na y hy; omega⟩)
        · refine .inl ⟨h, fun x hx => ?_⟩
          rcases List.mem_cons.1 hx with rfl | hx
          · have := na z h; omega
          · exact h' x hx
        · exact .inr (.inl ⟨by simp [h], h'⟩)
        · exact .inr (.inr ⟨x, hx, y, by simp [hy], e, rfl⟩)
      · rintro (⟨h, h'⟩ | ⟨h, h'⟩ | ⟨x, hx, y, hy, e, rfl⟩)
        · exact .inr (.inl ⟨h, fun x hx => h' x (by simp [hx])⟩)
        · rcases List.mem_cons.1 h with rfl | h
          · exact .inl rfl
          · exact .inr (.inr (.inl ⟨h, h'⟩))
        · rcases List.mem_cons.1 hy with rfl | hy
          · have := na x hx; omega
          · exact .inr (.inr (.inr ⟨x, hx, y, hy, e, rfl⟩))
  · obtain ⟨i1, i2⟩ := ih (asc_tail ha) (asc_tail hb)
    rw [mrgF_cons, if_neg (by omega), if_neg (by omega)]
    have la := asc_head ha
    have lb := asc_head hb
    refine ⟨asc_cons i1 (by rw [at_off]; exact ha.2 a (by simp)) fun z hz => ?_, fun z => ?_⟩
    · rw [at_off]
      rcases inM_off ((i2 z).1 hz) with ⟨x, hx, e⟩ | ⟨y, hy, e⟩
      · rw [← e]; exact la x hx
      · rw [← e, heq]; exact lb y hy
    · rw [List.mem_cons, i2]
      constructor
      · rintro (rfl | ⟨h, h'⟩ | ⟨h, h'⟩ | ⟨x, hx, y, hy, e, rfl⟩)
        · exact .inr (.inr ⟨a, by simp, b, by simp, heq, rfl⟩)
        · refine .inl ⟨by simp [h], fun y hy => ?_⟩
          rcases List.mem_cons.1 hy with rfl | hy
          · have := la z h; omega
          · exact h' y hy
        · refine .inr (.inl ⟨by simp [h], fun y hy => ?_⟩)
          rcases List.mem_cons.1 hy with rfl | hy
          · have := lb z h; omega
          · exact h' y hy
        · exact .inr (.inr ⟨x, by simp [hx], y, by simp [hy], e, rfl⟩)
      · rintro (⟨h, h'⟩ | ⟨h, h'⟩ | ⟨x, hx, y, hy, e, rfl⟩)
        · rcases List.mem_cons.1 h with rfl | h
          · exact absurd heq.symm (h' b (by simp))
          · exact .inr (.inl ⟨h, fun y hy => h' y (by simp [hy])⟩)
        · rcases List.mem_cons.1 h with rfl | h
          · exact absurd heq (h' a (by simp))
          · exact .inr (.inr (.inl ⟨h, fun y hy => h' y (by simp [hy])⟩))
        · rcases List.mem_cons.1 hx with rfl | hx
          · rcases List.mem_cons.1 hy with rfl | hy
            · exact .inl rfl
            · have := lb y hy; omega
          · rcases List.mem_cons.1 hy with rfl | hy
            · have := la x hx; omega
            · exact .inr (.inr (.inr ⟨x, hx, y, hy, e, rfl⟩))
end Go.Proofs.YtianekkfehoedaaDoor
namespace Go.Proofs.YtianekkfehoedaaDoor
set_option linter.unusedSimpArgs false
set_option linter.unusedVariables false
set_option linter.unnecessarySimpa false

theorem meetT_atL (a b : Ty) (o : Int) : meetT (a.at_ o) b = meetT a b := by cases a; rw [at_mk, meetT_mk, meetT_mk]
theorem meetT_atR (a b : Ty) (o : Int) : meetT a (b.at_ o) = meetT a b := by cases a; cases b; rw [at_mk, meetT_mk, meetT_mk]; rfl
def mK : Kd → Kd → Kd
  | .any, d => d
  | d, .any => d
  | .num k s, .num k' s' => if k = k' ∧ s = s' then .num k s else .unk
  | .ptr e, .ptr e' => .ptr (meetT e e')
  | .arr c e, .arr c' e' => .arr (max c c') (meetT e e')
  | .str fs, .str gs => .str (mrgF meetT fs gs)
  | _, _ => .unk
theorem mK_eq {a b : Kd} (ha : a.ok) (hb : b.ok) : meetT a.ty b.ty = (mK a b).ty := by
  cases a with
  | any => show meetT (.mk 0 6 0 0 [] []) b.ty = b.ty; rw [meetT_mk, if_pos rfl, kd_at]
  | unk => cases b with
    | num k s => rcases hb.1 with rfl | rfl <;> simp [Kd.ty, mK, meetT_mk, Ty.kind, Ty.size, tz]
    | _ => simp [Kd.ty, mK, meetT_mk, Ty.kind, Ty.size, tz]
  | num k s => cases b with
    | num k' s' =>
      by_cases h : k = k' ∧ s = s'
      · obtain ⟨rfl, rfl⟩ := h
        rcases ha.1 with rfl | rfl <;> simp [Kd.ty, mK, meetT_mk, Ty.kind, Ty.size, tz]
      · have h2 : k ≠ k' ∨ s ≠ s' := by omega
        have h3 : ¬ k = 6 := by have := ha.1; omega
        have h4 : ¬ k' = 6 := by have := hb.1; omega
        show meetT (.mk 0 k s 0 [] []) (.mk 0 k' s' 0 [] []) = (if k = k' ∧ s = s' then Kd.num k s else Kd.unk).ty
        rw [if_neg h, meetT_mk, if_neg h3, if_neg (show ¬ (Ty.mk 0 k' s' 0 [] []).kind = 6 from h4), if_pos (show k ≠ (Ty.mk 0 k' s' 0 [] []).kind ∨ s ≠ (Ty.mk 0 k' s' 0 [] []).size from h2)]
        rfl
    | _ => rcases ha.1 with rfl | rfl <;> simp [Kd.ty, mK, meetT_mk, Ty.kind, Ty.size, tz]
  | ptr e => cases b with
    | num k s => rcases hb.1 with rfl | rfl <;> simp [Kd.ty, mK, meetT_mk, Ty.kind, Ty.size, tz]
    | _ => simp [Kd.ty, mK, meetT_mk, Ty.kind, Ty.size, Ty.elem, hdJ, tz]
  | arr c e => cases b with
    | num k s => rcases hb.1 with rfl | rfl <;> simp [Kd.ty, mK, meetT_mk, Ty.kind, Ty.size, tz]
    | _ => simp [Kd.ty, mK, meetT_mk, Ty.kind, Ty.size, Ty.elem, Ty.count, hdJ, tz]
  | str fs => cases b with
    | num k s => rcases hb.1 with rfl | rfl <;> simp [Kd.ty, mK, meetT_mk, Ty.kind, Ty.size, tz]
    | _ => simp [Kd.ty, mK, meetT_mk, Ty.kind, Ty.size, Ty.fields, tz]
structure Glb (a b m : Ty) : Prop where
  frm : frm m = true
  left : subT m a = true
  right : subT m b = true
  most : ∀ c, Go.Proofs.YtianekkfehoedaaDoor.frm c = true → subT c a = true → subT c b = true → subT c m = true
theorem sK_refl {a : Kd} (ha : a.ok) : sK a a := (sK_iff ha ha).1 (subT_refl _ (kd_frm ha))
theorem sK_any (a : Kd) : sK a .any := by cases a <;> trivial
theorem glb_kd {a b : Kd} (ha : a.ok) (hb : b.ok) (IH : ∀ x ∈ a.parts, ∀ y, frm y = true → Glb x y (meetT x y)) : (mK a b).ok ∧ sK (mK a b) a ∧ sK (mK a b) b ∧ ∀ c : Kd, c.ok → sK c a → sK c b → sK c (mK a b) := by
  cases a with
  | any => exact ⟨hb, sK_any _, sK_refl hb, fun c _ _ h => h⟩
  | unk => cases b <;> refine ⟨trivial, by trivial, by trivial, fun c hc h1 h2 => ?_⟩ <;> first | exact h1 | exact h2
  | num k s => cases b with
    | any => exact ⟨ha, sK_refl ha, sK_any _, fun c _ h _ => h⟩
    | num k' s' =>
      rw [show mK (.num k s) (.num k' s') = (if k = k' ∧ s = s' then .num k s else .unk) from rfl]
      by_cases h : k = k' ∧ s = s'
      · rw [if_pos h]
        obtain ⟨rfl, rfl⟩ := h
        exact ⟨ha, ⟨rfl, rfl⟩, ⟨rfl, rfl⟩, fun c _ h _ => h⟩
      · rw [if_neg h]
        refine ⟨trivial, trivial, trivial, fun c hc h1 h2 => ?_⟩
        cases c with
        | unk => trivial
        | num k2 s2 => exact absurd ⟨h1.1.symm.trans h2.1, h1.2.symm.trans h2.2⟩ h
        | _ => exact False.elim h1
    | _ => refine ⟨trivial, by trivial, by trivial, fun c hc h1 h2 => ?_⟩; cases c <;> first | trivial | exact False.elim h1 | exact False.elim h2
  | ptr e => cases b with
    | any => exact ⟨ha, sK_refl ha, sK_any _, fun c _ h _ => h⟩
    | ptr e' =>
      have h := IH e (by simp [Kd.parts]) e' hb
      refine ⟨h.frm, h.left, h.right, fun c hc h1 h2 => ?_⟩
      cases c with
      | unk => trivial
      | ptr e2 => exact h.most e2 hc h1 h2
      | _ => exact False.elim h1
    | _ => refine ⟨trivial, by trivial, by trivial, fun c hc h1 h2 => ?_⟩; cases c <;> first | trivial | exact False.elim h1 | exact False.elim h2
  | arr n e => cases b with
    | any => exact ⟨ha, sK_refl ha, sK_any _, fun c _ h _ => h⟩
    | arr n' e' =>
      obtain ⟨a1, a2, a3⟩ := ha
      obtain ⟨b1, b2, b3⟩ := hb
      have h := IH e (by simp [Kd.parts]) e' b3
      refine ⟨⟨by omega, by omega, h.frm⟩, ⟨by omega, h.left⟩, ⟨by omega, h.right⟩, fun c hc h1 h2 => ?_⟩
      cases c with
      | unk => trivial
      | arr n2 e2 => exact ⟨by have := h1.1; have := h2.1; omega, h.most e2 hc.2.2 h1.2 h2.2⟩
      | _ => exact False.elim h1
    | _ => refine ⟨trivial, by trivial, by trivial, fun c hc h1 h2 => ?_⟩; cases c <;> first | trivial | exact False.elim h1 | exact False.elim h2
  | str fs => cases b with
    | any => exact ⟨ha, sK_refl ha, sK_any _, fun c _ h _ => h⟩
    | str gs =>
      obtain ⟨a1, a2⟩ := ha
      obtain ⟨b1, b2⟩ := hb
      have hG : ∀ x ∈ fs, ∀ y ∈ gs, Glb x y (meetT x y) := fun x hx y hy => IH x hx y (b2 y hy)
      obtain ⟨m1, m2⟩ := mrgF_spec meetT fs gs a1 b1
      refine ⟨⟨m1, fun z hz => ?_⟩, fun x hx => ?_, fun y hy => ?_, fun c hc h1 h2 => ?_⟩
      · rcases (m2 z).1 hz with ⟨h, _⟩ | ⟨h, _⟩ | ⟨x, hx, y, hy, e, rfl⟩
        · exact a2 z h
        · exact b2 z h
        · rw [frm_at]; exact (hG x hx y hy).frm
      · by_cases hp : ∃ y ∈ gs, y.off = x.off
        · obtain ⟨y, hy, e⟩ := hp
          exact ⟨_, (m2 _).2 (.inr (.inr ⟨x, hx, y, hy, e.symm, rfl⟩)), rfl, by rw [subT_atL]; exact (hG x hx y hy).left⟩
        · exact ⟨x, (m2 x).2 (.inl ⟨hx, fun y hy e => hp ⟨y, hy, e⟩⟩), rfl, subT_refl x (a2 x hx)⟩
      · by_cases hp : ∃ x ∈ fs, x.off = y.off
        · obtain ⟨x, hx, e⟩ := hp
          exact ⟨_, (m2 _).2 (.inr (.inr ⟨x, hx, y, hy, e, rfl⟩)), e, by rw [subT_atL]; exact (hG x hx y hy).right⟩
        · exact ⟨y, (m2 y).2 (.inr (.inl ⟨hy, fun x hx e => hp ⟨x, hx, e⟩⟩)), rfl, subT_refl y (b2 y hy)⟩
      · cases c with
        | unk => trivial
        | str hs =>
          intro z hz
          rcases (m2 z).1 hz with ⟨h, _⟩ | ⟨h, _⟩ | ⟨x, hx, y, hy, e, rfl⟩
          · exact h1 z h
          · exact h2 z h
          · obtain ⟨w, hw, e1, s1⟩ := h1 x hx
            obtain ⟨w', hw', e2, s2⟩ := h2 y hy
            obtain rfl := asc_uniq hc.1 hw' hw (e2.trans (e.symm.trans e1.symm))
            exact ⟨w', hw, e1, by rw [subT_atR]; exact (hG x hx y hy).most w' (hc.2 w' hw) s1 s2⟩
        | _ => exact False.elim h1
    | _ => refine ⟨trivial, by trivial, by trivial, fun c hc h1 h2 => ?_⟩; cases c <;> first | trivial | exact False.elim h1 | exact False.elim h2
theorem meetT_glb : ∀ a : Ty, frm a = true → ∀ b : Ty, frm b = true → Glb a b (meetT a b) := by
  refine frm_induct (fun t o h b hb => ?_) fun a ha ih b hb => ?_
  · rw [meetT_atL]
    obtain ⟨h1, h2, h3, h4⟩ := h b hb
    exact ⟨h1, by rw [subT_atR]; exact h2, h3, fun c hc s1 s2 => h4 c hc (by rw [subT_atR] at s1; exact s1) s2⟩
  obtain ⟨b, hb', eb⟩ := kd_of hb
  obtain ⟨h1, h2, h3, h4⟩ := glb_kd ha hb' fun x hx y hy => ih x hx y hy
  rw [eb, meetT_atR, mK_eq ha hb']
  refine ⟨kd_frm h1, (sK_iff h1 ha).2 h2, by rw [subT_atR]; exact (sK_iff h1 hb').2 h3, fun c hc s1 s2 => ?_⟩
  obtain ⟨c, hc', ec⟩ := kd_of hc
  rw [ec, subT_atL] at s1 s2
  rw [subT_atR] at s2
  rw [ec, subT_atL]
  exact (sK_iff hc' h1).2 (h4 c hc' ((sK_iff hc' ha).1 s1) ((sK_iff hc' hb').1 s2))

/-! ### The algebra -/
theorem lub_uniq {a b j j' : Ty} (h : Lub a b j) (h' : Lub a b j') : samT j j' = true :=
  subT_antisymm j h.frm j' h'.frm (h.least j' h'.frm h'.left h'.right) (h'.least j h.frm h.left h.right)
theorem glb_uniq {a b j j' : Ty} (h : Glb a b j) (h' : Glb a b j') : samT j j' = true :=
  subT_antisymm j h.frm j' h'.frm (h'.most j h.frm h.left h.right) (h.most j' h'.frm h'.left h'.right)
theorem lub_comm {a b j : Ty} (h : Lub a b j) : Lub b a j := ⟨h.frm, h.right, h.left, fun c hc h1 h2 => h.least c hc h2 h1⟩
theorem glb_comm {a b j : Ty} (h : Glb a b j) : Glb b a j := ⟨h.frm, h.right, h.left, fun c hc h1 h2 => h.most c hc h2 h1⟩
theorem joinT_comm {a b : Ty} (ha : frm a = true) (hb : frm b = true) : samT (joinT a b) (joinT b a) = true :=
  lub_uniq (joinT_lub a ha b hb) (lub_comm (joinT_lub b hb a ha))
theorem meetT_comm {a b : Ty} (ha : frm a = true) (hb : frm b = true) : samT (meetT a b) (meetT b a) = true :=
  glb_uniq (meetT_glb a ha b hb) (glb_comm (meetT_glb b hb a ha))
theorem joinT_idem {a : Ty} (ha : frm a = true) : samT (joinT a a) a = true :=
  lub_uniq (joinT_lub a ha a ha) ⟨ha, subT_refl a ha, subT_refl a ha, fun c _ h _ => h⟩
theorem meetT_idem {a : Ty} (ha : frm a = true) : samT (meetT a a) a = true :=
  glb_uniq (meetT_glb a ha a ha) ⟨ha, subT_refl a ha, subT_refl a ha, fun c _ h _ => h⟩
theorem joinT_assoc {a b c : Ty} (ha : frm a = true) (hb : frm b = true) (hc : frm c = true) : samT (joinT (joinT a b) c) (joinT a (joinT b c)) = true := by
  have h1 := joinT_lub a ha b hb
  have h2 := joinT_lub _ h1.frm c hc
  have h3 := joinT_lub b hb c hc
  have h4 := joinT_lub a ha _ h3.frm
  have tr := fun x hx y z hy hz => subT_trans x hx y z hy hz
  refine subT_antisymm _ h2.frm _ h4.frm (h2.least _ h4.frm (h1.least _ h4.frm h4.left ?_) ?_) (h4.least _ h2.frm ?_ (h3.least _ h2.frm ?_ h2.right))
  · exact tr b hb _ _ h3.frm h4.frm h3.left h4.right
  · exact tr c hc _ _ h3.frm h4.frm h3.right h4.right
  · exact tr a ha _ _ h1.frm h2.frm h1.left h2.left
  · exact tr b hb _ _ h1.frm h2.frm h1.right h2.left
theorem sub_join {a b : Ty} (ha : frm a = true) (hb : frm b = true) : subT a b = samT (joinT a b) b := by
  have h := joinT_lub a ha b hb
  cases hs : samT (joinT a b) b with
  | true => exact subT_trans a ha _ b h.frm hb h.left (samT_sub _ h.frm b hs)
  | false =>
    cases h1 : subT a b with
    | false => rfl
    | true => rw [subT_antisymm _ h.frm b hb (h.least b hb h1 (subT_refl b hb)) h.right] at hs; exact hs
end Go.Proofs.YtianekkfehoedaaDoor
namespace Go.Proofs.YtianekkfehoedaaDoor
set_option linter.unusedSimpArgs false
set_option linter.unusedVariables false
set_option linter.unnecessarySimpa false
def pfold {α : Type} (f : α → Int → Int) (l : List α) (n : Int) : Int := l.foldl (fun m x => if 0 ≤ m then f x m else m) n
theorem pfold_map {α β : Type} (g : α → β) (f : β → Int → Int) (l : List α) (n : Int) : pfold f (l.map g) n = pfold (fun x => f (g x)) l n := by
  unfold pfold
  rw [List.foldl_map]
theorem pfold_take {α : Type} {f : α → Int → Int} {l : List α} {m : Nat} (h : m < l.length) {n : Int} (hp : 0 ≤ pfold f (l.take m) n) : pfold f (l.take (m + 1)) n = f l[m] (pfold f (l.take m) n) := by
  unfold pfold at *
  rw [List.take_succ_eq_append_getElem h, List.foldl_append, List.foldl_cons, List.foldl_nil, if_pos hp]
theorem pfold_stop {α : Type} {f : α → Int → Int} : ∀ (l : List α) {n : Int}, ¬ 0 ≤ n → pfold f l n = n
  | [], n, _ => rfl
  | x :: l, n, h => by
    have := pfold_stop (f := f) l h
    unfold pfold at *
    rw [List.foldl_cons, if_neg h]
    exact this
theorem pfold_bound {α : Type} {f : α → Int → Int} : ∀ {l : List α}, (∀ t ∈ l, ∀ n, 0 ≤ n → -1 ≤ f t n ∧ f t n ≤ n) → ∀ n, -1 ≤ n → -1 ≤ pfold f l n ∧ pfold f l n ≤ n
  | [], _, n, h => ⟨h, Int.le_refl _⟩
  | x :: l, hf, n, h => by
    have ih := pfold_bound (l := l) fun t ht => hf t (by simp [ht])
    unfold pfold at *
    rw [List.foldl_cons]
    by_cases h0 : 0 ≤ n
    · rw [if_pos h0]
      have h1 := hf x (by simp) n h0
      have h2 := ih (f x n) h1.1
      exact ⟨h2.1, Int.le_trans h2.2 h1.2⟩
    · rw [if_neg h0]
      exact ih n h
theorem pfold_all {α : Type} {f : α → Int → Int} {l : List α} {m : Nat} {n : Int} (h : ¬ 0 ≤ pfold f (l.take m) n) : pfold f l n = pfold f (l.take m) n := by
  have e : pfold f l n = pfold f (l.drop m) (pfold f (l.take m) n) := by
    unfold pfold
    rw [← List.foldl_append, List.take_append_drop]
  rw [e, pfold_stop _ h]
/-- The parts left over of a type: -1 when there are too many, or it is too deep or too wide. -/
def tpa : Ty → Int → Int → Int := Ty.para fun t re rf most left =>
  if most < 1 ∨ left < 1 ∨ 12 < t.elem.length ∨ 70 < t.fields.length then -1 else pfold (fun r n => r (most - 1) n) rf (pfold (fun r n => r (most - 1) n) re (left - 1))
theorem tpa_mk (o k s c : Int) (es fs : List Ty) (most left : Int) : tpa (.mk o k s c es fs) most left =
    if most < 1 ∨ left < 1 ∨ 12 < es.length ∨ 70 < fs.length then -1 else pfold (fun x n => tpa x (most - 1) n) fs (pfold (fun x n => tpa x (most - 1) n) es (left - 1)) := by
  have h : tpa (.mk o k s c es fs) most left = _ := congrFun (congrFun (Ty.para_mk _ o k s c es fs) most) left
  rw [h]
  simp only [Ty.elem, Ty.fields, pfold_map]
  rfl
theorem tpa_bound : ∀ (t : Ty) (most left : Int), 0 ≤ left → -1 ≤ tpa t most left ∧ tpa t most left ≤ left := by
  refine Ty.induct fun o k s c es fs hE hF most left hl => ?_
  rw [tpa_mk]
  split
  · omega
  · rename_i h
    have h1 := pfold_bound (f := fun x n => tpa x (most - 1) n) (l := es) (fun t ht n hn => hE t ht _ n hn) (left - 1) (by omega)
    have h2 := pfold_bound (f := fun x n => tpa x (most - 1) n) (l := fs) (fun t ht n hn => hF t ht _ n hn) _ h1.1
    omega
theorem tpa_part {l : List Ty} {most n : Int} (hP : 0 ≤ pfold (fun x n => tpa x most n) l n) : ∀ x ∈ l, ∃ n', 0 ≤ n' ∧ 0 ≤ tpa x most n' := by
  induction l generalizing n with
  | nil => intro x hx; cases hx
  | cons y l ih =>
    intro x hx
    by_cases h0 : 0 ≤ n
    · have e : pfold (fun x n => tpa x most n) (y :: l) n = pfold (fun x n => tpa x most n) l (tpa y most n) := by unfold pfold; rw [List.foldl_cons, if_pos h0]
      rw [e] at hP
      rcases List.mem_cons.1 hx with rfl | hx
      · refine ⟨n, h0, Int.not_lt.1 fun hneg => ?_⟩
        rw [pfold_stop _ (by omega)] at hP
        omega
      · exact ih hP x hx
    · rw [pfold_stop _ h0] at hP
      omega
/-- A small type is not deep. -/
theorem tpa_shal : ∀ (t : Ty) (most left : Int), 0 ≤ tpa t most left → shal t most = true := by
  refine Ty.induct fun o k s c es fs hE hF most left h => ?_
  rw [tpa_mk] at h
  split at h
  · omega
  · rename_i hn
    have h0 : 0 ≤ pfold (fun x n => tpa x (most - 1) n) es (left - 1) := Int.not_lt.1 fun hneg => by
      rw [pfold_stop _ (by omega)] at h
      omega
    rw [shal_mk]
    simp only [Bool.and_eq_true, decide_eq_true_eq, List.all_eq_true]
    refine ⟨⟨by omega, fun x hx => ?_⟩, fun x hx => ?_⟩
    · obtain ⟨n', _, hn'⟩ := tpa_part h0 x hx
      exact hE x hx _ _ hn'
    · obtain ⟨n', _, hn'⟩ := tpa_part h x hx
      exact hF x hx _ _ hn'
def smallT (t : Ty) (most : Int) : Bool := decide (tpa t most 3000 ≥ 0)
end Go.Proofs.YtianekkfehoedaaDoor
namespace Go.Proofs.YtianekkfehoedaaDoor
set_option linter.unusedSimpArgs false
set_option linter.unusedVariables false
set_option linter.unnecessarySimpa false
def lone (k : Bool) (x : Ty) : List Ty := if k then [x] else []
def mrgP (k : Bool) (f : Ty → Ty → Ty) : List Ty → List Ty → List Ty
  | [], [] => []
  | [], b :: bs => lone k b ++ mrgP k f [] bs
  | a :: as, [] => lone k a ++ mrgP k f as []
  | a :: as, b :: bs =>
    if a.off < b.off then lone k a ++ mrgP k f as (b :: bs)
    else if b.off < a.off then lone k b ++ mrgP k f (a :: as) bs
    else (f a b).at_ a.off :: mrgP k f as bs
termination_by as bs => as.length + bs.length
theorem mrgP_nn (k : Bool) (f : Ty → Ty → Ty) : mrgP k f [] [] = [] := by rw [mrgP]
theorem mrgP_nc (k : Bool) (f : Ty → Ty → Ty) (b : Ty) (bs : List Ty) : mrgP k f [] (b :: bs) = lone k b ++ mrgP k f [] bs := by rw [mrgP]
theorem mrgP_cn (k : Bool) (f : Ty → Ty → Ty) (a : Ty) (as : List Ty) : mrgP k f (a :: as) [] = lone k a ++ mrgP k f as [] := by rw [mrgP]
theorem mrgP_cc (k : Bool) (f : Ty → Ty → Ty) (a : Ty) (as : List Ty) (b : Ty) (bs : List Ty) : mrgP k f (a :: as) (b :: bs) =
    if a.off < b.off then lone k a ++ mrgP k f as (b :: bs) else if b.off < a.off then lone k b ++ mrgP k f (a :: as) bs else (f a b).at_ a.off :: mrgP k f as bs := by rw [mrgP]
theorem mrgP_nt (f : Ty → Ty → Ty) : ∀ bs : List Ty, mrgP true f [] bs = bs
  | [] => mrgP_nn _ _
  | b :: bs => by rw [mrgP_nc, mrgP_nt f bs]; rfl
theorem mrgP_tn (f : Ty → Ty → Ty) : ∀ as : List Ty, mrgP true f as [] = as
  | [] => mrgP_nn _ _
  | a :: as => by rw [mrgP_cn, mrgP_tn f as]; rfl
theorem mrgP_nf (f : Ty → Ty → Ty) : ∀ bs : List Ty, mrgP false f [] bs = []
  | [] => mrgP_nn _ _
  | b :: bs => by rw [mrgP_nc, mrgP_nf f bs]; rfl
theorem mrgP_fn (f : Ty → Ty → Ty) : ∀ as : List Ty, mrgP false f as [] = []
  | [] => mrgP_nn _ _
  | a :: as => by rw [mrgP_cn, mrgP_fn f as]; rfl
theorem mrgP_true (f : Ty → Ty → Ty) : ∀ as bs : List Ty, mrgP true f as bs = mrgF f as bs := by
  refine mrg_induct (fun bs => ?_) (fun as => ?_) (fun a as b bs h ih => ?_) (fun a as b bs h ih => ?_) (fun a as b bs h ih => ?_)
  · rw [mrgP_nt, mrgF_nil]
  · rw [mrgP_tn, mrgF_nil2]
  · rw [mrgP_cc, mrgF_cons, if_pos h, if_pos h, ih]; rfl
  · rw [mrgP_cc, mrgF_cons, if_neg (by omega), if_pos h, if_neg (by omega), if_pos h, ih]; rfl
  · rw [mrgP_cc, mrgF_cons, if_neg (by omega), if_neg (by omega), if_neg (by omega), if_neg (by omega), ih]
theorem fm_congr {α β : Type} {f g : α → Option β} : ∀ {l : List α}, (∀ x ∈ l, f x = g x) → l.filterMap f = l.filterMap g
  | [], _ => rfl
  | x :: l, h => by rw [List.filterMap_cons, List.filterMap_cons, h x (by simp), fm_congr fun y hy => h y (List.mem_cons_of_mem _ hy)]
theorem find_skip {b : Ty} {bs : List Ty} {o : Int} (h : b.off ≠ o) : (b :: bs).find? (fun y => y.off == o) = bs.find? fun y => y.off == o := by
  rw [List.find?_cons, show (b.off == o) = false from beq_eq_false_iff_ne.2 h]
theorem mrgP_false (f : Ty → Ty → Ty) : ∀ as bs : List Ty, Asc as → Asc bs → mrgP false f as bs = bothF f as bs := by
  refine mrg_induct (fun bs _ _ => ?_) (fun as _ _ => ?_) (fun a as b bs h ih ha hb => ?_) (fun a as b bs h ih ha hb => ?_) (fun a as b bs h ih ha hb => ?_)
  · rw [mrgP_nf]; rfl
  · rw [mrgP_fn]
    unfold bothF
    simp
  · rw [mrgP_cc, if_pos h, ih (asc_tail ha) hb]
    have hn : (b :: bs).find? (fun y => y.off == a.off) = none := by
      rw [List.find?_eq_none]
      intro y hy
      rcases List.mem_cons.1 hy with rfl | hy
      · simp; omega
      · have := asc_head hb y hy; simp; omega
    unfold bothF
    rw [List.filterMap_cons, hn]
    rfl
  · rw [mrgP_cc, if_neg (by omega), if_pos h, ih ha (asc_tail hb)]
    unfold bothF
    refine fm_congr fun x hx => ?_
    rw [find_skip]
    rcases List.mem_cons.1 hx with rfl | hx
    · omega
    · have := asc_head ha x hx; omega
  · rw [mrgP_cc, if_neg (by omega), if_neg (by omega), ih (asc_tail ha) (asc_tail hb)]
    have hf : (b :: bs).find? (fun y => y.off == a.off) = some b := by
      rw [List.find?_cons, show (b.off == a.off) = true by simp [h]]
    have hr : bothF f as (b :: bs) = bothF f as bs := by
      unfold bothF
      refine fm_congr fun x hx => ?_
      rw [find_skip]
      have := asc_head ha x hx; omega
    rw [← hr]
    conv => rhs; unfold bothF
    rw [List.filterMap_cons, hf]
    rfl
theorem mrgP_len (k : Bool) (f : Ty → Ty → Ty) : ∀ as bs : List Ty, (mrgP k f as bs).length ≤ as.length + bs.length := by
  have hl : ∀ x, (lone k x).length ≤ 1 := fun x => by unfold lone; split <;> simp
  have H : ∀ (n : Nat) (as bs : List Ty), as.length + bs.length ≤ n → (mrgP k f as bs).length ≤ as.length + bs.length := by
    intro n
    induction n with
    | zero =>
      intro as bs h
      obtain rfl : as = [] := List.length_eq_zero_iff.1 (by omega)
      obtain rfl : bs = [] := List.length_eq_zero_iff.1 (by omega)
      rw [mrgP_nn]; simp
    | succ n ih =>
      intro as bs h
      cases as with
      | nil => cases bs with
        | nil => rw [mrgP_nn]; simp
        | cons b bs =>
          rw [mrgP_nc, List.length_append]
          simp only [List.length_cons, List.length_nil] at h ⊢
          have := ih [] bs (by simp; omega)
          have := hl b
          simp only [List.length_nil] at *
          omega
      | cons a as => cases bs with
        | nil =>
          rw [mrgP_cn, List.length_append]
          simp only [List.length_cons, List.length_nil] at h ⊢
          have := ih as [] (by simp; omega)
          have := hl a
          simp only [List.length_nil] at *
          omega
        | cons b bs =>
          simp only [List.length_cons] at h
          have i1 := ih as (b :: bs) (by simp; omega)
          have i2 := ih (a :: as) bs (by simp; omega)
          have i3 := ih as bs (by omega)
          have h1 := hl a
          have h2 := hl b
          simp only [List.length_cons] at i1 i2 ⊢
          rw [mrgP_cc]
          split
          · rw [List.length_append]; omega
          · split
            · rw [List.length_append]; omega
            · rw [List.length_cons]; omega
  exact fun as bs => H _ as bs (Nat.le_refl _)
def cmpI (a b : Int) : Int := if a < b then -1 else if b < a then 1 else 0
end Go.Proofs.YtianekkfehoedaaDoor
