/- Plain mathematics: Meet is the greatest lower bound; the algebra of types. No program in sight. -/
import Derived.Test.YtchjncoadhigmaaGreatDoorPn
namespace Go.Proofs.YtchjncoadhigmaaGreatDoor
set_option linter.unusedSimpArgs false
set_option linter.unusedVariables false
set_option linter.unnecessarySimpa false

theorem meetT_atL (a b : Ty) (o : Int) : meetT (a.at_ o) b = meetT a b := by cases a; rw [at_mk, meetT_mk, meetT_mk]
theorem meetT_atR (a b : Ty) (o : Int) : meetT a (b.at_ o) = meetT a b := by cases a; cases b; rw [at_mk, meetT_mk, meetT_mk]; rfl
def mK : Kd → Kd → Kd
  | .any, d => d
  | d, .any => d
  | .num k s, .num k' s' => if k = k' ∧ s = s' then .num k s else .unk
  | .ptr e, .ptr e' => .ptr (meetT e e')
  | .arr c e, .arr c' e' => .arr (max c c') (meetT e e')
  | .str fs, .str gs => .str (mrgF meetT fs gs)
  | _, _ => .unk
theorem mK_eq {a b : Kd} (ha : a.ok) (hb : b.ok) : meetT a.ty b.ty = (mK a b).ty := by
  cases a with
  | any => show meetT (.mk 0 6 0 0 [] []) b.ty = b.ty; rw [meetT_mk, if_pos rfl, kd_at]
  | unk => cases b with
    | num k s => rcases hb.1 with rfl | rfl <;> simp [Kd.ty, mK, meetT_mk, Ty.kind, Ty.size, tz]
    | _ => simp [Kd.ty, mK, meetT_mk, Ty.kind, Ty.size, tz]
  | num k s => cases b with
    | num k' s' =>
      by_cases h : k = k' ∧ s = s'
      · obtain ⟨rfl, rfl⟩ := h
        rcases ha.1 with rfl | rfl <;> simp [Kd.ty, mK, meetT_mk, Ty.kind, Ty.size, tz]
      · have h2 : k ≠ k' ∨ s ≠ s' := by omega
        have h3 : ¬ k = 6 := by have := ha.1; omega
        have h4 : ¬ k' = 6 := by have := hb.1; omega
        show meetT (.mk 0 k s 0 [] []) (.mk 0 k' s' 0 [] []) = (if k = k' ∧ s = s' then Kd.num k s else Kd.unk).ty
        rw [if_neg h, meetT_mk, if_neg h3, if_neg (show ¬ (Ty.mk 0 k' s' 0 [] []).kind = 6 from h4), if_pos (show k ≠ (Ty.mk 0 k' s' 0 [] []).kind ∨ s ≠ (Ty.mk 0 k' s' 0 [] []).size from h2)]
        rfl
    | _ => rcases ha.1 with rfl | rfl <;> simp [Kd.ty, mK, meetT_mk, Ty.kind, Ty.size, tz]
  | ptr e => cases b with
    | num k s => rcases hb.1 with rfl | rfl <;> simp [Kd.ty, mK, meetT_mk, Ty.kind, Ty.size, tz]
    | _ => simp [Kd.ty, mK, meetT_mk, Ty.kind, Ty.size, Ty.elem, hdJ, tz]
  | arr c e => cases b with
    | num k s => rcases hb.1 with rfl | rfl <;> simp [Kd.ty, mK, meetT_mk, Ty.kind, Ty.size, tz]
    | _ => simp [Kd.ty, mK, meetT_mk, Ty.kind, Ty.size, Ty.elem, Ty.count, hdJ, tz]
  | str fs => cases b with
    | num k s => rcases hb.1 with rfl | rfl <;> simp [Kd.ty, mK, meetT_mk, Ty.kind, Ty.size, tz]
    | _ => simp [Kd.ty, mK, meetT_mk, Ty.kind, Ty.size, Ty.fields, tz]
structure Glb (a b m : Ty) : Prop where
  frm : frm m = true
  left : subT m a = true
  right : subT m b = true
  most : ∀ c, Go.Proofs.YtchjncoadhigmaaGreatDoor.frm c = true → subT c a = true → subT c b = true → subT c m = true
theorem sK_refl {a : Kd} (ha : a.ok) : sK a a := (sK_iff ha ha).1 (subT_refl _ (kd_frm ha))
theorem sK_any (a : Kd) : sK a .any := by cases a <;> trivial
theorem glb_kd {a b : Kd} (ha : a.ok) (hb : b.ok) (IH : ∀ x ∈ a.parts, ∀ y, frm y = true → Glb x y (meetT x y)) : (mK a b).ok ∧ sK (mK a b) a ∧ sK (mK a b) b ∧ ∀ c : Kd, c.ok → sK c a → sK c b → sK c (mK a b) := by
  cases a with
  | any => exact ⟨hb, sK_any _, sK_refl hb, fun c _ _ h => h⟩
  | unk => cases b <;> refine ⟨trivial, by trivial, by trivial, fun c hc h1 h2 => ?_⟩ <;> first | exact h1 | exact h2
  | num k s => cases b with
    | any => exact ⟨ha, sK_refl ha, sK_any _, fun c _ h _ => h⟩
    | num k' s' =>
      rw [show mK (.num k s) (.num k' s') = (if k = k' ∧ s = s' then .num k s else .unk) from rfl]
      by_cases h : k = k' ∧ s = s'
      · rw [if_pos h]
        obtain ⟨rfl, rfl⟩ := h
        exact ⟨ha, ⟨rfl, rfl⟩, ⟨rfl, rfl⟩, fun c _ h _ => h⟩
      · rw [if_neg h]
        refine ⟨trivial, trivial, trivial, fun c hc h1 h2 => ?_⟩
        cases c with
        | unk => trivial
        | num k2 s2 => exact absurd ⟨h1.1.symm.trans h2.1, h1.2.symm.trans h2.2⟩ h
        | _ => exact False.elim h1
    | _ => refine ⟨trivial, by trivial, by trivial, fun c hc h1 h2 => ?_⟩; cases c <;> first | trivial | exact False.elim h1 | exact False.elim h2
  | ptr e => cases b with
    | any => exact ⟨ha, sK_refl ha, sK_any _, fun c _ h _ => h⟩
    | ptr e' =>
      have h := IH e (by simp [Kd.parts]) e' hb
      refine ⟨h.frm, h.left, h.right, fun c hc h1 h2 => ?_⟩
      cases c with
      | unk => trivial
      | ptr e2 => exact h.most e2 hc h1 h2
      | _ => exact False.elim h1
    | _ => refine ⟨trivial, by trivial, by trivial, fun c hc h1 h2 => ?_⟩; cases c <;> first | trivial | exact False.elim h1 | exact False.elim h2
  | arr n e => cases b with
    | any => exact ⟨ha, sK_refl ha, sK_any _, fun c _ h _ => h⟩
    | arr n' e' =>
      obtain ⟨a1, a2, a3⟩ := ha
      obtain ⟨b1, b2, b3⟩ := hb
      have h := IH e (by simp [Kd.parts]) e' b3
      refine ⟨⟨by omega, by omega, h.frm⟩, ⟨by omega, h.left⟩, ⟨by omega, h.right⟩, fun c hc h1 h2 => ?_⟩
      cases c with
      | unk => trivial
      | arr n2 e2 => exact ⟨by have := h1.1; have := h2.1; omega, h.most e2 hc.2.2 h1.2 h2.2⟩
      | _ => exact False.elim h1
    | _ => refine ⟨trivial, by trivial, by trivial, fun c hc h1 h2 => ?_⟩; cases c <;> first | trivial | exact False.elim h1 | exact False.elim h2
  | str fs => cases b with
    | any => exact ⟨ha, sK_refl ha, sK_any _, fun c _ h _ => h⟩
    | str gs =>
      obtain ⟨a1, a2⟩ := ha
      obtain ⟨b1, b2⟩ := hb
      have hG : ∀ x ∈ fs, ∀ y ∈ gs, Glb x y (meetT x y) := fun x hx y hy => IH x hx y (b2 y hy)
      obtain ⟨m1, m2⟩ := mrgF_spec meetT fs gs a1 b1
      refine ⟨⟨m1, fun z hz => ?_⟩, fun x hx => ?_, fun y hy => ?_, fun c hc h1 h2 => ?_⟩
      · rcases (m2 z).1 hz with ⟨h, _⟩ | ⟨h, _⟩ | ⟨x, hx, y, hy, e, rfl⟩
        · exact a2 z h
        · exact b2 z h
        · rw [frm_at]; exact (hG x hx y hy).frm
      · by_cases hp : ∃ y ∈ gs, y.off = x.off
        · obtain ⟨y, hy, e⟩ := hp
          exact ⟨_, (m2 _).2 (.inr (.inr ⟨x, hx, y, hy, e.symm, rfl⟩)), rfl, by rw [subT_atL]; exact (hG x hx y hy).left⟩
        · exact ⟨x, (m2 x).2 (.inl ⟨hx, fun y hy e => hp ⟨y, hy, e⟩⟩), rfl, subT_refl x (a2 x hx)⟩
      · by_cases hp : ∃ x ∈ fs, x.off = y.off
        · obtain ⟨x, hx, e⟩ := hp
          exact ⟨_, (m2 _).2 (.inr (.inr ⟨x, hx, y, hy, e, rfl⟩)), e, by rw [subT_atL]; exact (hG x hx y hy).right⟩
        · exact ⟨y, (m2 y).2 (.inr (.inl ⟨hy, fun x hx e => hp ⟨x, hx, e⟩⟩)), rfl, subT_refl y (b2 y hy)⟩
      · cases c with
        | unk => trivial
        | str hs =>
          intro z hz
          rcases (m2 z).1 hz with ⟨h, _⟩ | ⟨h, _⟩ | ⟨x, hx, y, hy, e, rfl⟩
          · exact h1 z h
          · exact h2 z h
          · obtain ⟨w, hw, e1, s1⟩ := h1 x hx
            obtain ⟨w', hw', e2, s2⟩ := h2 y hy
            obtain rfl := asc_uniq hc.1 hw' hw (e2.trans (e.symm.trans e1.symm))
            exact ⟨w', hw, e1, by rw [subT_atR]; exact (hG x hx y hy).most w' (hc.2 w' hw) s1 s2⟩
        | _ => exact False.elim h1
    | _ => refine ⟨trivial, by trivial, by trivial, fun c hc h1 h2 => ?_⟩; cases c <;> first | trivial | exact False.elim h1 | exact False.elim h2
theorem meetT_glb : ∀ a : Ty, frm a = true → ∀ b : Ty, frm b = true → Glb a b (meetT a b) := by
  refine frm_induct (fun t o h b hb => ?_) fun a ha ih b hb => ?_
  · rw [meetT_atL]
    obtain ⟨h1, h2, h3, h4⟩ := h b hb
    exact ⟨h1, by rw [subT_atR]; exact h2, h3, fun c hc s1 s2 => h4 c hc (by rw [subT_atR] at s1; exact s1) s2⟩
  obtain ⟨b, hb', eb⟩ := kd_of hb
  obtain ⟨h1, h2, h3, h4⟩ := glb_kd ha hb' fun x hx y hy => ih x hx y hy
  rw [eb, meetT_atR, mK_eq ha hb']
  refine ⟨kd_frm h1, (sK_iff h1 ha).2 h2, by rw [subT_atR]; exact (sK_iff h1 hb').2 h3, fun c hc s1 s2 => ?_⟩
  obtain ⟨c, hc', ec⟩ := kd_of hc
  rw [ec, subT_atL] at s1 s2
  rw [subT_atR] at s2
  rw [ec, subT_atL]
  exact (sK_iff hc' h1).2 (h4 c hc' ((sK_iff hc' ha).1 s1) ((sK_iff hc' hb').1 s2))

/-! ### The algebra -/
theorem lub_uniq {a b j j' : Ty} (h : Lub a b j) (h' : Lub a b j') : samT j j' = true :=
  subT_antisymm j h.frm j' h'.frm (h.least j' h'.frm h'.left h'.right) (h'.least j h.frm h.left h.right)
theorem glb_uniq {a b j j' : Ty} (h : Glb a b j) (h' : Glb a b j') : samT j j' = true :=
  subT_antisymm j h.frm j' h'.frm (h'.most j h.frm h.left h.right) (h.most j' h'.frm h'.left h'.right)
theorem lub_comm {a b j : Ty} (h : Lub a b j) : Lub b a j := ⟨h.frm, h.right, h.left, fun c hc h1 h2 => h.least c hc h2 h1⟩
theorem glb_comm {a b j : Ty} (h : Glb a b j) : Glb b a j := ⟨h.frm, h.right, h.left, fun c hc h1 h2 => h.most c hc h2 h1⟩
theorem joinT_comm {a b : Ty} (ha : frm a = true) (hb : frm b = true) : samT (joinT a b) (joinT b a) = true :=
  lub_uniq (joinT_lub a ha b hb) (lub_comm (joinT_lub b hb a ha))
theorem meetT_comm {a b : Ty} (ha : frm a = true) (hb : frm b = true) : samT (meetT a b) (meetT b a) = true :=
  glb_uniq (meetT_glb a ha b hb) (glb_comm (meetT_glb b hb a ha))
theorem joinT_idem {a : Ty} (ha : frm a = true) : samT (joinT a a) a = true :=
  lub_uniq (joinT_lub a ha a ha) ⟨ha, subT_refl a ha, subT_refl a ha, fun c _ h _ => h⟩
theorem meetT_idem {a : Ty} (ha : frm a = true) : samT (meetT a a) a = true :=
  glb_uniq (meetT_glb a ha a ha) ⟨ha, subT_refl a ha, subT_refl a ha, fun c _ h _ => h⟩
theorem joinT_assoc {a b c : Ty} (ha : frm a = true) (hb : frm b = true) (hc : frm c = true) : samT (joinT (joinT a b) c) (joinT a (joinT b c)) = true := by
  have h1 := joinT_lub a ha b hb
  have h2 := joinT_lub _ h1.frm c hc
  have h3 := joinT_lub b hb c hc
  have h4 := joinT_lub a ha _ h3.frm
  have tr := fun x hx y z hy hz => subT_trans x hx y z hy hz
  refine subT_antisymm _ h2.frm _ h4.frm (h2.least _ h4.frm (h1.least _ h4.frm h4.left ?_) ?_) (h4.least _ h2.frm ?_ (h3.least _ h2.frm ?_ h2.right))
  · exact tr b hb _ _ h3.frm h4.frm h3.left h4.right
  · exact tr c hc _ _ h3.frm h4.frm h3.right h4.right
  · exact tr a ha _ _ h1.frm h2.frm h1.left h2.left
  · exact tr b hb _ _ h1.frm h2.frm h1.right h2.left
theorem sub_join {a b : Ty} (ha : frm a = true) (hb : frm b = true) : subT a b = samT (joinT a b) b := by
  have h := joinT_lub a ha b hb
  cases hs : samT (joinT a b) b with
  | true => exact subT_trans a ha _ b h.frm hb h.left (samT_sub _ h.frm b hs)
  | false =>
    cases h1 : subT a b with
    | false => rfl
    | true => rw [subT_antisymm _ h.frm b hb (h.least b hb h1 (subT_refl b hb)) h.right] at hs; exact hs
end Go.Proofs.YtchjncoadhigmaaGreatDoor
