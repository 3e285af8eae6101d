/- Plain mathematics: the order of types; Join of good types is good; Meet. No program in sight. -/
import Derived.Test.YtchjncoadhigmaaGreatDoorPj
namespace Go.Proofs.YtchjncoadhigmaaGreatDoor
set_option linter.unusedSimpArgs false
set_option linter.unusedVariables false
set_option linter.unnecessarySimpa false

/-! ### Induction on formed types by their kinds -/
theorem kd_induct {P : Kd → Prop} (h : ∀ d : Kd, d.ok → (∀ x ∈ d.parts, ∀ e : Kd, e.ok → x = e.ty.at_ x.off → P e) → P d) : ∀ d : Kd, d.ok → P d := by
  have H : ∀ t : Ty, ∀ d : Kd, d.ok → t = d.ty.at_ t.off → P d := by
    refine Ty.induct fun o k s c es fs hE hF d hd ed => ?_
    refine h d hd fun x hx e he ex => ?_
    rcases kd_parts ed x hx with h | h
    · exact hE x h e he ex
    · exact hF x h e he ex
  exact fun d hd => H d.ty d hd (by cases d <;> rfl)
theorem parts_frm {d : Kd} (h : d.ok) : ∀ x ∈ d.parts, frm x = true := by
  cases d with
  | ptr e => intro x hx; simp only [Kd.parts, List.mem_singleton] at hx; subst hx; exact h
  | arr c e => intro x hx; simp only [Kd.parts, List.mem_singleton] at hx; subst hx; exact h.2.2
  | str fs => exact h.2
  | _ => intro x hx; cases hx
/-- A statement on all formed types, by the parts. -/
theorem frm_induct {P : Ty → Prop} (hat : ∀ t o, P t → P (t.at_ o)) (h : ∀ d : Kd, d.ok → (∀ x ∈ d.parts, P x) → P d.ty) : ∀ t : Ty, frm t = true → P t := by
  intro t ht
  obtain ⟨d, hd, e⟩ := kd_of ht
  have := kd_induct (P := fun d => P d.ty) (fun d hd ih => h d hd fun x hx => by
    obtain ⟨e, he, ex⟩ := kd_of (parts_frm hd x hx)
    rw [ex]
    exact hat _ _ (ih x hx e he ex)) d hd
  rw [e]
  exact hat _ _ this
theorem sub_kd {a b : Kd} (ha : a.ok) (hb : b.ok) (o p : Int) : subT (a.ty.at_ o) (b.ty.at_ p) = true ↔ sK a b := by
  rw [subT_atL, subT_atR, sK_iff ha hb]
theorem subT_trans : ∀ a : Ty, frm a = true → ∀ b c : Ty, frm b = true → frm c = true → subT a b = true → subT b c = true → subT a c = true := by
  refine frm_induct (fun t o h b c hb hc h1 h2 => by rw [subT_atL] at *; exact h b c hb hc h1 h2) fun a ha ih b c hb hc h1 h2 => ?_
  obtain ⟨b, hb', rfl'⟩ := kd_of hb
  obtain ⟨c, hc', rfl''⟩ := kd_of hc
  rw [rfl', subT_atR, sK_iff ha hb'] at h1
  rw [rfl', rfl'', sub_kd hb' hc'] at h2
  rw [rfl'', subT_atR, sK_iff ha hc']
  clear rfl' rfl'' hb hc
  cases a with
  | unk => trivial
  | any => cases b <;> first | exact False.elim h1 | (cases c <;> first | trivial | exact False.elim h2)
  | num k s => cases b with
    | any => cases c <;> first | trivial | exact absurd h2 (by simp [sK])
    | num k' s' => cases c with
      | any => trivial
      | num k2 s2 => exact ⟨h1.1.trans h2.1, h1.2.trans h2.2⟩
      | _ => exact absurd h2 (by simp [sK])
    | _ => exact absurd h1 (by simp [sK])
  | ptr e => cases b with
    | any => cases c <;> first | trivial | exact absurd h2 (by simp [sK])
    | ptr e' => cases c with
      | any => trivial
      | ptr e2 => exact ih e (by simp [Kd.parts]) e' e2 hb' hc' h1 h2
      | _ => exact absurd h2 (by simp [sK])
    | _ => exact absurd h1 (by simp [sK])
  | arr n e => cases b with
    | any => cases c <;> first | trivial | exact absurd h2 (by simp [sK])
    | arr n' e' => cases c with
      | any => trivial
      | arr n2 e2 => exact ⟨Int.le_trans h2.1 h1.1, ih e (by simp [Kd.parts]) e' e2 hb'.2.2 hc'.2.2 h1.2 h2.2⟩
      | _ => exact absurd h2 (by simp [sK])
    | _ => exact absurd h1 (by simp [sK])
  | str fs => cases b with
    | any => cases c <;> first | trivial | exact absurd h2 (by simp [sK])
    | str gs => cases c with
      | any => trivial
      | str hs =>
        intro z hz
        obtain ⟨y, hy, e1, s1⟩ := h2 z hz
        obtain ⟨x, hx, e2, s2⟩ := h1 y hy
        exact ⟨x, hx, e2.trans e1, ih x hx y z (hb'.2 y hy) (hc'.2 z hz) s2 s1⟩
      | _ => exact absurd h2 (by simp [sK])
    | _ => exact absurd h1 (by simp [sK])
/-- Lists of fields in ascending order with the same members are one. -/
theorem asc_ext : ∀ {fs gs : List Ty}, Asc fs → Asc gs → (∀ x, x ∈ fs ↔ x ∈ gs) → fs = gs
  | [], [], _, _, _ => rfl
  | [], y :: _, _, _, h => by cases (h y).2 (by simp)
  | x :: _, [], _, _, h => by cases (h x).1 (by simp)
  | x :: fs, y :: gs, ⟨h1, h2⟩, ⟨h3, h4⟩, h => by
    rw [List.map_cons, List.pairwise_cons] at h1 h3
    have e : x = y := by
      rcases List.mem_cons.1 ((h x).1 (by simp)) with e | e
      · exact e
      · rcases List.mem_cons.1 ((h y).2 (by simp)) with e' | e'
        · exact e'.symm
        · have a1 := h1.1 _ (List.mem_map_of_mem e')
          have a2 := h3.1 _ (List.mem_map_of_mem e)
          omega
    subst e
    congr 1
    refine asc_ext ⟨h1.2, fun z hz => h2 z (by simp [hz])⟩ ⟨h3.2, fun z hz => h4 z (by simp [hz])⟩ fun z => ?_
    have n1 : x ∉ fs := fun hx => by have := h1.1 _ (List.mem_map_of_mem hx); omega
    have n2 : x ∉ gs := fun hx => by have := h3.1 _ (List.mem_map_of_mem hx); omega
    have := h z
    simp only [List.mem_cons] at this
    by_cases hz : z = x
    · subst hz; exact ⟨fun hh => absurd hh n1, fun hh => absurd hh n2⟩
    · simpa [hz] using this
/-- Lists of fields that match by their offsets. -/
theorem asc_all2 {p : Ty → Ty → Bool} : ∀ {fs gs : List Ty}, Asc fs → Asc gs → (∀ x ∈ fs, ∃ y ∈ gs, y.off = x.off) → (∀ y ∈ gs, ∃ x ∈ fs, x.off = y.off) → (∀ x ∈ fs, ∀ y ∈ gs, x.off = y.off → p x y = true) → all2 (fun x y => x.off == y.off && p x y) fs gs = true
  | [], [], _, _, _, _, _ => rfl
  | [], y :: _, _, _, _, h, _ => by obtain ⟨x, hx, _⟩ := h y (by simp); cases hx
  | x :: _, [], _, _, h, _, _ => by obtain ⟨x, hx, _⟩ := h x (by simp); cases hx
  | x :: fs, y :: gs, ⟨h1, h2⟩, ⟨h3, h4⟩, u, d, hp => by
    rw [List.map_cons, List.pairwise_cons] at h1 h3
    have lx : ∀ z ∈ fs, x.off < z.off := fun z hz => h1.1 _ (List.mem_map_of_mem hz)
    have ly : ∀ z ∈ gs, y.off < z.off := fun z hz => h3.1 _ (List.mem_map_of_mem hz)
    have e : x.off = y.off := by
      obtain ⟨y', hy', e1⟩ := u x (by simp)
      obtain ⟨x', hx', e2⟩ := d y (by simp)
      rcases List.mem_cons.1 hy' with rfl | m1
      · exact e1.symm
      · rcases List.mem_cons.1 hx' with rfl | m2
        · exact e2
        · have := lx _ m2; have := ly _ m1; omega
    simp only [all2, Bool.and_eq_true, beq_iff_eq]
    refine ⟨⟨e, hp x (by simp) y (by simp) e⟩, ?_⟩
    refine asc_all2 ⟨h1.2, fun z hz => h2 z (by simp [hz])⟩ ⟨h3.2, fun z hz => h4 z (by simp [hz])⟩ (fun z hz => ?_) (fun z hz => ?_) (fun z hz w hw => hp z (by simp [hz]) w (by simp [hw]))
    · obtain ⟨w, hw, e1⟩ := u z (by simp [hz])
      rcases List.mem_cons.1 hw with rfl | hw
      · have := lx _ hz; omega
      · exact ⟨w, hw, e1⟩
    · obtain ⟨w, hw, e1⟩ := d z (by simp [hz])
      rcases List.mem_cons.1 hw with rfl | hw
      · have := ly _ hz; omega
      · exact ⟨w, hw, e1⟩
theorem samT_atL (a b : Ty) (o : Int) : samT (a.at_ o) b = samT a b := by cases a; rw [at_mk, samT_mk, samT_mk]
theorem samT_atR (a b : Ty) (o : Int) : samT a (b.at_ o) = samT a b := by cases a; cases b; rw [at_mk, samT_mk, samT_mk]; rfl
theorem subT_antisymm : ∀ a : Ty, frm a = true → ∀ b : Ty, frm b = true → subT a b = true → subT b a = true → samT a b = true := by
  refine frm_induct (fun t o h b hb h1 h2 => by rw [subT_atL] at h1; rw [subT_atR] at h2; rw [samT_atL]; exact h b hb h1 h2) fun a ha ih b hb h1 h2 => ?_
  obtain ⟨b, hb', rfl'⟩ := kd_of hb
  rw [rfl', subT_atR, sK_iff ha hb'] at h1
  rw [rfl', subT_atL, sK_iff hb' ha] at h2
  rw [rfl', samT_atR]
  clear rfl' hb
  cases a with
  | unk => cases b <;> first | exact samT_refl _ | exact absurd h2 (by simp [sK])
  | any => cases b <;> first | exact samT_refl _ | exact absurd h1 (by simp [sK])
  | num k s => cases b with
    | num k' s' => obtain ⟨rfl, rfl⟩ := h1; exact samT_refl _
    | any => exact absurd h2 (by simp [sK])
    | _ => exact absurd h1 (by simp [sK])
  | ptr e => cases b with
    | ptr e' =>
      have := ih e (by simp [Kd.parts]) e' hb' h1 h2
      simp [Kd.ty, samT_mk, all2, Ty.kind, Ty.size, Ty.count, Ty.elem, Ty.fields, this]
    | any => exact absurd h2 (by simp [sK])
    | _ => exact absurd h1 (by simp [sK])
  | arr n e => cases b with
    | arr n' e' =>
      have := ih e (by simp [Kd.parts]) e' hb'.2.2 h1.2 h2.2
      have hn : n = n' := Int.le_antisymm h2.1 h1.1
      subst hn
      simp [Kd.ty, samT_mk, all2, Ty.kind, Ty.size, Ty.count, Ty.elem, Ty.fields, this]
    | any => exact absurd h2 (by simp [sK])
    | _ => exact absurd h1 (by simp [sK])
  | str fs => cases b with
    | str gs =>
      have : all2 (fun x y => x.off == y.off && samT x y) fs gs = true := by
        refine asc_all2 ha.1 hb'.1 (fun x hx => ?_) (fun y hy => ?_) fun x hx y hy e => ?_
        · obtain ⟨y, hy, e1, _⟩ := h2 x hx; exact ⟨y, hy, e1⟩
        · obtain ⟨x, hx, e1, _⟩ := h1 y hy; exact ⟨x, hx, e1⟩
        · obtain ⟨x', hx', e1, s1⟩ := h1 y hy
          obtain ⟨y', hy', e2, s2⟩ := h2 x hx
          obtain rfl := asc_uniq ha.1 hx' hx (e1.trans e.symm)
          obtain rfl := asc_uniq hb'.1 hy' hy (e2.trans e)
          exact ih x' hx y' (hb'.2 y' hy) s1 s2
      simp [Kd.ty, samT_mk, all2, Ty.kind, Ty.size, Ty.count, Ty.elem, Ty.fields, this]
    | any => exact absurd h2 (by simp [sK])
    | _ => exact absurd h1 (by simp [sK])
/-! ### Equal types answer alike -/
theorem all2_maps {α β γ : Type} {p : α → β → Bool} {f : α → γ} {g : β → γ} : ∀ {l : List α} {m : List β}, (∀ x ∈ l, ∀ y, p x y = true → f x = g y) → all2 p l m = true → l.map f = m.map g
  | [], [], _, _ => rfl
  | [], _ :: _, _, h => by simp [all2] at h
  | _ :: _, [], _, h => by simp [all2] at h
  | x :: l, y :: m, hp, h => by
    simp only [all2, Bool.and_eq_true] at h
    rw [List.map_cons, List.map_cons, hp x (by simp) y h.1, all2_maps (fun z hz => hp z (by simp [hz])) h.2]
theorem all_map' {α : Type} (f : α → Bool) (l : List α) : l.all f = (l.map f).all id := by rw [List.all_map]; rfl
theorem samT_inv {o k s c : Int} {es fs : List Ty} {b : Ty} (h : samT (.mk o k s c es fs) b = true) : ∃ o' es' fs', b = .mk o' k s c es' fs' ∧ all2 samT es es' = true ∧ all2 (fun x y => x.off == y.off && samT x y) fs fs' = true := by
  obtain ⟨o', k', s', c', es', fs'⟩ := b
  rw [samT_mk] at h
  simp only [Bool.and_eq_true, beq_iff_eq, Ty.kind, Ty.size, Ty.count, Ty.elem, Ty.fields] at h
  obtain ⟨⟨⟨⟨rfl, rfl⟩, rfl⟩, h1⟩, h2⟩ := h
  exact ⟨o', es', fs', rfl, h1, h2⟩
structure Alike (a b : Ty) : Prop where
  shal : ∀ n, Go.Proofs.YtchjncoadhigmaaGreatDoor.shal a n = Go.Proofs.YtchjncoadhigmaaGreatDoor.shal b n
  siz : Go.Proofs.YtchjncoadhigmaaGreatDoor.siz a = Go.Proofs.YtchjncoadhigmaaGreatDoor.siz b
  frm : Go.Proofs.YtchjncoadhigmaaGreatDoor.frm a = Go.Proofs.YtchjncoadhigmaaGreatDoor.frm b
  wit : Go.Proofs.YtchjncoadhigmaaGreatDoor.wit a = Go.Proofs.YtchjncoadhigmaaGreatDoor.wit b
  symm : samT b a = true
theorem samT_alike : ∀ a b : Ty, samT a b = true → Alike a b := by
  refine Ty.induct fun o k s c es fs hE hF b h => ?_
  obtain ⟨o', es', fs', rfl, h1, h2⟩ := samT_inv h
  have hF' : ∀ x ∈ fs, ∀ y, (x.off == y.off && samT x y) = true → x.off = y.off ∧ Alike x y := fun x hx y hxy => by
    simp only [Bool.and_eq_true, beq_iff_eq] at hxy
    exact ⟨hxy.1, hF x hx y hxy.2⟩
  have lE : es.length = es'.length := (all2_iff.1 h1).1
  have lF : fs.length = fs'.length := (all2_iff.1 h2).1
  have mo : fs.map Ty.off = fs'.map Ty.off := all2_maps (fun x hx y hxy => (hF' x hx y hxy).1) h2
  have ms : (fs.map fun f => f.off + Go.Proofs.YtchjncoadhigmaaGreatDoor.siz f) = fs'.map fun f => f.off + Go.Proofs.YtchjncoadhigmaaGreatDoor.siz f := all2_maps (fun x hx y hxy => by rw [(hF' x hx y hxy).1, (hF' x hx y hxy).2.siz]) h2
  have me : es.map Go.Proofs.YtchjncoadhigmaaGreatDoor.siz = es'.map Go.Proofs.YtchjncoadhigmaaGreatDoor.siz := all2_maps (fun x hx y hxy => (hE x hx y hxy).siz) h1
  have hs : Go.Proofs.YtchjncoadhigmaaGreatDoor.siz (.mk o k s c es fs) = Go.Proofs.YtchjncoadhigmaaGreatDoor.siz (.mk o' k s c es' fs') := by rw [siz_mk, siz_mk, ms, me]
  have ha : asc fs = asc fs' := by
    unfold asc
    rw [lF]
    congr 1
    funext i
    unfold fok
    rw [mo]
  refine ⟨fun n => ?_, hs, ?_, ?_, ?_⟩
  · rw [shal_mk, shal_mk, all_map' _ es, all_map' _ es', all_map' _ fs, all_map' _ fs', all2_maps (fun x hx y hxy => (hE x hx y hxy).shal (n - 1)) h1, all2_maps (fun x hx y hxy => (hF' x hx y hxy).2.shal (n - 1)) h2]
  · rw [frm_mk, frm_mk, lE, lF, ha, all_map' _ es, all_map' _ es', all_map' _ fs, all_map' _ fs', all2_maps (fun x hx y hxy => (hE x hx y hxy).frm) h1, all2_maps (fun x hx y hxy => (hF' x hx y hxy).2.frm) h2]
  · rw [wit_mk, wit_mk, lF, hs, all_map' _ es, all_map' _ es', all_map' _ fs, all_map' _ fs', all2_maps (fun x hx y hxy => (hE x hx y hxy).wit) h1, all2_maps (fun x hx y hxy => (hF' x hx y hxy).2.wit) h2]
  · rw [samT_mk]
    have k1 : all2 samT es' es = true := all2_iff.2 ⟨lE.symm, fun i hi hi' => (hE _ (List.getElem_mem hi') _ ((all2_iff.1 h1).2 i hi' hi)).symm⟩
    have k2 : all2 (fun x y => x.off == y.off && samT x y) fs' fs = true := all2_iff.2 ⟨lF.symm, fun i hi hi' => by
      have := hF' _ (List.getElem_mem hi') _ ((all2_iff.1 h2).2 i hi' hi)
      simp [this.1, this.2.symm]⟩
    simp [Ty.kind, Ty.size, Ty.count, Ty.elem, Ty.fields, k1, k2]
theorem samT_good {a b : Ty} (h : samT a b = true) : good a = good b := by
  have := samT_alike a b h
  unfold good chk
  rw [this.shal, this.frm, this.wit]
theorem samT_comm (a b : Ty) : samT a b = samT b a := by
  cases h : samT a b with
  | true => exact (samT_alike a b h).symm.symm
  | false => cases h' : samT b a with
    | false => rfl
    | true => rw [(samT_alike b a h').symm] at h; exact h.symm
theorem samT_trans : ∀ a b c : Ty, samT a b = true → samT b c = true → samT a c = true := by
  refine Ty.induct fun o k s c es fs hE hF b d h h' => ?_
  obtain ⟨o', es', fs', rfl, h1, h2⟩ := samT_inv h
  obtain ⟨o2, es2, fs2, rfl, h3, h4⟩ := samT_inv h'
  rw [all2_iff] at h1 h2 h3 h4
  have k1 : all2 samT es es2 = true := all2_iff.2 ⟨h1.1.trans h3.1, fun i hi hi' => hE _ (List.getElem_mem hi) _ _ (h1.2 i hi (by omega)) (h3.2 i (by omega) hi')⟩
  have k2 : all2 (fun x y => x.off == y.off && samT x y) fs fs2 = true := all2_iff.2 ⟨h2.1.trans h4.1, fun i hi hi' => by
    have a1 := h2.2 i hi (by omega)
    have a2 := h4.2 i (by omega) hi'
    simp only [Bool.and_eq_true, beq_iff_eq] at a1 a2 ⊢
    exact ⟨a1.1.trans a2.1, hF _ (List.getElem_mem hi) _ _ a1.2 a2.2⟩⟩
  rw [samT_mk]
  simp [Ty.kind, Ty.size, Ty.count, Ty.elem, Ty.fields, k1, k2]
/-- Equal formed types are subtypes. -/
theorem samT_sub : ∀ a : Ty, frm a = true → ∀ b : Ty, samT a b = true → subT a b = true := by
  refine frm_induct (fun t o h b h1 => by rw [subT_atL]; rw [samT_atL] at h1; exact h b h1) fun a ha ih b h => ?_
  have hb : frm b = true := (samT_alike _ _ h).frm ▸ kd_frm ha
  obtain ⟨b, hb', eb⟩ := kd_of hb
  rw [eb, samT_atR] at h
  rw [eb, subT_atR, sK_iff ha hb']
  clear eb hb
  cases a with
  | unk => trivial
  | any => cases b with
    | any => trivial
    | num k' s' => rcases hb'.1 with rfl | rfl <;> exact absurd h (by simp [Kd.ty, samT_mk, all2, Ty.kind])
    | _ => exact absurd h (by simp [Kd.ty, samT_mk, all2, Ty.kind])
  | num k s => cases b with
    | any => trivial
    | num k' s' => simp [Kd.ty, samT_mk, all2, Ty.kind, Ty.size, Ty.count, Ty.elem, Ty.fields] at h; exact h
    | _ => rcases ha.1 with rfl | rfl <;> exact absurd h (by simp [Kd.ty, samT_mk, all2, Ty.kind])
  | ptr e => cases b with
    | any => trivial
    | ptr e' => simp [Kd.ty, samT_mk, all2, Ty.kind, Ty.size, Ty.count, Ty.elem, Ty.fields] at h; exact ih e (by simp [Kd.parts]) e' h
    | num k' s' => rcases hb'.1 with rfl | rfl <;> exact absurd h (by simp [Kd.ty, samT_mk, all2, Ty.kind])
    | _ => exact absurd h (by simp [Kd.ty, samT_mk, all2, Ty.kind])
  | arr n e => cases b with
    | any => trivial
    | arr n' e' =>
      simp [Kd.ty, samT_mk, all2, Ty.kind, Ty.size, Ty.count, Ty.elem, Ty.fields] at h
      exact ⟨by omega, ih e (by simp [Kd.parts]) e' h.2⟩
    | num k' s' => rcases hb'.1 with rfl | rfl <;> exact absurd h (by simp [Kd.ty, samT_mk, all2, Ty.kind])
    | _ => exact absurd h (by simp [Kd.ty, samT_mk, all2, Ty.kind])
  | str fs => cases b with
    | any => trivial
    | str gs =>
      simp [Kd.ty, samT_mk, all2, Ty.kind, Ty.size, Ty.count, Ty.elem, Ty.fields] at h
      rw [all2_iff] at h
      intro f hf
      obtain ⟨i, hi, rfl⟩ := List.getElem_of_mem hf
      have := h.2 i (by omega) hi
      simp only [Bool.and_eq_true, beq_iff_eq] at this
      exact ⟨fs[i], List.getElem_mem _, this.1, ih _ (List.getElem_mem _) _ this.2⟩
    | num k' s' => rcases hb'.1 with rfl | rfl <;> exact absurd h (by simp [Kd.ty, samT_mk, all2, Ty.kind])
    | _ => exact absurd h (by simp [Kd.ty, samT_mk, all2, Ty.kind])
end Go.Proofs.YtchjncoadhigmaaGreatDoor
