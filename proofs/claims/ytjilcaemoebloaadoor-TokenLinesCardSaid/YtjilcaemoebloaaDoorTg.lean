/- One rule more: a nil slice that lies in a box is given a token. -/
import Derived.Test.YtjilcaemoebloaaDoorTi
namespace Go.Proofs.YtjilcaemoebloaaDoor
set_option linter.unusedSimpArgs false
set_option linter.unusedVariables false
set_option linter.unnecessarySimpa false
open Go.RowKit
theorem Kin.not_box {st st' : Nat → Ent} (h : Kin st st') {i : Nat} (hn : ∀ cs, st i ≠ .box cs) : st' i = st i := by
  rcases h i with h1 | ⟨cs, _, h1, _⟩
  · exact h1
  · exact absurd h1 (hn cs)
theorem Kin.free {st st' : Nat → Ent} (h : Kin st st') {i : Nat} (hi : st' i ≠ .free) : st i ≠ .free := by
  rcases h i with h1 | ⟨cs, _, h1, _⟩
  · rwa [← h1]
  · rw [h1]; simp
theorem Ev.wst {C : Cf} {st : Nat → Ent} (h : Kin C.st st) : Ev C (C.wst st) where
  os := rfl
  tape := rfl
  output := rfl
  size := Nat.le_refl _
  av := rfl
  rd := fun a v hr => ⟨hr.1, Cf.wst_fix h hr.2⟩
  box := fun i cs hb => ⟨rfl, by
    rcases h i with h1 | ⟨_, cs', _, h1⟩
    · exact ⟨cs, h1.trans hb⟩
    · exact ⟨cs', h1⟩⟩
  tip := fun i e z n ht => ⟨n, (h.not_box fun cs hc => by rw [ht] at hc; cases hc).trans ht, Nat.le_refl _, fun _ => ⟨rfl, fun _ cur _ hc => ⟨cur, hc, rfl⟩⟩⟩
  itr := fun i s p hb => ⟨rfl, s, p, (h.not_box fun cs hc => by rw [hb] at hc; cases hc).trans hb⟩
  keep := fun _ _ _ => rfl
  fresh := fun i b hi hs => .inl ⟨h.free hi, hs⟩
theorem Ok.wst {C : Cf} {st : Nat → Ent} (hC : Ok C) (h : Kin C.st st) (hb : ∀ i cs, st i = .box cs → ∃ g bs t, C.σ i = some g ∧ C.w.heap[g]? = some (.cells bs t (0, 0)) ∧ cs.length ≤ bs.size ∧
    (∀ j, j < cs.length → (bs.getD j undef).oneCell' = true) ∧ ∀ j (hj : j < cs.length), R (C.wst st) cs[j] (bs.getD j undef)) : Ok (C.wst st) where
  box := hb
  tip := fun i e z n g ht hs => hC.tip i e z n g (by
    rcases h i with h1 | ⟨_, cs', _, h1⟩
    · exact h1.symm.trans ht
    · have ht : st i = _ := ht
      rw [h1] at ht; cases ht) hs
  iter := fun i s p ht => hC.iter i s p (by
    rcases h i with h1 | ⟨_, cs', _, h1⟩
    · exact h1.symm.trans ht
    · have ht : st i = _ := ht
      rw [h1] at ht; cases ht)
  inj := fun i j g hi hj => hC.inj i j g (h.free hi) (h.free hj)
  avl := hC.avl
  bav := fun i cs g o hc hs => by
    rcases h i with h1 | ⟨cs0, _, h0, _⟩
    · exact hC.bav i cs g o (h1.symm.trans hc) hs
    · exact hC.bav i cs0 g o h0 hs
  gl := hC.gl.mono (Ev.wst h)
theorem Sim.ghostB {B : Option Nat} {C : Cf} {a : Act} {N : Nat} {s : List (Nat × V)} {l : List Ent} {id j : Nat} {cs : List V} {e : TypeId} {z : Nat} (hS : Sim B C ⟨dn N s, ofl l⟩ a)
    (hi : l[id]? = some (.box cs)) (hj : cs[j]? = some (.sl [] .nl)) : ∃ D, Sim B D ⟨dn N s, ofl (l.set id (.box (cs.set j (.sl [] (.mine l.length)))) ++ [.tip e z 0])⟩ a ∧ D.w = C.w ∧ Ev C D := by
  obtain ⟨hil, hi'⟩ := List.getElem?_eq_some_iff.1 hi
  obtain ⟨hjl, hj'⟩ := List.getElem?_eq_some_iff.1 hj
  have hf : C.st l.length = .free := by rw [hS.st]; exact ofl_end l
  have hE1 : Ev C (C.ghost l.length e z 0) := Ev.ghost hf
  have hO1 : Ok (C.ghost l.length e z 0) := hS.ok.ghost hf
  have hst1 : (C.ghost l.length e z 0).st = ofl (l ++ [.tip e z 0]) := by
    show upd C.st l.length (.tip e z 0) = _
    rw [hS.st]
    exact ofl_snoc l _
  have hbox : C.st id = .box cs := by rw [hS.st]; simp [ofl, List.getD, hi]
  have hset : ∀ i, ofl (l.set id (.box (cs.set j (.sl [] (.mine l.length)))) ++ [.tip e z 0]) i = if i = id then .box (cs.set j (.sl [] (.mine l.length))) else ofl (l ++ [.tip e z 0]) i := fun i => by
    unfold ofl
    by_cases h : i = id
    · subst h; simp [List.getD, List.getElem?_append, hil]
    · have h' : id ≠ i := fun q => h q.symm
      simp [List.getD, List.getElem?_append, List.getElem?_set, h, h']
  have hk : Kin (C.ghost l.length e z 0).st (ofl (l.set id (.box (cs.set j (.sl [] (.mine l.length)))) ++ [.tip e z 0])) := fun i => by
    rw [hset, hst1]
    by_cases h : i = id
    · subst h
      exact .inr ⟨cs, _, by simp [ofl, List.getD, List.getElem?_append, hil, hi'], if_pos rfl⟩
    · exact .inl (if_neg h)
  refine ⟨(C.ghost l.length e z 0).wst _, ⟨rfl, hO1.wst hk fun i ds hd => ?_, (hS.defers.mono hE1).mono (Ev.wst hk), hS.size, fun t ht => ((hS.slot t ht).mono hE1).wst hk⟩, rfl, hE1.trans (Ev.wst hk)⟩
  rw [hset] at hd
  by_cases h : i = id
  · subst h
    rw [if_pos rfl] at hd
    cases hd
    obtain ⟨g, bs, t, h1, h2, h3, h4, h5⟩ := hS.ok.box i cs hbox
    have hne : i ≠ l.length := by omega
    refine ⟨g, bs, t, ?_, h2, by simpa using h3, fun q hq => h4 q (by simpa using hq), fun q hq => ?_⟩
    · show (if i = l.length then none else C.σ i) = some g
      rw [if_neg hne]; exact h1
    · have hq' : q < cs.length := by simpa using hq
      rw [List.getElem_set]
      have h6 := h5 q hq'
      by_cases hjq : j = q
      · subst hjq
        rw [if_pos rfl]
        rw [hj'] at h6
        exact (R.toMine (id := l.length) (e := e) (z := z) h6 hf).wst hk
      · rw [if_neg hjq]
        exact (h6.mono hE1).wst hk
  · rw [if_neg h, ← hst1] at hd
    obtain ⟨g, bs, t, h1, h2, h3, h4, h5⟩ := hO1.box i ds hd
    exact ⟨g, bs, t, h1, h2, h3, h4, fun q hq => (h5 q hq).wst hk⟩
theorem AWp.ghostB {K : Option Nat → Prop} {P : Program} {st0 : Nat → Ent} {Q : Exit → St → Prop} {c : Code} {N : Nat} {s : List (Nat × V)} {l : List Ent} (id j : Nat) (cs : List V) (e : TypeId) (z : Nat)
    (h : AWpK K P st0 c Q ⟨dn N s, ofl (l.set id (.box (cs.set j (.sl [] (.mine l.length)))) ++ [.tip e z 0])⟩) (hi : l[id]? = some (.box cs) := by rfl) (hj : cs[j]? = some (.sl [] .nl) := by rfl) : AWpK K P st0 c Q ⟨dn N s, ofl l⟩ := by
  intro C0 C a ro n hK h0 hE hS
  obtain ⟨D, h1, h2, h3⟩ := hS.ghostB (e := e) (z := z) hi hj
  have := h C0 D a ro n hK h0 (hE.trans h3) h1
  rw [h2] at this
  exact this
/-- A slice that lies in the token's own block becomes a box that may be written to; all else is forgotten. -/
theorem AWp.thaw {K : Option Nat → Prop} {P : Program} {Q : Exit → St → Prop} {c : Code} {N : Nat} {s : List (Nat × V)} {l : List Ent} (t u : Nat) (es : List V) (id : Nat) (e : TypeId) (z : Nat) (v : Value)
    (h : AWpK K P stF c Q ⟨dn N [(t, .bs 0 es.length), (u, .im v)], ofl [.box (flatV es)]⟩) (ht : look s t = .sl es (.mine id)) (hu : look s u = .im v) (hl : l.getD id .free = .tip e z es.length) (hne : es ≠ []) (hz : allZ z es = true)
    (hag : ∀ x ∈ es, ∃ cs, x = .ag cs) (him : ∀ x ∈ flatV es, ∃ v, x = .im v) (htN : t < N) : AWpK K P stF c Q ⟨dn N s, ofl l⟩ := by
  intro C0 C a ro m hK h0 hE hS
  have hslot := hS.slot t (by rw [dn_length]; exact htN)
  rw [getD_dn, if_pos htN, ht] at hslot
  have hst : C.st id = .tip e z es.length := by rw [hS.st]; exact hl
  obtain ⟨w, hw⟩ : ∃ w, w = a.tmps.getD t undef := ⟨_, rfl⟩
  rw [← hw] at hslot
  cases hslot with
  | @sl _ _ ad cap z' us hc hm hzs h1 hr hk =>
    obtain ⟨e', n', k1, k2, k3⟩ := hk
    rw [hst] at k1
    cases k1
    rcases k3 rfl with ⟨k0, _⟩ | ⟨g, cur, σg, rfl, hg, hcur⟩
    · exact absurd (List.length_eq_zero_iff.1 k0) hne
    have hfresh : C0.w.heap.size ≤ g := by
      rcases hE.fresh id g (by rw [hst]; simp) σg with ⟨k, _⟩ | k
      · exact absurd (by rw [h0]; rfl) k
      · exact k
    have hfl := flatV_length hz
    have hcz : es.length * z ≤ cap * z := Nat.mul_le_mul_right _ hc
    -- the cells
    have hcell : ∀ q (hq : q < (flatV es).length), ∃ x : Value, (flatV es)[q] = .im x ∧ x.oneCell' = true ∧ cur.getD q undef = x := fun q hq => by
      obtain ⟨x, hx⟩ := him _ (List.getElem_mem hq)
      refine ⟨x, hx, ?_⟩
      have hzp : 0 < z := by
        rcases Nat.eq_zero_or_pos z with hz0 | hz0
        · rw [hfl, hz0] at hq; simp at hq
        · exact hz0
      have hi : q / z < es.length := by
        rw [hfl] at hq
        exact Nat.div_lt_of_lt_mul (by rw [Nat.mul_comm]; exact hq)
      have hj : q % z < z := Nat.mod_lt _ hzp
      have hqe : q / z * z + q % z = q := by rw [Nat.mul_comm]; exact Nat.div_add_mod q z
      generalize q / z = i at hi hqe
      generalize q % z = j at hj hqe
      subst hqe
      have hget := flatV_get hz hi hj
      rw [List.getElem?_eq_getElem hq, hx] at hget
      obtain ⟨cs, hcs⟩ := hag _ (List.getElem_mem hi)
      have hR := h1 i hi
      have hrd := hr i hi
      rw [hcs] at hR hget
      have hget : cs[j]? = some (.im x) := hget.symm
      obtain ⟨hjl, hjx⟩ := List.getElem?_eq_some_iff.1 hget
      generalize us i = U at hR hrd
      cases hR with
      | @ag _ ua hn ho hcR =>
        have h3 := hcR j hjl
        rw [hjx] at h3
        have h4 := h3.im_eq
        have h5 := ho j hjl
        rw [h4] at h5
        refine ⟨h5, ?_⟩
        obtain ⟨ad, e1, hrd⟩ := hrd
        cases e1
        have hjs : j < ua.size := by omega
        have hju : ua[j]? = some x := by
          rw [Array.getD_eq_getD_getElem?, Array.getElem?_eq_getElem hjs] at h4
          rw [Array.getElem?_eq_getElem hjs]
          exact congrArg some h4
        have h6 := (hrd j x hju).1
        rw [Addr.add_lit, Addr.add_lit] at h6
        simp only [World.cell?, hg, Nat.zero_add] at h6
        rw [Array.getD_eq_getD_getElem?]
        simp at h6
        rw [h6]
        rfl
    have hoff : ∀ {i : Nat} {x : Ent}, ofl [.box (flatV es)] i = x → x ≠ .free → i = 0 := fun {i x} hx hf => by
      cases i with
      | zero => rfl
      | succ i => exact absurd (by rw [← hx]; simp [ofl, List.getD]) hf
    have hσ : ∀ {i b : Nat}, (if i = 0 then some g else none) = some b → i = 0 ∧ b = g := fun {i b} hi => by
      split at hi
      · rename_i h0; exact ⟨h0, (Option.some.inj hi).symm⟩
      · cases hi
    have hgl : ∀ a ∈ glL, a.1.block ≠ g := fun a ha hb => by
      have := hS.ok.gl.2 a ha id (by rw [hb]; exact σg)
      rw [hst] at this
      cases this
    have hok : Ok (⟨fun i => if i = 0 then some g else none, ofl [.box (flatV es)], C.av, C.w⟩ : Cf) := by
      refine ⟨fun i cs h => ?_, fun i e z k g h => ?_, fun i t p h => ?_, fun i j g' h1 h2 h3 h4 => ?_, hS.ok.avl, fun i cs g' o h h' => ?_, ⟨fun a ha => ?_, fun a ha i hi => ?_⟩⟩
      · obtain rfl := hoff h (by simp)
        cases h
        refine ⟨g, cur, e, rfl, hg, by omega, fun j hj => ?_, fun j hj => ?_⟩
        · obtain ⟨x, hx, h5, h6⟩ := hcell j hj
          rw [h6]; exact h5
        · obtain ⟨x, hx, h5, h6⟩ := hcell j hj
          rw [h6, hx]; exact .im h5
      · obtain rfl := hoff h (by simp)
        cases h
      · obtain rfl := hoff h (by simp)
        cases h
      · rw [hoff rfl h1, hoff rfl h2]
      · obtain ⟨_, rfl⟩ := hσ h'
        obtain ⟨_, _, _, h7⟩ := hS.ok.tip id e z es.length g' hst σg
        exact h7 o
      · obtain ⟨q, q1, q2⟩ := hS.ok.gl.1 a ha
        exact ⟨q, ⟨q1.1, q1.2.1, fun i hi => absurd (hσ hi).2 (hgl a ha)⟩, q2⟩
      · exact absurd (hσ hi).2 (hgl a ha)
    have hE' : Ev C0 (⟨fun i => if i = 0 then some g else none, ofl [.box (flatV es)], C.av, C.w⟩ : Cf) := by
      refine ⟨hE.os, hE.tape, hE.output, hE.size, hE.av, fun a v h => ?_, fun i cs h => ?_, fun i e z k h => ?_, fun i t p h => ?_, hE.keep, fun i b h h' => ?_⟩
      · have h2 := hE.rd a v h
        refine ⟨h2.1, h2.2.1, fun i hi => ?_⟩
        have h3 := (hσ hi).2
        have h4 := rd_lt h
        omega
      · rw [h0] at h; cases h
      · rw [h0] at h; cases h
      · rw [h0] at h; cases h
      · obtain ⟨_, rfl⟩ := hσ h'
        exact .inr hfresh
    refine h C0 (⟨fun i => if i = 0 then some g else none, ofl [.box (flatV es)], C.av, C.w⟩ : Cf) a ro m hK h0 hE' ⟨rfl, hok, ?_, ?_, fun t' ht' => ?_⟩
    · obtain ⟨bs, d1, d2, d3⟩ := hS.defers
      refine ⟨bs, d1, d2, fun b hb => ?_⟩
      obtain ⟨e1, e2, d4⟩ := d3 b hb
      refine ⟨e1, e2, fun i hi => ?_⟩
      obtain ⟨_, rfl⟩ := hσ hi
      have := d4 id σg
      rw [hst] at this
      cases this
    · rw [hS.size, dn_length]
      exact (dn_length _ _).symm
    · have ht2 : t' < N := by rw [dn_length] at ht'; exact ht'
      rw [getD_dn, if_pos ht2, look_cons, look_cons, look_nil]
      split
      · rename_i h7
        subst h7
        rw [← hw]
        exact .bs (cs := flatV es) (by rfl) (by rfl) hc hm
      · split
        · rename_i h8
          subst h8
          have h9 := hS.slot u (by rw [dn_length]; exact ht2)
          rw [getD_dn, if_pos ht2, hu] at h9
          cases h9 with
          | im h => exact .im h
        · exact .dead
end Go.Proofs.YtjilcaemoebloaaDoor
