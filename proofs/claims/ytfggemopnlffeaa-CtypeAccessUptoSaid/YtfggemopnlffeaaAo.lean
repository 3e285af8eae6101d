/- A range over slices.Backward, as a rule of a walk. -/
import Derived.Test.YtfggemopnlffeaaLe
import Derived.Test.YtfggemopnlffeaaBk
namespace Go.Proofs.Ytfggemopnlffeaa
set_option linter.unusedSimpArgs false
set_option linter.unusedVariables false
set_option linter.unnecessarySimpa false
open Go.RowKit Go.Shelf

/-- A pointer to a box that nobody writes to any more. -/
theorem WkF.ep {st : Nat → Ent} {kp : Nat → Bool} {id : Nat} {x : V} (hb : st id = .box [x]) (hk : kp id = false) (hl : x.live = true) (ha : x.isAg = false) (hi : x.ids kp = true) : WkF st kp (.pt id 0) (.ep x 0) := by
  intro C v hst hC hR
  subst hst
  cases hR with
  | @pt _ _ g cs' hσ hb' =>
    obtain ⟨g', bs, t, k1, k2, k3, k4, k5⟩ := hC.box id _ hb
    obtain rfl : g = g' := Option.some.inj (hσ.symm.trans k1)
    have k3 : 1 ≤ bs.size := k3
    have h1 : R C x (bs.getD 0 undef) := k5 0 (by simp)
    obtain ⟨h2, h3, h4⟩ := h1.one hl (fun cs e => by subst e; cases ha)
    have := R.ep (C := C.only kp) (off := 0) (ad := ⟨g, 0, none⟩) (h1.only hi) (by rw [h4]; simp [V.size, h3]) (fun j c hj => by
      rw [h4] at hj
      have hj0 : j = 0 := by
        have := (Array.getElem?_eq_some_iff.1 hj).1
        simpa using this
      subst hj0
      have hc : c = bs.getD 0 undef := by simpa using hj.symm
      subst hc
      rw [Addr.add_lit]
      refine ⟨by simp [Cf.only, World.cell?, k2, show 0 < bs.size by omega], hC.bav id _ g _ hb k1, fun i' hi' => ?_⟩
      left
      show (if kp i' then C.st i' else .free) = .free
      split
      · rename_i hkp
        refine Classical.byContradiction fun hne => ?_
        have := hC.inj i' id g hne (by rw [hb]; simp) hi' k1
        subst this
        rw [hk] at hkp
        cases hkp
      · rfl)
    rwa [Addr.add_lit] at this

/-! ### The world grows; a block that holds no cells turns -/
section
variable {C D : Cf} {W' : World} {row : Option Nat}
theorem grown_ok (hD : Ok D) (hg : D.w.grownBy W' row) (hr : ∀ r, row = some r → (∀ i, D.σ i = some r → D.st i = .free) ∧ ∃ o, D.w.heap[r]? = some o ∧ o.isCells = false) :
    Ok (D.withW W') ∧ (∀ x v, R D x v → R (D.withW W') x v) ∧ ∀ a v, D.rd a v → (D.withW W').rd a v := by
  have hc : ∀ (g : Nat) (cur : Array Value) (e : TypeId) (fr : Nat × Nat), D.w.heap[g]? = some (Obj.cells cur e fr) → W'.heap[g]? = some (Obj.cells cur e fr) := fun g cur e fr h => by
    rw [hg.block g (Array.getElem?_eq_some_iff.1 h).1 (fun e => by
      obtain ⟨_, o, h1, h2⟩ := hr g e.symm
      rw [h] at h1
      cases h1
      cases h2)]
    exact h
  have hrd : ∀ a v, D.rd a v → (D.withW W').rd a v := fun a v h => by
    refine ⟨?_, h.2⟩
    have h1 := h.1
    have hb : ∃ cs t fr, D.w.heap[a.block]? = some (Obj.cells cs t fr) := by
      unfold World.cell? at h1
      split at h1
      · rename_i cs t fr hh; exact ⟨_, _, _, hh⟩
      · cases h1
    obtain ⟨cs, t, fr, hb⟩ := hb
    exact (World.cell?_of_block ((hc _ _ _ _ hb).trans hb.symm)).trans h1
  have hR : ∀ x v, R D x v → R (D.withW W') x v := fun x v h => R.rds (C := D) (D := D.withW W') rfl rfl hrd (fun g cur e h => hc g cur e _ h) h
  refine ⟨⟨fun i cs h => ?_, fun i e z n g h h' => ?_, fun i s p h => ?_, hD.inj, fun b o h => ?_, hD.bav, fun a ha => ?_⟩, hR, hrd⟩
  · obtain ⟨g, bs, t, k1, k2, k3, k4, k5⟩ := hD.box i cs h
    exact ⟨g, bs, t, k1, hc _ _ _ _ k2, k3, k4, fun j hj => hR _ _ (k5 j hj)⟩
  · obtain ⟨cur, k1, k2⟩ := hD.tip i e z n g h h'
    exact ⟨cur, hc _ _ _ _ k1, k2⟩
  · obtain ⟨g, k1, k2⟩ := hD.iter i s p h
    refine ⟨g, k1, (hg.block g (Array.getElem?_eq_some_iff.1 k2).1 (fun e => ?_)).trans k2⟩
    have := (hr g e.symm).1 i k1
    have h : D.st i = .iter s p := h
    rw [h] at this
    cases this
  · exact Nat.lt_of_lt_of_le (hD.avl b o h) hg.size
  · obtain ⟨m, k⟩ := hD.gl a ha
    exact ⟨m, hrd _ _ k⟩
theorem grown_ev (hE : Ev C D) (hD : Ok D) (hg : D.w.grownBy W' row) (hr : ∀ r, row = some r → (∀ i, D.σ i = some r → D.st i = .free) ∧ ∃ o, D.w.heap[r]? = some o ∧ o.isCells = false) (hlo : ∀ r, row = some r → C.w.heap.size ≤ r) : Ev C (D.withW W') := by
  obtain ⟨_, _, hrd⟩ := grown_ok hD hg hr
  have hne : ∀ b, b < C.w.heap.size → some b ≠ row := fun b hb e => by have := hlo b e.symm; omega
  refine ⟨hg.os.trans hE.os, hg.tape.trans hE.tape, hg.output.trans hE.output, Nat.le_trans hE.size hg.size, hE.av, fun a v h => hrd a v (hE.rd a v h), hE.box, fun i e z n h => ?_, hE.itr, fun b hb hf => ?_, hE.fresh⟩
  · obtain ⟨n', k1, k2, k3⟩ := hE.tip i e z n h
    refine ⟨n', k1, k2, fun hn' => ?_⟩
    obtain ⟨k4, k5⟩ := k3 hn'
    refine ⟨k4, fun g cur hgg hcc => ?_⟩
    obtain ⟨cur', k6, k7⟩ := k5 g cur hgg hcc
    have hlt := (Array.getElem?_eq_some_iff.1 hcc).1
    exact ⟨cur', (hg.block g (Nat.lt_of_lt_of_le hlt hE.size) (hne g hlt)).trans k6, k7⟩
  · exact (hg.block b (Nat.lt_of_lt_of_le hb hE.size) (hne b hb)).trans (hE.keep b hb hf)
/-- Blocks that hold no cells belong to nobody. -/
theorem nobody (hD : Ok D) (hni : ∀ i s p, D.st i ≠ .iter s p) {r : Nat} {o : Obj} (ho : D.w.heap[r]? = some o) (hn : o.isCells = false) : ∀ i, D.σ i = some r → D.st i = .free := by
  intro i hi
  cases he : D.st i with
  | free => rfl
  | box cs =>
    obtain ⟨g, bs, t, k1, k2, _⟩ := hD.box i cs he
    obtain rfl : g = r := Option.some.inj (k1.symm.trans hi)
    rw [k2] at ho
    cases ho
    cases hn
  | tip e z n =>
    obtain ⟨cur, k1, _⟩ := hD.tip i e z n r he hi
    rw [k1] at ho
    cases ho
    cases hn
  | iter s p => exact absurd he (hni i s p)
/-- What a step does to blocks that hold no cells: nothing. -/
theorem keepsFrom_of {E : Cf} (hE : Ev D E) {B : Nat} (hn : ∀ r o, B ≤ r → D.w.heap[r]? = some o → o.isCells = false → ∀ i, D.σ i = some r → D.st i = .free) : KeepsFrom B D.w E.w :=
  ⟨hE.size, fun k o hB hk ho => (hE.keep k (Array.getElem?_eq_some_iff.1 hk).1 (hn k o hB hk ho)).trans hk⟩
end

/-- What becomes of a round that walks backward: it goes on, and the boxes are as they were; or it leaves the function. -/
def BackQ (l : List Ent) (G : Prop) (T : List Ent → Prop) (e : Exit) (A : St) : Prop :=
  (e = .normal ∧ G ∧ ∃ l2, A.st = ofl l2 ∧ l2.take l.length = l) ∨
  (e = .ret ∧ ∃ l2 l3, A.st = ofl l2 ∧ l2.take l.length = l3 ∧ l3.length = l.length ∧ l3.all (entOk (ltB l.length)) = true ∧ (∀ i s p, ofl l3 i ≠ .iter s p) ∧ T l3)
theorem all_box' {n : Nat} {l : List Ent} (h : l.all (entOk (ltB n)) = true) (i : Nat) (cs : List V) (hb : ofl l i = .box cs) : V.idsL (ltB n) cs = true := by
  have hi : i < l.length := ofl_lt (by rw [hb]; simp)
  have he : l[i] = .box cs := by simpa [ofl, List.getD, hi] using hb
  have := List.all_eq_true.1 h l[i] (List.getElem_mem hi)
  rw [he] at this
  exact this
/-- The memory with the first boxes alone. -/
theorem Cf.keep_st {D : Cf} {l2 l3 : List Ent} {n : Nat} (hs : D.st = ofl l2) (h : l2.take n = l3) : (D.only (ltB n)).st = ofl l3 := by
  show (fun i => if ltB n i then D.st i else .free) = _
  rw [hs, ofl_take, h]
theorem Ok.keep {D : Cf} {l2 l3 : List Ent} {n : Nat} (hD : Ok D) (hs : D.st = ofl l2) (h : l2.take n = l3) (hb : l3.all (entOk (ltB n)) = true) : Ok (D.only (ltB n)) := by
  refine hD.only fun i cs hi hk => all_box' hb i cs ?_
  rw [← h]
  have : i < n := by simpa [ltB] using hk
  rw [take_box this, ← hs]
  exact hi
theorem wide_n {ro : Option Nat} {n n' : Nat} {P : Program} {c : Code} {Q : Exit → Act → World → Prop} {a : Act} {w : World} (h : c.wpIn (FR ro) n P Q a w) : c.wpIn (FR ro) n' P Q a w :=
  fun b k cs h1 h2 _ => h b k cs h1 h2 (fun _ e => by cases e)

abbrev gfB : FuncId := 113
theorem goB : goFn Try.prog gfB = true := by kernel_rfl
/-- Of a slice of fields that nobody writes to: what a walk over it reads. -/
theorem six_of {C : Cf} {es : List V} {k : Slk} {a : Option Addr} {cap : Nat} (h : R C (.sl es k) (.slice a es.length cap)) (hz : allZ 6 es = true) (hag : ∀ x ∈ es, x.isAg = true) :
    ∃ us : Nat → Six, (∀ i (hi : i < es.length), R C es[i] (us i).v) ∧ ∀ i, i < es.length → ∃ b o, a = some ⟨b, o, none⟩ ∧ C.rd ⟨b, o + i * 6, none⟩ (us i).c0 ∧ C.rd ⟨b, o + i * 6 + 1, none⟩ (us i).c1 ∧ C.rd ⟨b, o + i * 6 + 2, none⟩ (us i).c2 ∧
      C.rd ⟨b, o + i * 6 + 3, none⟩ (us i).c3 ∧ C.rd ⟨b, o + i * 6 + 4, none⟩ (us i).c4 ∧ C.rd ⟨b, o + i * 6 + 5, none⟩ (us i).c5 := by
  cases h with
  | @sl _ _ _ _ z u hc hm hzs h0 hr hk =>
    have key : ∀ i (hi : i < es.length), ∃ s : Six, u i = s.v := fun i hi => by
      have h1 := h0 i hi
      have h2 := V.isAg_eq (hag _ (List.getElem_mem hi))
      have h3 := (allZ_get hz hi).2
      rw [h2] at h1
      generalize hv : u i = v at h1
      cases h1 with
      | @ag _ us hn h4 h5 =>
        have hs : us.size = 6 := by rw [hn]; exact h3
        refine ⟨⟨us.getD 0 undef, us.getD 1 undef, us.getD 2 undef, us.getD 3 undef, us.getD 4 undef, us.getD 5 undef⟩, ?_⟩
        unfold Six.v
        congr 1
        apply Array.ext
        · simp [hs]
        · intro j h6 h7
          have : j < 6 := by omega
          match j, this with
          | 0, _ => simp [hs]
          | 1, _ => simp [hs]
          | 2, _ => simp [hs]
          | 3, _ => simp [hs]
          | 4, _ => simp [hs]
          | 5, _ => simp [hs]
    refine ⟨fun i => if hi : i < es.length then (key i hi).choose else ⟨undef, undef, undef, undef, undef, undef⟩, fun i hi => ?_, fun i hi => ?_⟩
    · simp only [hi, dif_pos]
      rw [← (key i hi).choose_spec]
      exact h0 i hi
    · simp only [hi, dif_pos]
      have hv := (key i hi).choose_spec
      generalize (key i hi).choose = s at hv
      obtain ⟨ad, h1, h2⟩ := hr i hi
      have hz6 : z = 6 := by rw [← (hzs i hi).1]; exact (allZ_get hz hi).2
      subst hz6
      rw [hv] at h2
      have g : ∀ j c, (Six.v s).cells[j]? = some c → C.rd (ad.add (i * 6 + j)) c := fun j c hj => by rw [← add_mul_add]; exact h2 j c hj
      have hsp : ad.spot = none := by
        have h00 : 0 < es.length := by omega
        obtain ⟨ad2, e2, g2⟩ := hr 0 h00
        have hv0 := (key 0 h00).choose_spec
        generalize (key 0 h00).choose = s0 at hv0
        obtain rfl : ad = ad2 := Option.some.inj (h1.symm.trans e2)
        rw [hv0] at g2
        have := (g2 0 s0.c0 rfl).1
        simp only [Nat.zero_mul, Addr.add, if_true] at this
        unfold World.cell? at this
        split at this
        · by_cases hq : ad.spot.isSome = true
          · rw [if_pos hq] at this; cases this
          · simpa using hq
        · cases this
      obtain ⟨b, o, sp⟩ := ad
      simp only at hsp
      subst hsp
      simp only [Addr.add_lit, ← Nat.add_assoc, Nat.add_zero] at g
      exact ⟨b, o, h1, g 0 _ rfl, g 1 _ rfl, g 2 _ rfl, g 3 _ rfl, g 4 _ rfl, g 5 _ rfl⟩
theorem coll_inj : ∀ {bs bs' : List Nat}, (bs.map fun b => ({ target := .collected b, args := #[] } : Deferred)) = bs'.map (fun b => { target := .collected b, args := #[] }) → bs = bs'
  | [], [], _ => rfl
  | [], _ :: _, h => by cases h
  | _ :: _, [], h => by cases h
  | x :: bs, y :: bs', h => by
    simp only [List.map_cons, List.cons.injEq, Deferred.mk.injEq, Target.collected.injEq, and_true] at h
    rw [h.1, coll_inj h.2]
theorem down_mem {n k i : Nat} (hk : k ≤ n) (h1 : n - k ≤ i) (h2 : i < n) : i ∈ down n k := List.mem_map.2 ⟨n - 1 - i, by simp; omega, by omega⟩
theorem YieldAt.mono {F : Fence} {m : Nat} {P : Program} {l : Nat} {args : Array Value} {W : World} {R R' : Ending → World → Prop} (h : YieldAt F m P l args W R) (hr : ∀ e w, R e w → R' e w) : YieldAt F m P l args W R' := by
  obtain ⟨fn, tmps, assign, body, h1, h2⟩ := h
  exact ⟨fn, tmps, assign, body, h1, h2.mono hr⟩
set_option maxHeartbeats 1000000 in
/-- 'for i, f := range slices.Backward(fields)': G: what is known when round i has gone on; T: the boxes that a round leaves which leaves the function. -/
theorem AWp.backward {st0 : Nat → Ent} {Q : Exit → St → Prop} {N : Nat} {s : List (Nat × V)} {l : List Ent} {g : Operand} {p1 p2 : Tmp} {assign body : Code} {es : List V} {k : Slk}
    (hg : St.ev ⟨dn N s, ofl l⟩ g = .fn (.func gfB) [] [.ep (.sl es k) 0]) (hz : allZ 6 es = true) (hag : ∀ x ∈ es, x.isAg = true) (hlen : es.length ≤ 4611686018427387904) (hbx : l.all (entOk (ltB l.length)) = true) (hids : idsA (ltB l.length) s = true)
    (hni : ∀ i t p, ofl l i ≠ .iter t p) (G : Nat → Prop) (T : Nat → List Ent → Prop) (sA : Nat → List (Nat × V)) (lA : Nat → List Ent) (hlA : ∀ i, (lA i).take l.length = l) (hniA : ∀ i j t p, ofl (lA i) j ≠ .iter t p)
    (hassign : ∀ i (hi : i < es.length), AWpK (fun _ => True) Try.prog (ofl l) assign (fun e A => e = .normal ∧ A = ⟨dn N (sA i), ofl (lA i)⟩) ⟨dn N ((p2, es[i]) :: (p1, .im (.int .i64 i)) :: s), ofl l⟩)
    (hbody : ∀ i, i < es.length → AWpK (fun _ => True) Try.prog (ofl (lA i)) body (BackQ l (G i) (T i)) ⟨dn N (sA i), ofl (lA i)⟩)
    (hdone : (∀ i, i < es.length → G i) → Q .normal ⟨dn N s, ofl l⟩) (hret : ∀ i, i < es.length → (∀ j, i < j → j < es.length → G j) → ∀ l3, T i l3 → Q .ret ⟨dn N s, ofl l3⟩) :
    AWpK (fun ro => ro = none) Try.prog st0 (.rangeFunc g #[p1, p2] assign body) Q ⟨dn N s, ofl l⟩ := by
  intro C0 C a ro m hK h0' hE hS
  subst hK
  have hgv := hS.ev g
  rw [hg] at hgv
  generalize hgq : a.eval g = gv at hgv
  cases hgv with
  | @fn _ _ _ us vs h1 h2 h3 h4 =>
    obtain rfl : us = #[] := Array.eq_empty_of_size_eq_zero (by simpa using h1)
    have h5 := h4 0 (by simp)
    have hvs : vs = #[vs.getD 0 undef] := by
      have h2 : vs.size = 1 := h2
      apply Array.ext
      · simp [h2]
      · intro i q1 q2
        obtain rfl : i = 0 := by omega
        simp [h2]
    generalize vs.getD 0 undef = v0 at h5 hvs
    subst hvs
    simp only [List.getElem_cons_zero] at h5
    cases h5 with
    | @ep _ _ ad u hu huz hur =>
      have hu' := hu
      cases hu with
      | @sl _ _ a0 cap z uu hc hm hzs hh hr hk =>
        have hcell := hur 0 (.slice a0 es.length cap) rfl
        obtain ⟨six, hsR, hsrd⟩ := six_of hu' hz hag
        clear hh hr hk hzs hu' huz
        -- what stays readable
        have hReads : ∀ W : World, (∀ a v, C.rd a v → W.cell? a = some v) → Reads W (ad.add 0) a0 es.length cap six := fun W h => ⟨h _ _ hcell, fun i hi => by
          obtain ⟨b, o, e, r0, r1, r2, r3, r4, r5⟩ := hsrd i hi
          exact ⟨b, o, e, h _ _ r0, h _ _ r1, h _ _ r2, h _ _ r3, h _ _ r4, h _ _ r5⟩⟩
        have hlt0 : ∀ i, C.st i ≠ .free → ltB l.length i = true := fun i hi => by
          rw [hS.st] at hi
          simpa [ltB] using ofl_lt hi
        have hseq : SeqStopsK (α := { i : Nat // i < es.length }) Fence.wide (5 - 1) Try.prog gfB #[.pointer (some (ad.add 0))] (fun x => #[.int .i64 (x.1 : Int), (six x.1).v])
            (fun W W' => (∀ a v, C.rd a v → W.cell? a = some v) → ∀ a v, C.rd a v → W'.cell? a = some v) (fun xs => xs.map (·.1) = down es.length es.length) (fun pre => ∃ k, k ≤ es.length ∧ pre.map (·.1) = down es.length k) es.length C.w := by
          intro lq J Jx W hW hJ hJx hY h0
          have := back_in 4 lq (ad.add 0) a0 es.length cap six (fun pre W => ∃ pre' : List { i : Nat // i < es.length }, pre'.map (·.1) = pre ∧ J pre' W) (fun pre W => ∃ pre' : List { i : Nat // i < es.length }, pre'.map (·.1) = pre ∧ Jx pre' W)
            (fun W W' => (∀ a v, C.rd a v → W.cell? a = some v) → ∀ a v, C.rd a v → W'.cell? a = some v) (fun W => ∀ a v, C.rd a v → W.cell? a = some v) hReads hlen (fun W W' h h' => h h') (fun pre x W hx hJ' hpl => by
              obtain ⟨pre', rfl, hj⟩ := hJ'
              refine (hY pre' ⟨x, hx⟩ W hj (by simpa using hpl)).mono fun e W' h => ?_
              rcases h with ⟨q1, q2, q3⟩ | ⟨q1, q2⟩
              · exact .inl ⟨q1, ⟨pre' ++ [⟨x, hx⟩], by simp, q2⟩, q3⟩
              · exact .inr ⟨q1, ⟨pre' ++ [⟨x, hx⟩], by simp, q2⟩⟩) W (fun a v h => (World.cell?_of_block (hW.block _ (World.block_lt_of_cell? _ _ h.1))).trans h.1) ⟨[], rfl, h0⟩
          refine this.mono fun e W' h => ?_
          obtain ⟨q1, q2⟩ := h
          refine ⟨q1, ?_⟩
          rcases q2 with ⟨ys, q3, ys', q4, q5⟩ | ⟨pre, ⟨k, q3, q4⟩, pre', q5, q6⟩
          · exact .inl ⟨ys', q4.trans q3, q5⟩
          · exact .inr ⟨pre', ⟨k, q3, q5.trans q4⟩, q6⟩
        have own : ∀ {D : Cf} {W' : World} {row : Option Nat}, Ok D → Ev C D → (∀ i t p, D.st i ≠ .iter t p) → D.w.grownBy W' row → (∀ r, row = some r → C.w.heap.size ≤ r ∧ ∃ o : Obj, D.w.heap[r]? = some o ∧ o.isCells = false) →
            Ok (D.withW W') ∧ Ev C (D.withW W') ∧ ∀ x v, R D x v → R (D.withW W') x v := fun {D W' row} d1 d2 d3 d4 d5 => by
          have hr : ∀ r, row = some r → (∀ i, D.σ i = some r → D.st i = .free) ∧ ∃ o, D.w.heap[r]? = some o ∧ o.isCells = false := fun r e => by
            obtain ⟨_, o, q1, q2⟩ := d5 r e
            exact ⟨nobody d1 d3 q1 q2, o, q1, q2⟩
          obtain ⟨q1, q2, _⟩ := grown_ok d1 d4 hr
          exact ⟨q1, grown_ev d2 d1 d4 hr (fun r e => (d5 r e).1), q2⟩
        have keep : ∀ {D E : Cf}, Ok D → (∀ i t p, D.st i ≠ .iter t p) → Ev D E → KeepsFrom C.w.heap.size D.w E.w := fun d1 d2 d3 => keepsFrom_of d3 fun r o _ q1 q2 => nobody d1 d2 q1 q2
        refine wide_n (n := 5) (ro := none) ?_
        refine wpIn_rangeFunc_ownH (F := Fence.wide) (n := 5) (α := { i : Nat // i < es.length }) rfl (by omega) (gf := gfB) (lb := #[.pointer (some (ad.add 0))]) hgq trivial (fun args w => run_callFunc goB args w) hseq (fun h k q => k (h q)) (fun W lb o o' _ hlb hnc _ h a v hrd => ?hKb) (Below.refl _ _) (fun _ => rfl)
          (fun pre W => ∃ D : Cf, D.w = W ∧ D.st = ofl l ∧ Ok D ∧ Ev C D ∧ ∀ x ∈ pre, G x.1)
          (fun c pre W => c = .ret ∧ ∃ (D : Cf) (l3 : List Ent) (x : { i : Nat // i < es.length }) (pre0 : List { i : Nat // i < es.length }), D.w = W ∧ D.st = ofl l3 ∧ (∀ i t p, ofl l3 i ≠ .iter t p) ∧ Ok D ∧ Ev C D ∧ pre = pre0 ++ [x] ∧ (∀ y ∈ pre0, G y.1) ∧ T x.1 l3)
          ?hI ?hIx ⟨C, rfl, hS.st, hS.ok, Ev.refl C, by simp⟩
          (fun x a' W => ∃ D : Cf, D.w = W ∧ Sim none D ⟨dn N (sA x.1), ofl (lA x.1)⟩ a' ∧ Ev C D) ?hAx ?hassign ?hbody ?hdone ?hstop
        case hKb =>
          have h1 := h a v hrd
          have hb : a.block ≠ lb := fun e => by
            unfold World.cell? at h1
            rw [e, hlb] at h1
            cases o <;> first | (simp at h1; done) | cases hnc
          exact (World.cell?_of_block (by simp [World.putObj, Array.getElem?_setIfInBounds_ne (Ne.symm hb)])).trans h1
        case hI =>
          rintro pre W W' row ⟨D, rfl, d1, d2, d3, d4⟩ hgr hrow
          obtain ⟨q1, q2, _⟩ := own d2 d3 (by rw [d1]; exact hni) hgr hrow
          exact ⟨D.withW W', rfl, d1, q1, q2, d4⟩
        case hIx =>
          rintro c pre W W' row ⟨rfl, D, l3, x, pre0, rfl, d1, d0, d2, d3, d4⟩ hgr hrow
          obtain ⟨q1, q2, _⟩ := own d2 d3 (by rw [d1]; exact d0) hgr hrow
          exact ⟨rfl, D.withW W', l3, x, pre0, rfl, d1, d0, q1, q2, d4⟩
        case hAx =>
          rintro x a' _ W W' row ⟨D, rfl, d1, d2⟩ hgr hrow
          obtain ⟨q1, q2, q3⟩ := own d1.ok d2 (by rw [d1.st]; exact hniA x.1) hgr hrow
          obtain ⟨bs, e1, e2, e3⟩ := d1.defers
          refine ⟨D.withW W', rfl, ⟨d1.st, q1, ⟨bs, e1, e2, fun b hb => ?_⟩, d1.size, fun t ht => q3 _ _ (d1.slot t ht)⟩, q2⟩
          obtain ⟨⟨lo, e4, _⟩, _⟩ := e3 b hb
          cases e4
        case hassign =>
          rintro lp pre x W K' ⟨D, rfl, d1, d2, d3, d4⟩ hK
          have hS0 : Sim none D ⟨dn N s, ofl l⟩ { tmps := a.tmps, defers := [] } := ⟨d1, d2, .nil, hS.size, fun t ht => (hS.slot t ht).mono d3⟩
          have hS1 := hS0.put (d := some p1) (v := .im (.int .i64 (x.1 : Int))) (u := .int .i64 (x.1 : Int)) (Ev.refl D) d2 d1 (.im rfl)
          rw [put_dn] at hS1
          have hS2 := hS1.put (d := some p2) (v := es[x.1]'x.2) (u := (six x.1).v) (Ev.refl D) d2 d1 ((hsR x.1 x.2).mono d3)
          rw [put_dn] at hS2
          have := hassign x.1 x.2 D D _ (some lp) 0 trivial d1 (Ev.refl D) hS2
          have hact : ({ tmps := (#[p1, p2].zip #[Value.int .i64 (x.1 : Int), (six x.1).v]).foldl (fun t (p, v) => t.setIfInBounds p v) a.tmps, defers := [] } : Act) = (({ tmps := a.tmps, defers := [] } : Act).put (some p1) (.int .i64 (x.1 : Int))).put (some p2) (six x.1).v := by simp [Act.put]
          rw [← hact] at this
          refine wide_n (ro := some lp) (wpIn_mono this ?_)
          rintro e a' w' ⟨A', E, ⟨rfl, rfl⟩, hSE, rfl, hEE⟩
          have hst := Cf.keep_st (n := l.length) hSE.st (hlA x.1)
          exact hK a' E.w (keep d2 (by rw [d1]; exact hni) hEE) (fun _ a v h => (hEE.rd a v (d3.rd a v h)).1) ⟨E.only (ltB l.length), rfl, hst, hSE.ok.keep hSE.st (hlA x.1) hbx, (d3.trans hEE).only hlt0, d4⟩ ⟨E, rfl, hSE, d3.trans hEE⟩
        case hbody =>
          rintro lp pre x a' W hlp hrec ⟨D0, hW0, e1, e2, e3, e4⟩ ⟨D, rfl, hSD, hED⟩ hlt
          have := hbody x.1 x.2 D D a' (some lp) 0 trivial hSD.st (Ev.refl D) hSD
          refine wide_n (ro := some lp) (wpIn_mono this ?_)
          rintro e a'' w' ⟨A', E, hq, hSE, rfl, hEE⟩
          have hkf := keep hSD.ok (by rw [hSD.st]; exact hniA x.1) hEE
          rcases hq with ⟨rfl, hG, l2, q1, q2⟩ | ⟨rfl, l2, l3, q1, q2, q3, q4, q5, q6⟩
          · refine ⟨hkf, fun _ a v h => (hEE.rd a v (hED.rd a v h)).1, E.only (ltB l.length), rfl, Cf.keep_st (hSE.st.trans q1) q2, hSE.ok.keep (hSE.st.trans q1) q2 hbx, (hED.trans hEE).only hlt0, fun y hy => ?_⟩
            rcases List.mem_append.1 hy with hy | hy
            · exact e4 y hy
            · rw [List.mem_singleton.1 hy]; exact hG
          · exact ⟨hkf, rfl, E.only (ltB l.length), l3, x, pre, rfl, Cf.keep_st (hSE.st.trans q1) q2, q5, hSE.ok.keep (hSE.st.trans q1) q2 q4, (hED.trans hEE).only hlt0, rfl, e4, q6⟩
        all_goals
          have dfr : ∀ (Db : Nat) (D : Cf), C.w.heap.size ≤ Db → Ok D → Ev C D → (∀ i t p, D.st i ≠ .iter t p) → D.w.heap[Db]? = some (.deferred (some [])) → Dfr (bnd none C0.w) D ({ target := .collected Db, args := #[] } :: a.defers) := fun Db D hlo q1 q2 q3 q4 => by
            obtain ⟨bs, d1, d2, d3⟩ := hS.defers.mono q2
            obtain ⟨bs', d1', d2', d3'⟩ := hS.defers
            refine ⟨Db :: bs, by simp [d1], List.nodup_cons.2 ⟨fun hm => ?_, d2⟩, fun b hb => ?_⟩
            · have hbb : bs = bs' := by
                have := d1.symm.trans d1'
                exact coll_inj this
              obtain ⟨_, k2, _⟩ := d3' Db (hbb ▸ hm)
              have := (Array.getElem?_eq_some_iff.1 k2).1
              omega
            · rcases List.mem_cons.1 hb with rfl | hb
              · exact ⟨⟨_, rfl, Nat.le_trans hE.size hlo⟩, q4, nobody q1 q3 q4 rfl⟩
              · exact d3 b hb
        case hdone =>
          rintro Db xs W hlo hxs ⟨D, rfl, d1, d2, d3, d4⟩ hdef
          refine ⟨_, D, hdone (fun i hi => ?_), ⟨d1, d2, dfr Db D hlo d2 d3 (by rw [d1]; exact hni) hdef, hS.size, fun t ht => (hS.slot t ht).mono d3⟩, rfl, hE.trans d3⟩
          have hm : i ∈ xs.map (·.1) := by rw [hxs]; exact down_mem (Nat.le_refl _) (by omega) hi
          obtain ⟨y, hy, rfl⟩ := List.mem_map.1 hm
          exact d4 y hy
        case hstop =>
          rintro Db c pre W hlo ⟨k, hk, hpre⟩ ⟨rfl, D, l3, x, pre0, rfl, d1, d0, d2, d3, rfl, d4, d5⟩ hdef
          refine wpIn_ret ⟨⟨dn N s, ofl l3⟩, D, hret x.1 x.2 (fun j hj1 hj2 => ?_) l3 d5, ⟨d1, d2, dfr Db D hlo d2 d3 (by rw [d1]; exact d0) hdef, hS.size, fun t ht => (hS.slot t ht).mono d3⟩, rfl, hE.trans d3⟩
          simp only [List.map_append, List.map_cons, List.map_nil] at hpre
          cases k with
          | zero => simp [down] at hpre
          | succ k =>
            rw [down_succ] at hpre
            obtain ⟨e1, e2⟩ := List.append_inj' hpre rfl
            have e2 : x.1 = es.length - 1 - k := by simpa using e2
            have hm : j ∈ pre0.map (·.1) := by rw [e1]; exact down_mem (by omega) (by omega) hj2
            obtain ⟨y, hy, rfl⟩ := List.mem_map.1 hm
            exact d4 y hy
def Ent.isIter : Ent → Bool
  | .iter _ _ => true
  | _ => false
theorem noIter {l : List Ent} (h : (l.all fun e => !e.isIter) = true) : ∀ i t p, ofl l i ≠ .iter t p := by
  intro i t p hi
  have hlt : i < l.length := ofl_lt (by rw [hi]; simp)
  have he : l[i] = .iter t p := by simpa [ofl, List.getD, hlt] using hi
  have := List.all_eq_true.1 h l[i] (List.getElem_mem hlt)
  rw [he] at this
  cases this
end Go.Proofs.Ytfggemopnlffeaa
