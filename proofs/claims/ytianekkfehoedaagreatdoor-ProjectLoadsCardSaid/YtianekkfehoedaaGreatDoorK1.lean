/- Rules more: interface values; functions that leave the memory below as it is. One rule more: a nil slice that lies in a box is given a token. Rules more: is a pointer nil? Rules more: a drawn region whose last operations stand in one order only. UNDER WAY. append of a zero element, whose address is taken and into which a value is stored: as the append of the value. A new box, whose first cell is nil: its type is kept in mind. -/
import Derived.Test.YtianekkfehoedaaGreatDoorHv
import Derived.Below
import Derived.WideLaws
import Derived.Laws.Pointers
namespace Go.Proofs.YtianekkfehoedaaGreatDoor
set_option linter.unusedSimpArgs false
set_option linter.unusedVariables false
set_option linter.unnecessarySimpa false
open Go.RowKit
theorem Ev.below {C : Cf} {w' : World} (h : Below C.w.heap.size C.w w') : Ev C (C.withW w') where
  os := h.os
  tape := h.tape
  output := h.output
  size := h.size
  av := rfl
  rd := fun a v k => ⟨by
    rw [← k.1]
    exact World.cell?_of_block (h.block _ (World.block_lt_of_cell? _ _ k.1)), k.2⟩
  box := fun _ cs h => ⟨rfl, cs, h⟩
  tip := fun i e z n k => ⟨n, k, Nat.le_refl _, fun _ => ⟨rfl, fun g cur hg hc => ⟨cur, (h.block _ (Array.getElem?_eq_some_iff.1 hc).1).trans hc, rfl⟩⟩⟩
  itr := fun _ s p h => ⟨rfl, s, p, h⟩
  keep := fun b hb _ => h.block b hb
  fresh := fun _ _ h h' => .inl ⟨h, h'⟩
  shp := fun _ _ _ bs _ _ _ k => ⟨bs, (h.block _ (Array.getElem?_eq_some_iff.1 k).1).trans k, rfl⟩
theorem Ok.below {C : Cf} {w' : World} (hC : Ok C) (hb : Below C.w.heap.size C.w w') : Ok (C.withW w') where
  box := fun i cs h => by
    obtain ⟨g, bs, t, h1, h2, h3, h4, h5⟩ := hC.box i cs h
    exact ⟨g, bs, t, h1, (hb.block _ (Array.getElem?_eq_some_iff.1 h2).1).trans h2, h3, h4, fun j hj => (h5 j hj).mono (Ev.below hb)⟩
  tip := fun i e z n g h h' => by
    obtain ⟨cur, h1, h2⟩ := hC.tip i e z n g h h'
    exact ⟨cur, (hb.block _ (Array.getElem?_eq_some_iff.1 h1).1).trans h1, h2⟩
  iter := fun i s p h => by
    obtain ⟨g, h1, h2⟩ := hC.iter i s p h
    exact ⟨g, h1, (hb.block _ (Array.getElem?_eq_some_iff.1 h2).1).trans h2⟩
  inj := hC.inj
  avl := fun b o h => Nat.lt_of_lt_of_le (hC.avl b o h) hb.size
  bav := hC.bav
  gl := hC.gl.mono (Ev.below hb)
/-- A function that may make memory, but writes nowhere else. -/
theorem PC.ofBelow {P : Program} {f : FuncId} {xs : List V} {r : V} (hf : goFn P f = true) (h : ∀ (C : Cf) (vs : Array Value), Ok C → vs.size = xs.length → (∀ i (hi : i < xs.length), R C xs[i] (vs.getD i undef)) →
    Calls P f vs C.w fun e w' => ∃ v, e = .returned v ∧ (∀ D : Cf, R D r v) ∧ Below C.w.heap.size C.w w') : PC P f xs r := by
  refine ⟨hf, fun C vs hst hC hsz hR => ?_⟩
  refine (h C vs hC hsz hR).mono ?_
  rintro e w' ⟨v, rfl, hv, hb⟩
  exact ⟨v, _, _, rfl, ⟨rfl, rfl⟩, C.withW w', rfl, hst, hC.below hb, Ev.below hb, hv _⟩
/-- One operation, by its own rule. -/
theorem AR.stepG {P : Program} {N : Nat} {ops : Array Oper} {dr : Bool} {Q : St → Prop} {o : Oper} {os : List Oper} {k : Nat} {s : List (Nat × V)} {l : List Ent} {acc : List (Nat × List Nat × List Nat)} {v : V} (h1 : Step P o (St.ev ⟨dn N s, ofl l⟩) [] ⟨v, []⟩)
    (hn : AR P ops dr Q os (k + 1) ⟨dn N (putA s o.dst v), ofl l⟩ ((k, [], []) :: acc)) (hg : gd ops o ⟨dn N s, ofl l⟩ = some true) : AR P ops dr Q (o :: os) k ⟨dn N s, ofl l⟩ acc := by
  refine .inr (.inl ⟨hg, [], ⟨v, []⟩, h1, fun _ h => (by cases h), ?_⟩)
  rw [← put_dn N s (ofl l)] at hn
  exact hn
/-- The rest of the code is walked once, from each of the states S. -/
theorem AWp.tail {K : Option Nat → Prop} {P : Program} {st0 : Nat → Ent} {Q : Exit → St → Prop} {A : St} {c rest0 : Code} {ι : Type} (S : ι → St) (tail : ∀ i, AWpK K P st0 rest0 Q (S i))
    (walk : ∀ rest, (∀ i, AWpK K P st0 rest Q (S i)) → AWpK K P st0 c (Thn K P st0 rest Q) A) : AWpK K P st0 c (Thn K P st0 rest0 Q) A := walk rest0 tail
end Go.Proofs.YtianekkfehoedaaGreatDoor
namespace Go.Proofs.YtianekkfehoedaaGreatDoor
set_option linter.unusedSimpArgs false
set_option linter.unusedVariables false
set_option linter.unnecessarySimpa false
open Go.RowKit
theorem Kin.not_box {st st' : Nat → Ent} (h : Kin st st') {i : Nat} (hn : ∀ cs, st i ≠ .box cs) : st' i = st i := by
  rcases h i with h1 | ⟨cs, _, h1, _⟩
  · exact h1
  · exact absurd h1 (hn cs)
theorem Kin.free {st st' : Nat → Ent} (h : Kin st st') {i : Nat} (hi : st' i ≠ .free) : st i ≠ .free := by
  rcases h i with h1 | ⟨cs, _, h1, _⟩
  · rwa [← h1]
  · rw [h1]; simp
theorem Ev.wst {C : Cf} {st : Nat → Ent} (h : Kin C.st st) : Ev C (C.wst st) where
  os := rfl
  tape := rfl
  output := rfl
  size := Nat.le_refl _
  av := rfl
  rd := fun a v hr => ⟨hr.1, Cf.wst_fix h hr.2⟩
  box := fun i cs hb => ⟨rfl, by
    rcases h i with h1 | ⟨_, cs', _, h1⟩
    · exact ⟨cs, h1.trans hb⟩
    · exact ⟨cs', h1⟩⟩
  tip := fun i e z n ht => ⟨n, (h.not_box fun cs hc => by rw [ht] at hc; cases hc).trans ht, Nat.le_refl _, fun _ => ⟨rfl, fun _ cur _ hc => ⟨cur, hc, rfl⟩⟩⟩
  itr := fun i s p hb => ⟨rfl, s, p, (h.not_box fun cs hc => by rw [hb] at hc; cases hc).trans hb⟩
  keep := fun _ _ _ => rfl
  fresh := fun i b hi hs => .inl ⟨h.free hi, hs⟩
  shp := fun _ _ _ bs _ _ _ k => ⟨bs, k, rfl⟩
theorem Ok.wst {C : Cf} {st : Nat → Ent} (hC : Ok C) (h : Kin C.st st) (hb : ∀ i cs, st i = .box cs → ∃ g bs t, C.σ i = some g ∧ C.w.heap[g]? = some (.cells bs t (0, 0)) ∧ cs.length ≤ bs.size ∧
    (∀ j, j < cs.length → (bs.getD j undef).oneCell' = true) ∧ ∀ j (hj : j < cs.length), R (C.wst st) cs[j] (bs.getD j undef)) : Ok (C.wst st) where
  box := hb
  tip := fun i e z n g ht hs => hC.tip i e z n g (by
    rcases h i with h1 | ⟨_, cs', _, h1⟩
    · exact h1.symm.trans ht
    · have ht : st i = _ := ht
      rw [h1] at ht; cases ht) hs
  iter := fun i s p ht => hC.iter i s p (by
    rcases h i with h1 | ⟨_, cs', _, h1⟩
    · exact h1.symm.trans ht
    · have ht : st i = _ := ht
      rw [h1] at ht; cases ht)
  inj := fun i j g hi hj => hC.inj i j g (h.free hi) (h.free hj)
  avl := hC.avl
  bav := fun i cs g o hc hs => by
    rcases h i with h1 | ⟨cs0, _, h0, _⟩
    · exact hC.bav i cs g o (h1.symm.trans hc) hs
    · exact hC.bav i cs0 g o h0 hs
  gl := hC.gl.mono (Ev.wst h)
end Go.Proofs.YtianekkfehoedaaGreatDoor
namespace Go.Proofs.YtianekkfehoedaaGreatDoor
set_option linter.unusedSimpArgs false
set_option linter.unusedVariables false
set_option linter.unnecessarySimpa false
open Go.RowKit
/-- Is it a type of pointers? -/
def ptT (P : Program) (t : TypeId) : Bool := match P.underlying t with
  | some (.pointer _) => true
  | _ => false
theorem pt_eq {P : Program} {t : TypeId} (ht : ptT P t = true) : P.underlying t = some (.pointer (P.pointee t)) := by
  unfold ptT at ht
  cases hu : P.underlying t with
  | none => rw [hu] at ht; cases ht
  | some d =>
    rw [hu] at ht
    cases d <;> simp at ht
    simp [Program.pointee, hu]
theorem run_eqP {P : Program} {op : BinOp} {t : TypeId} (ht : ptT P t = true) (hop : op = .eql ∨ op = .neq) (p : Option Addr) (x : Operand) (w : World) :
    (eqGuard op t x (.const (.pointer none)) (.pointer p) (.pointer none)).run P w = .ok () w ∧ (binOp op t (.pointer p) (.pointer none)).run P w = .ok (.bool (if op = .eql then p.isNone else !p.isNone)) w := by
  have h := run_equal_pointer_nil (w := w) t p (pt_eq ht)
  rcases hop with rfl | rfl
  · exact ⟨by simp [eqGuard], by simp [binOp, h]⟩
  · exact ⟨by simp [eqGuard], by simp [binOp, h]⟩
theorem step_eqP {P : Program} {o : Oper} {ev : Operand → V} {op : BinOp} {t u : TypeId} {x : Operand} {b : Bool} (ho : o.op = .binOp op t x (.const (.pointer none)) u) (ht : ptT P t = true) (hop : op = .eql ∨ op = .neq) (hy : ev (.const (.pointer none)) = .im (.pointer none))
    (hx : (∃ y off, ev x = .ep y off ∧ b = false) ∨ (∃ i off, ev x = .pt i off ∧ b = false) ∨ (ev x = .im (.pointer none) ∧ b = true)) : Step P o ev [] ⟨.im (.bool (if op = .eql then b else !b)), []⟩ :=
  Step.look fun C ρ _ hR _ => by
    have h1 := hR x (by simp [ho, Op.operands])
    have h2 := hR (.const (.pointer none)) (by simp [ho, Op.operands])
    rw [hy] at h2
    have e2 : ρ (.const (.pointer none)) = .pointer none := h2.im_eq
    obtain ⟨p, ha, hb⟩ : ∃ p, ρ x = .pointer p ∧ p.isNone = b := by
      rcases hx with ⟨y, off, hx, rfl⟩ | ⟨i, off, hx, rfl⟩ | ⟨hx, rfl⟩
      · rw [hx] at h1
        generalize ρ x = z at h1
        cases h1
        exact ⟨_, rfl, rfl⟩
      · rw [hx] at h1
        generalize ρ x = z at h1
        cases h1
        exact ⟨_, rfl, rfl⟩
      · rw [hx] at h1; exact ⟨none, h1.im_eq, rfl⟩
    obtain ⟨h3, h4⟩ := run_eqP ht hop p x C.w
    rw [hb] at h4
    refine ⟨.bool (if op = .eql then b else !b), ?_, .im rfl⟩
    simp only [execOp, ho, e2, ha, Sem.run_bind, h3, Result.andThen_ok, h4, Sem.run_pure]
theorem AR.eqP {P : Program} {N : Nat} {ops : Array Oper} {dr : Bool} {Q : St → Prop} {d : Option Tmp} {op : BinOp} {t u : TypeId} {x : Operand} {ty : TypeId} {pos : String} {af : Array Edge} {g : Option (Nat × Bool)} {os : List Oper} {k : Nat} {s : List (Nat × V)} {l : List Ent} {acc : List (Nat × List Nat × List Nat)} {y : V} (b : Bool) {e : Bool}
    (hn : AR P ops dr Q os (k + 1) ⟨dn N (putA s d (.im (.bool e))), ofl l⟩ ((k, [], []) :: acc)) (ht : ptT P t = true := by kernel_rfl) (hop : op = .eql ∨ op = .neq := by first | exact .inl rfl | exact .inr rfl) (hx : St.ev ⟨dn N s, ofl l⟩ x = y := by rfl)
    (hy : (∃ z off, y = .ep z off ∧ b = false) ∨ (∃ i off, y = .pt i off ∧ b = false) ∨ (y = .im (.pointer none) ∧ b = true) := by first | exact .inl ⟨_, _, rfl, rfl⟩ | exact .inr (.inl ⟨_, _, rfl, rfl⟩) | exact .inr (.inr ⟨rfl, rfl⟩)) (he : (if op = .eql then b else !b) = e := by rfl)
    (hg : gd ops ⟨d, .binOp op t x (.const (.pointer none)) u, ty, pos, af, g⟩ ⟨dn N s, ofl l⟩ = some true := by rfl) :
    AR P ops dr Q (⟨d, .binOp op t x (.const (.pointer none)) u, ty, pos, af, g⟩ :: os) k ⟨dn N s, ofl l⟩ acc := by
  subst hx he
  exact AR.stepG (step_eqP rfl ht hop rfl hy) hn hg
end Go.Proofs.YtianekkfehoedaaGreatDoor
namespace Go.Proofs.YtianekkfehoedaaGreatDoor
set_option linter.unusedSimpArgs false
set_option linter.unusedVariables false
set_option linter.unnecessarySimpa false
open Go.RowKit
theorem Run.anyT {P : Program} {ops : Array Oper} {B : Option Nat} {ro : Option Nat} {m : Nat} {b : Array Nat} {Q : Exit → Act → World → Prop} {F : St} (hb : closedB ops b = true) {k0 r : Nat} {T : Array Bool} (hk : ∀ i, k0 ≤ i → i < ops.size → ∀ p, p < k0 → (b.getD i 0).testBit p = true) (hT : ∀ l : Array Bool, l.size = ops.size → (∀ i, i < ops.size → (l.getD i true = false ↔ k0 ≤ i)) → l = T) : ∀ (n : Nat) (L : List Itm) (A : St) (C : Cf) (a : Act) (listed : Array Bool), L.length = n → Run P ops A L F →
    L.Pairwise (fun x y => indepK ops x.key y.key = true ∨ (b.getD y.i 0).testBit x.i = true) → (L.map Itm.i).Pairwise (· < ·) → listed.size = ops.size →
    (∀ i ∈ L.map Itm.i, i < k0) → (∀ i, i < ops.size → (listed.getD i true = false ↔ i ∈ L.map Itm.i ∨ k0 ≤ i)) →
    (∀ i o, ops[i]? = some o → listed.getD i false = true → ∀ e ∈ o.after, Region.binds .any e = true → listed.getD e.on false = true) →
    Sim B C A a → (∀ D a', Sim B D F a' → Ev C D → wpAnyIn (FR ro) m P .any ops Q r T a' D.w) → wpAnyIn (FR ro) m P .any ops Q (n + r) listed a C.w := by
  intro n
  induction n with
  | zero =>
    intro L A C a listed hn hr _ _ hsz _ hl _ hS hQ
    obtain rfl := List.eq_nil_of_length_eq_zero hn
    cases hr
    obtain rfl := hT listed hsz (fun i hi => by simpa using hl i hi)
    rw [Nat.zero_add]
    exact hQ C a hS (Ev.refl C)
  | succ n ih =>
    intro L A C a listed hn hr hp hs hsz hlo hl hd hS hQ
    rw [show n + 1 + r = (n + r) + 1 by omega]
    have hsw : ∀ {j : Nat} {x y : Bool}, j < ops.size → listed.getD j x = listed.getD j y := fun {j x y} hj => by simp [hsz, hj]
    refine ⟨fun he => ?_, fun i hi => ?_⟩
    · exfalso
      cases hL : L with
      | nil => rw [hL] at hn; cases hn
      | cons t L' =>
        subst hL
        have hv : Valid P ops A t := by cases hr with | cons hv _ => exact hv
        obtain ⟨o, ho⟩ := hv.oper
        have hlt := (Array.getElem?_eq_some_iff.1 ho).1
        have : t.i ∈ Region.ready .any ops listed := by
          refine mem_ready.2 ⟨(hl t.i hlt).2 (.inl (by simp)), o, ho, fun e hem hbd => ?_⟩
          have hlow := closedB_low hb ho e hem hbd
          have h1 : ¬ listed.getD e.on true = false := fun hf => by
            have := (hl e.on (by omega)).1 hf
            simp only [List.map_cons, List.mem_cons] at this
            have hlw := hlo t.i (by simp)
            rcases this with (h2 | h2) | h2
            · omega
            · have := (List.pairwise_cons.1 hs).1 _ h2
              omega
            · omega
          rw [hsw (y := true) (by omega)]
          simpa using h1
        rw [he] at this
        cases this
    · obtain ⟨h0, o, ho, hall⟩ := mem_ready.1 hi
      have hlt := (Array.getElem?_eq_some_iff.1 ho).1
      have hmem : i ∈ L.map Itm.i := by
        rcases (hl i hlt).1 h0 with h | h
        · exact h
        · exfalso
          cases L with
          | nil => cases hn
          | cons t L' =>
            have hv : Valid P ops A t := by cases hr with | cons hv _ => exact hv
            obtain ⟨ot, hot⟩ := hv.oper
            have hts := (Array.getElem?_eq_some_iff.1 hot).1
            have h2 := listed_before hb hd (p := t.i) hts (i + 1) i o (by omega) ho hall (hk i h hlt t.i (hlo t.i (by simp)))
            have h3 := (hl t.i hts).2 (.inl (by simp))
            rw [hsw (y := false) hts, h2] at h3
            cases h3
      obtain ⟨t, ht, rfl⟩ := List.mem_map.1 hmem
      obtain ⟨L1, L2, rfl⟩ := List.append_of_mem ht
      have hpend : ∀ p ∈ L1, indepK ops p.key t.key = true := fun p hpm => by
        have h1 := (List.pairwise_append.1 hp).2.2 p hpm t (List.mem_cons_self ..)
        rcases h1 with h1 | h1
        · exact h1
        · exfalso
          have hpl : p.i < t.i := by
            have := (List.pairwise_append.1 (by simpa using hs : (L1.map Itm.i ++ t.i :: L2.map Itm.i).Pairwise (· < ·))).2.2 p.i (List.mem_map_of_mem hpm) t.i (List.mem_cons_self ..)
            exact this
          have h2 := listed_before hb hd (p := p.i) (by omega) (t.i + 1) t.i o (by omega) ho hall h1
          have h3 := (hl p.i (by omega)).2 (by simp only [List.map_append, List.mem_append]; exact .inl (.inl (List.mem_map_of_mem hpm)))
          rw [hsw (y := false) (by omega), h2] at h3
          cases h3
      obtain ⟨hv, hr'⟩ := Run.first L1 A hpend hr
      have hlen : (L1 ++ L2).length = n := by simp at hn ⊢; omega
      have hs' : ((L1 ++ L2).map Itm.i).Pairwise (· < ·) := by
        refine hs.sublist (List.Sublist.map _ ?_)
        exact List.Sublist.append (List.Sublist.refl _) (List.sublist_cons_self _ _)
      have hp' := hp.sublist (List.Sublist.append (List.Sublist.refl L1) (List.sublist_cons_self t L2))
      have hnot : t.i ∉ (L1 ++ L2).map Itm.i := by
        have h1 : (L1.map Itm.i ++ t.i :: L2.map Itm.i).Pairwise (· < ·) := by simpa using hs
        simp only [List.map_append, List.mem_append, not_or]
        refine ⟨fun hm => ?_, fun hm => ?_⟩
        · have := (List.pairwise_append.1 h1).2.2 t.i hm t.i (List.mem_cons_self ..)
          omega
        · have := (List.pairwise_cons.1 (List.pairwise_append.1 h1).2.1).1 t.i hm
          omega
      have key : ∀ D a', Sim B D (A.appI ops t) a' → Ev C D → wpAnyIn (FR ro) m P .any ops Q (n + r) (listed.setIfInBounds t.i true) a' D.w := fun D a' hS' hE => by
        refine ih (L1 ++ L2) (A.appI ops t) D a' _ hlen hr' hp' hs' (by simpa using hsz) (fun i hi => hlo i (by simp only [List.map_append, List.map_cons, List.mem_append, List.mem_cons] at hi ⊢; rcases hi with h | h <;> simp [h])) (fun j hj => ?_) (fun j q hq hlj e hem hbd => ?_) hS' (fun E a'' hS'' hE' => hQ E a'' hS'' (hE.trans hE'))
        · by_cases hjt : t.i = j
          · subst hjt
            have : t.i < listed.size := by omega
            simp only [Array.getD_eq_getD_getElem?, Array.getElem?_setIfInBounds_self_of_lt this, Option.getD_some]
            simp only [Bool.true_eq_false, false_iff]
            have hlt' := hlo t.i (by simp)
            exact fun h => h.elim hnot (fun h => by omega)
          · rw [getD_set_ne true hjt, hl j hj]
            simp only [List.map_append, List.map_cons, List.mem_append, List.mem_cons]
            constructor
            · rintro ((h1 | h1 | h1) | h1)
              · exact .inl (.inl h1)
              · exact absurd h1.symm hjt
              · exact .inl (.inr h1)
              · exact .inr h1
            · rintro ((h1 | h1) | h1)
              · exact .inl (.inl h1)
              · exact .inl (.inr (.inr h1))
              · exact .inr h1
        · by_cases hjt : t.i = j
          · subst hjt
            rw [ho] at hq
            cases hq
            exact getD_set_true (hall e hem hbd)
          · rw [getD_set_ne false hjt] at hlj
            exact getD_set_true (hd j q hq hlj e hem hbd)
      obtain ⟨o', ho', hcase⟩ := hv
      obtain rfl : o = o' := Option.some.inj (ho.symm.trans ho')
      have he : A.appI ops t = A.app o.dst t.d := by simp [St.appI, ho]
      rw [he] at key
      rcases hcase with ⟨h1, h2, h3⟩ | ⟨h1, h2, h3⟩
      · exact h2.sound h3 ho h1 hS key
      · obtain ⟨ti, tfp, tv, twr⟩ := t
        obtain rfl : twr = [] := h2
        exact skip_sound h3 ho h1 hS key
theorem AR.runT {P : Program} {ops : Array Oper} {dr : Bool} {Q : St → Prop} : ∀ (l : List Oper) (k : Nat) (A : St) (acc : List (Nat × List Nat × List Nat)), (∀ j, j < l.length → l[j]? = ops[k + j]?) → AR P ops dr Q l k A acc →
    ∃ L F, Run P ops A L F ∧ L.map Itm.i = List.range' k l.length ∧ (dr = true → chkR ops (acc.reverse ++ L.map Itm.key) = true) ∧ Q F := by
  intro l
  induction l with
  | nil =>
    intro k A acc _ h
    exact ⟨[], A, .nil, rfl, by simpa using h.1, h.2⟩
  | cons o l ih =>
    intro k A acc hl h
    have h0 : ops[k]? = some o := by simpa using (hl 0 (by simp)).symm
    have hl' : ∀ j, j < l.length → l[j]? = ops[k + 1 + j]? := fun j hj => by have := hl (j + 1) (by simpa using hj); simpa [Nat.add_assoc, Nat.add_comm 1 j] using this
    rcases h with ⟨h1, h2⟩ | ⟨h1, fp, d, h2, h3, h4⟩ | ⟨g, h1, fp, v, h2, h4⟩
    · obtain ⟨L, F, k1, k2, k3, k4⟩ := ih (k + 1) _ _ hl' h2
      refine ⟨⟨k, [], ⟨.dead, []⟩⟩ :: L, F, .cons ⟨o, h0, .inr ⟨h1, rfl, fun _ => .dead⟩⟩ (by simpa [St.appI, h0] using k1), by simp [k2, List.range'_succ], fun hd => ?_, k4⟩
      have := k3 hd
      simpa [Itm.key] using this
    · obtain ⟨L, F, k1, k2, k3, k4⟩ := ih (k + 1) _ _ hl' h4
      refine ⟨⟨k, fp, d⟩ :: L, F, .cons ⟨o, h0, .inl ⟨h1, h2, h3⟩⟩ (by simpa [St.appI, h0] using k1), by simp [k2, List.range'_succ], fun hd => ?_, k4⟩
      have := k3 hd
      simpa [Itm.key] using this
    · obtain ⟨L, F, k1, k2, k3, k4⟩ := ih (k + 1) _ _ hl' h4
      have hv : Valid P ops A ⟨k, fp, ⟨gw g v, []⟩⟩ := by
        refine ⟨o, h0, ?_⟩
        cases g with
        | true => exact .inl ⟨h1, (h2 rfl).1, (h2 rfl).2⟩
        | false => exact .inr ⟨h1, rfl, fun C => .gi (fun h => by cases h) fun _ => rfl⟩
      refine ⟨⟨k, fp, ⟨gw g v, []⟩⟩ :: L, F, .cons hv (by simpa [St.appI, h0] using k1), by simp [k2, List.range'_succ], fun hd => ?_, k4⟩
      have := k3 hd
      simpa [Itm.key] using this
/-- What is first comes before all else. -/
def headK (ops : Array Oper) (k : Nat) : Bool :=
  let b := Region.before ops
  (List.range ops.size).all fun i => decide (i < k) || (List.range k).all fun p => (b.getD i 0).testBit p
def headT (ops : Array Oper) (k : Nat) : Array Bool := ops.mapIdx fun i _ => decide (i < k)
theorem AR.drawnH {B : Option Nat} {ro : Option Nat} {m : Nat} {P : Program} {id : Nat} {l1 l2 : List Oper} {Q : Exit → Act → World → Prop} {QA : St → Prop} {A : St} {C : Cf} {a : Act} (hm : P.follows .mixedOrders = true) (h : AR P (l1 ++ l2).toArray true QA l1 0 A []) (hk : headK (l1 ++ l2).toArray l1.length = true) (hS : Sim B C A a)
    (hQ : ∀ F D a', QA F → Sim B D F a' → Ev C D → wpAnyIn (FR ro) m P .any (l1 ++ l2).toArray Q l2.length (headT (l1 ++ l2).toArray l1.length) a' D.w) : (Code.region id (l1 ++ l2).toArray true).wpIn (FR ro) m P Q a C.w := by
  obtain ⟨L, F, h1, h2, h4, h3⟩ := AR.runT l1 0 A [] (fun j hj => by simp [List.getElem?_append_left hj]) h
  have h5 := h4 rfl
  simp only [List.reverse_nil, List.nil_append, chkR, Bool.and_eq_true] at h5
  refine wpIn_region_any hm ?_
  have hE : Ev C (C.withW { C.w with drawn := C.w.drawn + 1 }) := Ev.withW rfl rfl rfl rfl
  have hS' := hS.mono hE (hS.ok.withW rfl rfl rfl rfl) rfl
  have hsz : (l1 ++ l2).toArray.size = l1.length + l2.length := by simp
  have hlen : L.length = l1.length := by simpa using congrArg List.length h2
  have hb : ∀ i, l1.length ≤ i → i < (l1 ++ l2).toArray.size → ∀ p, p < l1.length → ((Region.before (l1 ++ l2).toArray).getD i 0).testBit p = true := fun i h1 h2 p hp => by
    have := List.all_eq_true.1 hk i (List.mem_range.2 h2)
    simp only [Bool.or_eq_true, decide_eq_true_eq, List.all_eq_true] at this
    rcases this with h | h
    · omega
    · exact h p (List.mem_range.2 hp)
  have hTs : (headT (l1 ++ l2).toArray l1.length).size = (l1 ++ l2).toArray.size := by simp [headT]
  have hTg : ∀ i, i < (l1 ++ l2).toArray.size → ((headT (l1 ++ l2).toArray l1.length).getD i true = false ↔ l1.length ≤ i) := fun i hi => by
    rw [Array.getD_eq_getD_getElem?]
    unfold headT
    rw [Array.getElem?_mapIdx, Array.getElem?_eq_getElem hi]
    simp
  have hT : ∀ l : Array Bool, l.size = (l1 ++ l2).toArray.size → (∀ i, i < (l1 ++ l2).toArray.size → (l.getD i true = false ↔ l1.length ≤ i)) → l = headT (l1 ++ l2).toArray l1.length := fun l hl1 hl2 => by
    refine Array.ext (hl1.trans hTs.symm) fun i hi hi' => ?_
    have a1 := hl2 i (by omega)
    have a2 := hTg i (by omega)
    rw [← a2] at a1
    simp only [Array.getD_eq_getD_getElem?, Array.getElem?_eq_getElem hi, Array.getElem?_eq_getElem hi', Option.getD_some] at a1
    cases h1 : l[i] <;> cases h2 : (headT (l1 ++ l2).toArray l1.length)[i] <;> simp_all
  have := Run.anyT (r := l2.length) (k0 := l1.length) (T := headT (l1 ++ l2).toArray l1.length) (ro := ro) (m := m) (Q := Q) h5.1 (fun i h1 h2 p hp => hb i h1 h2 p hp) hT L.length L A _ a (Array.replicate (l1 ++ l2).toArray.size false) rfl h1 (pairsK_spec L h5.2) (by rw [h2]; exact List.pairwise_lt_range') (by simp)
    (fun i hi => by rw [h2] at hi; simp at hi; omega) (fun i hi => ?_) (fun i o ho hl => ?_) hS'
    (fun D a' hS' hE' => hQ F D a' h3 hS' (hE.trans hE'))
  · rw [hlen, ← hsz] at this
    exact this
  · have h6 : i < l1.length + l2.length := by rw [← hsz]; exact hi
    have h7 : (Array.replicate (l1 ++ l2).toArray.size false).getD i true = false := by rw [Array.getD_eq_getD_getElem?, Array.getElem?_replicate, if_pos hi]; rfl
    rw [h2, h7, List.mem_range']
    refine ⟨fun _ => ?_, fun _ => rfl⟩
    by_cases hh : i < l1.length
    · exact .inl ⟨i, hh, by omega⟩
    · exact .inr (by omega)
  · have := (Array.getElem?_eq_some_iff.1 ho).1
    rw [Array.getD_eq_getD_getElem?, Array.getElem?_replicate] at hl
    split at hl <;> cases hl
/-- One operation, as the machine does it. -/
theorem raw_op {P : Program} {o : Oper} {ops : Array Oper} {Q : Exit → Act → World → Prop} {i : Nat} {a : Act} {w w' : World} {v : Value} {K : Act → World → Prop} {ro : Option Nat} {n : Nat} (hi : ops[i]? = some o) (hg : o.guard = none) (hnd : ∀ c, o.op ≠ .defer c)
    (h : (execOp a.eval o).run P w = .ok (.value v) w') (hK : K (a.put o.dst v) w') : wpOpIn (FR ro) n P ops Q i K a w := by
  unfold wpOpIn
  have hw : Region.wanted o (yielded ops a.tmps) = true := by simp [Region.wanted, hg]
  simp only [hi, hw, if_true]
  refine ⟨fun _ _ => trivial, ?_⟩
  rw [Oper.semAt_eq _ _ _ hnd, h]
  exact hK
end Go.Proofs.YtianekkfehoedaaGreatDoor
namespace Go.Proofs.YtianekkfehoedaaGreatDoor
set_option linter.unusedSimpArgs false
set_option linter.unusedVariables false
set_option linter.unnecessarySimpa false
open Go.RowKit
theorem Act.eval_put_same {a : Act} {d : Nat} {v : Value} (h : d < a.tmps.size) : (a.put (some d) v).eval (.tmp d) = v := by
  simp [Act.put, Act.eval, h]
theorem Act.eval_put_ne {a : Act} {d : Nat} {v : Value} {x : Operand} (h : x ≠ .tmp d) : (a.put (some d) v).eval x = a.eval x := by
  cases x with
  | tmp t =>
    have : d ≠ t := fun e => h (by rw [e])
    simp [Act.put, Act.eval, this]
  | _ => rfl
theorem Region.one {P : Program} {F : Fence} {m n i : Nat} {ops : Array Oper} {Q : Exit → Act → World → Prop} {T : Array Bool} {a : Act} {w : World} (h : Region.ready .any ops T = [i]) (h1 : wpOpIn F m P ops Q i (wpAnyIn F m P .any ops Q n (T.setIfInBounds i true)) a w) : wpAnyIn F m P .any ops Q (n + 1) T a w :=
  ⟨fun he => (by rw [h] at he; cases he), fun j hj => (by
    rw [h] at hj
    obtain rfl := List.mem_singleton.1 hj
    exact h1)⟩
theorem Region.none {P : Program} {F : Fence} {m : Nat} {ops : Array Oper} {Q : Exit → Act → World → Prop} {T : Array Bool} {a : Act} {w : World} (h : Region.ready .any ops T = []) (h1 : Q .normal a w) : wpAnyIn F m P .any ops Q 0 T a w := ⟨h, h1⟩
end Go.Proofs.YtianekkfehoedaaGreatDoor
namespace Go.Proofs.YtianekkfehoedaaGreatDoor
set_option linter.unusedSimpArgs false
set_option linter.unusedVariables false
set_option linter.unnecessarySimpa false
open Go.RowKit
end Go.Proofs.YtianekkfehoedaaGreatDoor
