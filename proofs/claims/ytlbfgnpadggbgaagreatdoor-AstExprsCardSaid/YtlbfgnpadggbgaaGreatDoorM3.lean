/- Rules more: interface values; functions that leave the memory below as it is. One rule more: a nil slice that lies in a box is given a token. Rules more: is a pointer nil? Rules more: a drawn region whose last operations stand in one order only. UNDER WAY. append of a zero element, whose address is taken and into which a value is stored: as the append of the value. -/
import Derived.Test.YtlbfgnpadggbgaaGreatDoorHv
import Derived.Below
import Derived.WideLaws
import Derived.Laws.Pointers
namespace Go.Proofs.YtlbfgnpadggbgaaGreatDoor
set_option linter.unusedSimpArgs false
set_option linter.unusedVariables false
set_option linter.unnecessarySimpa false
open Go.RowKit
theorem V.live_ifc : V.ifc.live = true := rfl
theorem V.isAg_ifc : V.ifc.isAg = false := rfl
theorem V.cells_ifc : V.ifc.cells = [V.ifc] := rfl
theorem V.size_ifc : V.ifc.size = 1 := rfl
theorem V.firm_ifc : V.ifc.firm = true := rfl
theorem strip_ifc (g : Bool) : strip g V.ifc = V.ifc := rfl
theorem ren_ifc (g : Nat → Nat) : V.ren g .ifc = .ifc := by rw [V.ren]
theorem IFC : type_of% (And.intro V.live_ifc (And.intro V.isAg_ifc (And.intro V.cells_ifc (And.intro V.size_ifc (And.intro V.firm_ifc @strip_ifc))))) := And.intro V.live_ifc (And.intro V.isAg_ifc (And.intro V.cells_ifc (And.intro V.size_ifc (And.intro V.firm_ifc @strip_ifc))))

theorem Ev.below {C : Cf} {w' : World} (h : Below C.w.heap.size C.w w') : Ev C (C.withW w') where
  os := h.os
  tape := h.tape
  output := h.output
  size := h.size
  av := rfl
  rd := fun a v k => ⟨by
    rw [← k.1]
    exact World.cell?_of_block (h.block _ (World.block_lt_of_cell? _ _ k.1)), k.2⟩
  box := fun _ cs h => ⟨rfl, cs, h⟩
  tip := fun i e z n k => ⟨n, k, Nat.le_refl _, fun _ => ⟨rfl, fun g cur hg hc => ⟨cur, (h.block _ (Array.getElem?_eq_some_iff.1 hc).1).trans hc, rfl⟩⟩⟩
  itr := fun _ s p h => ⟨rfl, s, p, h⟩
  keep := fun b hb _ => h.block b hb
  fresh := fun _ _ h h' => .inl ⟨h, h'⟩
  shp := fun _ _ _ bs _ _ _ k => ⟨bs, (h.block _ (Array.getElem?_eq_some_iff.1 k).1).trans k, rfl⟩
theorem Ok.below {C : Cf} {w' : World} (hC : Ok C) (hb : Below C.w.heap.size C.w w') : Ok (C.withW w') where
  box := fun i cs h => by
    obtain ⟨g, bs, t, h1, h2, h3, h4, h5⟩ := hC.box i cs h
    exact ⟨g, bs, t, h1, (hb.block _ (Array.getElem?_eq_some_iff.1 h2).1).trans h2, h3, h4, fun j hj => (h5 j hj).mono (Ev.below hb)⟩
  tip := fun i e z n g h h' => by
    obtain ⟨cur, h1, h2⟩ := hC.tip i e z n g h h'
    exact ⟨cur, (hb.block _ (Array.getElem?_eq_some_iff.1 h1).1).trans h1, h2⟩
  iter := fun i s p h => by
    obtain ⟨g, h1, h2⟩ := hC.iter i s p h
    exact ⟨g, h1, (hb.block _ (Array.getElem?_eq_some_iff.1 h2).1).trans h2⟩
  inj := hC.inj
  avl := fun b o h => Nat.lt_of_lt_of_le (hC.avl b o h) hb.size
  bav := hC.bav
  gl := hC.gl.mono (Ev.below hb)
/-- A function that may make memory, but writes nowhere else. -/
theorem PC.ofBelow {P : Program} {f : FuncId} {xs : List V} {r : V} (hf : goFn P f = true) (h : ∀ (C : Cf) (vs : Array Value), Ok C → vs.size = xs.length → (∀ i (hi : i < xs.length), R C xs[i] (vs.getD i undef)) →
    Calls P f vs C.w fun e w' => ∃ v, e = .returned v ∧ (∀ D : Cf, R D r v) ∧ Below C.w.heap.size C.w w') : PC P f xs r := by
  refine ⟨hf, fun C vs hst hC hsz hR => ?_⟩
  refine (h C vs hC hsz hR).mono ?_
  rintro e w' ⟨v, rfl, hv, hb⟩
  exact ⟨v, _, _, rfl, ⟨rfl, rfl⟩, C.withW w', rfl, hst, hC.below hb, Ev.below hb, hv _⟩

def ifT (P : Program) (t : TypeId) : Option Bool := (P.underlying t).map fun d => match d with | .interface _ => true | _ => false
theorem step_mkI {P : Program} {o : Oper} {ev : Operand → V} {t : TypeId} {x : Operand} {v : Value} (ho : o.op = .makeInterface t x) (ht : ifT P t = some false) (hx : ev x = .im v) : Step P o ev [] ⟨.im (.iface t v), []⟩ :=
  Step.look fun C ρ _ hR _ => by
    have h1 := hR x (by simp [ho, Op.operands])
    rw [hx] at h1
    have e1 : ρ x = v := h1.im_eq
    refine ⟨.iface t v, ?_, .im rfl⟩
    unfold ifT at ht
    cases hu : P.underlying t with
    | none => rw [hu] at ht; cases ht
    | some d =>
      rw [hu] at ht
      simp only [execOp, ho, e1, Instr.makeInterface, run_underlying hu, Sem.run_bind, Result.andThen_ok]
      cases d <;> first | rfl | (simp at ht)
theorem if_eq {P : Program} {t : TypeId} (ht : ifT P t = some true) : P.underlying t = some (.interface (P.methodsAt t)) := by
  unfold ifT at ht
  cases hu : P.underlying t with
  | none => rw [hu] at ht; cases ht
  | some d =>
    rw [hu] at ht
    cases d <;> simp at ht
    simp [Program.methodsAt, hu]
theorem run_eqI {P : Program} {op : BinOp} {t : TypeId} (ht : ifT P t = some true) (hop : op = .eql ∨ op = .neq) {a : Value} {b : Bool} (ha : (∃ u v, a = .iface u v ∧ b = false) ∨ (a = .nilIface ∧ b = true)) (x : Operand) (w : World) :
    (eqGuard op t x (.const .nilIface) a .nilIface).run P w = .ok () w ∧ (binOp op t a .nilIface).run P w = .ok (.bool (if op = .eql then b else !b)) w := by
  have hu := if_eq ht
  rcases ha with ⟨u, v, rfl, rfl⟩ | ⟨rfl, rfl⟩
  · have h := run_equal_held_nil (w := w) t u v hu
    rcases hop with rfl | rfl
    · exact ⟨by simp [eqGuard], by simp [binOp, h]⟩
    · exact ⟨by simp [eqGuard], by simp [binOp, h]⟩
  · have h := run_equal_nil_nil (w := w) t hu
    rcases hop with rfl | rfl
    · exact ⟨by simp [eqGuard], by simp [binOp, h]⟩
    · exact ⟨by simp [eqGuard], by simp [binOp, h]⟩
theorem step_eqI {P : Program} {o : Oper} {ev : Operand → V} {op : BinOp} {t u : TypeId} {x : Operand} {b : Bool} (ho : o.op = .binOp op t x (.const .nilIface) u) (ht : ifT P t = some true) (hop : op = .eql ∨ op = .neq) (hy : ev (.const .nilIface) = .im .nilIface)
    (hx : (∃ a v, ev x = .im (.iface a v) ∧ b = false) ∨ (ev x = .ifc ∧ b = false) ∨ (ev x = .im .nilIface ∧ b = true)) : Step P o ev [] ⟨.im (.bool (if op = .eql then b else !b)), []⟩ :=
  Step.look fun C ρ _ hR _ => by
    have h1 := hR x (by simp [ho, Op.operands])
    have h2 := hR (.const .nilIface) (by simp [ho, Op.operands])
    rw [hy] at h2
    have e2 : ρ (.const .nilIface) = .nilIface := h2.im_eq
    have ha : (∃ u v, ρ x = .iface u v ∧ b = false) ∨ (ρ x = .nilIface ∧ b = true) := by
      rcases hx with ⟨a, v, hx, hb⟩ | ⟨hx, hb⟩ | ⟨hx, hb⟩
      · rw [hx] at h1; exact .inl ⟨a, v, h1.im_eq, hb⟩
      · rw [hx] at h1
        generalize ρ x = z at h1
        cases h1
        exact .inl ⟨_, _, rfl, hb⟩
      · rw [hx] at h1; exact .inr ⟨h1.im_eq, hb⟩
    obtain ⟨h3, h4⟩ := run_eqI ht hop ha x C.w
    refine ⟨.bool (if op = .eql then b else !b), ?_, .im rfl⟩
    simp only [execOp, ho, e2, Sem.run_bind, h3, Result.andThen_ok, h4, Sem.run_pure]
/-- One operation, by its own rule. -/
theorem AR.stepG {P : Program} {N : Nat} {ops : Array Oper} {dr : Bool} {Q : St → Prop} {o : Oper} {os : List Oper} {k : Nat} {s : List (Nat × V)} {l : List Ent} {acc : List (Nat × List Nat × List Nat)} {v : V} (h1 : Step P o (St.ev ⟨dn N s, ofl l⟩) [] ⟨v, []⟩)
    (hn : AR P ops dr Q os (k + 1) ⟨dn N (putA s o.dst v), ofl l⟩ ((k, [], []) :: acc)) (hg : gd ops o ⟨dn N s, ofl l⟩ = some true) : AR P ops dr Q (o :: os) k ⟨dn N s, ofl l⟩ acc := by
  refine .inr (.inl ⟨hg, [], ⟨v, []⟩, h1, fun _ h => (by cases h), ?_⟩)
  rw [← put_dn N s (ofl l)] at hn
  exact hn
theorem AR.mkI {P : Program} {N : Nat} {ops : Array Oper} {dr : Bool} {Q : St → Prop} {d : Option Tmp} {t : TypeId} {x : Operand} {ty : TypeId} {pos : String} {af : Array Edge} {g : Option (Nat × Bool)} {os : List Oper} {k : Nat} {s : List (Nat × V)} {l : List Ent} {acc : List (Nat × List Nat × List Nat)} {v : Value}
    (hn : AR P ops dr Q os (k + 1) ⟨dn N (putA s d (.im (.iface t v))), ofl l⟩ ((k, [], []) :: acc)) (ht : ifT P t = some false := by kernel_rfl) (hx : St.ev ⟨dn N s, ofl l⟩ x = .im v := by rfl) (hg : gd ops ⟨d, .makeInterface t x, ty, pos, af, g⟩ ⟨dn N s, ofl l⟩ = some true := by rfl) :
    AR P ops dr Q (⟨d, .makeInterface t x, ty, pos, af, g⟩ :: os) k ⟨dn N s, ofl l⟩ acc := AR.stepG (step_mkI rfl ht hx) hn hg
theorem AR.eqI {P : Program} {N : Nat} {ops : Array Oper} {dr : Bool} {Q : St → Prop} {d : Option Tmp} {op : BinOp} {t u : TypeId} {x : Operand} {ty : TypeId} {pos : String} {af : Array Edge} {g : Option (Nat × Bool)} {os : List Oper} {k : Nat} {s : List (Nat × V)} {l : List Ent} {acc : List (Nat × List Nat × List Nat)} {y : V} (b : Bool) {e : Bool}
    (hn : AR P ops dr Q os (k + 1) ⟨dn N (putA s d (.im (.bool e))), ofl l⟩ ((k, [], []) :: acc)) (ht : ifT P t = some true := by kernel_rfl) (hop : op = .eql ∨ op = .neq := by first | exact .inl rfl | exact .inr rfl) (hx : St.ev ⟨dn N s, ofl l⟩ x = y := by rfl)
    (hy : (∃ a v, y = .im (.iface a v) ∧ b = false) ∨ (y = .ifc ∧ b = false) ∨ (y = .im .nilIface ∧ b = true) := by first | exact .inl ⟨_, _, rfl, rfl⟩ | exact .inr (.inl ⟨rfl, rfl⟩) | exact .inr (.inr ⟨rfl, rfl⟩)) (he : (if op = .eql then b else !b) = e := by rfl)
    (hg : gd ops ⟨d, .binOp op t x (.const .nilIface) u, ty, pos, af, g⟩ ⟨dn N s, ofl l⟩ = some true := by rfl) :
    AR P ops dr Q (⟨d, .binOp op t x (.const .nilIface) u, ty, pos, af, g⟩ :: os) k ⟨dn N s, ofl l⟩ acc := by
  subst hx he
  exact AR.stepG (step_eqI rfl ht hop rfl hy) hn hg
/-- The rest of the code is walked once, from each of the states S. -/
theorem AWp.tail {K : Option Nat → Prop} {P : Program} {st0 : Nat → Ent} {Q : Exit → St → Prop} {A : St} {c rest0 : Code} {ι : Type} (S : ι → St) (tail : ∀ i, AWpK K P st0 rest0 Q (S i))
    (walk : ∀ rest, (∀ i, AWpK K P st0 rest Q (S i)) → AWpK K P st0 c (Thn K P st0 rest Q) A) : AWpK K P st0 c (Thn K P st0 rest0 Q) A := walk rest0 tail
theorem AWp.cut {K : Option Nat → Prop} {P : Program} {st0 : Nat → Ent} {Q : Exit → St → Prop} {c : Code} {N : Nat} {s : List (Nat × V)} {l : List Ent} (n : Nat) (s' : List (Nat × V)) (l' : List Ent) (h : AWpK K P st0 c Q ⟨dn N s', ofl l'⟩) (hl : l.take n = l') (hw : WkA s s') (h0 : ∀ i, st0 i ≠ .free → i < n) (hs : idsA (ltB n) s' = true)
    (hb : l'.all (entOk (ltB n)) = true) : AWpK K P st0 c Q ⟨dn N s, ofl l⟩ := by
  refine AWp.weak (ltB n) (dn N s') ?_ (by rw [dn_length]; exact (dn_length N s).symm) (fun t => ?_) (fun i hi => by simpa [ltB] using h0 i hi) (idsL_dn hs N) (fun i cs h1 h2 => ?_)
  case refine_3 =>
    subst hl
    have hi : i < n := by simpa [ltB] using h2
    have hil : i < l.length := by
      refine Nat.lt_of_not_le fun hle => ?_
      have : ofl l i = .free := by simp [ofl, List.getD, List.getElem?_eq_none hle]
      rw [show (St.mk (dn N s) (ofl l)).st i = ofl l i from rfl, this] at h1
      cases h1
    have he : l[i] = .box cs := by simpa [ofl, List.getD, hil] using h1
    have := List.all_eq_true.1 hb l[i] (by
      refine List.mem_iff_getElem?.2 ⟨i, ?_⟩
      simp [List.getElem?_take, hi, hil])
    rw [he] at this
    exact this
  · have e : (fun i => if ltB n i = true then ofl l i else Ent.free) = ofl l' := by
      funext i
      subst hl
      unfold ofl ltB
      by_cases hi : i < n
      · simp [hi, List.getD, List.getElem?_take]
      · simp [hi, List.getD, List.getElem?_take]
    rw [e]
    exact h
  · show Wk ((dn N s).getD t .dead) ((dn N s').getD t .dead)
    rw [getD_dn, getD_dn]
    split
    · exact hw.look t
    · exact .dead _
theorem AWp.cutP {K : Option Nat → Prop} {P : Program} {st0 : Nat → Ent} {Q : Exit → St → Prop} {c : Code} {N : Nat} {s : List (Nat × V)} {l : List Ent} {E : Prop} (n : Nat) (s' : List (Nat × V)) (l' : List Ent) (fi : E) (h : AWpK K P st0 c Q ⟨dn N s', ofl l'⟩) (hl : l.take n = l' := by rfl)
    (hw : WkA s s' := by repeat (first | exact WkA.nil | refine WkA.cons (Wk.refl _) ?_)) (h0 : ∀ i, st0 i ≠ .free → i < n := by exact fun i hi => by first | exact absurd rfl hi | exact Nat.lt_of_lt_of_le (ofl_lt hi) (by simp))
    (hs : E → idsA (ltB n) s' = true := by intro f; first | rfl | simp only [List.length_cons, List.length_nil, Nat.reduceAdd, V.ids, V.idsL, idsA, entOk, List.all_cons, List.all_nil, Bool.and_self, Bool.and_true, Bool.true_and, ltB, noId, Nat.reduceLT, decide_true, Bool.true_eq_false, tyV_id, fdV_id, tyL_id, fdL_id, f]) (hb : E → l'.all (entOk (ltB n)) = true := by intro f; first | rfl | simp only [List.length_cons, List.length_nil, Nat.reduceAdd, V.ids, V.idsL, idsA, entOk, List.all_cons, List.all_nil, Bool.and_self, Bool.and_true, Bool.true_and, ltB, noId, Nat.reduceLT, decide_true, Bool.true_eq_false, tyV_id, fdV_id, tyL_id, fdL_id, f]) : AWpK K P st0 c Q ⟨dn N s, ofl l⟩ :=
  AWp.cut n s' l' h hl hw h0 (hs fi) (hb fi)
end Go.Proofs.YtlbfgnpadggbgaaGreatDoor
namespace Go.Proofs.YtlbfgnpadggbgaaGreatDoor
set_option linter.unusedSimpArgs false
set_option linter.unusedVariables false
set_option linter.unnecessarySimpa false
open Go.RowKit
theorem Kin.not_box {st st' : Nat → Ent} (h : Kin st st') {i : Nat} (hn : ∀ cs, st i ≠ .box cs) : st' i = st i := by
  rcases h i with h1 | ⟨cs, _, h1, _⟩
  · exact h1
  · exact absurd h1 (hn cs)
theorem Kin.free {st st' : Nat → Ent} (h : Kin st st') {i : Nat} (hi : st' i ≠ .free) : st i ≠ .free := by
  rcases h i with h1 | ⟨cs, _, h1, _⟩
  · rwa [← h1]
  · rw [h1]; simp
theorem Ev.wst {C : Cf} {st : Nat → Ent} (h : Kin C.st st) : Ev C (C.wst st) where
  os := rfl
  tape := rfl
  output := rfl
  size := Nat.le_refl _
  av := rfl
  rd := fun a v hr => ⟨hr.1, Cf.wst_fix h hr.2⟩
  box := fun i cs hb => ⟨rfl, by
    rcases h i with h1 | ⟨_, cs', _, h1⟩
    · exact ⟨cs, h1.trans hb⟩
    · exact ⟨cs', h1⟩⟩
  tip := fun i e z n ht => ⟨n, (h.not_box fun cs hc => by rw [ht] at hc; cases hc).trans ht, Nat.le_refl _, fun _ => ⟨rfl, fun _ cur _ hc => ⟨cur, hc, rfl⟩⟩⟩
  itr := fun i s p hb => ⟨rfl, s, p, (h.not_box fun cs hc => by rw [hb] at hc; cases hc).trans hb⟩
  keep := fun _ _ _ => rfl
  fresh := fun i b hi hs => .inl ⟨h.free hi, hs⟩
  shp := fun _ _ _ bs _ _ _ k => ⟨bs, k, rfl⟩
theorem Ok.wst {C : Cf} {st : Nat → Ent} (hC : Ok C) (h : Kin C.st st) (hb : ∀ i cs, st i = .box cs → ∃ g bs t, C.σ i = some g ∧ C.w.heap[g]? = some (.cells bs t (0, 0)) ∧ cs.length ≤ bs.size ∧
    (∀ j, j < cs.length → (bs.getD j undef).oneCell' = true) ∧ ∀ j (hj : j < cs.length), R (C.wst st) cs[j] (bs.getD j undef)) : Ok (C.wst st) where
  box := hb
  tip := fun i e z n g ht hs => hC.tip i e z n g (by
    rcases h i with h1 | ⟨_, cs', _, h1⟩
    · exact h1.symm.trans ht
    · have ht : st i = _ := ht
      rw [h1] at ht; cases ht) hs
  iter := fun i s p ht => hC.iter i s p (by
    rcases h i with h1 | ⟨_, cs', _, h1⟩
    · exact h1.symm.trans ht
    · have ht : st i = _ := ht
      rw [h1] at ht; cases ht)
  inj := fun i j g hi hj => hC.inj i j g (h.free hi) (h.free hj)
  avl := hC.avl
  bav := fun i cs g o hc hs => by
    rcases h i with h1 | ⟨cs0, _, h0, _⟩
    · exact hC.bav i cs g o (h1.symm.trans hc) hs
    · exact hC.bav i cs0 g o h0 hs
  gl := hC.gl.mono (Ev.wst h)
theorem Sim.ghostB {B : Option Nat} {C : Cf} {a : Act} {N : Nat} {s : List (Nat × V)} {l : List Ent} {id j : Nat} {cs : List V} {e : TypeId} {z : Nat} (hS : Sim B C ⟨dn N s, ofl l⟩ a)
    (hi : l[id]? = some (.box cs)) (hj : cs[j]? = some (.sl [] .nl)) : ∃ D, Sim B D ⟨dn N s, ofl (l.set id (.box (cs.set j (.sl [] (.mine l.length)))) ++ [.tip e z 0])⟩ a ∧ D.w = C.w ∧ Ev C D := by
  obtain ⟨hil, hi'⟩ := List.getElem?_eq_some_iff.1 hi
  obtain ⟨hjl, hj'⟩ := List.getElem?_eq_some_iff.1 hj
  have hf : C.st l.length = .free := by rw [hS.st]; exact ofl_end l
  have hE1 : Ev C (C.ghost l.length e z 0) := Ev.ghost hf
  have hO1 : Ok (C.ghost l.length e z 0) := hS.ok.ghost hf
  have hst1 : (C.ghost l.length e z 0).st = ofl (l ++ [.tip e z 0]) := by
    show upd C.st l.length (.tip e z 0) = _
    rw [hS.st]
    exact ofl_snoc l _
  have hbox : C.st id = .box cs := by rw [hS.st]; simp [ofl, List.getD, hi]
  have hset : ∀ i, ofl (l.set id (.box (cs.set j (.sl [] (.mine l.length)))) ++ [.tip e z 0]) i = if i = id then .box (cs.set j (.sl [] (.mine l.length))) else ofl (l ++ [.tip e z 0]) i := fun i => by
    unfold ofl
    by_cases h : i = id
    · subst h; simp [List.getD, List.getElem?_append, hil]
    · have h' : id ≠ i := fun q => h q.symm
      simp [List.getD, List.getElem?_append, List.getElem?_set, h, h']
  have hk : Kin (C.ghost l.length e z 0).st (ofl (l.set id (.box (cs.set j (.sl [] (.mine l.length)))) ++ [.tip e z 0])) := fun i => by
    rw [hset, hst1]
    by_cases h : i = id
    · subst h
      exact .inr ⟨cs, _, by simp [ofl, List.getD, List.getElem?_append, hil, hi'], if_pos rfl⟩
    · exact .inl (if_neg h)
  refine ⟨(C.ghost l.length e z 0).wst _, ⟨rfl, hO1.wst hk fun i ds hd => ?_, (hS.defers.mono hE1).mono (Ev.wst hk), hS.size, fun t ht => ((hS.slot t ht).mono hE1).wst hk⟩, rfl, hE1.trans (Ev.wst hk)⟩
  rw [hset] at hd
  by_cases h : i = id
  · subst h
    rw [if_pos rfl] at hd
    cases hd
    obtain ⟨g, bs, t, h1, h2, h3, h4, h5⟩ := hS.ok.box i cs hbox
    have hne : i ≠ l.length := by omega
    refine ⟨g, bs, t, ?_, h2, by simpa using h3, fun q hq => h4 q (by simpa using hq), fun q hq => ?_⟩
    · show (if i = l.length then none else C.σ i) = some g
      rw [if_neg hne]; exact h1
    · have hq' : q < cs.length := by simpa using hq
      rw [List.getElem_set]
      have h6 := h5 q hq'
      by_cases hjq : j = q
      · subst hjq
        rw [if_pos rfl]
        rw [hj'] at h6
        exact (R.toMine (id := l.length) (e := e) (z := z) h6 hf).wst hk
      · rw [if_neg hjq]
        exact (h6.mono hE1).wst hk
  · rw [if_neg h, ← hst1] at hd
    obtain ⟨g, bs, t, h1, h2, h3, h4, h5⟩ := hO1.box i ds hd
    exact ⟨g, bs, t, h1, h2, h3, h4, fun q hq => (h5 q hq).wst hk⟩
theorem AWp.ghostB {K : Option Nat → Prop} {P : Program} {st0 : Nat → Ent} {Q : Exit → St → Prop} {c : Code} {N : Nat} {s : List (Nat × V)} {l : List Ent} (id j : Nat) (cs : List V) (e : TypeId) (z : Nat)
    (h : AWpK K P st0 c Q ⟨dn N s, ofl (l.set id (.box (cs.set j (.sl [] (.mine l.length)))) ++ [.tip e z 0])⟩) (hi : l[id]? = some (.box cs) := by rfl) (hj : cs[j]? = some (.sl [] .nl) := by rfl) : AWpK K P st0 c Q ⟨dn N s, ofl l⟩ := by
  intro C0 C a ro n hK h0 hE hS
  obtain ⟨D, h1, h2, h3⟩ := hS.ghostB (e := e) (z := z) hi hj
  have := h C0 D a ro n hK h0 (hE.trans h3) h1
  rw [h2] at this
  exact this
/-- A slice that lies in the token's own block becomes a box that may be written to; all else is forgotten. -/
theorem AWp.thaw {K : Option Nat → Prop} {P : Program} {Q : Exit → St → Prop} {c : Code} {N : Nat} {s : List (Nat × V)} {l : List Ent} (t u : Nat) (es : List V) (id : Nat) (e : TypeId) (z : Nat) (v : Value)
    (h : AWpK K P stF c Q ⟨dn N [(t, .bs 0 es.length), (u, .im v)], ofl [.box (flatV es)]⟩) (ht : look s t = .sl es (.mine id)) (hu : look s u = .im v) (hl : l.getD id .free = .tip e z es.length) (hne : es ≠ []) (hz : allZ z es = true)
    (hag : ∀ x ∈ es, ∃ cs, x = .ag cs) (him : ∀ x ∈ flatV es, ∃ v, x = .im v) (htN : t < N) : AWpK K P stF c Q ⟨dn N s, ofl l⟩ := by
  intro C0 C a ro m hK h0 hE hS
  have hslot := hS.slot t (by rw [dn_length]; exact htN)
  rw [getD_dn, if_pos htN, ht] at hslot
  have hst : C.st id = .tip e z es.length := by rw [hS.st]; exact hl
  obtain ⟨w, hw⟩ : ∃ w, w = a.tmps.getD t undef := ⟨_, rfl⟩
  rw [← hw] at hslot
  cases hslot with
  | @sl _ _ ad cap z' us hc hm hzs h1 hr hk =>
    obtain ⟨e', n', k1, k2, k3⟩ := hk
    rw [hst] at k1
    cases k1
    rcases k3 rfl with ⟨k0, _⟩ | ⟨g, cur, σg, rfl, hg, hcur⟩
    · exact absurd (List.length_eq_zero_iff.1 k0) hne
    have hfresh : C0.w.heap.size ≤ g := by
      rcases hE.fresh id g (by rw [hst]; simp) σg with ⟨k, _⟩ | k
      · exact absurd (by rw [h0]; rfl) k
      · exact k
    have hfl := flatV_length hz
    have hcz : es.length * z ≤ cap * z := Nat.mul_le_mul_right _ hc
    -- the cells
    have hcell : ∀ q (hq : q < (flatV es).length), ∃ x : Value, (flatV es)[q] = .im x ∧ x.oneCell' = true ∧ cur.getD q undef = x := fun q hq => by
      obtain ⟨x, hx⟩ := him _ (List.getElem_mem hq)
      refine ⟨x, hx, ?_⟩
      have hzp : 0 < z := by
        rcases Nat.eq_zero_or_pos z with hz0 | hz0
        · rw [hfl, hz0] at hq; simp at hq
        · exact hz0
      have hi : q / z < es.length := by
        rw [hfl] at hq
        exact Nat.div_lt_of_lt_mul (by rw [Nat.mul_comm]; exact hq)
      have hj : q % z < z := Nat.mod_lt _ hzp
      have hqe : q / z * z + q % z = q := by rw [Nat.mul_comm]; exact Nat.div_add_mod q z
      generalize q / z = i at hi hqe
      generalize q % z = j at hj hqe
      subst hqe
      have hget := flatV_get hz hi hj
      rw [List.getElem?_eq_getElem hq, hx] at hget
      obtain ⟨cs, hcs⟩ := hag _ (List.getElem_mem hi)
      have hR := h1 i hi
      have hrd := hr i hi
      rw [hcs] at hR hget
      have hget : cs[j]? = some (.im x) := hget.symm
      obtain ⟨hjl, hjx⟩ := List.getElem?_eq_some_iff.1 hget
      generalize us i = U at hR hrd
      cases hR with
      | @ag _ ua hn ho hcR =>
        have h3 := hcR j hjl
        rw [hjx] at h3
        have h4 := h3.im_eq
        have h5 := ho j hjl
        rw [h4] at h5
        refine ⟨h5, ?_⟩
        obtain ⟨ad, e1, hrd⟩ := hrd
        cases e1
        have hjs : j < ua.size := by omega
        have hju : ua[j]? = some x := by
          rw [Array.getD_eq_getD_getElem?, Array.getElem?_eq_getElem hjs] at h4
          rw [Array.getElem?_eq_getElem hjs]
          exact congrArg some h4
        have h6 := (hrd j x hju).1
        rw [Addr.add_lit, Addr.add_lit] at h6
        simp only [World.cell?, hg, Nat.zero_add] at h6
        rw [Array.getD_eq_getD_getElem?]
        simp at h6
        rw [h6]
        rfl
    have hoff : ∀ {i : Nat} {x : Ent}, ofl [.box (flatV es)] i = x → x ≠ .free → i = 0 := fun {i x} hx hf => by
      cases i with
      | zero => rfl
      | succ i => exact absurd (by rw [← hx]; simp [ofl, List.getD]) hf
    have hσ : ∀ {i b : Nat}, (if i = 0 then some g else none) = some b → i = 0 ∧ b = g := fun {i b} hi => by
      split at hi
      · rename_i h0; exact ⟨h0, (Option.some.inj hi).symm⟩
      · cases hi
    have hgl : ∀ a ∈ glL, a.1.block ≠ g := fun a ha hb => by
      have := hS.ok.gl.2.1 a ha id (by rw [hb]; exact σg)
      rw [hst] at this
      cases this
    have hok : Ok (⟨fun i => if i = 0 then some g else none, ofl [.box (flatV es)], C.av, C.w⟩ : Cf) := by
      refine ⟨fun i cs h => ?_, fun i e z k g h => ?_, fun i t p h => ?_, fun i j g' h1 h2 h3 h4 => ?_, hS.ok.avl, fun i cs g' o h h' => ?_, ⟨fun a ha => ?_, fun a ha i hi => ?_, hS.ok.gl.2.2⟩⟩
      · obtain rfl := hoff h (by simp)
        cases h
        refine ⟨g, cur, e, rfl, hg, by omega, fun j hj => ?_, fun j hj => ?_⟩
        · obtain ⟨x, hx, h5, h6⟩ := hcell j hj
          rw [h6]; exact h5
        · obtain ⟨x, hx, h5, h6⟩ := hcell j hj
          rw [h6, hx]; exact .im h5
      · obtain rfl := hoff h (by simp)
        cases h
      · obtain rfl := hoff h (by simp)
        cases h
      · rw [hoff rfl h1, hoff rfl h2]
      · obtain ⟨_, rfl⟩ := hσ h'
        obtain ⟨_, _, _, h7⟩ := hS.ok.tip id e z es.length g' hst σg
        exact h7 o
      · obtain ⟨q, q1, q2⟩ := hS.ok.gl.1 a ha
        exact ⟨q, ⟨q1.1, q1.2.1, fun i hi => absurd (hσ hi).2 (hgl a ha)⟩, q2⟩
      · exact absurd (hσ hi).2 (hgl a ha)
    have hE' : Ev C0 (⟨fun i => if i = 0 then some g else none, ofl [.box (flatV es)], C.av, C.w⟩ : Cf) := by
      refine ⟨hE.os, hE.tape, hE.output, hE.size, hE.av, fun a v h => ?_, fun i cs h => ?_, fun i e z k h => ?_, fun i t p h => ?_, hE.keep, fun i b h h' => ?_, fun i cs g bs t h => by rw [h0] at h; cases h⟩
      · have h2 := hE.rd a v h
        refine ⟨h2.1, h2.2.1, fun i hi => ?_⟩
        have h3 := (hσ hi).2
        have h4 := rd_lt h
        omega
      · rw [h0] at h; cases h
      · rw [h0] at h; cases h
      · rw [h0] at h; cases h
      · obtain ⟨_, rfl⟩ := hσ h'
        exact .inr hfresh
    refine h C0 (⟨fun i => if i = 0 then some g else none, ofl [.box (flatV es)], C.av, C.w⟩ : Cf) a ro m hK h0 hE' ⟨rfl, hok, ?_, ?_, fun t' ht' => ?_⟩
    · obtain ⟨bs, d1, d2, d3⟩ := hS.defers
      refine ⟨bs, d1, d2, fun b hb => ?_⟩
      obtain ⟨e1, e2, d4⟩ := d3 b hb
      refine ⟨e1, e2, fun i hi => ?_⟩
      obtain ⟨_, rfl⟩ := hσ hi
      have := d4 id σg
      rw [hst] at this
      cases this
    · rw [hS.size, dn_length]
      exact (dn_length _ _).symm
    · have ht2 : t' < N := by rw [dn_length] at ht'; exact ht'
      rw [getD_dn, if_pos ht2, look_cons, look_cons, look_nil]
      split
      · rename_i h7
        subst h7
        rw [← hw]
        exact .bs (cs := flatV es) (by rfl) (by rfl) hc hm
      · split
        · rename_i h8
          subst h8
          have h9 := hS.slot u (by rw [dn_length]; exact ht2)
          rw [getD_dn, if_pos ht2, hu] at h9
          cases h9 with
          | im h => exact .im h
        · exact .dead
end Go.Proofs.YtlbfgnpadggbgaaGreatDoor
namespace Go.Proofs.YtlbfgnpadggbgaaGreatDoor
set_option linter.unusedSimpArgs false
set_option linter.unusedVariables false
set_option linter.unnecessarySimpa false
open Go.RowKit
/-- Is it a type of pointers? -/
def ptT (P : Program) (t : TypeId) : Bool := match P.underlying t with
  | some (.pointer _) => true
  | _ => false
theorem pt_eq {P : Program} {t : TypeId} (ht : ptT P t = true) : P.underlying t = some (.pointer (P.pointee t)) := by
  unfold ptT at ht
  cases hu : P.underlying t with
  | none => rw [hu] at ht; cases ht
  | some d =>
    rw [hu] at ht
    cases d <;> simp at ht
    simp [Program.pointee, hu]
theorem run_eqP {P : Program} {op : BinOp} {t : TypeId} (ht : ptT P t = true) (hop : op = .eql ∨ op = .neq) (p : Option Addr) (x : Operand) (w : World) :
    (eqGuard op t x (.const (.pointer none)) (.pointer p) (.pointer none)).run P w = .ok () w ∧ (binOp op t (.pointer p) (.pointer none)).run P w = .ok (.bool (if op = .eql then p.isNone else !p.isNone)) w := by
  have h := run_equal_pointer_nil (w := w) t p (pt_eq ht)
  rcases hop with rfl | rfl
  · exact ⟨by simp [eqGuard], by simp [binOp, h]⟩
  · exact ⟨by simp [eqGuard], by simp [binOp, h]⟩
theorem step_eqP {P : Program} {o : Oper} {ev : Operand → V} {op : BinOp} {t u : TypeId} {x : Operand} {b : Bool} (ho : o.op = .binOp op t x (.const (.pointer none)) u) (ht : ptT P t = true) (hop : op = .eql ∨ op = .neq) (hy : ev (.const (.pointer none)) = .im (.pointer none))
    (hx : (∃ y off, ev x = .ep y off ∧ b = false) ∨ (∃ i off, ev x = .pt i off ∧ b = false) ∨ (ev x = .im (.pointer none) ∧ b = true)) : Step P o ev [] ⟨.im (.bool (if op = .eql then b else !b)), []⟩ :=
  Step.look fun C ρ _ hR _ => by
    have h1 := hR x (by simp [ho, Op.operands])
    have h2 := hR (.const (.pointer none)) (by simp [ho, Op.operands])
    rw [hy] at h2
    have e2 : ρ (.const (.pointer none)) = .pointer none := h2.im_eq
    obtain ⟨p, ha, hb⟩ : ∃ p, ρ x = .pointer p ∧ p.isNone = b := by
      rcases hx with ⟨y, off, hx, rfl⟩ | ⟨i, off, hx, rfl⟩ | ⟨hx, rfl⟩
      · rw [hx] at h1
        generalize ρ x = z at h1
        cases h1
        exact ⟨_, rfl, rfl⟩
      · rw [hx] at h1
        generalize ρ x = z at h1
        cases h1
        exact ⟨_, rfl, rfl⟩
      · rw [hx] at h1; exact ⟨none, h1.im_eq, rfl⟩
    obtain ⟨h3, h4⟩ := run_eqP ht hop p x C.w
    rw [hb] at h4
    refine ⟨.bool (if op = .eql then b else !b), ?_, .im rfl⟩
    simp only [execOp, ho, e2, ha, Sem.run_bind, h3, Result.andThen_ok, h4, Sem.run_pure]
theorem AR.eqP {P : Program} {N : Nat} {ops : Array Oper} {dr : Bool} {Q : St → Prop} {d : Option Tmp} {op : BinOp} {t u : TypeId} {x : Operand} {ty : TypeId} {pos : String} {af : Array Edge} {g : Option (Nat × Bool)} {os : List Oper} {k : Nat} {s : List (Nat × V)} {l : List Ent} {acc : List (Nat × List Nat × List Nat)} {y : V} (b : Bool) {e : Bool}
    (hn : AR P ops dr Q os (k + 1) ⟨dn N (putA s d (.im (.bool e))), ofl l⟩ ((k, [], []) :: acc)) (ht : ptT P t = true := by kernel_rfl) (hop : op = .eql ∨ op = .neq := by first | exact .inl rfl | exact .inr rfl) (hx : St.ev ⟨dn N s, ofl l⟩ x = y := by rfl)
    (hy : (∃ z off, y = .ep z off ∧ b = false) ∨ (∃ i off, y = .pt i off ∧ b = false) ∨ (y = .im (.pointer none) ∧ b = true) := by first | exact .inl ⟨_, _, rfl, rfl⟩ | exact .inr (.inl ⟨_, _, rfl, rfl⟩) | exact .inr (.inr ⟨rfl, rfl⟩)) (he : (if op = .eql then b else !b) = e := by rfl)
    (hg : gd ops ⟨d, .binOp op t x (.const (.pointer none)) u, ty, pos, af, g⟩ ⟨dn N s, ofl l⟩ = some true := by rfl) :
    AR P ops dr Q (⟨d, .binOp op t x (.const (.pointer none)) u, ty, pos, af, g⟩ :: os) k ⟨dn N s, ofl l⟩ acc := by
  subst hx he
  exact AR.stepG (step_eqP rfl ht hop rfl hy) hn hg
end Go.Proofs.YtlbfgnpadggbgaaGreatDoor
namespace Go.Proofs.YtlbfgnpadggbgaaGreatDoor
set_option linter.unusedSimpArgs false
set_option linter.unusedVariables false
set_option linter.unnecessarySimpa false
open Go.RowKit
theorem Run.anyT {P : Program} {ops : Array Oper} {B : Option Nat} {ro : Option Nat} {m : Nat} {b : Array Nat} {Q : Exit → Act → World → Prop} {F : St} (hb : closedB ops b = true) {k0 r : Nat} {T : Array Bool} (hk : ∀ i, k0 ≤ i → i < ops.size → ∀ p, p < k0 → (b.getD i 0).testBit p = true) (hT : ∀ l : Array Bool, l.size = ops.size → (∀ i, i < ops.size → (l.getD i true = false ↔ k0 ≤ i)) → l = T) : ∀ (n : Nat) (L : List Itm) (A : St) (C : Cf) (a : Act) (listed : Array Bool), L.length = n → Run P ops A L F →
    L.Pairwise (fun x y => indepK ops x.key y.key = true ∨ (b.getD y.i 0).testBit x.i = true) → (L.map Itm.i).Pairwise (· < ·) → listed.size = ops.size →
    (∀ i ∈ L.map Itm.i, i < k0) → (∀ i, i < ops.size → (listed.getD i true = false ↔ i ∈ L.map Itm.i ∨ k0 ≤ i)) →
    (∀ i o, ops[i]? = some o → listed.getD i false = true → ∀ e ∈ o.after, Region.binds .any e = true → listed.getD e.on false = true) →
    Sim B C A a → (∀ D a', Sim B D F a' → Ev C D → wpAnyIn (FR ro) m P .any ops Q r T a' D.w) → wpAnyIn (FR ro) m P .any ops Q (n + r) listed a C.w := by
  intro n
  induction n with
  | zero =>
    intro L A C a listed hn hr _ _ hsz _ hl _ hS hQ
    obtain rfl := List.eq_nil_of_length_eq_zero hn
    cases hr
    obtain rfl := hT listed hsz (fun i hi => by simpa using hl i hi)
    rw [Nat.zero_add]
    exact hQ C a hS (Ev.refl C)
  | succ n ih =>
    intro L A C a listed hn hr hp hs hsz hlo hl hd hS hQ
    rw [show n + 1 + r = (n + r) + 1 by omega]
    have hsw : ∀ {j : Nat} {x y : Bool}, j < ops.size → listed.getD j x = listed.getD j y := fun {j x y} hj => by simp [hsz, hj]
    refine ⟨fun he => ?_, fun i hi => ?_⟩
    · exfalso
      cases hL : L with
      | nil => rw [hL] at hn; cases hn
      | cons t L' =>
        subst hL
        have hv : Valid P ops A t := by cases hr with | cons hv _ => exact hv
        obtain ⟨o, ho⟩ := hv.oper
        have hlt := (Array.getElem?_eq_some_iff.1 ho).1
        have : t.i ∈ Region.ready .any ops listed := by
          refine mem_ready.2 ⟨(hl t.i hlt).2 (.inl (by simp)), o, ho, fun e hem hbd => ?_⟩
          have hlow := closedB_low hb ho e hem hbd
          have h1 : ¬ listed.getD e.on true = false := fun hf => by
            have := (hl e.on (by omega)).1 hf
            simp only [List.map_cons, List.mem_cons] at this
            have hlw := hlo t.i (by simp)
            rcases this with (h2 | h2) | h2
            · omega
            · have := (List.pairwise_cons.1 hs).1 _ h2
              omega
            · omega
          rw [hsw (y := true) (by omega)]
          simpa using h1
        rw [he] at this
        cases this
    · obtain ⟨h0, o, ho, hall⟩ := mem_ready.1 hi
      have hlt := (Array.getElem?_eq_some_iff.1 ho).1
      have hmem : i ∈ L.map Itm.i := by
        rcases (hl i hlt).1 h0 with h | h
        · exact h
        · exfalso
          cases L with
          | nil => cases hn
          | cons t L' =>
            have hv : Valid P ops A t := by cases hr with | cons hv _ => exact hv
            obtain ⟨ot, hot⟩ := hv.oper
            have hts := (Array.getElem?_eq_some_iff.1 hot).1
            have h2 := listed_before hb hd (p := t.i) hts (i + 1) i o (by omega) ho hall (hk i h hlt t.i (hlo t.i (by simp)))
            have h3 := (hl t.i hts).2 (.inl (by simp))
            rw [hsw (y := false) hts, h2] at h3
            cases h3
      obtain ⟨t, ht, rfl⟩ := List.mem_map.1 hmem
      obtain ⟨L1, L2, rfl⟩ := List.append_of_mem ht
      have hpend : ∀ p ∈ L1, indepK ops p.key t.key = true := fun p hpm => by
        have h1 := (List.pairwise_append.1 hp).2.2 p hpm t (List.mem_cons_self ..)
        rcases h1 with h1 | h1
        · exact h1
        · exfalso
          have hpl : p.i < t.i := by
            have := (List.pairwise_append.1 (by simpa using hs : (L1.map Itm.i ++ t.i :: L2.map Itm.i).Pairwise (· < ·))).2.2 p.i (List.mem_map_of_mem hpm) t.i (List.mem_cons_self ..)
            exact this
          have h2 := listed_before hb hd (p := p.i) (by omega) (t.i + 1) t.i o (by omega) ho hall h1
          have h3 := (hl p.i (by omega)).2 (by simp only [List.map_append, List.mem_append]; exact .inl (.inl (List.mem_map_of_mem hpm)))
          rw [hsw (y := false) (by omega), h2] at h3
          cases h3
      obtain ⟨hv, hr'⟩ := Run.first L1 A hpend hr
      have hlen : (L1 ++ L2).length = n := by simp at hn ⊢; omega
      have hs' : ((L1 ++ L2).map Itm.i).Pairwise (· < ·) := by
        refine hs.sublist (List.Sublist.map _ ?_)
        exact List.Sublist.append (List.Sublist.refl _) (List.sublist_cons_self _ _)
      have hp' := hp.sublist (List.Sublist.append (List.Sublist.refl L1) (List.sublist_cons_self t L2))
      have hnot : t.i ∉ (L1 ++ L2).map Itm.i := by
        have h1 : (L1.map Itm.i ++ t.i :: L2.map Itm.i).Pairwise (· < ·) := by simpa using hs
        simp only [List.map_append, List.mem_append, not_or]
        refine ⟨fun hm => ?_, fun hm => ?_⟩
        · have := (List.pairwise_append.1 h1).2.2 t.i hm t.i (List.mem_cons_self ..)
          omega
        · have := (List.pairwise_cons.1 (List.pairwise_append.1 h1).2.1).1 t.i hm
          omega
      have key : ∀ D a', Sim B D (A.appI ops t) a' → Ev C D → wpAnyIn (FR ro) m P .any ops Q (n + r) (listed.setIfInBounds t.i true) a' D.w := fun D a' hS' hE => by
        refine ih (L1 ++ L2) (A.appI ops t) D a' _ hlen hr' hp' hs' (by simpa using hsz) (fun i hi => hlo i (by simp only [List.map_append, List.map_cons, List.mem_append, List.mem_cons] at hi ⊢; rcases hi with h | h <;> simp [h])) (fun j hj => ?_) (fun j q hq hlj e hem hbd => ?_) hS' (fun E a'' hS'' hE' => hQ E a'' hS'' (hE.trans hE'))
        · by_cases hjt : t.i = j
          · subst hjt
            have : t.i < listed.size := by omega
            simp only [Array.getD_eq_getD_getElem?, Array.getElem?_setIfInBounds_self_of_lt this, Option.getD_some]
            simp only [Bool.true_eq_false, false_iff]
            have hlt' := hlo t.i (by simp)
            exact fun h => h.elim hnot (fun h => by omega)
          · rw [getD_set_ne true hjt, hl j hj]
            simp only [List.map_append, List.map_cons, List.mem_append, List.mem_cons]
            constructor
            · rintro ((h1 | h1 | h1) | h1)
              · exact .inl (.inl h1)
              · exact absurd h1.symm hjt
              · exact .inl (.inr h1)
              · exact .inr h1
            · rintro ((h1 | h1) | h1)
              · exact .inl (.inl h1)
              · exact .inl (.inr (.inr h1))
              · exact .inr h1
        · by_cases hjt : t.i = j
          · subst hjt
            rw [ho] at hq
            cases hq
            exact getD_set_true (hall e hem hbd)
          · rw [getD_set_ne false hjt] at hlj
            exact getD_set_true (hd j q hq hlj e hem hbd)
      obtain ⟨o', ho', hcase⟩ := hv
      obtain rfl : o = o' := Option.some.inj (ho.symm.trans ho')
      have he : A.appI ops t = A.app o.dst t.d := by simp [St.appI, ho]
      rw [he] at key
      rcases hcase with ⟨h1, h2, h3⟩ | ⟨h1, h2, h3⟩
      · exact h2.sound h3 ho h1 hS key
      · obtain ⟨ti, tfp, tv, twr⟩ := t
        obtain rfl : twr = [] := h2
        exact skip_sound h3 ho h1 hS key
theorem AR.runT {P : Program} {ops : Array Oper} {dr : Bool} {Q : St → Prop} : ∀ (l : List Oper) (k : Nat) (A : St) (acc : List (Nat × List Nat × List Nat)), (∀ j, j < l.length → l[j]? = ops[k + j]?) → AR P ops dr Q l k A acc →
    ∃ L F, Run P ops A L F ∧ L.map Itm.i = List.range' k l.length ∧ (dr = true → chkR ops (acc.reverse ++ L.map Itm.key) = true) ∧ Q F := by
  intro l
  induction l with
  | nil =>
    intro k A acc _ h
    exact ⟨[], A, .nil, rfl, by simpa using h.1, h.2⟩
  | cons o l ih =>
    intro k A acc hl h
    have h0 : ops[k]? = some o := by simpa using (hl 0 (by simp)).symm
    have hl' : ∀ j, j < l.length → l[j]? = ops[k + 1 + j]? := fun j hj => by have := hl (j + 1) (by simpa using hj); simpa [Nat.add_assoc, Nat.add_comm 1 j] using this
    rcases h with ⟨h1, h2⟩ | ⟨h1, fp, d, h2, h3, h4⟩ | ⟨g, h1, fp, v, h2, h4⟩
    · obtain ⟨L, F, k1, k2, k3, k4⟩ := ih (k + 1) _ _ hl' h2
      refine ⟨⟨k, [], ⟨.dead, []⟩⟩ :: L, F, .cons ⟨o, h0, .inr ⟨h1, rfl, fun _ => .dead⟩⟩ (by simpa [St.appI, h0] using k1), by simp [k2, List.range'_succ], fun hd => ?_, k4⟩
      have := k3 hd
      simpa [Itm.key] using this
    · obtain ⟨L, F, k1, k2, k3, k4⟩ := ih (k + 1) _ _ hl' h4
      refine ⟨⟨k, fp, d⟩ :: L, F, .cons ⟨o, h0, .inl ⟨h1, h2, h3⟩⟩ (by simpa [St.appI, h0] using k1), by simp [k2, List.range'_succ], fun hd => ?_, k4⟩
      have := k3 hd
      simpa [Itm.key] using this
    · obtain ⟨L, F, k1, k2, k3, k4⟩ := ih (k + 1) _ _ hl' h4
      have hv : Valid P ops A ⟨k, fp, ⟨gw g v, []⟩⟩ := by
        refine ⟨o, h0, ?_⟩
        cases g with
        | true => exact .inl ⟨h1, (h2 rfl).1, (h2 rfl).2⟩
        | false => exact .inr ⟨h1, rfl, fun C => .gi (fun h => by cases h) fun _ => rfl⟩
      refine ⟨⟨k, fp, ⟨gw g v, []⟩⟩ :: L, F, .cons hv (by simpa [St.appI, h0] using k1), by simp [k2, List.range'_succ], fun hd => ?_, k4⟩
      have := k3 hd
      simpa [Itm.key] using this
/-- What is first comes before all else. -/
def headK (ops : Array Oper) (k : Nat) : Bool :=
  let b := Region.before ops
  (List.range ops.size).all fun i => decide (i < k) || (List.range k).all fun p => (b.getD i 0).testBit p
def headT (ops : Array Oper) (k : Nat) : Array Bool := ops.mapIdx fun i _ => decide (i < k)
theorem AR.drawnH {B : Option Nat} {ro : Option Nat} {m : Nat} {P : Program} {id : Nat} {l1 l2 : List Oper} {Q : Exit → Act → World → Prop} {QA : St → Prop} {A : St} {C : Cf} {a : Act} (hm : P.follows .mixedOrders = true) (h : AR P (l1 ++ l2).toArray true QA l1 0 A []) (hk : headK (l1 ++ l2).toArray l1.length = true) (hS : Sim B C A a)
    (hQ : ∀ F D a', QA F → Sim B D F a' → Ev C D → wpAnyIn (FR ro) m P .any (l1 ++ l2).toArray Q l2.length (headT (l1 ++ l2).toArray l1.length) a' D.w) : (Code.region id (l1 ++ l2).toArray true).wpIn (FR ro) m P Q a C.w := by
  obtain ⟨L, F, h1, h2, h4, h3⟩ := AR.runT l1 0 A [] (fun j hj => by simp [List.getElem?_append_left hj]) h
  have h5 := h4 rfl
  simp only [List.reverse_nil, List.nil_append, chkR, Bool.and_eq_true] at h5
  refine wpIn_region_any hm ?_
  have hE : Ev C (C.withW { C.w with drawn := C.w.drawn + 1 }) := Ev.withW rfl rfl rfl rfl
  have hS' := hS.mono hE (hS.ok.withW rfl rfl rfl rfl) rfl
  have hsz : (l1 ++ l2).toArray.size = l1.length + l2.length := by simp
  have hlen : L.length = l1.length := by simpa using congrArg List.length h2
  have hb : ∀ i, l1.length ≤ i → i < (l1 ++ l2).toArray.size → ∀ p, p < l1.length → ((Region.before (l1 ++ l2).toArray).getD i 0).testBit p = true := fun i h1 h2 p hp => by
    have := List.all_eq_true.1 hk i (List.mem_range.2 h2)
    simp only [Bool.or_eq_true, decide_eq_true_eq, List.all_eq_true] at this
    rcases this with h | h
    · omega
    · exact h p (List.mem_range.2 hp)
  have hTs : (headT (l1 ++ l2).toArray l1.length).size = (l1 ++ l2).toArray.size := by simp [headT]
  have hTg : ∀ i, i < (l1 ++ l2).toArray.size → ((headT (l1 ++ l2).toArray l1.length).getD i true = false ↔ l1.length ≤ i) := fun i hi => by
    rw [Array.getD_eq_getD_getElem?]
    unfold headT
    rw [Array.getElem?_mapIdx, Array.getElem?_eq_getElem hi]
    simp
  have hT : ∀ l : Array Bool, l.size = (l1 ++ l2).toArray.size → (∀ i, i < (l1 ++ l2).toArray.size → (l.getD i true = false ↔ l1.length ≤ i)) → l = headT (l1 ++ l2).toArray l1.length := fun l hl1 hl2 => by
    refine Array.ext (hl1.trans hTs.symm) fun i hi hi' => ?_
    have a1 := hl2 i (by omega)
    have a2 := hTg i (by omega)
    rw [← a2] at a1
    simp only [Array.getD_eq_getD_getElem?, Array.getElem?_eq_getElem hi, Array.getElem?_eq_getElem hi', Option.getD_some] at a1
    cases h1 : l[i] <;> cases h2 : (headT (l1 ++ l2).toArray l1.length)[i] <;> simp_all
  have := Run.anyT (r := l2.length) (k0 := l1.length) (T := headT (l1 ++ l2).toArray l1.length) (ro := ro) (m := m) (Q := Q) h5.1 (fun i h1 h2 p hp => hb i h1 h2 p hp) hT L.length L A _ a (Array.replicate (l1 ++ l2).toArray.size false) rfl h1 (pairsK_spec L h5.2) (by rw [h2]; exact List.pairwise_lt_range') (by simp)
    (fun i hi => by rw [h2] at hi; simp at hi; omega) (fun i hi => ?_) (fun i o ho hl => ?_) hS'
    (fun D a' hS' hE' => hQ F D a' h3 hS' (hE.trans hE'))
  · rw [hlen, ← hsz] at this
    exact this
  · have h6 : i < l1.length + l2.length := by rw [← hsz]; exact hi
    have h7 : (Array.replicate (l1 ++ l2).toArray.size false).getD i true = false := by rw [Array.getD_eq_getD_getElem?, Array.getElem?_replicate, if_pos hi]; rfl
    rw [h2, h7, List.mem_range']
    refine ⟨fun _ => ?_, fun _ => rfl⟩
    by_cases hh : i < l1.length
    · exact .inl ⟨i, hh, by omega⟩
    · exact .inr (by omega)
  · have := (Array.getElem?_eq_some_iff.1 ho).1
    rw [Array.getD_eq_getD_getElem?, Array.getElem?_replicate] at hl
    split at hl <;> cases hl
theorem AWp.regionH {K : Option Nat → Prop} {P : Program} {st0 : Nat → Ent} {Q : Exit → St → Prop} {A : St} {id : Nat} {l1 l2 : List Oper} (QA : St → Prop) (hm : P.follows .mixedOrders = true) (hk : headK (l1 ++ l2).toArray l1.length = true) (h : AR P (l1 ++ l2).toArray true QA l1 0 A [])
    (hQ : ∀ F, QA F → ∀ (C0 C : Cf) (a : Act) (ro : Option Nat) (n : Nat), Ev C0 C → Sim (bnd ro C0.w) C F a → wpAnyIn (FR ro) n P .any (l1 ++ l2).toArray (fun e a' w' => ∃ A' D, Q e A' ∧ Sim (bnd ro C0.w) D A' a' ∧ D.w = w' ∧ Ev C0 D) l2.length (headT (l1 ++ l2).toArray l1.length) a C.w) :
    AWpK K P st0 (.region id (l1 ++ l2).toArray true) Q A :=
  fun C0 _ _ ro n _ _ hE hS => AR.drawnH hm h hk hS fun F D a' h1 h2 h3 => hQ F h1 C0 D a' ro n (hE.trans h3) h2
/-- One operation, as the machine does it. -/
theorem raw_op {P : Program} {o : Oper} {ops : Array Oper} {Q : Exit → Act → World → Prop} {i : Nat} {a : Act} {w w' : World} {v : Value} {K : Act → World → Prop} {ro : Option Nat} {n : Nat} (hi : ops[i]? = some o) (hg : o.guard = none) (hnd : ∀ c, o.op ≠ .defer c)
    (h : (execOp a.eval o).run P w = .ok (.value v) w') (hK : K (a.put o.dst v) w') : wpOpIn (FR ro) n P ops Q i K a w := by
  unfold wpOpIn
  have hw : Region.wanted o (yielded ops a.tmps) = true := by simp [Region.wanted, hg]
  simp only [hi, hw, if_true]
  refine ⟨fun _ _ => trivial, ?_⟩
  rw [Oper.semAt_eq _ _ _ hnd, h]
  exact hK
theorem raw_skip {P : Program} {o : Oper} {ops : Array Oper} {Q : Exit → Act → World → Prop} {i : Nat} {a : Act} {w w' : World} {K : Act → World → Prop} {ro : Option Nat} {n : Nat} (hi : ops[i]? = some o) (hg : o.guard = none) (hnd : ∀ c, o.op ≠ .defer c)
    (h : (execOp a.eval o).run P w = .ok .skip w') (hK : K (a.put o.dst undef) w') : wpOpIn (FR ro) n P ops Q i K a w := by
  unfold wpOpIn
  have hw : Region.wanted o (yielded ops a.tmps) = true := by simp [Region.wanted, hg]
  simp only [hi, hw, if_true]
  refine ⟨fun _ _ => trivial, ?_⟩
  rw [Oper.semAt_eq _ _ _ hnd, h]
  exact hK
end Go.Proofs.YtlbfgnpadggbgaaGreatDoor
namespace Go.Proofs.YtlbfgnpadggbgaaGreatDoor
set_option linter.unusedSimpArgs false
set_option linter.unusedVariables false
set_option linter.unnecessarySimpa false
open Go.RowKit
theorem setRow_alloc (w : World) (cs cs' : Array Value) (e : TypeId) : (w.alloc (.cells cs e)).setRow w.heap.size cs' = w.alloc (.cells cs' e) := by
  unfold World.setRow World.alloc
  congr 1
  apply Array.ext
  · simp
  · intro j h1 h2
    simp only [Array.getElem_modify, Array.getElem_push]
    by_cases hj : j < w.heap.size
    · have : ¬ w.heap.size = j := by omega
      simp [hj, this]
    · have : w.heap.size = j := by simp at h2; omega
      simp [hj, this]
theorem append_store {P : Program} {C : Cf} {id : Nat} {e t tx ty : TypeId} {n z : Nat} {es : List V} {y : V} {vs vx vy : Value} {news0 : List Value} (hC : Ok C) (hst : C.st id = .tip e z n) (ht : elOf P t = some e) (hap : apOk P e n 1 = some z) (hsz : szOf P e = some z) (hs : R C (.sl es (.own id)) vs) (hn : es.length = n)
    (hx : Src P z tx vx 1 news0 C.w) (hy : vy.cells.size = z) (hy1 : ∀ c ∈ vy.cells.toList, c.oneCell' = true) (hyR : R C y vy) (hyz : y.size = z) :
    ∃ g cap w1 w2 cur, (Builtin.append_ #[t, tx] ty #[vs, vx]).run P C.w = .ok (.slice (some ⟨g, 0, none⟩) (n + 1) cap) w1 ∧ (w1.heap[g]? = some (.cells cur e (0, 0)) ∧ n * z + z ≤ cur.size ∧ w2 = w1.setRow g (cur.toList.take (n * z) ++ vy.cells.toList ++ cur.toList.drop (n * z + z)).toArray ∧
      ∀ jd cs gb bs tb, C.st jd = .box cs → C.σ jd = some gb → C.w.heap[gb]? = some (.cells bs tb (0, 0)) → gb ≠ g ∧ w1.heap[gb]? = some (.cells bs tb (0, 0))) ∧
      Good C (wrs C.st [(id, .tip e z (n + 1))]) (.sl (es ++ [y]) (.own id)) w2 (.slice (some ⟨g, 0, none⟩) (n + 1) cap) := by
  obtain ⟨i, zv, a1, a2, a3, a4, a5, a6, a7⟩ := apOk_spec hap
  have hs' := hs
  cases hs with
  | @sl _ _ a cap z' u hc hm hzs h0 hr hk =>
    subst hn
    have hn0 : news0.length = z := by simpa using hx.newsLen
    have hn1 : vy.cells.toList.length = z := by simpa using hy
    obtain ⟨v, w2, ⟨g, cap', w1, cur, rfl, k1, k2⟩, hG⟩ := good_append_gen (md := false) (P := P) (ys := [y]) (uy := fun _ => vy) (news := vy.cells.toList) (fun v w2 => ∃ g cap' w1 cur, v = .slice (some ⟨g, 0, none⟩) (es.length + 1) cap' ∧ (Builtin.append_ #[t, tx] ty #[.slice a es.length cap, vx]).run P C.w = .ok v w1 ∧ (w1.heap[g]? = some (.cells cur e (0, 0)) ∧ es.length * z + z ≤ cur.size ∧ w2 = w1.setRow g (cur.toList.take (es.length * z) ++ vy.cells.toList ++ cur.toList.drop (es.length * z + z)).toArray ∧
      ∀ jd cs gb bs tb, C.st jd = .box cs → C.σ jd = some gb → C.w.heap[gb]? = some (.cells bs tb (0, 0)) → gb ≠ g ∧ w1.heap[gb]? = some (.cells bs tb (0, 0))))
      hC hst a2 a4 a5 (mi := false) hs' (.inl rfl) rfl (by simpa using hy) (fun k hk j hj => by
        have hk0 : k = 0 := by simpa using hk
        subst hk0
        simp) (fun k hk => by
        have hk0 : k = 0 := by simpa using hk
        subst hk0
        exact ⟨hy, hyz, hyR⟩) a6 a7
      (fun h => by cases h)
      (fun g cur hσ ha hg hfit hroom => by
        subst ha
        have h1 : es.length * z + news0.length ≤ cur.size := by rw [hn0]; rw [hn1] at hfit; exact hfit
        have hrun := run_append_room' (P := P) (w := C.w) t tx ty e i (elOf_spec ht) a1 g es.length cap vx 1 news0 (by rw [a2]; exact hx) hg (by rw [a2]; exact h1) hroom
        rw [a2] at hrun
        have h2 := setRow_heap C.w g cur (cur.toList.take (es.length * z) ++ news0 ++ cur.toList.drop (es.length * z + news0.length)).toArray e (0, 0) hg
        refine ⟨g, cap, _, _, rfl, hrun, h2, by simp; omega, ?_, fun jd cs gb bs tb q1 q2 q3 => ?_⟩
        rotate_left
        · have hne : gb ≠ g := fun e => by
            subst e
            have := hC.inj jd id gb (by rw [q1]; simp) (by rw [hst]; simp) q2 hσ
            subst this
            rw [hst] at q1
            cases q1
          exact ⟨hne, (setRow_other _ _ _ _ hne).trans q3⟩
        rw [setRow_setRow]
        refine Eq.symm ?_
        congr 2
        rw [hn1, hn0]
        have ht1 : (List.take (es.length * z) cur.toList).length = es.length * z := by simp; omega
        rw [List.append_assoc, List.append_assoc, List.append_assoc, List.take_append_of_le_length (by omega), List.take_of_length_le (Nat.le_of_eq ht1)]
        congr 2
        rw [List.drop_append, List.drop_append, ht1, List.drop_of_length_le (by omega), List.nil_append, List.drop_of_length_le (by omega), List.nil_append, hn0]
        rw [show es.length * z + z - es.length * z - z = 0 by omega, List.drop_zero])
      (fun olds ho hold hlt hge => by
        have hrun := run_append_grow_src (P := P) C.w t tx ty e i zv (elOf_spec ht) a1 a3 a es.length cap olds (by rw [a2]; exact hold) vx 1 news0 (by rw [a2]; exact hx) hlt (by unfold maxLen at a6; omega) (growslice_fits (by omega) a7)
        have h2 : (C.w.drew.alloc (.cells ((olds ++ news0).toArray ++ Builtin.zeroCells zv.cells (grownCap C.w (es.length + 1) cap e - (es.length + 1))) e)).heap[C.w.heap.size]? = some (.cells ((olds ++ news0).toArray ++ Builtin.zeroCells zv.cells (grownCap C.w (es.length + 1) cap e - (es.length + 1))) e (0, 0)) := by
          show (Array.push C.w.heap _)[C.w.heap.size]? = _
          exact Array.getElem?_push_size
        refine ⟨_, _, _, _, rfl, hrun, h2, by simp; omega, ?_, fun jd cs gb bs tb q1 q2 q3 => ?_⟩
        rotate_left
        · have hlt : gb < C.w.heap.size := (Array.getElem?_eq_some_iff.1 q3).1
          refine ⟨by omega, ?_⟩
          show (Array.push C.w.heap _)[gb]? = _
          rw [Array.getElem?_push, if_neg (by omega)]
          exact q3
        have h4 := setRow_alloc C.w.drew ((olds ++ news0).toArray ++ Builtin.zeroCells zv.cells (grownCap C.w (es.length + 1) cap e - (es.length + 1)))
        have h5 : C.w.drew.heap.size = C.w.heap.size := rfl
        rw [h5] at h4
        rw [h4]
        congr 2
        apply Array.ext'
        simp only [Array.toList_append, List.append_assoc]
        rw [List.take_append_of_le_length (by omega), List.take_of_length_le (by omega)]
        congr 2
        rw [List.drop_append, ho, List.drop_of_length_le (by omega), List.nil_append, List.drop_append, List.drop_of_length_le (by omega), List.nil_append, hn0, show es.length * z + z - es.length * z - z = 0 by omega, List.drop_zero]
        rfl)
    exact ⟨g, cap', w1, w2, cur, k1, k2, hG⟩
theorem Act.eval_put_same {a : Act} {d : Nat} {v : Value} (h : d < a.tmps.size) : (a.put (some d) v).eval (.tmp d) = v := by
  simp [Act.put, Act.eval, h]
theorem Act.eval_put_ne {a : Act} {d : Nat} {v : Value} {x : Operand} (h : x ≠ .tmp d) : (a.put (some d) v).eval x = a.eval x := by
  cases x with
  | tmp t =>
    have : d ≠ t := fun e => h (by rw [e])
    simp [Act.put, Act.eval, this]
  | _ => rfl
theorem setRow_comm (w : World) {g b : Nat} (cs ds : Array Value) (h : g ≠ b) : (w.setRow g cs).setRow b ds = (w.setRow b ds).setRow g cs := by
  unfold World.setRow
  congr 1
  apply Array.ext
  · simp
  · intro j h1 h2
    simp only [Array.getElem_modify]
    by_cases hg : g = j
    · have : ¬ b = j := by omega
      simp [hg, this]
    · simp [hg]
theorem run_op_store {P : Program} {o : Oper} {ρ : Operand → Value} {t : TypeId} {x y : Operand} {g off z : Nat} {v : Value} {cs : Array Value} {ty : TypeId} {w : World} (ho : o.op = .store t x y) (hx : ρ x = .pointer (some ⟨g, off, none⟩)) (hy : ρ y = v) (hz : szOf P t = some z) (hv : v.cells.size = z)
    (hg : w.heap[g]? = some (.cells cs ty (0, 0))) (hf : off + z ≤ cs.size) (h1 : ∀ c ∈ v.cells.toList, c.oneCell' = true) :
    (execOp ρ o).run P w = .ok .skip (w.setRow g (cs.toList.take off ++ v.cells.toList ++ cs.toList.drop (off + z)).toArray) := by
  simp only [execOp, ho, Instr.storeAt, Instr.sureAddr, hx, hy, Sem.run_bind, Sem.run_pure, Result.andThen_ok, run_storeVar hz hv hg hf h1]
theorem Region.one {P : Program} {F : Fence} {m n i : Nat} {ops : Array Oper} {Q : Exit → Act → World → Prop} {T : Array Bool} {a : Act} {w : World} (h : Region.ready .any ops T = [i]) (h1 : wpOpIn F m P ops Q i (wpAnyIn F m P .any ops Q n (T.setIfInBounds i true)) a w) : wpAnyIn F m P .any ops Q (n + 1) T a w :=
  ⟨fun he => (by rw [h] at he; cases he), fun j hj => (by
    rw [h] at hj
    obtain rfl := List.mem_singleton.1 hj
    exact h1)⟩
theorem Region.two {P : Program} {F : Fence} {m n i k : Nat} {ops : Array Oper} {Q : Exit → Act → World → Prop} {T : Array Bool} {a : Act} {w : World} (h : Region.ready .any ops T = [i, k]) (h1 : wpOpIn F m P ops Q i (wpAnyIn F m P .any ops Q n (T.setIfInBounds i true)) a w)
    (h2 : wpOpIn F m P ops Q k (wpAnyIn F m P .any ops Q n (T.setIfInBounds k true)) a w) : wpAnyIn F m P .any ops Q (n + 1) T a w :=
  ⟨fun he => (by rw [h] at he; cases he), fun j hj => (by
    rw [h] at hj
    rcases (by simpa using hj : j = i ∨ j = k) with rfl | rfl
    · exact h1
    · exact h2)⟩
theorem Region.none {P : Program} {F : Fence} {m : Nat} {ops : Array Oper} {Q : Exit → Act → World → Prop} {T : Array Bool} {a : Act} {w : World} (h : Region.ready .any ops T = []) (h1 : Q .normal a w) : wpAnyIn F m P .any ops Q 0 T a w := ⟨h, h1⟩
/-- What is ready, in each of the three orders of append; address; store of the element; store of the slice. -/
def takeR (ops : Array Oper) (T : Array Bool) : Bool :=
  let r (l : List Nat) := Region.ready .any ops (l.foldl (fun T i => T.setIfInBounds i true) T)
  (r [] == [4]) && (r [4] == [5, 7]) && (r [4, 5] == [6, 7]) && (r [4, 7] == [5]) && (r [4, 5, 6] == [7]) && (r [4, 5, 7] == [6]) && (r [4, 7, 5] == [6]) && (r [4, 5, 6, 7] == []) && (r [4, 5, 7, 6] == []) && (r [4, 7, 5, 6] == [])
theorem any_take {B : Option Nat} {ro : Option Nat} {m : Nat} {P : Program} {ops : Array Oper} {T : Array Bool} {Q : Exit → Act → World → Prop} {A : St} {C : Cf} {a : Act} {o4 o5 o6 o7 : Oper} {s x ix y b : Operand} {t tx t5 t7 e e2 : TypeId} {d4 d5 id jd n z : Nat} {es ys : List V} {x0 : V} {k : Slk} {j : IntKind}
    (hT : takeR ops T = true) (h4 : ops[4]? = some o4) (h5 : ops[5]? = some o5) (h6 : ops[6]? = some o6) (h7 : ops[7]? = some o7) (g4 : o4.guard = none) (g5 : o5.guard = none) (g6 : o6.guard = none) (g7 : o7.guard = none)
    (p4 : o4.op = .call { callee := .builtin .append, args := #[s, x], argTypes := #[t, tx] }) (p5 : o5.op = .indexAddr t5 (.tmp d4) ix) (p6 : o6.op = .store e (.tmp d5) y) (p7 : o7.op = .store t7 b (.tmp d4)) (q4 : o4.dst = some d4) (q5 : o5.dst = some d5) (q6 : o6.dst = none) (q7 : o7.dst = none)
    (n1 : ix ≠ .tmp d4) (n2 : y ≠ .tmp d4) (n3 : y ≠ .tmp d5) (n4 : b ≠ .tmp d4) (n5 : b ≠ .tmp d5) (n6 : d4 ≠ d5) (b4 : d4 < A.s.length) (b5 : d5 < A.s.length) (nj : jd ≠ id)
    (hst : A.st id = .tip e z n) (ht : elOf P t = some e) (ht5 : elOf P t5 = some e) (hap : apOk P e n 1 = some z) (hsz : szOf P e = some z) (hs : A.ev s = .sl es (.own id)) (hn : es.length = n)
    (hx : A.ev x = .sl ys k) (hx1 : ys.length = 1) (hx2 : elOf P tx = some e2) (hx3 : allZ z ys = true) (hi : A.ev ix = .im (.int j n)) (hv : (A.ev y).live = true) (hvz : (A.ev y).size = z) (hb : A.ev b = .pt jd 0) (hj : A.st jd = .box [x0]) (ht7 : szOf P t7 = some 1) (hS : Sim B C A a)
    (hK : ∀ D a', Sim B D (((A.app (some d4) ⟨.sl (es ++ [A.ev y]) (.own id), [(id, .tip e z (n + 1))]⟩).app (some d5) ⟨.dead, []⟩).app none ⟨.dead, [(jd, .box [.sl (es ++ [A.ev y]) (.own id)])]⟩) a' → Ev C D → Q .normal a' D.w) :
    wpAnyIn (FR ro) m P .any ops Q 4 T a C.w := by
  simp only [takeR, List.foldl, Bool.and_eq_true, beq_iff_eq] at hT
  obtain ⟨⟨⟨⟨⟨⟨⟨⟨⟨r0, r1⟩, r2⟩, r3⟩, r4⟩, r5⟩, r6⟩, r7⟩, r8⟩, r9⟩ := hT
  have e1 := hS.ev s
  rw [hs] at e1
  have e2' := hS.ev x
  rw [hx] at e2'
  have e3 := hS.ev ix
  rw [hi] at e3
  have e3' : a.eval ix = .int j n := e3.im_eq
  have e4 := hS.ev y
  obtain ⟨l1, l2⟩ := e4.live hv
  have hcl : (A.ev y).cells.length = z := hvz
  have hone : ∀ c ∈ (a.eval y).cells.toList, c.oneCell' = true := fun c hc => by
    obtain ⟨jj, hj, rfl⟩ := List.getElem_of_mem hc
    have hj' : jj < (a.eval y).cells.size := by simpa using hj
    have := (l2 jj (by rw [hcl, ← hvz, ← l1]; exact hj')).1
    simpa [hj'] using this
  obtain ⟨uy, u1, _⟩ := src_sl (elOf_spec hx2) e2' hx3
  rw [hx1] at u1
  have hst' : C.st id = .tip e z n := by rw [hS.st]; exact hst
  have hj' : C.st jd = .box [x0] := by rw [hS.st]; exact hj
  have e5 := hS.ev b
  rw [hb] at e5
  obtain ⟨gb, bs, tb, hσ, hgb, hbs, ebv⟩ : ∃ gb bs tb, C.σ jd = some gb ∧ C.w.heap[gb]? = some (.cells bs tb (0, 0)) ∧ 1 ≤ bs.size ∧ a.eval b = .pointer (some ⟨gb, 0, none⟩) := by
    generalize a.eval b = u at e5
    cases e5 with
    | @pt _ _ g cs' hg _ =>
      obtain ⟨g', bs, ty, k1, k2, k3, k4, k5⟩ := hS.ok.box jd _ hj'
      obtain rfl : g = g' := Option.some.inj (hg.symm.trans k1)
      exact ⟨g, bs, ty, hg, k2, by simpa using k3, rfl⟩
  obtain ⟨g, cap, w1, w2, cur, k1, ⟨f1, f2, rfl, f4⟩, D, f5, k4, k5, k6, k7⟩ := append_store (P := P) (tx := tx) (ty := o4.type) (vx := a.eval x) hS.ok hst' ht hap hsz e1 hn u1 (l1.trans hvz) hone e4 hvz
  obtain ⟨hne, hgb1⟩ := f4 jd _ gb bs tb hj' hσ hgb
  have hd4 : d4 < a.tmps.size := by rw [hS.size]; exact b4
  have hd5 : d5 < (a.put (some d4) (.slice (some ⟨g, 0, none⟩) (n + 1) cap)).tmps.size := by
    have : d5 < a.tmps.size := by rw [hS.size]; exact b5
    simpa [Act.put] using this
  obtain ⟨a1, ha1⟩ : ∃ a1, a1 = a.put (some d4) (.slice (some ⟨g, 0, none⟩) (n + 1) cap) := ⟨_, rfl⟩
  obtain ⟨a2, ha2⟩ : ∃ a2, a2 = a1.put (some d5) (.pointer (some ⟨g, n * z, none⟩)) := ⟨_, rfl⟩
  have v1 : a1.eval (.tmp d4) = .slice (some ⟨g, 0, none⟩) (n + 1) cap := by rw [ha1]; exact Act.eval_put_same hd4
  have v2 : a1.eval ix = .int j n := by rw [ha1, Act.eval_put_ne n1, e3']
  have v3 : a2.eval (.tmp d5) = .pointer (some ⟨g, n * z, none⟩) := by rw [ha2]; exact Act.eval_put_same (by rw [ha1]; exact hd5)
  have v4 : a2.eval y = a.eval y := by rw [ha2, Act.eval_put_ne n3, ha1, Act.eval_put_ne n2]
  have v5 : a1.eval b = .pointer (some ⟨gb, 0, none⟩) := by rw [ha1, Act.eval_put_ne n4, ebv]
  have v6 : a2.eval b = .pointer (some ⟨gb, 0, none⟩) := by rw [ha2, Act.eval_put_ne n5, v5]
  have v7 : a2.eval (.tmp d4) = .slice (some ⟨g, 0, none⟩) (n + 1) cap := by rw [ha2, Act.eval_put_ne (by intro hh; cases hh; exact n6 rfl), v1]
  obtain ⟨c, hc⟩ : ∃ c, c = (cur.toList.take (n * z) ++ (a.eval y).cells.toList ++ cur.toList.drop (n * z + z)).toArray := ⟨_, rfl⟩
  obtain ⟨bb, hbb⟩ : ∃ bb, bb = (bs.toList.take 0 ++ (Value.slice (some ⟨g, 0, none⟩) (n + 1) cap).cells.toList ++ bs.toList.drop (0 + 1)).toArray := ⟨_, rfl⟩
  have nd5 : ∀ c, o5.op ≠ .defer c := fun c hc => by rw [p5] at hc; cases hc
  have nd6 : ∀ c, o6.op ≠ .defer c := fun c hc => by rw [p6] at hc; cases hc
  have nd7 : ∀ c, o7.op ≠ .defer c := fun c hc => by rw [p7] at hc; cases hc
  have R5 : ∀ w, (execOp a1.eval o5).run P w = .ok (.value (.pointer (some ⟨g, n * z, none⟩))) w := fun w => by
    have hr : (0 : Int) ≤ n ∧ (n : Int) < ((n + 1 : Nat) : Int) := by omega
    simp [execOp, p5, v1, v2, Instr.indexAt, asIntOf, run_underlying (elOf_spec ht5), run_sizeOf hsz, hr.1, hr.2, Addr.add_lit]
  have R6 : ∀ w, w.heap[g]? = some (.cells cur e (0, 0)) → (execOp a2.eval o6).run P w = .ok .skip (w.setRow g c) := fun w hw => by
    rw [hc]
    exact run_op_store p6 v3 v4 hsz (l1.trans hvz) hw f2 hone
  have R7 : ∀ (a : Act) (w : World), a.eval b = .pointer (some ⟨gb, 0, none⟩) → a.eval (.tmp d4) = .slice (some ⟨g, 0, none⟩) (n + 1) cap → w.heap[gb]? = some (.cells bs tb (0, 0)) → (execOp a.eval o7).run P w = .ok .skip (w.setRow gb bb) := fun a w ha1 ha2 hw => by
    rw [hbb]
    exact run_op_store p7 ha1 ha2 ht7 rfl hw (by omega) (fun c hc => by
      have : c = .slice (some ⟨g, 0, none⟩) (n + 1) cap := by simpa [Value.cells] using hc
      rw [this]
      rfl)
  -- the end
  have fin : Q .normal a2 ((w1.setRow g c).setRow gb bb) := by
    have z1 := hS.put (d := some d4) k6 k5 k4 k7
    rw [hS.st, ← ha1] at z1
    have z2 := z1.put (d := some d5) (Ev.refl D) k5 (k4.trans (by rw [hS.st])) (R.dead (C := D) (v := .pointer (some ⟨g, n * z, none⟩)))
    rw [← ha2] at z2
    obtain ⟨F, hF⟩ : ∃ F, F = ((A.app (some d4) ⟨.sl (es ++ [A.ev y]) (.own id), [(id, .tip e z (n + 1))]⟩).app (some d5) ⟨.dead, []⟩) := ⟨_, rfl⟩
    have z3 : Sim B D F a2 := by rw [hF]; exact z2
    rw [← hF] at hK
    have y1 : F.ev b = .pt jd 0 := by
      rw [← hb, hF]
      exact (St.ev_put (d := some d5) (fun t ht => by cases ht; exact n5)).trans (St.ev_put (d := some d4) (fun t ht => by cases ht; exact n4))
    have y2 : F.ev (.tmp d4) = .sl (es ++ [A.ev y]) (.own id) := by
      rw [hF]
      refine (St.ev_put (d := some d5) (fun t ht => by cases ht; intro hh; cases hh; exact n6 rfl)).trans ?_
      show (A.s.set d4 _).getD d4 .dead = _
      simp [List.getD, b4]
    have y3 : F.st jd = .box [x0] := by
      rw [hF]
      show wrs (wrs A.st [(id, .tip e z (n + 1))]) [] jd = _
      rw [← hj]
      simp [wrs, upd, nj]
    have hstep := step_store (P := P) (o := o7) (ev := F.ev) (cs := [x0]) p7 y1 ht7 (by rw [y2]; rfl) (by rw [y2]; rfl) (by simp) D a2.eval k5 (fun x _ => z3.ev x) (fun p hp => by
      have : p = (jd, .box [x0]) := by simpa using hp
      subst this
      rw [z3.st]
      exact y3)
    rw [y2, R7 a2 D.w v6 v7 (by rw [f5, ← hc]; exact (setRow_other _ _ _ _ hne).trans hgb1), f5, ← hc] at hstep
    obtain ⟨D', e1', e2'', e3'', e4'', e5''⟩ := hstep
    rw [← e1']
    refine hK D' a2 ?_ (k6.trans e4'')
    rw [z3.st] at e2''
    exact z3.put (d := none) e4'' e3'' e2'' e5''
  refine Region.one r0 (raw_op h4 g4 (fun c hc => by rw [p4] at hc; cases hc) (run_op_append p4 k1) ?_)
  rw [q4, ← ha1]
  refine Region.two r1 (raw_op h5 g5 nd5 (R5 w1) ?_) (raw_skip h7 g7 nd7 (R7 a1 w1 v5 v1 hgb1) ?_)
  · rw [q5, ← ha2]
    refine Region.two r2 (raw_skip h6 g6 nd6 (R6 w1 f1) ?_) (raw_skip h7 g7 nd7 (R7 a2 w1 v6 v7 hgb1) ?_)
    · rw [q6]
      refine Region.one r4 (raw_skip h7 g7 nd7 (R7 a2 _ v6 v7 ((setRow_other _ _ _ _ hne).trans hgb1)) ?_)
      rw [q7]
      exact Region.none r7 fin
    · rw [q7]
      refine Region.one r5 (raw_skip h6 g6 nd6 (R6 _ ((setRow_other _ _ _ _ (Ne.symm hne)).trans f1)) ?_)
      rw [q6, setRow_comm _ _ _ hne]
      exact Region.none r8 fin
  · rw [q7]
    refine Region.one r3 (raw_op h5 g5 nd5 (R5 _) ?_)
    rw [q5, show (a1.put none undef) = a1 from rfl, ← ha2]
    refine Region.one r6 (raw_skip h6 g6 nd6 (R6 _ ((setRow_other _ _ _ _ (Ne.symm hne)).trans f1)) ?_)
    rw [q6, setRow_comm _ _ _ hne]
    exact Region.none r9 fin
/-- The rule of a walk: the region is evaluated up to the append; the last store puts the slice into a box. -/
theorem AWp.takeE {Kp : Option Nat → Prop} {P : Program} {st0 : Nat → Ent} {Q : Exit → St → Prop} {N rid : Nat} {o0 o1 o2 o3 : Oper} {k' : Nat} {s0 s' : List (Nat × V)} {l l' : List Ent} {acc' : List (Nat × List Nat × List Nat)}
    {s x ix y b : Operand} {t tx t5 t7 e e2 y4 y5 y6 y7 : TypeId} {c4 c5 c6 c7 : String} {a4 a5 a6 a7 : Array Edge} {d4 d5 id jd n z : Nat} {es ys : List V} {x0 vy : V} {k : Slk} {j : IntKind}
    (hm : P.follows .mixedOrders = true)
    (hk : headK #[o0, o1, o2, o3, ⟨some d4, .call { callee := .builtin .append, args := #[s, x], argTypes := #[t, tx] }, y4, c4, a4, none⟩, ⟨some d5, .indexAddr t5 (.tmp d4) ix, y5, c5, a5, none⟩, ⟨none, .store e (.tmp d5) y, y6, c6, a6, none⟩, ⟨none, .store t7 b (.tmp d4), y7, c7, a7, none⟩] 4 = true)
    (hr : takeR #[o0, o1, o2, o3, ⟨some d4, .call { callee := .builtin .append, args := #[s, x], argTypes := #[t, tx] }, y4, c4, a4, none⟩, ⟨some d5, .indexAddr t5 (.tmp d4) ix, y5, c5, a5, none⟩, ⟨none, .store e (.tmp d5) y, y6, c6, a6, none⟩, ⟨none, .store t7 b (.tmp d4), y7, c7, a7, none⟩] (headT #[o0, o1, o2, o3, ⟨some d4, .call { callee := .builtin .append, args := #[s, x], argTypes := #[t, tx] }, y4, c4, a4, none⟩, ⟨some d5, .indexAddr t5 (.tmp d4) ix, y5, c5, a5, none⟩, ⟨none, .store e (.tmp d5) y, y6, c6, a6, none⟩, ⟨none, .store t7 b (.tmp d4), y7, c7, a7, none⟩] 4) = true)
    (h : evX P N #[o0, o1, o2, o3, ⟨some d4, .call { callee := .builtin .append, args := #[s, x], argTypes := #[t, tx] }, y4, c4, a4, none⟩, ⟨some d5, .indexAddr t5 (.tmp d4) ix, y5, c5, a5, none⟩, ⟨none, .store e (.tmp d5) y, y6, c6, a6, none⟩, ⟨none, .store t7 b (.tmp d4), y7, c7, a7, none⟩] true [o0, o1, o2, o3] 0 s0 l [] = .at_ [] k' s' l' acc')
    (hc : chkR #[o0, o1, o2, o3, ⟨some d4, .call { callee := .builtin .append, args := #[s, x], argTypes := #[t, tx] }, y4, c4, a4, none⟩, ⟨some d5, .indexAddr t5 (.tmp d4) ix, y5, c5, a5, none⟩, ⟨none, .store e (.tmp d5) y, y6, c6, a6, none⟩, ⟨none, .store t7 b (.tmp d4), y7, c7, a7, none⟩] acc'.reverse = true)
    (n1 : ix ≠ .tmp d4) (n2 : y ≠ .tmp d4) (n3 : y ≠ .tmp d5) (n4 : b ≠ .tmp d4) (n5 : b ≠ .tmp d5) (n6 : d4 ≠ d5) (b4 : d4 < N) (b5 : d5 < N) (nj : jd ≠ id)
    (hst : ofl l' id = .tip e z n) (ht : elOf P t = some e) (ht5 : elOf P t5 = some e) (hap : apOk P e n 1 = some z) (hsz : szOf P e = some z) (hs : St.ev ⟨dn N s', ofl l'⟩ s = .sl es (.own id)) (hn : es.length = n)
    (hx : St.ev ⟨dn N s', ofl l'⟩ x = .sl ys k) (hx1 : ys.length = 1) (hx2 : elOf P tx = some e2) (hx3 : allZ z ys = true) (hi : St.ev ⟨dn N s', ofl l'⟩ ix = .im (.int j n)) (hy : St.ev ⟨dn N s', ofl l'⟩ y = vy) (hv : vy.live = true) (hvz : vy.size = z)
    (hb : St.ev ⟨dn N s', ofl l'⟩ b = .pt jd 0) (hj : ofl l' jd = .box [x0]) (ht7 : szOf P t7 = some 1)
    (hQ : Q .normal ⟨dn N (putA (putA s' (some d4) (.sl (es ++ [vy]) (.own id))) (some d5) .dead), ofl (wrl (wrl l' [(id, .tip e z (n + 1))]) [(jd, .box [.sl (es ++ [vy]) (.own id)])])⟩) :
    AWpK Kp P st0 (.region rid #[o0, o1, o2, o3, ⟨some d4, .call { callee := .builtin .append, args := #[s, x], argTypes := #[t, tx] }, y4, c4, a4, none⟩, ⟨some d5, .indexAddr t5 (.tmp d4) ix, y5, c5, a5, none⟩, ⟨none, .store e (.tmp d5) y, y6, c6, a6, none⟩, ⟨none, .store t7 b (.tmp d4), y7, c7, a7, none⟩] true) Q ⟨dn N s0, ofl l⟩ := by
  have hA := AR.ev (dr := true) (Q := fun F : St => F = ⟨dn N s', ofl l'⟩) (evX_eq ▸ h) (AR.endD hc rfl)
  refine AWp.regionH (l1 := [o0, o1, o2, o3]) (l2 := [_, _, _, _]) (fun F => F = ⟨dn N s', ofl l'⟩) hm hk hA ?_
  rintro F rfl C0 C a ro m hE hS
  have hl : (dn N s').length = N := dn_length ..
  refine any_take (A := ⟨dn N s', ofl l'⟩) (s := s) (x := x) (ix := ix) (y := y) (b := b) (t := t) (tx := tx) (t5 := t5) (t7 := t7) (e := e) (d4 := d4) (d5 := d5) (id := id) (jd := jd) (n := n) (z := z) hr rfl rfl rfl rfl rfl rfl rfl rfl rfl rfl rfl rfl rfl rfl rfl rfl n1 n2 n3 n4 n5 n6 (by rw [hl]; exact b4) (by rw [hl]; exact b5) nj hst ht ht5 hap hsz hs hn hx hx1 hx2 hx3 hi (by rw [hy]; exact hv) (by rw [hy]; exact hvz) hb hj ht7 hS (fun D a' hS' hE' => ?_)
  rw [hy] at hS'
  refine ⟨_, D, hQ, ?_, rfl, hE.trans hE'⟩
  have e1 : (((St.app ⟨dn N s', ofl l'⟩ (some d4) ⟨.sl (es ++ [vy]) (.own id), [(id, .tip e z (n + 1))]⟩).app (some d5) ⟨.dead, []⟩).app none ⟨.dead, [(jd, .box [.sl (es ++ [vy]) (.own id)])]⟩) = ⟨dn N (putA (putA s' (some d4) (.sl (es ++ [vy]) (.own id))) (some d5) .dead), ofl (wrl (wrl l' [(id, .tip e z (n + 1))]) [(jd, .box [.sl (es ++ [vy]) (.own id)])])⟩ := by
    simp only [St.app, ofl_wrl]
    rw [show (St.put ⟨dn N s', ofl l'⟩ (some d4) (.sl (es ++ [vy]) (.own id))).s = dn N (putA s' (some d4) (.sl (es ++ [vy]) (.own id))) by rw [put_dn]]
    rw [show (St.put ⟨dn N (putA s' (some d4) (.sl (es ++ [vy]) (.own id))), wrs (ofl l') [(id, .tip e z (n + 1))]⟩ (some d5) .dead).s = dn N (putA (putA s' (some d4) (.sl (es ++ [vy]) (.own id))) (some d5) .dead) by rw [put_dn]]
    rfl
  rw [e1] at hS'
  exact hS'
end Go.Proofs.YtlbfgnpadggbgaaGreatDoor
