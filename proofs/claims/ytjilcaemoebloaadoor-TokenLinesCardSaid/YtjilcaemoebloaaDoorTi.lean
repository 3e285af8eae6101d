/- Rules more: interface values; functions that leave the memory below as it is. -/
import Derived.Test.YtjilcaemoebloaaDoorHv
import Derived.Below
import Derived.WideLaws
namespace Go.Proofs.YtjilcaemoebloaaDoor
set_option linter.unusedSimpArgs false
set_option linter.unusedVariables false
set_option linter.unnecessarySimpa false
open Go.RowKit
theorem V.live_ifc : V.ifc.live = true := rfl
theorem V.isAg_ifc : V.ifc.isAg = false := rfl
theorem V.cells_ifc : V.ifc.cells = [V.ifc] := rfl
theorem V.size_ifc : V.ifc.size = 1 := rfl
theorem V.firm_ifc : V.ifc.firm = true := rfl
theorem strip_ifc (g : Bool) : strip g V.ifc = V.ifc := rfl
theorem ren_ifc (g : Nat → Nat) : V.ren g .ifc = .ifc := by rw [V.ren]
theorem IFC : type_of% (And.intro V.live_ifc (And.intro V.isAg_ifc (And.intro V.cells_ifc (And.intro V.size_ifc (And.intro V.firm_ifc @strip_ifc))))) := And.intro V.live_ifc (And.intro V.isAg_ifc (And.intro V.cells_ifc (And.intro V.size_ifc (And.intro V.firm_ifc @strip_ifc))))

theorem Ev.below {C : Cf} {w' : World} (h : Below C.w.heap.size C.w w') : Ev C (C.withW w') where
  os := h.os
  tape := h.tape
  output := h.output
  size := h.size
  av := rfl
  rd := fun a v k => ⟨by
    rw [← k.1]
    exact World.cell?_of_block (h.block _ (World.block_lt_of_cell? _ _ k.1)), k.2⟩
  box := fun _ cs h => ⟨rfl, cs, h⟩
  tip := fun i e z n k => ⟨n, k, Nat.le_refl _, fun _ => ⟨rfl, fun g cur hg hc => ⟨cur, (h.block _ (Array.getElem?_eq_some_iff.1 hc).1).trans hc, rfl⟩⟩⟩
  itr := fun _ s p h => ⟨rfl, s, p, h⟩
  keep := fun b hb _ => h.block b hb
  fresh := fun _ _ h h' => .inl ⟨h, h'⟩
theorem Ok.below {C : Cf} {w' : World} (hC : Ok C) (hb : Below C.w.heap.size C.w w') : Ok (C.withW w') where
  box := fun i cs h => by
    obtain ⟨g, bs, t, h1, h2, h3, h4, h5⟩ := hC.box i cs h
    exact ⟨g, bs, t, h1, (hb.block _ (Array.getElem?_eq_some_iff.1 h2).1).trans h2, h3, h4, fun j hj => (h5 j hj).mono (Ev.below hb)⟩
  tip := fun i e z n g h h' => by
    obtain ⟨cur, h1, h2⟩ := hC.tip i e z n g h h'
    exact ⟨cur, (hb.block _ (Array.getElem?_eq_some_iff.1 h1).1).trans h1, h2⟩
  iter := fun i s p h => by
    obtain ⟨g, h1, h2⟩ := hC.iter i s p h
    exact ⟨g, h1, (hb.block _ (Array.getElem?_eq_some_iff.1 h2).1).trans h2⟩
  inj := hC.inj
  avl := fun b o h => Nat.lt_of_lt_of_le (hC.avl b o h) hb.size
  bav := hC.bav
  gl := hC.gl.mono (Ev.below hb)
/-- A function that may make memory, but writes nowhere else. -/
theorem PC.ofBelow {P : Program} {f : FuncId} {xs : List V} {r : V} (hf : goFn P f = true) (h : ∀ (C : Cf) (vs : Array Value), Ok C → vs.size = xs.length → (∀ i (hi : i < xs.length), R C xs[i] (vs.getD i undef)) →
    Calls P f vs C.w fun e w' => ∃ v, e = .returned v ∧ (∀ D : Cf, R D r v) ∧ Below C.w.heap.size C.w w') : PC P f xs r := by
  refine ⟨hf, fun C vs hst hC hsz hR => ?_⟩
  refine (h C vs hC hsz hR).mono ?_
  rintro e w' ⟨v, rfl, hv, hb⟩
  exact ⟨v, _, _, rfl, ⟨rfl, rfl⟩, C.withW w', rfl, hst, hC.below hb, Ev.below hb, hv _⟩

def ifT (P : Program) (t : TypeId) : Option Bool := (P.underlying t).map fun d => match d with | .interface _ => true | _ => false
theorem step_mkI {P : Program} {o : Oper} {ev : Operand → V} {t : TypeId} {x : Operand} {v : Value} (ho : o.op = .makeInterface t x) (ht : ifT P t = some false) (hx : ev x = .im v) : Step P o ev [] ⟨.im (.iface t v), []⟩ :=
  Step.look fun C ρ _ hR _ => by
    have h1 := hR x (by simp [ho, Op.operands])
    rw [hx] at h1
    have e1 : ρ x = v := h1.im_eq
    refine ⟨.iface t v, ?_, .im rfl⟩
    unfold ifT at ht
    cases hu : P.underlying t with
    | none => rw [hu] at ht; cases ht
    | some d =>
      rw [hu] at ht
      simp only [execOp, ho, e1, Instr.makeInterface, run_underlying hu, Sem.run_bind, Result.andThen_ok]
      cases d <;> first | rfl | (simp at ht)
theorem if_eq {P : Program} {t : TypeId} (ht : ifT P t = some true) : P.underlying t = some (.interface (P.methodsAt t)) := by
  unfold ifT at ht
  cases hu : P.underlying t with
  | none => rw [hu] at ht; cases ht
  | some d =>
    rw [hu] at ht
    cases d <;> simp at ht
    simp [Program.methodsAt, hu]
theorem run_eqI {P : Program} {op : BinOp} {t : TypeId} (ht : ifT P t = some true) (hop : op = .eql ∨ op = .neq) {a : Value} {b : Bool} (ha : (∃ u v, a = .iface u v ∧ b = false) ∨ (a = .nilIface ∧ b = true)) (x : Operand) (w : World) :
    (eqGuard op t x (.const .nilIface) a .nilIface).run P w = .ok () w ∧ (binOp op t a .nilIface).run P w = .ok (.bool (if op = .eql then b else !b)) w := by
  have hu := if_eq ht
  rcases ha with ⟨u, v, rfl, rfl⟩ | ⟨rfl, rfl⟩
  · have h := run_equal_held_nil (w := w) t u v hu
    rcases hop with rfl | rfl
    · exact ⟨by simp [eqGuard], by simp [binOp, h]⟩
    · exact ⟨by simp [eqGuard], by simp [binOp, h]⟩
  · have h := run_equal_nil_nil (w := w) t hu
    rcases hop with rfl | rfl
    · exact ⟨by simp [eqGuard], by simp [binOp, h]⟩
    · exact ⟨by simp [eqGuard], by simp [binOp, h]⟩
theorem step_eqI {P : Program} {o : Oper} {ev : Operand → V} {op : BinOp} {t u : TypeId} {x : Operand} {b : Bool} (ho : o.op = .binOp op t x (.const .nilIface) u) (ht : ifT P t = some true) (hop : op = .eql ∨ op = .neq) (hy : ev (.const .nilIface) = .im .nilIface)
    (hx : (∃ a v, ev x = .im (.iface a v) ∧ b = false) ∨ (ev x = .ifc ∧ b = false) ∨ (ev x = .im .nilIface ∧ b = true)) : Step P o ev [] ⟨.im (.bool (if op = .eql then b else !b)), []⟩ :=
  Step.look fun C ρ _ hR _ => by
    have h1 := hR x (by simp [ho, Op.operands])
    have h2 := hR (.const .nilIface) (by simp [ho, Op.operands])
    rw [hy] at h2
    have e2 : ρ (.const .nilIface) = .nilIface := h2.im_eq
    have ha : (∃ u v, ρ x = .iface u v ∧ b = false) ∨ (ρ x = .nilIface ∧ b = true) := by
      rcases hx with ⟨a, v, hx, hb⟩ | ⟨hx, hb⟩ | ⟨hx, hb⟩
      · rw [hx] at h1; exact .inl ⟨a, v, h1.im_eq, hb⟩
      · rw [hx] at h1
        generalize ρ x = z at h1
        cases h1
        exact .inl ⟨_, _, rfl, hb⟩
      · rw [hx] at h1; exact .inr ⟨h1.im_eq, hb⟩
    obtain ⟨h3, h4⟩ := run_eqI ht hop ha x C.w
    refine ⟨.bool (if op = .eql then b else !b), ?_, .im rfl⟩
    simp only [execOp, ho, e2, Sem.run_bind, h3, Result.andThen_ok, h4, Sem.run_pure]
/-- One operation, by its own rule. -/
theorem AR.stepG {P : Program} {N : Nat} {ops : Array Oper} {dr : Bool} {Q : St → Prop} {o : Oper} {os : List Oper} {k : Nat} {s : List (Nat × V)} {l : List Ent} {acc : List (Nat × List Nat × List Nat)} {v : V} (h1 : Step P o (St.ev ⟨dn N s, ofl l⟩) [] ⟨v, []⟩)
    (hn : AR P ops dr Q os (k + 1) ⟨dn N (putA s o.dst v), ofl l⟩ ((k, [], []) :: acc)) (hg : gd ops o ⟨dn N s, ofl l⟩ = some true) : AR P ops dr Q (o :: os) k ⟨dn N s, ofl l⟩ acc := by
  refine .inr (.inl ⟨hg, [], ⟨v, []⟩, h1, fun _ h => (by cases h), ?_⟩)
  rw [← put_dn N s (ofl l)] at hn
  exact hn
theorem AR.mkI {P : Program} {N : Nat} {ops : Array Oper} {dr : Bool} {Q : St → Prop} {d : Option Tmp} {t : TypeId} {x : Operand} {ty : TypeId} {pos : String} {af : Array Edge} {g : Option (Nat × Bool)} {os : List Oper} {k : Nat} {s : List (Nat × V)} {l : List Ent} {acc : List (Nat × List Nat × List Nat)} {v : Value}
    (hn : AR P ops dr Q os (k + 1) ⟨dn N (putA s d (.im (.iface t v))), ofl l⟩ ((k, [], []) :: acc)) (ht : ifT P t = some false := by kernel_rfl) (hx : St.ev ⟨dn N s, ofl l⟩ x = .im v := by rfl) (hg : gd ops ⟨d, .makeInterface t x, ty, pos, af, g⟩ ⟨dn N s, ofl l⟩ = some true := by rfl) :
    AR P ops dr Q (⟨d, .makeInterface t x, ty, pos, af, g⟩ :: os) k ⟨dn N s, ofl l⟩ acc := AR.stepG (step_mkI rfl ht hx) hn hg
theorem AR.eqI {P : Program} {N : Nat} {ops : Array Oper} {dr : Bool} {Q : St → Prop} {d : Option Tmp} {op : BinOp} {t u : TypeId} {x : Operand} {ty : TypeId} {pos : String} {af : Array Edge} {g : Option (Nat × Bool)} {os : List Oper} {k : Nat} {s : List (Nat × V)} {l : List Ent} {acc : List (Nat × List Nat × List Nat)} {y : V} (b : Bool) {e : Bool}
    (hn : AR P ops dr Q os (k + 1) ⟨dn N (putA s d (.im (.bool e))), ofl l⟩ ((k, [], []) :: acc)) (ht : ifT P t = some true := by kernel_rfl) (hop : op = .eql ∨ op = .neq := by first | exact .inl rfl | exact .inr rfl) (hx : St.ev ⟨dn N s, ofl l⟩ x = y := by rfl)
    (hy : (∃ a v, y = .im (.iface a v) ∧ b = false) ∨ (y = .ifc ∧ b = false) ∨ (y = .im .nilIface ∧ b = true) := by first | exact .inl ⟨_, _, rfl, rfl⟩ | exact .inr (.inl ⟨rfl, rfl⟩) | exact .inr (.inr ⟨rfl, rfl⟩)) (he : (if op = .eql then b else !b) = e := by rfl)
    (hg : gd ops ⟨d, .binOp op t x (.const .nilIface) u, ty, pos, af, g⟩ ⟨dn N s, ofl l⟩ = some true := by rfl) :
    AR P ops dr Q (⟨d, .binOp op t x (.const .nilIface) u, ty, pos, af, g⟩ :: os) k ⟨dn N s, ofl l⟩ acc := by
  subst hx he
  exact AR.stepG (step_eqI rfl ht hop rfl hy) hn hg
/-- The rest of the code is walked once, from each of the states S. -/
theorem AWp.tail {K : Option Nat → Prop} {P : Program} {st0 : Nat → Ent} {Q : Exit → St → Prop} {A : St} {c rest0 : Code} {ι : Type} (S : ι → St) (tail : ∀ i, AWpK K P st0 rest0 Q (S i))
    (walk : ∀ rest, (∀ i, AWpK K P st0 rest Q (S i)) → AWpK K P st0 c (Thn K P st0 rest Q) A) : AWpK K P st0 c (Thn K P st0 rest0 Q) A := walk rest0 tail
theorem AWp.cut {K : Option Nat → Prop} {P : Program} {st0 : Nat → Ent} {Q : Exit → St → Prop} {c : Code} {N : Nat} {s : List (Nat × V)} {l : List Ent} (n : Nat) (s' : List (Nat × V)) (l' : List Ent) (h : AWpK K P st0 c Q ⟨dn N s', ofl l'⟩) (hl : l.take n = l') (hw : WkA s s') (h0 : ∀ i, st0 i ≠ .free → i < n) (hs : idsA (ltB n) s' = true)
    (hb : l'.all (entOk (ltB n)) = true) : AWpK K P st0 c Q ⟨dn N s, ofl l⟩ := by
  refine AWp.weak (ltB n) (dn N s') ?_ (by rw [dn_length]; exact (dn_length N s).symm) (fun t => ?_) (fun i hi => by simpa [ltB] using h0 i hi) (idsL_dn hs N) (fun i cs h1 h2 => ?_)
  case refine_3 =>
    subst hl
    have hi : i < n := by simpa [ltB] using h2
    have hil : i < l.length := by
      refine Nat.lt_of_not_le fun hle => ?_
      have : ofl l i = .free := by simp [ofl, List.getD, List.getElem?_eq_none hle]
      rw [show (St.mk (dn N s) (ofl l)).st i = ofl l i from rfl, this] at h1
      cases h1
    have he : l[i] = .box cs := by simpa [ofl, List.getD, hil] using h1
    have := List.all_eq_true.1 hb l[i] (by
      refine List.mem_iff_getElem?.2 ⟨i, ?_⟩
      simp [List.getElem?_take, hi, hil])
    rw [he] at this
    exact this
  · have e : (fun i => if ltB n i = true then ofl l i else Ent.free) = ofl l' := by
      funext i
      subst hl
      unfold ofl ltB
      by_cases hi : i < n
      · simp [hi, List.getD, List.getElem?_take]
      · simp [hi, List.getD, List.getElem?_take]
    rw [e]
    exact h
  · show Wk ((dn N s).getD t .dead) ((dn N s').getD t .dead)
    rw [getD_dn, getD_dn]
    split
    · exact hw.look t
    · exact .dead _
theorem AWp.cutP {K : Option Nat → Prop} {P : Program} {st0 : Nat → Ent} {Q : Exit → St → Prop} {c : Code} {N : Nat} {s : List (Nat × V)} {l : List Ent} {E : Prop} (n : Nat) (s' : List (Nat × V)) (l' : List Ent) (fi : E) (h : AWpK K P st0 c Q ⟨dn N s', ofl l'⟩) (hl : l.take n = l' := by rfl)
    (hw : WkA s s' := by repeat (first | exact WkA.nil | refine WkA.cons (Wk.refl _) ?_)) (h0 : ∀ i, st0 i ≠ .free → i < n := by exact fun i hi => by first | exact absurd rfl hi | exact Nat.lt_of_lt_of_le (ofl_lt hi) (by simp))
    (hs : E → idsA (ltB n) s' = true := by intro f; first | rfl | simp only [List.length_cons, List.length_nil, Nat.reduceAdd, V.ids, V.idsL, idsA, entOk, List.all_cons, List.all_nil, Bool.and_self, Bool.and_true, Bool.true_and, ltB, noId, Nat.reduceLT, decide_true, Bool.true_eq_false, tyV_id, fdV_id, tyL_id, fdL_id, f]) (hb : E → l'.all (entOk (ltB n)) = true := by intro f; first | rfl | simp only [List.length_cons, List.length_nil, Nat.reduceAdd, V.ids, V.idsL, idsA, entOk, List.all_cons, List.all_nil, Bool.and_self, Bool.and_true, Bool.true_and, ltB, noId, Nat.reduceLT, decide_true, Bool.true_eq_false, tyV_id, fdV_id, tyL_id, fdL_id, f]) : AWpK K P st0 c Q ⟨dn N s, ofl l⟩ :=
  AWp.cut n s' l' h hl hw h0 (hs fi) (hb fi)
end Go.Proofs.YtjilcaemoebloaaDoor
