import Derived.Test.YtmbmmckagcdapaaGreatDoorK10
import Derived.Test.YtmbmmckagcdapaaGreatDoorK02
import Derived.Below
import Derived.WideLaws
set_option linter.unusedSimpArgs false
set_option linter.unusedVariables false
set_option linter.unnecessarySimpa false
namespace Go.Proofs.YtmbmmckagcdapaaGreatDoor
open Go.RowKit
mutual
def ndV : Nd → V
  | .mk k w n e l el cs => .ag [.im (.int .i64 k), .im (.int .i64 w), .im (.string n), .sl (exL e) .ro, .sl (ndL l) .ro, .sl (ndL el) .ro, .sl (ndC cs) .ro]
def ndL : List Nd → List V
  | [] => []
  | t :: r => ndV t :: ndL r
def ndC : List (List Nd) → List V
  | [] => []
  | c :: r => .sl (ndL c) .ro :: ndC r
end
def nlV (c : List Nd) : V := .sl (c.map ndV) .ro
theorem ndL_eq : ∀ l, ndL l = l.map ndV
  | [] => by simp [ndL]
  | t :: r => by simp [ndL, ndL_eq r]
theorem ndC_eq : ∀ l, ndC l = l.map nlV
  | [] => by simp [ndC]
  | t :: r => by simp [ndC, ndC_eq r, ndL_eq, nlV]
theorem ndV_eq (t : Nd) : ndV t = .ag [.im (.int .i64 t.kind), .im (.int .i64 t.width), .im (.string t.name), .sl (t.e.map exV) .ro, .sl (t.l.map ndV) .ro, .sl (t.el.map ndV) .ro, .sl (t.cs.map nlV) .ro] := by
  cases t; simp [ndV, ndL_eq, ndC_eq, exL_eq, Nd.kind, Nd.width, Nd.name, Nd.e, Nd.l, Nd.el, Nd.cs]
theorem ndV_mk (k w : Int) (n : ByteArray) (e : List Ex) (l el : List Nd) (cs : List (List Nd)) : ndV (.mk k w n e l el cs) = .ag [.im (.int .i64 k), .im (.int .i64 w), .im (.string n), .sl (e.map exV) .ro, .sl (l.map ndV) .ro, .sl (el.map ndV) .ro, .sl (cs.map nlV) .ro] := ndV_eq _
theorem ndV_isAg (t : Nd) : (ndV t).isAg = true := by rw [ndV_eq]; rfl
theorem ndV_live (t : Nd) : (ndV t).live = true := by rw [ndV_eq]; rfl
theorem ndV_firm (t : Nd) : (ndV t).firm = true := by rw [ndV_eq]; rfl
theorem ndV_strip (g : Bool) (t : Nd) : strip g (ndV t) = ndV t := by rw [ndV_eq]; rfl
theorem ndV_size (t : Nd) : (ndV t).size = 7 := by rw [ndV_eq]; rfl
theorem ndV_cells (t : Nd) : (ndV t).cells = [.im (.int .i64 t.kind), .im (.int .i64 t.width), .im (.string t.name), .sl (t.e.map exV) .ro, .sl (t.l.map ndV) .ro, .sl (t.el.map ndV) .ro, .sl (t.cs.map nlV) .ro] := by rw [ndV_eq]; rfl
theorem ndV_id (p : Nat → Bool) : ∀ t : Nd, (ndV t).ids p = true := by
  refine Nd.induct fun k w n e l el cs h1 h2 h3 => ?_
  rw [ndV_mk]
  have hc : V.idsL p (cs.map nlV) = true := idsL_map' cs fun c hc => by
    simp only [nlV, V.ids, Bool.and_true]; exact idsL_map' c (h3 c hc)
  simp [V.ids, V.idsL, idsL_map' l h1, idsL_map' el h2, exL_id, hc]
theorem ndLs_id (p : Nat → Bool) (l : List Nd) : V.idsL p (l.map ndV) = true := idsL_map (ndV_id p) l
theorem nlV_id (p : Nat → Bool) (c : List Nd) : (nlV c).ids p = true := by simp only [nlV, V.ids, Bool.and_true]; exact ndLs_id p c
theorem nlVs_id (p : Nat → Bool) (l : List (List Nd)) : V.idsL p (l.map nlV) = true := idsL_map (nlV_id p) l
theorem ndV_ren (g : Nat → Nat) (t : Nd) : V.ren g (ndV t) = ndV t := V.ren_id g _ (ndV_id _ t)
theorem ndLs_ren (g : Nat → Nat) (l : List Nd) : V.renL g (l.map ndV) = l.map ndV := V.renL_id g _ (ndLs_id _ l)
theorem nlVs_ren (g : Nat → Nat) (l : List (List Nd)) : V.renL g (l.map nlV) = l.map nlV := V.renL_id g _ (nlVs_id _ l)
theorem nlV_live (c : List Nd) : (nlV c).live = true := rfl
theorem nlV_size (c : List Nd) : (nlV c).size = 1 := rfl
theorem nlV_isAg (c : List Nd) : (nlV c).isAg = false := rfl
theorem nlV_cells (c : List Nd) : (nlV c).cells = [nlV c] := rfl
theorem nlV_firm (c : List Nd) : (nlV c).firm = true := rfl
theorem nlV_strip (g : Bool) (c : List Nd) : strip g (nlV c) = nlV c := rfl
theorem ND : type_of% (AI @ndV_firm (AI @ndV_strip (AI @ndV_live (AI @ndV_size (AI @ndV_isAg (AI @ndV_cells (AI @nlV_firm (AI @nlV_strip (AI @nlV_live (AI @nlV_size (AI @nlV_isAg (AI @nlV_cells (AI @List.getElem?_map.{0, 0} @Int.natCast_nonneg))))))))))))) :=
  AI @ndV_firm (AI @ndV_strip (AI @ndV_live (AI @ndV_size (AI @ndV_isAg (AI @ndV_cells (AI @nlV_firm (AI @nlV_strip (AI @nlV_live (AI @nlV_size (AI @nlV_isAg (AI @nlV_cells (AI @List.getElem?_map.{0, 0} @Int.natCast_nonneg))))))))))))
def scV (s : Sec) : V := .ag [.im (.string s.name), .im (.int .u32 s.addr), .sl (s.data.map fun b => .im (.int .u8 b.toNat)) .ro, .im (.bool s.wr), .im (.bool s.exe)]
def fnV (f : Fun) : V := .ag [.im (.string f.name), .sl (f.vars.map vaV) .ro, .sl (f.body.map ndV) .ro]
def unV (u : Un) : V := .ag [.sl (u.globals.map vaV) .ro, .sl (u.data.map scV) .ro, .sl (u.funcs.map fnV) .ro]
def fitNB : Nd → Bool := Nd.para fun t r1 r2 r3 => decide (I64 t.kind ∧ I64 t.width) && decide (t.name.size ≤ 9223372036854775807) && decide (t.e.length ≤ 4194304 ∧ t.l.length ≤ 4194304 ∧ t.el.length ≤ 4194304 ∧ t.cs.length ≤ 4194304) && t.e.all fitEB && t.cs.all (fun c => decide (c.length ≤ 4194304)) && r1.all id && r2.all id && r3.all (·.all id)
def fitN (t : Nd) : Prop := fitNB t = true
def fitNL (l : List Nd) : Prop := l.length ≤ 4194304 ∧ ∀ t ∈ l, fitN t
theorem fitN_inv {t : Nd} (h : fitN t) : (I64 t.kind ∧ I64 t.width) ∧ t.name.size ≤ 9223372036854775807 ∧ (t.e.length ≤ 4194304 ∧ ∀ x ∈ t.e, fitE x) ∧ fitNL t.l ∧ fitNL t.el ∧ t.cs.length ≤ 4194304 ∧ ∀ c ∈ t.cs, fitNL c := by
  obtain ⟨k, w, n, e, l, el, cs⟩ := t
  have q : fitNB (.mk k w n e l el cs) = _ := Nd.para_mk _ k w n e l el cs
  unfold fitN at h
  rw [q] at h
  simp only [Bool.and_eq_true, Nd.kind, Nd.width, Nd.name, Nd.e, Nd.l, Nd.el, Nd.cs, List.all_map, List.all_eq_true] at h
  obtain ⟨⟨⟨⟨⟨⟨⟨h1, h2⟩, h3⟩, h4⟩, h5⟩, h6⟩, h7⟩, h8⟩ := h
  have h3 := of_decide_eq_true h3
  exact ⟨of_decide_eq_true h1, of_decide_eq_true h2, ⟨h3.1, h4⟩, ⟨h3.2.1, h6⟩, ⟨h3.2.2.1, h7⟩, h3.2.2.2, fun c hc => ⟨of_decide_eq_true (h5 c hc), fun x hx => by
    have := h8 c hc; simp only [Function.comp, List.all_map, List.all_eq_true] at this
    exact this x hx⟩⟩
theorem scV_eq (s : Sec) : scV s = .ag [.im (.string s.name), .im (.int .u32 s.addr), .sl (s.data.map fun b => .im (.int .u8 b.toNat)) .ro, .im (.bool s.wr), .im (.bool s.exe)] := rfl
theorem scV_live (v : Sec) : (scV v).live = true := rfl
theorem scV_size (v : Sec) : (scV v).size = 5 := rfl
theorem scV_isAg (v : Sec) : (scV v).isAg = true := rfl
theorem scV_firm (v : Sec) : (scV v).firm = true := rfl
theorem scV_strip (g : Bool) (v : Sec) : strip g (scV v) = scV v := rfl
theorem scV_cells (s : Sec) : (scV s).cells = [.im (.string s.name), .im (.int .u32 s.addr), .sl (s.data.map fun b => .im (.int .u8 b.toNat)) .ro, .im (.bool s.wr), .im (.bool s.exe)] := rfl
theorem by_id (p : Nat → Bool) (l : List UInt8) : V.idsL p (l.map fun b => V.im (.int .u8 b.toNat)) = true := idsL_map (fun _ => rfl) l
theorem by_ren (g : Nat → Nat) (l : List UInt8) : V.renL g (l.map fun b => V.im (.int .u8 b.toNat)) = l.map fun b => V.im (.int .u8 b.toNat) := V.renL_id g _ (by_id _ l)
theorem scV_id (p : Nat → Bool) (v : Sec) : (scV v).ids p = true := by simp [scV, V.ids, V.idsL, by_id]
theorem scL_id (p : Nat → Bool) (l : List Sec) : V.idsL p (l.map scV) = true := idsL_map (scV_id p) l
theorem scV_ren (g : Nat → Nat) (t : Sec) : V.ren g (scV t) = scV t := V.ren_id g _ (scV_id _ t)
theorem scL_ren (g : Nat → Nat) (l : List Sec) : V.renL g (l.map scV) = l.map scV := V.renL_id g _ (scL_id _ l)
theorem scL_all (l : List Sec) : allZ 5 (l.map scV) = true := by
  unfold allZ
  rw [List.all_map]
  exact List.all_eq_true.2 fun x _ => rfl
theorem scL_allS (l : List Sec) : allS 5 (l.map scV) = true := by
  unfold allS
  rw [List.all_map]
  exact List.all_eq_true.2 fun x _ => rfl
theorem SCT : type_of% (AI @scV_firm (AI @scV_strip (AI @scV_live (AI @scV_size (AI @scV_isAg (AI @scV_cells (AI @List.getElem?_map.{0, 0} @Int.natCast_nonneg))))))) :=
  AI @scV_firm (AI @scV_strip (AI @scV_live (AI @scV_size (AI @scV_isAg (AI @scV_cells (AI @List.getElem?_map.{0, 0} @Int.natCast_nonneg))))))
theorem fnV_eq (f : Fun) : fnV f = .ag [.im (.string f.name), .sl (f.vars.map vaV) .ro, .sl (f.body.map ndV) .ro] := rfl
theorem fnV_id (p : Nat → Bool) (f : Fun) : (fnV f).ids p = true := by simp [fnV, V.ids, V.idsL, vaL_id, ndLs_id]
theorem fnL_id (p : Nat → Bool) (l : List Fun) : V.idsL p (l.map fnV) = true := idsL_map (fnV_id p) l
theorem unV_eq (u : Un) : unV u = .ag [.sl (u.globals.map vaV) .ro, .sl (u.data.map scV) .ro, .sl (u.funcs.map fnV) .ro] := rfl
theorem fnV_live (v : Fun) : (fnV v).live = true := rfl
theorem fnV_size (v : Fun) : (fnV v).size = 3 := rfl
theorem fnV_isAg (v : Fun) : (fnV v).isAg = true := rfl
theorem fnV_firm (v : Fun) : (fnV v).firm = true := rfl
theorem fnV_strip (g : Bool) (v : Fun) : strip g (fnV v) = fnV v := rfl
theorem fnV_cells (f : Fun) : (fnV f).cells = [.im (.string f.name), .sl (f.vars.map vaV) .ro, .sl (f.body.map ndV) .ro] := rfl
theorem FU : type_of% (AI @fnV_firm (AI @fnV_strip (AI @fnV_live (AI @fnV_size (AI @fnV_isAg (AI @fnV_cells (AI @List.getElem?_map.{0, 0} @Int.natCast_nonneg))))))) :=
  AI @fnV_firm (AI @fnV_strip (AI @fnV_live (AI @fnV_size (AI @fnV_isAg (AI @fnV_cells (AI @List.getElem?_map.{0, 0} @Int.natCast_nonneg))))))
theorem unV_id (p : Nat → Bool) (u : Un) : (unV u).ids p = true := by simp [unV, V.ids, V.idsL, vaL_id, scL_id, fnL_id]
theorem fnV_ren (g : Nat → Nat) (t : Fun) : V.ren g (fnV t) = fnV t := V.ren_id g _ (fnV_id _ t)
theorem fnL_ren (g : Nat → Nat) (l : List Fun) : V.renL g (l.map fnV) = l.map fnV := V.renL_id g _ (fnL_id _ l)
theorem fnL_all (l : List Fun) : allZ 3 (l.map fnV) = true := by
  unfold allZ
  rw [List.all_map]
  exact List.all_eq_true.2 fun x _ => rfl
theorem unV_ren (g : Nat → Nat) (u : Un) : V.ren g (unV u) = unV u := V.ren_id g _ (unV_id _ u)
theorem unV_live (u : Un) : (unV u).live = true := rfl
theorem unV_size (u : Un) : (unV u).size = 3 := rfl
theorem unV_isAg (u : Un) : (unV u).isAg = true := rfl
theorem unV_cells (u : Un) : (unV u).cells = [.sl (u.globals.map vaV) .ro, .sl (u.data.map scV) .ro, .sl (u.funcs.map fnV) .ro] := rfl
theorem unV_firm (u : Un) : (unV u).firm = true := rfl
theorem unV_strip (g : Bool) (u : Un) : strip g (unV u) = unV u := rfl
theorem take_snoc {α β : Type} (f : α → β) {l : List α} {m : Nat} (h : m < l.length) : (l.take m).map f ++ [f l[m]] = (l.take (m + 1)).map f := by
  rw [List.take_succ_eq_append_getElem h, List.map_append]; rfl
theorem Ev.below {C : Cf} {w' : World} (h : Below C.w.heap.size C.w w') : Ev C (C.withW w') where
  os := h.os
  tape := h.tape
  output := h.output
  size := h.size
  av := rfl
  rd := fun a v k => ⟨by
    rw [← k.1]
    exact World.cell?_of_block (h.block _ (World.block_lt_of_cell? _ _ k.1)), k.2⟩
  box := fun _ cs h => ⟨rfl, cs, h⟩
  tip := fun i e z n k => ⟨n, k, Nat.le_refl _, fun _ => ⟨rfl, fun g cur hg hc => ⟨cur, (h.block _ (Array.getElem?_eq_some_iff.1 hc).1).trans hc, rfl⟩⟩⟩
  itr := fun _ s p h => ⟨rfl, s, p, h⟩
  keep := fun b hb _ => h.block b hb
  fresh := fun _ _ h h' => .inl ⟨h, h'⟩
  shp := fun _ _ _ bs _ _ _ k => ⟨bs, (h.block _ (Array.getElem?_eq_some_iff.1 k).1).trans k, rfl⟩
theorem Ok.below {C : Cf} {w' : World} (hC : Ok C) (hb : Below C.w.heap.size C.w w') : Ok (C.withW w') where
  box := fun i cs h => by
    obtain ⟨g, bs, t, h1, h2, h3, h4, h5⟩ := hC.box i cs h; exact ⟨g, bs, t, h1, (hb.block _ (Array.getElem?_eq_some_iff.1 h2).1).trans h2, h3, h4, fun j hj => (h5 j hj).mono (Ev.below hb)⟩
  tip := fun i e z n g h h' => by
    obtain ⟨cur, h1, h2⟩ := hC.tip i e z n g h h'; exact ⟨cur, (hb.block _ (Array.getElem?_eq_some_iff.1 h1).1).trans h1, h2⟩
  iter := fun i s p h => by
    obtain ⟨g, h1, h2⟩ := hC.iter i s p h; exact ⟨g, h1, (hb.block _ (Array.getElem?_eq_some_iff.1 h2).1).trans h2⟩
  inj := hC.inj
  avl := fun b o h => Nat.lt_of_lt_of_le (hC.avl b o h) hb.size
  bav := hC.bav
  gl := hC.gl.mono (Ev.below hb)
theorem PC.ofBelow {P : Program} {f : FuncId} {xs : List V} {r : V} (hf : goFn P f = true) (h : ∀ (C : Cf) (vs : Array Value), Ok C → vs.size = xs.length → (∀ i (hi : i < xs.length), R C xs[i] (vs.getD i undef)) →
    Calls P f vs C.w fun e w' => ∃ v, e = .returned v ∧ (∀ D : Cf, R D r v) ∧ Below C.w.heap.size C.w w') : PC P f xs r := by
  refine ⟨hf, fun C vs hst hC hsz hR => ?_⟩
  refine (h C vs hC hsz hR).mono ?_
  rintro e w' ⟨v, rfl, hv, hb⟩
  exact ⟨v, _, _, rfl, ⟨rfl, rfl⟩, C.withW w', rfl, hst, hC.below hb, Ev.below hb, hv _⟩
def ifT (P : Program) (t : TypeId) : Option Bool := (P.underlying t).map fun d => match d with | .interface _ => true | _ => false
theorem step_mkI {P : Program} {o : Oper} {ev : Operand → V} {t : TypeId} {x : Operand} {v : Value} (ho : o.op = .makeInterface t x) (ht : ifT P t = some false) (hx : ev x = .im v) : Step P o ev [] ⟨.im (.iface t v), []⟩ :=
  Step.look fun C ρ _ hR _ => by
    have h1 := hR x (by simp [ho, Op.operands])
    rw [hx] at h1; have e1 : ρ x = v := h1.im_eq; refine ⟨.iface t v, ?_, .im rfl⟩; unfold ifT at ht; cases hu : P.underlying t with
    | none => rw [hu] at ht; cases ht
    | some d =>
      rw [hu] at ht; simp only [execOp, ho, e1, Instr.makeInterface, run_underlying hu, Sem.run_bind, Result.andThen_ok]; cases d <;> first | rfl | (simp at ht)
theorem if_eq {P : Program} {t : TypeId} (ht : ifT P t = some true) : P.underlying t = some (.interface (P.methodsAt t)) := by
  unfold ifT at ht
  cases hu : P.underlying t with
  | none => rw [hu] at ht; cases ht
  | some d =>
    rw [hu] at ht; cases d <;> simp at ht
    simp [Program.methodsAt, hu]
theorem run_eqI {P : Program} {op : BinOp} {t : TypeId} (ht : ifT P t = some true) (hop : op = .eql ∨ op = .neq) {a : Value} {b : Bool} (ha : (∃ u v, a = .iface u v ∧ b = false) ∨ (a = .nilIface ∧ b = true)) (x : Operand) (w : World) :
    (eqGuard op t x (.const .nilIface) a .nilIface).run P w = .ok () w ∧ (binOp op t a .nilIface).run P w = .ok (.bool (if op = .eql then b else !b)) w := by
  have hu := if_eq ht
  rcases ha with ⟨u, v, rfl, rfl⟩ | ⟨rfl, rfl⟩
  · have h := run_equal_held_nil (w := w) t u v hu
    rcases hop with rfl | rfl
    · exact ⟨by simp [eqGuard], by simp [binOp, h]⟩
    · exact ⟨by simp [eqGuard], by simp [binOp, h]⟩
  · have h := run_equal_nil_nil (w := w) t hu
    rcases hop with rfl | rfl
    · exact ⟨by simp [eqGuard], by simp [binOp, h]⟩
    · exact ⟨by simp [eqGuard], by simp [binOp, h]⟩
theorem step_eqI {P : Program} {o : Oper} {ev : Operand → V} {op : BinOp} {t u : TypeId} {x : Operand} {b : Bool} (ho : o.op = .binOp op t x (.const .nilIface) u) (ht : ifT P t = some true) (hop : op = .eql ∨ op = .neq) (hy : ev (.const .nilIface) = .im .nilIface)
    (hx : (∃ a v, ev x = .im (.iface a v) ∧ b = false) ∨ (ev x = .ifc ∧ b = false) ∨ (ev x = .im .nilIface ∧ b = true)) : Step P o ev [] ⟨.im (.bool (if op = .eql then b else !b)), []⟩ :=
  Step.look fun C ρ _ hR _ => by
    have h1 := hR x (by simp [ho, Op.operands])
    have h2 := hR (.const .nilIface) (by simp [ho, Op.operands])
    rw [hy] at h2; have e2 : ρ (.const .nilIface) = .nilIface := h2.im_eq
    have ha : (∃ u v, ρ x = .iface u v ∧ b = false) ∨ (ρ x = .nilIface ∧ b = true) := by
      rcases hx with ⟨a, v, hx, hb⟩ | ⟨hx, hb⟩ | ⟨hx, hb⟩
      · rw [hx] at h1; exact .inl ⟨a, v, h1.im_eq, hb⟩
      · rw [hx] at h1
        generalize ρ x = z at h1; cases h1
        exact .inl ⟨_, _, rfl, hb⟩
      · rw [hx] at h1; exact .inr ⟨h1.im_eq, hb⟩
    obtain ⟨h3, h4⟩ := run_eqI ht hop ha x C.w; refine ⟨.bool (if op = .eql then b else !b), ?_, .im rfl⟩
    simp only [execOp, ho, e2, Sem.run_bind, h3, Result.andThen_ok, h4, Sem.run_pure]
theorem AR.stepG {P : Program} {N : Nat} {ops : Array Oper} {dr : Bool} {Q : Exit → St → Prop} {o : Oper} {os : List Oper} {k : Nat} {s : List (Nat × V)} {l : List Ent} {acc : List (Nat × List Nat × List Nat)} {v : V} (h1 : Step P o (St.ev ⟨dn N s, ofl l⟩) [] ⟨v, []⟩)
    (hn : AR P ops dr Q os (k + 1) ⟨dn N (putA s o.dst v), ofl l⟩ ((k, [], []) :: acc)) (hg : gd ops o ⟨dn N s, ofl l⟩ = some true) : AR P ops dr Q (o :: os) k ⟨dn N s, ofl l⟩ acc := by
  refine .inr (.inl ⟨hg, [], ⟨v, []⟩, h1, fun _ h => (by cases h), ?_⟩)
  rw [← put_dn N s (ofl l)] at hn
  exact hn
theorem AR.mkI {P : Program} {N : Nat} {ops : Array Oper} {dr : Bool} {Q : Exit → St → Prop} {d : Option Tmp} {t : TypeId} {x : Operand} {ty : TypeId} {pos : String} {af : Array Edge} {g : Option (Nat × Bool)} {os : List Oper} {k : Nat} {s : List (Nat × V)} {l : List Ent} {acc : List (Nat × List Nat × List Nat)} {v : Value}
    (hn : AR P ops dr Q os (k + 1) ⟨dn N (putA s d (.im (.iface t v))), ofl l⟩ ((k, [], []) :: acc)) (ht : ifT P t = some false := by kernel_rfl) (hx : St.ev ⟨dn N s, ofl l⟩ x = .im v := by rfl) (hg : gd ops ⟨d, .makeInterface t x, ty, pos, af, g⟩ ⟨dn N s, ofl l⟩ = some true := by rfl) :
    AR P ops dr Q (⟨d, .makeInterface t x, ty, pos, af, g⟩ :: os) k ⟨dn N s, ofl l⟩ acc := AR.stepG (step_mkI rfl ht hx) hn hg
theorem AR.eqI {P : Program} {N : Nat} {ops : Array Oper} {dr : Bool} {Q : Exit → St → Prop} {d : Option Tmp} {op : BinOp} {t u : TypeId} {x : Operand} {ty : TypeId} {pos : String} {af : Array Edge} {g : Option (Nat × Bool)} {os : List Oper} {k : Nat} {s : List (Nat × V)} {l : List Ent} {acc : List (Nat × List Nat × List Nat)} {y : V} (b : Bool) {e : Bool}
    (hn : AR P ops dr Q os (k + 1) ⟨dn N (putA s d (.im (.bool e))), ofl l⟩ ((k, [], []) :: acc)) (ht : ifT P t = some true := by kernel_rfl) (hop : op = .eql ∨ op = .neq := by first | exact .inl rfl | exact .inr rfl) (hx : St.ev ⟨dn N s, ofl l⟩ x = y := by rfl)
    (hy : (∃ a v, y = .im (.iface a v) ∧ b = false) ∨ (y = .ifc ∧ b = false) ∨ (y = .im .nilIface ∧ b = true) := by first | exact .inl ⟨_, _, rfl, rfl⟩ | exact .inr (.inl ⟨rfl, rfl⟩) | exact .inr (.inr ⟨rfl, rfl⟩)) (he : (if op = .eql then b else !b) = e := by rfl)
    (hg : gd ops ⟨d, .binOp op t x (.const .nilIface) u, ty, pos, af, g⟩ ⟨dn N s, ofl l⟩ = some true := by rfl) :
    AR P ops dr Q (⟨d, .binOp op t x (.const .nilIface) u, ty, pos, af, g⟩ :: os) k ⟨dn N s, ofl l⟩ acc := by
  subst hx he
  exact AR.stepG (step_eqI rfl ht hop rfl hy) hn hg
theorem AWp.tail {K : Ro → Prop} {P : Program} {st0 : Nat → Ent} {Q : Exit → St → Prop} {A : St} {c rest0 : Code} {ι : Type} (S : ι → St) (tail : ∀ i, AWpK K P st0 rest0 Q (S i))
    (walk : ∀ rest, (∀ i, AWpK K P st0 rest Q (S i)) → AWpK K P st0 c (Thn K P st0 rest Q) A) : AWpK K P st0 c (Thn K P st0 rest0 Q) A := walk rest0 tail
theorem AWp.cut {K : Ro → Prop} {P : Program} {st0 : Nat → Ent} {Q : Exit → St → Prop} {c : Code} {N : Nat} {s : List (Nat × V)} {l : List Ent} (n : Nat) (s' : List (Nat × V)) (l' : List Ent) (h : AWpK K P st0 c Q ⟨dn N s', ofl l'⟩) (hl : l.take n = l') (hw : WkA s s') (h0 : ∀ i, st0 i ≠ .free → i < n) (hs : idsA (ltB n) s' = true)
    (hb : l'.all (entOk (ltB n)) = true) : AWpK K P st0 c Q ⟨dn N s, ofl l⟩ := by
  refine AWp.weak (ltB n) (dn N s') ?_ (by rw [dn_length]; exact (dn_length N s).symm) (fun t => ?_) (fun i hi => by simpa [ltB] using h0 i hi) (idsL_dn hs N) (fun i cs h1 h2 => ?_)
  case refine_3 =>
    subst hl; have hi : i < n := by simpa [ltB] using h2
    have hil : i < l.length := by
      refine Nat.lt_of_not_le fun hle => ?_
      have : ofl l i = .free := by simp [ofl, List.getD, List.getElem?_eq_none hle]
      rw [show (St.mk (dn N s) (ofl l)).st i = ofl l i from rfl, this] at h1
      cases h1
    have he : l[i] = .box cs := by simpa [ofl, List.getD, hil] using h1
    have := List.all_eq_true.1 hb l[i] (by
      refine List.mem_iff_getElem?.2 ⟨i, ?_⟩
      simp [List.getElem?_take, hi, hil])
    rw [he] at this; exact this
  · have e : (fun i => if ltB n i = true then ofl l i else Ent.free) = ofl l' := by
      funext i
      subst hl; unfold ofl ltB
      by_cases hi : i < n
      · simp [hi, List.getD, List.getElem?_take]
      · simp [hi, List.getD, List.getElem?_take]
    rw [e]; exact h
  · show Wk ((dn N s).getD t .dead) ((dn N s').getD t .dead)
    rw [getD_dn, getD_dn]; split
    · exact hw.look t
    · exact .dead _
theorem AWp.cutP {K : Ro → Prop} {P : Program} {st0 : Nat → Ent} {Q : Exit → St → Prop} {c : Code} {N : Nat} {s : List (Nat × V)} {l : List Ent} {E : Prop} (n : Nat) (s' : List (Nat × V)) (l' : List Ent) (fi : E) (h : AWpK K P st0 c Q ⟨dn N s', ofl l'⟩) (hl : l.take n = l' := by rfl)
    (hw : WkA s s' := by repeat (first | exact WkA.nil | refine WkA.cons (Wk.refl _) ?_)) (h0 : ∀ i, st0 i ≠ .free → i < n := by exact fun i hi => by first | exact absurd rfl hi | exact Nat.lt_of_lt_of_le (ofl_lt hi) (by simp))
    (hs : E → idsA (ltB n) s' = true := by intro f; first | rfl | simp only [List.length_cons, List.length_nil, Nat.reduceAdd, V.ids, V.idsL, idsA, entOk, List.all_cons, List.all_nil, Bool.and_self, Bool.and_true, Bool.true_and, ltB, noId, Nat.reduceLT, decide_true, Bool.true_eq_false, tyV_id, fdV_id, tyL_id, fdL_id, f]) (hb : E → l'.all (entOk (ltB n)) = true := by intro f; first | rfl | simp only [List.length_cons, List.length_nil, Nat.reduceAdd, V.ids, V.idsL, idsA, entOk, List.all_cons, List.all_nil, Bool.and_self, Bool.and_true, Bool.true_and, ltB, noId, Nat.reduceLT, decide_true, Bool.true_eq_false, tyV_id, fdV_id, tyL_id, fdL_id, f]) : AWpK K P st0 c Q ⟨dn N s, ofl l⟩ :=
  AWp.cut n s' l' h hl hw h0 (hs fi) (hb fi)
end Go.Proofs.YtmbmmckagcdapaaGreatDoor
