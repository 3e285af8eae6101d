import Derived.Test.YtmbmmckagcdapaaGreatDoorJ11
import Derived.Test.YtmbmmckagcdapaaGreatDoorJ02
import Derived.Lib.AppendZeros
import Derived.Lib.SliceRun
import Derived.Lib.Walk
import Derived.Shelf.RegionOpenPlain
import Derived.Lib.SmallJoins
set_option linter.unusedSimpArgs false
set_option linter.unusedVariables false
set_option linter.unnecessarySimpa false
namespace Go.Proofs.YtmbmmckagcdapaaGreatDoor
open Go.RowKit
theorem Kin.not_box {st st' : Nat → Ent} (h : Kin st st') {i : Nat} (hn : ∀ cs, st i ≠ .box cs) : st' i = st i := by
  rcases h i with h1 | ⟨cs, _, h1, _⟩
  · exact h1
  · exact absurd h1 (hn cs)
theorem Kin.free {st st' : Nat → Ent} (h : Kin st st') {i : Nat} (hi : st' i ≠ .free) : st i ≠ .free := by
  rcases h i with h1 | ⟨cs, _, h1, _⟩
  · rwa [← h1]
  · rw [h1]; simp
theorem Ev.wst {C : Cf} {st : Nat → Ent} (h : Kin C.st st) : Ev C (C.wst st) where
  os := rfl
  tape := rfl
  output := rfl
  size := Nat.le_refl _
  av := rfl
  rd := fun a v hr => ⟨hr.1, Cf.wst_fix h hr.2⟩
  box := fun i cs hb => ⟨rfl, by
    rcases h i with h1 | ⟨_, cs', _, h1⟩
    · exact ⟨cs, h1.trans hb⟩
    · exact ⟨cs', h1⟩⟩
  tip := fun i e z n ht => ⟨n, (h.not_box fun cs hc => by rw [ht] at hc; cases hc).trans ht, Nat.le_refl _, fun _ => ⟨rfl, fun _ cur _ hc => ⟨cur, hc, rfl⟩⟩⟩
  itr := fun i s p hb => ⟨rfl, s, p, (h.not_box fun cs hc => by rw [hb] at hc; cases hc).trans hb⟩
  keep := fun _ _ _ => rfl
  fresh := fun i b hi hs => .inl ⟨h.free hi, hs⟩
  shp := fun _ _ _ bs _ _ _ k => ⟨bs, k, rfl⟩
theorem Ok.wst {C : Cf} {st : Nat → Ent} (hC : Ok C) (h : Kin C.st st) (hb : ∀ i cs, st i = .box cs → ∃ g bs t, C.σ i = some g ∧ C.w.heap[g]? = some (.cells bs t (0, 0)) ∧ cs.length ≤ bs.size ∧
    (∀ j, j < cs.length → (bs.getD j undef).oneCell' = true) ∧ ∀ j (hj : j < cs.length), R (C.wst st) cs[j] (bs.getD j undef)) : Ok (C.wst st) where
  box := hb
  tip := fun i e z n g ht hs => hC.tip i e z n g (by
    rcases h i with h1 | ⟨_, cs', _, h1⟩
    · exact h1.symm.trans ht
    · have ht : st i = _ := ht
      rw [h1] at ht; cases ht) hs
  iter := fun i s p ht => hC.iter i s p (by
    rcases h i with h1 | ⟨_, cs', _, h1⟩
    · exact h1.symm.trans ht
    · have ht : st i = _ := ht
      rw [h1] at ht; cases ht)
  inj := fun i j g hi hj => hC.inj i j g (h.free hi) (h.free hj)
  avl := hC.avl
  bav := fun i cs g o hc hs => by
    rcases h i with h1 | ⟨cs0, _, h0, _⟩
    · exact hC.bav i cs g o (h1.symm.trans hc) hs
    · exact hC.bav i cs0 g o h0 hs
  gl := hC.gl.mono (Ev.wst h)
theorem Sim.ghostB {B : Bd} {C : Cf} {a : Act} {N : Nat} {s : List (Nat × V)} {l : List Ent} {id j : Nat} {cs : List V} {e : TypeId} {z : Nat} (hS : Sim B C ⟨dn N s, ofl l⟩ a)
    (hi : l[id]? = some (.box cs)) (hj : cs[j]? = some (.sl [] .nl)) : ∃ D, Sim B D ⟨dn N s, ofl (l.set id (.box (cs.set j (.sl [] (.mine l.length)))) ++ [.tip e z 0])⟩ a ∧ D.w = C.w ∧ Ev C D := by
  obtain ⟨hil, hi'⟩ := List.getElem?_eq_some_iff.1 hi
  obtain ⟨hjl, hj'⟩ := List.getElem?_eq_some_iff.1 hj
  have hf : C.st l.length = .free := by rw [hS.st]; exact ofl_end l
  have hE1 : Ev C (C.ghost l.length e z 0) := Ev.ghost hf
  have hO1 : Ok (C.ghost l.length e z 0) := hS.ok.ghost hf
  have hst1 : (C.ghost l.length e z 0).st = ofl (l ++ [.tip e z 0]) := by
    show upd C.st l.length (.tip e z 0) = _
    rw [hS.st]; exact ofl_snoc l _
  have hbox : C.st id = .box cs := by rw [hS.st]; simp [ofl, List.getD, hi]
  have hset : ∀ i, ofl (l.set id (.box (cs.set j (.sl [] (.mine l.length)))) ++ [.tip e z 0]) i = if i = id then .box (cs.set j (.sl [] (.mine l.length))) else ofl (l ++ [.tip e z 0]) i := fun i => by
    unfold ofl
    by_cases h : i = id
    · subst h; simp [List.getD, List.getElem?_append, hil]
    · have h' : id ≠ i := fun q => h q.symm
      simp [List.getD, List.getElem?_append, List.getElem?_set, h, h']
  have hk : Kin (C.ghost l.length e z 0).st (ofl (l.set id (.box (cs.set j (.sl [] (.mine l.length)))) ++ [.tip e z 0])) := fun i => by
    rw [hset, hst1]
    by_cases h : i = id
    · subst h
      exact .inr ⟨cs, _, by simp [ofl, List.getD, List.getElem?_append, hil, hi'], if_pos rfl⟩
    · exact .inl (if_neg h)
  refine ⟨(C.ghost l.length e z 0).wst _, ⟨rfl, hO1.wst hk fun i ds hd => ?_, (hS.defers.mono hE1).mono (Ev.wst hk), hS.size, fun t ht => ((hS.slot t ht).mono hE1).wst hk⟩, rfl, hE1.trans (Ev.wst hk)⟩
  rw [hset] at hd
  by_cases h : i = id
  · subst h
    rw [if_pos rfl] at hd; cases hd
    obtain ⟨g, bs, t, h1, h2, h3, h4, h5⟩ := hS.ok.box i cs hbox; have hne : i ≠ l.length := by omega
    refine ⟨g, bs, t, ?_, h2, by simpa using h3, fun q hq => h4 q (by simpa using hq), fun q hq => ?_⟩
    · show (if i = l.length then none else C.σ i) = some g
      rw [if_neg hne]; exact h1
    · have hq' : q < cs.length := by simpa using hq
      rw [List.getElem_set]; have h6 := h5 q hq'
      by_cases hjq : j = q
      · subst hjq
        rw [if_pos rfl]; rw [hj'] at h6; exact (R.toMine (id := l.length) (e := e) (z := z) h6 hf).wst hk
      · rw [if_neg hjq]
        exact (h6.mono hE1).wst hk
  · rw [if_neg h, ← hst1] at hd
    obtain ⟨g, bs, t, h1, h2, h3, h4, h5⟩ := hO1.box i ds hd; exact ⟨g, bs, t, h1, h2, h3, h4, fun q hq => (h5 q hq).wst hk⟩
theorem AWp.ghostB {K : Ro → Prop} {P : Program} {st0 : Nat → Ent} {Q : Exit → St → Prop} {c : Code} {N : Nat} {s : List (Nat × V)} {l : List Ent} (id j : Nat) (cs : List V) (e : TypeId) (z : Nat)
    (h : AWpK K P st0 c Q ⟨dn N s, ofl (l.set id (.box (cs.set j (.sl [] (.mine l.length)))) ++ [.tip e z 0])⟩) (hi : l[id]? = some (.box cs) := by rfl) (hj : cs[j]? = some (.sl [] .nl) := by rfl) : AWpK K P st0 c Q ⟨dn N s, ofl l⟩ := by
  intro C0 C a ro n hK h0 hE hS
  obtain ⟨D, h1, h2, h3⟩ := hS.ghostB (e := e) (z := z) hi hj
  have := h C0 D a ro n hK h0 (hE.trans h3) h1
  rw [h2] at this
  exact this
def PDC (P : Program) (f : FuncId) (xs : List V) (l0 : List Ent) (v : Value) (l1 : List Ent) : Prop :=
  goFn P f = true ∧ ∀ (C : Cf) (vs : Array Value), C.st = ofl l0 → Ok C → vs.size = xs.length → (∀ i (h : i < xs.length), R C xs[i] (vs.getD i undef)) →
    Calls P f vs C.w fun e w' => e = .panicked (chn v) ∧ Beh C (ofl l1) w'
theorem step_callP {P : Program} {o : Oper} {ev : Operand → V} {c : Operand} {args : Array Operand} {tys : Array TypeId} {f : FuncId} {us vs xs : List V} {v : Value} {l0 l1 : List Ent} (js : List Nat) (ho : o.op = .call { callee := .value c, args := args, argTypes := tys }) (hc : ev c = .fn (.func f) us vs) (h : PDC P f xs l0 v l1)
    (hw : WkL (us ++ args.toList.map ev ++ vs) (V.renL (gOf js) xs)) (hi : V.idsL (ltB js.length) xs = true) (hnd : js.Nodup) (h0 : l0.length = js.length) (h1 : l1.length = js.length) (he : l0.all (entOk (ltB js.length)) = true) :
    PStep P o ev (renE js 0 l0) (renE js 0 l1) v := by
  refine ⟨(fun c hc => by rw [ho] at hc; cases hc), ?_⟩
  intro C ρ hC hR hfp
  have hF : Fits C js l0 := ⟨hnd, h0, fun i hi => by
    have := hfp _ (renE_get (js := js) (l := l0) (i := 0) (j := i) (by omega))
    simpa using this⟩
  have hcr := hR c (by simp [ho, Op.operands, Call.operands])
  rw [hc] at hcr
  generalize hu : ρ c = u at hcr
  cases hcr with
  | @fn _ _ _ us' vs' k1 k2 k3 k4 =>
    have hrun : (execOp ρ o).run P C.w = .ok (.enter f (us' ++ args.map ρ ++ vs')) C.w := by
      simp only [execOp, ho, resolve, hu, Deferred.ofValue, invoke, Sem.run_bind, Sem.run_pure, Result.andThen_ok, run_callFunc h.1]
    rw [hrun]; have hlen := hw.length; rw [V.renL_length] at hlen
    have hsz : (us' ++ args.map ρ ++ vs').size = xs.length := by
      rw [← hlen]; simp [k1, k2]
    refine (h.2 (C.sub js l0) _ rfl (hC.sub hF he) hsz (fun i hi' => ?_)).mono ?_
    · have hi2 : i < (us ++ args.toList.map ev ++ vs).length := by omega
      have hi3 : i < (V.renL (gOf js) xs).length := by rw [V.renL_length]; exact hi'
      have hwi : Wk (us ++ args.toList.map ev ++ vs)[i] (V.renL (gOf js) xs)[i] := hw.get i hi2 hi3
      have hraw : R C (us ++ args.toList.map ev ++ vs)[i] ((us' ++ args.map ρ ++ vs').getD i undef) := by
        rw [Array.getD_eq_getD_getElem?, Array.getElem?_append, Array.getElem?_append]; simp only [Array.size_append, Array.size_map, k1]; simp only [List.getElem_append, List.length_append, List.length_map, Array.length_toList]
        by_cases q1 : i < us.length
        · have q0 : i < us.length + args.size := by omega
          have q2 : i < us'.size := by omega
          have := k3 i q1; simpa [q1, q0, q2] using this
        · by_cases q2 : i < us.length + args.size
          · have q3 : i - us.length < args.size := by omega
            have := hR args[i - us.length] (by simp [ho, Op.operands, Call.operands])
            simpa [q1, q2, q3] using this
          · have hi3 : i < us.length + args.size + vs.length := by simp at hi2; omega
            have q3 : i - (us.length + args.size) < vs.length := by omega
            have q4 : i - (us.length + args.size) < vs'.size := by omega
            have := k4 _ q3; simpa [q1, q2, q4] using this
      exact (hwi C _ hraw).sub hF _ (V.renL_get _ hi' _) (V.idsL_get hi i hi')
    · rintro e w' ⟨rfl, D, rfl, h2, h3, h4⟩
      refine ⟨rfl, C.sup js D, rfl, ?_, hC.sup hF h4 h3 h2 h1, Ev.sup hC hF h4⟩
      funext k
      rw [wrs_renE (st := C.st) (fun a b h6 h7 => fun e => by have := gOf_inj hnd (by omega) (by omega) e; omega)]
      show (if k ∈ js then (D.st (js.idxOf k)).ren (gOf js) else C.st k) = _
      by_cases hk : k ∈ js
      · rw [if_pos hk]
        have hx := List.idxOf_lt_length_of_mem hk; cases hfind : (List.range l1.length).find? (fun j => gOf js (0 + j) == k) with
        | none =>
          rw [List.find?_eq_none] at hfind; have := hfind (js.idxOf k) (by simp; omega)
          simp [gOf_idx hk] at this
        | some j =>
          have hj := List.find?_some hfind; have hjm := List.mem_of_find?_eq_some hfind; simp only [Nat.zero_add, beq_iff_eq] at hj; have hjl : j < js.length := by simp at hjm; omega
          have : js.idxOf k = j := by rw [← hj]; exact idx_gOf hnd hjl
          rw [this, h2]
      · rw [if_neg hk]
        cases hfind : (List.range l1.length).find? (fun j => gOf js (0 + j) == k) with
        | none => rfl
        | some j =>
          have hj := List.find?_some hfind; have hjm := List.mem_of_find?_eq_some hfind; simp only [Nat.zero_add, beq_iff_eq] at hj; exact absurd (hj ▸ gOf_mem (by simp at hjm; omega)) hk
theorem step_panicP {P : Program} {o : Oper} {ev : Operand → V} {x : Operand} {t : TypeId} {u : Value} (ho : o.op = .panic x) (hx : ev x = .im (.iface t u)) : PStep P o ev [] [] (.iface t u) := by
  refine ⟨(fun c hc => by rw [ho] at hc; cases hc), ?_⟩
  intro C ρ hC hR _
  have h1 := hR x (by simp [ho, Op.operands])
  rw [hx] at h1
  have e1 : ρ x = .iface t u := h1.im_eq
  have hrun : (execOp ρ o).run P C.w = .halt (.panic (.iface t u)) C.w := by
    simp only [execOp, ho, e1, Instr.panic]; rfl
  rw [hrun]
  exact ⟨rfl, C, rfl, rfl, hC, Ev.refl C⟩
def PFin (n : Nat) (v : Value) (e : Exit) (A : St) : Prop := e = .panic (chn v) ∧ ∃ cs, A.st 0 = .box cs ∧ cs.length = n
theorem PDC.enter {P : Program} {f : FuncId} {fn : Func} {c : Code} {xs : List V} {s : List (Nat × V)} {cs0 : List V} {v : Value} {n : Nat} (N : Nat) (hf : P.funcs[f]? = some fn) (hb : fn.body = some c) (hn : fn.name ≠ "runtime.NumGoroutine") (hN : fn.ntmps = N) (hx : Nat.ble xs.length N = true) (hs : enum 0 xs = s)
    (h : AWp P (ofl [.box cs0]) c (PFin n v) ⟨dn N s, ofl [.box cs0]⟩) : PDC P f xs [.box cs0] v [.box (List.replicate n .dead)] := by
  subst hs hN
  rw [← enum_dn (by simpa using hx)] at h
  refine ⟨by simp [goFn, hf, hb, hn], fun C vs hst hC hsz hR => ?_⟩
  refine callsIn_wide.1 (callsIn_of_wp_marks (F := Fence.wide) (n := 0) hf hb trivial (wpIn_mono (h C C { tmps := vs ++ Array.replicate (fn.ntmps - vs.size) undef, defers := [] } { r := none } 0 rfl hst (Ev.refl C) ⟨hst, hC, .nil, by simp [hsz], fun t ht => ?_⟩) ?_))
  · by_cases h1 : t < xs.length
    · have h2 := hR t h1
      have h3 : t < vs.size := by omega
      simpa [List.getD, List.getElem?_append, h1, Array.getElem?_append, h3] using h2
    · have : (xs ++ List.replicate (fn.ntmps - xs.length) V.dead).getD t .dead = .dead := by
        simp only [List.getD, List.getElem?_append, if_neg h1, List.getElem?_replicate]; split <;> rfl
      rw [this]; exact .dead
  · rintro e a' w' ⟨A', D, ⟨rfl, cs, q1, q2⟩, hS, rfl, hE⟩
    have fin : ∀ D' : Cf, D'.st = A'.st → Ok D' → Ev C D' → Beh C (ofl [.box (List.replicate n .dead)]) D'.w := by
      intro D' e1 hO hE'; have hb0 : D'.st 0 = .box cs := by rw [e1]; exact q1
      have hk : Kin D'.st (upd D'.st 0 (.box (List.replicate n .dead))) := fun i => by
        by_cases hi : i = 0
        · subst hi; exact .inr ⟨cs, List.replicate n .dead, hb0, by simp [upd]⟩
        · exact .inl (by simp [upd, hi])
      have hO2 : Ok (D'.wst (upd D'.st 0 (.box (List.replicate n .dead)))) := hO.wst hk fun i cs' hb => by
        by_cases hi : i = 0
        · subst hi
          have hb : Ent.box (List.replicate n V.dead) = .box cs' := by simpa [upd] using hb
          cases hb
          obtain ⟨g, bs, t, k1, k2, k3, k4, _⟩ := hO.box 0 cs hb0; refine ⟨g, bs, t, k1, k2, by simpa [← q2] using k3, fun j hj => k4 j (by simpa [q2] using hj), fun j hj => ?_⟩
          rw [List.getElem_replicate]; exact .dead
        · have hb : D'.st i = .box cs' := by simpa [upd, hi] using hb
          obtain ⟨g, bs, t, k1, k2, k3, k4, k5⟩ := hO.box i cs' hb; exact ⟨g, bs, t, k1, k2, k3, k4, fun j hj => (k5 j hj).wst hk⟩
      have hE2 : Ev C (D'.wst (upd D'.st 0 (.box (List.replicate n .dead)))) := hE'.trans (Ev.wst hk); refine ⟨(D'.wst (upd D'.st 0 (.box (List.replicate n .dead)))).only (fun i => i == 0), rfl, ?_, hO2.only fun i cs' hb hi => ?_, hE2.only fun i hi => ?_⟩
      · funext i
        show (if (i == 0) = true then upd D'.st 0 (.box (List.replicate n .dead)) i else .free) = _
        cases i with
        | zero => simp [upd, ofl]
        | succ i => simp [ofl]
      · obtain rfl : i = 0 := by simpa using hi
        have hb : Ent.box (List.replicate n V.dead) = .box cs' := by simpa [Cf.wst, upd] using hb
        cases hb
        have : ∀ m, V.idsL (fun i => i == 0) (List.replicate m V.dead) = true := fun m => by
          induction m with
          | zero => rfl
          | succ m ih => simpa [List.replicate_succ, V.idsL, V.ids] using ih
        exact this n
      · have := ofl_lt (by rw [← hst]; exact hi)
        simp at this; simp [this]
    have lv : ∀ (bs : List Nat) (D : Cf), D.st = A'.st → Ok D → Ev C D → bs.Nodup → (∀ b ∈ bs, C.w.heap.size ≤ b ∧ D.w.heap[b]? = some (.deferred (some [])) ∧ ∀ i, D.σ i = some b → D.st i = .free) →
        LeavesInM Fence.wide 0 P fn a'.tmps (fun e w' => e = .panicked (chn v) ∧ Beh C (ofl [.box (List.replicate n .dead)]) w') (bs.map fun b => { target := .collected b, args := #[] }) (.panicking (chn v)) D.w := by
      intro bs
      induction bs with
      | nil => intro D r1 r2 r4 _ _; exact ⟨rfl, fin D r1 r2 r4⟩
      | cons b bs ih =>
        intro D r1 r2 r4 r5 r6; obtain ⟨hlo, hbk, hs⟩ := r6 b (by simp)
        refine ⟨by simp, .inl ⟨b, _, rfl, run_takeDeferred hbk, ?_⟩⟩
        have hnc : ∀ cs t fr, Obj.deferred (some []) ≠ .cells cs t fr := fun _ _ _ e => by cases e
        obtain ⟨s1, s2⟩ := r2.turned (o' := .deferred none) hbk hnc (fun _ _ e => by cases e) hs
        have s3 := (r2.turn (o' := .deferred none) hbk hnc hs).2; refine ih (D.withW (D.w.putObj b (.deferred none))) r1 s1 (turn_ev r4 r2 hlo hbk hnc hs) (List.nodup_cons.1 r5).2 fun b' hb' => ?_
        obtain ⟨t1, t2, t3⟩ := r6 b' (by simp [hb'])
        exact ⟨t1, (s3 b' (fun e => (List.nodup_cons.1 r5).1 (e ▸ hb'))).trans t2, t3⟩
    obtain ⟨bs, d1, d2, d3⟩ := hS.defers
    replace d1 := d1.trans (List.append_nil _)
    show LeavesInM Fence.wide 0 P fn a'.tmps _ a'.defers (.panicking (chn v)) D.w
    rw [d1]; refine lv bs D hS.st hS.ok hE d2 fun b hb => ?_
    obtain ⟨⟨lo, e1, e2⟩, k2, k3⟩ := d3 b hb; cases e1
    exact ⟨e2, k2, k3⟩
theorem PA.callX {P : Program} {N : Nat} {ops : Array Oper} {dr : Bool} {Q : Exit → St → Prop} {d : Option Tmp} {c : Operand} {args : Array Operand} {tys : Array TypeId} {ty : TypeId} {pos : String} {af : Array Edge} {g : Option (Nat × Bool)} {os : List Oper} {k : Nat} {s : List (Nat × V)} {l : List Ent}
    {acc : List (Nat × List Nat × List Nat)} {f : FuncId} {us vs xs xs' : List V} {v : Value} {l0 l1 l' : List Ent} {F E M : Prop} (js : List Nat) (hd : dr = true → ∃ L F, Run P ops ⟨dn N s, ofl l⟩ L F ∧ latK ops k (acc.reverse ++ L.map Itm.key) = true) (h : PDC P f xs l0 v l1) (fa : F) (fi : E) (fr : M)
    (n : ∀ s', Q (.panic (chn v)) ⟨s', ofl l'⟩) (hg : gd ops ⟨d, .call { callee := .value c, args := args, argTypes := tys }, ty, pos, af, g⟩ ⟨dn N s, ofl l⟩ = some true := by rfl) (hc : St.ev ⟨dn N s, ofl l⟩ c = .fn (.func f) us vs := by rfl)
    (hx : M → V.renL (gOf js) xs = xs' := by intro f; first | (simp only [SR, f]; done) | (simp only [SR, f]; with_reducible exact rfl))
    (hw : F → WkL (us ++ args.toList.map (St.ev ⟨dn N s, ofl l⟩) ++ vs) xs' := by intro f; exact WkL.of_eq (by simp only [St.ev, V.ofVal, V.ofCell, V.size_im, getD_dn, look_cons, look_nil, Nat.reduceLT, Nat.reduceEqDiff, reduceIte, if_true, if_false, List.map_cons, List.map_nil, List.nil_append, List.cons_append, List.append_nil, f])) (hi : E → V.idsL (ltB js.length) xs = true := by intro f; first | rfl | simp only [List.length_cons, List.length_nil, Nat.reduceAdd, V.ids, V.idsL, idsA, entOk, List.all_cons, List.all_nil, Bool.and_self, Bool.and_true, Bool.true_and, ltB, noId, Nat.reduceLT, decide_true, Bool.true_eq_false, tyV_id, fdV_id, tyL_id, fdL_id, f])
    (hnd : decide js.Nodup = true := by rfl) (h0 : l0.length = js.length := by rfl) (h1 : l1.length = js.length := by rfl) (he : E → l0.all (entOk (ltB js.length)) = true := by intro f; first | rfl | simp only [List.length_cons, List.length_nil, Nat.reduceAdd, V.ids, V.idsL, idsA, entOk, List.all_cons, List.all_nil, Bool.and_self, Bool.and_true, Bool.true_and, ltB, noId, Nat.reduceLT, decide_true, Bool.true_eq_false, tyV_id, fdV_id, tyL_id, fdL_id, f])
    (hl : M → ∀ p ∈ renE js 0 l0, ofl l p.1 = p.2 := by intro f p hp; simp only [renE, SR, Ent.ren, List.mem_cons, List.not_mem_nil, or_false, f] at hp; first | (rcases hp with rfl <;> rfl) | (rcases hp with rfl | rfl <;> rfl) | (rcases hp with rfl | rfl | rfl <;> rfl))
    (hl' : M → wrl l (renE js 0 l1) = l' := by intro f; first | rfl | (simp only [renE, Ent.ren, SR, f, wrl, putE, SC, SD, Nat.reduceBEq, Nat.reduceLT, Nat.reduceSub, Nat.reduceAdd, Nat.reduceMul, Nat.reduceLeDiff, Nat.reduceEqDiff, reduceCtorEq]; with_reducible exact rfl)) :
    AR P ops dr Q (⟨d, .call { callee := .value c, args := args, argTypes := tys }, ty, pos, af, g⟩ :: os) k ⟨dn N s, ofl l⟩ acc := by
  have e1 := hx fr
  have e2 := hl' fr
  subst e1 e2
  refine .inr (.inr (.inr ⟨hg, _, _, v, step_callP js rfl hc h (hw fa) (hi fi) (of_decide_eq_true hnd) h0 h1 (he fi), hl fr, fun s' _ => ?_, hd⟩))
  show Q _ ⟨s', wrs (ofl l) (renE js 0 l1)⟩
  rw [← ofl_wrl]
  exact n s'
theorem PA.callS {P : Program} {N : Nat} {ops : Array Oper} {Q : Exit → St → Prop} {d : Option Tmp} {c : Operand} {args : Array Operand} {tys : Array TypeId} {ty : TypeId} {pos : String} {af : Array Edge} {g : Option (Nat × Bool)} {os : List Oper} {k : Nat} {s : List (Nat × V)} {l : List Ent}
    {acc : List (Nat × List Nat × List Nat)} {f : FuncId} {us vs xs xs' : List V} {v : Value} {l0 l1 l' : List Ent} {F E M : Prop} (js : List Nat) (h : PDC P f xs l0 v l1) (fa : F) (fi : E) (fr : M)
    (n : Q (.panic (chn v)) ⟨dn N s, ofl l'⟩) (hg : gd ops ⟨d, .call { callee := .value c, args := args, argTypes := tys }, ty, pos, af, g⟩ ⟨dn N s, ofl l⟩ = some true := by rfl) (hc : St.ev ⟨dn N s, ofl l⟩ c = .fn (.func f) us vs := by rfl)
    (hx : M → V.renL (gOf js) xs = xs' := by intro f; first | (simp only [SR, f]; done) | (simp only [SR, f]; with_reducible exact rfl))
    (hw : F → WkL (us ++ args.toList.map (St.ev ⟨dn N s, ofl l⟩) ++ vs) xs' := by intro f; exact WkL.of_eq (by simp only [St.ev, V.ofVal, V.ofCell, V.size_im, getD_dn, look_cons, look_nil, Nat.reduceLT, Nat.reduceEqDiff, reduceIte, if_true, if_false, List.map_cons, List.map_nil, List.nil_append, List.cons_append, List.append_nil, f])) (hi : E → V.idsL (ltB js.length) xs = true := by intro f; first | rfl | simp only [List.length_cons, List.length_nil, Nat.reduceAdd, V.ids, V.idsL, idsA, entOk, List.all_cons, List.all_nil, Bool.and_self, Bool.and_true, Bool.true_and, ltB, noId, Nat.reduceLT, decide_true, Bool.true_eq_false, tyV_id, fdV_id, tyL_id, fdL_id, f])
    (hnd : decide js.Nodup = true := by rfl) (h0 : l0.length = js.length := by rfl) (h1 : l1.length = js.length := by rfl) (he : E → l0.all (entOk (ltB js.length)) = true := by intro f; first | rfl | simp only [List.length_cons, List.length_nil, Nat.reduceAdd, V.ids, V.idsL, idsA, entOk, List.all_cons, List.all_nil, Bool.and_self, Bool.and_true, Bool.true_and, ltB, noId, Nat.reduceLT, decide_true, Bool.true_eq_false, tyV_id, fdV_id, tyL_id, fdL_id, f])
    (hl : M → ∀ p ∈ renE js 0 l0, ofl l p.1 = p.2 := by intro f p hp; simp only [renE, SR, Ent.ren, List.mem_cons, List.not_mem_nil, or_false, f] at hp; first | (rcases hp with rfl <;> rfl) | (rcases hp with rfl | rfl <;> rfl) | (rcases hp with rfl | rfl | rfl <;> rfl))
    (hl' : M → wrl l (renE js 0 l1) = l' := by intro f; first | rfl | (simp only [renE, Ent.ren, SR, f, wrl, putE, SC, SD, Nat.reduceBEq, Nat.reduceLT, Nat.reduceSub, Nat.reduceAdd, Nat.reduceMul, Nat.reduceLeDiff, Nat.reduceEqDiff, reduceCtorEq]; with_reducible exact rfl)) :
    AR P ops false Q (⟨d, .call { callee := .value c, args := args, argTypes := tys }, ty, pos, af, g⟩ :: os) k ⟨dn N s, ofl l⟩ acc := by
  have e1 := hx fr
  have e2 := hl' fr
  subst e1 e2
  refine .inr (.inr (.inr ⟨hg, _, _, v, step_callP js rfl hc h (hw fa) (hi fi) (of_decide_eq_true hnd) h0 h1 (he fi), hl fr, fun s' hs' => ?_, fun e => by cases e⟩))
  obtain rfl := hs' rfl
  show Q _ ⟨dn N s, wrs (ofl l) (renE js 0 l1)⟩
  rw [← ofl_wrl]
  exact n
theorem PA.callP {P : Program} {N : Nat} {ops : Array Oper} {Q : Exit → St → Prop} {d : Option Tmp} {c : Operand} {args : Array Operand} {tys : Array TypeId} {ty : TypeId} {pos : String} {af : Array Edge} {g : Option (Nat × Bool)} {os : List Oper} {k : Nat} {s : List (Nat × V)} {l : List Ent}
    {acc : List (Nat × List Nat × List Nat)} {f : FuncId} {us vs xs xs' : List V} {v : Value} {l0 l1 l' : List Ent} {F E M : Prop} (js : List Nat) (h : PDC P f xs l0 v l1) (fa : F) (fi : E) (fr : M)
    (n : ∀ s', Q (.panic (chn v)) ⟨s', ofl l'⟩) (hg : gd ops ⟨d, .call { callee := .value c, args := args, argTypes := tys }, ty, pos, af, g⟩ ⟨dn N s, ofl l⟩ = some true := by rfl) (hc : St.ev ⟨dn N s, ofl l⟩ c = .fn (.func f) us vs := by rfl)
    (hx : M → V.renL (gOf js) xs = xs' := by intro f; first | (simp only [SR, f]; done) | (simp only [SR, f]; with_reducible exact rfl))
    (hw : F → WkL (us ++ args.toList.map (St.ev ⟨dn N s, ofl l⟩) ++ vs) xs' := by intro f; exact WkL.of_eq (by simp only [St.ev, V.ofVal, V.ofCell, V.size_im, getD_dn, look_cons, look_nil, Nat.reduceLT, Nat.reduceEqDiff, reduceIte, if_true, if_false, List.map_cons, List.map_nil, List.nil_append, List.cons_append, List.append_nil, f])) (hi : E → V.idsL (ltB js.length) xs = true := by intro f; first | rfl | simp only [List.length_cons, List.length_nil, Nat.reduceAdd, V.ids, V.idsL, idsA, entOk, List.all_cons, List.all_nil, Bool.and_self, Bool.and_true, Bool.true_and, ltB, noId, Nat.reduceLT, decide_true, Bool.true_eq_false, tyV_id, fdV_id, tyL_id, fdL_id, f])
    (hnd : decide js.Nodup = true := by rfl) (h0 : l0.length = js.length := by rfl) (h1 : l1.length = js.length := by rfl) (he : E → l0.all (entOk (ltB js.length)) = true := by intro f; first | rfl | simp only [List.length_cons, List.length_nil, Nat.reduceAdd, V.ids, V.idsL, idsA, entOk, List.all_cons, List.all_nil, Bool.and_self, Bool.and_true, Bool.true_and, ltB, noId, Nat.reduceLT, decide_true, Bool.true_eq_false, tyV_id, fdV_id, tyL_id, fdL_id, f])
    (hl : M → ∀ p ∈ renE js 0 l0, ofl l p.1 = p.2 := by intro f p hp; simp only [renE, SR, Ent.ren, List.mem_cons, List.not_mem_nil, or_false, f] at hp; first | (rcases hp with rfl <;> rfl) | (rcases hp with rfl | rfl <;> rfl) | (rcases hp with rfl | rfl | rfl <;> rfl))
    (hl' : M → wrl l (renE js 0 l1) = l' := by intro f; first | rfl | (simp only [renE, Ent.ren, SR, f, wrl, putE, SC, SD, Nat.reduceBEq, Nat.reduceLT, Nat.reduceSub, Nat.reduceAdd, Nat.reduceMul, Nat.reduceLeDiff, Nat.reduceEqDiff, reduceCtorEq]; with_reducible exact rfl)) :
    AR P ops false Q (⟨d, .call { callee := .value c, args := args, argTypes := tys }, ty, pos, af, g⟩ :: os) k ⟨dn N s, ofl l⟩ acc :=
  PA.callX js (fun e => by cases e) h fa fi fr n hg hc hx hw hi hnd h0 h1 he hl hl'
theorem PA.callD {P : Program} {N : Nat} {ops : Array Oper} {Q : Exit → St → Prop} {d : Option Tmp} {c : Operand} {args : Array Operand} {tys : Array TypeId} {ty : TypeId} {pos : String} {af : Array Edge} {g : Option (Nat × Bool)} {os : List Oper} {k : Nat} {s : List (Nat × V)} {l : List Ent}
    {acc : List (Nat × List Nat × List Nat)} {f : FuncId} {us vs xs xs' : List V} {v : Value} {l0 l1 l' : List Ent} {F E M : Prop} (js : List Nat) (h : PDC P f xs l0 v l1) (fa : F) (fi : E) (fr : M)
    (n : ∀ s', Q (.panic (chn v)) ⟨s', ofl l'⟩) (hd : ∃ L F, Run P ops ⟨dn N s, ofl l⟩ L F ∧ latK ops k (acc.reverse ++ L.map Itm.key) = true) (hg : gd ops ⟨d, .call { callee := .value c, args := args, argTypes := tys }, ty, pos, af, g⟩ ⟨dn N s, ofl l⟩ = some true := by rfl) (hc : St.ev ⟨dn N s, ofl l⟩ c = .fn (.func f) us vs := by rfl)
    (hx : M → V.renL (gOf js) xs = xs' := by intro f; first | (simp only [SR, f]; done) | (simp only [SR, f]; with_reducible exact rfl))
    (hw : F → WkL (us ++ args.toList.map (St.ev ⟨dn N s, ofl l⟩) ++ vs) xs' := by intro f; exact WkL.of_eq (by simp only [St.ev, V.ofVal, V.ofCell, V.size_im, getD_dn, look_cons, look_nil, Nat.reduceLT, Nat.reduceEqDiff, reduceIte, if_true, if_false, List.map_cons, List.map_nil, List.nil_append, List.cons_append, List.append_nil, f])) (hi : E → V.idsL (ltB js.length) xs = true := by intro f; first | rfl | simp only [List.length_cons, List.length_nil, Nat.reduceAdd, V.ids, V.idsL, idsA, entOk, List.all_cons, List.all_nil, Bool.and_self, Bool.and_true, Bool.true_and, ltB, noId, Nat.reduceLT, decide_true, Bool.true_eq_false, tyV_id, fdV_id, tyL_id, fdL_id, f])
    (hnd : decide js.Nodup = true := by rfl) (h0 : l0.length = js.length := by rfl) (h1 : l1.length = js.length := by rfl) (he : E → l0.all (entOk (ltB js.length)) = true := by intro f; first | rfl | simp only [List.length_cons, List.length_nil, Nat.reduceAdd, V.ids, V.idsL, idsA, entOk, List.all_cons, List.all_nil, Bool.and_self, Bool.and_true, Bool.true_and, ltB, noId, Nat.reduceLT, decide_true, Bool.true_eq_false, tyV_id, fdV_id, tyL_id, fdL_id, f])
    (hl : M → ∀ p ∈ renE js 0 l0, ofl l p.1 = p.2 := by intro f p hp; simp only [renE, SR, Ent.ren, List.mem_cons, List.not_mem_nil, or_false, f] at hp; first | (rcases hp with rfl <;> rfl) | (rcases hp with rfl | rfl <;> rfl) | (rcases hp with rfl | rfl | rfl <;> rfl))
    (hl' : M → wrl l (renE js 0 l1) = l' := by intro f; first | rfl | (simp only [renE, Ent.ren, SR, f, wrl, putE, SC, SD, Nat.reduceBEq, Nat.reduceLT, Nat.reduceSub, Nat.reduceAdd, Nat.reduceMul, Nat.reduceLeDiff, Nat.reduceEqDiff, reduceCtorEq]; with_reducible exact rfl)) :
    AR P ops true Q (⟨d, .call { callee := .value c, args := args, argTypes := tys }, ty, pos, af, g⟩ :: os) k ⟨dn N s, ofl l⟩ acc :=
  PA.callX js (fun _ => hd) h fa fi fr n hg hc hx hw hi hnd h0 h1 he hl hl'
theorem late_fa {P : Program} {ops : Array Oper} {A : St} {i : Nat} {d : Option Tmp} {t ft ty : TypeId} {f off z id k : Nat} {x : Operand} {pos : String} {af : Array Edge} (ho : ops[i]? = some ⟨d, .fieldAddr t x f, ty, pos, af, none⟩) (hx : A.ev x = .pt id k) (h : flOf P t f = some (off, ft)) (hz : szOf P ft = some z) (hz0 : z ≠ 0) : Valid P ops A ⟨i, [], ⟨.pt id (k + off), []⟩⟩ :=
  ⟨_, ho, .inl ⟨rfl, step_fieldAddr rfl hx h hz hz0, fun p hp => by cases hp⟩⟩
theorem PA.panic {P : Program} {N : Nat} {ops : Array Oper} {Q : Exit → St → Prop} {d : Option Tmp} {x : Operand} {ty t : TypeId} {pos : String} {af : Array Edge} {g : Option (Nat × Bool)} {os : List Oper} {k : Nat} {s : List (Nat × V)} {l : List Ent} {acc : List (Nat × List Nat × List Nat)} {u : Value}
    (n : ∀ s', Q (.panic (chn (.iface t u))) ⟨s', ofl l⟩) (hg : gd ops ⟨d, .panic x, ty, pos, af, g⟩ ⟨dn N s, ofl l⟩ = some true := by rfl) (hx : St.ev ⟨dn N s, ofl l⟩ x = .im (.iface t u) := by rfl) :
    AR P ops false Q (⟨d, .panic x, ty, pos, af, g⟩ :: os) k ⟨dn N s, ofl l⟩ acc :=
  .inr (.inr (.inr ⟨hg, [], [], _, step_panicP rfl hx, (fun p hp => by cases hp), fun s' _ => n s', fun e => by cases e⟩))
theorem step_mkI2 {P : Program} {o : Oper} {ev : Operand → V} {t : TypeId} {x : Operand} {a b : Value} (ho : o.op = .makeInterface t x) (ht : ifT P t = some false) (hx : ev x = .ag [.im a, .im b]) : Step P o ev [] ⟨.im (.iface t (.agg #[a, b])), []⟩ :=
  Step.look fun C ρ _ hR _ => by
    have h1 := hR x (by simp [ho, Op.operands])
    rw [hx] at h1
    have e1 : ρ x = .agg #[a, b] := by
      generalize ρ x = v at h1; cases h1 with
      | @ag _ us hn h0 h =>
        have ha : R C (.im a) (us.getD 0 undef) := h 0 (by simp)
        have hb : R C (.im b) (us.getD 1 undef) := h 1 (by simp)
        have ea := ha.im_eq; have eb := hb.im_eq; have hn : us.size = 2 := hn
        congr 1
        apply Array.ext
        · simpa using hn
        · intro i h1 h2
          match i, h1 with
          | 0, h1 => simpa [Array.getD_eq_getD_getElem?, h1] using ea
          | 1, h1 => simpa [Array.getD_eq_getD_getElem?, h1] using eb
          | i + 2, h1 => omega
    refine ⟨.iface t (.agg #[a, b]), ?_, .im rfl⟩; unfold ifT at ht; cases hu : P.underlying t with
    | none => rw [hu] at ht; cases ht
    | some d =>
      rw [hu] at ht; simp only [execOp, ho, e1, Instr.makeInterface, run_underlying hu, Sem.run_bind, Result.andThen_ok]; cases d <;> first | rfl | (simp at ht)
theorem AR.mkI2 {P : Program} {N : Nat} {ops : Array Oper} {dr : Bool} {Q : Exit → St → Prop} {d : Option Tmp} {t : TypeId} {x : Operand} {ty : TypeId} {pos : String} {af : Array Edge} {g : Option (Nat × Bool)} {os : List Oper} {k : Nat} {s : List (Nat × V)} {l : List Ent} {acc : List (Nat × List Nat × List Nat)} {a b : Value}
    (hn : AR P ops dr Q os (k + 1) ⟨dn N (putA s d (.im (.iface t (.agg #[a, b])))), ofl l⟩ ((k, [], []) :: acc)) (ht : ifT P t = some false := by kernel_rfl) (hx : St.ev ⟨dn N s, ofl l⟩ x = .ag [.im a, .im b] := by rfl) (hg : gd ops ⟨d, .makeInterface t x, ty, pos, af, g⟩ ⟨dn N s, ofl l⟩ = some true := by rfl) :
    AR P ops dr Q (⟨d, .makeInterface t x, ty, pos, af, g⟩ :: os) k ⟨dn N s, ofl l⟩ acc := by
  refine .inr (.inl ⟨hg, [], ⟨_, []⟩, step_mkI2 rfl ht hx, (fun p hp => by cases hp), ?_⟩)
  rw [← put_dn N s (ofl l)] at hn
  exact hn
mutual
def ndV : Nd → V
  | .mk k w n e l el cs => .ag [.im (.int .i64 k), .im (.int .i64 w), .im (.string n), .sl (exL e) .ro, .sl (ndL l) .ro, .sl (ndL el) .ro, .sl (ndC cs) .ro]
def ndL : List Nd → List V
  | [] => []
  | t :: r => ndV t :: ndL r
def ndC : List (List Nd) → List V
  | [] => []
  | c :: r => .sl (ndL c) .ro :: ndC r
end
def nlV (c : List Nd) : V := .sl (c.map ndV) .ro
theorem ndL_eq : ∀ l, ndL l = l.map ndV
  | [] => by simp [ndL]
  | t :: r => by simp [ndL, ndL_eq r]
theorem ndC_eq : ∀ l, ndC l = l.map nlV
  | [] => by simp [ndC]
  | t :: r => by simp [ndC, ndC_eq r, ndL_eq, nlV]
theorem ndV_eq (t : Nd) : ndV t = .ag [.im (.int .i64 t.kind), .im (.int .i64 t.width), .im (.string t.name), .sl (t.e.map exV) .ro, .sl (t.l.map ndV) .ro, .sl (t.el.map ndV) .ro, .sl (t.cs.map nlV) .ro] := by
  cases t; simp [ndV, ndL_eq, ndC_eq, exL_eq, Nd.kind, Nd.width, Nd.name, Nd.e, Nd.l, Nd.el, Nd.cs]
theorem ndV_mk (k w : Int) (n : ByteArray) (e : List Ex) (l el : List Nd) (cs : List (List Nd)) : ndV (.mk k w n e l el cs) = .ag [.im (.int .i64 k), .im (.int .i64 w), .im (.string n), .sl (e.map exV) .ro, .sl (l.map ndV) .ro, .sl (el.map ndV) .ro, .sl (cs.map nlV) .ro] := ndV_eq _
theorem ndV_isAg (t : Nd) : (ndV t).isAg = true := by rw [ndV_eq]; rfl
theorem ndV_live (t : Nd) : (ndV t).live = true := by rw [ndV_eq]; rfl
theorem ndV_firm (t : Nd) : (ndV t).firm = true := by rw [ndV_eq]; rfl
theorem ndV_strip (g : Bool) (t : Nd) : strip g (ndV t) = ndV t := by rw [ndV_eq]; rfl
theorem ndV_size (t : Nd) : (ndV t).size = 7 := by rw [ndV_eq]; rfl
theorem ndV_cells (t : Nd) : (ndV t).cells = [.im (.int .i64 t.kind), .im (.int .i64 t.width), .im (.string t.name), .sl (t.e.map exV) .ro, .sl (t.l.map ndV) .ro, .sl (t.el.map ndV) .ro, .sl (t.cs.map nlV) .ro] := by rw [ndV_eq]; rfl
theorem ndV_id (p : Nat → Bool) : ∀ t : Nd, (ndV t).ids p = true := by
  refine Nd.induct fun k w n e l el cs h1 h2 h3 => ?_
  rw [ndV_mk]
  have hc : V.idsL p (cs.map nlV) = true := idsL_map' cs fun c hc => by
    simp only [nlV, V.ids, Bool.and_true]; exact idsL_map' c (h3 c hc)
  simp [V.ids, V.idsL, idsL_map' l h1, idsL_map' el h2, exL_id, hc]
theorem ndLs_id (p : Nat → Bool) (l : List Nd) : V.idsL p (l.map ndV) = true := idsL_map (ndV_id p) l
theorem nlV_id (p : Nat → Bool) (c : List Nd) : (nlV c).ids p = true := by simp only [nlV, V.ids, Bool.and_true]; exact ndLs_id p c
theorem nlVs_id (p : Nat → Bool) (l : List (List Nd)) : V.idsL p (l.map nlV) = true := idsL_map (nlV_id p) l
theorem ndV_ren (g : Nat → Nat) (t : Nd) : V.ren g (ndV t) = ndV t := V.ren_id g _ (ndV_id _ t)
theorem ndLs_ren (g : Nat → Nat) (l : List Nd) : V.renL g (l.map ndV) = l.map ndV := V.renL_id g _ (ndLs_id _ l)
theorem nlVs_ren (g : Nat → Nat) (l : List (List Nd)) : V.renL g (l.map nlV) = l.map nlV := V.renL_id g _ (nlVs_id _ l)
theorem nlV_live (c : List Nd) : (nlV c).live = true := rfl
theorem nlV_size (c : List Nd) : (nlV c).size = 1 := rfl
theorem nlV_isAg (c : List Nd) : (nlV c).isAg = false := rfl
theorem nlV_cells (c : List Nd) : (nlV c).cells = [nlV c] := rfl
theorem nlV_firm (c : List Nd) : (nlV c).firm = true := rfl
theorem nlV_strip (g : Bool) (c : List Nd) : strip g (nlV c) = nlV c := rfl
theorem ND : type_of% (AI @ndV_firm (AI @ndV_strip (AI @ndV_live (AI @ndV_size (AI @ndV_isAg (AI @ndV_cells (AI @nlV_firm (AI @nlV_strip (AI @nlV_live (AI @nlV_size (AI @nlV_isAg (AI @nlV_cells (AI @List.getElem?_map.{0, 0} @Int.natCast_nonneg))))))))))))) :=
  AI @ndV_firm (AI @ndV_strip (AI @ndV_live (AI @ndV_size (AI @ndV_isAg (AI @ndV_cells (AI @nlV_firm (AI @nlV_strip (AI @nlV_live (AI @nlV_size (AI @nlV_isAg (AI @nlV_cells (AI @List.getElem?_map.{0, 0} @Int.natCast_nonneg))))))))))))
def scV (s : Sec) : V := .ag [.im (.string s.name), .im (.int .u32 s.addr), .sl (s.data.map fun b => .im (.int .u8 b.toNat)) .ro, .im (.bool s.wr), .im (.bool s.exe)]
def fnV (f : Fun) : V := .ag [.im (.string f.name), .sl (f.vars.map vaV) .ro, .sl (f.body.map ndV) .ro]
def unV (u : Un) : V := .ag [.sl (u.globals.map vaV) .ro, .sl (u.data.map scV) .ro, .sl (u.funcs.map fnV) .ro]
def fitNB : Nd → Bool := Nd.para fun t r1 r2 r3 => decide (I64 t.kind ∧ I64 t.width) && decide (t.name.size ≤ 9223372036854775807) && decide (t.e.length ≤ 4194304 ∧ t.l.length ≤ 4194304 ∧ t.el.length ≤ 4194304 ∧ t.cs.length ≤ 4194304) && t.e.all fitEB && t.cs.all (fun c => decide (c.length ≤ 4194304)) && r1.all id && r2.all id && r3.all (·.all id)
def fitN (t : Nd) : Prop := fitNB t = true
def fitNL (l : List Nd) : Prop := l.length ≤ 4194304 ∧ ∀ t ∈ l, fitN t
theorem fitN_inv {t : Nd} (h : fitN t) : (I64 t.kind ∧ I64 t.width) ∧ t.name.size ≤ 9223372036854775807 ∧ (t.e.length ≤ 4194304 ∧ ∀ x ∈ t.e, fitE x) ∧ fitNL t.l ∧ fitNL t.el ∧ t.cs.length ≤ 4194304 ∧ ∀ c ∈ t.cs, fitNL c := by
  obtain ⟨k, w, n, e, l, el, cs⟩ := t
  have q : fitNB (.mk k w n e l el cs) = _ := Nd.para_mk _ k w n e l el cs
  unfold fitN at h
  rw [q] at h
  simp only [Bool.and_eq_true, Nd.kind, Nd.width, Nd.name, Nd.e, Nd.l, Nd.el, Nd.cs, List.all_map, List.all_eq_true] at h
  obtain ⟨⟨⟨⟨⟨⟨⟨h1, h2⟩, h3⟩, h4⟩, h5⟩, h6⟩, h7⟩, h8⟩ := h
  have h3 := of_decide_eq_true h3
  exact ⟨of_decide_eq_true h1, of_decide_eq_true h2, ⟨h3.1, h4⟩, ⟨h3.2.1, h6⟩, ⟨h3.2.2.1, h7⟩, h3.2.2.2, fun c hc => ⟨of_decide_eq_true (h5 c hc), fun x hx => by
    have := h8 c hc; simp only [Function.comp, List.all_map, List.all_eq_true] at this
    exact this x hx⟩⟩
theorem scV_eq (s : Sec) : scV s = .ag [.im (.string s.name), .im (.int .u32 s.addr), .sl (s.data.map fun b => .im (.int .u8 b.toNat)) .ro, .im (.bool s.wr), .im (.bool s.exe)] := rfl
theorem scV_live (v : Sec) : (scV v).live = true := rfl
theorem scV_size (v : Sec) : (scV v).size = 5 := rfl
theorem scV_isAg (v : Sec) : (scV v).isAg = true := rfl
theorem scV_firm (v : Sec) : (scV v).firm = true := rfl
theorem scV_strip (g : Bool) (v : Sec) : strip g (scV v) = scV v := rfl
theorem scV_cells (s : Sec) : (scV s).cells = [.im (.string s.name), .im (.int .u32 s.addr), .sl (s.data.map fun b => .im (.int .u8 b.toNat)) .ro, .im (.bool s.wr), .im (.bool s.exe)] := rfl
theorem by_id (p : Nat → Bool) (l : List UInt8) : V.idsL p (l.map fun b => V.im (.int .u8 b.toNat)) = true := idsL_map (fun _ => rfl) l
theorem by_ren (g : Nat → Nat) (l : List UInt8) : V.renL g (l.map fun b => V.im (.int .u8 b.toNat)) = l.map fun b => V.im (.int .u8 b.toNat) := V.renL_id g _ (by_id _ l)
theorem scV_id (p : Nat → Bool) (v : Sec) : (scV v).ids p = true := by simp [scV, V.ids, V.idsL, by_id]
theorem scL_id (p : Nat → Bool) (l : List Sec) : V.idsL p (l.map scV) = true := idsL_map (scV_id p) l
theorem scV_ren (g : Nat → Nat) (t : Sec) : V.ren g (scV t) = scV t := V.ren_id g _ (scV_id _ t)
theorem scL_ren (g : Nat → Nat) (l : List Sec) : V.renL g (l.map scV) = l.map scV := V.renL_id g _ (scL_id _ l)
theorem scL_all (l : List Sec) : allZ 5 (l.map scV) = true := by
  unfold allZ
  rw [List.all_map]
  exact List.all_eq_true.2 fun x _ => rfl
theorem scL_allS (l : List Sec) : allS 5 (l.map scV) = true := by
  unfold allS
  rw [List.all_map]
  exact List.all_eq_true.2 fun x _ => rfl
theorem SCT : type_of% (AI @scV_firm (AI @scV_strip (AI @scV_live (AI @scV_size (AI @scV_isAg (AI @scV_cells (AI @List.getElem?_map.{0, 0} @Int.natCast_nonneg))))))) :=
  AI @scV_firm (AI @scV_strip (AI @scV_live (AI @scV_size (AI @scV_isAg (AI @scV_cells (AI @List.getElem?_map.{0, 0} @Int.natCast_nonneg))))))
theorem fnV_eq (f : Fun) : fnV f = .ag [.im (.string f.name), .sl (f.vars.map vaV) .ro, .sl (f.body.map ndV) .ro] := rfl
theorem fnV_id (p : Nat → Bool) (f : Fun) : (fnV f).ids p = true := by simp [fnV, V.ids, V.idsL, vaL_id, ndLs_id]
theorem fnL_id (p : Nat → Bool) (l : List Fun) : V.idsL p (l.map fnV) = true := idsL_map (fnV_id p) l
theorem unV_eq (u : Un) : unV u = .ag [.sl (u.globals.map vaV) .ro, .sl (u.data.map scV) .ro, .sl (u.funcs.map fnV) .ro] := rfl
theorem fnV_live (v : Fun) : (fnV v).live = true := rfl
theorem fnV_size (v : Fun) : (fnV v).size = 3 := rfl
theorem fnV_isAg (v : Fun) : (fnV v).isAg = true := rfl
theorem fnV_firm (v : Fun) : (fnV v).firm = true := rfl
theorem fnV_strip (g : Bool) (v : Fun) : strip g (fnV v) = fnV v := rfl
theorem fnV_cells (f : Fun) : (fnV f).cells = [.im (.string f.name), .sl (f.vars.map vaV) .ro, .sl (f.body.map ndV) .ro] := rfl
theorem FU : type_of% (AI @fnV_firm (AI @fnV_strip (AI @fnV_live (AI @fnV_size (AI @fnV_isAg (AI @fnV_cells (AI @List.getElem?_map.{0, 0} @Int.natCast_nonneg))))))) :=
  AI @fnV_firm (AI @fnV_strip (AI @fnV_live (AI @fnV_size (AI @fnV_isAg (AI @fnV_cells (AI @List.getElem?_map.{0, 0} @Int.natCast_nonneg))))))
theorem unV_id (p : Nat → Bool) (u : Un) : (unV u).ids p = true := by simp [unV, V.ids, V.idsL, vaL_id, scL_id, fnL_id]
theorem fnV_ren (g : Nat → Nat) (t : Fun) : V.ren g (fnV t) = fnV t := V.ren_id g _ (fnV_id _ t)
theorem fnL_ren (g : Nat → Nat) (l : List Fun) : V.renL g (l.map fnV) = l.map fnV := V.renL_id g _ (fnL_id _ l)
theorem fnL_all (l : List Fun) : allZ 3 (l.map fnV) = true := by
  unfold allZ
  rw [List.all_map]
  exact List.all_eq_true.2 fun x _ => rfl
theorem unV_ren (g : Nat → Nat) (u : Un) : V.ren g (unV u) = unV u := V.ren_id g _ (unV_id _ u)
theorem unV_live (u : Un) : (unV u).live = true := rfl
theorem unV_size (u : Un) : (unV u).size = 3 := rfl
theorem unV_isAg (u : Un) : (unV u).isAg = true := rfl
theorem unV_cells (u : Un) : (unV u).cells = [.sl (u.globals.map vaV) .ro, .sl (u.data.map scV) .ro, .sl (u.funcs.map fnV) .ro] := rfl
theorem unV_firm (u : Un) : (unV u).firm = true := rfl
theorem unV_strip (g : Bool) (u : Un) : strip g (unV u) = unV u := rfl
theorem take_snoc {α β : Type} (f : α → β) {l : List α} {m : Nat} (h : m < l.length) : (l.take m).map f ++ [f l[m]] = (l.take (m + 1)).map f := by
  rw [List.take_succ_eq_append_getElem h, List.map_append]; rfl
end Go.Proofs.YtmbmmckagcdapaaGreatDoor
namespace Go.Proofs.YtmbmmckagcdapaaGreatDoor
open Go.RowKit Go.Lib
def Cf.newTip (C : Cf) (e : TypeId) (z : Nat) (cs : Array Value) : Cf := ⟨fun i => if i = 0 then some C.w.heap.size else C.σ i, ofl [.tip e z 0], C.av, C.w.drew.alloc (.cells cs e)⟩
theorem newTip_st {e : TypeId} {z i : Nat} (h : ofl [.tip e z 0] i ≠ .free) : i = 0 := by
  cases i with
  | zero => rfl
  | succ i => exact absurd (by simp [ofl, List.getD]) h
theorem newTip_old {C : Cf} {e : TypeId} {z : Nat} {cs : Array Value} {b : Nat} (hb : b < C.w.heap.size) : (C.newTip e z cs).w.heap[b]? = C.w.heap[b]? := by
  show (C.w.drew.heap.push _)[b]? = _
  rw [Array.getElem?_push]
  have : b ≠ C.w.drew.heap.size := Nat.ne_of_lt hb
  rw [if_neg this]
  rfl
theorem Ev.newTip {C : Cf} {e : TypeId} {z : Nat} {cs : Array Value} (hst : C.st = stF) : Ev C (C.newTip e z cs) where
  os := rfl
  tape := rfl
  output := rfl
  size := by show C.w.heap.size ≤ (C.w.drew.heap.push _).size; rw [Array.size_push]; exact Nat.le_succ _
  av := rfl
  rd := fun a v h => by
    have hb : a.block < C.w.heap.size := by
      have h1 := h.1; refine Nat.lt_of_not_le fun hle => ?_
      have : C.w.heap[a.block]? = none := Array.getElem?_eq_none hle; simp [World.cell?, this] at h1
    refine ⟨?_, h.2.1, fun i hi => ?_⟩
    · rw [← h.1]
      exact World.cell?_of_block (w := C.w) (newTip_old hb)
    · by_cases h0 : i = 0
      · subst h0
        have : C.w.heap.size = a.block := Option.some.inj hi; omega
      · exact .inl (Classical.byContradiction fun hn => h0 (newTip_st hn))
  box := fun i cs hb => by rw [hst] at hb; cases hb
  tip := fun i e z n hb => by rw [hst] at hb; cases hb
  itr := fun i s p hb => by rw [hst] at hb; cases hb
  keep := fun b hb _ => newTip_old hb
  shp := fun i cs g bs t hb => by rw [hst] at hb; cases hb
  fresh := fun i b hi hs => by
    obtain rfl := newTip_st hi; have : C.w.heap.size = b := Option.some.inj hs; exact .inr (Nat.le_of_eq this)
theorem Ok.newTip {C : Cf} {e : TypeId} {z : Nat} {cs : Array Value} (hC : Ok C) (hst : C.st = stF) : Ok (C.newTip e z cs) where
  box := fun i cs' hb => by
    have h0 : i = 0 := newTip_st (e := e) (z := z) (by show (C.newTip e z cs).st i ≠ _; rw [hb]; simp)
    subst h0; cases hb
  tip := fun i e' z' n g hb hs => by
    have h0 : i = 0 := newTip_st (e := e) (z := z) (by show (C.newTip e z cs).st i ≠ _; rw [hb]; simp)
    subst h0; cases hb
    have : C.w.heap.size = g := Option.some.inj hs; subst this; refine ⟨cs, ?_, by omega, fun o ho => ?_⟩
    · show (C.w.drew.heap.push _)[C.w.heap.size]? = _
      rw [Array.getElem?_push]; exact if_pos rfl
    · exact absurd (hC.avl _ o ho) (Nat.lt_irrefl _)
  iter := fun i s p hb => by
    have h0 : i = 0 := newTip_st (e := e) (z := z) (by show (C.newTip e z cs).st i ≠ _; rw [hb]; simp)
    subst h0; cases hb
  inj := fun i j g hi hj _ _ => (newTip_st hi).trans (newTip_st hj).symm
  avl := fun b o h => by
    have := hC.avl b o h; show b < (C.w.drew.heap.push _).size
    rw [Array.size_push]; exact Nat.lt_succ_of_lt this
  bav := fun i cs' g o hb => by
    have h0 : i = 0 := newTip_st (e := e) (z := z) (by show (C.newTip e z cs).st i ≠ _; rw [hb]; simp)
    subst h0; cases hb
  gl := hC.gl.mono (Ev.newTip hst)
theorem grown_acalls {P : Program} {f : FuncId} {e : TypeId} {z : Nat} {xs : List V} (hf : goFn P f = true) (hz : 0 < z)
    (h : ∀ (C : Cf) (vs : Array Value), C.st = stF → Ok C → vs.size = xs.length → (∀ i (h : i < xs.length), R C xs[i] (vs.getD i undef)) →
      ∃ (cap : Nat) (cs : Array Value), cap ≤ maxLen ∧ cs.size = cap * z ∧ Calls P f vs C.w fun e' w' => e' = .returned (.slice (some ⟨C.w.heap.size, 0, none⟩) 0 cap) ∧ w' = C.w.drew.alloc (.cells cs e)) :
    DC P f xs [.free] (.sl [] (.own 0)) [.tip e z 0] := by
  refine ⟨hf, fun C vs hst hC hl hR => ?_⟩
  have hst' : C.st = stF := by
    rw [hst]; funext i; unfold ofl stF; cases i with
    | zero => rfl
    | succ i => simp [List.getD]
  obtain ⟨cap, cs, hcap, hcs, hc⟩ := h C vs hst' hC hl hR
  refine hc.mono ?_
  rintro e' w' ⟨rfl, rfl⟩
  refine ⟨_, _, _, rfl, ⟨rfl, rfl⟩, C.newTip e z cs, rfl, rfl, Ok.newTip hC hst', Ev.newTip hst', ?_⟩
  · refine .sl (z := z) (u := fun _ => undef) (Nat.zero_le _) hcap (fun i hi => absurd hi (Nat.not_lt_zero _)) (fun i hi => absurd hi (Nat.not_lt_zero _)) (fun i hi => absurd hi (Nat.not_lt_zero _))
      ⟨e, 0, rfl, Nat.le_refl _, fun _ => .inr ⟨_, cs, rfl, rfl, ?_, hcs⟩⟩
    show (C.w.drew.heap.push _)[C.w.heap.size]? = _
    rw [Array.getElem?_push]; exact if_pos rfl
theorem growN_run (n : Nat) (h0 : 0 < n) (hb : n ≤ 4194304 * 4) (w : World) : ∃ (cap : Nat) (cs : Array Value), cap ≤ maxLen ∧ cs.size = cap * 1 ∧ Calls Tryz.prog 256 #[.slice none 0 0, .int .i64 n] w fun e w' => e = .returned (.slice (some ⟨w.heap.size, 0, none⟩) 0 cap) ∧ w' = w.drew.alloc (.cells cs 35) := by
  obtain ⟨i0, hi, hz0, hz1, hz2⟩ := info_parts (show (Tryz.prog.info? 35).map (fun i => (i.zero, i.size, i.bytes)) = some (some (.slice none 0 0), 1, 24) by kernel_rfl)
  have h1 : ¬ ((n : Int) < 0) := by omega
  have h4 : (n : Int) > 0 := by omega
  have hrz : ∀ ty, (Builtin.append_ #[163, 3] ty #[.slice none 0 0, .int .i64 n]).run Tryz.prog w = _ := fun ty => run_append_nil_zeros w 163 3 ty 35 i0 _ .i64 .i64 Tryz.underlying163 Tryz.underlying3 hi hz0 n h0 (by rw [hz1]; decide) (by omega) (by rw [hz2]; omega)
  have hGn : n ≤ grownCap w n 0 35 := grownCap_ge w _ _ _
  have hG63 := grownCap_le_maxLen w n 0 35 (by unfold maxLen; omega)
  generalize grownCap w n 0 35 = G at hrz hGn hG63
  refine ⟨G, Builtin.zeroCells (Value.cells (.slice none 0 0)) n ++ Builtin.zeroCells (Value.cells (.slice none 0 0)) (G - n), hG63, ?_, ?_⟩
  rotate_left
  · go_enter Tryz.func256, Tryz.ntmps256
    go_wp2_with (at_builtin; refine Lib.wpList_append_run _ rfl _ _ _ _ rfl _ _ rfl rfl _ _ (hrz _) ?_)
    all_goals (go_ret; exact ⟨rfl, rfl⟩)
  · simp [Builtin.zeroCells, Value.cells]; omega
theorem c_growN (n : Nat) (h0 : 0 < n) (hb : n ≤ 4194304 * 4) : DC Tryz.prog 256 [.sl [] .nl, .im (.int .i64 n)] [.free] (.sl [] (.own 0)) [.tip 35 1 0] := by
  refine grown_acalls (by kernel_rfl) (by decide) fun C vs _ _ hl hR => ?_
  obtain ⟨v0, v1, rfl⟩ : ∃ v0 v1, vs = #[v0, v1] := Go.Joins.array2 hl
  have h1 := hR 0 (by simp)
  have h2 := hR 1 (by simp)
  obtain rfl : v0 = .slice none 0 0 := by
    have h1 : R C (.sl [] .nl) v0 := h1; cases h1 with
    | sl _ _ _ _ _ hk => obtain ⟨rfl, rfl⟩ := hk; rfl
  obtain rfl : v1 = .int .i64 n := by
    have h2 : R C (.im (.int .i64 n)) v1 := h2; cases h2 with
    | im => rfl
  exact growN_run n h0 hb C.w
theorem c_growN0 : PC Tryz.prog 256 [.sl [] .nl, .im (.int .i64 0)] (.sl [] .nl) := by
  refine ⟨by kernel_rfl, fun C vs hst hC hl hR => ?_⟩
  obtain ⟨v0, v1, rfl⟩ : ∃ v0 v1, vs = #[v0, v1] := Go.Joins.array2 hl
  have h1 := hR 0 (by simp)
  have h2 := hR 1 (by simp)
  obtain rfl : v0 = .slice none 0 0 := by
    have h1 : R C (.sl [] .nl) v0 := h1; cases h1 with
    | sl _ _ _ _ _ hk => obtain ⟨rfl, rfl⟩ := hk; rfl
  obtain rfl : v1 = .int .i64 0 := by
    have h2 : R C (.im (.int .i64 0)) v1 := h2; cases h2 with
    | im => rfl
  have hc : Calls Tryz.prog 256 #[.slice none 0 0, .int .i64 0] C.w fun e w' => e = .returned (.slice none 0 0) ∧ w' = C.w := by
    go_enter Tryz.func256, Tryz.ntmps256
    go_wp2
    go_ret
    exact ⟨rfl, rfl⟩
  refine hc.mono ?_
  rintro e' w' ⟨rfl, rfl⟩
  exact ⟨_, _, _, rfl, ⟨rfl, rfl⟩, C, rfl, hst, hC, Ev.refl C, h1⟩
theorem growV_run (n : Nat) (h0 : 0 < n) (hb : n ≤ 4194304 * 4) (w : World) : ∃ (cap : Nat) (cs : Array Value), cap ≤ maxLen ∧ cs.size = cap * 6 ∧ Calls Tryz.prog 162 #[.slice none 0 0, .int .i64 n] w fun e w' => e = .returned (.slice (some ⟨w.heap.size, 0, none⟩) 0 cap) ∧ w' = w.drew.alloc (.cells cs 96) := by
  obtain ⟨i0, hi, hz0, hz1, hz2⟩ := info_parts (show (Tryz.prog.info? 96).map (fun i => (i.zero, i.size, i.bytes)) = some (some (.agg #[.string .empty, .int .i64 0, .int .i64 0, .int .i64 0, .slice none 0 0, .slice none 0 0]), 6, 88) by kernel_rfl)
  have h1 : ¬ ((n : Int) < 0) := by omega
  have h4 : (n : Int) > 0 := by omega
  have hrz : ∀ ty, (Builtin.append_ #[23, 3] ty #[.slice none 0 0, .int .i64 n]).run Tryz.prog w = _ := fun ty => run_append_nil_zeros w 23 3 ty 96 i0 _ .i64 .i64 Tryz.underlying23 Tryz.underlying3 hi hz0 n h0 (by rw [hz1]; decide) (by omega) (by rw [hz2]; omega)
  have hGn : n ≤ grownCap w n 0 96 := grownCap_ge w _ _ _
  have hG63 := grownCap_le_maxLen w n 0 96 (by unfold maxLen; omega)
  generalize grownCap w n 0 96 = G at hrz hGn hG63
  refine ⟨G, Builtin.zeroCells (Value.cells (.agg #[.string .empty, .int .i64 0, .int .i64 0, .int .i64 0, .slice none 0 0, .slice none 0 0])) n ++ Builtin.zeroCells (Value.cells (.agg #[.string .empty, .int .i64 0, .int .i64 0, .int .i64 0, .slice none 0 0, .slice none 0 0])) (G - n), hG63, ?_, ?_⟩
  rotate_left
  · go_enter Tryz.func162, Tryz.ntmps162
    go_wp2_with (at_builtin; refine Lib.wpList_append_run _ rfl _ _ _ _ rfl _ _ rfl rfl _ _ (hrz _) ?_)
    all_goals (go_ret; exact ⟨rfl, rfl⟩)
  · simp [Builtin.zeroCells, Value.cells]; omega
theorem c_growV (n : Nat) (h0 : 0 < n) (hb : n ≤ 4194304 * 4) : DC Tryz.prog 162 [.sl [] .nl, .im (.int .i64 n)] [.free] (.sl [] (.own 0)) [.tip 96 6 0] := by
  refine grown_acalls (by kernel_rfl) (by decide) fun C vs _ _ hl hR => ?_
  obtain ⟨v0, v1, rfl⟩ : ∃ v0 v1, vs = #[v0, v1] := Go.Joins.array2 hl
  have h1 := hR 0 (by simp)
  have h2 := hR 1 (by simp)
  obtain rfl : v0 = .slice none 0 0 := by
    have h1 : R C (.sl [] .nl) v0 := h1; cases h1 with
    | sl _ _ _ _ _ hk => obtain ⟨rfl, rfl⟩ := hk; rfl
  obtain rfl : v1 = .int .i64 n := by
    have h2 : R C (.im (.int .i64 n)) v1 := h2; cases h2 with
    | im => rfl
  exact growV_run n h0 hb C.w
theorem c_growV0 : PC Tryz.prog 162 [.sl [] .nl, .im (.int .i64 0)] (.sl [] .nl) := by
  refine ⟨by kernel_rfl, fun C vs hst hC hl hR => ?_⟩
  obtain ⟨v0, v1, rfl⟩ : ∃ v0 v1, vs = #[v0, v1] := Go.Joins.array2 hl
  have h1 := hR 0 (by simp)
  have h2 := hR 1 (by simp)
  obtain rfl : v0 = .slice none 0 0 := by
    have h1 : R C (.sl [] .nl) v0 := h1; cases h1 with
    | sl _ _ _ _ _ hk => obtain ⟨rfl, rfl⟩ := hk; rfl
  obtain rfl : v1 = .int .i64 0 := by
    have h2 : R C (.im (.int .i64 0)) v1 := h2; cases h2 with
    | im => rfl
  have hc : Calls Tryz.prog 162 #[.slice none 0 0, .int .i64 0] C.w fun e w' => e = .returned (.slice none 0 0) ∧ w' = C.w := by
    go_enter Tryz.func162, Tryz.ntmps162
    go_wp2
    go_ret
    exact ⟨rfl, rfl⟩
  refine hc.mono ?_
  rintro e' w' ⟨rfl, rfl⟩
  exact ⟨_, _, _, rfl, ⟨rfl, rfl⟩, C, rfl, hst, hC, Ev.refl C, h1⟩
end Go.Proofs.YtmbmmckagcdapaaGreatDoor
namespace Go.Proofs.YtmbmmckagcdapaaGreatDoor
open Go.RowKit
theorem flat_lenC {α : Type} {l : List (List α)} {m : Nat} (h : m < l.length) : (l.take m).flatten.length + l[m].length = (l.take (m + 1)).flatten.length := by
  rw [List.take_succ_eq_append_getElem h, List.flatten_append, List.length_append]
  simp
theorem flat_snoc {α : Type} {l : List (List α)} {m : Nat} (h : m < l.length) : (l.take m).flatten ++ l[m] = (l.take (m + 1)).flatten := by
  rw [List.take_succ_eq_append_getElem h, List.flatten_append]
  simp
theorem flat_le {α : Type} {l : List (List α)} (m : Nat) : (l.take m).flatten.length ≤ l.flatten.length := by
  have := List.take_append_drop m l
  have h2 : l.flatten.length = (l.take m).flatten.length + (l.drop m).flatten.length := by
    rw [← List.length_append, ← List.flatten_append, this]
  omega
theorem flat_ids' {p : Nat → Bool} {l : List (List V)} (h : ∀ xs ∈ l, V.idsL p xs = true) (m : Nat) : V.idsL p (l.take m).flatten = true := by
  refine idsL_of fun x hx => ?_
  obtain ⟨xs, h1, h2⟩ := List.mem_flatten.1 hx
  obtain ⟨i, hi, rfl⟩ := List.getElem_of_mem h2
  exact V.idsL_get (h xs (List.mem_of_mem_take h1)) i hi
theorem Y213_CE : type_of% (AI @F_ag_163 (AI @F_al_35 (AI @F_by_35 (AI @F_el_163 (AI @F_el_283 (AI @F_sz_163 (@F_sz_35))))))) := AI @F_ag_163 (AI @F_al_35 (AI @F_by_35 (AI @F_el_163 (AI @F_el_283 (AI @F_sz_163 (@F_sz_35))))))
theorem c_concatN {xss : List (List V)} (hl : xss.length ≤ 4194304) (hz : ∀ xs ∈ xss, allZ 1 xs = true) (hs : ∀ p, ∀ xs ∈ xss, V.idsL p xs = true) (hn : xss.flatten.length ≤ 16777216) : PC Tryz.prog 213 [.sl (xss.map fun l => V.sl l .ro) .ro] (.sl xss.flatten .ro) := by
  have hI : ∀ p m, V.idsL p (xss.take m).flatten = true := fun p m => flat_ids' (hs p) m
  have hK : ∀ p, V.idsL p xss.flatten = true := fun p => by have := hI p xss.length; rwa [List.take_length] at this
  have hJ : ∀ p, V.idsL p (xss.map fun l => V.sl l .ro) = true := fun p => idsL_map' xss fun x hx => by simp only [V.ids, Bool.and_true]; exact hs p x hx
  refine PC.enter 36 Tryz.func213 rfl (by decide) rfl rfl (s := [(0, .sl (xss.map fun l => V.sl l .ro) .ro)]) (by rfl) ?_
  refine wG Y213_CE @List.length_map.{0, 0} ?_
  refine AWp.loop ?_
  refine ALp.cutP 0 [(0, .sl (xss.map fun l => V.sl l .ro) .ro), (3, (.im (.int .i64 ((((xss.take (0)).flatten.length : Nat) : Int))))), (9, .sl (xss.map fun l => V.sl l .ro) .ro), (10, (.im (.int .i64 (xss.length)))), (11, (.im (.int .i64 ((((0 : Nat)) : Int)))))] [] (AI hI (AI hJ hK)) ?_
  refine ALp.upto xss.length (fun _ => True) (fun m => ⟨dn 36 [(0, .sl (xss.map fun l => V.sl l .ro) .ro), (3, (.im (.int .i64 ((((xss.take (m)).flatten.length : Nat) : Int))))), (9, .sl (xss.map fun l => V.sl l .ro) .ro), (10, (.im (.int .i64 (xss.length)))), (11, (.im (.int .i64 ((((m : Nat)) : Int)))))], ofl []⟩) ?_ 0 (Nat.zero_le _) trivial
  intro m hm _ hnext
  by_cases hlt : m < xss.length
  · have hlt' : (m : Int) < (xss.length : Int) := by omega
    have hm1 := wrap_succ hlt (by omega)
    have hg := get_some hlt; have hln := flat_lenC hlt; have hle := flat_le (l := xss) (m + 1)
    have hw : IntKind.i64.wrap (((xss.take m).flatten.length : Int) + (xss[m].length : Int)) = ((xss.take (m + 1)).flatten.length : Int) := by
      rw [wrap_in (by omega)]
      omega
    have hneg : ¬ ((xss.take (m + 1)).flatten.length : Int) < 0 := by omega
    refine wG Y213_CE (AI hlt' (AI hg (AI (@List.getElem?_map.{0, 0}) (AI (@Int.natCast_nonneg) (AI hw (AI hneg hm1)))))) ?_; refine ALp.cutP 0 [(0, .sl (xss.map fun l => V.sl l .ro) .ro), (3, (.im (.int .i64 ((((xss.take (m + 1)).flatten.length : Nat) : Int))))), (9, .sl (xss.map fun l => V.sl l .ro) .ro), (10, (.im (.int .i64 (xss.length)))), (11, (.im (.int .i64 ((((m + 1 : Nat)) : Int)))))] [] (AI hI (AI hJ hK)) ?_
    exact hnext (m + 1) (by omega) (by omega) trivial
  obtain rfl : m = xss.length := by omega
  clear hnext
  rw [List.take_length]
  refine whG Y213_CE @Int.lt_irrefl ?_
  refine Blk'.here (Thn.n ?_)
  refine wG Y213_CE True.intro ?_
  by_cases h0 : xss.flatten.length = 0
  case' pos =>
    rw [h0]; refine AR.callP c_growN0 @Int.natCast_zero (AI hI (AI hJ hK)) ?_; refine goG Y213_CE @List.length_map.{0, 0} ?_; refine wG Y213_CE @List.length_map.{0, 0} ?_; refine AWp.loop ?_; refine ALp.ghost 6 [] .nl 35 1 ?_; refine ALp.cutP 1 [(6, .sl (xss.take (0)).flatten (.own 0)), (25, .sl (xss.map fun l => V.sl l .ro) .ro), (26, (.im (.int .i64 (xss.length)))), (27, (.im (.int .i64 ((((0 : Nat)) : Int)))))] [.tip 35 1 (xss.take (0)).flatten.length] (AI hI (AI hJ hK)) ?_
  case' neg =>
    have hg := c_growN xss.flatten.length (by omega) (by omega)
    refine AR.callSP [0] hg True.intro (AI hI (AI hJ hK)) True.intro ?_; refine goG Y213_CE @List.length_map.{0, 0} ?_; refine wG Y213_CE @List.length_map.{0, 0} ?_; refine AWp.loop ?_; refine ALp.cutP 1 [(6, .sl (xss.take (0)).flatten (.own 0)), (25, .sl (xss.map fun l => V.sl l .ro) .ro), (26, (.im (.int .i64 (xss.length)))), (27, (.im (.int .i64 ((((0 : Nat)) : Int)))))] [.tip 35 1 (xss.take (0)).flatten.length] (AI hI (AI hJ hK)) ?_
  all_goals
    refine ALp.upto xss.length (fun _ => True) (fun m => ⟨dn 36 [(6, .sl (xss.take (m)).flatten (.own 0)), (25, .sl (xss.map fun l => V.sl l .ro) .ro), (26, (.im (.int .i64 (xss.length)))), (27, (.im (.int .i64 ((((m : Nat)) : Int)))))], ofl [.tip 35 1 (xss.take (m)).flatten.length]⟩) ?_ 0 (Nat.zero_le _) trivial
    intro m hm _ hnext
    by_cases hlt : m < xss.length
    · have hlt' : (m : Int) < (xss.length : Int) := by omega
      have hm1 := wrap_succ hlt (by omega)
      have hg := get_some hlt; have hln := flat_lenC hlt; have hle := flat_le (l := xss) (m + 1); have hsn := flat_snoc hlt; have hA : (xss.take (m + 1)).flatten.length * 24 ≤ 140737488355328 := by omega
      have hz' := hz xss[m] (List.getElem_mem hlt); refine wG Y213_CE (AI hlt' (AI hg (AI (@List.getElem?_map.{0, 0}) (AI (@Int.natCast_nonneg) (AI hA (AI hz' (AI hsn (AI hln hm1)))))))) ?_; refine ALp.cutP 1 [(6, .sl (xss.take (m + 1)).flatten (.own 0)), (25, .sl (xss.map fun l => V.sl l .ro) .ro), (26, (.im (.int .i64 (xss.length)))), (27, (.im (.int .i64 ((((m + 1 : Nat)) : Int)))))] [.tip 35 1 (xss.take (m + 1)).flatten.length] (AI hI (AI hJ hK)) ?_
      exact hnext (m + 1) (by omega) (by omega) trivial
    obtain rfl : m = xss.length := by omega
    clear hnext; rw [List.take_length]; refine wG Y213_CE @Int.lt_irrefl ?_; refine Fin.gen0 (rs := [.tmp 2]) rfl (by first | exact .inl rfl | exact .inr rfl) (finG Y213_CE) ?_
    all_goals exact wkG (AI hI (AI hJ hK))
theorem Y96_CE : type_of% (AI @F_ag_23 (AI @F_al_96 (AI @F_by_96 (AI @F_el_215 (AI @F_el_23 (AI @F_sz_23 (@F_sz_96))))))) := AI @F_ag_23 (AI @F_al_96 (AI @F_by_96 (AI @F_el_215 (AI @F_el_23 (AI @F_sz_23 (@F_sz_96))))))
theorem c_concatV {xss : List (List V)} (hl : xss.length ≤ 4194304) (hz : ∀ xs ∈ xss, allZ 6 xs = true) (hs : ∀ p, ∀ xs ∈ xss, V.idsL p xs = true) (hn : xss.flatten.length ≤ 16777216) : PC Tryz.prog 96 [.sl (xss.map fun l => V.sl l .ro) .ro] (.sl xss.flatten .ro) := by
  have hI : ∀ p m, V.idsL p (xss.take m).flatten = true := fun p m => flat_ids' (hs p) m
  have hK : ∀ p, V.idsL p xss.flatten = true := fun p => by have := hI p xss.length; rwa [List.take_length] at this
  have hJ : ∀ p, V.idsL p (xss.map fun l => V.sl l .ro) = true := fun p => idsL_map' xss fun x hx => by simp only [V.ids, Bool.and_true]; exact hs p x hx
  refine PC.enter 36 Tryz.func96 rfl (by decide) rfl rfl (s := [(0, .sl (xss.map fun l => V.sl l .ro) .ro)]) (by rfl) ?_
  refine wG Y96_CE @List.length_map.{0, 0} ?_
  refine AWp.loop ?_
  refine ALp.cutP 0 [(0, .sl (xss.map fun l => V.sl l .ro) .ro), (3, (.im (.int .i64 ((((xss.take (0)).flatten.length : Nat) : Int))))), (9, .sl (xss.map fun l => V.sl l .ro) .ro), (10, (.im (.int .i64 (xss.length)))), (11, (.im (.int .i64 ((((0 : Nat)) : Int)))))] [] (AI hI (AI hJ hK)) ?_
  refine ALp.upto xss.length (fun _ => True) (fun m => ⟨dn 36 [(0, .sl (xss.map fun l => V.sl l .ro) .ro), (3, (.im (.int .i64 ((((xss.take (m)).flatten.length : Nat) : Int))))), (9, .sl (xss.map fun l => V.sl l .ro) .ro), (10, (.im (.int .i64 (xss.length)))), (11, (.im (.int .i64 ((((m : Nat)) : Int)))))], ofl []⟩) ?_ 0 (Nat.zero_le _) trivial
  intro m hm _ hnext
  by_cases hlt : m < xss.length
  · have hlt' : (m : Int) < (xss.length : Int) := by omega
    have hm1 := wrap_succ hlt (by omega)
    have hg := get_some hlt; have hln := flat_lenC hlt; have hle := flat_le (l := xss) (m + 1)
    have hw : IntKind.i64.wrap (((xss.take m).flatten.length : Int) + (xss[m].length : Int)) = ((xss.take (m + 1)).flatten.length : Int) := by
      rw [wrap_in (by omega)]
      omega
    have hneg : ¬ ((xss.take (m + 1)).flatten.length : Int) < 0 := by omega
    refine wG Y96_CE (AI hlt' (AI hg (AI (@List.getElem?_map.{0, 0}) (AI (@Int.natCast_nonneg) (AI hw (AI hneg hm1)))))) ?_; refine ALp.cutP 0 [(0, .sl (xss.map fun l => V.sl l .ro) .ro), (3, (.im (.int .i64 ((((xss.take (m + 1)).flatten.length : Nat) : Int))))), (9, .sl (xss.map fun l => V.sl l .ro) .ro), (10, (.im (.int .i64 (xss.length)))), (11, (.im (.int .i64 ((((m + 1 : Nat)) : Int)))))] [] (AI hI (AI hJ hK)) ?_
    exact hnext (m + 1) (by omega) (by omega) trivial
  obtain rfl : m = xss.length := by omega
  clear hnext
  rw [List.take_length]
  refine whG Y96_CE @Int.lt_irrefl ?_
  refine Blk'.here (Thn.n ?_)
  refine wG Y96_CE True.intro ?_
  by_cases h0 : xss.flatten.length = 0
  case' pos =>
    rw [h0]; refine AR.callP c_growV0 @Int.natCast_zero (AI hI (AI hJ hK)) ?_; refine goG Y96_CE @List.length_map.{0, 0} ?_; refine wG Y96_CE @List.length_map.{0, 0} ?_; refine AWp.loop ?_; refine ALp.ghost 6 [] .nl 96 6 ?_; refine ALp.cutP 1 [(6, .sl (xss.take (0)).flatten (.own 0)), (25, .sl (xss.map fun l => V.sl l .ro) .ro), (26, (.im (.int .i64 (xss.length)))), (27, (.im (.int .i64 ((((0 : Nat)) : Int)))))] [.tip 96 6 (xss.take (0)).flatten.length] (AI hI (AI hJ hK)) ?_
  case' neg =>
    have hg := c_growV xss.flatten.length (by omega) (by omega)
    refine AR.callSP [0] hg True.intro (AI hI (AI hJ hK)) True.intro ?_; refine goG Y96_CE @List.length_map.{0, 0} ?_; refine wG Y96_CE @List.length_map.{0, 0} ?_; refine AWp.loop ?_; refine ALp.cutP 1 [(6, .sl (xss.take (0)).flatten (.own 0)), (25, .sl (xss.map fun l => V.sl l .ro) .ro), (26, (.im (.int .i64 (xss.length)))), (27, (.im (.int .i64 ((((0 : Nat)) : Int)))))] [.tip 96 6 (xss.take (0)).flatten.length] (AI hI (AI hJ hK)) ?_
  all_goals
    refine ALp.upto xss.length (fun _ => True) (fun m => ⟨dn 36 [(6, .sl (xss.take (m)).flatten (.own 0)), (25, .sl (xss.map fun l => V.sl l .ro) .ro), (26, (.im (.int .i64 (xss.length)))), (27, (.im (.int .i64 ((((m : Nat)) : Int)))))], ofl [.tip 96 6 (xss.take (m)).flatten.length]⟩) ?_ 0 (Nat.zero_le _) trivial
    intro m hm _ hnext
    by_cases hlt : m < xss.length
    · have hlt' : (m : Int) < (xss.length : Int) := by omega
      have hm1 := wrap_succ hlt (by omega)
      have hg := get_some hlt; have hln := flat_lenC hlt; have hle := flat_le (l := xss) (m + 1); have hsn := flat_snoc hlt; have hA : (xss.take (m + 1)).flatten.length * 88 ≤ 140737488355328 := by omega
      have hz' := hz xss[m] (List.getElem_mem hlt); refine wG Y96_CE (AI hlt' (AI hg (AI (@List.getElem?_map.{0, 0}) (AI (@Int.natCast_nonneg) (AI hA (AI hz' (AI hsn (AI hln hm1)))))))) ?_; refine ALp.cutP 1 [(6, .sl (xss.take (m + 1)).flatten (.own 0)), (25, .sl (xss.map fun l => V.sl l .ro) .ro), (26, (.im (.int .i64 (xss.length)))), (27, (.im (.int .i64 ((((m + 1 : Nat)) : Int)))))] [.tip 96 6 (xss.take (m + 1)).flatten.length] (AI hI (AI hJ hK)) ?_
      exact hnext (m + 1) (by omega) (by omega) trivial
    obtain rfl : m = xss.length := by omega
    clear hnext; rw [List.take_length]; refine wG Y96_CE @Int.lt_irrefl ?_; refine Fin.gen0 (rs := [.tmp 2]) rfl (by first | exact .inl rfl | exact .inr rfl) (finG Y96_CE) ?_
    all_goals exact wkG (AI hI (AI hJ hK))
theorem Y157_B1 : type_of% (AI @F_ag_218 (AI @F_ag_91 (AI @F_ag_92 (AI @F_ag_94 (AI @F_al_218 (AI @F_al_94 (AI @F_el_91 (AI @F_el_92 (AI @F_fl_218_1 (AI @F_fl_94_3 (AI @F_fl_94_4 (AI @F_sz_218 (AI @F_sz_91 (AI @F_sz_92 (@F_sz_94))))))))))))))) := AI @F_ag_218 (AI @F_ag_91 (AI @F_ag_92 (AI @F_ag_94 (AI @F_al_218 (AI @F_al_94 (AI @F_el_91 (AI @F_el_92 (AI @F_fl_218_1 (AI @F_fl_94_3 (AI @F_fl_94_4 (AI @F_sz_218 (AI @F_sz_91 (AI @F_sz_92 (@F_sz_94))))))))))))))
set_option maxHeartbeats 400000 in
theorem c_shallow : ∀ (t : Ty), fit t → ∀ (n : Int), I64 n → PC Tryz.prog 157 [tyV t, (.im (.int .i64 (n)))] (.im (.bool (shal t n))) := by
  refine Ty.induct fun o k s c es fs hE hF => ?_
  intro hfit n hn
  unfold I64 at hn
  obtain ⟨hl1, hl2, hfE, hfF⟩ := fit_mk hfit
  refine PC.enter 38 Tryz.func157 rfl (by decide) rfl rfl (s := [(0, tyV (.mk o k s c es fs)), (1, (.im (.int .i64 (n))))]) (by rfl) ?_
  simp only [tyV_mk]
  by_cases h1 : n < 1
  · have hr : shal (.mk o k s c es fs) n = false := by
      rw [shal_mk]; have : decide (1 ≤ n) = false := by simp; omega
      simp [this]
    rw [hr]; refine wG Y157_B1 h1 ?_; exact Fin.oneP
  · have hn1 : IntKind.i64.wrap (n - 1) = n - 1 := wrap_in (by omega)
    refine wG Y157_B1 h1 ?_; refine AWp.loop ?_; refine ALp.cutP 1 [(0, .ag [.im (.int .i64 k), .im (.int .i64 s), .im (.int .i64 c), .sl (es.map tyV) .ro, .sl (fs.map fdV) .ro]), (1, (.im (.int .i64 (n)))), (2, .pt 0 0), (4, .im (.bool false)), (12, .sl (es.map tyV) .ro), (13, (.im (.int .i64 (es.length)))), (14, (.im (.int .i64 (0))))] [.box [.im (.int .i64 k), .im (.int .i64 s), .im (.int .i64 c), .sl (es.map tyV) .ro, .sl (fs.map fdV) .ro]] True.intro ?_; refine ALp.upto es.length (AllTo (fun t => shal t (n - 1)) es) (fun m => ⟨dn 38 [(0, .ag [.im (.int .i64 k), .im (.int .i64 s), .im (.int .i64 c), .sl (es.map tyV) .ro, .sl (fs.map fdV) .ro]), (1, (.im (.int .i64 (n)))), (2, .pt 0 0), (4, .im (.bool false)), (12, .sl (es.map tyV) .ro), (13, (.im (.int .i64 (es.length)))), (14, (.im (.int .i64 (m))))], ofl [.box [.im (.int .i64 k), .im (.int .i64 s), .im (.int .i64 c), .sl (es.map tyV) .ro, .sl (fs.map fdV) .ro]]⟩) ?_ 0 (Nat.zero_le _) (AllTo.zero _ _)
    intro m hm hI hnext
    by_cases hlt : m < es.length
    · have hlt' : (m : Int) < (es.length : Int) := by omega
      have hg := get_some hlt; have hm1 := wrap_succ hlt (by omega)
      have hc := hE es[m] (List.getElem_mem hlt) (hfE _ (List.getElem_mem hlt)) (n - 1) (by unfold I64; omega)
      refine wG Y157_B1 (AI (@tyV_firm) (AI (@fdV_firm) (AI (@tyV_strip) (AI (@fdV_strip) (AI (@tyV_live) (AI (@tyV_size) (AI (@tyV_isAg) (AI (@tyV_cells) (AI (@fdV_live) (AI (@fdV_size) (AI (@fdV_isAg) (AI (@fdV_cells) (AI (@List.getElem?_map.{0, 0}) (AI (@Int.natCast_nonneg) (AI hlt' (AI hg (AI hn1 hm1))))))))))))))))) ?_; refine AR.callP hc @tyV_eq True.intro ?_
      by_cases hsh : shal es[m] (n - 1) = true
      · refine goG Y157_B1 hsh ?_
        refine wG Y157_B1 hm1 ?_; refine ALp.cutP 1 [(0, .ag [.im (.int .i64 k), .im (.int .i64 s), .im (.int .i64 c), .sl (es.map tyV) .ro, .sl (fs.map fdV) .ro]), (1, (.im (.int .i64 (n)))), (2, .pt 0 0), (4, .im (.bool false)), (12, .sl (es.map tyV) .ro), (13, (.im (.int .i64 (es.length)))), (14, (.im (.int .i64 (((m + 1 : Nat) : Int)))))] [.box [.im (.int .i64 k), .im (.int .i64 s), .im (.int .i64 c), .sl (es.map tyV) .ro, .sl (fs.map fdV) .ro]] True.intro ?_; exact hnext (m + 1) (by omega) (by omega) (hI.succ hlt hsh)
      · have hsh : shal es[m] (n - 1) = false := by simpa using hsh
        refine goG Y157_B1 hsh ?_; refine wG Y157_B1 hm1 ?_; rw [shal_mk, not_all_of hlt hsh]; simp only [Bool.and_false, Bool.false_and]; exact Fin.oneP
    · have hall1 := hI.done (by omega)
      have hlt' : ¬ (m : Int) < (es.length : Int) := by omega
      clear hnext hI hm hlt; refine wG Y157_B1 hlt' ?_; clear hlt'; refine AWp.loop ?_; refine ALp.cutP 1 [(0, .ag [.im (.int .i64 k), .im (.int .i64 s), .im (.int .i64 c), .sl (es.map tyV) .ro, .sl (fs.map fdV) .ro]), (1, (.im (.int .i64 (n)))), (2, .pt 0 0), (4, .im (.bool false)), (25, .sl (fs.map fdV) .ro), (26, (.im (.int .i64 (fs.length)))), (27, (.im (.int .i64 (0))))] [.box [.im (.int .i64 k), .im (.int .i64 s), .im (.int .i64 c), .sl (es.map tyV) .ro, .sl (fs.map fdV) .ro]] True.intro ?_; refine ALp.upto fs.length (AllTo (fun t => shal t (n - 1)) fs) (fun m => ⟨dn 38 [(0, .ag [.im (.int .i64 k), .im (.int .i64 s), .im (.int .i64 c), .sl (es.map tyV) .ro, .sl (fs.map fdV) .ro]), (1, (.im (.int .i64 (n)))), (2, .pt 0 0), (4, .im (.bool false)), (25, .sl (fs.map fdV) .ro), (26, (.im (.int .i64 (fs.length)))), (27, (.im (.int .i64 (m))))], ofl [.box [.im (.int .i64 k), .im (.int .i64 s), .im (.int .i64 c), .sl (es.map tyV) .ro, .sl (fs.map fdV) .ro]]⟩) ?_ 0 (Nat.zero_le _) (AllTo.zero _ _)
      intro m hm hI hnext
      by_cases hlt : m < fs.length
      · have hlt' : (m : Int) < (fs.length : Int) := by omega
        have hg := get_some hlt; have hm1 := wrap_succ hlt (by omega)
        have hc := hF fs[m] (List.getElem_mem hlt) (hfF _ (List.getElem_mem hlt)) (n - 1) (by unfold I64; omega)
        refine wG Y157_B1 (AI (@tyV_firm) (AI (@fdV_firm) (AI (@tyV_strip) (AI (@fdV_strip) (AI (@tyV_live) (AI (@tyV_size) (AI (@tyV_isAg) (AI (@tyV_cells) (AI (@fdV_live) (AI (@fdV_size) (AI (@fdV_isAg) (AI (@fdV_cells) (AI (@List.getElem?_map.{0, 0}) (AI (@Int.natCast_nonneg) (AI hlt' (AI hg (AI hn1 hm1))))))))))))))))) ?_; refine AR.callP hc @tyV_eq True.intro ?_
        by_cases hsh : shal fs[m] (n - 1) = true
        · refine goG Y157_B1 hsh ?_
          refine wG Y157_B1 hm1 ?_; refine ALp.cutP 1 [(0, .ag [.im (.int .i64 k), .im (.int .i64 s), .im (.int .i64 c), .sl (es.map tyV) .ro, .sl (fs.map fdV) .ro]), (1, (.im (.int .i64 (n)))), (2, .pt 0 0), (4, .im (.bool false)), (25, .sl (fs.map fdV) .ro), (26, (.im (.int .i64 (fs.length)))), (27, (.im (.int .i64 (((m + 1 : Nat) : Int)))))] [.box [.im (.int .i64 k), .im (.int .i64 s), .im (.int .i64 c), .sl (es.map tyV) .ro, .sl (fs.map fdV) .ro]] True.intro ?_; exact hnext (m + 1) (by omega) (by omega) (hI.succ hlt hsh)
        · have hsh : shal fs[m] (n - 1) = false := by simpa using hsh
          refine goG Y157_B1 hsh ?_; refine wG Y157_B1 hm1 ?_; rw [shal_mk, not_all_of hlt hsh]; simp only [Bool.and_false]; exact Fin.oneP
      · have hall2 := hI.done (by omega)
        have hlt' : ¬ (m : Int) < (fs.length : Int) := by omega
        clear hnext hI hm hlt; refine wG Y157_B1 hlt' ?_; rw [shal_mk, hall1, hall2]; have : decide (1 ≤ n) = true := by simp; omega
        rw [this]; simp only [Bool.and_self]; exact Fin.oneP
theorem go_min (a b : Int) : (if b < a then b else a) = min a b := by omega
theorem go_max (a b : Int) : (if b > a then b else a) = max a b := by omega
def ends (fs : List Ty) (m : Nat) : Int := ((fs.take m).map fun f => f.off + siz f).foldl max 0
theorem ends_succ {fs : List Ty} {m : Nat} (h : m < fs.length) : ends fs (m + 1) = max (ends fs m) (fs[m].off + siz fs[m]) := by
  unfold ends
  rw [List.take_succ_eq_append_getElem h, List.map_append, List.foldl_append]
  rfl
theorem ends_all (fs : List Ty) : ends fs fs.length = (fs.map fun f => f.off + siz f).foldl max 0 := by
  unfold ends
  rw [List.take_length]
theorem Y212_B2 : type_of% (AI @F_ag_218 (AI @F_ag_3 (AI @F_ag_91 (AI @F_ag_92 (AI @F_ag_94 (AI @F_al_218 (AI @F_el_91 (AI @F_el_92 (AI @F_fl_218_0 (AI @F_fl_218_1 (AI @F_fl_94_0 (AI @F_fl_94_1 (AI @F_fl_94_2 (AI @F_fl_94_3 (AI @F_fl_94_4 (AI @F_sz_218 (AI @F_sz_3 (AI @F_sz_91 (AI @F_sz_92 (@F_sz_94)))))))))))))))))))) := AI @F_ag_218 (AI @F_ag_3 (AI @F_ag_91 (AI @F_ag_92 (AI @F_ag_94 (AI @F_al_218 (AI @F_el_91 (AI @F_el_92 (AI @F_fl_218_0 (AI @F_fl_218_1 (AI @F_fl_94_0 (AI @F_fl_94_1 (AI @F_fl_94_2 (AI @F_fl_94_3 (AI @F_fl_94_4 (AI @F_sz_218 (AI @F_sz_3 (AI @F_sz_91 (AI @F_sz_92 (@F_sz_94)))))))))))))))))))
set_option maxHeartbeats 400000 in
theorem c_size : ∀ (t : Ty), fit t → frm t = true → PC Tryz.prog 212 [tyV t] (.im (.int .i64 (siz t))) := by
  refine Ty.induct fun o k s c es fs hE hF => ?_
  intro hfit hfrm
  obtain ⟨hl1, hl2, hfE, hfF⟩ := fit_mk hfit
  obtain ⟨hb, hof, hfs, hes⟩ := frm_inv hfrm
  refine PC.enter 45 Tryz.func212 rfl (by decide) rfl rfl (s := [(0, tyV (.mk o k s c es fs))]) (by rfl) ?_
  simp only [tyV_mk]
  rw [siz_mk]
  rcases base_cases hb with h1 | h1 | h1 | h1 | h1
  · obtain ⟨h1, rfl, rfl, _, _⟩ := h1
    rcases h1 with rfl | rfl
    all_goals
      refine wG Y212_B2 True.intro ?_; exact Fin.oneP
  · obtain ⟨h1, h2, rfl, _, _⟩ := h1
    have e : min s 65537 = s := by omega
    have hs : ¬ (65537 : Int) < s := by omega
    rcases h1 with rfl | rfl
    · refine wG Y212_B2 hs ?_
      simp only [Int.reduceBEq, Bool.true_or, Bool.or_true, if_true, e]; exact Fin.oneP
    · refine wG Y212_B2 hs ?_
      simp only [Int.reduceBEq, Bool.true_or, Bool.or_true, if_true, e]; exact Fin.oneP
  · obtain ⟨rfl, rfl, rfl, _, _⟩ := h1
    refine wG Y212_B2 True.intro ?_; exact Fin.oneP
  · obtain ⟨rfl, rfl, h2, h3, h4, _⟩ := h1
    obtain ⟨x, rfl⟩ := List.length_eq_one_iff.1 h4; have hc := hE x (by simp) (hfE x (by simp)) (hes x (by simp))
    have hx0 := siz_nonneg x (hes x (by simp))
    have hx1 := siz_le x
    have hw : IntKind.i64.wrap (c * siz x) = c * siz x := wrap_in (by
      have h5 : 0 ≤ c * siz x := Int.mul_nonneg (by omega) hx0
      have h6 : c * siz x ≤ 65536 * 65537 := Int.mul_le_mul h3 hx1 hx0 (by omega)
      omega)
    refine wdG Y212_B2 BN03 ?_; refine AR.callP hc @tyV_eq True.intro ?_; refine goG Y212_B2 hw ?_; refine wdG Y212_B2 (AI hw go_min) ?_; simp only [Int.reduceBEq, Bool.or_self, Bool.false_eq_true, if_false, if_true, List.map_cons, List.headD_cons]; exact Fin.oneP
  · obtain ⟨rfl, rfl, rfl, _⟩ := h1
    have hoff : ∀ i, (hi : i < fs.length) → 0 ≤ fs[i].off ∧ fs[i].off < 65536 := fun i hi => fok_off hi (hof i hi)
    refine wdG Y212_B2 BN03 ?_; refine AWp.loop ?_; refine ALp.cutP 1 [(0, .ag [.im (.int .i64 5), .im (.int .i64 0), .im (.int .i64 0), .sl (es.map tyV) .ro, .sl (fs.map fdV) .ro]), (1, .pt 0 0), (2, (.im (.int .i64 (0)))), (3, (.im (.int .i64 (ends fs (0))))), (28, .sl (fs.map fdV) .ro), (29, (.im (.int .i64 (fs.length)))), (30, (.im (.int .i64 (((0 : Nat) : Int)))))] [.box [.im (.int .i64 5), .im (.int .i64 0), .im (.int .i64 0), .sl (es.map tyV) .ro, .sl (fs.map fdV) .ro]] True.intro ?_; refine ALp.upto fs.length (fun _ => True) (fun m => ⟨dn 45 [(0, .ag [.im (.int .i64 5), .im (.int .i64 0), .im (.int .i64 0), .sl (es.map tyV) .ro, .sl (fs.map fdV) .ro]), (1, .pt 0 0), (2, (.im (.int .i64 (0)))), (3, (.im (.int .i64 (ends fs (m))))), (28, .sl (fs.map fdV) .ro), (29, (.im (.int .i64 (fs.length)))), (30, (.im (.int .i64 (((m : Nat) : Int)))))], ofl [.box [.im (.int .i64 5), .im (.int .i64 0), .im (.int .i64 0), .sl (es.map tyV) .ro, .sl (fs.map fdV) .ro]]⟩) ?_ 0 (Nat.zero_le _) trivial
    intro m hm _ hnext
    by_cases hlt : m < fs.length
    · have hlt' : (m : Int) < (fs.length : Int) := by omega
      have hg := get_some hlt; have hm1 := wrap_succ hlt (by omega)
      have hc := hF fs[m] (List.getElem_mem hlt) (hfF _ (List.getElem_mem hlt)) (hfs _ (List.getElem_mem hlt)); have ho := hoff m hlt; have hx0 := siz_nonneg fs[m] (hfs _ (List.getElem_mem hlt)); have hx1 := siz_le fs[m]; have hw : IntKind.i64.wrap (fs[m].off + siz fs[m]) = fs[m].off + siz fs[m] := wrap_in (by omega)
      have he := (ends_succ hlt).symm; refine wdG Y212_B2 (AI (@tyV_firm) (AI (@fdV_firm) (AI (@tyV_strip) (AI (@fdV_strip) (AI (@tyV_live) (AI (@tyV_size) (AI (@tyV_isAg) (AI (@tyV_cells) (AI (@fdV_live) (AI (@fdV_size) (AI (@fdV_isAg) (AI (@fdV_cells) (AI (@List.getElem?_map.{0, 0}) (AI (@Int.natCast_nonneg) (AI hlt' (AI hg hm1)))))))))))))))) ?_; refine AR.callP hc @tyV_eq True.intro ?_; refine goG Y212_B2 (AI hw (AI go_max he)) ?_; refine wdG Y212_B2 hm1 ?_; refine ALp.cutP 1 [(0, .ag [.im (.int .i64 5), .im (.int .i64 0), .im (.int .i64 0), .sl (es.map tyV) .ro, .sl (fs.map fdV) .ro]), (1, .pt 0 0), (2, (.im (.int .i64 (0)))), (3, (.im (.int .i64 (ends fs (m + 1))))), (28, .sl (fs.map fdV) .ro), (29, (.im (.int .i64 (fs.length)))), (30, (.im (.int .i64 (((m + 1 : Nat) : Int)))))] [.box [.im (.int .i64 5), .im (.int .i64 0), .im (.int .i64 0), .sl (es.map tyV) .ro, .sl (fs.map fdV) .ro]] True.intro ?_; exact hnext (m + 1) (by omega) (by omega) trivial
    · obtain rfl : m = fs.length := by omega
      have hlt' : ¬ (fs.length : Int) < (fs.length : Int) := by omega
      clear hnext; refine wdG Y212_B2 (AI hlt' go_min) ?_; simp only [Int.reduceBEq, Bool.or_self, Bool.false_eq_true, if_false, if_true, ← ends_all]; exact Fin.oneP
end Go.Proofs.YtmbmmckagcdapaaGreatDoor
