import Derived.Lib.LaidTab
import Derived.Lib.SmallJoins
import Derived.Test.YtmbmmckagcdapaaGreatDoorK12
import Derived.Test.YtmbmmckagcdapaaGreatDoorK00
import Derived.Test.YtmbmmckagcdapaaGreatDoorK01
set_option linter.unusedSimpArgs false
set_option linter.unusedVariables false
set_option linter.unnecessarySimpa false
namespace Go.Proofs.YtmbmmckagcdapaaGreatDoor
open Go.RowKit
def sV (b : Bs) : V := .im (.string ⟨b.toArray⟩)
theorem cell_spot {w : World} {a : Addr} {v : Value} (h : w.cell? a = some v) : a.spot = none ∧ a.block < w.heap.size := by
  unfold World.cell? at h
  split at h
  · rename_i hb
    split at h
    · cases h
    · rename_i hs
      refine ⟨by simpa using hs, ?_⟩
      exact (Array.getElem?_eq_some_iff.1 hb).1
  · cases h
theorem Kin.not_box {st st' : Nat → Ent} (h : Kin st st') {i : Nat} (hn : ∀ cs, st i ≠ .box cs) : st' i = st i := by
  rcases h i with h1 | ⟨cs, _, h1, _⟩
  · exact h1
  · exact absurd h1 (hn cs)
theorem Kin.free {st st' : Nat → Ent} (h : Kin st st') {i : Nat} (hi : st' i ≠ .free) : st i ≠ .free := by
  rcases h i with h1 | ⟨cs, _, h1, _⟩
  · rwa [← h1]
  · rw [h1]; simp
theorem Ev.wst {C : Cf} {st : Nat → Ent} (h : Kin C.st st) : Ev C (C.wst st) where
  os := rfl
  tape := rfl
  output := rfl
  size := Nat.le_refl _
  av := rfl
  rd := fun a v hr => ⟨hr.1, Cf.wst_fix h hr.2⟩
  box := fun i cs hb => ⟨rfl, by
    rcases h i with h1 | ⟨_, cs', _, h1⟩
    · exact ⟨cs, h1.trans hb⟩
    · exact ⟨cs', h1⟩⟩
  tip := fun i e z n ht => ⟨n, (h.not_box fun cs hc => by rw [ht] at hc; cases hc).trans ht, Nat.le_refl _, fun _ => ⟨rfl, fun _ cur _ hc => ⟨cur, hc, rfl⟩⟩⟩
  itr := fun i s p hb => ⟨rfl, s, p, (h.not_box fun cs hc => by rw [hb] at hc; cases hc).trans hb⟩
  keep := fun _ _ _ => rfl
  fresh := fun i b hi hs => .inl ⟨h.free hi, hs⟩
  shp := fun _ _ _ bs _ _ _ k => ⟨bs, k, rfl⟩
theorem Ok.wst {C : Cf} {st : Nat → Ent} (hC : Ok C) (h : Kin C.st st) (hb : ∀ i cs, st i = .box cs → ∃ g bs t, C.σ i = some g ∧ C.w.heap[g]? = some (.cells bs t (0, 0)) ∧ cs.length ≤ bs.size ∧
    (∀ j, j < cs.length → (bs.getD j undef).oneCell' = true) ∧ ∀ j (hj : j < cs.length), R (C.wst st) cs[j] (bs.getD j undef)) : Ok (C.wst st) where
  box := hb
  tip := fun i e z n g ht hs => hC.tip i e z n g (by
    rcases h i with h1 | ⟨_, cs', _, h1⟩
    · exact h1.symm.trans ht
    · have ht : st i = _ := ht
      rw [h1] at ht; cases ht) hs
  iter := fun i s p ht => hC.iter i s p (by
    rcases h i with h1 | ⟨_, cs', _, h1⟩
    · exact h1.symm.trans ht
    · have ht : st i = _ := ht
      rw [h1] at ht; cases ht)
  inj := fun i j g hi hj => hC.inj i j g (h.free hi) (h.free hj)
  avl := hC.avl
  bav := fun i cs g o hc hs => by
    rcases h i with h1 | ⟨cs0, _, h0, _⟩
    · exact hC.bav i cs g o (h1.symm.trans hc) hs
    · exact hC.bav i cs0 g o h0 hs
  gl := hC.gl.mono (Ev.wst h)
theorem Sim.ghostB {B : Bd} {C : Cf} {a : Act} {N : Nat} {s : List (Nat × V)} {l : List Ent} {id j : Nat} {cs : List V} {e : TypeId} {z : Nat} (hS : Sim B C ⟨dn N s, ofl l⟩ a)
    (hi : l[id]? = some (.box cs)) (hj : cs[j]? = some (.sl [] .nl)) : ∃ D, Sim B D ⟨dn N s, ofl (l.set id (.box (cs.set j (.sl [] (.mine l.length)))) ++ [.tip e z 0])⟩ a ∧ D.w = C.w ∧ Ev C D := by
  obtain ⟨hil, hi'⟩ := List.getElem?_eq_some_iff.1 hi
  obtain ⟨hjl, hj'⟩ := List.getElem?_eq_some_iff.1 hj
  have hf : C.st l.length = .free := by rw [hS.st]; exact ofl_end l
  have hE1 : Ev C (C.ghost l.length e z 0) := Ev.ghost hf
  have hO1 : Ok (C.ghost l.length e z 0) := hS.ok.ghost hf
  have hst1 : (C.ghost l.length e z 0).st = ofl (l ++ [.tip e z 0]) := by
    show upd C.st l.length (.tip e z 0) = _
    rw [hS.st]; exact ofl_snoc l _
  have hbox : C.st id = .box cs := by rw [hS.st]; simp [ofl, List.getD, hi]
  have hset : ∀ i, ofl (l.set id (.box (cs.set j (.sl [] (.mine l.length)))) ++ [.tip e z 0]) i = if i = id then .box (cs.set j (.sl [] (.mine l.length))) else ofl (l ++ [.tip e z 0]) i := fun i => by
    unfold ofl
    by_cases h : i = id
    · subst h; simp [List.getD, List.getElem?_append, hil]
    · have h' : id ≠ i := fun q => h q.symm
      simp [List.getD, List.getElem?_append, List.getElem?_set, h, h']
  have hk : Kin (C.ghost l.length e z 0).st (ofl (l.set id (.box (cs.set j (.sl [] (.mine l.length)))) ++ [.tip e z 0])) := fun i => by
    rw [hset, hst1]
    by_cases h : i = id
    · subst h
      exact .inr ⟨cs, _, by simp [ofl, List.getD, List.getElem?_append, hil, hi'], if_pos rfl⟩
    · exact .inl (if_neg h)
  refine ⟨(C.ghost l.length e z 0).wst _, ⟨rfl, hO1.wst hk fun i ds hd => ?_, (hS.defers.mono hE1).mono (Ev.wst hk), hS.size, fun t ht => ((hS.slot t ht).mono hE1).wst hk⟩, rfl, hE1.trans (Ev.wst hk)⟩
  rw [hset] at hd
  by_cases h : i = id
  · subst h
    rw [if_pos rfl] at hd; cases hd
    obtain ⟨g, bs, t, h1, h2, h3, h4, h5⟩ := hS.ok.box i cs hbox; have hne : i ≠ l.length := by omega
    refine ⟨g, bs, t, ?_, h2, by simpa using h3, fun q hq => h4 q (by simpa using hq), fun q hq => ?_⟩
    · show (if i = l.length then none else C.σ i) = some g
      rw [if_neg hne]; exact h1
    · have hq' : q < cs.length := by simpa using hq
      rw [List.getElem_set]; have h6 := h5 q hq'
      by_cases hjq : j = q
      · subst hjq
        rw [if_pos rfl]; rw [hj'] at h6; exact (R.toMine (id := l.length) (e := e) (z := z) h6 hf).wst hk
      · rw [if_neg hjq]
        exact (h6.mono hE1).wst hk
  · rw [if_neg h, ← hst1] at hd
    obtain ⟨g, bs, t, h1, h2, h3, h4, h5⟩ := hO1.box i ds hd; exact ⟨g, bs, t, h1, h2, h3, h4, fun q hq => (h5 q hq).wst hk⟩
theorem AWp.ghostB {K : Ro → Prop} {P : Program} {st0 : Nat → Ent} {Q : Exit → St → Prop} {c : Code} {N : Nat} {s : List (Nat × V)} {l : List Ent} (id j : Nat) (cs : List V) (e : TypeId) (z : Nat)
    (h : AWpK K P st0 c Q ⟨dn N s, ofl (l.set id (.box (cs.set j (.sl [] (.mine l.length)))) ++ [.tip e z 0])⟩) (hi : l[id]? = some (.box cs) := by rfl) (hj : cs[j]? = some (.sl [] .nl) := by rfl) : AWpK K P st0 c Q ⟨dn N s, ofl l⟩ := by
  intro C0 C a ro n hK h0 hE hS
  obtain ⟨D, h1, h2, h3⟩ := hS.ghostB (e := e) (z := z) hi hj
  have := h C0 D a ro n hK h0 (hE.trans h3) h1
  rw [h2] at this
  exact this
def PDC (P : Program) (f : FuncId) (xs : List V) (l0 : List Ent) (v : Value) (l1 : List Ent) : Prop :=
  goFn P f = true ∧ ∀ (C : Cf) (vs : Array Value), C.st = ofl l0 → Ok C → vs.size = xs.length → (∀ i (h : i < xs.length), R C xs[i] (vs.getD i undef)) →
    Calls P f vs C.w fun e w' => e = .panicked (chn v) ∧ Beh C (ofl l1) w'
theorem step_callP {P : Program} {o : Oper} {ev : Operand → V} {c : Operand} {args : Array Operand} {tys : Array TypeId} {f : FuncId} {us vs xs : List V} {v : Value} {l0 l1 : List Ent} (js : List Nat) (ho : o.op = .call { callee := .value c, args := args, argTypes := tys }) (hc : ev c = .fn (.func f) us vs) (h : PDC P f xs l0 v l1)
    (hw : WkL (us ++ args.toList.map ev ++ vs) (V.renL (gOf js) xs)) (hi : V.idsL (ltB js.length) xs = true) (hnd : js.Nodup) (h0 : l0.length = js.length) (h1 : l1.length = js.length) (he : l0.all (entOk (ltB js.length)) = true) :
    PStep P o ev (renE js 0 l0) (renE js 0 l1) v := by
  refine ⟨(fun c hc => by rw [ho] at hc; cases hc), ?_⟩
  intro C ρ hC hR hfp
  have hF : Fits C js l0 := ⟨hnd, h0, fun i hi => by
    have := hfp _ (renE_get (js := js) (l := l0) (i := 0) (j := i) (by omega))
    simpa using this⟩
  have hcr := hR c (by simp [ho, Op.operands, Call.operands])
  rw [hc] at hcr
  generalize hu : ρ c = u at hcr
  cases hcr with
  | @fn _ _ _ us' vs' k1 k2 k3 k4 =>
    have hrun : (execOp ρ o).run P C.w = .ok (.enter f (us' ++ args.map ρ ++ vs')) C.w := by
      simp only [execOp, ho, resolve, hu, Deferred.ofValue, invoke, Sem.run_bind, Sem.run_pure, Result.andThen_ok, run_callFunc h.1]
    rw [hrun]; have hlen := hw.length; rw [V.renL_length] at hlen
    have hsz : (us' ++ args.map ρ ++ vs').size = xs.length := by
      rw [← hlen]; simp [k1, k2]
    refine (h.2 (C.sub js l0) _ rfl (hC.sub hF he) hsz (fun i hi' => ?_)).mono ?_
    · have hi2 : i < (us ++ args.toList.map ev ++ vs).length := by omega
      have hi3 : i < (V.renL (gOf js) xs).length := by rw [V.renL_length]; exact hi'
      have hwi : Wk (us ++ args.toList.map ev ++ vs)[i] (V.renL (gOf js) xs)[i] := hw.get i hi2 hi3
      have hraw : R C (us ++ args.toList.map ev ++ vs)[i] ((us' ++ args.map ρ ++ vs').getD i undef) := by
        rw [Array.getD_eq_getD_getElem?, Array.getElem?_append, Array.getElem?_append]; simp only [Array.size_append, Array.size_map, k1]; simp only [List.getElem_append, List.length_append, List.length_map, Array.length_toList]
        by_cases q1 : i < us.length
        · have q0 : i < us.length + args.size := by omega
          have q2 : i < us'.size := by omega
          have := k3 i q1; simpa [q1, q0, q2] using this
        · by_cases q2 : i < us.length + args.size
          · have q3 : i - us.length < args.size := by omega
            have := hR args[i - us.length] (by simp [ho, Op.operands, Call.operands])
            simpa [q1, q2, q3] using this
          · have hi3 : i < us.length + args.size + vs.length := by simp at hi2; omega
            have q3 : i - (us.length + args.size) < vs.length := by omega
            have q4 : i - (us.length + args.size) < vs'.size := by omega
            have := k4 _ q3; simpa [q1, q2, q4] using this
      exact (hwi C _ hraw).sub hF _ (V.renL_get _ hi' _) (V.idsL_get hi i hi')
    · rintro e w' ⟨rfl, D, rfl, h2, h3, h4⟩
      refine ⟨rfl, C.sup js D, rfl, ?_, hC.sup hF h4 h3 h2 h1, Ev.sup hC hF h4⟩
      funext k
      rw [wrs_renE (st := C.st) (fun a b h6 h7 => fun e => by have := gOf_inj hnd (by omega) (by omega) e; omega)]
      show (if k ∈ js then (D.st (js.idxOf k)).ren (gOf js) else C.st k) = _
      by_cases hk : k ∈ js
      · rw [if_pos hk]
        have hx := List.idxOf_lt_length_of_mem hk; cases hfind : (List.range l1.length).find? (fun j => gOf js (0 + j) == k) with
        | none =>
          rw [List.find?_eq_none] at hfind; have := hfind (js.idxOf k) (by simp; omega)
          simp [gOf_idx hk] at this
        | some j =>
          have hj := List.find?_some hfind; have hjm := List.mem_of_find?_eq_some hfind; simp only [Nat.zero_add, beq_iff_eq] at hj; have hjl : j < js.length := by simp at hjm; omega
          have : js.idxOf k = j := by rw [← hj]; exact idx_gOf hnd hjl
          rw [this, h2]
      · rw [if_neg hk]
        cases hfind : (List.range l1.length).find? (fun j => gOf js (0 + j) == k) with
        | none => rfl
        | some j =>
          have hj := List.find?_some hfind; have hjm := List.mem_of_find?_eq_some hfind; simp only [Nat.zero_add, beq_iff_eq] at hj; exact absurd (hj ▸ gOf_mem (by simp at hjm; omega)) hk
theorem step_panicP {P : Program} {o : Oper} {ev : Operand → V} {x : Operand} {t : TypeId} {u : Value} (ho : o.op = .panic x) (hx : ev x = .im (.iface t u)) : PStep P o ev [] [] (.iface t u) := by
  refine ⟨(fun c hc => by rw [ho] at hc; cases hc), ?_⟩
  intro C ρ hC hR _
  have h1 := hR x (by simp [ho, Op.operands])
  rw [hx] at h1
  have e1 : ρ x = .iface t u := h1.im_eq
  have hrun : (execOp ρ o).run P C.w = .halt (.panic (.iface t u)) C.w := by
    simp only [execOp, ho, e1, Instr.panic]; rfl
  rw [hrun]
  exact ⟨rfl, C, rfl, rfl, hC, Ev.refl C⟩
def PFin (n : Nat) (v : Value) (e : Exit) (A : St) : Prop := e = .panic (chn v) ∧ ∃ cs, A.st 0 = .box cs ∧ cs.length = n
theorem PDC.enter {P : Program} {f : FuncId} {fn : Func} {c : Code} {xs : List V} {s : List (Nat × V)} {cs0 : List V} {v : Value} {n : Nat} (N : Nat) (hf : P.funcs[f]? = some fn) (hb : fn.body = some c) (hn : fn.name ≠ "runtime.NumGoroutine") (hN : fn.ntmps = N) (hx : Nat.ble xs.length N = true) (hs : enum 0 xs = s)
    (h : AWp P (ofl [.box cs0]) c (PFin n v) ⟨dn N s, ofl [.box cs0]⟩) : PDC P f xs [.box cs0] v [.box (List.replicate n .dead)] := by
  subst hs hN
  rw [← enum_dn (by simpa using hx)] at h
  refine ⟨by simp [goFn, hf, hb, hn], fun C vs hst hC hsz hR => ?_⟩
  refine callsIn_wide.1 (callsIn_of_wp_marks (F := Fence.wide) (n := 0) hf hb trivial (wpIn_mono (h C C { tmps := vs ++ Array.replicate (fn.ntmps - vs.size) undef, defers := [] } { r := none } 0 rfl hst (Ev.refl C) ⟨hst, hC, .nil, by simp [hsz], fun t ht => ?_⟩) ?_))
  · by_cases h1 : t < xs.length
    · have h2 := hR t h1
      have h3 : t < vs.size := by omega
      simpa [List.getD, List.getElem?_append, h1, Array.getElem?_append, h3] using h2
    · have : (xs ++ List.replicate (fn.ntmps - xs.length) V.dead).getD t .dead = .dead := by
        simp only [List.getD, List.getElem?_append, if_neg h1, List.getElem?_replicate]; split <;> rfl
      rw [this]; exact .dead
  · rintro e a' w' ⟨A', D, ⟨rfl, cs, q1, q2⟩, hS, rfl, hE⟩
    have fin : ∀ D' : Cf, D'.st = A'.st → Ok D' → Ev C D' → Beh C (ofl [.box (List.replicate n .dead)]) D'.w := by
      intro D' e1 hO hE'; have hb0 : D'.st 0 = .box cs := by rw [e1]; exact q1
      have hk : Kin D'.st (upd D'.st 0 (.box (List.replicate n .dead))) := fun i => by
        by_cases hi : i = 0
        · subst hi; exact .inr ⟨cs, List.replicate n .dead, hb0, by simp [upd]⟩
        · exact .inl (by simp [upd, hi])
      have hO2 : Ok (D'.wst (upd D'.st 0 (.box (List.replicate n .dead)))) := hO.wst hk fun i cs' hb => by
        by_cases hi : i = 0
        · subst hi
          have hb : Ent.box (List.replicate n V.dead) = .box cs' := by simpa [upd] using hb
          cases hb
          obtain ⟨g, bs, t, k1, k2, k3, k4, _⟩ := hO.box 0 cs hb0; refine ⟨g, bs, t, k1, k2, by simpa [← q2] using k3, fun j hj => k4 j (by simpa [q2] using hj), fun j hj => ?_⟩
          rw [List.getElem_replicate]; exact .dead
        · have hb : D'.st i = .box cs' := by simpa [upd, hi] using hb
          obtain ⟨g, bs, t, k1, k2, k3, k4, k5⟩ := hO.box i cs' hb; exact ⟨g, bs, t, k1, k2, k3, k4, fun j hj => (k5 j hj).wst hk⟩
      have hE2 : Ev C (D'.wst (upd D'.st 0 (.box (List.replicate n .dead)))) := hE'.trans (Ev.wst hk); refine ⟨(D'.wst (upd D'.st 0 (.box (List.replicate n .dead)))).only (fun i => i == 0), rfl, ?_, hO2.only fun i cs' hb hi => ?_, hE2.only fun i hi => ?_⟩
      · funext i
        show (if (i == 0) = true then upd D'.st 0 (.box (List.replicate n .dead)) i else .free) = _
        cases i with
        | zero => simp [upd, ofl]
        | succ i => simp [ofl]
      · obtain rfl : i = 0 := by simpa using hi
        have hb : Ent.box (List.replicate n V.dead) = .box cs' := by simpa [Cf.wst, upd] using hb
        cases hb
        have : ∀ m, V.idsL (fun i => i == 0) (List.replicate m V.dead) = true := fun m => by
          induction m with
          | zero => rfl
          | succ m ih => simpa [List.replicate_succ, V.idsL, V.ids] using ih
        exact this n
      · have := ofl_lt (by rw [← hst]; exact hi)
        simp at this; simp [this]
    have lv : ∀ (bs : List Nat) (D : Cf), D.st = A'.st → Ok D → Ev C D → bs.Nodup → (∀ b ∈ bs, C.w.heap.size ≤ b ∧ D.w.heap[b]? = some (.deferred (some [])) ∧ ∀ i, D.σ i = some b → D.st i = .free) →
        LeavesInM Fence.wide 0 P fn a'.tmps (fun e w' => e = .panicked (chn v) ∧ Beh C (ofl [.box (List.replicate n .dead)]) w') (bs.map fun b => { target := .collected b, args := #[] }) (.panicking (chn v)) D.w := by
      intro bs
      induction bs with
      | nil => intro D r1 r2 r4 _ _; exact ⟨rfl, fin D r1 r2 r4⟩
      | cons b bs ih =>
        intro D r1 r2 r4 r5 r6; obtain ⟨hlo, hbk, hs⟩ := r6 b (by simp)
        refine ⟨by simp, .inl ⟨b, _, rfl, run_takeDeferred hbk, ?_⟩⟩
        have hnc : ∀ cs t fr, Obj.deferred (some []) ≠ .cells cs t fr := fun _ _ _ e => by cases e
        obtain ⟨s1, s2⟩ := r2.turned (o' := .deferred none) hbk hnc (fun _ _ e => by cases e) hs
        have s3 := (r2.turn (o' := .deferred none) hbk hnc hs).2; refine ih (D.withW (D.w.putObj b (.deferred none))) r1 s1 (turn_ev r4 r2 hlo hbk hnc hs) (List.nodup_cons.1 r5).2 fun b' hb' => ?_
        obtain ⟨t1, t2, t3⟩ := r6 b' (by simp [hb'])
        exact ⟨t1, (s3 b' (fun e => (List.nodup_cons.1 r5).1 (e ▸ hb'))).trans t2, t3⟩
    obtain ⟨bs, d1, d2, d3⟩ := hS.defers
    replace d1 := d1.trans (List.append_nil _)
    show LeavesInM Fence.wide 0 P fn a'.tmps _ a'.defers (.panicking (chn v)) D.w
    rw [d1]; refine lv bs D hS.st hS.ok hE d2 fun b hb => ?_
    obtain ⟨⟨lo, e1, e2⟩, k2, k3⟩ := d3 b hb; cases e1
    exact ⟨e2, k2, k3⟩
theorem PA.callX {P : Program} {N : Nat} {ops : Array Oper} {dr : Bool} {Q : Exit → St → Prop} {d : Option Tmp} {c : Operand} {args : Array Operand} {tys : Array TypeId} {ty : TypeId} {pos : String} {af : Array Edge} {g : Option (Nat × Bool)} {os : List Oper} {k : Nat} {s : List (Nat × V)} {l : List Ent}
    {acc : List (Nat × List Nat × List Nat)} {f : FuncId} {us vs xs xs' : List V} {v : Value} {l0 l1 l' : List Ent} {F E M : Prop} (js : List Nat) (hd : dr = true → ∃ L F, Run P ops ⟨dn N s, ofl l⟩ L F ∧ latK ops k (acc.reverse ++ L.map Itm.key) = true) (h : PDC P f xs l0 v l1) (fa : F) (fi : E) (fr : M)
    (n : ∀ s', Q (.panic (chn v)) ⟨s', ofl l'⟩) (hg : gd ops ⟨d, .call { callee := .value c, args := args, argTypes := tys }, ty, pos, af, g⟩ ⟨dn N s, ofl l⟩ = some true := by rfl) (hc : St.ev ⟨dn N s, ofl l⟩ c = .fn (.func f) us vs := by rfl)
    (hx : M → V.renL (gOf js) xs = xs' := by intro f; first | (simp only [SR, f]; done) | (simp only [SR, f]; with_reducible exact rfl))
    (hw : F → WkL (us ++ args.toList.map (St.ev ⟨dn N s, ofl l⟩) ++ vs) xs' := by intro f; exact WkL.of_eq (by simp only [St.ev, V.ofVal, V.ofCell, V.size_im, getD_dn, look_cons, look_nil, Nat.reduceLT, Nat.reduceEqDiff, reduceIte, if_true, if_false, List.map_cons, List.map_nil, List.nil_append, List.cons_append, List.append_nil, f])) (hi : E → V.idsL (ltB js.length) xs = true := by intro f; first | rfl | simp only [List.length_cons, List.length_nil, Nat.reduceAdd, V.ids, V.idsL, idsA, entOk, List.all_cons, List.all_nil, Bool.and_self, Bool.and_true, Bool.true_and, ltB, noId, Nat.reduceLT, decide_true, Bool.true_eq_false, tyV_id, fdV_id, tyL_id, fdL_id, f])
    (hnd : decide js.Nodup = true := by rfl) (h0 : l0.length = js.length := by rfl) (h1 : l1.length = js.length := by rfl) (he : E → l0.all (entOk (ltB js.length)) = true := by intro f; first | rfl | simp only [List.length_cons, List.length_nil, Nat.reduceAdd, V.ids, V.idsL, idsA, entOk, List.all_cons, List.all_nil, Bool.and_self, Bool.and_true, Bool.true_and, ltB, noId, Nat.reduceLT, decide_true, Bool.true_eq_false, tyV_id, fdV_id, tyL_id, fdL_id, f])
    (hl : M → ∀ p ∈ renE js 0 l0, ofl l p.1 = p.2 := by intro f p hp; simp only [renE, SR, Ent.ren, List.mem_cons, List.not_mem_nil, or_false, f] at hp; first | (rcases hp with rfl <;> rfl) | (rcases hp with rfl | rfl <;> rfl) | (rcases hp with rfl | rfl | rfl <;> rfl))
    (hl' : M → wrl l (renE js 0 l1) = l' := by intro f; first | rfl | (simp only [renE, Ent.ren, SR, f, wrl, putE, SC, SD, Nat.reduceBEq, Nat.reduceLT, Nat.reduceSub, Nat.reduceAdd, Nat.reduceMul, Nat.reduceLeDiff, Nat.reduceEqDiff, reduceCtorEq]; with_reducible exact rfl)) :
    AR P ops dr Q (⟨d, .call { callee := .value c, args := args, argTypes := tys }, ty, pos, af, g⟩ :: os) k ⟨dn N s, ofl l⟩ acc := by
  have e1 := hx fr
  have e2 := hl' fr
  subst e1 e2
  refine .inr (.inr (.inr ⟨hg, _, _, v, step_callP js rfl hc h (hw fa) (hi fi) (of_decide_eq_true hnd) h0 h1 (he fi), hl fr, fun s' _ => ?_, hd⟩))
  show Q _ ⟨s', wrs (ofl l) (renE js 0 l1)⟩
  rw [← ofl_wrl]
  exact n s'
theorem PA.callS {P : Program} {N : Nat} {ops : Array Oper} {Q : Exit → St → Prop} {d : Option Tmp} {c : Operand} {args : Array Operand} {tys : Array TypeId} {ty : TypeId} {pos : String} {af : Array Edge} {g : Option (Nat × Bool)} {os : List Oper} {k : Nat} {s : List (Nat × V)} {l : List Ent}
    {acc : List (Nat × List Nat × List Nat)} {f : FuncId} {us vs xs xs' : List V} {v : Value} {l0 l1 l' : List Ent} {F E M : Prop} (js : List Nat) (h : PDC P f xs l0 v l1) (fa : F) (fi : E) (fr : M)
    (n : Q (.panic (chn v)) ⟨dn N s, ofl l'⟩) (hg : gd ops ⟨d, .call { callee := .value c, args := args, argTypes := tys }, ty, pos, af, g⟩ ⟨dn N s, ofl l⟩ = some true := by rfl) (hc : St.ev ⟨dn N s, ofl l⟩ c = .fn (.func f) us vs := by rfl)
    (hx : M → V.renL (gOf js) xs = xs' := by intro f; first | (simp only [SR, f]; done) | (simp only [SR, f]; with_reducible exact rfl))
    (hw : F → WkL (us ++ args.toList.map (St.ev ⟨dn N s, ofl l⟩) ++ vs) xs' := by intro f; exact WkL.of_eq (by simp only [St.ev, V.ofVal, V.ofCell, V.size_im, getD_dn, look_cons, look_nil, Nat.reduceLT, Nat.reduceEqDiff, reduceIte, if_true, if_false, List.map_cons, List.map_nil, List.nil_append, List.cons_append, List.append_nil, f])) (hi : E → V.idsL (ltB js.length) xs = true := by intro f; first | rfl | simp only [List.length_cons, List.length_nil, Nat.reduceAdd, V.ids, V.idsL, idsA, entOk, List.all_cons, List.all_nil, Bool.and_self, Bool.and_true, Bool.true_and, ltB, noId, Nat.reduceLT, decide_true, Bool.true_eq_false, tyV_id, fdV_id, tyL_id, fdL_id, f])
    (hnd : decide js.Nodup = true := by rfl) (h0 : l0.length = js.length := by rfl) (h1 : l1.length = js.length := by rfl) (he : E → l0.all (entOk (ltB js.length)) = true := by intro f; first | rfl | simp only [List.length_cons, List.length_nil, Nat.reduceAdd, V.ids, V.idsL, idsA, entOk, List.all_cons, List.all_nil, Bool.and_self, Bool.and_true, Bool.true_and, ltB, noId, Nat.reduceLT, decide_true, Bool.true_eq_false, tyV_id, fdV_id, tyL_id, fdL_id, f])
    (hl : M → ∀ p ∈ renE js 0 l0, ofl l p.1 = p.2 := by intro f p hp; simp only [renE, SR, Ent.ren, List.mem_cons, List.not_mem_nil, or_false, f] at hp; first | (rcases hp with rfl <;> rfl) | (rcases hp with rfl | rfl <;> rfl) | (rcases hp with rfl | rfl | rfl <;> rfl))
    (hl' : M → wrl l (renE js 0 l1) = l' := by intro f; first | rfl | (simp only [renE, Ent.ren, SR, f, wrl, putE, SC, SD, Nat.reduceBEq, Nat.reduceLT, Nat.reduceSub, Nat.reduceAdd, Nat.reduceMul, Nat.reduceLeDiff, Nat.reduceEqDiff, reduceCtorEq]; with_reducible exact rfl)) :
    AR P ops false Q (⟨d, .call { callee := .value c, args := args, argTypes := tys }, ty, pos, af, g⟩ :: os) k ⟨dn N s, ofl l⟩ acc := by
  have e1 := hx fr
  have e2 := hl' fr
  subst e1 e2
  refine .inr (.inr (.inr ⟨hg, _, _, v, step_callP js rfl hc h (hw fa) (hi fi) (of_decide_eq_true hnd) h0 h1 (he fi), hl fr, fun s' hs' => ?_, fun e => by cases e⟩))
  obtain rfl := hs' rfl
  show Q _ ⟨dn N s, wrs (ofl l) (renE js 0 l1)⟩
  rw [← ofl_wrl]
  exact n
theorem PA.callP {P : Program} {N : Nat} {ops : Array Oper} {Q : Exit → St → Prop} {d : Option Tmp} {c : Operand} {args : Array Operand} {tys : Array TypeId} {ty : TypeId} {pos : String} {af : Array Edge} {g : Option (Nat × Bool)} {os : List Oper} {k : Nat} {s : List (Nat × V)} {l : List Ent}
    {acc : List (Nat × List Nat × List Nat)} {f : FuncId} {us vs xs xs' : List V} {v : Value} {l0 l1 l' : List Ent} {F E M : Prop} (js : List Nat) (h : PDC P f xs l0 v l1) (fa : F) (fi : E) (fr : M)
    (n : ∀ s', Q (.panic (chn v)) ⟨s', ofl l'⟩) (hg : gd ops ⟨d, .call { callee := .value c, args := args, argTypes := tys }, ty, pos, af, g⟩ ⟨dn N s, ofl l⟩ = some true := by rfl) (hc : St.ev ⟨dn N s, ofl l⟩ c = .fn (.func f) us vs := by rfl)
    (hx : M → V.renL (gOf js) xs = xs' := by intro f; first | (simp only [SR, f]; done) | (simp only [SR, f]; with_reducible exact rfl))
    (hw : F → WkL (us ++ args.toList.map (St.ev ⟨dn N s, ofl l⟩) ++ vs) xs' := by intro f; exact WkL.of_eq (by simp only [St.ev, V.ofVal, V.ofCell, V.size_im, getD_dn, look_cons, look_nil, Nat.reduceLT, Nat.reduceEqDiff, reduceIte, if_true, if_false, List.map_cons, List.map_nil, List.nil_append, List.cons_append, List.append_nil, f])) (hi : E → V.idsL (ltB js.length) xs = true := by intro f; first | rfl | simp only [List.length_cons, List.length_nil, Nat.reduceAdd, V.ids, V.idsL, idsA, entOk, List.all_cons, List.all_nil, Bool.and_self, Bool.and_true, Bool.true_and, ltB, noId, Nat.reduceLT, decide_true, Bool.true_eq_false, tyV_id, fdV_id, tyL_id, fdL_id, f])
    (hnd : decide js.Nodup = true := by rfl) (h0 : l0.length = js.length := by rfl) (h1 : l1.length = js.length := by rfl) (he : E → l0.all (entOk (ltB js.length)) = true := by intro f; first | rfl | simp only [List.length_cons, List.length_nil, Nat.reduceAdd, V.ids, V.idsL, idsA, entOk, List.all_cons, List.all_nil, Bool.and_self, Bool.and_true, Bool.true_and, ltB, noId, Nat.reduceLT, decide_true, Bool.true_eq_false, tyV_id, fdV_id, tyL_id, fdL_id, f])
    (hl : M → ∀ p ∈ renE js 0 l0, ofl l p.1 = p.2 := by intro f p hp; simp only [renE, SR, Ent.ren, List.mem_cons, List.not_mem_nil, or_false, f] at hp; first | (rcases hp with rfl <;> rfl) | (rcases hp with rfl | rfl <;> rfl) | (rcases hp with rfl | rfl | rfl <;> rfl))
    (hl' : M → wrl l (renE js 0 l1) = l' := by intro f; first | rfl | (simp only [renE, Ent.ren, SR, f, wrl, putE, SC, SD, Nat.reduceBEq, Nat.reduceLT, Nat.reduceSub, Nat.reduceAdd, Nat.reduceMul, Nat.reduceLeDiff, Nat.reduceEqDiff, reduceCtorEq]; with_reducible exact rfl)) :
    AR P ops false Q (⟨d, .call { callee := .value c, args := args, argTypes := tys }, ty, pos, af, g⟩ :: os) k ⟨dn N s, ofl l⟩ acc :=
  PA.callX js (fun e => by cases e) h fa fi fr n hg hc hx hw hi hnd h0 h1 he hl hl'
theorem PA.callD {P : Program} {N : Nat} {ops : Array Oper} {Q : Exit → St → Prop} {d : Option Tmp} {c : Operand} {args : Array Operand} {tys : Array TypeId} {ty : TypeId} {pos : String} {af : Array Edge} {g : Option (Nat × Bool)} {os : List Oper} {k : Nat} {s : List (Nat × V)} {l : List Ent}
    {acc : List (Nat × List Nat × List Nat)} {f : FuncId} {us vs xs xs' : List V} {v : Value} {l0 l1 l' : List Ent} {F E M : Prop} (js : List Nat) (h : PDC P f xs l0 v l1) (fa : F) (fi : E) (fr : M)
    (n : ∀ s', Q (.panic (chn v)) ⟨s', ofl l'⟩) (hd : ∃ L F, Run P ops ⟨dn N s, ofl l⟩ L F ∧ latK ops k (acc.reverse ++ L.map Itm.key) = true) (hg : gd ops ⟨d, .call { callee := .value c, args := args, argTypes := tys }, ty, pos, af, g⟩ ⟨dn N s, ofl l⟩ = some true := by rfl) (hc : St.ev ⟨dn N s, ofl l⟩ c = .fn (.func f) us vs := by rfl)
    (hx : M → V.renL (gOf js) xs = xs' := by intro f; first | (simp only [SR, f]; done) | (simp only [SR, f]; with_reducible exact rfl))
    (hw : F → WkL (us ++ args.toList.map (St.ev ⟨dn N s, ofl l⟩) ++ vs) xs' := by intro f; exact WkL.of_eq (by simp only [St.ev, V.ofVal, V.ofCell, V.size_im, getD_dn, look_cons, look_nil, Nat.reduceLT, Nat.reduceEqDiff, reduceIte, if_true, if_false, List.map_cons, List.map_nil, List.nil_append, List.cons_append, List.append_nil, f])) (hi : E → V.idsL (ltB js.length) xs = true := by intro f; first | rfl | simp only [List.length_cons, List.length_nil, Nat.reduceAdd, V.ids, V.idsL, idsA, entOk, List.all_cons, List.all_nil, Bool.and_self, Bool.and_true, Bool.true_and, ltB, noId, Nat.reduceLT, decide_true, Bool.true_eq_false, tyV_id, fdV_id, tyL_id, fdL_id, f])
    (hnd : decide js.Nodup = true := by rfl) (h0 : l0.length = js.length := by rfl) (h1 : l1.length = js.length := by rfl) (he : E → l0.all (entOk (ltB js.length)) = true := by intro f; first | rfl | simp only [List.length_cons, List.length_nil, Nat.reduceAdd, V.ids, V.idsL, idsA, entOk, List.all_cons, List.all_nil, Bool.and_self, Bool.and_true, Bool.true_and, ltB, noId, Nat.reduceLT, decide_true, Bool.true_eq_false, tyV_id, fdV_id, tyL_id, fdL_id, f])
    (hl : M → ∀ p ∈ renE js 0 l0, ofl l p.1 = p.2 := by intro f p hp; simp only [renE, SR, Ent.ren, List.mem_cons, List.not_mem_nil, or_false, f] at hp; first | (rcases hp with rfl <;> rfl) | (rcases hp with rfl | rfl <;> rfl) | (rcases hp with rfl | rfl | rfl <;> rfl))
    (hl' : M → wrl l (renE js 0 l1) = l' := by intro f; first | rfl | (simp only [renE, Ent.ren, SR, f, wrl, putE, SC, SD, Nat.reduceBEq, Nat.reduceLT, Nat.reduceSub, Nat.reduceAdd, Nat.reduceMul, Nat.reduceLeDiff, Nat.reduceEqDiff, reduceCtorEq]; with_reducible exact rfl)) :
    AR P ops true Q (⟨d, .call { callee := .value c, args := args, argTypes := tys }, ty, pos, af, g⟩ :: os) k ⟨dn N s, ofl l⟩ acc :=
  PA.callX js (fun _ => hd) h fa fi fr n hg hc hx hw hi hnd h0 h1 he hl hl'
theorem late_fa {P : Program} {ops : Array Oper} {A : St} {i : Nat} {d : Option Tmp} {t ft ty : TypeId} {f off z id k : Nat} {x : Operand} {pos : String} {af : Array Edge} (ho : ops[i]? = some ⟨d, .fieldAddr t x f, ty, pos, af, none⟩) (hx : A.ev x = .pt id k) (h : flOf P t f = some (off, ft)) (hz : szOf P ft = some z) (hz0 : z ≠ 0) : Valid P ops A ⟨i, [], ⟨.pt id (k + off), []⟩⟩ :=
  ⟨_, ho, .inl ⟨rfl, step_fieldAddr rfl hx h hz hz0, fun p hp => by cases hp⟩⟩
theorem PA.panic {P : Program} {N : Nat} {ops : Array Oper} {Q : Exit → St → Prop} {d : Option Tmp} {x : Operand} {ty t : TypeId} {pos : String} {af : Array Edge} {g : Option (Nat × Bool)} {os : List Oper} {k : Nat} {s : List (Nat × V)} {l : List Ent} {acc : List (Nat × List Nat × List Nat)} {u : Value}
    (n : ∀ s', Q (.panic (chn (.iface t u))) ⟨s', ofl l⟩) (hg : gd ops ⟨d, .panic x, ty, pos, af, g⟩ ⟨dn N s, ofl l⟩ = some true := by rfl) (hx : St.ev ⟨dn N s, ofl l⟩ x = .im (.iface t u) := by rfl) :
    AR P ops false Q (⟨d, .panic x, ty, pos, af, g⟩ :: os) k ⟨dn N s, ofl l⟩ acc :=
  .inr (.inr (.inr ⟨hg, [], [], _, step_panicP rfl hx, (fun p hp => by cases hp), fun s' _ => n s', fun e => by cases e⟩))
theorem step_mkI2 {P : Program} {o : Oper} {ev : Operand → V} {t : TypeId} {x : Operand} {a b : Value} (ho : o.op = .makeInterface t x) (ht : ifT P t = some false) (hx : ev x = .ag [.im a, .im b]) : Step P o ev [] ⟨.im (.iface t (.agg #[a, b])), []⟩ :=
  Step.look fun C ρ _ hR _ => by
    have h1 := hR x (by simp [ho, Op.operands])
    rw [hx] at h1
    have e1 : ρ x = .agg #[a, b] := by
      generalize ρ x = v at h1; cases h1 with
      | @ag _ us hn h0 h =>
        have ha : R C (.im a) (us.getD 0 undef) := h 0 (by simp)
        have hb : R C (.im b) (us.getD 1 undef) := h 1 (by simp)
        have ea := ha.im_eq; have eb := hb.im_eq; have hn : us.size = 2 := hn
        congr 1
        apply Array.ext
        · simpa using hn
        · intro i h1 h2
          match i, h1 with
          | 0, h1 => simpa [Array.getD_eq_getD_getElem?, h1] using ea
          | 1, h1 => simpa [Array.getD_eq_getD_getElem?, h1] using eb
          | i + 2, h1 => omega
    refine ⟨.iface t (.agg #[a, b]), ?_, .im rfl⟩; unfold ifT at ht; cases hu : P.underlying t with
    | none => rw [hu] at ht; cases ht
    | some d =>
      rw [hu] at ht; simp only [execOp, ho, e1, Instr.makeInterface, run_underlying hu, Sem.run_bind, Result.andThen_ok]; cases d <;> first | rfl | (simp at ht)
theorem AR.mkI2 {P : Program} {N : Nat} {ops : Array Oper} {dr : Bool} {Q : Exit → St → Prop} {d : Option Tmp} {t : TypeId} {x : Operand} {ty : TypeId} {pos : String} {af : Array Edge} {g : Option (Nat × Bool)} {os : List Oper} {k : Nat} {s : List (Nat × V)} {l : List Ent} {acc : List (Nat × List Nat × List Nat)} {a b : Value}
    (hn : AR P ops dr Q os (k + 1) ⟨dn N (putA s d (.im (.iface t (.agg #[a, b])))), ofl l⟩ ((k, [], []) :: acc)) (ht : ifT P t = some false := by kernel_rfl) (hx : St.ev ⟨dn N s, ofl l⟩ x = .ag [.im a, .im b] := by rfl) (hg : gd ops ⟨d, .makeInterface t x, ty, pos, af, g⟩ ⟨dn N s, ofl l⟩ = some true := by rfl) :
    AR P ops dr Q (⟨d, .makeInterface t x, ty, pos, af, g⟩ :: os) k ⟨dn N s, ofl l⟩ acc := by
  refine .inr (.inl ⟨hg, [], ⟨_, []⟩, step_mkI2 rfl ht hx, (fun p hp => by cases hp), ?_⟩)
  rw [← put_dn N s (ofl l)] at hn
  exact hn
end Go.Proofs.YtmbmmckagcdapaaGreatDoor
