/- Rules more: a slice in a box is given a token of a given number; an entry of the store is forgotten. Rules more: make of a slice whose elements are single cells. Rules more: a list of elements whose block is its own. Rules more: the bytes of a constant text; an append to a slice without spare places, whose block then is its own. One rule more: bytes that lie in the token's own block become a box that may be written to. -/
import Derived.Test.YtianekkfehoedaaGreatDoorK1
import Derived.Test.YtianekkfehoedaaGreatDoorHv
import Derived.Laws.MakeOwn
import Derived.Test.YtianekkfehoedaaGreatDoorK4
import Derived.Lib.SlBytesConst
import Derived.Test.YtianekkfehoedaaGreatDoorKB
import Derived.Test.YtianekkfehoedaaGreatDoorLo
namespace Go.Proofs.YtianekkfehoedaaGreatDoor
set_option linter.unusedSimpArgs false
set_option linter.unusedVariables false
set_option linter.unnecessarySimpa false
open Go.RowKit
theorem Sim.tok {B : Option Nat} {C : Cf} {a : Act} {N : Nat} {s : List (Nat × V)} {l : List Ent} {id j k : Nat} {cs es : List V} {kk : Slk} {e : TypeId} {z : Nat} (hS : Sim B C ⟨dn N s, ofl l⟩ a)
    (hi : l[id]? = some (.box cs)) (hj : cs[j]? = some (.sl es kk)) (hkk : kk = .full ∨ kk = .nl) (hz : allS z es = true) (hfr : ofl l k = .free) : ∃ D, Sim B D ⟨dn N s, ofl (putE (l.set id (.box (cs.set j (.sl es (.own k))))) k (.tip e z es.length))⟩ a ∧ D.w = C.w ∧ Ev C D := by
  obtain ⟨hil, hi'⟩ := List.getElem?_eq_some_iff.1 hi
  obtain ⟨hjl, hj'⟩ := List.getElem?_eq_some_iff.1 hj
  have hf : C.st k = .free := by rw [hS.st]; exact hfr
  have hne : id ≠ k := fun h => by
    subst h
    rw [hS.st] at hf
    have hf : ofl l id = .free := hf
    simp [ofl, List.getD, hi] at hf
  have hE1 : Ev C (C.ghost k e z es.length) := Ev.ghost hf
  have hO1 : Ok (C.ghost k e z es.length) := hS.ok.ghost hf
  have hst1 : (C.ghost k e z es.length).st = upd (ofl l) k (.tip e z es.length) := by
    show upd C.st k (.tip e z es.length) = _
    rw [hS.st]
  have hbox : C.st id = .box cs := by rw [hS.st]; simp [ofl, List.getD, hi]
  have hset : ∀ i, ofl (putE (l.set id (.box (cs.set j (.sl es (.own k))))) k (.tip e z es.length)) i = if i = id then .box (cs.set j (.sl es (.own k))) else upd (ofl l) k (.tip e z es.length) i := fun i => by
    rw [ofl_putE]
    by_cases h : i = id
    · subst h; simp [upd, hne, ofl, List.getD, hil]
    · have h' : id ≠ i := fun q => h q.symm
      by_cases h2 : i = k
      · subst h2; simp [upd, h]
      · simp [upd, h, h2, ofl, List.getD, List.getElem?_set, h']
  have hk : Kin (C.ghost k e z es.length).st (ofl (putE (l.set id (.box (cs.set j (.sl es (.own k))))) k (.tip e z es.length))) := fun i => by
    rw [hset, hst1]
    by_cases h : i = id
    · subst h
      exact .inr ⟨cs, _, by simp [upd, hne, ofl, List.getD, hil, hi'], if_pos rfl⟩
    · exact .inl (if_neg h)
  refine ⟨(C.ghost k e z es.length).wst _, ⟨rfl, hO1.wst hk fun i ds hd => ?_, (hS.defers.mono hE1).mono (Ev.wst hk), hS.size, fun t ht => ((hS.slot t ht).mono hE1).wst hk⟩, rfl, hE1.trans (Ev.wst hk)⟩
  rw [hset] at hd
  by_cases h : i = id
  · subst h
    rw [if_pos rfl] at hd
    cases hd
    obtain ⟨g, bs, t, h1, h2, h3, h4, h5⟩ := hS.ok.box i cs hbox
    refine ⟨g, bs, t, ?_, h2, by simpa using h3, fun q hq => h4 q (by simpa using hq), fun q hq => ?_⟩
    · show (if i = k then none else C.σ i) = some g
      rw [if_neg hne]; exact h1
    · have hq' : q < cs.length := by simpa using hq
      rw [List.getElem_set]
      have h6 := h5 q hq'
      by_cases hjq : j = q
      · subst hjq
        rw [if_pos rfl]
        rw [hj'] at h6
        have h7 : ∀ x ∈ es, x.size = z := fun x hx => by simpa using List.all_eq_true.1 hz x hx
        exact (R.ghost (id := k) (e := e) (z := z) hkk hf h6 h7).wst hk
      · rw [if_neg hjq]
        exact (h6.mono hE1).wst hk
  · rw [if_neg h, ← hst1] at hd
    obtain ⟨g, bs, t, h1, h2, h3, h4, h5⟩ := hO1.box i ds hd
    exact ⟨g, bs, t, h1, h2, h3, h4, fun q hq => (h5 q hq).wst hk⟩
theorem AWp.tok {K : Option Nat → Prop} {P : Program} {st0 : Nat → Ent} {Q : Exit → St → Prop} {c : Code} {N : Nat} {s : List (Nat × V)} {l l' : List Ent} (id j k : Nat) (cs es : List V) (kk : Slk) (e : TypeId) (z : Nat)
    (h : AWpK K P st0 c Q ⟨dn N s, ofl l'⟩) (hl : putE (l.set id (.box (cs.set j (.sl es (.own k))))) k (.tip e z es.length) = l') (hi : l[id]? = some (.box cs)) (hj : cs[j]? = some (.sl es kk)) (hkk : kk = .full ∨ kk = .nl) (hz : allS z es = true) (hfr : ofl l k = .free) : AWpK K P st0 c Q ⟨dn N s, ofl l⟩ := by
  intro C0 C a ro n hK h0 hE hS
  obtain ⟨D, h1, h2, h3⟩ := hS.tok (e := e) (z := z) hi hj hkk hz hfr
  rw [hl] at h1
  have := h C0 D a ro n hK h0 (hE.trans h3) h1
  rw [h2] at this
  exact this
theorem ALp.tok {K : Option Nat → Prop} {P : Program} {st0 : Nat → Ent} {Q : Exit → St → Prop} {c : Code} {N : Nat} {s : List (Nat × V)} {l l' : List Ent} (id j k : Nat) (cs es : List V) (kk : Slk) (e : TypeId) (z : Nat)
    (h : ALp K P st0 c Q ⟨dn N s, ofl l'⟩) (hl : putE (l.set id (.box (cs.set j (.sl es (.own k))))) k (.tip e z es.length) = l') (hi : l[id]? = some (.box cs)) (hj : cs[j]? = some (.sl es kk)) (hkk : kk = .full ∨ kk = .nl) (hz : allS z es = true) (hfr : ofl l k = .free) : ALp K P st0 c Q ⟨dn N s, ofl l⟩ := by
  intro C0 C a ro n hK h0 hE hS
  obtain ⟨D, h1, h2, h3⟩ := hS.tok (e := e) (z := z) hi hj hkk hz hfr
  rw [hl] at h1
  have := h C0 D a ro n hK h0 (hE.trans h3) h1
  rw [h2] at this
  exact this
section
variable {K : Option Nat → Prop} {P : Program} {st0 : Nat → Ent} {Q : Exit → St → Prop} {c : Code} {N : Nat} {s : List (Nat × V)} {l : List Ent}
end
/-- A function that is handed boxes, and hands back new ones besides. -/
theorem DC.enterM {P : Program} {f : FuncId} {fn : Func} {c : Code} {xs : List V} {s : List (Nat × V)} {l l1 : List Ent} {r : V} (n : Nat) (l0 : List Ent) (N : Nat) (hf : P.funcs[f]? = some fn) (hb : fn.body = some c) (hn : fn.name ≠ "runtime.NumGoroutine") (hN : fn.ntmps = N) (hx : Nat.ble xs.length N = true) (hs : enum 0 xs = s)
    (h : AWp P (ofl l0) c (Fin P fn (ofl l0) fun z st => z = r ∧ st = ofl l1) ⟨dn N s, ofl l0⟩) (hl : l = l0 ++ List.replicate n .free) : DC P f xs l r l1 := by
  have := DC.enter (l0 := l0) N hf hb hn hN hx hs h
  subst hl
  unfold DC at this ⊢
  have e : ofl (l0 ++ List.replicate n .free) = ofl l0 := by
    funext i
    unfold ofl
    simp only [List.getD, List.getElem?_append, List.getElem?_replicate]
    by_cases hi : i < l0.length
    · simp [hi]
    · rw [if_neg hi, List.getElem?_eq_none (Nat.le_of_not_lt hi)]
      split <;> rfl
  rw [e]
  exact this
theorem Fin.genM {P : Program} {fn : Func} {N : Nat} {s : List (Nat × V)} {l l0 l1 : List Ent} {e : Exit} {x y : V} {rs : List ResultVar} (n : Nat) (hn : l0.length ≤ n) (hr : fn.results = rs.toArray) (he : e = .normal ∨ e = .ret) (hx : resX P rs ⟨dn N s, ofl l⟩ = some x)
    (hw : WkF (ofl l) (ltB n) x y) (hl : l.take n = l1) (hb : l1.all (entOk (ltB n)) = true) : Fin P fn (ofl l0) (fun z st => z = y ∧ st = ofl l1) e ⟨dn N s, ofl l⟩ :=
  ⟨he, x, y, ltB n, resX_sound hr hx, hw, fun i h => by have := ofl_lt h; simp only [ltB, decide_eq_true_eq]; omega, all_box (hl ▸ hb), rfl, by rw [← hl]; exact ofl_take l _⟩
/-- A nil slice in a box; a slice in a box is full. -/
theorem Wk.nlF (es : List V) : Wk (.sl es .nl) (.sl es .full) := by
  intro C v h
  cases h with
  | sl hc hm hz h hr hk => exact .sl hc hm hz h hr hk.2
end Go.Proofs.YtianekkfehoedaaGreatDoor
namespace Go.Proofs.YtianekkfehoedaaGreatDoor
set_option linter.unusedSimpArgs false
set_option linter.unusedVariables false
set_option linter.unnecessarySimpa false
open Go.RowKit
theorem step_make {P : Program} {o : Oper} {ev : Operand → V} {t e : TypeId} {x : Operand} {n b : Nat} {c : V} {kk : IntKind} (ho : o.op = .makeSlice t x x) (hx : ev x = .im (.int kk (n : Int))) (he : elOf P t = some e) (hz : szOf P e = some 1) (hal : alOf P e = some [c]) (hc1 : c.size = 1) (hb : byOf P e = some b)
    (hn : n * b ≤ 140737488355328) (hm : n ≤ 140737488355328) : Step P o ev [] ⟨.sl (List.replicate n c) .full, []⟩ := by
  intro C ρ hC hR _
  have hxv := hR x (by simp [ho, Op.operands])
  rw [hx] at hxv
  have hrx : ρ x = .int kk (n : Int) := R.im_eq hxv
  obtain ⟨zv, hzv, hrc⟩ := zero_RC (C := C) hal
  have hel := elOf_spec he
  obtain ⟨i, hi, hib⟩ : ∃ i, P.info? e = some i ∧ i.bytes = b := by
    unfold byOf at hb
    cases hq : P.info? e with
    | none => rw [hq] at hb; cases hb
    | some i => rw [hq] at hb; exact ⟨i, rfl, by simpa using hb⟩
  have his : i.size = 1 := by unfold szOf at hz; rw [hi] at hz; simpa using hz
  have hiz : i.zero = some zv := by unfold zrOf at hzv; rw [hi] at hzv; simpa using hzv
  obtain ⟨k1, k2, k3⟩ := hrc
  have hsz : zv.cells.size = 1 := by simpa using k1
  have k2 := k2 0 (by simp)
  have k3 := k3 0 (by simp)
  generalize hz0 : zv.cells.getD 0 undef = z0 at k2 k3
  have hz0' : ∀ h : 0 < zv.cells.size, zv.cells[0]'h = z0 := fun h => by rw [← hz0, Array.getD, dif_pos h]; rfl
  have hrun : (execOp ρ o).run P C.w = .ok (.value (.slice (some ⟨C.w.heap.size, 0, none⟩) n n)) (C.w.alloc (.cells (madeCells zv.cells n) e)) := by
    have hbn : (i.bytes : Int) * (n : Int) ≤ 281474976710656 := by
      have h7 : ((n * b : Nat) : Int) ≤ ((140737488355328 : Nat) : Int) := Int.ofNat_le.2 hn
      rw [Int.natCast_mul] at h7
      rw [hib, Int.mul_comm]
      exact Int.le_trans h7 (by decide)
    have := run_make (P := P) C.w t e i zv hel hi hiz kk kk (n : Int) (n : Int) (by omega) (Int.le_refl _) hbn (by omega)
    simp only [Int.toNat_natCast, his, Nat.mul_one] at this
    simp only [execOp, ho, hrx, Sem.run_bind, this, Result.andThen_ok, Sem.run_pure]
  rw [hrun]
  refine good_im hC _ e ?_
  have hcell : ∀ j, j < n → (madeCells zv.cells n)[j]? = some z0 := fun j hj => by
    unfold madeCells
    simp [hj, hsz, Nat.mod_one, hz0']
  have hlen : (List.replicate n c).length = n := List.length_replicate
  have hc0 : z0.cells = #[z0] := by cases z0 <;> first | rfl | simp [Value.oneCell'] at k2
  have hres : R (C.withW (C.w.alloc (.cells (madeCells zv.cells n) e))) (.sl (List.replicate n c) .full) (.slice (some ⟨C.w.heap.size, 0, none⟩) (List.replicate n c).length n) := by
    refine .sl (z := 1) (u := fun _ => z0) (by omega) (by unfold maxLen; omega) (fun i hi => ?_) (fun i hi => ?_) (fun i hi => ?_) (by rw [hlen]; rfl)
    · rw [List.getElem_replicate]
      exact ⟨hc1, by rw [hc0]; rfl⟩
    · rw [List.getElem_replicate]
      exact k3.mono (Ev.alloc hC _)
    · refine ⟨_, rfl, fun j q hj => ?_⟩
      rw [Addr.add_add, Addr.add_lit]
      rw [hc0] at hj
      obtain ⟨rfl, rfl⟩ : j = 0 ∧ z0 = q := by
        cases j with
        | zero => exact ⟨rfl, by simpa using hj⟩
        | succ j => simp at hj
      refine ⟨?_, Cf.fix_new hC _⟩
      show (C.w.alloc (.cells (madeCells zv.cells n) e)).cell? ⟨C.w.heap.size, 0 + (i * 1 + 0), none⟩ = some z0
      rw [World.cell?_alloc_new]
      simpa using hcell i (by omega)
  rw [hlen] at hres
  exact hres
theorem AR.make {P : Program} {N : Nat} {ops : Array Oper} {dr : Bool} {Q : St → Prop} {d : Option Tmp} {t e ty : TypeId} {x : Operand} {pos : String} {af : Array Edge} {g : Option (Nat × Bool)} {os : List Oper} {k : Nat} {s : List (Nat × V)} {l : List Ent} {n b : Nat} {c : V} {kk : IntKind} {es : List V}
    {acc : List (Nat × List Nat × List Nat)} (hg : gd ops ⟨d, .makeSlice t x x, ty, pos, af, g⟩ ⟨dn N s, ofl l⟩ = some true) (hx : St.ev ⟨dn N s, ofl l⟩ x = .im (.int kk (n : Int))) (he : elOf P t = some e) (hz : szOf P e = some 1) (hal : alOf P e = some [c]) (hc1 : c.size = 1) (hb : byOf P e = some b)
    (hn : n * b ≤ 140737488355328) (hm : n ≤ 140737488355328) (hes : List.replicate n c = es)
    (h : AR P ops dr Q os (k + 1) ⟨dn N (putA s d (.sl es .full)), ofl l⟩ ((k, [], []) :: acc)) :
    AR P ops dr Q (⟨d, .makeSlice t x x, ty, pos, af, g⟩ :: os) k ⟨dn N s, ofl l⟩ acc := by
  subst hes
  refine .inr (.inl ⟨hg, _, _, step_make rfl hx he hz hal hc1 hb hn hm, fun p hp => by simp at hp, ?_⟩)
  rw [← put_dn N s (ofl l)] at h
  exact h
end Go.Proofs.YtianekkfehoedaaGreatDoor
namespace Go.Proofs.YtianekkfehoedaaGreatDoor
set_option linter.unusedSimpArgs false
set_option linter.unusedVariables false
set_option linter.unnecessarySimpa false
open Go.RowKit Go.Lib
end Go.Proofs.YtianekkfehoedaaGreatDoor
namespace Go.Proofs.YtianekkfehoedaaGreatDoor
set_option linter.unusedSimpArgs false
set_option linter.unusedVariables false
set_option linter.unnecessarySimpa false
open Go.RowKit Go.Lib
theorem AR.appF {P : Program} {N : Nat} {ops : Array Oper} {dr : Bool} {Q : St → Prop} {d : Option Tmp} {s0 x : Operand} {t tx e e2 ty : TypeId} {pos : String} {af : Array Edge} {g : Option (Nat × Bool)} {os : List Oper} {k : Nat} {s : List (Nat × V)} {l : List Ent}
    {acc : List (Nat × List Nat × List Nat)} {es ys : List V} {kk : Slk} {z : Nat} (hg : gd ops ⟨d, .call { callee := .builtin .append, args := #[s0, x], argTypes := #[t, tx] }, ty, pos, af, g⟩ ⟨dn N s, ofl l⟩ = some true) (hs : St.ev ⟨dn N s, ofl l⟩ s0 = .sl es .full) (ht : elOf P t = some e)
    (hx : St.ev ⟨dn N s, ofl l⟩ x = .sl ys kk) (hx2 : elOf P tx = some e2) (hz : allZ z ys = true) (hes : allS z es = true) (hys : ys ≠ []) (hap : apOk P e es.length ys.length = some z)
    (hn : AR P ops dr Q os (k + 1) ⟨dn N (putA s d (.sl (es ++ ys) (.mine l.length))), ofl (wrl l [(l.length, .tip e z (es.length + ys.length))])⟩ ((k, [l.length], [l.length]) :: acc)) :
    AR P ops dr Q (⟨d, .call { callee := .builtin .append, args := #[s0, x], argTypes := #[t, tx] }, ty, pos, af, g⟩ :: os) k ⟨dn N s, ofl l⟩ acc := by
  refine .inr (.inl ⟨hg, _, _, step_append_fullK (md := true) (id := l.length) (.inl rfl) rfl hs ht hes (.inl ⟨_, _, hx, hx2, hz⟩) hap (fun _ => hys), fun p hp => ?_, ?_⟩)
  · simp only [List.mem_singleton] at hp
    subst hp
    simp [ofl, List.getD]
  · rw [ofl_wrl, ← put_dn N s (ofl l)] at hn
    exact hn
theorem AWp.bytesC {K : Option Nat → Prop} {P : Program} {st0 : Nat → Ent} {Q : Exit → St → Prop} {N : Nat} {s : List (Nat × V)} {l : List Ent} {id d0 d1 n : Nat} {t e ty0 ty1 : TypeId} {p0 p1 : String} {a0 a1 : Array Edge} {parts : Array (Nat × Operand)} {os : List Oper} {cs es : List V}
    (h : AR P ((⟨some d0, .buildSlice t n parts, ty0, p0, a0, none⟩ : Oper) :: (⟨some d1, .convert t t (.tmp d0), ty1, p1, a1, none⟩ : Oper) :: os).toArray false (Q .normal) os 2 ⟨dn N (putA (putA s (some d0) .dead) (some d1) (.sl es .full)), ofl l⟩ [])
    (he : elOf P t = some e) (hu : P.underlying e = some (.int .u8)) (hz : szOf P e = some 1) (hal : alOf P e = some cs) (hn : n * 1 ≤ 16777216) (hd : Nat.blt d0 N = true) (hp : partsOk (St.ev ⟨dn N s, ofl l⟩) 1 n 0 parts.toList = true) (hes : (parts.toList.map fun p => St.ev ⟨dn N s, ofl l⟩ p.2) = es) :
    AWpK K P st0 (.region id ((⟨some d0, .buildSlice t n parts, ty0, p0, a0, none⟩ : Oper) :: (⟨some d1, .convert t t (.tmp d0), ty1, p1, a1, none⟩ : Oper) :: os).toArray false) Q ⟨dn N s, ofl l⟩ := by
  subst hes
  intro C0 C a ro m hK h0 hE hS
  have hC := hS.ok
  refine wpIn_region ?_
  generalize hev : St.ev ⟨dn N s, ofl l⟩ = ev at hp h
  generalize hops : ((⟨some d0, .buildSlice t n parts, ty0, p0, a0, none⟩ : Oper) :: (⟨some d1, .convert t t (.tmp d0), ty1, p1, a1, none⟩ : Oper) :: os).toArray = ops at h ⊢
  have hsz : ops.size = os.length + 2 := by rw [← hops]; simp
  have hrg : List.range ops.size = 0 :: 1 :: List.range' 2 os.length := by
    rw [hsz, List.range_eq_range', show os.length + 2 = (os.length + 1) + 1 from rfl, List.range'_succ, List.range'_succ]
  rw [hrg, wpOpsIn_cons]
  have hi0 : ops[0]? = some ⟨some d0, .buildSlice t n parts, ty0, p0, a0, none⟩ := by rw [← hops]; rfl
  have hi1 : ops[1]? = some ⟨some d1, .convert t t (.tmp d0), ty1, p1, a1, none⟩ := by rw [← hops]; rfl
  obtain ⟨p1', p2, p3⟩ := partsOk_spec _ _ hp
  simp only [Nat.zero_add] at p1'
  have hop : ∀ p ∈ parts.toList, R C (ev p.2) (a.eval p.2) := fun p _ => hev ▸ hS.ev p.2
  obtain ⟨zv, hzv, hrc⟩ := zero_RC (C := C) hal
  have hel := elOf_spec he
  generalize hzs : ((Array.range (n * 1)).map fun i => zv.cells[i % zv.cells.size]!) = zs
  have hzsz : zs.size = n * 1 := by rw [← hzs]; simp
  have hlen : (parts.toList.map fun p => a.eval p.2).length = n := by simpa using p1'
  obtain ⟨bs, k1, k2, _, k4⟩ := fill_slice (z := 1) (parts.toList.map fun p => a.eval p.2) 0 zs (fun v hv => by
    obtain ⟨p, hp, rfl⟩ := List.mem_map.1 hv
    exact ((hop p hp).live (p3 p hp).1).1.trans (p3 p hp).2) (by rw [hlen, hzsz]; simp)
  have hmp : (parts.map fun (i, x) => (i, a.eval x)).toList = (List.range' 0 (parts.toList.map fun p => a.eval p.2).length).zip (parts.toList.map fun p => a.eval p.2) := by
    have e2 : (parts.map fun (i, x) => (i, a.eval x)).toList = parts.toList.map fun p => (p.1, a.eval p.2) := by simp
    rw [e2, List.length_map, ← p2]
    rw [List.zip_map']
  have hzs' : ((Array.range (n * 1)).map fun i => (if n * 1 = 0 then #[] else zv.cells)[i % (if n * 1 = 0 then #[] else zv.cells).size]!) = zs := by
    rw [← hzs]
    by_cases h0 : n = 0
    · simp [h0]
    · simp [h0]
  have hlt : ¬ n * 1 > 2 ^ 24 := by omega
  have hrun : (execOp a.eval ⟨some d0, .buildSlice t n parts, ty0, p0, a0, none⟩).run P C.w = .ok (.value (.slice (some ⟨C.w.heap.size, 0, none⟩) n n)) (C.w.alloc (.cells bs e)) := by
    simp only [execOp, Instr.buildSlice, Sem.run_bind, run_underlying hel, Result.andThen_ok, run_sizeOf hz, hlt, if_false, Sem.run_pure, hmp]
    by_cases h0 : n * 1 = 0
    · simp only [h0, if_true] at hzs'
      simp only [h0, if_true, Sem.run_bind, Sem.run_pure, Result.andThen_ok, hzs', k1]
      rfl
    · simp only [h0, if_false] at hzs'
      simp only [h0, if_false, Sem.run_bind, Sem.run_pure, Result.andThen_ok, run_zeroValue hzv, hzs', k1]
      rfl
  refine raw_op hi0 rfl (fun c hc => by cases hc) hrun ?_
  rw [wpOpsIn_cons]
  have hd0 : d0 < a.tmps.size := by rw [hS.size]; simpa [dn_length] using hd
  have hev2 : (a.put (some d0) (.slice (some ⟨C.w.heap.size, 0, none⟩) n n)).eval (.tmp d0) = .slice (some ⟨C.w.heap.size, 0, none⟩) n n := by
    simp [Act.eval, Act.put, hd0]
  have hrun2 : (execOp (a.put (some d0) (.slice (some ⟨C.w.heap.size, 0, none⟩) n n)).eval ⟨some d1, .convert t t (.tmp d0), ty1, p1, a1, none⟩).run P (C.w.alloc (.cells bs e)) = .ok (.value (.slice (some ⟨C.w.heap.size, 0, none⟩) n n)) (C.w.alloc (.cells bs e (bs.size, bs.size + 1))) := by
    simp only [execOp, hev2, Sem.run_bind, run_convert_bytes_const C.w t e bs n n hel hu, Result.andThen_ok, Sem.run_pure]
  refine raw_op hi1 rfl (fun c hc => by cases hc) hrun2 ?_
  have hel2 : (parts.toList.map fun p => ev p.2).length = n := by simpa using p1'
  have hres : R (C.withW (C.w.alloc (.cells bs e (bs.size, bs.size + 1)))) (.sl (parts.toList.map fun p => ev p.2) .full) (.slice (some ⟨C.w.heap.size, 0, none⟩) (parts.toList.map fun p => ev p.2).length n) := by
    refine .sl (z := 1) (u := fun i => (parts.toList.map fun p => a.eval p.2).getD i undef) (by omega) (by unfold maxLen; omega) (fun i hi => ?_) (fun i hi => ?_) (fun i hi => ?_) (by rw [hel2]; rfl)
    · have hi' : i < parts.toList.length := by simpa using hi
      have hm := List.getElem_mem hi'
      have e2 : (parts.toList.map fun p => a.eval p.2).getD i undef = a.eval (parts.toList[i]).2 := by
        have : i < parts.size := by simpa using hi'
        simp [List.getD, this]
      rw [e2]
      simp only [List.getElem_map]
      exact ⟨(p3 _ hm).2, ((hop _ hm).live (p3 _ hm).1).1.trans (p3 _ hm).2⟩
    · have hi' : i < parts.toList.length := by simpa using hi
      have hm := List.getElem_mem hi'
      have e2 : (parts.toList.map fun p => a.eval p.2).getD i undef = a.eval (parts.toList[i]).2 := by
        have : i < parts.size := by simpa using hi'
        simp [List.getD, this]
      rw [e2]
      simp only [List.getElem_map]
      exact (hop _ hm).mono (Ev.alloc hC _)
    · have hi' : i < (parts.toList.map fun p => a.eval p.2).length := by simpa using hi
      refine ⟨_, rfl, fun j c hj => ?_⟩
      rw [Addr.add_add, Addr.add_lit]
      refine ⟨?_, ?_⟩
      · have e2 : (parts.toList.map fun p => a.eval p.2).getD i undef = (parts.toList.map fun p => a.eval p.2)[i] := by simp only [List.getD, List.getElem?_eq_getElem hi', Option.getD_some]
        rw [e2] at hj
        have hjz : j < 1 := by
          have hm : (parts.toList.map fun p => a.eval p.2)[i] ∈ parts.toList.map fun p => a.eval p.2 := List.getElem_mem hi'
          obtain ⟨p, hp, hpe⟩ := List.mem_map.1 hm
          have h6 : (parts.toList.map fun p => a.eval p.2)[i].cells.size = 1 := by rw [← hpe]; exact ((hop p hp).live (p3 p hp).1).1.trans (p3 p hp).2
          have := (Array.getElem?_eq_some_iff.1 hj).1
          omega
        have := k4 i hi' j hjz
        rw [hj] at this
        have hnew : (C.w.alloc (.cells bs e (bs.size, bs.size + 1))).heap[C.w.heap.size]? = some (.cells bs e (bs.size, bs.size + 1)) := heap_alloc_new _ _
        show (C.w.alloc (.cells bs e (bs.size, bs.size + 1))).cell? ⟨C.w.heap.size, 0 + (i * 1 + j), none⟩ = some c
        simp only [World.cell?, hnew]
        simpa using this
      · exact Cf.fix_new hC _
  rw [hel2] at hres
  generalize hv : Value.slice (some ⟨C.w.heap.size, 0, none⟩) n n = v at hres
  have key : ∀ D : Cf, Ev C D → Ok D → D.st = ofl l → R D (.sl (parts.toList.map fun p => ev p.2) .full) v → wpOpsIn (FR ro) m P ops (fun e a' w' => ∃ A' D, Q e A' ∧ Sim (bnd ro C0.w) D A' a' ∧ D.w = w' ∧ Ev C0 D) (List.range' 2 os.length) ((a.put (some d0) v).put (some d1) v) D.w := by
    intro D hE1 hO1 hst1 hR1
    have s1 := hS.put (d := some d0) (v := .dead) (u := v) hE1 hO1 hst1 .dead
    have s2 := Sim.put (d := some d1) (v := .sl (parts.toList.map fun p => ev p.2) .full) (u := v) s1 (Ev.refl D) hO1 hst1 hR1
    rw [put_dn, put_dn] at s2
    obtain ⟨L, F, h1, h2, _, h3⟩ := AR.run os 2 _ [] (fun j => by rw [← hops, Nat.add_comm 2 j]; simp) h
    have := Run.seq (ro := ro) (m := m) (Q := fun e a' w' => ∃ A' D, Q e A' ∧ Sim (bnd ro C0.w) D A' a' ∧ D.w = w' ∧ Ev C0 D) L _ D _ h1 s2 (fun D' a' h4 h5 => ⟨F, D', h3, h4, rfl, (hE.trans hE1).trans h5⟩)
    rwa [h2] at this
  subst hv
  exact key _ (Ev.alloc hC _) (hC.alloc _) hS.st hres
end Go.Proofs.YtianekkfehoedaaGreatDoor
namespace Go.Proofs.YtianekkfehoedaaGreatDoor
set_option linter.unusedSimpArgs false
set_option linter.unusedVariables false
set_option linter.unnecessarySimpa false
open Go.RowKit
end Go.Proofs.YtianekkfehoedaaGreatDoor
